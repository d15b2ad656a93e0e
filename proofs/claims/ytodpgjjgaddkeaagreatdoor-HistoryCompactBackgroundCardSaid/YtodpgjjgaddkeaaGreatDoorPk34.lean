/- Edits, encoded in general. Decoding an edit. -/
import Derived.Test.YtodpgjjgaddkeaaGreatDoorPk33
set_option maxHeartbeats 3200000
set_option maxRecDepth 100000
set_option linter.unusedVariables false
set_option linter.unusedSimpArgs false
namespace Go.Proofs.YtodpgjjgaddkeaaGreatDoor
open _root_.Go.Proofs.Tryz
section
open Go.RowKit En Go.Sx
variable{α:Type}{K:Nat}
variable{e:aP}{w:World}
theorem CV(c d:bD)(w:World):(binOp .neq 40 (.agg c.cells.toArray) (.agg d.cells.toArray)).run prog w = .ok (.bool (!decide (c=d))) w:=by
 rw[<-Ox]; exact aiu ..
def jk(e:bF):Bool:=(e.kind==1)||(e.kind==4)
def fF(e:bF):Bool:=
 if e.kind=1 then ((((((e.id) != 0)||false)||((e.depth) != 0))||(!decide (e.color=⟨0,0,0,0⟩)))||(!(decide (bM.key=bM.key))))
 else if e.kind=4 then ((((((e.id) != 0)||((e.index) != 0))||((e.depth) != 0))||(!decide (e.color=⟨0,0,0,0⟩)))||(!(decide (bM.key=bM.key))))
 else if e.kind=3 then ((!decide (e.color=⟨0,0,0,0⟩))||(!(decide (e.node=bM.key))))
 else if e.kind=2 then (((((e.index) != 0)||((e.depth) != 0))||(!decide (e.color=⟨0,0,0,0⟩)))||(!(decide (e.node=bM.key))))
 else if e.kind=5 then ((((((e.id) != 0)||((e.index) != 0))||((e.depth) != 0))||(!decide ((⟨0,0,0,0⟩:bD)=⟨0,0,0,0⟩)))||(!(decide (e.node=bM.key))))
 else true
def Um(base:Nat)(w:World)(e:bF)(v:Value)(er:Int):Prop:=(fF e=true∧v = .sn∧er=2)∨(fF e=false∧jk e=true∧¬e.node.chk=0∧v = .sn∧er=17) ∨
 (fF e=false∧(jk e=true->e.node.chk=0)∧OwnB base w v (fP.app (kD e))∧er=0)
theorem XH(h:iy K w e) :
  Calls prog 57 #[e.v] w λr w'=>r = .returned (.tuple #[.bool (jk e.key),.bool (fF e.key)])∧Ext w w':=by
 have hK:=h.2.2.2.2.2.2.2.2;refine azp func57 ntmps57 λS=>azo S λu b2 E3 hb4 S=>adr S 3 [] [.mem 0 0] λS=>azo S λu b6 E7 hb8 S=>azq S 0 I λu C9 S=>adr S 4 [] [.mem 1 0] λS=>azm S ((e.kind)==1) (λhc13 S=>?_) (λhc13 S=>?_)
 .refine azv S 0 I λu C14 S=>azq S 0 I λu C15 S=>aAQ S 27 [.mem 0 1,.mem 0 2,.mem 0 3,.mem 0 51,.cmp .neq 40 (.tmp 45) (.tmp 46) (.agg #[.u (e.color.r.toNat:Int),.u (e.color.g.toNat:Int),.u (e.color.b.toNat:Int),.u (e.color.a.toNat:Int)]) (.agg #[.u 0,.u 0,.u 0,.u 0]) (.bool (!decide (e.color=⟨0,0,0,0⟩))),.mem 0 4] [(_,_,(!(((((e.id) != 0)||false)||((e.depth) != 0))||(!decide (e.color=⟨0,0,0,0⟩)))),.bool (bM.key=bM.key))] [(5,.bool ((((((e.id) != 0)||false)||((e.depth) != 0))||(!decide (e.color=⟨0,0,0,0⟩)))||(!(decide (bM.key=bM.key)))))] ⟨λu hC g=>yw (a:=bM) (b:=bM) (gJ u hK.1 hK.2) (gJ u hK.1 hK.2),G⟩ (λu yZ S=>?_) (hk:=⟨(aAP (λ_=>CV e.color ⟨0,0,0,0⟩ _) X),G⟩);have hm:fF e.key=((((((e.id) != 0)||false)||((e.depth) != 0))||(!decide (e.color=⟨0,0,0,0⟩)))||(!(decide (bM.key=bM.key)))):=by unfold fF; rw[azQ (show e.key.kind=1 from(by have:=hc13; simpa using this:e.kind=1))]; try rfl
  refine adr S 11 [] [.mem 1 0,.mem 1 0] λS=>Qo S (.bool (((e.kind)==1)||((e.kind)==4))) (.bool ((((((e.id) != 0)||false)||((e.depth) != 0))||(!decide (e.color=⟨0,0,0,0⟩)))||(!(decide (bM.key=bM.key))))) (λS=>?_);exact⟨by rw[hm]; rfl,S.E⟩
 refine azm S ((e.kind)==4) (λqx S=>?_) (λqx S=>?_)
 .refine azq S 0 I (λu C21 S=>?_);have S:=S.fl;refine aAQ S 27 [.mem 0 1,.mem 0 2,.mem 0 3,.mem 0 51,.cmp .neq 40 (.tmp 45) (.tmp 46) (.agg #[.u (e.color.r.toNat:Int),.u (e.color.g.toNat:Int),.u (e.color.b.toNat:Int),.u (e.color.a.toNat:Int)]) (.agg #[.u 0,.u 0,.u 0,.u 0]) (.bool (!decide (e.color=⟨0,0,0,0⟩))),.mem 0 4] [(_,_,(!(((((e.id) != 0)||((e.index) != 0))||((e.depth) != 0))||(!decide (e.color=⟨0,0,0,0⟩)))),.bool (bM.key=bM.key))] [(5,.bool ((((((e.id) != 0)||((e.index) != 0))||((e.depth) != 0))||(!decide (e.color=⟨0,0,0,0⟩)))||(!(decide (bM.key=bM.key)))))] ⟨λu hC g=>yw (a:=bM) (b:=bM) (gJ u hK.1 hK.2) (gJ u hK.1 hK.2),G⟩ (λu E23 S=>?_) (hk:=⟨(aAP (λ_=>CV e.color ⟨0,0,0,0⟩ _) X),G⟩);have hm:fF e.key=((((((e.id) != 0)||((e.index) != 0))||((e.depth) != 0))||(!decide (e.color=⟨0,0,0,0⟩)))||(!(decide (bM.key=bM.key)))):=by unfold fF; rw[azP (show ¬e.key.kind=1 from(by have:=hc13; simpa using this:¬e.kind=1)),azQ (show e.key.kind=4 from(by have:=qx; simpa using this:e.kind=4))]; try rfl
  refine adr S 11 [] [.mem 1 0,.mem 1 0] λS=>Qo S (.bool (((e.kind)==1)||((e.kind)==4))) (.bool ((((((e.id) != 0)||((e.index) != 0))||((e.depth) != 0))||(!decide (e.color=⟨0,0,0,0⟩)))||(!(decide (bM.key=bM.key))))) (λS=>?_);exact⟨by rw[hm]; rfl,S.E⟩
 refine azm S ((e.kind)==3) (λKO S=>?_) (λKO S=>?_)
 .refine azv S 0 I λu C27 S=>azv S 0 I λu EU S=>azv S 0 I λu C29 S=>aAQ S 27 [.mem 0 1,.mem 0 2,.mem 0 3,.mem 0 51,.cmp .neq 40 (.tmp 45) (.tmp 46) (.agg #[.u (e.color.r.toNat:Int),.u (e.color.g.toNat:Int),.u (e.color.b.toNat:Int),.u (e.color.a.toNat:Int)]) (.agg #[.u 0,.u 0,.u 0,.u 0]) (.bool (!decide (e.color=⟨0,0,0,0⟩))),.mem 0 4] [(_,_,(!(!decide (e.color=⟨0,0,0,0⟩))),.bool (e.node.key=bM.key))] [(5,.bool ((!decide (e.color=⟨0,0,0,0⟩))||(!(decide (e.node.key=bM.key)))))] ⟨λu hC g=>yw (a:=e.node) (b:=bM) (h.2.2.2.2.below (K00 S.E hC)) (gJ u hK.1 hK.2),G⟩ (λu Df S=>?_) (hk:=⟨(aAP (λ_=>CV e.color ⟨0,0,0,0⟩ _) X),G⟩);have hm:fF e.key=((!decide (e.color=⟨0,0,0,0⟩))||(!(decide (e.node.key=bM.key)))):=by unfold fF; rw[azP (show ¬e.key.kind=1 from(by have:=hc13; simpa using this:¬e.kind=1)),azP (show ¬e.key.kind=4 from(by have:=qx; simpa using this:¬e.kind=4)),azQ (show e.key.kind=3 from(by have:=KO; simpa using this:e.kind=3))]; try rfl
  refine adr S 11 [] [.mem 1 0,.mem 1 0] λS=>Qo S (.bool (((e.kind)==1)||((e.kind)==4))) (.bool ((!decide (e.color=⟨0,0,0,0⟩))||(!(decide (e.node.key=bM.key))))) (λS=>?_);exact⟨by rw[hm]; rfl,S.E⟩
 refine azm S ((e.kind)==2) (λhc34 S=>?_) (λhc34 S=>?_)
 .refine azv S 0 I (λu C35 S=>?_);have S:=S.fl;refine aAQ S 27 [.mem 0 1,.mem 0 2,.mem 0 3,.mem 0 51,.cmp .neq 40 (.tmp 45) (.tmp 46) (.agg #[.u (e.color.r.toNat:Int),.u (e.color.g.toNat:Int),.u (e.color.b.toNat:Int),.u (e.color.a.toNat:Int)]) (.agg #[.u 0,.u 0,.u 0,.u 0]) (.bool (!decide (e.color=⟨0,0,0,0⟩))),.mem 0 4] [(_,_,(!((((e.index) != 0)||((e.depth) != 0))||(!decide (e.color=⟨0,0,0,0⟩)))),.bool (e.node.key=bM.key))] [(5,.bool (((((e.index) != 0)||((e.depth) != 0))||(!decide (e.color=⟨0,0,0,0⟩)))||(!(decide (e.node.key=bM.key)))))] ⟨λu hC g=>yw (a:=e.node) (b:=bM) (h.2.2.2.2.below (K00 S.E hC)) (gJ u hK.1 hK.2),G⟩ (λu EX S=>?_) (hk:=⟨(aAP (λ_=>CV e.color ⟨0,0,0,0⟩ _) X),G⟩);have hm:fF e.key=(((((e.index) != 0)||((e.depth) != 0))||(!decide (e.color=⟨0,0,0,0⟩)))||(!(decide (e.node.key=bM.key)))):=by unfold fF; rw[azP (show ¬e.key.kind=1 from(by have:=hc13; simpa using this:¬e.kind=1)),azP (show ¬e.key.kind=4 from(by have:=qx; simpa using this:¬e.kind=4)),azP (show ¬e.key.kind=3 from(by have:=KO; simpa using this:¬e.kind=3)),azQ (show e.key.kind=2 from(by have:=hc34; simpa using this:e.kind=2))]; try rfl
  refine adr S 11 [] [.mem 1 0,.mem 1 0] λS=>Qo S (.bool (((e.kind)==1)||((e.kind)==4))) (.bool (((((e.index) != 0)||((e.depth) != 0))||(!decide (e.color=⟨0,0,0,0⟩)))||(!(decide (e.node.key=bM.key))))) (λS=>?_);exact⟨by rw[hm]; rfl,S.E⟩
 refine azm S ((e.kind)==5) (λV6 S=>?_) (λV6 S=>?_)
 .refine azq S 0 I λu C41 S=>aAQ S 27 [.mem 0 1,.mem 0 2,.mem 0 3,.mem 0 51,.cmp .neq 40 (.tmp 45) (.tmp 46) (.agg #[.u 0,.u 0,.u 0,.u 0]) (.agg #[.u 0,.u 0,.u 0,.u 0]) (.bool (!decide ((⟨0,0,0,0⟩:bD)=⟨0,0,0,0⟩))),.mem 0 4] [(_,_,(!(((((e.id) != 0)||((e.index) != 0))||((e.depth) != 0))||(!decide ((⟨0,0,0,0⟩:bD)=⟨0,0,0,0⟩)))),.bool (e.node.key=bM.key))] [(5,.bool ((((((e.id) != 0)||((e.index) != 0))||((e.depth) != 0))||(!decide ((⟨0,0,0,0⟩:bD)=⟨0,0,0,0⟩)))||(!(decide (e.node.key=bM.key)))))] ⟨λu hC g=>yw (a:=e.node) (b:=bM) (h.2.2.2.2.below (K00 S.E hC)) (gJ u hK.1 hK.2),G⟩ (λu E43 S=>?_) (hk:=⟨(aAP (λ_=>CV ⟨0,0,0,0⟩ ⟨0,0,0,0⟩ _) X),G⟩);have hm:fF e.key=((((((e.id) != 0)||((e.index) != 0))||((e.depth) != 0))||(!decide ((⟨0,0,0,0⟩:bD)=⟨0,0,0,0⟩)))||(!(decide (e.node.key=bM.key)))):=by unfold fF; rw[azP (show ¬e.key.kind=1 from(by have:=hc13; simpa using this:¬e.kind=1)),azP (show ¬e.key.kind=4 from(by have:=qx; simpa using this:¬e.kind=4)),azP (show ¬e.key.kind=3 from(by have:=KO; simpa using this:¬e.kind=3)),azP (show ¬e.key.kind=2 from(by have:=hc34; simpa using this:¬e.kind=2)),azQ (show e.key.kind=5 from(by have:=V6; simpa using this:e.kind=5))]; try rfl
  refine adr S 11 [] [.mem 1 0,.mem 1 0] λS=>Qo S (.bool (((e.kind)==1)||((e.kind)==4))) (.bool ((((((e.id) != 0)||((e.index) != 0))||((e.depth) != 0))||(!decide ((⟨0,0,0,0⟩:bD)=⟨0,0,0,0⟩)))||(!(decide (e.node.key=bM.key))))) (λS=>?_);exact⟨by rw[hm]; rfl,S.E⟩
 have hm:fF e.key=true:=by unfold fF; rw[azP (show ¬e.key.kind=1 from(by have:=hc13; simpa using this:¬e.kind=1)),azP (show ¬e.key.kind=4 from(by have:=qx; simpa using this:¬e.kind=4)),azP (show ¬e.key.kind=3 from(by have:=KO; simpa using this:¬e.kind=3)),azP (show ¬e.key.kind=2 from(by have:=hc34; simpa using this:¬e.kind=2)),azP (show ¬e.key.kind=5 from(by have:=V6; simpa using this:¬e.kind=5))]
 have hh:jk e.key=false:=by unfold jk; show((e.kind==1)||(e.kind==4))=false; simp; exact⟨by have:=hc13; simpa using this,by have:=qx; simpa using this⟩
 refine Qo S (.z) (.bool true) (λS=>?_);exact⟨by rw[hm,hh],S.E⟩
theorem afb{pk:Bool}(h:iy K w e)(hl:e.kind=1∨e.kind=4->e.node.Lim)(hB0:(Fh pk e.key).length<=1000000000) :
  Calls prog 59 #[.agg #[.bool pk],e.v] w λr w'=>∃v,r = .returned v∧OwnB w.heap.size w' v (Fh pk e.key)∧Ext w w':=by
 skip;refine azp func59 ntmps59 λS=>azs S [.bool pk] λu b2 E3 hb4 S=>azs S e.cells λu b5 E6 hb7 S=>adr S 9 [] [.mem 0 0,.mem 0 1,.mem 0 2,.mem 0 3] λS=>azs S [.i e.kind,.i e.id,.i e.index,.i e.depth] (λu b9 Qj ac5 S=>?_);have hb0:=(S.bx 0).1;have hb1:=(S.bx 1).1;have hb2:=(S.bx 2).1;have S0:=S.E.size;refine azH S (iR (L:=[e.kind,e.id,e.index,e.depth]) (lD (f:=λx:Int => .i x) [e.kind,e.id,e.index,e.depth] (S.bx 0) (by simp[maxLen])) (qV.all (L:=[e.kind,e.id,e.index,e.depth]) ⟨h.1,h.2.1,h.2.2.1,h.2.2.2.1,G⟩) Y) (λv12 u auQ yV S=>?_);have S:=S.gW 1;have S:=S.lZ;have R:=kM (aAy S) auQ (λp hp=>by rcases az2.1 hp with rfl | hp; (exact hb1); rcases az2.1 hp with rfl | hp; (exact hb2); cases hp) S0;refine adr S 5 [] [.mem 0 0] λS=>azm S ((e.kind)==1) (λhc19 S=>?_) (λhc19 S=>?_)
 .refine azm S ((e.kind)==1) (λqx S=>?_) (λqx S=>?_)
  .have hk:e.kind=1∨e.kind=4:=(.inl (by have:=hc19; simpa using this));have hE0:Fh pk e.key=dX [e.kind,e.id,e.index,e.depth]++eP pk e.node.key:=by unfold Fh; rw[azQ (show e.key.kind=1∨e.key.kind=4 from hk)]; rfl
   have hB:(dX [e.kind,e.id,e.index,e.depth]++eP pk e.node.key).length<=1000000000:=hE0▸hB0;refine adr S 4 [] [.mem 1 0,.mem 0 4] λS=>azH S (AV (pk:=pk) (h.2.2.2.2.below S.E) (hl hk).akI (by simp only[azU]at hB; omega)) (λv9 u ho9 Qm S=>?_);obtain⟨R,Y23⟩:=R.bQ S (aAg Qm);refine azw S λS=>azK S R 26 (eP pk e.node.key) (jH (ho9)) (by simp only[azU]at hB |-; omega) λac u v24 X25 R S=>azF S λS=>apB S v24 (λS=>?_);exact⟨_,I,qL (R.own _ az5) hE0.symm,S.E⟩
  rw[hc19]at qx; cases qx
 refine azm S ((e.kind)==4) (λKO S=>?_) (λKO S=>?_)
 .have hk:e.kind=1∨e.kind=4:=(.inr (by have:=KO; simpa using this));have hE0:Fh pk e.key=dX [e.kind,e.id,e.index,e.depth]++eP pk e.node.key:=by unfold Fh; rw[azQ (show e.key.kind=1∨e.key.kind=4 from hk)]; rfl
  have hB:(dX [e.kind,e.id,e.index,e.depth]++eP pk e.node.key).length<=1000000000:=hE0▸hB0;refine adr S 4 [] [.mem 1 0,.mem 0 4] λS=>azH S (AV (pk:=pk) (h.2.2.2.2.below S.E) (hl hk).akI (by simp only[azU]at hB; omega)) (λv9 u ho9 E28 S=>?_);obtain⟨R,Y29⟩:=R.bQ S (aAg E28);refine azw S λS=>azK S R 26 (eP pk e.node.key) (jH (ho9)) (by simp only[azU]at hB |-; omega) λac u v30 X31 R S=>azF S λS=>apB S v30 (λS=>?_);exact⟨_,I,qL (R.own _ az5) hE0.symm,S.E⟩
 refine azm S ((e.kind)==5) (λUn S=>?_) (λUn S=>?_)
 .have hE0:Fh pk e.key=dX [e.kind,e.id,e.index,e.depth]++Px.pb e.color:=by unfold Fh; rw[azP (show ¬(e.key.kind=1∨e.key.kind=4)from λhh=>by have h1:=hc19; have h4:=KO; simp at h1 h4; exact hh.elim h1 h4),azQ (show e.key.kind=5 from(by have:=Un; simpa using this:e.kind=5))]; rfl
  have hB:(dX [e.kind,e.id,e.index,e.depth]++Px.pb e.color).length<=1000000000:=hE0▸hB0;refine adr S 3 [] [.mem 0 51] λS=>azH S (uV (p:=e.color)) (λv9 u ho9 J4 S=>?_);obtain⟨R,Y36⟩:=R.bQ S (aAg J4);refine azw S λS=>azK S R 33 (Px.pb e.color) (jH (ho9)) (by simp only[azU]at hB |-; omega) λac u v37 X38 R S=>azF S λS=>apB S v37 (λS=>?_);exact⟨_,I,qL (R.own _ az5) hE0.symm,S.E⟩
 have hE0:Fh pk e.key=dX [e.kind,e.id,e.index,e.depth]:=by unfold Fh; rw[azP (show ¬(e.key.kind=1∨e.key.kind=4)from λhh=>by have h1:=hc19; have h4:=KO; simp at h1 h4; exact hh.elim h1 h4),azP (show ¬e.key.kind=5 from(by have:=Un; simpa using this:¬e.kind=5)),aAW]; rfl
 refine apB S v12 (λS=>?_);exact⟨_,I,qL (R.own _ az5) hE0.symm,S.E⟩
theorem Zf(h:e.kind=1∨e.kind=4->e.node.checkN=0):(Fh false e.key).length<=9000000:=by
 unfold Fh;have h1:=iJ [e.key.kind,e.key.id,e.key.index,e.key.depth];simp only[aAx,aA3]at h1;rw[azU];split
 .rename_i hk;have:=Tj (pk:=false) (tN (h hk));have e0:e.key.node=e.node.key:=I;rw[e0]; omega
 split
 .simp[Px.pb]; omega
 simp; omega
theorem xE(h:iy K w e)(hg:dw w) :
  Calls prog 31 #[e.v] w λr w'=>∃v er,r = .returned (.tuple #[v,.i er])∧Um w.heap.size w' e.key v er∧Ext w w':=by
 skip;refine azX func31 ntmps31 λac S=>azn λ_ gQ=>qO S 1 e.cells λac u b2 E3 hb4 S=>azk S 2 [] [(2,.sn),(3,.i 0)] λS=>azl<|gQ _ _<|azn λ_ BN=>azk S 1 [.mem 0 0] [(7,e.v)] λS=>BO S 8 (XH (h.below S.E)) λac u E6 S=>azk S 5 [] [(4,.bool (jk e.key)),(5,.bool (fF e.key))] λS=>azl<|BN _ _<|az8 λ_ VH=>azn λ_ κ8=>azk S 1 [] [(11,.bool (fF e.key))] λS=>azl (κ8 _ _ ?_);refine azM S (λJL=>?_) (λJL=>?_)
 .refine azn λ_ Ah=>azk S 2 [] [(2,.sn),(3,.i 2)] λS=>azl<|Ah _ _<|rt2 S results31 ?_;exact⟨_,_,I,.inl ⟨by have:=JL; simpa using this,I,I⟩,S.E⟩
 refine aAs<|VH _ _<|az8 λ_ OT=>azn λ_ Rz=>adw S 7 [.mem 0 4] [(_,_,(jk e.key),.bool (e.node.checkN==0))] [(18,.bool ((jk e.key)&&(!(e.node.checkN==0))))] ⟨λu hC g=>Kq (h.2.2.2.2.below (K00 S.E hC)) (dw.below hg (K00 S.E hC)),G⟩ λac u Dj S=>azl (Rz _ _ ?_);refine azM S (λug=>?_) (λug=>?_)
 .refine azn λ_ Ib=>azk S 2 [] [(2,.sn),(3,.i 17)] λS=>azl<|Ib _ _<|rt2 S results31 ?_;exact⟨_,_,I,.inr (.inl ⟨by have:=JL; simpa using this,by have:=ug; simp at this; exact this.1,by have:=ug; simp at this; rw[show e.key.node=e.node.key from rfl,lG]; exact this.2,I,I⟩),S.E⟩
 refine aAs<|OT _ _<|azn (λ_ Ai=>?_);have hm:fF e.key=false:=by have:=JL; simpa using this
 have hv:jk e.key=true->e.node.checkN=0:=λhh=>by have:=ug; simp[hh]at this; exact this
 have hbd:(Fh false e.key).length<=9000000:=Zf λhk=>hv (by unfold jk; show((e.kind==1)||(e.kind==4))=true; simpa using hk);have R:=aAy S;refine Sx.lit S 19 20 3 [.u 71,.u 69,.u 49] 53 5 underlying53 underlying5 λ{ac u b19} yZ NC S=>azk S 2 [.mem 0 0] [(21,.agg #[.z]),(22,e.v)] λS=>jL S (some 23) (afb (pk:=false) (h.below S.E) (λhk=>tN (hv (by unfold jk; show((e.kind==1)||(e.kind==4))=true; simpa using hk))) Z) ?_;rintro e u ⟨v23,rfl,aly,yN⟩;refine⟨_,I,yN,λac S=>?_⟩;have hvn:0<(Fh false e.key).length:=by unfold Fh dX; rw[aA0,aAb,azU]; have h1:0<(En.dW 10 (En.zig e.kind)).length:=En.BP 9 _; exact Nat.add_pos_left h1 _
 obtain⟨R,Y21⟩:=R.bQ S (aAc (aAg yZ) (aAg yN));refine ap6 S R 24 zQ ((dQ.below NC yN)) (jH (aly)) Z Z (by simp[maxLen]<;>omega) Z (λac u v22 E23 JZ R S=>?_);have R:=R.as (show [(⟨5,1,v22,3+(Fh false e.key).length,[.u 71,.u 69,.u 49]++(Fh false e.key).map fZ⟩:Sx.Row)]=[Sx.bR v22 (kD e.key)] by unfold Sx.bR kD; rw[azU,aAL]; rfl);have hout:OwnB w.heap.size u v22 (kD e.key):=R.own _ az5;have S0:=S.E.size;refine jL S (some 25) (xq _ (kD e.key) _ (uU hout) (by unfold kD; simp only[azU,aAx,aA3]; omega)) ?_;rintro e u ⟨v30,rfl,alE,FH⟩;refine⟨_,I,FH,λac S=>?_⟩;refine azk S 2 [] [(2,v30),(3,.i 0)] λS=>azl<|Ai _ _<|rt2 S results31 ?_;exact⟨_,_,I,.inr (.inr ⟨hm,λhh=>by rw[show e.key.node=e.node.key from rfl,lG]; exact hv hh,bC (alE) S0,I⟩),S.E⟩
structure MW (e:bF):Prop where
  i:I64 e.kind∧I64 e.id∧I64 e.index∧I64 e.depth
  node:e.kind=1∨e.kind=4->e.node.Ok
  Zg:¬(e.kind=1∨e.kind=4)->e.node=bM.key
  color:¬e.kind=5->e.color=⟨0,0,0,0⟩
def AX(e:bF):List UInt8:=if e.kind=1∨e.kind=4 then eP false e.node else if e.kind=5 then Px.pb e.color else []
theorem Jp(e:bF):Fh false e=iB e.kind++(iB e.id++(iB e.index++(iB e.depth++AX e))):=by
 unfold Fh AX; simp only[lH,aAb]; rfl
section
variable{l:List UInt8}{p p1 p2 p3 p4 p5:Nat}{bad b1 b2 b3 b4 b5:Bool}{kd id ix dp:Int}{n:aQ}{q:bD}
def Zh(l:List UInt8)(p:Nat)(bad:Bool)(p4:Nat)(b4:Bool)(kd id ix dp:Int):Prop:=∀y r,MW y->bad=false->l.drop p=Fh false y++r->kd=y.kind∧id=y.id∧ix=y.index∧dp=y.depth∧b4=false∧l.drop p4=AX y++r
theorem ahH(h1:Got iB I64 l p bad p1 b1 kd)(h2:Got iB I64 l p1 b1 p2 b2 id)(h3:Got iB I64 l p2 b2 p3 b3 ix)(h4:Got iB I64 l p3 b3 p4 b4 dp):Zh l p bad p4 b4 kd id ix dp:=λy r hy hb hh=>by
 rw[Jp]at hh;simp only[aAb]at hh;obtain⟨i1,i2,i3,i4⟩:=hy.i;obtain⟨e1,k,hh⟩:=h1 _ _ i1 hb hh;obtain⟨e2,k,hh⟩:=h2 _ _ i2 k hh;obtain⟨e3,k,hh⟩:=h3 _ _ i3 k hh;obtain⟨e4,k,hh⟩:=h4 _ _ i4 k hh;exact⟨e1,e2,e3,e4,k,hh⟩
theorem Jq(hC:Zh l p bad p4 b4 kd id ix dp)(hk:kd=1∨kd=4)(h5:Got (eP false) aQ.Ok l p4 b4 p5 b5 n):Got (Fh false) MW l p bad p5 b5 ⟨kd,id,ix,dp,n,⟨0,0,0,0⟩⟩:=λy r hy hb hh=>by
 obtain⟨e1,e2,e3,e4,k,hh⟩:=hC y r hy hb hh;have hyk:y.kind=1∨y.kind=4:=e1▸hk;unfold AX at hh;rw[azQ hyk]at hh;obtain⟨e5,k,hh⟩:=h5 _ _ (hy.node hyk) k hh;exact⟨by rw[e1,e2,e3,e4,e5,<-hy.color Z],k,hh⟩
theorem abC(hC:Zh l p bad p4 b4 kd id ix dp)(hk:kd=5)(h5:Got Px.pb (λ_=>True) l p4 b4 p5 b5 q):Got (Fh false) MW l p bad p5 b5 ⟨kd,id,ix,dp,bM.key,q⟩:=λy r hy hb hh=>by
 obtain⟨e1,e2,e3,e4,k,hh⟩:=hC y r hy hb hh;have hyk:y.kind=5:=e1▸hk;unfold AX at hh;rw[azP Z,azQ hyk]at hh;obtain⟨e5,k,hh⟩:=h5 _ _ G k hh;exact⟨by rw[e1,e2,e3,e4,e5,<-hy.Zg Z],k,hh⟩
theorem ahI(hC:Zh l p bad p4 b4 kd id ix dp)(h1:¬kd=1)(h4:¬kd=4)(h5:¬kd=5):Got (Fh false) MW l p bad p4 b4 ⟨kd,id,ix,dp,bM.key,⟨0,0,0,0⟩⟩:=λy r hy hb hh=>by
 obtain⟨e1,e2,e3,e4,k,hh⟩:=hC y r hy hb hh;have g1:¬y.kind=1:=e1▸h1;have g4:¬y.kind=4:=e1▸h4;have g5:¬y.kind=5:=e1▸h5;unfold AX at hh;rw[azP Z,azP g5,aAR]at hh;exact⟨by rw[e1,e2,e3,e4,<-hy.Zg Z,<-hy.color g5],k,hh⟩
end
variable{w:World}{lb:List UInt8}{v:Value}
theorem XI{e:aP}(h:iy K w e)(hm:fF e.key=false)(hv:jk e.key=true->e.key.node.chk=0):MW e.key:=by
 have hc:∀k,e.key.kind=k->True:=λ_ _=>trivial;refine⟨⟨h.1,h.2.1,h.2.2.1,h.2.2.2.1⟩,λhk=>?_,λhk=>?_,λhk=>?_⟩
 .have:=hv (by unfold jk; simpa using hk);rw[show e.key.node=e.node.key from rfl,lG]at this;exact Uj h.2.2.2.2 this
 .unfold fF at hm;rw[azP Z,azP Z]at hm;split at hm
  .simp at hm; exact hm.2
  split at hm
  .simp at hm; exact hm.2
  split at hm
  .simp at hm; exact hm.2
  cases hm
 unfold fF at hm;split at hm
 .simp at hm; exact hm.2
 split at hm
 .simp at hm; exact hm.2
 split at hm
 .simp at hm; exact hm.1
 split at hm
 .simp at hm; exact hm.1.2
 first
  | cases hm
  | (split at hm
     · contradiction
     · cases hm)
def aP.zero:aP:=⟨0,0,0,0,bM,⟨0,0,0,0⟩⟩
def XJ(lb:List UInt8):Prop:=∀(K:Nat) (W:World) (e:aP),iy K W e->fF e.key=false->(jk e.key=true->e.key.node.chk=0)->lb≠fP.app (kD e.key)
def Uo(base:Nat)(w:World)(lb:List UInt8)(v:Value)(er:Int):Prop:=
  (er=0∧∃e:aP,v=e.v∧Sx.aY base (λW=>iy 5000 W e) w∧fF e.key=false∧(jk e.key=true->e.key.node.chk=0)∧e.node.t.least∧lb=fP.app (kD e.key)) ∨
  (er≠0∧v=aP.zero.v∧((er=4∧lb.length<4)∨(er=19∧4<=lb.length∧∀m,lb≠fP.app m)∨(er=3∧(∃m,lb=fP.app m)∧XJ lb)))
theorem PU{m:List UInt8}(h:lb=fP.app m)(hm:¬m.take 3=[71,69,49]):XJ lb:=λK W s hs h1 h2 e=>by
 rw[h]at e;have:=rO e;rw[this]at hm;exact hm I
theorem Ur{base:Nat}{e:bF}{er:Int}(h:Um base w e v er):∃bs,bK w v bs∧((fF e=false∧(jk e=true->e.node.chk=0)∧bs=fP.app (kD e)∧er=0)∨(¬(fF e=false∧(jk e=true->e.node.chk=0))∧¬er=0)):=by
 rcases h with ⟨h1,rfl,h3⟩ | ⟨h1,h2,h3,rfl,h5⟩ | ⟨h1,h2,h3,h4⟩
 .exact⟨[],eH (dI _ _ _),.inr ⟨λh=>(by rw[h1]at h; exact absurd h.1 O),Z⟩⟩
 .exact⟨[],eH (dI _ _ _),.inr ⟨λh=>h3 (h.2 h2),Z⟩⟩
 exact⟨_,uU h3,.inl ⟨h1,h2,I,h4⟩⟩
theorem Zi:bM.fits:=by obtain⟨-,h1,h2,h3,-⟩:=gJ (K:=5000) default O O; exact⟨h1,h2,h3,⟨.inl ⟨I,I,I,I⟩,.inl ⟨I,I,I,I⟩,.inl ⟨I,I,I,I⟩,.inl ⟨I,I,I,I⟩,.inl ⟨I,I,I,I⟩,.inl ⟨I,I,I,I⟩⟩⟩
theorem alN{w0:World}{b p cap:Nat}{a:Option Addr}{bad:Bool}{l:List UInt8}(hE:Ext w0 w)(hx:Bx w b #[.slice a l.length cap,.i p,.bool bad,.z])(hb:w0.heap.size<=b)(h:jv w0 (.slice a l.length cap) l)(hp:p<=l.length)(hll:l.length<=60000000) :
    Calls prog 82 #[.q b 0] w λe w'=>∃(t:aP) (p':Nat) (d':Bool),e = .returned t.v∧(I64 t.kind∧I64 t.id∧I64 t.index∧I64 t.depth)∧t.node.fits∧Sx.aY w.heap.size (λW=>t.node.ok W) w'∧Got (Fh false) MW l p bad p' d' t.key∧KJ w0 w w' b a l cap false p' d':=by
 skip;refine azN func82 ntmps82 hE hx hb λS=>azo S (λu b2 E3 hb4 S=>?_);have hy1:=(((Ch.trans (Ch.refl b w) (Ch.aT E3)))).size;refine azo S λu b6 E7 hb8 S=>azo S λu b11 pW acY S=>zun S 4 λS=>azy S λS=>adr S 5 [] [.mem 0 0] (λS=>?_);have S:=S.fl;have y18:=(((Ch.trans (Ch.refl b w) (Ch.aT (K00 E3 (K00 E7 pW)))))).size;refine azt S 3 I (ji S.E (S.bx 3) (S.old 3) h hp) ?_;rintro e u ⟨x18,p18,d18,rfl,YZ,g18,O8,O9,vk,Ph⟩;refine⟨_,_,I,O9,vk,Ph,λS=>?_⟩;have ahb:=vk.size;have nN:=(aI ((Ch.trans (Ch.refl b w) (Ch.aT (K00 E3 (K00 E7 pW))))) vk);refine azv S 1 I (λu y8 S=>?_);have rZ:=(aI nN y8);refine azy S λS=>adr S 5 [] [.mem 0 1] (λS=>?_);have S:=S.fl;have y26:=(rZ).size;refine azt S 3 I (ji S.E (S.bx 3) (S.old 3) h O8) ?_;rintro e u ⟨kR,p26,d26,rfl,i26,g26,aeN,Xt,Jg,aeO⟩;refine⟨_,_,I,Xt,Jg,aeO,λS=>?_⟩;have anN:=Jg.size;have yK:=(aI rZ Jg);refine azv S 1 I (λu EU S=>?_);have qR:=(aI yK EU);refine azy S λS=>adr S 5 [] [.mem 0 2] (λS=>?_);have S:=S.fl;have y34:=(qR).size;refine azt S 3 I (ji S.E (S.bx 3) (S.old 3) h aeN) ?_;rintro e u ⟨x34,p34,d34,rfl,i34,g34,aeP,aeQ,Jh,aeR⟩;refine⟨_,_,I,aeQ,Jh,aeR,λS=>?_⟩;have anO:=Jh.size;have CB:=(aI qR Jh);refine azv S 1 I (λu Dh S=>?_);have yM:=(aI CB Dh);refine azy S λS=>adr S 5 [] [.mem 0 3] (λS=>?_);have S:=S.fl;have y42:=(yM).size;refine azt S 3 I (ji S.E (S.bx 3) (S.old 3) h aeP) ?_;rintro e u ⟨x42,p42,d42,rfl,i42,g42,abm,ak3,Xu,ak4⟩;refine⟨_,_,I,ak3,Xu,ak4,λS=>?_⟩;have asB:=Xu.size;have wJ:=(aI yM Xu);refine azv S 1 I (λu C44 S=>?_);have qU:=(aI wJ C44);refine azE S (λS=>?_);have hcm:=ahH g18 g26 g34 g42;refine adr S 4 [] [.mem 1 0] λS=>azm S ((x18)==1) (λsD S=>?_) (λsD S=>?_)
 .refine azm S ((x18)==1) (λXF S=>?_) (λXF S=>?_)
  .have S:=S.fl;have y54:=(qU).size;have axk:=(S.bx 0).1;have axl:=(S.bx 1).1;have axn:=(S.bx 2).1;have axo:=(S.bx 3).1;refine azt S 3 I (Xw (hll:=hll) S.E (S.bx 3) (S.old 3) h abm) ?_;rintro e u ⟨t54,p54,d54,rfl,auR,auS,g54,auT,auU,alO,auV⟩;refine⟨_,_,I,auU,alO,auV,λS=>?_⟩;have ay9:=alO.size;have RQ:=(aI qU alO);refine azq S 1 I (λu C56 S=>?_);have SG:=(aI RQ C56);have BR:=(aY.ch auS C56 Z);refine adr S 1 [] [.mem 1 0] λS=>azq S 2 I (λu U2 S=>?_);have Cm:=(aI SG U2);have BU:=(aY.ch BR U2 Z);have hG:=Jq hcm (.inl (by have:=sD; simpa using this)) g54;have S:=S.fl;refine azC S 2 I (v := .agg (Sx.L [.i x18,.i kR,.i x34,.i x42]++t54.cells++Sx.L [.u 0,.u 0,.u 0,.u 0]).toArray) (λS=>?_);exact⟨⟨x18,kR,x34,x42,t54,⟨0,0,0,0⟩⟩,_,_,I,⟨YZ,i26,i34,i42⟩,auR,(Sx.aY.le BU Z),hG,auT,S.E,Cm,S.kK 3⟩
  rw[sD]at XF; cases XF
 refine azm S ((x18)==4) (λhc63 S=>?_) (λhc63 S=>?_)
 .have S:=S.fl;have y64:=(qU).size;have axp:=(S.bx 0).1;have axq:=(S.bx 1).1;have axr:=(S.bx 2).1;have axt:=(S.bx 3).1;refine azt S 3 I (Xw (hll:=hll) S.E (S.bx 3) (S.old 3) h abm) ?_;rintro e u ⟨t64,p64,d64,rfl,auW,auX,g64,auY,auZ,alP,au0⟩;refine⟨_,_,I,auZ,alP,au0,λS=>?_⟩;have aza:=alP.size;have SB:=(aI qU alP);refine azq S 1 I (λu C66 S=>?_);have Ht:=(aI SB C66);have N7:=(aY.ch auX C66 Z);refine adr S 1 [] [.mem 1 0] λS=>azq S 2 I (λu C70 S=>?_);have aeJ:=(aI Ht C70);have alk:=(aY.ch N7 C70 Z);have hG:=Jq hcm (.inr (by have:=hc63; simpa using this)) g64;have S:=S.fl;refine azC S 2 I (v := .agg (Sx.L [.i x18,.i kR,.i x34,.i x42]++t64.cells++Sx.L [.u 0,.u 0,.u 0,.u 0]).toArray) (λS=>?_);exact⟨⟨x18,kR,x34,x42,t64,⟨0,0,0,0⟩⟩,_,_,I,⟨YZ,i26,i34,i42⟩,auW,(Sx.aY.le alk Z),hG,auY,S.E,aeJ,S.kK 3⟩
 refine azm S ((x18)==5) (λalQ S=>?_) (λalQ S=>?_)
 .have S:=S.fl;have y75:=(qU).size;refine azt S 3 I (FY S.E (S.bx 3) (S.old 3) h abm) ?_;rintro e u ⟨q75,p75,d75,rfl,g75,au1,au2,alR,au3⟩;refine⟨_,_,I,au2,alR,au3,λS=>?_⟩;have azb:=alR.size;have Oz:=(aI qU alR);refine azq S 1 I (λu C77 S=>?_);have OB:=(aI Oz C77);refine adr S 1 [] [.mem 1 0] λS=>azq S 2 I (λu C80 S=>?_);have au4:=(aI OB C80);have hG:=abC hcm (by have:=alQ; simpa using this) g75;have S:=S.fl;refine azC S 2 I (v := .agg (Sx.L [.i x18,.i kR,.i x34,.i x42,.i 0,.i 0,.i 0]++Sx.za++Sx.L [.sn,.i 0,.u 0,.i 0,.z,.z,.sn,.i 0,.sn,.i 0,.i 0,.i 0,.i 0,.sn,.i 0,.sn,.i 0,.i 0,.sn,.i 0]++q75.cells).toArray) (λS=>?_);exact⟨⟨x18,kR,x34,x42,bM,q75⟩,_,_,I,⟨YZ,i26,i34,i42⟩,Zi,(λW _ _=>(gJ (K:=20) W O O).1),hG,au1,S.E,au4,S.kK 3⟩
 refine adr S 1 [] [.mem 1 0] λS=>azq S 2 I (λu C83 S=>?_);have aeK:=(aI qU C83);have hG:=ahI hcm (by have:=sD; simpa using this) (by have:=hc63; simpa using this) (by have:=alQ; simpa using this);have S:=S.fl;refine azC S 2 I (v := .agg (Sx.L [.i x18,.i kR,.i x34,.i x42,.i 0,.i 0,.i 0]++Sx.za++Sx.L [.sn,.i 0,.u 0,.i 0,.z,.z,.sn,.i 0,.sn,.i 0,.i 0,.i 0,.i 0,.sn,.i 0,.sn,.i 0,.i 0,.sn,.i 0,.u 0,.u 0,.u 0,.u 0]).toArray) (λS=>?_);exact⟨⟨x18,kR,x34,x42,bM,⟨0,0,0,0⟩⟩,_,_,I,⟨YZ,i26,i34,i42⟩,Zi,(λW _ _=>(gJ (K:=20) W O O).1),hG,abm,S.E,aeK,S.kK 3⟩
theorem Fj(hg:dw w)(hv:jv w v lb)(hll:lb.length<=60000000) :
    Calls prog 49 #[v] w λe w'=>∃v er,e = .returned (.tuple #[v,.i er])∧Uo w.heap.size w' lb v er∧Ext w w':=by
 obtain⟨ad,ca,rfl⟩:=hv.shape;have hin:=hv;clear hv;refine azp func49 ntmps49 λS=>azo S (λu b2 E3 hb4 S=>?_);have alF:=(S.bx 0).1;have hEq:=S.E;refine azz S (MP (c0:=71) (c1':=69) (c2:=49) (aJ.below hin S.E) hll) ?_;rintro e u ⟨pv,er,rfl,E6,hop⟩;refine⟨_,I,E6,λS=>?_⟩;refine azm S ((er) != 0) (λJL S=>?_) (λJL S=>?_)
 .have ae9:=hop.resolve_right (λh=>absurd h.1 (by have:=JL; simpa using this));refine azq S 0 I (λu Yo S=>?_);have hwy:Uo w.heap.size u lb aP.zero.v er := .inr ⟨ae9.1,I,ae9.2.2.imp id (λh=>h.imp id (λh=>⟨h.1,by obtain⟨m,hm,-⟩:=h.2; exact⟨m,hm⟩,by obtain⟨m,hm,hn⟩:=h.2; exact PU hm hn⟩))⟩;refine Jm S 0 I (v:=aP.zero.v) (u := .i er) (λS=>⟨_,_,I,hwy,S.E⟩)
 obtain⟨-,l,b,a,cap,wm,hlb,Xl,rfl,XD,h,hws,hE1,hXr⟩:=hop.resolve_left (λh=>h.1 (by have:=JL; simpa using this));have he0:er=0:=by have:=JL; simpa using this
 have hEw:Ext w wm:=K00 hEq XD;have hs0:=hEw.size;have hs1:=XD.size;have hl6:l.length<=60000000:=by have:=az0 List.length hlb; rw[nU]at this; omega
 have hp0:3<=l.length:=by have:=az0 List.length Xl; simp at this; omega
 have S:=S.adopt (A:=[.slice a l.length cap,.i (3:Nat),.z,.z]) hXr Z (λp hp=>by rcases az2.1 hp with rfl | hp; (have:=alF; intro e; simp only at e; omega); cases hp) (λm hm=>by cases hm);have hEz:=K00 hEw hE1;have S:=S.fl;have y13:=((Ch.aT (b:=b) hEz)).size;have axu:=(S.bx 0).1;have axv:=(S.bx 1).1;have hEr:=hE1;refine azt S 0 I (alN (hll:=hl6) hEr (S.bx 0) hws h hp0) ?_;rintro e u ⟨t13,p13,d13,rfl,Ut,XK,alS,g13,KL,AL,oH,I7⟩;refine⟨_,_,I,(K00 hEw AL),oH,I7,λS=>?_⟩;have aev:=oH.size;have NJ:=AL.size;have Am:=AL;have oN:=(aI (Ch.aT (b:=b) hEz) oH);refine azo S λu b16 yZ agq S=>azq S 0 I (λu Yn S=>?_);have yN:=azr yZ Yn;have Dc:=azr yZ Yn;have Qm:=azr yZ Yn;have alM:iy 5000 u t13:=⟨Ut.1,Ut.2.1,Ut.2.2.1,Ut.2.2.2,Gf (aAj ((az3 alS Qm))) XK.1 XK.2.1 XK.2.2.1⟩;refine adr S 1 [] [.mem 0 0] λS=>azz S (xE alM (dw.below hg S.E)) ?_;rintro e u ⟨v5,er5,rfl,hsc,yO⟩;obtain⟨bs,hbs,hcs⟩:=Ur hsc;refine⟨_,I,yO,λS=>?_⟩;refine adr S 5 [] [] λS=>aAQ S 14 [.mem 1 2] [(_,_,(!(d13||((er5) != 0))),.bool (bs==lb))] [(37,.bool ((d13||((er5) != 0))||(!(bs==lb))))] ⟨λu hC g=>azL (kY _ _ bs lb u (((dG.below hbs hC))) (eH (aJ.below hin (K00 S.E hC)))),G⟩ λu E27 S=>azm S ((d13||((er5) != 0))||(!(bs==lb))) (λhc28 S=>?_) (λhc28 S=>?_)
 .refine azq S 2 I (λu JO S=>?_);have uM:=(aY.ch ((az3 alS (K00 Qm (K00 yO E27)))) JO Z);have hno:XJ lb:=λK0 W0 s0 hs0 hm0 hv0 e=>by
   rw[hlb]at e;have hl:=rO e;obtain⟨g1,g2,-⟩:=g13 s0.key [] (XI hs0 hm0 hv0) I (by rw[hl,aAW]; rfl);rw[g1]at hcs;rcases hcs with ⟨-,-,c2,c3⟩ | ⟨c1,-⟩
   .rw[g2,c3,c2,hlb,hl]at hc28; simp at hc28
   exact c1 ⟨hm0,hv0⟩
  refine Jm S 2 I (v:=aP.zero.v) (u := .i 3) (λS=>⟨_,_,I,.inr ⟨by decide,I,.inr (.inr ⟨I,⟨l,hlb⟩,hno⟩)⟩,S.E⟩)
 refine adr S 1 [] [.mem 0 0] λS=>azq S 2 I (λu NZ S=>?_);have yR:=(aY.ch ((az3 alS (K00 Qm (K00 yO E27)))) NZ Z);have hh:er5=0∧bs=lb:=by have:=hc28; simp at this; exact⟨this.1.2,this.2⟩
 have hfin:fF t13.key=false∧(jk t13.key=true->t13.key.node.chk=0)∧lb=fP.app (kD t13.key):=by rcases hcs with ⟨c1,c2,c3,c4⟩ | ⟨-,c3⟩; (exact⟨c1,c2,hh.2.symm.trans c3⟩); (exact absurd hh.1 c3)
 refine Jm S 2 I (v:=aP.v t13) (u := .i 0) (λS=>⟨_,_,I,.inl ⟨I,_,I,(aAD (Sx.aY.le yR Z) λW h=>⟨Ut.1,Ut.2.1,Ut.2.2.1,Ut.2.2.2,Gf h XK.1 XK.2.1 XK.2.2.1⟩),hfin.1,hfin.2.1,XK.2.2.2,hfin.2.2⟩,S.E⟩)
