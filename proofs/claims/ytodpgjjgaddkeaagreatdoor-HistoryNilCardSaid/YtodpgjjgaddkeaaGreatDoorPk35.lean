/- Edits, encoded in general. Decoding an edit. -/
import Derived.Test.YtodpgjjgaddkeaaGreatDoorPk34
set_option maxHeartbeats 3200000
set_option maxRecDepth 100000
set_option linter.unusedVariables false
set_option linter.unusedSimpArgs false
namespace Go.Proofs.YtodpgjjgaddkeaaGreatDoor
open _root_.Go.Proofs.Tryz
section
open Go.RowKit En
variable{α:Type}{K:Nat}
theorem BL(c d:bG)(w:World):(binOp .neq 40 (.agg c.cells.toArray) (.agg d.cells.toArray)).run prog w = .ok (.bool (!decide (c=d))) w:=by
 rw[←Og]; exact ah8 ..
def ji(e:dw):Bool:=(e.kind==1)||(e.kind==4)
def fD(e:dw):Bool:=
 if e.kind=1 then ((((((e.id) != 0)||false)||((e.depth) != 0))||(!decide (e.color=⟨0,0,0,0⟩)))||(!(decide (bK.key=bK.key))))
 else if e.kind=4 then ((((((e.id) != 0)||((e.index) != 0))||((e.depth) != 0))||(!decide (e.color=⟨0,0,0,0⟩)))||(!(decide (bK.key=bK.key))))
 else if e.kind=3 then ((!decide (e.color=⟨0,0,0,0⟩))||(!(decide (e.node=bK.key))))
 else if e.kind=2 then (((((e.index) != 0)||((e.depth) != 0))||(!decide (e.color=⟨0,0,0,0⟩)))||(!(decide (e.node=bK.key))))
 else if e.kind=5 then ((((((e.id) != 0)||((e.index) != 0))||((e.depth) != 0))||(!decide ((⟨0,0,0,0⟩:bG)=⟨0,0,0,0⟩)))||(!(decide (e.node=bK.key))))
 else true
def TK(base:Nat)(w:World)(e:dw)(v:Value)(er:Int):Prop:=(fD e=true∧v = .sn∧er=2)∨(fD e=false∧ji e=true∧¬e.node.chk=0∧v = .sn∧er=17) ∨
 (fD e=false∧(ji e=true→e.node.chk=0)∧OwnB base w v (fO.app (jW e))∧er=0)
theorem Xk{w:World}{e:bn}(h:iF K w e) :
  Calls prog 57 #[e.v] w fun r w'=>r = .returned (.tuple #[.bool (ji e.key),.bool (fD e.key)])∧Ext w w':=by
 have hK:=h.2.2.2.2.2.2.2.2;refine ay3 func57 ntmps57 fun S=>ay2 S fun u b2 E3 hb4 S=>adr S 3 [] [.mem 0 0] fun S=>ay2 S fun u b6 E7 hb8 S=>ay4 S 0 rfl fun u C9 S=>adr S 4 [] [.mem 1 0] fun S=>ay0 S ((e.kind)==1) (fun hc13 S=>?_) (fun hc13 S=>?_)
 ·refine azb S 0 rfl fun u C14 S=>ay4 S 0 rfl fun u C15 S=>aAu S 27 [.mem 0 1,.mem 0 2,.mem 0 3,.mem 0 51,.cmp .neq 40 (.tmp 45) (.tmp 46) (.agg #[.u (e.color.r.toNat:Int),.u (e.color.g.toNat:Int),.u (e.color.b.toNat:Int),.u (e.color.a.toNat:Int)]) (.agg #[.u 0,.u 0,.u 0,.u 0]) (.bool (!decide (e.color=⟨0,0,0,0⟩))),.mem 0 4] [(_,_,(!(((((e.id) != 0)||false)||((e.depth) != 0))||(!decide (e.color=⟨0,0,0,0⟩)))),.bool (bK.key=bK.key))] [(5,.bool ((((((e.id) != 0)||false)||((e.depth) != 0))||(!decide (e.color=⟨0,0,0,0⟩)))||(!(decide (bK.key=bK.key)))))] ⟨fun u hC g=>xH (a:=bK) (b:=bK) (gI u hK.1 hK.2) (gI u hK.1 hK.2),trivial⟩ (fun u yE S=>?_) (hk:=⟨(aAt (fun _=>BL e.color ⟨0,0,0,0⟩ _) (by kernel_rfl)),trivial⟩);have hm:fD e.key=((((((e.id) != 0)||false)||((e.depth) != 0))||(!decide (e.color=⟨0,0,0,0⟩)))||(!(decide (bK.key=bK.key)))):=by unfold fD; rw[azv (show e.key.kind=1 from(by have:=hc13; simpa using this:e.kind=1))]; try rfl
  refine adr S 11 [] [.mem 1 0,.mem 1 0] fun S=>Sx.KJ S (.bool (((e.kind)==1)||((e.kind)==4))) (.bool ((((((e.id) != 0)||false)||((e.depth) != 0))||(!decide (e.color=⟨0,0,0,0⟩)))||(!(decide (bK.key=bK.key))))) (fun S=>?_);exact⟨by rw[hm]; rfl,S.E⟩
 refine ay0 S ((e.kind)==4) (fun qg S=>?_) (fun qg S=>?_)
 ·refine ay4 S 0 rfl (fun u C21 S=>?_);have S:=S.fl;refine aAu S 27 [.mem 0 1,.mem 0 2,.mem 0 3,.mem 0 51,.cmp .neq 40 (.tmp 45) (.tmp 46) (.agg #[.u (e.color.r.toNat:Int),.u (e.color.g.toNat:Int),.u (e.color.b.toNat:Int),.u (e.color.a.toNat:Int)]) (.agg #[.u 0,.u 0,.u 0,.u 0]) (.bool (!decide (e.color=⟨0,0,0,0⟩))),.mem 0 4] [(_,_,(!(((((e.id) != 0)||((e.index) != 0))||((e.depth) != 0))||(!decide (e.color=⟨0,0,0,0⟩)))),.bool (bK.key=bK.key))] [(5,.bool ((((((e.id) != 0)||((e.index) != 0))||((e.depth) != 0))||(!decide (e.color=⟨0,0,0,0⟩)))||(!(decide (bK.key=bK.key)))))] ⟨fun u hC g=>xH (a:=bK) (b:=bK) (gI u hK.1 hK.2) (gI u hK.1 hK.2),trivial⟩ (fun u E23 S=>?_) (hk:=⟨(aAt (fun _=>BL e.color ⟨0,0,0,0⟩ _) (by kernel_rfl)),trivial⟩);have hm:fD e.key=((((((e.id) != 0)||((e.index) != 0))||((e.depth) != 0))||(!decide (e.color=⟨0,0,0,0⟩)))||(!(decide (bK.key=bK.key)))):=by unfold fD; rw[azu (show ¬e.key.kind=1 from(by have:=hc13; simpa using this:¬e.kind=1)),azv (show e.key.kind=4 from(by have:=qg; simpa using this:e.kind=4))]; try rfl
  refine adr S 11 [] [.mem 1 0,.mem 1 0] fun S=>Sx.KJ S (.bool (((e.kind)==1)||((e.kind)==4))) (.bool ((((((e.id) != 0)||((e.index) != 0))||((e.depth) != 0))||(!decide (e.color=⟨0,0,0,0⟩)))||(!(decide (bK.key=bK.key))))) (fun S=>?_);exact⟨by rw[hm]; rfl,S.E⟩
 refine ay0 S ((e.kind)==3) (fun Ko S=>?_) (fun Ko S=>?_)
 ·refine azb S 0 rfl fun u C27 S=>azb S 0 rfl fun u PY S=>azb S 0 rfl fun u C29 S=>aAu S 27 [.mem 0 1,.mem 0 2,.mem 0 3,.mem 0 51,.cmp .neq 40 (.tmp 45) (.tmp 46) (.agg #[.u (e.color.r.toNat:Int),.u (e.color.g.toNat:Int),.u (e.color.b.toNat:Int),.u (e.color.a.toNat:Int)]) (.agg #[.u 0,.u 0,.u 0,.u 0]) (.bool (!decide (e.color=⟨0,0,0,0⟩))),.mem 0 4] [(_,_,(!(!decide (e.color=⟨0,0,0,0⟩))),.bool (e.node.key=bK.key))] [(5,.bool ((!decide (e.color=⟨0,0,0,0⟩))||(!(decide (e.node.key=bK.key)))))] ⟨fun u hC g=>xH (a:=e.node) (b:=bK) (h.2.2.2.2.below (Ext.trans' S.E hC)) (gI u hK.1 hK.2),trivial⟩ (fun u Ah S=>?_) (hk:=⟨(aAt (fun _=>BL e.color ⟨0,0,0,0⟩ _) (by kernel_rfl)),trivial⟩);have hm:fD e.key=((!decide (e.color=⟨0,0,0,0⟩))||(!(decide (e.node.key=bK.key)))):=by unfold fD; rw[azu (show ¬e.key.kind=1 from(by have:=hc13; simpa using this:¬e.kind=1)),azu (show ¬e.key.kind=4 from(by have:=qg; simpa using this:¬e.kind=4)),azv (show e.key.kind=3 from(by have:=Ko; simpa using this:e.kind=3))]; try rfl
  refine adr S 11 [] [.mem 1 0,.mem 1 0] fun S=>Sx.KJ S (.bool (((e.kind)==1)||((e.kind)==4))) (.bool ((!decide (e.color=⟨0,0,0,0⟩))||(!(decide (e.node.key=bK.key))))) (fun S=>?_);exact⟨by rw[hm]; rfl,S.E⟩
 refine ay0 S ((e.kind)==2) (fun hc34 S=>?_) (fun hc34 S=>?_)
 ·refine azb S 0 rfl (fun u C35 S=>?_);have S:=S.fl;refine aAu S 27 [.mem 0 1,.mem 0 2,.mem 0 3,.mem 0 51,.cmp .neq 40 (.tmp 45) (.tmp 46) (.agg #[.u (e.color.r.toNat:Int),.u (e.color.g.toNat:Int),.u (e.color.b.toNat:Int),.u (e.color.a.toNat:Int)]) (.agg #[.u 0,.u 0,.u 0,.u 0]) (.bool (!decide (e.color=⟨0,0,0,0⟩))),.mem 0 4] [(_,_,(!((((e.index) != 0)||((e.depth) != 0))||(!decide (e.color=⟨0,0,0,0⟩)))),.bool (e.node.key=bK.key))] [(5,.bool (((((e.index) != 0)||((e.depth) != 0))||(!decide (e.color=⟨0,0,0,0⟩)))||(!(decide (e.node.key=bK.key)))))] ⟨fun u hC g=>xH (a:=e.node) (b:=bK) (h.2.2.2.2.below (Ext.trans' S.E hC)) (gI u hK.1 hK.2),trivial⟩ (fun u GV S=>?_) (hk:=⟨(aAt (fun _=>BL e.color ⟨0,0,0,0⟩ _) (by kernel_rfl)),trivial⟩);have hm:fD e.key=(((((e.index) != 0)||((e.depth) != 0))||(!decide (e.color=⟨0,0,0,0⟩)))||(!(decide (e.node.key=bK.key)))):=by unfold fD; rw[azu (show ¬e.key.kind=1 from(by have:=hc13; simpa using this:¬e.kind=1)),azu (show ¬e.key.kind=4 from(by have:=qg; simpa using this:¬e.kind=4)),azu (show ¬e.key.kind=3 from(by have:=Ko; simpa using this:¬e.kind=3)),azv (show e.key.kind=2 from(by have:=hc34; simpa using this:e.kind=2))]; try rfl
  refine adr S 11 [] [.mem 1 0,.mem 1 0] fun S=>Sx.KJ S (.bool (((e.kind)==1)||((e.kind)==4))) (.bool (((((e.index) != 0)||((e.depth) != 0))||(!decide (e.color=⟨0,0,0,0⟩)))||(!(decide (e.node.key=bK.key))))) (fun S=>?_);exact⟨by rw[hm]; rfl,S.E⟩
 refine ay0 S ((e.kind)==5) (fun VI S=>?_) (fun VI S=>?_)
 ·refine ay4 S 0 rfl fun u C41 S=>aAu S 27 [.mem 0 1,.mem 0 2,.mem 0 3,.mem 0 51,.cmp .neq 40 (.tmp 45) (.tmp 46) (.agg #[.u 0,.u 0,.u 0,.u 0]) (.agg #[.u 0,.u 0,.u 0,.u 0]) (.bool (!decide ((⟨0,0,0,0⟩:bG)=⟨0,0,0,0⟩))),.mem 0 4] [(_,_,(!(((((e.id) != 0)||((e.index) != 0))||((e.depth) != 0))||(!decide ((⟨0,0,0,0⟩:bG)=⟨0,0,0,0⟩)))),.bool (e.node.key=bK.key))] [(5,.bool ((((((e.id) != 0)||((e.index) != 0))||((e.depth) != 0))||(!decide ((⟨0,0,0,0⟩:bG)=⟨0,0,0,0⟩)))||(!(decide (e.node.key=bK.key)))))] ⟨fun u hC g=>xH (a:=e.node) (b:=bK) (h.2.2.2.2.below (Ext.trans' S.E hC)) (gI u hK.1 hK.2),trivial⟩ (fun u E43 S=>?_) (hk:=⟨(aAt (fun _=>BL ⟨0,0,0,0⟩ ⟨0,0,0,0⟩ _) (by kernel_rfl)),trivial⟩);have hm:fD e.key=((((((e.id) != 0)||((e.index) != 0))||((e.depth) != 0))||(!decide ((⟨0,0,0,0⟩:bG)=⟨0,0,0,0⟩)))||(!(decide (e.node.key=bK.key)))):=by unfold fD; rw[azu (show ¬e.key.kind=1 from(by have:=hc13; simpa using this:¬e.kind=1)),azu (show ¬e.key.kind=4 from(by have:=qg; simpa using this:¬e.kind=4)),azu (show ¬e.key.kind=3 from(by have:=Ko; simpa using this:¬e.kind=3)),azu (show ¬e.key.kind=2 from(by have:=hc34; simpa using this:¬e.kind=2)),azv (show e.key.kind=5 from(by have:=VI; simpa using this:e.kind=5))]; try rfl
  refine adr S 11 [] [.mem 1 0,.mem 1 0] fun S=>Sx.KJ S (.bool (((e.kind)==1)||((e.kind)==4))) (.bool ((((((e.id) != 0)||((e.index) != 0))||((e.depth) != 0))||(!decide ((⟨0,0,0,0⟩:bG)=⟨0,0,0,0⟩)))||(!(decide (e.node.key=bK.key))))) (fun S=>?_);exact⟨by rw[hm]; rfl,S.E⟩
 have hm:fD e.key=true:=by unfold fD; rw[azu (show ¬e.key.kind=1 from(by have:=hc13; simpa using this:¬e.kind=1)),azu (show ¬e.key.kind=4 from(by have:=qg; simpa using this:¬e.kind=4)),azu (show ¬e.key.kind=3 from(by have:=Ko; simpa using this:¬e.kind=3)),azu (show ¬e.key.kind=2 from(by have:=hc34; simpa using this:¬e.kind=2)),azu (show ¬e.key.kind=5 from(by have:=VI; simpa using this:¬e.kind=5))]
 have hh:ji e.key=false:=by unfold ji; show((e.kind==1)||(e.kind==4))=false; simp; exact⟨by have:=hc13; simpa using this,by have:=qg; simpa using this⟩
 refine Sx.KJ S (.z) (.bool true) (fun S=>?_);exact⟨by rw[hm,hh],S.E⟩
theorem aeW{w:World}{pk:Bool}{e:bn}(h:iF K w e)(hl:e.kind=1∨e.kind=4→e.node.Lim)(hB0:(EM pk e.key).length≤1000000000) :
  Calls prog 59 #[.agg #[.bool pk],e.v] w fun r w'=>∃v,r = .returned v∧OwnB w.heap.size w' v (EM pk e.key)∧Ext w w':=by
 skip;refine ay3 func59 ntmps59 fun S=>ay6 S [.bool pk] fun u b2 E3 hb4 S=>ay6 S e.cells fun u b5 E6 hb7 S=>adr S 9 [] [.mem 0 0,.mem 0 1,.mem 0 2,.mem 0 3] fun S=>ay6 S [.i e.kind,.i e.id,.i e.index,.i e.depth] (fun u b9 Um acV S=>?_);have hb0:=(S.bx 0).1;have hb1:=(S.bx 1).1;have hb2:=(S.bx 2).1;have S0:=S.E.size;refine azk S (iO (L:=[e.kind,e.id,e.index,e.depth]) (Sx.kY (f:=fun x:Int => .i x) [e.kind,e.id,e.index,e.depth] (S.bx 0) (by simp[maxLen])) (qL.all (L:=[e.kind,e.id,e.index,e.depth]) ⟨h.1,h.2.1,h.2.2.1,h.2.2.2.1,trivial⟩) (by simp)) (fun v12 u auq yA S=>?_);have S:=S.iH 1;have S:=S.nN;have R:=kD (aAc S) auq (fun p hp=>by rcases azG.1 hp with rfl | hp; (exact hb1); rcases azG.1 hp with rfl | hp; (exact hb2); cases hp) S0;refine adr S 5 [] [.mem 0 0] fun S=>ay0 S ((e.kind)==1) (fun hc19 S=>?_) (fun hc19 S=>?_)
 ·refine ay0 S ((e.kind)==1) (fun qg S=>?_) (fun qg S=>?_)
  ·have hk:e.kind=1∨e.kind=4:=(.inl (by have:=hc19; simpa using this));have hE0:EM pk e.key=dW [e.kind,e.id,e.index,e.depth]++eG pk e.node.key:=by unfold EM; rw[azv (show e.key.kind=1∨e.key.kind=4 from hk)]; rfl
   have hB:(dW [e.kind,e.id,e.index,e.depth]++eG pk e.node.key).length≤1000000000:=hE0▸hB0;refine adr S 4 [] [.mem 1 0,.mem 0 4] fun S=>azk S (zZ (pk:=pk) (h.2.2.2.2.below S.E) (hl hk).akn (by simp only[azz]at hB; omega)) (fun v9 u ho9 NI S=>?_);obtain⟨R,Y23⟩:=R.bP S (azV NI);refine ay7 S fun S=>azl S R 26 (eG pk e.node.key) (jE (ho9)) (by simp only[azz]at hB ⊢; omega) fun ac u v24 X25 R S=>azh S fun S=>apB S v24 (fun S=>?_);exact⟨_,rfl,qC (R.own _ azJ) hE0.symm,S.E⟩
  rw[hc19]at qg; cases qg
 refine ay0 S ((e.kind)==4) (fun Ko S=>?_) (fun Ko S=>?_)
 ·have hk:e.kind=1∨e.kind=4:=(.inr (by have:=Ko; simpa using this));have hE0:EM pk e.key=dW [e.kind,e.id,e.index,e.depth]++eG pk e.node.key:=by unfold EM; rw[azv (show e.key.kind=1∨e.key.kind=4 from hk)]; rfl
  have hB:(dW [e.kind,e.id,e.index,e.depth]++eG pk e.node.key).length≤1000000000:=hE0▸hB0;refine adr S 4 [] [.mem 1 0,.mem 0 4] fun S=>azk S (zZ (pk:=pk) (h.2.2.2.2.below S.E) (hl hk).akn (by simp only[azz]at hB; omega)) (fun v9 u ho9 Ve S=>?_);obtain⟨R,Y29⟩:=R.bP S (azV Ve);refine ay7 S fun S=>azl S R 26 (eG pk e.node.key) (jE (ho9)) (by simp only[azz]at hB ⊢; omega) fun ac u v30 X31 R S=>azh S fun S=>apB S v30 (fun S=>?_);exact⟨_,rfl,qC (R.own _ azJ) hE0.symm,S.E⟩
 refine ay0 S ((e.kind)==5) (fun TL S=>?_) (fun TL S=>?_)
 ·have hE0:EM pk e.key=dW [e.kind,e.id,e.index,e.depth]++Px.pb e.color:=by unfold EM; rw[azu (show ¬(e.key.kind=1∨e.key.kind=4)from fun hh=>by have h1:=hc19; have h4:=Ko; simp at h1 h4; exact hh.elim h1 h4),azv (show e.key.kind=5 from(by have:=TL; simpa using this:e.kind=5))]; rfl
  have hB:(dW [e.kind,e.id,e.index,e.depth]++Px.pb e.color).length≤1000000000:=hE0▸hB0;refine adr S 3 [] [.mem 0 51] fun S=>azk S (uJ (p:=e.color)) (fun v9 u ho9 JG S=>?_);obtain⟨R,Y36⟩:=R.bP S (azV JG);refine ay7 S fun S=>azl S R 33 (Px.pb e.color) (jE (ho9)) (by simp only[azz]at hB ⊢; omega) fun ac u v37 X38 R S=>azh S fun S=>apB S v37 (fun S=>?_);exact⟨_,rfl,qC (R.own _ azJ) hE0.symm,S.E⟩
 have hE0:EM pk e.key=dW [e.kind,e.id,e.index,e.depth]:=by unfold EM; rw[azu (show ¬(e.key.kind=1∨e.key.kind=4)from fun hh=>by have h1:=hc19; have h4:=Ko; simp at h1 h4; exact hh.elim h1 h4),azu (show ¬e.key.kind=5 from(by have:=TL; simpa using this:¬e.kind=5)),aAA]; rfl
 refine apB S v12 (fun S=>?_);exact⟨_,rfl,qC (R.own _ azJ) hE0.symm,S.E⟩
theorem YR{e:bn}(h:e.kind=1∨e.kind=4→e.node.checkN=0):(EM false e.key).length≤9000000:=by
 unfold EM;have h1:=iG [e.key.kind,e.key.id,e.key.index,e.key.depth];simp only[aAb,aAH]at h1;rw[azz];split
 ·rename_i hk;have:=Sl (pk:=false) (sZ (h hk));have e0:e.key.node=e.node.key:=rfl;rw[e0]; omega
 split
 ·simp[Px.pb]; omega
 simp; omega
theorem wR{w:World}{e:bn}(h:iF K w e)(hg:dO w) :
  Calls prog 31 #[e.v] w fun r w'=>∃v er,r = .returned (.tuple #[v,.i er])∧TK w.heap.size w' e.key v er∧Ext w w':=by
 skip;refine azD func31 ntmps31 fun ac S=>ay1 fun _ ig=>Sx.qG S 1 e.cells fun ac u b2 E3 hb4 S=>ayY S 2 [] [(2,.sn),(3,.i 0)] fun S=>ayZ<|ig _ _<|ay1 fun _ AX=>ayY S 1 [.mem 0 0] [(7,e.v)] fun S=>Sx.AY S 8 (Xk (h.below S.E)) fun ac u E6 S=>ayY S 5 [] [(4,.bool (ji e.key)),(5,.bool (fD e.key))] fun S=>ayZ<|AX _ _<|azL fun _ Vm=>ay1 fun _ κ8=>ayY S 1 [] [(11,.bool (fD e.key))] fun S=>ayZ (κ8 _ _ ?_);refine azq S (fun Jt=>?_) (fun Jt=>?_)
 ·refine ay1 fun _ zy=>ayY S 2 [] [(2,.sn),(3,.i 2)] fun S=>ayZ<|zy _ _<|Sx.rt2 S results31 ?_;exact⟨_,_,rfl,.inl ⟨by have:=Jt; simpa using this,rfl,rfl⟩,S.E⟩
 refine az6<|Vm _ _<|azL fun _ OA=>ay1 fun _ QV=>Sx.adi S 7 [.mem 0 4] [(_,_,(ji e.key),.bool (e.node.checkN==0))] [(18,.bool ((ji e.key)&&(!(e.node.checkN==0))))] ⟨fun u hC g=>JM (h.2.2.2.2.below (Ext.trans' S.E hC)) (dO.below hg (Ext.trans' S.E hC)),trivial⟩ fun ac u Es S=>ayZ (QV _ _ ?_);refine azq S (fun tK=>?_) (fun tK=>?_)
 ·refine ay1 fun _ G8=>ayY S 2 [] [(2,.sn),(3,.i 17)] fun S=>ayZ<|G8 _ _<|Sx.rt2 S results31 ?_;exact⟨_,_,rfl,.inr (.inl ⟨by have:=Jt; simpa using this,by have:=tK; simp at this; exact this.1,by have:=tK; simp at this; rw[show e.key.node=e.node.key from rfl,lq]; exact this.2,rfl,rfl⟩),S.E⟩
 refine az6<|OA _ _<|ay1 (fun _ zB=>?_);have hm:fD e.key=false:=by have:=Jt; simpa using this
 have hv:ji e.key=true→e.node.checkN=0:=fun hh=>by have:=tK; simp[hh]at this; exact this
 have hbd:(EM false e.key).length≤9000000:=YR fun hk=>hv (by unfold ji; show((e.kind==1)||(e.kind==4))=true; simpa using hk);have R:=aAc S;refine Sx.lit S 19 20 3 [.u 71,.u 69,.u 49] 53 5 underlying53 underlying5 fun{ac u b19} yE Nk S=>ayY S 2 [.mem 0 0] [(21,.agg #[.z]),(22,e.v)] fun S=>Sx.jI S (some 23) (aeW (pk:=false) (h.below S.E) (fun hk=>sZ (hv (by unfold ji; show((e.kind==1)||(e.kind==4))=true; simpa using hk))) (by omega)) ?_;rintro e u ⟨v23,rfl,ala,xA⟩;refine⟨_,rfl,xA,fun ac S=>?_⟩;have hvn:0<(EM false e.key).length:=by unfold EM dW; rw[aAD,azO,azz]; have h1:0<(En.dV 10 (En.zig e.kind)).length:=En.AZ 9 _; exact Nat.add_pos_left h1 _
 obtain⟨R,Y21⟩:=R.bP S (azP (azV yE) (azV xA));refine Sx.apI S R 24 yR ((dP.below Nk xA)) (jE (ala)) (by omega) (by omega) (by simp[maxLen]<;>omega) (by omega) (fun ac u v22 E23 JF R S=>?_);have R:=R.as (show [(⟨5,1,v22,3+(EM false e.key).length,[.u 71,.u 69,.u 49]++(EM false e.key).map gK⟩:Sx.Row)]=[Sx.bR v22 (jW e.key)] by unfold Sx.bR jW; rw[azz,aAo]; rfl);have hout:OwnB w.heap.size u v22 (jW e.key):=R.own _ azJ;have S0:=S.E.size;refine Sx.jI S (some 25) (wK _ (jW e.key) _ (uI hout) (by unfold jW; simp only[azz,aAb,aAH]; omega)) ?_;rintro e u ⟨v30,rfl,alg,DJ⟩;refine⟨_,rfl,DJ,fun ac S=>?_⟩;refine ayY S 2 [] [(2,v30),(3,.i 0)] fun S=>ayZ<|zB _ _<|Sx.rt2 S results31 ?_;exact⟨_,_,rfl,.inr (.inr ⟨hm,fun hh=>by rw[show e.key.node=e.node.key from rfl,lq]; exact hv hh,aY (alg) S0,rfl⟩),S.E⟩
structure Me (e:dw):Prop where
  i:I64 e.kind∧I64 e.id∧I64 e.index∧I64 e.depth
  node:e.kind=1∨e.kind=4→e.node.Ok
  YS:¬(e.kind=1∨e.kind=4)→e.node=bK.key
  color:¬e.kind=5→e.color=⟨0,0,0,0⟩
def Aa(e:dw):List UInt8:=if e.kind=1∨e.kind=4 then eG false e.node else if e.kind=5 then Px.pb e.color else []
theorem IY(e:dw):EM false e=iB e.kind++(iB e.id++(iB e.index++(iB e.depth++Aa e))):=by
 unfold EM Aa; simp only[lu,azO]; rfl
section
variable{l:List UInt8}{p p1 p2 p3 p4 p5:Nat}{bad b1 b2 b3 b4 b5:Bool}{kd id ix dp:Int}{n:aQ}{q:bG}
def YT(l:List UInt8)(p:Nat)(bad:Bool)(p4:Nat)(b4:Bool)(kd id ix dp:Int):Prop:=∀y r,Me y→bad=false→l.drop p=EM false y++r→kd=y.kind∧id=y.id∧ix=y.index∧dp=y.depth∧b4=false∧l.drop p4=Aa y++r
theorem ahs(h1:Got iB I64 l p bad p1 b1 kd)(h2:Got iB I64 l p1 b1 p2 b2 id)(h3:Got iB I64 l p2 b2 p3 b3 ix)(h4:Got iB I64 l p3 b3 p4 b4 dp):YT l p bad p4 b4 kd id ix dp:=fun y r hy hb hh=>by
 rw[IY]at hh;simp only[azO]at hh;obtain⟨i1,i2,i3,i4⟩:=hy.i;obtain⟨e1,k,hh⟩:=h1 _ _ i1 hb hh;obtain⟨e2,k,hh⟩:=h2 _ _ i2 k hh;obtain⟨e3,k,hh⟩:=h3 _ _ i3 k hh;obtain⟨e4,k,hh⟩:=h4 _ _ i4 k hh;exact⟨e1,e2,e3,e4,k,hh⟩
theorem IZ(hC:YT l p bad p4 b4 kd id ix dp)(hk:kd=1∨kd=4)(h5:Got (eG false) aQ.Ok l p4 b4 p5 b5 n):Got (EM false) Me l p bad p5 b5 ⟨kd,id,ix,dp,n,⟨0,0,0,0⟩⟩:=fun y r hy hb hh=>by
 obtain⟨e1,e2,e3,e4,k,hh⟩:=hC y r hy hb hh;have hyk:y.kind=1∨y.kind=4:=e1▸hk;unfold Aa at hh;rw[azv hyk]at hh;obtain⟨e5,k,hh⟩:=h5 _ _ (hy.node hyk) k hh;exact⟨by rw[e1,e2,e3,e4,e5,←hy.color (by omega)],k,hh⟩
theorem abj(hC:YT l p bad p4 b4 kd id ix dp)(hk:kd=5)(h5:Got Px.pb (fun _=>True) l p4 b4 p5 b5 q):Got (EM false) Me l p bad p5 b5 ⟨kd,id,ix,dp,bK.key,q⟩:=fun y r hy hb hh=>by
 obtain⟨e1,e2,e3,e4,k,hh⟩:=hC y r hy hb hh;have hyk:y.kind=5:=e1▸hk;unfold Aa at hh;rw[azu (by omega),azv hyk]at hh;obtain⟨e5,k,hh⟩:=h5 _ _ trivial k hh;exact⟨by rw[e1,e2,e3,e4,e5,←hy.YS (by omega)],k,hh⟩
theorem aht(hC:YT l p bad p4 b4 kd id ix dp)(h1:¬kd=1)(h4:¬kd=4)(h5:¬kd=5):Got (EM false) Me l p bad p4 b4 ⟨kd,id,ix,dp,bK.key,⟨0,0,0,0⟩⟩:=fun y r hy hb hh=>by
 obtain⟨e1,e2,e3,e4,k,hh⟩:=hC y r hy hb hh;have g1:¬y.kind=1:=e1▸h1;have g4:¬y.kind=4:=e1▸h4;have g5:¬y.kind=5:=e1▸h5;unfold Aa at hh;rw[azu (by omega),azu g5,aAv]at hh;exact⟨by rw[e1,e2,e3,e4,←hy.YS (by omega),←hy.color g5],k,hh⟩
end
theorem Xl{w:World}{e:bn}(h:iF K w e)(hm:fD e.key=false)(hv:ji e.key=true→e.key.node.chk=0):Me e.key:=by
 have hc:∀k,e.key.kind=k→True:=fun _ _=>trivial;refine⟨⟨h.1,h.2.1,h.2.2.1,h.2.2.2.1⟩,fun hk=>?_,fun hk=>?_,fun hk=>?_⟩
 ·have:=hv (by unfold ji; simpa using hk);rw[show e.key.node=e.node.key from rfl,lq]at this;exact TD h.2.2.2.2 this
 ·unfold fD at hm;rw[azu (by omega),azu (by omega)]at hm;split at hm
  ·simp at hm; exact hm.2
  split at hm
  ·simp at hm; exact hm.2
  split at hm
  ·simp at hm; exact hm.2
  cases hm
 unfold fD at hm;split at hm
 ·simp at hm; exact hm.2
 split at hm
 ·simp at hm; exact hm.2
 split at hm
 ·simp at hm; exact hm.1
 split at hm
 ·simp at hm; exact hm.1.2
 first
  | cases hm
  | (split at hm
     · contradiction
     · cases hm)
def bn.zero:bn:=⟨0,0,0,0,bK,⟨0,0,0,0⟩⟩
def Xm(lb:List UInt8):Prop:=∀(K:Nat) (W:World) (e:bn),iF K W e→fD e.key=false→(ji e.key=true→e.key.node.chk=0)→lb≠fO.app (jW e.key)
def TM(base:Nat)(w:World)(lb:List UInt8)(v:Value)(er:Int):Prop:=
  (er=0∧∃e:bn,v=e.v∧Sx.aU base (fun W=>iF 5000 W e) w∧fD e.key=false∧(ji e.key=true→e.key.node.chk=0)∧e.node.t.least∧lb=fO.app (jW e.key)) ∨
  (er≠0∧v=bn.zero.v∧((er=4∧lb.length<4)∨(er=19∧4≤lb.length∧∀m,lb≠fO.app m)∨(er=3∧(∃m,lb=fO.app m)∧Xm lb)))
theorem Pn{lb m:List UInt8}(h:lb=fO.app m)(hm:¬m.take 3=[71,69,49]):Xm lb:=fun K W s hs h1 h2 e=>by
 rw[h]at e;have:=rC e;rw[this]at hm;exact hm rfl
theorem TN{base:Nat}{w:World}{e:dw}{v:Value}{er:Int}(h:TK base w e v er):∃bs,bJ w v bs∧((fD e=false∧(ji e=true→e.node.chk=0)∧bs=fO.app (jW e)∧er=0)∨(¬(fD e=false∧(ji e=true→e.node.chk=0))∧¬er=0)):=by
 rcases h with ⟨h1,rfl,h3⟩ | ⟨h1,h2,h3,rfl,h5⟩ | ⟨h1,h2,h3,h4⟩
 ·exact⟨[],eF (dH _ _ _),.inr ⟨fun h=>(by rw[h1]at h; exact absurd h.1 (by decide)),by omega⟩⟩
 ·exact⟨[],eF (dH _ _ _),.inr ⟨fun h=>h3 (h.2 h2),by omega⟩⟩
 exact⟨_,uI h3,.inl ⟨h1,h2,rfl,h4⟩⟩
theorem YU:bK.fits:=by obtain⟨-,h1,h2,h3,-⟩:=gI (K:=5000) default (by decide) (by decide); exact⟨h1,h2,h3,⟨.inl ⟨rfl,rfl,rfl,rfl⟩,.inl ⟨rfl,rfl,rfl,rfl⟩,.inl ⟨rfl,rfl,rfl,rfl⟩,.inl ⟨rfl,rfl,rfl,rfl⟩,.inl ⟨rfl,rfl,rfl,rfl⟩,.inl ⟨rfl,rfl,rfl,rfl⟩⟩⟩
theorem alq{w0 w:World}{b p cap:Nat}{a:Option Addr}{bad:Bool}{l:List UInt8}(hE:Ext w0 w)(hx:Bx w b #[.slice a l.length cap,.i p,.bool bad,.z])(hb:w0.heap.size≤b)(h:jr w0 (.slice a l.length cap) l)(hp:p≤l.length)(hll:l.length≤60000000) :
    Calls prog 82 #[.q b 0] w fun e w'=>∃(t:bn) (p':Nat) (d':Bool),e = .returned t.v∧(I64 t.kind∧I64 t.id∧I64 t.index∧I64 t.depth)∧t.node.fits∧Sx.aU w.heap.size (fun W=>t.node.ok W) w'∧Got (EM false) Me l p bad p' d' t.key∧J7 w0 w w' b a l cap false p' d':=by
 skip;refine azr func82 ntmps82 hE hx hb fun S=>ay2 S (fun u b2 E3 hb4 S=>?_);have hy1:=(((Ch.trans (Ch.refl b w) (Ch.aZ E3)))).size;refine ay2 S fun u b6 E7 hb8 S=>ay2 S fun u b11 qE acO S=>Sx.XY S 4 fun S=>ay8 S fun S=>adr S 5 [] [.mem 0 0] (fun S=>?_);have S:=S.fl;have y18:=(((Ch.trans (Ch.refl b w) (Ch.aZ (Ext.trans' E3 (Ext.trans' E7 qE)))))).size;refine aza S 3 rfl (jh S.E (S.bx 3) (S.old 3) h hp) ?_;rintro e u ⟨x18,p18,d18,rfl,YC,g18,OM,OO,uP,OQ⟩;refine⟨_,_,rfl,OO,uP,OQ,fun S=>?_⟩;have agX:=uP.size;have oM:=(aH ((Ch.trans (Ch.refl b w) (Ch.aZ (Ext.trans' E3 (Ext.trans' E7 qE))))) uP);refine azb S 1 rfl (fun u yG S=>?_);have uy:=(aH oM yG);refine ay8 S fun S=>adr S 5 [] [.mem 0 1] (fun S=>?_);have S:=S.fl;have y26:=(uy).size;refine aza S 3 rfl (jh S.E (S.bx 3) (S.old 3) h OM) ?_;rintro e u ⟨oI,p26,d26,rfl,i26,g26,aex,WX,IK,aey⟩;refine⟨_,_,rfl,WX,IK,aey,fun S=>?_⟩;have anm:=IK.size;have xY:=(aH uy IK);refine azb S 1 rfl (fun u PY S=>?_);have sU:=(aH xY PY);refine ay8 S fun S=>adr S 5 [] [.mem 0 2] (fun S=>?_);have S:=S.fl;have y34:=(sU).size;refine aza S 3 rfl (jh S.E (S.bx 3) (S.old 3) h aex) ?_;rintro e u ⟨x34,p34,d34,rfl,i34,g34,aez,aeA,IL,aeB⟩;refine⟨_,_,rfl,aeA,IL,aeB,fun S=>?_⟩;have ano:=IL.size;have Bz:=(aH sU IL);refine azb S 1 rfl (fun u JH S=>?_);have AU:=(aH Bz JH);refine ay8 S fun S=>adr S 5 [] [.mem 0 3] (fun S=>?_);have S:=S.fl;have y42:=(AU).size;refine aza S 3 rfl (jh S.E (S.bx 3) (S.old 3) h aez) ?_;rintro e u ⟨x42,p42,d42,rfl,i42,g42,aa2,akI,WY,akJ⟩;refine⟨_,_,rfl,akI,WY,akJ,fun S=>?_⟩;have ar6:=WY.size;have vW:=(aH AU WY);refine azb S 1 rfl (fun u C44 S=>?_);have qK:=(aH vW C44);refine azg S (fun S=>?_);have hcm:=ahs g18 g26 g34 g42;refine adr S 4 [] [.mem 1 0] fun S=>ay0 S ((x18)==1) (fun rP S=>?_) (fun rP S=>?_)
 ·refine ay0 S ((x18)==1) (fun Xi S=>?_) (fun Xi S=>?_)
  ·have S:=S.fl;have y54:=(qK).size;have awW:=(S.bx 0).1;have awX:=(S.bx 1).1;have awY:=(S.bx 2).1;have awZ:=(S.bx 3).1;refine aza S 3 rfl (W9 (hll:=hll) S.E (S.bx 3) (S.old 3) h aa2) ?_;rintro e u ⟨t54,p54,d54,rfl,aur,aus,g54,aut,auu,alr,auv⟩;refine⟨_,_,rfl,auu,alr,auv,fun S=>?_⟩;have ayO:=alr.size;have Rh:=(aH qK alr);refine ay4 S 1 rfl (fun u C56 S=>?_);have RJ:=(aH Rh C56);have Bc:=(aU.ch aus C56 (by omega));refine adr S 1 [] [.mem 1 0] fun S=>ay4 S 2 rfl (fun u Ux S=>?_);have Bv:=(aH RJ Ux);have Bf:=(aU.ch Bc Ux (by omega));have hG:=IZ hcm (.inl (by have:=rP; simpa using this)) g54;have S:=S.fl;refine azf S 2 rfl (v := .agg (Sx.L [.i x18,.i oI,.i x34,.i x42]++t54.cells++Sx.L [.u 0,.u 0,.u 0,.u 0]).toArray) (fun S=>?_);exact⟨⟨x18,oI,x34,x42,t54,⟨0,0,0,0⟩⟩,_,_,rfl,⟨YC,i26,i34,i42⟩,aur,(Sx.aU.le Bf (by omega)),hG,aut,S.E,Bv,S.kG 3⟩
  rw[rP]at Xi; cases Xi
 refine ay0 S ((x18)==4) (fun hc63 S=>?_) (fun hc63 S=>?_)
 ·have S:=S.fl;have y64:=(qK).size;have aw0:=(S.bx 0).1;have aw1:=(S.bx 1).1;have aw2:=(S.bx 2).1;have aw3:=(S.bx 3).1;refine aza S 3 rfl (W9 (hll:=hll) S.E (S.bx 3) (S.old 3) h aa2) ?_;rintro e u ⟨t64,p64,d64,rfl,auw,auy,g64,auz,auA,als,auB⟩;refine⟨_,_,rfl,auA,als,auB,fun S=>?_⟩;have ayP:=als.size;have RH:=(aH qK als);refine ay4 S 1 rfl (fun u C66 S=>?_);have GN:=(aH RH C66);have NP:=(aU.ch auy C66 (by omega));refine adr S 1 [] [.mem 1 0] fun S=>ay4 S 2 rfl (fun u C70 S=>?_);have aes:=(aH GN C70);have akZ:=(aU.ch NP C70 (by omega));have hG:=IZ hcm (.inr (by have:=hc63; simpa using this)) g64;have S:=S.fl;refine azf S 2 rfl (v := .agg (Sx.L [.i x18,.i oI,.i x34,.i x42]++t64.cells++Sx.L [.u 0,.u 0,.u 0,.u 0]).toArray) (fun S=>?_);exact⟨⟨x18,oI,x34,x42,t64,⟨0,0,0,0⟩⟩,_,_,rfl,⟨YC,i26,i34,i42⟩,auw,(Sx.aU.le akZ (by omega)),hG,auz,S.E,aes,S.kG 3⟩
 refine ay0 S ((x18)==5) (fun alu S=>?_) (fun alu S=>?_)
 ·have S:=S.fl;have y75:=(qK).size;refine aza S 3 rfl (Fh S.E (S.bx 3) (S.old 3) h aa2) ?_;rintro e u ⟨q75,p75,d75,rfl,g75,auC,auD,alv,auE⟩;refine⟨_,_,rfl,auD,alv,auE,fun S=>?_⟩;have ayQ:=alv.size;have Oi:=(aH qK alv);refine ay4 S 1 rfl (fun u C77 S=>?_);have Ol:=(aH Oi C77);refine adr S 1 [] [.mem 1 0] fun S=>ay4 S 2 rfl (fun u C80 S=>?_);have auF:=(aH Ol C80);have hG:=abj hcm (by have:=alu; simpa using this) g75;have S:=S.fl;refine azf S 2 rfl (v := .agg (Sx.L [.i x18,.i oI,.i x34,.i x42,.i 0,.i 0,.i 0]++Sx.za++Sx.L [.sn,.i 0,.u 0,.i 0,.z,.z,.sn,.i 0,.sn,.i 0,.i 0,.i 0,.i 0,.sn,.i 0,.sn,.i 0,.i 0,.sn,.i 0]++q75.cells).toArray) (fun S=>?_);exact⟨⟨x18,oI,x34,x42,bK,q75⟩,_,_,rfl,⟨YC,i26,i34,i42⟩,YU,(fun W _ _=>(gI (K:=20) W (by decide) (by decide)).1),hG,auC,S.E,auF,S.kG 3⟩
 refine adr S 1 [] [.mem 1 0] fun S=>ay4 S 2 rfl (fun u C83 S=>?_);have aeu:=(aH qK C83);have hG:=aht hcm (by have:=rP; simpa using this) (by have:=hc63; simpa using this) (by have:=alu; simpa using this);have S:=S.fl;refine azf S 2 rfl (v := .agg (Sx.L [.i x18,.i oI,.i x34,.i x42,.i 0,.i 0,.i 0]++Sx.za++Sx.L [.sn,.i 0,.u 0,.i 0,.z,.z,.sn,.i 0,.sn,.i 0,.i 0,.i 0,.i 0,.sn,.i 0,.sn,.i 0,.i 0,.sn,.i 0,.u 0,.u 0,.u 0,.u 0]).toArray) (fun S=>?_);exact⟨⟨x18,oI,x34,x42,bK,⟨0,0,0,0⟩⟩,_,_,rfl,⟨YC,i26,i34,i42⟩,YU,(fun W _ _=>(gI (K:=20) W (by decide) (by decide)).1),hG,aa2,S.E,aeu,S.kG 3⟩
theorem EN{w:World}{v:Value}{lb:List UInt8}(hg:dO w)(hv:jr w v lb)(hll:lb.length≤60000000) :
    Calls prog 49 #[v] w fun e w'=>∃v er,e = .returned (.tuple #[v,.i er])∧TM w.heap.size w' lb v er∧Ext w w':=by
 obtain⟨ad,ca,rfl⟩:=hv.shape;have hin:=hv;clear hv;refine ay3 func49 ntmps49 fun S=>ay2 S (fun u b2 E3 hb4 S=>?_);have alh:=(S.bx 0).1;have hEq:=S.E;refine aze S (LZ (c0:=71) (c1':=69) (c2:=49) (aJ.below hin S.E) hll) ?_;rintro e u ⟨pv,er,rfl,E6,hop⟩;refine⟨_,rfl,E6,fun S=>?_⟩;refine ay0 S ((er) != 0) (fun Jt S=>?_) (fun Jt S=>?_)
 ·have aeT:=hop.resolve_right (fun h=>absurd h.1 (by have:=Jt; simpa using this));refine ay4 S 0 rfl (fun u XW S=>?_);have hwy:TM w.heap.size u lb bn.zero.v er := .inr ⟨aeT.1,rfl,aeT.2.2.imp id (fun h=>h.imp id (fun h=>⟨h.1,by obtain⟨m,hm,-⟩:=h.2; exact⟨m,hm⟩,by obtain⟨m,hm,hn⟩:=h.2; exact Pn hm hn⟩))⟩;refine Sx.IX S 0 rfl (v:=bn.zero.v) (u := .i er) (fun S=>⟨_,_,rfl,hwy,S.E⟩)
 obtain⟨-,l,b,a,cap,wm,hlb,hm3,rfl,Xg,h,hws,hE1,hXr⟩:=hop.resolve_left (fun h=>h.1 (by have:=Jt; simpa using this));have he0:er=0:=by have:=Jt; simpa using this
 have hEw:Ext w wm:=Ext.trans' hEq Xg;have hs0:=hEw.size;have hs1:=Xg.size;have hl6:l.length≤60000000:=by have:=azH List.length hlb; rw[nS]at this; omega
 have hp0:3≤l.length:=by have:=azH List.length hm3; simp at this; omega
 have S:=S.adopt (A:=[.slice a l.length cap,.i (3:Nat),.z,.z]) hXr (by omega) (fun p hp=>by rcases azG.1 hp with rfl | hp; (have:=alh; intro e; simp only at e; omega); cases hp) (fun m hm=>by cases hm);have hEz:=Ext.trans' hEw hE1;have S:=S.fl;have y13:=((Ch.aZ (b:=b) hEz)).size;have aw4:=(S.bx 0).1;have aw5:=(S.bx 1).1;have hEr:=hE1;refine aza S 0 rfl (alq (hll:=hl6) hEr (S.bx 0) hws h hp0) ?_;rintro e u ⟨t13,p13,d13,rfl,TP,Xn,alx,g13,J8,zV,oG,Iw⟩;refine⟨_,_,rfl,(Ext.trans' hEw zV),oG,Iw,fun S=>?_⟩;have aed:=oG.size;have Nr:=zV.size;have zH:=zV;have oL:=(aH (Ch.aZ (b:=b) hEz) oG);refine ay2 S fun u b16 yE agd S=>ay4 S 0 rfl (fun u XV S=>?_);have xA:=ay5 yE XV;have BU:=ay5 yE XV;have NI:=ay5 yE XV;have alp:iF 5000 u t13:=⟨TP.1,TP.2.1,TP.2.2.1,TP.2.2.2,Fp (az8 ((azT alx NI))) Xn.1 Xn.2.1 Xn.2.2.1⟩;refine adr S 1 [] [.mem 0 0] fun S=>aze S (wR alp (dO.below hg S.E)) ?_;rintro e u ⟨v5,er5,rfl,hsc,Cm⟩;obtain⟨bs,hbs,hcs⟩:=TN hsc;refine⟨_,rfl,Cm,fun S=>?_⟩;refine adr S 5 [] [] fun S=>aAu S 14 [.mem 1 2] [(_,_,(!(d13||((er5) != 0))),.bool (bs==lb))] [(37,.bool ((d13||((er5) != 0))||(!(bs==lb))))] ⟨fun u hC g=>azp (kT _ _ bs lb u (((dB.below hbs hC))) (eF (aJ.below hin (Ext.trans' S.E hC)))),trivial⟩ fun u E27 S=>ay0 S ((d13||((er5) != 0))||(!(bs==lb))) (fun hc28 S=>?_) (fun hc28 S=>?_)
 ·refine ay4 S 2 rfl (fun u Jv S=>?_);have vV:=(aU.ch ((azT alx (Ext.trans' NI (Ext.trans' Cm E27)))) Jv (by omega));have hno:Xm lb:=fun K0 W0 s0 hs0 hm0 hv0 e=>by
   rw[hlb]at e;have hl:=rC e;obtain⟨g1,g2,-⟩:=g13 s0.key [] (Xl hs0 hm0 hv0) rfl (by rw[hl,aAA]; rfl);rw[g1]at hcs;rcases hcs with ⟨-,-,c2,c3⟩ | ⟨c1,-⟩
   ·rw[g2,c3,c2,hlb,hl]at hc28; simp at hc28
   exact c1 ⟨hm0,hv0⟩
  refine Sx.IX S 2 rfl (v:=bn.zero.v) (u := .i 3) (fun S=>⟨_,_,rfl,.inr ⟨by decide,rfl,.inr (.inr ⟨rfl,⟨l,hlb⟩,hno⟩)⟩,S.E⟩)
 refine adr S 1 [] [.mem 0 0] fun S=>ay4 S 2 rfl (fun u NK S=>?_);have CS:=(aU.ch ((azT alx (Ext.trans' NI (Ext.trans' Cm E27)))) NK (by omega));have hh:er5=0∧bs=lb:=by have:=hc28; simp at this; exact⟨this.1.2,this.2⟩
 have hfin:fD t13.key=false∧(ji t13.key=true→t13.key.node.chk=0)∧lb=fO.app (jW t13.key):=by rcases hcs with ⟨c1,c2,c3,c4⟩ | ⟨-,c3⟩; (exact⟨c1,c2,hh.2.symm.trans c3⟩); (exact absurd hh.1 c3)
 refine Sx.IX S 2 rfl (v:=bn.v t13) (u := .i 0) (fun S=>⟨_,_,rfl,.inl ⟨rfl,_,rfl,(aAs (Sx.aU.le CS (by omega)) fun W h=>⟨TP.1,TP.2.1,TP.2.2.1,TP.2.2.2,Fp h Xn.1 Xn.2.1 Xn.2.2.1⟩),hfin.1,hfin.2.1,Xn.2.2.2,hfin.2.2⟩,S.E⟩)
end
end Go.Proofs.YtodpgjjgaddkeaaGreatDoor
