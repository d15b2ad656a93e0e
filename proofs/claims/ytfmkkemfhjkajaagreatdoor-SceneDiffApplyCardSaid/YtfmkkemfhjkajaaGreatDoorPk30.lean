/- Writes into rows of one's own whose places alone are known: what stays. No program in sight. Nodes with default values: package node and reference 36. -/
import Derived.Test.YtfmkkemfhjkajaaGreatDoorOwn
import Derived.Test.YtfmkkemfhjkajaaGreatDoorPk25
section
namespace Go.Sx
open Go.Proofs.YtfmkkemfhjkajaaGreatDoor Go.RowKit Go.Rel
set_option linter.unusedVariables false
/-- Blocks below base are as they were; the others keep their type and size, and the cells that kp names. -/
structure Rl (kp:TypeId→Nat→Bool) (base:Nat) (w w':World):Prop where
 bel:Below base w w'
 obj:∀(g:Nat) (cur:Array Value) (e:TypeId),w.heap[g]?=some (.cells cur e (0,0))→∃cur':Array Value,w'.heap[g]?=some (.cells cur' e (0,0))∧cur'.size=cur.size∧∀i:Nat,kp e i=true→cur'[i]?=cur[i]?
section
variable{kp:TypeId→Nat→Bool}{base:Nat}{w w' w2:World}
theorem Rl.refl:Rl kp base w w:=⟨Below.refl _ _,fun g cur e h=>⟨cur,h,rfl,fun _ _=>rfl⟩⟩
theorem Rl.trans(h:Rl kp base w w')(k:Rl kp base w' w2):Rl kp base w w2:=⟨h.bel.trans k.bel,fun g cur e hg=>by
 obtain⟨c1,h1,h2,h3⟩:=h.obj g cur e hg
 obtain⟨c2,k1,k2,k3⟩:=k.obj g c1 e h1
 exact⟨c2,k1,k2.trans h2,fun i hi=>(k3 i hi).trans (h3 i hi)⟩⟩
theorem Rl.ext(h:Rl kp base w w')(hE:Ext w' w2)(hb:base≤w'.heap.size):Rl kp base w w2:=h.trans ⟨⟨hE.os,hE.tape,hE.output,hE.size,fun k hk=>hE.block k (Nat.lt_of_lt_of_le hk hb)⟩,fun g cur e hg=>⟨cur,(hE.block g (bx_obj hg).1).trans hg,rfl,fun _ _=>rfl⟩⟩
theorem Rl.set{g off:Nat}{cur:Array Value}{e:TypeId}{cs:List Value}(h:w.heap[g]?=some (.cells cur e (0,0)))(hb:base≤g)(hf:off+cs.length≤cur.size)(hk:∀j,j<cs.length→kp e (off+j)=false):Rl kp base w (w.setCells g off cs):=by
 have hc:Ch g w (w.setCells g off cs):=(Ch.refl g w).setCells cs off
 refine⟨hc.below hb (Nat.le_trans hb (Nat.le_of_lt (bx_obj h).1)),fun g' cur' e' hg'=>?_⟩
 by_cases hgg:g'=g
 ·subst hgg
  rw[h]at hg'
  simp only[Option.some.injEq,Obj.cells.injEq,and_true]at hg'
  obtain⟨rfl,rfl⟩:=hg'
  refine⟨_,setCells_obj g' e (0,0) cs off w cur h hf,by unfold spl; simp; omega,fun i hi=>?_⟩
  rw[List.getElem?_toArray]
  unfold spl
  rw[List.getElem?_append,List.getElem?_append]
  simp only[List.length_append,List.length_take,Array.length_toList,List.getElem?_take,List.getElem?_drop]
  rw[Nat.min_eq_left (by omega)]
  by_cases h1:i<off
  ·simp[h1,show i<off+cs.length by omega]
  ·by_cases h2:i<off+cs.length
   ·exfalso
    have:=hk (i-off) (by omega)
    rw[show off+(i-off)=i by omega,hi]at this
    cases this
   ·simp[h2,show off+cs.length+(i-(off+cs.length))=i by omega]
 ·exact⟨cur',(hc.block g' (bx_obj hg').1 fun e=>hgg (Option.some.inj e)).trans hg',rfl,fun _ _=>rfl⟩
/-- Where a row lies now. -/
theorem Ty.now{k n:Nat}{e:TypeId}{v:Value}(h:Ty e k base v n w)(hR:Rl kp base w w')(hn:0<n):∃g cap,v = .slice (some ⟨g,0,none⟩) n cap∧base≤g∧g<w.heap.size∧∃cur,w'.heap[g]?=some (.cells cur e (0,0))∧n*k≤cur.size:=by
 rcases h with h | ⟨g,cap,cur,h1,h2,h3,h4⟩
 ·omega
 ·obtain⟨c,h5,h6,-⟩:=hR.obj g cur e h3
  exact⟨g,cap,h1,h2,(bx_obj h3).1,c,h5,by rw[h6]; exact h4⟩
/-- Cells of a row that have stayed. -/
theorem RowT.now{α:Type}{k:Nat}{e:TypeId}{f:α→List Value}{v:Value}{L:List α}(h:RowT e k f base v L w)(hR:Rl kp base w w'){i:Nat}(hi:i<L.length)(j m:Nat){cs:List Value}(hm:j+cs.length≤k)(hc:((f L[i]).drop j).take cs.length=cs)(hk:∀q,q<cs.length→kp e (i*k+j+q)=true){g cap:Nat}(hv:v = .slice (some ⟨g,0,none⟩) L.length cap):w'.rangeAt g (0+i*k+j) cs:=by
 subst hv
 obtain⟨hrow,hty⟩:=h
 rcases hty with hty | ⟨g',cap',cur,h1,h2,h3,h4⟩
 ·omega
 ·simp only[Value.slice.injEq,Option.some.injEq,Addr.mk.injEq,and_true,true_and]at h1
  obtain⟨rfl,rfl⟩:=h1
  obtain⟨c,h5,h6,h7⟩:=hR.obj g cur e h3
  obtain⟨a,cp,hv,hm2,⟨rfl,_⟩ | ⟨b,o,rfl,hb,hl,hcell⟩⟩:=hrow
  ·simp at hi
  ·simp only[Value.slice.injEq,Option.some.injEq,Addr.mk.injEq,and_true,true_and]at hv
   obtain⟨⟨rfl,rfl⟩,rfl⟩:=hv
   intro q u hq
   have hql:q<cs.length:=by
    by_cases h:q<cs.length
    ·exact h
    ·rw[List.getElem?_eq_none (by omega)]at hq; cases hq
   have h8:=hcell i hi (j+q) (by omega)
   rw[(bx_obj h3).2.1]at h8
   have h9:=h7 (i*k+j+q) (hk q hql)
   rw[(bx_obj h5).2.1,show 0+i*k+j+q=i*k+j+q by omega,h9,show i*k+j+q=0+i*k+(j+q) by omega,h8]
   rw[←hc,List.getElem?_take_of_lt hql,List.getElem?_drop]at hq
   exact hq
variable{P:Program}{ops:Array Oper}{Q:Exit→Act→World→Prop}{w0:World}{a:Act}{os:List Oper}{n:Nat}{l:List (Nat×Value)}{bl:List (Nat×List Value)}{vs:List Mem1}
/-- A world cut off at base: what lies from base on counts as new. -/
def cut(base:Nat)(w:World):World:={ w with heap:=w.heap.extract 0 base }
theorem cut_size(hb:base≤w.heap.size):(cut base w).heap.size=base:=by unfold cut; simp; omega
theorem cut_ext(hb:base≤w.heap.size):Ext (cut base w) w:=⟨rfl,rfl,rfl,by rw[cut_size hb]; exact hb,fun k hk=>by
 rw[cut_size hb]at hk
 unfold cut
 rw[Array.getElem?_extract]
 simp; omega⟩
/-- A walk that may write from base on. -/
theorem St.from(S:St w a w n l [] [])(hb:base≤w.heap.size):St (cut base w) a w n l [] []:=⟨S.s,cut_ext hb,fun p hp=>(by cases hp),S.apart,fun m hm=>(by cases hm)⟩
end
end Go.Sx
end
section
namespace Go.Proofs.YtfmkkemfhjkajaaGreatDoor
open Go.RowKit
variable{α:Type}{K:Nat}
set_option linter.unusedVariables false
def groupD(id:Int)(t:AffD):NodeD:=⟨id,1,0,t,none,0,[],0,255,1,false,false,none,0,[],0,none,0,[],StyleD.bare,none,0,[],ImgD.bare,0⟩
def pix0:PixD:=⟨0,0,0,0⟩
def imageD(id:Int)(t:AffD)(b:Nat):NodeD:=⟨id,3,0,t,none,0,[],0,0,0,false,false,none,0,[],0,none,0,[],StyleD.bare,none,0,[],⟨1,1,some ⟨b,0,none⟩,1,[pix0]⟩,1⟩
/-- A transform in lowest terms with the identity's value. -/
def TI(w:World)(t:AffD):Prop:=t.ok w∧t.Is qI
theorem TI.below{w w':World}{t:AffD}(h:TI w t)(hE:Ext w w'):TI w' t:=⟨h.1.below hE,h.2⟩
theorem TI.setc{w w':World}{t:AffD}{b:Nat}{A:Array Value}(h:TI w t)(hc:Ch b w w')(hx:Bx w b A)(hA:A.toList.all noU32=true:=by rfl):TI w' t:=⟨h.1.setc hc hx hA,h.2⟩
theorem AffD.Is.q{t:AffD}{Q:Q6}(h:t.Is Q)(hn:Nrm6 Q):t.q=Q:=by
 obtain⟨n0,n1,n2,n3,n4,n5⟩:=hn
 obtain⟨⟨a0,b0,c0,d0⟩,⟨a1,b1,c1,d1⟩,⟨a2,b2,c2,d2⟩,⟨a3,b3,c3,d3⟩,⟨a4,b4,c4,d4⟩,⟨a5,b5,c5,d5⟩⟩:=h
 unfold AffD.q
 rw[rec_q a0 b0 c0 d0 n0,rec_q a1 b1 c1 d1 n1,rec_q a2 b2 c2 d2 n2,rec_q a3 b3 c3 d3 n3,rec_q a4 b4 c4 d4 n4,rec_q a5 b5 c5 d5 n5]
theorem AffD.Is.fit{t:AffD}{Q:Q6}{K:Nat}(h:t.Is Q)(hl:qlen6 K Q):t.fit K:=by
 obtain⟨l0,l1,l2,l3,l4,l5⟩:=hl
 obtain⟨h0,h1,h2,h3,h4,h5⟩:=h
 exact⟨rec_fit h0.2.1 h0.2.2.2 l0,rec_fit h1.2.1 h1.2.2.2 l1,rec_fit h2.2.1 h2.2.2.2 l2,rec_fit h3.2.1 h3.2.2.2 l3,rec_fit h4.2.1 h4.2.2.2 l4,rec_fit h5.2.1 h5.2.2.2 l5⟩
theorem aff_ti{base:Nat}{w:World}{v:Value}(h:IsAffT base w v qI):∃t:AffD,v=t.v∧TI w t:=by
 obtain⟨t,rfl,k⟩:=h.sT
 obtain⟨r,e,ho,hi⟩:=no_rec k
 exact⟨r,e,ho,hi⟩
/-- A node with default values. -/
def IsDef(w:World)(id kind:Int)(nd:NodeD):Prop:=
 (kind=1∧∃t,TI w t∧nd=groupD id t)∨(kind=2∧∃t,TI w t∧nd=shapeD id t)∨(kind=3∧∃t b,TI w t∧Bx w b #[.int .u8 0,.int .u8 0,.int .u8 0,.int .u8 0]∧nd=imageD id t b)∨((kind≠1∧kind≠2∧kind≠3)∧nd=nodeD0)
theorem IsDef.below{w w':World}{id kind:Int}{nd:NodeD}(h:IsDef w id kind nd)(hE:Ext w w'):IsDef w' id kind nd:=by
 rcases h with ⟨e,t,ht,h⟩ | ⟨e,t,ht,h⟩ | ⟨e,t,b,ht,hb,h⟩ | h
 ·exact .inl ⟨e,t,ht.below hE,h⟩
 ·exact .inr (.inl ⟨e,t,ht.below hE,h⟩)
 ·exact .inr (.inr (.inl ⟨e,t,b,ht.below hE,hb.ext hE,h⟩))
 ·exact .inr (.inr (.inr h))
theorem IsDef.setc{w w':World}{id kind:Int}{nd:NodeD}{b:Nat}{A:Array Value}(h:IsDef w id kind nd)(hc:Ch b w w')(hx:Bx w b A)(hA:A.toList.all noU32=true:=by rfl)(h4:decide (4<A.size)=true:=by kernel_rfl):IsDef w' id kind nd:=by
 rcases h with ⟨e,t,ht,h⟩ | ⟨e,t,ht,h⟩ | ⟨e,t,c,ht,hb,h⟩ | h
 ·exact .inl ⟨e,t,ht.setc hc hx hA,h⟩
 ·exact .inr (.inl ⟨e,t,ht.setc hc hx hA,h⟩)
 ·exact .inr (.inr (.inl ⟨e,t,c,ht.setc hc hx hA,hb.ch hc (fun e=>by subst e; have h1:=hb.2.1 4; have h2:=hx.2.1 4; rw[h1]at h2; have h3:=of_decide_eq_true h4; simp at h2; omega),h⟩))
 ·exact .inr (.inr (.inr h))
set_option maxRecDepth 100000 in
set_option maxHeartbeats 3200000 in
theorem nodeDefault_any(id kind:Int)(w:World) :
  Calls Tryz.prog 80 #[.int .i64 id,.int .i64 kind] w fun e w'=>∃nd,e = .returned (NodeD.v nd)∧IsDef w' id kind nd∧Ext w w':=by
 skip
 refine Sx.enter Tryz.func80 Tryz.ntmps80 fun ac S=>Sx.seqP fun _ κ1=>Sx.newp S 4 (Sx.L [.int .i64 0,.int .i64 0,.int .i64 0]++Sx.za++Sx.L [.slice none 0 0,.int .i64 0,.int .u8 0,.int .i64 0,.bool false,.bool false,.slice none 0 0,.int .i64 0,.slice none 0 0,.int .i64 0,.int .i64 0,.int .i64 0,.int .i64 0,.slice none 0 0,.int .i64 0,.slice none 0 0,.int .i64 0,.int .i64 0,.slice none 0 0,.int .i64 0]) fun ac u b2 E3 hb4 S=>Sx.done<|κ1 _ _<|Sx.seqP fun _ κ5=>Sx.run S 2 [] [(6,.int .i64 id),(7,.int .i64 kind)] fun ac S=>Sx.callG S (some 8) (identity_q _) ?_
 rintro e u ⟨y,rfl,hx,E6⟩
 obtain⟨t,rfl,ht⟩:=aff_ti hx
 refine⟨_,rfl,E6,fun ac S=>?_⟩
 refine Sx.run S 1 [] [(9,.agg (Sx.L [.int .i64 id,.int .i64 kind,.int .i64 0]++t.cells++Sx.L [.slice none 0 0,.int .i64 0,.int .u8 0,.int .i64 0,.bool false,.bool false,.slice none 0 0,.int .i64 0,.slice none 0 0,.int .i64 0,.int .i64 0,.int .i64 0,.int .i64 0,.slice none 0 0,.int .i64 0,.slice none 0 0,.int .i64 0,.int .i64 0,.slice none 0 0,.int .i64 0]).toArray)] fun ac S=>Sx.newp S 5 (Sx.L [.int .i64 0,.int .i64 0,.int .i64 0]++Sx.za++Sx.L [.slice none 0 0,.int .i64 0,.int .u8 0,.int .i64 0,.bool false,.bool false,.slice none 0 0,.int .i64 0,.slice none 0 0,.int .i64 0,.int .i64 0,.int .i64 0,.int .i64 0,.slice none 0 0,.int .i64 0,.slice none 0 0,.int .i64 0,.int .i64 0,.slice none 0 0,.int .i64 0]) fun ac u b7 E8 hb9 S=>Sx.store S 0 (off:=0) (cs:=(Sx.L [.int .i64 id,.int .i64 kind,.int .i64 0]++t.cells++Sx.L [.slice none 0 0,.int .i64 0,.int .u8 0,.int .i64 0,.bool false,.bool false,.slice none 0 0,.int .i64 0,.slice none 0 0,.int .i64 0,.int .i64 0,.int .i64 0,.int .i64 0,.slice none 0 0,.int .i64 0,.slice none 0 0,.int .i64 0,.int .i64 0,.slice none 0 0,.int .i64 0])) rfl (fun u C10 S=>?_)
 have E11:=Sx.ext_ch E8 C10 (by omega)
 refine Sx.done<|κ5 _ _<|wp_seq_k fun _ κ12=>Sx.seqP fun _ κ13=>Sx.run S 1 [] [(10,.int .i64 kind)] fun ac S=>Sx.done<|κ13 _ _<|wp_block<|Sx.seqP fun _ κ14=>Sx.run S 2 [] [(12,.bool ((kind)==1))] fun ac S=>Sx.done (κ14 _ _ ?_)
 refine Sx.cond S (fun hc15=>?_) (fun hc15=>?_)
 ·refine Vp.region<|Sx.run S 1 [] [(14,.pointer (some ⟨b7,29,none⟩))] fun ac S=>Sx.store1 S 0 (off:=29) (v := .int .u8 255) rfl (fun u C16 S=>?_)
  have E17:=Sx.ext_ch E11 C16 (by omega)
  refine Sx.run S 1 [] [(15,.pointer (some ⟨b7,30,none⟩))] fun ac S=>Sx.store1 S 0 (off:=30) (v := .int .i64 1) rfl (fun u C18 S=>?_)
  have E19:=Sx.ext_ch E17 C18 (by omega)
  refine Sx.done<|κ12 _ _<|Sx.seqP fun _ κ20=>Sx.run S 1 [.mem 0 0] [(25,.agg (Sx.L [.int .i64 id,.int .i64 kind,.int .i64 0]++t.cells++Sx.L [.slice none 0 0,.int .i64 0,.int .u8 255,.int .i64 1,.bool false,.bool false,.slice none 0 0,.int .i64 0,.slice none 0 0,.int .i64 0,.int .i64 0,.int .i64 0,.int .i64 0,.slice none 0 0,.int .i64 0,.slice none 0 0,.int .i64 0,.int .i64 0,.slice none 0 0,.int .i64 0]).toArray)] (fun ac S=>?_)
  have X22:=S.bx 1
  refine Sx.store S 1 (off:=0) (cs:=(Sx.L [.int .i64 id,.int .i64 kind,.int .i64 0]++t.cells++Sx.L [.slice none 0 0,.int .i64 0,.int .u8 255,.int .i64 1,.bool false,.bool false,.slice none 0 0,.int .i64 0,.slice none 0 0,.int .i64 0,.int .i64 0,.int .i64 0,.int .i64 0,.slice none 0 0,.int .i64 0,.slice none 0 0,.int .i64 0,.int .i64 0,.slice none 0 0,.int .i64 0])) rfl (fun u C21 S=>?_)
  have Fs23:=TI.setc (ht.below E19) C21 X22
  refine Sx.done<|κ20 _ _<|Vp.rt ?_
  refine Sx.retc S 1 Tryz.results80 rfl (v := .agg (Sx.L [.int .i64 id,.int .i64 kind,.int .i64 0]++t.cells++Sx.L [.slice none 0 0,.int .i64 0,.int .u8 255,.int .i64 1,.bool false,.bool false,.slice none 0 0,.int .i64 0,.slice none 0 0,.int .i64 0,.int .i64 0,.int .i64 0,.int .i64 0,.slice none 0 0,.int .i64 0,.slice none 0 0,.int .i64 0,.int .i64 0,.slice none 0 0,.int .i64 0]).toArray) ?_
  have e:kind=1:=(by simpa using hc15)
  subst e
  exact⟨groupD id t,rfl,.inl ⟨rfl,t,Fs23,rfl⟩,S.E⟩
 ·refine Sx.seqP fun _ κ24=>Sx.run S 2 [] [(16,.bool ((kind)==2))] fun ac S=>Sx.done (κ24 _ _ ?_)
  refine Sx.cond S (fun hc25=>?_) (fun hc25=>?_)
  ·refine Vp.region<|Sx.run S 1 [] [(18,.pointer (some ⟨b7,34,none⟩))] fun ac S=>Sx.store1 S 0 (off:=34) (v := .int .i64 1) rfl (fun u C26 S=>?_)
   have E27:=Sx.ext_ch E11 C26 (by omega)
   refine Sx.done<|κ12 _ _<|Sx.seqP fun _ κ28=>Sx.run S 1 [.mem 0 0] [(25,.agg (Sx.L [.int .i64 id,.int .i64 kind,.int .i64 0]++t.cells++Sx.L [.slice none 0 0,.int .i64 0,.int .u8 0,.int .i64 0,.bool false,.bool false,.slice none 0 0,.int .i64 1,.slice none 0 0,.int .i64 0,.int .i64 0,.int .i64 0,.int .i64 0,.slice none 0 0,.int .i64 0,.slice none 0 0,.int .i64 0,.int .i64 0,.slice none 0 0,.int .i64 0]).toArray)] (fun ac S=>?_)
   have X30:=S.bx 1
   refine Sx.store S 1 (off:=0) (cs:=(Sx.L [.int .i64 id,.int .i64 kind,.int .i64 0]++t.cells++Sx.L [.slice none 0 0,.int .i64 0,.int .u8 0,.int .i64 0,.bool false,.bool false,.slice none 0 0,.int .i64 1,.slice none 0 0,.int .i64 0,.int .i64 0,.int .i64 0,.int .i64 0,.slice none 0 0,.int .i64 0,.slice none 0 0,.int .i64 0,.int .i64 0,.slice none 0 0,.int .i64 0])) rfl (fun u C29 S=>?_)
   have Fs31:=TI.setc (ht.below E27) C29 X30
   refine Sx.done<|κ28 _ _<|Vp.rt ?_
   refine Sx.retc S 1 Tryz.results80 rfl (v := .agg (Sx.L [.int .i64 id,.int .i64 kind,.int .i64 0]++t.cells++Sx.L [.slice none 0 0,.int .i64 0,.int .u8 0,.int .i64 0,.bool false,.bool false,.slice none 0 0,.int .i64 1,.slice none 0 0,.int .i64 0,.int .i64 0,.int .i64 0,.int .i64 0,.slice none 0 0,.int .i64 0,.slice none 0 0,.int .i64 0,.int .i64 0,.slice none 0 0,.int .i64 0]).toArray) ?_
   have e:kind=2:=(by simpa using hc25)
   subst e
   exact⟨shapeD id t,rfl,.inr (.inl ⟨rfl,t,Fs31,rfl⟩),S.E⟩
  ·refine Sx.seqP fun _ κ32=>Sx.run S 2 [] [(19,.bool ((kind)==3))] fun ac S=>Sx.done (κ32 _ _ ?_)
   refine Sx.cond S (fun hc33=>?_) (fun hc33=>?_)
   ·refine Vp.region<|Sx.news S 21 1 [.int .u8 0,.int .u8 0,.int .u8 0,.int .u8 0] fun ac u b34 E35 hb36 S=>Sx.run S 2 [] [(22,.agg #[.int .i64 1,.int .i64 1,.slice (some ⟨b34,0,none⟩) 1 1]),(23,.pointer (some ⟨b7,43,none⟩))] fun ac S=>Sx.store S 1 (off:=43) (cs:=[.int .i64 1,.int .i64 1,.slice (some ⟨b34,0,none⟩) 1 1]) rfl (fun u C37 S=>?_)
    have E38:=Sx.ext_ch (Ext.trans' E11 E35) C37 (by omega)
    refine Sx.run S 1 [] [(24,.pointer (some ⟨b7,46,none⟩))] fun ac S=>Sx.store1 S 1 (off:=46) (v := .int .i64 1) rfl (fun u C39 S=>?_)
    have E40:=Sx.ext_ch E38 C39 (by omega)
    refine Sx.done<|κ12 _ _<|Sx.seqP fun _ κ41=>Sx.run S 1 [.mem 1 0] [(25,.agg (Sx.L [.int .i64 id,.int .i64 kind,.int .i64 0]++t.cells++Sx.L [.slice none 0 0,.int .i64 0,.int .u8 0,.int .i64 0,.bool false,.bool false,.slice none 0 0,.int .i64 0,.slice none 0 0,.int .i64 0,.int .i64 0,.int .i64 0,.int .i64 0,.slice none 0 0,.int .i64 0,.slice none 0 0,.int .i64 1,.int .i64 1,.slice (some ⟨b34,0,none⟩) 1 1,.int .i64 1]).toArray)] (fun ac S=>?_)
    have X43:=S.bx 2
    refine Sx.store S 2 (off:=0) (cs:=(Sx.L [.int .i64 id,.int .i64 kind,.int .i64 0]++t.cells++Sx.L [.slice none 0 0,.int .i64 0,.int .u8 0,.int .i64 0,.bool false,.bool false,.slice none 0 0,.int .i64 0,.slice none 0 0,.int .i64 0,.int .i64 0,.int .i64 0,.int .i64 0,.slice none 0 0,.int .i64 0,.slice none 0 0,.int .i64 1,.int .i64 1,.slice (some ⟨b34,0,none⟩) 1 1,.int .i64 1])) rfl (fun u C42 S=>?_)
    have Fs44:=TI.setc (ht.below E40) C42 X43
    refine Sx.done<|κ41 _ _<|Vp.rt ?_
    refine Sx.retc S 2 Tryz.results80 rfl (v := .agg (Sx.L [.int .i64 id,.int .i64 kind,.int .i64 0]++t.cells++Sx.L [.slice none 0 0,.int .i64 0,.int .u8 0,.int .i64 0,.bool false,.bool false,.slice none 0 0,.int .i64 0,.slice none 0 0,.int .i64 0,.int .i64 0,.int .i64 0,.int .i64 0,.slice none 0 0,.int .i64 0,.slice none 0 0,.int .i64 1,.int .i64 1,.slice (some ⟨b34,0,none⟩) 1 1,.int .i64 1]).toArray) ?_
    have e:kind=3:=(by simpa using hc33)
    subst e
    exact⟨imageD id t b34,rfl,.inr (.inr (.inl ⟨rfl,t,b34,Fs44,S.bx 0,rfl⟩)),S.E⟩
   ·refine Sx.seqP fun _ κ45=>Sx.run S 1 [] [(11,.agg (Sx.L [.int .i64 0,.int .i64 0,.int .i64 0]++Sx.za++Sx.L [.slice none 0 0,.int .i64 0,.int .u8 0,.int .i64 0,.bool false,.bool false,.slice none 0 0,.int .i64 0,.slice none 0 0,.int .i64 0,.int .i64 0,.int .i64 0,.int .i64 0,.slice none 0 0,.int .i64 0,.slice none 0 0,.int .i64 0,.int .i64 0,.slice none 0 0,.int .i64 0]).toArray)] (fun ac S=>?_)
    have X47:=S.bx 1
    refine Sx.store S 1 (off:=0) (cs:=(Sx.L [.int .i64 0,.int .i64 0,.int .i64 0]++Sx.za++Sx.L [.slice none 0 0,.int .i64 0,.int .u8 0,.int .i64 0,.bool false,.bool false,.slice none 0 0,.int .i64 0,.slice none 0 0,.int .i64 0,.int .i64 0,.int .i64 0,.int .i64 0,.slice none 0 0,.int .i64 0,.slice none 0 0,.int .i64 0,.int .i64 0,.slice none 0 0,.int .i64 0])) rfl (fun u C46 S=>?_)
    have Fs48:=TI.setc (ht.below E11) C46 X47
    refine Sx.done<|κ45 _ _<|Vp.rt ?_
    refine Sx.retc S 1 Tryz.results80 rfl (v := .agg (Sx.L [.int .i64 0,.int .i64 0,.int .i64 0]++Sx.za++Sx.L [.slice none 0 0,.int .i64 0,.int .u8 0,.int .i64 0,.bool false,.bool false,.slice none 0 0,.int .i64 0,.slice none 0 0,.int .i64 0,.int .i64 0,.int .i64 0,.int .i64 0,.slice none 0 0,.int .i64 0,.slice none 0 0,.int .i64 0,.int .i64 0,.slice none 0 0,.int .i64 0]).toArray) ?_
    exact⟨nodeD0,rfl,.inr (.inr (.inr ⟨⟨(by simpa using hc15),(by simpa using hc25),(by simpa using hc33)⟩,rfl⟩)),S.E⟩
end Go.Proofs.YtfmkkemfhjkajaaGreatDoor
end
