/- Walks of package rational: Normalize, lowest, cross, Mul by value. -/
import Derived.Test.YtfmkkemfhjkajaaGreatDoorPk10
set_option maxHeartbeats 3200000
set_option maxRecDepth 100000
namespace Go.Proofs.YtfmkkemfhjkajaaGreatDoor
open Go.RowKit
variable{α:Type}
set_option linter.unusedVariables false
attribute [local go_sem] Go.Rel.valOf
/-- Normalize by value. -/
theorem ratNorm_q(v:Value)(q:Bool×Nat×Nat)(K:Nat)(w:World)(h:IsRatQ K w v q)(hK:K≤1000000) :
    Calls Tryz.prog 180 #[v] w fun e w'=>∃x,e = .returned x∧IsRatT w.heap.size w' x q∧Ext w w':=by
  obtain⟨n1,s1,l1,n2,s2,l2,rfl,h1,h2,h3,h4,rfl⟩:=h
  exact ratNormalize_any n1 n2 s1 s2 l1 l2 w h1 h2 (by omega) (by omega)
/-- lowest by value. -/
theorem ratLow_q(v1 v2:Value)(z:Int)(d K:Nat)(w:World)(h1:IsIntQ K w v1 z)(h2:IsIntQ K w v2 (d:Int))(hd:0<d)(hK:K≤1000000) :
    Calls Tryz.prog 222 #[v1,v2] w fun e w'=>∃x,e = .returned x∧IsRatT w.heap.size w' x (nz z d)∧Ext w w':=by
  obtain⟨n1,s1,l,rfl,h1,hl,rfl⟩:=h1
  obtain⟨n2,s2,m,rfl,h2,hm,hz⟩:=h2
  obtain⟨rfl,rfl⟩:n2=false∧Na.val m=d:=by
    unfold zv at hz
    cases n2
    · simp only[Bool.false_eq_true,if_false]at hz; exact⟨rfl,by omega⟩
    · simp only[if_true]at hz; omega
  have h:=lowest_any n1 false s1 s2 l m w h1 h2 hd (by omega) (by omega)
  rw[←nrm_zv]
  unfold nrm
  rw[if_neg (by omega)]
  exact h
theorem ratCross_q(v1 v2:Value)(q1 q2:Bool×Nat×Nat)(K1 K2:Nat)(w:World)(h1:IsRatQ K1 w v1 q1)(h2:IsRatQ K2 w v2 q2)(hK1:1≤K1)(hK2:1≤K2)(hM1:K1≤100000)(hM2:K2≤100000) :
    Calls Tryz.prog 181 #[v1,v2] w fun e w'=>∃x y d,e = .returned (.tuple #[x,y,d])∧IsZ w.heap.size w' x (qz q1*(q2.2.2:Int))∧IsZ w.heap.size w' y (qz q2*(q1.2.2:Int))∧IsZ w.heap.size w' d ((q1.2.2:Int)*(q2.2.2:Int))∧Ext w w':=by
  obtain⟨n1,a1,m1,c1,o1,b1,k1,d1,rfl⟩:=h1.shape
  obtain⟨n2,a2,m2,c2,o2,b2,k2,d2,rfl⟩:=h2.shape
  obtain⟨W,hW⟩:∃W,(((((w.alloc (.cells #[.bool n1,.slice a1 m1 c1,.bool o1,.slice b1 k1 d1] 31)).alloc (.cells #[.bool n2,.slice a2 m2 c2,.bool o2,.slice b2 k2 d2] 31)).alloc (.cells #[.bool false,.slice none 0 0] 29)).alloc (.cells #[.bool false,.slice none 0 0] 29)).alloc (.cells #[.bool false,.slice none 0 0] 29))=W:=⟨_,rfl⟩
  have hb0:Ext w W:=by rw[←hW]; exact((((below_alloc w _).alloc (by simp) _).alloc (by simp; omega) _).alloc (by simp; omega) _).alloc (by simp; omega) _
  have X1:Hid (Bx W (w.heap.size) #[.bool n1,.slice a1 m1 c1,.bool o1,.slice b1 k1 d1]):=by
    have h:=((((bx_new w #[.bool n1,.slice a1 m1 c1,.bool o1,.slice b1 k1 d1] 31).al (.cells #[.bool n2,.slice a2 m2 c2,.bool o2,.slice b2 k2 d2] 31)).al (.cells #[.bool false,.slice none 0 0] 29)).al (.cells #[.bool false,.slice none 0 0] 29)).al (.cells #[.bool false,.slice none 0 0] 29)
    rw[hW]at h; exact Lib.hid (by simpa only[World.size_alloc]using h)
  have X2:Hid (Bx W (w.heap.size+1) #[.bool n2,.slice a2 m2 c2,.bool o2,.slice b2 k2 d2]):=by
    have h:=(((bx_new (w.alloc (.cells #[.bool n1,.slice a1 m1 c1,.bool o1,.slice b1 k1 d1] 31)) #[.bool n2,.slice a2 m2 c2,.bool o2,.slice b2 k2 d2] 31).al (.cells #[.bool false,.slice none 0 0] 29)).al (.cells #[.bool false,.slice none 0 0] 29)).al (.cells #[.bool false,.slice none 0 0] 29)
    rw[hW]at h; exact Lib.hid (by simpa only[World.size_alloc]using h)
  have Z0:Hid (Bx W (w.heap.size+1+1) #[.bool false,.slice none 0 0]):=by
    have h:=((bx_new ((w.alloc (.cells #[.bool n1,.slice a1 m1 c1,.bool o1,.slice b1 k1 d1] 31)).alloc (.cells #[.bool n2,.slice a2 m2 c2,.bool o2,.slice b2 k2 d2] 31)) #[.bool false,.slice none 0 0] 29).al (.cells #[.bool false,.slice none 0 0] 29)).al (.cells #[.bool false,.slice none 0 0] 29)
    rw[hW]at h; exact Lib.hid (by simpa only[World.size_alloc]using h)
  have Z1:Hid (Bx W (w.heap.size+1+1+1) #[.bool false,.slice none 0 0]):=by
    have h:=(bx_new (((w.alloc (.cells #[.bool n1,.slice a1 m1 c1,.bool o1,.slice b1 k1 d1] 31)).alloc (.cells #[.bool n2,.slice a2 m2 c2,.bool o2,.slice b2 k2 d2] 31)).alloc (.cells #[.bool false,.slice none 0 0] 29)) #[.bool false,.slice none 0 0] 29).al (.cells #[.bool false,.slice none 0 0] 29)
    rw[hW]at h; exact Lib.hid (by simpa only[World.size_alloc]using h)
  have Z2:Hid (Bx W (w.heap.size+1+1+1+1) #[.bool false,.slice none 0 0]):=by
    have h:=bx_new ((((w.alloc (.cells #[.bool n1,.slice a1 m1 c1,.bool o1,.slice b1 k1 d1] 31)).alloc (.cells #[.bool n2,.slice a2 m2 c2,.bool o2,.slice b2 k2 d2] 31)).alloc (.cells #[.bool false,.slice none 0 0] 29)).alloc (.cells #[.bool false,.slice none 0 0] 29)) #[.bool false,.slice none 0 0] 29
    rw[hW]at h; exact Lib.hid (by simpa only[World.size_alloc]using h)
  have H1:=Lib.hid (h1.below hb0)
  have HQ1:=Lib.hid (h1.len hK1)
  have HN1:=Lib.hid h1.nrm
  have HP1:=Lib.hid h1.pos
  have H2:=Lib.hid (h2.below hb0)
  have HQ2:=Lib.hid (h2.len hK2)
  have HN2:=Lib.hid h2.nrm
  have HP2:=Lib.hid h2.pos
  have HB0:=Lib.hid hb0
  have HW:=Lib.hid hW
  clear hb0 hW h1 h2
  have hb0w:Hid (w.heap.size+1+1+1+1<W.heap.size):=Z2.out.1
  go_enter Tryz.func181,Tryz.ntmps181
  go_wp2_with fail
  rw[HW.out]
  refine Go.Rel.wp_region 4 (by kernel_rfl) (by kernel_rfl) Ext (fun w'=>Ext W w')
    [Rel.is (.agg #[.bool n1,.slice a1 m1 c1,.bool o1,.slice b1 k1 d1]),
   fun v w'=>IsRatT W.heap.size w' v q1,
   Rel.is (.agg #[.bool n2,.slice a2 m2 c2,.bool o2,.slice b2 k2 d2]),
   fun v w'=>IsRatT W.heap.size w' v q2]
    ?_ ?_ ?_ ⟨?_,?_,?_,?_,trivial⟩ ?_
  · exact below_drewN (Below.refl _ _) 1
  · exact fun _ _ h k=>Ext.trans' h k
  · exact Rel.Monos.mem ⟨Rel.mono_is _,fun _ _ _ k h=>h.ext k,Rel.mono_is _,fun _ _ _ k h=>h.ext k,trivial⟩
  · intro ρ w' hs ho hC hd
    have h2:ρ (.tmp 2) = .pointer (some ⟨w.heap.size,0,none⟩):=ho 2 rfl
    exact Rel.does_load (cs:=[.bool n1,.slice a1 m1 c1,.bool o1,.slice b1 k1 d1]) rfl h2 (X1.out.ext hC) rfl rfl Tryz.underlying31 rfl (by kernel_rfl) Ext.rfl' rfl
  · intro ρ w' hs ho hC hd
    have h7:ρ (.tmp 7) = .agg #[.bool n1,.slice a1 m1 c1,.bool o1,.slice b1 k1 d1]:=hd.1 rfl
    refine Rel.does_call (f:=180) (args := #[.agg #[.bool n1,.slice a1 m1 c1,.bool o1,.slice b1 k1 d1]]) (by simp[go_sem,hs.func,h7]) ?_
    refine(ratNorm_q _ q1 K1 w' (H1.out.below hC) (by omega)).mono ?_
    rintro e w'' ⟨x,rfl,hx,hb⟩
    exact⟨_,rfl,hb,hx.mono hC.size⟩
  · intro ρ w' hs ho hC hd
    have h3:ρ (.tmp 3) = .pointer (some ⟨w.heap.size+1,0,none⟩):=ho 3 rfl
    exact Rel.does_load (cs:=[.bool n2,.slice a2 m2 c2,.bool o2,.slice b2 k2 d2]) rfl h3 (X2.out.ext hC) rfl rfl Tryz.underlying31 rfl (by kernel_rfl) Ext.rfl' rfl
  · intro ρ w' hs ho hC hd
    have h9:ρ (.tmp 9) = .agg #[.bool n2,.slice a2 m2 c2,.bool o2,.slice b2 k2 d2]:=hd.1 rfl
    refine Rel.does_call (f:=180) (args := #[.agg #[.bool n2,.slice a2 m2 c2,.bool o2,.slice b2 k2 d2]]) (by simp[go_sem,hs.func,h9]) ?_
    refine(ratNorm_q _ q2 K2 w' (H2.out.below hC) (by omega)).mono ?_
    rintro e w'' ⟨x,rfl,hx,hb⟩
    exact⟨_,rfl,hb,hx.mono hC.size⟩
  · intro w' hC
    rintro _ rfl v1 h1 _ rfl v3 h3
    change wpList _ _ _ (List.drop 4 _) _ _
    simp only[List.drop_succ_cons,List.drop_zero]
    obtain⟨x1,e1,y1,f1,rfl⟩:=h1.shape
    obtain⟨x2,e2,y2,f2,rfl⟩:=h3.shape
    have HX:=Ext.trans' HB0.out hC
    have u1:=X1.out.ext hC
    have u2:=X2.out.ext hC
    have W0:=hb0w.out
    simp only[Go.Act.put,List.setIfInBounds_toArray,List.set_cons_succ,List.set_cons_zero]
    refine wpList_store_mid rfl 31 (.tmp 2) (.tmp 8) rfl (w.heap.size) 0 #[.bool q1.1,.slice x1 (Na.digs q1.2.1).length e1,.bool false,.slice y1 (Na.digs q1.2.2).length f1] rfl rfl (u1.there rfl) (by kernel_rfl) (by simp[Value.oneCell']) ?_
    refine wpList_store_mid rfl 31 (.tmp 3) (.tmp 10) rfl (w.heap.size+1) 0 #[.bool q2.1,.slice x2 (Na.digs q2.2.1).length e2,.bool false,.slice y2 (Na.digs q2.2.2).length f2] rfl rfl ((u2.set_ne (by omega) _ _).there rfl) (by kernel_rfl) (by simp[Value.oneCell']) ?_
    obtain⟨W2,hW2⟩:∃W2,(w'.setCells (w.heap.size) 0 [.bool q1.1,.slice x1 (Na.digs q1.2.1).length e1,.bool false,.slice y1 (Na.digs q1.2.2).length f1]).setCells (w.heap.size+1) 0 [.bool q2.1,.slice x2 (Na.digs q2.2.1).length e2,.bool false,.slice y2 (Na.digs q2.2.2).length f2]=W2:=⟨_,rfl⟩
    have v1:=(u1.set [.bool q1.1,.slice x1 (Na.digs q1.2.1).length e1,.bool false,.slice y1 (Na.digs q1.2.2).length f1] rfl).set_ne (c:=w.heap.size+1) (by omega) [.bool q2.1,.slice x2 (Na.digs q2.2.1).length e2,.bool false,.slice y2 (Na.digs q2.2.2).length f2] 0
    have v2:=(u2.set_ne (c:=w.heap.size) (by omega) [.bool q1.1,.slice x1 (Na.digs q1.2.1).length e1,.bool false,.slice y1 (Na.digs q1.2.2).length f1] 0).set [.bool q2.1,.slice x2 (Na.digs q2.2.1).length e2,.bool false,.slice y2 (Na.digs q2.2.2).length f2] rfl
    have g1:=(h1.set (c:=w.heap.size) (by omega) [.bool q1.1,.slice x1 (Na.digs q1.2.1).length e1,.bool false,.slice y1 (Na.digs q1.2.2).length f1] 0).set (c:=w.heap.size+1) (by omega) [.bool q2.1,.slice x2 (Na.digs q2.2.1).length e2,.bool false,.slice y2 (Na.digs q2.2.2).length f2] 0
    have g2:=(h3.set (c:=w.heap.size) (by omega) [.bool q1.1,.slice x1 (Na.digs q1.2.1).length e1,.bool false,.slice y1 (Na.digs q1.2.2).length f1] 0).set (c:=w.heap.size+1) (by omega) [.bool q2.1,.slice x2 (Na.digs q2.2.1).length e2,.bool false,.slice y2 (Na.digs q2.2.2).length f2] 0
    have HE:=ext_setCells (ext_setCells HX (c:=w.heap.size) (by omega) [.bool q1.1,.slice x1 (Na.digs q1.2.1).length e1,.bool false,.slice y1 (Na.digs q1.2.2).length f1] 0) (c:=w.heap.size+1) (by omega) [.bool q2.1,.slice x2 (Na.digs q2.2.1).length e2,.bool false,.slice y2 (Na.digs q2.2.2).length f2] 0
    have t0:=((Z0.out.ext hC).set_ne (c:=w.heap.size) (by omega) [.bool q1.1,.slice x1 (Na.digs q1.2.1).length e1,.bool false,.slice y1 (Na.digs q1.2.2).length f1] 0).set_ne (c:=w.heap.size+1) (by omega) [.bool q2.1,.slice x2 (Na.digs q2.2.1).length e2,.bool false,.slice y2 (Na.digs q2.2.2).length f2] 0
    have t1:=((Z1.out.ext hC).set_ne (c:=w.heap.size) (by omega) [.bool q1.1,.slice x1 (Na.digs q1.2.1).length e1,.bool false,.slice y1 (Na.digs q1.2.2).length f1] 0).set_ne (c:=w.heap.size+1) (by omega) [.bool q2.1,.slice x2 (Na.digs q2.2.1).length e2,.bool false,.slice y2 (Na.digs q2.2.2).length f2] 0
    have t2:=((Z2.out.ext hC).set_ne (c:=w.heap.size) (by omega) [.bool q1.1,.slice x1 (Na.digs q1.2.1).length e1,.bool false,.slice y1 (Na.digs q1.2.2).length f1] 0).set_ne (c:=w.heap.size+1) (by omega) [.bool q2.1,.slice x2 (Na.digs q2.2.1).length e2,.bool false,.slice y2 (Na.digs q2.2.2).length f2] 0
    have hsz:W.heap.size≤W2.heap.size:=by rw[←hW2,size_setCells,size_setCells]; exact hC.size
    have hb2:(w'.setCells (w.heap.size) 0 [.bool q1.1,.slice x1 (Na.digs q1.2.1).length e1,.bool false,.slice y1 (Na.digs q1.2.2).length f1]).setCells (w.heap.size+1) 0 [.bool q2.1,.slice x2 (Na.digs q2.2.1).length e2,.bool false,.slice y2 (Na.digs q2.2.2).length f2]=W2:=hW2
    rw[hW2]at v1 v2 g1 g2 HE t0 t1 t2
    have V1:=Lib.hid v1
    have V2:=Lib.hid v2
    obtain⟨gn1,gd1⟩:=g1.parts' HQ1.out
    obtain⟨gn2,gd2⟩:=g2.parts' HQ2.out
    have N1:=Lib.hid gn1
    have D1:=Lib.hid gd1
    have N2:=Lib.hid gn2
    have D2:=Lib.hid gd2
    have HE2:=Lib.hid HE
    have T0:=Lib.hid t0
    have T1:=Lib.hid t1
    have T2:=Lib.hid t2
    show wpList _ _ _ _ _ ((World.setCells w' _ _ [.bool q1.1,.slice x1 (Na.digs q1.2.1).length e1,.bool false,.slice y1 (Na.digs q1.2.2).length f1]).setCells _ _ [.bool q2.1,.slice x2 (Na.digs q2.2.1).length e2,.bool false,.slice y2 (Na.digs q2.2.2).length f2])
    rw[hW2]
    clear v1 v2 g1 g2 HE t0 t1 t2 gn1 gd1 gn2 gd2 u1 u2 h1 h3 HX hW2 hb2 hC
    go_wp2_with fail
    refine Go.Rel.wp_region 15 (by kernel_rfl) (by kernel_rfl) Ext (fun w'=>Ext W2 w')
      [Rel.is (.pointer (some ⟨w.heap.size,0,none⟩)),
   Rel.is (.agg #[.bool q1.1,.slice x1 (Na.digs q1.2.1).length e1]),
   Rel.is (.pointer (some ⟨w.heap.size+1,2,none⟩)),
   Rel.is (.agg #[.bool false,.slice y2 (Na.digs q2.2.2).length f2]),
   fun v w'=>IsZ (W2.heap.size) w' v (qz q1*(q2.2.2:Int)),
   Rel.is (.pointer (some ⟨w.heap.size+1,0,none⟩)),
   Rel.is (.agg #[.bool q2.1,.slice x2 (Na.digs q2.2.1).length e2]),
   Rel.is (.pointer (some ⟨w.heap.size,2,none⟩)),
   Rel.is (.agg #[.bool false,.slice y1 (Na.digs q1.2.2).length f1]),
   fun v w'=>IsZ (W2.heap.size) w' v (qz q2*(q1.2.2:Int)),
   Rel.is (.pointer (some ⟨w.heap.size,2,none⟩)),
   Rel.is (.agg #[.bool false,.slice y1 (Na.digs q1.2.2).length f1]),
   Rel.is (.pointer (some ⟨w.heap.size+1,2,none⟩)),
   Rel.is (.agg #[.bool false,.slice y2 (Na.digs q2.2.2).length f2]),
   fun v w'=>IsZ (W2.heap.size) w' v ((q1.2.2:Int)*(q2.2.2:Int))]
      ?_ ?_ ?_ ⟨?_,?_,?_,?_,?_,?_,?_,?_,?_,?_,?_,?_,?_,?_,?_,trivial⟩ ?_
    · exact below_drewN (Below.refl _ _) 1
    · exact fun _ _ h k=>Ext.trans' h k
    · exact Rel.Monos.mem ⟨Rel.mono_is _,Rel.mono_is _,Rel.mono_is _,Rel.mono_is _,fun _ _ _ k h=>h.ext k,Rel.mono_is _,Rel.mono_is _,Rel.mono_is _,Rel.mono_is _,fun _ _ _ k h=>h.ext k,Rel.mono_is _,Rel.mono_is _,Rel.mono_is _,Rel.mono_is _,fun _ _ _ k h=>h.ext k,trivial⟩
    · intro ρ w' hs ho hC hd
      have h2:ρ (.tmp 2) = .pointer (some ⟨w.heap.size,0,none⟩):=ho 2 rfl
      exact Rel.does_val (u := .pointer (some ⟨w.heap.size,0,none⟩)) (by simp[go_sem,h2]) Ext.rfl' rfl
    · intro ρ w' hs ho hC hd
      have h11:ρ (.tmp 11) = .pointer (some ⟨w.heap.size,0,none⟩):=hd.1 rfl
      exact Rel.does_load (cs:=[.bool q1.1,.slice x1 (Na.digs q1.2.1).length e1]) rfl h11 (V1.out.ext hC) rfl rfl Tryz.underlying29 rfl (by kernel_rfl) Ext.rfl' rfl
    · intro ρ w' hs ho hC hd
      have h3:ρ (.tmp 3) = .pointer (some ⟨w.heap.size+1,0,none⟩):=ho 3 rfl
      exact Rel.does_val (u := .pointer (some ⟨w.heap.size+1,2,none⟩)) (by simp[go_sem,h3]) Ext.rfl' rfl
    · intro ρ w' hs ho hC hd
      have h13:ρ (.tmp 13) = .pointer (some ⟨w.heap.size+1,2,none⟩):=hd.1 rfl
      exact Rel.does_load (cs:=[.bool false,.slice y2 (Na.digs q2.2.2).length f2]) rfl h13 (V2.out.ext hC) rfl rfl Tryz.underlying29 rfl (by kernel_rfl) Ext.rfl' rfl
    · intro ρ w' hs ho hC hd
      have h12:ρ (.tmp 12) = .agg #[.bool q1.1,.slice x1 (Na.digs q1.2.1).length e1]:=hd.1 rfl
      have h14:ρ (.tmp 14) = .agg #[.bool false,.slice y2 (Na.digs q2.2.2).length f2]:=hd.2.1 rfl
      refine Rel.does_call (f:=214) (args := #[.agg #[.bool q1.1,.slice x1 (Na.digs q1.2.1).length e1],.agg #[.bool false,.slice y2 (Na.digs q2.2.2).length f2]]) (by simp[go_sem,hs.func,h12,h14]) ?_
      refine(intMul_any _ _ _ _ _ _ w' (N1.out.below hC) (D2.out.below hC) (by omega) (by omega)).mono ?_
      rintro e w'' ⟨x,rfl,hx,hb⟩
      exact⟨_,rfl,hb,hx.mono hC.size⟩
    · intro ρ w' hs ho hC hd
      have h3:ρ (.tmp 3) = .pointer (some ⟨w.heap.size+1,0,none⟩):=ho 3 rfl
      exact Rel.does_val (u := .pointer (some ⟨w.heap.size+1,0,none⟩)) (by simp[go_sem,h3]) Ext.rfl' rfl
    · intro ρ w' hs ho hC hd
      have h16:ρ (.tmp 16) = .pointer (some ⟨w.heap.size+1,0,none⟩):=hd.1 rfl
      exact Rel.does_load (cs:=[.bool q2.1,.slice x2 (Na.digs q2.2.1).length e2]) rfl h16 (V2.out.ext hC) rfl rfl Tryz.underlying29 rfl (by kernel_rfl) Ext.rfl' rfl
    · intro ρ w' hs ho hC hd
      have h2:ρ (.tmp 2) = .pointer (some ⟨w.heap.size,0,none⟩):=ho 2 rfl
      exact Rel.does_val (u := .pointer (some ⟨w.heap.size,2,none⟩)) (by simp[go_sem,h2]) Ext.rfl' rfl
    · intro ρ w' hs ho hC hd
      have h18:ρ (.tmp 18) = .pointer (some ⟨w.heap.size,2,none⟩):=hd.1 rfl
      exact Rel.does_load (cs:=[.bool false,.slice y1 (Na.digs q1.2.2).length f1]) rfl h18 (V1.out.ext hC) rfl rfl Tryz.underlying29 rfl (by kernel_rfl) Ext.rfl' rfl
    · intro ρ w' hs ho hC hd
      have h17:ρ (.tmp 17) = .agg #[.bool q2.1,.slice x2 (Na.digs q2.2.1).length e2]:=hd.1 rfl
      have h19:ρ (.tmp 19) = .agg #[.bool false,.slice y1 (Na.digs q1.2.2).length f1]:=hd.2.1 rfl
      refine Rel.does_call (f:=214) (args := #[.agg #[.bool q2.1,.slice x2 (Na.digs q2.2.1).length e2],.agg #[.bool false,.slice y1 (Na.digs q1.2.2).length f1]]) (by simp[go_sem,hs.func,h17,h19]) ?_
      refine(intMul_any _ _ _ _ _ _ w' (N2.out.below hC) (D1.out.below hC) (by omega) (by omega)).mono ?_
      rintro e w'' ⟨x,rfl,hx,hb⟩
      exact⟨_,rfl,hb,hx.mono hC.size⟩
    · intro ρ w' hs ho hC hd
      have h2:ρ (.tmp 2) = .pointer (some ⟨w.heap.size,0,none⟩):=ho 2 rfl
      exact Rel.does_val (u := .pointer (some ⟨w.heap.size,2,none⟩)) (by simp[go_sem,h2]) Ext.rfl' rfl
    · intro ρ w' hs ho hC hd
      have h21:ρ (.tmp 21) = .pointer (some ⟨w.heap.size,2,none⟩):=hd.1 rfl
      exact Rel.does_load (cs:=[.bool false,.slice y1 (Na.digs q1.2.2).length f1]) rfl h21 (V1.out.ext hC) rfl rfl Tryz.underlying29 rfl (by kernel_rfl) Ext.rfl' rfl
    · intro ρ w' hs ho hC hd
      have h3:ρ (.tmp 3) = .pointer (some ⟨w.heap.size+1,0,none⟩):=ho 3 rfl
      exact Rel.does_val (u := .pointer (some ⟨w.heap.size+1,2,none⟩)) (by simp[go_sem,h3]) Ext.rfl' rfl
    · intro ρ w' hs ho hC hd
      have h23:ρ (.tmp 23) = .pointer (some ⟨w.heap.size+1,2,none⟩):=hd.1 rfl
      exact Rel.does_load (cs:=[.bool false,.slice y2 (Na.digs q2.2.2).length f2]) rfl h23 (V2.out.ext hC) rfl rfl Tryz.underlying29 rfl (by kernel_rfl) Ext.rfl' rfl
    · intro ρ w' hs ho hC hd
      have h22:ρ (.tmp 22) = .agg #[.bool false,.slice y1 (Na.digs q1.2.2).length f1]:=hd.1 rfl
      have h24:ρ (.tmp 24) = .agg #[.bool false,.slice y2 (Na.digs q2.2.2).length f2]:=hd.2.1 rfl
      refine Rel.does_call (f:=214) (args := #[.agg #[.bool false,.slice y1 (Na.digs q1.2.2).length f1],.agg #[.bool false,.slice y2 (Na.digs q2.2.2).length f2]]) (by simp[go_sem,hs.func,h22,h24]) ?_
      refine(intMul_any _ _ _ _ _ _ w' (D1.out.below hC) (D2.out.below hC) (by omega) (by omega)).mono ?_
      rintro e w'' ⟨x,rfl,hx,hb⟩
      exact⟨_,rfl,hb,hx.mono hC.size⟩
    · intro w' hC
      rintro _ rfl _ rfl _ rfl _ rfl v4 h4 _ rfl _ rfl _ rfl _ rfl v9 h9 _ rfl _ rfl _ rfl _ rfl v14 h14
      change wpList _ _ _ (List.drop 15 _) _ _
      simp only[List.drop_succ_cons,List.drop_zero]
      obtain⟨p0,e5,rfl⟩:=h4.shape
      obtain⟨p1,e6,rfl⟩:=h9.shape
      obtain⟨p2,e7,rfl⟩:=h14.shape
      have HX:=Ext.trans' HE2.out hC
      have u0:=T0.out.ext hC
      have u1:=T1.out.ext hC
      have u2:=T2.out.ext hC
      have W0:=hb0w.out
      simp only[Go.Act.put,List.setIfInBounds_toArray,List.set_cons_succ,List.set_cons_zero]
      refine wpList_store_mid rfl 29 (.tmp 4) (.tmp 15) rfl (w.heap.size+1+1) 0 #[.bool (decide ((qz q1*(q2.2.2:Int))<0)),.slice p0 (Na.digs (qz q1*(q2.2.2:Int)).natAbs).length e5] rfl rfl (u0.there rfl) (by kernel_rfl) (by simp[Value.oneCell']) ?_
      refine wpList_store_mid rfl 29 (.tmp 5) (.tmp 20) rfl (w.heap.size+1+1+1) 0 #[.bool (decide ((qz q2*(q1.2.2:Int))<0)),.slice p1 (Na.digs (qz q2*(q1.2.2:Int)).natAbs).length e6] rfl rfl ((u1.set_ne (by omega) _ _).there rfl) (by kernel_rfl) (by simp[Value.oneCell']) ?_
      refine wpList_store_mid rfl 29 (.tmp 6) (.tmp 25) rfl (w.heap.size+1+1+1+1) 0 #[.bool (decide (((q1.2.2:Int)*(q2.2.2:Int))<0)),.slice p2 (Na.digs ((q1.2.2:Int)*(q2.2.2:Int)).natAbs).length e7] rfl rfl (((u2.set_ne (by omega) _ _).set_ne (by omega) _ _).there rfl) (by kernel_rfl) (by simp[Value.oneCell']) ?_
      obtain⟨W3,hW3⟩:∃W3,((w'.setCells (w.heap.size+1+1) 0 [.bool (decide ((qz q1*(q2.2.2:Int))<0)),.slice p0 (Na.digs (qz q1*(q2.2.2:Int)).natAbs).length e5]).setCells (w.heap.size+1+1+1) 0 [.bool (decide ((qz q2*(q1.2.2:Int))<0)),.slice p1 (Na.digs (qz q2*(q1.2.2:Int)).natAbs).length e6]).setCells (w.heap.size+1+1+1+1) 0 [.bool (decide (((q1.2.2:Int)*(q2.2.2:Int))<0)),.slice p2 (Na.digs ((q1.2.2:Int)*(q2.2.2:Int)).natAbs).length e7]=W3:=⟨_,rfl⟩
      have v0:=(((u0.set [.bool (decide ((qz q1*(q2.2.2:Int))<0)),.slice p0 (Na.digs (qz q1*(q2.2.2:Int)).natAbs).length e5] rfl).set_ne (c:=w.heap.size+1+1+1) (by omega) [.bool (decide ((qz q2*(q1.2.2:Int))<0)),.slice p1 (Na.digs (qz q2*(q1.2.2:Int)).natAbs).length e6] 0).set_ne (c:=w.heap.size+1+1+1+1) (by omega) [.bool (decide (((q1.2.2:Int)*(q2.2.2:Int))<0)),.slice p2 (Na.digs ((q1.2.2:Int)*(q2.2.2:Int)).natAbs).length e7] 0)
      have v1:=(((u1.set_ne (c:=w.heap.size+1+1) (by omega) [.bool (decide ((qz q1*(q2.2.2:Int))<0)),.slice p0 (Na.digs (qz q1*(q2.2.2:Int)).natAbs).length e5] 0).set [.bool (decide ((qz q2*(q1.2.2:Int))<0)),.slice p1 (Na.digs (qz q2*(q1.2.2:Int)).natAbs).length e6] rfl).set_ne (c:=w.heap.size+1+1+1+1) (by omega) [.bool (decide (((q1.2.2:Int)*(q2.2.2:Int))<0)),.slice p2 (Na.digs ((q1.2.2:Int)*(q2.2.2:Int)).natAbs).length e7] 0)
      have v2:=(((u2.set_ne (c:=w.heap.size+1+1) (by omega) [.bool (decide ((qz q1*(q2.2.2:Int))<0)),.slice p0 (Na.digs (qz q1*(q2.2.2:Int)).natAbs).length e5] 0).set_ne (c:=w.heap.size+1+1+1) (by omega) [.bool (decide ((qz q2*(q1.2.2:Int))<0)),.slice p1 (Na.digs (qz q2*(q1.2.2:Int)).natAbs).length e6] 0).set [.bool (decide (((q1.2.2:Int)*(q2.2.2:Int))<0)),.slice p2 (Na.digs ((q1.2.2:Int)*(q2.2.2:Int)).natAbs).length e7] rfl)
      have g0:=(((h4.set (c:=w.heap.size+1+1) (by omega) [.bool (decide ((qz q1*(q2.2.2:Int))<0)),.slice p0 (Na.digs (qz q1*(q2.2.2:Int)).natAbs).length e5] 0).set (c:=w.heap.size+1+1+1) (by omega) [.bool (decide ((qz q2*(q1.2.2:Int))<0)),.slice p1 (Na.digs (qz q2*(q1.2.2:Int)).natAbs).length e6] 0).set (c:=w.heap.size+1+1+1+1) (by omega) [.bool (decide (((q1.2.2:Int)*(q2.2.2:Int))<0)),.slice p2 (Na.digs ((q1.2.2:Int)*(q2.2.2:Int)).natAbs).length e7] 0)
      have g1:=(((h9.set (c:=w.heap.size+1+1) (by omega) [.bool (decide ((qz q1*(q2.2.2:Int))<0)),.slice p0 (Na.digs (qz q1*(q2.2.2:Int)).natAbs).length e5] 0).set (c:=w.heap.size+1+1+1) (by omega) [.bool (decide ((qz q2*(q1.2.2:Int))<0)),.slice p1 (Na.digs (qz q2*(q1.2.2:Int)).natAbs).length e6] 0).set (c:=w.heap.size+1+1+1+1) (by omega) [.bool (decide (((q1.2.2:Int)*(q2.2.2:Int))<0)),.slice p2 (Na.digs ((q1.2.2:Int)*(q2.2.2:Int)).natAbs).length e7] 0)
      have g2:=(((h14.set (c:=w.heap.size+1+1) (by omega) [.bool (decide ((qz q1*(q2.2.2:Int))<0)),.slice p0 (Na.digs (qz q1*(q2.2.2:Int)).natAbs).length e5] 0).set (c:=w.heap.size+1+1+1) (by omega) [.bool (decide ((qz q2*(q1.2.2:Int))<0)),.slice p1 (Na.digs (qz q2*(q1.2.2:Int)).natAbs).length e6] 0).set (c:=w.heap.size+1+1+1+1) (by omega) [.bool (decide (((q1.2.2:Int)*(q2.2.2:Int))<0)),.slice p2 (Na.digs ((q1.2.2:Int)*(q2.2.2:Int)).natAbs).length e7] 0)
      have HE:=(ext_setCells (ext_setCells (ext_setCells HX (c:=w.heap.size+1+1) (by omega) [.bool (decide ((qz q1*(q2.2.2:Int))<0)),.slice p0 (Na.digs (qz q1*(q2.2.2:Int)).natAbs).length e5] 0) (c:=w.heap.size+1+1+1) (by omega) [.bool (decide ((qz q2*(q1.2.2:Int))<0)),.slice p1 (Na.digs (qz q2*(q1.2.2:Int)).natAbs).length e6] 0) (c:=w.heap.size+1+1+1+1) (by omega) [.bool (decide (((q1.2.2:Int)*(q2.2.2:Int))<0)),.slice p2 (Na.digs ((q1.2.2:Int)*(q2.2.2:Int)).natAbs).length e7] 0)
      rw[hW3]at v0 v1 v2 g0 g1 g2 HE
      show wpList _ _ _ _ _ (((World.setCells w' _ _ [.bool (decide ((qz q1*(q2.2.2:Int))<0)),.slice p0 (Na.digs (qz q1*(q2.2.2:Int)).natAbs).length e5]).setCells _ _ [.bool (decide ((qz q2*(q1.2.2:Int))<0)),.slice p1 (Na.digs (qz q2*(q1.2.2:Int)).natAbs).length e6]).setCells _ _ [.bool (decide (((q1.2.2:Int)*(q2.2.2:Int))<0)),.slice p2 (Na.digs ((q1.2.2:Int)*(q2.2.2:Int)).natAbs).length e7])
      rw[hW3]
      have l0:=v0.2.1
      have l1:=v1.2.1
      have l2:=v2.2.1
      have G:=Lib.hid (And.intro g0 (And.intro g1 g2))
      have HE3:=Lib.hid HE
      clear v0 v1 v2 g0 g1 g2 u0 u1 u2 HX HE h4 h9 h14 hC hW3
      go_wp2_with fail
      refine bodyPost_ret (v := .tuple #[.agg #[.bool (decide ((qz q1*(q2.2.2:Int))<0)),.slice p0 (Na.digs (qz q1*(q2.2.2:Int)).natAbs).length e5],.agg #[.bool (decide ((qz q2*(q1.2.2:Int))<0)),.slice p1 (Na.digs (qz q2*(q1.2.2:Int)).natAbs).length e6],.agg #[.bool (decide (((q1.2.2:Int)*(q2.2.2:Int))<0)),.slice p2 (Na.digs ((q1.2.2:Int)*(q2.2.2:Int)).natAbs).length e7]]) (by simp[results,Tryz.results181,go_sem,l0,l1,l2]) rfl ⟨_,_,_,rfl,G.out.1.mono (by omega),G.out.2.1.mono (by omega),G.out.2.2.mono (by omega),HE3.out⟩
theorem ratMul_q(v1 v2:Value)(q1 q2:Bool×Nat×Nat)(K1 K2:Nat)(w:World)(h1:IsRatQ K1 w v1 q1)(h2:IsRatQ K2 w v2 q2)(hK1:1≤K1)(hK2:1≤K2)(hM1:K1≤100000)(hM2:K2≤100000) :
    Calls Tryz.prog 191 #[v1,v2] w fun e w'=>∃x,e = .returned x∧IsRatT w.heap.size w' x (qmul q1 q2)∧Ext w w':=by
  obtain⟨n1,a1,m1,c1,o1,b1,k1,d1,rfl⟩:=h1.shape
  obtain⟨n2,a2,m2,c2,o2,b2,k2,d2,rfl⟩:=h2.shape
  obtain⟨W,hW⟩:∃W,(((w.alloc (.cells #[.bool n1,.slice a1 m1 c1,.bool o1,.slice b1 k1 d1] 31)).alloc (.cells #[.bool n2,.slice a2 m2 c2,.bool o2,.slice b2 k2 d2] 31)).alloc (.cells #[.bool false,.slice none 0 0,.bool false,.slice none 0 0] 31))=W:=⟨_,rfl⟩
  have hb0:Ext w W:=by rw[←hW]; exact((below_alloc w _).alloc (by simp) _).alloc (by simp; omega) _
  have X1:Hid (Bx W (w.heap.size) #[.bool n1,.slice a1 m1 c1,.bool o1,.slice b1 k1 d1]):=by
    have h:=((bx_new w #[.bool n1,.slice a1 m1 c1,.bool o1,.slice b1 k1 d1] 31).al (.cells #[.bool n2,.slice a2 m2 c2,.bool o2,.slice b2 k2 d2] 31)).al (.cells #[.bool false,.slice none 0 0,.bool false,.slice none 0 0] 31)
    rw[hW]at h; exact Lib.hid (by simpa only[World.size_alloc]using h)
  have X2:Hid (Bx W (w.heap.size+1) #[.bool n2,.slice a2 m2 c2,.bool o2,.slice b2 k2 d2]):=by
    have h:=(bx_new (w.alloc (.cells #[.bool n1,.slice a1 m1 c1,.bool o1,.slice b1 k1 d1] 31)) #[.bool n2,.slice a2 m2 c2,.bool o2,.slice b2 k2 d2] 31).al (.cells #[.bool false,.slice none 0 0,.bool false,.slice none 0 0] 31)
    rw[hW]at h; exact Lib.hid (by simpa only[World.size_alloc]using h)
  have Z0:Hid (Bx W (w.heap.size+1+1) #[.bool false,.slice none 0 0,.bool false,.slice none 0 0]):=by
    have h:=bx_new ((w.alloc (.cells #[.bool n1,.slice a1 m1 c1,.bool o1,.slice b1 k1 d1] 31)).alloc (.cells #[.bool n2,.slice a2 m2 c2,.bool o2,.slice b2 k2 d2] 31)) #[.bool false,.slice none 0 0,.bool false,.slice none 0 0] 31
    rw[hW]at h; exact Lib.hid (by simpa only[World.size_alloc]using h)
  have H1:=Lib.hid (h1.below hb0)
  have HQ1:=Lib.hid (h1.len hK1)
  have HN1:=Lib.hid h1.nrm
  have HP1:=Lib.hid h1.pos
  have H2:=Lib.hid (h2.below hb0)
  have HQ2:=Lib.hid (h2.len hK2)
  have HN2:=Lib.hid h2.nrm
  have HP2:=Lib.hid h2.pos
  have HB0:=Lib.hid hb0
  have HW:=Lib.hid hW
  clear hb0 hW h1 h2
  have hb0w:Hid (w.heap.size+1+1<W.heap.size):=Z0.out.1
  go_enter Tryz.func191,Tryz.ntmps191
  go_wp2_with fail
  rw[HW.out]
  refine Go.Rel.wp_region 4 (by kernel_rfl) (by kernel_rfl) Ext (fun w'=>Ext W w')
    [Rel.is (.agg #[.bool n1,.slice a1 m1 c1,.bool o1,.slice b1 k1 d1]),
   fun v w'=>IsRatT W.heap.size w' v q1,
   Rel.is (.agg #[.bool n2,.slice a2 m2 c2,.bool o2,.slice b2 k2 d2]),
   fun v w'=>IsRatT W.heap.size w' v q2]
    ?_ ?_ ?_ ⟨?_,?_,?_,?_,trivial⟩ ?_
  · exact below_drewN (Below.refl _ _) 1
  · exact fun _ _ h k=>Ext.trans' h k
  · exact Rel.Monos.mem ⟨Rel.mono_is _,fun _ _ _ k h=>h.ext k,Rel.mono_is _,fun _ _ _ k h=>h.ext k,trivial⟩
  · intro ρ w' hs ho hC hd
    have h2:ρ (.tmp 2) = .pointer (some ⟨w.heap.size,0,none⟩):=ho 2 rfl
    exact Rel.does_load (cs:=[.bool n1,.slice a1 m1 c1,.bool o1,.slice b1 k1 d1]) rfl h2 (X1.out.ext hC) rfl rfl Tryz.underlying31 rfl (by kernel_rfl) Ext.rfl' rfl
  · intro ρ w' hs ho hC hd
    have h5:ρ (.tmp 5) = .agg #[.bool n1,.slice a1 m1 c1,.bool o1,.slice b1 k1 d1]:=hd.1 rfl
    refine Rel.does_call (f:=180) (args := #[.agg #[.bool n1,.slice a1 m1 c1,.bool o1,.slice b1 k1 d1]]) (by simp[go_sem,hs.func,h5]) ?_
    refine(ratNorm_q _ q1 K1 w' (H1.out.below hC) (by omega)).mono ?_
    rintro e w'' ⟨x,rfl,hx,hb⟩
    exact⟨_,rfl,hb,hx.mono hC.size⟩
  · intro ρ w' hs ho hC hd
    have h3:ρ (.tmp 3) = .pointer (some ⟨w.heap.size+1,0,none⟩):=ho 3 rfl
    exact Rel.does_load (cs:=[.bool n2,.slice a2 m2 c2,.bool o2,.slice b2 k2 d2]) rfl h3 (X2.out.ext hC) rfl rfl Tryz.underlying31 rfl (by kernel_rfl) Ext.rfl' rfl
  · intro ρ w' hs ho hC hd
    have h7:ρ (.tmp 7) = .agg #[.bool n2,.slice a2 m2 c2,.bool o2,.slice b2 k2 d2]:=hd.1 rfl
    refine Rel.does_call (f:=180) (args := #[.agg #[.bool n2,.slice a2 m2 c2,.bool o2,.slice b2 k2 d2]]) (by simp[go_sem,hs.func,h7]) ?_
    refine(ratNorm_q _ q2 K2 w' (H2.out.below hC) (by omega)).mono ?_
    rintro e w'' ⟨x,rfl,hx,hb⟩
    exact⟨_,rfl,hb,hx.mono hC.size⟩
  · intro w' hC
    rintro _ rfl v1 h1 _ rfl v3 h3
    change wpList _ _ _ (List.drop 4 _) _ _
    simp only[List.drop_succ_cons,List.drop_zero]
    obtain⟨x1,e1,y1,f1,rfl⟩:=h1.shape
    obtain⟨x2,e2,y2,f2,rfl⟩:=h3.shape
    have HX:=Ext.trans' HB0.out hC
    have u1:=X1.out.ext hC
    have u2:=X2.out.ext hC
    have W0:=hb0w.out
    simp only[Go.Act.put,List.setIfInBounds_toArray,List.set_cons_succ,List.set_cons_zero]
    refine wpList_store_mid rfl 31 (.tmp 2) (.tmp 6) rfl (w.heap.size) 0 #[.bool q1.1,.slice x1 (Na.digs q1.2.1).length e1,.bool false,.slice y1 (Na.digs q1.2.2).length f1] rfl rfl (u1.there rfl) (by kernel_rfl) (by simp[Value.oneCell']) ?_
    refine wpList_store_mid rfl 31 (.tmp 3) (.tmp 8) rfl (w.heap.size+1) 0 #[.bool q2.1,.slice x2 (Na.digs q2.2.1).length e2,.bool false,.slice y2 (Na.digs q2.2.2).length f2] rfl rfl ((u2.set_ne (by omega) _ _).there rfl) (by kernel_rfl) (by simp[Value.oneCell']) ?_
    obtain⟨W2,hW2⟩:∃W2,(w'.setCells (w.heap.size) 0 [.bool q1.1,.slice x1 (Na.digs q1.2.1).length e1,.bool false,.slice y1 (Na.digs q1.2.2).length f1]).setCells (w.heap.size+1) 0 [.bool q2.1,.slice x2 (Na.digs q2.2.1).length e2,.bool false,.slice y2 (Na.digs q2.2.2).length f2]=W2:=⟨_,rfl⟩
    have v1:=(u1.set [.bool q1.1,.slice x1 (Na.digs q1.2.1).length e1,.bool false,.slice y1 (Na.digs q1.2.2).length f1] rfl).set_ne (c:=w.heap.size+1) (by omega) [.bool q2.1,.slice x2 (Na.digs q2.2.1).length e2,.bool false,.slice y2 (Na.digs q2.2.2).length f2] 0
    have v2:=(u2.set_ne (c:=w.heap.size) (by omega) [.bool q1.1,.slice x1 (Na.digs q1.2.1).length e1,.bool false,.slice y1 (Na.digs q1.2.2).length f1] 0).set [.bool q2.1,.slice x2 (Na.digs q2.2.1).length e2,.bool false,.slice y2 (Na.digs q2.2.2).length f2] rfl
    have g1:=(h1.set (c:=w.heap.size) (by omega) [.bool q1.1,.slice x1 (Na.digs q1.2.1).length e1,.bool false,.slice y1 (Na.digs q1.2.2).length f1] 0).set (c:=w.heap.size+1) (by omega) [.bool q2.1,.slice x2 (Na.digs q2.2.1).length e2,.bool false,.slice y2 (Na.digs q2.2.2).length f2] 0
    have g2:=(h3.set (c:=w.heap.size) (by omega) [.bool q1.1,.slice x1 (Na.digs q1.2.1).length e1,.bool false,.slice y1 (Na.digs q1.2.2).length f1] 0).set (c:=w.heap.size+1) (by omega) [.bool q2.1,.slice x2 (Na.digs q2.2.1).length e2,.bool false,.slice y2 (Na.digs q2.2.2).length f2] 0
    have HE:=ext_setCells (ext_setCells HX (c:=w.heap.size) (by omega) [.bool q1.1,.slice x1 (Na.digs q1.2.1).length e1,.bool false,.slice y1 (Na.digs q1.2.2).length f1] 0) (c:=w.heap.size+1) (by omega) [.bool q2.1,.slice x2 (Na.digs q2.2.1).length e2,.bool false,.slice y2 (Na.digs q2.2.2).length f2] 0
    have t0:=((Z0.out.ext hC).set_ne (c:=w.heap.size) (by omega) [.bool q1.1,.slice x1 (Na.digs q1.2.1).length e1,.bool false,.slice y1 (Na.digs q1.2.2).length f1] 0).set_ne (c:=w.heap.size+1) (by omega) [.bool q2.1,.slice x2 (Na.digs q2.2.1).length e2,.bool false,.slice y2 (Na.digs q2.2.2).length f2] 0
    have hsz:W.heap.size≤W2.heap.size:=by rw[←hW2,size_setCells,size_setCells]; exact hC.size
    have hb2:(w'.setCells (w.heap.size) 0 [.bool q1.1,.slice x1 (Na.digs q1.2.1).length e1,.bool false,.slice y1 (Na.digs q1.2.2).length f1]).setCells (w.heap.size+1) 0 [.bool q2.1,.slice x2 (Na.digs q2.2.1).length e2,.bool false,.slice y2 (Na.digs q2.2.2).length f2]=W2:=hW2
    rw[hW2]at v1 v2 g1 g2 HE t0
    have V1:=Lib.hid v1
    have V2:=Lib.hid v2
    obtain⟨gn1,gd1⟩:=g1.parts' HQ1.out
    obtain⟨gn2,gd2⟩:=g2.parts' HQ2.out
    have N1:=Lib.hid gn1
    have D1:=Lib.hid gd1
    have N2:=Lib.hid gn2
    have D2:=Lib.hid gd2
    have HE2:=Lib.hid HE
    have T0:=Lib.hid t0
    show wpList _ _ _ _ _ ((World.setCells w' _ _ [.bool q1.1,.slice x1 (Na.digs q1.2.1).length e1,.bool false,.slice y1 (Na.digs q1.2.2).length f1]).setCells _ _ [.bool q2.1,.slice x2 (Na.digs q2.2.1).length e2,.bool false,.slice y2 (Na.digs q2.2.2).length f2])
    rw[hW2]
    clear v1 v2 g1 g2 HE t0 gn1 gd1 gn2 gd2 u1 u2 h1 h3 HX hW2 hb2 hC
    go_wp2_with fail
    refine Go.Rel.wp_region 11 (by kernel_rfl) (by kernel_rfl) Ext (fun w'=>Ext W2 w')
      [Rel.is (.pointer (some ⟨w.heap.size,0,none⟩)),
   Rel.is (.agg #[.bool q1.1,.slice x1 (Na.digs q1.2.1).length e1]),
   Rel.is (.pointer (some ⟨w.heap.size+1,0,none⟩)),
   Rel.is (.agg #[.bool q2.1,.slice x2 (Na.digs q2.2.1).length e2]),
   fun v w'=>IsZ (W2.heap.size) w' v (qz q1*qz q2),
   Rel.is (.pointer (some ⟨w.heap.size,2,none⟩)),
   Rel.is (.agg #[.bool false,.slice y1 (Na.digs q1.2.2).length f1]),
   Rel.is (.pointer (some ⟨w.heap.size+1,2,none⟩)),
   Rel.is (.agg #[.bool false,.slice y2 (Na.digs q2.2.2).length f2]),
   fun v w'=>IsZ (W2.heap.size) w' v ((q1.2.2:Int)*(q2.2.2:Int)),
   fun v w'=>IsRatT (W2.heap.size) w' v (qmul q1 q2)]
      ?_ ?_ ?_ ⟨?_,?_,?_,?_,?_,?_,?_,?_,?_,?_,?_,trivial⟩ ?_
    · exact below_drewN (Below.refl _ _) 1
    · exact fun _ _ h k=>Ext.trans' h k
    · exact Rel.Monos.mem ⟨Rel.mono_is _,Rel.mono_is _,Rel.mono_is _,Rel.mono_is _,fun _ _ _ k h=>h.ext k,Rel.mono_is _,Rel.mono_is _,Rel.mono_is _,Rel.mono_is _,fun _ _ _ k h=>h.ext k,fun _ _ _ k h=>h.ext k,trivial⟩
    · intro ρ w' hs ho hC hd
      have h2:ρ (.tmp 2) = .pointer (some ⟨w.heap.size,0,none⟩):=ho 2 rfl
      exact Rel.does_val (u := .pointer (some ⟨w.heap.size,0,none⟩)) (by simp[go_sem,h2]) Ext.rfl' rfl
    · intro ρ w' hs ho hC hd
      have h9:ρ (.tmp 9) = .pointer (some ⟨w.heap.size,0,none⟩):=hd.1 rfl
      exact Rel.does_load (cs:=[.bool q1.1,.slice x1 (Na.digs q1.2.1).length e1]) rfl h9 (V1.out.ext hC) rfl rfl Tryz.underlying29 rfl (by kernel_rfl) Ext.rfl' rfl
    · intro ρ w' hs ho hC hd
      have h3:ρ (.tmp 3) = .pointer (some ⟨w.heap.size+1,0,none⟩):=ho 3 rfl
      exact Rel.does_val (u := .pointer (some ⟨w.heap.size+1,0,none⟩)) (by simp[go_sem,h3]) Ext.rfl' rfl
    · intro ρ w' hs ho hC hd
      have h11:ρ (.tmp 11) = .pointer (some ⟨w.heap.size+1,0,none⟩):=hd.1 rfl
      exact Rel.does_load (cs:=[.bool q2.1,.slice x2 (Na.digs q2.2.1).length e2]) rfl h11 (V2.out.ext hC) rfl rfl Tryz.underlying29 rfl (by kernel_rfl) Ext.rfl' rfl
    · intro ρ w' hs ho hC hd
      have h10:ρ (.tmp 10) = .agg #[.bool q1.1,.slice x1 (Na.digs q1.2.1).length e1]:=hd.1 rfl
      have h12:ρ (.tmp 12) = .agg #[.bool q2.1,.slice x2 (Na.digs q2.2.1).length e2]:=hd.2.1 rfl
      refine Rel.does_call (f:=214) (args := #[.agg #[.bool q1.1,.slice x1 (Na.digs q1.2.1).length e1],.agg #[.bool q2.1,.slice x2 (Na.digs q2.2.1).length e2]]) (by simp[go_sem,hs.func,h10,h12]) ?_
      refine(intMul_any _ _ _ _ _ _ w' (N1.out.below hC) (N2.out.below hC) (by omega) (by omega)).mono ?_
      rintro e w'' ⟨x,rfl,hx,hb⟩
      exact⟨_,rfl,hb,hx.mono hC.size⟩
    · intro ρ w' hs ho hC hd
      have h2:ρ (.tmp 2) = .pointer (some ⟨w.heap.size,0,none⟩):=ho 2 rfl
      exact Rel.does_val (u := .pointer (some ⟨w.heap.size,2,none⟩)) (by simp[go_sem,h2]) Ext.rfl' rfl
    · intro ρ w' hs ho hC hd
      have h14:ρ (.tmp 14) = .pointer (some ⟨w.heap.size,2,none⟩):=hd.1 rfl
      exact Rel.does_load (cs:=[.bool false,.slice y1 (Na.digs q1.2.2).length f1]) rfl h14 (V1.out.ext hC) rfl rfl Tryz.underlying29 rfl (by kernel_rfl) Ext.rfl' rfl
    · intro ρ w' hs ho hC hd
      have h3:ρ (.tmp 3) = .pointer (some ⟨w.heap.size+1,0,none⟩):=ho 3 rfl
      exact Rel.does_val (u := .pointer (some ⟨w.heap.size+1,2,none⟩)) (by simp[go_sem,h3]) Ext.rfl' rfl
    · intro ρ w' hs ho hC hd
      have h16:ρ (.tmp 16) = .pointer (some ⟨w.heap.size+1,2,none⟩):=hd.1 rfl
      exact Rel.does_load (cs:=[.bool false,.slice y2 (Na.digs q2.2.2).length f2]) rfl h16 (V2.out.ext hC) rfl rfl Tryz.underlying29 rfl (by kernel_rfl) Ext.rfl' rfl
    · intro ρ w' hs ho hC hd
      have h15:ρ (.tmp 15) = .agg #[.bool false,.slice y1 (Na.digs q1.2.2).length f1]:=hd.1 rfl
      have h17:ρ (.tmp 17) = .agg #[.bool false,.slice y2 (Na.digs q2.2.2).length f2]:=hd.2.1 rfl
      refine Rel.does_call (f:=214) (args := #[.agg #[.bool false,.slice y1 (Na.digs q1.2.2).length f1],.agg #[.bool false,.slice y2 (Na.digs q2.2.2).length f2]]) (by simp[go_sem,hs.func,h15,h17]) ?_
      refine(intMul_any _ _ _ _ _ _ w' (D1.out.below hC) (D2.out.below hC) (by omega) (by omega)).mono ?_
      rintro e w'' ⟨x,rfl,hx,hb⟩
      exact⟨_,rfl,hb,hx.mono hC.size⟩
    · intro ρ w' hs ho hC hd
      have h13:IsZ (W2.heap.size) w' (ρ (.tmp 13)) (qz q1*qz q2):=hd.1 rfl
      have h18:IsZ (W2.heap.size) w' (ρ (.tmp 18)) ((q1.2.2:Int)*(q2.2.2:Int)):=hd.2.1 rfl
      refine Rel.does_call (f:=222) (args := #[ρ (.tmp 13),ρ (.tmp 18)]) (by simp[go_sem,hs.func]) ?_
      refine(ratLow_q _ _ (qz q1*qz q2) (q1.2.2*q2.2.2) (K1+K2) w' (IsZ.toQ h13 (len_mul _ _ (qz_len HQ1.out) (qz_len HQ2.out))) (IsZ.toQ (z:=((q1.2.2*q2.2.2:Nat):Int)) (by rw[Int.natCast_mul]; exact h18) (by rw[Int.natCast_mul]; exact len_mul _ _ (nat_len HQ1.out.2) (nat_len HQ2.out.2))) (Nat.mul_pos HP1.out HP2.out) (by omega)).mono ?_
      rintro e w'' ⟨x,rfl,hx,hb⟩
      exact⟨_,rfl,hb,hx.mono hC.size⟩
    · intro w' hC
      rintro _ rfl _ rfl _ rfl _ rfl v4 h4 _ rfl _ rfl _ rfl _ rfl v9 h9 v10 h10
      change wpList _ _ _ (List.drop 11 _) _ _
      simp only[List.drop_succ_cons,List.drop_zero]
      have W0:=hb0w.out
      obtain⟨p1,e1,p2,e2,rfl⟩:=h10.shape
      have hz:=T0.out.ext hC
      have HX:=Lib.hid (Ext.trans' HE2.out hC)
      have F:=Lib.hid (h10.set (c:=w.heap.size+1+1) (by omega) [.bool (qmul q1 q2).1,.slice p1 (Na.digs (qmul q1 q2).2.1).length e1,.bool false,.slice p2 (Na.digs (qmul q1 q2).2.2).length e2] 0)
      simp only[Go.Act.put,List.setIfInBounds_toArray,List.set_cons_succ,List.set_cons_zero]
      refine wpList_store_mid rfl 31 (.tmp 4) (.tmp 19) rfl (w.heap.size+1+1) 0 #[.bool (qmul q1 q2).1,.slice p1 (Na.digs (qmul q1 q2).2.1).length e1,.bool false,.slice p2 (Na.digs (qmul q1 q2).2.2).length e2] rfl rfl (hz.there rfl) (by kernel_rfl) (by simp[Value.oneCell']) ?_
      have S3:=Lib.hid (hz.set [.bool (qmul q1 q2).1,.slice p1 (Na.digs (qmul q1 q2).2.1).length e1,.bool false,.slice p2 (Na.digs (qmul q1 q2).2.2).length e2] rfl)
      have HX3:=Lib.hid (ext_setCells HX.out (c:=w.heap.size+1+1) (by omega) [.bool (qmul q1 q2).1,.slice p1 (Na.digs (qmul q1 q2).2.1).length e1,.bool false,.slice p2 (Na.digs (qmul q1 q2).2.2).length e2] 0)
      skip
      show wpList _ _ _ _ _ (World.setCells _ _ _ [_,_,_,_])
      generalize World.setCells w' (w.heap.size+1+1) 0 [.bool (qmul q1 q2).1,.slice p1 (Na.digs (qmul q1 q2).2.1).length e1,.bool false,.slice p2 (Na.digs (qmul q1 q2).2.2).length e2]=W3 at F S3 HX3 ⊢
      have hl:=S3.out.2.1
      clear hz h10 h4 h9 hC
      go_wp2_with fail
      refine bodyPost_ret (v := .agg #[.bool (qmul q1 q2).1,.slice p1 (Na.digs (qmul q1 q2).2.1).length e1,.bool false,.slice p2 (Na.digs (qmul q1 q2).2.2).length e2]) (by simp[results,Tryz.results191,go_sem,hl]) rfl ⟨_,rfl,F.out.mono (by omega),HX3.out⟩
end Go.Proofs.YtfmkkemfhjkajaaGreatDoor
