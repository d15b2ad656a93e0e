/- Walks of package rational: Cmp, Sub, BitLen by value. -/
import Derived.Test.YtfmkkemfhjkajaaGreatDoorRatF
set_option maxHeartbeats 3200000
set_option maxRecDepth 100000
namespace Go.Proofs.YtfmkkemfhjkajaaGreatDoor
open Go.RowKit
variable{α:Type}
set_option linter.unusedVariables false
attribute [local go_sem] Go.Rel.valOf
theorem ratCmp_q(v1 v2:Value)(q1 q2:Bool×Nat×Nat)(K1 K2:Nat)(w:World)(h1:IsRatQ K1 w v1 q1)(h2:IsRatQ K2 w v2 q2)(hK1:1≤K1)(hK2:1≤K2)(hM1:K1≤100000)(hM2:K2≤100000) :
    Calls Tryz.prog 136 #[v1,v2] w fun e w'=>e = .returned (.int .i64 (qcmp q1 q2))∧Ext w w':=by
  obtain⟨n1,a1,m1,c1,o1,b1,k1,d1,rfl⟩:=h1.shape
  obtain⟨n2,a2,m2,c2,o2,b2,k2,d2,rfl⟩:=h2.shape
  have hb0:=(below_alloc w (.cells #[.bool n1,.slice a1 m1 c1,.bool o1,.slice b1 k1 d1] 31)).alloc (by simp) (.cells #[.bool n2,.slice a2 m2 c2,.bool o2,.slice b2 k2 d2] 31)
  have HC:=Lib.hid (ratCross_q _ _ q1 q2 K1 K2 _ (h1.below hb0) (h2.below hb0) hK1 hK2 hM1 hM2)
  have HQ1:=Lib.hid (h1.len hK1)
  have HQ2:=Lib.hid (h2.len hK2)
  have HP:=Lib.hid (Nat.mul_pos h1.pos h2.pos)
  have HB0:=Lib.hid hb0
  clear hb0 h1 h2
  go_enter Tryz.func136,Tryz.ntmps136
  go_wp2_with fail
  refine HC.out.mono ?_
  rintro e w1 ⟨x,y,d,rfl,hx,hy,hd,hb⟩
  obtain⟨p0,e0,rfl⟩:=hx.shape
  obtain⟨p1,e1,rfl⟩:=hy.shape
  obtain⟨p2,e2,rfl⟩:=hd.shape
  have ha:=((below_alloc w1 (.cells #[.bool (decide ((qz q1*(q2.2.2:Int))<0)),.slice p0 (Na.digs (qz q1*(q2.2.2:Int)).natAbs).length e0] 29)).alloc (by simp) (.cells #[.bool (decide ((qz q2*(q1.2.2:Int))<0)),.slice p1 (Na.digs (qz q2*(q1.2.2:Int)).natAbs).length e1] 29)).alloc (by simp; omega) (.cells #[.bool (decide (((q1.2.2:Int)*(q2.2.2:Int))<0)),.slice p2 (Na.digs ((q1.2.2:Int)*(q2.2.2:Int)).natAbs).length e2] 29)
  have HX:=Lib.hid (Ext.trans' HB0.out (Ext.trans' hb ha))
  have HZ:=Lib.hid (And.intro (IsZ.toQ (K:=K1+K2) (hx.ext ha) (len_mul _ _ (qz_len HQ1.out) (nat_len HQ2.out.2))) (And.intro (IsZ.toQ (K:=K1+K2) (hy.ext ha) (by rw[Nat.add_comm]; exact len_mul _ _ (qz_len HQ2.out) (nat_len HQ1.out.2))) (IsZ.toQ (K:=K1+K2) (hd.ext ha) (len_mul _ _ (nat_len HQ1.out.2) (nat_len HQ2.out.2)))))
  clear hx hy hd hb ha HC
  go_wp2_with fail
  refine(intCmp_any _ _ _ _ _ _ _ HZ.out.1 HZ.out.2.1 (by omega) (by omega)).mono ?_
  rintro e w2 ⟨rfl,hb⟩
  have HX2:=Lib.hid (Ext.trans' HX.out hb)
  clear hb
  go_wp2_with fail
  go_ret
  exact⟨rfl,HX2.out⟩
theorem ratSub_q(v1 v2:Value)(q1 q2:Bool×Nat×Nat)(K1 K2:Nat)(w:World)(h1:IsRatQ K1 w v1 q1)(h2:IsRatQ K2 w v2 q2)(hK1:1≤K1)(hK2:1≤K2)(hM1:K1≤100000)(hM2:K2≤100000) :
    Calls Tryz.prog 190 #[v1,v2] w fun e w'=>∃x,e = .returned x∧IsRatT w.heap.size w' x (qsub q1 q2)∧Ext w w':=by
  obtain⟨n1,a1,m1,c1,o1,b1,k1,d1,rfl⟩:=h1.shape
  obtain⟨n2,a2,m2,c2,o2,b2,k2,d2,rfl⟩:=h2.shape
  have hb0:=((below_alloc w (.cells #[.bool n1,.slice a1 m1 c1,.bool o1,.slice b1 k1 d1] 31)).alloc (by simp) (.cells #[.bool n2,.slice a2 m2 c2,.bool o2,.slice b2 k2 d2] 31)).alloc (by simp; omega) (.cells #[.bool false,.slice none 0 0,.bool false,.slice none 0 0] 31)
  have HC:=Lib.hid (ratCross_q _ _ q1 q2 K1 K2 _ (h1.below hb0) (h2.below hb0) hK1 hK2 hM1 hM2)
  have HQ1:=Lib.hid (h1.len hK1)
  have HQ2:=Lib.hid (h2.len hK2)
  have HP:=Lib.hid (Nat.mul_pos h1.pos h2.pos)
  have HB0:=Lib.hid hb0
  clear hb0 h1 h2
  go_enter Tryz.func190,Tryz.ntmps190
  go_wp2_with fail
  refine HC.out.mono ?_
  rintro e w1 ⟨x,y,d,rfl,hx,hy,hd,hb⟩
  obtain⟨p0,e0,rfl⟩:=hx.shape
  obtain⟨p1,e1,rfl⟩:=hy.shape
  obtain⟨p2,e2,rfl⟩:=hd.shape
  have ha:=((below_alloc w1 (.cells #[.bool (decide ((qz q1*(q2.2.2:Int))<0)),.slice p0 (Na.digs (qz q1*(q2.2.2:Int)).natAbs).length e0] 29)).alloc (by simp) (.cells #[.bool (decide ((qz q2*(q1.2.2:Int))<0)),.slice p1 (Na.digs (qz q2*(q1.2.2:Int)).natAbs).length e1] 29)).alloc (by simp; omega) (.cells #[.bool (decide (((q1.2.2:Int)*(q2.2.2:Int))<0)),.slice p2 (Na.digs ((q1.2.2:Int)*(q2.2.2:Int)).natAbs).length e2] 29)
  have HX:=Lib.hid (Ext.trans' HB0.out (Ext.trans' hb ha))
  have HZ:=Lib.hid (And.intro (IsZ.toQ (K:=K1+K2) (hx.ext ha) (len_mul _ _ (qz_len HQ1.out) (nat_len HQ2.out.2))) (And.intro (IsZ.toQ (K:=K1+K2) (hy.ext ha) (by rw[Nat.add_comm]; exact len_mul _ _ (qz_len HQ2.out) (nat_len HQ1.out.2))) (IsZ.toQ (K:=K1+K2) (hd.ext ha) (len_mul _ _ (nat_len HQ1.out.2) (nat_len HQ2.out.2)))))
  have hres:=((bx_new ((w.alloc (.cells #[.bool n1,.slice a1 m1 c1,.bool o1,.slice b1 k1 d1] 31)).alloc (.cells #[.bool n2,.slice a2 m2 c2,.bool o2,.slice b2 k2 d2] 31)) #[.bool false,.slice none 0 0,.bool false,.slice none 0 0] 31).ext hb).ext ha
  simp only[World.size_alloc]at hres
  clear hx hy hd HC
  go_wp2_with fail
  obtain⟨W,hW⟩:∃W,((w1.alloc (.cells #[.bool (decide ((qz q1*(q2.2.2:Int))<0)),.slice p0 (Na.digs (qz q1*(q2.2.2:Int)).natAbs).length e0] 29)).alloc (.cells #[.bool (decide ((qz q2*(q1.2.2:Int))<0)),.slice p1 (Na.digs (qz q2*(q1.2.2:Int)).natAbs).length e1] 29)).alloc (.cells #[.bool (decide (((q1.2.2:Int)*(q2.2.2:Int))<0)),.slice p2 (Na.digs ((q1.2.2:Int)*(q2.2.2:Int)).natAbs).length e2] 29)=W:=⟨_,rfl⟩
  have Y0:Hid (Bx W w1.heap.size #[.bool (decide ((qz q1*(q2.2.2:Int))<0)),.slice p0 (Na.digs (qz q1*(q2.2.2:Int)).natAbs).length e0]):=by
    have h:=((bx_new w1 #[.bool (decide ((qz q1*(q2.2.2:Int))<0)),.slice p0 (Na.digs (qz q1*(q2.2.2:Int)).natAbs).length e0] 29).al (.cells #[.bool (decide ((qz q2*(q1.2.2:Int))<0)),.slice p1 (Na.digs (qz q2*(q1.2.2:Int)).natAbs).length e1] 29)).al (.cells #[.bool (decide (((q1.2.2:Int)*(q2.2.2:Int))<0)),.slice p2 (Na.digs ((q1.2.2:Int)*(q2.2.2:Int)).natAbs).length e2] 29)
    rw[hW]at h; exact Lib.hid h
  have Y1:Hid (Bx W (w1.heap.size+1) #[.bool (decide ((qz q2*(q1.2.2:Int))<0)),.slice p1 (Na.digs (qz q2*(q1.2.2:Int)).natAbs).length e1]):=by
    have h:=(bx_new (w1.alloc (.cells #[.bool (decide ((qz q1*(q2.2.2:Int))<0)),.slice p0 (Na.digs (qz q1*(q2.2.2:Int)).natAbs).length e0] 29)) #[.bool (decide ((qz q2*(q1.2.2:Int))<0)),.slice p1 (Na.digs (qz q2*(q1.2.2:Int)).natAbs).length e1] 29).al (.cells #[.bool (decide (((q1.2.2:Int)*(q2.2.2:Int))<0)),.slice p2 (Na.digs ((q1.2.2:Int)*(q2.2.2:Int)).natAbs).length e2] 29)
    rw[hW]at h; exact Lib.hid (by simpa only[World.size_alloc]using h)
  have Y2:Hid (Bx W (w1.heap.size+1+1) #[.bool (decide (((q1.2.2:Int)*(q2.2.2:Int))<0)),.slice p2 (Na.digs ((q1.2.2:Int)*(q2.2.2:Int)).natAbs).length e2]):=by
    have h:=bx_new ((w1.alloc (.cells #[.bool (decide ((qz q1*(q2.2.2:Int))<0)),.slice p0 (Na.digs (qz q1*(q2.2.2:Int)).natAbs).length e0] 29)).alloc (.cells #[.bool (decide ((qz q2*(q1.2.2:Int))<0)),.slice p1 (Na.digs (qz q2*(q1.2.2:Int)).natAbs).length e1] 29)) #[.bool (decide (((q1.2.2:Int)*(q2.2.2:Int))<0)),.slice p2 (Na.digs ((q1.2.2:Int)*(q2.2.2:Int)).natAbs).length e2] 29
    rw[hW]at h; exact Lib.hid (by simpa only[World.size_alloc]using h)
  rw[hW]at hres HX HZ ⊢
  have hszb:=hb.size
  simp only[World.size_alloc]at hszb
  have hszW:w1.heap.size≤W.heap.size:=by have:=Y0.out.1; omega
  have T0:=Lib.hid hres
  have HX0:=HX
  clear hres hb ha hW HX
  refine Go.Rel.wp_region 5 (by kernel_rfl) (by kernel_rfl) Ext (fun w'=>Ext W w')
    [Rel.is (.agg #[.bool (decide ((qz q1*(q2.2.2:Int))<0)),.slice p0 (Na.digs (qz q1*(q2.2.2:Int)).natAbs).length e0]),
   Rel.is (.agg #[.bool (decide ((qz q2*(q1.2.2:Int))<0)),.slice p1 (Na.digs (qz q2*(q1.2.2:Int)).natAbs).length e1]),
   fun v w'=>IsZ (W.heap.size) w' v ((qz q1*(q2.2.2:Int))-(qz q2*(q1.2.2:Int))),
   Rel.is (.agg #[.bool (decide (((q1.2.2:Int)*(q2.2.2:Int))<0)),.slice p2 (Na.digs ((q1.2.2:Int)*(q2.2.2:Int)).natAbs).length e2]),
   fun v w'=>IsRatT W.heap.size w' v (qsub q1 q2)]
    ?_ ?_ ?_ ⟨?_,?_,?_,?_,?_,trivial⟩ ?_
  · exact below_drewN (Below.refl _ _) 1
  · exact fun _ _ h k=>Ext.trans' h k
  · exact Rel.Monos.mem ⟨Rel.mono_is _,Rel.mono_is _,fun _ _ _ k h=>h.ext k,Rel.mono_is _,fun _ _ _ k h=>h.ext k,trivial⟩
  · intro ρ w' hs ho hC hd
    have h5:ρ (.tmp 5) = .pointer (some ⟨w1.heap.size,0,none⟩):=ho 5 rfl
    exact Rel.does_load (cs:=[.bool (decide ((qz q1*(q2.2.2:Int))<0)),.slice p0 (Na.digs (qz q1*(q2.2.2:Int)).natAbs).length e0]) rfl h5 (Y0.out.ext hC) rfl rfl Tryz.underlying29 rfl (by kernel_rfl) Ext.rfl' rfl
  · intro ρ w' hs ho hC hd
    have h6:ρ (.tmp 6) = .pointer (some ⟨w1.heap.size+1,0,none⟩):=ho 6 rfl
    exact Rel.does_load (cs:=[.bool (decide ((qz q2*(q1.2.2:Int))<0)),.slice p1 (Na.digs (qz q2*(q1.2.2:Int)).natAbs).length e1]) rfl h6 (Y1.out.ext hC) rfl rfl Tryz.underlying29 rfl (by kernel_rfl) Ext.rfl' rfl
  · intro ρ w' hs ho hC hd
    have h15:ρ (.tmp 15) = .agg #[.bool (decide ((qz q1*(q2.2.2:Int))<0)),.slice p0 (Na.digs (qz q1*(q2.2.2:Int)).natAbs).length e0]:=hd.1 rfl
    have h16:ρ (.tmp 16) = .agg #[.bool (decide ((qz q2*(q1.2.2:Int))<0)),.slice p1 (Na.digs (qz q2*(q1.2.2:Int)).natAbs).length e1]:=hd.2.1 rfl
    refine Rel.does_call (f:=216) (args := #[.agg #[.bool (decide ((qz q1*(q2.2.2:Int))<0)),.slice p0 (Na.digs (qz q1*(q2.2.2:Int)).natAbs).length e0],.agg #[.bool (decide ((qz q2*(q1.2.2:Int))<0)),.slice p1 (Na.digs (qz q2*(q1.2.2:Int)).natAbs).length e1]]) (by simp[go_sem,hs.func,h15,h16]) ?_
    refine(intSub_any _ _ _ _ _ _ w' (HZ.out.1.below hC) (HZ.out.2.1.below hC) (by omega) (by omega)).mono ?_
    rintro e w'' ⟨x,rfl,hx,hb⟩
    exact⟨_,rfl,hb,hx.mono hC.size⟩
  · intro ρ w' hs ho hC hd
    have h7:ρ (.tmp 7) = .pointer (some ⟨w1.heap.size+1+1,0,none⟩):=ho 7 rfl
    exact Rel.does_load (cs:=[.bool (decide (((q1.2.2:Int)*(q2.2.2:Int))<0)),.slice p2 (Na.digs ((q1.2.2:Int)*(q2.2.2:Int)).natAbs).length e2]) rfl h7 (Y2.out.ext hC) rfl rfl Tryz.underlying29 rfl (by kernel_rfl) Ext.rfl' rfl
  · intro ρ w' hs ho hC hd
    have h17:IsZ (W.heap.size) w' (ρ (.tmp 17)) ((qz q1*(q2.2.2:Int))-(qz q2*(q1.2.2:Int))):=hd.1 rfl
    have h18:ρ (.tmp 18) = .agg #[.bool (decide (((q1.2.2:Int)*(q2.2.2:Int))<0)),.slice p2 (Na.digs ((q1.2.2:Int)*(q2.2.2:Int)).natAbs).length e2]:=hd.2.1 rfl
    refine Rel.does_call (f:=222) (args := #[ρ (.tmp 17),.agg #[.bool (decide (((q1.2.2:Int)*(q2.2.2:Int))<0)),.slice p2 (Na.digs ((q1.2.2:Int)*(q2.2.2:Int)).natAbs).length e2]]) (by simp[go_sem,hs.func,h18]) ?_
    refine(ratLow_q _ _ ((qz q1*(q2.2.2:Int))-(qz q2*(q1.2.2:Int))) (q1.2.2*q2.2.2) (K1+K2+1) w' (IsZ.toQ h17 (len_sub _ _ (isIntQ_len HZ.out.1) (isIntQ_len HZ.out.2.1))) (by rw[Int.natCast_mul]; exact(HZ.out.2.2.below hC).mono (by omega)) HP.out (by omega)).mono ?_
    rintro e w'' ⟨x,rfl,hx,hb⟩
    exact⟨_,rfl,hb,hx.mono hC.size⟩
  · intro w' hC
    rintro _ rfl _ rfl v2 h2 _ rfl v4 h4
    change wpList _ _ _ (List.drop 5 _) _ _
    simp only[List.drop_succ_cons,List.drop_zero]
    obtain⟨p1,e1,p2,e2,rfl⟩:=h4.shape
    have hz:=T0.out.ext hC
    have HX:=Lib.hid (Ext.trans' HX0.out hC)
    have F:=Lib.hid (h4.set (c:=w.heap.size+1+1) (by omega) [.bool (qsub q1 q2).1,.slice p1 (Na.digs (qsub q1 q2).2.1).length e1,.bool false,.slice p2 (Na.digs (qsub q1 q2).2.2).length e2] 0)
    simp only[Go.Act.put,List.setIfInBounds_toArray,List.set_cons_succ,List.set_cons_zero]
    refine wpList_store_mid rfl 31 (.tmp 4) (.tmp 19) rfl (w.heap.size+1+1) 0 #[.bool (qsub q1 q2).1,.slice p1 (Na.digs (qsub q1 q2).2.1).length e1,.bool false,.slice p2 (Na.digs (qsub q1 q2).2.2).length e2] rfl rfl (hz.there rfl) (by kernel_rfl) (by simp[Value.oneCell']) ?_
    have S3:=Lib.hid (hz.set [.bool (qsub q1 q2).1,.slice p1 (Na.digs (qsub q1 q2).2.1).length e1,.bool false,.slice p2 (Na.digs (qsub q1 q2).2.2).length e2] rfl)
    have HX3:=Lib.hid (ext_setCells HX.out (c:=w.heap.size+1+1) (by omega) [.bool (qsub q1 q2).1,.slice p1 (Na.digs (qsub q1 q2).2.1).length e1,.bool false,.slice p2 (Na.digs (qsub q1 q2).2.2).length e2] 0)
    skip
    show wpList _ _ _ _ _ (World.setCells _ _ _ [_,_,_,_])
    generalize World.setCells w' (w.heap.size+1+1) 0 [.bool (qsub q1 q2).1,.slice p1 (Na.digs (qsub q1 q2).2.1).length e1,.bool false,.slice p2 (Na.digs (qsub q1 q2).2.2).length e2]=W3 at F S3 HX3 ⊢
    have hl:=S3.out.2.1
    clear hz h4 h2 hC
    go_wp2_with fail
    refine bodyPost_ret (v := .agg #[.bool (qsub q1 q2).1,.slice p1 (Na.digs (qsub q1 q2).2.1).length e1,.bool false,.slice p2 (Na.digs (qsub q1 q2).2.2).length e2]) (by simp[results,Tryz.results190,go_sem,hl]) rfl ⟨_,rfl,F.out.mono (by omega),HX3.out⟩
theorem ratBitLen_q(v1:Value)(q1:Bool×Nat×Nat)(K:Nat)(w:World)(h1:IsRatQ K w v1 q1)(hK:1≤K)(hM:K≤100000) :
    Calls Tryz.prog 151 #[v1] w fun e w'=>e = .returned (.int .i64 (qbits q1:Int))∧Ext w w':=by
  obtain⟨n1,a1,m1,c1,o1,b1,k1,d1,rfl⟩:=h1.shape
  have hb0:=below_alloc w (.cells #[.bool n1,.slice a1 m1 c1,.bool o1,.slice b1 k1 d1] 31)
  have HC:=Lib.hid (ratNorm_q _ q1 K _ (h1.below hb0) (by omega))
  have HQ1:=Lib.hid (h1.len hK)
  have HB0:=Lib.hid hb0
  have hbx:=bx_new w #[.bool n1,.slice a1 m1 c1,.bool o1,.slice b1 k1 d1] 31
  clear hb0 h1
  go_enter Tryz.func151,Tryz.ntmps151
  go_wp2_with fail
  refine HC.out.mono ?_
  rintro e w1 ⟨x,rfl,hx,hb⟩
  obtain⟨x1,e1,y1,f1,rfl⟩:=hx.shape
  have hw1:=hbx.ext hb
  obtain⟨r1,r2,r3⟩:=hw1
  go_wp2_with fail
  obtain⟨W2,hW2⟩:∃W2,w1.setCells w.heap.size 0 [.bool q1.1,.slice x1 (Na.digs q1.2.1).length e1,.bool false,.slice y1 (Na.digs q1.2.2).length f1]=W2:=⟨_,rfl⟩
  have v1:=(hbx.ext hb).set [.bool q1.1,.slice x1 (Na.digs q1.2.1).length e1,.bool false,.slice y1 (Na.digs q1.2.2).length f1] rfl
  have g1:=hx.set (c:=w.heap.size) (by simp) [.bool q1.1,.slice x1 (Na.digs q1.2.1).length e1,.bool false,.slice y1 (Na.digs q1.2.2).length f1] 0
  have HE:=ext_setCells (Ext.trans' HB0.out hb) (c:=w.heap.size) (by omega) [.bool q1.1,.slice x1 (Na.digs q1.2.1).length e1,.bool false,.slice y1 (Na.digs q1.2.2).length f1] 0
  rw[hW2]at v1 g1 HE
  show Code.wp _ _ _ _ (World.setCells w1 w.heap.size 0 [.bool q1.1,.slice x1 (Na.digs q1.2.1).length e1,.bool false,.slice y1 (Na.digs q1.2.2).length f1])
  rw[hW2]
  clear r1 r2 r3
  have V1:=Lib.hid v1
  obtain⟨gn1,gd1⟩:=g1.parts' HQ1.out
  have N1:=Lib.hid gn1
  have D1:=Lib.hid gd1
  have HE2:=Lib.hid HE
  clear v1 g1 gn1 gd1 HE hb hx hbx HC hW2
  refine Go.Rel.wp_region 7 (by kernel_rfl) (by kernel_rfl) Ext (fun w'=>Ext W2 w')
    [Rel.is (.pointer (some ⟨w.heap.size,0,none⟩)),
   Rel.is (.agg #[.bool q1.1,.slice x1 (Na.digs q1.2.1).length e1]),
   Rel.is (.int .i64 ((bl q1.2.1:Nat):Int)),
   Rel.is (.pointer (some ⟨w.heap.size,2,none⟩)),
   Rel.is (.agg #[.bool false,.slice y1 (Na.digs q1.2.2).length f1]),
   Rel.is (.int .i64 ((bl q1.2.2:Nat):Int)),
   Rel.is (.int .i64 (max ((bl q1.2.1:Nat):Int) ((bl q1.2.2:Nat):Int)))]
    ?_ ?_ ?_ ⟨?_,?_,?_,?_,?_,?_,?_,trivial⟩ ?_
  · exact below_drewN (Below.refl _ _) 1
  · exact fun _ _ h k=>Ext.trans' h k
  · exact Rel.Monos.mem ⟨Rel.mono_is _,Rel.mono_is _,Rel.mono_is _,Rel.mono_is _,Rel.mono_is _,Rel.mono_is _,Rel.mono_is _,trivial⟩
  · intro ρ w' hs ho hC hd
    have h1:ρ (.tmp 1) = .pointer (some ⟨w.heap.size,0,none⟩):=ho 1 rfl
    exact Rel.does_val (u := .pointer (some ⟨w.heap.size,0,none⟩)) (by simp[go_sem,h1]) Ext.rfl' rfl
  · intro ρ w' hs ho hC hd
    have h5:ρ (.tmp 5) = .pointer (some ⟨w.heap.size,0,none⟩):=hd.1 rfl
    exact Rel.does_load (cs:=[.bool q1.1,.slice x1 (Na.digs q1.2.1).length e1]) rfl h5 (V1.out.ext hC) rfl rfl Tryz.underlying29 rfl (by kernel_rfl) Ext.rfl' rfl
  · intro ρ w' hs ho hC hd
    have h6:ρ (.tmp 6) = .agg #[.bool q1.1,.slice x1 (Na.digs q1.2.1).length e1]:=hd.1 rfl
    refine Rel.does_call (f:=189) (args := #[.agg #[.bool q1.1,.slice x1 (Na.digs q1.2.1).length e1]]) (by simp[go_sem,hs.func,h6]) ?_
    have hc:=intBitLen_any _ _ K w' (N1.out.below hC) (by omega)
    rw[show(qz q1).natAbs=q1.2.1 from by unfold qz; exact zv_abs _ _]at hc
    refine hc.mono ?_
    rintro e w'' ⟨rfl,hb⟩
    exact⟨_,rfl,hb,rfl⟩
  · intro ρ w' hs ho hC hd
    have h1:ρ (.tmp 1) = .pointer (some ⟨w.heap.size,0,none⟩):=ho 1 rfl
    exact Rel.does_val (u := .pointer (some ⟨w.heap.size,2,none⟩)) (by simp[go_sem,h1]) Ext.rfl' rfl
  · intro ρ w' hs ho hC hd
    have h8:ρ (.tmp 8) = .pointer (some ⟨w.heap.size,2,none⟩):=hd.1 rfl
    exact Rel.does_load (cs:=[.bool false,.slice y1 (Na.digs q1.2.2).length f1]) rfl h8 (V1.out.ext hC) rfl rfl Tryz.underlying29 rfl (by kernel_rfl) Ext.rfl' rfl
  · intro ρ w' hs ho hC hd
    have h9:ρ (.tmp 9) = .agg #[.bool false,.slice y1 (Na.digs q1.2.2).length f1]:=hd.1 rfl
    refine Rel.does_call (f:=189) (args := #[.agg #[.bool false,.slice y1 (Na.digs q1.2.2).length f1]]) (by simp[go_sem,hs.func,h9]) ?_
    have hc:=intBitLen_any _ _ K w' (D1.out.below hC) (by omega)
    rw[Int.natAbs_natCast]at hc
    refine hc.mono ?_
    rintro e w'' ⟨rfl,hb⟩
    exact⟨_,rfl,hb,rfl⟩
  · intro ρ w' hs ho hC hd
    have h7:ρ (.tmp 7) = .int .i64 ((bl q1.2.1:Nat):Int):=hd.1 rfl
    have h10:ρ (.tmp 10) = .int .i64 ((bl q1.2.2:Nat):Int):=hd.2.1 rfl
    exact Rel.does_val (u := .int .i64 (max ((bl q1.2.1:Nat):Int) ((bl q1.2.2:Nat):Int))) (by simp[go_sem,h7,h10]) Ext.rfl' rfl
  · intro w' hC
    rintro _ rfl _ rfl _ rfl _ rfl _ rfl _ rfl _ rfl
    change wpList _ _ _ (List.drop 7 _) _ _
    simp only[List.drop_succ_cons,List.drop_zero]
    have HX:=Lib.hid (Ext.trans' HE2.out hC)
    clear hC
    go_wp2_with fail
    go_ret
    exact⟨ret_int (by unfold qbits; omega),HX.out⟩
end Go.Proofs.YtfmkkemfhjkajaaGreatDoor
