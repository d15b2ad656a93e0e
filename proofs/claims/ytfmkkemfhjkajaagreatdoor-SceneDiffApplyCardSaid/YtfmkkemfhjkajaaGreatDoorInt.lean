/- Walks of package integer: Neg, Add, Sub, Mul, Cmp, BitLen. -/
import Derived.Test.YtfmkkemfhjkajaaGreatDoorPk4
import Derived.Test.YtfmkkemfhjkajaaGreatDoorData
import Derived.Test.YtfmkkemfhjkajaaGreatDoorBx
set_option maxHeartbeats 1600000
set_option maxRecDepth 100000
namespace Go.Proofs.YtfmkkemfhjkajaaGreatDoor
open Go.RowKit
variable{α:Type}
set_option linter.unusedVariables false
attribute [local go_sem] Go.Rel.valOf
theorem IsIntN.store2{base:Nat}{w:World}{v:Value}{neg:Bool}{n c:Nat}(h:IsIntN base w v neg n)(hlt:c<base)(x0 x1:Value):IsIntN base ((w.setCell ⟨c,0,none⟩ x0).setCell ⟨c,1,none⟩ x1) v neg n:=by
  obtain⟨s,hv,hs,fs⟩:=h
  exact⟨s,hv,hs.ch (((Ch.refl c w).setCell 0 x0).setCell 1 x1) (fun _=>fs.off hlt),fs⟩
theorem ext_store2{W w:World}(h:Ext W w){c:Nat}(hc:W.heap.size≤c)(x0 x1:Value):Ext W ((w.setCell ⟨c,0,none⟩ x0).setCell ⟨c,1,none⟩ x1):=
  (Below.setCell h (p:=⟨c,0,none⟩) hc _).setCell (p:=⟨c,1,none⟩) hc _
theorem IsIntN.shape{base:Nat}{w:World}{v:Value}{neg:Bool}{n:Nat}(h:IsIntN base w v neg n):∃a d,v = .agg #[.bool neg,.slice a (Na.digs n).length d]:=by
  obtain⟨s,rfl,hs,_⟩:=h
  obtain⟨a,d,rfl⟩:=hs.shape
  exact⟨a,d,rfl⟩
/-- An integer by value, at most K digits. -/
def IsIntQ(K:Nat)(w:World)(v:Value)(z:Int):Prop:=∃n s l,v = .agg #[.bool n,s]∧IsU32s w s l∧l.length≤K∧zv n (Na.val l)=z
theorem IsIntQ.below{K:Nat}{w w':World}{v:Value}{z:Int}(h:IsIntQ K w v z)(hb:Ext w w'):IsIntQ K w' v z:=by
  obtain⟨n,s,l,hv,hs,hl,hz⟩:=h; exact⟨n,s,l,hv,hs.below hb,hl,hz⟩
theorem IsIntQ.mono{K K':Nat}{w:World}{v:Value}{z:Int}(h:IsIntQ K w v z)(hk:K≤K'):IsIntQ K' w v z:=by
  obtain⟨n,s,l,hv,hs,hl,hz⟩:=h; exact⟨n,s,l,hv,hs,by omega,hz⟩
theorem IsZ.toQ{base K:Nat}{w:World}{v:Value}{z:Int}(h:IsZ base w v z)(hk:(Na.digs z.natAbs).length≤K):IsIntQ K w v z:=by
  obtain⟨s,hv,hs,_⟩:=h; exact⟨_,s,_,hv,hs,hk,by rw[Na.val_digs,zv_self]⟩
theorem isIntQ_len{K:Nat}{w:World}{v:Value}{z:Int}(h:IsIntQ K w v z):(Na.digs z.natAbs).length≤K:=by
  obtain⟨n,s,l,hv,hs,hl,rfl⟩:=h
  rw[zv_abs]; exact Nat.le_trans (digs_len l) hl
theorem len_mul(x y:Int){K L:Nat}(hx:(Na.digs x.natAbs).length≤K)(hy:(Na.digs y.natAbs).length≤L):(Na.digs (x*y).natAbs).length≤K+L:=by
  apply Na.digs_length_le
  have h1:=Na.val_lt (Na.digs x.natAbs)
  have h2:=Na.val_lt (Na.digs y.natAbs)
  rw[Na.val_digs]at h1 h2
  have h3:Na.B^(Na.digs x.natAbs).length≤Na.B^K:=Nat.pow_le_pow_right (by decide) hx
  have h4:Na.B^(Na.digs y.natAbs).length≤Na.B^L:=Nat.pow_le_pow_right (by decide) hy
  rw[Int.natAbs_mul,Nat.pow_add]
  exact Nat.mul_lt_mul_of_lt_of_lt (Nat.lt_of_lt_of_le h1 h3) (Nat.lt_of_lt_of_le h2 h4)
theorem len_add(x y:Int){K:Nat}(hx:(Na.digs x.natAbs).length≤K)(hy:(Na.digs y.natAbs).length≤K):(Na.digs (x+y).natAbs).length≤K+1:=by
  apply Na.digs_length_le
  have h1:=Na.val_lt (Na.digs x.natAbs)
  have h2:=Na.val_lt (Na.digs y.natAbs)
  rw[Na.val_digs]at h1 h2
  have h3:Na.B^(Na.digs x.natAbs).length≤Na.B^K:=Nat.pow_le_pow_right (by decide) hx
  have h4:Na.B^(Na.digs y.natAbs).length≤Na.B^K:=Nat.pow_le_pow_right (by decide) hy
  have h6:Na.B^K*2≤Na.B^K*Na.B:=Nat.mul_le_mul_left _ (by decide)
  have h7:=Int.natAbs_add_le x y
  rw[Nat.pow_succ]
  generalize Na.B^K*Na.B=q at *
  generalize Na.B^K=p at *
  omega
theorem len_sub(x y:Int){K:Nat}(hx:(Na.digs x.natAbs).length≤K)(hy:(Na.digs y.natAbs).length≤K):(Na.digs (x-y).natAbs).length≤K+1:=by
  rw[Int.sub_eq_add_neg]; exact len_add x (-y) hx (by rw[Int.natAbs_neg]; exact hy)
theorem blk2{w w1:World}{A B:Array Value}{ta tb:TypeId}(hb:Ext ((w.alloc (.cells A ta)).alloc (.cells B tb)) w1) :
    (∀i,w1.cell? ⟨w.heap.size,i,none⟩=A[i]?)∧(∀i,w1.cell? ⟨w.heap.size+1,i,none⟩=B[i]?)∧(∀i,w1.frozen? ⟨w.heap.size+1,i,none⟩=false)∧w.heap.size+1<w1.heap.size:=by
  refine⟨fun i=>?_,fun i=>?_,fun i=>?_,by have:=hb.size; simp at this; omega⟩
  · rw[hb.cell (p:=⟨w.heap.size,i,none⟩) (by simp; omega)]; simp[go_sem]
  · rw[hb.cell (p:=⟨w.heap.size+1,i,none⟩) (by simp)]; simp[go_sem]
  · rw[hb.frozen (p:=⟨w.heap.size+1,i,none⟩) (by simp)]; simp[go_sem]
theorem intNeg_any(v1:Value)(z1:Int)(K:Nat)(w:World)(h1:IsIntQ K w v1 z1)(hK:K≤10000000) :
    Calls Tryz.prog 242 #[v1] w fun e w'=>∃x,e = .returned x∧IsZ w.heap.size w' x (-z1)∧Ext w w':=by
  obtain⟨n1,s1,l,rfl,h1,hl,rfl⟩:=h1
  obtain⟨a1,c1,rfl⟩:=h1.shape
  have hb0:=(below_alloc w (.cells #[.bool n1,.slice a1 l.length c1] 29)).alloc (by simp) (.cells #[.bool false,.slice none 0 0] 29)
  have HC:=Lib.hid (intNew_any (!n1) _ _ _ (h1.below hb0) (by omega))
  have HB:=Lib.hid hb0
  clear hb0 h1
  go_enter Tryz.func242,Tryz.ntmps242
  go_wp2_with fail
  refine HC.out.mono ?_
  rintro e w2 ⟨x,rfl,hx,hb⟩
  obtain⟨-,r0,f0,hz⟩:=blk2 hb
  obtain⟨b1,d1,rfl⟩:=hx.shape
  have F:=Lib.hid hx
  have HX:=Lib.hid (Ext.trans' HB.out hb)
  generalize hnb:(!n1&&decide (0<Na.val l))=nb at *
  have HNB:=Lib.hid hnb
  clear hb hx hnb HC
  go_wp2_with fail
  refine bodyPost_ret (v := .agg #[.bool nb,.slice b1 (Na.digs (Na.val l)).length d1]) (by simp[results,Tryz.results242,go_sem,r0]) rfl ⟨_,rfl,?_,ext_store2 HX.out (by omega) _ _⟩
  have h:=(F.out.store2 (c:=w.heap.size+1) (by simp) (.bool nb) (.slice b1 (Na.digs (Na.val l)).length d1)).mono (base':=w.heap.size) (by simp; omega)
  rw[←HNB.out]at h ⊢
  rw[←zv_not]
  exact isZ_of h
theorem intMul_any(v1 v2:Value)(z1 z2:Int)(K L:Nat)(w:World)(h1:IsIntQ K w v1 z1)(h2:IsIntQ L w v2 z2)(hK:K≤10000000)(hL:L≤10000000) :
    Calls Tryz.prog 214 #[v1,v2] w fun e w'=>∃x,e = .returned x∧IsZ w.heap.size w' x (z1*z2)∧Ext w w':=by
  obtain⟨n1,s1,l,rfl,h1,hl,rfl⟩:=h1
  obtain⟨n2,s2,m,rfl,h2,hm,rfl⟩:=h2
  obtain⟨a1,c1,rfl⟩:=h1.shape
  obtain⟨a2,c2,rfl⟩:=h2.shape
  obtain⟨W,hW⟩:∃W,((w.alloc (.cells #[.bool n1,.slice a1 l.length c1] 29)).alloc (.cells #[.bool n2,.slice a2 m.length c2] 29)).alloc (.cells #[.bool false,.slice none 0 0] 29)=W:=⟨_,rfl⟩
  have hb0:Ext w W:=by rw[←hW]; exact((below_alloc w _).alloc (by simp) _).alloc (by simp; omega) _
  have HK:Hid (∀w',Ext W w'→(∀i,w'.cell? ⟨w.heap.size,i,none⟩ = #[.bool n1,.slice a1 l.length c1][i]?)∧(∀i,w'.cell? ⟨w.heap.size+1,i,none⟩ = #[.bool n2,.slice a2 m.length c2][i]?) ∧
      (∀i,w'.cell? ⟨w.heap.size+1+1,i,none⟩ = #[Value.bool false,.slice none 0 0][i]?)∧(∀i,w'.frozen? ⟨w.heap.size+1+1,i,none⟩=false)∧w.heap.size+1+1<w'.heap.size):=by
    intro w' h; rw[←hW]at h; exact block3 h
  have hsz:w.heap.size+1+1<W.heap.size:=by rw[←hW]; simp
  have H1:=Lib.hid (h1.below hb0)
  have H2:=Lib.hid (h2.below hb0)
  have HB0:=Lib.hid hb0
  have HW:=Lib.hid hW
  clear hb0 h1 h2 hW
  have lenNM:(Na.digs (Na.val l*Na.val m)).length≤20000000:=by
    have h:=len_mul (Na.val l) (Na.val m) (K:=l.length) (L:=m.length) (digs_len l) (digs_len m)
    rw[Int.natAbs_mul]at h
    simp only[Int.natAbs_natCast]at h
    omega
  go_enter Tryz.func214,Tryz.ntmps214
  go_wp2_with fail
  rw[HW.out]
  refine Go.Rel.wp_region 11 (by kernel_rfl) (by kernel_rfl) Ext (fun w'=>Ext W w')
    [Rel.is (.pointer (some ⟨w.heap.size,0,none⟩)),
   Rel.is (.bool n1),
   Rel.is (.pointer (some ⟨w.heap.size+1,0,none⟩)),
   Rel.is (.bool n2),
   Rel.is (.bool (!(n1==n2))),
   Rel.is (.pointer (some ⟨w.heap.size,1,none⟩)),
   Rel.is (.slice a1 l.length c1),
   Rel.is (.pointer (some ⟨w.heap.size+1,1,none⟩)),
   Rel.is (.slice a2 m.length c2),
   fun v w'=>IsU32s w' v (Na.digs (Na.val l*Na.val m)),
   fun v w'=>IsIntN W.heap.size w' v ((n1 != n2)&&decide (0<(Na.val l*Na.val m))) (Na.val l*Na.val m)]
    ?_ ?_ ?_ ⟨?_,?_,?_,?_,?_,?_,?_,?_,?_,?_,?_,trivial⟩ ?_
  · exact below_drewN (Below.refl _ _) 1
  · exact fun _ _ h k=>Ext.trans' h k
  · exact Rel.Monos.mem ⟨Rel.mono_is _,Rel.mono_is _,Rel.mono_is _,Rel.mono_is _,Rel.mono_is _,Rel.mono_is _,Rel.mono_is _,Rel.mono_is _,Rel.mono_is _,fun _ _ _ k h=>h.below k,fun _ _ _ k h=>h.ext k,trivial⟩
  · intro ρ w' hs ho hC hd
    have h2:ρ (.tmp 2) = .pointer (some ⟨w.heap.size,0,none⟩):=ho 2 rfl
    exact Rel.does_val (u := .pointer (some ⟨w.heap.size,0,none⟩)) (by simp[go_sem,h2]) Ext.rfl' rfl
  · intro ρ w' hs ho hC hd
    have h5:ρ (.tmp 5) = .pointer (some ⟨w.heap.size,0,none⟩):=hd.1 rfl
    have hk:=HK.out w' hC
    exact Rel.does_val (u := .bool n1) (by simp[go_sem,h5,hk]) Ext.rfl' rfl
  · intro ρ w' hs ho hC hd
    have h3:ρ (.tmp 3) = .pointer (some ⟨w.heap.size+1,0,none⟩):=ho 3 rfl
    exact Rel.does_val (u := .pointer (some ⟨w.heap.size+1,0,none⟩)) (by simp[go_sem,h3]) Ext.rfl' rfl
  · intro ρ w' hs ho hC hd
    have h7:ρ (.tmp 7) = .pointer (some ⟨w.heap.size+1,0,none⟩):=hd.1 rfl
    have hk:=HK.out w' hC
    exact Rel.does_val (u := .bool n2) (by simp[go_sem,h7,hk]) Ext.rfl' rfl
  · intro ρ w' hs ho hC hd
    have h6:ρ (.tmp 6) = .bool n1:=hd.1 rfl
    have h8:ρ (.tmp 8) = .bool n2:=hd.2.1 rfl
    exact Rel.does_val (u := .bool (!(n1==n2))) (by simp[go_sem,h6,h8]) Ext.rfl' rfl
  · intro ρ w' hs ho hC hd
    have h2:ρ (.tmp 2) = .pointer (some ⟨w.heap.size,0,none⟩):=ho 2 rfl
    exact Rel.does_val (u := .pointer (some ⟨w.heap.size,1,none⟩)) (by simp[go_sem,h2]) Ext.rfl' rfl
  · intro ρ w' hs ho hC hd
    have h10:ρ (.tmp 10) = .pointer (some ⟨w.heap.size,1,none⟩):=hd.1 rfl
    have hk:=HK.out w' hC
    exact Rel.does_val (u := .slice a1 l.length c1) (by simp[go_sem,h10,hk]) Ext.rfl' rfl
  · intro ρ w' hs ho hC hd
    have h3:ρ (.tmp 3) = .pointer (some ⟨w.heap.size+1,0,none⟩):=ho 3 rfl
    exact Rel.does_val (u := .pointer (some ⟨w.heap.size+1,1,none⟩)) (by simp[go_sem,h3]) Ext.rfl' rfl
  · intro ρ w' hs ho hC hd
    have h12:ρ (.tmp 12) = .pointer (some ⟨w.heap.size+1,1,none⟩):=hd.1 rfl
    have hk:=HK.out w' hC
    exact Rel.does_val (u := .slice a2 m.length c2) (by simp[go_sem,h12,hk]) Ext.rfl' rfl
  · intro ρ w' hs ho hC hd
    have h11:ρ (.tmp 11) = .slice a1 l.length c1:=hd.1 rfl
    have h13:ρ (.tmp 13) = .slice a2 m.length c2:=hd.2.1 rfl
    refine Rel.does_call (f:=240) (args := #[.slice a1 l.length c1,.slice a2 m.length c2]) (by simp[go_sem,hs.func,h11,h13]) ?_
    refine(natMul_any _ _ _ _ w' (H1.out.below hC) (H2.out.below hC) (by omega) (by omega)).mono ?_
    rintro e w'' ⟨x,rfl,hx,hb⟩
    exact⟨_,rfl,hb,hx⟩
  · intro ρ w' hs ho hC hd
    have h9:ρ (.tmp 9) = .bool (!(n1==n2)):=hd.1 rfl
    have h14:IsU32s w' (ρ (.tmp 14)) (Na.digs (Na.val l*Na.val m)):=hd.2.1 rfl
    refine Rel.does_call (f:=223) (args := #[.bool (!(n1==n2)),ρ (.tmp 14)]) (by simp[go_sem,hs.func,h9]) ?_
    have hc:=intNew_any (n1 != n2) _ _ w' h14 (by have:=lenNM; omega)
    rw[Na.val_digs]at hc
    refine hc.mono ?_
    rintro e w'' ⟨x,rfl,hx,hb⟩
    exact⟨_,rfl,hb,hx.mono hC.size⟩
  · intro w' hC
    rintro _ rfl _ rfl _ rfl _ rfl _ rfl _ rfl _ rfl _ rfl _ rfl v9 h9 v10 h10
    change wpList _ _ _ (List.drop 11 _) _ _
    simp only[List.drop_succ_cons,List.drop_zero]
    have HX:=Lib.hid (Ext.trans' HB0.out hC)
    obtain⟨b1,d1,rfl⟩:=h10.shape
    obtain⟨-,-,r0,f0,hz⟩:=HK.out w' hC
    have F:=Lib.hid h10
    clear h9 h10 hC
    go_wp2_with fail
    refine bodyPost_ret (v := .agg #[.bool ((n1 != n2)&&decide (0<Na.val l*Na.val m)),.slice b1 (Na.digs (Na.val l*Na.val m)).length d1]) (by simp[results,Tryz.results214,go_sem,r0]) rfl ⟨_,rfl,?_,ext_store2 HX.out (by omega) _ _⟩
    have h:=(F.out.store2 hsz (.bool ((n1 != n2)&&decide (0<Na.val l*Na.val m))) (.slice b1 (Na.digs (Na.val l*Na.val m)).length d1)).mono (base':=w.heap.size) (by omega)
    rw[zv_mul]
    exact isZ_of h
theorem intAdd_any(v1 v2:Value)(z1 z2:Int)(K L:Nat)(w:World)(h1:IsIntQ K w v1 z1)(h2:IsIntQ L w v2 z2)(hK:K≤10000000)(hL:L≤10000000) :
    Calls Tryz.prog 241 #[v1,v2] w fun e w'=>∃x,e = .returned x∧IsZ w.heap.size w' x (z1+z2)∧Ext w w':=by
  obtain⟨n1,s1,l,rfl,h1,hl,rfl⟩:=h1
  obtain⟨n2,s2,m,rfl,h2,hm,rfl⟩:=h2
  obtain⟨a1,c1,rfl⟩:=h1.shape
  obtain⟨a2,c2,rfl⟩:=h2.shape
  obtain⟨W,hW⟩:∃W,((w.alloc (.cells #[.bool n1,.slice a1 l.length c1] 29)).alloc (.cells #[.bool n2,.slice a2 m.length c2] 29)).alloc (.cells #[.bool false,.slice none 0 0] 29)=W:=⟨_,rfl⟩
  have hb0:Ext w W:=by rw[←hW]; exact((below_alloc w _).alloc (by simp) _).alloc (by simp; omega) _
  have HK:Hid (∀w',Ext W w'→(∀i,w'.cell? ⟨w.heap.size,i,none⟩ = #[.bool n1,.slice a1 l.length c1][i]?)∧(∀i,w'.cell? ⟨w.heap.size+1,i,none⟩ = #[.bool n2,.slice a2 m.length c2][i]?) ∧
      (∀i,w'.cell? ⟨w.heap.size+1+1,i,none⟩ = #[Value.bool false,.slice none 0 0][i]?)∧(∀i,w'.frozen? ⟨w.heap.size+1+1,i,none⟩=false)∧w.heap.size+1+1<w'.heap.size):=by
    intro w' h; rw[←hW]at h; exact block3 h
  have hsz:w.heap.size+1+1<W.heap.size:=by rw[←hW]; simp
  have H1:=Lib.hid (h1.below hb0)
  have H2:=Lib.hid (h2.below hb0)
  have HB0:=Lib.hid hb0
  have HW:=Lib.hid hW
  clear hb0 h1 h2 hW
  have lenNA:(Na.digs (Na.val l+Na.val m)).length≤20000001:=by
    have h:=len_add (Na.val l) (Na.val m) (K:=l.length+m.length) (by simp only[Int.natAbs_natCast]; have:=digs_len l; omega) (by simp only[Int.natAbs_natCast]; have:=digs_len m; omega)
    rw[show((Na.val l:Int)+(Na.val m:Int))=((Na.val l+Na.val m:Nat):Int) by omega,Int.natAbs_natCast]at h
    omega
  obtain⟨k1,k2,-,-,-⟩:=HK.out W Ext.rfl'
  have K1:=Lib.hid k1
  have K2:=Lib.hid k2
  rw[←HW.out]at k1 k2
  by_cases hn:n1=n2
  · subst hn
    have hnn:(n1==n1)=true:=by simp
    clear k1 k2
    go_enter Tryz.func241,Tryz.ntmps241
    go_wp2_with fail
    rw[HW.out]
    refine Go.Rel.wp_region 8 (by kernel_rfl) (by kernel_rfl) Ext (fun w'=>Ext W w')
      [Rel.is (.pointer (some ⟨w.heap.size,0,none⟩)),
   Rel.is (.bool n1),
   Rel.is (.pointer (some ⟨w.heap.size,1,none⟩)),
   Rel.is (.slice a1 l.length c1),
   Rel.is (.pointer (some ⟨w.heap.size+1,1,none⟩)),
   Rel.is (.slice a2 m.length c2),
   fun v w'=>IsU32s w' v (Na.digs (Na.val l+Na.val m)),
   fun v w'=>IsIntN W.heap.size w' v (n1&&decide (0<(Na.val l+Na.val m))) (Na.val l+Na.val m)]
      ?_ ?_ ?_ ⟨?_,?_,?_,?_,?_,?_,?_,?_,trivial⟩ ?_
    · exact below_drewN (Below.refl _ _) 1
    · exact fun _ _ h k=>Ext.trans' h k
    · exact Rel.Monos.mem ⟨Rel.mono_is _,Rel.mono_is _,Rel.mono_is _,Rel.mono_is _,Rel.mono_is _,Rel.mono_is _,fun _ _ _ k h=>h.below k,fun _ _ _ k h=>h.ext k,trivial⟩
    · intro ρ w' hs ho hC hd
      have h2:ρ (.tmp 2) = .pointer (some ⟨w.heap.size,0,none⟩):=ho 2 rfl
      exact Rel.does_val (u := .pointer (some ⟨w.heap.size,0,none⟩)) (by simp[go_sem,h2]) Ext.rfl' rfl
    · intro ρ w' hs ho hC hd
      have h14:ρ (.tmp 14) = .pointer (some ⟨w.heap.size,0,none⟩):=hd.1 rfl
      have hk:=HK.out w' hC
      exact Rel.does_val (u := .bool n1) (by simp[go_sem,h14,hk]) Ext.rfl' rfl
    · intro ρ w' hs ho hC hd
      have h2:ρ (.tmp 2) = .pointer (some ⟨w.heap.size,0,none⟩):=ho 2 rfl
      exact Rel.does_val (u := .pointer (some ⟨w.heap.size,1,none⟩)) (by simp[go_sem,h2]) Ext.rfl' rfl
    · intro ρ w' hs ho hC hd
      have h16:ρ (.tmp 16) = .pointer (some ⟨w.heap.size,1,none⟩):=hd.1 rfl
      have hk:=HK.out w' hC
      exact Rel.does_val (u := .slice a1 l.length c1) (by simp[go_sem,h16,hk]) Ext.rfl' rfl
    · intro ρ w' hs ho hC hd
      have h3:ρ (.tmp 3) = .pointer (some ⟨w.heap.size+1,0,none⟩):=ho 3 rfl
      exact Rel.does_val (u := .pointer (some ⟨w.heap.size+1,1,none⟩)) (by simp[go_sem,h3]) Ext.rfl' rfl
    · intro ρ w' hs ho hC hd
      have h18:ρ (.tmp 18) = .pointer (some ⟨w.heap.size+1,1,none⟩):=hd.1 rfl
      have hk:=HK.out w' hC
      exact Rel.does_val (u := .slice a2 m.length c2) (by simp[go_sem,h18,hk]) Ext.rfl' rfl
    · intro ρ w' hs ho hC hd
      have h17:ρ (.tmp 17) = .slice a1 l.length c1:=hd.1 rfl
      have h19:ρ (.tmp 19) = .slice a2 m.length c2:=hd.2.1 rfl
      refine Rel.does_call (f:=259) (args := #[.slice a1 l.length c1,.slice a2 m.length c2]) (by simp[go_sem,hs.func,h17,h19]) ?_
      refine(natAdd_any _ _ _ _ w' (H1.out.below hC) (H2.out.below hC) (by omega) (by omega)).mono ?_
      rintro e w'' ⟨x,rfl,hx,hb⟩
      exact⟨_,rfl,hb,hx⟩
    · intro ρ w' hs ho hC hd
      have h15:ρ (.tmp 15) = .bool n1:=hd.1 rfl
      have h20:IsU32s w' (ρ (.tmp 20)) (Na.digs (Na.val l+Na.val m)):=hd.2.1 rfl
      refine Rel.does_call (f:=223) (args := #[.bool n1,ρ (.tmp 20)]) (by simp[go_sem,hs.func,h15]) ?_
      have hc:=intNew_any n1 _ _ w' h20 (by have:=lenNA; omega)
      rw[Na.val_digs]at hc
      refine hc.mono ?_
      rintro e w'' ⟨x,rfl,hx,hb⟩
      exact⟨_,rfl,hb,hx.mono hC.size⟩
    · intro w' hC
      rintro _ rfl _ rfl _ rfl _ rfl _ rfl _ rfl v6 h6 v7 h7
      change wpList _ _ _ (List.drop 8 _) _ _
      simp only[List.drop_succ_cons,List.drop_zero]
      have HX:=Lib.hid (Ext.trans' HB0.out hC)
      obtain⟨b1,d1,rfl⟩:=h7.shape
      obtain⟨-,-,r0,f0,hz⟩:=HK.out w' hC
      have F:=Lib.hid h7
      clear h6 h7 hC
      go_wp2_with fail
      refine bodyPost_ret (v := .agg #[.bool (n1&&decide (0<Na.val l+Na.val m)),.slice b1 (Na.digs (Na.val l+Na.val m)).length d1]) (by simp[results,Tryz.results241,go_sem,r0]) rfl ⟨_,rfl,?_,ext_store2 HX.out (by omega) _ _⟩
      have h:=(F.out.store2 hsz (.bool (n1&&decide (0<Na.val l+Na.val m))) (.slice b1 (Na.digs (Na.val l+Na.val m)).length d1)).mono (base':=w.heap.size) (by omega)
      rw[zv_add_same]
      exact isZ_of h
  · have hnn:(n1==n2)=false:=by simpa using hn
    have HN:=Lib.hid hn
    clear hn k1 k2
    by_cases hle:Na.val m≤Na.val l
    · have HS:=Lib.hid (natSub_ge _ _ _ _ W H1.out H2.out (by omega) hle)
      have hdl:(Na.digs (Na.val l-Na.val m)).length≤10000000:=by
        have h1:=digs_len_le (Nat.sub_le (Na.val l) (Na.val m))
        have h2:=digs_len l
        omega
      have HLE:=Lib.hid hle
      clear hle
      go_enter Tryz.func241,Tryz.ntmps241
      go_wp2_with fail
      rw[HW.out]
      refine HS.out.mono ?_
      rintro e w1 ⟨y,rfl,hr,hb⟩
      have HRS:=Lib.hid hr
      clear hr HS
      obtain⟨k1,-,-,-,hzz⟩:=HK.out w1 hb
      go_wp2_with fail
      have hc:=intNew_any n1 _ _ w1 HRS.out (by omega)
      rw[Na.val_digs]at hc
      refine hc.mono ?_
      rintro e w2 ⟨x,rfl,hx,hb2⟩
      have hbb:=Ext.trans' hb hb2
      obtain⟨-,-,r0,f0,hz⟩:=HK.out w2 hbb
      obtain⟨b1,d1,rfl⟩:=hx.shape
      have F:=Lib.hid (hx.mono hb.size)
      have HX:=Lib.hid (Ext.trans' HB0.out hbb)
      generalize hnb:(n1&&decide (0<Na.val l-Na.val m))=nb at *
      have HNB:=Lib.hid hnb
      clear hc hx hb hb2 hbb k1 hnb hzz
      go_wp2_with fail
      refine bodyPost_ret (v := .agg #[.bool nb,.slice b1 (Na.digs (Na.val l-Na.val m)).length d1]) (by simp[results,Tryz.results241,go_sem,r0]) rfl ⟨_,rfl,?_,ext_store2 HX.out (by omega) _ _⟩
      have h:=(F.out.store2 hsz (.bool nb) (.slice b1 (Na.digs (Na.val l-Na.val m)).length d1)).mono (base':=w.heap.size) (by omega)
      rw[←HNB.out]at h ⊢
      rw[zv_add_left HN.out HLE.out]
      exact isZ_of h
    · have hlt:Na.val l<Na.val m:=by omega
      have HS:=Lib.hid (natSub_lt _ _ _ _ W H1.out H2.out hlt)
      have hdl:(Na.digs (Na.val m-Na.val l)).length≤10000000:=by
        have h1:=digs_len_le (Nat.sub_le (Na.val m) (Na.val l))
        have h2:=digs_len m
        omega
      have HLE:=Lib.hid hlt
      clear hle hlt
      go_enter Tryz.func241,Tryz.ntmps241
      go_wp2_with fail
      rw[HW.out]
      refine HS.out.mono ?_
      rintro e w1 ⟨rfl,hb⟩
      obtain⟨k1,k2,-,-,hzz⟩:=HK.out w1 hb
      clear HS
      go_wp2_with fail
      refine(natSub_ge _ _ _ _ w1 (H2.out.below hb) (H1.out.below hb) (by omega) (Nat.le_of_lt HLE.out)).mono ?_
      rintro e w2 ⟨y,rfl,hr,hb2⟩
      have hbb:=Ext.trans' hb hb2
      have HRS:=Lib.hid hr
      clear hr k1 k2 hzz
      obtain⟨k1,k2,-,-,hzz⟩:=HK.out w2 hbb
      go_wp2_with fail
      have hc:=intNew_any n2 _ _ w2 HRS.out (by omega)
      rw[Na.val_digs]at hc
      refine hc.mono ?_
      rintro e w3 ⟨x,rfl,hx,hb3⟩
      have hb4:=Ext.trans' hbb hb3
      obtain⟨-,-,r0,f0,hz⟩:=HK.out w3 hb4
      obtain⟨b1,d1,rfl⟩:=hx.shape
      have F:=Lib.hid (hx.mono hbb.size)
      have HX:=Lib.hid (Ext.trans' HB0.out hb4)
      generalize hnb:(n2&&decide (0<Na.val m-Na.val l))=nb at *
      have HNB:=Lib.hid hnb
      clear hc hx hb hb2 hbb hb3 hb4 k1 k2 hnb hzz
      go_wp2_with fail
      refine bodyPost_ret (v := .agg #[.bool nb,.slice b1 (Na.digs (Na.val m-Na.val l)).length d1]) (by simp[results,Tryz.results241,go_sem,r0]) rfl ⟨_,rfl,?_,ext_store2 HX.out (by omega) _ _⟩
      have h:=(F.out.store2 hsz (.bool nb) (.slice b1 (Na.digs (Na.val m-Na.val l)).length d1)).mono (base':=w.heap.size) (by omega)
      rw[←HNB.out]at h ⊢
      rw[zv_add_right HN.out (Nat.le_of_lt HLE.out)]
      exact isZ_of h
theorem intSub_any(v1 v2:Value)(z1 z2:Int)(K L:Nat)(w:World)(h1:IsIntQ K w v1 z1)(h2:IsIntQ L w v2 z2)(hK:K≤10000000)(hL:L≤10000000) :
    Calls Tryz.prog 216 #[v1,v2] w fun e w'=>∃x,e = .returned x∧IsZ w.heap.size w' x (z1-z2)∧Ext w w':=by
  obtain⟨n1,s1,l,rfl,h1,hl,rfl⟩:=h1
  obtain⟨n2,s2,m,rfl,h2,hm,rfl⟩:=h2
  obtain⟨a1,c1,rfl⟩:=h1.shape
  obtain⟨a2,c2,rfl⟩:=h2.shape
  obtain⟨W,hW⟩:∃W,((w.alloc (.cells #[.bool n1,.slice a1 l.length c1] 29)).alloc (.cells #[.bool n2,.slice a2 m.length c2] 29)).alloc (.cells #[.bool false,.slice none 0 0] 29)=W:=⟨_,rfl⟩
  have hb0:Ext w W:=by rw[←hW]; exact((below_alloc w _).alloc (by simp) _).alloc (by simp; omega) _
  have HK:Hid (∀w',Ext W w'→(∀i,w'.cell? ⟨w.heap.size,i,none⟩ = #[.bool n1,.slice a1 l.length c1][i]?)∧(∀i,w'.cell? ⟨w.heap.size+1,i,none⟩ = #[.bool n2,.slice a2 m.length c2][i]?) ∧
      (∀i,w'.cell? ⟨w.heap.size+1+1,i,none⟩ = #[Value.bool false,.slice none 0 0][i]?)∧(∀i,w'.frozen? ⟨w.heap.size+1+1,i,none⟩=false)∧w.heap.size+1+1<w'.heap.size):=by
    intro w' h; rw[←hW]at h; exact block3 h
  have hsz:w.heap.size+1+1<W.heap.size:=by rw[←hW]; simp
  have H1:=Lib.hid (h1.below hb0)
  have H2:=Lib.hid (h2.below hb0)
  have HB0:=Lib.hid hb0
  have HW:=Lib.hid hW
  clear hb0 h1 h2 hW
  go_enter Tryz.func216,Tryz.ntmps216
  go_wp2_with fail
  rw[HW.out]
  refine Go.Rel.wp_region 4 (by kernel_rfl) (by kernel_rfl) Ext (fun w'=>Ext W w')
    [Rel.is (.agg #[.bool n1,.slice a1 l.length c1]),
   Rel.is (.agg #[.bool n2,.slice a2 m.length c2]),
   fun v w'=>IsZ W.heap.size w' v (-zv n2 (Na.val m)),
   fun v w'=>IsZ W.heap.size w' v (zv n1 (Na.val l) + -zv n2 (Na.val m))]
    ?_ ?_ ?_ ⟨?_,?_,?_,?_,trivial⟩ ?_
  · exact below_drewN (Below.refl _ _) 1
  · exact fun _ _ h k=>Ext.trans' h k
  · exact Rel.Monos.mem ⟨Rel.mono_is _,Rel.mono_is _,fun _ _ _ k h=>h.ext k,fun _ _ _ k h=>h.ext k,trivial⟩
  · intro ρ w' hs ho hC hd
    have h2:ρ (.tmp 2) = .pointer (some ⟨w.heap.size,0,none⟩):=ho 2 rfl
    have hk:=HK.out w' hC
    exact Rel.does_val (u := .agg #[.bool n1,.slice a1 l.length c1]) (by simp[go_sem,h2,hk]) Ext.rfl' rfl
  · intro ρ w' hs ho hC hd
    have h3:ρ (.tmp 3) = .pointer (some ⟨w.heap.size+1,0,none⟩):=ho 3 rfl
    have hk:=HK.out w' hC
    exact Rel.does_val (u := .agg #[.bool n2,.slice a2 m.length c2]) (by simp[go_sem,h3,hk]) Ext.rfl' rfl
  · intro ρ w' hs ho hC hd
    have h6:ρ (.tmp 6) = .agg #[.bool n2,.slice a2 m.length c2]:=hd.1 rfl
    refine Rel.does_call (f:=242) (args := #[.agg #[.bool n2,.slice a2 m.length c2]]) (by simp[go_sem,hs.func,h6]) ?_
    refine(intNeg_any _ (zv n2 (Na.val m)) m.length w' ⟨n2,_,m,rfl,H2.out.below hC,Nat.le_refl _,rfl⟩ (by omega)).mono ?_
    rintro e w'' ⟨x,rfl,hx,hb⟩
    exact⟨_,rfl,hb,hx.mono hC.size⟩
  · intro ρ w' hs ho hC hd
    have h5:ρ (.tmp 5) = .agg #[.bool n1,.slice a1 l.length c1]:=hd.1 rfl
    have h7:IsZ W.heap.size w' (ρ (.tmp 7)) (-zv n2 (Na.val m)):=hd.2.1 rfl
    refine Rel.does_call (f:=241) (args := #[.agg #[.bool n1,.slice a1 l.length c1],ρ (.tmp 7)]) (by simp[go_sem,hs.func,h5]) ?_
    refine(intAdd_any _ _ (zv n1 (Na.val l)) (-zv n2 (Na.val m)) l.length m.length w' ⟨n1,_,l,rfl,H1.out.below hC,Nat.le_refl _,rfl⟩ (IsZ.toQ h7 (by rw[Int.natAbs_neg,zv_abs]; exact digs_len m)) (by omega) (by omega)).mono ?_
    rintro e w'' ⟨x,rfl,hx,hb⟩
    exact⟨_,rfl,hb,hx.mono hC.size⟩
  · intro w' hC
    rintro _ rfl _ rfl v2 h2 v3 h3
    change wpList _ _ _ (List.drop 4 _) _ _
    simp only[List.drop_succ_cons,List.drop_zero]
    have HX:=Lib.hid (Ext.trans' HB0.out hC)
    obtain⟨b1,d1,rfl⟩:=h3.shape
    obtain⟨-,-,r0,f0,hz⟩:=HK.out w' hC
    have F:=Lib.hid h3
    clear h2 h3 hC
    go_wp2_with fail
    refine bodyPost_ret (v := .agg #[.bool (decide (zv n1 (Na.val l) + -zv n2 (Na.val m)<0)),.slice b1 (Na.digs (zv n1 (Na.val l) + -zv n2 (Na.val m)).natAbs).length d1]) (by simp[results,Tryz.results216,go_sem,r0]) rfl ⟨_,rfl,?_,ext_store2 HX.out (by omega) _ _⟩
    have h:=(F.out.store2 hsz (.bool (decide (zv n1 (Na.val l) + -zv n2 (Na.val m)<0))) (.slice b1 (Na.digs (zv n1 (Na.val l) + -zv n2 (Na.val m)).natAbs).length d1)).mono (base':=w.heap.size) (by omega)
    rw[Int.sub_eq_add_neg]
    exact h
theorem intCmp_any(v1 v2:Value)(z1 z2:Int)(K L:Nat)(w:World)(h1:IsIntQ K w v1 z1)(h2:IsIntQ L w v2 z2)(hK:K≤10000000)(hL:L≤10000000) :
    Calls Tryz.prog 182 #[v1,v2] w fun e w'=>e = .returned (.int .i64 (z1-z2).sign)∧Ext w w':=by
  have hlz:=len_sub z1 z2 (K:=K+L) (by have:=isIntQ_len h1; omega) (by have:=isIntQ_len h2; omega)
  obtain⟨n1,s1,l,rfl,h1,hl,rfl⟩:=h1
  obtain⟨n2,s2,m,rfl,h2,hm,rfl⟩:=h2
  obtain⟨a1,c1,rfl⟩:=h1.shape
  obtain⟨a2,c2,rfl⟩:=h2.shape
  have hb0:=(below_alloc w (.cells #[.bool n1,.slice a1 l.length c1] 29)).alloc (by simp) (.cells #[.bool n2,.slice a2 m.length c2] 29)
  have HC:=Lib.hid (intSub_any _ _ (zv n1 (Na.val l)) (zv n2 (Na.val m)) l.length m.length _ ⟨n1,_,l,rfl,h1.below hb0,Nat.le_refl _,rfl⟩ ⟨n2,_,m,rfl,h2.below hb0,Nat.le_refl _,rfl⟩ (by omega) (by omega))
  have HB:=Lib.hid hb0
  generalize zv n1 (Na.val l)-zv n2 (Na.val m)=z at *
  clear hb0 h1 h2
  go_enter Tryz.func182,Tryz.ntmps182
  go_wp2_with fail
  refine HC.out.mono ?_
  rintro e w1 ⟨x,rfl,⟨s,rfl,hs,-⟩,hb⟩
  have hg:=intSign_any (decide (z<0)) _ _ w1 hs (by omega)
  rw[Na.val_digs,sgn_zv,zv_self]at hg
  have HG:=Lib.hid hg
  have HX:=Lib.hid (Ext.trans' HB.out hb)
  obtain⟨b1,d1,rfl⟩:=hs.shape
  clear hg hs hb HC
  go_wp2_with fail
  refine HG.out.mono ?_
  rintro e w2 ⟨rfl,hb⟩
  have HX2:=Lib.hid (Ext.trans' HX.out hb)
  clear hb HG
  go_wp2_with fail
  go_ret
  exact⟨rfl,HX2.out⟩
theorem intBitLen_any(v1:Value)(z1:Int)(K:Nat)(w:World)(h1:IsIntQ K w v1 z1)(hK:K≤10000000) :
    Calls Tryz.prog 189 #[v1] w fun e w'=>e = .returned (.int .i64 (bl z1.natAbs:Int))∧Ext w w':=by
  obtain⟨n1,s1,l,rfl,h1,hl,rfl⟩:=h1
  obtain⟨a1,c1,rfl⟩:=h1.shape
  have hb0:=below_alloc w (.cells #[.bool n1,.slice a1 l.length c1] 29)
  have HC:=Lib.hid (bitLen_any _ l _ (h1.below hb0) (by omega))
  have HB:=Lib.hid hb0
  rw[zv_abs]
  clear hb0 h1
  go_enter Tryz.func189,Tryz.ntmps189
  go_wp2_with fail
  refine HC.out.mono ?_
  rintro e w1 ⟨rfl,rfl⟩
  skip
  clear HC
  go_wp2_with fail
  go_ret
  exact⟨rfl,HB.out⟩
end Go.Proofs.YtfmkkemfhjkajaaGreatDoor
