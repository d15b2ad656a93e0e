/- Walks of reference 03: Normalize, reduce, Mul, Add, Cmp, Neg, Sub, BitLen by value. -/
import Derived.Test.YtcohmdeoocgmdaaGreatDoorRatF
import Derived.Test.YtcohmdeoocgmdaaGreatDoorRefInt
import Derived.Test.YtcohmdeoocgmdaaGreatDoorRefRat3
set_option maxHeartbeats 3200000
set_option maxRecDepth 100000
namespace Go.Proofs.YtcohmdeoocgmdaaGreatDoor
open Go.RowKit
variable {α : Type}
set_option linter.unusedVariables false
attribute [local go_sem] Go.Rel.valOf
/-- Normalize by value. -/
theorem refNorm_q (v : Value) (q : Bool × Nat × Nat) (K : Nat) (w : World) (h : IsRatQ K w v q) (hK : K ≤ 1000000) :
    Calls Tryz.prog 35 #[v] w fun e w' => ∃ x, e = .returned x ∧ IsRatT w.heap.size w' x q ∧ Ext w w' := by
  obtain ⟨n1, s1, l1, n2, s2, l2, rfl, h1, h2, h3, h4, rfl⟩ := h
  exact refRatNormalize_any n1 n2 s1 s2 l1 l2 w h1 h2 (by omega) (by omega)
/-- reduce by value. -/
theorem refLow_q (v1 v2 : Value) (z : Int) (d K : Nat) (w : World) (h1 : IsIntQ K w v1 z) (h2 : IsIntQ K w v2 (d : Int)) (hd : 0 < d) (hK : K ≤ 1000000) :
    Calls Tryz.prog 83 #[v1, v2] w fun e w' => ∃ x, e = .returned x ∧ IsRatT w.heap.size w' x (nz z d) ∧ Ext w w' := by
  obtain ⟨n1, s1, l, rfl, h1, hl, rfl⟩ := h1
  obtain ⟨n2, s2, m, rfl, h2, hm, hz⟩ := h2
  obtain ⟨rfl, rfl⟩ : n2 = false ∧ Na.val m = d := by
    unfold zv at hz
    cases n2
    · simp only [Bool.false_eq_true, if_false] at hz; exact ⟨rfl, by omega⟩
    · simp only [if_true] at hz; omega
  have h := refReduce_any n1 false s1 s2 l m w h1 h2 hd (by omega) (by omega)
  rw [← nrm_zv]
  unfold nrm
  rw [if_neg (by omega)]
  exact h
theorem refMul_q (v1 v2 : Value) (q1 q2 : Bool × Nat × Nat) (K1 K2 : Nat) (w : World) (h1 : IsRatQ K1 w v1 q1) (h2 : IsRatQ K2 w v2 q2) (hK1 : 1 ≤ K1) (hK2 : 1 ≤ K2) (hM1 : K1 ≤ 100000) (hM2 : K2 ≤ 100000) :
    Calls Tryz.prog 39 #[v1, v2] w fun e w' => ∃ x, e = .returned x ∧ IsRatT w.heap.size w' x (qmul q1 q2) ∧ Ext w w' := by
  obtain ⟨n1, a1, m1, c1, o1, b1, k1, d1, rfl⟩ := h1.shape
  obtain ⟨n2, a2, m2, c2, o2, b2, k2, d2, rfl⟩ := h2.shape
  obtain ⟨W, hW⟩ : ∃ W, (((w.alloc (.cells #[.bool n1, .slice a1 m1 c1, .bool o1, .slice b1 k1 d1] 26)).alloc (.cells #[.bool n2, .slice a2 m2 c2, .bool o2, .slice b2 k2 d2] 26)).alloc (.cells #[.bool false, .slice none 0 0, .bool false, .slice none 0 0] 26)) = W := ⟨_, rfl⟩
  have hb0 : Ext w W := by rw [← hW]; exact ((below_alloc w _).alloc (by simp) _).alloc (by simp; omega) _
  have X1 : Hid (Bx W (w.heap.size) #[.bool n1, .slice a1 m1 c1, .bool o1, .slice b1 k1 d1]) := by
    have h := ((bx_new w #[.bool n1, .slice a1 m1 c1, .bool o1, .slice b1 k1 d1] 26).al (.cells #[.bool n2, .slice a2 m2 c2, .bool o2, .slice b2 k2 d2] 26)).al (.cells #[.bool false, .slice none 0 0, .bool false, .slice none 0 0] 26)
    rw [hW] at h; exact Lib.hid (by simpa only [World.size_alloc] using h)
  have X2 : Hid (Bx W (w.heap.size + 1) #[.bool n2, .slice a2 m2 c2, .bool o2, .slice b2 k2 d2]) := by
    have h := (bx_new (w.alloc (.cells #[.bool n1, .slice a1 m1 c1, .bool o1, .slice b1 k1 d1] 26)) #[.bool n2, .slice a2 m2 c2, .bool o2, .slice b2 k2 d2] 26).al (.cells #[.bool false, .slice none 0 0, .bool false, .slice none 0 0] 26)
    rw [hW] at h; exact Lib.hid (by simpa only [World.size_alloc] using h)
  have Z0 : Hid (Bx W (w.heap.size + 1 + 1) #[.bool false, .slice none 0 0, .bool false, .slice none 0 0]) := by
    have h := bx_new ((w.alloc (.cells #[.bool n1, .slice a1 m1 c1, .bool o1, .slice b1 k1 d1] 26)).alloc (.cells #[.bool n2, .slice a2 m2 c2, .bool o2, .slice b2 k2 d2] 26)) #[.bool false, .slice none 0 0, .bool false, .slice none 0 0] 26
    rw [hW] at h; exact Lib.hid (by simpa only [World.size_alloc] using h)
  have H1 := Lib.hid (h1.below hb0)
  have HQ1 := Lib.hid (h1.len hK1)
  have HN1 := Lib.hid h1.nrm
  have HP1 := Lib.hid h1.pos
  have H2 := Lib.hid (h2.below hb0)
  have HQ2 := Lib.hid (h2.len hK2)
  have HN2 := Lib.hid h2.nrm
  have HP2 := Lib.hid h2.pos
  have HB0 := Lib.hid hb0
  have HW := Lib.hid hW
  clear hb0 hW h1 h2
  have hb0w : Hid (w.heap.size + 1 + 1 < W.heap.size) := Z0.out.1
  go_enter Tryz.func39, Tryz.ntmps39
  go_wp2_with fail
  rw [HW.out]
  refine Go.Rel.wp_regionP 6 4 5 (by kernel_rfl) (by kernel_rfl) Ext (fun w' => Ext W w')
    [Rel.is (.agg #[.bool n1, .slice a1 m1 c1, .bool o1, .slice b1 k1 d1]),
   fun v w' => IsRatT W.heap.size w' v q1,
   Rel.is (.agg #[.bool n2, .slice a2 m2 c2, .bool o2, .slice b2 k2 d2]),
   fun v w' => IsRatT W.heap.size w' v q2,
   fun v w' => NewB #[.bool false, .slice none 0 0, .bool false, .slice none 0 0] (W.heap.size) w' v,
   fun v w' => NewB #[.bool false, .slice none 0 0, .bool false, .slice none 0 0] (W.heap.size) w' v]
    ?_ ?_ ?_ ?_ ⟨?_, ?_, ?_, ?_, ?_, ?_, trivial⟩ ?_
  · exact below_drewN (Below.refl _ _) 1
  · exact fun _ _ h k => Ext.trans' h k
  · exact Rel.Monos.mem ⟨Rel.mono_is _, fun _ _ _ k h => h.ext k, Rel.mono_is _, fun _ _ _ k h => h.ext k, fun _ _ _ k h => h.ext k, fun _ _ _ k h => h.ext k, trivial⟩
  · refine ⟨by decide, fun i o hi ho => ?_, fun i hi u w' hT => ?_⟩
    · rcases hi with rfl | rfl
      all_goals
        obtain rfl := Option.some.inj ho
        exact ⟨_, _, rfl, rfl, rfl⟩
    · rcases hi with rfl | rfl
      · exact NewB.old hT
      · exact NewB.old hT
  · intro ρ w' hs ho hC hd
    have h2 : ρ (.tmp 2) = .pointer (some ⟨w.heap.size, 0, none⟩) := ho 2 rfl
    exact Rel.does_load (cs := [.bool n1, .slice a1 m1 c1, .bool o1, .slice b1 k1 d1]) rfl h2 (X1.out.ext hC) rfl rfl Tryz.underlying26 rfl (by kernel_rfl) Ext.rfl' rfl
  · intro ρ w' hs ho hC hd
    have h7 : ρ (.tmp 7) = .agg #[.bool n1, .slice a1 m1 c1, .bool o1, .slice b1 k1 d1] := hd.1 rfl
    refine Rel.does_call (f := 35) (args := #[.agg #[.bool n1, .slice a1 m1 c1, .bool o1, .slice b1 k1 d1]]) (by simp [go_sem, hs.func, h7]) ?_
    refine (refNorm_q _ q1 K1 w' (H1.out.below hC) (by omega)).mono ?_
    rintro e w'' ⟨x, rfl, hx, hb⟩
    exact ⟨_, rfl, hb, hx.mono hC.size⟩
  · intro ρ w' hs ho hC hd
    have h3 : ρ (.tmp 3) = .pointer (some ⟨w.heap.size + 1, 0, none⟩) := ho 3 rfl
    exact Rel.does_load (cs := [.bool n2, .slice a2 m2 c2, .bool o2, .slice b2 k2 d2]) rfl h3 (X2.out.ext hC) rfl rfl Tryz.underlying26 rfl (by kernel_rfl) Ext.rfl' rfl
  · intro ρ w' hs ho hC hd
    have h9 : ρ (.tmp 9) = .agg #[.bool n2, .slice a2 m2 c2, .bool o2, .slice b2 k2 d2] := hd.1 rfl
    refine Rel.does_call (f := 35) (args := #[.agg #[.bool n2, .slice a2 m2 c2, .bool o2, .slice b2 k2 d2]]) (by simp [go_sem, hs.func, h9]) ?_
    refine (refNorm_q _ q2 K2 w' (H2.out.below hC) (by omega)).mono ?_
    rintro e w'' ⟨x, rfl, hx, hb⟩
    exact ⟨_, rfl, hb, hx.mono hC.size⟩
  · intro ρ w' hs ho hC hd
    refine Rel.does_to (T := fun v w' => NewB #[.bool false, .slice none 0 0, .bool false, .slice none 0 0] (W.heap.size) w' v) (u := .pointer (some ⟨w'.heap.size, 0, none⟩)) (w1 := w'.alloc (.cells #[.bool false, .slice none 0 0, .bool false, .slice none 0 0] 26)) (by simp [go_sem]) (below_alloc _ _) (newB_alloc _ _ _ hC.size)
  · intro ρ w' hs ho hC hd
    refine Rel.does_to (T := fun v w' => NewB #[.bool false, .slice none 0 0, .bool false, .slice none 0 0] (W.heap.size) w' v) (u := .pointer (some ⟨w'.heap.size, 0, none⟩)) (w1 := w'.alloc (.cells #[.bool false, .slice none 0 0, .bool false, .slice none 0 0] 26)) (by simp [go_sem]) (below_alloc _ _) (newB_alloc _ _ _ hC.size)
  · intro w' hC
    rintro _ rfl v1 h1 _ rfl v3 h3 v4 h4 v5 h5
    intro hap
    have hne : v4 ≠ v5 := hap _ _ rfl rfl (by decide) (by decide)
    clear hap
    change wpList _ _ _ (List.drop 6 _) _ _
    simp only [List.drop_succ_cons, List.drop_zero]
    obtain ⟨x1, e1, y1, f1, rfl⟩ := h1.shape
    obtain ⟨x2, e2, y2, f2, rfl⟩ := h3.shape
    obtain ⟨g1, rfl, hg1, z1⟩ := h4.bx
    obtain ⟨g2, rfl, hg2, z2⟩ := h5.bx
    have hn : g1 ≠ g2 := fun e => hne (by rw [e])
    have HX := Ext.trans' HB0.out hC
    have W0 := hb0w.out
    simp only [Go.Act.put, List.setIfInBounds_toArray, List.set_cons_succ, List.set_cons_zero]
    refine wpList_store_mid rfl 26 (.tmp 5) (.tmp 8) rfl g1 0 #[.bool q1.1, .slice x1 (Na.digs q1.2.1).length e1, .bool false, .slice y1 (Na.digs q1.2.2).length f1] rfl rfl (z1.there rfl) (by kernel_rfl) (by simp [Value.oneCell']) ?_
    refine wpList_store_mid rfl 26 (.tmp 6) (.tmp 10) rfl g2 0 #[.bool q2.1, .slice x2 (Na.digs q2.2.1).length e2, .bool false, .slice y2 (Na.digs q2.2.2).length f2] rfl rfl ((z2.set_ne hn.symm _ _).there rfl) (by kernel_rfl) (by simp [Value.oneCell']) ?_
    obtain ⟨W2, hW2⟩ : ∃ W2, (w'.setCells g1 0 [.bool q1.1, .slice x1 (Na.digs q1.2.1).length e1, .bool false, .slice y1 (Na.digs q1.2.2).length f1]).setCells g2 0 [.bool q2.1, .slice x2 (Na.digs q2.2.1).length e2, .bool false, .slice y2 (Na.digs q2.2.2).length f2] = W2 := ⟨_, rfl⟩
    have v1 := (z1.set [.bool q1.1, .slice x1 (Na.digs q1.2.1).length e1, .bool false, .slice y1 (Na.digs q1.2.2).length f1] rfl).set_ne hn [.bool q2.1, .slice x2 (Na.digs q2.2.1).length e2, .bool false, .slice y2 (Na.digs q2.2.2).length f2] 0
    have v2 := (z2.set_ne hn.symm [.bool q1.1, .slice x1 (Na.digs q1.2.1).length e1, .bool false, .slice y1 (Na.digs q1.2.2).length f1] 0).set [.bool q2.1, .slice x2 (Na.digs q2.2.1).length e2, .bool false, .slice y2 (Na.digs q2.2.2).length f2] rfl
    have q1' := (h1.setNew z1 [.bool q1.1, .slice x1 (Na.digs q1.2.1).length e1, .bool false, .slice y1 (Na.digs q1.2.2).length f1] 0).setNew (z2.set_ne hn.symm [.bool q1.1, .slice x1 (Na.digs q1.2.1).length e1, .bool false, .slice y1 (Na.digs q1.2.2).length f1] 0) [.bool q2.1, .slice x2 (Na.digs q2.2.1).length e2, .bool false, .slice y2 (Na.digs q2.2.2).length f2] 0
    have q2' := (h3.setNew z1 [.bool q1.1, .slice x1 (Na.digs q1.2.1).length e1, .bool false, .slice y1 (Na.digs q1.2.2).length f1] 0).setNew (z2.set_ne hn.symm [.bool q1.1, .slice x1 (Na.digs q1.2.1).length e1, .bool false, .slice y1 (Na.digs q1.2.2).length f1] 0) [.bool q2.1, .slice x2 (Na.digs q2.2.1).length e2, .bool false, .slice y2 (Na.digs q2.2.2).length f2] 0
    have HE := ext_setCells (ext_setCells HX (c := g1) (by omega) [.bool q1.1, .slice x1 (Na.digs q1.2.1).length e1, .bool false, .slice y1 (Na.digs q1.2.2).length f1] 0) (c := g2) (by omega) [.bool q2.1, .slice x2 (Na.digs q2.2.1).length e2, .bool false, .slice y2 (Na.digs q2.2.2).length f2] 0
    have t0 := ((Z0.out.ext hC).set_ne (c := g1) (by omega) [.bool q1.1, .slice x1 (Na.digs q1.2.1).length e1, .bool false, .slice y1 (Na.digs q1.2.2).length f1] 0).set_ne (c := g2) (by omega) [.bool q2.1, .slice x2 (Na.digs q2.2.1).length e2, .bool false, .slice y2 (Na.digs q2.2.2).length f2] 0
    have hsz : W.heap.size ≤ W2.heap.size := by rw [← hW2, size_setCells, size_setCells]; exact hC.size
    rw [hW2] at v1 v2 q1' q2' HE t0
    have V1 := Lib.hid v1
    have V2 := Lib.hid v2
    obtain ⟨gn1, gd1⟩ := q1'.parts' HQ1.out
    obtain ⟨gn2, gd2⟩ := q2'.parts' HQ2.out
    have N1 := Lib.hid gn1
    have D1 := Lib.hid gd1
    have N2 := Lib.hid gn2
    have D2 := Lib.hid gd2
    have HE2 := Lib.hid HE
    have T0 := Lib.hid t0
    show wpList _ _ _ _ _ ((World.setCells w' _ _ [.bool q1.1, .slice x1 (Na.digs q1.2.1).length e1, .bool false, .slice y1 (Na.digs q1.2.2).length f1]).setCells _ _ [.bool q2.1, .slice x2 (Na.digs q2.2.1).length e2, .bool false, .slice y2 (Na.digs q2.2.2).length f2])
    rw [hW2]
    clear v1 v2 q1' q2' HE t0 gn1 gd1 gn2 gd2 z1 z2 h1 h3 h4 h5 HX hW2 hC hne
    go_wp2_with fail
    refine Go.Rel.wp_region 11 (by kernel_rfl) (by kernel_rfl) Ext (fun w' => Ext W2 w')
      [Rel.is (.pointer (some ⟨g1, 0, none⟩)),
   Rel.is (.agg #[.bool q1.1, .slice x1 (Na.digs q1.2.1).length e1]),
   Rel.is (.pointer (some ⟨g2, 0, none⟩)),
   Rel.is (.agg #[.bool q2.1, .slice x2 (Na.digs q2.2.1).length e2]),
   fun v w' => IsZ (W2.heap.size) w' v (qz q1 * qz q2),
   Rel.is (.pointer (some ⟨g1, 2, none⟩)),
   Rel.is (.agg #[.bool false, .slice y1 (Na.digs q1.2.2).length f1]),
   Rel.is (.pointer (some ⟨g2, 2, none⟩)),
   Rel.is (.agg #[.bool false, .slice y2 (Na.digs q2.2.2).length f2]),
   fun v w' => IsZ (W2.heap.size) w' v ((q1.2.2 : Int) * (q2.2.2 : Int)),
   fun v w' => IsRatT (W2.heap.size) w' v (qmul q1 q2)]
      ?_ ?_ ?_ ⟨?_, ?_, ?_, ?_, ?_, ?_, ?_, ?_, ?_, ?_, ?_, trivial⟩ ?_
    · exact below_drewN (Below.refl _ _) 1
    · exact fun _ _ h k => Ext.trans' h k
    · exact Rel.Monos.mem ⟨Rel.mono_is _, Rel.mono_is _, Rel.mono_is _, Rel.mono_is _, fun _ _ _ k h => h.ext k, Rel.mono_is _, Rel.mono_is _, Rel.mono_is _, Rel.mono_is _, fun _ _ _ k h => h.ext k, fun _ _ _ k h => h.ext k, trivial⟩
    · intro ρ w' hs ho hC hd
      have h5 : ρ (.tmp 5) = .pointer (some ⟨g1, 0, none⟩) := ho 5 rfl
      exact Rel.does_val (u := .pointer (some ⟨g1, 0, none⟩)) (by simp [go_sem, h5]) Ext.rfl' rfl
    · intro ρ w' hs ho hC hd
      have h11 : ρ (.tmp 11) = .pointer (some ⟨g1, 0, none⟩) := hd.1 rfl
      exact Rel.does_load (cs := [.bool q1.1, .slice x1 (Na.digs q1.2.1).length e1]) rfl h11 (V1.out.ext hC) rfl rfl Tryz.underlying24 rfl (by kernel_rfl) Ext.rfl' rfl
    · intro ρ w' hs ho hC hd
      have h6 : ρ (.tmp 6) = .pointer (some ⟨g2, 0, none⟩) := ho 6 rfl
      exact Rel.does_val (u := .pointer (some ⟨g2, 0, none⟩)) (by simp [go_sem, h6]) Ext.rfl' rfl
    · intro ρ w' hs ho hC hd
      have h13 : ρ (.tmp 13) = .pointer (some ⟨g2, 0, none⟩) := hd.1 rfl
      exact Rel.does_load (cs := [.bool q2.1, .slice x2 (Na.digs q2.2.1).length e2]) rfl h13 (V2.out.ext hC) rfl rfl Tryz.underlying24 rfl (by kernel_rfl) Ext.rfl' rfl
    · intro ρ w' hs ho hC hd
      have h12 : ρ (.tmp 12) = .agg #[.bool q1.1, .slice x1 (Na.digs q1.2.1).length e1] := hd.1 rfl
      have h14 : ρ (.tmp 14) = .agg #[.bool q2.1, .slice x2 (Na.digs q2.2.1).length e2] := hd.2.1 rfl
      refine Rel.does_call (f := 37) (args := #[.agg #[.bool q1.1, .slice x1 (Na.digs q1.2.1).length e1], .agg #[.bool q2.1, .slice x2 (Na.digs q2.2.1).length e2]]) (by simp [go_sem, hs.func, h12, h14]) ?_
      refine (rintMul_any _ _ _ _ _ _ w' (N1.out.below hC) (N2.out.below hC) (by omega) (by omega)).mono ?_
      rintro e w'' ⟨x, rfl, hx, hb⟩
      exact ⟨_, rfl, hb, hx.mono hC.size⟩
    · intro ρ w' hs ho hC hd
      have h5 : ρ (.tmp 5) = .pointer (some ⟨g1, 0, none⟩) := ho 5 rfl
      exact Rel.does_val (u := .pointer (some ⟨g1, 2, none⟩)) (by simp [go_sem, h5]) Ext.rfl' rfl
    · intro ρ w' hs ho hC hd
      have h16 : ρ (.tmp 16) = .pointer (some ⟨g1, 2, none⟩) := hd.1 rfl
      exact Rel.does_load (cs := [.bool false, .slice y1 (Na.digs q1.2.2).length f1]) rfl h16 (V1.out.ext hC) rfl rfl Tryz.underlying24 rfl (by kernel_rfl) Ext.rfl' rfl
    · intro ρ w' hs ho hC hd
      have h6 : ρ (.tmp 6) = .pointer (some ⟨g2, 0, none⟩) := ho 6 rfl
      exact Rel.does_val (u := .pointer (some ⟨g2, 2, none⟩)) (by simp [go_sem, h6]) Ext.rfl' rfl
    · intro ρ w' hs ho hC hd
      have h18 : ρ (.tmp 18) = .pointer (some ⟨g2, 2, none⟩) := hd.1 rfl
      exact Rel.does_load (cs := [.bool false, .slice y2 (Na.digs q2.2.2).length f2]) rfl h18 (V2.out.ext hC) rfl rfl Tryz.underlying24 rfl (by kernel_rfl) Ext.rfl' rfl
    · intro ρ w' hs ho hC hd
      have h17 : ρ (.tmp 17) = .agg #[.bool false, .slice y1 (Na.digs q1.2.2).length f1] := hd.1 rfl
      have h19 : ρ (.tmp 19) = .agg #[.bool false, .slice y2 (Na.digs q2.2.2).length f2] := hd.2.1 rfl
      refine Rel.does_call (f := 37) (args := #[.agg #[.bool false, .slice y1 (Na.digs q1.2.2).length f1], .agg #[.bool false, .slice y2 (Na.digs q2.2.2).length f2]]) (by simp [go_sem, hs.func, h17, h19]) ?_
      refine (rintMul_any _ _ _ _ _ _ w' (D1.out.below hC) (D2.out.below hC) (by omega) (by omega)).mono ?_
      rintro e w'' ⟨x, rfl, hx, hb⟩
      exact ⟨_, rfl, hb, hx.mono hC.size⟩
    · intro ρ w' hs ho hC hd
      have h15 : IsZ (W2.heap.size) w' (ρ (.tmp 15)) (qz q1 * qz q2) := hd.1 rfl
      have h20 : IsZ (W2.heap.size) w' (ρ (.tmp 20)) ((q1.2.2 : Int) * (q2.2.2 : Int)) := hd.2.1 rfl
      refine Rel.does_call (f := 83) (args := #[ρ (.tmp 15), ρ (.tmp 20)]) (by simp [go_sem, hs.func]) ?_
      refine (refLow_q _ _ (qz q1 * qz q2) (q1.2.2 * q2.2.2) (K1 + K2) w' (IsZ.toQ h15 (len_mul _ _ (qz_len HQ1.out) (qz_len HQ2.out))) (IsZ.toQ (z := ((q1.2.2 * q2.2.2 : Nat) : Int)) (by rw [Int.natCast_mul]; exact h20) (by rw [Int.natCast_mul]; exact len_mul _ _ (nat_len HQ1.out.2) (nat_len HQ2.out.2))) (Nat.mul_pos HP1.out HP2.out) (by omega)).mono ?_
      rintro e w'' ⟨x, rfl, hx, hb⟩
      exact ⟨_, rfl, hb, hx.mono hC.size⟩
    · intro w' hC
      rintro _ rfl _ rfl _ rfl _ rfl v4 h4 _ rfl _ rfl _ rfl _ rfl v9 h9 v10 h10
      change wpList _ _ _ (List.drop 11 _) _ _
      simp only [List.drop_succ_cons, List.drop_zero]
      have W0 := hb0w.out
      obtain ⟨p1, e1, p2, e2, rfl⟩ := h10.shape
      have hz := T0.out.ext hC
      have HX := Lib.hid (Ext.trans' HE2.out hC)
      have F := Lib.hid (h10.set (c := w.heap.size + 1 + 1) (by omega) [.bool (qmul q1 q2).1, .slice p1 (Na.digs (qmul q1 q2).2.1).length e1, .bool false, .slice p2 (Na.digs (qmul q1 q2).2.2).length e2] 0)
      simp only [Go.Act.put, List.setIfInBounds_toArray, List.set_cons_succ, List.set_cons_zero]
      refine wpList_store_mid rfl 26 (.tmp 4) (.tmp 21) rfl (w.heap.size + 1 + 1) 0 #[.bool (qmul q1 q2).1, .slice p1 (Na.digs (qmul q1 q2).2.1).length e1, .bool false, .slice p2 (Na.digs (qmul q1 q2).2.2).length e2] rfl rfl (hz.there rfl) (by kernel_rfl) (by simp [Value.oneCell']) ?_
      have S3 := Lib.hid (hz.set [.bool (qmul q1 q2).1, .slice p1 (Na.digs (qmul q1 q2).2.1).length e1, .bool false, .slice p2 (Na.digs (qmul q1 q2).2.2).length e2] rfl)
      have HX3 := Lib.hid (ext_setCells HX.out (c := w.heap.size + 1 + 1) (by omega) [.bool (qmul q1 q2).1, .slice p1 (Na.digs (qmul q1 q2).2.1).length e1, .bool false, .slice p2 (Na.digs (qmul q1 q2).2.2).length e2] 0)
      skip
      show wpList _ _ _ _ _ (World.setCells _ _ _ [_, _, _, _])
      generalize World.setCells w' (w.heap.size + 1 + 1) 0 [.bool (qmul q1 q2).1, .slice p1 (Na.digs (qmul q1 q2).2.1).length e1, .bool false, .slice p2 (Na.digs (qmul q1 q2).2.2).length e2] = W3 at F S3 HX3 ⊢
      have hl := S3.out.2.1
      clear hz h10 h4 h9 hC
      go_wp2_with fail
      refine bodyPost_ret (v := .agg #[.bool (qmul q1 q2).1, .slice p1 (Na.digs (qmul q1 q2).2.1).length e1, .bool false, .slice p2 (Na.digs (qmul q1 q2).2.2).length e2]) (by simp [results, Tryz.results39, go_sem, hl]) rfl ⟨_, rfl, F.out.mono (by omega), HX3.out⟩
theorem refAdd_q (v1 v2 : Value) (q1 q2 : Bool × Nat × Nat) (K1 K2 : Nat) (w : World) (h1 : IsRatQ K1 w v1 q1) (h2 : IsRatQ K2 w v2 q2) (hK1 : 1 ≤ K1) (hK2 : 1 ≤ K2) (hM1 : K1 ≤ 100000) (hM2 : K2 ≤ 100000) :
    Calls Tryz.prog 87 #[v1, v2] w fun e w' => ∃ x, e = .returned x ∧ IsRatT w.heap.size w' x (qadd q1 q2) ∧ Ext w w' := by
  obtain ⟨n1, a1, m1, c1, o1, b1, k1, d1, rfl⟩ := h1.shape
  obtain ⟨n2, a2, m2, c2, o2, b2, k2, d2, rfl⟩ := h2.shape
  obtain ⟨W, hW⟩ : ∃ W, (((w.alloc (.cells #[.bool n1, .slice a1 m1 c1, .bool o1, .slice b1 k1 d1] 26)).alloc (.cells #[.bool n2, .slice a2 m2 c2, .bool o2, .slice b2 k2 d2] 26)).alloc (.cells #[.bool false, .slice none 0 0, .bool false, .slice none 0 0] 26)) = W := ⟨_, rfl⟩
  have hb0 : Ext w W := by rw [← hW]; exact ((below_alloc w _).alloc (by simp) _).alloc (by simp; omega) _
  have X1 : Hid (Bx W (w.heap.size) #[.bool n1, .slice a1 m1 c1, .bool o1, .slice b1 k1 d1]) := by
    have h := ((bx_new w #[.bool n1, .slice a1 m1 c1, .bool o1, .slice b1 k1 d1] 26).al (.cells #[.bool n2, .slice a2 m2 c2, .bool o2, .slice b2 k2 d2] 26)).al (.cells #[.bool false, .slice none 0 0, .bool false, .slice none 0 0] 26)
    rw [hW] at h; exact Lib.hid (by simpa only [World.size_alloc] using h)
  have X2 : Hid (Bx W (w.heap.size + 1) #[.bool n2, .slice a2 m2 c2, .bool o2, .slice b2 k2 d2]) := by
    have h := (bx_new (w.alloc (.cells #[.bool n1, .slice a1 m1 c1, .bool o1, .slice b1 k1 d1] 26)) #[.bool n2, .slice a2 m2 c2, .bool o2, .slice b2 k2 d2] 26).al (.cells #[.bool false, .slice none 0 0, .bool false, .slice none 0 0] 26)
    rw [hW] at h; exact Lib.hid (by simpa only [World.size_alloc] using h)
  have Z0 : Hid (Bx W (w.heap.size + 1 + 1) #[.bool false, .slice none 0 0, .bool false, .slice none 0 0]) := by
    have h := bx_new ((w.alloc (.cells #[.bool n1, .slice a1 m1 c1, .bool o1, .slice b1 k1 d1] 26)).alloc (.cells #[.bool n2, .slice a2 m2 c2, .bool o2, .slice b2 k2 d2] 26)) #[.bool false, .slice none 0 0, .bool false, .slice none 0 0] 26
    rw [hW] at h; exact Lib.hid (by simpa only [World.size_alloc] using h)
  have H1 := Lib.hid (h1.below hb0)
  have HQ1 := Lib.hid (h1.len hK1)
  have HN1 := Lib.hid h1.nrm
  have HP1 := Lib.hid h1.pos
  have H2 := Lib.hid (h2.below hb0)
  have HQ2 := Lib.hid (h2.len hK2)
  have HN2 := Lib.hid h2.nrm
  have HP2 := Lib.hid h2.pos
  have HB0 := Lib.hid hb0
  have HW := Lib.hid hW
  clear hb0 hW h1 h2
  have hb0w : Hid (w.heap.size + 1 + 1 < W.heap.size) := Z0.out.1
  go_enter Tryz.func87, Tryz.ntmps87
  go_wp2_with fail
  rw [HW.out]
  refine Go.Rel.wp_regionP 6 4 5 (by kernel_rfl) (by kernel_rfl) Ext (fun w' => Ext W w')
    [Rel.is (.agg #[.bool n1, .slice a1 m1 c1, .bool o1, .slice b1 k1 d1]),
   fun v w' => IsRatT W.heap.size w' v q1,
   Rel.is (.agg #[.bool n2, .slice a2 m2 c2, .bool o2, .slice b2 k2 d2]),
   fun v w' => IsRatT W.heap.size w' v q2,
   fun v w' => NewB #[.bool false, .slice none 0 0, .bool false, .slice none 0 0] (W.heap.size) w' v,
   fun v w' => NewB #[.bool false, .slice none 0 0, .bool false, .slice none 0 0] (W.heap.size) w' v]
    ?_ ?_ ?_ ?_ ⟨?_, ?_, ?_, ?_, ?_, ?_, trivial⟩ ?_
  · exact below_drewN (Below.refl _ _) 1
  · exact fun _ _ h k => Ext.trans' h k
  · exact Rel.Monos.mem ⟨Rel.mono_is _, fun _ _ _ k h => h.ext k, Rel.mono_is _, fun _ _ _ k h => h.ext k, fun _ _ _ k h => h.ext k, fun _ _ _ k h => h.ext k, trivial⟩
  · refine ⟨by decide, fun i o hi ho => ?_, fun i hi u w' hT => ?_⟩
    · rcases hi with rfl | rfl
      all_goals
        obtain rfl := Option.some.inj ho
        exact ⟨_, _, rfl, rfl, rfl⟩
    · rcases hi with rfl | rfl
      · exact NewB.old hT
      · exact NewB.old hT
  · intro ρ w' hs ho hC hd
    have h2 : ρ (.tmp 2) = .pointer (some ⟨w.heap.size, 0, none⟩) := ho 2 rfl
    exact Rel.does_load (cs := [.bool n1, .slice a1 m1 c1, .bool o1, .slice b1 k1 d1]) rfl h2 (X1.out.ext hC) rfl rfl Tryz.underlying26 rfl (by kernel_rfl) Ext.rfl' rfl
  · intro ρ w' hs ho hC hd
    have h7 : ρ (.tmp 7) = .agg #[.bool n1, .slice a1 m1 c1, .bool o1, .slice b1 k1 d1] := hd.1 rfl
    refine Rel.does_call (f := 35) (args := #[.agg #[.bool n1, .slice a1 m1 c1, .bool o1, .slice b1 k1 d1]]) (by simp [go_sem, hs.func, h7]) ?_
    refine (refNorm_q _ q1 K1 w' (H1.out.below hC) (by omega)).mono ?_
    rintro e w'' ⟨x, rfl, hx, hb⟩
    exact ⟨_, rfl, hb, hx.mono hC.size⟩
  · intro ρ w' hs ho hC hd
    have h3 : ρ (.tmp 3) = .pointer (some ⟨w.heap.size + 1, 0, none⟩) := ho 3 rfl
    exact Rel.does_load (cs := [.bool n2, .slice a2 m2 c2, .bool o2, .slice b2 k2 d2]) rfl h3 (X2.out.ext hC) rfl rfl Tryz.underlying26 rfl (by kernel_rfl) Ext.rfl' rfl
  · intro ρ w' hs ho hC hd
    have h9 : ρ (.tmp 9) = .agg #[.bool n2, .slice a2 m2 c2, .bool o2, .slice b2 k2 d2] := hd.1 rfl
    refine Rel.does_call (f := 35) (args := #[.agg #[.bool n2, .slice a2 m2 c2, .bool o2, .slice b2 k2 d2]]) (by simp [go_sem, hs.func, h9]) ?_
    refine (refNorm_q _ q2 K2 w' (H2.out.below hC) (by omega)).mono ?_
    rintro e w'' ⟨x, rfl, hx, hb⟩
    exact ⟨_, rfl, hb, hx.mono hC.size⟩
  · intro ρ w' hs ho hC hd
    refine Rel.does_to (T := fun v w' => NewB #[.bool false, .slice none 0 0, .bool false, .slice none 0 0] (W.heap.size) w' v) (u := .pointer (some ⟨w'.heap.size, 0, none⟩)) (w1 := w'.alloc (.cells #[.bool false, .slice none 0 0, .bool false, .slice none 0 0] 26)) (by simp [go_sem]) (below_alloc _ _) (newB_alloc _ _ _ hC.size)
  · intro ρ w' hs ho hC hd
    refine Rel.does_to (T := fun v w' => NewB #[.bool false, .slice none 0 0, .bool false, .slice none 0 0] (W.heap.size) w' v) (u := .pointer (some ⟨w'.heap.size, 0, none⟩)) (w1 := w'.alloc (.cells #[.bool false, .slice none 0 0, .bool false, .slice none 0 0] 26)) (by simp [go_sem]) (below_alloc _ _) (newB_alloc _ _ _ hC.size)
  · intro w' hC
    rintro _ rfl v1 h1 _ rfl v3 h3 v4 h4 v5 h5
    intro hap
    have hne : v4 ≠ v5 := hap _ _ rfl rfl (by decide) (by decide)
    clear hap
    change wpList _ _ _ (List.drop 6 _) _ _
    simp only [List.drop_succ_cons, List.drop_zero]
    obtain ⟨x1, e1, y1, f1, rfl⟩ := h1.shape
    obtain ⟨x2, e2, y2, f2, rfl⟩ := h3.shape
    obtain ⟨g1, rfl, hg1, z1⟩ := h4.bx
    obtain ⟨g2, rfl, hg2, z2⟩ := h5.bx
    have hn : g1 ≠ g2 := fun e => hne (by rw [e])
    have HX := Ext.trans' HB0.out hC
    have W0 := hb0w.out
    simp only [Go.Act.put, List.setIfInBounds_toArray, List.set_cons_succ, List.set_cons_zero]
    refine wpList_store_mid rfl 26 (.tmp 5) (.tmp 8) rfl g1 0 #[.bool q1.1, .slice x1 (Na.digs q1.2.1).length e1, .bool false, .slice y1 (Na.digs q1.2.2).length f1] rfl rfl (z1.there rfl) (by kernel_rfl) (by simp [Value.oneCell']) ?_
    refine wpList_store_mid rfl 26 (.tmp 6) (.tmp 10) rfl g2 0 #[.bool q2.1, .slice x2 (Na.digs q2.2.1).length e2, .bool false, .slice y2 (Na.digs q2.2.2).length f2] rfl rfl ((z2.set_ne hn.symm _ _).there rfl) (by kernel_rfl) (by simp [Value.oneCell']) ?_
    obtain ⟨W2, hW2⟩ : ∃ W2, (w'.setCells g1 0 [.bool q1.1, .slice x1 (Na.digs q1.2.1).length e1, .bool false, .slice y1 (Na.digs q1.2.2).length f1]).setCells g2 0 [.bool q2.1, .slice x2 (Na.digs q2.2.1).length e2, .bool false, .slice y2 (Na.digs q2.2.2).length f2] = W2 := ⟨_, rfl⟩
    have v1 := (z1.set [.bool q1.1, .slice x1 (Na.digs q1.2.1).length e1, .bool false, .slice y1 (Na.digs q1.2.2).length f1] rfl).set_ne hn [.bool q2.1, .slice x2 (Na.digs q2.2.1).length e2, .bool false, .slice y2 (Na.digs q2.2.2).length f2] 0
    have v2 := (z2.set_ne hn.symm [.bool q1.1, .slice x1 (Na.digs q1.2.1).length e1, .bool false, .slice y1 (Na.digs q1.2.2).length f1] 0).set [.bool q2.1, .slice x2 (Na.digs q2.2.1).length e2, .bool false, .slice y2 (Na.digs q2.2.2).length f2] rfl
    have q1' := (h1.setNew z1 [.bool q1.1, .slice x1 (Na.digs q1.2.1).length e1, .bool false, .slice y1 (Na.digs q1.2.2).length f1] 0).setNew (z2.set_ne hn.symm [.bool q1.1, .slice x1 (Na.digs q1.2.1).length e1, .bool false, .slice y1 (Na.digs q1.2.2).length f1] 0) [.bool q2.1, .slice x2 (Na.digs q2.2.1).length e2, .bool false, .slice y2 (Na.digs q2.2.2).length f2] 0
    have q2' := (h3.setNew z1 [.bool q1.1, .slice x1 (Na.digs q1.2.1).length e1, .bool false, .slice y1 (Na.digs q1.2.2).length f1] 0).setNew (z2.set_ne hn.symm [.bool q1.1, .slice x1 (Na.digs q1.2.1).length e1, .bool false, .slice y1 (Na.digs q1.2.2).length f1] 0) [.bool q2.1, .slice x2 (Na.digs q2.2.1).length e2, .bool false, .slice y2 (Na.digs q2.2.2).length f2] 0
    have HE := ext_setCells (ext_setCells HX (c := g1) (by omega) [.bool q1.1, .slice x1 (Na.digs q1.2.1).length e1, .bool false, .slice y1 (Na.digs q1.2.2).length f1] 0) (c := g2) (by omega) [.bool q2.1, .slice x2 (Na.digs q2.2.1).length e2, .bool false, .slice y2 (Na.digs q2.2.2).length f2] 0
    have t0 := ((Z0.out.ext hC).set_ne (c := g1) (by omega) [.bool q1.1, .slice x1 (Na.digs q1.2.1).length e1, .bool false, .slice y1 (Na.digs q1.2.2).length f1] 0).set_ne (c := g2) (by omega) [.bool q2.1, .slice x2 (Na.digs q2.2.1).length e2, .bool false, .slice y2 (Na.digs q2.2.2).length f2] 0
    have hsz : W.heap.size ≤ W2.heap.size := by rw [← hW2, size_setCells, size_setCells]; exact hC.size
    rw [hW2] at v1 v2 q1' q2' HE t0
    have V1 := Lib.hid v1
    have V2 := Lib.hid v2
    obtain ⟨gn1, gd1⟩ := q1'.parts' HQ1.out
    obtain ⟨gn2, gd2⟩ := q2'.parts' HQ2.out
    have N1 := Lib.hid gn1
    have D1 := Lib.hid gd1
    have N2 := Lib.hid gn2
    have D2 := Lib.hid gd2
    have HE2 := Lib.hid HE
    have T0 := Lib.hid t0
    show wpList _ _ _ _ _ ((World.setCells w' _ _ [.bool q1.1, .slice x1 (Na.digs q1.2.1).length e1, .bool false, .slice y1 (Na.digs q1.2.2).length f1]).setCells _ _ [.bool q2.1, .slice x2 (Na.digs q2.2.1).length e2, .bool false, .slice y2 (Na.digs q2.2.2).length f2])
    rw [hW2]
    clear v1 v2 q1' q2' HE t0 gn1 gd1 gn2 gd2 z1 z2 h1 h3 h4 h5 HX hW2 hC hne
    go_wp2_with fail
    refine Go.Rel.wp_region 17 (by kernel_rfl) (by kernel_rfl) Ext (fun w' => Ext W2 w')
      [Rel.is (.pointer (some ⟨g1, 0, none⟩)),
   Rel.is (.agg #[.bool q1.1, .slice x1 (Na.digs q1.2.1).length e1]),
   Rel.is (.pointer (some ⟨g2, 2, none⟩)),
   Rel.is (.agg #[.bool false, .slice y2 (Na.digs q2.2.2).length f2]),
   fun v w' => IsZ (W2.heap.size) w' v (qz q1 * (q2.2.2 : Int)),
   Rel.is (.pointer (some ⟨g2, 0, none⟩)),
   Rel.is (.agg #[.bool q2.1, .slice x2 (Na.digs q2.2.1).length e2]),
   Rel.is (.pointer (some ⟨g1, 2, none⟩)),
   Rel.is (.agg #[.bool false, .slice y1 (Na.digs q1.2.2).length f1]),
   fun v w' => IsZ (W2.heap.size) w' v (qz q2 * (q1.2.2 : Int)),
   fun v w' => IsZ (W2.heap.size) w' v ((qz q1 * (q2.2.2 : Int)) + (qz q2 * (q1.2.2 : Int))),
   Rel.is (.pointer (some ⟨g1, 2, none⟩)),
   Rel.is (.agg #[.bool false, .slice y1 (Na.digs q1.2.2).length f1]),
   Rel.is (.pointer (some ⟨g2, 2, none⟩)),
   Rel.is (.agg #[.bool false, .slice y2 (Na.digs q2.2.2).length f2]),
   fun v w' => IsZ (W2.heap.size) w' v ((q1.2.2 : Int) * (q2.2.2 : Int)),
   fun v w' => IsRatT (W2.heap.size) w' v (qadd q1 q2)]
      ?_ ?_ ?_ ⟨?_, ?_, ?_, ?_, ?_, ?_, ?_, ?_, ?_, ?_, ?_, ?_, ?_, ?_, ?_, ?_, ?_, trivial⟩ ?_
    · exact below_drewN (Below.refl _ _) 1
    · exact fun _ _ h k => Ext.trans' h k
    · exact Rel.Monos.mem ⟨Rel.mono_is _, Rel.mono_is _, Rel.mono_is _, Rel.mono_is _, fun _ _ _ k h => h.ext k, Rel.mono_is _, Rel.mono_is _, Rel.mono_is _, Rel.mono_is _, fun _ _ _ k h => h.ext k, fun _ _ _ k h => h.ext k, Rel.mono_is _, Rel.mono_is _, Rel.mono_is _, Rel.mono_is _, fun _ _ _ k h => h.ext k, fun _ _ _ k h => h.ext k, trivial⟩
    · intro ρ w' hs ho hC hd
      have h5 : ρ (.tmp 5) = .pointer (some ⟨g1, 0, none⟩) := ho 5 rfl
      exact Rel.does_val (u := .pointer (some ⟨g1, 0, none⟩)) (by simp [go_sem, h5]) Ext.rfl' rfl
    · intro ρ w' hs ho hC hd
      have h11 : ρ (.tmp 11) = .pointer (some ⟨g1, 0, none⟩) := hd.1 rfl
      exact Rel.does_load (cs := [.bool q1.1, .slice x1 (Na.digs q1.2.1).length e1]) rfl h11 (V1.out.ext hC) rfl rfl Tryz.underlying24 rfl (by kernel_rfl) Ext.rfl' rfl
    · intro ρ w' hs ho hC hd
      have h6 : ρ (.tmp 6) = .pointer (some ⟨g2, 0, none⟩) := ho 6 rfl
      exact Rel.does_val (u := .pointer (some ⟨g2, 2, none⟩)) (by simp [go_sem, h6]) Ext.rfl' rfl
    · intro ρ w' hs ho hC hd
      have h13 : ρ (.tmp 13) = .pointer (some ⟨g2, 2, none⟩) := hd.1 rfl
      exact Rel.does_load (cs := [.bool false, .slice y2 (Na.digs q2.2.2).length f2]) rfl h13 (V2.out.ext hC) rfl rfl Tryz.underlying24 rfl (by kernel_rfl) Ext.rfl' rfl
    · intro ρ w' hs ho hC hd
      have h12 : ρ (.tmp 12) = .agg #[.bool q1.1, .slice x1 (Na.digs q1.2.1).length e1] := hd.1 rfl
      have h14 : ρ (.tmp 14) = .agg #[.bool false, .slice y2 (Na.digs q2.2.2).length f2] := hd.2.1 rfl
      refine Rel.does_call (f := 37) (args := #[.agg #[.bool q1.1, .slice x1 (Na.digs q1.2.1).length e1], .agg #[.bool false, .slice y2 (Na.digs q2.2.2).length f2]]) (by simp [go_sem, hs.func, h12, h14]) ?_
      refine (rintMul_any _ _ _ _ _ _ w' (N1.out.below hC) (D2.out.below hC) (by omega) (by omega)).mono ?_
      rintro e w'' ⟨x, rfl, hx, hb⟩
      exact ⟨_, rfl, hb, hx.mono hC.size⟩
    · intro ρ w' hs ho hC hd
      have h6 : ρ (.tmp 6) = .pointer (some ⟨g2, 0, none⟩) := ho 6 rfl
      exact Rel.does_val (u := .pointer (some ⟨g2, 0, none⟩)) (by simp [go_sem, h6]) Ext.rfl' rfl
    · intro ρ w' hs ho hC hd
      have h16 : ρ (.tmp 16) = .pointer (some ⟨g2, 0, none⟩) := hd.1 rfl
      exact Rel.does_load (cs := [.bool q2.1, .slice x2 (Na.digs q2.2.1).length e2]) rfl h16 (V2.out.ext hC) rfl rfl Tryz.underlying24 rfl (by kernel_rfl) Ext.rfl' rfl
    · intro ρ w' hs ho hC hd
      have h5 : ρ (.tmp 5) = .pointer (some ⟨g1, 0, none⟩) := ho 5 rfl
      exact Rel.does_val (u := .pointer (some ⟨g1, 2, none⟩)) (by simp [go_sem, h5]) Ext.rfl' rfl
    · intro ρ w' hs ho hC hd
      have h18 : ρ (.tmp 18) = .pointer (some ⟨g1, 2, none⟩) := hd.1 rfl
      exact Rel.does_load (cs := [.bool false, .slice y1 (Na.digs q1.2.2).length f1]) rfl h18 (V1.out.ext hC) rfl rfl Tryz.underlying24 rfl (by kernel_rfl) Ext.rfl' rfl
    · intro ρ w' hs ho hC hd
      have h17 : ρ (.tmp 17) = .agg #[.bool q2.1, .slice x2 (Na.digs q2.2.1).length e2] := hd.1 rfl
      have h19 : ρ (.tmp 19) = .agg #[.bool false, .slice y1 (Na.digs q1.2.2).length f1] := hd.2.1 rfl
      refine Rel.does_call (f := 37) (args := #[.agg #[.bool q2.1, .slice x2 (Na.digs q2.2.1).length e2], .agg #[.bool false, .slice y1 (Na.digs q1.2.2).length f1]]) (by simp [go_sem, hs.func, h17, h19]) ?_
      refine (rintMul_any _ _ _ _ _ _ w' (N2.out.below hC) (D1.out.below hC) (by omega) (by omega)).mono ?_
      rintro e w'' ⟨x, rfl, hx, hb⟩
      exact ⟨_, rfl, hb, hx.mono hC.size⟩
    · intro ρ w' hs ho hC hd
      have h15 : IsZ (W2.heap.size) w' (ρ (.tmp 15)) (qz q1 * (q2.2.2 : Int)) := hd.1 rfl
      have h20 : IsZ (W2.heap.size) w' (ρ (.tmp 20)) (qz q2 * (q1.2.2 : Int)) := hd.2.1 rfl
      refine Rel.does_call (f := 131) (args := #[ρ (.tmp 15), ρ (.tmp 20)]) (by simp [go_sem, hs.func]) ?_
      refine (rintAdd_any _ _ _ _ _ _ w' (IsZ.toQ h15 (len_mul _ _ (qz_len HQ1.out) (nat_len HQ2.out.2))) (IsZ.toQ h20 (show _ ≤ K1 + K2 by rw [Nat.add_comm]; exact len_mul _ _ (qz_len HQ2.out) (nat_len HQ1.out.2))) (by omega) (by omega)).mono ?_
      rintro e w'' ⟨x, rfl, hx, hb⟩
      exact ⟨_, rfl, hb, hx.mono hC.size⟩
    · intro ρ w' hs ho hC hd
      have h5 : ρ (.tmp 5) = .pointer (some ⟨g1, 0, none⟩) := ho 5 rfl
      exact Rel.does_val (u := .pointer (some ⟨g1, 2, none⟩)) (by simp [go_sem, h5]) Ext.rfl' rfl
    · intro ρ w' hs ho hC hd
      have h22 : ρ (.tmp 22) = .pointer (some ⟨g1, 2, none⟩) := hd.1 rfl
      exact Rel.does_load (cs := [.bool false, .slice y1 (Na.digs q1.2.2).length f1]) rfl h22 (V1.out.ext hC) rfl rfl Tryz.underlying24 rfl (by kernel_rfl) Ext.rfl' rfl
    · intro ρ w' hs ho hC hd
      have h6 : ρ (.tmp 6) = .pointer (some ⟨g2, 0, none⟩) := ho 6 rfl
      exact Rel.does_val (u := .pointer (some ⟨g2, 2, none⟩)) (by simp [go_sem, h6]) Ext.rfl' rfl
    · intro ρ w' hs ho hC hd
      have h24 : ρ (.tmp 24) = .pointer (some ⟨g2, 2, none⟩) := hd.1 rfl
      exact Rel.does_load (cs := [.bool false, .slice y2 (Na.digs q2.2.2).length f2]) rfl h24 (V2.out.ext hC) rfl rfl Tryz.underlying24 rfl (by kernel_rfl) Ext.rfl' rfl
    · intro ρ w' hs ho hC hd
      have h23 : ρ (.tmp 23) = .agg #[.bool false, .slice y1 (Na.digs q1.2.2).length f1] := hd.1 rfl
      have h25 : ρ (.tmp 25) = .agg #[.bool false, .slice y2 (Na.digs q2.2.2).length f2] := hd.2.1 rfl
      refine Rel.does_call (f := 37) (args := #[.agg #[.bool false, .slice y1 (Na.digs q1.2.2).length f1], .agg #[.bool false, .slice y2 (Na.digs q2.2.2).length f2]]) (by simp [go_sem, hs.func, h23, h25]) ?_
      refine (rintMul_any _ _ _ _ _ _ w' (D1.out.below hC) (D2.out.below hC) (by omega) (by omega)).mono ?_
      rintro e w'' ⟨x, rfl, hx, hb⟩
      exact ⟨_, rfl, hb, hx.mono hC.size⟩
    · intro ρ w' hs ho hC hd
      have h21 : IsZ (W2.heap.size) w' (ρ (.tmp 21)) ((qz q1 * (q2.2.2 : Int)) + (qz q2 * (q1.2.2 : Int))) := hd.1 rfl
      have h26 : IsZ (W2.heap.size) w' (ρ (.tmp 26)) ((q1.2.2 : Int) * (q2.2.2 : Int)) := hd.2.1 rfl
      refine Rel.does_call (f := 83) (args := #[ρ (.tmp 21), ρ (.tmp 26)]) (by simp [go_sem, hs.func]) ?_
      refine (refLow_q _ _ ((qz q1 * (q2.2.2 : Int)) + (qz q2 * (q1.2.2 : Int))) (q1.2.2 * q2.2.2) (K1 + K2 + 1) w' (IsZ.toQ h21 (len_add _ _ (len_mul _ _ (qz_len HQ1.out) (nat_len HQ2.out.2)) (show _ ≤ K1 + K2 by rw [Nat.add_comm]; exact len_mul _ _ (qz_len HQ2.out) (nat_len HQ1.out.2)))) (IsZ.toQ (z := ((q1.2.2 * q2.2.2 : Nat) : Int)) (by rw [Int.natCast_mul]; exact h26) (by rw [Int.natCast_mul]; exact Nat.le_succ_of_le (len_mul _ _ (nat_len HQ1.out.2) (nat_len HQ2.out.2)))) (Nat.mul_pos HP1.out HP2.out) (by omega)).mono ?_
      rintro e w'' ⟨x, rfl, hx, hb⟩
      exact ⟨_, rfl, hb, hx.mono hC.size⟩
    · intro w' hC
      rintro _ rfl _ rfl _ rfl _ rfl v4 h4 _ rfl _ rfl _ rfl _ rfl v9 h9 v10 h10 _ rfl _ rfl _ rfl _ rfl v15 h15 v16 h16
      change wpList _ _ _ (List.drop 17 _) _ _
      simp only [List.drop_succ_cons, List.drop_zero]
      have W0 := hb0w.out
      obtain ⟨p1, e1, p2, e2, rfl⟩ := h16.shape
      have hz := T0.out.ext hC
      have HX := Lib.hid (Ext.trans' HE2.out hC)
      have F := Lib.hid (h16.set (c := w.heap.size + 1 + 1) (by omega) [.bool (qadd q1 q2).1, .slice p1 (Na.digs (qadd q1 q2).2.1).length e1, .bool false, .slice p2 (Na.digs (qadd q1 q2).2.2).length e2] 0)
      simp only [Go.Act.put, List.setIfInBounds_toArray, List.set_cons_succ, List.set_cons_zero]
      refine wpList_store_mid rfl 26 (.tmp 4) (.tmp 27) rfl (w.heap.size + 1 + 1) 0 #[.bool (qadd q1 q2).1, .slice p1 (Na.digs (qadd q1 q2).2.1).length e1, .bool false, .slice p2 (Na.digs (qadd q1 q2).2.2).length e2] rfl rfl (hz.there rfl) (by kernel_rfl) (by simp [Value.oneCell']) ?_
      have S3 := Lib.hid (hz.set [.bool (qadd q1 q2).1, .slice p1 (Na.digs (qadd q1 q2).2.1).length e1, .bool false, .slice p2 (Na.digs (qadd q1 q2).2.2).length e2] rfl)
      have HX3 := Lib.hid (ext_setCells HX.out (c := w.heap.size + 1 + 1) (by omega) [.bool (qadd q1 q2).1, .slice p1 (Na.digs (qadd q1 q2).2.1).length e1, .bool false, .slice p2 (Na.digs (qadd q1 q2).2.2).length e2] 0)
      skip
      show wpList _ _ _ _ _ (World.setCells _ _ _ [_, _, _, _])
      generalize World.setCells w' (w.heap.size + 1 + 1) 0 [.bool (qadd q1 q2).1, .slice p1 (Na.digs (qadd q1 q2).2.1).length e1, .bool false, .slice p2 (Na.digs (qadd q1 q2).2.2).length e2] = W3 at F S3 HX3 ⊢
      have hl := S3.out.2.1
      clear hz h16 h4 h9 h10 h15 hC
      go_wp2_with fail
      refine bodyPost_ret (v := .agg #[.bool (qadd q1 q2).1, .slice p1 (Na.digs (qadd q1 q2).2.1).length e1, .bool false, .slice p2 (Na.digs (qadd q1 q2).2.2).length e2]) (by simp [results, Tryz.results87, go_sem, hl]) rfl ⟨_, rfl, F.out.mono (by omega), HX3.out⟩
theorem refCmp_q (v1 v2 : Value) (q1 q2 : Bool × Nat × Nat) (K1 K2 : Nat) (w : World) (h1 : IsRatQ K1 w v1 q1) (h2 : IsRatQ K2 w v2 q2) (hK1 : 1 ≤ K1) (hK2 : 1 ≤ K2) (hM1 : K1 ≤ 100000) (hM2 : K2 ≤ 100000) :
    Calls Tryz.prog 15 #[v1, v2] w fun e w' => e = .returned (.int .i64 (qcmp q1 q2)) ∧ Ext w w' := by
  obtain ⟨n1, a1, m1, c1, o1, b1, k1, d1, rfl⟩ := h1.shape
  obtain ⟨n2, a2, m2, c2, o2, b2, k2, d2, rfl⟩ := h2.shape
  obtain ⟨W, hW⟩ : ∃ W, ((w.alloc (.cells #[.bool n1, .slice a1 m1 c1, .bool o1, .slice b1 k1 d1] 26)).alloc (.cells #[.bool n2, .slice a2 m2 c2, .bool o2, .slice b2 k2 d2] 26)) = W := ⟨_, rfl⟩
  have hb0 : Ext w W := by rw [← hW]; exact (below_alloc w _).alloc (by simp) _
  have X1 : Hid (Bx W (w.heap.size) #[.bool n1, .slice a1 m1 c1, .bool o1, .slice b1 k1 d1]) := by
    have h := (bx_new w #[.bool n1, .slice a1 m1 c1, .bool o1, .slice b1 k1 d1] 26).al (.cells #[.bool n2, .slice a2 m2 c2, .bool o2, .slice b2 k2 d2] 26)
    rw [hW] at h; exact Lib.hid (by simpa only [World.size_alloc] using h)
  have X2 : Hid (Bx W (w.heap.size + 1) #[.bool n2, .slice a2 m2 c2, .bool o2, .slice b2 k2 d2]) := by
    have h := bx_new (w.alloc (.cells #[.bool n1, .slice a1 m1 c1, .bool o1, .slice b1 k1 d1] 26)) #[.bool n2, .slice a2 m2 c2, .bool o2, .slice b2 k2 d2] 26
    rw [hW] at h; exact Lib.hid (by simpa only [World.size_alloc] using h)
  have H1 := Lib.hid (h1.below hb0)
  have HQ1 := Lib.hid (h1.len hK1)
  have HN1 := Lib.hid h1.nrm
  have HP1 := Lib.hid h1.pos
  have H2 := Lib.hid (h2.below hb0)
  have HQ2 := Lib.hid (h2.len hK2)
  have HN2 := Lib.hid h2.nrm
  have HP2 := Lib.hid h2.pos
  have HB0 := Lib.hid hb0
  have HW := Lib.hid hW
  clear hb0 hW h1 h2
  have hb0w : Hid (w.heap.size + 1 < W.heap.size) := X2.out.1
  go_enter Tryz.func15, Tryz.ntmps15
  go_wp2_with fail
  rw [HW.out]
  refine Go.Rel.wp_regionP 6 4 5 (by kernel_rfl) (by kernel_rfl) Ext (fun w' => Ext W w')
    [Rel.is (.agg #[.bool n1, .slice a1 m1 c1, .bool o1, .slice b1 k1 d1]),
   fun v w' => IsRatT W.heap.size w' v q1,
   Rel.is (.agg #[.bool n2, .slice a2 m2 c2, .bool o2, .slice b2 k2 d2]),
   fun v w' => IsRatT W.heap.size w' v q2,
   fun v w' => NewB #[.bool false, .slice none 0 0, .bool false, .slice none 0 0] (W.heap.size) w' v,
   fun v w' => NewB #[.bool false, .slice none 0 0, .bool false, .slice none 0 0] (W.heap.size) w' v]
    ?_ ?_ ?_ ?_ ⟨?_, ?_, ?_, ?_, ?_, ?_, trivial⟩ ?_
  · exact below_drewN (Below.refl _ _) 1
  · exact fun _ _ h k => Ext.trans' h k
  · exact Rel.Monos.mem ⟨Rel.mono_is _, fun _ _ _ k h => h.ext k, Rel.mono_is _, fun _ _ _ k h => h.ext k, fun _ _ _ k h => h.ext k, fun _ _ _ k h => h.ext k, trivial⟩
  · refine ⟨by decide, fun i o hi ho => ?_, fun i hi u w' hT => ?_⟩
    · rcases hi with rfl | rfl
      all_goals
        obtain rfl := Option.some.inj ho
        exact ⟨_, _, rfl, rfl, rfl⟩
    · rcases hi with rfl | rfl
      · exact NewB.old hT
      · exact NewB.old hT
  · intro ρ w' hs ho hC hd
    have h2 : ρ (.tmp 2) = .pointer (some ⟨w.heap.size, 0, none⟩) := ho 2 rfl
    exact Rel.does_load (cs := [.bool n1, .slice a1 m1 c1, .bool o1, .slice b1 k1 d1]) rfl h2 (X1.out.ext hC) rfl rfl Tryz.underlying26 rfl (by kernel_rfl) Ext.rfl' rfl
  · intro ρ w' hs ho hC hd
    have h7 : ρ (.tmp 7) = .agg #[.bool n1, .slice a1 m1 c1, .bool o1, .slice b1 k1 d1] := hd.1 rfl
    refine Rel.does_call (f := 35) (args := #[.agg #[.bool n1, .slice a1 m1 c1, .bool o1, .slice b1 k1 d1]]) (by simp [go_sem, hs.func, h7]) ?_
    refine (refNorm_q _ q1 K1 w' (H1.out.below hC) (by omega)).mono ?_
    rintro e w'' ⟨x, rfl, hx, hb⟩
    exact ⟨_, rfl, hb, hx.mono hC.size⟩
  · intro ρ w' hs ho hC hd
    have h3 : ρ (.tmp 3) = .pointer (some ⟨w.heap.size + 1, 0, none⟩) := ho 3 rfl
    exact Rel.does_load (cs := [.bool n2, .slice a2 m2 c2, .bool o2, .slice b2 k2 d2]) rfl h3 (X2.out.ext hC) rfl rfl Tryz.underlying26 rfl (by kernel_rfl) Ext.rfl' rfl
  · intro ρ w' hs ho hC hd
    have h9 : ρ (.tmp 9) = .agg #[.bool n2, .slice a2 m2 c2, .bool o2, .slice b2 k2 d2] := hd.1 rfl
    refine Rel.does_call (f := 35) (args := #[.agg #[.bool n2, .slice a2 m2 c2, .bool o2, .slice b2 k2 d2]]) (by simp [go_sem, hs.func, h9]) ?_
    refine (refNorm_q _ q2 K2 w' (H2.out.below hC) (by omega)).mono ?_
    rintro e w'' ⟨x, rfl, hx, hb⟩
    exact ⟨_, rfl, hb, hx.mono hC.size⟩
  · intro ρ w' hs ho hC hd
    refine Rel.does_to (T := fun v w' => NewB #[.bool false, .slice none 0 0, .bool false, .slice none 0 0] (W.heap.size) w' v) (u := .pointer (some ⟨w'.heap.size, 0, none⟩)) (w1 := w'.alloc (.cells #[.bool false, .slice none 0 0, .bool false, .slice none 0 0] 26)) (by simp [go_sem]) (below_alloc _ _) (newB_alloc _ _ _ hC.size)
  · intro ρ w' hs ho hC hd
    refine Rel.does_to (T := fun v w' => NewB #[.bool false, .slice none 0 0, .bool false, .slice none 0 0] (W.heap.size) w' v) (u := .pointer (some ⟨w'.heap.size, 0, none⟩)) (w1 := w'.alloc (.cells #[.bool false, .slice none 0 0, .bool false, .slice none 0 0] 26)) (by simp [go_sem]) (below_alloc _ _) (newB_alloc _ _ _ hC.size)
  · intro w' hC
    rintro _ rfl v1 h1 _ rfl v3 h3 v4 h4 v5 h5
    intro hap
    have hne : v4 ≠ v5 := hap _ _ rfl rfl (by decide) (by decide)
    clear hap
    change wpList _ _ _ (List.drop 6 _) _ _
    simp only [List.drop_succ_cons, List.drop_zero]
    obtain ⟨x1, e1, y1, f1, rfl⟩ := h1.shape
    obtain ⟨x2, e2, y2, f2, rfl⟩ := h3.shape
    obtain ⟨g1, rfl, hg1, z1⟩ := h4.bx
    obtain ⟨g2, rfl, hg2, z2⟩ := h5.bx
    have hn : g1 ≠ g2 := fun e => hne (by rw [e])
    have HX := Ext.trans' HB0.out hC
    have W0 := hb0w.out
    simp only [Go.Act.put, List.setIfInBounds_toArray, List.set_cons_succ, List.set_cons_zero]
    refine wpList_store_mid rfl 26 (.tmp 5) (.tmp 8) rfl g1 0 #[.bool q1.1, .slice x1 (Na.digs q1.2.1).length e1, .bool false, .slice y1 (Na.digs q1.2.2).length f1] rfl rfl (z1.there rfl) (by kernel_rfl) (by simp [Value.oneCell']) ?_
    refine wpList_store_mid rfl 26 (.tmp 6) (.tmp 10) rfl g2 0 #[.bool q2.1, .slice x2 (Na.digs q2.2.1).length e2, .bool false, .slice y2 (Na.digs q2.2.2).length f2] rfl rfl ((z2.set_ne hn.symm _ _).there rfl) (by kernel_rfl) (by simp [Value.oneCell']) ?_
    obtain ⟨W2, hW2⟩ : ∃ W2, (w'.setCells g1 0 [.bool q1.1, .slice x1 (Na.digs q1.2.1).length e1, .bool false, .slice y1 (Na.digs q1.2.2).length f1]).setCells g2 0 [.bool q2.1, .slice x2 (Na.digs q2.2.1).length e2, .bool false, .slice y2 (Na.digs q2.2.2).length f2] = W2 := ⟨_, rfl⟩
    have v1 := (z1.set [.bool q1.1, .slice x1 (Na.digs q1.2.1).length e1, .bool false, .slice y1 (Na.digs q1.2.2).length f1] rfl).set_ne hn [.bool q2.1, .slice x2 (Na.digs q2.2.1).length e2, .bool false, .slice y2 (Na.digs q2.2.2).length f2] 0
    have v2 := (z2.set_ne hn.symm [.bool q1.1, .slice x1 (Na.digs q1.2.1).length e1, .bool false, .slice y1 (Na.digs q1.2.2).length f1] 0).set [.bool q2.1, .slice x2 (Na.digs q2.2.1).length e2, .bool false, .slice y2 (Na.digs q2.2.2).length f2] rfl
    have q1' := (h1.setNew z1 [.bool q1.1, .slice x1 (Na.digs q1.2.1).length e1, .bool false, .slice y1 (Na.digs q1.2.2).length f1] 0).setNew (z2.set_ne hn.symm [.bool q1.1, .slice x1 (Na.digs q1.2.1).length e1, .bool false, .slice y1 (Na.digs q1.2.2).length f1] 0) [.bool q2.1, .slice x2 (Na.digs q2.2.1).length e2, .bool false, .slice y2 (Na.digs q2.2.2).length f2] 0
    have q2' := (h3.setNew z1 [.bool q1.1, .slice x1 (Na.digs q1.2.1).length e1, .bool false, .slice y1 (Na.digs q1.2.2).length f1] 0).setNew (z2.set_ne hn.symm [.bool q1.1, .slice x1 (Na.digs q1.2.1).length e1, .bool false, .slice y1 (Na.digs q1.2.2).length f1] 0) [.bool q2.1, .slice x2 (Na.digs q2.2.1).length e2, .bool false, .slice y2 (Na.digs q2.2.2).length f2] 0
    have HE := ext_setCells (ext_setCells HX (c := g1) (by omega) [.bool q1.1, .slice x1 (Na.digs q1.2.1).length e1, .bool false, .slice y1 (Na.digs q1.2.2).length f1] 0) (c := g2) (by omega) [.bool q2.1, .slice x2 (Na.digs q2.2.1).length e2, .bool false, .slice y2 (Na.digs q2.2.2).length f2] 0
    have hsz : W.heap.size ≤ W2.heap.size := by rw [← hW2, size_setCells, size_setCells]; exact hC.size
    rw [hW2] at v1 v2 q1' q2' HE 
    have V1 := Lib.hid v1
    have V2 := Lib.hid v2
    obtain ⟨gn1, gd1⟩ := q1'.parts' HQ1.out
    obtain ⟨gn2, gd2⟩ := q2'.parts' HQ2.out
    have N1 := Lib.hid gn1
    have D1 := Lib.hid gd1
    have N2 := Lib.hid gn2
    have D2 := Lib.hid gd2
    have HE2 := Lib.hid HE
    show wpList _ _ _ _ _ ((World.setCells w' _ _ [.bool q1.1, .slice x1 (Na.digs q1.2.1).length e1, .bool false, .slice y1 (Na.digs q1.2.2).length f1]).setCells _ _ [.bool q2.1, .slice x2 (Na.digs q2.2.1).length e2, .bool false, .slice y2 (Na.digs q2.2.2).length f2])
    rw [hW2]
    clear v1 v2 q1' q2' HE  gn1 gd1 gn2 gd2 z1 z2 h1 h3 h4 h5 HX hW2 hC hne
    go_wp2_with fail
    refine Go.Rel.wp_region 11 (by kernel_rfl) (by kernel_rfl) Ext (fun w' => Ext W2 w')
      [Rel.is (.pointer (some ⟨g1, 0, none⟩)),
   Rel.is (.agg #[.bool q1.1, .slice x1 (Na.digs q1.2.1).length e1]),
   Rel.is (.pointer (some ⟨g2, 2, none⟩)),
   Rel.is (.agg #[.bool false, .slice y2 (Na.digs q2.2.2).length f2]),
   fun v w' => IsZ (W2.heap.size) w' v (qz q1 * (q2.2.2 : Int)),
   Rel.is (.pointer (some ⟨g2, 0, none⟩)),
   Rel.is (.agg #[.bool q2.1, .slice x2 (Na.digs q2.2.1).length e2]),
   Rel.is (.pointer (some ⟨g1, 2, none⟩)),
   Rel.is (.agg #[.bool false, .slice y1 (Na.digs q1.2.2).length f1]),
   fun v w' => IsZ (W2.heap.size) w' v (qz q2 * (q1.2.2 : Int)),
   Rel.is (.int .i64 (((qz q1 * (q2.2.2 : Int)) - (qz q2 * (q1.2.2 : Int))).sign))]
      ?_ ?_ ?_ ⟨?_, ?_, ?_, ?_, ?_, ?_, ?_, ?_, ?_, ?_, ?_, trivial⟩ ?_
    · exact below_drewN (Below.refl _ _) 1
    · exact fun _ _ h k => Ext.trans' h k
    · exact Rel.Monos.mem ⟨Rel.mono_is _, Rel.mono_is _, Rel.mono_is _, Rel.mono_is _, fun _ _ _ k h => h.ext k, Rel.mono_is _, Rel.mono_is _, Rel.mono_is _, Rel.mono_is _, fun _ _ _ k h => h.ext k, Rel.mono_is _, trivial⟩
    · intro ρ w' hs ho hC hd
      have h5 : ρ (.tmp 5) = .pointer (some ⟨g1, 0, none⟩) := ho 5 rfl
      exact Rel.does_val (u := .pointer (some ⟨g1, 0, none⟩)) (by simp [go_sem, h5]) Ext.rfl' rfl
    · intro ρ w' hs ho hC hd
      have h11 : ρ (.tmp 11) = .pointer (some ⟨g1, 0, none⟩) := hd.1 rfl
      exact Rel.does_load (cs := [.bool q1.1, .slice x1 (Na.digs q1.2.1).length e1]) rfl h11 (V1.out.ext hC) rfl rfl Tryz.underlying24 rfl (by kernel_rfl) Ext.rfl' rfl
    · intro ρ w' hs ho hC hd
      have h6 : ρ (.tmp 6) = .pointer (some ⟨g2, 0, none⟩) := ho 6 rfl
      exact Rel.does_val (u := .pointer (some ⟨g2, 2, none⟩)) (by simp [go_sem, h6]) Ext.rfl' rfl
    · intro ρ w' hs ho hC hd
      have h13 : ρ (.tmp 13) = .pointer (some ⟨g2, 2, none⟩) := hd.1 rfl
      exact Rel.does_load (cs := [.bool false, .slice y2 (Na.digs q2.2.2).length f2]) rfl h13 (V2.out.ext hC) rfl rfl Tryz.underlying24 rfl (by kernel_rfl) Ext.rfl' rfl
    · intro ρ w' hs ho hC hd
      have h12 : ρ (.tmp 12) = .agg #[.bool q1.1, .slice x1 (Na.digs q1.2.1).length e1] := hd.1 rfl
      have h14 : ρ (.tmp 14) = .agg #[.bool false, .slice y2 (Na.digs q2.2.2).length f2] := hd.2.1 rfl
      refine Rel.does_call (f := 37) (args := #[.agg #[.bool q1.1, .slice x1 (Na.digs q1.2.1).length e1], .agg #[.bool false, .slice y2 (Na.digs q2.2.2).length f2]]) (by simp [go_sem, hs.func, h12, h14]) ?_
      refine (rintMul_any _ _ _ _ _ _ w' (N1.out.below hC) (D2.out.below hC) (by omega) (by omega)).mono ?_
      rintro e w'' ⟨x, rfl, hx, hb⟩
      exact ⟨_, rfl, hb, hx.mono hC.size⟩
    · intro ρ w' hs ho hC hd
      have h6 : ρ (.tmp 6) = .pointer (some ⟨g2, 0, none⟩) := ho 6 rfl
      exact Rel.does_val (u := .pointer (some ⟨g2, 0, none⟩)) (by simp [go_sem, h6]) Ext.rfl' rfl
    · intro ρ w' hs ho hC hd
      have h16 : ρ (.tmp 16) = .pointer (some ⟨g2, 0, none⟩) := hd.1 rfl
      exact Rel.does_load (cs := [.bool q2.1, .slice x2 (Na.digs q2.2.1).length e2]) rfl h16 (V2.out.ext hC) rfl rfl Tryz.underlying24 rfl (by kernel_rfl) Ext.rfl' rfl
    · intro ρ w' hs ho hC hd
      have h5 : ρ (.tmp 5) = .pointer (some ⟨g1, 0, none⟩) := ho 5 rfl
      exact Rel.does_val (u := .pointer (some ⟨g1, 2, none⟩)) (by simp [go_sem, h5]) Ext.rfl' rfl
    · intro ρ w' hs ho hC hd
      have h18 : ρ (.tmp 18) = .pointer (some ⟨g1, 2, none⟩) := hd.1 rfl
      exact Rel.does_load (cs := [.bool false, .slice y1 (Na.digs q1.2.2).length f1]) rfl h18 (V1.out.ext hC) rfl rfl Tryz.underlying24 rfl (by kernel_rfl) Ext.rfl' rfl
    · intro ρ w' hs ho hC hd
      have h17 : ρ (.tmp 17) = .agg #[.bool q2.1, .slice x2 (Na.digs q2.2.1).length e2] := hd.1 rfl
      have h19 : ρ (.tmp 19) = .agg #[.bool false, .slice y1 (Na.digs q1.2.2).length f1] := hd.2.1 rfl
      refine Rel.does_call (f := 37) (args := #[.agg #[.bool q2.1, .slice x2 (Na.digs q2.2.1).length e2], .agg #[.bool false, .slice y1 (Na.digs q1.2.2).length f1]]) (by simp [go_sem, hs.func, h17, h19]) ?_
      refine (rintMul_any _ _ _ _ _ _ w' (N2.out.below hC) (D1.out.below hC) (by omega) (by omega)).mono ?_
      rintro e w'' ⟨x, rfl, hx, hb⟩
      exact ⟨_, rfl, hb, hx.mono hC.size⟩
    · intro ρ w' hs ho hC hd
      have h15 : IsZ (W2.heap.size) w' (ρ (.tmp 15)) (qz q1 * (q2.2.2 : Int)) := hd.1 rfl
      have h20 : IsZ (W2.heap.size) w' (ρ (.tmp 20)) (qz q2 * (q1.2.2 : Int)) := hd.2.1 rfl
      refine Rel.does_call (f := 36) (args := #[ρ (.tmp 15), ρ (.tmp 20)]) (by simp [go_sem, hs.func]) ?_
      refine (rintCmp_any _ _ _ _ _ _ w' (IsZ.toQ h15 (len_mul _ _ (qz_len HQ1.out) (nat_len HQ2.out.2))) (IsZ.toQ h20 (show _ ≤ K1 + K2 by rw [Nat.add_comm]; exact len_mul _ _ (qz_len HQ2.out) (nat_len HQ1.out.2))) (by omega) (by omega)).mono ?_
      rintro e w'' ⟨rfl, hb⟩
      exact ⟨_, rfl, hb, rfl⟩
    · intro w' hC
      rintro _ rfl _ rfl _ rfl _ rfl v4 h4 _ rfl _ rfl _ rfl _ rfl v9 h9 _ rfl
      change wpList _ _ _ (List.drop 11 _) _ _
      simp only [List.drop_succ_cons, List.drop_zero]
      have HX := Lib.hid (Ext.trans' HE2.out hC)
      clear hC h4 h9
      go_wp2_with fail
      go_ret
      exact ⟨rfl, HX.out⟩
theorem isIntN_neg {base : Nat} {w : World} {v : Value} {q : Bool × Nat × Nat} (h : IsZ base w v (-qz q)) : IsIntN base w v (qneg q).1 (qneg q).2.1 := by
  have e : -qz q = zv (!q.1) q.2.1 := by unfold qz; rw [zv_not]
  unfold IsZ at h
  rw [e, zv_neg, zv_abs] at h
  exact h
theorem ratN_mk {base : Nat} {w : World} {n m : Bool} {s t s' : Value} {q : Bool × Nat × Nat} {k : Bool} (h : IsIntN base w (.agg #[.bool n, s]) (qneg q).1 (qneg q).2.1) (h2 : IsRatT base w (.agg #[.bool k, s', .bool m, t]) q) :
    IsRatT base w (.agg #[.bool n, s, .bool m, t]) (qneg q) := by
  obtain ⟨a, ea, ha, fa⟩ := h
  obtain ⟨b, c, eb, hb, hc, fb, fc⟩ := h2
  simp only [Value.agg.injEq, Array.mk.injEq, List.cons.injEq, Value.bool.injEq, and_true] at ea eb
  obtain ⟨rfl, rfl⟩ := ea
  obtain ⟨rfl, rfl, rfl, rfl⟩ := eb
  exact ⟨s, t, rfl, ha, hc, fa, fc⟩
theorem refNeg_q (v1 : Value) (q1 : Bool × Nat × Nat) (K : Nat) (w : World) (h1 : IsRatQ K w v1 q1) (hK : 1 ≤ K) (hM : K ≤ 100000) :
    Calls Tryz.prog 88 #[v1] w fun e w' => ∃ x, e = .returned x ∧ IsRatT w.heap.size w' x (qneg q1) ∧ Ext w w' := by
  obtain ⟨n1, a1, m1, c1, o1, b1, k1, d1, rfl⟩ := h1.shape
  have hb0 := (below_alloc w (.cells #[.bool n1, .slice a1 m1 c1, .bool o1, .slice b1 k1 d1] 26)).alloc (by simp) (.cells #[.bool false, .slice none 0 0, .bool false, .slice none 0 0] 26)
  have HC := Lib.hid (refNorm_q _ q1 K _ (h1.below hb0) (by omega))
  have HQ1 := Lib.hid (h1.len hK)
  have HB0 := Lib.hid hb0
  have hbx := bx_new (w.alloc (.cells #[.bool n1, .slice a1 m1 c1, .bool o1, .slice b1 k1 d1] 26)) #[.bool false, .slice none 0 0, .bool false, .slice none 0 0] 26
  simp only [World.size_alloc] at hbx
  clear hb0 h1
  go_enter Tryz.func88, Tryz.ntmps88
  go_wp2_with fail
  refine HC.out.mono ?_
  rintro e w1 ⟨x, rfl, hx, hb⟩
  simp only [World.size_alloc] at hx
  have hszb := hb.size
  simp only [World.size_alloc] at hszb
  obtain ⟨x1, e1, y1, f1, rfl⟩ := hx.shape
  go_wp2_with fail
  obtain ⟨W2, hW2⟩ : ∃ W2, w1.alloc (.cells #[.bool q1.1, .slice x1 (Na.digs q1.2.1).length e1, .bool false, .slice y1 (Na.digs q1.2.2).length f1] 26) = W2 := ⟨_, rfl⟩
  have v1 := bx_new w1 #[.bool q1.1, .slice x1 (Na.digs q1.2.1).length e1, .bool false, .slice y1 (Na.digs q1.2.2).length f1] 26
  have hal := below_alloc w1 (.cells #[.bool q1.1, .slice x1 (Na.digs q1.2.1).length e1, .bool false, .slice y1 (Na.digs q1.2.2).length f1] 26)
  have g1 := hx.ext hal
  have t0 := (hbx.ext hb).ext hal
  have HE := Ext.trans' HB0.out (Ext.trans' hb hal)
  rw [hW2] at v1 g1 HE t0 ⊢
  have hszW : w1.heap.size ≤ W2.heap.size := by rw [← hW2]; simp
  have V1 := Lib.hid v1
  obtain ⟨gn1, gd1⟩ := g1.parts' HQ1.out
  have N1 := Lib.hid gn1
  have Q1 := Lib.hid g1
  have T0 := Lib.hid t0
  have HE2 := Lib.hid HE
  clear v1 g1 gn1 gd1 HE hb hx hbx HC hW2 hal t0
  refine Go.Rel.wp_region 6 (by kernel_rfl) (by kernel_rfl) Ext (fun w' => Ext W2 w')
    [Rel.is (.pointer (some ⟨w1.heap.size, 0, none⟩)),
   Rel.is (.agg #[.bool q1.1, .slice x1 (Na.digs q1.2.1).length e1]),
   fun v w' => IsZ (w.heap.size + 1 + 1) w' v (-qz q1),
   Rel.is (.pointer (some ⟨w1.heap.size, 2, none⟩)),
   Rel.is (.agg #[.bool false, .slice y1 (Na.digs q1.2.2).length f1]),
   fun v w' => IsRatT (w.heap.size + 1 + 1) w' v (qneg q1)]
    ?_ ?_ ?_ ⟨?_, ?_, ?_, ?_, ?_, ?_, trivial⟩ ?_
  · exact below_drewN (Below.refl _ _) 1
  · exact fun _ _ h k => Ext.trans' h k
  · exact Rel.Monos.mem ⟨Rel.mono_is _, Rel.mono_is _, fun _ _ _ k h => h.ext k, Rel.mono_is _, Rel.mono_is _, fun _ _ _ k h => h.ext k, trivial⟩
  · intro ρ w' hs ho hC hd
    have h3 : ρ (.tmp 3) = .pointer (some ⟨w1.heap.size, 0, none⟩) := ho 3 rfl
    exact Rel.does_val (u := .pointer (some ⟨w1.heap.size, 0, none⟩)) (by simp [go_sem, h3]) Ext.rfl' rfl
  · intro ρ w' hs ho hC hd
    have h6 : ρ (.tmp 6) = .pointer (some ⟨w1.heap.size, 0, none⟩) := hd.1 rfl
    exact Rel.does_load (cs := [.bool q1.1, .slice x1 (Na.digs q1.2.1).length e1]) rfl h6 (V1.out.ext hC) rfl rfl Tryz.underlying24 rfl (by kernel_rfl) Ext.rfl' rfl
  · intro ρ w' hs ho hC hd
    have h7 : ρ (.tmp 7) = .agg #[.bool q1.1, .slice x1 (Na.digs q1.2.1).length e1] := hd.1 rfl
    refine Rel.does_call (f := 129) (args := #[.agg #[.bool q1.1, .slice x1 (Na.digs q1.2.1).length e1]]) (by simp [go_sem, hs.func, h7]) ?_
    refine (rintNeg_any _ (qz q1) K w' (N1.out.below hC) (by omega)).mono ?_
    rintro e w'' ⟨x, rfl, hx, hb⟩
    exact ⟨_, rfl, hb, hx.mono (by have := hC.size; omega)⟩
  · intro ρ w' hs ho hC hd
    have h3 : ρ (.tmp 3) = .pointer (some ⟨w1.heap.size, 0, none⟩) := ho 3 rfl
    exact Rel.does_val (u := .pointer (some ⟨w1.heap.size, 2, none⟩)) (by simp [go_sem, h3]) Ext.rfl' rfl
  · intro ρ w' hs ho hC hd
    have h9 : ρ (.tmp 9) = .pointer (some ⟨w1.heap.size, 2, none⟩) := hd.1 rfl
    exact Rel.does_load (cs := [.bool false, .slice y1 (Na.digs q1.2.2).length f1]) rfl h9 (V1.out.ext hC) rfl rfl Tryz.underlying24 rfl (by kernel_rfl) Ext.rfl' rfl
  · intro ρ w' hs ho hC hd
    have h8 : IsZ (w.heap.size + 1 + 1) w' (ρ (.tmp 8)) (-qz q1) := hd.1 rfl
    have h10 : ρ (.tmp 10) = .agg #[.bool false, .slice y1 (Na.digs q1.2.2).length f1] := hd.2.1 rfl
    have h8 := isIntN_neg h8
    obtain ⟨b1', d1', e8⟩ := h8.shape
    rw [e8] at h8
    refine Rel.does_val (T := fun v w' => IsRatT (w.heap.size + 1 + 1) w' v (qneg q1)) (u := .agg #[.bool (qneg q1).1, .slice b1' (Na.digs (qneg q1).2.1).length d1', .bool false, .slice y1 (Na.digs q1.2.2).length f1]) (by simp [go_sem, e8, h10]) Ext.rfl' ?_
    exact ratN_mk h8 (Q1.out.ext hC)
  · intro w' hC
    rintro _ rfl _ rfl v2 h2 _ rfl _ rfl v5 h5
    change wpList _ _ _ (List.drop 6 _) _ _
    simp only [List.drop_succ_cons, List.drop_zero]
    obtain ⟨p1, e1, p2, e2, rfl⟩ := h5.shape
    have hz := T0.out.ext hC
    have HX := Lib.hid (Ext.trans' HE2.out hC)
    have F := Lib.hid (h5.set (c := w.heap.size + 1) (by omega) [.bool (qneg q1).1, .slice p1 (Na.digs (qneg q1).2.1).length e1, .bool false, .slice p2 (Na.digs (qneg q1).2.2).length e2] 0)
    simp only [Go.Act.put, List.setIfInBounds_toArray, List.set_cons_succ, List.set_cons_zero]
    refine wpList_store_mid rfl 26 (.tmp 2) (.tmp 11) rfl (w.heap.size + 1) 0 #[.bool (qneg q1).1, .slice p1 (Na.digs (qneg q1).2.1).length e1, .bool false, .slice p2 (Na.digs (qneg q1).2.2).length e2] rfl rfl (hz.there rfl) (by kernel_rfl) (by simp [Value.oneCell']) ?_
    have S3 := Lib.hid (hz.set [.bool (qneg q1).1, .slice p1 (Na.digs (qneg q1).2.1).length e1, .bool false, .slice p2 (Na.digs (qneg q1).2.2).length e2] rfl)
    have HX3 := Lib.hid (ext_setCells HX.out (c := w.heap.size + 1) (by omega) [.bool (qneg q1).1, .slice p1 (Na.digs (qneg q1).2.1).length e1, .bool false, .slice p2 (Na.digs (qneg q1).2.2).length e2] 0)
    skip
    show wpList _ _ _ _ _ (World.setCells _ _ _ [_, _, _, _])
    generalize World.setCells w' (w.heap.size + 1) 0 [.bool (qneg q1).1, .slice p1 (Na.digs (qneg q1).2.1).length e1, .bool false, .slice p2 (Na.digs (qneg q1).2.2).length e2] = W3 at F S3 HX3 ⊢
    have hl := S3.out.2.1
    clear hz h5 h2 hC
    go_wp2_with fail
    refine bodyPost_ret (v := .agg #[.bool (qneg q1).1, .slice p1 (Na.digs (qneg q1).2.1).length e1, .bool false, .slice p2 (Na.digs (qneg q1).2.2).length e2]) (by simp [results, Tryz.results88, go_sem, hl]) rfl ⟨_, rfl, F.out.mono (by omega), HX3.out⟩
theorem refSub_q (v1 v2 : Value) (q1 q2 : Bool × Nat × Nat) (K1 K2 : Nat) (w : World) (h1 : IsRatQ K1 w v1 q1) (h2 : IsRatQ K2 w v2 q2) (hK1 : 1 ≤ K1) (hK2 : 1 ≤ K2) (hM1 : K1 ≤ 100000) (hM2 : K2 ≤ 100000) :
    Calls Tryz.prog 38 #[v1, v2] w fun e w' => ∃ x, e = .returned x ∧ IsRatT w.heap.size w' x (qsub q1 q2) ∧ Ext w w' := by
  obtain ⟨n1, a1, m1, c1, o1, b1, k1, d1, rfl⟩ := h1.shape
  obtain ⟨n2, a2, m2, c2, o2, b2, k2, d2, rfl⟩ := h2.shape
  obtain ⟨W, hW⟩ : ∃ W, (((w.alloc (.cells #[.bool n1, .slice a1 m1 c1, .bool o1, .slice b1 k1 d1] 26)).alloc (.cells #[.bool n2, .slice a2 m2 c2, .bool o2, .slice b2 k2 d2] 26)).alloc (.cells #[.bool false, .slice none 0 0, .bool false, .slice none 0 0] 26)) = W := ⟨_, rfl⟩
  have hb0 : Ext w W := by rw [← hW]; exact ((below_alloc w _).alloc (by simp) _).alloc (by simp; omega) _
  have X1 : Hid (Bx W (w.heap.size) #[.bool n1, .slice a1 m1 c1, .bool o1, .slice b1 k1 d1]) := by
    have h := ((bx_new w #[.bool n1, .slice a1 m1 c1, .bool o1, .slice b1 k1 d1] 26).al (.cells #[.bool n2, .slice a2 m2 c2, .bool o2, .slice b2 k2 d2] 26)).al (.cells #[.bool false, .slice none 0 0, .bool false, .slice none 0 0] 26)
    rw [hW] at h; exact Lib.hid (by simpa only [World.size_alloc] using h)
  have X2 : Hid (Bx W (w.heap.size + 1) #[.bool n2, .slice a2 m2 c2, .bool o2, .slice b2 k2 d2]) := by
    have h := (bx_new (w.alloc (.cells #[.bool n1, .slice a1 m1 c1, .bool o1, .slice b1 k1 d1] 26)) #[.bool n2, .slice a2 m2 c2, .bool o2, .slice b2 k2 d2] 26).al (.cells #[.bool false, .slice none 0 0, .bool false, .slice none 0 0] 26)
    rw [hW] at h; exact Lib.hid (by simpa only [World.size_alloc] using h)
  have Z0 : Hid (Bx W (w.heap.size + 1 + 1) #[.bool false, .slice none 0 0, .bool false, .slice none 0 0]) := by
    have h := bx_new ((w.alloc (.cells #[.bool n1, .slice a1 m1 c1, .bool o1, .slice b1 k1 d1] 26)).alloc (.cells #[.bool n2, .slice a2 m2 c2, .bool o2, .slice b2 k2 d2] 26)) #[.bool false, .slice none 0 0, .bool false, .slice none 0 0] 26
    rw [hW] at h; exact Lib.hid (by simpa only [World.size_alloc] using h)
  have H1 := Lib.hid (h1.below hb0)
  have HQ1 := Lib.hid (h1.len hK1)
  have HN1 := Lib.hid h1.nrm
  have HP1 := Lib.hid h1.pos
  have H2 := Lib.hid (h2.below hb0)
  have HQ2 := Lib.hid (h2.len hK2)
  have HN2 := Lib.hid h2.nrm
  have HP2 := Lib.hid h2.pos
  have HB0 := Lib.hid hb0
  have HW := Lib.hid hW
  clear hb0 hW h1 h2
  have hb0w : Hid (w.heap.size + 1 + 1 < W.heap.size) := Z0.out.1
  go_enter Tryz.func38, Tryz.ntmps38
  go_wp2_with fail
  rw [HW.out]
  refine Go.Rel.wp_region 4 (by kernel_rfl) (by kernel_rfl) Ext (fun w' => Ext W w')
    [Rel.is (.agg #[.bool n1, .slice a1 m1 c1, .bool o1, .slice b1 k1 d1]),
   Rel.is (.agg #[.bool n2, .slice a2 m2 c2, .bool o2, .slice b2 k2 d2]),
   fun v w' => IsRatT W.heap.size w' v (qneg q2),
   fun v w' => IsRatT W.heap.size w' v (qsub q1 q2)]
    ?_ ?_ ?_ ⟨?_, ?_, ?_, ?_, trivial⟩ ?_
  · exact below_drewN (Below.refl _ _) 1
  · exact fun _ _ h k => Ext.trans' h k
  · exact Rel.Monos.mem ⟨Rel.mono_is _, Rel.mono_is _, fun _ _ _ k h => h.ext k, fun _ _ _ k h => h.ext k, trivial⟩
  · intro ρ w' hs ho hC hd
    have h2 : ρ (.tmp 2) = .pointer (some ⟨w.heap.size, 0, none⟩) := ho 2 rfl
    exact Rel.does_load (cs := [.bool n1, .slice a1 m1 c1, .bool o1, .slice b1 k1 d1]) rfl h2 (X1.out.ext hC) rfl rfl Tryz.underlying26 rfl (by kernel_rfl) Ext.rfl' rfl
  · intro ρ w' hs ho hC hd
    have h3 : ρ (.tmp 3) = .pointer (some ⟨w.heap.size + 1, 0, none⟩) := ho 3 rfl
    exact Rel.does_load (cs := [.bool n2, .slice a2 m2 c2, .bool o2, .slice b2 k2 d2]) rfl h3 (X2.out.ext hC) rfl rfl Tryz.underlying26 rfl (by kernel_rfl) Ext.rfl' rfl
  · intro ρ w' hs ho hC hd
    have h6 : ρ (.tmp 6) = .agg #[.bool n2, .slice a2 m2 c2, .bool o2, .slice b2 k2 d2] := hd.1 rfl
    refine Rel.does_call (f := 88) (args := #[.agg #[.bool n2, .slice a2 m2 c2, .bool o2, .slice b2 k2 d2]]) (by simp [go_sem, hs.func, h6]) ?_
    refine (refNeg_q _ q2 K2 w' (H2.out.below hC) (by omega) (by omega)).mono ?_
    rintro e w'' ⟨x, rfl, hx, hb⟩
    exact ⟨_, rfl, hb, hx.mono hC.size⟩
  · intro ρ w' hs ho hC hd
    have h5 : ρ (.tmp 5) = .agg #[.bool n1, .slice a1 m1 c1, .bool o1, .slice b1 k1 d1] := hd.1 rfl
    have h7 : IsRatT W.heap.size w' (ρ (.tmp 7)) (qneg q2) := hd.2.1 rfl
    refine Rel.does_call (f := 87) (args := #[.agg #[.bool n1, .slice a1 m1 c1, .bool o1, .slice b1 k1 d1], ρ (.tmp 7)]) (by simp [go_sem, hs.func, h5]) ?_
    have hc := refAdd_q _ _ q1 (qneg q2) K1 K2 w' (H1.out.below hC) (IsRatN.toQ h7 (qneg_nrm HN2.out HP2.out) HQ2.out) (by omega) (by omega) (by omega) (by omega)
    rw [qsub_neg] at hc
    refine hc.mono ?_
    rintro e w'' ⟨x, rfl, hx, hb⟩
    exact ⟨_, rfl, hb, hx.mono hC.size⟩
  · intro w' hC
    rintro _ rfl _ rfl v2 h2 v3 h3
    change wpList _ _ _ (List.drop 4 _) _ _
    simp only [List.drop_succ_cons, List.drop_zero]
    have W0 := hb0w.out
    obtain ⟨p1, e1, p2, e2, rfl⟩ := h3.shape
    have hz := Z0.out.ext hC
    have HX := Lib.hid (Ext.trans' HB0.out hC)
    have F := Lib.hid (h3.set (c := w.heap.size + 1 + 1) (by omega) [.bool (qsub q1 q2).1, .slice p1 (Na.digs (qsub q1 q2).2.1).length e1, .bool false, .slice p2 (Na.digs (qsub q1 q2).2.2).length e2] 0)
    simp only [Go.Act.put, List.setIfInBounds_toArray, List.set_cons_succ, List.set_cons_zero]
    refine wpList_store_mid rfl 26 (.tmp 4) (.tmp 8) rfl (w.heap.size + 1 + 1) 0 #[.bool (qsub q1 q2).1, .slice p1 (Na.digs (qsub q1 q2).2.1).length e1, .bool false, .slice p2 (Na.digs (qsub q1 q2).2.2).length e2] rfl rfl (hz.there rfl) (by kernel_rfl) (by simp [Value.oneCell']) ?_
    have S3 := Lib.hid (hz.set [.bool (qsub q1 q2).1, .slice p1 (Na.digs (qsub q1 q2).2.1).length e1, .bool false, .slice p2 (Na.digs (qsub q1 q2).2.2).length e2] rfl)
    have HX3 := Lib.hid (ext_setCells HX.out (c := w.heap.size + 1 + 1) (by omega) [.bool (qsub q1 q2).1, .slice p1 (Na.digs (qsub q1 q2).2.1).length e1, .bool false, .slice p2 (Na.digs (qsub q1 q2).2.2).length e2] 0)
    skip
    show wpList _ _ _ _ _ (World.setCells _ _ _ [_, _, _, _])
    generalize World.setCells w' (w.heap.size + 1 + 1) 0 [.bool (qsub q1 q2).1, .slice p1 (Na.digs (qsub q1 q2).2.1).length e1, .bool false, .slice p2 (Na.digs (qsub q1 q2).2.2).length e2] = W3 at F S3 HX3 ⊢
    have hl := S3.out.2.1
    clear hz h3 h2 hC
    go_wp2_with fail
    refine bodyPost_ret (v := .agg #[.bool (qsub q1 q2).1, .slice p1 (Na.digs (qsub q1 q2).2.1).length e1, .bool false, .slice p2 (Na.digs (qsub q1 q2).2.2).length e2]) (by simp [results, Tryz.results38, go_sem, hl]) rfl ⟨_, rfl, F.out.mono (by omega), HX3.out⟩
theorem refBitLen_q (v1 : Value) (q1 : Bool × Nat × Nat) (K : Nat) (w : World) (h1 : IsRatQ K w v1 q1) (hK : 1 ≤ K) (hM : K ≤ 100000) :
    Calls Tryz.prog 34 #[v1] w fun e w' => e = .returned (.int .i64 (qbits q1 : Int)) ∧ Ext w w' := by
  obtain ⟨n1, a1, m1, c1, o1, b1, k1, d1, rfl⟩ := h1.shape
  have hb0 := below_alloc w (.cells #[.bool n1, .slice a1 m1 c1, .bool o1, .slice b1 k1 d1] 26)
  have HC := Lib.hid (refNorm_q _ q1 K _ (h1.below hb0) (by omega))
  have HQ1 := Lib.hid (h1.len hK)
  have HB0 := Lib.hid hb0
  have hbx := bx_new w #[.bool n1, .slice a1 m1 c1, .bool o1, .slice b1 k1 d1] 26
  clear hb0 h1
  go_enter Tryz.func34, Tryz.ntmps34
  go_wp2_with fail
  refine HC.out.mono ?_
  rintro e w1 ⟨x, rfl, hx, hb⟩
  obtain ⟨x1, e1, y1, f1, rfl⟩ := hx.shape
  go_wp2_with fail
  obtain ⟨W2, hW2⟩ : ∃ W2, w1.alloc (.cells #[.bool q1.1, .slice x1 (Na.digs q1.2.1).length e1, .bool false, .slice y1 (Na.digs q1.2.2).length f1] 26) = W2 := ⟨_, rfl⟩
  have v1 := bx_new w1 #[.bool q1.1, .slice x1 (Na.digs q1.2.1).length e1, .bool false, .slice y1 (Na.digs q1.2.2).length f1] 26
  have hal := below_alloc w1 (.cells #[.bool q1.1, .slice x1 (Na.digs q1.2.1).length e1, .bool false, .slice y1 (Na.digs q1.2.2).length f1] 26)
  have g1 := hx.ext hal
  have HE := Ext.trans' HB0.out (Ext.trans' hb hal)
  rw [hW2] at v1 g1 HE ⊢
  clear hal
  have V1 := Lib.hid v1
  obtain ⟨gn1, gd1⟩ := g1.parts' HQ1.out
  have N1 := Lib.hid gn1
  have D1 := Lib.hid gd1
  have HE2 := Lib.hid HE
  clear v1 g1 gn1 gd1 HE hb hx hbx HC hW2
  refine Go.Rel.wp_region 7 (by kernel_rfl) (by kernel_rfl) Ext (fun w' => Ext W2 w')
    [Rel.is (.pointer (some ⟨w1.heap.size, 0, none⟩)),
   Rel.is (.agg #[.bool q1.1, .slice x1 (Na.digs q1.2.1).length e1]),
   Rel.is (.int .i64 ((bl q1.2.1 : Nat) : Int)),
   Rel.is (.pointer (some ⟨w1.heap.size, 2, none⟩)),
   Rel.is (.agg #[.bool false, .slice y1 (Na.digs q1.2.2).length f1]),
   Rel.is (.int .i64 ((bl q1.2.2 : Nat) : Int)),
   Rel.is (.int .i64 (max ((bl q1.2.1 : Nat) : Int) ((bl q1.2.2 : Nat) : Int)))]
    ?_ ?_ ?_ ⟨?_, ?_, ?_, ?_, ?_, ?_, ?_, trivial⟩ ?_
  · exact below_drewN (Below.refl _ _) 1
  · exact fun _ _ h k => Ext.trans' h k
  · exact Rel.Monos.mem ⟨Rel.mono_is _, Rel.mono_is _, Rel.mono_is _, Rel.mono_is _, Rel.mono_is _, Rel.mono_is _, Rel.mono_is _, trivial⟩
  · intro ρ w' hs ho hC hd
    have h3 : ρ (.tmp 3) = .pointer (some ⟨w1.heap.size, 0, none⟩) := ho 3 rfl
    exact Rel.does_val (u := .pointer (some ⟨w1.heap.size, 0, none⟩)) (by simp [go_sem, h3]) Ext.rfl' rfl
  · intro ρ w' hs ho hC hd
    have h6 : ρ (.tmp 6) = .pointer (some ⟨w1.heap.size, 0, none⟩) := hd.1 rfl
    exact Rel.does_load (cs := [.bool q1.1, .slice x1 (Na.digs q1.2.1).length e1]) rfl h6 (V1.out.ext hC) rfl rfl Tryz.underlying24 rfl (by kernel_rfl) Ext.rfl' rfl
  · intro ρ w' hs ho hC hd
    have h7 : ρ (.tmp 7) = .agg #[.bool q1.1, .slice x1 (Na.digs q1.2.1).length e1] := hd.1 rfl
    refine Rel.does_call (f := 81) (args := #[.agg #[.bool q1.1, .slice x1 (Na.digs q1.2.1).length e1]]) (by simp [go_sem, hs.func, h7]) ?_
    have hc := rintBitLen_any _ _ K w' (N1.out.below hC) (by omega)
    rw [show (qz q1).natAbs = q1.2.1 from by unfold qz; exact zv_abs _ _] at hc
    refine hc.mono ?_
    rintro e w'' ⟨rfl, hb⟩
    exact ⟨_, rfl, hb, rfl⟩
  · intro ρ w' hs ho hC hd
    have h3 : ρ (.tmp 3) = .pointer (some ⟨w1.heap.size, 0, none⟩) := ho 3 rfl
    exact Rel.does_val (u := .pointer (some ⟨w1.heap.size, 2, none⟩)) (by simp [go_sem, h3]) Ext.rfl' rfl
  · intro ρ w' hs ho hC hd
    have h9 : ρ (.tmp 9) = .pointer (some ⟨w1.heap.size, 2, none⟩) := hd.1 rfl
    exact Rel.does_load (cs := [.bool false, .slice y1 (Na.digs q1.2.2).length f1]) rfl h9 (V1.out.ext hC) rfl rfl Tryz.underlying24 rfl (by kernel_rfl) Ext.rfl' rfl
  · intro ρ w' hs ho hC hd
    have h10 : ρ (.tmp 10) = .agg #[.bool false, .slice y1 (Na.digs q1.2.2).length f1] := hd.1 rfl
    refine Rel.does_call (f := 81) (args := #[.agg #[.bool false, .slice y1 (Na.digs q1.2.2).length f1]]) (by simp [go_sem, hs.func, h10]) ?_
    have hc := rintBitLen_any _ _ K w' (D1.out.below hC) (by omega)
    rw [Int.natAbs_natCast] at hc
    refine hc.mono ?_
    rintro e w'' ⟨rfl, hb⟩
    exact ⟨_, rfl, hb, rfl⟩
  · intro ρ w' hs ho hC hd
    have h8 : ρ (.tmp 8) = .int .i64 ((bl q1.2.1 : Nat) : Int) := hd.1 rfl
    have h11 : ρ (.tmp 11) = .int .i64 ((bl q1.2.2 : Nat) : Int) := hd.2.1 rfl
    exact Rel.does_val (u := .int .i64 (max ((bl q1.2.1 : Nat) : Int) ((bl q1.2.2 : Nat) : Int))) (by simp [go_sem, h8, h11]) Ext.rfl' rfl
  · intro w' hC
    rintro _ rfl _ rfl _ rfl _ rfl _ rfl _ rfl _ rfl
    change wpList _ _ _ (List.drop 7 _) _ _
    simp only [List.drop_succ_cons, List.drop_zero]
    have HX := Lib.hid (Ext.trans' HE2.out hC)
    clear hC
    go_wp2_with fail
    go_ret
    exact ⟨ret_int (by unfold qbits; omega), HX.out⟩
end Go.Proofs.YtcohmdeoocgmdaaGreatDoor
