/- The law on rational numbers, walked. -/
import Derived.Test.YtnenbmbgmmeiaaaDoorRat10
import Derived.Test.YtnenbmbgmmeiaaaDoorRefRat8
import Derived.Test.YtnenbmbgmmeiaaaDoorQatLaw
import Derived.Test.YtnenbmbgmmeiaaaDoorOpen2
namespace Go.Proofs.YtnenbmbgmmeiaaaDoor
open Go.RowKit En
variable {α : Type}
set_option linter.unusedVariables false

set_option maxRecDepth 100000 in
theorem smallRat_any (n1 n2 : Bool) (s1 s2 : Value) (l1 l2 : List UInt32) (r : Bool) (w : World) (h1 : IsU32s w s1 l1) (h2 : IsU32s w s2 l2) (hr : (decide (l1.length ≤ 40) && decide (l2.length ≤ 40)) = r) :
    Calls Tryd.prog 32 #[.agg #[.bool n1, s1, .bool n2, s2]] w fun e w' => e = .returned (.bool r) ∧ Ext w w' := by
  have hb0 := below_alloc w (.cells #[.bool n1, s1, .bool n2, s2] 51)
  have HB0 := Lib.hid hb0
  have hl1 := h1.len
  have hl2 := h2.len
  unfold maxLen at hl1 hl2
  obtain ⟨a1, c1, rfl⟩ := h1.shape
  obtain ⟨a2, c2, rfl⟩ := h2.shape
  obtain ⟨k0, k1, k2, k3, k4, -⟩ := four_cells (Ext.rfl' (w := w.alloc (.cells #[.bool n1, .slice a1 l1.length c1, .bool n2, .slice a2 l2.length c2] 51)))
  clear h1 h2 hb0
  by_cases h1 : l1.length ≤ 40
  · have e1 : (l1.length : Int) ≤ 40 := by omega
    by_cases h2 : l2.length ≤ 40
    · have e2 : (l2.length : Int) ≤ 40 := by omega
      have hR : r = true := by rw [← hr]; simp [h1, h2]
      subst hR
      clear h1 h2 hr
      go_enter Tryd.func32, Tryd.ntmps32
      go_wp2_with fail
      go_ret
      exact ⟨rfl, HB0.out⟩
    · have e2 : ¬ (l2.length : Int) ≤ 40 := by omega
      have hR : r = false := by rw [← hr]; simp [h1, h2]
      subst hR
      clear h1 h2 hr
      go_enter Tryd.func32, Tryd.ntmps32
      go_wp2_with fail
      go_ret
      exact ⟨rfl, HB0.out⟩
  · have e1 : ¬ (l1.length : Int) ≤ 40 := by omega
    have hR : r = false := by rw [← hr]; simp [h1]
    subst hR
    clear h1 hr
    go_enter Tryd.func32, Tryd.ntmps32
    go_wp2_with fail
    go_ret
    exact ⟨rfl, HB0.out⟩

attribute [local go_sem] Go.Rel.Does Go.Rel.Upon Go.Rel.kept Go.Rel.valOf
set_option maxRecDepth 100000 in
set_option maxHeartbeats 3200000 in
theorem lawRational (m : RatD) (v : Value) (bs : List UInt8) (i : Int) (w : World) (hm : IsRatD w m) (hv : IsBytes w v bs) (hi0 : -9223372036854775808 ≤ i ∧ i ≤ 9223372036854775807) :
    Calls Tryd.prog 7 #[m.v, v, .int .i64 i] w fun e w' => e = .returned (.bool true) ∧ Ext w w' := by
  obtain ⟨n1, s1, l1, n2, s2, l2⟩ := m
  obtain ⟨h1, h2⟩ := hm
  simp only at h1 h2
  have hl1 := h1.len
  have hl2 := h2.len
  have hl3 := hv.len
  unfold maxLen at hl1 hl2 hl3
  obtain ⟨a1, c1, rfl⟩ := h1.shape
  obtain ⟨a2, c2, rfl⟩ := h2.shape
  have HV := Lib.hid hv
  obtain ⟨a3, c3, rfl⟩ := hv.shape
  show Calls _ _ #[.agg #[.bool n1, .slice a1 l1.length c1, .bool n2, .slice a2 l2.length c2], .slice a3 bs.length c3, .int .i64 i] w _
  have hb0 := below_alloc w (.cells #[.bool n1, .slice a1 l1.length c1, .bool n2, .slice a2 l2.length c2] 51)
  have HB0 := Lib.hid hb0
  obtain ⟨sm, hsm⟩ : ∃ sm, (decide (l1.length ≤ 40) && decide (l2.length ≤ 40)) = sm := ⟨_, rfl⟩
  have HS := Lib.hid (smallRat_any n1 n2 _ _ l1 l2 sm _ (h1.below hb0) (h2.below hb0) hsm)
  have H := Lib.hid (And.intro h1 h2)
  have hk0 := four_cells (Ext.rfl' (w := w.alloc (.cells #[.bool n1, .slice a1 l1.length c1, .bool n2, .slice a2 l2.length c2] 51)))
  clear h1 h2 hb0 hv
  have hK0 : Hid (∀ w', Ext (w.alloc (.cells #[.bool n1, .slice a1 l1.length c1, .bool n2, .slice a2 l2.length c2] 51)) w' → w'.cell? ⟨w.heap.size, 0, none⟩ = some (.bool n1) ∧ w'.cell? ⟨w.heap.size, 1, none⟩ = some (.slice a1 l1.length c1) ∧ w'.cell? ⟨w.heap.size, 2, none⟩ = some (.bool n2) ∧ w'.cell? ⟨w.heap.size, 3, none⟩ = some (.slice a2 l2.length c2)) := by
    intro w' hw'
    obtain ⟨k0, k1, k2, k3, -, -⟩ := four_cells hw'
    exact ⟨k0, k1, k2, k3⟩
  cases sm with
  | false =>
    obtain ⟨k0, k1, k2, k3, -, -⟩ := hk0
    clear hsm
    go_enter Tryd.func7, Tryd.ntmps7
    go_wp2_with fail
    refine HS.out.mono ?_
    rintro e w1 ⟨rfl, hb1⟩
    go_wp2_with fail
    refine (example_any _).mono ?_
    rintro e w2 ⟨rfl, hb2⟩
    go_wp2_with fail
    go_ret
    exact ⟨rfl, Ext.trans' HB0.out (Ext.trans' hb1 hb2)⟩
  | true =>
    obtain ⟨k0, k1, k2, k3, -, -⟩ := hk0
    simp only [Bool.and_eq_true, decide_eq_true_eq] at hsm
    by_cases hbig : 400 < bs.length
    · have hcond : (400 : Int) < bs.length := by omega
      clear hsm hbig
      go_enter Tryd.func7, Tryd.ntmps7
      go_wp2_with fail
      refine HS.out.mono ?_
      rintro e w1 ⟨rfl, hb1⟩
      go_wp2_with fail
      refine (example_any _).mono ?_
      rintro e w2 ⟨rfl, hb2⟩
      go_wp2_with fail
      go_ret
      exact ⟨rfl, Ext.trans' HB0.out (Ext.trans' hb1 hb2)⟩
    · have hcond : ¬ (400 : Int) < bs.length := by omega
      obtain ⟨⟨⟨c, a, b⟩, q, er⟩, hqa⟩ : ∃ r, qat bs i = r := ⟨_, rfl⟩
      have HQA := Lib.hid hqa
      have hlens := qat_lens hqa
      simp only at hlens
      have hqb : q ≤ bs.length := by
        by_cases he : er = 0
        · subst he; obtain ⟨p, -, -, h, -⟩ := qat_canon hqa; exact h
        · rw [(qat_next hqa he).1]; omega
      clear hqa
      go_enter Tryd.func7, Tryd.ntmps7
      go_wp2_with fail
      refine HS.out.mono ?_
      rintro e w1 ⟨rfl, hb1⟩
      have HB1 := Lib.hid hb1
      have HW1 := Lib.hid (Ext.trans' HB0.out hb1)
      have HR := Lib.hid (rational_any (.slice a3 bs.length c3) bs i w1 (HV.out.below HW1.out) (by omega))
      rw [HQA.out] at HR
      clear hb1 HS k0 k1 k2 k3
      go_wp2_with fail
      refine HR.out.mono ?_
      rintro e w2 ⟨y, rfl, ⟨sa, sb, rfl, hsa, hsb, -, -⟩, hb2⟩
      obtain ⟨x1, d1, rfl⟩ := hsa.shape
      obtain ⟨x2, d2, rfl⟩ := hsb.shape
      obtain ⟨g1, hg1⟩ : ∃ g, g = w2.heap.size := ⟨_, rfl⟩
      obtain ⟨W2, hW2⟩ : ∃ W, w2.alloc (.cells #[.bool c, .slice x1 (Na.digs a).length d1, .bool false, .slice x2 (Na.digs b).length d2] 51) = W := ⟨_, rfl⟩
      have hE2 : Ext w2 W2 := by rw [← hW2]; exact below_alloc _ _
      have HK1 : Hid (∀ w', Ext W2 w' → w'.cell? ⟨g1, 0, none⟩ = some (.bool c) ∧ w'.cell? ⟨g1, 1, none⟩ = some (.slice x1 (Na.digs a).length d1) ∧ w'.cell? ⟨g1, 2, none⟩ = some (.bool false) ∧ w'.cell? ⟨g1, 3, none⟩ = some (.slice x2 (Na.digs b).length d2)) := by
        intro w' hw'
        rw [← hW2] at hw'
        obtain ⟨k0, k1, k2, k3, -, -⟩ := four_cells hw'
        rw [hg1]
        exact ⟨k0, k1, k2, k3⟩
      have HX1 := Lib.hid (And.intro (hsa.below hE2) (hsb.below hE2))
      have HB2 := Lib.hid (Ext.trans' HB1.out (Ext.trans' hb2 hE2))
      have HW2 := Lib.hid (Ext.trans' HB0.out HB2.out)
      have HR2 := Lib.hid (refRational_any (.slice a3 bs.length c3) bs i W2 (HV.out.below HW2.out) (by omega))
      rw [HQA.out] at HR2
      have HGW := Lib.hid (And.intro hg1 hW2)
      clear hsa hsb hb2 hE2 HR hg1 hW2
      go_wp2_with fail
      rw [HGW.out.2]
      refine HR2.out.mono ?_
      rintro e w3 ⟨y, rfl, ⟨sa, sb, rfl, hsa, hsb, -, -⟩, hb3⟩
      obtain ⟨x3, d3, rfl⟩ := hsa.shape
      obtain ⟨x4, d4, rfl⟩ := hsb.shape
      rw [← HGW.out.1]
      obtain ⟨g2, hg2⟩ : ∃ g, g = w3.heap.size := ⟨_, rfl⟩
      have HX2 := Lib.hid (And.intro hsa hsb)
      have HB3 := Lib.hid hb3
      have HG2 := Lib.hid hg2
      clear hsa hsb hb3 HR2 hg2 HGW
      go_wp2_with fail
      rw [← HG2.out]
      generalize hW3 : w3.alloc (.cells #[.bool c, .slice x3 (Na.digs a).length d3, .bool false, .slice x4 (Na.digs b).length d4] 51) = W
      have hE3 : Ext w3 W := by rw [← hW3]; exact below_alloc _ _
      have HK2 : Hid (∀ w', Ext W w' → w'.cell? ⟨g2, 0, none⟩ = some (.bool c) ∧ w'.cell? ⟨g2, 1, none⟩ = some (.slice x3 (Na.digs a).length d3) ∧ w'.cell? ⟨g2, 2, none⟩ = some (.bool false) ∧ w'.cell? ⟨g2, 3, none⟩ = some (.slice x4 (Na.digs b).length d4)) := by
        intro w' hw'
        rw [← hW3] at hw'
        obtain ⟨k0, k1, k2, k3, -, -⟩ := four_cells hw'
        rw [HG2.out]
        exact ⟨k0, k1, k2, k3⟩
      have HXX := Lib.hid (And.intro (HX2.out.1.below hE3) (HX2.out.2.below hE3))
      have HBW := Lib.hid (Ext.trans' HB3.out hE3)
      have HB0W := Lib.hid (Ext.trans' HB2.out HBW.out)
      have HWW := Lib.hid (Ext.trans' HW2.out HBW.out)
      clear hE3 hW3
      refine Go.Rel.wp_region 23 (by kernel_rfl) (by kernel_rfl) Ext (fun w' => Ext W w')
        [Rel.is (.agg #[.bool n1, .slice a1 l1.length c1, .bool n2, .slice a2 l2.length c2]), fun v w' => IsBytes w' v (putQ (nrm n1 n2 (Na.val l1) (Na.val l2))), Rel.is (.agg #[.bool n1, .slice a1 l1.length c1, .bool n2, .slice a2 l2.length c2]), fun v w' => IsBytes w' v (putQ (nrm n1 n2 (Na.val l1) (Na.val l2))), Rel.is (.bool true), Rel.is (.bool true), Rel.is (.agg #[.bool c, .slice x1 (Na.digs a).length d1, .bool false, .slice x2 (Na.digs b).length d2]), Rel.is (.agg #[.bool c, .slice x3 (Na.digs a).length d3, .bool false, .slice x4 (Na.digs b).length d4]), Rel.is (.bool true), Rel.is (.bool true), Rel.is (.bool true), Rel.is (.int .i64 q), Rel.is (.int .i64 q), Rel.is (.bool true), Rel.is (.bool true), Rel.is (.bool true), Rel.is (.int .i64 er), Rel.is (.int .i64 er), Rel.is (.bool true), Rel.is (.bool true), Rel.is (.bool true), Rel.is (.bool true), Rel.is (.bool true)]
        ?_ ?_ ?_ ⟨?_, ?_, ?_, ?_, ?_, ?_, ?_, ?_, ?_, ?_, ?_, ?_, ?_, ?_, ?_, ?_, ?_, ?_, ?_, ?_, ?_, ?_, ?_, trivial⟩ ?_
      · exact below_drewN (Below.refl _ _) 1
      · exact fun _ _ h k => Ext.trans' h k
      · exact Rel.Monos.mem ⟨Rel.mono_is _, fun _ _ _ h k => k.below h, Rel.mono_is _, fun _ _ _ h k => k.below h, Rel.mono_is _, Rel.mono_is _, Rel.mono_is _, Rel.mono_is _, Rel.mono_is _, Rel.mono_is _, Rel.mono_is _, Rel.mono_is _, Rel.mono_is _, Rel.mono_is _, Rel.mono_is _, Rel.mono_is _, Rel.mono_is _, Rel.mono_is _, Rel.mono_is _, Rel.mono_is _, Rel.mono_is _, Rel.mono_is _, Rel.mono_is _, trivial⟩
      · intro ρ w' hs ho hC hd
        have h2 : ρ (.tmp 3) = .pointer (some ⟨w.heap.size, 0, none⟩) := ho 3 rfl
        obtain ⟨k0, k1, k2, k3⟩ := hK0.out w' (Ext.trans' HB0W.out hC)
        simp [go_sem, h2, k0, k1, k2, k3]
        exact ⟨Ext.rfl', rfl⟩
      · intro ρ w' hs ho hC hd
        have h36 : ρ (.tmp 36) = .agg #[.bool n1, .slice a1 l1.length c1, .bool n2, .slice a2 l2.length c2] := by first | exact hd.1 rfl | exact hd.2.1 rfl | exact hd.2.2.1 rfl | exact hd.2.2.2.1 rfl | exact hd.2.2.2.2.1 rfl
        simp [go_sem, h36, hs.func]
        have hP := putRational_any n1 n2 _ _ l1 l2 w' (H.out.1.below (Ext.trans' HWW.out hC)) (H.out.2.below (Ext.trans' HWW.out hC)) (by omega) (by omega)
        refine hP.mono ?_
        rintro e w'' ⟨v', rfl, hv, hb⟩
        exact ⟨_, rfl, hb, ownsRow_row hv⟩
      · intro ρ w' hs ho hC hd
        have h2 : ρ (.tmp 3) = .pointer (some ⟨w.heap.size, 0, none⟩) := ho 3 rfl
        obtain ⟨k0, k1, k2, k3⟩ := hK0.out w' (Ext.trans' HB0W.out hC)
        simp [go_sem, h2, k0, k1, k2, k3]
        exact ⟨Ext.rfl', rfl⟩
      · intro ρ w' hs ho hC hd
        have h38 : ρ (.tmp 38) = .agg #[.bool n1, .slice a1 l1.length c1, .bool n2, .slice a2 l2.length c2] := by first | exact hd.1 rfl | exact hd.2.1 rfl | exact hd.2.2.1 rfl | exact hd.2.2.2.1 rfl | exact hd.2.2.2.2.1 rfl
        simp [go_sem, h38, hs.func]
        have hP := refPutRational_any n1 n2 _ _ l1 l2 w' (H.out.1.below (Ext.trans' HWW.out hC)) (H.out.2.below (Ext.trans' HWW.out hC)) (by omega) (by omega)
        refine hP.mono ?_
        rintro e w'' ⟨v', rfl, hv, hb⟩
        exact ⟨_, rfl, hb, ownsRow_row hv⟩
      · intro ρ w' hs ho hC hd
        have h1 : IsBytes w' (ρ (.tmp 37)) (putQ (nrm n1 n2 (Na.val l1) (Na.val l2))) := by first | exact hd.1 rfl | exact hd.2.1 rfl
        have h2 : IsBytes w' (ρ (.tmp 39)) (putQ (nrm n1 n2 (Na.val l1) (Na.val l2))) := by first | exact hd.1 rfl | exact hd.2.1 rfl
        simp [go_sem, hs.func]
        have hSm := same06 _ _ _ _ w' h1 h2
        rw [beq_self_eq_true] at hSm
        refine hSm.mono ?_
        rintro e w'' ⟨rfl, hb⟩
        exact ⟨_, rfl, hb, rfl⟩
      · intro ρ w' hs ho hC hd
        have h40 : ρ (.tmp 40) = .bool true := by first | exact hd.1 rfl | exact hd.2.1 rfl | exact hd.2.2.1 rfl | exact hd.2.2.2.1 rfl | exact hd.2.2.2.2.1 rfl
        simp [go_sem, h40]
        exact ⟨Ext.rfl', rfl⟩
      · intro ρ w' hs ho hC hd
        refine ⟨fun _ => ?_, fun hn => absurd (by first | exact hd.1 rfl | exact hd.2.1 rfl | exact hd.2.2.1 rfl | exact hd.2.2.2.1 rfl | exact hd.2.2.2.2.1 rfl) hn⟩
        have h2 : ρ (.tmp 7) = .pointer (some ⟨g1, 0, none⟩) := ho 7 rfl
        obtain ⟨k0, k1, k2, k3⟩ := HK1.out w' (Ext.trans' HBW.out hC)
        simp [go_sem, h2, k0, k1, k2, k3]
        exact ⟨Ext.rfl', rfl⟩
      · intro ρ w' hs ho hC hd
        refine ⟨fun _ => ?_, fun hn => absurd (by first | exact hd.1 rfl | exact hd.2.1 rfl | exact hd.2.2.1 rfl | exact hd.2.2.2.1 rfl | exact hd.2.2.2.2.1 rfl) hn⟩
        have h2 : ρ (.tmp 10) = .pointer (some ⟨g2, 0, none⟩) := ho 10 rfl
        obtain ⟨k0, k1, k2, k3⟩ := HK2.out w' (hC)
        simp [go_sem, h2, k0, k1, k2, k3]
        exact ⟨Ext.rfl', rfl⟩
      · intro ρ w' hs ho hC hd
        refine ⟨fun _ => ?_, fun hn => absurd (by first | exact hd.1 rfl | exact hd.2.1 rfl | exact hd.2.2.1 rfl | exact hd.2.2.2.1 rfl | exact hd.2.2.2.2.1 rfl) hn⟩
        have h42 : ρ (.tmp 42) = .agg #[.bool c, .slice x1 (Na.digs a).length d1, .bool false, .slice x2 (Na.digs b).length d2] := by first | exact hd.1 rfl | exact hd.2.1 rfl | exact hd.2.2.1 rfl | exact hd.2.2.2.1 rfl | exact hd.2.2.2.2.1 rfl
        have h43 : ρ (.tmp 43) = .agg #[.bool c, .slice x3 (Na.digs a).length d3, .bool false, .slice x4 (Na.digs b).length d4] := by first | exact hd.1 rfl | exact hd.2.1 rfl | exact hd.2.2.1 rfl | exact hd.2.2.2.1 rfl | exact hd.2.2.2.2.1 rfl
        simp [go_sem, h42, h43, hs.func]
        have hSm := refSame_eq c false _ _ _ _ _ _ w' (HX1.out.1.below (Ext.trans' HBW.out hC)) (HX1.out.2.below (Ext.trans' HBW.out hC)) (HXX.out.1.below hC) (HXX.out.2.below hC)
        refine hSm.mono ?_
        rintro e w'' ⟨rfl, hb⟩
        exact ⟨_, rfl, hb, rfl⟩
      · intro ρ w' hs ho hC hd
        have h41 : ρ (.tmp 41) = .bool true := by first | exact hd.1 rfl | exact hd.2.1 rfl | exact hd.2.2.1 rfl | exact hd.2.2.2.1 rfl | exact hd.2.2.2.2.1 rfl
        have h44 : ρ (.tmp 44) = .bool true := by first | exact hd.1 rfl | exact hd.2.1 rfl | exact hd.2.2.1 rfl | exact hd.2.2.2.1 rfl | exact hd.2.2.2.2.1 rfl
        simp [go_sem, h41, h44, hs.const]
        exact ⟨Ext.rfl', rfl⟩
      · intro ρ w' hs ho hC hd
        have h45 : ρ (.tmp 45) = .bool true := by first | exact hd.1 rfl | exact hd.2.1 rfl | exact hd.2.2.1 rfl | exact hd.2.2.2.1 rfl | exact hd.2.2.2.2.1 rfl
        simp [go_sem, h45]
        exact ⟨Ext.rfl', rfl⟩
      · intro ρ w' hs ho hC hd
        refine ⟨fun _ => ?_, fun hn => absurd (by first | exact hd.1 rfl | exact hd.2.1 rfl | exact hd.2.2.1 rfl | exact hd.2.2.2.1 rfl | exact hd.2.2.2.2.1 rfl) hn⟩
        have h2 : ρ (.tmp 8) = .int .i64 q := ho 8 rfl
        simp [go_sem, h2]
        exact ⟨Ext.rfl', rfl⟩
      · intro ρ w' hs ho hC hd
        refine ⟨fun _ => ?_, fun hn => absurd (by first | exact hd.1 rfl | exact hd.2.1 rfl | exact hd.2.2.1 rfl | exact hd.2.2.2.1 rfl | exact hd.2.2.2.2.1 rfl) hn⟩
        have h2 : ρ (.tmp 11) = .int .i64 q := ho 11 rfl
        simp [go_sem, h2]
        exact ⟨Ext.rfl', rfl⟩
      · intro ρ w' hs ho hC hd
        refine ⟨fun _ => ?_, fun hn => absurd (by first | exact hd.1 rfl | exact hd.2.1 rfl | exact hd.2.2.1 rfl | exact hd.2.2.2.1 rfl | exact hd.2.2.2.2.1 rfl) hn⟩
        have h47 : ρ (.tmp 47) = .int .i64 q := by first | exact hd.1 rfl | exact hd.2.1 rfl | exact hd.2.2.1 rfl | exact hd.2.2.2.1 rfl | exact hd.2.2.2.2.1 rfl
        have h48 : ρ (.tmp 48) = .int .i64 q := by first | exact hd.1 rfl | exact hd.2.1 rfl | exact hd.2.2.1 rfl | exact hd.2.2.2.1 rfl | exact hd.2.2.2.2.1 rfl
        simp [go_sem, h47, h48]
        exact ⟨Ext.rfl', rfl⟩
      · intro ρ w' hs ho hC hd
        have h46 : ρ (.tmp 46) = .bool true := by first | exact hd.1 rfl | exact hd.2.1 rfl | exact hd.2.2.1 rfl | exact hd.2.2.2.1 rfl | exact hd.2.2.2.2.1 rfl
        have h49 : ρ (.tmp 49) = .bool true := by first | exact hd.1 rfl | exact hd.2.1 rfl | exact hd.2.2.1 rfl | exact hd.2.2.2.1 rfl | exact hd.2.2.2.2.1 rfl
        simp [go_sem, h46, h49, hs.const]
        exact ⟨Ext.rfl', rfl⟩
      · intro ρ w' hs ho hC hd
        have h50 : ρ (.tmp 50) = .bool true := by first | exact hd.1 rfl | exact hd.2.1 rfl | exact hd.2.2.1 rfl | exact hd.2.2.2.1 rfl | exact hd.2.2.2.2.1 rfl
        simp [go_sem, h50]
        exact ⟨Ext.rfl', rfl⟩
      · intro ρ w' hs ho hC hd
        refine ⟨fun _ => ?_, fun hn => absurd (by first | exact hd.1 rfl | exact hd.2.1 rfl | exact hd.2.2.1 rfl | exact hd.2.2.2.1 rfl | exact hd.2.2.2.2.1 rfl) hn⟩
        have h2 : ρ (.tmp 9) = .int .i64 er := ho 9 rfl
        simp [go_sem, h2]
        exact ⟨Ext.rfl', rfl⟩
      · intro ρ w' hs ho hC hd
        refine ⟨fun _ => ?_, fun hn => absurd (by first | exact hd.1 rfl | exact hd.2.1 rfl | exact hd.2.2.1 rfl | exact hd.2.2.2.1 rfl | exact hd.2.2.2.2.1 rfl) hn⟩
        have h2 : ρ (.tmp 12) = .int .i64 er := ho 12 rfl
        simp [go_sem, h2]
        exact ⟨Ext.rfl', rfl⟩
      · intro ρ w' hs ho hC hd
        refine ⟨fun _ => ?_, fun hn => absurd (by first | exact hd.1 rfl | exact hd.2.1 rfl | exact hd.2.2.1 rfl | exact hd.2.2.2.1 rfl | exact hd.2.2.2.2.1 rfl) hn⟩
        have h52 : ρ (.tmp 52) = .int .i64 er := by first | exact hd.1 rfl | exact hd.2.1 rfl | exact hd.2.2.1 rfl | exact hd.2.2.2.1 rfl | exact hd.2.2.2.2.1 rfl
        have h53 : ρ (.tmp 53) = .int .i64 er := by first | exact hd.1 rfl | exact hd.2.1 rfl | exact hd.2.2.1 rfl | exact hd.2.2.2.1 rfl | exact hd.2.2.2.2.1 rfl
        simp [go_sem, h52, h53]
        exact ⟨Ext.rfl', rfl⟩
      · intro ρ w' hs ho hC hd
        have h51 : ρ (.tmp 51) = .bool true := by first | exact hd.1 rfl | exact hd.2.1 rfl | exact hd.2.2.1 rfl | exact hd.2.2.2.1 rfl | exact hd.2.2.2.2.1 rfl
        have h54 : ρ (.tmp 54) = .bool true := by first | exact hd.1 rfl | exact hd.2.1 rfl | exact hd.2.2.1 rfl | exact hd.2.2.2.1 rfl | exact hd.2.2.2.2.1 rfl
        simp [go_sem, h51, h54, hs.const]
        exact ⟨Ext.rfl', rfl⟩
      · intro ρ w' hs ho hC hd
        have h55 : ρ (.tmp 55) = .bool true := by first | exact hd.1 rfl | exact hd.2.1 rfl | exact hd.2.2.1 rfl | exact hd.2.2.2.1 rfl | exact hd.2.2.2.2.1 rfl
        simp [go_sem, h55]
        exact ⟨Ext.rfl', rfl⟩
      · intro ρ w' hs ho hC hd
        refine ⟨fun _ => ?_, fun hn => absurd (by first | exact hd.1 rfl | exact hd.2.1 rfl | exact hd.2.2.1 rfl | exact hd.2.2.2.1 rfl | exact hd.2.2.2.2.1 rfl) hn⟩
        simp [go_sem, hs.func]
        refine (example_any w').mono ?_
        rintro e w'' ⟨rfl, hb⟩
        exact ⟨_, rfl, hb, rfl⟩
      · intro ρ w' hs ho hC hd
        have h56 : ρ (.tmp 56) = .bool true := by first | exact hd.1 rfl | exact hd.2.1 rfl | exact hd.2.2.1 rfl | exact hd.2.2.2.1 rfl | exact hd.2.2.2.2.1 rfl
        have h57 : ρ (.tmp 57) = .bool true := by first | exact hd.1 rfl | exact hd.2.1 rfl | exact hd.2.2.1 rfl | exact hd.2.2.2.1 rfl | exact hd.2.2.2.2.1 rfl
        simp [go_sem, h56, h57, hs.const]
        exact ⟨Ext.rfl', rfl⟩
      · intro w' hC
        rintro _ rfl v1 h1 _ rfl v3 h3 _ rfl _ rfl _ rfl _ rfl _ rfl _ rfl _ rfl _ rfl _ rfl _ rfl _ rfl _ rfl _ rfl _ rfl _ rfl _ rfl _ rfl _ rfl _ rfl
        change wpList _ _ _ (List.drop 23 _) _ _
        simp only [List.drop_succ_cons, List.drop_zero]
        have HE := Lib.hid (Ext.trans' HWW.out hC)
        clear h1 h3 hC
        simp only [Go.Act.put, List.setIfInBounds_toArray, List.set_cons_succ, List.set_cons_zero]
        go_wp2_with fail
        go_ret
        exact ⟨rfl, HE.out⟩
end Go.Proofs.YtnenbmbgmmeiaaaDoor
