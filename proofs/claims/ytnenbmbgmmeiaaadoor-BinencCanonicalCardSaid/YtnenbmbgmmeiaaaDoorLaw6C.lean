/- The law on Ints, walked. -/
import Derived.Test.YtnenbmbgmmeiaaaDoorEncW3
namespace Go.Proofs.YtnenbmbgmmeiaaaDoor
open Go.RowKit En
variable {α : Type}
set_option linter.unusedVariables false

set_option maxRecDepth 100000 in
set_option maxHeartbeats 1600000 in
theorem lawInts (v1 : Value) (l1 : List Int) (v2 : Value) (l2 : List UInt8) (x : Int × Int) (w : World) (h1 : IsInts w v1 l1) (h2 : IsBytes w v2 l2) (hx : IsAsk x) :
    Calls Tryd.prog 6 #[v1, v2, .agg #[.int .i64 x.1, .int .i64 x.2]] w fun e w' => e = .returned (.bool true) ∧ Ext w w' := by
  obtain ⟨i, most⟩ := x
  obtain ⟨⟨hi1, hi2⟩, ⟨hm1, hm2⟩⟩ := hx
  simp only at hi1 hi2 hm1 hm2
  have hb0 := below_alloc w (.cells #[.int .i64 i, .int .i64 most] 36)
  obtain ⟨a1, c1, rfl⟩ := h1.1.shape
  obtain ⟨a2, c2, rfl⟩ := h2.shape
  have hl1 := h1.1.len
  have hl2 := h2.len
  unfold maxLen at hl1 hl2
  have HG := Lib.hid (And.intro h1 (And.intro h2 hb0))
  obtain ⟨⟨sb, nx, er⟩, hbat⟩ : ∃ r, iat l2 i most = r := ⟨_, rfl⟩
  have HBAT := Lib.hid hbat
  clear hbat hb0 h1 h2
  by_cases hbig : 300 < l1.length ∨ 2000 < l2.length
  · have HE := Lib.hid (example_any (w.alloc (.cells #[.int .i64 i, .int .i64 most] 36)))
    have hcase : Hid ((300 : Int) < l1.length ∨ ¬ (300 : Int) < l1.length ∧ (2000 : Int) < l2.length) := by
      show _ ∨ _
      by_cases h : 300 < l1.length
      · left; omega
      · right; omega
    clear hbig
    rcases hcase.out with h | ⟨h, h'⟩
    all_goals
      go_enter Tryd.func6, Tryd.ntmps6
      go_wp2_with fail
      refine HE.out.mono ?_
      rintro e w5 ⟨rfl, hb⟩
      have HB5 := Lib.hid (Ext.trans' HG.out.2.2 hb)
      clear HE hb
      go_wp2_with fail
      go_ret
      exact ⟨rfl, HB5.out⟩
  · have k1 : ¬ (300 : Int) < l1.length := by omega
    have k2 : ¬ (2000 : Int) < l2.length := by omega
    clear hbig
    have HB := Lib.hid (intsAt_any (.slice a2 l2.length c2) l2 i most (w.alloc (.cells #[.int .i64 i, .int .i64 most] 36)) (HG.out.2.1.below HG.out.2.2) (by omega) hm2)
    rw [HBAT.out] at HB
    go_enter Tryd.func6, Tryd.ntmps6
    go_wp2_with fail
    refine HB.out.mono ?_
    rintro e w2 ⟨t, rfl, ht, hb2⟩
    obtain ⟨q0, -, -⟩ := newBlock hb2
    have HB2 := Lib.hid (Ext.trans' HG.out.2.2 hb2)
    have HRB := Lib.hid (refInts_any (.slice a2 l2.length c2) l2 i most w2 (HG.out.2.1.below HB2.out) (by omega) hm2)
    rw [HBAT.out] at HRB
    have HT := Lib.hid ht
    clear HB ht hb2
    go_wp2_with fail
    refine HRB.out.mono ?_
    rintro e w3 ⟨u, rfl, hu, hb3⟩
    have hb23 := Ext.trans' HB2.out hb3
    have HP := Lib.hid (putInts_any (.slice a1 l1.length c1) l1 w3 ⟨HG.out.1.1.below hb23, HG.out.1.2⟩ (by omega))
    have HU := Lib.hid (ownsRow_row hu)
    have HT3 := Lib.hid ((ownsRow_row HT.out).below hb3)
    have HB3 := Lib.hid hb23
    clear HRB hu hb3 q0 HT HB2 hb23
    go_wp2_with fail
    refine HP.out.mono ?_
    rintro e w4 ⟨p, rfl, hp, hb4⟩
    have HP4 := Lib.hid (ownsRow_row hp)
    have HB4 := Lib.hid (Ext.trans' HB3.out hb4)
    have HQP := Lib.hid (refPutInts_any (.slice a1 l1.length c1) l1 w4 ⟨HG.out.1.1.below HB4.out, HG.out.1.2⟩ (by omega))
    have HX4 := Lib.hid hb4
    clear HP hp hb4
    go_wp2_with fail
    refine HQP.out.mono ?_
    rintro e w5 ⟨q, rfl, hq, hb5⟩
    have HS := Lib.hid (same06 p q _ _ w5 (HP4.out.below hb5) (ownsRow_row hq))
    rw [beq_self_eq_true] at HS
    have HX5 := Lib.hid (Ext.trans' HX4.out hb5)
    clear HQP hq hb5
    go_wp2_with fail
    refine HS.out.mono ?_
    rintro e w6 ⟨rfl, hb6⟩
    have h36 := Ext.trans' HX5.out hb6
    have HS2 := Lib.hid (sameInts06 t u _ _ w6 (HT3.out.below h36) (HU.out.below h36))
    rw [beq_self_eq_true] at HS2
    have HB6 := Lib.hid (Ext.trans' HB3.out h36)
    clear HS hb6 h36 HX4 HX5 HP4
    go_wp2_with fail
    refine HS2.out.mono ?_
    rintro e w7 ⟨rfl, hb7⟩
    have HB7 := Lib.hid (Ext.trans' HB6.out hb7)
    have HE := Lib.hid (example_any w7)
    clear HS2 hb7 HB6 HU
    go_wp2_with fail
    refine HE.out.mono ?_
    rintro e w9 ⟨rfl, hb9⟩
    have HB10 := Lib.hid (Ext.trans' HB7.out hb9)
    clear HE hb9
    go_wp2_with fail
    go_ret
    exact ⟨rfl, HB10.out⟩
end Go.Proofs.YtnenbmbgmmeiaaaDoor
