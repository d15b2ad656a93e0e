/- The walks of the laws ChecksumAppendVerify and ChecksumRoundTrip. -/
import Derived.Test.YtppkjnfgbofjaaaCrcWalk4
namespace Go.Proofs.Ytppkjnfgbofjaaa
open Go.RowKit
variable {α : Type}

theorem verify_eq_long (l : List UInt8) (m : Nat) (h : l.length = m + 4) : Crc.verify l = if l.drop m = Crc.le4 (Crc.update 0 (l.take m)) then (l.take m, 0) else ([], 19) := by
  have e : l.length - 4 = m := by omega
  unfold Crc.verify
  rw [if_neg (by omega), e]
theorem verify_any (v : Value) (l : List UInt8) (w : World) (hv : IsBytes w v l) (hm : l.length ≤ 100000000) :
    Calls Try.prog 17 #[v] w fun e w' => ∃ v', e = .returned (.tuple #[v', .int .i64 (Crc.verify l).2]) ∧ IsBytes w' v' (Crc.verify l).1 ∧ Below w.heap.size w w' := by
  by_cases h : l.length < 4
  · refine (verify_short v l w hv h).mono ?_
    rintro e w' ⟨rfl, rfl⟩
    have e : Crc.verify l = ([], 4) := by unfold Crc.verify; rw [if_pos h]
    rw [e]
    exact ⟨_, rfl, row_nil _, Below.refl _ _⟩
  · obtain ⟨m, hm'⟩ : ∃ m, l.length = m + 4 := ⟨l.length - 4, by omega⟩
    refine (verify_long v l m w hv hm' (by omega)).mono ?_
    rintro e w' ⟨v', k, rfl, hb, h1, h2⟩
    rw [verify_eq_long l m hm']
    by_cases hd : l.drop m = Crc.le4 (Crc.update 0 (l.take m))
    · obtain ⟨rfl, hr⟩ := h1 hd
      rw [if_pos hd]
      exact ⟨_, rfl, hr, hb⟩
    · obtain ⟨rfl, rfl⟩ := h2 hd
      rw [if_neg hd]
      exact ⟨_, rfl, row_nil _, hb⟩
theorem refVerify_any (v : Value) (l : List UInt8) (w : World) (hv : IsBytes w v l) (hm : l.length ≤ 100000000) :
    Calls Try.prog 18 #[v] w fun e w' => ∃ v', e = .returned (.tuple #[v', .int .i64 (Crc.verify l).2]) ∧ IsBytes w' v' (Crc.verify l).1 ∧ Below w.heap.size w w' := by
  by_cases h : l.length < 4
  · refine (refVerify_short v l w hv h).mono ?_
    rintro e w' ⟨rfl, rfl⟩
    have e : Crc.verify l = ([], 4) := by unfold Crc.verify; rw [if_pos h]
    rw [e]
    exact ⟨_, rfl, row_nil _, Below.refl _ _⟩
  · obtain ⟨m, hm'⟩ : ∃ m, l.length = m + 4 := ⟨l.length - 4, by omega⟩
    refine (refVerify_long v l m w hv hm' (by omega)).mono ?_
    rintro e w' ⟨v', k, rfl, hb, h1, h2⟩
    rw [verify_eq_long l m hm']
    by_cases hd : l.drop m = Crc.le4 (Crc.update 0 (l.take m))
    · obtain ⟨rfl, hr⟩ := h1 hd
      rw [if_pos hd]
      exact ⟨_, rfl, hr, hb⟩
    · obtain ⟨rfl, rfl⟩ := h2 hd
      rw [if_neg hd]
      exact ⟨_, rfl, row_nil _, hb⟩
theorem append_any (v : Value) (l : List UInt8) (w : World) (hv : IsBytes w v l) (hlen : l.length ≤ 100000000) :
    Calls Try.prog 20 #[v] w fun e w' => ∃ v', e = .returned v' ∧ IsBytes w' v' (Crc.app l) ∧ Below w.heap.size w w' := by
  refine (appendCRC32 v l w hv hlen).mono ?_
  rintro e w' ⟨v', rfl, hown, hb⟩
  exact ⟨v', rfl, ownsRow_row hown, hb⟩
theorem refAppend_any (v : Value) (l : List UInt8) (w : World) (hv : IsBytes w v l) (hlen : l.length ≤ 100000000) :
    Calls Try.prog 21 #[v] w fun e w' => ∃ v', e = .returned v' ∧ IsBytes w' v' (Crc.app l) ∧ Below w.heap.size w w' := by
  refine (refAppend v l w hv hlen).mono ?_
  rintro e w' ⟨v', rfl, hown, hb⟩
  exact ⟨v', rfl, ownsRow_row hown, hb⟩
theorem app_len (l : List UInt8) : (Crc.app l).length = l.length + 4 := by simp [Crc.app, Crc.le4]
theorem verify_app (l : List UInt8) : Crc.verify (Crc.app l) = (l, 0) := by
  rw [verify_eq_long _ _ (app_len l)]
  simp [Crc.app]
theorem two_below {a b c : World} (h1 : Below a.heap.size a b) (h2 : Below b.heap.size b c) : Below a.heap.size a c := h1.trans (h2.mono h1.size)

set_option maxHeartbeats 800000 in
theorem appendVerify_walk (v1 : Value) (l : List UInt8) (v2 : Value) (m : List UInt8) (w : World) (h1 : IsBytes w v1 l) (h2 : IsBytes w v2 m) :
    Calls Try.prog 5 #[v1, v2] w fun e w' => e = .returned (.bool true) ∧ Below w.heap.size w w' := by
  obtain ⟨a1, cap1, rfl⟩ : ∃ a cap, v1 = .slice a l.length cap := by obtain ⟨a, cap, h, _⟩ := h1; exact ⟨a, cap, h⟩
  obtain ⟨a2, cap2, rfl⟩ : ∃ a cap, v2 = .slice a m.length cap := by obtain ⟨a, cap, h, _⟩ := h2; exact ⟨a, cap, h⟩
  have hl1 := h1.len
  have hl2 := h2.len
  unfold maxLen at hl1 hl2
  by_cases hl : 5000 < l.length
  · go_enter Try.func5, Try.ntmps5
    go_wp2_with fail
    refine (example_holds _).mono ?_
    rintro e w' ⟨rfl, hb⟩
    go_wp2_with fail
    go_ret
    exact ⟨rfl, hb⟩
  by_cases hm : 5000 < m.length
  · go_enter Try.func5, Try.ntmps5
    go_wp2_with fail
    refine (example_holds _).mono ?_
    rintro e w' ⟨rfl, hb⟩
    go_wp2_with fail
    go_ret
    exact ⟨rfl, hb⟩
  go_enter Try.func5, Try.ntmps5
  go_wp2_with fail
  refine (verify_any _ m _ h2 (by omega)).mono ?_
  rintro e wa ⟨x, rfl, hx, ba⟩
  go_wp2_with fail
  refine (refVerify_any _ m _ (h2.below ba) (by omega)).mono ?_
  rintro e wb ⟨y, rfl, hy, bb⟩
  go_wp2_with fail
  refine (append_any _ l _ ((h1.below ba).below bb) (by omega)).mono ?_
  rintro e wc ⟨u, rfl, hu, bc⟩
  go_wp2_with fail
  refine (refAppend_any _ l _ (((h1.below ba).below bb).below bc) (by omega)).mono ?_
  rintro e wd ⟨t, rfl, ht, bd⟩
  go_wp2_with fail
  refine (same07 _ _ _ _ _ (hu.below bd) ht).mono ?_
  rintro e w' ⟨rfl, rfl⟩
  rw [show (Crc.app l == Crc.app l) = true by simp]
  go_wp2_with fail
  refine (same07 _ _ _ _ _ (((hx.below bb).below bc).below bd) ((hy.below bc).below bd)).mono ?_
  rintro e w' ⟨rfl, rfl⟩
  rw [show ((Crc.verify m).1 == (Crc.verify m).1) = true by simp]
  go_wp2_with fail
  refine (example_holds _).mono ?_
  rintro e w' ⟨rfl, hb⟩
  go_wp2_with fail
  go_ret
  exact ⟨rfl, two_below (two_below (two_below (two_below ba bb) bc) bd) hb⟩
end Go.Proofs.Ytppkjnfgbofjaaa
