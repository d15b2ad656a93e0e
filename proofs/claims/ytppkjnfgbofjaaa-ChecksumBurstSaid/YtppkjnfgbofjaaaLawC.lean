/- The walk of the law ChecksumRoundTrip. -/
import Derived.Test.YtppkjnfgbofjaaaLawB
namespace Go.Proofs.Ytppkjnfgbofjaaa
open Go.RowKit
variable {α : Type}

theorem verify_shape (v : Value) (l : List UInt8) (w : World) (hv : IsBytes w v l) (hm : l.length ≤ 100000000) :
    Calls Try.prog 17 #[v] w fun e w' => ∃ a cap, e = .returned (.tuple #[.slice a (Crc.verify l).1.length cap, .int .i64 (Crc.verify l).2]) ∧
      IsBytes w' (.slice a (Crc.verify l).1.length cap) (Crc.verify l).1 ∧ Below w.heap.size w w' := by
  refine (verify_any v l w hv hm).mono ?_
  rintro e w' ⟨v', rfl, h, hb⟩
  obtain ⟨a, cap, rfl⟩ : ∃ a cap, v' = .slice a (Crc.verify l).1.length cap := by obtain ⟨a, cap, h, _⟩ := h; exact ⟨a, cap, h⟩
  exact ⟨a, cap, rfl, h, hb⟩
theorem verify_cases (m : List UInt8) : (m.length < 4 ∧ Crc.verify m = ([], 4)) ∨ (4 ≤ m.length ∧ ∃ y, Crc.verify m = (y, 0) ∧ Crc.app y = m ∧ y.length ≤ m.length) ∨ (4 ≤ m.length ∧ Crc.verify m = ([], 19)) := by
  unfold Crc.verify
  by_cases h : m.length < 4
  · exact .inl ⟨h, by rw [if_pos h]⟩
  · rw [if_neg h]
    by_cases hd : m.drop (m.length - 4) = Crc.le4 (Crc.update 0 (m.take (m.length - 4)))
    · rw [if_pos hd]
      refine .inr (.inl ⟨by omega, _, rfl, ?_, by simp⟩)
      unfold Crc.app
      rw [← hd, List.take_append_drop]
    · rw [if_neg hd]; exact .inr (.inr ⟨by omega, rfl⟩)

set_option maxHeartbeats 1600000 in
theorem roundTrip_walk (v1 : Value) (l : List UInt8) (v2 : Value) (m : List UInt8) (w : World) (h1 : IsBytes w v1 l) (h2 : IsBytes w v2 m) :
    Calls Try.prog 6 #[v1, v2] w fun e w' => e = .returned (.bool true) ∧ Below w.heap.size w w' := by
  obtain ⟨a1, cap1, rfl⟩ : ∃ a cap, v1 = .slice a l.length cap := by obtain ⟨a, cap, h, _⟩ := h1; exact ⟨a, cap, h⟩
  obtain ⟨a2, cap2, rfl⟩ : ∃ a cap, v2 = .slice a m.length cap := by obtain ⟨a, cap, h, _⟩ := h2; exact ⟨a, cap, h⟩
  have hl1 := h1.len
  have hl2 := h2.len
  unfold maxLen at hl1 hl2
  by_cases hl : 5000 < l.length
  · go_enter Try.func6, Try.ntmps6
    go_wp2_with fail
    refine (example_holds _).mono ?_
    rintro e w' ⟨rfl, hb⟩
    go_wp2_with fail
    go_ret
    exact ⟨rfl, hb⟩
  by_cases hm : 5000 < m.length
  · go_enter Try.func6, Try.ntmps6
    go_wp2_with fail
    refine (example_holds _).mono ?_
    rintro e w' ⟨rfl, hb⟩
    go_wp2_with fail
    go_ret
    exact ⟨rfl, hb⟩
  go_enter Try.func6, Try.ntmps6
  go_wp2_with fail
  refine (append_any _ l _ h1 (by omega)).mono ?_
  rintro e wa ⟨u, rfl, hu, ba⟩
  go_wp2_with fail
  have hv := verify_any u (Crc.app l) wa hu (by rw [app_len]; omega)
  rw [verify_app] at hv
  refine hv.mono ?_
  clear hv
  rintro e wb ⟨x, rfl, hx, bb⟩
  go_wp2_with fail
  have hv := verify_shape _ m wb ((h2.below ba).below bb) (by omega)
  rcases verify_cases m with ⟨hlt, hvm⟩ | ⟨hge, y, hvm, happ, hylen⟩ | ⟨hge, hvm⟩
  · rw [hvm] at hv
    refine hv.mono ?_
    clear hv hvm
    rintro e wc ⟨a, cap, rfl, hy, bc⟩
    go_wp2_with fail
    refine (same07 _ _ _ _ _ (hx.below bc) (((h1.below ba).below bb).below bc)).mono ?_
    rintro e w' ⟨rfl, rfl⟩
    rw [show (((l, (0 : Int)) : List UInt8 × Int).1 == l) = true by simp]
    go_wp2_with fail
    refine (example_holds _).mono ?_
    rintro e w' ⟨rfl, hb⟩
    go_wp2_with fail
    go_ret
    exact ⟨rfl, two_below (two_below (two_below ba bb) bc) hb⟩
  · rw [hvm] at hv
    refine hv.mono ?_
    clear hv hvm
    rintro e wc ⟨a, cap, rfl, hy, bc⟩
    go_wp2_with fail
    refine (same07 _ _ _ _ _ (hx.below bc) (((h1.below ba).below bb).below bc)).mono ?_
    rintro e w' ⟨rfl, rfl⟩
    rw [show (((l, (0 : Int)) : List UInt8 × Int).1 == l) = true by simp]
    have HP := Lib.hid happ
    clear happ
    go_wp2_with fail
    refine (append_any _ y _ hy (by omega)).mono ?_
    rintro e wd ⟨t, rfl, ht, bd⟩
    rw [HP.out] at ht
    go_wp2_with fail
    refine (same07 _ _ _ _ _ ht ((((h2.below ba).below bb).below bc).below bd)).mono ?_
    rintro e w' ⟨rfl, rfl⟩
    rw [show (m == m) = true by simp]
    go_wp2_with fail
    refine (example_holds _).mono ?_
    rintro e w' ⟨rfl, hb⟩
    go_wp2_with fail
    go_ret
    exact ⟨rfl, two_below (two_below (two_below (two_below ba bb) bc) bd) hb⟩
  · rw [hvm] at hv
    refine hv.mono ?_
    clear hv hvm
    rintro e wc ⟨a, cap, rfl, hy, bc⟩
    go_wp2_with fail
    refine (same07 _ _ _ _ _ (hx.below bc) (((h1.below ba).below bb).below bc)).mono ?_
    rintro e w' ⟨rfl, rfl⟩
    rw [show (((l, (0 : Int)) : List UInt8 × Int).1 == l) = true by simp]
    go_wp2_with fail
    refine (example_holds _).mono ?_
    rintro e w' ⟨rfl, hb⟩
    go_wp2_with fail
    go_ret
    exact ⟨rfl, two_below (two_below (two_below ba bb) bc) hb⟩
end Go.Proofs.Ytppkjnfgbofjaaa
