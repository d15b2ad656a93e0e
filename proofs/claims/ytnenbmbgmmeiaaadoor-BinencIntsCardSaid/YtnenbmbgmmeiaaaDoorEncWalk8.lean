/- Walks of binenc: Uvarint, Varint and the references'. -/
import Derived.Test.YtnenbmbgmmeiaaaDoorEncWalk7
namespace Go.Proofs.YtnenbmbgmmeiaaaDoor
open Go.RowKit En
variable {α : Type}
theorem uat_bad {l : List UInt8} {i : Int} (h : i < 0 ∨ (l.length : Int) < i) : uat l i = (0, 0, 2) := by unfold uat; rw [if_pos h]
theorem uat_ok {l : List UInt8} {i n k : Nat} (h : i ≤ l.length) (hu : usc 9 (l.drop i) = .ok (n, k)) : uat l i = (n, i + k, 0) := by
  unfold uat; rw [if_neg (by omega), Int.toNat_natCast, hu]
theorem uat_err {l : List UInt8} {i e : Nat} (h : i ≤ l.length) (hu : usc 9 (l.drop i) = .error e) : uat l i = (0, 0, e) := by
  unfold uat; rw [if_neg (by omega), Int.toNat_natCast, hu]
theorem err_pos {l : List UInt8} {e : Nat} (hu : usc 9 l = .error e) : ((e : Int) != 0) = true := by
  rw [bne_iff_ne]; rcases usc_err _ _ _ hu with h | h <;> omega
abbrev utup (r : Nat × Nat × Nat) : Value := .tuple #[.int .u64 (r.1 : Int), .int .i64 (r.2.1 : Int), .int .i64 (r.2.2 : Int)]

set_option maxRecDepth 100000 in
set_option maxHeartbeats 800000 in
theorem uvarint_any (v : Value) (l : List UInt8) (i : Int) (w : World) (hv : IsBytes w v l) :
    Calls Tryd.prog 13 #[v, .int .i64 i] w fun e w' => e = .returned (utup (uat l i)) ∧ Ext w w' := by
  by_cases hbad : i < 0 ∨ (l.length : Int) < i
  · rw [uat_bad hbad]
    have HF := Lib.hid (from_bad v l i w hv hbad)
    clear hbad
    go_enter Tryd.func13, Tryd.ntmps13
    go_wp2_with fail
    refine HF.out.mono ?_
    rintro e w' ⟨rfl, rfl⟩
    go_wp2_with fail
    go_ret3
    exact ⟨rfl, Below.refl _ _⟩
  · obtain ⟨p, rfl⟩ : ∃ p : Nat, i = p := ⟨i.toNat, by omega⟩
    have hp : p ≤ l.length := by omega
    have HF := Lib.hid (from_rd v l p w hv hp)
    clear hbad
    have hl := hv.len
    unfold maxLen at hl
    cases hu : usc 9 (l.drop p) with
    | error er =>
      rw [uat_err hp hu]
      have he := err_pos hu
      have HU := Lib.hid hu
      clear hu
      go_enter Tryd.func13, Tryd.ntmps13
      go_wp2_with fail
      refine HF.out.mono ?_
      rintro e w1 ⟨b, rfl, hrd, hb1, hb⟩
      have HN := Lib.hid (number_any l b p v w1 hrd)
      rw [HU.out] at HN
      clear hrd HF
      go_wp2_with fail
      refine HN.out.mono ?_
      rintro e w2 ⟨q, hrd, hch, rfl⟩
      have HR := Lib.hid hrd
      have HB := Lib.hid (Below.trans hb1 (hch.below hb hb1.size))
      clear hrd hch hb1 HN
      go_wp2_with fail
      go_ret3
      exact ⟨rfl, HB.out⟩
    | ok r =>
      obtain ⟨n, k⟩ := r
      rw [uat_ok hp hu]
      have HU := Lib.hid hu
      clear hu
      go_enter Tryd.func13, Tryd.ntmps13
      go_wp2_with fail
      refine HF.out.mono ?_
      rintro e w1 ⟨b, rfl, hrd, hb1, hb⟩
      have HN := Lib.hid (number_any l b p v w1 hrd)
      rw [HU.out] at HN
      clear hrd HF
      go_wp2_with fail
      refine HN.out.mono ?_
      rintro e w2 ⟨q, hrd, hch, hq, rfl⟩
      have h1 := hrd.c1
      have HB := Lib.hid (Below.trans hb1 (hch.below hb hb1.size))
      have HQ := Lib.hid hq
      clear hrd hch hb1 HN hq
      go_wp2_with fail
      go_quiet (fail)
      go_wp2_with fail
      go_ret3
      rw [HQ.out]
      exact ⟨rfl, below_drewN HB.out _⟩
end Go.Proofs.YtnenbmbgmmeiaaaDoor
