/- Walks of binenc: PutVarint and the reference's. -/
import Derived.Test.YtnenbmbgmmeiaaaDoorEncWalk2
import Derived.Test.YtnenbmbgmmeiaaaDoorBits
namespace Go.Proofs.YtnenbmbgmmeiaaaDoor
open Go.RowKit En
variable {α : Type}

set_option maxRecDepth 100000 in
set_option maxHeartbeats 800000 in
theorem refPutVarint_any (x : Int) (w : World) (h : -9223372036854775808 ≤ x) (h2 : x ≤ 9223372036854775807) :
    Calls Tryd.prog 22 #[.int .i64 x] w fun e w' => ∃ v', e = .returned v' ∧ w'.ownsRow w.heap.size 5 1 v' (uvar 10 (zig x)).length ((uvar 10 (zig x)).map u8v) ∧ Ext w w' := by
  have HC := Lib.hid (refPutUvarint_any (zig x) w (zig_lt h h2))
  go_enter Tryd.func22, Tryd.ntmps22
  by_cases hx : x < 0
  · have hz : ((zig x : Nat) : Int) = -2 * x - 1 := by unfold zig; rw [if_pos hx]; omega
    go_wp2_with fail
    rw [show (-1 - x) * 2 + 1 = ((zig x : Nat) : Int) by omega]
    refine HC.out.mono ?_
    rintro e w' ⟨v', rfl, ho, hb⟩
    go_wp2_with fail
    go_ret
    exact ⟨_, rfl, ho, hb⟩
  · have hz : ((zig x : Nat) : Int) = 2 * x := by unfold zig; rw [if_neg hx]; omega
    go_wp2_with fail
    rw [show x * 2 = ((zig x : Nat) : Int) by omega]
    refine HC.out.mono ?_
    rintro e w' ⟨v', rfl, ho, hb⟩
    go_wp2_with fail
    go_ret
    exact ⟨_, rfl, ho, hb⟩
theorem xor_ones (a : Nat) (ha : a < 18446744073709551616) : bits .xor .u64 (a : Int) 18446744073709551615 = ((18446744073709551615 - a : Nat) : Int) := by
  have h1 := bx64 (UInt64.ofNat a) (-1)
  have e1 : (UInt64.ofNat a).toNat = a := by simp; omega
  have e2 : (((-1 : UInt64).toNat : Nat) : Int) = 18446744073709551615 := by decide
  rw [e1, e2, UInt64.xor_neg_one, UInt64.toNat_not, e1] at h1
  rw [h1]; rfl
theorem zig_bits (x : Int) (h : -9223372036854775808 ≤ x) (h2 : x ≤ 9223372036854775807) :
    bits BinOp.xor IntKind.u64 (IntKind.u64.wrap (IntKind.u64.wrap x * 2)) (IntKind.u64.wrap (x / 9223372036854775808)) = ((zig x : Nat) : Int) := by
  rw [IntKind.wrap_u64, IntKind.wrap_u64, IntKind.wrap_u64]
  unfold zig
  split
  · rw [show x / 9223372036854775808 % 18446744073709551616 = 18446744073709551615 by omega]
    rw [show x % 18446744073709551616 * 2 % 18446744073709551616 = (((2 * x + 18446744073709551616).toNat : Nat) : Int) by omega, xor_ones _ (by omega)]
    omega
  · rw [show x / 9223372036854775808 % 18446744073709551616 = ((0 : Nat) : Int) by omega]
    rw [show x % 18446744073709551616 * 2 % 18446744073709551616 = (((2 * x).toNat : Nat) : Int) by omega, u64_xor_nat _ _ (by omega) (by omega), Nat.xor_zero]
theorem putVarint_any (x : Int) (w : World) (h : -9223372036854775808 ≤ x) (h2 : x ≤ 9223372036854775807) :
    Calls Tryd.prog 21 #[.int .i64 x] w fun e w' => ∃ v', e = .returned v' ∧ w'.ownsRow w.heap.size 5 1 v' (uvar 10 (zig x)).length ((uvar 10 (zig x)).map u8v) ∧ Ext w w' := by
  have HC := Lib.hid (putUvarint_any (zig x) w (zig_lt h h2))
  go_enter Tryd.func21, Tryd.ntmps21
  go_wp2_with fail
  rw [zig_bits x h h2]
  refine HC.out.mono ?_
  rintro e w' ⟨v', rfl, ho, hb⟩
  go_wp2_with fail
  go_ret
  exact ⟨_, rfl, ho, hb⟩
end Go.Proofs.YtnenbmbgmmeiaaaDoor
