/- Walks of chapter 06: Varint of both. -/
import Derived.Test.YtnenbmbgmmeiaaaDoorEncWalk9
import Derived.Laws.DeepNot64
import Derived.Lib.Zigzag
namespace Go.Proofs.YtnenbmbgmmeiaaaDoor
open Go.RowKit En
variable {α : Type}
theorem uat_bd (l : List UInt8) (i : Int) : (uat l i).1 < 18446744073709551616 := by
  unfold uat
  split
  · simp
  · split
    · rename_i h; exact (usc_ok9 h).1
    · simp
abbrev vtup (r : Int × Nat × Nat) : Value := .tuple #[.int .i64 r.1, .int .i64 (r.2.1 : Int), .int .i64 (r.2.2 : Int)]
theorem uat_fail {l : List UInt8} {i : Int} (h : (uat l i).2.2 ≠ 0) : (uat l i).1 = 0 ∧ (uat l i).2.1 = 0 := by
  unfold uat at h ⊢
  split
  · simp
  · split
    · rename_i h1 _ n k h2; simp only [h2] at h; rw [if_neg h1] at h; simp at h
    · simp
set_option maxRecDepth 100000 in
set_option maxHeartbeats 800000 in
theorem refVarint_any (v : Value) (l : List UInt8) (i : Int) (w : World) (hv : IsBytes w v l) :
    Calls Tryd.prog 20 #[v, .int .i64 i] w fun e w' => e = .returned (vtup (vat l i)) ∧ w = w' := by
  have HC := Lib.hid (refUvarint_any v l i w hv)
  have hb := uat_bd l i
  have hf := @uat_fail l i
  unfold vat
  generalize uat l i = r at *
  obtain ⟨n, next, er⟩ := r
  simp only at hb hf
  have HF := Lib.hid hf
  clear hf hv
  go_enter Tryd.func20, Tryd.ntmps20
  rcases Nat.eq_zero_or_pos er with he | he
  · subst he
    rcases Nat.mod_two_eq_zero_or_one n with hn | hn
    · have hn' : ((n : Int) % 2 == 1) = false := by rw [beq_eq_false_iff_ne]; omega
      have hu : Hid (unzig n = (n : Int) / 2) := by show _ = _; unfold unzig; rw [if_neg (by omega)]; omega
      have HN := Lib.hid hn
      clear hn
      go_wp2_with fail
      refine HC.out.mono ?_
      rintro e w' ⟨rfl, rfl⟩
      go_wp2_with fail
      go_ret3
      exact ⟨by rw [hu.out]; rfl, rfl⟩
    · have hn' : ((n : Int) % 2 == 1) = true := by rw [beq_iff_eq]; omega
      have hu : Hid (unzig n = -1 - (n : Int) / 2) := by show _ = _; unfold unzig; rw [if_pos hn]; omega
      have HN := Lib.hid hn
      clear hn
      go_wp2_with fail
      refine HC.out.mono ?_
      rintro e w' ⟨rfl, rfl⟩
      go_wp2_with fail
      go_ret3
      exact ⟨by rw [hu.out]; rfl, rfl⟩
  · have he' : ((er : Int) != 0) = true := by rw [bne_iff_ne]; omega
    obtain ⟨h1, h2⟩ := HF.out (by omega)
    subst h1 h2
    go_wp2_with fail
    refine HC.out.mono ?_
    rintro e w' ⟨rfl, rfl⟩
    go_wp2_with fail
    go_ret3
    exact ⟨rfl, rfl⟩
theorem bits_xor_comm (k : IntKind) (x y : Int) : bits .xor k x y = bits .xor k y x := by
  show k.wrap ((BitVec.ofInt k.bits x ^^^ BitVec.ofInt k.bits y).toNat : Int) = k.wrap ((BitVec.ofInt k.bits y ^^^ BitVec.ofInt k.bits x).toNat : Int)
  rw [BitVec.xor_comm]
theorem i64_xor0 (a : Nat) (ha : a < 9223372036854775808) : bits .xor .i64 (a : Int) 0 = (a : Int) := by
  show IntKind.i64.wrap ((BitVec.ofInt 64 (a : Int) ^^^ BitVec.ofInt 64 0).toNat : Int) = _
  have h1 : BitVec.ofInt 64 0 = 0#64 := by decide
  rw [h1, BitVec.xor_zero, ofInt_u64 a (by omega)]
  simp [IntKind.wrap, IntKind.bits, IntKind.signed]
  omega
theorem unzig_bits (n : Nat) (h : n < 18446744073709551616) : bits BinOp.xor IntKind.i64 ((n : Int) / 2) (wrap64 (-wrap64 (bits BinOp.and IntKind.u64 (n : Int) 1))) = unzig n := by
  rw [Lib.u64_and1 _ (by omega) (by omega)]
  unfold unzig
  have e : (n : Int) / 2 = ((n / 2 : Nat) : Int) := rfl
  rcases Nat.mod_two_eq_zero_or_one n with h2 | h2
  · have e1 : (n : Int) % 2 = 0 := by omega
    have e2 : wrap64 (-wrap64 0) = 0 := by simp [wrap64]
    rw [e1, e2, e, i64_xor0 _ (by omega), if_neg (by omega)]
  · have e1 : (n : Int) % 2 = 1 := by omega
    have e2 : wrap64 (-wrap64 1) = -1 := by simp [wrap64]
    rw [e1, e2, e, bits_xor_comm, i64_not _ (by omega), if_pos h2]
theorem varint_any (v : Value) (l : List UInt8) (i : Int) (w : World) (hv : IsBytes w v l) :
    Calls Tryd.prog 19 #[v, .int .i64 i] w fun e w' => e = .returned (vtup (vat l i)) ∧ Ext w w' := by
  have HC := Lib.hid (uvarint_any v l i w hv)
  have hn := uat_bd l i
  unfold vat
  generalize uat l i = r at *
  obtain ⟨n, next, er⟩ := r
  simp only at hn
  clear hv
  go_enter Tryd.func19, Tryd.ntmps19
  go_wp2_with fail
  refine HC.out.mono ?_
  rintro e w' ⟨rfl, hb⟩
  go_wp2_with fail
  go_ret3
  exact ⟨by rw [unzig_bits _ hn]; rfl, hb⟩
end Go.Proofs.YtnenbmbgmmeiaaaDoor
