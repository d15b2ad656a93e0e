/- The walks of chapter 7's functions: each computes what the plain function says. -/
import Derived.Test.YtppkjnfgbofjaaaProg
import Derived.Test.YtppkjnfgbofjaaaBits
import Derived.Test.YtppkjnfgbofjaaaCrcLaw2
namespace Go.Proofs.Ytppkjnfgbofjaaa
open Go.RowKit
variable {α : Type}

theorem reg_snoc (s : UInt32) (l : List UInt8) (c : UInt8) : Crc.reg s (l ++ [c]) = Crc.byte (Crc.reg s l) c := by simp [Crc.reg]
theorem reg_take (s : UInt32) (l : List UInt8) (k : Nat) (h : k < l.length) : Crc.reg s (l.take (k + 1)) = Crc.byte (Crc.reg s (l.take k)) l[k] := by
  rw [take_snoc l k h, reg_snoc]
theorem one_yes (x : UInt32) (h : (bits .and .u32 (x.toNat : Int) 1 == 1) = true) : bits .xor .u32 ((x.toNat : Int) / (2:Int)) 3988292384 = ((Crc.one x).toNat : Int) := by
  rw [half32, bx32k]
  rw [ba32k] at h
  have h' : x &&& 1 = 1 := by
    apply UInt32.toNat_inj.1
    simp only [beq_iff_eq] at h
    have := h; simp only [UInt32.reduceToNat]; omega
  simp [Crc.one, h']
theorem one_no (x : UInt32) (h : (bits .and .u32 (x.toNat : Int) 1 == 1) = false) : ((x.toNat : Int) / (2:Int)) = ((Crc.one x).toNat : Int) := by
  rw [half32]
  rw [ba32k] at h
  have h' : ¬ x &&& 1 = 1 := by
    intro e; rw [e] at h; simp at h
  simp [Crc.one, h']

set_option maxHeartbeats 400000 in
theorem updateCRC32 (s : UInt32) (v : Value) (l : List UInt8) (w : World) (hv : IsBytes w v l) :
    Calls Try.prog 13 #[u32v s, v] w fun e w' => e = .returned (u32v (Crc.update s l)) ∧ w = w' := by
  obtain ⟨a, cap, rfl, hm, ha⟩ := hv
  have hl := row_len hm ha
  have HA := Lib.hid ha
  clear ha
  go_enter Try.func13, Try.ntmps13
  go_wp2
  go_loop [0, 12] (fun s1 i => ∃ k : Nat, k ≤ l.length ∧ i = .int .i64 k ∧ s1 = u32v (Crc.reg (s ^^^ 0xffffffff) (l.take k))) (fun _ i => l.length - (intOf i).toNat)
  case atStart => exact ⟨0, Nat.zero_le _, rfl, by rw [max32, bx32n']; rfl⟩
  case round =>
    obtain ⟨k, hk, rfl, rfl⟩ := hrel
    by_cases hlt : k < l.length
    · rcases HA.out with ⟨rfl, _⟩ | ⟨b, o, rfl, hb, hlc, hc⟩
      · simp at hlt
      have hck := hc k hlt
      go_wp2
      go_loop [0, 20] (fun s1 i => ∃ j : Nat, j ≤ 8 ∧ i = .int .i64 j ∧ s1 = u32v (Crc.many j ((Crc.reg (s ^^^ 0xffffffff) (l.take k)) ^^^ l[k].toUInt32))) (fun _ i => 8 - (intOf i).toNat)
      case atStart => exact ⟨0, Nat.zero_le _, rfl, by rw [up8_32, bx32]; rfl⟩
      case round =>
        obtain ⟨j, hj, rfl, rfl⟩ := hrel
        by_cases hlt : j < 8
        · have E : Hid (Crc.many (j + 1) ((Crc.reg (s ^^^ 0xffffffff) (l.take k)) ^^^ l[k].toUInt32) = Crc.one (Crc.many j ((Crc.reg (s ^^^ 0xffffffff) (l.take k)) ^^^ l[k].toUInt32))) := rfl
          generalize Crc.many j ((Crc.reg (s ^^^ 0xffffffff) (l.take k)) ^^^ l[k].toUInt32) = x at E
          go_wp2
          · go_round
            case rel => exact ⟨j + 1, by omega, by go_num, by rw [E.out, one_yes x ‹_›]⟩
            case measure => simp [intOf]; omega
          · go_round
            case rel => exact ⟨j + 1, by omega, by go_num, by rw [E.out, one_no x ‹_›]⟩
            case measure => simp [intOf]; omega
        · obtain rfl : j = 8 := by omega
          go_wp2
          go_round
          case rel => exact ⟨k + 1, by omega, by go_num, by rw [reg_take _ _ _ ‹_›]; rfl⟩
          case measure => simp [intOf]; omega
    · obtain rfl : k = l.length := by omega
      go_wp2
      go_ret
      exact ⟨ret_int (by rw [max32, bx32n']; simp only [Crc.update]), rfl⟩

theorem crc_snoc (l : List (List UInt8)) (k : Nat) (h : k < l.length) : Crc.crc (l.take (k + 1)) = Crc.update (Crc.crc (l.take k)) l[k] := by
  rw [take_snoc l k h]; simp only [Crc.crc, List.foldl_append, List.foldl_cons, List.foldl_nil]

set_option maxHeartbeats 400000 in
theorem crc32 (v : Value) (l : List (List UInt8)) (w : World) (hv : IsParts w v l) :
    Calls Try.prog 11 #[v] w fun e w' => e = .returned (u32v (Crc.crc l)) ∧ w = w' := by
  obtain ⟨a, cap, rfl, hm, ha⟩ := hv
  have hl := sl_len hm ha
  have HA := Lib.hid ha
  clear ha
  go_enter Try.func11, Try.ntmps11
  go_wp2
  go_loop [3, 8] (fun s1 i => ∃ k : Nat, k ≤ l.length ∧ i = .int .i64 k ∧ s1 = u32v (Crc.crc (l.take k))) (fun _ i => l.length - (intOf i).toNat)
  case atStart => exact ⟨0, Nat.zero_le _, rfl, rfl⟩
  case round =>
    obtain ⟨k, hk, rfl, rfl⟩ := hrel
    by_cases hlt : k < l.length
    · rcases HA.out with ⟨rfl, _⟩ | ⟨b, o, rfl, hb, hlc, hc⟩
      · simp at hlt
      obtain ⟨x, hck, hx⟩ := hc k hlt
      go_wp2_with fail
      refine (updateCRC32 _ x l[k] _ hx).mono ?_
      rintro e w' ⟨rfl, rfl⟩
      go_wp2
      go_round
      case rel => exact ⟨k + 1, by omega, by go_num, by rw [crc_snoc l k ‹_›]⟩
      case measure => simp [intOf]; omega
    · obtain rfl : k = l.length := by omega
      go_wp2
      go_ret
      exact ⟨ret_int (by simp only [List.take_length]), rfl⟩

theorem one_yes' (x : UInt32) (h : ((x.toNat : Int) % 2 == 1) = true) : bits .xor .u32 ((x.toNat : Int) / 2 % 4294967296) 3988292384 = ((Crc.one x).toNat : Int) := by
  have e : ((x.toNat : Int) / 2 % 4294967296) = (x.toNat : Int) / 2 := by have := x.toNat_lt; omega
  rw [e]
  exact one_yes x (by rw [ba32k, and1_32]; exact h)
theorem one_no' (x : UInt32) (h : ((x.toNat : Int) % 2 == 1) = false) : ((x.toNat : Int) / 2 % 4294967296) = ((Crc.one x).toNat : Int) := by
  have e : ((x.toNat : Int) / 2 % 4294967296) = (x.toNat : Int) / 2 := by have := x.toNat_lt; omega
  rw [e]
  exact one_no x (by rw [ba32k, and1_32]; exact h)
theorem fnv_take (l : List UInt8) (k : Nat) (h : k < l.length) : Crc.fnv (l.take (k + 1)) = Crc.fnv1 (Crc.fnv (l.take k)) l[k] := by
  rw [take_snoc l k h]; simp only [Crc.fnv, List.foldl_append, List.foldl_cons, List.foldl_nil]
theorem fnv_step (x : UInt64) (c : UInt8) : IntKind.u64.wrap (bits .xor .u64 (x.toNat : Int) (IntKind.u64.wrap (c.toNat : Int)) * 1099511628211) = ((Crc.fnv1 x c).toNat : Int) := by
  rw [wrap8_64, bx64]
  have := wrapMul64 (x ^^^ c.toUInt64) 1099511628211
  simpa [Crc.fnv1] using this

set_option maxHeartbeats 400000 in
theorem refOne (s : UInt32) (w : World) :
    Calls Try.prog 22 #[u32v s] w fun e w' => e = .returned (u32v (Crc.many 8 s)) ∧ w = w' := by
  go_enter Try.func22, Try.ntmps22
  go_wp2
  go_loop [0, 3] (fun s1 i => ∃ j : Nat, j ≤ 8 ∧ i = .int .i64 j ∧ s1 = u32v (Crc.many j s)) (fun _ i => 8 - (intOf i).toNat)
  case atStart => exact ⟨0, Nat.zero_le _, rfl, rfl⟩
  case round =>
    obtain ⟨j, hj, rfl, rfl⟩ := hrel
    by_cases hlt : j < 8
    · have E : Hid (Crc.many (j + 1) s = Crc.one (Crc.many j s)) := rfl
      generalize Crc.many j s = x at E
      go_wp2
      · go_round
        case rel => exact ⟨j + 1, by omega, by go_num, by rw [E.out, one_yes' x ‹_›]⟩
        case measure => simp [intOf]; omega
      · go_round
        case rel => exact ⟨j + 1, by omega, by go_num, by rw [E.out, one_no' x ‹_›]⟩
        case measure => simp [intOf]; omega
    · obtain rfl : j = 8 := by omega
      go_wp2
      go_ret
      exact ⟨rfl, rfl⟩

set_option maxHeartbeats 400000 in
theorem fnv64 (v : Value) (l : List UInt8) (w : World) (hv : IsBytes w v l) :
    Calls Try.prog 15 #[v] w fun e w' => e = .returned (u64v (Crc.fnv l)) ∧ w = w' := by
  obtain ⟨a, cap, rfl, hm, ha⟩ := hv
  have hl := row_len hm ha
  have HA := Lib.hid ha
  clear ha
  go_enter Try.func15, Try.ntmps15
  go_wp2
  go_loop [3, 8] (fun s1 i => ∃ k : Nat, k ≤ l.length ∧ i = .int .i64 k ∧ s1 = u64v (Crc.fnv (l.take k))) (fun _ i => l.length - (intOf i).toNat)
  case atStart => exact ⟨0, Nat.zero_le _, rfl, rfl⟩
  case round =>
    obtain ⟨k, hk, rfl, rfl⟩ := hrel
    by_cases hlt : k < l.length
    · rcases HA.out with ⟨rfl, _⟩ | ⟨b, o, rfl, hb, hlc, hc⟩
      · simp at hlt
      have hck := hc k hlt
      go_wp2
      go_round
      case rel => exact ⟨k + 1, by omega, by go_num, by rw [fnv_take l k ‹_›, fnv_step]⟩
      case measure => simp [intOf]; omega
    · obtain rfl : k = l.length := by omega
      go_wp2
      go_ret
      exact ⟨ret_int (by simp only [List.take_length]), rfl⟩
end Go.Proofs.Ytppkjnfgbofjaaa
