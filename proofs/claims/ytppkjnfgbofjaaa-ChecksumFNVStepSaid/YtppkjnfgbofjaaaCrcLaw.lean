/- Plain laws of the checksum register: it is linear and one to one. -/
import Derived.Test.YtppkjnfgbofjaaaCrcSpec
namespace Crc
theorem bit0 (s : UInt32) : s &&& 1 = 0 ∨ s &&& 1 = 1 := by
  have h : (s &&& 1).toNat = s.toNat % 2 := by rw [UInt32.toNat_and]; simp [Nat.and_one_is_mod]
  rcases Nat.mod_two_eq_zero_or_one s.toNat with e | e
  · exact .inl (UInt32.toNat_inj.1 (by rw [h, e]; rfl))
  · exact .inr (UInt32.toNat_inj.1 (by rw [h, e]; rfl))
theorem and_xor (a b c : UInt32) : (a ^^^ b) &&& c = (a &&& c) ^^^ (b &&& c) := by
  apply UInt32.toBitVec_inj.1
  simp only [UInt32.toBitVec_and, UInt32.toBitVec_xor]
  apply BitVec.eq_of_getLsbD_eq
  intro i _
  simp only [BitVec.getLsbD_and, BitVec.getLsbD_xor]
  cases a.toBitVec.getLsbD i <;> cases b.toBitVec.getLsbD i <;> cases c.toBitVec.getLsbD i <;> rfl
theorem shr_xor (a b : UInt32) (k : UInt32) : (a ^^^ b) >>> k = (a >>> k) ^^^ (b >>> k) := by
  apply UInt32.toBitVec_inj.1
  simp only [UInt32.toBitVec_shiftRight, UInt32.toBitVec_xor]
  apply BitVec.eq_of_getLsbD_eq
  intro i _
  simp
theorem one_xor (a b : UInt32) : one (a ^^^ b) = one a ^^^ one b := by
  unfold one
  rw [and_xor, shr_xor]
  rcases bit0 a with ha | ha <;> rcases bit0 b with hb | hb <;> rw [ha, hb]
  · simp
  · simp [UInt32.xor_assoc]
  · simp only [show (1 ^^^ 0 : UInt32) = 1 from rfl, if_true, show ¬ (0 : UInt32) = 1 by decide, if_false]
    rw [UInt32.xor_assoc, UInt32.xor_assoc, UInt32.xor_comm (b >>> 1)]
  · simp only [show ¬ (1 ^^^ 1 : UInt32) = 1 by decide, if_true, if_false]
    rw [UInt32.xor_assoc, ← UInt32.xor_assoc 3988292384, UInt32.xor_comm 3988292384 (b >>> 1), UInt32.xor_assoc (b >>> 1), UInt32.xor_self, UInt32.xor_zero]
theorem many_xor (n : Nat) (a b : UInt32) : many n (a ^^^ b) = many n a ^^^ many n b := by
  induction n with
  | zero => rfl
  | succ n ih => simp only [many, ih, one_xor]
theorem many_add (m n : Nat) (s : UInt32) : many (m + n) s = many m (many n s) := by
  induction m with
  | zero => simp [many]
  | succ m ih => rw [Nat.add_right_comm]; simp only [many, ih]
theorem one_zero : one 0 = 0 := by decide
theorem many_zero (n : Nat) : many n 0 = 0 := by
  induction n with
  | zero => rfl
  | succ n ih => simp only [many, ih, one_zero]
/-- The top bit of 'one s' is the bit that was shifted out. -/
theorem top (s : UInt32) : (one s).toBitVec.getLsbD 31 = s.toBitVec.getLsbD 0 := by
  have h0 : s &&& 1 = 1 ↔ s.toBitVec.getLsbD 0 = true := by
    rw [← UInt32.toBitVec_inj]
    constructor
    · intro h
      have := congrArg (fun x => BitVec.getLsbD x 0) h
      simpa using this
    · intro h
      rcases bit0 s with e | e
      · rw [← UInt32.toBitVec_inj] at e
        have := congrArg (fun x => BitVec.getLsbD x 0) e
        simp at this
        simp [this] at h
      · rw [e]
  unfold one
  split
  · rename_i h
    rw [h0.1 h]
    simp
  · rename_i h
    have : s.toBitVec.getLsbD 0 = false := by
      cases e : s.toBitVec.getLsbD 0
      · rfl
      · exact (h (h0.2 e)).elim
    rw [this]
    simp

theorem one_eq_zero (s : UInt32) (h : one s = 0) : s = 0 := by
  have ht := top s
  rw [h] at ht
  have h0 : s &&& 1 = 0 := by
    rcases bit0 s with e | e
    · exact e
    · rw [← UInt32.toBitVec_inj] at e
      have := congrArg (fun x => BitVec.getLsbD x 0) e
      simp at this ht
      simp [this] at ht
  have h1 : s >>> 1 = 0 := by
    unfold one at h
    rw [h0] at h
    simpa using h
  have e0 : s.toNat % 2 = 0 := by
    have := congrArg UInt32.toNat h0
    rw [UInt32.toNat_and] at this; simpa [Nat.and_one_is_mod] using this
  have e1 : s.toNat / 2 = 0 := by
    have := congrArg UInt32.toNat h1
    rw [UInt32.toNat_shiftRight] at this; simpa [Nat.shiftRight_eq_div_pow] using this
  exact UInt32.toNat_inj.1 (by simp; omega)
theorem many_eq_zero (n : Nat) (s : UInt32) (h : many n s = 0) : s = 0 := by
  induction n with
  | zero => exact h
  | succ n ih => exact ih (one_eq_zero _ h)
theorem xor_eq_zero (a b : UInt32) (h : a ^^^ b = 0) : a = b := by
  have := congrArg (· ^^^ b) h
  simpa [UInt32.xor_assoc] using this
theorem many_inj (n : Nat) (a b : UInt32) (h : many n a = many n b) : a = b := by
  apply xor_eq_zero
  apply many_eq_zero n
  rw [many_xor, h, UInt32.xor_self]

theorem one_shl (x : UInt32) (h : x.toNat < 2147483648) : one (x <<< 1) = x := by
  have e : (x <<< 1).toNat = 2 * x.toNat := by
    rw [UInt32.toNat_shiftLeft]; simp [Nat.shiftLeft_eq]; omega
  have h0 : ¬ (x <<< 1) &&& 1 = 1 := by
    intro h1
    have := congrArg UInt32.toNat h1
    rw [UInt32.toNat_and, e] at this
    simp [Nat.and_one_is_mod] at this
  unfold one
  rw [if_neg h0]
  apply UInt32.toNat_inj.1
  rw [UInt32.toNat_shiftRight, e]
  simp [Nat.shiftRight_eq_div_pow]

/-! bits -/
def bit (b : Bool) : UInt32 := if b then 1 else 0
def feed (s : UInt32) (l : List Bool) : UInt32 := l.foldl (fun s b => one (s ^^^ bit b)) s
def word : List Bool → UInt32
  | [] => 0
  | b :: l => bit b ^^^ (word l <<< 1)
theorem bit_xor (a b : Bool) : bit (a ^^ b) = bit a ^^^ bit b := by cases a <;> cases b <;> rfl
theorem feed_append (s : UInt32) (l m : List Bool) : feed s (l ++ m) = feed (feed s l) m := by simp [feed]
theorem feed_xor (l : List (Bool × Bool)) : ∀ s t : UInt32, feed (s ^^^ t) (l.map fun p => p.1 ^^ p.2) = feed s (l.map (·.1)) ^^^ feed t (l.map (·.2)) := by
  induction l with
  | nil => intro s t; rfl
  | cons p l ih =>
    intro s t
    show feed (one ((s ^^^ t) ^^^ bit (p.1 ^^ p.2))) (l.map fun p => p.1 ^^ p.2) = feed (one (s ^^^ bit p.1)) _ ^^^ feed (one (t ^^^ bit p.2)) _
    rw [← ih, ← one_xor, bit_xor]
    congr 2
    rw [UInt32.xor_assoc, UInt32.xor_assoc]
    congr 1
    rw [← UInt32.xor_assoc, UInt32.xor_comm t, UInt32.xor_assoc]
theorem feed_false (n : Nat) (s : UInt32) : feed s (List.replicate n false) = many n s := by
  induction n generalizing s with
  | zero => rfl
  | succ n ih =>
    show feed (one (s ^^^ bit false)) (List.replicate n false) = one (many n s)
    rw [ih]
    have : s ^^^ bit false = s := by simp [bit]
    rw [this]
    have := many_add n 1 s
    have h2 := many_add 1 n s
    rw [Nat.add_comm] at h2
    simpa [many] using this.symm.trans h2
theorem word_lt (l : List Bool) (n : Nat) (hn : l.length ≤ n) (h : n ≤ 32) : (word l).toNat < 2 ^ n := by
  induction l generalizing n with
  | nil => exact Nat.two_pow_pos n
  | cons b l ih =>
    match n, hn with
    | n + 1, hn =>
      have hw := ih n (by simpa using hn) (by omega)
      have hp : (2 : Nat) ^ (n + 1) ≤ 2 ^ 32 := Nat.pow_le_pow_right (by omega) h
      have e : (word l <<< 1).toNat < 2 ^ (n + 1) := by
        rw [UInt32.toNat_shiftLeft]
        refine Nat.lt_of_le_of_lt (Nat.mod_le _ _) ?_
        simp [Nat.shiftLeft_eq, Nat.pow_succ]; omega
      show (bit b ^^^ (word l <<< 1)).toNat < _
      rw [UInt32.toNat_xor]
      refine Nat.xor_lt_two_pow ?_ e
      have : (1 : Nat) < 2 ^ (n + 1) := Nat.one_lt_two_pow (by omega)
      cases b <;> simp [bit] <;> omega
theorem feed_word (l : List Bool) (h : l.length ≤ 32) (s : UInt32) : feed s l = many l.length (s ^^^ word l) := by
  induction l generalizing s with
  | nil => simp [feed, many, word]
  | cons b l ih =>
    show feed (one (s ^^^ bit b)) l = many (l.length + 1) (s ^^^ (bit b ^^^ (word l <<< 1)))
    rw [ih (by simp at h; omega), many_add l.length 1]
    congr 1
    show _ = one (s ^^^ (bit b ^^^ (word l <<< 1)))
    rw [← UInt32.xor_assoc, one_xor (s ^^^ bit b), one_shl]
    have := word_lt l 31 (by simp at h; omega) (by omega)
    simpa using this
theorem word_odd (l : List Bool) : word (true :: l) ≠ 0 := by
  intro h
  have := congrArg (fun x => (x &&& 1)) h
  simp only [word] at this
  rw [and_xor] at this
  have e : (word l <<< 1) &&& 1 = 0 := by
    apply UInt32.toNat_inj.1
    rw [UInt32.toNat_and, UInt32.toNat_shiftLeft]
    simp [Nat.and_one_is_mod, Nat.shiftLeft_eq]
  rw [e] at this
  exact absurd this (by decide)
/-- A burst of at most 32 bits turns the register. -/
theorem feed_burst (p : Nat) (l : List Bool) (q : Nat) : feed 0 (List.replicate p false ++ (((true :: l.take 31)) ++ List.replicate q false)) ≠ 0 := by
  rw [feed_append, feed_append, feed_false, feed_false, many_zero, feed_word _ (by simp; omega)]
  intro h
  have := many_eq_zero _ _ (many_eq_zero _ _ h)
  rw [UInt32.zero_xor] at this
  exact word_odd _ this
end Crc
