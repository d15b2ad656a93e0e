/- Plain laws of the checksum: bytes and bits, the reference's step, and the burst. -/
import Derived.Test.YtppkjnfgbofjaaaCrcLaw
namespace Crc
def bits8 (c : UInt8) : List Bool := (List.range 8).map fun i => c.toNat.testBit i
def bits (l : List UInt8) : List Bool := l.flatMap bits8
theorem word_bits8 (c : UInt8) : word (bits8 c) = c.toUInt32 := by
  have h : ∀ n, n < 256 → word (bits8 (UInt8.ofNat n)) = (UInt8.ofNat n).toUInt32 := by decide +kernel
  have := h c.toNat c.toNat_lt
  simpa using this
theorem byte_bits (s : UInt32) (c : UInt8) : byte s c = feed s (bits8 c) := by
  rw [feed_word _ (by simp [bits8]), word_bits8]; rfl
theorem reg_bits (l : List UInt8) : ∀ s : UInt32, reg s l = feed s (bits l) := by
  induction l with
  | nil => intro s; rfl
  | cons c l ih =>
    intro s
    show reg (byte s c) l = feed s (bits8 c ++ bits l)
    rw [ih, feed_append, byte_bits]
theorem one_even (z : UInt32) (h : z.toNat % 2 = 0) : (one z).toNat = z.toNat / 2 := by
  have h0 : ¬ z &&& 1 = 1 := by
    intro h1
    have := congrArg UInt32.toNat h1
    rw [UInt32.toNat_and] at this
    simp [Nat.and_one_is_mod] at this
    omega
  unfold one
  rw [if_neg h0, UInt32.toNat_shiftRight]
  simp [Nat.shiftRight_eq_div_pow]
theorem many_back (n : Nat) : ∀ z y : UInt32, z.toNat = y.toNat * 2 ^ n → many n z = y := by
  induction n with
  | zero => intro z y h; exact UInt32.toNat_inj.1 (by show z.toNat = y.toNat; simpa using h)
  | succ n ih =>
    intro z y h
    rw [many_add n 1]
    rw [Nat.pow_succ, ← Nat.mul_assoc] at h
    refine ih (one z) y ?_
    rw [one_even z (by omega), h]
    omega
theorem many8_shl (y : UInt32) (h : y.toNat < 16777216) : many 8 (y <<< 8) = y := by
  apply many_back
  rw [UInt32.toNat_shiftLeft]
  simp [Nat.shiftLeft_eq]
  omega
theorem shr8_lt (x : UInt32) : (x >>> 8).toNat < 16777216 := by
  have := x.toNat_lt
  rw [UInt32.toNat_shiftRight]
  simp [Nat.shiftRight_eq_div_pow]
  omega
theorem split8 (x : UInt32) : x.toUInt8.toUInt32 ^^^ ((x >>> 8) <<< 8) = x := by
  apply UInt32.toNat_inj.1
  have hx := x.toNat_lt
  rw [UInt32.toNat_xor, UInt32.toNat_shiftLeft, UInt32.toNat_shiftRight]
  have e1 : x.toUInt8.toUInt32.toNat = x.toNat % 2 ^ 8 := by simp
  have e2 : (x.toNat >>> 8) <<< 8 % 2 ^ 32 = (x.toNat >>> 8) <<< 8 := by
    simp [Nat.shiftRight_eq_div_pow, Nat.shiftLeft_eq]; omega
  rw [e1]
  show x.toNat % 2 ^ 8 ^^^ (x.toNat >>> 8) <<< 8 % 2 ^ 32 = x.toNat
  rw [e2]
  apply Nat.eq_of_testBit_eq
  intro i
  rw [Nat.testBit_xor, Nat.testBit_mod_two_pow, Nat.testBit_shiftLeft, Nat.testBit_shiftRight]
  by_cases h : i < 8
  · simp [h, show ¬ 8 ≤ i by omega]
  · simp [h, show 8 ≤ i by omega, show 8 + (i - 8) = i by omega]
theorem and255 (x : UInt32) : x &&& 255 = x.toUInt8.toUInt32 := by
  apply UInt32.toNat_inj.1
  rw [UInt32.toNat_and]
  simp
  exact Nat.and_two_pow_sub_one_eq_mod x.toNat 8
theorem byte_ref (s : UInt32) (c : UInt8) : byte s c = many 8 ((s &&& 255) ^^^ c.toUInt32) ^^^ (s >>> 8) := by
  show many 8 (s ^^^ c.toUInt32) = _
  rw [and255]
  conv => lhs; rw [← split8 s]
  rw [UInt32.xor_assoc, UInt32.xor_comm _ c.toUInt32, ← UInt32.xor_assoc, many_xor, many8_shl _ (shr8_lt s)]
theorem low8 (c : UInt8) (v : UInt32) : (c.toUInt32 ^^^ (v <<< 8)).toUInt8 = c := by
  apply UInt8.toBitVec_inj.1
  apply BitVec.eq_of_getLsbD_eq
  intro i hi
  simp [hi]
theorem high8 (c : UInt8) (v : UInt32) (h : v.toNat < 16777216) : (c.toUInt32 ^^^ (v <<< 8)) >>> 8 = v := by
  rw [shr_xor]
  have e1 : c.toUInt32 >>> 8 = 0 := by
    apply UInt32.toNat_inj.1
    rw [UInt32.toNat_shiftRight]
    have := c.toNat_lt
    simp [Nat.shiftRight_eq_div_pow]; omega
  have e2 : (v <<< 8) >>> 8 = v := by
    apply UInt32.toNat_inj.1
    rw [UInt32.toNat_shiftRight, UInt32.toNat_shiftLeft]
    simp [Nat.shiftRight_eq_div_pow, Nat.shiftLeft_eq]
    omega
  rw [e1, e2, UInt32.zero_xor]

def un4 (a b c d : UInt8) : UInt32 := a.toUInt32 ^^^ ((b.toUInt32 ^^^ ((c.toUInt32 ^^^ (d.toUInt32 <<< 8)) <<< 8)) <<< 8)
theorem xor_lt (c : UInt8) (v : UInt32) (n : Nat) (h : v.toNat < 2 ^ n) (hn : n ≤ 16) : (c.toUInt32 ^^^ (v <<< 8)).toNat < 2 ^ (n + 8) := by
  rw [UInt32.toNat_xor]
  refine Nat.xor_lt_two_pow ?_ ?_
  · have := c.toNat_lt
    have : (2 : Nat) ^ 8 ≤ 2 ^ (n + 8) := Nat.pow_le_pow_right (by omega) (by omega)
    simp; omega
  · rw [UInt32.toNat_shiftLeft]
    refine Nat.lt_of_le_of_lt (Nat.mod_le _ _) ?_
    simp [Nat.shiftLeft_eq, Nat.pow_add]; omega
theorem shr8_shr (x : UInt32) : (x >>> 8) >>> 8 = x >>> 16 := by
  apply UInt32.toNat_inj.1
  simp [UInt32.toNat_shiftRight, Nat.shiftRight_eq_div_pow, Nat.div_div_eq_div_mul]
theorem shr16_shr (x : UInt32) : (x >>> 16) >>> 8 = x >>> 24 := by
  apply UInt32.toNat_inj.1
  simp [UInt32.toNat_shiftRight, Nat.shiftRight_eq_div_pow, Nat.div_div_eq_div_mul]
theorem shr24_shr (x : UInt32) : (x >>> 24).toUInt8.toUInt32 = x >>> 24 := by
  apply UInt32.toNat_inj.1
  have := x.toNat_lt
  simp [UInt32.toNat_shiftRight, Nat.shiftRight_eq_div_pow]; omega
theorem un4_lt (b c d : UInt8) : (c.toUInt32 ^^^ (d.toUInt32 <<< 8)).toNat < 2 ^ 16 ∧ (b.toUInt32 ^^^ ((c.toUInt32 ^^^ (d.toUInt32 <<< 8)) <<< 8)).toNat < 2 ^ 24 := by
  have hd : d.toUInt32.toNat < 2 ^ 8 := by have := d.toNat_lt; simpa using this
  have h1 := xor_lt c d.toUInt32 8 hd (by omega)
  exact ⟨h1, xor_lt b _ 16 h1 (by omega)⟩
theorem le4_un4 (a b c d : UInt8) : le4 (un4 a b c d) = [a, b, c, d] := by
  have h := un4_lt b c d
  have hd : d.toUInt32.toNat < 2 ^ 8 := by have := d.toNat_lt; simpa using this
  unfold le4 un4
  rw [low8, ← shr16_shr, ← shr8_shr, high8 _ _ (by have := h.2; omega), low8, high8 _ _ (by have := h.1; omega), low8, high8 _ _ (by omega)]
  simp
theorem un4_le4 (x : UInt32) : un4 x.toUInt8 (x >>> 8).toUInt8 (x >>> 16).toUInt8 (x >>> 24).toUInt8 = x := by
  unfold un4
  rw [shr24_shr, ← shr16_shr, split8, ← shr8_shr, split8, split8]
theorem reg_four (s : UInt32) (a b c d : UInt8) : reg s [a, b, c, d] = many 32 (s ^^^ un4 a b c d) := by
  have h := un4_lt b c d
  have hd : d.toUInt32.toNat < 2 ^ 8 := by have := d.toNat_lt; simpa using this
  have step : ∀ (s : UInt32) (c : UInt8) (v : UInt32), v.toNat < 16777216 → many 8 (s ^^^ (c.toUInt32 ^^^ (v <<< 8))) = byte s c ^^^ v := by
    intro s c v hv
    rw [← UInt32.xor_assoc, many_xor, many8_shl v hv]; rfl
  show byte (byte (byte (byte s a) b) c) d = many (8 + (8 + (8 + 8))) _
  rw [many_add, many_add, many_add]
  unfold un4
  rw [step s a _ (by have := h.2; omega), step _ b _ (by have := h.1; omega), step _ c _ (by omega)]
  rfl
theorem ok_iff (l t : List UInt8) (h : t.length = 4) : t = le4 (update 0 l) ↔ reg 0xffffffff (l ++ t) = many 32 0xffffffff := by
  match t, h with
  | [a, b, c, d], _ =>
    have e : reg 0xffffffff (l ++ [a, b, c, d]) = many 32 (reg 0xffffffff l ^^^ un4 a b c d) := by
      rw [← reg_four]; simp [reg]
    have u : update 0 l = reg 0xffffffff l ^^^ 0xffffffff := by simp [update]
    rw [e, u]
    constructor
    · intro h
      have : un4 a b c d = reg 0xffffffff l ^^^ 0xffffffff := by
        simp only [le4, List.cons.injEq, and_true] at h
        obtain ⟨rfl, rfl, rfl, rfl⟩ := h
        exact un4_le4 _
      rw [this, ← UInt32.xor_assoc, UInt32.xor_self, UInt32.zero_xor]
    · intro h
      have h := many_inj 32 _ _ h
      rw [← le4_un4]
      congr 1
      generalize reg 0xffffffff l = r at h
      have := congrArg (r ^^^ ·) h
      simpa [← UInt32.xor_assoc] using this

/-! the burst -/
theorem length_bits (l : List UInt8) : (bits l).length = 8 * l.length := by
  induction l with
  | nil => rfl
  | cons c l ih =>
    show (bits8 c ++ bits l).length = _
    rw [List.length_append, ih]; simp [bits8]; omega
theorem get_bits (l : List UInt8) : ∀ j : Nat, (bits l).getD j false = (l.getD (j / 8) 0).toNat.testBit (j % 8) := by
  induction l with
  | nil => intro j; simp [bits]
  | cons c l ih =>
    intro j
    have hl : (bits8 c).length = 8 := by simp [bits8]
    have e : bits (c :: l) = bits8 c ++ bits l := rfl
    rw [e]
    by_cases hj : j < 8
    · simp [List.getD, List.getElem?_append, hj, show j / 8 = 0 by omega, bits8, Nat.mod_eq_of_lt hj]
    · have := ih (j - 8)
      obtain ⟨i, hi⟩ : ∃ i, j / 8 = i + 1 := ⟨j / 8 - 1, by omega⟩
      rw [show (j - 8) / 8 = i by omega, show (j - 8) % 8 = j % 8 by omega] at this
      rw [hi, List.getD_cons_succ, ← this]
      simp [List.getD, List.getElem?_append, hl, hj]
theorem burst (D : List Bool) (m : Nat) (hm : ∀ j, m + 32 ≤ j → D.getD j false = false) (hl : ∀ j, j < m → D.getD j false = false) (hs : ∃ j, D.getD j false = true) : feed 0 D ≠ 0 := by
  -- the first bit that is set
  have ex : ∃ p, D.getD p false = true ∧ ∀ j, j < p → D.getD j false = false := by
    obtain ⟨j, hj⟩ := hs
    induction j using Nat.strongRecOn with
    | _ j ih =>
      by_cases h : ∃ i, i < j ∧ D.getD i false = true
      · obtain ⟨i, hi, h⟩ := h; exact ih i hi h
      · exact ⟨j, hj, fun i hi => by
          cases e : D.getD i false
          · rfl
          · exact (h ⟨i, hi, e⟩).elim⟩
  obtain ⟨p, hp, hf⟩ := ex
  have hpm : m ≤ p := by
    rcases Nat.lt_or_ge p m with h | h
    · rw [hl p h] at hp; exact absurd hp (by simp)
    · exact h
  have hpl : p < D.length := by
    rcases Nat.lt_or_ge p D.length with h | h
    · exact h
    · simp [List.getD, List.getElem?_eq_none h] at hp
  have e : D = List.replicate p false ++ ((true :: (D.drop (p + 1)).take 31) ++ List.replicate (D.length - (p + 32)) false) := by
    apply List.ext_getElem
    · simp; omega
    · intro j h1 h2
      have hd : D[j] = D.getD j false := by simp [List.getD, List.getElem?_eq_getElem h1]
      rw [hd]
      rcases Nat.lt_or_ge j p with hj | hj
      · rw [List.getElem_append_left (by simpa using hj), hf j hj]; simp
      · rw [List.getElem_append_right (by simpa using hj)]
        simp only [List.length_replicate]
        rcases Nat.eq_or_lt_of_le hj with rfl | hj'
        · simpa using hp
        · rcases Nat.lt_or_ge j (p + 32) with h3 | h3
          · rw [List.getElem_append_left (by simp; omega)]
            obtain ⟨i, hi⟩ : ∃ i, j - p = i + 1 := ⟨j - p - 1, by omega⟩
            simp only [hi, List.getElem_cons_succ, List.getElem_take, List.getElem_drop]
            rw [← hd]
            congr 1; omega
          · rw [List.getElem_append_right (by simp; omega), hm j (by omega)]; simp
  rw [e]
  exact feed_burst p _ _
theorem reg_turned (c c' : List UInt8) (hl : c'.length = c.length) (D : List Bool) (hD : D.length = 8 * c.length)
    (h : ∀ j, j < 8 * c.length → (bits c').getD j false = ((bits c).getD j false ^^ D.getD j false)) (s : UInt32) :
    reg s c' = reg s c ^^^ feed 0 D := by
  rw [reg_bits, reg_bits]
  have e1 : (((bits c).zip D).map fun p => p.1 ^^ p.2) = bits c' := by
    apply List.ext_getElem
    · simp [length_bits, hD, hl]
    · intro j h1 h2
      have h3 : j < 8 * c.length := by rw [length_bits, hl] at h2; exact h2
      have := h j h3
      have a1 : j < (bits c).length := by rw [length_bits]; exact h3
      have a2 : j < D.length := by omega
      simp only [List.getD, List.getElem?_eq_getElem h2, List.getElem?_eq_getElem a1, List.getElem?_eq_getElem a2, Option.getD_some] at this
      rw [this]; simp
  have e2 : (((bits c).zip D).map (·.1)) = bits c := by
    rw [List.map_fst_zip]; rw [length_bits, hD]; exact Nat.le_refl _
  have e3 : (((bits c).zip D).map (·.2)) = D := by
    rw [List.map_snd_zip]; rw [length_bits, hD]; exact Nat.le_refl _
  have := feed_xor ((bits c).zip D) s 0
  rw [e1, e2, e3] at this
  simpa using this
theorem reg_append (s : UInt32) (l m : List UInt8) : reg s (l ++ m) = reg (reg s l) m := by simp [reg]
theorem burst_detected (a c' : List UInt8) (hl : c'.length = a.length + 4) (m : Nat) (t : Nat)
    (h : ∀ j, j < 8 * (a.length + 4) → (bits c').getD j false = ((bits (a ++ le4 (update 0 a))).getD j false ^^ (decide (m ≤ j ∧ j < m + 32) && t.testBit (j - m))))
    (hs : ∃ i, i < 32 ∧ t.testBit i = true ∧ m + i < 8 * (a.length + 4)) : c'.drop a.length ≠ le4 (update 0 (c'.take a.length)) := by
  intro e
  let D := (List.range (8 * (a.length + 4))).map fun j => (decide (m ≤ j ∧ j < m + 32) && t.testBit (j - m))
  have gD : ∀ j, D.getD j false = (decide (j < 8 * (a.length + 4)) && (decide (m ≤ j ∧ j < m + 32) && t.testBit (j - m))) := by
    intro j
    by_cases hj : j < 8 * (a.length + 4)
    · simp [D, List.getD, hj]
    · simp [D, List.getD, hj]
  have h4 : (a ++ le4 (update 0 a)).length = a.length + 4 := by simp [le4]
  have ht := reg_turned (a ++ le4 (update 0 a)) c' (by rw [h4, hl]) D (by simp [D, h4]) (by
    intro j hj
    rw [h4] at hj
    rw [h j hj, gD]; simp [hj]) 0xffffffff
  have h1 := (ok_iff a (le4 (update 0 a)) rfl).1 rfl
  have h2 := (ok_iff (c'.take a.length) (c'.drop a.length) (by simp [hl])).1 e
  rw [List.take_append_drop, ht, h1] at h2
  have h3 : feed 0 D = 0 := by
    have := congrArg (many 32 0xffffffff ^^^ ·) h2
    simpa [← UInt32.xor_assoc] using this
  refine burst D m ?_ ?_ ?_ h3
  · intro j hj; rw [gD]; simp [show ¬ j < m + 32 by omega]
  · intro j hj; rw [gD]; simp [show ¬ m ≤ j by omega]
  · obtain ⟨i, hi, ht, hb⟩ := hs
    exact ⟨m + i, by rw [gD]; simp [hb, ht]; omega⟩
end Crc
