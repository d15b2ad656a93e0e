/- Plain laws of digits: shifts. -/
import Derived.Test.YtnenbmbgmmeiaaaDoorNat
namespace Na
def shr (p : Nat) : List UInt32 → List UInt32
  | [] => []
  | d :: l => UInt32.ofNat ((d.toNat + B * (l.headD 0).toNat) / 2 ^ p) :: shr p l
theorem shr_length (p : Nat) (l : List UInt32) : (shr p l).length = l.length := by
  induction l with
  | nil => rfl
  | cons d l ih => simp [shr, ih]
theorem shr_get (p : Nat) (l : List UInt32) : ∀ (i : Nat) (h : i < l.length), (shr p l)[i]'(by rw [shr_length]; exact h) = UInt32.ofNat (((l.getD i 0).toNat + B * (l.getD (i + 1) 0).toNat) / 2 ^ p) := by
  induction l with
  | nil => intro i h; simp at h
  | cons d l ih =>
    intro i h
    cases i with
    | zero => cases l <;> simp [shr]
    | succ i =>
      have := ih i (by simpa using h)
      simp only [shr, List.getElem_cons_succ, List.getD_cons_succ]
      exact this
theorem pow_split (p : Nat) (h : p ≤ 32) : B = 2 ^ p * 2 ^ (32 - p) := by
  rw [← Nat.pow_add, show p + (32 - p) = 32 by omega]; rfl
theorem ofNat_toNat (n : Nat) : (UInt32.ofNat n).toNat = n % B := by simp [B]
theorem shr_val (p : Nat) (h : p ≤ 32) (l : List UInt32) : val (shr p l) = val l / 2 ^ p := by
  induction l with
  | nil => simp [shr, val]
  | cons d l ih =>
    simp only [shr, val, ih, ofNat_toNat]
    have h2 : 0 < 2 ^ p := Nat.two_pow_pos p
    cases l with
    | nil =>
      simp only [List.headD_nil, val]
      have hd : d.toNat < B := d.toNat_lt
      have : d.toNat / 2 ^ p < B := Nat.lt_of_le_of_lt (Nat.div_le_self _ _) hd
      simp [Nat.mod_eq_of_lt this]
    | cons e m =>
      simp only [List.headD_cons, val]
      generalize val m = V
      have hD : d.toNat < B := d.toNat_lt
      generalize d.toNat = D at hD
      generalize e.toNat = E
      -- (D + B*(E + B*V)) / 2^p = ((D + B*E)/2^p) % B + B * ((E + B*V)/2^p)
      obtain ⟨c, hc⟩ : ∃ c, B = 2 ^ p * c := ⟨_, pow_split p h⟩
      have e0 : B * V = 2 ^ p * (c * V) := by rw [← Nat.mul_assoc, ← hc]
      have e1 : D + B * (E + B * V) = (D + B * E) + 2 ^ p * (B * (c * V)) := by
        rw [Nat.mul_add, e0, Nat.mul_left_comm B (2 ^ p), Nat.add_assoc]
      rw [e1, e0, Nat.add_mul_div_left _ _ h2, Nat.add_mul_div_left _ _ h2, Nat.mul_add, ← Nat.add_assoc]
      congr 1
      have e3 : (D + B * E) / 2 ^ p / B = E / 2 ^ p := by
        rw [Nat.div_div_eq_div_mul, Nat.mul_comm (2 ^ p) B, ← Nat.div_div_eq_div_mul]
        rw [Nat.add_mul_div_left _ _ B_pos, Nat.div_eq_of_lt hD, Nat.zero_add]
      have := Nat.mod_add_div ((D + B * E) / 2 ^ p) B
      rw [e3] at this
      exact this
end Na
