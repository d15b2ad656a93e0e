/- Plain laws of long division: what is known at a step's head. -/
import Derived.Test.YtnenbmbgmmeiaaaDoorNatWalk5
import Derived.Test.YtnenbmbgmmeiaaaDoorNatLaw2
namespace Go.Proofs.YtnenbmbgmmeiaaaDoor
set_option linter.unusedVariables false

theorem seg_drop (l : List UInt32) (k i : Nat) (h : k + i ≤ l.length) : Na.val (l.drop k) = Na.val (seg l k i) + Na.B ^ i * Na.val (l.drop (k + i)) := by
  unfold seg
  rw [Na.val_take_drop (l.drop k) i (by simp; omega), List.drop_drop]
theorem step_facts (vs ut : List UInt32) (n j : Nat) (hv : vs.length = n + 2) (hu : j + n + 3 ≤ ut.length) (hlt : Na.val (ut.drop (j + 1)) < Na.val vs) :
    Na.val (seg ut j (n + 3)) = Na.val (ut.drop j) ∧ Na.val (ut.drop (j + (n + 3))) = 0 ∧ Na.val (ut.drop j) < Na.B * Na.val vs ∧
    (ut[j + (n + 2)]'(by omega)).toNat ≤ (vs[n + 1]'(by omega)).toNat ∧
    (∃ L, L < Na.B ^ n ∧ Na.val (ut.drop j) = L + Na.B ^ n * ((ut[j + n]'(by omega)).toNat + Na.B * (ut[j + (n + 1)]'(by omega)).toNat + Na.B * Na.B * (ut[j + (n + 2)]'(by omega)).toNat)) ∧
    (∃ M, M < Na.B ^ n ∧ Na.val vs = M + Na.B ^ n * ((vs[n]'(by omega)).toNat + Na.B * (vs[n + 1]'(by omega)).toNat)) := by
  have hvl := Na.val_lt vs
  rw [hv] at hvl
  have hd := Na.val_drop ut j (by omega)
  have hd0 := (ut[j]'(by omega)).toNat_lt
  have hPV : Na.val (ut.drop j) < Na.B * Na.val vs := by
    have h1 : Na.B * (Na.val (ut.drop (j + 1)) + 1) ≤ Na.B * Na.val vs := Nat.mul_le_mul_left _ hlt
    rw [Nat.mul_succ] at h1
    have : (ut[j]'(by omega)).toNat < Na.B := hd0
    omega
  have hs := seg_drop ut j (n + 3) (by omega)
  have hz : Na.val (ut.drop (j + (n + 3))) = 0 := by
    rcases Nat.eq_zero_or_pos (Na.val (ut.drop (j + (n + 3)))) with h | h
    · exact h
    · have h1 : Na.B ^ (n + 3) * 1 ≤ Na.B ^ (n + 3) * Na.val (ut.drop (j + (n + 3))) := Nat.mul_le_mul_left _ h
      have h2 : Na.B * Na.val vs < Na.B * Na.B ^ (n + 2) := Nat.mul_lt_mul_of_pos_left hvl Na.B_pos
      rw [Nat.mul_comm Na.B (Na.B ^ (n + 2)), ← Nat.pow_succ] at h2
      have h3 : Na.B * Na.val vs < Na.B ^ (n + 3) := h2
      omega
  rw [hz, Nat.mul_zero, Nat.add_zero] at hs
  have s2 := val_seg_succ ut j (n + 2) (by omega)
  have s1 := val_seg_succ ut j (n + 1) (by omega)
  have s0 := val_seg_succ ut j n (by omega)
  have l0 := Na.val_lt (seg ut j n)
  have l2 := Na.val_lt (seg ut j (n + 2))
  rw [seg_length _ _ _ (by omega)] at l0 l2
  have t1 := Na.val_take_succ vs (n + 1) (by omega)
  have t0 := Na.val_take_succ vs n (by omega)
  rw [List.take_of_length_le (by omega)] at t1
  have m0 := Na.val_lt (vs.take n)
  have m1 := Na.val_lt (vs.take (n + 1))
  have e0 : (vs.take n).length = n := by simp; omega
  have e1 : (vs.take (n + 1)).length = n + 1 := by simp; omega
  rw [e0] at m0
  rw [e1] at m1
  refine ⟨hs.symm, hz, hPV, ?_, ⟨Na.val (seg ut j n), l0, ?_⟩, ⟨Na.val (vs.take n), m0, ?_⟩⟩
  · -- the top digits
    rw [hs, s2] at hPV
    generalize (ut[j + (n + 2)]'(by omega)).toNat = D2 at *
    generalize (vs[n + 1]'(by omega)).toNat = V1 at *
    have h1 : Na.B * Na.val vs < Na.B ^ (n + 2) * (V1 + 1) := by
      have h2 : Na.val vs < Na.B ^ (n + 1) * (V1 + 1) := by rw [t1, Nat.mul_succ]; omega
      have h3 : Na.B * Na.val vs < Na.B * (Na.B ^ (n + 1) * (V1 + 1)) := Nat.mul_lt_mul_of_pos_left h2 Na.B_pos
      rw [← Nat.mul_assoc, Nat.mul_comm Na.B (Na.B ^ (n + 1)), ← Nat.pow_succ] at h3
      exact h3
    have h4 : Na.B ^ (n + 2) * D2 < Na.B ^ (n + 2) * (V1 + 1) := by omega
    exact Nat.le_of_lt_succ (Nat.lt_of_mul_lt_mul_left h4)
  · have ep1 : Na.B ^ (n + 1) = Na.B ^ n * Na.B := Nat.pow_succ _ _
    have ep2 : Na.B ^ (n + 2) = Na.B ^ n * Na.B * Na.B := by rw [Nat.pow_succ, Nat.pow_succ]
    rw [hs, s2, s1, s0, ep2, ep1, Nat.mul_add, Nat.mul_add, Nat.mul_assoc (Na.B ^ n) Na.B (ut[j + (n + 1)]'(by omega)).toNat, Nat.mul_assoc (Na.B ^ n) Na.B Na.B, Nat.mul_assoc (Na.B ^ n) (Na.B * Na.B)]
    omega
  · rw [t1, t0, Nat.pow_succ, Nat.mul_add, ← Nat.mul_assoc]
    omega
theorem u_step {us ut ws : List UInt32} {V Q q j : Nat} (hU : Na.val us = Na.val ut + Na.B ^ (j + 1) * (V * Q)) (hl : ws.length = ut.length) (hj : j ≤ ut.length) (ht : ws.take j = ut.take j)
    (hw : Na.val (ws.drop j) = Na.val (ut.drop j) % V) (hq : q = Na.val (ut.drop j) / V) : Na.val us = Na.val ws + Na.B ^ j * (V * (q + Na.B * Q)) := by
  have h1 := Na.val_take_drop ut j hj
  have h2 := Na.val_take_drop ws j (by omega)
  rw [ht, hw] at h2
  have h3 := Nat.mod_add_div (Na.val (ut.drop j)) V
  rw [← hq] at h3
  rw [hU, h1, h2]
  generalize Na.val (ut.drop j) % V = r at *
  generalize Na.val (ut.drop j) = P at *
  generalize Na.val (ut.take j) = A at *
  clear hU h1 h2 hw hq
  subst h3
  rw [Nat.mul_add (Na.B ^ j) r, Nat.mul_add V q, Nat.mul_left_comm V Na.B Q, Nat.mul_add (Na.B ^ j) (V * q), Nat.pow_succ, Nat.mul_assoc (Na.B ^ j) Na.B]
  omega
/-- What 'take' leaves is the remainder, or the remainder less the divisor. -/
theorem drop_turned {ut ws : List UInt32} {j i : Nat} (h : Turned ut ws j i) (hl : j + i ≤ ut.length) (hz : Na.val (ut.drop (j + i)) = 0) : Na.val (ws.drop j) = Na.val (seg ws j i) := by
  rw [seg_drop ws j i (by rw [h.1]; exact hl), h.2.2, hz]; simp
theorem add_step (c U y : Nat) (hc : c ≤ 1) (hU : U < 4294967296) (hy : y < 4294967296) :
    ((c : Int) + ((U : Int) + (y : Int))) / 4294967296 = (((c + (U + y)) / Na.B : Nat) : Int) ∧ ((c : Int) + ((U : Int) + (y : Int))) % 4294967296 = (((c + (U + y)) % Na.B : Nat) : Int) ∧
    (c + (U + y)) % Na.B < 4294967296 ∧ (c + (U + y)) / Na.B ≤ 1 := by
  unfold Na.B
  refine ⟨by omega, by omega, by omega, by omega⟩
theorem add_arith {A W Y c U y : Nat} (E : Nat) (h : A + E * c = W + Y) : A + E * ((c + (U + y)) % Na.B) + E * Na.B * ((c + (U + y)) / Na.B) = W + E * U + (Y + E * y) := by
  have h1 := Nat.mod_add_div (c + (U + y)) Na.B
  have h2 : E * ((c + (U + y)) % Na.B) + E * Na.B * ((c + (U + y)) / Na.B) = E * c + (E * U + E * y) := by
    rw [Nat.mul_assoc, ← Nat.mul_add, h1, Nat.mul_add, Nat.mul_add]
  omega
/-- The last digit of adding back: the carry out is dropped. -/
theorem add_last {A W V c U R E x : Nat} (h : A + E * c = W + V) (hx : x = W + E * U) (hs : x + V = E * Na.B + R) (hA : A < E) (hR : R < E) (hU : U < 4294967296) (hc : c ≤ 1) :
    A + E * ((U + c) % Na.B) = R := by
  subst hx
  have h1 : A + E * (U + c) = E * Na.B + R := by rw [Nat.mul_add]; omega
  have h2 : U + c = Na.B := by
    rcases Nat.lt_trichotomy (U + c) Na.B with h | h | h
    · have h3 : E * (U + c) + E ≤ E * Na.B := by rw [← Nat.mul_succ]; exact Nat.mul_le_mul_left _ h
      omega
    · exact h
    · have hB : Na.B = 4294967296 := rfl
      omega
  rw [h2] at h1 ⊢
  rw [Nat.mod_self]; omega
end Go.Proofs.YtnenbmbgmmeiaaaDoor
