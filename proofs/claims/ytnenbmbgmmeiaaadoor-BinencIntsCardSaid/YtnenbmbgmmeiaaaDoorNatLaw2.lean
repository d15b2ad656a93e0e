/- Plain laws of long division (Knuth's algorithm D): the estimate, and one step. -/
import Derived.Test.YtnenbmbgmmeiaaaDoorNatLaw
namespace Na
/-- The estimate is exact or one too large. -/
theorem guess_law {m P V L D0 D1 D2 M V0 V1 q : Nat} (hP : P = L + B ^ m * (D0 + B * D1 + B * B * D2)) (hL : L < B ^ m) (hV : V = M + B ^ m * (V0 + B * V1)) (hM : M < B ^ m)
    (hV1 : 0 < V1) (hD0 : D0 < B) (hq : q < B) (hPV : P < B * V) (h1 : q * (V1 * B + V0) ≤ (D2 * B + D1) * B + D0)
    (h2 : q = (D2 * B + D1) / V1 ∨ B ≤ q + 1 ∨ (D2 * B + D1) * B + D0 < (q + 1) * (V1 * B + V0)) : P / V ≤ q ∧ q ≤ P / V + 1 := by
  have hE : 0 < B ^ m := Nat.pow_pos B_pos
  generalize B ^ m = E at *
  have hT : D0 + B * D1 + B * B * D2 = (D2 * B + D1) * B + D0 := by
    rw [Nat.add_mul, Nat.mul_comm D1 B, Nat.mul_assoc D2, Nat.mul_comm D2]; omega
  have hW : V0 + B * V1 = V1 * B + V0 := by rw [Nat.mul_comm B]; omega
  rw [hT] at hP
  rw [hW] at hV
  have hVp : 0 < V := by
    have : 0 < E * (V1 * B + V0) := Nat.mul_pos hE (by have := Nat.mul_pos hV1 B_pos; omega)
    omega
  constructor
  · -- the true digit is at most q
    rcases h2 with h | h | h
    · -- q = top / V1
      have hle : P / V * V ≤ P := Nat.div_mul_le_self P V
      rw [h]
      rw [Nat.le_div_iff_mul_le hV1]
      generalize P / V = c at hle
      generalize D2 * B + D1 = T at *
      -- c*V1*E*B ≤ c*V ≤ P < (T+1)*E*B
      have e1 : c * V = c * M + E * (c * V1 * B) + E * (c * V0) := by
        rw [hV, Nat.mul_add, Nat.mul_add E, Nat.mul_add c, Nat.mul_left_comm c E, Nat.mul_left_comm c E, ← Nat.mul_assoc c V1 B]; omega
      have hlt : P < E * ((T + 1) * B) := by
        have : E * (T * B + D0) + E ≤ E * ((T + 1) * B) := by
          rw [← Nat.mul_succ]; exact Nat.mul_le_mul_left _ (by rw [Nat.add_mul]; omega)
        omega
      have h3 : E * (c * V1 * B) < E * ((T + 1) * B) := by omega
      have h4 := Nat.lt_of_mul_lt_mul_left h3
      have h5 := Nat.lt_of_mul_lt_mul_right h4
      omega
    · have : P / V < B := Nat.div_lt_of_lt_mul (by rw [Nat.mul_comm]; exact hPV)
      omega
    · have h3 : P < (q + 1) * V := by
        have h4 : E * ((D2 * B + D1) * B + D0) + E ≤ E * ((q + 1) * (V1 * B + V0)) := by
          rw [← Nat.mul_succ]; exact Nat.mul_le_mul_left _ h
        have h5 : (q + 1) * V = (q + 1) * M + E * ((q + 1) * (V1 * B + V0)) := by rw [hV, Nat.mul_add, Nat.mul_left_comm]
        generalize (q + 1) * V = x1 at *
        generalize (q + 1) * M = x2 at *
        generalize E * ((q + 1) * (V1 * B + V0)) = x3 at *
        generalize E * ((D2 * B + D1) * B + D0) = x4 at *
        omega
      exact Nat.le_of_lt_succ ((Nat.div_lt_iff_lt_mul hVp).2 h3)
  · -- q - 1 is at most the true digit
    rcases Nat.eq_zero_or_pos q with rfl | hq0
    · exact Nat.zero_le _
    · obtain ⟨c, rfl⟩ : ∃ c, q = c + 1 := ⟨q - 1, by omega⟩
      have h3 : c * V ≤ P := by
        have h4 : E * ((c + 1) * (V1 * B + V0)) ≤ E * ((D2 * B + D1) * B + D0) := Nat.mul_le_mul_left _ h1
        have h5 : (c + 1) * V = (c + 1) * M + E * ((c + 1) * (V1 * B + V0)) := by rw [hV, Nat.mul_add, Nat.mul_left_comm]
        have h6 : (c + 1) * M ≤ B * E := Nat.mul_le_mul (Nat.le_of_lt hq) (Nat.le_of_lt hM)
        have h7 : B * E ≤ V := by
          rw [hV]
          have : E * (1 * B) ≤ E * (V1 * B + V0) := Nat.mul_le_mul_left _ (by have := Nat.mul_le_mul_right B hV1; omega)
          rw [Nat.one_mul, Nat.mul_comm] at this; omega
        rw [Nat.succ_mul c V] at h5
        generalize c * V = x0 at *
        generalize (c + 1) * M = x2 at *
        generalize E * ((c + 1) * (V1 * B + V0)) = x3 at *
        generalize E * ((D2 * B + D1) * B + D0) = x4 at *
        generalize B * E = x5 at *
        omega
      exact Nat.succ_le_succ ((Nat.le_div_iff_mul_le hVp).2 h3)
/-- One step: what 'take' leaves, and what adding back makes of it. E: B^(n+1). -/
theorem step_law {P V q x E : Nat} (neg : Bool) (hVp : 0 < V) (h1 : P / V ≤ q) (h2 : q ≤ P / V + 1) (hx : x < E) (h : P + (if neg then E else 0) = x + q * V) :
    (neg = false → x = P % V ∧ q = P / V) ∧ (neg = true → 1 ≤ q ∧ q - 1 = P / V ∧ x + V = E + P % V) := by
  have hm := Nat.mod_add_div P V
  have hl := Nat.mod_lt P hVp
  rcases (show q = P / V ∨ q = P / V + 1 from by
    rcases Nat.lt_or_ge (P / V) q with h | h
    · exact .inr (Nat.le_antisymm h2 h)
    · exact .inl (Nat.le_antisymm h h1)) with rfl | rfl
  · rw [Nat.mul_comm (P / V) V] at h
    refine ⟨fun hn => ?_, fun hn => ?_⟩
    · subst hn
      simp only [Bool.false_eq_true, if_false, Nat.add_zero] at h
      generalize V * (P / V) = y at *
      exact ⟨by omega, rfl⟩
    · subst hn
      simp only [if_true] at h
      generalize V * (P / V) = y at *
      omega
  · rw [Nat.succ_mul, Nat.mul_comm (P / V) V] at h
    refine ⟨fun hn => ?_, fun hn => ?_⟩
    · subst hn
      simp only [Bool.false_eq_true, if_false, Nat.add_zero] at h
      generalize V * (P / V) = y at *
      omega
    · subst hn
      simp only [if_true] at h
      refine ⟨Nat.succ_le_succ (Nat.zero_le _), rfl, ?_⟩
      generalize V * (P / V) = y at *
      omega
end Na
