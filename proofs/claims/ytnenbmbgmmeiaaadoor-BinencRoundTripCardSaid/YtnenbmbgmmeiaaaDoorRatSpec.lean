/- Plain laws of decoding rational numbers. -/
import Derived.Test.YtnenbmbgmmeiaaaDoorRefRat7
namespace Go.Proofs.YtnenbmbgmmeiaaaDoor
open Go.RowKit En
variable {α : Type}
set_option linter.unusedVariables false

/-- A sign and two numbers are those of a number in lowest terms. -/
def qok (neg : Bool) (a b : Nat) : Bool := !(neg && decide ((Na.digs a).length = 0)) && (decide (0 < b) && (Nat.gcd a b == 1))
def qat (l : List UInt8) (i : Int) : (Bool × Nat × Nat) × Nat × Nat :=
  if i < 0 ∨ (l.length : Int) < i then ((false, 0, 0), 0, 2)
  else if l.length = i.toNat then ((false, 0, 0), 0, 4)
  else if 1 < (l.getD i.toNat 0).toNat then ((false, 0, 0), 0, 3)
  else match bsc 4096 (l.drop (i.toNat + 1)) with
    | .error e => ((false, 0, 0), 0, e)
    | .ok (s1, k1) => match bsc 4096 (l.drop (i.toNat + 1 + k1)) with
      | .error e => ((false, 0, 0), 0, e)
      | .ok (s2, k2) =>
        if qok ((l.getD i.toNat 0).toNat == 1) (Nb.val s1) (Nb.val s2) && (putQ ((l.getD i.toNat 0).toNat == 1, Nb.val s1, Nb.val s2) == (l.take (i.toNat + 1 + k1 + k2)).drop i.toNat) then
          (((l.getD i.toNat 0).toNat == 1, Nb.val s1, Nb.val s2), i.toNat + 1 + k1 + k2, 0)
        else ((false, 0, 0), 0, 3)
theorem qat_bad {l : List UInt8} {i : Int} (h : i < 0 ∨ (l.length : Int) < i) : qat l i = ((false, 0, 0), 0, 2) := by unfold qat; rw [if_pos h]
theorem qat_end {l : List UInt8} {p : Nat} (h : p = l.length) : qat l p = ((false, 0, 0), 0, 4) := by
  unfold qat; rw [if_neg (by omega), Int.toNat_natCast, if_pos h.symm]
theorem qat_sign {l : List UInt8} {p : Nat} {c : UInt8} (h : l[p]? = some c) (hc : 1 < c.toNat) : qat l p = ((false, 0, 0), 0, 3) := by
  have hp : p < l.length := (List.getElem?_eq_some_iff.1 h).1
  unfold qat; rw [if_neg (by omega), Int.toNat_natCast, if_neg (by omega), show l.getD p 0 = c by simp [List.getD, h], if_pos hc]
theorem qat_e1 {l : List UInt8} {p e : Nat} {c : UInt8} (h : l[p]? = some c) (hc : ¬ 1 < c.toNat) (h1 : bsc 4096 (l.drop (p + 1)) = .error e) : qat l p = ((false, 0, 0), 0, e) := by
  have hp : p < l.length := (List.getElem?_eq_some_iff.1 h).1
  unfold qat; rw [if_neg (by omega), Int.toNat_natCast, if_neg (by omega), show l.getD p 0 = c by simp [List.getD, h], if_neg hc, h1]
theorem qat_e2 {l s1 : List UInt8} {p e k1 : Nat} {c : UInt8} (h : l[p]? = some c) (hc : ¬ 1 < c.toNat) (h1 : bsc 4096 (l.drop (p + 1)) = .ok (s1, k1)) (h2 : bsc 4096 (l.drop (p + 1 + k1)) = .error e) : qat l p = ((false, 0, 0), 0, e) := by
  have hp : p < l.length := (List.getElem?_eq_some_iff.1 h).1
  unfold qat; rw [if_neg (by omega), Int.toNat_natCast, if_neg (by omega), show l.getD p 0 = c by simp [List.getD, h], if_neg hc, h1]; simp only; rw [h2]
theorem qat_ok {l s1 s2 : List UInt8} {p k1 k2 : Nat} {c : UInt8} (h : l[p]? = some c) (hc : ¬ 1 < c.toNat) (h1 : bsc 4096 (l.drop (p + 1)) = .ok (s1, k1)) (h2 : bsc 4096 (l.drop (p + 1 + k1)) = .ok (s2, k2)) :
    qat l p = if qok (c.toNat == 1) (Nb.val s1) (Nb.val s2) && (putQ (c.toNat == 1, Nb.val s1, Nb.val s2) == (l.take (p + 1 + k1 + k2)).drop p) then ((c.toNat == 1, Nb.val s1, Nb.val s2), p + 1 + k1 + k2, 0) else ((false, 0, 0), 0, 3) := by
  have hp : p < l.length := (List.getElem?_eq_some_iff.1 h).1
  unfold qat; rw [if_neg (by omega), Int.toNat_natCast, if_neg (by omega), show l.getD p 0 = c by simp [List.getD, h], if_neg hc, h1]; simp only; rw [h2]
/-- A number in lowest terms is its own normal form. -/
theorem nrm_qok {neg : Bool} {a b : Nat} (h : qok neg a b = true) : nrm neg false a b = (neg, a, b) := by
  unfold qok at h
  simp only [Bool.and_eq_true, decide_eq_true_eq, beq_iff_eq, Bool.not_eq_true'] at h
  obtain ⟨h1, h2, h3⟩ := h
  unfold nrm
  rw [if_neg (by omega), ← neg_pos neg h2, h3, Nat.div_one, Nat.div_one]
  congr 1
  cases neg
  · rfl
  · simp only [Bool.true_and, decide_eq_false_iff_not] at h1
    rw [Bool.true_and, decide_eq_true_eq]
    rcases Nat.eq_zero_or_pos a with h0 | h0
    · subst h0; exact absurd (by rw [Na.digs_zero]; rfl) h1
    · exact h0
theorem ratN_zero (base : Nat) (w : World) : IsRatN base w zeroRat false 0 0 := ⟨_, _, rfl, row_nil w, row_nil w, from_nil _, from_nil _⟩
def RatPost (w : World) (r : (Bool × Nat × Nat) × Nat × Nat) (e : Ending) (w' : World) : Prop :=
  ∃ x, e = .returned (.tuple #[x, .int .i64 (r.2.1 : Int), .int .i64 (r.2.2 : Int)]) ∧ IsRatN w.heap.size w' x r.1.1 r.1.2.1 r.1.2.2 ∧ Ext w w'
theorem ratPost_err {w w' : World} {er : Nat} (h : Ext w w') : RatPost w ((false, 0, 0), 0, er) (.returned (.tuple #[zeroRat, .int .i64 0, .int .i64 (er : Int)])) w' := ⟨_, rfl, ratN_zero _ _, h⟩
theorem bsc_len {l s : List UInt8} {k : Nat} {most : Int} (h : bsc most l = .ok (s, k)) : k ≤ l.length ∧ 1 ≤ k ∧ (s.length : Int) ≤ most := by
  obtain ⟨_, h2, h3, h4⟩ := bsc_ok h
  exact ⟨h2, h3, h4⟩
end Go.Proofs.YtnenbmbgmmeiaaaDoor
