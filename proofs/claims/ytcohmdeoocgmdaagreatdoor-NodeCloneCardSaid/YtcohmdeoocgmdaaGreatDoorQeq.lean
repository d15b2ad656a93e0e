/- Numbers in lowest terms are equal by value exactly if they are the same. No program in sight. -/
import Derived.Test.YtcohmdeoocgmdaaGreatDoorR36c
namespace Go.Proofs.YtcohmdeoocgmdaaGreatDoor
theorem Nrm.facts {q : Bool × Nat × Nat} (h : Nrm q) : 0 < q.2.2 ∧ Nat.Coprime q.2.1 q.2.2 ∧ (q.1 = true → 0 < q.2.1) := by
 obtain ⟨n, a, b⟩ := q
 unfold Nrm nrm at h
 simp only at h ⊢
 split at h
 ·rename_i hb
  simp only [Prod.mk.injEq] at h
  omega
 ·rename_i hb
  simp only [Prod.mk.injEq] at h
  obtain ⟨h1, h2, h3⟩ := h
  have hg : Nat.gcd a b = 1 := by
   have hb' : 0 < b := by omega
   have := Nat.div_mul_cancel (Nat.gcd_dvd_right a b)
   rw [h3] at this
   exact Nat.eq_of_mul_eq_mul_left hb' (by omega)
  refine ⟨by omega, hg, fun hn => ?_⟩
  rw [hn] at h1
  unfold negOf at h1
  rw [Bool.and_eq_true] at h1
  have := h1.2
  rw [hg, Nat.div_one] at this
  simpa using this
theorem qeq_same {p q : Bool × Nat × Nat} (hp : Nrm p) (hq : Nrm q) : qeq p q = decide (p = q) := by
 obtain ⟨p1, p2, p3⟩ := hp.facts
 obtain ⟨q1, q2, q3⟩ := hq.facts
 rw [Bool.eq_iff_iff]
 unfold qeq qcmp
 simp only [beq_iff_eq, decide_eq_true_eq, Int.sign_eq_zero_iff_zero]
 constructor
 ·intro h
  obtain ⟨n, a, b⟩ := p
  obtain ⟨m, c, d⟩ := q
  simp only at *
  have hz : qz (n, a, b) * (d : Int) = qz (m, c, d) * (b : Int) := by simpa using (by omega : qz (n, a, b) * (d : Int) - qz (m, c, d) * (b : Int) = 0 → qz (n, a, b) * (d : Int) = qz (m, c, d) * (b : Int)) h
  have habs := congrArg Int.natAbs hz
  have hzv : ∀ (s : Bool) (x : Nat), (zv s x).natAbs = x := by intro s x; unfold zv; split <;> simp
  unfold qz at hz habs
  simp only [Int.natAbs_mul, hzv, Int.natAbs_natCast] at habs
  have hbd : b ∣ d := p2.symm.dvd_of_dvd_mul_left ⟨c, by rw [habs, Nat.mul_comm]⟩
  have hdb : d ∣ b := q2.symm.dvd_of_dvd_mul_left ⟨a, by rw [← habs, Nat.mul_comm]⟩
  obtain rfl : b = d := Nat.dvd_antisymm hbd hdb
  obtain rfl : a = c := Nat.eq_of_mul_eq_mul_right p1 habs
  have hz2 : zv n a = zv m a := Int.eq_of_mul_eq_mul_right (by omega) hz
  obtain rfl : n = m := by
   unfold zv at hz2
   cases n <;> cases m <;> simp at * <;> omega
  rfl
 ·intro h; rw [h]; omega
theorem Q6.same_eq {P Q : Q6} (hp : Nrm6 P) (hq : Nrm6 Q) : P.same Q = P.eq Q := by
 unfold Q6.same Q6.eq
 rw [qeq_same hp.1 hq.1, qeq_same hp.2.1 hq.2.1, qeq_same hp.2.2.1 hq.2.2.1, qeq_same hp.2.2.2.1 hq.2.2.2.1, qeq_same hp.2.2.2.2.1 hq.2.2.2.2.1, qeq_same hp.2.2.2.2.2 hq.2.2.2.2.2]
end Go.Proofs.YtcohmdeoocgmdaaGreatDoor
