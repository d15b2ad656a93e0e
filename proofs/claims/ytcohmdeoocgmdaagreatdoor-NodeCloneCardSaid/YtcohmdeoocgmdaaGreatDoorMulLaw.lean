/- Plain laws of multiplication by digits. -/
import Derived.Test.YtcohmdeoocgmdaaGreatDoorNat
namespace Na
theorem val_set (l : List UInt32) : ∀ (j : Nat) (d : UInt32), j < l.length → val (l.set j d) + B ^ j * (l.getD j 0).toNat = val l + B ^ j * d.toNat := by
 induction l with
 | nil => intro j d h; simp at h
 | cons c l ih =>
  intro j d h
  cases j with
  | zero => simp [val]; omega
  | succ j =>
   have h1 := ih j d (by simpa using h)
   have e1 : (c :: l).getD (j + 1) 0 = l.getD j 0 := by simp [List.getD]
   rw [e1, List.set_cons_succ]
   simp only [val, Nat.pow_succ]
   rw [Nat.mul_comm (B ^ j) B, Nat.mul_assoc, Nat.mul_assoc]
   have h2 : B * (val (l.set j d) + B ^ j * (l.getD j 0).toNat) = B * (val l + B ^ j * d.toNat) := by rw [h1]
   rw [Nat.mul_add, Nat.mul_add] at h2
   omega
/-- One digit of a row of the product: j is the place, c the carry. -/
theorem mul_step {out : List UInt32} {j c n A t : Nat} (hj : j < out.length) (hv : val out + B ^ j * c = A) (hn : n = t + (out.getD j 0).toNat + c) :
  val (out.set j (UInt32.ofNat n)) + B ^ (j + 1) * (n / B) = A + B ^ j * t := by
 have h1 := val_set out j (UInt32.ofNat n) hj
 rw [dg] at h1
 have h2 := Nat.mod_add_div n B
 have h3 : B ^ j * (n % B) + B ^ (j + 1) * (n / B) = B ^ j * n := by rw [Nat.pow_succ, Nat.mul_assoc, ← Nat.mul_add, h2]
 have h4 : B ^ j * n = B ^ j * t + B ^ j * (out.getD j 0).toNat + B ^ j * c := by rw [hn, Nat.mul_add, Nat.mul_add]
 omega
/-- The carry of a row, laid at its end, where a zero stood. -/
theorem mul_end {out : List UInt32} {j c A : Nat} (hj : j < out.length) (hv : val out + B ^ j * c = A) (h0 : out.getD j 0 = 0) (hc : c < B) : val (out.set j (UInt32.ofNat c)) = A := by
 have h1 := val_set out j (UInt32.ofNat c) hj
 rw [dg, h0, Nat.mod_eq_of_lt hc] at h1
 simp at h1
 omega
theorem set_above {out : List UInt32} {j k : Nat} {d : UInt32} (h : j < k) : (out.set j d).getD k 0 = out.getD k 0 := by
 simp only [List.getD, List.getElem?_set]
 rw [if_neg (by omega)]
end Na
namespace Na
theorem mul_row {O x V y : Nat} (i k : Nat) : O + B ^ i * (x * V) + B ^ (i + k) * (x * y) = O + B ^ i * (x * (V + B ^ k * y)) := by
 rw [Nat.pow_add, Nat.mul_add x, Nat.mul_add (B ^ i), Nat.mul_assoc (B ^ i), Nat.mul_left_comm x (B ^ k)]
 omega
theorem mul_next {V x W : Nat} (i : Nat) : V * W + B ^ i * (x * W) = (V + B ^ i * x) * W := by rw [Nat.add_mul, Nat.mul_assoc]
/-- Above place j there is nothing but zeros. -/
def Clear (j : Nat) (l : List UInt32) : Prop := ∀ i, j ≤ i → l.getD i 0 = 0
theorem Clear.set {j k : Nat} {l : List UInt32} {d : UInt32} (h : Clear j l) (hk : k < j) : Clear j (l.set k d) := fun i hi => by rw [set_above (by omega)]; exact h i hi
theorem Clear.set_at {j : Nat} {l : List UInt32} {d : UInt32} (h : Clear j l) : Clear (j + 1) (l.set j d) := fun i hi => by rw [set_above (by omega)]; exact h i (by omega)
theorem Clear.mono {j k : Nat} {l : List UInt32} (h : Clear j l) (hk : j ≤ k) : Clear k l := fun i hi => h i (by omega)
theorem clear_rep (n : Nat) : Clear 0 (List.replicate n 0) := fun i _ => by
 simp only [List.getD, List.getElem?_replicate]; split <;> rfl
end Na
