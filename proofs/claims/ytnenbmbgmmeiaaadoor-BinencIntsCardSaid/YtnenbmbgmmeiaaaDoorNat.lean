/- Natural numbers as lists of digits in base 2^32, least significant first. No program in sight. -/
import Derived.Lib.Hide
namespace Na
def B : Nat := 4294967296
theorem B_pos : 0 < B := by decide
theorem B_two : 1 < B := by decide
def val : List UInt32 → Nat
  | [] => 0
  | d :: l => d.toNat + B * val l
/-- No zero digit at the end. -/
def norm (l : List UInt32) : Prop := l.getLast? ≠ some 0
def digsF : Nat → Nat → List UInt32
  | 0, _ => []
  | f + 1, n => if n = 0 then [] else UInt32.ofNat n :: digsF f (n / B)
def digs (n : Nat) : List UInt32 := digsF n n

theorem val_append (l m : List UInt32) : val (l ++ m) = val l + B ^ l.length * val m := by
  induction l with
  | nil => simp [val]
  | cons d l ih => simp only [List.cons_append, val, ih, List.length_cons, Nat.pow_succ, Nat.mul_add]; rw [Nat.mul_comm (B ^ l.length) B, Nat.mul_assoc]; omega
theorem val_lt (l : List UInt32) : val l < B ^ l.length := by
  induction l with
  | nil => simp [val]
  | cons d l ih =>
    have hd : d.toNat < B := d.toNat_lt
    simp only [val, List.length_cons, Nat.pow_succ]
    have : B * val l + B ≤ B ^ l.length * B := by
      rw [Nat.mul_comm (B ^ l.length)]; rw [← Nat.mul_succ]; exact Nat.mul_le_mul_left _ ih
    omega
theorem val_zeros (n : Nat) : val (List.replicate n 0) = 0 := by
  induction n with
  | zero => rfl
  | succ n ih => simp [List.replicate_succ, val, ih]
theorem digsF_val (f : Nat) : ∀ n, n ≤ f → val (digsF f n) = n := by
  induction f with
  | zero => intro n h; simp [digsF, val]; omega
  | succ f ih =>
    intro n h
    unfold digsF
    split
    · rename_i h0; subst h0; rfl
    · rename_i h0
      have hlt : n / B < n := Nat.div_lt_self (by omega) B_two
      simp only [val]
      rw [ih (n / B) (by omega)]
      have : (UInt32.ofNat n).toNat = n % B := by simp [B]
      rw [this]
      exact Nat.mod_add_div n B
theorem val_digs (n : Nat) : val (digs n) = n := digsF_val n n (Nat.le_refl _)
theorem digsF_norm (f : Nat) : ∀ n, n ≤ f → norm (digsF f n) := by
  induction f with
  | zero => intro n _; simp [digsF, norm]
  | succ f ih =>
    intro n h
    unfold digsF
    split
    · simp [norm]
    · rename_i h0
      have hlt : n / B < n := Nat.div_lt_self (by omega) B_two
      have hn := ih (n / B) (by omega)
      have hv := digsF_val f (n / B) (by omega)
      unfold norm at hn ⊢
      generalize digsF f (n / B) = l at hn hv
      cases l with
      | nil =>
        simp only [List.getLast?_singleton]
        intro he
        have h1 := congrArg UInt32.toNat (Option.some.inj he)
        have h2 : (UInt32.ofNat n).toNat = n % B := by simp [B]
        rw [h2] at h1
        simp [val] at hv
        have := Nat.mod_add_div n B
        rw [← hv] at this
        simp at h1
        omega
      | cons a l => simpa [List.getLast?_cons_cons] using hn
theorem digs_norm (n : Nat) : norm (digs n) := digsF_norm n n (Nat.le_refl _)
theorem norm_tail {d : UInt32} {l : List UInt32} (h : norm (d :: l)) : norm l := by
  cases l with
  | nil => simp [norm]
  | cons a l => unfold norm at h ⊢; simpa [List.getLast?_cons_cons] using h
theorem val_eq_zero {l : List UInt32} (h : norm l) (h0 : val l = 0) : l = [] := by
  induction l with
  | nil => rfl
  | cons d l ih =>
    simp only [val] at h0
    have hl : val l = 0 := by
      rcases Nat.eq_zero_or_pos (val l) with e | e
      · exact e
      · have : 0 < B * val l := Nat.mul_pos B_pos e
        omega
    have := ih (norm_tail h) hl
    subst this
    have hd : d = 0 := UInt32.toNat_inj.1 (by simp; omega)
    subst hd
    exact (h rfl).elim
theorem norm_inj {l : List UInt32} : ∀ {m : List UInt32}, norm l → norm m → val l = val m → l = m := by
  induction l with
  | nil => intro m _ hm h; exact (val_eq_zero hm h.symm).symm
  | cons d l ih =>
    intro m hl hm h
    cases m with
    | nil => exact val_eq_zero hl h
    | cons e m =>
      simp only [val] at h
      have hd : d.toNat < B := d.toNat_lt
      have he : e.toNat < B := e.toNat_lt
      have h1 : d.toNat = e.toNat := by
        have := congrArg (· % B) h
        simpa [Nat.mod_eq_of_lt hd, Nat.mod_eq_of_lt he] using this
      have h2 : val l = val m := by
        have : B * val l = B * val m := by omega
        exact Nat.eq_of_mul_eq_mul_left B_pos this
      rw [UInt32.toNat_inj.1 h1, ih (norm_tail hl) (norm_tail hm) h2]
theorem digs_val {l : List UInt32} (h : norm l) : digs (val l) = l := norm_inj (digs_norm _) h (val_digs _)
theorem digs_zero : digs 0 = [] := rfl
theorem digs_eq_nil {n : Nat} : digs n = [] ↔ n = 0 := by
  constructor
  · intro h; have := val_digs n; rw [h] at this; simpa [val] using this.symm
  · intro h; rw [h]; rfl
theorem norm_of_last {l : List UInt32} (h : 0 < l.length) (hn : l[l.length - 1] ≠ 0) : norm l := by
  unfold norm
  rw [List.getLast?_eq_getElem?, List.getElem?_eq_getElem (by omega)]
  simpa using hn
theorem last_ne {l : List UInt32} (h : norm l) (hp : 0 < l.length) : l[l.length - 1] ≠ 0 := by
  unfold norm at h
  rw [List.getLast?_eq_getElem?, List.getElem?_eq_getElem (by omega)] at h
  simpa using h
/-- A list with k digits and a last digit that is not zero is at least B^(k-1). -/
theorem le_val {l : List UInt32} (h : norm l) (hp : 0 < l.length) : B ^ (l.length - 1) ≤ val l := by
  induction l with
  | nil => simp at hp
  | cons d l ih =>
    cases l with
    | nil =>
      have := last_ne h (by simp)
      simp only [val, List.length_cons, List.length_nil]
      have hd : d.toNat ≠ 0 := fun e => this (UInt32.toNat_inj.1 (by simpa using e))
      simp; omega
    | cons a m =>
      have := ih (norm_tail h) (by simp)
      simp only [List.length_cons, Nat.add_sub_cancel] at this ⊢
      have e : val (d :: a :: m) = d.toNat + B * val (a :: m) := rfl
      rw [e, Nat.pow_succ]
      have := Nat.mul_le_mul_left B this
      rw [Nat.mul_comm] at this
      omega
theorem length_le {l : List UInt32} {k : Nat} (h : norm l) (hv : val l < B ^ k) : l.length ≤ k := by
  rcases Nat.lt_or_ge k l.length with hk | hk
  · have h1 := le_val h (by omega)
    have h2 : B ^ k ≤ B ^ (l.length - 1) := Nat.pow_le_pow_right B_pos (by omega)
    omega
  · exact hk
theorem digs_length_le {n k : Nat} (h : n < B ^ k) : (digs n).length ≤ k := length_le (digs_norm n) (by rw [val_digs]; exact h)
theorem val_take_drop (l : List UInt32) (k : Nat) (hk : k ≤ l.length) : val l = val (l.take k) + B ^ k * val (l.drop k) := by
  conv => lhs; rw [← List.take_append_drop k l]
  rw [val_append]; simp [Nat.min_eq_left hk]
theorem val_snoc (l : List UInt32) (d : UInt32) : val (l ++ [d]) = val l + B ^ l.length * d.toNat := by
  rw [val_append]; simp [val]
theorem val_take_succ (l : List UInt32) (k : Nat) (h : k < l.length) : val (l.take (k + 1)) = val (l.take k) + B ^ k * l[k].toNat := by
  rw [List.take_succ_eq_append_getElem h, val_snoc]; simp [Nat.min_eq_left (Nat.le_of_lt h)]
theorem val_drop (l : List UInt32) (k : Nat) (h : k < l.length) : val (l.drop k) = l[k].toNat + B * val (l.drop (k + 1)) := by
  rw [List.drop_eq_getElem_cons h]; rfl
theorem digs_eq_take {l : List UInt32} {n : Nat} (hn : n ≤ l.length) (hv : val (l.take n) = val l) (h : n = 0 ∨ ∃ h : n - 1 < l.length, l[n - 1] ≠ 0) : digs (val l) = l.take n := by
  rw [← hv]
  apply digs_val
  rcases h with rfl | ⟨h1, h2⟩
  · simp [norm]
  · rcases Nat.eq_zero_or_pos n with rfl | hp
    · simp [norm]
    · have hl : (l.take n).length = n := by simp [Nat.min_eq_left hn]
      apply norm_of_last (by omega)
      simp only [hl]
      rw [List.getElem_take]
      exact h2
end Na
