/- Plain laws of the encodings of chapter 6: numbers of seven-bit groups, zigzag. No program in sight. -/
import Derived.Lib.Hide
namespace En

/-- The bytes of a number, least group first (fuel f). -/
def uvar : Nat → Nat → List UInt8
  | 0, _ => []
  | f + 1, n => if n < 128 then [UInt8.ofNat n] else UInt8.ofNat (n % 128 + 128) :: uvar f (n / 128)

/-- What k groups ahead (their value a) make of a reading behind them. -/
def comb (k a : Nat) : Except Nat (Nat × Nat) → Except Nat (Nat × Nat)
  | .ok (n, j) => .ok (a + 128 ^ k * n, k + j)
  | .error e => .error e

/-- Reading a number: f is how many groups may still follow (9 at the start). The value and the bytes taken, or the error. -/
def usc : Nat → List UInt8 → Except Nat (Nat × Nat)
  | _, [] => .error 4
  | 0, c :: _ => if c.toNat = 1 then .ok (1, 1) else .error 3
  | f + 1, c :: l => if c.toNat < 128 then (if c.toNat = 0 ∧ f ≠ 8 then .error 3 else .ok (c.toNat, 1)) else comb 1 (c.toNat % 128) (usc f l)

theorem comb_zero (r : Except Nat (Nat × Nat)) : comb 0 0 r = r := by
  rcases r with e | ⟨n, j⟩ <;> simp [comb]
theorem comb_comb (k a c : Nat) (r : Except Nat (Nat × Nat)) : comb k a (comb 1 c r) = comb (k + 1) (a + 128 ^ k * c) r := by
  rcases r with e | ⟨n, j⟩
  · rfl
  · simp only [comb, Nat.pow_one]
    congr 2
    · rw [Nat.mul_add, Nat.pow_succ]; rw [Nat.mul_assoc]; omega
    · omega
theorem usc_nil (f : Nat) : usc f [] = .error 4 := by cases f <;> rfl
theorem usc_cons (f : Nat) (c : UInt8) (l : List UInt8) (h : ¬ c.toNat < 128) : usc (f + 1) (c :: l) = comb 1 (c.toNat % 128) (usc f l) := by
  rw [usc, if_neg h]
theorem usc_drop (f : Nat) (l : List UInt8) (p : Nat) (hp : p < l.length) (h : ¬ (l[p]).toNat < 128) :
    usc (f + 1) (l.drop p) = comb 1 ((l[p]).toNat % 128) (usc f (l.drop (p + 1))) := by
  rw [List.drop_eq_getElem_cons hp, usc_cons f _ _ h]
theorem ofNat8 {n : Nat} (h : n < 256) : (UInt8.ofNat n).toNat = n := by simp; omega
theorem pow7 (f : Nat) : 2 ^ (7 * (f + 1) + 1) = 128 * 2 ^ (7 * f + 1) := by
  rw [show 7 * (f + 1) + 1 = (7 * f + 1) + 7 by omega, Nat.pow_add, Nat.mul_comm]

theorem usc_ok (f : Nat) : ∀ (l : List UInt8) (n k : Nat), usc f l = .ok (n, k) →
    n < 2 ^ (7 * f + 1) ∧ 1 ≤ k ∧ k ≤ l.length ∧ k ≤ f + 1 ∧ (9 ≤ f ∨ f < 9 ∧ 0 < n) ∧ (f ≤ 9 → uvar (f + 1) n = l.take k) := by
  induction f with
  | zero =>
    intro l n k h
    cases l with
    | nil => simp [usc] at h
    | cons c l =>
      simp only [usc] at h
      split at h
      · rename_i hc
        simp only [Except.ok.injEq, Prod.mk.injEq] at h
        obtain ⟨rfl, rfl⟩ := h
        refine ⟨by decide, by omega, by simp, by omega, .inr ⟨by omega, by omega⟩, fun _ => ?_⟩
        simp only [uvar]
        have : c = 1 := UInt8.toNat_inj.1 (by simpa using hc)
        rw [this]; rfl
      · cases h
  | succ f ih =>
    intro l n k h
    cases l with
    | nil => simp [usc] at h
    | cons c l =>
      rw [pow7]
      have hp : 0 < 2 ^ (7 * f + 1) := Nat.pow_pos (by omega)
      simp only [usc] at h
      split at h
      · rename_i hc
        split at h
        · cases h
        · rename_i h0
          simp only [Except.ok.injEq, Prod.mk.injEq] at h
          obtain ⟨rfl, rfl⟩ := h
          refine ⟨by omega, by omega, by simp, by omega, ?_, fun _ => ?_⟩
          · by_cases e : c.toNat = 0
            · left; have : ¬ f ≠ 8 := fun h => h0 ⟨e, h⟩; omega
            · by_cases e9 : f + 1 < 9
              · right; omega
              · left; omega
          · rw [uvar, if_pos hc]; simp
      · rename_i hc
        cases hr : usc f l with
        | error e => rw [hr] at h; simp [comb] at h
        | ok p =>
          obtain ⟨n', k'⟩ := p
          rw [hr] at h
          simp only [comb, Nat.pow_one, Except.ok.injEq, Prod.mk.injEq] at h
          obtain ⟨rfl, rfl⟩ := h
          obtain ⟨h1, h2, h3, h4, h5, h6⟩ := ih l n' k' hr
          refine ⟨by omega, by omega, by simp; omega, by omega, ?_, fun hf => ?_⟩
          · by_cases e9 : f + 1 < 9
            · right; omega
            · left; omega
          · have hn : 0 < n' := by rcases h5 with h5 | h5 <;> omega
            rw [uvar, if_neg (by omega)]
            have e1 : (c.toNat % 128 + 128 * n') / 128 = n' := by omega
            have e2 : UInt8.ofNat ((c.toNat % 128 + 128 * n') % 128 + 128) = c := by
              apply UInt8.toNat_inj.1
              rw [ofNat8 (by omega)]
              have := c.toNat_lt
              omega
            rw [e1, e2, h6 (by omega)]
            rw [Nat.add_comm 1 k']; rfl
theorem usc_uvar (f : Nat) : ∀ (n : Nat) (r : List UInt8), n < 2 ^ (7 * f + 1) → (f = 9 ∨ f < 9 ∧ 0 < n) → usc f (uvar (f + 1) n ++ r) = .ok (n, (uvar (f + 1) n).length) := by
  induction f with
  | zero =>
    intro n r h h9
    have : n = 1 := by have : 2 ^ (7 * 0 + 1) = 2 := rfl; omega
    subst this
    rfl
  | succ f ih =>
    intro n r h h9
    rw [pow7] at h
    rw [uvar]
    split
    · rename_i hn
      simp only [List.cons_append, List.nil_append, usc, List.length_cons, List.length_nil]
      rw [ofNat8 (by omega), if_pos hn, if_neg (by omega)]
    · rename_i hn
      simp only [List.cons_append, usc, List.length_cons]
      rw [ofNat8 (by omega), if_neg (by omega), ih (n / 128) r (by omega) (.inr ⟨by omega, by omega⟩)]
      simp only [comb, Nat.pow_one]
      congr 2
      · omega
      · omega
theorem uvar_len (f : Nat) : ∀ n, (uvar f n).length ≤ f := by
  induction f with
  | zero => intro n; simp [uvar]
  | succ f ih =>
    intro n
    rw [uvar]; split
    · simp
    · have := ih (n / 128); simp; omega
theorem uvar_pos (f n : Nat) : 0 < (uvar (f + 1) n).length := by rw [uvar]; split <;> simp
theorem usc_uvar9 (n : Nat) (r : List UInt8) (h : n < 18446744073709551616) : usc 9 (uvar 10 n ++ r) = .ok (n, (uvar 10 n).length) :=
  usc_uvar 9 n r (by simpa using h) (.inl rfl)
theorem usc_ok9 {l : List UInt8} {n k : Nat} (h : usc 9 l = .ok (n, k)) : n < 18446744073709551616 ∧ 1 ≤ k ∧ k ≤ l.length ∧ k ≤ 10 ∧ uvar 10 n = l.take k := by
  obtain ⟨h1, h2, h3, h4, _, h6⟩ := usc_ok 9 l n k h
  exact ⟨by simpa using h1, h2, h3, h4, h6 (Nat.le_refl _)⟩

/-- The zigzag number of an int. -/
def zig (x : Int) : Nat := if x < 0 then (-2 * x - 1).toNat else (2 * x).toNat
def unzig (n : Nat) : Int := if n % 2 = 1 then -1 - ((n / 2 : Nat) : Int) else ((n / 2 : Nat) : Int)
theorem zig_lt {x : Int} (h : -9223372036854775808 ≤ x) (h2 : x ≤ 9223372036854775807) : zig x < 18446744073709551616 := by unfold zig; split <;> omega
theorem unzig_zig (x : Int) : unzig (zig x) = x := by unfold unzig zig; split <;> split <;> omega
theorem zig_unzig (n : Nat) : zig (unzig n) = n := by unfold unzig zig; split <;> split <;> omega
theorem unzig_bd {n : Nat} (h : n < 18446744073709551616) : -9223372036854775808 ≤ unzig n ∧ unzig n ≤ 9223372036854775807 := by unfold unzig; split <;> omega

/-- Reading at an offset: the value, the offset behind it and the error, as the functions return them. -/
def uat (l : List UInt8) (at_ : Int) : Nat × Nat × Nat :=
  if at_ < 0 ∨ (l.length : Int) < at_ then (0, 0, 2)
  else match usc 9 (l.drop at_.toNat) with
    | .ok (n, k) => (n, at_.toNat + k, 0)
    | .error e => (0, 0, e)
def vat (l : List UInt8) (at_ : Int) : Int × Nat × Nat := (unzig (uat l at_).1, (uat l at_).2)
theorem usc_err (f : Nat) : ∀ (l : List UInt8) (e : Nat), usc f l = .error e → e = 3 ∨ e = 4 := by
  induction f with
  | zero =>
    intro l e h
    cases l with
    | nil => simp only [usc, Except.error.injEq] at h; omega
    | cons c l =>
      simp only [usc] at h
      split at h <;> simp only [reduceCtorEq, Except.error.injEq] at h
      omega
  | succ f ih =>
    intro l e h
    cases l with
    | nil => simp only [usc, Except.error.injEq] at h; omega
    | cons c l =>
      simp only [usc] at h
      split at h
      · split at h <;> simp only [reduceCtorEq, Except.error.injEq] at h
        omega
      · cases hr : usc f l with
        | error e' => rw [hr] at h; simp only [comb, Except.error.injEq] at h; subst h; exact ih l _ hr
        | ok p => obtain ⟨n', k'⟩ := p; rw [hr] at h; simp [comb] at h
end En
