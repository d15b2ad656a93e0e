/- Plain laws of the encodings of chapter 6: numbers of seven-bit groups, zigzag. No program in sight. -/
import Derived.Lib.Hide
namespace En

/-- The bytes of a number, least group first (fuel f). -/
def uvar : Nat → Nat → List UInt8
  | 0, _ => []
  | f + 1, n => if n < 128 then [UInt8.ofNat n] else UInt8.ofNat (n % 128 + 128) :: uvar f (n / 128)

/-- What k groups ahead (their value a) make of a reading behind them. -/
def comb (k a : Nat) : Except Nat (Nat × Nat) → Except Nat (Nat × Nat)
  | .ok (n, j) => .ok (a + 128 ^ k * n, k + j)
  | .error e => .error e

/-- Reading a number: f is how many groups may still follow (9 at the start). The value and the bytes taken, or the error. -/
def usc : Nat → List UInt8 → Except Nat (Nat × Nat)
  | _, [] => .error 4
  | 0, c :: _ => if c.toNat = 1 then .ok (1, 1) else .error 3
  | f + 1, c :: l => if c.toNat < 128 then (if c.toNat = 0 ∧ f ≠ 8 then .error 3 else .ok (c.toNat, 1)) else comb 1 (c.toNat % 128) (usc f l)

theorem comb_zero (r : Except Nat (Nat × Nat)) : comb 0 0 r = r := by
  rcases r with e | ⟨n, j⟩ <;> simp [comb]
theorem comb_comb (k a c : Nat) (r : Except Nat (Nat × Nat)) : comb k a (comb 1 c r) = comb (k + 1) (a + 128 ^ k * c) r := by
  rcases r with e | ⟨n, j⟩
  · rfl
  · simp only [comb, Nat.pow_one]
    congr 2
    · rw [Nat.mul_add, Nat.pow_succ]; rw [Nat.mul_assoc]; omega
    · omega
theorem usc_nil (f : Nat) : usc f [] = .error 4 := by cases f <;> rfl
theorem usc_cons (f : Nat) (c : UInt8) (l : List UInt8) (h : ¬ c.toNat < 128) : usc (f + 1) (c :: l) = comb 1 (c.toNat % 128) (usc f l) := by
  rw [usc, if_neg h]
theorem usc_drop (f : Nat) (l : List UInt8) (p : Nat) (hp : p < l.length) (h : ¬ (l[p]).toNat < 128) :
    usc (f + 1) (l.drop p) = comb 1 ((l[p]).toNat % 128) (usc f (l.drop (p + 1))) := by
  rw [List.drop_eq_getElem_cons hp, usc_cons f _ _ h]
theorem ofNat8 {n : Nat} (h : n < 256) : (UInt8.ofNat n).toNat = n := by simp; omega
theorem pow7 (f : Nat) : 2 ^ (7 * (f + 1) + 1) = 128 * 2 ^ (7 * f + 1) := by
  rw [show 7 * (f + 1) + 1 = (7 * f + 1) + 7 by omega, Nat.pow_add, Nat.mul_comm]

theorem usc_ok (f : Nat) : ∀ (l : List UInt8) (n k : Nat), usc f l = .ok (n, k) →
    n < 2 ^ (7 * f + 1) ∧ 1 ≤ k ∧ k ≤ l.length ∧ k ≤ f + 1 ∧ (9 ≤ f ∨ f < 9 ∧ 0 < n) ∧ (f ≤ 9 → uvar (f + 1) n = l.take k) := by
  induction f with
  | zero =>
    intro l n k h
    cases l with
    | nil => simp [usc] at h
    | cons c l =>
      simp only [usc] at h
      split at h
      · rename_i hc
        simp only [Except.ok.injEq, Prod.mk.injEq] at h
        obtain ⟨rfl, rfl⟩ := h
        refine ⟨by decide, by omega, by simp, by omega, .inr ⟨by omega, by omega⟩, fun _ => ?_⟩
        simp only [uvar]
        have : c = 1 := UInt8.toNat_inj.1 (by simpa using hc)
        rw [this]; rfl
      · cases h
  | succ f ih =>
    intro l n k h
    cases l with
    | nil => simp [usc] at h
    | cons c l =>
      rw [pow7]
      have hp : 0 < 2 ^ (7 * f + 1) := Nat.pow_pos (by omega)
      simp only [usc] at h
      split at h
      · rename_i hc
        split at h
        · cases h
        · rename_i h0
          simp only [Except.ok.injEq, Prod.mk.injEq] at h
          obtain ⟨rfl, rfl⟩ := h
          refine ⟨by omega, by omega, by simp, by omega, ?_, fun _ => ?_⟩
          · by_cases e : c.toNat = 0
            · left; have : ¬ f ≠ 8 := fun h => h0 ⟨e, h⟩; omega
            · by_cases e9 : f + 1 < 9
              · right; omega
              · left; omega
          · rw [uvar, if_pos hc]; simp
      · rename_i hc
        cases hr : usc f l with
        | error e => rw [hr] at h; simp [comb] at h
        | ok p =>
          obtain ⟨n', k'⟩ := p
          rw [hr] at h
          simp only [comb, Nat.pow_one, Except.ok.injEq, Prod.mk.injEq] at h
          obtain ⟨rfl, rfl⟩ := h
          obtain ⟨h1, h2, h3, h4, h5, h6⟩ := ih l n' k' hr
          refine ⟨by omega, by omega, by simp; omega, by omega, ?_, fun hf => ?_⟩
          · by_cases e9 : f + 1 < 9
            · right; omega
            · left; omega
          · have hn : 0 < n' := by rcases h5 with h5 | h5 <;> omega
            rw [uvar, if_neg (by omega)]
            have e1 : (c.toNat % 128 + 128 * n') / 128 = n' := by omega
            have e2 : UInt8.ofNat ((c.toNat % 128 + 128 * n') % 128 + 128) = c := by
              apply UInt8.toNat_inj.1
              rw [ofNat8 (by omega)]
              have := c.toNat_lt
              omega
            rw [e1, e2, h6 (by omega)]
            rw [Nat.add_comm 1 k']; rfl
theorem usc_uvar (f : Nat) : ∀ (n : Nat) (r : List UInt8), n < 2 ^ (7 * f + 1) → (f = 9 ∨ f < 9 ∧ 0 < n) → usc f (uvar (f + 1) n ++ r) = .ok (n, (uvar (f + 1) n).length) := by
  induction f with
  | zero =>
    intro n r h h9
    have : n = 1 := by have : 2 ^ (7 * 0 + 1) = 2 := rfl; omega
    subst this
    rfl
  | succ f ih =>
    intro n r h h9
    rw [pow7] at h
    rw [uvar]
    split
    · rename_i hn
      simp only [List.cons_append, List.nil_append, usc, List.length_cons, List.length_nil]
      rw [ofNat8 (by omega), if_pos hn, if_neg (by omega)]
    · rename_i hn
      simp only [List.cons_append, usc, List.length_cons]
      rw [ofNat8 (by omega), if_neg (by omega), ih (n / 128) r (by omega) (.inr ⟨by omega, by omega⟩)]
      simp only [comb, Nat.pow_one]
      congr 2
      · omega
      · omega
theorem uvar_len (f : Nat) : ∀ n, (uvar f n).length ≤ f := by
  induction f with
  | zero => intro n; simp [uvar]
  | succ f ih =>
    intro n
    rw [uvar]; split
    · simp
    · have := ih (n / 128); simp; omega
theorem uvar_pos (f n : Nat) : 0 < (uvar (f + 1) n).length := by rw [uvar]; split <;> simp
theorem usc_uvar9 (n : Nat) (r : List UInt8) (h : n < 18446744073709551616) : usc 9 (uvar 10 n ++ r) = .ok (n, (uvar 10 n).length) :=
  usc_uvar 9 n r (by simpa using h) (.inl rfl)
theorem usc_ok9 {l : List UInt8} {n k : Nat} (h : usc 9 l = .ok (n, k)) : n < 18446744073709551616 ∧ 1 ≤ k ∧ k ≤ l.length ∧ k ≤ 10 ∧ uvar 10 n = l.take k := by
  obtain ⟨h1, h2, h3, h4, _, h6⟩ := usc_ok 9 l n k h
  exact ⟨by simpa using h1, h2, h3, h4, h6 (Nat.le_refl _)⟩

/-- The zigzag number of an int. -/
def zig (x : Int) : Nat := if x < 0 then (-2 * x - 1).toNat else (2 * x).toNat
def unzig (n : Nat) : Int := if n % 2 = 1 then -1 - ((n / 2 : Nat) : Int) else ((n / 2 : Nat) : Int)
theorem zig_lt {x : Int} (h : -9223372036854775808 ≤ x) (h2 : x ≤ 9223372036854775807) : zig x < 18446744073709551616 := by unfold zig; split <;> omega
theorem unzig_zig (x : Int) : unzig (zig x) = x := by unfold unzig zig; split <;> split <;> omega
theorem zig_unzig (n : Nat) : zig (unzig n) = n := by unfold unzig zig; split <;> split <;> omega
theorem unzig_bd {n : Nat} (h : n < 18446744073709551616) : -9223372036854775808 ≤ unzig n ∧ unzig n ≤ 9223372036854775807 := by unfold unzig; split <;> omega

/-- Reading at an offset: the value, the offset behind it and the error, as the functions return them. -/
def uat (l : List UInt8) (at_ : Int) : Nat × Nat × Nat :=
  if at_ < 0 ∨ (l.length : Int) < at_ then (0, 0, 2)
  else match usc 9 (l.drop at_.toNat) with
    | .ok (n, k) => (n, at_.toNat + k, 0)
    | .error e => (0, 0, e)
def vat (l : List UInt8) (at_ : Int) : Int × Nat × Nat := (unzig (uat l at_).1, (uat l at_).2)
theorem usc_err (f : Nat) : ∀ (l : List UInt8) (e : Nat), usc f l = .error e → e = 3 ∨ e = 4 := by
  induction f with
  | zero =>
    intro l e h
    cases l with
    | nil => simp only [usc, Except.error.injEq] at h; omega
    | cons c l =>
      simp only [usc] at h
      split at h <;> simp only [reduceCtorEq, Except.error.injEq] at h
      omega
  | succ f ih =>
    intro l e h
    cases l with
    | nil => simp only [usc, Except.error.injEq] at h; omega
    | cons c l =>
      simp only [usc] at h
      split at h
      · split at h <;> simp only [reduceCtorEq, Except.error.injEq] at h
        omega
      · cases hr : usc f l with
        | error e' => rw [hr] at h; simp only [comb, Except.error.injEq] at h; subst h; exact ih l _ hr
        | ok p => obtain ⟨n', k'⟩ := p; rw [hr] at h; simp [comb] at h
end En
/- Plain laws of the encodings of chapter 6: byte slices, delta coded ints, runs. No program in sight. -/
namespace En
variable {α : Type}

/-- Reading a byte slice: the bytes and how many were taken, or the error. -/
def bsc (most : Int) (l : List UInt8) : Except Nat (List UInt8 × Nat) :=
  match usc 9 l with
  | .error e => .error e
  | .ok (n, k) => if most < 0 ∨ most < (n : Int) then .error 5 else if l.length - k < n then .error 4 else .ok ((l.drop k).take n, k + n)
def bat (l : List UInt8) (at_ most : Int) : List UInt8 × Nat × Nat :=
  if at_ < 0 ∨ (l.length : Int) < at_ then ([], 0, 2)
  else match bsc most (l.drop at_.toNat) with
    | .ok (s, k) => (s, at_.toNat + k, 0)
    | .error e => ([], 0, e)
def putB (s : List UInt8) : List UInt8 := uvar 10 s.length ++ s
theorem bsc_ok {most : Int} {l s : List UInt8} {k : Nat} (h : bsc most l = .ok (s, k)) : putB s = l.take k ∧ k ≤ l.length ∧ 1 ≤ k ∧ (s.length : Int) ≤ most := by
  unfold bsc at h
  cases hu : usc 9 l with
  | error e => rw [hu] at h; simp at h
  | ok p =>
    obtain ⟨n, j⟩ := p
    rw [hu] at h
    simp only at h
    obtain ⟨h1, h2, h3, h4, h5⟩ := usc_ok9 hu
    split at h
    · cases h
    split at h
    · cases h
    rename_i g1 g2
    simp only [Except.ok.injEq, Prod.mk.injEq] at h
    obtain ⟨rfl, rfl⟩ := h
    have hl : ((l.drop j).take n).length = n := by simp; omega
    refine ⟨?_, by omega, by omega, by omega⟩
    unfold putB
    rw [hl, h5, ← List.take_add]
theorem bsc_putB (s r : List UInt8) (most : Int) (h : (s.length : Int) ≤ most) (hs : s.length < 18446744073709551616) : bsc most (putB s ++ r) = .ok (s, (putB s).length) := by
  unfold bsc putB
  rw [List.append_assoc, usc_uvar9 _ _ hs]
  simp only
  rw [if_neg (by omega), if_neg (by simp)]
  simp

/-- An int out of 64 bits. -/
def w64 (x : Int) : Int := (x + 9223372036854775808) % 18446744073709551616 - 9223372036854775808
theorem w64_id {x : Int} (h : -9223372036854775808 ≤ x) (h2 : x ≤ 9223372036854775807) : w64 x = x := by unfold w64; omega
theorem w64_bd (x : Int) : -9223372036854775808 ≤ w64 x ∧ w64 x ≤ 9223372036854775807 := by unfold w64; omega
theorem w64_add (a b : Int) (h : -9223372036854775808 ≤ b) (h2 : b ≤ 9223372036854775807) : w64 (a + w64 (b - a)) = b := by unfold w64; omega

def deltas : Int → List Int → List UInt8
  | _, [] => []
  | last, x :: xs => uvar 10 (zig (w64 (x - last))) ++ deltas x xs
def putI (l : List Int) : List UInt8 := uvar 10 l.length ++ deltas 0 l
/-- Reading m delta coded ints from offset p: the ints and the offset behind them, or the error. -/
def isc (l : List UInt8) : Nat → Int → Nat → Except Nat (List Int × Nat)
  | 0, _, p => .ok ([], p)
  | m + 1, last, p =>
    match usc 9 (l.drop p) with
    | .error e => .error e
    | .ok (u, k) =>
      match isc l m (w64 (last + unzig u)) (p + k) with
      | .error e => .error e
      | .ok (vs, q) => .ok (w64 (last + unzig u) :: vs, q)
def iat (l : List UInt8) (at_ most : Int) : List Int × Nat × Nat :=
  if at_ < 0 ∨ (l.length : Int) < at_ then ([], 0, 2)
  else match usc 9 (l.drop at_.toNat) with
    | .error e => ([], 0, e)
    | .ok (n, k) => if most < 0 ∨ most < (n : Int) then ([], 0, 5) else
      match isc l n 0 (at_.toNat + k) with
      | .error e => ([], 0, e)
      | .ok (vs, q) => (vs, q, 0)
/-- What ints read ahead make of a reading behind them. -/
def pre (done : List α) : Except Nat (List α × Nat) → Except Nat (List α × Nat)
  | .error e => .error e
  | .ok (vs, q) => .ok (done ++ vs, q)
theorem pre_nil (r : Except Nat (List α × Nat)) : pre [] r = r := by rcases r with e | ⟨v, q⟩ <;> rfl
theorem pre_pre (a b : List α) (r : Except Nat (List α × Nat)) : pre a (pre b r) = pre (a ++ b) r := by rcases r with e | ⟨v, q⟩ <;> simp [pre]
theorem isc_succ {l : List UInt8} {m : Nat} {last : Int} {p u k : Nat} (h : usc 9 (l.drop p) = .ok (u, k)) : isc l (m + 1) last p = pre [w64 (last + unzig u)] (isc l m (w64 (last + unzig u)) (p + k)) := by
  simp only [isc, h]
  cases isc l m (w64 (last + unzig u)) (p + k) with
  | error e => rfl
  | ok q => rfl
theorem isc_fail {l : List UInt8} {m : Nat} {last : Int} {p e : Nat} (h : usc 9 (l.drop p) = .error e) : isc l (m + 1) last p = .error e := by
  simp only [isc, h]
theorem isc_ok (l : List UInt8) : ∀ (m : Nat) (last : Int) (p q : Nat) (vs : List Int), isc l m last p = .ok (vs, q) → p ≤ l.length → -9223372036854775808 ≤ last → last ≤ 9223372036854775807 →
    vs.length = m ∧ p + m ≤ q ∧ q ≤ l.length ∧ deltas last vs = (l.take q).drop p := by
  intro m
  induction m with
  | zero =>
    intro last p q vs h hp _ _
    simp only [isc, Except.ok.injEq, Prod.mk.injEq] at h
    obtain ⟨rfl, rfl⟩ := h
    simp [deltas, hp]
  | succ m ih =>
    intro last p q vs h hp hl1 hl2
    cases hu : usc 9 (l.drop p) with
    | error e => rw [isc_fail hu] at h; cases h
    | ok r =>
      obtain ⟨u, k⟩ := r
      rw [isc_succ hu] at h
      obtain ⟨h1, h2, h3, h4, h5⟩ := usc_ok9 hu
      simp only [List.length_drop] at h3
      have hb := w64_bd (last + unzig u)
      cases hi : isc l m (w64 (last + unzig u)) (p + k) with
      | error e => rw [hi] at h; cases h
      | ok r =>
        obtain ⟨vs', q'⟩ := r
        rw [hi] at h
        simp only [pre, Except.ok.injEq, Prod.mk.injEq, List.cons_append, List.nil_append] at h
        obtain ⟨rfl, rfl⟩ := h
        obtain ⟨i1, i2, i3, i4⟩ := ih _ _ _ _ hi (by omega) hb.1 hb.2
        refine ⟨by simp [i1], by omega, i3, ?_⟩
        simp only [deltas]
        have hz := unzig_bd h1
        have e : w64 (w64 (last + unzig u) - last) = unzig u := by unfold w64; omega
        rw [e, zig_unzig, h5, i4]
        rw [List.drop_take, List.drop_take]
        have : q' - p = k + (q' - (p + k)) := by omega
        rw [this, List.take_add, List.drop_drop]
theorem isc_deltas (vs : List Int) : ∀ (last : Int) (l : List UInt8) (p : Nat) (r : List UInt8), l.drop p = deltas last vs ++ r → (∀ x ∈ vs, -9223372036854775808 ≤ x ∧ x ≤ 9223372036854775807) →
    isc l vs.length last p = .ok (vs, p + (deltas last vs).length) := by
  induction vs with
  | nil => intro last l p r h _; rfl
  | cons x xs ih =>
    intro last l p r h hb
    simp only [deltas, List.append_assoc] at h
    have hw := w64_bd (x - last)
    have hz := zig_lt hw.1 hw.2
    have hu : usc 9 (l.drop p) = .ok (zig (w64 (x - last)), (uvar 10 (zig (w64 (x - last)))).length) := by rw [h]; exact usc_uvar9 _ _ hz
    have hx := hb x (by simp)
    rw [List.length_cons, isc_succ hu, unzig_zig, w64_add last x hx.1 hx.2]
    rw [ih x l _ r ?_ (fun y hy => hb y (by simp [hy]))]
    · simp [pre, deltas, Nat.add_assoc]
    · rw [← List.drop_drop, h]; simp

/-- The maximal runs of a byte string. -/
def runs : List UInt8 → List (Nat × UInt8)
  | [] => []
  | c :: l => match runs l with
    | [] => [(1, c)]
    | (n, d) :: r => if d = c then (n + 1, d) :: r else (1, c) :: (n, d) :: r
def runsB : List (Nat × UInt8) → List UInt8
  | [] => []
  | (n, c) :: r => uvar 10 n ++ c :: runsB r
def putR (s : List UInt8) : List UInt8 := uvar 10 (runs s).length ++ runsB (runs s)
def flat : List (Nat × UInt8) → List UInt8
  | [] => []
  | (n, c) :: r => List.replicate n c ++ flat r
/-- Runs that are maximal: none is empty, no two neighbours have one value; the first differs from last. -/
def good : Option UInt8 → List (Nat × UInt8) → Prop
  | _, [] => True
  | last, (n, c) :: r => 0 < n ∧ last ≠ some c ∧ good (some c) r
/-- Reading m runs from offset p. -/
def rsc (l : List UInt8) (most : Int) : Nat → Option UInt8 → Nat → Nat → Except Nat (List (Nat × UInt8) × Nat)
  | 0, _, _, p => .ok ([], p)
  | m + 1, last, len, p =>
    match usc 9 (l.drop p) with
    | .error e => .error e
    | .ok (u, k) =>
      if l.length ≤ p + k then .error 4 else
      if u = 0 ∨ last = some (l.getD (p + k) 0) then .error 3 else
      if most < ((len + u : Nat) : Int) then .error 5 else
      match rsc l most m (some (l.getD (p + k) 0)) (len + u) (p + k + 1) with
      | .error e => .error e
      | .ok (vs, q) => .ok ((u, l.getD (p + k) 0) :: vs, q)
def rat (l : List UInt8) (at_ most : Int) : List UInt8 × Nat × Nat :=
  if at_ < 0 ∨ (l.length : Int) < at_ then ([], 0, 2)
  else match usc 9 (l.drop at_.toNat) with
    | .error e => ([], 0, e)
    | .ok (n, k) => if most < 0 then ([], 0, 5) else
      match rsc l most n none 0 (at_.toNat + k) with
      | .error e => ([], 0, e)
      | .ok (vs, q) => (flat vs, q, 0)

theorem good_runs (s : List UInt8) : (∀ last, (∀ c, s.head? = some c → last ≠ some c) → good last (runs s)) ∧ flat (runs s) = s ∧ (∀ c n r, runs s = (n, c) :: r → s.head? = some c) := by
  induction s with
  | nil => simp [runs, good, flat]
  | cons c l ih =>
    obtain ⟨h1, h2, h3⟩ := ih
    cases hr : runs l with
    | nil =>
      rw [hr] at h2
      simp only [runs, hr, good, flat] at h2 ⊢
      subst h2
      refine ⟨fun last h => ⟨by omega, h c rfl, trivial⟩, rfl, ?_⟩
      intro c' n' r' he; simp only [List.cons.injEq, Prod.mk.injEq] at he; simp [he.1.2]
    | cons x r =>
      obtain ⟨n, d⟩ := x
      have hd := h3 d n r hr
      rw [hr] at h2
      simp only [runs, hr]
      simp only [flat] at h2
      split
      · rename_i e
        subst e
        refine ⟨fun last h => ?_, ?_, ?_⟩
        · have := h1 none (by simp)
          rw [hr] at this
          simp only [good] at this ⊢
          exact ⟨by omega, h d rfl, this.2.2⟩
        · simp only [flat, List.replicate_succ, List.cons_append, h2]
        · intro c' n' r' he; simp only [List.cons.injEq, Prod.mk.injEq] at he; simp [he.1.2]
      · rename_i e
        refine ⟨fun last h => ?_, ?_, ?_⟩
        · have := h1 (some c) (by intro c' hc'; rw [hd] at hc'; simp only [Option.some.injEq] at hc' ⊢; exact fun e' => e (hc'.trans (Option.some.inj e').symm))
          rw [hr] at this
          simp only [good] at this ⊢
          exact ⟨by omega, h c rfl, this⟩
        · simp only [flat, List.replicate_succ, List.replicate_zero, List.cons_append, List.nil_append, h2]
        · intro c' n' r' he; simp only [List.cons.injEq, Prod.mk.injEq] at he; simp [he.1.2]
theorem flat_good (r : List (Nat × UInt8)) : ∀ last, good last r → runs (flat r) = r := by
  induction r with
  | nil => intro _ _; rfl
  | cons x r ih =>
    obtain ⟨n, c⟩ := x
    intro last h
    simp only [good] at h
    obtain ⟨hn, _, hg⟩ := h
    have hr := ih _ hg
    simp only [flat]
    have key : ∀ k, runs (List.replicate (k + 1) c ++ flat r) = (k + 1, c) :: r := by
      intro k
      induction k with
      | zero =>
        simp only [List.replicate_succ, List.replicate_zero, List.cons_append, List.nil_append, runs, hr]
        cases r with
        | nil => rfl
        | cons y r' =>
          obtain ⟨m, d⟩ := y
          simp only [good] at hg
          simp only
          rw [if_neg (fun e => hg.2.1 (by rw [e]))]
      | succ k ihk =>
        rw [List.replicate_succ, List.cons_append, runs, ihk]
        simp
    obtain ⟨m, rfl⟩ : ∃ m, n = m + 1 := ⟨n - 1, by omega⟩
    exact key m
theorem rsc_ok (l : List UInt8) (most : Int) : ∀ (m : Nat) (last : Option UInt8) (len p q : Nat) (vs : List (Nat × UInt8)), rsc l most m last len p = .ok (vs, q) → p ≤ l.length → (len : Int) ≤ most →
    vs.length = m ∧ p + m ≤ q ∧ q ≤ l.length ∧ good last vs ∧ runsB vs = (l.take q).drop p ∧ ((len + (flat vs).length : Nat) : Int) ≤ most := by
  intro m
  induction m with
  | zero =>
    intro last len p q vs h hp hm
    simp only [rsc, Except.ok.injEq, Prod.mk.injEq] at h
    obtain ⟨rfl, rfl⟩ := h
    simp [runsB, good, flat, hp, hm]
  | succ m ih =>
    intro last len p q vs h hp hm
    simp only [rsc] at h
    cases hu : usc 9 (l.drop p) with
    | error e => rw [hu] at h; cases h
    | ok r =>
      obtain ⟨u, k⟩ := r
      rw [hu] at h
      simp only at h
      obtain ⟨h1, h2, h3, h4, h5⟩ := usc_ok9 hu
      simp only [List.length_drop] at h3
      split at h
      · cases h
      split at h
      · cases h
      split at h
      · cases h
      rename_i g1 g2 g3
      cases hi : rsc l most m (some (l.getD (p + k) 0)) (len + u) (p + k + 1) with
      | error e => rw [hi] at h; cases h
      | ok r =>
        obtain ⟨vs', q'⟩ := r
        rw [hi] at h
        simp only [Except.ok.injEq, Prod.mk.injEq] at h
        obtain ⟨rfl, rfl⟩ := h
        obtain ⟨i1, i2, i3, i4, i5, i6⟩ := ih _ _ _ _ _ hi (by omega) (by omega)
        refine ⟨by simp [i1], by omega, i3, ?_, ?_, ?_⟩
        · simp only [good]
          exact ⟨by omega, fun e => g2 (.inr e), i4⟩
        · simp only [runsB, h5, i5]
          have hlt : p + k < l.length := by omega
          have e0 : l.getD (p + k) 0 = l[p + k] := by simp [List.getD, List.getElem?_eq_getElem hlt]
          rw [e0, List.drop_take, List.drop_take]
          have e1 : q' - p = k + (1 + (q' - (p + k + 1))) := by omega
          rw [e1, List.take_add, List.take_add, List.drop_drop, List.drop_drop, List.drop_eq_getElem_cons hlt]
          simp [Nat.add_assoc]
        · simp only [flat, List.length_append, List.length_replicate]; omega
theorem rsc_runsB (vs : List (Nat × UInt8)) : ∀ (last : Option UInt8) (l : List UInt8) (most : Int) (len p : Nat) (r : List UInt8), l.drop p = runsB vs ++ r → good last vs → ((len + (flat vs).length : Nat) : Int) ≤ most → (flat vs).length < 18446744073709551616 →
    rsc l most vs.length last len p = .ok (vs, p + (runsB vs).length) := by
  induction vs with
  | nil => intro last l most len p r h _ _ _; rfl
  | cons x xs ih =>
    obtain ⟨n, c⟩ := x
    intro last l most len p r h hg hm hs
    simp only [runsB, List.append_assoc, List.cons_append] at h
    simp only [good] at hg
    simp only [flat, List.length_append, List.length_replicate] at hm hs
    obtain ⟨hn, hl, hg⟩ := hg
    have hu : usc 9 (l.drop p) = .ok (n, (uvar 10 n).length) := by rw [h]; exact usc_uvar9 _ _ (by omega)
    have hk : l.drop (p + (uvar 10 n).length) = c :: (runsB xs ++ r) := by rw [← List.drop_drop, h]; simp
    have hlt : p + (uvar 10 n).length < l.length := by
      have := congrArg List.length hk; simp at this; omega
    have hc : l.getD (p + (uvar 10 n).length) 0 = c := by
      have := List.drop_eq_getElem_cons hlt
      rw [hk] at this
      simp only [List.cons.injEq] at this
      simp [List.getD, List.getElem?_eq_getElem hlt, ← this.1]
    simp only [List.length_cons, rsc, hu, hc]
    rw [if_neg (by omega), if_neg (fun h => h.elim (by omega) hl), if_neg (by omega)]
    rw [ih (some c) l most (len + n) (p + (uvar 10 n).length + 1) r ?_ hg (by omega) (by omega)]
    · simp [runsB]; omega
    · rw [← List.drop_drop, hk]; rfl
end En
/- Plain laws of maximal runs, read from the end. No program in sight. -/
namespace En
/-- The value of the last run (or what was there before). -/
def lastv (last : Option UInt8) : List (Nat × UInt8) → Option UInt8
  | [] => last
  | (_, c) :: r => lastv (some c) r
theorem good_snoc (R : List (Nat × UInt8)) (n : Nat) (c : UInt8) : ∀ last, good last (R ++ [(n, c)]) ↔ good last R ∧ 0 < n ∧ lastv last R ≠ some c := by
  induction R with
  | nil => intro last; simp [good, lastv]
  | cons x R ih => intro last; obtain ⟨m, d⟩ := x; simp only [List.cons_append, good, lastv, ih]; constructor
                   · rintro ⟨h1, h2, h3, h4, h5⟩; exact ⟨⟨h1, h2, h3⟩, h4, h5⟩
                   · rintro ⟨⟨h1, h2, h3⟩, h4, h5⟩; exact ⟨h1, h2, h3, h4, h5⟩
theorem flat_append (R S : List (Nat × UInt8)) : flat (R ++ S) = flat R ++ flat S := by
  induction R with
  | nil => rfl
  | cons x R ih => obtain ⟨m, d⟩ := x; simp [flat, ih]
theorem lastv_snoc (R : List (Nat × UInt8)) (n : Nat) (c : UInt8) : ∀ last, lastv last (R ++ [(n, c)]) = some c := by
  induction R with
  | nil => intro last; rfl
  | cons x R ih => intro last; obtain ⟨m, d⟩ := x; simp [lastv, ih]
theorem runs_of {s : List UInt8} {R : List (Nat × UInt8)} (hg : good none R) (hf : flat R = s) : runs s = R := by rw [← hf]; exact flat_good R none hg
theorem runs_flat (s : List UInt8) : good none (runs s) ∧ flat (runs s) = s := ⟨(good_runs s).1 none (by simp), (good_runs s).2.1⟩
/-- One byte more continues the last run. -/
theorem push_same {R : List (Nat × UInt8)} {n : Nat} {c : UInt8} (h : good none (R ++ [(n, c)])) : good none (R ++ [(n + 1, c)]) ∧ flat (R ++ [(n + 1, c)]) = flat (R ++ [(n, c)]) ++ [c] := by
  rw [good_snoc] at h ⊢
  refine ⟨⟨h.1, by omega, h.2.2⟩, ?_⟩
  rw [flat_append, flat_append]
  simp [flat, List.replicate_succ']
/-- One byte more starts a run. -/
theorem push_new {R : List (Nat × UInt8)} {c : UInt8} (h : good none R) (hc : lastv none R ≠ some c) : good none (R ++ [(1, c)]) ∧ flat (R ++ [(1, c)]) = flat R ++ [c] := by
  rw [good_snoc]
  refine ⟨⟨h, by omega, hc⟩, ?_⟩
  rw [flat_append]; rfl
theorem good_pos {R : List (Nat × UInt8)} : ∀ {last}, good last R → R.length ≤ (flat R).length := by
  induction R with
  | nil => intro _ _; simp [flat]
  | cons x R ih => intro last h; obtain ⟨m, d⟩ := x; simp only [good] at h; have := ih h.2.2; simp [flat]; omega
theorem good_le {R : List (Nat × UInt8)} : ∀ x ∈ R, x.1 ≤ (flat R).length := by
  induction R with
  | nil => intro x hx; simp at hx
  | cons y R ih =>
    intro x hx
    obtain ⟨m, d⟩ := y
    rcases List.mem_cons.1 hx with rfl | hx
    · simp [flat]
    · have := ih x hx; simp [flat]; omega
theorem runsB_append (R S : List (Nat × UInt8)) : runsB (R ++ S) = runsB R ++ runsB S := by
  induction R with
  | nil => rfl
  | cons x R ih => obtain ⟨m, d⟩ := x; simp [runsB, ih]
theorem runsB_len (R : List (Nat × UInt8)) : (runsB R).length ≤ 11 * R.length := by
  induction R with
  | nil => simp [runsB]
  | cons x R ih => obtain ⟨m, d⟩ := x; have := uvar_len 10 m; simp [runsB]; omega
end En
/- Plain law: what Ints and Runs read is the encoding of what they answer. -/
namespace En

theorem cut_join (l : List UInt8) (p k q : Nat) (h : p + k ≤ q) : (l.drop p).take k ++ (l.take q).drop (p + k) = (l.take q).drop p := by
  have e : (l.take q).drop p = ((l.take q).drop p).take k ++ ((l.take q).drop p).drop k := (List.take_append_drop k _).symm
  rw [e, List.drop_drop]
  congr 1
  rw [List.drop_take, List.take_take, Nat.min_eq_left (by omega)]
theorem err_ne {l : List UInt8} {e : Nat} (h : usc 9 l = .error e) : e ≠ 0 := by
  rcases usc_err 9 l e h with rfl | rfl <;> decide
theorem isc_ne (l : List UInt8) : ∀ (m : Nat) (last : Int) (p e : Nat), isc l m last p = .error e → e ≠ 0 := by
  intro m
  induction m with
  | zero => intro last p e h; simp [isc] at h
  | succ m ih =>
    intro last p e h
    cases hu : usc 9 (l.drop p) with
    | error e' => rw [isc_fail hu] at h; cases h; exact err_ne hu
    | ok r =>
      obtain ⟨u, k⟩ := r
      rw [isc_succ hu] at h
      cases hr : isc l m (w64 (last + unzig u)) (p + k) with
      | error e' => rw [hr] at h; simp [pre] at h; subst h; exact ih _ _ _ hr
      | ok r' => rw [hr] at h; simp [pre] at h
theorem isc_bd (l : List UInt8) : ∀ (m : Nat) (last : Int) (p q : Nat) (vs : List Int), isc l m last p = .ok (vs, q) → ∀ x ∈ vs, -9223372036854775808 ≤ x ∧ x ≤ 9223372036854775807 := by
  intro m
  induction m with
  | zero => intro last p q vs h; simp [isc] at h; rw [h.1]; simp
  | succ m ih =>
    intro last p q vs h
    cases hu : usc 9 (l.drop p) with
    | error e' => rw [isc_fail hu] at h; cases h
    | ok r =>
      obtain ⟨u, k⟩ := r
      rw [isc_succ hu] at h
      cases hr : isc l m (w64 (last + unzig u)) (p + k) with
      | error e' => rw [hr] at h; simp [pre] at h
      | ok r' =>
        obtain ⟨vs', q'⟩ := r'
        rw [hr] at h
        simp [pre] at h
        obtain ⟨rfl, rfl⟩ := h
        intro x hx
        rcases List.mem_cons.1 hx with rfl | hx
        · exact w64_bd _
        · exact ih _ _ _ _ hr x hx
theorem iat_bd {l : List UInt8} {i most : Int} {vs : List Int} {q e : Nat} (h : iat l i most = (vs, q, e)) : ∀ x ∈ vs, -9223372036854775808 ≤ x ∧ x ≤ 9223372036854775807 := by
  unfold iat at h
  split at h
  · simp at h; rw [h.1]; simp
  · split at h
    · simp at h; rw [h.1]; simp
    · split at h
      · simp at h; rw [h.1]; simp
      · split at h
        · simp at h; rw [h.1]; simp
        · next vs' q' he =>
          simp at h
          obtain ⟨rfl, rfl, rfl⟩ := h
          exact isc_bd l _ _ _ _ _ he
theorem iat_len {l : List UInt8} {i most : Int} {vs : List Int} {q e : Nat} (h : iat l i most = (vs, q, e)) : vs.length ≤ l.length := by
  unfold iat at h
  split at h
  · simp at h; rw [h.1]; simp
  · next hi =>
    split at h
    · simp at h; rw [h.1]; simp
    · next n k hu =>
      obtain ⟨_, hk1, hkl, _, _⟩ := usc_ok9 hu
      simp only [List.length_drop] at hkl
      split at h
      · simp at h; rw [h.1]; simp
      · split at h
        · simp at h; rw [h.1]; simp
        · next vs' q' he =>
          simp at h
          obtain ⟨rfl, rfl, rfl⟩ := h
          have := isc_ok l _ _ _ _ _ he (by omega) (by omega) (by omega)
          omega
theorem iat_canon {l : List UInt8} {i most : Int} {vs : List Int} {q : Nat} (h : iat l i most = (vs, q, 0)) : ∃ p : Nat, i = p ∧ p < q ∧ q ≤ l.length ∧ putI vs = (l.take q).drop p := by
  unfold iat at h
  split at h
  · simp at h
  · next hi =>
    obtain ⟨p, rfl⟩ : ∃ p : Nat, i = p := ⟨i.toNat, by omega⟩
    have hp : p ≤ l.length := by omega
    rw [Int.toNat_natCast] at h
    split at h
    · next e he => simp at h; exact absurd h.2.2 (err_ne he)
    · next n k hu =>
      obtain ⟨hn64, hk1, hkl, hk10, hcan⟩ := usc_ok9 hu
      simp only [List.length_drop] at hkl
      split at h
      · simp at h
      · split at h
        · next e he => simp at h; exact absurd h.2.2 (isc_ne l _ _ _ _ he)
        · next vs' q' he =>
          simp at h
          obtain ⟨rfl, rfl⟩ := h
          obtain ⟨h1, h2, h3, h4⟩ := isc_ok l n 0 (p + k) q' vs' he (by omega) (by omega) (by omega)
          refine ⟨p, rfl, by omega, h3, ?_⟩
          unfold putI
          rw [h1, h4, ← cut_join l p k q' (by omega)]
          rw [hcan]
theorem rsc_ne (l : List UInt8) (most : Int) : ∀ (m : Nat) (last : Option UInt8) (len p e : Nat), rsc l most m last len p = .error e → e ≠ 0 := by
  intro m
  induction m with
  | zero => intro last len p e h; simp [rsc] at h
  | succ m ih =>
    intro last len p e h
    unfold rsc at h
    split at h
    · next e' he => cases h; exact err_ne he
    · split at h
      · cases h; decide
      · split at h
        · cases h; decide
        · split at h
          · cases h; decide
          · split at h
            · next he => cases h; exact ih _ _ _ _ he
            · cases h
theorem rat_canon {l : List UInt8} {i most : Int} {s : List UInt8} {q : Nat} (h : rat l i most = (s, q, 0)) : ∃ p : Nat, i = p ∧ p < q ∧ q ≤ l.length ∧ putR s = (l.take q).drop p ∧ (s.length : Int) ≤ most := by
  unfold rat at h
  split at h
  · simp at h
  · next hi =>
    obtain ⟨p, rfl⟩ : ∃ p : Nat, i = p := ⟨i.toNat, by omega⟩
    have hp : p ≤ l.length := by omega
    rw [Int.toNat_natCast] at h
    split at h
    · next e he => simp at h; exact absurd h.2.2 (err_ne he)
    · next n k hu =>
      obtain ⟨hn64, hk1, hkl, hk10, hcan⟩ := usc_ok9 hu
      simp only [List.length_drop] at hkl
      split at h
      · simp at h
      · split at h
        · next e he => simp at h; exact absurd h.2.2 (rsc_ne l most _ _ _ _ _ he)
        · next vs q' he =>
          simp at h
          obtain ⟨rfl, rfl⟩ := h
          obtain ⟨h1, h2, h3, h4, h5, h6⟩ := rsc_ok l most n none 0 (p + k) q' vs he (by omega) (by omega)
          refine ⟨p, rfl, by omega, h3, ?_, by simpa using h6⟩
          unfold putR
          rw [runs_of h4 rfl, h1, h5, ← cut_join l p k q' (by omega), hcan]
end En
