/- Plain laws of the encodings of chapter 6: byte slices, delta coded ints, runs. No program in sight. -/
import Derived.Test.YtnenbmbgmmeiaaaDoorEncSpec
namespace En
variable {α : Type}

/-- Reading a byte slice: the bytes and how many were taken, or the error. -/
def bsc (most : Int) (l : List UInt8) : Except Nat (List UInt8 × Nat) :=
  match usc 9 l with
  | .error e => .error e
  | .ok (n, k) => if most < 0 ∨ most < (n : Int) then .error 5 else if l.length - k < n then .error 4 else .ok ((l.drop k).take n, k + n)
def bat (l : List UInt8) (at_ most : Int) : List UInt8 × Nat × Nat :=
  if at_ < 0 ∨ (l.length : Int) < at_ then ([], 0, 2)
  else match bsc most (l.drop at_.toNat) with
    | .ok (s, k) => (s, at_.toNat + k, 0)
    | .error e => ([], 0, e)
def putB (s : List UInt8) : List UInt8 := uvar 10 s.length ++ s
theorem bsc_ok {most : Int} {l s : List UInt8} {k : Nat} (h : bsc most l = .ok (s, k)) : putB s = l.take k ∧ k ≤ l.length ∧ 1 ≤ k ∧ (s.length : Int) ≤ most := by
  unfold bsc at h
  cases hu : usc 9 l with
  | error e => rw [hu] at h; simp at h
  | ok p =>
    obtain ⟨n, j⟩ := p
    rw [hu] at h
    simp only at h
    obtain ⟨h1, h2, h3, h4, h5⟩ := usc_ok9 hu
    split at h
    · cases h
    split at h
    · cases h
    rename_i g1 g2
    simp only [Except.ok.injEq, Prod.mk.injEq] at h
    obtain ⟨rfl, rfl⟩ := h
    have hl : ((l.drop j).take n).length = n := by simp; omega
    refine ⟨?_, by omega, by omega, by omega⟩
    unfold putB
    rw [hl, h5, ← List.take_add]
theorem bsc_putB (s r : List UInt8) (most : Int) (h : (s.length : Int) ≤ most) (hs : s.length < 18446744073709551616) : bsc most (putB s ++ r) = .ok (s, (putB s).length) := by
  unfold bsc putB
  rw [List.append_assoc, usc_uvar9 _ _ hs]
  simp only
  rw [if_neg (by omega), if_neg (by simp)]
  simp

/-- An int out of 64 bits. -/
def w64 (x : Int) : Int := (x + 9223372036854775808) % 18446744073709551616 - 9223372036854775808
theorem w64_id {x : Int} (h : -9223372036854775808 ≤ x) (h2 : x ≤ 9223372036854775807) : w64 x = x := by unfold w64; omega
theorem w64_bd (x : Int) : -9223372036854775808 ≤ w64 x ∧ w64 x ≤ 9223372036854775807 := by unfold w64; omega
theorem w64_add (a b : Int) (h : -9223372036854775808 ≤ b) (h2 : b ≤ 9223372036854775807) : w64 (a + w64 (b - a)) = b := by unfold w64; omega

def deltas : Int → List Int → List UInt8
  | _, [] => []
  | last, x :: xs => uvar 10 (zig (w64 (x - last))) ++ deltas x xs
def putI (l : List Int) : List UInt8 := uvar 10 l.length ++ deltas 0 l
/-- Reading m delta coded ints from offset p: the ints and the offset behind them, or the error. -/
def isc (l : List UInt8) : Nat → Int → Nat → Except Nat (List Int × Nat)
  | 0, _, p => .ok ([], p)
  | m + 1, last, p =>
    match usc 9 (l.drop p) with
    | .error e => .error e
    | .ok (u, k) =>
      match isc l m (w64 (last + unzig u)) (p + k) with
      | .error e => .error e
      | .ok (vs, q) => .ok (w64 (last + unzig u) :: vs, q)
def iat (l : List UInt8) (at_ most : Int) : List Int × Nat × Nat :=
  if at_ < 0 ∨ (l.length : Int) < at_ then ([], 0, 2)
  else match usc 9 (l.drop at_.toNat) with
    | .error e => ([], 0, e)
    | .ok (n, k) => if most < 0 ∨ most < (n : Int) then ([], 0, 5) else
      match isc l n 0 (at_.toNat + k) with
      | .error e => ([], 0, e)
      | .ok (vs, q) => (vs, q, 0)
/-- What ints read ahead make of a reading behind them. -/
def pre (done : List α) : Except Nat (List α × Nat) → Except Nat (List α × Nat)
  | .error e => .error e
  | .ok (vs, q) => .ok (done ++ vs, q)
theorem pre_nil (r : Except Nat (List α × Nat)) : pre [] r = r := by rcases r with e | ⟨v, q⟩ <;> rfl
theorem pre_pre (a b : List α) (r : Except Nat (List α × Nat)) : pre a (pre b r) = pre (a ++ b) r := by rcases r with e | ⟨v, q⟩ <;> simp [pre]
theorem isc_succ {l : List UInt8} {m : Nat} {last : Int} {p u k : Nat} (h : usc 9 (l.drop p) = .ok (u, k)) : isc l (m + 1) last p = pre [w64 (last + unzig u)] (isc l m (w64 (last + unzig u)) (p + k)) := by
  simp only [isc, h]
  cases isc l m (w64 (last + unzig u)) (p + k) with
  | error e => rfl
  | ok q => rfl
theorem isc_fail {l : List UInt8} {m : Nat} {last : Int} {p e : Nat} (h : usc 9 (l.drop p) = .error e) : isc l (m + 1) last p = .error e := by
  simp only [isc, h]
theorem isc_ok (l : List UInt8) : ∀ (m : Nat) (last : Int) (p q : Nat) (vs : List Int), isc l m last p = .ok (vs, q) → p ≤ l.length → -9223372036854775808 ≤ last → last ≤ 9223372036854775807 →
    vs.length = m ∧ p + m ≤ q ∧ q ≤ l.length ∧ deltas last vs = (l.take q).drop p := by
  intro m
  induction m with
  | zero =>
    intro last p q vs h hp _ _
    simp only [isc, Except.ok.injEq, Prod.mk.injEq] at h
    obtain ⟨rfl, rfl⟩ := h
    simp [deltas, hp]
  | succ m ih =>
    intro last p q vs h hp hl1 hl2
    cases hu : usc 9 (l.drop p) with
    | error e => rw [isc_fail hu] at h; cases h
    | ok r =>
      obtain ⟨u, k⟩ := r
      rw [isc_succ hu] at h
      obtain ⟨h1, h2, h3, h4, h5⟩ := usc_ok9 hu
      simp only [List.length_drop] at h3
      have hb := w64_bd (last + unzig u)
      cases hi : isc l m (w64 (last + unzig u)) (p + k) with
      | error e => rw [hi] at h; cases h
      | ok r =>
        obtain ⟨vs', q'⟩ := r
        rw [hi] at h
        simp only [pre, Except.ok.injEq, Prod.mk.injEq, List.cons_append, List.nil_append] at h
        obtain ⟨rfl, rfl⟩ := h
        obtain ⟨i1, i2, i3, i4⟩ := ih _ _ _ _ hi (by omega) hb.1 hb.2
        refine ⟨by simp [i1], by omega, i3, ?_⟩
        simp only [deltas]
        have hz := unzig_bd h1
        have e : w64 (w64 (last + unzig u) - last) = unzig u := by unfold w64; omega
        rw [e, zig_unzig, h5, i4]
        rw [List.drop_take, List.drop_take]
        have : q' - p = k + (q' - (p + k)) := by omega
        rw [this, List.take_add, List.drop_drop]
theorem isc_deltas (vs : List Int) : ∀ (last : Int) (l : List UInt8) (p : Nat) (r : List UInt8), l.drop p = deltas last vs ++ r → (∀ x ∈ vs, -9223372036854775808 ≤ x ∧ x ≤ 9223372036854775807) →
    isc l vs.length last p = .ok (vs, p + (deltas last vs).length) := by
  induction vs with
  | nil => intro last l p r h _; rfl
  | cons x xs ih =>
    intro last l p r h hb
    simp only [deltas, List.append_assoc] at h
    have hw := w64_bd (x - last)
    have hz := zig_lt hw.1 hw.2
    have hu : usc 9 (l.drop p) = .ok (zig (w64 (x - last)), (uvar 10 (zig (w64 (x - last)))).length) := by rw [h]; exact usc_uvar9 _ _ hz
    have hx := hb x (by simp)
    rw [List.length_cons, isc_succ hu, unzig_zig, w64_add last x hx.1 hx.2]
    rw [ih x l _ r ?_ (fun y hy => hb y (by simp [hy]))]
    · simp [pre, deltas, Nat.add_assoc]
    · rw [← List.drop_drop, h]; simp

/-- The maximal runs of a byte string. -/
def runs : List UInt8 → List (Nat × UInt8)
  | [] => []
  | c :: l => match runs l with
    | [] => [(1, c)]
    | (n, d) :: r => if d = c then (n + 1, d) :: r else (1, c) :: (n, d) :: r
def runsB : List (Nat × UInt8) → List UInt8
  | [] => []
  | (n, c) :: r => uvar 10 n ++ c :: runsB r
def putR (s : List UInt8) : List UInt8 := uvar 10 (runs s).length ++ runsB (runs s)
def flat : List (Nat × UInt8) → List UInt8
  | [] => []
  | (n, c) :: r => List.replicate n c ++ flat r
/-- Runs that are maximal: none is empty, no two neighbours have one value; the first differs from last. -/
def good : Option UInt8 → List (Nat × UInt8) → Prop
  | _, [] => True
  | last, (n, c) :: r => 0 < n ∧ last ≠ some c ∧ good (some c) r
/-- Reading m runs from offset p. -/
def rsc (l : List UInt8) (most : Int) : Nat → Option UInt8 → Nat → Nat → Except Nat (List (Nat × UInt8) × Nat)
  | 0, _, _, p => .ok ([], p)
  | m + 1, last, len, p =>
    match usc 9 (l.drop p) with
    | .error e => .error e
    | .ok (u, k) =>
      if l.length ≤ p + k then .error 4 else
      if u = 0 ∨ last = some (l.getD (p + k) 0) then .error 3 else
      if most < ((len + u : Nat) : Int) then .error 5 else
      match rsc l most m (some (l.getD (p + k) 0)) (len + u) (p + k + 1) with
      | .error e => .error e
      | .ok (vs, q) => .ok ((u, l.getD (p + k) 0) :: vs, q)
def rat (l : List UInt8) (at_ most : Int) : List UInt8 × Nat × Nat :=
  if at_ < 0 ∨ (l.length : Int) < at_ then ([], 0, 2)
  else match usc 9 (l.drop at_.toNat) with
    | .error e => ([], 0, e)
    | .ok (n, k) => if most < 0 then ([], 0, 5) else
      match rsc l most n none 0 (at_.toNat + k) with
      | .error e => ([], 0, e)
      | .ok (vs, q) => (flat vs, q, 0)

theorem good_runs (s : List UInt8) : (∀ last, (∀ c, s.head? = some c → last ≠ some c) → good last (runs s)) ∧ flat (runs s) = s ∧ (∀ c n r, runs s = (n, c) :: r → s.head? = some c) := by
  induction s with
  | nil => simp [runs, good, flat]
  | cons c l ih =>
    obtain ⟨h1, h2, h3⟩ := ih
    cases hr : runs l with
    | nil =>
      rw [hr] at h2
      simp only [runs, hr, good, flat] at h2 ⊢
      subst h2
      refine ⟨fun last h => ⟨by omega, h c rfl, trivial⟩, rfl, ?_⟩
      intro c' n' r' he; simp only [List.cons.injEq, Prod.mk.injEq] at he; simp [he.1.2]
    | cons x r =>
      obtain ⟨n, d⟩ := x
      have hd := h3 d n r hr
      rw [hr] at h2
      simp only [runs, hr]
      simp only [flat] at h2
      split
      · rename_i e
        subst e
        refine ⟨fun last h => ?_, ?_, ?_⟩
        · have := h1 none (by simp)
          rw [hr] at this
          simp only [good] at this ⊢
          exact ⟨by omega, h d rfl, this.2.2⟩
        · simp only [flat, List.replicate_succ, List.cons_append, h2]
        · intro c' n' r' he; simp only [List.cons.injEq, Prod.mk.injEq] at he; simp [he.1.2]
      · rename_i e
        refine ⟨fun last h => ?_, ?_, ?_⟩
        · have := h1 (some c) (by intro c' hc'; rw [hd] at hc'; simp only [Option.some.injEq] at hc' ⊢; exact fun e' => e (hc'.trans (Option.some.inj e').symm))
          rw [hr] at this
          simp only [good] at this ⊢
          exact ⟨by omega, h c rfl, this⟩
        · simp only [flat, List.replicate_succ, List.replicate_zero, List.cons_append, List.nil_append, h2]
        · intro c' n' r' he; simp only [List.cons.injEq, Prod.mk.injEq] at he; simp [he.1.2]
theorem flat_good (r : List (Nat × UInt8)) : ∀ last, good last r → runs (flat r) = r := by
  induction r with
  | nil => intro _ _; rfl
  | cons x r ih =>
    obtain ⟨n, c⟩ := x
    intro last h
    simp only [good] at h
    obtain ⟨hn, _, hg⟩ := h
    have hr := ih _ hg
    simp only [flat]
    have key : ∀ k, runs (List.replicate (k + 1) c ++ flat r) = (k + 1, c) :: r := by
      intro k
      induction k with
      | zero =>
        simp only [List.replicate_succ, List.replicate_zero, List.cons_append, List.nil_append, runs, hr]
        cases r with
        | nil => rfl
        | cons y r' =>
          obtain ⟨m, d⟩ := y
          simp only [good] at hg
          simp only
          rw [if_neg (fun e => hg.2.1 (by rw [e]))]
      | succ k ihk =>
        rw [List.replicate_succ, List.cons_append, runs, ihk]
        simp
    obtain ⟨m, rfl⟩ : ∃ m, n = m + 1 := ⟨n - 1, by omega⟩
    exact key m
theorem rsc_ok (l : List UInt8) (most : Int) : ∀ (m : Nat) (last : Option UInt8) (len p q : Nat) (vs : List (Nat × UInt8)), rsc l most m last len p = .ok (vs, q) → p ≤ l.length → (len : Int) ≤ most →
    vs.length = m ∧ p + m ≤ q ∧ q ≤ l.length ∧ good last vs ∧ runsB vs = (l.take q).drop p ∧ ((len + (flat vs).length : Nat) : Int) ≤ most := by
  intro m
  induction m with
  | zero =>
    intro last len p q vs h hp hm
    simp only [rsc, Except.ok.injEq, Prod.mk.injEq] at h
    obtain ⟨rfl, rfl⟩ := h
    simp [runsB, good, flat, hp, hm]
  | succ m ih =>
    intro last len p q vs h hp hm
    simp only [rsc] at h
    cases hu : usc 9 (l.drop p) with
    | error e => rw [hu] at h; cases h
    | ok r =>
      obtain ⟨u, k⟩ := r
      rw [hu] at h
      simp only at h
      obtain ⟨h1, h2, h3, h4, h5⟩ := usc_ok9 hu
      simp only [List.length_drop] at h3
      split at h
      · cases h
      split at h
      · cases h
      split at h
      · cases h
      rename_i g1 g2 g3
      cases hi : rsc l most m (some (l.getD (p + k) 0)) (len + u) (p + k + 1) with
      | error e => rw [hi] at h; cases h
      | ok r =>
        obtain ⟨vs', q'⟩ := r
        rw [hi] at h
        simp only [Except.ok.injEq, Prod.mk.injEq] at h
        obtain ⟨rfl, rfl⟩ := h
        obtain ⟨i1, i2, i3, i4, i5, i6⟩ := ih _ _ _ _ _ hi (by omega) (by omega)
        refine ⟨by simp [i1], by omega, i3, ?_, ?_, ?_⟩
        · simp only [good]
          exact ⟨by omega, fun e => g2 (.inr e), i4⟩
        · simp only [runsB, h5, i5]
          have hlt : p + k < l.length := by omega
          have e0 : l.getD (p + k) 0 = l[p + k] := by simp [List.getD, List.getElem?_eq_getElem hlt]
          rw [e0, List.drop_take, List.drop_take]
          have e1 : q' - p = k + (1 + (q' - (p + k + 1))) := by omega
          rw [e1, List.take_add, List.take_add, List.drop_drop, List.drop_drop, List.drop_eq_getElem_cons hlt]
          simp [Nat.add_assoc]
        · simp only [flat, List.length_append, List.length_replicate]; omega
theorem rsc_runsB (vs : List (Nat × UInt8)) : ∀ (last : Option UInt8) (l : List UInt8) (most : Int) (len p : Nat) (r : List UInt8), l.drop p = runsB vs ++ r → good last vs → ((len + (flat vs).length : Nat) : Int) ≤ most → (flat vs).length < 18446744073709551616 →
    rsc l most vs.length last len p = .ok (vs, p + (runsB vs).length) := by
  induction vs with
  | nil => intro last l most len p r h _ _ _; rfl
  | cons x xs ih =>
    obtain ⟨n, c⟩ := x
    intro last l most len p r h hg hm hs
    simp only [runsB, List.append_assoc, List.cons_append] at h
    simp only [good] at hg
    simp only [flat, List.length_append, List.length_replicate] at hm hs
    obtain ⟨hn, hl, hg⟩ := hg
    have hu : usc 9 (l.drop p) = .ok (n, (uvar 10 n).length) := by rw [h]; exact usc_uvar9 _ _ (by omega)
    have hk : l.drop (p + (uvar 10 n).length) = c :: (runsB xs ++ r) := by rw [← List.drop_drop, h]; simp
    have hlt : p + (uvar 10 n).length < l.length := by
      have := congrArg List.length hk; simp at this; omega
    have hc : l.getD (p + (uvar 10 n).length) 0 = c := by
      have := List.drop_eq_getElem_cons hlt
      rw [hk] at this
      simp only [List.cons.injEq] at this
      simp [List.getD, List.getElem?_eq_getElem hlt, ← this.1]
    simp only [List.length_cons, rsc, hu, hc]
    rw [if_neg (by omega), if_neg (fun h => h.elim (by omega) hl), if_neg (by omega)]
    rw [ih (some c) l most (len + n) (p + (uvar 10 n).length + 1) r ?_ hg (by omega) (by omega)]
    · simp [runsB]; omega
    · rw [← List.drop_drop, hk]; rfl
end En
