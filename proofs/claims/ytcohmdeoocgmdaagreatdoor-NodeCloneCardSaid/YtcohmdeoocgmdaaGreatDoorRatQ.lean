/- Rational numbers by value: plain laws. No program in sight. -/
import Derived.Test.YtcohmdeoocgmdaaGreatDoorInt
import Derived.Test.YtcohmdeoocgmdaaGreatDoorBx
import Derived.Test.YtcohmdeoocgmdaaGreatDoorData
namespace Go.Proofs.YtcohmdeoocgmdaaGreatDoor
open Go.RowKit
variable {α : Type}
set_option linter.unusedVariables false
theorem nrm_zv (n : Bool) (a d : Nat) : nrm n false a d = nz (zv n a) d := by
  unfold nz
  rw [zv_abs, zv_neg]
  unfold nrm
  split
  · rfl
  · congr 1
    unfold negOf
    rcases Nat.eq_zero_or_pos a with h | h
    · subst h; simp [sgn]
    · rw [decide_eq_true h, Bool.and_true]
abbrev Nrm (q : Bool × Nat × Nat) : Prop := nrm q.1 false q.2.1 q.2.2 = q
theorem nrm_idem (n1 n2 : Bool) (a b : Nat) : Nrm (nrm n1 n2 a b) := by
  unfold Nrm
  rcases Nat.eq_zero_or_pos b with hb | hb
  · have e : nrm n1 n2 a b = (false, 0, 1) := by unfold nrm; rw [if_pos hb]
    rw [e]; decide
  · have hg : 0 < Nat.gcd a b := Nat.gcd_pos_of_pos_right a hb
    have hb' : 0 < b / Nat.gcd a b := Nat.div_pos (Nat.le_of_dvd hb (Nat.gcd_dvd_right a b)) hg
    have hc : Nat.gcd (a / Nat.gcd a b) (b / Nat.gcd a b) = 1 := Nat.coprime_div_gcd_div_gcd hg
    have e : nrm n1 n2 a b = (negOf n1 n2 a b, a / Nat.gcd a b, b / Nat.gcd a b) := by unfold nrm; rw [if_neg (by omega)]
    rw [e]
    have hneg : negOf n1 n2 a b = true → 0 < a / Nat.gcd a b := by
      unfold negOf; rw [Bool.and_eq_true]; intro h; simpa using h.2
    generalize negOf n1 n2 a b = n at *
    generalize a / Nat.gcd a b = x at *
    generalize b / Nat.gcd a b = y at *
    unfold nrm
    rw [if_neg (by simp only; omega)]
    simp only [hc, Nat.div_one]
    congr 1
    unfold negOf
    rcases Nat.eq_zero_or_pos x with h | h
    · subst h
      have : n = false := by cases n
                             · rfl
                             · exact absurd (hneg rfl) (by omega)
      subst this; simp [sgn]
    · rw [hc, Nat.div_one, decide_eq_true h, Bool.and_true]
      unfold sgn
      have hx : x ≠ 0 := by omega
      have hy : y ≠ 0 := by omega
      rw [if_neg hx, if_neg hy]
      cases n <;> decide
theorem nz_nrm (z : Int) (d : Nat) : Nrm (nz z d) := nrm_idem _ _ _ _
theorem nrm_pos (n1 n2 : Bool) (a b : Nat) : 0 < (nrm n1 n2 a b).2.2 := by
  unfold nrm
  split
  · exact Nat.one_pos
  · exact Nat.div_pos (Nat.le_of_dvd (by omega) (Nat.gcd_dvd_right a b)) (Nat.gcd_pos_of_pos_right a (by omega))
/-- At most K digits each. -/
def qlen (K : Nat) (q : Bool × Nat × Nat) : Prop := (Na.digs q.2.1).length ≤ K ∧ (Na.digs q.2.2).length ≤ K
theorem qlen.mono {K L : Nat} {q : Bool × Nat × Nat} (h : qlen K q) (hk : K ≤ L) : qlen L q := ⟨Nat.le_trans h.1 hk, Nat.le_trans h.2 hk⟩
theorem digs_one : (Na.digs 1).length ≤ 1 := Na.digs_length_le (by decide)
theorem nz_len {K : Nat} (z : Int) (d : Nat) (hK : 1 ≤ K) (h1 : (Na.digs z.natAbs).length ≤ K) (h2 : (Na.digs d).length ≤ K) : qlen K (nz z d) := by
  unfold nz nrm
  split
  · exact ⟨by rw [Na.digs_zero]; simp, Nat.le_trans digs_one hK⟩
  · exact ⟨Nat.le_trans (digs_len_le (Nat.div_le_self _ _)) h1, Nat.le_trans (digs_len_le (Nat.div_le_self _ _)) h2⟩
theorem qz_len {K : Nat} {q : Bool × Nat × Nat} (h : qlen K q) : (Na.digs (qz q).natAbs).length ≤ K := by unfold qz; rw [zv_abs]; exact h.1
theorem nat_len {n K : Nat} (h : (Na.digs n).length ≤ K) : (Na.digs (n : Int).natAbs).length ≤ K := by rw [Int.natAbs_natCast]; exact h
theorem qmul_len {K L : Nat} {p q : Bool × Nat × Nat} (hK : 1 ≤ K) (h1 : qlen K p) (h2 : qlen L q) : qlen (K + L) (qmul p q) := by
  refine nz_len _ _ (by omega) (len_mul _ _ (qz_len h1) (qz_len h2)) ?_
  have := len_mul p.2.2 q.2.2 (nat_len h1.2) (nat_len h2.2)
  rwa [show ((p.2.2 : Int) * (q.2.2 : Int)) = ((p.2.2 * q.2.2 : Nat) : Int) by simp, Int.natAbs_natCast] at this
theorem qadd_len {K L : Nat} {p q : Bool × Nat × Nat} (hK : 1 ≤ K) (h1 : qlen K p) (h2 : qlen L q) : qlen (K + L + 1) (qadd p q) := by
  refine nz_len _ _ (by omega) (len_add _ _ (len_mul _ _ (qz_len h1) (nat_len h2.2)) (by rw [Nat.add_comm]; exact len_mul _ _ (qz_len h2) (nat_len h1.2))) ?_
  have := len_mul p.2.2 q.2.2 (nat_len h1.2) (nat_len h2.2)
  rw [show ((p.2.2 : Int) * (q.2.2 : Int)) = ((p.2.2 * q.2.2 : Nat) : Int) by simp, Int.natAbs_natCast] at this
  omega
theorem qsub_len {K L : Nat} {p q : Bool × Nat × Nat} (hK : 1 ≤ K) (h1 : qlen K p) (h2 : qlen L q) : qlen (K + L + 1) (qsub p q) := by
  refine nz_len _ _ (by omega) (len_sub _ _ (len_mul _ _ (qz_len h1) (nat_len h2.2)) (by rw [Nat.add_comm]; exact len_mul _ _ (qz_len h2) (nat_len h1.2))) ?_
  have := len_mul p.2.2 q.2.2 (nat_len h1.2) (nat_len h2.2)
  rw [show ((p.2.2 : Int) * (q.2.2 : Int)) = ((p.2.2 * q.2.2 : Nat) : Int) by simp, Int.natAbs_natCast] at this
  omega
/-- A rational number by value, at most K digits each. -/
def IsRatQ (K : Nat) (w : World) (v : Value) (q : Bool × Nat × Nat) : Prop :=
  ∃ n1 s1 l1 n2 s2 l2, v = .agg #[.bool n1, s1, .bool n2, s2] ∧ IsU32s w s1 l1 ∧ IsU32s w s2 l2 ∧ l1.length ≤ K ∧ l2.length ≤ K ∧ nrm n1 n2 (Na.val l1) (Na.val l2) = q
theorem IsRatQ.below {K : Nat} {w w' : World} {v : Value} {q : Bool × Nat × Nat} (h : IsRatQ K w v q) (hb : Ext w w') : IsRatQ K w' v q := by
  obtain ⟨n1, s1, l1, n2, s2, l2, hv, h1, h2, h3, h4, h5⟩ := h; exact ⟨n1, s1, l1, n2, s2, l2, hv, h1.below hb, h2.below hb, h3, h4, h5⟩
theorem IsRatQ.mono {K L : Nat} {w : World} {v : Value} {q : Bool × Nat × Nat} (h : IsRatQ K w v q) (hk : K ≤ L) : IsRatQ L w v q := by
  obtain ⟨n1, s1, l1, n2, s2, l2, hv, h1, h2, h3, h4, h5⟩ := h; exact ⟨n1, s1, l1, n2, s2, l2, hv, h1, h2, by omega, by omega, h5⟩
theorem IsRatQ.shape {K : Nat} {w : World} {v : Value} {q : Bool × Nat × Nat} (h : IsRatQ K w v q) : ∃ n1 a1 m1 c1 n2 a2 m2 c2, v = .agg #[.bool n1, .slice a1 m1 c1, .bool n2, .slice a2 m2 c2] := by
  obtain ⟨n1, s1, l1, n2, s2, l2, rfl, h1, h2, _⟩ := h
  obtain ⟨a1, c1, rfl⟩ := h1.shape
  obtain ⟨a2, c2, rfl⟩ := h2.shape
  exact ⟨_, _, _, _, _, _, _, _, rfl⟩
theorem IsRatQ.nrm {K : Nat} {w : World} {v : Value} {q : Bool × Nat × Nat} (h : IsRatQ K w v q) : Nrm q := by
  obtain ⟨n1, s1, l1, n2, s2, l2, _, _, _, _, _, rfl⟩ := h; exact nrm_idem _ _ _ _
theorem IsRatQ.pos {K : Nat} {w : World} {v : Value} {q : Bool × Nat × Nat} (h : IsRatQ K w v q) : 0 < q.2.2 := by
  obtain ⟨n1, s1, l1, n2, s2, l2, _, _, _, _, _, rfl⟩ := h; exact nrm_pos _ _ _ _
theorem IsRatQ.len {K : Nat} {w : World} {v : Value} {q : Bool × Nat × Nat} (h : IsRatQ K w v q) (hK : 1 ≤ K) : qlen K q := by
  obtain ⟨n1, s1, l1, n2, s2, l2, _, _, _, h3, h4, rfl⟩ := h
  have := nrm_len n1 n2 l1 l2
  exact ⟨by omega, by omega⟩
theorem RatD.toQ {w : World} {r : RatD} {K : Nat} (h : r.ok w) (hf : r.fit K) : IsRatQ K w r.v r.q := ⟨r.n1, r.s1, r.l1, r.n2, r.s2, r.l2, rfl, h.1, h.2, hf.1, hf.2, rfl⟩
theorem IsRatN.toQ {base K : Nat} {w : World} {v : Value} {q : Bool × Nat × Nat} (h : IsRatT base w v q) (hn : Nrm q) (hl : qlen K q) : IsRatQ K w v q := by
  obtain ⟨s, t, rfl, hs, ht, _, _⟩ := h
  exact ⟨_, s, _, _, t, _, rfl, hs, ht, hl.1, hl.2, by rw [Na.val_digs, Na.val_digs]; exact hn⟩
theorem IsRatN.parts' {base K : Nat} {w : World} {n m : Bool} {s t : Value} {q : Bool × Nat × Nat} (h : IsRatT base w (.agg #[.bool n, s, .bool m, t]) q) (hl : qlen K q) :
    IsIntQ K w (.agg #[.bool n, s]) (qz q) ∧ IsIntQ K w (.agg #[.bool m, t]) (q.2.2 : Int) := by
  obtain ⟨s', t', e, hs, ht, _, _⟩ := h
  simp only [Value.agg.injEq, Array.mk.injEq, List.cons.injEq, Value.bool.injEq, and_true] at e
  obtain ⟨rfl, rfl, rfl, rfl⟩ := e
  exact ⟨⟨_, _, _, rfl, hs, hl.1, by rw [Na.val_digs]; rfl⟩, ⟨_, _, _, rfl, ht, hl.2, by rw [Na.val_digs]; rfl⟩⟩
theorem IsRatN.set {base : Nat} {w : World} {v : Value} {neg : Bool} {a b c : Nat} (h : IsRatN base w v neg a b) (hlt : c < base) (vs : List Value) (o : Nat) : IsRatN base (w.setCells c o vs) v neg a b := h.ch ((Ch.refl c w).setCells vs o) hlt
theorem IsIntN.set {base : Nat} {w : World} {v : Value} {neg : Bool} {n c : Nat} (h : IsIntN base w v neg n) (hlt : c < base) (vs : List Value) (o : Nat) : IsIntN base (w.setCells c o vs) v neg n := by
  obtain ⟨s, hv, hs, fs⟩ := h
  exact ⟨s, hv, hs.ch ((Ch.refl c w).setCells vs o) (fun _ => fs.off hlt), fs⟩
end Go.Proofs.YtcohmdeoocgmdaaGreatDoor
