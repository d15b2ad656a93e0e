/- Plain laws of what the decoders of chapter 06 read: the bytes read are the encoding; a number cut short. -/
import Derived.Test.YtnenbmbgmmeiaaaDoorRatSpec
import Derived.Test.YtnenbmbgmmeiaaaDoorRat8
namespace Go.Proofs.YtnenbmbgmmeiaaaDoor
open Go.RowKit En
variable {α : Type}

theorem slice_take (l : List UInt8) (p k : Nat) : (l.drop p).take k = (l.take (p + k)).drop p := by
  rw [List.drop_take]; congr 1; omega
theorem uat_canon {l : List UInt8} {i : Int} {n q : Nat} (h : uat l i = (n, q, 0)) : ∃ p : Nat, i = p ∧ p < q ∧ q ≤ l.length ∧ n < 18446744073709551616 ∧ uvar 10 n = (l.take q).drop p := by
  unfold uat at h
  split at h
  · simp at h
  rename_i hi
  cases hu : usc 9 (l.drop i.toNat) with
  | error e => rw [hu] at h; simp only [Prod.mk.injEq] at h; exact absurd h.2.2 (err_ne hu)
  | ok r =>
    obtain ⟨m, k⟩ := r
    rw [hu] at h
    simp only [Prod.mk.injEq, and_true] at h
    obtain ⟨rfl, rfl⟩ := h
    obtain ⟨h1, h2, h3, h4, h5⟩ := usc_ok9 hu
    rw [List.length_drop] at h3
    refine ⟨i.toNat, by omega, by omega, by omega, h1, ?_⟩
    rw [h5, slice_take]
theorem vat_canon {l : List UInt8} {i : Int} {x : Int} {q : Nat} (h : vat l i = (x, q, 0)) : ∃ p : Nat, i = p ∧ p < q ∧ q ≤ l.length ∧ (-9223372036854775808 ≤ x ∧ x ≤ 9223372036854775807) ∧ uvar 10 (zig x) = (l.take q).drop p := by
  unfold vat at h
  simp only [Prod.mk.injEq] at h
  obtain ⟨hx, h2⟩ := h
  obtain ⟨p, h1, h3, h4, h5, h6⟩ := uat_canon (n := (uat l i).1) (Prod.ext rfl h2)
  subst hx
  exact ⟨p, h1, h3, h4, unzig_bd h5, by rw [zig_unzig]; exact h6⟩
theorem bsc_ne {most : Int} {l : List UInt8} {e : Nat} (h : bsc most l = .error e) : e ≠ 0 := by
  unfold bsc at h
  cases hu : usc 9 l with
  | error e' => rw [hu] at h; simp only [Except.error.injEq] at h; exact h ▸ err_ne hu
  | ok r =>
    rw [hu] at h
    simp only at h
    split at h
    · simp only [Except.error.injEq] at h; omega
    · split at h <;> simp only [Except.error.injEq, reduceCtorEq] at h; omega
theorem bat_canon {l : List UInt8} {i most : Int} {s : List UInt8} {q : Nat} (h : bat l i most = (s, q, 0)) : ∃ p : Nat, i = p ∧ p < q ∧ q ≤ l.length ∧ (s.length : Int) ≤ most ∧ putB s = (l.take q).drop p := by
  unfold bat at h
  split at h
  · simp at h
  rename_i hi
  cases hu : bsc most (l.drop i.toNat) with
  | error e => rw [hu] at h; simp only [Prod.mk.injEq] at h; exact absurd h.2.2 (bsc_ne hu)
  | ok r =>
    obtain ⟨m, k⟩ := r
    rw [hu] at h
    simp only [Prod.mk.injEq, and_true] at h
    obtain ⟨rfl, rfl⟩ := h
    obtain ⟨h1, h2, h3, h4⟩ := bsc_ok hu
    rw [List.length_drop] at h2
    refine ⟨i.toNat, by omega, by omega, by omega, h4, ?_⟩
    rw [h1, slice_take]
/-- What a rational number's reading says when it succeeds. -/
theorem qat_ok_inv {l : List UInt8} {i : Int} {r : Bool × Nat × Nat} {q : Nat} (h : qat l i = (r, q, 0)) :
    ∃ (p : Nat) (c : UInt8) (s1 s2 : List UInt8) (k1 k2 : Nat), i = p ∧ l[p]? = some c ∧ ¬ 1 < c.toNat ∧ bsc 4096 (l.drop (p + 1)) = .ok (s1, k1) ∧ bsc 4096 (l.drop (p + 1 + k1)) = .ok (s2, k2) ∧
      q = p + 1 + k1 + k2 ∧ r = (c.toNat == 1, Nb.val s1, Nb.val s2) ∧ qok r.1 r.2.1 r.2.2 = true ∧ putQ r = (l.take q).drop p := by
  by_cases hbad : i < 0 ∨ (l.length : Int) < i
  · rw [qat_bad hbad] at h; simp at h
  obtain ⟨p, rfl⟩ : ∃ p : Nat, i = p := ⟨i.toNat, by omega⟩
  by_cases hpe : p = l.length
  · rw [qat_end hpe] at h; simp at h
  have hp : p < l.length := by omega
  obtain ⟨c, hc⟩ : ∃ c, l[p]? = some c := ⟨l[p], List.getElem?_eq_getElem hp⟩
  by_cases hs : 1 < c.toNat
  · rw [qat_sign hc hs] at h; simp at h
  cases hb1 : bsc 4096 (l.drop (p + 1)) with
  | error e => rw [qat_e1 hc hs hb1] at h; simp only [Prod.mk.injEq] at h; exact absurd h.2.2 (bsc_ne hb1)
  | ok r1 =>
    obtain ⟨s1, k1⟩ := r1
    cases hb2 : bsc 4096 (l.drop (p + 1 + k1)) with
    | error e => rw [qat_e2 hc hs hb1 hb2] at h; simp only [Prod.mk.injEq] at h; exact absurd h.2.2 (bsc_ne hb2)
    | ok r2 =>
      obtain ⟨s2, k2⟩ := r2
      rw [qat_ok hc hs hb1 hb2] at h
      split at h
      · rename_i hcond
        simp only [Prod.mk.injEq, and_true] at h
        obtain ⟨rfl, rfl⟩ := h
        simp only [Bool.and_eq_true, beq_iff_eq] at hcond
        exact ⟨p, c, s1, s2, k1, k2, rfl, hc, hs, hb1, hb2, rfl, rfl, hcond.1, hcond.2⟩
      · simp at h
theorem qat_canon {l : List UInt8} {i : Int} {r : Bool × Nat × Nat} {q : Nat} (h : qat l i = (r, q, 0)) : ∃ p : Nat, i = p ∧ p < q ∧ q ≤ l.length ∧ qok r.1 r.2.1 r.2.2 = true ∧ putQ r = (l.take q).drop p := by
  obtain ⟨p, c, s1, s2, k1, k2, h1, h2, h3, h4, h5, h6, h7, h8, h9⟩ := qat_ok_inv h
  have := (bsc_ok h5).2.1
  have := (bsc_ok h5).2.2.1
  rw [List.length_drop] at *
  exact ⟨p, h1, by omega, by omega, h8, h9⟩
theorem qat_next {l : List UInt8} {i : Int} {r : Bool × Nat × Nat} {q e : Nat} (h : qat l i = (r, q, e)) (he : e ≠ 0) : q = 0 ∧ r = (false, 0, 0) := by
  by_cases hbad : i < 0 ∨ (l.length : Int) < i
  · rw [qat_bad hbad] at h; simp only [Prod.mk.injEq] at h; exact ⟨h.2.1.symm, h.1.symm⟩
  obtain ⟨p, rfl⟩ : ∃ p : Nat, i = p := ⟨i.toNat, by omega⟩
  by_cases hpe : p = l.length
  · rw [qat_end hpe] at h; simp only [Prod.mk.injEq] at h; exact ⟨h.2.1.symm, h.1.symm⟩
  have hp : p < l.length := by omega
  obtain ⟨c, hc⟩ : ∃ c, l[p]? = some c := ⟨l[p], List.getElem?_eq_getElem hp⟩
  by_cases hs : 1 < c.toNat
  · rw [qat_sign hc hs] at h; simp only [Prod.mk.injEq] at h; exact ⟨h.2.1.symm, h.1.symm⟩
  cases hb1 : bsc 4096 (l.drop (p + 1)) with
  | error e => rw [qat_e1 hc hs hb1] at h; simp only [Prod.mk.injEq] at h; exact ⟨h.2.1.symm, h.1.symm⟩
  | ok r1 =>
    obtain ⟨s1, k1⟩ := r1
    cases hb2 : bsc 4096 (l.drop (p + 1 + k1)) with
    | error e => rw [qat_e2 hc hs hb1 hb2] at h; simp only [Prod.mk.injEq] at h; exact ⟨h.2.1.symm, h.1.symm⟩
    | ok r2 =>
      obtain ⟨s2, k2⟩ := r2
      rw [qat_ok hc hs hb1 hb2] at h
      split at h
      · simp only [Prod.mk.injEq] at h; exact absurd h.2.2.symm he
      · simp only [Prod.mk.injEq] at h; exact ⟨h.2.1.symm, h.1.symm⟩
theorem qat_lens {l : List UInt8} {i : Int} {r : Bool × Nat × Nat} {q e : Nat} (h : qat l i = (r, q, e)) : (Na.digs r.2.1).length ≤ 4096 ∧ (Na.digs r.2.2).length ≤ 4096 := by
  by_cases he : e = 0
  · subst he
    obtain ⟨p, c, s1, s2, k1, k2, h1, h2, h3, h4, h5, h6, rfl, h8, h9⟩ := qat_ok_inv h
    have a1 := (bsc_ok h4).2.2.2
    have a2 := (bsc_ok h5).2.2.2
    have b1 := na_len_nb s1
    have b2 := na_len_nb s2
    exact ⟨by simp only; omega, by simp only; omega⟩
  · obtain ⟨-, rfl⟩ := qat_next h he
    simp [Na.digs_zero]
/-- A byte slice read is read alike whatever stands behind it. -/
theorem bsc_front {most : Int} {l s : List UInt8} {k : Nat} (h : bsc most l = .ok (s, k)) (r : List UInt8) (hs : (s.length : Int) < 18446744073709551616) : bsc most (l.take k ++ r) = .ok (s, k) := by
  obtain ⟨h1, h2, h3, h4⟩ := bsc_ok h
  have h5 := bsc_putB s r most h4 (by omega)
  rw [h1] at h5
  rw [h5, List.length_take, Nat.min_eq_left h2]
/-- A byte slice that lacks its last byte is truncated. -/
theorem bsc_cut {most : Int} {l s : List UInt8} {k : Nat} (h : bsc most l = .ok (s, k)) (hs : 0 < s.length) (hs2 : s.length < 18446744073709551616) : bsc most (l.take (k - 1)) = .error 4 := by
  obtain ⟨h1, h2, h3, h4⟩ := bsc_ok h
  have hk : k = (putB s).length := by rw [h1, List.length_take, Nat.min_eq_left h2]
  have hcut : l.take (k - 1) = uvar 10 s.length ++ s.take (s.length - 1) := by
    have e1 : l.take (k - 1) = (l.take k).take (k - 1) := by rw [List.take_take, Nat.min_eq_left (by omega)]
    rw [e1, ← h1, hk]
    unfold putB
    rw [List.length_append, List.take_append, List.take_of_length_le (by omega)]
    congr 2; omega
  have hu := usc_uvar9 s.length (s.take (s.length - 1)) hs2
  rw [hcut]
  unfold bsc
  rw [hu]
  simp only
  rw [if_neg (by omega), if_pos (by simp; omega)]
theorem nb_val_nil : Nb.val [] = 0 := rfl
/-- The encoding of a number that lacks its last byte is truncated. -/
theorem qat_cut {l : List UInt8} {i : Int} {r : Bool × Nat × Nat} {q : Nat} (h : qat l i = (r, q, 0)) : qat (l.take (q - 1)) i = ((false, 0, 0), 0, 4) := by
  obtain ⟨p, c, s1, s2, k1, k2, rfl, h2, h3, h4, h5, rfl, rfl, h8, h9⟩ := qat_ok_inv h
  have a1 := bsc_ok h4
  have a2 := bsc_ok h5
  rw [List.length_drop] at a1 a2
  have hs2 : 0 < s2.length := by
    rcases s2 with _ | ⟨x, s2⟩
    · simp [qok, nb_val_nil] at h8
    · simp
  have hp : p < l.length := (List.getElem?_eq_some_iff.1 h2).1
  have hc : (l.take (p + 1 + k1 + k2 - 1))[p]? = some c := by rw [List.getElem?_take_of_lt (by omega)]; exact h2
  have e2 : (l.take (p + 1 + k1 + k2 - 1)).drop (p + 1 + k1) = (l.drop (p + 1 + k1)).take (k2 - 1) := by
    rw [slice_take]; congr 2; omega
  have e1 : (l.take (p + 1 + k1 + k2 - 1)).drop (p + 1) = (l.drop (p + 1)).take k1 ++ (l.drop (p + 1 + k1)).take (k2 - 1) := by
    rw [← e2, ← cut_join l (p + 1) k1 _ (by omega)]
  refine qat_e2 hc h3 (s1 := s1) (k1 := k1) ?_ ?_
  · rw [e1]; exact bsc_front h4 _ (by omega)
  · rw [e2]; exact bsc_cut h5 hs2 (by omega)
end Go.Proofs.YtnenbmbgmmeiaaaDoor
