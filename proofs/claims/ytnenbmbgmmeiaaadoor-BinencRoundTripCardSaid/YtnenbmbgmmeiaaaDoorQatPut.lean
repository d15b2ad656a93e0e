/- Plain laws of reading what was written, one after the other. -/
import Derived.Test.YtnenbmbgmmeiaaaDoorQatLaw
namespace Go.Proofs.YtnenbmbgmmeiaaaDoor
open Go.RowKit En
variable {α : Type}

theorem nrm_ok (n1 n2 : Bool) (a b : Nat) : qok (nrm n1 n2 a b).1 (nrm n1 n2 a b).2.1 (nrm n1 n2 a b).2.2 = true := by
  unfold nrm
  split
  · simp [qok, Na.digs_zero]
  · rename_i hb
    have hg : 0 < Nat.gcd a b := Nat.gcd_pos_of_pos_right a (by omega)
    have hb' : 0 < b / Nat.gcd a b := Nat.div_pos (Nat.le_of_dvd (by omega) (Nat.gcd_dvd_right a b)) hg
    have hc : Nat.gcd (a / Nat.gcd a b) (b / Nat.gcd a b) = 1 := Nat.coprime_div_gcd_div_gcd hg
    unfold qok
    simp only [Bool.and_eq_true, decide_eq_true_eq, beq_iff_eq, Bool.not_eq_true', Bool.and_eq_false_iff]
    refine ⟨?_, hb', hc⟩
    by_cases h : (Na.digs (a / Nat.gcd a b)).length = 0
    · left
      have h0 := digs_len0 h
      have ha : a = 0 := by
        have h1 := Nat.div_mul_cancel (Nat.gcd_dvd_left a b)
        rw [h0] at h1; omega
      subst ha
      unfold negOf
      simp
    · right; simp [h]
theorem uat_put (A R : List UInt8) (x : Nat) (hx : x < 18446744073709551616) : uat (A ++ (uvar 10 x ++ R)) A.length = (x, A.length + (uvar 10 x).length, 0) := by
  have hd : (A ++ (uvar 10 x ++ R)).drop A.length = uvar 10 x ++ R := by simp
  have hu := usc_uvar9 x R hx
  unfold uat
  rw [if_neg (by simp; omega), Int.toNat_natCast, hd, hu]
theorem vat_put (A R : List UInt8) (x : Int) (h : -9223372036854775808 ≤ x) (h2 : x ≤ 9223372036854775807) : vat (A ++ (uvar 10 (zig x) ++ R)) A.length = (x, A.length + (uvar 10 (zig x)).length, 0) := by
  unfold vat
  rw [uat_put A R _ (zig_lt h h2)]
  simp only [unzig_zig]
theorem bat_put (A R s : List UInt8) (most : Int) (hs : s.length < 18446744073709551616) (h : (s.length : Int) ≤ most) : bat (A ++ (putB s ++ R)) A.length most = (s, A.length + (putB s).length, 0) := by
  have hd : (A ++ (putB s ++ R)).drop A.length = putB s ++ R := by simp
  have hu := bsc_putB s R most h hs
  unfold bat
  rw [if_neg (by simp; omega), Int.toNat_natCast, hd, hu]
theorem qat_put (A R : List UInt8) (r : Bool × Nat × Nat) (hr : qok r.1 r.2.1 r.2.2 = true) (ha : (Nb.digs r.2.1).length ≤ 4096) (hb : (Nb.digs r.2.2).length ≤ 4096) :
    qat (A ++ (putQ r ++ R)) A.length = (r, A.length + (putQ r).length, 0) := by
  obtain ⟨n, a, b⟩ := r
  simp only at hr ha hb
  obtain ⟨c, hc⟩ : ∃ c : UInt8, (if n then 1 else 0) = c := ⟨_, rfl⟩
  have hq : putQ (n, a, b) = c :: (putB (Nb.digs a) ++ putB (Nb.digs b)) := by unfold putQ; rw [← hc]
  have hcn : (c.toNat == 1) = n := by rw [← hc]; cases n <;> rfl
  have hc1 : ¬ 1 < c.toNat := by rw [← hc]; cases n <;> decide
  have hg : (A ++ (putQ (n, a, b) ++ R))[A.length]? = some c := by rw [hq]; simp
  have e1 : (A ++ (putQ (n, a, b) ++ R)).drop (A.length + 1) = putB (Nb.digs a) ++ (putB (Nb.digs b) ++ R) := by
    rw [← List.drop_drop, List.drop_left, hq]; simp
  have h1 := bsc_putB (Nb.digs a) (putB (Nb.digs b) ++ R) 4096 (by omega) (by omega)
  rw [← e1] at h1
  have e2 : (A ++ (putQ (n, a, b) ++ R)).drop (A.length + 1 + (putB (Nb.digs a)).length) = putB (Nb.digs b) ++ R := by
    rw [← List.drop_drop, e1, List.drop_left]
  have h2 := bsc_putB (Nb.digs b) R 4096 (by omega) (by omega)
  rw [← e2] at h2
  have hlen : A.length + 1 + (putB (Nb.digs a)).length + (putB (Nb.digs b)).length = A.length + (putQ (n, a, b)).length := by rw [hq]; simp; omega
  rw [qat_ok hg hc1 h1 h2, hcn, Nb.val_digs, Nb.val_digs, hlen, hr, if_pos]
  rw [Bool.true_and, beq_iff_eq]
  rw [List.take_append, List.take_of_length_le (by omega), Nat.add_sub_cancel_left, List.take_left, List.drop_left]
theorem putB_len (s : List UInt8) : (putB s).length ≤ 10 + s.length := by
  have := uvar_len 10 s.length
  unfold putB; rw [List.length_append]; omega
theorem putQ_len (r : Bool × Nat × Nat) : (putQ r).length ≤ 21 + (Nb.digs r.2.1).length + (Nb.digs r.2.2).length := by
  have h1 := putB_len (Nb.digs r.2.1)
  have h2 := putB_len (Nb.digs r.2.2)
  unfold putQ; rw [List.length_cons, List.length_append]; omega
theorem nrm_nb (n1 n2 : Bool) (l m : List UInt32) (hl : l.length ≤ 40) (hm : m.length ≤ 40) :
    (Nb.digs (nrm n1 n2 (Na.val l) (Na.val m)).2.1).length ≤ 160 ∧ (Nb.digs (nrm n1 n2 (Na.val l) (Na.val m)).2.2).length ≤ 160 := by
  have h := nrm_len n1 n2 l m
  have h1 := nb_len (nrm n1 n2 (Na.val l) (Na.val m)).2.1
  have h2 := nb_len (nrm n1 n2 (Na.val l) (Na.val m)).2.2
  omega
/-- Five pieces, one after the other, read back. -/
theorem trip_reads (ah mo s : List UInt8) (x : Nat) (i : Int) (r : Bool × Nat × Nat) (hx : x < 18446744073709551616) (h : -9223372036854775808 ≤ i) (h2 : i ≤ 9223372036854775807) (hs : s.length ≤ 5000)
    (hr : qok r.1 r.2.1 r.2.2 = true) (ha : (Nb.digs r.2.1).length ≤ 160) (hb : (Nb.digs r.2.2).length ≤ 160) (hah : ah.length ≤ 1000) (hmo : mo.length ≤ 1000) :
    ∃ B1 B2 B3 B4 B5, B1 = ah ++ uvar 10 x ∧ B2 = B1 ++ uvar 10 (zig i) ∧ B3 = B2 ++ putB s ∧ B4 = B3 ++ putQ r ∧ B5 = B4 ++ mo ∧
      uat B5 ah.length = (x, B1.length, 0) ∧ vat B5 B1.length = (i, B2.length, 0) ∧ bat B5 B2.length s.length = (s, B3.length, 0) ∧ qat B5 B3.length = (r, B4.length, 0) ∧
      B1.length ≤ 1010 ∧ B2.length ≤ 1020 ∧ B3.length ≤ 6030 ∧ B4.length ≤ 6371 ∧ B5.length ≤ 7371 := by
  refine ⟨_, _, _, _, _, rfl, rfl, rfl, rfl, rfl, ?_, ?_, ?_, ?_, ?_⟩
  · have := uat_put ah (uvar 10 (zig i) ++ putB s ++ putQ r ++ mo) x hx
    rw [List.length_append, ← this]; congr 1; simp
  · have := vat_put (ah ++ uvar 10 x) (putB s ++ putQ r ++ mo) i h h2
    rw [show (ah ++ uvar 10 x ++ uvar 10 (zig i)).length = (ah ++ uvar 10 x).length + (uvar 10 (zig i)).length from List.length_append, ← this]; congr 1; simp
  · have := bat_put (ah ++ uvar 10 x ++ uvar 10 (zig i)) (putQ r ++ mo) s s.length (by omega) (by omega)
    rw [show (ah ++ uvar 10 x ++ uvar 10 (zig i) ++ putB s).length = (ah ++ uvar 10 x ++ uvar 10 (zig i)).length + (putB s).length from List.length_append, ← this]; congr 1; simp
  · have := qat_put (ah ++ uvar 10 x ++ uvar 10 (zig i) ++ putB s) mo r hr (by omega) (by omega)
    rw [show (ah ++ uvar 10 x ++ uvar 10 (zig i) ++ putB s ++ putQ r).length = (ah ++ uvar 10 x ++ uvar 10 (zig i) ++ putB s).length + (putQ r).length from List.length_append, ← this]; congr 1; simp
  · have a1 := uvar_len 10 x
    have a2 := uvar_len 10 (zig i)
    have a3 := putB_len s
    have a4 := putQ_len r
    simp only [List.length_append]
    omega
end Go.Proofs.YtnenbmbgmmeiaaaDoor
