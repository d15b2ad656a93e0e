/- Walks of package natural: guess (the estimate of a quotient's digit). -/
import Derived.Test.YtnenbmbgmmeiaaaDoorNatWalk3
namespace Go.Proofs.YtnenbmbgmmeiaaaDoor
open Go.RowKit
variable {α : Type}

theorem wrapNat64 (n : Nat) (h : n < 18446744073709551616) : IntKind.u64.wrap (n : Int) = (n : Int) := by rw [IntKind.wrap_u64]; omega
theorem or_join2 (r x : Nat) (h : r < 4294967296) (hx : x < 4294967296) : bits .or .u64 ((r : Int) * 4294967296) (x : Int) = ((r * 4294967296 + x : Nat) : Int) := by
  have e : ((r : Int) * 4294967296) = ((r * 4294967296 : Nat) : Int) := by simp
  rw [e, u64_or_nat _ _ (by omega) (by omega), nat_join 32 _ _ (by omega) (by omega)]

theorem mul_wrap {q V : Nat} (hq : q < 4294967296) (hV : V < 4294967296) : IntKind.u64.wrap ((q : Int) * (V : Int)) = ((q * V : Nat) : Int) := by
  have h := Nat.mul_le_mul (show q ≤ 4294967295 by omega) (show V ≤ 4294967295 by omega)
  have e : (q : Int) * (V : Int) = ((q * V : Nat) : Int) := by simp
  rw [e, wrapNat64 _ (by omega)]
theorem g_dec {q V r T : Nat} (h : (q + 1) * V + r = T) : q * V + (r + V) = T := by rw [Nat.succ_mul] at h; omega
theorem g_aux1 {x y r T : Nat} (h : x + r = T) (hr : 4294967296 ≤ r) (h2 : y ≤ 18446744073709551616) (D0 : Nat) : x * 4294967296 + y ≤ T * 4294967296 + D0 := by omega
theorem g_break {q V r T V0 : Nat} (D0 : Nat) (h : q * V + r = T) (hr : 4294967296 ≤ r) (hT : T < (V + 1) * 4294967296) (hV0 : V0 ≤ 4294967296) :
    q < 4294967296 ∧ q * (V * 4294967296 + V0) ≤ T * 4294967296 + D0 := by
  have h1 : q < 4294967296 := by
    rcases Nat.lt_or_ge q 4294967296 with h1 | h1
    · exact h1
    · have := Nat.mul_le_mul_right V h1
      rw [Nat.mul_comm 4294967296 V] at this; omega
  refine ⟨h1, ?_⟩
  have h2 : q * V0 ≤ 4294967296 * 4294967296 := Nat.mul_le_mul (Nat.le_of_lt h1) hV0
  rw [Nat.mul_add, ← Nat.mul_assoc]
  exact g_aux1 h hr h2 D0
theorem g_aux2 {x y r T rd D0 : Nat} (h : x + r = T) (hr : rd = r * 4294967296 + D0) : (rd < y → T * 4294967296 + D0 < x * 4294967296 + y) ∧ (¬ rd < y → x * 4294967296 + y ≤ T * 4294967296 + D0) := by omega
theorem g_cmp {q V r T V0 D0 qv rd : Nat} (h : q * V + r = T) (hqv : qv = q * V0) (hrd : rd = r * 4294967296 + D0) :
    (rd < qv → T * 4294967296 + D0 < q * (V * 4294967296 + V0)) ∧ (¬ rd < qv → q * (V * 4294967296 + V0) ≤ T * 4294967296 + D0) ∧ (q = 0 → qv = 0) := by
  rw [Nat.mul_add, ← Nat.mul_assoc, ← hqv]
  obtain ⟨h1, h2⟩ := g_aux2 (y := qv) h hrd
  exact ⟨h1, h2, fun h => by rw [hqv, h, Nat.zero_mul]⟩
theorem mul_wrap' {q V qv : Nat} (hqv : qv = q * V) (hq : q < 4294967296) (hV : V < 4294967296) : IntKind.u64.wrap ((q : Int) * (V : Int)) = (qv : Int) := by rw [hqv]; exact mul_wrap hq hV
theorem or_join2' {r x rd : Nat} (h0 : rd = r * 4294967296 + x) (h : r < 4294967296) (hx : x < 4294967296) : bits .or .u64 ((r : Int) * 4294967296) (x : Int) = (rd : Int) := by rw [h0]; exact or_join2 r x h hx

theorem cell_lt' {w : World} {a : Addr} {x : Value} (h : w.cell? a = some x) : a.block < w.heap.size := by
  unfold World.cell? at h
  rcases Nat.lt_or_ge a.block w.heap.size with h' | h'
  · exact h'
  · rw [Array.getElem?_eq_none h'] at h; simp at h

set_option maxRecDepth 100000 in
set_option maxHeartbeats 1600000 in
theorem guess_any (bu ou cu bv ov cv m : Nat) (D2 D1 D0 V1 V0 : Nat) (w : World) (hm : m ≤ 1000000000)
    (hD2 : D2 < 4294967296) (hD1 : D1 < 4294967296) (hD0 : D0 < 4294967296) (hV1 : V1 < 4294967296) (hV0 : V0 < 4294967296) (hV : 2147483648 ≤ V1) (hDV : D2 ≤ V1)
    (c2 : w.cell? ⟨bu, ou + (m + 2), none⟩ = some (.int .u32 D2)) (c1 : w.cell? ⟨bu, ou + (m + 1), none⟩ = some (.int .u32 D1)) (c0 : w.cell? ⟨bu, ou + m, none⟩ = some (.int .u32 D0))
    (e1 : w.cell? ⟨bv, ov + (m + 1), none⟩ = some (.int .u32 V1)) (e0 : w.cell? ⟨bv, ov + m, none⟩ = some (.int .u32 V0)) :
    Calls Tryd.prog 123 #[.slice (some ⟨bu, ou, none⟩) (m + 3) cu, .slice (some ⟨bv, ov, none⟩) (m + 2) cv] w fun e w' => ∃ q : Nat, e = .returned (.int .u64 q) ∧ q < 4294967296 ∧
      q * (V1 * 4294967296 + V0) ≤ (D2 * 4294967296 + D1) * 4294967296 + D0 ∧
      (q = (D2 * 4294967296 + D1) / V1 ∨ 4294967296 ≤ q + 1 ∨ (D2 * 4294967296 + D1) * 4294967296 + D0 < (q + 1) * (V1 * 4294967296 + V0)) ∧ Ext w w' := by
  obtain ⟨T, hT⟩ : ∃ T, T = D2 * 4294967296 + D1 := ⟨_, rfl⟩
  have hj1 := or_join2 D2 D1 hD2 hD1
  rw [← hT] at hj1 ⊢
  have hTb : T < (V1 + 1) * 4294967296 := by have := Nat.mul_le_mul_right 4294967296 hDV; omega
  obtain ⟨Q0, hQ⟩ : ∃ Q, Q = T / V1 := ⟨_, rfl⟩
  obtain ⟨R0, hR⟩ : ∃ R, R = T % V1 := ⟨_, rfl⟩
  have hR1 : R0 < V1 := by rw [hR]; exact Nat.mod_lt _ (by omega)
  have hQR : Q0 * V1 + R0 = T := by rw [hQ, hR, Nat.mul_comm]; exact Nat.div_add_mod T V1
  have hq0 : (T : Int) / (V1 : Int) = (Q0 : Int) := by rw [hQ]; rfl
  have hr0 : (T : Int) % (V1 : Int) = (R0 : Int) := by rw [hR]; rfl
  have hQb : Q0 < 8589934592 := by
    rcases Nat.lt_or_ge Q0 8589934592 with h | h
    · exact h
    · have := Nat.mul_le_mul h hV; omega
  have hqw := wrapNat64 Q0 (by omega)
  have w2 := wrapNat64 D2 (by omega)
  have w1 := wrapNat64 D1 (by omega)
  have w0 := wrapNat64 D0 (by omega)
  have x1 := wrapNat64 V1 (by omega)
  have x0 := wrapNat64 V0 (by omega)
  have HT := Lib.hid hT
  have HQ := Lib.hid hQ
  have HQR := Lib.hid hQR
  rw [← hQ]
  have hV1i : (1 : Int) ≤ V1 := by omega
  have hTi : (0 : Int) ≤ T := by omega
  clear hT hQ hR hQR
  go_enter Tryd.func123, Tryd.ntmps123
  go_wp2_with fail
  go_quiet (fail)
  go_wp2_with fail
  go_quiet (fail)
  go_wp2_with fail
  go_loopw [7, 8] (fun qv rv wr => ∃ q r : Nat, qv = .int .u64 q ∧ rv = .int .u64 r ∧ q ≤ Q0 ∧ q * V1 + r = T ∧ r < 4294967296 ∧
      (q = Q0 ∨ 4294967296 ≤ q + 1 ∨ T * 4294967296 + D0 < (q + 1) * (V1 * 4294967296 + V0)) ∧ Ext w wr) (fun _ rv _ => 8589934592 - (intOf rv).toNat)
  case atStart => exact ⟨Q0, R0, rfl, by rw [hr0], Nat.le_refl _, HQR.out, by omega, .inl rfl, below_drewN (below_drewN (Below.refl _ _) _) _⟩
  case round =>
    obtain ⟨q, r, rfl, rfl, hqQ, hqr, hr, hor, hbel⟩ := hrel
    have d0 : wr.cell? ⟨bu, ou + m, none⟩ = some (.int .u32 D0) := (hbel.cell (p := ⟨bu, ou + m, none⟩) (cell_lt' c0)).trans c0
    have f1 : wr.cell? ⟨bv, ov + (m + 1), none⟩ = some (.int .u32 V1) := (hbel.cell (p := ⟨bv, ov + (m + 1), none⟩) (cell_lt' e1)).trans e1
    have f0 : wr.cell? ⟨bv, ov + m, none⟩ = some (.int .u32 V0) := (hbel.cell (p := ⟨bv, ov + m, none⟩) (cell_lt' e0)).trans e0
    have hqb : q < 8589934592 := by omega
    have HOR := Lib.hid hor
    have HE := Lib.hid hqr
    clear hor hqr c0 e1 e0
    by_cases hqB : 4294967296 ≤ q
    · have t1 : ((q : Int) / 4294967296 != 0) = true := by rw [bne_iff_ne]; omega
      obtain ⟨q1, rfl⟩ : ∃ q1, q = q1 + 1 := ⟨q - 1, by omega⟩
      have hdec := g_dec HE.out
      have t1 : (((q1 : Int) + 1) / 4294967296 != 0) = true := by rw [bne_iff_ne]; omega
      have HDEC := Lib.hid hdec
      have hor1 : 4294967296 ≤ q1 + 1 := hqB
      clear hdec
      go_wp2_with fail
      go_quiet (fail)
      go_wp2_with fail
      · have t3 := ‹(((r : Int) + (V1 : Int)) / 4294967296 != 0) = true›
        rw [bne_iff_ne] at t3
        obtain ⟨h1, h2⟩ := g_break (V0 := V0) D0 HDEC.out (by omega) hTb (by omega)
        go_ret
        exact ⟨q1, by go_num, h1, h2, .inr (.inl hor1), below_drewN hbel _⟩
      · have t3 := ‹(((r : Int) + (V1 : Int)) / 4294967296 != 0) = false›
        rw [bne_eq_false_iff_eq] at t3
        go_roundw
        case rel => exact ⟨q1, r + V1, by go_num, by go_num, by omega, HDEC.out, by omega, .inr (.inl hor1), below_drewN hbel _⟩
        case measure => simp [intOf]; omega
    · have t1 : ((q : Int) / 4294967296 != 0) = false := by rw [bne_eq_false_iff_eq]; omega
      obtain ⟨qv, hqv⟩ : ∃ qv, qv = q * V0 := ⟨_, rfl⟩
      obtain ⟨rd, hrd⟩ : ∃ rd, rd = r * 4294967296 + D0 := ⟨_, rfl⟩
      have hm1 := mul_wrap' hqv (show q < 4294967296 by omega) hV0
      have hj2 := or_join2' hrd hr hD0
      have HB := Lib.hid (g_cmp HE.out hqv hrd)
      clear hqv hrd
      by_cases hgt : rd < qv
      · have t2 : (rd : Int) < qv := by omega
        obtain ⟨q1, rfl⟩ : ∃ q1, q = q1 + 1 := by
          cases q with
          | zero => exfalso; have := HB.out.2.2 rfl; omega
          | succ q1 => exact ⟨q1, rfl⟩
        have t1 : (((q1 : Int) + 1) / 4294967296 != 0) = false := by rw [bne_eq_false_iff_eq]; omega
        have hm1 : IntKind.u64.wrap (((q1 : Int) + 1) * (V0 : Int)) = (qv : Int) := by have := hm1; simpa using this
        have HDEC := Lib.hid (g_dec HE.out)
        go_wp2_with fail
        go_quiet (fail)
        go_wp2_with fail
        · have t3 := ‹(((r : Int) + (V1 : Int)) / 4294967296 != 0) = true›
          rw [bne_iff_ne] at t3
          obtain ⟨h1, h2⟩ := g_break (V0 := V0) D0 HDEC.out (by omega) hTb (by omega)
          go_ret
          exact ⟨q1, by go_num, h1, h2, .inr (.inr (HB.out.1 hgt)), below_drewN hbel _⟩
        · have t3 := ‹(((r : Int) + (V1 : Int)) / 4294967296 != 0) = false›
          rw [bne_eq_false_iff_eq] at t3
          go_roundw
          case rel => exact ⟨q1, r + V1, by go_num, by go_num, by omega, HDEC.out, by omega, .inr (.inr (HB.out.1 hgt)), below_drewN hbel _⟩
          case measure => simp [intOf]; omega
      · have t2 : ¬ (rd : Int) < qv := by omega
        go_wp2_with fail
        go_quiet (fail)
        go_wp2_with fail
        go_ret
        exact ⟨q, rfl, by omega, HB.out.2.1 hgt, HOR.out, below_drewN hbel _⟩
end Go.Proofs.YtnenbmbgmmeiaaaDoor
