/- Walks of rational and binenc: same, IsNormalized, Rational. -/
import Derived.Test.YtnenbmbgmmeiaaaDoorRat8
namespace Go.Proofs.YtnenbmbgmmeiaaaDoor
open Go.RowKit En
variable {α : Type}
set_option linter.unusedVariables false

set_option maxRecDepth 100000 in
set_option maxHeartbeats 1600000 in
theorem ratSame_any (n1 n2 : Bool) (s1 s2 : Value) (l m : List UInt32) (w : World) (h1 : IsU32s w s1 l) (h2 : IsU32s w s2 m) :
    Calls Tryd.prog 76 #[.agg #[.bool n1, s1], .agg #[.bool n2, s2]] w fun e w' => e = .returned (.bool (n1 == n2 && l == m)) ∧ Ext w w' := by
  obtain ⟨a1, c1, rfl⟩ := h1.shape
  obtain ⟨a2, c2, rfl⟩ := h2.shape
  have hl1 := h1.len
  have hl2 := h2.len
  unfold maxLen at hl1 hl2
  have HB0 := Lib.hid ((below_alloc w (.cells #[.bool n1, .slice a1 l.length c1] 49)).alloc (by simp) (.cells #[.bool n2, .slice a2 m.length c2] 49))
  have H1 := Lib.hid h1
  have H2 := Lib.hid h2
  clear h1 h2
  by_cases hn : n1 = n2
  · subst hn
    by_cases hl : l.length = m.length
    · have HL := Lib.hid hl
      obtain ⟨W, hW⟩ : ∃ W, ((w.alloc (.cells #[.bool n1, .slice a1 l.length c1] 49)).alloc (.cells #[.bool n1, .slice a2 m.length c2] 49)) = W := ⟨_, rfl⟩
      have hK : ∀ w1, Ext W w1 → w1.cell? ⟨w.heap.size, 1, none⟩ = some (.slice a1 l.length c1) ∧ w1.cell? ⟨w.heap.size + 1, 1, none⟩ = some (.slice a2 m.length c2) := by
        intro w1 hb
        subst hW
        constructor
        · rw [hb.cell (p := ⟨w.heap.size, 1, none⟩) (by simp; omega)]; simp [go_sem]
        · rw [hb.cell (p := ⟨w.heap.size + 1, 1, none⟩) (by simp)]; simp [go_sem]
      have HK := Lib.hid hK
      rw [hW] at HB0
      have HW := Lib.hid hW
      have hne : ((l.length : Int) != (m.length : Int)) = false := by rw [bne_eq_false_iff_eq]; omega
      have hml : m.length ≤ l.length := Nat.le_of_eq hl.symm
      have hlm : l.length ≤ m.length := Nat.le_of_eq hl
      clear hl hK hW
      cases n1
      all_goals
        go_enter Tryd.func76, Tryd.ntmps76
        go_wp2_with fail
        rw [HW.out]
        clear hne
        go_loopw [5, 6, 24] (fun _ _ i wr => ∃ k : Nat, i = .int .i64 k ∧ k ≤ l.length ∧ l.take k = m.take k ∧ Ext W wr) (fun _ _ i _ => l.length - (intOf i).toNat)
        case atStart => exact ⟨0, rfl, Nat.zero_le _, rfl, Below.refl _ _⟩
        case round =>
          obtain ⟨k, rfl, hk, ht, hbel⟩ := hrel
          have HT := Lib.hid ht
          clear ht
          obtain ⟨q1, q2⟩ := HK.out wr hbel
          by_cases hlt : k < l.length
          · obtain ⟨bx, ox, cx, hxs, hbx, hlx, hmx, hcx⟩ := row_some H1.out rfl (by omega)
            obtain ⟨by', oy, cy, hys, hby, hly, hmy, hcy⟩ := row_some H2.out rfl (by omega)
            simp only [Value.slice.injEq] at hxs hys
            obtain ⟨rfl, -, -⟩ := hxs
            obtain ⟨rfl, -, -⟩ := hys
            have hkm : k < m.length := by omega
            have hb := Ext.trans' HB0.out hbel
            have r1 : wr.cell? ⟨bx, ox + k, none⟩ = some (u32v l[k]) := by rw [hb.cell (p := ⟨bx, ox + k, none⟩) hbx]; exact hcx k hlt
            have r2 : wr.cell? ⟨by', oy + k, none⟩ = some (u32v m[k]) := by rw [hb.cell (p := ⟨by', oy + k, none⟩) hby]; exact hcy k hkm
            have hs1 := take_snoc l k hlt
            have hs2 := take_snoc m k hkm
            clear hcx hcy hb
            have hkI : (k : Int) < (m.length : Int) := by omega
            by_cases he : l[k] = m[k]
            · have hnx : l.take (k + 1) = m.take (k + 1) := by rw [hs1, hs2, HT.out, he]
              rw [he] at r1
              have HN := Lib.hid hnx
              generalize m[k] = d at *
              clear hs1 hs2 hnx he
              go_wp2_with fail
              go_roundw
              case rel => exact ⟨k + 1, by go_num, by omega, HN.out, hbel⟩
              case measure => simp [intOf]; omega
            · have hx : ((l[k].toNat : Int) != (m[k].toNat : Int)) = true := by
                rw [bne_iff_ne]; intro e; exact he (UInt32.toNat_inj.1 (by omega))
              have hr : l ≠ m := fun e => he (by subst e; rfl)
              have HR : Hid ((l == m) = false) := beq_eq_false_iff_ne.2 hr
              generalize l[k] = d1 at *
              generalize m[k] = d2 at *
              clear hs1 hs2 he hr
              go_wp2_with fail
              go_ret
              exact ⟨by rw [HR.out]; rfl, Ext.trans' HB0.out hbel⟩
          · obtain rfl : k = l.length := by omega
            have hr : l = m := by
              have := HT.out
              rw [List.take_length, HL.out, List.take_length] at this; exact this
            have HR : Hid ((l == m) = true) := beq_iff_eq.2 hr
            clear hr
            go_wp2_with fail
            go_ret
            exact ⟨by rw [HR.out]; rfl, Ext.trans' HB0.out hbel⟩
    · have hne : ((l.length : Int) != (m.length : Int)) = true := by rw [bne_iff_ne]; omega
      have hr : Hid ((n1 == n1 && l == m) = false) := by
        show _ = _
        rw [beq_self_eq_true, Bool.true_and, beq_eq_false_iff_ne]; exact fun e => hl (by rw [e])
      clear hl
      cases n1
      all_goals
        go_enter Tryd.func76, Tryd.ntmps76
        go_wp2_with fail
        go_ret
        exact ⟨by rw [hr.out]; rfl, HB0.out⟩
  · have hr : Hid ((n1 == n2 && l == m) = false) := by
      show _ = _
      rw [beq_eq_false_iff_ne.2 hn, Bool.false_and]
    cases n1 <;> cases n2
    · exact absurd rfl hn
    case' true.true => exact absurd rfl hn
    all_goals
      clear hn
      go_enter Tryd.func76, Tryd.ntmps76
      go_wp2_with fail
      go_ret
      exact ⟨by rw [hr.out]; rfl, HB0.out⟩

/-- What IsNormalized finds of a sign that fits. -/
theorem norm_same {n1 : Bool} {a b : Nat} (h : n1 = true → 0 < a) : (decide (0 < b) && ((n1 == (nrm n1 false a b).1 && Na.digs a == Na.digs (nrm n1 false a b).2.1) && (false == false && Na.digs b == Na.digs (nrm n1 false a b).2.2))) = qok n1 a b := by
  have h1 : (!(n1 && decide ((Na.digs a).length = 0))) = true := by
    cases n1
    · rfl
    · have := h rfl
      rw [Bool.true_and, Bool.not_eq_true', decide_eq_false_iff_not]
      intro e; have := digs_len0 e; omega
  cases hq : qok n1 a b with
  | true =>
    have hb : 0 < b := by
      unfold qok at hq
      simp only [Bool.and_eq_true, decide_eq_true_eq] at hq
      exact hq.2.1
    rw [nrm_qok hq, decide_eq_true hb]; simp
  | false =>
    rw [Bool.eq_false_iff]
    intro hc
    simp only [Bool.and_eq_true, decide_eq_true_eq, beq_iff_eq] at hc
    obtain ⟨hb, ⟨_, e2⟩, _, e3⟩ := hc
    unfold qok at hq
    rw [h1, decide_eq_true hb, Bool.true_and, Bool.true_and] at hq
    have e3' : b = (nrm n1 false a b).2.2 := by
      have := congrArg Na.val e3
      rwa [Na.val_digs, Na.val_digs] at this
    have hg : Nat.gcd a b = 1 := by
      unfold nrm at e3'
      rw [if_neg (by omega)] at e3'
      simp only at e3'
      have hgp : 0 < Nat.gcd a b := Nat.gcd_pos_of_pos_right _ hb
      have hd := Nat.div_mul_cancel (Nat.gcd_dvd_right a b)
      rw [← e3'] at hd
      rcases Nat.lt_or_ge 1 (Nat.gcd a b) with h2 | h2
      · have : b * 2 ≤ b * Nat.gcd a b := Nat.mul_le_mul_left _ h2
        omega
      · omega
    rw [hg] at hq
    simp at hq

set_option maxRecDepth 100000 in
set_option maxHeartbeats 800000 in
theorem ratIsNorm_any (n1 : Bool) (s t : Value) (a b : Nat) (w : World) (hs : IsU32s w s (Na.digs a)) (ht : IsU32s w t (Na.digs b)) (hla : (Na.digs a).length ≤ 5000000) (hlb : (Na.digs b).length ≤ 5000000) (hn : n1 = true → 0 < a) :
    Calls Tryd.prog 54 #[.agg #[.bool n1, s, .bool false, t]] w fun e w' => e = .returned (.bool (qok n1 a b)) ∧ Ext w w' := by
  have hb0 := below_alloc w (.cells #[.bool n1, s, .bool false, t] 51)
  have HB0 := Lib.hid hb0
  have H := Lib.hid (And.intro hs ht)
  have hN := ratNormalize_any n1 false s t _ _ _ (hs.below hb0) (ht.below hb0) (by omega) (by omega)
  rw [Na.val_digs, Na.val_digs] at hN
  have HN := Lib.hid hN
  have HR := Lib.hid (norm_same (b := b) hn)
  obtain ⟨a1, c1, rfl⟩ := hs.shape
  obtain ⟨a2, c2, rfl⟩ := ht.shape
  generalize nrm n1 false a b = r at *
  obtain ⟨ng, ga, gb⟩ := r
  simp only at HR
  generalize qok n1 a b = Q at *
  have hK : ∀ w1, Ext (w.alloc (.cells #[.bool n1, .slice a1 (Na.digs a).length c1, .bool false, .slice a2 (Na.digs b).length c2] 51)) w1 → (∀ i, w1.cell? ⟨w.heap.size, i, none⟩ = #[Value.bool n1, .slice a1 (Na.digs a).length c1, .bool false, .slice a2 (Na.digs b).length c2][i]?) ∧ w.heap.size < w1.heap.size := fun w1 h => ⟨(newBlock h).1, (newBlock h).2.2⟩
  have HK := Lib.hid hK
  clear hs ht hb0 hN hK hn
  go_enter Tryd.func54, Tryd.ntmps54
  go_wp2_with fail
  refine HN.out.mono ?_
  rintro e w1 ⟨x, rfl, hx, hb⟩
  have hx : IsRatN _ w1 x ng ga gb := hx
  obtain ⟨b1, d1, b2, d2, rfl⟩ := hx.shape
  obtain ⟨k1, kz⟩ := HK.out w1 hb
  have HX := Lib.hid (And.intro hx.parts.1 hx.parts.2.1)
  have hE := hb.alloc hb.size (.cells #[.bool ng, .slice b1 (Na.digs ga).length d1, .bool false, .slice b2 (Na.digs gb).length d2] 51)
  have hS := intSign_any false (.slice a2 (Na.digs b).length c2) (Na.digs b) _ (H.out.2.below (Ext.trans' HB0.out hE)) (by omega)
  rw [Na.val_digs] at hS
  have HE := Lib.hid hE
  have HW1 := Lib.hid hb
  have HS := Lib.hid hS
  clear hx hb hE hS HN
  have HK2 : Hid (∀ w2, Ext (w1.alloc (.cells #[.bool ng, .slice b1 (Na.digs ga).length d1, .bool false, .slice b2 (Na.digs gb).length d2] 51)) w2 →
      (∀ i, w2.cell? ⟨w.heap.size, i, none⟩ = #[Value.bool n1, .slice a1 (Na.digs a).length c1, .bool false, .slice a2 (Na.digs b).length c2][i]?) ∧ (∀ i, w2.cell? ⟨w1.heap.size, i, none⟩ = #[Value.bool ng, .slice b1 (Na.digs ga).length d1, .bool false, .slice b2 (Na.digs gb).length d2][i]?) ∧
      IsU32s w2 (.slice a1 (Na.digs a).length c1) (Na.digs a) ∧ IsU32s w2 (.slice a2 (Na.digs b).length c2) (Na.digs b) ∧ IsU32s w2 (.slice b1 (Na.digs ga).length d1) (Na.digs ga) ∧ IsU32s w2 (.slice b2 (Na.digs gb).length d2) (Na.digs gb) ∧ Ext w w2) := by
    intro w2 h2
    have h3 := Ext.trans' (below_alloc w1 _) h2
    have h4 := Ext.trans' HB0.out (Ext.trans' HW1.out h3)
    exact ⟨(HK.out w2 (Ext.trans' HW1.out h3)).1, (newBlock h2).1, H.out.1.below h4, H.out.2.below h4, HX.out.1.below h3, HX.out.2.below h3, h4⟩
  clear HE HW1 HX HK HB0 H
  cases hb0 : decide (0 < b) with
  | false =>
    have hb00 : b = 0 := by have := of_decide_eq_false hb0; omega
    have hr : Hid (Q = false) := by show _ = _; rw [← HR.out, hb0]; rfl
    rw [show sgn false b = 0 by rw [hb00]; rfl] at HS
    clear hb0 hb00
    go_wp2_with fail
    refine HS.out.mono ?_
    rintro e w2 ⟨rfl, hb⟩
    obtain ⟨-, -, -, -, -, -, h4⟩ := HK2.out w2 hb
    have HF := Lib.hid h4
    clear hb h4
    go_wp2_with fail
    go_ret
    exact ⟨by rw [hr.out]; rfl, HF.out⟩
  | true =>
    have hbp : 0 < b := of_decide_eq_true hb0
    have hR2 := HR.out
    rw [hb0, Bool.true_and] at hR2
    have hsg : sgn false b = 1 := by unfold sgn; rw [if_neg (by omega)]; rfl
    rw [hsg] at HS
    obtain ⟨S1, hS1⟩ : ∃ S1, (n1 == ng && Na.digs a == Na.digs ga) = S1 := ⟨_, rfl⟩
    obtain ⟨S2, hS2⟩ : ∃ S2, (false == false && Na.digs b == Na.digs gb) = S2 := ⟨_, rfl⟩
    rw [hS1, hS2] at hR2
    have HR2 := Lib.hid hR2
    have HS1 := Lib.hid hS1
    have HS2 := Lib.hid hS2
    clear hb0 hbp hsg hR2 hS1 hS2
    go_wp2_with fail
    refine HS.out.mono ?_
    rintro e w2 ⟨rfl, hb⟩
    obtain ⟨k1, k2, g1, g2, g3, g4, h4⟩ := HK2.out w2 hb
    have hM := ratSame_any n1 ng _ _ _ _ w2 g1 g3
    rw [HS1.out] at hM
    have HM := Lib.hid hM
    have HW2 := Lib.hid hb
    clear hb g1 g2 g3 g4 h4 hM HS
    cases S1
    · go_wp2_with fail
      refine HM.out.mono ?_
      rintro e w3 ⟨rfl, hb⟩
      obtain ⟨-, -, -, -, -, -, h4⟩ := HK2.out w3 (Ext.trans' HW2.out hb)
      have HF := Lib.hid h4
      clear hb h4 k1 k2
      go_wp2_with fail
      go_ret
      exact ⟨by rw [← HR2.out]; rfl, HF.out⟩
    · go_wp2_with fail
      refine HM.out.mono ?_
      rintro e w3 ⟨rfl, hb⟩
      have hW3 := Ext.trans' HW2.out hb
      obtain ⟨k1, k2, g1, g2, g3, g4, h4⟩ := HK2.out w3 hW3
      have hM := ratSame_any false false _ _ _ _ w3 g2 g4
      rw [HS2.out] at hM
      have HM2 := Lib.hid hM
      have HW3 := Lib.hid hW3
      clear hb g1 g2 g3 g4 h4 hM hW3 HM
      go_wp2_with fail
      refine HM2.out.mono ?_
      rintro e w4 ⟨rfl, hb⟩
      obtain ⟨-, -, -, -, -, -, h4⟩ := HK2.out w4 (Ext.trans' HW3.out hb)
      have HF := Lib.hid h4
      clear hb h4 k1 k2
      go_wp2_with fail
      go_ret
      exact ⟨by rw [← HR2.out]; rfl, HF.out⟩
end Go.Proofs.YtnenbmbgmmeiaaaDoor
