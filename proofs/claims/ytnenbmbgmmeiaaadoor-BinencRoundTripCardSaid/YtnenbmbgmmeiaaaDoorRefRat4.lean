/- Walks of the references on rational numbers and their encoding: IsNormalized, Same, base256, magnitude. -/
import Derived.Test.YtnenbmbgmmeiaaaDoorRefRat3
import Derived.StillTailTactics
namespace Nb
theorem trim_ex (l : List UInt8) : ∃ n, n ≤ l.length ∧ val (l.take n) = val l ∧ (n = 0 ∨ ∃ h : n - 1 < l.length, l[n - 1] ≠ 0) := by
  have key : ∀ k, k ≤ l.length → val (l.take k) = val l → ∃ n, n ≤ l.length ∧ val (l.take n) = val l ∧ (n = 0 ∨ ∃ h : n - 1 < l.length, l[n - 1] ≠ 0) := by
    intro k
    induction k with
    | zero => intro hk hv; exact ⟨0, hk, hv, .inl rfl⟩
    | succ k ih =>
      intro hk hv
      by_cases h0 : l[k]'(by omega) = 0
      · refine ih (by omega) ?_
        rw [← hv, val_take_succ l k (by omega), h0]; simp
      · exact ⟨k + 1, hk, hv, .inr ⟨by simp; omega, by simpa using h0⟩⟩
  exact key l.length (Nat.le_refl _) (by rw [List.take_length])
theorem digs_facts (l : List UInt8) : digs (val l) = l.take (digs (val l)).length ∧ (digs (val l)).length ≤ l.length ∧
    (∀ j (h : j < l.length), (digs (val l)).length ≤ j → l[j] = 0) ∧ (∀ j (h : j < l.length), j + 1 = (digs (val l)).length → l[j] ≠ 0) := by
  obtain ⟨n, hn, hv, ht⟩ := trim_ex l
  have hd := digs_eq_take hn hv ht
  have hl : (digs (val l)).length = n := by rw [hd]; simp; omega
  rw [hl]
  refine ⟨hd, hn, fun j h hj => ?_, fun j h hj => ?_⟩
  · have h1 := val_take_drop l j (by omega)
    rw [val_drop l j h] at h1
    have h2 := val_take_drop (l.take j) n (by simp; omega)
    rw [List.take_take, Nat.min_eq_left hj, hv] at h2
    have h3 : B ^ j * (l[j].toNat + B * val (l.drop (j + 1))) = 0 := by omega
    rcases Nat.mul_eq_zero.1 h3 with h4 | h4
    · have := Nat.pow_pos (n := j) B_pos; omega
    · exact UInt8.toNat_inj.1 (by simp; omega)
  · rcases ht with h0 | ⟨h1, h2⟩
    · omega
    · have e : n - 1 = j := by omega
      simp only [e] at h2
      exact h2
theorem digs_of_list (l : List UInt32) : digs (Na.val l) = digs (val (bytes l)) := by rw [val_bytes]
theorem bytes_get (l : List UInt32) : ∀ (q r : Nat) (h : q < l.length), r < 4 → (bytes l)[4 * q + r]? = some (UInt8.ofNat (l[q].toNat / 256 ^ r)) := by
  induction l with
  | nil => intro q r h; simp at h
  | cons d l ih =>
    intro q r h hr
    have e : bytes (d :: l) = le4 d ++ bytes l := by simp [bytes]
    rw [e]
    cases q with
    | zero =>
      rw [List.getElem?_append_left (by simp [le4]; omega)]
      have hd := d.toNat_lt
      rcases r with _ | _ | _ | _ | r
      · simp [le4]
      · simp [le4]; apply UInt8.toNat_inj.1; simp [UInt32.toNat_shiftRight, Nat.shiftRight_eq_div_pow]
      · simp [le4]; apply UInt8.toNat_inj.1; simp [UInt32.toNat_shiftRight, Nat.shiftRight_eq_div_pow]
      · simp [le4]; apply UInt8.toNat_inj.1; simp [UInt32.toNat_shiftRight, Nat.shiftRight_eq_div_pow]
      · omega
    | succ q =>
      rw [List.getElem?_append_right (by simp [le4]; omega)]
      have e2 : 4 * (q + 1) + r - (le4 d).length = 4 * q + r := by simp [le4]; omega
      rw [e2, ih q r (by simpa using h) hr]
      simp
end Nb
namespace Go.Proofs.YtnenbmbgmmeiaaaDoor
open Go.RowKit
variable {α : Type}
set_option linter.unusedVariables false

set_option maxRecDepth 100000 in
set_option maxHeartbeats 800000 in
theorem refSame_eq (n1 n2 : Bool) (s1 s2 t1 t2 : Value) (l m : List UInt32) (w : World) (h1 : IsU32s w s1 l) (h2 : IsU32s w s2 m) (g1 : IsU32s w t1 l) (g2 : IsU32s w t2 m) :
    Calls Tryd.prog 37 #[.agg #[.bool n1, s1, .bool n2, s2], .agg #[.bool n1, t1, .bool n2, t2]] w fun e w' => e = .returned (.bool true) ∧ Ext w w' := by
  obtain ⟨a1, c1, rfl⟩ := h1.shape
  obtain ⟨a2, c2, rfl⟩ := h2.shape
  obtain ⟨b1, d1, rfl⟩ := g1.shape
  obtain ⟨b2, d2, rfl⟩ := g2.shape
  have hb0 := (below_alloc w (.cells #[.bool n1, .slice a1 l.length c1, .bool n2, .slice a2 m.length c2] 51)).alloc (by simp) (.cells #[.bool n1, .slice b1 l.length d1, .bool n2, .slice b2 m.length d2] 51)
  have hS := sameInt_any n1 n1 _ _ l l _ (h1.below hb0) (g1.below hb0)
  rw [beq_self_eq_true, beq_self_eq_true, Bool.true_and] at hS
  have HS := Lib.hid hS
  have HB0 := Lib.hid hb0
  have H := Lib.hid (And.intro h2 g2)
  clear h1 h2 g1 g2 hb0 hS
  go_enter Tryd.func37, Tryd.ntmps37
  go_wp2_with fail
  refine HS.out.mono ?_
  rintro e w1 ⟨rfl, hb⟩
  obtain ⟨k1, k2, -, -⟩ := block2 hb
  have hX := Ext.trans' HB0.out hb
  have hS := sameInt_any n2 n2 _ _ m m w1 (H.out.1.below hX) (H.out.2.below hX)
  rw [beq_self_eq_true, beq_self_eq_true, Bool.true_and] at hS
  have HS2 := Lib.hid hS
  have HX := Lib.hid hX
  clear hb hX hS HS
  go_wp2_with fail
  refine HS2.out.mono ?_
  rintro e w2 ⟨rfl, hb⟩
  have HY := Lib.hid (Ext.trans' HX.out hb)
  clear hb
  go_wp2_with fail
  go_ret
  exact ⟨rfl, HY.out⟩

set_option maxRecDepth 100000 in
set_option maxHeartbeats 400000 in
theorem refIntIsNorm_any (neg : Bool) (s : Value) (l : List UInt32) (w : World) (hs : IsU32s w s l) (hn : Na.norm l) :
    Calls Tryd.prog 65 #[.agg #[.bool neg, s]] w fun e w' => e = .returned (.bool (!(neg && decide (l.length = 0)))) ∧ Ext w w' := by
  have hl := hs.len
  unfold maxLen at hl
  have hb0 := below_alloc w (.cells #[.bool neg, s] 49)
  have HB0 := Lib.hid hb0
  rcases Nat.eq_zero_or_pos l.length with h0 | h0
  · obtain ⟨a, c, rfl⟩ := hs.shape
    have hr : Hid ((!(neg && decide (l.length = 0))) = !neg) := by show _ = _; rw [h0]; simp
    have h0I : ((l.length : Int) == 0) = true := by rw [h0]; rfl
    clear hs h0 hn hb0
    go_enter Tryd.func65, Tryd.ntmps65
    go_wp2_with fail
    go_ret
    exact ⟨by rw [hr.out]; rfl, HB0.out⟩
  · obtain ⟨n, hn1⟩ : ∃ n, l.length = n + 1 := ⟨l.length - 1, by omega⟩
    have hr : Hid ((!(neg && decide (l.length = 0))) = true) := by show _ = _; rw [decide_eq_false (by omega)]; simp
    obtain ⟨b, o, c, rfl, hb, hlc, hm, hc⟩ := row_some hs hn1 (by omega)
    have hlast := Na.last_ne hn h0
    simp only [hn1, Nat.add_sub_cancel] at hlast
    have hck := hc n (by omega)
    have hck1 : (w.alloc (.cells #[.bool neg, .slice (some ⟨b, o, none⟩) (n + 1) c] 49)).cell? ⟨b, o + n, none⟩ = some (u32v (l[n]'(by omega))) := by rw [hb0.cell (p := ⟨b, o + n, none⟩) hb]; exact hck
    have hz : ((n : Int) + 1 == 0) = false := by rw [beq_eq_false_iff_ne]; omega
    have hx : ((l[n]'(by omega)).toNat : Int) ≠ 0 := fun e => hlast (UInt32.toNat_inj.1 (by simp; omega))
    have hx2 : (((l[n]'(by omega)).toNat : Int) != 0) = true := bne_iff_ne.2 hx
    have hnl : (n : Int) < 9223372036854775807 := by omega
    generalize l[n]'(by omega) = d at *
    clear hs h0 hn hc hn1 hlast hb0 hx
    go_enter Tryd.func65, Tryd.ntmps65
    go_wp2_with fail
    go_ret
    exact ⟨by rw [hr.out]; rfl, HB0.out⟩

set_option maxRecDepth 100000 in
set_option maxHeartbeats 1600000 in
theorem refIsNorm_any (neg : Bool) (s t : Value) (a b : Nat) (w : World) (hs : IsU32s w s (Na.digs a)) (ht : IsU32s w t (Na.digs b)) (hla : (Na.digs a).length ≤ 5000000) (hlb : (Na.digs b).length ≤ 5000000) :
    Calls Tryd.prog 40 #[.agg #[.bool neg, s, .bool false, t]] w fun e w' => e = .returned (.bool (!(neg && decide ((Na.digs a).length = 0)) && (decide (0 < b) && (Nat.gcd a b == 1)))) ∧ Ext w w' := by
  have hb0 := below_alloc w (.cells #[.bool neg, s, .bool false, t] 51)
  have HB0 := Lib.hid hb0
  have H := Lib.hid (And.intro hs ht)
  have HI1 := Lib.hid (refIntIsNorm_any neg s _ _ (hs.below hb0) (Na.digs_norm a))
  obtain ⟨a1, c1, rfl⟩ := hs.shape
  obtain ⟨a2, c2, rfl⟩ := ht.shape
  obtain ⟨nz, hnz⟩ : ∃ nz, (!(neg && decide ((Na.digs a).length = 0))) = nz := ⟨_, rfl⟩
  rw [hnz] at HI1 ⊢
  have hK : ∀ w1, Ext (w.alloc (.cells #[.bool neg, .slice a1 (Na.digs a).length c1, .bool false, .slice a2 (Na.digs b).length c2] 51)) w1 → (∀ i, w1.cell? ⟨w.heap.size, i, none⟩ = #[Value.bool neg, .slice a1 (Na.digs a).length c1, .bool false, .slice a2 (Na.digs b).length c2][i]?) := fun w1 h => (newBlock h).1
  have HK := Lib.hid hK
  clear hs ht hb0 hnz hK
  cases nz
  · go_enter Tryd.func40, Tryd.ntmps40
    go_wp2_with fail
    refine HI1.out.mono ?_
    rintro e w1 ⟨rfl, hb⟩
    have HX := Lib.hid (Ext.trans' HB0.out hb)
    clear hb
    go_wp2_with fail
    go_ret
    exact ⟨rfl, HX.out⟩
  · go_enter Tryd.func40, Tryd.ntmps40
    go_wp2_with fail
    refine HI1.out.mono ?_
    rintro e w1 ⟨rfl, hb⟩
    have k1 := HK.out w1 hb
    have hX := Ext.trans' HB0.out hb
    have hI2 := refIntIsNorm_any false _ _ w1 (H.out.2.below hX) (Na.digs_norm b)
    rw [Bool.false_and, Bool.not_false] at hI2
    have HI2 := Lib.hid hI2
    have HX1 := Lib.hid hb
    clear hb hX hI2 HI1
    go_wp2_with fail
    refine HI2.out.mono ?_
    rintro e w2 ⟨rfl, hb2⟩
    have hX2 := Ext.trans' HX1.out hb2
    have k1 := HK.out w2 hX2
    have hS := refSign_any false _ _ w2 (H.out.2.below (Ext.trans' HB0.out hX2)) (by omega)
    rw [Na.val_digs] at hS
    have HX2 := Lib.hid hX2
    have HS := Lib.hid hS
    clear hb2 hX2 hS HI2
    rcases Nat.eq_zero_or_pos b with h0 | h0
    · have hr : Hid ((true && (decide (0 < b) && (Nat.gcd a b == 1))) = false) := by show _ = _; rw [decide_eq_false (show ¬ 0 < b by omega)]; rfl
      have hsg : sgn false b = 0 := by rw [h0]; rfl
      rw [hsg] at HS
      clear h0 hsg
      go_wp2_with fail
      refine HS.out.mono ?_
      rintro e w3 ⟨rfl, hb3⟩
      have HX3 := Lib.hid (Ext.trans' HB0.out (Ext.trans' HX2.out hb3))
      clear hb3
      go_wp2_with fail
      go_ret
      exact ⟨by rw [hr.out]; rfl, HX3.out⟩
    · have hr : Hid ((true && (decide (0 < b) && (Nat.gcd a b == 1))) = (cmpI (Nat.gcd a b) 1 == 0)) := by
        show _ = _
        rw [decide_eq_true h0, Bool.true_and, Bool.true_and]
        unfold cmpI
        generalize Nat.gcd a b = G
        rcases Nat.lt_trichotomy G 1 with h | h | h
        · obtain rfl : G = 0 := by omega
          rfl
        · subst h; rfl
        · rw [if_neg (by omega), if_pos h, beq_eq_false_iff_ne.2 (by omega)]; rfl
      have hsg : sgn false b = 1 := by unfold sgn; rw [if_neg (by omega)]; rfl
      rw [hsg] at HS
      clear h0 hsg
      go_wp2_with fail
      refine HS.out.mono ?_
      rintro e w3 ⟨rfl, hb3⟩
      have hX3 := Ext.trans' HX2.out hb3
      have k1 := HK.out w3 hX3
      have HG := refGcd_any _ _ _ _ w3 (H.out.1.below (Ext.trans' HB0.out hX3)) (H.out.2.below (Ext.trans' HB0.out hX3)) hla hlb
      rw [Na.val_digs, Na.val_digs] at HG
      have HGG := Lib.hid HG
      have HX3 := Lib.hid (Ext.trans' HB0.out hX3)
      clear hb3 hX3 HG HS
      go_wp2_with fail
      refine HGG.out.mono ?_
      rintro e w4 ⟨g, rfl, hg, hb4⟩
      have HF := Lib.hid (refFromUint64_any 1 w4)
      have HG4 := Lib.hid hg
      have HX4 := Lib.hid (Ext.trans' HX3.out hb4)
      clear hg hb4 HGG
      go_wp2_with fail
      refine HF.out.mono ?_
      rintro e w5 ⟨u, rfl, hu, hb5⟩
      have hC := refCmp_any g u _ _ w5 (HG4.out.below hb5) (ownsRow_row hu)
      rw [Na.val_digs, Na.val_digs, show (1 : UInt64).toNat = 1 from rfl] at hC
      have HC := Lib.hid hC
      have HX5 := Lib.hid (Ext.trans' HX4.out hb5)
      clear hu hb5 hC HF
      go_wp2_with fail
      refine HC.out.mono ?_
      rintro e w6 ⟨rfl, hb6⟩
      have HX6 := Lib.hid (Ext.trans' HX5.out hb6)
      clear hb6
      go_wp2_with fail
      go_ret
      exact ⟨by rw [hr.out]; rfl, HX6.out⟩
end Go.Proofs.YtnenbmbgmmeiaaaDoor
