/- Walk of binenc.Rational. -/
import Derived.Test.YtnenbmbgmmeiaaaDoorRat9
namespace Go.Proofs.YtnenbmbgmmeiaaaDoor
open Go.RowKit En
variable {α : Type}
set_option linter.unusedVariables false

/-- The sign of zero is no sign: what is read back is then not what was read. -/
theorem rat_cond {nb : Bool} {a b : Nat} {c : UInt8} {t : List UInt8} (hc : (c.toNat == 1) = nb) :
    ((qok (nb && decide (0 < a)) a b && (putQ (nb && decide (0 < a), a, b) == c :: t)) = (qok nb a b && (putQ (nb, a, b) == c :: t))) ∧
    ((qok (nb && decide (0 < a)) a b && (putQ (nb && decide (0 < a), a, b) == c :: t)) = true → (nb && decide (0 < a)) = nb) := by
  cases nb
  · simp
  · rcases Nat.eq_zero_or_pos a with h | h
    · subst h
      have e : (putQ (true && decide (0 < 0), 0, b) == c :: t) = false := by
        rw [beq_eq_false_iff_ne]
        intro e
        simp only [putQ, Nat.lt_irrefl, decide_false, Bool.and_false] at e
        have := (List.cons.inj e).1
        rw [← this] at hc
        simp at hc
      have e2 : qok true 0 b = false := by unfold qok; rw [Na.digs_zero]; rfl
      rw [e, e2, Bool.and_false, Bool.false_and]
      exact ⟨rfl, fun h => by cases h⟩
    · rw [decide_eq_true h]; simp

attribute [local go_sem] Go.Rel.Does Go.Rel.Upon Go.Rel.kept Go.Rel.valOf
set_option maxRecDepth 100000 in
set_option maxHeartbeats 1600000 in
theorem rational_any (v : Value) (l : List UInt8) (i : Int) (w : World) (hv : IsBytes w v l) (hl : l.length ≤ 1000000) :
    Calls Tryd.prog 33 #[v, .int .i64 i] w (RatPost w (qat l i)) := by
  have HV := Lib.hid hv
  obtain ⟨a0, c0, rfl⟩ := hv.shape
  have hb0 := below_alloc w (.cells #[.bool false, .slice none 0 0, .bool false, .slice none 0 0] 51)
  have HB0 := Lib.hid hb0
  by_cases hbad : i < 0 ∨ (l.length : Int) < i
  · rw [qat_bad hbad]
    have HF := Lib.hid (from_bad _ l i _ (hv.below hb0) hbad)
    clear hbad hv hb0
    go_enter Tryd.func33, Tryd.ntmps33
    go_wp2_with fail
    refine HF.out.mono ?_
    rintro e w1 ⟨rfl, rfl⟩
    go_wp2_with fail
    refine bodyPost_ret (v := .tuple #[zeroRat, .int .i64 0, .int .i64 2]) (by simp [results, Tryd.results33, go_sem]) rfl (ratPost_err HB0.out)
  obtain ⟨p, rfl⟩ : ∃ p : Nat, i = p := ⟨i.toNat, by omega⟩
  have hp : p ≤ l.length := by omega
  have HF := Lib.hid (from_rd _ l p _ (hv.below hb0) hp)
  clear hbad hv hb0
  by_cases hpe : p = l.length
  · rw [qat_end hpe]
    have hz : (((l.length - p : Nat) : Int) == 0) = true := by rw [beq_iff_eq]; omega
    clear hpe
    go_enter Tryd.func33, Tryd.ntmps33
    go_wp2_with fail
    refine HF.out.mono ?_
    rintro e w1 ⟨b, rfl, hrd, hb1, hb⟩
    have HL := Lib.hid (left_any _ l b p w1 hrd.row hrd.c0 hrd.c1 hrd.hp)
    have HB1 := Lib.hid hb1
    clear hrd hb1 HF
    go_wp2_with fail
    refine HL.out.mono ?_
    rintro e w2 ⟨rfl, n, rfl⟩
    have hX := below_drewN HB1.out n
    obtain ⟨e0, e1, e2, e3, f0, hz1⟩ := four_cells hX
    have HX := Lib.hid (Ext.trans' HB0.out hX)
    clear hX HL
    go_wp2_with fail
    refine bodyPost_ret (v := .tuple #[zeroRat, .int .i64 0, .int .i64 4]) (by simp [results, Tryd.results33, go_sem, e0, e1, e2, e3]) rfl (ratPost_err (ext_store4 HX.out (Nat.le_refl _) _ _ _ _))
  have hpl : p < l.length := by omega
  have hz : (((l.length - p : Nat) : Int) == 0) = false := by rw [beq_eq_false_iff_ne]; omega
  obtain ⟨c, hc⟩ : ∃ c, l[p]? = some c := ⟨_, List.getElem?_eq_getElem hpl⟩
  have hdc : (l.drop p).take 1 = [c] := by
    rw [List.drop_eq_getElem_cons hpl]
    rw [List.getElem?_eq_getElem hpl] at hc
    rw [Option.some.inj hc]; rfl
  have HC := Lib.hid hc
  have HDC := Lib.hid hdc
  clear hpe hc hdc
  -- to the first byte
  by_cases hs : 1 < c.toNat
  · rw [qat_sign HC.out hs]
    have hsI : (1 : Int) < (c.toNat : Int) := by omega
    clear hs
    go_enter Tryd.func33, Tryd.ntmps33
    go_wp2_with fail
    refine HF.out.mono ?_
    rintro e w1 ⟨b, rfl, hrd, hb1, hb⟩
    have HL := Lib.hid (left_any _ l b p w1 hrd.row hrd.c0 hrd.c1 hrd.hp)
    have HB1 := Lib.hid hb1
    have HR1 := Lib.hid hrd
    clear hrd hb1 HF
    go_wp2_with fail
    refine HL.out.mono ?_
    rintro e w2 ⟨rfl, n, rfl⟩
    have HNX := Lib.hid (next_any l b p 1 _ (w1.drewN n) (HR1.out.drewN n) (by omega) (by omega))
    clear HL
    go_wp2_with fail
    refine HNX.out.mono ?_
    rintro e w3 ⟨v3, rfl, hr3, hch3, hv3, hoff3⟩
    rw [HDC.out] at hv3
    obtain ⟨b3, o3, cp3, rfl, hb3, hl3, hm3, hc3⟩ := row_some hv3 rfl (by simp)
    have hcell3 := hc3 0 (by simp)
    simp only [List.getElem_cons_zero, Nat.add_zero] at hcell3
    have HR3 := Lib.hid hr3
    have HW3 := Lib.hid (Below.trans HB1.out ((Ch.trans ((Ch.refl b w1).drewN n) hch3).below hb HB1.out.size))
    clear hr3 hch3 hv3 hoff3 hc3 HNX
    obtain ⟨e0, e1, e2, e3, f0, hz1⟩ := four_cells HW3.out
    have HX := Lib.hid (Ext.trans' HB0.out HW3.out)
    go_wp2_with fail
    refine bodyPost_ret (v := .tuple #[zeroRat, .int .i64 0, .int .i64 3]) (by simp [results, Tryd.results33, go_sem, e0, e1, e2, e3]) rfl (ratPost_err (ext_store4 HX.out (Nat.le_refl _) _ _ _ _))
  have hsI : ¬ (1 : Int) < (c.toNat : Int) := by omega
  cases hu : bsc 4096 (l.drop (p + 1)) with
  | error er =>
    rw [qat_e1 HC.out hs hu]
    have he := bsc_pos hu
    have HU := Lib.hid hu
    clear hu hs
    go_enter Tryd.func33, Tryd.ntmps33
    go_wp2_with fail
    refine HF.out.mono ?_
    rintro e w1 ⟨b, rfl, hrd, hb1, hb⟩
    have HL := Lib.hid (left_any _ l b p w1 hrd.row hrd.c0 hrd.c1 hrd.hp)
    have HB1 := Lib.hid hb1
    have HR1 := Lib.hid hrd
    clear hrd hb1 HF
    go_wp2_with fail
    refine HL.out.mono ?_
    rintro e w2 ⟨rfl, n, rfl⟩
    have HNX := Lib.hid (next_any l b p 1 _ (w1.drewN n) (HR1.out.drewN n) (by omega) (by omega))
    clear HL
    go_wp2_with fail
    refine HNX.out.mono ?_
    rintro e w3 ⟨v3, rfl, hr3, hch3, hv3, hoff3⟩
    rw [HDC.out] at hv3
    obtain ⟨b3, o3, cp3, rfl, hb3, hl3, hm3, hc3⟩ := row_some hv3 rfl (by simp)
    have hcell3 := hc3 0 (by simp)
    simp only [List.getElem_cons_zero, Nat.add_zero] at hcell3
    have HR3 := Lib.hid hr3
    have HW3 := Lib.hid (Below.trans HB1.out ((Ch.trans ((Ch.refl b w1).drewN n) hch3).below hb HB1.out.size))
    clear hr3 hch3 hv3 hoff3 hc3 HNX
    go_wp2_with fail
    have HN := Lib.hid (some_any l b (p + 1) _ 4096 w3 HR3.out (by omega) (by omega))
    rw [HU.out] at HN
    refine HN.out.mono ?_
    rintro e w4 ⟨q, hrd, hch, rfl⟩
    have hX := Below.trans HW3.out (hch.below hb HW3.out.size)
    obtain ⟨e0, e1, e2, e3, f0, hz1⟩ := four_cells hX
    have HX := Lib.hid (Ext.trans' HB0.out hX)
    clear hrd hch hX HN
    go_wp2_with fail
    refine bodyPost_ret (v := .tuple #[zeroRat, .int .i64 0, .int .i64 (er : Int)]) (by simp [results, Tryd.results33, go_sem, e0, e1, e2, e3]) rfl (ratPost_err (ext_store4 HX.out (Nat.le_refl _) _ _ _ _))
  | ok r1 =>
    obtain ⟨s1, k1⟩ := r1
    obtain ⟨hk1, hk10, hs1l⟩ := bsc_len hu
    rw [List.length_drop] at hk1
    cases hu2 : bsc 4096 (l.drop (p + 1 + k1)) with
    | error er =>
      rw [qat_e2 HC.out hs hu hu2]
      have he := bsc_pos hu2
      have HU := Lib.hid hu
      have HU2 := Lib.hid hu2
      clear hu hs hu2
      go_enter Tryd.func33, Tryd.ntmps33
      go_wp2_with fail
      refine HF.out.mono ?_
      rintro e w1 ⟨b, rfl, hrd, hb1, hb⟩
      have HL := Lib.hid (left_any _ l b p w1 hrd.row hrd.c0 hrd.c1 hrd.hp)
      have HB1 := Lib.hid hb1
      have HR1 := Lib.hid hrd
      clear hrd hb1 HF
      go_wp2_with fail
      refine HL.out.mono ?_
      rintro e w2 ⟨rfl, n, rfl⟩
      have HNX := Lib.hid (next_any l b p 1 _ (w1.drewN n) (HR1.out.drewN n) (by omega) (by omega))
      clear HL
      go_wp2_with fail
      refine HNX.out.mono ?_
      rintro e w3 ⟨v3, rfl, hr3, hch3, hv3, hoff3⟩
      rw [HDC.out] at hv3
      obtain ⟨b3, o3, cp3, rfl, hb3, hl3, hm3, hc3⟩ := row_some hv3 rfl (by simp)
      have hcell3 := hc3 0 (by simp)
      simp only [List.getElem_cons_zero, Nat.add_zero] at hcell3
      have HR3 := Lib.hid hr3
      have HW3 := Lib.hid (Below.trans HB1.out ((Ch.trans ((Ch.refl b w1).drewN n) hch3).below hb HB1.out.size))
      clear hr3 hch3 hv3 hoff3 hc3 HNX
      go_wp2_with fail
      have HN1 := Lib.hid (some_any l b (p + 1) _ 4096 w3 HR3.out (by omega) (by omega))
      rw [HU.out] at HN1
      refine HN1.out.mono ?_
      rintro e w4 ⟨q4, hrd4, hch4, rfl, x4, rfl, hx4⟩
      have HR4 := Lib.hid hrd4
      have HW4 := Lib.hid (Below.trans HW3.out (hch4.below hb HW3.out.size))
      have HX4 := Lib.hid hx4
      clear hrd4 hch4 hx4 HN1
      go_wp2_with fail
      have HN := Lib.hid (some_any l b (p + 1 + k1) _ 4096 w4 HR4.out (by omega) (by omega))
      rw [HU2.out] at HN
      refine HN.out.mono ?_
      rintro e w5 ⟨q, hrd, hch, rfl⟩
      have hX := Below.trans HW4.out (hch.below hb HW4.out.size)
      obtain ⟨e0, e1, e2, e3, f0, hz1⟩ := four_cells hX
      have HX := Lib.hid (Ext.trans' HB0.out hX)
      clear hrd hch hX HN
      go_wp2_with fail
      refine bodyPost_ret (v := .tuple #[zeroRat, .int .i64 0, .int .i64 (er : Int)]) (by simp [results, Tryd.results33, go_sem, e0, e1, e2, e3]) rfl (ratPost_err (ext_store4 HX.out (Nat.le_refl _) _ _ _ _))
    | ok r2 =>
      obtain ⟨s2, k2⟩ := r2
      obtain ⟨hk2, hk20, hs2l⟩ := bsc_len hu2
      rw [List.length_drop] at hk2
      rw [qat_ok HC.out hs hu hu2]
      have hnbI : ((c.toNat : Int) == 1) = (c.toNat == 1) := by
        rw [Bool.eq_iff_iff, beq_iff_eq, beq_iff_eq]; omega
      obtain ⟨nb, hnb⟩ : ∃ nb, (c.toNat == 1) = nb := ⟨_, rfl⟩
      obtain ⟨a, ha⟩ : ∃ a, Nb.val s1 = a := ⟨_, rfl⟩
      obtain ⟨b', hb'⟩ : ∃ b', Nb.val s2 = b' := ⟨_, rfl⟩
      obtain ⟨q, hq⟩ : ∃ q, p + 1 + k1 + k2 = q := ⟨_, rfl⟩
      have hsl : (l.take q).drop p = c :: ((l.take q).drop (p + 1)) := by
        have hpq : p < (l.take q).length := by simp; omega
        rw [List.drop_eq_getElem_cons hpq]
        have := HC.out
        rw [List.getElem?_eq_getElem hpl] at this
        rw [List.getElem_take, Option.some.inj this]
      have hcond := rat_cond (nb := nb) (a := a) (b := b') (c := c) (t := (l.take q).drop (p + 1)) hnb
      rw [← hsl] at hcond
      obtain ⟨n1, hn1⟩ : ∃ n1, (nb && decide (0 < a)) = n1 := ⟨_, rfl⟩
      rw [hn1] at hcond
      rw [hnb, ha, hb', hq, ← hcond.1]
      obtain ⟨r, hr⟩ : ∃ r, (if qok n1 a b' && (putQ (n1, a, b') == (l.take q).drop p) then ((nb, a, b'), q, 0) else ((false, 0, 0), 0, 3)) = r := ⟨_, rfl⟩
      rw [hr]
      rw [hnb] at hnbI
      have hla : (Na.digs a).length ≤ 4096 := by have := na_len_nb s1; rw [ha] at this; omega
      have hlb : (Na.digs b').length ≤ 4096 := by have := na_len_nb s2; rw [hb'] at this; omega
      have hpq : p + 1 < q := by omega
      have hql : q ≤ l.length := by omega
      have HRES := Lib.hid hr
      have HCOND := Lib.hid hcond.2
      have HN1 : Hid (n1 = true → 0 < a) := by
        intro h
        rw [← hn1] at h
        simp only [Bool.and_eq_true, decide_eq_true_eq] at h
        exact h.2
      have HNV := Lib.hid hn1
      have HAB := Lib.hid (And.intro ha hb')
      have HQ := Lib.hid hq
      have HU := Lib.hid hu
      have HU2 := Lib.hid hu2
      clear hu hs hu2 hnb ha hb' hq hsl hcond hn1 hr
      go_enter Tryd.func33, Tryd.ntmps33
      go_wp2_with fail
      refine HF.out.mono ?_
      rintro e w1 ⟨b, rfl, hrd, hb1, hb⟩
      have HL := Lib.hid (left_any _ l b p w1 hrd.row hrd.c0 hrd.c1 hrd.hp)
      have HB1 := Lib.hid hb1
      have HR1 := Lib.hid hrd
      clear hrd hb1 HF
      go_wp2_with fail
      refine HL.out.mono ?_
      rintro e w2 ⟨rfl, n, rfl⟩
      have HNX := Lib.hid (next_any l b p 1 _ (w1.drewN n) (HR1.out.drewN n) (by omega) (by omega))
      clear HL
      go_wp2_with fail
      refine HNX.out.mono ?_
      rintro e w3 ⟨v3, rfl, hr3, hch3, hv3, hoff3⟩
      rw [HDC.out] at hv3
      obtain ⟨b3, o3, cp3, rfl, hb3, hl3, hm3, hc3⟩ := row_some hv3 rfl (by simp)
      have hcell3 := hc3 0 (by simp)
      simp only [List.getElem_cons_zero, Nat.add_zero] at hcell3
      have HR3 := Lib.hid hr3
      have HW3 := Lib.hid (Below.trans HB1.out ((Ch.trans ((Ch.refl b w1).drewN n) hch3).below hb HB1.out.size))
      clear hr3 hch3 hv3 hoff3 hc3 HNX
      go_wp2_with fail
      have HN1 := Lib.hid (some_any l b (p + 1) _ 4096 w3 HR3.out (by omega) (by omega))
      rw [HU.out] at HN1
      refine HN1.out.mono ?_
      rintro e w4 ⟨q4, hrd4, hch4, rfl, x4, rfl, hx4⟩
      have HR4 := Lib.hid hrd4
      have HW4 := Lib.hid (Below.trans HW3.out (hch4.below hb HW3.out.size))
      have HX4 := Lib.hid hx4
      clear hrd4 hch4 hx4 HN1
      go_wp2_with fail
      have HN2 := Lib.hid (some_any l b (p + 1 + k1) _ 4096 w4 HR4.out (by omega) (by omega))
      rw [HU2.out] at HN2
      refine HN2.out.mono ?_
      rintro e w5 ⟨q5, hrd5, hch5, hq5, x5, rfl, hx5⟩
      rw [HQ.out] at hq5
      subst hq5
      have HR5 := Lib.hid hrd5
      have HW5 := Lib.hid (Below.trans HW4.out (hch5.below hb HW4.out.size))
      have HX45 := Lib.hid (ownsRow_row (own_ch HX4.out hch5 HR3.out.lt))
      have HX5 := Lib.hid (ownsRow_row hx5)
      clear hrd5 hch5 hx5 HN2
      go_wp2_with fail
      have hG1 := great_any nb x4 s1 w5 HX45.out (by omega)
      rw [HAB.out.1, HNV.out] at hG1
      have HG1 := Lib.hid hG1
      clear hG1
      refine HG1.out.mono ?_
      rintro e w6 ⟨y1, rfl, ⟨t1, rfl, ht1, ft1⟩, hb6⟩
      have hG2 := great_any false x5 s2 w6 (HX5.out.below hb6) (by omega)
      rw [HAB.out.2, Bool.false_and] at hG2
      have HG2 := Lib.hid hG2
      have HT1 := Lib.hid (And.intro ht1 ft1)
      obtain ⟨b1, d1, rfl⟩ := ht1.shape
      have HB6 := Lib.hid hb6
      clear ht1 ft1 hb6 hG2 HG1
      go_wp2_with fail
      refine HG2.out.mono ?_
      rintro e w7 ⟨y2, rfl, ⟨t2, rfl, ht2, ft2⟩, hb7⟩
      obtain ⟨b2, d2, rfl⟩ := ht2.shape
      have HT2 := Lib.hid (And.intro ht2 ft2)
      have HB7 := Lib.hid hb7
      clear ht2 ft2 hb7 HG2
      go_wp2_with fail
      obtain ⟨g, hg⟩ : ∃ g, g = w7.heap.size := ⟨_, rfl⟩
      generalize hW : w7.alloc (.cells #[.bool n1, .slice b1 (Na.digs a).length d1, .bool false, .slice b2 (Na.digs b').length d2] 51) = W
      have hE7 : Ext w7 W := by rw [← hW]; exact below_alloc _ _
      have hE57 : Ext w5 W := Ext.trans' HB6.out (Ext.trans' HB7.out hE7)
      have HE : Hid (Ext (w.alloc (.cells #[.bool false, .slice none 0 0, .bool false, .slice none 0 0] 51)) W) := Ext.trans' HW5.out hE57
      have HXY : Hid (IsU32s W (.slice b1 (Na.digs a).length d1) (Na.digs a) ∧ IsU32s W (.slice b2 (Na.digs b').length d2) (Na.digs b')) := ⟨HT1.out.1.below (Ext.trans' HB7.out hE7), HT2.out.1.below hE7⟩
      have hw5s : w.heap.size + 1 ≤ w5.heap.size := by have := HW5.out.size; simp at this; omega
      have HF : Hid (From (w.heap.size + 1) (.slice b1 (Na.digs a).length d1) ∧ From (w.heap.size + 1) (.slice b2 (Na.digs b').length d2)) := ⟨HT1.out.2.mono hw5s, HT2.out.2.mono (by have := HB6.out.size; omega)⟩
      have HK : Hid (∀ w', Ext W w' → w'.cell? ⟨g, 0, none⟩ = some (.bool n1) ∧ w'.cell? ⟨g, 1, none⟩ = some (.slice b1 (Na.digs a).length d1) ∧ w'.cell? ⟨g, 2, none⟩ = some (.bool false) ∧ w'.cell? ⟨g, 3, none⟩ = some (.slice b2 (Na.digs b').length d2) ∧ w'.cell? ⟨b, 1, none⟩ = some (.int .i64 q5)) := by
        intro w' hw'
        have h4 : Ext (w7.alloc (.cells #[.bool n1, .slice b1 (Na.digs a).length d1, .bool false, .slice b2 (Na.digs b').length d2] 51)) w' := by rw [hW]; exact hw'
        obtain ⟨k0, k1, k2, k3, -, -⟩ := four_cells h4
        rw [hg]
        exact ⟨k0, k1, k2, k3, by rw [(Ext.trans' hE57 hw').cell (p := ⟨b, 1, none⟩) HR5.out.lt]; exact HR5.out.c1⟩
      rw [← hg]
      have HGB : Hid (b < g ∧ w.heap.size < b) := ⟨by have h1 := HB6.out.size; have h2 := HB7.out.size; have h3 := HR5.out.lt; omega, by have h1 := hb; simp at h1; omega⟩
      clear hW hE7 hE57 hw5s hg
      obtain ⟨-, hcm, hlc0, -⟩ := (show l.length = l.length ∧ c0 ≤ maxLen ∧ (0 < l.length → l.length ≤ c0) ∧ True by
        obtain ⟨a', cp', hv', hm', h'⟩ := HV.out
        simp only [Value.slice.injEq, true_and] at hv'
        obtain ⟨rfl, rfl⟩ := hv'
        refine ⟨rfl, hm', fun h0 => ?_, trivial⟩
        rcases h' with ⟨h1, _⟩ | ⟨_, _, _, _, h1, _⟩
        · rw [h1] at h0; simp at h0
        · exact h1)
      have hlc := hlc0 (by omega)
      obtain ⟨bx, ox, cx, hxs, hbx, hlx, hmx, hcx⟩ := row_some HV.out rfl (by omega)
      simp only [Value.slice.injEq, true_and] at hxs
      obtain ⟨rfl, rfl⟩ := hxs
      have hqc : q5 ≤ c0 := by omega
      have HSL : Hid (∀ w', Ext w w' → IsBytes w' (.slice (some ⟨bx, ox + p, none⟩) (q5 - p) (c0 - p)) ((l.take q5).drop p)) := by
        intro w' hw'
        have hz : (l.take q5).length = q5 := by simp; omega
        have := row_drop (f := u8v) (n := p) hbx (by rw [hz]; exact hqc) hcm (l := l.take q5) (fun i hi => by rw [hcx i (by rw [hz] at hi; omega)]; simp)
        rw [hz] at this
        exact this.below hw'
      clear hcx hlc0
      cases hQ : qok n1 a b' with
      | false =>
        have hres : r = ((false, 0, 0), 0, 3) := by rw [← HRES.out, hQ, Bool.false_and]; rfl
        subst hres
        refine Go.Rel.wp_region 17 (by kernel_rfl) (by kernel_rfl) Ext (fun w' => Ext W w')
          [Rel.is (.agg #[.bool n1, .slice b1 (Na.digs a).length d1, .bool false, .slice b2 (Na.digs b').length d2]), Rel.is (.bool false), Rel.is (.bool true), Rel.is (.bool true), Rel.top, Rel.top, Rel.top, Rel.top, Rel.top, Rel.top, Rel.top, Rel.top, Rel.top, Rel.top, Rel.top, Rel.top, Rel.is (.bool true)]
          ?_ ?_ ?_ ⟨?_, ?_, ?_, ?_, ?_, ?_, ?_, ?_, ?_, ?_, ?_, ?_, ?_, ?_, ?_, ?_, ?_, trivial⟩ ?_
        · exact below_drewN (Below.refl _ _) 1
        · exact fun _ _ h k => Ext.trans' h k
        · exact Rel.Monos.mem ⟨Rel.mono_is _, Rel.mono_is _, Rel.mono_is _, Rel.mono_is _, fun _ _ _ _ k => k, fun _ _ _ _ k => k, fun _ _ _ _ k => k, fun _ _ _ _ k => k, fun _ _ _ _ k => k, fun _ _ _ _ k => k, fun _ _ _ _ k => k, fun _ _ _ _ k => k, fun _ _ _ _ k => k, fun _ _ _ _ k => k, fun _ _ _ _ k => k, fun _ _ _ _ k => k, Rel.mono_is _, trivial⟩
        · intro ρ w' hs ho hC hd
          have h2 : ρ (.tmp 12) = .pointer (some ⟨g, 0, none⟩) := ho 12 rfl
          obtain ⟨k0, k1, k2, k3, -⟩ := HK.out w' hC
          simp [go_sem, h2, k0, k1, k2, k3]
          exact ⟨Ext.rfl', rfl⟩
        · intro ρ w' hs ho hC hd
          have h63 : ρ (.tmp 63) = .agg #[.bool n1, .slice b1 (Na.digs a).length d1, .bool false, .slice b2 (Na.digs b').length d2] := by first | exact hd.1 rfl | exact hd.2.1 rfl | exact hd.2.2.1 rfl | exact hd.2.2.2.1 rfl
          simp [go_sem, h63, hs.func]
          have hN := ratIsNorm_any n1 _ _ a b' w' (HXY.out.1.below hC) (HXY.out.2.below hC) (by omega) (by omega) HN1.out
          refine hN.mono ?_
          rintro e w'' ⟨rfl, hb⟩
          rw [hQ]
          exact ⟨_, rfl, hb, rfl⟩
        · intro ρ w' hs ho hC hd
          have h64 : ρ (.tmp 64) = .bool false := by first | exact hd.1 rfl | exact hd.2.1 rfl | exact hd.2.2.1 rfl | exact hd.2.2.2.1 rfl
          simp [go_sem, h64]
          exact ⟨Ext.rfl', rfl⟩
        · intro ρ w' hs ho hC hd
          have h65 : ρ (.tmp 65) = .bool true := by first | exact hd.1 rfl | exact hd.2.1 rfl | exact hd.2.2.1 rfl | exact hd.2.2.2.1 rfl
          simp [go_sem, h65]
          exact ⟨Ext.rfl', rfl⟩
        · intro ρ w' hs ho hC hd
          refine ⟨fun hg => ?_, fun _ => trivial⟩
          first
            | exact absurd ((hd.1 rfl).symm.trans hg) (by simp)
            | exact absurd ((hd.2.1 rfl).symm.trans hg) (by simp)
            | exact absurd ((hd.2.2.1 rfl).symm.trans hg) (by simp)
            | exact absurd ((hd.2.2.2.1 rfl).symm.trans hg) (by simp)
            | exact absurd ((hd.2.2.2.2.1 rfl).symm.trans hg) (by simp)
        · intro ρ w' hs ho hC hd
          refine ⟨fun hg => ?_, fun _ => trivial⟩
          first
            | exact absurd ((hd.1 rfl).symm.trans hg) (by simp)
            | exact absurd ((hd.2.1 rfl).symm.trans hg) (by simp)
            | exact absurd ((hd.2.2.1 rfl).symm.trans hg) (by simp)
            | exact absurd ((hd.2.2.2.1 rfl).symm.trans hg) (by simp)
            | exact absurd ((hd.2.2.2.2.1 rfl).symm.trans hg) (by simp)
        · intro ρ w' hs ho hC hd
          refine ⟨fun hg => ?_, fun _ => trivial⟩
          first
            | exact absurd ((hd.1 rfl).symm.trans hg) (by simp)
            | exact absurd ((hd.2.1 rfl).symm.trans hg) (by simp)
            | exact absurd ((hd.2.2.1 rfl).symm.trans hg) (by simp)
            | exact absurd ((hd.2.2.2.1 rfl).symm.trans hg) (by simp)
            | exact absurd ((hd.2.2.2.2.1 rfl).symm.trans hg) (by simp)
        · intro ρ w' hs ho hC hd
          refine ⟨fun hg => ?_, fun _ => trivial⟩
          first
            | exact absurd ((hd.1 rfl).symm.trans hg) (by simp)
            | exact absurd ((hd.2.1 rfl).symm.trans hg) (by simp)
            | exact absurd ((hd.2.2.1 rfl).symm.trans hg) (by simp)
            | exact absurd ((hd.2.2.2.1 rfl).symm.trans hg) (by simp)
            | exact absurd ((hd.2.2.2.2.1 rfl).symm.trans hg) (by simp)
        · intro ρ w' hs ho hC hd
          refine ⟨fun hg => ?_, fun _ => trivial⟩
          first
            | exact absurd ((hd.1 rfl).symm.trans hg) (by simp)
            | exact absurd ((hd.2.1 rfl).symm.trans hg) (by simp)
            | exact absurd ((hd.2.2.1 rfl).symm.trans hg) (by simp)
            | exact absurd ((hd.2.2.2.1 rfl).symm.trans hg) (by simp)
            | exact absurd ((hd.2.2.2.2.1 rfl).symm.trans hg) (by simp)
        · intro ρ w' hs ho hC hd
          refine ⟨fun hg => ?_, fun _ => trivial⟩
          first
            | exact absurd ((hd.1 rfl).symm.trans hg) (by simp)
            | exact absurd ((hd.2.1 rfl).symm.trans hg) (by simp)
            | exact absurd ((hd.2.2.1 rfl).symm.trans hg) (by simp)
            | exact absurd ((hd.2.2.2.1 rfl).symm.trans hg) (by simp)
            | exact absurd ((hd.2.2.2.2.1 rfl).symm.trans hg) (by simp)
        · intro ρ w' hs ho hC hd
          refine ⟨fun hg => ?_, fun _ => trivial⟩
          first
            | exact absurd ((hd.1 rfl).symm.trans hg) (by simp)
            | exact absurd ((hd.2.1 rfl).symm.trans hg) (by simp)
            | exact absurd ((hd.2.2.1 rfl).symm.trans hg) (by simp)
            | exact absurd ((hd.2.2.2.1 rfl).symm.trans hg) (by simp)
            | exact absurd ((hd.2.2.2.2.1 rfl).symm.trans hg) (by simp)
        · intro ρ w' hs ho hC hd
          refine ⟨fun hg => ?_, fun _ => trivial⟩
          first
            | exact absurd ((hd.1 rfl).symm.trans hg) (by simp)
            | exact absurd ((hd.2.1 rfl).symm.trans hg) (by simp)
            | exact absurd ((hd.2.2.1 rfl).symm.trans hg) (by simp)
            | exact absurd ((hd.2.2.2.1 rfl).symm.trans hg) (by simp)
            | exact absurd ((hd.2.2.2.2.1 rfl).symm.trans hg) (by simp)
        · intro ρ w' hs ho hC hd
          refine ⟨fun hg => ?_, fun _ => trivial⟩
          first
            | exact absurd ((hd.1 rfl).symm.trans hg) (by simp)
            | exact absurd ((hd.2.1 rfl).symm.trans hg) (by simp)
            | exact absurd ((hd.2.2.1 rfl).symm.trans hg) (by simp)
            | exact absurd ((hd.2.2.2.1 rfl).symm.trans hg) (by simp)
            | exact absurd ((hd.2.2.2.2.1 rfl).symm.trans hg) (by simp)
        · intro ρ w' hs ho hC hd
          refine ⟨fun hg => ?_, fun _ => trivial⟩
          first
            | exact absurd ((hd.1 rfl).symm.trans hg) (by simp)
            | exact absurd ((hd.2.1 rfl).symm.trans hg) (by simp)
            | exact absurd ((hd.2.2.1 rfl).symm.trans hg) (by simp)
            | exact absurd ((hd.2.2.2.1 rfl).symm.trans hg) (by simp)
            | exact absurd ((hd.2.2.2.2.1 rfl).symm.trans hg) (by simp)
        · intro ρ w' hs ho hC hd
          refine ⟨fun hg => ?_, fun _ => trivial⟩
          first
            | exact absurd ((hd.1 rfl).symm.trans hg) (by simp)
            | exact absurd ((hd.2.1 rfl).symm.trans hg) (by simp)
            | exact absurd ((hd.2.2.1 rfl).symm.trans hg) (by simp)
            | exact absurd ((hd.2.2.2.1 rfl).symm.trans hg) (by simp)
            | exact absurd ((hd.2.2.2.2.1 rfl).symm.trans hg) (by simp)
        · intro ρ w' hs ho hC hd
          refine ⟨fun hg => ?_, fun _ => trivial⟩
          first
            | exact absurd ((hd.1 rfl).symm.trans hg) (by simp)
            | exact absurd ((hd.2.1 rfl).symm.trans hg) (by simp)
            | exact absurd ((hd.2.2.1 rfl).symm.trans hg) (by simp)
            | exact absurd ((hd.2.2.2.1 rfl).symm.trans hg) (by simp)
            | exact absurd ((hd.2.2.2.2.1 rfl).symm.trans hg) (by simp)
        · intro ρ w' hs ho hC hd
          have h66 : ρ (.tmp 66) = .bool true := by first | exact hd.1 rfl | exact hd.2.1 rfl
          simp [go_sem, h66, hs.const]
          exact ⟨Ext.rfl', rfl⟩
        · intro w' hC
          rintro _ rfl _ rfl _ rfl _ rfl v4 h4 v5 h5 v6 h6 v7 h7 v8 h8 v9 h9 v10 h10 v11 h11 v12 h12 v13 h13 v14 h14 v15 h15 _ rfl
          change wpList _ _ _ (List.drop 17 _) _ _
          simp only [List.drop_succ_cons, List.drop_nil]
          obtain ⟨e0, e1, e2, e3, f0, hz1⟩ := four_cells (Ext.trans' HE.out hC)
          have HC2' := Lib.hid hC
          clear h4 h5 h6 h7 h8 h9 h10 h11 h12 h13 h14 h15 hC hQ
          simp only [Go.Act.put, List.setIfInBounds_toArray, List.set_cons_succ, List.set_cons_zero]
          go_wp2_with fail
          refine bodyPost_ret (v := .tuple #[zeroRat, .int .i64 0, .int .i64 3]) (by simp [results, Tryd.results33, go_sem, e0, e1, e2, e3]) rfl (ratPost_err (ext_store4 (Ext.trans' HB0.out (Ext.trans' HE.out HC2'.out)) (Nat.le_refl _) _ _ _ _))
      | true =>
        obtain ⟨S, hS⟩ : ∃ S, (putQ (n1, a, b') == (l.take q5).drop p) = S := ⟨_, rfl⟩
        have HS := Lib.hid hS
        have HQK := Lib.hid hQ
        clear hS
        refine Go.Rel.wp_region 17 (by kernel_rfl) (by kernel_rfl) Ext (fun w' => Ext W w')
          [Rel.is (.agg #[.bool n1, .slice b1 (Na.digs a).length d1, .bool false, .slice b2 (Na.digs b').length d2]), Rel.is (.bool true), Rel.is (.bool false), Rel.is (.bool false), Rel.is (.agg #[.bool n1, .slice b1 (Na.digs a).length d1, .bool false, .slice b2 (Na.digs b').length d2]), fun v w' => IsBytes w' v (putQ (n1, a, b')), Rel.is (.slice (some ⟨bx, ox, none⟩) l.length c0), Rel.is (.int .i64 p), Rel.is (.pointer (some ⟨b, 0, none⟩)), Rel.is (.pointer (some ⟨b, 0, none⟩)), Rel.is (.pointer (some ⟨b, 0, none⟩)), Rel.is (.pointer (some ⟨b, 1, none⟩)), Rel.is (.int .i64 q5), Rel.is (.slice (some ⟨bx, ox + p, none⟩) (q5 - p) (c0 - p)), Rel.is (.bool S), Rel.is (.bool (!S)), Rel.is (.bool (!S))]
          ?_ ?_ ?_ ⟨?_, ?_, ?_, ?_, ?_, ?_, ?_, ?_, ?_, ?_, ?_, ?_, ?_, ?_, ?_, ?_, ?_, trivial⟩ ?_
        · exact below_drewN (Below.refl _ _) 1
        · exact fun _ _ h k => Ext.trans' h k
        · exact Rel.Monos.mem ⟨Rel.mono_is _, Rel.mono_is _, Rel.mono_is _, Rel.mono_is _, Rel.mono_is _, fun _ _ _ h k => k.below h, Rel.mono_is _, Rel.mono_is _, Rel.mono_is _, Rel.mono_is _, Rel.mono_is _, Rel.mono_is _, Rel.mono_is _, Rel.mono_is _, Rel.mono_is _, Rel.mono_is _, Rel.mono_is _, trivial⟩
        · intro ρ w' hs ho hC hd
          have h2 : ρ (.tmp 12) = .pointer (some ⟨g, 0, none⟩) := ho 12 rfl
          obtain ⟨k0, k1, k2, k3, -⟩ := HK.out w' hC
          simp [go_sem, h2, k0, k1, k2, k3]
          exact ⟨Ext.rfl', rfl⟩
        · intro ρ w' hs ho hC hd
          have h63 : ρ (.tmp 63) = .agg #[.bool n1, .slice b1 (Na.digs a).length d1, .bool false, .slice b2 (Na.digs b').length d2] := by first | exact hd.1 rfl | exact hd.2.1 rfl | exact hd.2.2.1 rfl | exact hd.2.2.2.1 rfl
          simp [go_sem, h63, hs.func]
          have hN := ratIsNorm_any n1 _ _ a b' w' (HXY.out.1.below hC) (HXY.out.2.below hC) (by omega) (by omega) HN1.out
          refine hN.mono ?_
          rintro e w'' ⟨rfl, hb⟩
          rw [hQ]
          exact ⟨_, rfl, hb, rfl⟩
        · intro ρ w' hs ho hC hd
          have h64 : ρ (.tmp 64) = .bool true := by first | exact hd.1 rfl | exact hd.2.1 rfl | exact hd.2.2.1 rfl | exact hd.2.2.2.1 rfl
          simp [go_sem, h64]
          exact ⟨Ext.rfl', rfl⟩
        · intro ρ w' hs ho hC hd
          have h65 : ρ (.tmp 65) = .bool false := by first | exact hd.1 rfl | exact hd.2.1 rfl | exact hd.2.2.1 rfl | exact hd.2.2.2.1 rfl
          simp [go_sem, h65]
          exact ⟨Ext.rfl', rfl⟩
        · intro ρ w' hs ho hC hd
          refine ⟨fun _ => ?_, fun hn => absurd (by first | exact hd.1 rfl | exact hd.2.1 rfl | exact hd.2.2.1 rfl | exact hd.2.2.2.1 rfl | exact hd.2.2.2.2.1 rfl) hn⟩
          have h2 : ρ (.tmp 12) = .pointer (some ⟨g, 0, none⟩) := ho 12 rfl
          obtain ⟨k0, k1, k2, k3, -⟩ := HK.out w' hC
          simp [go_sem, h2, k0, k1, k2, k3]
          exact ⟨Ext.rfl', rfl⟩
        · intro ρ w' hs ho hC hd
          refine ⟨fun _ => ?_, fun hn => absurd (by first | exact hd.1 rfl | exact hd.2.1 rfl | exact hd.2.2.1 rfl | exact hd.2.2.2.1 rfl | exact hd.2.2.2.2.1 rfl) hn⟩
          have h67 : ρ (.tmp 67) = .agg #[.bool n1, .slice b1 (Na.digs a).length d1, .bool false, .slice b2 (Na.digs b').length d2] := by first | exact hd.1 rfl | exact hd.2.1 rfl | exact hd.2.2.1 rfl | exact hd.2.2.2.1 rfl
          simp [go_sem, h67, hs.func]
          have hP := putRational_any n1 false _ _ _ _ w' (HXY.out.1.below hC) (HXY.out.2.below hC) (by omega) (by omega)
          rw [Na.val_digs, Na.val_digs, nrm_qok HQK.out] at hP
          refine hP.mono ?_
          rintro e w'' ⟨v', rfl, hv, hb⟩
          exact ⟨_, rfl, hb, ownsRow_row hv⟩
        · intro ρ w' hs ho hC hd
          refine ⟨fun _ => ?_, fun hn => absurd (by first | exact hd.1 rfl | exact hd.2.1 rfl | exact hd.2.2.1 rfl | exact hd.2.2.2.1 rfl | exact hd.2.2.2.2.1 rfl) hn⟩
          have h2 : ρ (.tmp 0) = .slice (some ⟨bx, ox, none⟩) l.length c0 := ho 0 rfl
          simp [go_sem, h2]
          exact ⟨Ext.rfl', rfl⟩
        · intro ρ w' hs ho hC hd
          refine ⟨fun _ => ?_, fun hn => absurd (by first | exact hd.1 rfl | exact hd.2.1 rfl | exact hd.2.2.1 rfl | exact hd.2.2.2.1 rfl | exact hd.2.2.2.2.1 rfl) hn⟩
          have h2 : ρ (.tmp 1) = .int .i64 p := ho 1 rfl
          simp [go_sem, h2]
          exact ⟨Ext.rfl', rfl⟩
        · intro ρ w' hs ho hC hd
          refine ⟨fun _ => ?_, fun hn => absurd (by first | exact hd.1 rfl | exact hd.2.1 rfl | exact hd.2.2.1 rfl | exact hd.2.2.2.1 rfl | exact hd.2.2.2.2.1 rfl) hn⟩
          have h2 : ρ (.tmp 7) = .pointer (some ⟨b, 0, none⟩) := ho 7 rfl
          simp [go_sem, h2]
          exact ⟨Ext.rfl', rfl⟩
        · intro ρ w' hs ho hC hd
          refine ⟨fun _ => ?_, fun hn => absurd (by first | exact hd.1 rfl | exact hd.2.1 rfl | exact hd.2.2.1 rfl | exact hd.2.2.2.1 rfl | exact hd.2.2.2.2.1 rfl) hn⟩
          have h71 : ρ (.tmp 71) = .pointer (some ⟨b, 0, none⟩) := by first | exact hd.1 rfl | exact hd.2.1 rfl | exact hd.2.2.1 rfl | exact hd.2.2.2.1 rfl
          simp [go_sem, h71]
          exact ⟨Ext.rfl', rfl⟩
        · intro ρ w' hs ho hC hd
          refine ⟨fun _ => ?_, fun hn => absurd (by first | exact hd.1 rfl | exact hd.2.1 rfl | exact hd.2.2.1 rfl | exact hd.2.2.2.1 rfl | exact hd.2.2.2.2.1 rfl) hn⟩
          have h72 : ρ (.tmp 72) = .pointer (some ⟨b, 0, none⟩) := by first | exact hd.1 rfl | exact hd.2.1 rfl | exact hd.2.2.1 rfl | exact hd.2.2.2.1 rfl
          simp [go_sem, h72]
          exact ⟨Ext.rfl', rfl⟩
        · intro ρ w' hs ho hC hd
          refine ⟨fun _ => ?_, fun hn => absurd (by first | exact hd.1 rfl | exact hd.2.1 rfl | exact hd.2.2.1 rfl | exact hd.2.2.2.1 rfl | exact hd.2.2.2.2.1 rfl) hn⟩
          have h73 : ρ (.tmp 73) = .pointer (some ⟨b, 0, none⟩) := by first | exact hd.1 rfl | exact hd.2.1 rfl | exact hd.2.2.1 rfl | exact hd.2.2.2.1 rfl
          simp [go_sem, h73]
          exact ⟨Ext.rfl', rfl⟩
        · intro ρ w' hs ho hC hd
          refine ⟨fun _ => ?_, fun hn => absurd (by first | exact hd.1 rfl | exact hd.2.1 rfl | exact hd.2.2.1 rfl | exact hd.2.2.2.1 rfl | exact hd.2.2.2.2.1 rfl) hn⟩
          have h74 : ρ (.tmp 74) = .pointer (some ⟨b, 1, none⟩) := by first | exact hd.1 rfl | exact hd.2.1 rfl | exact hd.2.2.1 rfl | exact hd.2.2.2.1 rfl
          obtain ⟨-, -, -, -, k4⟩ := HK.out w' hC
          simp [go_sem, h74, k4]
          exact ⟨Ext.rfl', rfl⟩
        · intro ρ w' hs ho hC hd
          refine ⟨fun _ => ?_, fun hn => absurd (by first | exact hd.1 rfl | exact hd.2.1 rfl | exact hd.2.2.1 rfl | exact hd.2.2.2.1 rfl | exact hd.2.2.2.2.1 rfl) hn⟩
          have h69 : ρ (.tmp 69) = .slice (some ⟨bx, ox, none⟩) l.length c0 := by first | exact hd.1 rfl | exact hd.2.1 rfl | exact hd.2.2.1 rfl | exact hd.2.2.2.1 rfl
          have h70 : ρ (.tmp 70) = .int .i64 p := by first | exact hd.1 rfl | exact hd.2.1 rfl | exact hd.2.2.1 rfl | exact hd.2.2.2.1 rfl
          have h75 : ρ (.tmp 75) = .int .i64 q5 := by first | exact hd.1 rfl | exact hd.2.1 rfl | exact hd.2.2.1 rfl | exact hd.2.2.2.1 rfl
          have e1 : p ≤ q5 := by omega
          have e2 : ¬ c0 = p := by omega
          simp [go_sem, h69, h70, h75, hqc, e1, e2]
          exact ⟨Ext.rfl', rfl⟩
        · intro ρ w' hs ho hC hd
          refine ⟨fun _ => ?_, fun hn => absurd (by first | exact hd.1 rfl | exact hd.2.1 rfl | exact hd.2.2.1 rfl | exact hd.2.2.2.1 rfl | exact hd.2.2.2.2.1 rfl) hn⟩
          have h1 : IsBytes w' (ρ (.tmp 68)) (putQ (n1, a, b')) := by first | exact hd.1 rfl | exact hd.2.1 rfl
          have h76 : ρ (.tmp 76) = .slice (some ⟨bx, ox + p, none⟩) (q5 - p) (c0 - p) := by first | exact hd.1 rfl | exact hd.2.1 rfl | exact hd.2.2.1 rfl | exact hd.2.2.2.1 rfl
          simp [go_sem, h76, hs.func]
          have hSm := bytesEqual_any _ _ _ _ w' h1 (HSL.out w' (Ext.trans' HB0.out (Ext.trans' HE.out hC)))
          rw [HS.out] at hSm
          refine hSm.mono ?_
          rintro e w'' ⟨rfl, rfl⟩
          exact ⟨_, rfl, Ext.rfl', rfl⟩
        · intro ρ w' hs ho hC hd
          refine ⟨fun _ => ?_, fun hn => absurd (by first | exact hd.1 rfl | exact hd.2.1 rfl | exact hd.2.2.1 rfl | exact hd.2.2.2.1 rfl | exact hd.2.2.2.2.1 rfl) hn⟩
          have h77 : ρ (.tmp 77) = .bool S := by first | exact hd.1 rfl | exact hd.2.1 rfl | exact hd.2.2.1 rfl | exact hd.2.2.2.1 rfl
          simp [go_sem, h77]
          exact ⟨Ext.rfl', rfl⟩
        · intro ρ w' hs ho hC hd
          have h66 : ρ (.tmp 66) = .bool false := by first | exact hd.1 rfl | exact hd.2.1 rfl
          have h78 : ρ (.tmp 78) = .bool (!S) := by first | exact hd.1 rfl | exact hd.2.1 rfl | exact hd.2.2.1 rfl | exact hd.2.2.2.1 rfl
          simp [go_sem, h66, h78, hs.const]
          exact ⟨Ext.rfl', rfl⟩
        · intro w' hC
          rintro _ rfl _ rfl _ rfl _ rfl _ rfl v5 h5 _ rfl _ rfl _ rfl _ rfl _ rfl _ rfl _ rfl _ rfl _ rfl _ rfl _ rfl
          change wpList _ _ _ (List.drop 17 _) _ _
          simp only [List.drop_succ_cons, List.drop_nil]
          obtain ⟨e0, e1, e2, e3, f0, hz1⟩ := four_cells (Ext.trans' HE.out hC)
          obtain ⟨k0, k1, k2, k3, k4⟩ := HK.out w' hC
          have HC2' := Lib.hid hC
          clear h5 hC hQ
          simp only [Go.Act.put, List.setIfInBounds_toArray, List.set_cons_succ, List.set_cons_zero]
          cases S
          · have hres : r = ((false, 0, 0), 0, 3) := by rw [← HRES.out, HS.out, HQK.out]; rfl
            subst hres
            go_wp2_with fail
            refine bodyPost_ret (v := .tuple #[zeroRat, .int .i64 0, .int .i64 3]) (by simp [results, Tryd.results33, go_sem, e0, e1, e2, e3]) rfl (ratPost_err (ext_store4 (Ext.trans' HB0.out (Ext.trans' HE.out HC2'.out)) (Nat.le_refl _) _ _ _ _))
          · have hn : n1 = nb := HCOND.out (by rw [HS.out, HQK.out]; rfl)
            have hres : r = ((nb, a, b'), q5, 0) := by rw [← HRES.out, HS.out, HQK.out]; rfl
            rw [← hn] at hres
            subst hres
            clear hn
            go_wp2_with fail
            have hgl : g ≠ b := by have := HGB.out; omega
            have hwb : w.heap.size ≠ b := by have := HGB.out; omega
            go_region
            go_wp2_with fail
            refine bodyPost_ret (v := .tuple #[.agg #[.bool n1, .slice b1 (Na.digs a).length d1, .bool false, .slice b2 (Na.digs b').length d2], .int .i64 q5, .int .i64 0]) (by simp [results, Tryd.results33, go_sem, e0, e1, e2, e3]) rfl ⟨_, rfl, ⟨_, _, rfl, ?_, ?_, HF.out.1.mono (by omega), HF.out.2.mono (by omega)⟩, (ext_store4 (Ext.trans' HB0.out (Ext.trans' HE.out HC2'.out)) (Nat.le_refl _) _ _ _ _).drew⟩
            · exact ((HXY.out.1.below HC2'.out).ch (((((Ch.refl _ _).setCell _ _).setCell _ _).setCell _ _).setCell _ _) (fun _ => HF.out.1.off (by omega))).below ((Below.refl _ _).drew)
            · exact ((HXY.out.2.below HC2'.out).ch (((((Ch.refl _ _).setCell _ _).setCell _ _).setCell _ _).setCell _ _) (fun _ => HF.out.2.off (by omega))).below ((Below.refl _ _).drew)
end Go.Proofs.YtnenbmbgmmeiaaaDoor
