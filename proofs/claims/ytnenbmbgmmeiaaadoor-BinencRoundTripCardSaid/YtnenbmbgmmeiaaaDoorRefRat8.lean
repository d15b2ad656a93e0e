/- Walk of the reference of chapter 06: Rational. -/
import Derived.Test.YtnenbmbgmmeiaaaDoorRatSpec
namespace Go.Proofs.YtnenbmbgmmeiaaaDoor
open Go.RowKit En
variable {α : Type}
set_option linter.unusedVariables false

theorem na_len_nb (s : List UInt8) : (Na.digs (Nb.val s)).length ≤ s.length := by
  apply Na.digs_length_le
  exact Nat.lt_of_lt_of_le (Nb.val_lt s) (Nat.pow_le_pow_left (by decide) _)
def Zero4 (w : World) (g : Nat) : Prop := g < w.heap.size ∧ (∀ i, w.cell? ⟨g, i, none⟩ = #[Value.bool false, .slice none 0 0, .bool false, .slice none 0 0][i]?) ∧ ∀ i, w.frozen? ⟨g, i, none⟩ = false
theorem set4_cells {w : World} {g : Nat} {u0 u1 u2 u3 : Value} (e0 : w.cell? ⟨g, 0, none⟩ = some u0) (e1 : w.cell? ⟨g, 1, none⟩ = some u1) (e2 : w.cell? ⟨g, 2, none⟩ = some u2) (e3 : w.cell? ⟨g, 3, none⟩ = some u3) (x0 x1 x2 x3 : Value) {W : World}
    (hW : ((((w.setCell ⟨g, 0, none⟩ x0).setCell ⟨g, 1, none⟩ x1).setCell ⟨g, 2, none⟩ x2).setCell ⟨g, 3, none⟩ x3) = W) :
    W.cell? ⟨g, 0, none⟩ = some x0 ∧ W.cell? ⟨g, 1, none⟩ = some x1 ∧ W.cell? ⟨g, 2, none⟩ = some x2 ∧ W.cell? ⟨g, 3, none⟩ = some x3 ∧ W.heap.size = w.heap.size := by
  subst hW
  refine ⟨?_, ?_, ?_, ?_, by simp⟩ <;> simp [go_sem, e0, e1, e2, e3]
theorem Zero4.ext {w w' : World} {g : Nat} (h : Zero4 w g) (hb : Ext w w') : Zero4 w' g :=
  ⟨by have := hb.size; have := h.1; omega, fun i => by rw [hb.cell (p := ⟨g, i, none⟩) h.1]; exact h.2.1 i, fun i => by rw [hb.frozen (p := ⟨g, i, none⟩) h.1]; exact h.2.2 i⟩
theorem Zero4.off {w : World} {g : Nat} {s : Value} {l : List UInt32} (h : Zero4 w g) (hs : IsU32s w s l) : 0 < l.length → Off g s := by
  intro h0 ad n cap e
  obtain ⟨b, o, c, hv, hb, _, _, hc⟩ := row_some hs rfl h0
  rw [hv] at e
  simp only [Value.slice.injEq, Option.some.injEq] at e
  obtain ⟨rfl, -, -⟩ := e
  intro hbg
  simp only at hbg
  subst hbg
  have h1 := hc 0 h0
  rw [h.2.1] at h1
  rcases o with _ | _ | _ | _ | o
  · simp at h1
  · simp at h1
  · simp at h1
  · simp at h1
  · simp at h1
attribute [local go_sem] Go.Rel.Does Go.Rel.Upon Go.Rel.kept Go.Rel.valOf
set_option maxRecDepth 100000 in
set_option maxHeartbeats 1000000 in
theorem refRational_any (v : Value) (l : List UInt8) (i : Int) (w : World) (hv : IsBytes w v l) (hl : l.length ≤ 1000000) :
    Calls Tryd.prog 34 #[v, .int .i64 i] w (RatPost w (qat l i)) := by
  have HV := Lib.hid hv
  obtain ⟨a0, c0, rfl⟩ := hv.shape
  have hb0 := below_alloc w (.cells #[.bool false, .slice none 0 0, .bool false, .slice none 0 0] 51)
  have HB0 := Lib.hid hb0
  clear hv hb0
  by_cases hbad : i < 0 ∨ (l.length : Int) < i
  · rw [qat_bad hbad]
    have hcase : i < 0 ∨ ¬ i < 0 ∧ (l.length : Int) < i := by omega
    clear hbad
    rcases hcase with h | ⟨h, h'⟩
    all_goals
      go_enter Tryd.func34, Tryd.ntmps34
      go_wp2_with fail
      refine bodyPost_ret (v := .tuple #[zeroRat, .int .i64 0, .int .i64 2]) (by simp [results, Tryd.results34, go_sem]) rfl (ratPost_err HB0.out)
  obtain ⟨p, rfl⟩ : ∃ p : Nat, i = p := ⟨i.toNat, by omega⟩
  have hp : p ≤ l.length := by omega
  have hp0 : ¬ (p : Int) < 0 := by omega
  have hp1 : ¬ (l.length : Int) < (p : Int) := by omega
  clear hbad
  by_cases hpe : p = l.length
  · rw [qat_end hpe]
    have he : ((p : Int) == (l.length : Int)) = true := by rw [beq_iff_eq]; omega
    clear hpe
    go_enter Tryd.func34, Tryd.ntmps34
    go_wp2_with fail
    refine bodyPost_ret (v := .tuple #[zeroRat, .int .i64 0, .int .i64 4]) (by simp [results, Tryd.results34, go_sem]) rfl (ratPost_err HB0.out)
  have hpl : p < l.length := by omega
  have hpI : (p : Int) < (l.length : Int) := by omega
  have hpe' : ((p : Int) == (l.length : Int)) = false := by rw [beq_eq_false_iff_ne]; omega
  obtain ⟨bx, ox, cx, hxs, hbx, hlx, hmx, hcx⟩ := row_some HV.out rfl (by omega)
  simp only [Value.slice.injEq] at hxs
  obtain ⟨rfl, -, -⟩ := hxs
  have hc0 := hcx p hpl
  obtain ⟨c, hc⟩ : ∃ c, l[p]? = some c := ⟨_, List.getElem?_eq_getElem hpl⟩
  have hcl : l[p] = c := by rw [List.getElem?_eq_getElem hpl] at hc; exact Option.some.inj hc
  rw [hcl] at hc0
  have hc1 : (w.alloc (.cells #[.bool false, .slice none 0 0, .bool false, .slice none 0 0] 51)).cell? ⟨bx, ox + p, none⟩ = some (u8v c) := by rw [HB0.out.cell (p := ⟨bx, ox + p, none⟩) hbx]; exact hc0
  have HCX := Lib.hid hcx
  have HC := Lib.hid hc
  clear hpe hcl hcx hc
  by_cases hs : 1 < c.toNat
  · rw [qat_sign HC.out hs]
    have hsI : (1 : Int) < (c.toNat : Int) := by omega
    clear hs
    go_enter Tryd.func34, Tryd.ntmps34
    go_wp2_with fail
    refine bodyPost_ret (v := .tuple #[zeroRat, .int .i64 0, .int .i64 3]) (by simp [results, Tryd.results34, go_sem]) rfl (ratPost_err HB0.out)
  have hsI : ¬ (1 : Int) < (c.toNat : Int) := by omega
  have HB1 := refBytes_any _ l ((p + 1 : Nat) : Int) 4096 _ (HV.out.below HB0.out) (by omega) (by omega)
  have eP : ((p + 1 : Nat) : Int) = (p : Int) + 1 := by omega
  cases hu : bsc 4096 (l.drop (p + 1)) with
  | error er =>
    rw [bat_err (by omega) hu, eP] at HB1
    rw [qat_e1 HC.out hs hu]
    have he := bsc_pos hu
    have HBB := Lib.hid HB1
    clear hu hs eP HB1
    go_enter Tryd.func34, Tryd.ntmps34
    go_wp2_with fail
    refine HBB.out.mono ?_
    rintro e w1 ⟨x, rfl, -, hb⟩
    obtain ⟨e0, e1, e2, e3, f0, hz⟩ := four_cells hb
    have HX := Lib.hid (Ext.trans' HB0.out hb)
    clear hb HBB
    go_wp2_with fail
    refine bodyPost_ret (v := .tuple #[zeroRat, .int .i64 0, .int .i64 (er : Int)]) (by simp [results, Tryd.results34, go_sem, e0, e1, e2, e3]) rfl (ratPost_err (ext_store4 HX.out (Nat.le_refl _) _ _ _ _))
  | ok r1 =>
    obtain ⟨s1, k1⟩ := r1
    obtain ⟨hk1, hk10, hs1l⟩ := bsc_len hu
    rw [List.length_drop] at hk1
    rw [bat_ok (by omega) hu, eP] at HB1
    cases hu2 : bsc 4096 (l.drop (p + 1 + k1)) with
    | error er =>
      rw [qat_e2 HC.out hs hu hu2]
      have he := bsc_pos hu2
      have HBB := Lib.hid HB1
      have HU2 := Lib.hid hu2
      clear hu hs eP HB1 hu2
      go_enter Tryd.func34, Tryd.ntmps34
      go_wp2_with fail
      refine HBB.out.mono ?_
      rintro e w1 ⟨x, rfl, hx, hb⟩
      have HB2 := refBytes_any _ l ((p + 1 + k1 : Nat) : Int) 4096 w1 (HV.out.below (Ext.trans' HB0.out hb)) (by omega) (by omega)
      rw [bat_err (by omega) HU2.out] at HB2
      have HBB2 := Lib.hid HB2
      have HX1 := Lib.hid hb
      clear hb HBB HB2 hx
      go_wp2_with fail
      refine HBB2.out.mono ?_
      rintro e w2 ⟨y, rfl, -, hb⟩
      obtain ⟨e0, e1, e2, e3, f0, hz⟩ := four_cells (Ext.trans' HX1.out hb)
      have HX := Lib.hid (Ext.trans' HB0.out (Ext.trans' HX1.out hb))
      clear hb HBB2
      go_wp2_with fail
      refine bodyPost_ret (v := .tuple #[zeroRat, .int .i64 0, .int .i64 (er : Int)]) (by simp [results, Tryd.results34, go_sem, e0, e1, e2, e3]) rfl (ratPost_err (ext_store4 HX.out (Nat.le_refl _) _ _ _ _))
    | ok r2 =>
      obtain ⟨s2, k2⟩ := r2
      obtain ⟨hk2, hk20, hs2l⟩ := bsc_len hu2
      rw [List.length_drop] at hk2
      rw [qat_ok HC.out hs hu hu2]
      obtain ⟨q, hq⟩ : ∃ q, p + 1 + k1 + k2 = q := ⟨_, rfl⟩
      rw [hq]
      have hpq : p + 1 < q := by omega
      have hql : q ≤ l.length := by omega
      have HQ := Lib.hid hq
      have HBB := Lib.hid HB1
      have HU2 := Lib.hid hu2
      obtain ⟨nb, hnb⟩ : ∃ nb, (c.toNat == 1) = nb := ⟨_, rfl⟩
      rw [hnb]
      have hnbI : ((c.toNat : Int) == 1) = nb := by
        rw [← hnb, Bool.eq_iff_iff, beq_iff_eq, beq_iff_eq]; omega
      obtain ⟨a, ha⟩ : ∃ a, Nb.val s1 = a := ⟨_, rfl⟩
      obtain ⟨b, hb'⟩ : ∃ b, Nb.val s2 = b := ⟨_, rfl⟩
      rw [ha, hb']
      obtain ⟨r, hr⟩ : ∃ r, (if qok nb a b && (putQ (nb, a, b) == (l.take q).drop p) then ((nb, a, b), q, 0) else ((false, 0, 0), 0, 3)) = r := ⟨_, rfl⟩
      rw [hr]
      have HRES := Lib.hid hr
      have HAB := Lib.hid (And.intro ha hb')
      clear hu hs eP HB1 hu2 hnb ha hb' hr hq
      go_enter Tryd.func34, Tryd.ntmps34
      go_wp2_with fail
      refine HBB.out.mono ?_
      rintro e w1 ⟨x, rfl, hx, hb⟩
      have HB2 := refBytes_any _ l ((p + 1 + k1 : Nat) : Int) 4096 w1 (HV.out.below (Ext.trans' HB0.out hb)) (by omega) (by omega)
      rw [bat_ok (by omega) HU2.out, HQ.out] at HB2
      have HBB2 := Lib.hid HB2
      have HX1 := Lib.hid hb
      have HXR := Lib.hid (ownsRow_row hx)
      clear hb HBB HB2 hx
      go_wp2_with fail
      refine HBB2.out.mono ?_
      rintro e w2 ⟨y, rfl, hy, hb⟩
      have HX2 := Lib.hid (Ext.trans' HX1.out hb)
      have HXR2 := Lib.hid (HXR.out.below hb)
      have HYR2 := Lib.hid (ownsRow_row hy)
      have hw2 := (Ext.trans' HB0.out HX2.out)
      have hc2 : w2.cell? ⟨bx, ox + p, none⟩ = some (u8v c) := by rw [hw2.cell (p := ⟨bx, ox + p, none⟩) hbx]; exact hc0
      have HC2 := Lib.hid hc2
      have HW2 := Lib.hid hw2
      clear hb HBB2 hy hc0 hc1 hc2 hw2
      go_wp2_with fail
      refine Go.Rel.wp_region 13 (by kernel_rfl) (by kernel_rfl) Ext (fun w' => Ext w2 w')
        [Rel.is (.slice (some ⟨bx, ox, none⟩) l.length c0), Rel.is (.int .i64 p), Rel.is (.pointer (some ⟨bx, ox + p, none⟩)), Rel.is (u8v c), Rel.is (.bool nb), Rel.is x,
         fun v w' => IsU32s w' v (Na.digs a) ∧ From w2.heap.size v, fun v w' => ∃ s, v = .agg #[.bool nb, s] ∧ IsU32s w' s (Na.digs a) ∧ From w2.heap.size s, Rel.is y,
         fun v w' => IsU32s w' v (Na.digs b) ∧ From w2.heap.size v, fun v w' => ∃ s, v = .agg #[.bool false, s] ∧ IsU32s w' s (Na.digs b) ∧ From w2.heap.size s,
         fun v w' => IsRatN w2.heap.size w' v nb a b, fun v w' => ∃ g, v = .pointer (some ⟨g, 0, none⟩) ∧ w2.heap.size ≤ g ∧ Zero4 w' g]
        ?_ ?_ ?_ ⟨?_, ?_, ?_, ?_, ?_, ?_, ?_, ?_, ?_, ?_, ?_, ?_, ?_, trivial⟩ ?_
      · exact below_drewN (Below.refl _ _) 1
      · exact fun _ _ h k => Ext.trans' h k
      · exact Rel.Monos.mem ⟨Rel.mono_is _, Rel.mono_is _, Rel.mono_is _, Rel.mono_is _, Rel.mono_is _, Rel.mono_is _, fun _ _ _ h k => ⟨k.1.below h, k.2⟩, fun _ _ _ h ⟨s, e, k1, k2⟩ => ⟨s, e, k1.below h, k2⟩, Rel.mono_is _,
          fun _ _ _ h k => ⟨k.1.below h, k.2⟩, fun _ _ _ h ⟨s, e, k1, k2⟩ => ⟨s, e, k1.below h, k2⟩, fun _ _ _ h k => k.ext h, fun _ _ _ h ⟨g, e, k1, k2⟩ => ⟨g, e, k1, k2.ext h⟩, trivial⟩
      · intro ρ w' hs ho hC hd
        have h2 : ρ (.tmp 0) = .slice (some ⟨bx, ox, none⟩) l.length c0 := ho 0 rfl
        simp [go_sem, h2]
        exact ⟨Ext.rfl', rfl⟩
      · intro ρ w' hs ho hC hd
        have h2 : ρ (.tmp 1) = .int .i64 p := ho 1 rfl
        simp [go_sem, h2]
        exact ⟨Ext.rfl', rfl⟩
      · intro ρ w' hs ho hC hd
        obtain ⟨hd1, hd2, -⟩ := hd
        have h1 : ρ (.tmp 57) = _ := hd1 rfl
        have h2 : ρ (.tmp 58) = _ := hd2 rfl
        simp [go_sem, h1, h2, hpI]
        exact ⟨Ext.rfl', rfl⟩
      · intro ρ w' hs ho hC hd
        obtain ⟨hd1, -⟩ := hd
        have h1 : ρ (.tmp 59) = _ := hd1 rfl
        have hcc : w'.cell? ⟨bx, ox + p, none⟩ = some (u8v c) := by rw [hC.cell (p := ⟨bx, ox + p, none⟩) (Nat.lt_of_lt_of_le hbx HW2.out.size)]; exact HC2.out
        simp [go_sem, h1, hcc]
        exact ⟨Ext.rfl', rfl⟩
      · intro ρ w' hs ho hC hd
        obtain ⟨hd1, -⟩ := hd
        have h1 : ρ (.tmp 60) = _ := hd1 rfl
        simp [go_sem, h1, hs.const, hnbI]
        exact ⟨Ext.rfl', rfl⟩
      · intro ρ w' hs ho hC hd
        have h2 : ρ (.tmp 7) = x := ho 7 rfl
        simp [go_sem, h2]
        exact ⟨Ext.rfl', rfl⟩
      · intro ρ w' hs ho hC hd
        obtain ⟨hd1, -⟩ := hd
        have h1 : ρ (.tmp 62) = _ := hd1 rfl
        simp [go_sem, h1, hs.func]
        refine (refMagnitude_any x s1 w' (HXR2.out.below hC) (by omega)).mono ?_
        rintro e w'' ⟨v', rfl, hv, hf, hb⟩
        rw [HAB.out.1] at hv
        exact ⟨_, rfl, hb, hv, hf.mono hC.size⟩
      · intro ρ w' hs ho hC hd
        obtain ⟨hd1, hd2, -⟩ := hd
        have h1 : ρ (.tmp 61) = _ := hd1 rfl
        have h2 : IsU32s w' (ρ (.tmp 63)) (Na.digs a) ∧ From w2.heap.size (ρ (.tmp 63)) := hd2 rfl
        obtain ⟨h2, h3⟩ := h2
        obtain ⟨q1, q2, hq⟩ := h2.shape
        rw [hq] at h2 h3
        simp [go_sem, h1, hq]
        exact ⟨Ext.rfl', h2, h3⟩
      · intro ρ w' hs ho hC hd
        have h2 : ρ (.tmp 10) = y := ho 10 rfl
        simp [go_sem, h2]
        exact ⟨Ext.rfl', rfl⟩
      · intro ρ w' hs ho hC hd
        obtain ⟨hd1, -⟩ := hd
        have h1 : ρ (.tmp 65) = _ := hd1 rfl
        simp [go_sem, h1, hs.func]
        refine (refMagnitude_any y s2 w' (HYR2.out.below hC) (by omega)).mono ?_
        rintro e w'' ⟨v', rfl, hv, hf, hb⟩
        rw [HAB.out.2] at hv
        exact ⟨_, rfl, hb, hv, hf.mono hC.size⟩
      · intro ρ w' hs ho hC hd
        obtain ⟨hd1, -⟩ := hd
        have h2 : IsU32s w' (ρ (.tmp 66)) (Na.digs b) ∧ From w2.heap.size (ρ (.tmp 66)) := hd1 rfl
        obtain ⟨h2, h3⟩ := h2
        obtain ⟨q1, q2, hq⟩ := h2.shape
        rw [hq] at h2 h3
        simp [go_sem, hq]
        exact ⟨Ext.rfl', h2, h3⟩
      · intro ρ w' hs ho hC hd
        obtain ⟨hd1, hd2, -⟩ := hd
        have h1 : ∃ s, ρ (.tmp 64) = .agg #[.bool nb, s] ∧ IsU32s w' s (Na.digs a) ∧ From w2.heap.size s := hd1 rfl
        have h2 : ∃ s, ρ (.tmp 67) = .agg #[.bool false, s] ∧ IsU32s w' s (Na.digs b) ∧ From w2.heap.size s := hd2 rfl
        obtain ⟨s, e1, k1, k2⟩ := h1
        obtain ⟨t, e2, k3, k4⟩ := h2
        obtain ⟨q1, q2, rfl⟩ := k1.shape
        obtain ⟨q3, q4, rfl⟩ := k3.shape
        simp [go_sem, e1, e2]
        exact ⟨Ext.rfl', _, _, rfl, k1, k3, k2, k4⟩
      · intro ρ w' hs ho hC hd
        simp [go_sem]
        exact ⟨below_alloc _ _, hC.size, by simp, fun i => by rw [World.cell?_alloc_at _ _ _ _ rfl], fun i => by rw [World.frozen?_alloc_at _ _ _ _ rfl]⟩
      · intro w' hC
        rintro _ rfl _ rfl _ rfl _ rfl _ rfl _ rfl v6 h6 v7 h7 _ rfl v9 h9 v10 h10 v11 ⟨s, t, rfl, hx, hy, fx, fy⟩ v12 ⟨g, rfl, hg, hz4⟩
        change wpList _ _ _ (List.drop 13 _) _ _
        simp only [List.drop_succ_cons, List.drop_zero]
        obtain ⟨b1, d1, rfl⟩ := hx.shape
        obtain ⟨b2, d2, rfl⟩ := hy.shape
        have e0 : w'.cell? ⟨g, 0, none⟩ = some (.bool false) := by rw [hz4.2.1]; rfl
        have e1 : w'.cell? ⟨g, 1, none⟩ = some (.slice none 0 0) := by rw [hz4.2.1]; rfl
        have e2 : w'.cell? ⟨g, 2, none⟩ = some (.bool false) := by rw [hz4.2.1]; rfl
        have e3 : w'.cell? ⟨g, 3, none⟩ = some (.slice none 0 0) := by rw [hz4.2.1]; rfl
        have f := hz4.2.2
        have hg4 := hz4.1
        have hX3 := hx.ch (((((Ch.refl g w').setCell 0 (.bool nb)).setCell 1 (.slice b1 (Na.digs a).length d1)).setCell 2 (.bool false)).setCell 3 (.slice b2 (Na.digs b).length d2)) (hz4.off hx)
        have hY3 := hy.ch (((((Ch.refl g w').setCell 0 (.bool nb)).setCell 1 (.slice b1 (Na.digs a).length d1)).setCell 2 (.bool false)).setCell 3 (.slice b2 (Na.digs b).length d2)) (hz4.off hy)
        have HXY := Lib.hid (And.intro hX3 hY3)
        have HE := Lib.hid (ext_store4 (Ext.trans' HX2.out hC) (show (w.alloc (.cells #[.bool false, .slice none 0 0, .bool false, .slice none 0 0] 51)).heap.size ≤ g by have := HX2.out.size; omega) (.bool nb) (.slice b1 (Na.digs a).length d1) (.bool false) (.slice b2 (Na.digs b).length d2))
        have hw2s : w.heap.size + 1 ≤ w2.heap.size := by have := HX2.out.size; simp at this; omega
        have HF := Lib.hid (And.intro (fx.mono hw2s) (fy.mono hw2s))
        clear hw2s
        clear h6 h7 h9 h10 hx hy fx fy hz4 hX3 hY3
        go_wp2_with fail
        generalize hW : World.setCell _ _ _ = W at HXY HE ⊢
        obtain ⟨q0, q1, q2, q3, qz⟩ := set4_cells e0 e1 e2 e3 _ _ _ _ hW
        have hgW : g < W.heap.size := by omega
        have HK : Hid (∀ w', Ext W w' → w'.cell? ⟨g, 0, none⟩ = some (.bool nb) ∧ w'.cell? ⟨g, 1, none⟩ = some (.slice b1 (Na.digs a).length d1) ∧ w'.cell? ⟨g, 2, none⟩ = some (.bool false) ∧ w'.cell? ⟨g, 3, none⟩ = some (.slice b2 (Na.digs b).length d2)) := by
          intro w' hw'
          refine ⟨?_, ?_, ?_, ?_⟩
          · rw [hw'.cell (p := ⟨g, 0, none⟩) hgW]; exact q0
          · rw [hw'.cell (p := ⟨g, 1, none⟩) hgW]; exact q1
          · rw [hw'.cell (p := ⟨g, 2, none⟩) hgW]; exact q2
          · rw [hw'.cell (p := ⟨g, 3, none⟩) hgW]; exact q3
        have hla : (Na.digs a).length ≤ 4096 := by have := na_len_nb s1; rw [HAB.out.1] at this; omega
        have hlb : (Na.digs b).length ≤ 4096 := by have := na_len_nb s2; rw [HAB.out.2] at this; omega
        clear hW q0 q1 q2 q3 e0 e1 e2 e3 f hC qz hg4 hg
        cases hQ : qok nb a b with
        | false =>
          have hres : r = ((false, 0, 0), 0, 3) := by rw [← HRES.out, hQ, Bool.false_and]; rfl
          subst hres
          refine Go.Rel.wp_region 13 (by kernel_rfl) (by kernel_rfl) Ext (fun w' => Ext W w')
            [Rel.is (.agg #[.bool nb, .slice b1 (Na.digs a).length d1, .bool false, .slice b2 (Na.digs b).length d2]), Rel.is (.bool false), Rel.is (.bool true), Rel.is (.bool true), Rel.top, Rel.top, Rel.top, Rel.top, Rel.top, Rel.top, Rel.top, Rel.top, Rel.is (.bool true)]
            ?_ ?_ ?_ ⟨?_, ?_, ?_, ?_, ?_, ?_, ?_, ?_, ?_, ?_, ?_, ?_, ?_, trivial⟩ ?_
          · exact below_drewN (Below.refl _ _) 1
          · exact fun _ _ h k => Ext.trans' h k
          · exact Rel.Monos.mem ⟨Rel.mono_is _, Rel.mono_is _, Rel.mono_is _, Rel.mono_is _, fun _ _ _ _ k => k, fun _ _ _ _ k => k, fun _ _ _ _ k => k, fun _ _ _ _ k => k, fun _ _ _ _ k => k, fun _ _ _ _ k => k, fun _ _ _ _ k => k, fun _ _ _ _ k => k, Rel.mono_is _, trivial⟩
          · intro ρ w' hs ho hC hd
            have h2 : ρ (.tmp 13) = .pointer (some ⟨g, 0, none⟩) := ho 13 rfl
            obtain ⟨k0, k1, k2, k3⟩ := HK.out w' hC
            simp [go_sem, h2, k0, k1, k2, k3]
            exact ⟨Ext.rfl', rfl⟩
          · intro ρ w' hs ho hC hd
            obtain ⟨hd1, -⟩ := hd
            have h1 : ρ (.tmp 69) = _ := hd1 rfl
            simp [go_sem, h1, hs.func]
            have hN := refIsNorm_any nb _ _ a b w' (HXY.out.1.below hC) (HXY.out.2.below hC) (by omega) (by omega)
            refine hN.mono ?_
            rintro e w'' ⟨rfl, hb⟩
            have hQ' : (!(nb && decide ((Na.digs a).length = 0)) && (decide (0 < b) && (Nat.gcd a b == 1))) = false := hQ
            rw [hQ']
            exact ⟨_, rfl, hb, rfl⟩
          · intro ρ w' hs ho hC hd
            obtain ⟨hd1, -⟩ := hd
            have h1 : ρ (.tmp 70) = _ := hd1 rfl
            simp [go_sem, h1]
            exact ⟨Ext.rfl', rfl⟩
          · intro ρ w' hs ho hC hd
            obtain ⟨hd1, -⟩ := hd
            have h1 : ρ (.tmp 71) = _ := hd1 rfl
            simp [go_sem, h1]
            exact ⟨Ext.rfl', rfl⟩
          · intro ρ w' hs ho hC hd
            refine ⟨fun hg => ?_, fun _ => trivial⟩
            first
              | exact absurd ((hd.1 rfl).symm.trans hg) (by simp)
              | exact absurd ((hd.2.1 rfl).symm.trans hg) (by simp)
              | exact absurd ((hd.2.2.1 rfl).symm.trans hg) (by simp)
              | exact absurd ((hd.2.2.2.1 rfl).symm.trans hg) (by simp)
              | exact absurd ((hd.2.2.2.2.1 rfl).symm.trans hg) (by simp)
          · intro ρ w' hs ho hC hd
            refine ⟨fun hg => ?_, fun _ => trivial⟩
            first
              | exact absurd ((hd.1 rfl).symm.trans hg) (by simp)
              | exact absurd ((hd.2.1 rfl).symm.trans hg) (by simp)
              | exact absurd ((hd.2.2.1 rfl).symm.trans hg) (by simp)
              | exact absurd ((hd.2.2.2.1 rfl).symm.trans hg) (by simp)
              | exact absurd ((hd.2.2.2.2.1 rfl).symm.trans hg) (by simp)
          · intro ρ w' hs ho hC hd
            refine ⟨fun hg => ?_, fun _ => trivial⟩
            first
              | exact absurd ((hd.1 rfl).symm.trans hg) (by simp)
              | exact absurd ((hd.2.1 rfl).symm.trans hg) (by simp)
              | exact absurd ((hd.2.2.1 rfl).symm.trans hg) (by simp)
              | exact absurd ((hd.2.2.2.1 rfl).symm.trans hg) (by simp)
              | exact absurd ((hd.2.2.2.2.1 rfl).symm.trans hg) (by simp)
          · intro ρ w' hs ho hC hd
            refine ⟨fun hg => ?_, fun _ => trivial⟩
            first
              | exact absurd ((hd.1 rfl).symm.trans hg) (by simp)
              | exact absurd ((hd.2.1 rfl).symm.trans hg) (by simp)
              | exact absurd ((hd.2.2.1 rfl).symm.trans hg) (by simp)
              | exact absurd ((hd.2.2.2.1 rfl).symm.trans hg) (by simp)
              | exact absurd ((hd.2.2.2.2.1 rfl).symm.trans hg) (by simp)
          · intro ρ w' hs ho hC hd
            refine ⟨fun hg => ?_, fun _ => trivial⟩
            first
              | exact absurd ((hd.1 rfl).symm.trans hg) (by simp)
              | exact absurd ((hd.2.1 rfl).symm.trans hg) (by simp)
              | exact absurd ((hd.2.2.1 rfl).symm.trans hg) (by simp)
              | exact absurd ((hd.2.2.2.1 rfl).symm.trans hg) (by simp)
              | exact absurd ((hd.2.2.2.2.1 rfl).symm.trans hg) (by simp)
          · intro ρ w' hs ho hC hd
            refine ⟨fun hg => ?_, fun _ => trivial⟩
            first
              | exact absurd ((hd.1 rfl).symm.trans hg) (by simp)
              | exact absurd ((hd.2.1 rfl).symm.trans hg) (by simp)
              | exact absurd ((hd.2.2.1 rfl).symm.trans hg) (by simp)
              | exact absurd ((hd.2.2.2.1 rfl).symm.trans hg) (by simp)
              | exact absurd ((hd.2.2.2.2.1 rfl).symm.trans hg) (by simp)
          · intro ρ w' hs ho hC hd
            refine ⟨fun hg => ?_, fun _ => trivial⟩
            first
              | exact absurd ((hd.1 rfl).symm.trans hg) (by simp)
              | exact absurd ((hd.2.1 rfl).symm.trans hg) (by simp)
              | exact absurd ((hd.2.2.1 rfl).symm.trans hg) (by simp)
              | exact absurd ((hd.2.2.2.1 rfl).symm.trans hg) (by simp)
              | exact absurd ((hd.2.2.2.2.1 rfl).symm.trans hg) (by simp)
          · intro ρ w' hs ho hC hd
            refine ⟨fun hg => ?_, fun _ => trivial⟩
            first
              | exact absurd ((hd.1 rfl).symm.trans hg) (by simp)
              | exact absurd ((hd.2.1 rfl).symm.trans hg) (by simp)
              | exact absurd ((hd.2.2.1 rfl).symm.trans hg) (by simp)
              | exact absurd ((hd.2.2.2.1 rfl).symm.trans hg) (by simp)
              | exact absurd ((hd.2.2.2.2.1 rfl).symm.trans hg) (by simp)
          · intro ρ w' hs ho hC hd
            obtain ⟨hd1, -⟩ := hd
            have h1 : ρ (.tmp 72) = .bool true := hd1 rfl
            simp [go_sem, h1, hs.const]
            exact ⟨Ext.rfl', rfl⟩
          · intro w' hC
            rintro _ rfl _ rfl _ rfl _ rfl v4 h4 v5 h5 v6 h6 v7 h7 v8 h8 v9 h9 v10 h10 v11 h11 _ rfl
            change wpList _ _ _ (List.drop 13 _) _ _
            simp only [List.drop_succ_cons, List.drop_nil]
            clear h4 h5 h6 h7 h8 h9 h10 h11 hQ
            have HC2' := Lib.hid hC
            clear hC
            simp only [Go.Act.put, List.setIfInBounds_toArray, List.set_cons_succ, List.set_cons_zero]
            obtain ⟨e0, e1, e2, e3, f0, hz⟩ := four_cells (Ext.trans' HE.out HC2'.out)
            go_wp2_with fail
            refine bodyPost_ret (v := .tuple #[zeroRat, .int .i64 0, .int .i64 3]) (by simp [results, Tryd.results34, go_sem, e0, e1, e2, e3]) rfl (ratPost_err (ext_store4 (Ext.trans' HB0.out (Ext.trans' HE.out HC2'.out)) (Nat.le_refl _) _ _ _ _))
        | true =>
          have hN := nrm_qok hQ
          obtain ⟨S, hS⟩ : ∃ S, (putQ (nb, a, b) == (l.take q).drop p) = S := ⟨_, rfl⟩
          have HS := Lib.hid hS
          have HQK := Lib.hid hQ
          have hpqI : (p : Int) ≤ (q : Int) := by omega
          obtain ⟨-, hcm, hlc, -⟩ := row_cells HV.out
          have hlc2 := (hlc (by omega)).2
          have hqc : q ≤ c0 := by omega
          have hqcI : (q : Int) ≤ (c0 : Int) := by omega
          have h0I : (0 : Int) ≤ (p : Int) := by omega
          have HSL : Hid (∀ w', Ext w w' → IsBytes w' (.slice (some ⟨bx, ox + p, none⟩) (q - p) (c0 - p)) ((l.take q).drop p)) := by
            intro w' hw'
            have hz : (l.take q).length = q := by simp; omega
            have := row_drop (f := u8v) (n := p) hbx (by rw [hz]; exact hqc) hcm (l := l.take q) (fun i hi => by rw [HCX.out i (by rw [hz] at hi; omega)]; simp)
            rw [hz] at this
            exact this.below hw'
          clear hlc hlc2 hcm
          clear hS hQ
          refine Go.Rel.wp_region 13 (by kernel_rfl) (by kernel_rfl) Ext (fun w' => Ext W w')
            [Rel.is (.agg #[.bool nb, .slice b1 (Na.digs a).length d1, .bool false, .slice b2 (Na.digs b).length d2]), Rel.is (.bool true), Rel.is (.bool false), Rel.is (.bool false), Rel.is (.agg #[.bool nb, .slice b1 (Na.digs a).length d1, .bool false, .slice b2 (Na.digs b).length d2]), fun v w' => IsBytes w' v (putQ (nb, a, b)),
             Rel.is (.slice (some ⟨bx, ox, none⟩) l.length c0), Rel.is (.int .i64 p), Rel.is (.int .i64 q), Rel.is (.slice (some ⟨bx, ox + p, none⟩) (q - p) (c0 - p)), Rel.is (.bool S), Rel.is (.bool (!S)), Rel.is (.bool (!S))]
            ?_ ?_ ?_ ⟨?_, ?_, ?_, ?_, ?_, ?_, ?_, ?_, ?_, ?_, ?_, ?_, ?_, trivial⟩ ?_
          · exact below_drewN (Below.refl _ _) 1
          · exact fun _ _ h k => Ext.trans' h k
          · exact Rel.Monos.mem ⟨Rel.mono_is _, Rel.mono_is _, Rel.mono_is _, Rel.mono_is _, Rel.mono_is _, fun _ _ _ h k => k.below h, Rel.mono_is _, Rel.mono_is _, Rel.mono_is _, Rel.mono_is _, Rel.mono_is _, Rel.mono_is _, Rel.mono_is _, trivial⟩
          · intro ρ w' hs ho hC hd
            have h2 : ρ (.tmp 13) = .pointer (some ⟨g, 0, none⟩) := ho 13 rfl
            obtain ⟨k0, k1, k2, k3⟩ := HK.out w' hC
            simp [go_sem, h2, k0, k1, k2, k3]
            exact ⟨Ext.rfl', rfl⟩
          · intro ρ w' hs ho hC hd
            obtain ⟨hd1, -⟩ := hd
            have h1 : ρ (.tmp 69) = _ := hd1 rfl
            simp [go_sem, h1, hs.func]
            have hN := refIsNorm_any nb _ _ a b w' (HXY.out.1.below hC) (HXY.out.2.below hC) (by omega) (by omega)
            refine hN.mono ?_
            rintro e w'' ⟨rfl, hb⟩
            have hQ' : (!(nb && decide ((Na.digs a).length = 0)) && (decide (0 < b) && (Nat.gcd a b == 1))) = true := HQK.out
            rw [hQ']
            exact ⟨_, rfl, hb, rfl⟩
          · intro ρ w' hs ho hC hd
            obtain ⟨hd1, -⟩ := hd
            have h1 : ρ (.tmp 70) = _ := hd1 rfl
            simp [go_sem, h1]
            exact ⟨Ext.rfl', rfl⟩
          · intro ρ w' hs ho hC hd
            obtain ⟨hd1, -⟩ := hd
            have h1 : ρ (.tmp 71) = _ := hd1 rfl
            simp [go_sem, h1]
            exact ⟨Ext.rfl', rfl⟩
          · intro ρ w' hs ho hC hd
            refine ⟨fun _ => ?_, fun hn => absurd (hd.1 rfl) hn⟩
            have h2 : ρ (.tmp 13) = .pointer (some ⟨g, 0, none⟩) := ho 13 rfl
            obtain ⟨k0, k1, k2, k3⟩ := HK.out w' hC
            simp [go_sem, h2, k0, k1, k2, k3]
            exact ⟨Ext.rfl', rfl⟩
          · intro ρ w' hs ho hC hd
            refine ⟨fun _ => ?_, fun hn => absurd (hd.2.1 rfl) hn⟩
            have h1 : ρ (.tmp 73) = _ := hd.1 rfl
            simp [go_sem, h1, hs.func]
            have hP := refPutRational_any nb false _ _ _ _ w' (HXY.out.1.below hC) (HXY.out.2.below hC) (by omega) (by omega)
            rw [Na.val_digs, Na.val_digs, hN] at hP
            refine hP.mono ?_
            rintro e w'' ⟨v', rfl, hv, hb⟩
            exact ⟨_, rfl, hb, ownsRow_row hv⟩
          · intro ρ w' hs ho hC hd
            refine ⟨fun _ => ?_, fun hn => absurd (hd.1 rfl) hn⟩
            have h2 : ρ (.tmp 0) = .slice (some ⟨bx, ox, none⟩) l.length c0 := ho 0 rfl
            simp [go_sem, h2]
            exact ⟨Ext.rfl', rfl⟩
          · intro ρ w' hs ho hC hd
            refine ⟨fun _ => ?_, fun hn => absurd (hd.1 rfl) hn⟩
            have h2 : ρ (.tmp 1) = .int .i64 p := ho 1 rfl
            simp [go_sem, h2]
            exact ⟨Ext.rfl', rfl⟩
          · intro ρ w' hs ho hC hd
            refine ⟨fun _ => ?_, fun hn => absurd (hd.1 rfl) hn⟩
            have h2 : ρ (.tmp 11) = .int .i64 q := ho 11 rfl
            simp [go_sem, h2]
            exact ⟨Ext.rfl', rfl⟩
          · intro ρ w' hs ho hC hd
            refine ⟨fun _ => ?_, fun hn => absurd (hd.2.2.2.1 rfl) hn⟩
            have h1 : ρ (.tmp 75) = _ := hd.1 rfl
            have h2 : ρ (.tmp 76) = _ := hd.2.1 rfl
            have h3 : ρ (.tmp 77) = _ := hd.2.2.1 rfl
            have e1 : p ≤ q := by omega
            have e2 : ¬ c0 = p := by omega
            simp [go_sem, h1, h2, h3, hqc, e1, e2]
            exact ⟨Ext.rfl', rfl⟩
          · intro ρ w' hs ho hC hd
            refine ⟨fun _ => ?_, fun hn => absurd (by first | exact hd.2.2.1 rfl | exact hd.2.2.2.1 rfl | exact hd.2.2.2.2.1 rfl) hn⟩
            have h1 : IsBytes w' (ρ (.tmp 74)) (putQ (nb, a, b)) := hd.1 rfl
            have h2 : ρ (.tmp 78) = _ := hd.2.1 rfl
            simp [go_sem, h2, hs.func]
            have hSm := same06 _ _ _ _ w' h1 (HSL.out w' (Ext.trans' HB0.out (Ext.trans' HE.out hC)))
            rw [HS.out] at hSm
            refine hSm.mono ?_
            rintro e w'' ⟨rfl, hb⟩
            exact ⟨_, rfl, hb, rfl⟩
          · intro ρ w' hs ho hC hd
            refine ⟨fun _ => ?_, fun hn => absurd (by first | exact hd.2.1 rfl | exact hd.2.2.1 rfl) hn⟩
            have h1 : ρ (.tmp 79) = _ := hd.1 rfl
            simp [go_sem, h1]
            exact ⟨Ext.rfl', rfl⟩
          · intro ρ w' hs ho hC hd
            obtain ⟨hd1, hd2, -⟩ := hd
            have h1 : ρ (.tmp 72) = .bool false := hd1 rfl
            have h2 : ρ (.tmp 80) = _ := hd2 rfl
            simp [go_sem, h1, h2, hs.const]
            exact ⟨Ext.rfl', rfl⟩
          · intro w' hC
            rintro _ rfl _ rfl _ rfl _ rfl _ rfl v5 h5 _ rfl _ rfl _ rfl _ rfl _ rfl _ rfl _ rfl
            change wpList _ _ _ (List.drop 13 _) _ _
            simp only [List.drop_succ_cons, List.drop_nil]
            obtain ⟨e0, e1, e2, e3, f0, hz⟩ := four_cells (Ext.trans' HE.out hC)
            obtain ⟨k0, k1, k2, k3⟩ := HK.out w' hC
            have HC2' := Lib.hid hC
            clear h5 hC
            simp only [Go.Act.put, List.setIfInBounds_toArray, List.set_cons_succ, List.set_cons_zero]
            cases S
            · have hres : r = ((false, 0, 0), 0, 3) := by rw [← HRES.out, HS.out, HQK.out]; rfl
              subst hres
              go_wp2_with fail
              refine bodyPost_ret (v := .tuple #[zeroRat, .int .i64 0, .int .i64 3]) (by simp [results, Tryd.results34, go_sem, e0, e1, e2, e3]) rfl (ratPost_err (ext_store4 (Ext.trans' HB0.out (Ext.trans' HE.out HC2'.out)) (Nat.le_refl _) _ _ _ _))
            · have hres : r = ((nb, a, b), q, 0) := by rw [← HRES.out, HS.out, HQK.out]; rfl
              subst hres
              go_wp2_with fail
              refine bodyPost_ret (v := .tuple #[.agg #[.bool nb, .slice b1 (Na.digs a).length d1, .bool false, .slice b2 (Na.digs b).length d2], .int .i64 q, .int .i64 0]) (by simp [results, Tryd.results34, go_sem, e0, e1, e2, e3]) rfl ⟨_, rfl, ⟨_, _, rfl, ?_, ?_, HF.out.1.mono (by omega), HF.out.2.mono (by omega)⟩, ext_store4 (Ext.trans' HB0.out (Ext.trans' HE.out HC2'.out)) (Nat.le_refl _) _ _ _ _⟩
              · exact (HXY.out.1.below HC2'.out).ch (((((Ch.refl _ _).setCell _ _).setCell _ _).setCell _ _).setCell _ _) (fun _ => HF.out.1.off (by omega))
              · exact (HXY.out.2.below HC2'.out).ch (((((Ch.refl _ _).setCell _ _).setCell _ _).setCell _ _).setCell _ _) (fun _ => HF.out.2.off (by omega))
end Go.Proofs.YtnenbmbgmmeiaaaDoor
