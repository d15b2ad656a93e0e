/- Walks of the reference on rational numbers: Normalize, IsNormalized, Same. -/
import Derived.Test.YtcohmdeoocgmdaaGreatDoorRefRat2
import Derived.Test.YtcohmdeoocgmdaaGreatDoorData
set_option maxHeartbeats 1600000
set_option maxRecDepth 100000
namespace Go.Proofs.YtcohmdeoocgmdaaGreatDoor
open Go.RowKit
variable {α : Type}
set_option linter.unusedVariables false
/-- The second of two blocks, in a later world. -/
theorem block2 {w w1 : World} {A : Array Value} {ta tb : TypeId} {x0 x1 x2 x3 : Value} (hb : Ext ((w.alloc (.cells A ta)).alloc (.cells #[x0, x1, x2, x3] tb)) w1) :
  (∀ i, w1.cell? ⟨w.heap.size, i, none⟩ = A[i]?) ∧ (∀ i, w1.cell? ⟨w.heap.size + 1, i, none⟩ = #[x0, x1, x2, x3][i]?) ∧ (∀ i, w1.frozen? ⟨w.heap.size + 1, i, none⟩ = false) ∧ w.heap.size + 1 < w1.heap.size := by
 refine ⟨fun i => ?_, fun i => ?_, fun i => ?_, by have := hb.size; simp at this; omega⟩
 ·rw [hb.cell (p := ⟨w.heap.size, i, none⟩) (by simp; omega)]; simp [go_sem]
 ·rw [hb.cell (p := ⟨w.heap.size + 1, i, none⟩) (by simp)]; simp [go_sem]
 ·rw [hb.frozen (p := ⟨w.heap.size + 1, i, none⟩) (by simp)]; simp [go_sem]
theorem refRatNormalize_any (n1 n2 : Bool) (s1 s2 : Value) (l m : List UInt32) (w : World) (h1 : IsU32s w s1 l) (h2 : IsU32s w s2 m) (hl1 : l.length ≤ 5000000) (hl2 : m.length ≤ 5000000) :
  Calls Tryz.prog 35 #[.agg #[.bool n1, s1, .bool n2, s2]] w fun e w' => ∃ x, e = .returned x ∧ IsRatT w.heap.size w' x (nrm n1 n2 (Na.val l) (Na.val m)) ∧ Ext w w' := by
 obtain ⟨a1, c1, rfl⟩ := h1.shape
 obtain ⟨a2, c2, rfl⟩ := h2.shape
 have hb0 := (below_alloc w (.cells #[.bool n1, .slice a1 l.length c1, .bool n2, .slice a2 m.length c2] 26)).alloc (by simp) (.cells #[.bool false, .slice none 0 0, .bool false, .slice none 0 0] 26)
 have hS := refSign_any n2 _ m _ (h2.below hb0) (by omega)
 have H := Lib.hid (And.intro h1 h2)
 have HB0 := Lib.hid hb0
 rcases Nat.eq_zero_or_pos (Na.val m) with hm | hm
 ·have hN : nrm n1 n2 (Na.val l) (Na.val m) = (false, 0, 1) := by unfold nrm; rw [if_pos hm]
  rw [hN]
  rw [hm, show sgn n2 0 = 0 from rfl] at hS
  have HS := Lib.hid hS
  clear h1 h2 hb0 hm hN hS
  go_enter Tryz.func35, Tryz.ntmps35
  go_wp2_with fail
  refine HS.out.mono ?_
  rintro e w1 ⟨rfl, hb⟩
  have HX := Lib.hid (Ext.trans' HB0.out hb)
  have HY := Lib.hid (refRatFromInt_any 0 w1 (by decide))
  have HBB := Lib.hid hb
  clear hb HS
  go_wp2_with fail
  refine HY.out.mono ?_
  rintro e w2 ⟨x, rfl, hx, hb2⟩
  obtain ⟨b1, d1, b2, d2, rfl⟩ := hx.shape
  obtain ⟨-, r1, f1, hz⟩ := block2 (Ext.trans' HBB.out hb2)
  obtain ⟨-, -, -, hz1⟩ := block2 HBB.out
  have F := Lib.hid hx
  have HX2 := Lib.hid (Ext.trans' HX.out hb2)
  clear hx hb2 HY
  go_wp2_with fail
  refine bodyPost_ret (v := .agg #[.bool false, .slice b1 (Na.digs 0).length d1, .bool false, .slice b2 (Na.digs 1).length d2]) (by simp [results, Tryz.results35, go_sem, r1]) rfl ⟨_, rfl, ?_, ext_store4 HX2.out (by omega) _ _ _ _⟩
  exact (F.out.store4 hz1 _ _ _ _).mono (by omega)
 ·have hN : nrm n1 n2 (Na.val l) (Na.val m) = (negOf n1 n2 (Na.val l) (Na.val m), Na.val l / Nat.gcd (Na.val l) (Na.val m), Na.val m / Nat.gcd (Na.val l) (Na.val m)) := by unfold nrm; rw [if_neg (by omega)]
  obtain ⟨⟨NG, X, Y⟩, hr⟩ : ∃ r, nrm n1 n2 (Na.val l) (Na.val m) = r := ⟨_, rfl⟩
  rw [hr]
  rw [hN] at hr
  obtain ⟨e1, hr⟩ := Prod.mk.inj hr
  obtain ⟨e2, e3⟩ := Prod.mk.inj hr
  have E := Lib.hid (And.intro e1 (And.intro e2 e3))
  clear e1 e2 e3 hr hN
  have hs0 : (sgn n2 (Na.val m) == 0) = false := by
   rw [beq_eq_false_iff_ne]; unfold sgn; rw [if_neg (by omega)]; cases n2 <;> simp
  have HM := Lib.hid hm
  have HS := Lib.hid hS
  clear h1 h2 hb0 hm hS
  go_enter Tryz.func35, Tryz.ntmps35
  go_wp2_with fail
  refine HS.out.mono ?_
  rintro e w1 ⟨rfl, hb⟩
  have hX := Ext.trans' HB0.out hb
  have HX := Lib.hid hX
  have hY := refReduce_any n1 n2 _ _ l m w1 (H.out.1.below hX) (H.out.2.below hX) HM.out hl1 hl2
  rw [E.out.1, E.out.2.1, E.out.2.2] at hY
  have HY := Lib.hid hY
  clear hY
  have HBB := Lib.hid hb
  obtain ⟨k0, -, -, -⟩ := block2 hb
  clear hb HS hX
  go_wp2_with fail
  refine HY.out.mono ?_
  rintro e w2 ⟨x, rfl, hx, hb2⟩
  obtain ⟨b1, d1, b2, d2, rfl⟩ := hx.shape
  obtain ⟨-, r1, f1, hz⟩ := block2 (Ext.trans' HBB.out hb2)
  obtain ⟨-, -, -, hz1⟩ := block2 HBB.out
  have F := Lib.hid hx
  have HX2 := Lib.hid (Ext.trans' HX.out hb2)
  clear hx hb2 HY k0
  go_wp2_with fail
  refine bodyPost_ret (v := .agg #[.bool NG, .slice b1 (Na.digs X).length d1, .bool false, .slice b2 (Na.digs Y).length d2]) (by simp [results, Tryz.results35, go_sem, r1]) rfl ⟨_, rfl, ?_, ext_store4 HX2.out (by omega) _ _ _ _⟩
  exact (F.out.store4 hz1 _ _ _ _).mono (show w.heap.size ≤ w1.heap.size by omega)
theorem sameInt_any (n1 n2 : Bool) (s1 s2 : Value) (l m : List UInt32) (w : World) (h1 : IsU32s w s1 l) (h2 : IsU32s w s2 m) :
  Calls Tryz.prog 140 #[.agg #[.bool n1, s1], .agg #[.bool n2, s2]] w fun e w' => e = .returned (.bool (n1 == n2 && l == m)) ∧ Ext w w' := by
 obtain ⟨a1, c1, rfl⟩ := h1.shape
 obtain ⟨a2, c2, rfl⟩ := h2.shape
 have hl1 := h1.len
 have hl2 := h2.len
 unfold maxLen at hl1 hl2
 have HB0 := Lib.hid ((below_alloc w (.cells #[.bool n1, .slice a1 l.length c1] 24)).alloc (by simp) (.cells #[.bool n2, .slice a2 m.length c2] 24))
 have H1 := Lib.hid h1
 have H2 := Lib.hid h2
 clear h1 h2
 by_cases hn : n1 = n2
 ·subst hn
  by_cases hl : l.length = m.length
  ·have HL := Lib.hid hl
   obtain ⟨W, hW⟩ : ∃ W, ((w.alloc (.cells #[.bool n1, .slice a1 l.length c1] 24)).alloc (.cells #[.bool n1, .slice a2 m.length c2] 24)) = W := ⟨_, rfl⟩
   have hK : ∀ w1, Ext W w1 → w1.cell? ⟨w.heap.size, 1, none⟩ = some (.slice a1 l.length c1) ∧ w1.cell? ⟨w.heap.size + 1, 1, none⟩ = some (.slice a2 m.length c2) := by
    intro w1 hb
    subst hW
    constructor
    ·rw [hb.cell (p := ⟨w.heap.size, 1, none⟩) (by simp; omega)]; simp [go_sem]
    ·rw [hb.cell (p := ⟨w.heap.size + 1, 1, none⟩) (by simp)]; simp [go_sem]
   have HK := Lib.hid hK
   rw [hW] at HB0
   have HW := Lib.hid hW
   have hne : ((l.length : Int) != (m.length : Int)) = false := by rw [bne_eq_false_iff_eq]; omega
   have hml : m.length ≤ l.length := Nat.le_of_eq hl.symm
   have hlm : l.length ≤ m.length := Nat.le_of_eq hl
   clear hl hK hW
   cases n1
   all_goals
    go_enter Tryz.func140, Tryz.ntmps140
    go_wp2_with fail
    rw [HW.out]
    clear hne
    go_loopw [5] (fun i wr => ∃ k : Nat, i = .int .i64 k ∧ k ≤ l.length ∧ l.take k = m.take k ∧ Ext W wr) (fun i _ => l.length - (intOf i).toNat)
    case atStart => exact ⟨0, rfl, Nat.zero_le _, rfl, Below.refl _ _⟩
    case round =>
     obtain ⟨k, rfl, hk, ht, hbel⟩ := hrel
     have HT := Lib.hid ht
     clear ht
     obtain ⟨q1, q2⟩ := HK.out wr hbel
     by_cases hlt : k < l.length
     ·obtain ⟨bx, ox, cx, hxs, hbx, hlx, hmx, hcx⟩ := row_some H1.out rfl (by omega)
      obtain ⟨by', oy, cy, hys, hby, hly, hmy, hcy⟩ := row_some H2.out rfl (by omega)
      simp only [Value.slice.injEq] at hxs hys
      obtain ⟨rfl, -, -⟩ := hxs
      obtain ⟨rfl, -, -⟩ := hys
      have hkm : k < m.length := by omega
      have hb := Ext.trans' HB0.out hbel
      have r1 : wr.cell? ⟨bx, ox + k, none⟩ = some (u32v l[k]) := by rw [hb.cell (p := ⟨bx, ox + k, none⟩) hbx]; exact hcx k hlt
      have r2 : wr.cell? ⟨by', oy + k, none⟩ = some (u32v m[k]) := by rw [hb.cell (p := ⟨by', oy + k, none⟩) hby]; exact hcy k hkm
      have hs1 := take_snoc l k hlt
      have hs2 := take_snoc m k hkm
      clear hcx hcy hb
      have hkI : (k : Int) < (m.length : Int) := by omega
      by_cases he : l[k] = m[k]
      ·have hnx : l.take (k + 1) = m.take (k + 1) := by rw [hs1, hs2, HT.out, he]
       rw [he] at r1
       have HN := Lib.hid hnx
       generalize m[k] = d at *
       clear hs1 hs2 hnx he
       go_wp2_with fail
       go_quiet (fail)
       go_wp2_with fail
       go_roundw
       case rel => exact ⟨k + 1, by go_num, by omega, HN.out, below_drewN hbel _⟩
       case measure => simp [intOf]; omega
      ·have hx : ((l[k].toNat : Int) != (m[k].toNat : Int)) = true := by
        rw [bne_iff_ne]; intro e; exact he (UInt32.toNat_inj.1 (by omega))
       have hr : l ≠ m := fun e => he (by subst e; rfl)
       have HR : Hid ((l == m) = false) := beq_eq_false_iff_ne.2 hr
       generalize l[k] = d1 at *
       generalize m[k] = d2 at *
       clear hs1 hs2 he hr
       go_wp2_with fail
       go_quiet (fail)
       go_wp2_with fail
       go_ret
       exact ⟨by rw [HR.out]; rfl, below_drewN (Ext.trans' HB0.out hbel) _⟩
     ·obtain rfl : k = l.length := by omega
      have hr : l = m := by
       have := HT.out
       rw [List.take_length, HL.out, List.take_length] at this; exact this
      have HR : Hid ((l == m) = true) := beq_iff_eq.2 hr
      clear hr
      go_wp2_with fail
      go_ret
      exact ⟨by rw [HR.out]; rfl, Ext.trans' HB0.out hbel⟩
  ·have hne : ((l.length : Int) != (m.length : Int)) = true := by rw [bne_iff_ne]; omega
   have hr : Hid ((n1 == n1 && l == m) = false) := by
    show _ = _
    rw [beq_self_eq_true, Bool.true_and, beq_eq_false_iff_ne]; exact fun e => hl (by rw [e])
   clear hl
   cases n1
   all_goals
    go_enter Tryz.func140, Tryz.ntmps140
    go_wp2_with fail
    go_ret
    exact ⟨by rw [hr.out]; rfl, HB0.out⟩
 ·have hr : Hid ((n1 == n2 && l == m) = false) := by
   show _ = _
   rw [beq_eq_false_iff_ne.2 hn, Bool.false_and]
  cases n1 <;> cases n2
  ·exact absurd rfl hn
  case' true.true => exact absurd rfl hn
  all_goals
   clear hn
   go_enter Tryz.func140, Tryz.ntmps140
   go_wp2_with fail
   go_ret
   exact ⟨by rw [hr.out]; rfl, HB0.out⟩
end Go.Proofs.YtcohmdeoocgmdaaGreatDoor
