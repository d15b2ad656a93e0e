/- Walk of the reference of chapter 06: PutRational. -/
import Derived.Test.YtnenbmbgmmeiaaaDoorRefRat6
import Derived.Test.YtnenbmbgmmeiaaaDoorEncW3
namespace Go.Proofs.YtnenbmbgmmeiaaaDoor
open Go.RowKit En
variable {α : Type}
set_option linter.unusedVariables false

theorem own_appB {base : Nat} {w : World} {v : Value} {A B : List UInt8} {n m : Nat} (hn : n = A.length) (hm : m = B.length) (h : w.ownsRow base 5 1 v (n + m) (A.map u8v ++ B.map u8v)) : w.ownsRow base 5 1 v (A ++ B).length ((A ++ B).map u8v) := by
  subst hn hm
  rw [List.length_append, List.map_append]; exact h
theorem four_cells {w w1 : World} {x0 x1 x2 x3 : Value} {t : TypeId} (hb : Ext (w.alloc (.cells #[x0, x1, x2, x3] t)) w1) :
    w1.cell? ⟨w.heap.size, 0, none⟩ = some x0 ∧ w1.cell? ⟨w.heap.size, 1, none⟩ = some x1 ∧ w1.cell? ⟨w.heap.size, 2, none⟩ = some x2 ∧ w1.cell? ⟨w.heap.size, 3, none⟩ = some x3 ∧ (∀ i, w1.frozen? ⟨w.heap.size, i, none⟩ = false) ∧ w.heap.size < w1.heap.size := by
  obtain ⟨h1, h2, h3⟩ := newBlock hb
  exact ⟨by rw [h1]; rfl, by rw [h1]; rfl, by rw [h1]; rfl, by rw [h1]; rfl, h2, h3⟩

set_option maxRecDepth 100000 in
set_option maxHeartbeats 3200000 in
theorem refPutRational_any (n1 n2 : Bool) (s1 s2 : Value) (l m : List UInt32) (w : World) (h1 : IsU32s w s1 l) (h2 : IsU32s w s2 m) (hl1 : l.length ≤ 500000) (hl2 : m.length ≤ 500000) :
    Calls Tryd.prog 36 #[.agg #[.bool n1, s1, .bool n2, s2]] w fun e w' => ∃ v, e = .returned v ∧ OwnB w.heap.size w' v (putQ (nrm n1 n2 (Na.val l) (Na.val m))) ∧ Ext w w' := by
  have hln := nrm_len n1 n2 l m
  have hb0 := below_alloc w (.cells #[.bool n1, s1, .bool n2, s2] 51)
  have HC := Lib.hid (refRatNormalize_any n1 n2 s1 s2 l m _ (h1.below hb0) (h2.below hb0) (by omega) (by omega))
  have HB0 := Lib.hid hb0
  obtain ⟨a1, c1, rfl⟩ := h1.shape
  obtain ⟨a2, c2, rfl⟩ := h2.shape
  generalize nrm n1 n2 (Na.val l) (Na.val m) = r at *
  obtain ⟨ng, a, b⟩ := r
  simp only at hln
  have hqa := nb_len a
  have hqb := nb_len b
  have hua := uvar_len 10 (Nb.digs a).length
  have hub := uvar_len 10 (Nb.digs b).length
  have hpa : (putB (Nb.digs a)).length ≤ 10 + 4 * 500000 := by unfold putB; rw [List.length_append]; omega
  have hpb : (putB (Nb.digs b)).length ≤ 10 + 4 * 500001 := by unfold putB; rw [List.length_append]; omega
  clear h1 h2 hb0
  rcases Bool.eq_false_or_eq_true ng with rfl | rfl
  · go_enter Tryd.func36, Tryd.ntmps36
    go_wp2_with fail
    refine HC.out.mono ?_
    rintro e w1 ⟨x, rfl, hx, hb1⟩
    obtain ⟨b1, d1, b2, d2, rfl⟩ := hx.shape
    obtain ⟨hA, hB, -, -⟩ := hx.parts
    have hb1' := Ext.trans' HB0.out hb1
    have hW1 := below_alloc w1 (.cells #[.bool true, .slice b1 (Na.digs a).length d1, .bool false, .slice b2 (Na.digs b).length d2] 51)
    have hW2 := hW1.alloc (by simp) (.cells #[.int .u8 1] 5)
    have hown := World.ownsRow_lit (base := w.heap.size) (e := 5) (size := 1) (w1.alloc (.cells #[.bool true, .slice b1 (Na.digs a).length d1, .bool false, .slice b2 (Na.digs b).length d2] 51)) #[.int .u8 1] 1 (by have := hb1'.size; simp; omega) (by unfold maxLen; omega) rfl
    simp only [World.size_alloc] at hown
    have HOWN := Lib.hid hown
    have HW12 := Lib.hid hW2
    have HB1E := Lib.hid hb1'
    have HBASE := Lib.hid (refBase256_any (.slice b1 (Na.digs a).length d1) (Na.digs a) _ (hA.below hW2) (by omega))
    rw [Na.val_digs] at HBASE
    have HW := Lib.hid (Ext.trans' hb1' hW2)
    have HBB := Lib.hid hB
    have HK : Hid (∀ w', Ext ((w1.alloc (.cells #[.bool true, .slice b1 (Na.digs a).length d1, .bool false, .slice b2 (Na.digs b).length d2] 51)).alloc (.cells #[.int .u8 1] 5)) w' → w'.cell? ⟨w1.heap.size, 2, none⟩ = some (.bool false) ∧ w'.cell? ⟨w1.heap.size, 3, none⟩ = some (.slice b2 (Na.digs b).length d2)) := by
      intro w' hw'
      obtain ⟨-, -, k2, k3, -, -⟩ := four_cells (Ext.trans' (below_alloc _ _) hw')
      exact ⟨k2, k3⟩
    clear hx hb1 hA hB hW1 hW2 hown hb1' HC
    go_wp2_with fail
    refine HBASE.out.mono ?_
    rintro e w2 ⟨y, rfl, hy, hb2⟩
    have HP := Lib.hid (refPutBytes_any y _ w2 hy (by omega))
    have HB2 := Lib.hid hb2
    obtain ⟨ya, yc, rfl⟩ := hy.shape
    clear hy hb2 HBASE
    go_wp2_with fail
    refine HP.out.mono ?_
    rintro e w3 ⟨z, rfl, hz, hb3⟩
    have hE3 := Ext.trans' HB2.out hb3
    have hown0 := ownsRow_ext HOWN.out hE3
    have hr0 := (ownsRow_row hz).raw (fun _ => rfl)
    have hE30 := Ext.trans' HW.out hE3
    have hs0 := hE30.size
    have h63 : 1 + (putB (Nb.digs a)).length ≤ maxLen := by unfold maxLen; omega
    have hby : (1 + (putB (Nb.digs a)).length) * 1 ≤ 140737488355328 := by omega
    have HE3 := Lib.hid hE3
    have HE30 := Lib.hid hE30
    clear hz hb3 hE3 hE30 HP
    go_wp2_with (at_builtin; refine wpList_append_raw rfl _ _ _ rfl tyU8 w.heap.size hown0 rfl hr0 rfl h63 hby hs0 ?_; intro v4 w4 hown4 hg; obtain ⟨k2, k3⟩ := HK.out w3 HE3.out; have k2' := hg.cell k2 (by simp [Value.ownBlock]); have k3' := hg.cell k3 (by simp [Value.ownBlock]))
    have hE14 := (Ext.trans' HW12.out HE3.out).grown hg (Ext.trans' HW12.out HE3.out).size (by intro k hk; simp [Value.ownBlock] at hk; omega)
    have hO4 : w4.ownsRow w.heap.size 5 1 v4 ([1] ++ putB (Nb.digs a)).length (([1] ++ putB (Nb.digs a)).map u8v) := own_appB (A := [1]) rfl rfl hown4
    have HO4 := Lib.hid hO4
    have hBS := refBase256_any (.slice b2 (Na.digs b).length d2) (Na.digs b) _ (HBB.out.below hE14) (by omega)
    rw [Na.val_digs] at hBS
    have HBS := Lib.hid hBS
    have HE4 := Lib.hid (Ext.trans' HB1E.out hE14)
    clear hown0 hr0 hown4 hg hE14 hO4 hBS
    go_wp2_with fail
    refine HBS.out.mono ?_
    rintro e w5 ⟨y5, rfl, hy, hb5⟩
    have HP := Lib.hid (refPutBytes_any y5 _ w5 hy (by omega))
    have HB5 := Lib.hid hb5
    obtain ⟨ya, yc, rfl⟩ := hy.shape
    clear hy hb5 HBS k2' k3'
    go_wp2_with fail
    refine HP.out.mono ?_
    rintro e w6 ⟨z, rfl, hz, hb6⟩
    have hE46 := Ext.trans' HB5.out hb6
    have hown0 := ownsRow_ext HO4.out hE46
    have hr0 := (ownsRow_row hz).raw (fun _ => rfl)
    have hE6 := Ext.trans' HE4.out hE46
    have hs0 := hE6.size
    have h63 : ([1] ++ putB (Nb.digs a)).length + (putB (Nb.digs b)).length ≤ maxLen := by unfold maxLen; rw [List.length_append]; simp; omega
    have hby : (([1] ++ putB (Nb.digs a)).length + (putB (Nb.digs b)).length) * 1 ≤ 140737488355328 := by rw [List.length_append]; simp; omega
    have HE6 := Lib.hid hE6
    clear hz hb6 hE46 hE6 HP
    go_wp2_with (at_builtin; refine wpList_append_raw rfl _ _ _ rfl tyU8 w.heap.size hown0 rfl hr0 rfl h63 hby hs0 ?_; intro v7 w7 hown7 hg)
    have HE7 := Lib.hid (HE6.out.grown hg hs0 (fun k hk => (World.ownsRow.lt hown0 k hk).1))
    have hO7 := own_appB rfl rfl hown7
    clear hown7 hg
    go_wp2_with fail
    go_ret
    refine ⟨_, rfl, ?_, HE7.out⟩
    unfold OwnB putQ
    simpa using hO7
  · go_enter Tryd.func36, Tryd.ntmps36
    go_wp2_with fail
    refine HC.out.mono ?_
    rintro e w1 ⟨x, rfl, hx, hb1⟩
    obtain ⟨b1, d1, b2, d2, rfl⟩ := hx.shape
    obtain ⟨hA, hB, -, -⟩ := hx.parts
    have hb1' := Ext.trans' HB0.out hb1
    have hW1 := below_alloc w1 (.cells #[.bool false, .slice b1 (Na.digs a).length d1, .bool false, .slice b2 (Na.digs b).length d2] 51)
    have hW2 := hW1.alloc (by simp) (.cells #[.int .u8 0] 5)
    have hown := World.ownsRow_lit (base := w.heap.size) (e := 5) (size := 1) (w1.alloc (.cells #[.bool false, .slice b1 (Na.digs a).length d1, .bool false, .slice b2 (Na.digs b).length d2] 51)) #[.int .u8 0] 1 (by have := hb1'.size; simp; omega) (by unfold maxLen; omega) rfl
    simp only [World.size_alloc] at hown
    have HOWN := Lib.hid hown
    have HW12 := Lib.hid hW2
    have HB1E := Lib.hid hb1'
    have HBASE := Lib.hid (refBase256_any (.slice b1 (Na.digs a).length d1) (Na.digs a) _ (hA.below hW2) (by omega))
    rw [Na.val_digs] at HBASE
    have HW := Lib.hid (Ext.trans' hb1' hW2)
    have HBB := Lib.hid hB
    have HK : Hid (∀ w', Ext ((w1.alloc (.cells #[.bool false, .slice b1 (Na.digs a).length d1, .bool false, .slice b2 (Na.digs b).length d2] 51)).alloc (.cells #[.int .u8 0] 5)) w' → w'.cell? ⟨w1.heap.size, 2, none⟩ = some (.bool false) ∧ w'.cell? ⟨w1.heap.size, 3, none⟩ = some (.slice b2 (Na.digs b).length d2)) := by
      intro w' hw'
      obtain ⟨-, -, k2, k3, -, -⟩ := four_cells (Ext.trans' (below_alloc _ _) hw')
      exact ⟨k2, k3⟩
    clear hx hb1 hA hB hW1 hW2 hown hb1' HC
    go_wp2_with fail
    refine HBASE.out.mono ?_
    rintro e w2 ⟨y, rfl, hy, hb2⟩
    have HP := Lib.hid (refPutBytes_any y _ w2 hy (by omega))
    have HB2 := Lib.hid hb2
    obtain ⟨ya, yc, rfl⟩ := hy.shape
    clear hy hb2 HBASE
    go_wp2_with fail
    refine HP.out.mono ?_
    rintro e w3 ⟨z, rfl, hz, hb3⟩
    have hE3 := Ext.trans' HB2.out hb3
    have hown0 := ownsRow_ext HOWN.out hE3
    have hr0 := (ownsRow_row hz).raw (fun _ => rfl)
    have hE30 := Ext.trans' HW.out hE3
    have hs0 := hE30.size
    have h63 : 1 + (putB (Nb.digs a)).length ≤ maxLen := by unfold maxLen; omega
    have hby : (1 + (putB (Nb.digs a)).length) * 1 ≤ 140737488355328 := by omega
    have HE3 := Lib.hid hE3
    have HE30 := Lib.hid hE30
    clear hz hb3 hE3 hE30 HP
    go_wp2_with (at_builtin; refine wpList_append_raw rfl _ _ _ rfl tyU8 w.heap.size hown0 rfl hr0 rfl h63 hby hs0 ?_; intro v4 w4 hown4 hg; obtain ⟨k2, k3⟩ := HK.out w3 HE3.out; have k2' := hg.cell k2 (by simp [Value.ownBlock]); have k3' := hg.cell k3 (by simp [Value.ownBlock]))
    have hE14 := (Ext.trans' HW12.out HE3.out).grown hg (Ext.trans' HW12.out HE3.out).size (by intro k hk; simp [Value.ownBlock] at hk; omega)
    have hO4 : w4.ownsRow w.heap.size 5 1 v4 ([0] ++ putB (Nb.digs a)).length (([0] ++ putB (Nb.digs a)).map u8v) := own_appB (A := [0]) rfl rfl hown4
    have HO4 := Lib.hid hO4
    have hBS := refBase256_any (.slice b2 (Na.digs b).length d2) (Na.digs b) _ (HBB.out.below hE14) (by omega)
    rw [Na.val_digs] at hBS
    have HBS := Lib.hid hBS
    have HE4 := Lib.hid (Ext.trans' HB1E.out hE14)
    clear hown0 hr0 hown4 hg hE14 hO4 hBS
    go_wp2_with fail
    refine HBS.out.mono ?_
    rintro e w5 ⟨y5, rfl, hy, hb5⟩
    have HP := Lib.hid (refPutBytes_any y5 _ w5 hy (by omega))
    have HB5 := Lib.hid hb5
    obtain ⟨ya, yc, rfl⟩ := hy.shape
    clear hy hb5 HBS k2' k3'
    go_wp2_with fail
    refine HP.out.mono ?_
    rintro e w6 ⟨z, rfl, hz, hb6⟩
    have hE46 := Ext.trans' HB5.out hb6
    have hown0 := ownsRow_ext HO4.out hE46
    have hr0 := (ownsRow_row hz).raw (fun _ => rfl)
    have hE6 := Ext.trans' HE4.out hE46
    have hs0 := hE6.size
    have h63 : ([0] ++ putB (Nb.digs a)).length + (putB (Nb.digs b)).length ≤ maxLen := by unfold maxLen; rw [List.length_append]; simp; omega
    have hby : (([0] ++ putB (Nb.digs a)).length + (putB (Nb.digs b)).length) * 1 ≤ 140737488355328 := by rw [List.length_append]; simp; omega
    have HE6 := Lib.hid hE6
    clear hz hb6 hE46 hE6 HP
    go_wp2_with (at_builtin; refine wpList_append_raw rfl _ _ _ rfl tyU8 w.heap.size hown0 rfl hr0 rfl h63 hby hs0 ?_; intro v7 w7 hown7 hg)
    have HE7 := Lib.hid (HE6.out.grown hg hs0 (fun k hk => (World.ownsRow.lt hown0 k hk).1))
    have hO7 := own_appB rfl rfl hown7
    clear hown7 hg
    go_wp2_with fail
    go_ret
    refine ⟨_, rfl, ?_, HE7.out⟩
    unfold OwnB putQ
    simpa using hO7
end Go.Proofs.YtnenbmbgmmeiaaaDoor
