/- The law on Bytes, walked. -/
import Derived.Test.YtnenbmbgmmeiaaaDoorEncWalk16
import Derived.Test.YtnenbmbgmmeiaaaDoorOpen2
namespace Go.Proofs.YtnenbmbgmmeiaaaDoor
open Go.RowKit En
variable {α : Type}
set_option linter.unusedVariables false

set_option maxRecDepth 100000 in
set_option maxHeartbeats 1600000 in
theorem lawBytes (v1 : Value) (l1 : List UInt8) (v2 : Value) (l2 : List UInt8) (x : Int × Int) (w : World) (h1 : IsBytes w v1 l1) (h2 : IsBytes w v2 l2) (hx : IsAsk x) :
    Calls Tryd.prog 5 #[v1, v2, .agg #[.int .i64 x.1, .int .i64 x.2]] w fun e w' => e = .returned (.bool true) ∧ Ext w w' := by
  obtain ⟨i, most⟩ := x
  obtain ⟨⟨hi1, hi2⟩, ⟨hm1, hm2⟩⟩ := hx
  simp only at hi1 hi2 hm1 hm2
  have hb0 := below_alloc w (.cells #[.int .i64 i, .int .i64 most] 36)
  obtain ⟨w0, hw0⟩ : ∃ w0, w0 = w.alloc (.cells #[.int .i64 i, .int .i64 most] 36) := ⟨_, rfl⟩
  have g1 := h1.below hb0
  have g2 := h2.below hb0
  obtain ⟨a1, c1, rfl⟩ := h1.shape
  obtain ⟨a2, c2, rfl⟩ := h2.shape
  have hl1 := h1.len
  have hl2 := h2.len
  unfold maxLen at hl1 hl2
  have HG := Lib.hid (And.intro h1 (And.intro h2 (And.intro g2 hb0)))
  obtain ⟨⟨sb, nx, er⟩, hbat⟩ : ∃ r, bat l2 i most = r := ⟨_, rfl⟩
  have HBAT := Lib.hid hbat
  clear hbat
  clear g1 g2 hb0 h1 h2
  by_cases hbig : 20000 < l1.length ∨ 20000 < l2.length
  · have HE := Lib.hid (example_any (w.alloc (.cells #[.int .i64 i, .int .i64 most] 36)))
    have hcase : Hid ((20000 : Int) < l1.length ∨ ¬ (20000 : Int) < l1.length ∧ (20000 : Int) < l2.length) := by
      show _ ∨ _
      by_cases h : 20000 < l1.length
      · left; omega
      · right; omega
    clear hbig hw0
    rcases hcase.out with h | ⟨h, h'⟩
    all_goals
      go_enter Tryd.func5, Tryd.ntmps5
      go_wp2_with fail
      refine HE.out.mono ?_
      rintro e w5 ⟨rfl, hb⟩
      have HB5 := Lib.hid (Ext.trans' HG.out.2.2.2 hb)
      clear HE hb
      go_wp2_with fail
      go_ret
      exact ⟨rfl, HB5.out⟩
  · have k1 : ¬ (20000 : Int) < l1.length := by omega
    have k2 : ¬ (20000 : Int) < l2.length := by omega
    clear hbig
    have hown0 := World.ownsRow_lit (base := w.heap.size) (e := 5) (size := 1) w0 #[] 0 (by rw [hw0]; simp) (Nat.zero_le _) rfl
    have hr0 := raw_alloc ((hw0 ▸ HG.out.2.2.1 : IsBytes w0 _ l2).raw (fun _ => rfl)) (.cells #[] 5)
    have h63 : 0 + l2.length ≤ maxLen := by unfold maxLen; omega
    have hby : (0 + l2.length) * 1 ≤ 140737488355328 := by omega
    have hz0 : w0.heap.size = w.heap.size + 1 := by rw [hw0]; simp
    rw [hz0] at hown0
    rw [hw0] at hown0 hr0
    clear hz0
    have hs00 : w.heap.size ≤ ((w.alloc (.cells #[.int .i64 i, .int .i64 most] 36)).alloc (.cells #[] 5)).heap.size := by simp; omega
    have q0 : ((w.alloc (.cells #[.int .i64 i, .int .i64 most] 36)).alloc (.cells #[] 5)).cell? ⟨w.heap.size, 0, none⟩ = some (.int .i64 i) := by simp [go_sem]
    have q1 : ((w.alloc (.cells #[.int .i64 i, .int .i64 most] 36)).alloc (.cells #[] 5)).cell? ⟨w.heap.size, 1, none⟩ = some (.int .i64 most) := by simp [go_sem]
    have HQ := Lib.hid (And.intro q0 q1)
    have HE1 : Hid (Ext w ((w.alloc (.cells #[.int .i64 i, .int .i64 most] 36)).alloc (.cells #[] 5))) := Ext.trans' (below_alloc _ _) (below_alloc _ _)
    clear hw0 q0 q1
    go_enter Tryd.func5, Tryd.ntmps5
    go_wp2_with (at_builtin; refine wpList_append_raw rfl _ _ _ rfl tyU8 w.heap.size hown0 rfl hr0 rfl h63 hby hs00 ?_; intro own w1 hown hg; have q0 := hg.cell HQ.out.1 (by simp [Value.ownBlock]); have q1 := hg.cell HQ.out.2 (by simp [Value.ownBlock]))
    have hb1 := HE1.out.grown hg hs00 (fun k hk => (World.ownsRow.lt hown0 k hk).1)
    simp only [Nat.zero_add, List.nil_append] at hown
    have hr1 := ownsRow_row hown
    have hz1 := hg.size
    simp only [World.size_alloc] at hz1
    have hk1 : w.heap.size < w1.heap.size := by omega
    have HB := Lib.hid (bytesAt_any own l2 i most w1 hr1 (by omega) hm2)
    rw [HBAT.out] at HB
    have HB1 := Lib.hid hb1
    have HR1 := Lib.hid hr1
    clear hb1 hr1 hown hg hown0 hr0
    go_wp2_with fail
    refine HB.out.mono ?_
    rintro e w2 ⟨t, rfl, ht, hb2⟩
    have q0' := hb2.cell (p := ⟨w.heap.size, 0, none⟩) hk1
    have q1' := hb2.cell (p := ⟨w.heap.size, 1, none⟩) hk1
    rw [q0] at q0'
    rw [q1] at q1'
    have HRB := Lib.hid (refBytes_any (.slice a2 l2.length c2) l2 i most w2 (HG.out.2.1.below (Ext.trans' HB1.out hb2)) (by omega) hm2)
    rw [HBAT.out] at HRB
    have HT := Lib.hid ht
    have HB2 := Lib.hid (Ext.trans' HB1.out hb2)
    have HX2 := Lib.hid hb2
    clear HB ht hb2 q0 q1
    go_wp2_with fail
    refine HRB.out.mono ?_
    rintro e w3 ⟨u, rfl, hu, hb3⟩
    have HP := Lib.hid (putBytes_any (.slice a1 l1.length c1) l1 w3 (HG.out.1.below (Ext.trans' HB2.out hb3)) (by omega))
    have HU := Lib.hid (ownsRow_row hu)
    have HT3 := Lib.hid (ownsRow_ext HT.out hb3)
    have HB3 := Lib.hid (Ext.trans' HB2.out hb3)
    have HX3 := Lib.hid (Ext.trans' HX2.out hb3)
    clear HRB hu hb3 q0' q1' HT HB2 HX2
    go_wp2_with fail
    refine HP.out.mono ?_
    rintro e w4 ⟨p, rfl, hp, hb4⟩
    have HP4 := Lib.hid (ownsRow_row hp)
    have HB4 := Lib.hid (Ext.trans' HB3.out hb4)
    have HQP := Lib.hid (refPutBytes_any (.slice a1 l1.length c1) l1 w4 (HG.out.1.below HB4.out) (by omega))
    have HX4 := Lib.hid hb4
    clear HP hp hb4
    go_wp2_with fail
    refine HQP.out.mono ?_
    rintro e w5 ⟨q, rfl, hq, hb5⟩
    have HS := Lib.hid (same06 p q _ _ w5 (HP4.out.below hb5) (ownsRow_row hq))
    rw [beq_self_eq_true] at HS
    have HX5 := Lib.hid (Ext.trans' HX4.out hb5)
    clear HQP hq hb5
    go_wp2_with fail
    refine HS.out.mono ?_
    rintro e w6 ⟨rfl, hb6⟩
    have h36 := Ext.trans' HX5.out hb6
    have HT6 := Lib.hid (ownsRow_ext HT3.out h36)
    have HS2 := Lib.hid (same06 t u _ _ w6 (ownsRow_row HT6.out) (HU.out.below h36))
    rw [beq_self_eq_true] at HS2
    have HX6 := Lib.hid (Ext.trans' HX3.out h36)
    have HB6 := Lib.hid (Ext.trans' HB3.out h36)
    clear HS hb6 h36 HX4 HX5 HP4
    go_wp2_with fail
    refine HS2.out.mono ?_
    rintro e w7 ⟨rfl, hb7⟩
    have HT7 := Lib.hid (ownsRow_ext HT6.out hb7)
    have HX7 := Lib.hid (Ext.trans' HX6.out hb7)
    have HB7 := Lib.hid (Ext.trans' HB6.out hb7)
    obtain ⟨at', ct, hts⟩ := (ownsRow_row HT7.out).shape
    rw [hts] at HT7
    have HTS := Lib.hid hts
    clear HS2 hb7 HT6 HX6 HB6 HU
    go_wp2_with fail
    have hlt := (ownsRow_row HT7.out).len
    unfold maxLen at hlt
    go_loopw [71] (fun i wr => ∃ k : Nat, i = .int .i64 k ∧ k ≤ sb.length ∧ ∃ ys : List UInt8, ys.length = sb.length ∧ wr.ownsRow w1.heap.size 5 1 (.slice at' sb.length ct) sb.length (ys.map u8v) ∧ Ext w1 wr) (fun i _ => sb.length - (intOf i).toNat)
    case atStart => exact ⟨0, rfl, Nat.zero_le _, sb, rfl, HT7.out, HX7.out⟩
    case round =>
      obtain ⟨k, rfl, hk, ys, hys, hown, hbel⟩ := hrel
      have HYS := Lib.hid hys
      clear hys
      by_cases hlt2 : k < sb.length
      · obtain ⟨g, cap, hsh, hg1, hg2, hg3⟩ := own_shape hown (by omega)
        simp only [Value.slice.injEq, true_and] at hsh
        obtain ⟨rfl, rfl⟩ := hsh
        have hky : k < ys.length := by have := HYS.out; omega
        have hcell := hown.cellAt k (by omega)
        rw [List.getElem?_map, List.getElem?_eq_getElem hky, Option.map_some] at hcell
        obtain ⟨d, hd⟩ : ∃ d, ys[k] = d := ⟨_, rfl⟩
        rw [hd] at hcell
        have hfz := hown.frozenAt k
        have hst := hown.stored k (u8v (d + 1))
        have HST := Lib.hid hst
        have hd8 := d.toNat_lt
        have e1 : ((d + 1).toNat : Int) = ((d.toNat : Int) + 1) % 256 := by rw [UInt8.toNat_add]; simp
        have HE1 := Lib.hid e1
        clear hst hd e1
        go_wp2_with fail
        go_roundw
        case rel =>
          refine ⟨k + 1, by go_num, by omega, ys.set k (d + 1), by simpa using HYS.out, ?_, ?_⟩
          · rw [← HE1.out]
            have := HST.out.1
            rw [List.map_set]
            exact this
          · exact hbel.setCell (p := ⟨g, k, none⟩) (by simpa using hg1) _
        case measure => simp [intOf]; omega
      · have hB := HR1.out.below hbel
        have HS := Lib.hid (same06 own (.slice a2 l2.length c2) _ _ wr hB (HG.out.2.1.below (Ext.trans' HB1.out hbel)))
        rw [beq_self_eq_true] at HS
        have HB9 := Lib.hid (Ext.trans' HB1.out hbel)
        clear hB hbel hown
        go_wp2_with fail
        refine HS.out.mono ?_
        rintro e w8 ⟨rfl, hb8⟩
        have HE := Lib.hid (example_any w8)
        have HB8 := Lib.hid (Ext.trans' HB9.out hb8)
        clear HS hb8
        go_wp2_with fail
        refine HE.out.mono ?_
        rintro e w9 ⟨rfl, hb9⟩
        have HB10 := Lib.hid (Ext.trans' HB8.out hb9)
        clear HE hb9
        go_wp2_with fail
        go_ret
        exact ⟨rfl, HB10.out⟩
end Go.Proofs.YtnenbmbgmmeiaaaDoor
