/- The law on reading back what was written, walked. -/
import Derived.Test.YtnenbmbgmmeiaaaDoorLaw6H
import Derived.Test.YtnenbmbgmmeiaaaDoorQatPut
import Derived.Test.YtnenbmbgmmeiaaaDoorEncW5
namespace Go.Proofs.YtnenbmbgmmeiaaaDoor
open Go.RowKit En
variable {α : Type}
set_option linter.unusedVariables false

attribute [local go_sem] Go.Rel.Does Go.Rel.Upon Go.Rel.kept Go.Rel.valOf
set_option maxRecDepth 100000 in
set_option maxHeartbeats 6400000 in
theorem lawTrip (m : PartsD) (v1 : Value) (ah : List UInt8) (v2 : Value) (mo : List UInt8) (w : World) (hm : IsPartsD w m) (h1 : IsBytes w v1 ah) (h2 : IsBytes w v2 mo) :
    Calls Tryd.prog 8 #[m.v, v1, v2] w fun e w' => e = .returned (.bool true) ∧ Ext w w' := by
  obtain ⟨n, i, s0, s, ⟨n1, s1, l1, n2, s2, l2⟩⟩ := m
  obtain ⟨hi, hs, hf1, hf2⟩ := hm
  simp only at hi hs hf1 hf2
  have hl1 := hf1.len
  have hl2 := hf2.len
  have hls := hs.len
  have hla := h1.len
  have hlm := h2.len
  unfold maxLen at hl1 hl2 hls hla hlm
  have HF := Lib.hid (And.intro hf1 hf2)
  have HS := Lib.hid hs
  have HA := Lib.hid h1
  have HM := Lib.hid h2
  obtain ⟨a0, c0, rfl⟩ := hs.shape
  obtain ⟨a1, c1, rfl⟩ := hf1.shape
  obtain ⟨a2, c2, rfl⟩ := hf2.shape
  obtain ⟨a3, c3, rfl⟩ := h1.shape
  obtain ⟨a4, c4, rfl⟩ := h2.shape
  show Calls _ _ #[.agg #[u64v n, .int .i64 i, .slice a0 s.length c0, .bool n1, .slice a1 l1.length c1, .bool n2, .slice a2 l2.length c2], .slice a3 ah.length c3, .slice a4 mo.length c4] w _
  obtain ⟨W0, hW0⟩ : ∃ W, w.alloc (.cells #[u64v n, .int .i64 i, .slice a0 s.length c0, .bool n1, .slice a1 l1.length c1, .bool n2, .slice a2 l2.length c2] 59) = W := ⟨_, rfl⟩
  have hb0 : Ext w W0 := by rw [← hW0]; exact below_alloc _ _
  have HB0 := Lib.hid hb0
  have HK0 : Hid (∀ w', Ext W0 w' → w'.cell? ⟨w.heap.size, 0, none⟩ = some (u64v n) ∧ w'.cell? ⟨w.heap.size, 1, none⟩ = some (.int .i64 i) ∧ w'.cell? ⟨w.heap.size, 2, none⟩ = some (.slice a0 s.length c0) ∧ w'.cell? ⟨w.heap.size, 3, none⟩ = some (.bool n1) ∧ w'.cell? ⟨w.heap.size, 4, none⟩ = some (.slice a1 l1.length c1) ∧ w'.cell? ⟨w.heap.size, 5, none⟩ = some (.bool n2) ∧ w'.cell? ⟨w.heap.size, 6, none⟩ = some (.slice a2 l2.length c2)) := by
    intro w' hw'
    rw [← hW0] at hw'
    have h := (newBlock hw').1
    refine ⟨?_, ?_, ?_, ?_, ?_, ?_, ?_⟩
    all_goals rw [h]; rfl
  have HW0 := Lib.hid hW0
  obtain ⟨sm, hsm⟩ : ∃ sm, (decide (l1.length ≤ 40) && decide (l2.length ≤ 40)) = sm := ⟨_, rfl⟩
  have HSM := Lib.hid (smallRat_any n1 n2 _ _ l1 l2 sm W0 (hf1.below hb0) (hf2.below hb0) hsm)
  have hkk := HK0.out W0 Ext.rfl'
  rw [← hW0] at hkk
  clear hb0 hs hf1 hf2 h1 h2 hW0
  have hcase : sm = false ∨ sm = true ∧ (5000 : Int) < s.length ∨ sm = true ∧ ¬ (5000 : Int) < s.length ∧ (1000 : Int) < ah.length ∨ sm = true ∧ ¬ (5000 : Int) < s.length ∧ ¬ (1000 : Int) < ah.length ∧ (1000 : Int) < mo.length ∨ (sm = true ∧ ¬ (5000 : Int) < s.length ∧ ¬ (1000 : Int) < ah.length ∧ ¬ (1000 : Int) < mo.length) := by
    cases sm
    · exact .inl rfl
    · by_cases q1 : (5000 : Int) < s.length
      · exact .inr (.inl ⟨rfl, q1⟩)
      · by_cases q2 : (1000 : Int) < ah.length
        · exact .inr (.inr (.inl ⟨rfl, q1, q2⟩))
        · by_cases q3 : (1000 : Int) < mo.length
          · exact .inr (.inr (.inr (.inl ⟨rfl, q1, q2, q3⟩)))
          · exact .inr (.inr (.inr (.inr ⟨rfl, q1, q2, q3⟩)))
  rcases hcase with rfl | ⟨rfl, q1⟩ | ⟨rfl, q1, q2⟩ | ⟨rfl, q1, q2, q3⟩ | ⟨rfl, q1, q2, q3⟩
  · obtain ⟨k0, k1, k2, k3, k4, k5, k6⟩ := hkk
    clear hsm
    go_enter Tryd.func8, Tryd.ntmps8
    go_wp2_with fail
    rw [HW0.out]
    refine HSM.out.mono ?_
    rintro e w1 ⟨rfl, hb1⟩
    clear k0 k1 k2 k3 k4 k5 k6
    obtain ⟨k0, k1, k2, k3, k4, k5, k6⟩ := HK0.out w1 hb1
    go_wp2_with fail
    refine (example_any _).mono ?_
    rintro e w2 ⟨rfl, hb2⟩
    go_wp2_with fail
    go_ret
    exact ⟨rfl, Ext.trans' HB0.out (Ext.trans' hb1 hb2)⟩
  · obtain ⟨k0, k1, k2, k3, k4, k5, k6⟩ := hkk
    clear hsm
    go_enter Tryd.func8, Tryd.ntmps8
    go_wp2_with fail
    rw [HW0.out]
    refine HSM.out.mono ?_
    rintro e w1 ⟨rfl, hb1⟩
    clear k0 k1 k2 k3 k4 k5 k6
    obtain ⟨k0, k1, k2, k3, k4, k5, k6⟩ := HK0.out w1 hb1
    go_wp2_with fail
    refine (example_any _).mono ?_
    rintro e w2 ⟨rfl, hb2⟩
    go_wp2_with fail
    go_ret
    exact ⟨rfl, Ext.trans' HB0.out (Ext.trans' hb1 hb2)⟩
  · obtain ⟨k0, k1, k2, k3, k4, k5, k6⟩ := hkk
    clear hsm
    go_enter Tryd.func8, Tryd.ntmps8
    go_wp2_with fail
    rw [HW0.out]
    refine HSM.out.mono ?_
    rintro e w1 ⟨rfl, hb1⟩
    clear k0 k1 k2 k3 k4 k5 k6
    obtain ⟨k0, k1, k2, k3, k4, k5, k6⟩ := HK0.out w1 hb1
    go_wp2_with fail
    refine (example_any _).mono ?_
    rintro e w2 ⟨rfl, hb2⟩
    go_wp2_with fail
    go_ret
    exact ⟨rfl, Ext.trans' HB0.out (Ext.trans' hb1 hb2)⟩
  · obtain ⟨k0, k1, k2, k3, k4, k5, k6⟩ := hkk
    clear hsm
    go_enter Tryd.func8, Tryd.ntmps8
    go_wp2_with fail
    rw [HW0.out]
    refine HSM.out.mono ?_
    rintro e w1 ⟨rfl, hb1⟩
    clear k0 k1 k2 k3 k4 k5 k6
    obtain ⟨k0, k1, k2, k3, k4, k5, k6⟩ := HK0.out w1 hb1
    go_wp2_with fail
    refine (example_any _).mono ?_
    rintro e w2 ⟨rfl, hb2⟩
    go_wp2_with fail
    go_ret
    exact ⟨rfl, Ext.trans' HB0.out (Ext.trans' hb1 hb2)⟩
  · obtain ⟨k0, k1, k2, k3, k4, k5, k6⟩ := hkk
    simp only [Bool.and_eq_true, decide_eq_true_eq] at hsm
    obtain ⟨⟨rn, ra, rb⟩, hr⟩ : ∃ r, nrm n1 n2 (Na.val l1) (Na.val l2) = r := ⟨_, rfl⟩
    have hrq := nrm_ok n1 n2 (Na.val l1) (Na.val l2)
    have hrn := nrm_nb n1 n2 l1 l2 hsm.1 hsm.2
    rw [hr] at hrq hrn
    obtain ⟨B1, B2, B3, B4, B5, e1, e2, e3, e4, e5, r1, r2, r3, r4, z1, z2, z3, z4, z5⟩ := trip_reads ah mo s n.toNat i (rn, ra, rb) n.toNat_lt hi.1 hi.2 (by omega) hrq hrn.1 hrn.2 (by omega) (by omega)
    have y1 := uvar_len 10 n.toNat
    have y2 := uvar_len 10 (zig i)
    have y3 := putB_len s
    have y4 := putQ_len (rn, ra, rb)
    have HR := Lib.hid (And.intro r1 (And.intro r2 (And.intro r3 r4)))
    have HE := Lib.hid (And.intro e1 (And.intro e2 (And.intro e3 (And.intro e4 e5))))
    have HNR := Lib.hid hr
    have hq4 : (putQ (rn, ra, rb)).length ≤ 400 := by simp only at y4 hrn; omega
    clear r1 r2 r3 r4 e1 e2 e3 e4 e5 hr hrq hrn y4
    go_enter Tryd.func8, Tryd.ntmps8
    go_wp2_with fail
    rw [HW0.out]
    refine HSM.out.mono ?_
    rintro e w1 ⟨rfl, hb1⟩
    clear k0 k1 k2 k3 k4 k5 k6
    obtain ⟨k0, k1, k2, k3, k4, k5, k6⟩ := HK0.out w1 hb1
    have HB1 := Lib.hid hb1
    have hown0 := World.ownsRow_lit (base := W0.heap.size) (e := 5) (size := 1) w1 #[] 0 hb1.size (Nat.zero_le _) rfl
    have hr0 := raw_alloc ((HA.out.below (Ext.trans' HB0.out hb1)).raw (fun _ => rfl)) (.cells #[] 5)
    have h63 : 0 + ah.length ≤ maxLen := by unfold maxLen; omega
    have hby : (0 + ah.length) * 1 ≤ 140737488355328 := by omega
    have hext : Ext W0 (w1.alloc (.cells #[] 5)) := Ext.trans' hb1 (below_alloc _ _)
    have hs0 := hext.size
    clear hb1 HSM
    go_wp2_with (at_builtin; refine wpList_append_raw rfl _ _ _ rfl tyU8 W0.heap.size hown0 rfl hr0 rfl h63 hby hs0 ?_; intro b1 w2 hown hg; have hX := hext.grown hg hs0 (fun k hk => (World.ownsRow.lt hown0 k hk).1); clear k0 k1 k2 k3 k4 k5 k6; obtain ⟨k0, k1, k2, k3, k4, k5, k6⟩ := HK0.out w2 hX)
    have HBW := Lib.hid hX
    simp only [Nat.zero_add, List.nil_append] at hown
    have HO := Lib.hid hown
    clear hown0 hr0 hg hown hX hext hs0 h63 hby
    refine (putUvarint_any n.toNat w2 n.toNat_lt).mono ?_
    rintro e w3 ⟨y, rfl, hy, hbn⟩
    have hext := Ext.trans' HBW.out hbn
    have hown0 := ownsRow_ext HO.out hbn
    have hr0 := (ownsRow_row hy).raw (fun _ => rfl)
    have hs0 := hext.size
    have h63 : ah.length + (uvar 10 n.toNat).length ≤ maxLen := by unfold maxLen; omega
    have hby : (ah.length + (uvar 10 n.toNat).length) * 1 ≤ 140737488355328 := by omega
    clear hy hbn k0 k1 k2 k3 k4 k5 k6
    clear HO HBW
    go_wp2_with (at_builtin; refine wpList_append_raw rfl _ _ _ rfl tyU8 W0.heap.size hown0 rfl hr0 rfl h63 hby hs0 ?_; intro b2 w4 hown hg; have hX := hext.grown hg hs0 (fun k hk => (World.ownsRow.lt hown0 k hk).1); obtain ⟨k0, k1, k2, k3, k4, k5, k6⟩ := HK0.out w4 hX)
    have HBW := Lib.hid hX
    have hO := own_appB rfl rfl hown
    rw [← HE.out.1] at hO
    have HO := Lib.hid hO
    clear hown0 hr0 hg hown hX hext hs0 h63 hby hO
    refine (putVarint_any i w4 hi.1 hi.2).mono ?_
    rintro e w5 ⟨y, rfl, hy, hbn⟩
    have hext := Ext.trans' HBW.out hbn
    have hown0 := ownsRow_ext HO.out hbn
    have hr0 := (ownsRow_row hy).raw (fun _ => rfl)
    have hs0 := hext.size
    have h63 : B1.length + (uvar 10 (zig i)).length ≤ maxLen := by unfold maxLen; omega
    have hby : (B1.length + (uvar 10 (zig i)).length) * 1 ≤ 140737488355328 := by omega
    clear hy hbn k0 k1 k2 k3 k4 k5 k6
    clear HO HBW
    go_wp2_with (at_builtin; refine wpList_append_raw rfl _ _ _ rfl tyU8 W0.heap.size hown0 rfl hr0 rfl h63 hby hs0 ?_; intro b3 w6 hown hg; have hX := hext.grown hg hs0 (fun k hk => (World.ownsRow.lt hown0 k hk).1); obtain ⟨k0, k1, k2, k3, k4, k5, k6⟩ := HK0.out w6 hX)
    have HBW := Lib.hid hX
    have hO := own_appB rfl rfl hown
    rw [← HE.out.2.1] at hO
    have HO := Lib.hid hO
    clear hown0 hr0 hg hown hX hext hs0 h63 hby hO
    refine (putBytes_any _ s w6 (HS.out.below (Ext.trans' HB0.out HBW.out)) (by omega)).mono ?_
    rintro e w7 ⟨y, rfl, hy, hbn⟩
    have hext := Ext.trans' HBW.out hbn
    have hown0 := ownsRow_ext HO.out hbn
    have hr0 := (ownsRow_row hy).raw (fun _ => rfl)
    have hs0 := hext.size
    have h63 : B2.length + (putB s).length ≤ maxLen := by unfold maxLen; omega
    have hby : (B2.length + (putB s).length) * 1 ≤ 140737488355328 := by omega
    clear hy hbn k0 k1 k2 k3 k4 k5 k6
    clear HO HBW
    go_wp2_with (at_builtin; refine wpList_append_raw rfl _ _ _ rfl tyU8 W0.heap.size hown0 rfl hr0 rfl h63 hby hs0 ?_; intro b4 w8 hown hg; have hX := hext.grown hg hs0 (fun k hk => (World.ownsRow.lt hown0 k hk).1); obtain ⟨k0, k1, k2, k3, k4, k5, k6⟩ := HK0.out w8 hX)
    have HBW := Lib.hid hX
    have hO := own_appB rfl rfl hown
    rw [← HE.out.2.2.1] at hO
    have HO := Lib.hid hO
    clear hown0 hr0 hg hown hX hext hs0 h63 hby hO
    refine (putRational_any n1 n2 _ _ l1 l2 w8 (HF.out.1.below (Ext.trans' HB0.out HBW.out)) (HF.out.2.below (Ext.trans' HB0.out HBW.out)) (by omega) (by omega)).mono ?_
    rintro e w9 ⟨y, rfl, hy, hbn⟩
    rw [HNR.out] at hy
    have hext := Ext.trans' HBW.out hbn
    have hown0 := ownsRow_ext HO.out hbn
    have hr0 := (ownsRow_row hy).raw (fun _ => rfl)
    have hs0 := hext.size
    have h63 : B3.length + (putQ (rn, ra, rb)).length ≤ maxLen := by unfold maxLen; omega
    have hby : (B3.length + (putQ (rn, ra, rb)).length) * 1 ≤ 140737488355328 := by omega
    clear hy hbn k0 k1 k2 k3 k4 k5 k6
    have h63' : B4.length + mo.length ≤ maxLen := by unfold maxLen; omega
    have hby' : (B4.length + mo.length) * 1 ≤ 140737488355328 := by omega
    clear HO HBW
    go_wp2_with (first | (at_builtin; refine wpList_append_raw rfl _ _ _ rfl tyU8 W0.heap.size hown0 rfl hr0 rfl h63 hby hs0 ?_; intro b5 w10 hown hg; have hX := hext.grown hg hs0 (fun k hk => (World.ownsRow.lt hown0 k hk).1); have hO := own_appB rfl rfl hown; rw [← HE.out.2.2.2.1] at hO; obtain ⟨b5a, b5c, rfl⟩ := own_sh hO; have hr1 := (HM.out.below (Ext.trans' HB0.out hX)).raw (fun _ => rfl); have hs1 := hX.size; clear hown hg hown0 hr0) | (at_builtin; refine wpList_append_raw rfl _ _ _ rfl tyU8 W0.heap.size hO rfl hr1 rfl h63' hby' hs1 ?_; intro b6 w12 hown hg))
    have hY := hX.grown hg hs1 (fun k hk => (World.ownsRow.lt hO k hk).1)
    have hO2 := own_appB rfl rfl hown
    rw [← HE.out.2.2.2.2] at hO2
    have HBW := Lib.hid hY
    have HO := Lib.hid (ownsRow_row hO2)
    clear hr1 hs1 hg hown hO hO2 hX hY hext hs0 h63 hby h63' hby'
    have hI := uvarint_any _ B5 ah.length w12 HO.out
    rw [HR.out.1] at hI
    refine hI.mono ?_
    rintro e w13 ⟨rfl, hbn⟩
    clear hI
    have hY := Ext.trans' HBW.out hbn
    have hO := HO.out.below hbn
    clear HBW HO hbn
    have HBW := Lib.hid hY
    have HO := Lib.hid hO
    obtain ⟨k0, k1, k2, k3, k4, k5, k6⟩ := HK0.out w13 hY
    clear hY hO
    go_wp2_with fail
    have hI := varint_any _ B5 B1.length w13 HO.out
    rw [HR.out.2.1] at hI
    refine hI.mono ?_
    rintro e w14 ⟨rfl, hbn⟩
    clear hI k0 k1 k2 k3 k4 k5 k6
    have hY := Ext.trans' HBW.out hbn
    have hO := HO.out.below hbn
    clear HBW HO hbn
    have HBW := Lib.hid hY
    have HO := Lib.hid hO
    obtain ⟨k0, k1, k2, k3, k4, k5, k6⟩ := HK0.out w14 hY
    clear hY hO
    go_wp2_with fail
    have hI := bytesAt_any _ B5 B2.length s.length w14 HO.out (by omega) (by omega)
    rw [HR.out.2.2.1] at hI
    refine hI.mono ?_
    rintro e w15 ⟨y, rfl, hy, hbn⟩
    have HY := Lib.hid (ownsRow_row hy)
    clear hI hy k0 k1 k2 k3 k4 k5 k6
    have hY := Ext.trans' HBW.out hbn
    have hO := HO.out.below hbn
    clear HBW HO hbn
    have HBW := Lib.hid hY
    have HO := Lib.hid hO
    obtain ⟨k0, k1, k2, k3, k4, k5, k6⟩ := HK0.out w15 hY
    clear hY hO
    go_wp2_with fail
    have hI := same06 _ _ s s w15 HY.out (HS.out.below (Ext.trans' HB0.out HBW.out))
    rw [beq_self_eq_true] at hI
    refine hI.mono ?_
    rintro e w16 ⟨rfl, hbn⟩
    clear hI k0 k1 k2 k3 k4 k5 k6
    have hY := Ext.trans' HBW.out hbn
    have hO := HO.out.below hbn
    clear HBW HO hbn
    have HBW := Lib.hid hY
    have HO := Lib.hid hO
    obtain ⟨k0, k1, k2, k3, k4, k5, k6⟩ := HK0.out w16 hY
    clear hY hO
    go_wp2_with fail
    have hI := rational_any _ B5 B3.length w16 HO.out (by omega)
    rw [HR.out.2.2.2] at hI
    refine hI.mono ?_
    rintro e w17 ⟨y, rfl, ⟨sa, sb, rfl, hsa, hsb, -, -⟩, hbn⟩
    simp only at hsa hsb
    obtain ⟨x1, d1, rfl⟩ := hsa.shape
    obtain ⟨x2, d2, rfl⟩ := hsb.shape
    obtain ⟨g, hg⟩ : ∃ g, g = w17.heap.size := ⟨_, rfl⟩
    have HX := Lib.hid (And.intro hsa hsb)
    have HG := Lib.hid hg
    have HB17 := Lib.hid (Ext.trans' HBW.out hbn)
    clear hsa hsb hI hg hbn k0 k1 k2 k3 k4 k5 k6
    go_wp2_with fail
    rw [← HG.out]
    generalize hW : w17.alloc (.cells #[.bool rn, .slice x1 (Na.digs ra).length d1, .bool false, .slice x2 (Na.digs rb).length d2] 51) = W
    have hE : Ext w17 W := by rw [← hW]; exact below_alloc _ _
    have HK : Hid (∀ w', Ext W w' → w'.cell? ⟨g, 0, none⟩ = some (.bool rn) ∧ w'.cell? ⟨g, 1, none⟩ = some (.slice x1 (Na.digs ra).length d1) ∧ w'.cell? ⟨g, 2, none⟩ = some (.bool false) ∧ w'.cell? ⟨g, 3, none⟩ = some (.slice x2 (Na.digs rb).length d2)) := by
      intro w' hw'
      rw [← hW] at hw'
      obtain ⟨k0, k1, k2, k3, -, -⟩ := four_cells hw'
      rw [HG.out]
      exact ⟨k0, k1, k2, k3⟩
    have HXX := Lib.hid (And.intro (HX.out.1.below hE) (HX.out.2.below hE))
    have HB0W := Lib.hid (Ext.trans' HB17.out hE)
    have HWW := Lib.hid (Ext.trans' HB0.out HB0W.out)
    clear hE hW
    refine Go.Rel.wp_region 17 (by kernel_rfl) (by kernel_rfl) Ext (fun w' => Ext W w')
      [Rel.is (.int .i64 0), Rel.is (.bool true), Rel.is (.bool true), Rel.is (.agg #[.bool rn, .slice x1 (Na.digs ra).length d1, .bool false, .slice x2 (Na.digs rb).length d2]), Rel.is (.pointer (some ⟨w.heap.size, 3, none⟩)), Rel.is (.agg #[.bool n1, .slice a1 l1.length c1, .bool n2, .slice a2 l2.length c2]), fun v w' => ∃ s t, v = .agg #[.bool rn, s, .bool false, t] ∧ IsU32s w' s (Na.digs ra) ∧ IsU32s w' t (Na.digs rb), Rel.is (.bool true), Rel.is (.bool true), Rel.is (.bool true), Rel.is (.int .i64 B4.length), Rel.is (.int .i64 B4.length), Rel.is (.bool true), Rel.is (.bool true), Rel.is (.bool true), Rel.is (.bool true), Rel.is (.bool true)]
      ?_ ?_ ?_ ⟨?_, ?_, ?_, ?_, ?_, ?_, ?_, ?_, ?_, ?_, ?_, ?_, ?_, ?_, ?_, ?_, ?_, trivial⟩ ?_
    · exact below_drewN (Below.refl _ _) 1
    · exact fun _ _ h k => Ext.trans' h k
    · exact Rel.Monos.mem ⟨Rel.mono_is _, Rel.mono_is _, Rel.mono_is _, Rel.mono_is _, Rel.mono_is _, Rel.mono_is _, fun _ _ _ h ⟨s, t, e, k1, k2⟩ => ⟨s, t, e, k1.below h, k2.below h⟩, Rel.mono_is _, Rel.mono_is _, Rel.mono_is _, Rel.mono_is _, Rel.mono_is _, Rel.mono_is _, Rel.mono_is _, Rel.mono_is _, Rel.mono_is _, Rel.mono_is _, trivial⟩
    · intro ρ w' hs ho hC hd
      have h2 : ρ (.tmp 11) = .int .i64 0 := ho 11 rfl
      simp [go_sem, h2]
      exact ⟨Ext.rfl', rfl⟩
    · intro ρ w' hs ho hC hd
      have h121 : ρ (.tmp 121) = .int .i64 0 := by first | exact hd.1 rfl | exact hd.2.1 rfl | exact hd.2.2.1 rfl | exact hd.2.2.2.1 rfl | exact hd.2.2.2.2.1 rfl
      simp [go_sem, h121, hs.const]
      exact ⟨Ext.rfl', rfl⟩
    · intro ρ w' hs ho hC hd
      have h122 : ρ (.tmp 122) = .bool true := by first | exact hd.1 rfl | exact hd.2.1 rfl | exact hd.2.2.1 rfl | exact hd.2.2.2.1 rfl | exact hd.2.2.2.2.1 rfl
      simp [go_sem, h122]
      exact ⟨Ext.rfl', rfl⟩
    · intro ρ w' hs ho hC hd
      refine ⟨fun _ => ?_, fun hn => absurd (by first | exact hd.1 rfl | exact hd.2.1 rfl | exact hd.2.2.1 rfl | exact hd.2.2.2.1 rfl | exact hd.2.2.2.2.1 rfl) hn⟩
      have h2 : ρ (.tmp 14) = .pointer (some ⟨g, 0, none⟩) := ho 14 rfl
      obtain ⟨k0, k1, k2, k3⟩ := HK.out w' hC
      simp [go_sem, h2, k0, k1, k2, k3]
      exact ⟨Ext.rfl', rfl⟩
    · intro ρ w' hs ho hC hd
      refine ⟨fun _ => ?_, fun hn => absurd (by first | exact hd.1 rfl | exact hd.2.1 rfl | exact hd.2.2.1 rfl | exact hd.2.2.2.1 rfl | exact hd.2.2.2.2.1 rfl) hn⟩
      have h2 : ρ (.tmp 3) = .pointer (some ⟨w.heap.size, 0, none⟩) := ho 3 rfl
      simp [go_sem, h2]
      exact ⟨Ext.rfl', rfl⟩
    · intro ρ w' hs ho hC hd
      refine ⟨fun _ => ?_, fun hn => absurd (by first | exact hd.1 rfl | exact hd.2.1 rfl | exact hd.2.2.1 rfl | exact hd.2.2.2.1 rfl | exact hd.2.2.2.2.1 rfl) hn⟩
      have h125 : ρ (.tmp 125) = .pointer (some ⟨w.heap.size, 3, none⟩) := by first | exact hd.1 rfl | exact hd.2.1 rfl | exact hd.2.2.1 rfl | exact hd.2.2.2.1 rfl | exact hd.2.2.2.2.1 rfl
      obtain ⟨k0, k1, k2, k3, k4, k5, k6⟩ := HK0.out w' (Ext.trans' HB0W.out hC)
      simp [go_sem, h125, k3, k4, k5, k6]
      exact ⟨Ext.rfl', rfl⟩
    · intro ρ w' hs ho hC hd
      refine ⟨fun _ => ?_, fun hn => absurd (by first | exact hd.1 rfl | exact hd.2.1 rfl | exact hd.2.2.1 rfl | exact hd.2.2.2.1 rfl | exact hd.2.2.2.2.1 rfl) hn⟩
      have h126 : ρ (.tmp 126) = .agg #[.bool n1, .slice a1 l1.length c1, .bool n2, .slice a2 l2.length c2] := by first | exact hd.1 rfl | exact hd.2.1 rfl | exact hd.2.2.1 rfl | exact hd.2.2.2.1 rfl | exact hd.2.2.2.2.1 rfl
      simp [go_sem, h126, hs.func]
      have hN := refRatNormalize_any n1 n2 _ _ l1 l2 w' (HF.out.1.below (Ext.trans' HWW.out hC)) (HF.out.2.below (Ext.trans' HWW.out hC)) (by omega) (by omega)
      rw [HNR.out] at hN
      refine hN.mono ?_
      rintro e w'' ⟨x, rfl, ⟨s', t', rfl, hs', ht', -, -⟩, hb⟩
      exact ⟨_, rfl, hb, _, _, rfl, hs', ht'⟩
    · intro ρ w' hs ho hC hd
      refine ⟨fun _ => ?_, fun hn => absurd (by first | exact hd.1 rfl | exact hd.2.1 rfl | exact hd.2.2.1 rfl | exact hd.2.2.2.1 rfl | exact hd.2.2.2.2.1 rfl) hn⟩
      have h124 : ρ (.tmp 124) = .agg #[.bool rn, .slice x1 (Na.digs ra).length d1, .bool false, .slice x2 (Na.digs rb).length d2] := by first | exact hd.1 rfl | exact hd.2.1 rfl | exact hd.2.2.1 rfl | exact hd.2.2.2.1 rfl | exact hd.2.2.2.2.1 rfl
      have h127 : ∃ s t, ρ (.tmp 127) = .agg #[.bool rn, s, .bool false, t] ∧ IsU32s w' s (Na.digs ra) ∧ IsU32s w' t (Na.digs rb) := by first | exact hd.1 rfl | exact hd.2.1 rfl | exact hd.2.2.1 rfl
      obtain ⟨s', t', h127, hs', ht'⟩ := h127
      simp [go_sem, h124, h127, hs.func]
      have hSm := refSame_eq rn false _ _ _ _ _ _ w' (HXX.out.1.below hC) (HXX.out.2.below hC) hs' ht'
      refine hSm.mono ?_
      rintro e w'' ⟨rfl, hb⟩
      exact ⟨_, rfl, hb, rfl⟩
    · intro ρ w' hs ho hC hd
      have h123 : ρ (.tmp 123) = .bool true := by first | exact hd.1 rfl | exact hd.2.1 rfl | exact hd.2.2.1 rfl | exact hd.2.2.2.1 rfl | exact hd.2.2.2.2.1 rfl
      have h128 : ρ (.tmp 128) = .bool true := by first | exact hd.1 rfl | exact hd.2.1 rfl | exact hd.2.2.1 rfl | exact hd.2.2.2.1 rfl | exact hd.2.2.2.2.1 rfl
      simp [go_sem, h123, h128, hs.const]
      exact ⟨Ext.rfl', rfl⟩
    · intro ρ w' hs ho hC hd
      have h129 : ρ (.tmp 129) = .bool true := by first | exact hd.1 rfl | exact hd.2.1 rfl | exact hd.2.2.1 rfl | exact hd.2.2.2.1 rfl | exact hd.2.2.2.2.1 rfl
      simp [go_sem, h129]
      exact ⟨Ext.rfl', rfl⟩
    · intro ρ w' hs ho hC hd
      refine ⟨fun _ => ?_, fun hn => absurd (by first | exact hd.1 rfl | exact hd.2.1 rfl | exact hd.2.2.1 rfl | exact hd.2.2.2.1 rfl | exact hd.2.2.2.2.1 rfl) hn⟩
      have h2 : ρ (.tmp 10) = .int .i64 B4.length := ho 10 rfl
      simp [go_sem, h2]
      exact ⟨Ext.rfl', rfl⟩
    · intro ρ w' hs ho hC hd
      refine ⟨fun _ => ?_, fun hn => absurd (by first | exact hd.1 rfl | exact hd.2.1 rfl | exact hd.2.2.1 rfl | exact hd.2.2.2.1 rfl | exact hd.2.2.2.2.1 rfl) hn⟩
      have h2 : ρ (.tmp 8) = .int .i64 B4.length := ho 8 rfl
      simp [go_sem, h2]
      exact ⟨Ext.rfl', rfl⟩
    · intro ρ w' hs ho hC hd
      refine ⟨fun _ => ?_, fun hn => absurd (by first | exact hd.1 rfl | exact hd.2.1 rfl | exact hd.2.2.1 rfl | exact hd.2.2.2.1 rfl | exact hd.2.2.2.2.1 rfl) hn⟩
      have h131 : ρ (.tmp 131) = .int .i64 B4.length := by first | exact hd.1 rfl | exact hd.2.1 rfl | exact hd.2.2.1 rfl | exact hd.2.2.2.1 rfl | exact hd.2.2.2.2.1 rfl
      have h132 : ρ (.tmp 132) = .int .i64 B4.length := by first | exact hd.1 rfl | exact hd.2.1 rfl | exact hd.2.2.1 rfl | exact hd.2.2.2.1 rfl | exact hd.2.2.2.2.1 rfl
      simp [go_sem, h131, h132]
      exact ⟨Ext.rfl', rfl⟩
    · intro ρ w' hs ho hC hd
      have h130 : ρ (.tmp 130) = .bool true := by first | exact hd.1 rfl | exact hd.2.1 rfl | exact hd.2.2.1 rfl | exact hd.2.2.2.1 rfl | exact hd.2.2.2.2.1 rfl
      have h133 : ρ (.tmp 133) = .bool true := by first | exact hd.1 rfl | exact hd.2.1 rfl | exact hd.2.2.1 rfl | exact hd.2.2.2.1 rfl | exact hd.2.2.2.2.1 rfl
      simp [go_sem, h130, h133, hs.const]
      exact ⟨Ext.rfl', rfl⟩
    · intro ρ w' hs ho hC hd
      have h134 : ρ (.tmp 134) = .bool true := by first | exact hd.1 rfl | exact hd.2.1 rfl | exact hd.2.2.1 rfl | exact hd.2.2.2.1 rfl | exact hd.2.2.2.2.1 rfl
      simp [go_sem, h134]
      exact ⟨Ext.rfl', rfl⟩
    · intro ρ w' hs ho hC hd
      refine ⟨fun _ => ?_, fun hn => absurd (by first | exact hd.1 rfl | exact hd.2.1 rfl | exact hd.2.2.1 rfl | exact hd.2.2.2.1 rfl | exact hd.2.2.2.2.1 rfl) hn⟩
      simp [go_sem, hs.func]
      refine (example_any w').mono ?_
      rintro e w'' ⟨rfl, hb⟩
      exact ⟨_, rfl, hb, rfl⟩
    · intro ρ w' hs ho hC hd
      have h135 : ρ (.tmp 135) = .bool true := by first | exact hd.1 rfl | exact hd.2.1 rfl | exact hd.2.2.1 rfl | exact hd.2.2.2.1 rfl | exact hd.2.2.2.2.1 rfl
      have h136 : ρ (.tmp 136) = .bool true := by first | exact hd.1 rfl | exact hd.2.1 rfl | exact hd.2.2.1 rfl | exact hd.2.2.2.1 rfl | exact hd.2.2.2.2.1 rfl
      simp [go_sem, h135, h136, hs.const]
      exact ⟨Ext.rfl', rfl⟩
    · intro w' hC
      rintro _ rfl _ rfl _ rfl _ rfl _ rfl _ rfl v7 h7 _ rfl _ rfl _ rfl _ rfl _ rfl _ rfl _ rfl _ rfl _ rfl _ rfl
      change wpList _ _ _ (List.drop 17 _) _ _
      simp only [List.drop_succ_cons, List.drop_zero]
      have HEE := Lib.hid (Ext.trans' HWW.out hC)
      clear h7 hC
      simp only [Go.Act.put, List.setIfInBounds_toArray, List.set_cons_succ, List.set_cons_zero]
      go_wp2_with fail
      go_ret
      exact ⟨rfl, HEE.out⟩
end Go.Proofs.YtnenbmbgmmeiaaaDoor
