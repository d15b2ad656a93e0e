/- The law on canonical encodings, walked. -/
import Derived.Test.YtnenbmbgmmeiaaaDoorEncW5
import Derived.Test.YtnenbmbgmmeiaaaDoorQatLaw
import Derived.Test.YtnenbmbgmmeiaaaDoorRat10
import Derived.Test.YtnenbmbgmmeiaaaDoorRefRat4
import Derived.Test.YtnenbmbgmmeiaaaDoorLaw6C
namespace Go.Proofs.YtnenbmbgmmeiaaaDoor
open Go.RowKit En
variable {α : Type}
set_option linter.unusedVariables false

theorem bat_uat {l s : List UInt8} {i most : Int} {q : Nat} (h : bat l i most = (s, q, 0)) : (uat l i).2.2 = 0 := by
  unfold bat at h
  split at h
  · simp at h
  rename_i hi
  unfold uat
  rw [if_neg hi]
  cases hu : usc 9 (l.drop i.toNat) with
  | error e =>
    exfalso
    unfold bsc at h
    rw [hu] at h
    simp only [Prod.mk.injEq] at h
    exact absurd h.2.2 (err_ne hu)
  | ok r => rfl

set_option maxRecDepth 100000 in
set_option maxHeartbeats 6400000 in
theorem lawCanonical (v1 : Value) (l : List UInt8) (i : Int) (w : World) (h1 : IsBytes w v1 l) (hi0 : -9223372036854775808 ≤ i ∧ i ≤ 9223372036854775807) :
    Calls Tryd.prog 9 #[v1, .int .i64 i] w fun e w' => e = .returned (.bool true) ∧ Ext w w' := by
  have HV := Lib.hid h1
  obtain ⟨a1, c1, rfl⟩ := h1.shape
  have hl1 := h1.len
  unfold maxLen at hl1
  clear h1
  by_cases hbig : 300 < l.length
  · have HE := Lib.hid (example_any w)
    have h : (300 : Int) < l.length := by omega
    clear hbig
    go_enter Tryd.func9, Tryd.ntmps9
    go_wp2_with fail
    refine HE.out.mono ?_
    rintro e w5 ⟨rfl, hb⟩
    go_wp2_with fail
    go_ret
    exact ⟨rfl, hb⟩
  · have k1 : ¬ (300 : Int) < l.length := by omega
    clear hbig
    obtain ⟨⟨n, nx, er⟩, hu⟩ : ∃ r, uat l i = r := ⟨_, rfl⟩
    have hva : vat l i = (unzig n, nx, er) := by unfold vat; rw [hu]
    obtain ⟨⟨s, nx3, er3⟩, hba⟩ : ∃ r, bat l i l.length = r := ⟨_, rfl⟩
    obtain ⟨⟨⟨n1, a, b⟩, q, er4⟩, hqa⟩ : ∃ r, qat l i = r := ⟨_, rfl⟩
    have HBU : Hid (er3 = 0 → er = 0) := by
      intro h
      subst h
      have := bat_uat hba
      rw [hu] at this
      exact this
    have HUA := Lib.hid hu
    have HVA := Lib.hid hva
    have HBA := Lib.hid hba
    have HQA := Lib.hid hqa
    have HU := Lib.hid (uvarint_any (.slice a1 l.length c1) l i w HV.out)
    rw [hu] at HU
    clear hu hva hba hqa
    go_enter Tryd.func9, Tryd.ntmps9
    go_wp2_with fail
    refine HU.out.mono ?_
    rintro e w2 ⟨rfl, hb2⟩
    have HB2 := Lib.hid hb2
    have HVV := Lib.hid (varint_any (.slice a1 l.length c1) l i w2 (HV.out.below hb2))
    rw [HVA.out] at HVV
    clear hb2 HU
    by_cases he : er = 0
    · subst he
      obtain ⟨p, hi, hpq, hq, hn, hput⟩ := uat_canon HUA.out
      obtain ⟨p', hi', -, -, hbd, hput'⟩ := vat_canon HVA.out
      obtain rfl : p = p' := by omega
      have HC := Lib.hid (And.intro hput hput')
      subst hi
      clear hi' hput hput'
      have HP := Lib.hid (putUvarint_any n w2 hn)
      go_wp2_with fail
      refine HP.out.mono ?_
      rintro e w3 ⟨z, rfl, hz, hb3⟩
      have HB3 := Lib.hid (Ext.trans' HB2.out hb3)
      have hzr := ownsRow_row hz
      rw [HC.out.1] at hzr
      have HI := Lib.hid (isEncoding_any (.slice a1 l.length c1) z l p nx w3 (HV.out.below HB3.out) hpq hq hzr)
      clear hz hb3 HP hzr
      go_wp2_with fail
      refine HI.out.mono ?_
      rintro e w4 ⟨rfl, hb4⟩
      have HB4 := Lib.hid (Ext.trans' HB3.out hb4)
      have HVV := Lib.hid (varint_any (.slice a1 l.length c1) l p w4 (HV.out.below HB4.out))
      rw [HVA.out] at HVV
      clear hb4 HI
      go_wp2_with fail
      refine HVV.out.mono ?_
      rintro e w5 ⟨rfl, hb5⟩
      have HB5 := Lib.hid (Ext.trans' HB4.out hb5)
      have HP := Lib.hid (putVarint_any (unzig n) w5 hbd.1 hbd.2)
      clear hb5 HVV
      go_wp2_with fail
      refine HP.out.mono ?_
      rintro e w6 ⟨z, rfl, hz, hb6⟩
      have HB6 := Lib.hid (Ext.trans' HB5.out hb6)
      have hzr := ownsRow_row hz
      rw [HC.out.2] at hzr
      have HI := Lib.hid (isEncoding_any (.slice a1 l.length c1) z l p nx w6 (HV.out.below HB6.out) hpq hq hzr)
      clear hz hb6 HP hzr
      go_wp2_with fail
      refine HI.out.mono ?_
      rintro e w7 ⟨rfl, hb7⟩
      have HB7 := Lib.hid (Ext.trans' HB6.out hb7)
      have HBB := Lib.hid (bytesAt_any (.slice a1 l.length c1) l p l.length w7 (HV.out.below HB7.out) (by omega) (by omega))
      rw [HBA.out] at HBB
      clear hb7 HI HC
      go_wp2_with fail
      refine HBB.out.mono ?_
      rintro e w8 ⟨y, rfl, hy, hb8⟩
      have HB8 := Lib.hid (Ext.trans' HB7.out hb8)
      have HY := Lib.hid (ownsRow_row hy)
      obtain ⟨ya, yc, rfl⟩ := own_sh hy
      clear hy hb8 HBB hpq hq
      by_cases he3 : er3 = 0
      · subst he3
        obtain ⟨p3, hi3, hpq, hq, hs, hput⟩ := bat_canon HBA.out
        obtain rfl : p = p3 := by omega
        have HP := Lib.hid (putBytes_any _ s w8 HY.out (by omega))
        have HC := Lib.hid hput
        clear hput hi3
        go_wp2_with fail
        refine HP.out.mono ?_
        rintro e w6 ⟨z, rfl, hz, hb6⟩
        have HB6 := Lib.hid (Ext.trans' HB8.out hb6)
        have hzr := ownsRow_row hz
        rw [HC.out] at hzr
        have HI := Lib.hid (isEncoding_any (.slice a1 l.length c1) z l p nx3 w6 (HV.out.below HB6.out) hpq hq hzr)
        clear hz hb6 HP hzr
        go_wp2_with fail
        refine HI.out.mono ?_
        rintro e w7 ⟨rfl, hb7⟩
        have HWW := Lib.hid (Ext.trans' HB6.out hb7)
        clear hb7 HI HC hpq hq hs
        have HQ := Lib.hid (rational_any (.slice a1 l.length c1) l p w7 (HV.out.below HWW.out) (by omega))
        rw [HQA.out] at HQ
        go_wp2_with fail
        refine HQ.out.mono ?_
        rintro e w9 ⟨y, rfl, ⟨sa, sb, rfl, hsa, hsb, -, -⟩, hb9⟩
        have HX := Lib.hid (And.intro hsa hsb)
        obtain ⟨b1, d1, rfl⟩ := hsa.shape
        obtain ⟨b2, d2, rfl⟩ := hsb.shape
        have HB9 := Lib.hid (Ext.trans' HWW.out hb9)
        clear hsa hsb hb9 HQ HWW
        by_cases he4 : er4 = 0
        · subst he4
          obtain ⟨p4, hi, hpq, hq, hqok, hput⟩ := qat_canon HQA.out
          have hlens := qat_lens HQA.out
          have hcut := qat_cut HQA.out
          obtain rfl : p = p4 := by omega
          obtain ⟨q', rfl⟩ : ∃ q', q = q' + 1 := ⟨q - 1, by omega⟩
          rw [Nat.add_sub_cancel] at hcut
          simp only at hqok hput hlens
          have HC := Lib.hid (And.intro hqok (And.intro hput hcut))
          obtain ⟨bx, ox, cx, hxs, hbx, hlx, hmx, hcx⟩ := row_some HV.out rfl (by omega)
          simp only [Value.slice.injEq, true_and] at hxs
          obtain ⟨rfl, rfl⟩ := hxs
          have hq1 : ¬ ((q' : Int) + 1 < 1) := by omega
          have hq2 : q' ≤ c1 := by omega
          have hq3 : (q' : Int) ≤ 9223372036854775807 := by omega
          have HT : Hid (∀ w', Ext w w' → IsBytes w' (.slice (some ⟨bx, ox, none⟩) q' c1) (l.take q')) := fun w' hw' => (row_take (f := u8v) hbx (by omega) hmx (by omega) hcx).below hw'
          clear hcx hqok hput hcut
          go_wp2_with fail
          obtain ⟨g, hg⟩ : ∃ g, g = w9.heap.size := ⟨_, rfl⟩
          generalize hW : w9.alloc (.cells #[.bool n1, .slice b1 (Na.digs a).length d1, .bool false, .slice b2 (Na.digs b).length d2] 51) = W
          have hE9 : Ext w9 W := by rw [← hW]; exact below_alloc _ _
          have HXY : Hid (IsU32s W (.slice b1 (Na.digs a).length d1) (Na.digs a) ∧ IsU32s W (.slice b2 (Na.digs b).length d2) (Na.digs b)) := ⟨HX.out.1.below hE9, HX.out.2.below hE9⟩
          have HBW := Lib.hid (Ext.trans' HB9.out hE9)
          have HK : Hid (∀ w', Ext W w' → w'.cell? ⟨g, 0, none⟩ = some (.bool n1) ∧ w'.cell? ⟨g, 1, none⟩ = some (.slice b1 (Na.digs a).length d1) ∧ w'.cell? ⟨g, 2, none⟩ = some (.bool false) ∧ w'.cell? ⟨g, 3, none⟩ = some (.slice b2 (Na.digs b).length d2)) := by
            intro w' hw'
            have h4 : Ext (w9.alloc (.cells #[.bool n1, .slice b1 (Na.digs a).length d1, .bool false, .slice b2 (Na.digs b).length d2] 51)) w' := by rw [hW]; exact hw'
            obtain ⟨k0, k1, k2, k3, -, -⟩ := four_cells h4
            rw [hg]
            exact ⟨k0, k1, k2, k3⟩
          rw [← hg]
          clear hW hE9 hg
          have hP := putRational_any n1 false _ _ _ _ W HXY.out.1 HXY.out.2 (by omega) (by omega)
          rw [Na.val_digs, Na.val_digs, nrm_qok HC.out.1] at hP
          refine hP.mono ?_
          rintro e w10 ⟨z, rfl, hz, hb10⟩
          have hzr := ownsRow_row hz
          rw [HC.out.2.1] at hzr
          have HI := Lib.hid (isEncoding_any _ z l p (q' + 1) w10 (HV.out.below (Ext.trans' HBW.out hb10)) hpq hq hzr)
          have HB10 := Lib.hid hb10
          clear hP hz hzr hb10
          rw [show ((q' + 1 : Nat) : Int) = (q' : Int) + 1 by omega] at HI
          go_wp2_with fail
          refine HI.out.mono ?_
          rintro e w11 ⟨rfl, hb11⟩
          obtain ⟨k0, k1, k2, k3⟩ := HK.out w11 (Ext.trans' HB10.out hb11)
          have HB11 := Lib.hid (Ext.trans' HB10.out hb11)
          clear HI hb11
          go_wp2_with fail
          have hN := refIsNorm_any n1 _ _ a b w11 (HXY.out.1.below HB11.out) (HXY.out.2.below HB11.out) (by omega) (by omega)
          rw [show (!(n1 && decide ((Na.digs a).length = 0)) && (decide (0 < b) && (Nat.gcd a b == 1))) = true from HC.out.1] at hN
          refine hN.mono ?_
          rintro e w12 ⟨rfl, hb12⟩
          have HB12 := Lib.hid (Ext.trans' HBW.out (Ext.trans' HB11.out hb12))
          have HR := Lib.hid (rational_any _ (l.take q') p w12 (HT.out w12 HB12.out) (by simp; omega))
          rw [HC.out.2.2] at HR
          clear hN hb12 k0 k1 k2 k3
          go_wp2_with fail
          refine HR.out.mono ?_
          rintro e w13 ⟨y2, rfl, ⟨sa2, sb2, rfl, hsa2, hsb2, -, -⟩, hb13⟩
          obtain ⟨b3, d3, rfl⟩ := hsa2.shape
          obtain ⟨b4, d4, rfl⟩ := hsb2.shape
          have HB13 := Lib.hid (Ext.trans' HB12.out hb13)
          clear hsa2 hsb2 hb13 HR
          go_wp2_with fail
          refine (example_any _).mono ?_
          rintro e w14 ⟨rfl, hb14⟩
          have HB14 := Lib.hid (Ext.trans' (Ext.trans' HB13.out (below_alloc _ _)) hb14)
          clear hb14
          go_wp2_with fail
          go_ret
          exact ⟨rfl, HB14.out⟩
        · have hne4 : ((er4 : Int) != 0) = true := by simp; omega
          obtain ⟨rfl, -⟩ := qat_next HQA.out he4
          clear he4
          go_wp2_with fail
          refine (example_any _).mono ?_
          rintro e w14 ⟨rfl, hb14⟩
          have HB14 := Lib.hid (Ext.trans' (Ext.trans' HB9.out (below_alloc _ _)) hb14)
          clear hb14
          go_wp2_with fail
          go_ret
          exact ⟨rfl, HB14.out⟩
      · have hne3 : ((er3 : Int) == 0) = false := by simp; omega
        have HWW := HB8
        clear he3
        have HQ := Lib.hid (rational_any (.slice a1 l.length c1) l p w8 (HV.out.below HWW.out) (by omega))
        rw [HQA.out] at HQ
        go_wp2_with fail
        refine HQ.out.mono ?_
        rintro e w9 ⟨y, rfl, ⟨sa, sb, rfl, hsa, hsb, -, -⟩, hb9⟩
        have HX := Lib.hid (And.intro hsa hsb)
        obtain ⟨b1, d1, rfl⟩ := hsa.shape
        obtain ⟨b2, d2, rfl⟩ := hsb.shape
        have HB9 := Lib.hid (Ext.trans' HWW.out hb9)
        clear hsa hsb hb9 HQ HWW
        by_cases he4 : er4 = 0
        · subst he4
          obtain ⟨p4, hi, hpq, hq, hqok, hput⟩ := qat_canon HQA.out
          have hlens := qat_lens HQA.out
          have hcut := qat_cut HQA.out
          obtain rfl : p = p4 := by omega
          obtain ⟨q', rfl⟩ : ∃ q', q = q' + 1 := ⟨q - 1, by omega⟩
          rw [Nat.add_sub_cancel] at hcut
          simp only at hqok hput hlens
          have HC := Lib.hid (And.intro hqok (And.intro hput hcut))
          obtain ⟨bx, ox, cx, hxs, hbx, hlx, hmx, hcx⟩ := row_some HV.out rfl (by omega)
          simp only [Value.slice.injEq, true_and] at hxs
          obtain ⟨rfl, rfl⟩ := hxs
          have hq1 : ¬ ((q' : Int) + 1 < 1) := by omega
          have hq2 : q' ≤ c1 := by omega
          have hq3 : (q' : Int) ≤ 9223372036854775807 := by omega
          have HT : Hid (∀ w', Ext w w' → IsBytes w' (.slice (some ⟨bx, ox, none⟩) q' c1) (l.take q')) := fun w' hw' => (row_take (f := u8v) hbx (by omega) hmx (by omega) hcx).below hw'
          clear hcx hqok hput hcut
          go_wp2_with fail
          obtain ⟨g, hg⟩ : ∃ g, g = w9.heap.size := ⟨_, rfl⟩
          generalize hW : w9.alloc (.cells #[.bool n1, .slice b1 (Na.digs a).length d1, .bool false, .slice b2 (Na.digs b).length d2] 51) = W
          have hE9 : Ext w9 W := by rw [← hW]; exact below_alloc _ _
          have HXY : Hid (IsU32s W (.slice b1 (Na.digs a).length d1) (Na.digs a) ∧ IsU32s W (.slice b2 (Na.digs b).length d2) (Na.digs b)) := ⟨HX.out.1.below hE9, HX.out.2.below hE9⟩
          have HBW := Lib.hid (Ext.trans' HB9.out hE9)
          have HK : Hid (∀ w', Ext W w' → w'.cell? ⟨g, 0, none⟩ = some (.bool n1) ∧ w'.cell? ⟨g, 1, none⟩ = some (.slice b1 (Na.digs a).length d1) ∧ w'.cell? ⟨g, 2, none⟩ = some (.bool false) ∧ w'.cell? ⟨g, 3, none⟩ = some (.slice b2 (Na.digs b).length d2)) := by
            intro w' hw'
            have h4 : Ext (w9.alloc (.cells #[.bool n1, .slice b1 (Na.digs a).length d1, .bool false, .slice b2 (Na.digs b).length d2] 51)) w' := by rw [hW]; exact hw'
            obtain ⟨k0, k1, k2, k3, -, -⟩ := four_cells h4
            rw [hg]
            exact ⟨k0, k1, k2, k3⟩
          rw [← hg]
          clear hW hE9 hg
          have hP := putRational_any n1 false _ _ _ _ W HXY.out.1 HXY.out.2 (by omega) (by omega)
          rw [Na.val_digs, Na.val_digs, nrm_qok HC.out.1] at hP
          refine hP.mono ?_
          rintro e w10 ⟨z, rfl, hz, hb10⟩
          have hzr := ownsRow_row hz
          rw [HC.out.2.1] at hzr
          have HI := Lib.hid (isEncoding_any _ z l p (q' + 1) w10 (HV.out.below (Ext.trans' HBW.out hb10)) hpq hq hzr)
          have HB10 := Lib.hid hb10
          clear hP hz hzr hb10
          rw [show ((q' + 1 : Nat) : Int) = (q' : Int) + 1 by omega] at HI
          go_wp2_with fail
          refine HI.out.mono ?_
          rintro e w11 ⟨rfl, hb11⟩
          obtain ⟨k0, k1, k2, k3⟩ := HK.out w11 (Ext.trans' HB10.out hb11)
          have HB11 := Lib.hid (Ext.trans' HB10.out hb11)
          clear HI hb11
          go_wp2_with fail
          have hN := refIsNorm_any n1 _ _ a b w11 (HXY.out.1.below HB11.out) (HXY.out.2.below HB11.out) (by omega) (by omega)
          rw [show (!(n1 && decide ((Na.digs a).length = 0)) && (decide (0 < b) && (Nat.gcd a b == 1))) = true from HC.out.1] at hN
          refine hN.mono ?_
          rintro e w12 ⟨rfl, hb12⟩
          have HB12 := Lib.hid (Ext.trans' HBW.out (Ext.trans' HB11.out hb12))
          have HR := Lib.hid (rational_any _ (l.take q') p w12 (HT.out w12 HB12.out) (by simp; omega))
          rw [HC.out.2.2] at HR
          clear hN hb12 k0 k1 k2 k3
          go_wp2_with fail
          refine HR.out.mono ?_
          rintro e w13 ⟨y2, rfl, ⟨sa2, sb2, rfl, hsa2, hsb2, -, -⟩, hb13⟩
          obtain ⟨b3, d3, rfl⟩ := hsa2.shape
          obtain ⟨b4, d4, rfl⟩ := hsb2.shape
          have HB13 := Lib.hid (Ext.trans' HB12.out hb13)
          clear hsa2 hsb2 hb13 HR
          go_wp2_with fail
          refine (example_any _).mono ?_
          rintro e w14 ⟨rfl, hb14⟩
          have HB14 := Lib.hid (Ext.trans' (Ext.trans' HB13.out (below_alloc _ _)) hb14)
          clear hb14
          go_wp2_with fail
          go_ret
          exact ⟨rfl, HB14.out⟩
        · have hne4 : ((er4 : Int) != 0) = true := by simp; omega
          obtain ⟨rfl, -⟩ := qat_next HQA.out he4
          clear he4
          go_wp2_with fail
          refine (example_any _).mono ?_
          rintro e w14 ⟨rfl, hb14⟩
          have HB14 := Lib.hid (Ext.trans' (Ext.trans' HB9.out (below_alloc _ _)) hb14)
          clear hb14
          go_wp2_with fail
          go_ret
          exact ⟨rfl, HB14.out⟩
    · have hne : ((er : Int) == 0) = false := by simp; omega
      have hne3 : ((er3 : Int) == 0) = false := by
        have h3 : er3 ≠ 0 := fun h => he (HBU.out h)
        simp; omega
      clear he
      go_wp2_with fail
      refine HVV.out.mono ?_
      rintro e w5 ⟨rfl, hb5⟩
      have HB5 := Lib.hid (Ext.trans' HB2.out hb5)
      have HBB := Lib.hid (bytesAt_any (.slice a1 l.length c1) l i l.length w5 (HV.out.below HB5.out) (by omega) (by omega))
      rw [HBA.out] at HBB
      clear hb5 HVV
      go_wp2_with fail
      refine HBB.out.mono ?_
      rintro e w8 ⟨y, rfl, hy, hb8⟩
      have HWW := Lib.hid (Ext.trans' HB5.out hb8)
      obtain ⟨ya, yc, rfl⟩ := own_sh hy
      clear hy hb8 HBB
      have HQ := Lib.hid (rational_any (.slice a1 l.length c1) l i w8 (HV.out.below HWW.out) (by omega))
      rw [HQA.out] at HQ
      go_wp2_with fail
      refine HQ.out.mono ?_
      rintro e w9 ⟨y, rfl, ⟨sa, sb, rfl, hsa, hsb, -, -⟩, hb9⟩
      have HX := Lib.hid (And.intro hsa hsb)
      obtain ⟨b1, d1, rfl⟩ := hsa.shape
      obtain ⟨b2, d2, rfl⟩ := hsb.shape
      have HB9 := Lib.hid (Ext.trans' HWW.out hb9)
      clear hsa hsb hb9 HQ HWW
      by_cases he4 : er4 = 0
      · subst he4
        obtain ⟨p, hi, hpq, hq, hqok, hput⟩ := qat_canon HQA.out
        have hlens := qat_lens HQA.out
        have hcut := qat_cut HQA.out
        subst hi
        obtain ⟨q', rfl⟩ : ∃ q', q = q' + 1 := ⟨q - 1, by omega⟩
        rw [Nat.add_sub_cancel] at hcut
        simp only at hqok hput hlens
        have HC := Lib.hid (And.intro hqok (And.intro hput hcut))
        obtain ⟨bx, ox, cx, hxs, hbx, hlx, hmx, hcx⟩ := row_some HV.out rfl (by omega)
        simp only [Value.slice.injEq, true_and] at hxs
        obtain ⟨rfl, rfl⟩ := hxs
        have hq1 : ¬ ((q' : Int) + 1 < 1) := by omega
        have hq2 : q' ≤ c1 := by omega
        have hq3 : (q' : Int) ≤ 9223372036854775807 := by omega
        have HT : Hid (∀ w', Ext w w' → IsBytes w' (.slice (some ⟨bx, ox, none⟩) q' c1) (l.take q')) := fun w' hw' => (row_take (f := u8v) hbx (by omega) hmx (by omega) hcx).below hw'
        clear hcx hqok hput hcut
        go_wp2_with fail
        obtain ⟨g, hg⟩ : ∃ g, g = w9.heap.size := ⟨_, rfl⟩
        generalize hW : w9.alloc (.cells #[.bool n1, .slice b1 (Na.digs a).length d1, .bool false, .slice b2 (Na.digs b).length d2] 51) = W
        have hE9 : Ext w9 W := by rw [← hW]; exact below_alloc _ _
        have HXY : Hid (IsU32s W (.slice b1 (Na.digs a).length d1) (Na.digs a) ∧ IsU32s W (.slice b2 (Na.digs b).length d2) (Na.digs b)) := ⟨HX.out.1.below hE9, HX.out.2.below hE9⟩
        have HBW := Lib.hid (Ext.trans' HB9.out hE9)
        have HK : Hid (∀ w', Ext W w' → w'.cell? ⟨g, 0, none⟩ = some (.bool n1) ∧ w'.cell? ⟨g, 1, none⟩ = some (.slice b1 (Na.digs a).length d1) ∧ w'.cell? ⟨g, 2, none⟩ = some (.bool false) ∧ w'.cell? ⟨g, 3, none⟩ = some (.slice b2 (Na.digs b).length d2)) := by
          intro w' hw'
          have h4 : Ext (w9.alloc (.cells #[.bool n1, .slice b1 (Na.digs a).length d1, .bool false, .slice b2 (Na.digs b).length d2] 51)) w' := by rw [hW]; exact hw'
          obtain ⟨k0, k1, k2, k3, -, -⟩ := four_cells h4
          rw [hg]
          exact ⟨k0, k1, k2, k3⟩
        rw [← hg]
        clear hW hE9 hg
        have hP := putRational_any n1 false _ _ _ _ W HXY.out.1 HXY.out.2 (by omega) (by omega)
        rw [Na.val_digs, Na.val_digs, nrm_qok HC.out.1] at hP
        refine hP.mono ?_
        rintro e w10 ⟨z, rfl, hz, hb10⟩
        have hzr := ownsRow_row hz
        rw [HC.out.2.1] at hzr
        have HI := Lib.hid (isEncoding_any _ z l p (q' + 1) w10 (HV.out.below (Ext.trans' HBW.out hb10)) hpq hq hzr)
        have HB10 := Lib.hid hb10
        clear hP hz hzr hb10
        rw [show ((q' + 1 : Nat) : Int) = (q' : Int) + 1 by omega] at HI
        go_wp2_with fail
        refine HI.out.mono ?_
        rintro e w11 ⟨rfl, hb11⟩
        obtain ⟨k0, k1, k2, k3⟩ := HK.out w11 (Ext.trans' HB10.out hb11)
        have HB11 := Lib.hid (Ext.trans' HB10.out hb11)
        clear HI hb11
        go_wp2_with fail
        have hN := refIsNorm_any n1 _ _ a b w11 (HXY.out.1.below HB11.out) (HXY.out.2.below HB11.out) (by omega) (by omega)
        rw [show (!(n1 && decide ((Na.digs a).length = 0)) && (decide (0 < b) && (Nat.gcd a b == 1))) = true from HC.out.1] at hN
        refine hN.mono ?_
        rintro e w12 ⟨rfl, hb12⟩
        have HB12 := Lib.hid (Ext.trans' HBW.out (Ext.trans' HB11.out hb12))
        have HR := Lib.hid (rational_any _ (l.take q') p w12 (HT.out w12 HB12.out) (by simp; omega))
        rw [HC.out.2.2] at HR
        clear hN hb12 k0 k1 k2 k3
        go_wp2_with fail
        refine HR.out.mono ?_
        rintro e w13 ⟨y2, rfl, ⟨sa2, sb2, rfl, hsa2, hsb2, -, -⟩, hb13⟩
        obtain ⟨b3, d3, rfl⟩ := hsa2.shape
        obtain ⟨b4, d4, rfl⟩ := hsb2.shape
        have HB13 := Lib.hid (Ext.trans' HB12.out hb13)
        clear hsa2 hsb2 hb13 HR
        go_wp2_with fail
        refine (example_any _).mono ?_
        rintro e w14 ⟨rfl, hb14⟩
        have HB14 := Lib.hid (Ext.trans' (Ext.trans' HB13.out (below_alloc _ _)) hb14)
        clear hb14
        go_wp2_with fail
        go_ret
        exact ⟨rfl, HB14.out⟩
      · have hne4 : ((er4 : Int) != 0) = true := by simp; omega
        obtain ⟨rfl, -⟩ := qat_next HQA.out he4
        clear he4
        go_wp2_with fail
        refine (example_any _).mono ?_
        rintro e w14 ⟨rfl, hb14⟩
        have HB14 := Lib.hid (Ext.trans' (Ext.trans' HB9.out (below_alloc _ _)) hb14)
        clear hb14
        go_wp2_with fail
        go_ret
        exact ⟨rfl, HB14.out⟩
end Go.Proofs.YtnenbmbgmmeiaaaDoor
