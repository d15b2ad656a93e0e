/- The law on canonical sequences, walked. -/
import Derived.Test.YtnenbmbgmmeiaaaDoorEncW5
import Derived.Test.YtnenbmbgmmeiaaaDoorEncSp
import Derived.Test.YtnenbmbgmmeiaaaDoorLaw6C
namespace Go.Proofs.YtnenbmbgmmeiaaaDoor
open Go.RowKit En
variable {α : Type}
set_option linter.unusedVariables false

set_option maxRecDepth 100000 in
set_option maxHeartbeats 1600000 in
theorem lawCanon (v1 : Value) (l : List UInt8) (i : Int) (w : World) (h1 : IsBytes w v1 l) (hi0 : -9223372036854775808 ≤ i ∧ i ≤ 9223372036854775807) :
    Calls Tryd.prog 12 #[v1, .int .i64 i] w fun e w' => e = .returned (.bool true) ∧ Ext w w' := by
  have HV := Lib.hid h1
  obtain ⟨a1, c1, rfl⟩ := h1.shape
  have hl1 := h1.len
  unfold maxLen at hl1
  clear h1
  by_cases hbig : 300 < l.length
  · have HE := Lib.hid (example_any w)
    have h : (300 : Int) < l.length := by omega
    clear hbig
    go_enter Tryd.func12, Tryd.ntmps12
    go_wp2_with fail
    refine HE.out.mono ?_
    rintro e w5 ⟨rfl, hb⟩
    go_wp2_with fail
    go_ret
    exact ⟨rfl, hb⟩
  · have k1 : ¬ (300 : Int) < l.length := by omega
    clear hbig
    obtain ⟨⟨vs, nx, er⟩, hiat⟩ : ∃ r, iat l i 1000 = r := ⟨_, rfl⟩
    obtain ⟨⟨s, nx2, er2⟩, hrat⟩ : ∃ r, rat l i 1000 = r := ⟨_, rfl⟩
    have HA := Lib.hid hiat
    have HR := Lib.hid hrat
    have HB := Lib.hid (intsAt_any (.slice a1 l.length c1) l i 1000 w HV.out (by omega) (by omega))
    rw [hiat] at HB
    clear hiat hrat
    have part2 : ∀ (w3 : World), Ext w w3 → Calls Tryd.prog 41 #[.slice a1 l.length c1, .int .i64 i, .int .i64 1000] w3 (BytesPost w3 (s, nx2, er2)) := fun w3 h3 => by
      rw [← HR.out]; exact runsAt_any _ l i 1000 w3 (HV.out.below h3) (by omega) (by omega)
    have HP2 := Lib.hid part2
    clear part2
    go_enter Tryd.func12, Tryd.ntmps12
    go_wp2_with fail
    refine HB.out.mono ?_
    rintro e w2 ⟨t, rfl, ht, hb2⟩
    have HT := Lib.hid ht
    have HB2 := Lib.hid hb2
    clear ht hb2 HB
    by_cases he : er = 0
    · subst he
      obtain ⟨p, hi, hpq, hq, hput⟩ := iat_canon HA.out
      subst hi
      have HPI := Lib.hid (putInts_any t vs w2 ⟨ownsRow_row HT.out, iat_bd HA.out⟩ (by have := iat_len HA.out; omega))
      have HC := Lib.hid (And.intro hpq (And.intro hq hput))
      clear hpq hq hput
      go_wp2_with fail
      refine HPI.out.mono ?_
      rintro e w3 ⟨z, rfl, hz, hb3⟩
      have HB3 := Lib.hid (Ext.trans' HB2.out hb3)
      have hzr := ownsRow_row hz
      rw [HC.out.2.2] at hzr
      have HI := Lib.hid (isEncoding_any (.slice a1 l.length c1) z l p nx w3 (HV.out.below HB3.out) HC.out.1 HC.out.2.1 hzr)
      clear hz hb3 HPI hzr
      go_wp2_with fail
      refine HI.out.mono ?_
      rintro e w4 ⟨rfl, hb4⟩
      have HWW := Lib.hid (Ext.trans' HB3.out hb4)
      clear hb4 HI
      have HQ := Lib.hid (HP2.out w4 HWW.out)
      clear HP2
      go_wp2_with fail
      refine HQ.out.mono ?_
      rintro e w5 ⟨y, rfl, hy, hb5⟩
      have HB5 := Lib.hid (Ext.trans' HWW.out hb5)
      have HY := Lib.hid (ownsRow_row hy)
      obtain ⟨ya, yc, rfl⟩ := own_sh hy
      clear hy hb5 HQ
      by_cases he2 : er2 = 0
      · subst he2
        obtain ⟨p2, hi2, hpq2, hq2, hput2, hs2⟩ := rat_canon HR.out
        obtain rfl : p = p2 := by omega
        clear hi2
        have HPR := Lib.hid (putRuns_any _ s w5 HY.out (by omega))
        have HC2 := Lib.hid (And.intro hpq2 (And.intro hq2 hput2))
        have hs3 : ((s.length : Nat) : Int) ≤ 1000 := hs2
        clear hpq2 hq2 hput2 hs2
        go_wp2_with fail
        refine HPR.out.mono ?_
        rintro e w6 ⟨z, rfl, hz, hb6⟩
        have HB6 := Lib.hid (Ext.trans' HB5.out hb6)
        have hzr := ownsRow_row hz
        rw [HC2.out.2.2] at hzr
        have HI := Lib.hid (isEncoding_any (.slice a1 l.length c1) z l p nx2 w6 (HV.out.below HB6.out) HC2.out.1 HC2.out.2.1 hzr)
        clear hz hb6 HPR hzr
        go_wp2_with fail
        refine HI.out.mono ?_
        rintro e w7 ⟨rfl, hb7⟩
        have HB7 := Lib.hid (Ext.trans' HB6.out hb7)
        have HE := Lib.hid (example_any w7)
        clear hb7 HI
        go_wp2_with fail
        refine HE.out.mono ?_
        rintro e w8 ⟨rfl, hb8⟩
        have HB8 := Lib.hid (Ext.trans' HB7.out hb8)
        clear hb8 HE
        go_wp2_with fail
        go_ret
        exact ⟨rfl, HB8.out⟩
      · have hne2 : ((er2 : Int) != 0) = true := by simp; omega
        have HE := Lib.hid (example_any w5)
        clear he2
        go_wp2_with fail
        refine HE.out.mono ?_
        rintro e w8 ⟨rfl, hb8⟩
        have HB8 := Lib.hid (Ext.trans' HB5.out hb8)
        clear hb8 HE
        go_wp2_with fail
        go_ret
        exact ⟨rfl, HB8.out⟩
    · have hne : ((er : Int) == 0) = false := by simp; omega
      have HWW := HB2
      clear he
      have HQ := Lib.hid (HP2.out w2 HWW.out)
      clear HP2
      go_wp2_with fail
      refine HQ.out.mono ?_
      rintro e w5 ⟨y, rfl, hy, hb5⟩
      have HB5 := Lib.hid (Ext.trans' HWW.out hb5)
      have HY := Lib.hid (ownsRow_row hy)
      obtain ⟨ya, yc, rfl⟩ := own_sh hy
      clear hy hb5 HQ
      by_cases he2 : er2 = 0
      · subst he2
        obtain ⟨p2, hi2, hpq2, hq2, hput2, hs2⟩ := rat_canon HR.out
        subst hi2
        have HPR := Lib.hid (putRuns_any _ s w5 HY.out (by omega))
        have HC2 := Lib.hid (And.intro hpq2 (And.intro hq2 hput2))
        have hs3 : ((s.length : Nat) : Int) ≤ 1000 := hs2
        clear hpq2 hq2 hput2 hs2
        go_wp2_with fail
        refine HPR.out.mono ?_
        rintro e w6 ⟨z, rfl, hz, hb6⟩
        have HB6 := Lib.hid (Ext.trans' HB5.out hb6)
        have hzr := ownsRow_row hz
        rw [HC2.out.2.2] at hzr
        have HI := Lib.hid (isEncoding_any (.slice a1 l.length c1) z l p2 nx2 w6 (HV.out.below HB6.out) HC2.out.1 HC2.out.2.1 hzr)
        clear hz hb6 HPR hzr
        go_wp2_with fail
        refine HI.out.mono ?_
        rintro e w7 ⟨rfl, hb7⟩
        have HB7 := Lib.hid (Ext.trans' HB6.out hb7)
        have HE := Lib.hid (example_any w7)
        clear hb7 HI
        go_wp2_with fail
        refine HE.out.mono ?_
        rintro e w8 ⟨rfl, hb8⟩
        have HB8 := Lib.hid (Ext.trans' HB7.out hb8)
        clear hb8 HE
        go_wp2_with fail
        go_ret
        exact ⟨rfl, HB8.out⟩
      · have hne2 : ((er2 : Int) != 0) = true := by simp; omega
        have HE := Lib.hid (example_any w5)
        clear he2
        go_wp2_with fail
        refine HE.out.mono ?_
        rintro e w8 ⟨rfl, hb8⟩
        have HB8 := Lib.hid (Ext.trans' HB5.out hb8)
        clear hb8 HE
        go_wp2_with fail
        go_ret
        exact ⟨rfl, HB8.out⟩
end Go.Proofs.YtnenbmbgmmeiaaaDoor
