/- The laws on Uvarint and Varint, walked. -/
import Derived.Test.YtnenbmbgmmeiaaaDoorEncWalk14
namespace Go.Proofs.YtnenbmbgmmeiaaaDoor
set_option linter.unusedVariables false
open Go.RowKit En
variable {α : Type}

set_option maxRecDepth 100000 in
set_option maxHeartbeats 800000 in
theorem lawUvarint (n : UInt64) (v : Value) (l : List UInt8) (i : Int) (w : World) (hv : IsBytes w v l) (hi : -9223372036854775808 ≤ i ∧ i ≤ 9223372036854775807) :
    Calls Tryd.prog 3 #[u64v n, v, .int .i64 i] w fun e w' => e = .returned (.bool true) ∧ Ext w w' := by
  have HC := Lib.hid (uvarint_any v l i w hv)
  have HV := Lib.hid hv
  obtain ⟨a, cap, rfl⟩ := hv.shape
  clear hv
  generalize hr : uat l i = r at HC
  have HR := Lib.hid hr
  clear hr
  obtain ⟨x, nx, er⟩ := r
  go_enter Tryd.func3, Tryd.ntmps3
  go_wp2_with fail
  refine HC.out.mono ?_
  rintro e w1 ⟨rfl, hb1⟩
  have hc := refUvarint_any (.slice a l.length cap) l i w1 (HV.out.below hb1)
  rw [HR.out] at hc
  have HC2 := Lib.hid hc
  have HB1 := Lib.hid hb1
  clear hc HC hb1
  go_wp2_with fail
  refine HC2.out.mono ?_
  rintro e w1 ⟨rfl, rfl⟩
  have HP := Lib.hid (putUvarint_any n.toNat w1 n.toNat_lt)
  clear HC2
  go_wp2_with fail
  refine HP.out.mono ?_
  rintro e w2 ⟨p, rfl, ho, hb⟩
  have HO := Lib.hid (ownsRow_row ho)
  have HB2 := Lib.hid (Ext.trans' HB1.out hb)
  have HP2 := Lib.hid (refPutUvarint_any n.toNat w2 n.toNat_lt)
  clear HP ho hb
  go_wp2_with fail
  refine HP2.out.mono ?_
  rintro e w3 ⟨q, rfl, ho, hb⟩
  have HS := Lib.hid (same06 p q _ _ w3 (HO.out.below hb) (ownsRow_row ho))
  have HB3 := Lib.hid (Ext.trans' HB2.out hb)
  rw [beq_self_eq_true] at HS
  clear HP2 ho hb
  go_wp2_with fail
  refine HS.out.mono ?_
  rintro e w4 ⟨rfl, hb⟩
  have HB4 := Lib.hid (Ext.trans' HB3.out hb)
  have HE := Lib.hid (example_any w4)
  clear HS hb
  go_wp2_with fail
  refine HE.out.mono ?_
  rintro e w5 ⟨rfl, hb⟩
  have HB5 := Lib.hid (Ext.trans' HB4.out hb)
  clear HE hb
  go_wp2_with fail
  go_ret
  exact ⟨rfl, HB5.out⟩
set_option maxRecDepth 100000 in
set_option maxHeartbeats 800000 in
theorem lawVarint (n : Int) (v : Value) (l : List UInt8) (i : Int) (w : World) (hn : -9223372036854775808 ≤ n ∧ n ≤ 9223372036854775807) (hv : IsBytes w v l) (hi : -9223372036854775808 ≤ i ∧ i ≤ 9223372036854775807) :
    Calls Tryd.prog 4 #[.int .i64 n, v, .int .i64 i] w fun e w' => e = .returned (.bool true) ∧ Ext w w' := by
  have HC := Lib.hid (varint_any v l i w hv)
  have HV := Lib.hid hv
  obtain ⟨a, cap, rfl⟩ := hv.shape
  clear hv
  generalize hr : vat l i = r at HC
  have HR := Lib.hid hr
  clear hr
  obtain ⟨x, nx, er⟩ := r
  go_enter Tryd.func4, Tryd.ntmps4
  go_wp2_with fail
  refine HC.out.mono ?_
  rintro e w1 ⟨rfl, hb1⟩
  have hc := refVarint_any (.slice a l.length cap) l i w1 (HV.out.below hb1)
  rw [HR.out] at hc
  have HC2 := Lib.hid hc
  have HB1 := Lib.hid hb1
  clear hc HC hb1
  go_wp2_with fail
  refine HC2.out.mono ?_
  rintro e w1 ⟨rfl, rfl⟩
  have HP := Lib.hid (putVarint_any n w1 hn.1 hn.2)
  clear HC2
  go_wp2_with fail
  refine HP.out.mono ?_
  rintro e w2 ⟨p, rfl, ho, hb⟩
  have HO := Lib.hid (ownsRow_row ho)
  have HB2 := Lib.hid (Ext.trans' HB1.out hb)
  have HP2 := Lib.hid (refPutVarint_any n w2 hn.1 hn.2)
  clear HP ho hb
  go_wp2_with fail
  refine HP2.out.mono ?_
  rintro e w3 ⟨q, rfl, ho, hb⟩
  have HS := Lib.hid (same06 p q _ _ w3 (HO.out.below hb) (ownsRow_row ho))
  have HB3 := Lib.hid (Ext.trans' HB2.out hb)
  rw [beq_self_eq_true] at HS
  clear HP2 ho hb
  go_wp2_with fail
  refine HS.out.mono ?_
  rintro e w4 ⟨rfl, hb⟩
  have HB4 := Lib.hid (Ext.trans' HB3.out hb)
  have HE := Lib.hid (example_any w4)
  clear HS hb
  go_wp2_with fail
  refine HE.out.mono ?_
  rintro e w5 ⟨rfl, hb⟩
  have HB5 := Lib.hid (Ext.trans' HB4.out hb)
  clear HE hb
  go_wp2_with fail
  go_ret
  exact ⟨rfl, HB5.out⟩
end Go.Proofs.YtnenbmbgmmeiaaaDoor
