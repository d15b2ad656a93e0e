/- Walks of packages integer and rational: Sign, lowest. -/
import Derived.Test.YtnenbmbgmmeiaaaDoorRat1
namespace Go.Proofs.YtnenbmbgmmeiaaaDoor
open Go.RowKit
variable {α : Type}

def sgn (neg : Bool) (n : Nat) : Int := if n = 0 then 0 else if neg then -1 else 1
set_option maxRecDepth 100000 in
theorem intSign_any (neg : Bool) (s : Value) (l : List UInt32) (w : World) (hv : IsU32s w s l) (hlen : l.length ≤ 100000000) :
    Calls Tryd.prog 75 #[.agg #[.bool neg, s]] w fun e w' => e = .returned (.int .i64 (sgn neg (Na.val l))) ∧ Ext w w' := by
  have hb1 := below_alloc w (.cells #[.bool neg, s] 49)
  have HC := Lib.hid (bitLen_any s l _ (hv.below hb1) (by omega))
  have HB := Lib.hid hb1
  obtain ⟨a, cap, rfl⟩ := hv.shape
  clear hv hb1
  by_cases h0 : Na.val l = 0
  · have hbl : ((bl (Na.val l) : Int) == 0) = true := by rw [h0]; rfl
    have hs : Hid (sgn neg (Na.val l) = 0) := by show _ = _; unfold sgn; rw [if_pos h0]
    clear h0
    go_enter Tryd.func75, Tryd.ntmps75
    go_wp2_with fail
    refine HC.out.mono ?_
    rintro e w' ⟨rfl, rfl⟩
    go_wp2_with fail
    go_ret
    exact ⟨by rw [hs.out]; rfl, HB.out⟩
  · have hbl : ((bl (Na.val l) : Int) == 0) = false := by
      rw [beq_eq_false_iff_ne]
      intro h
      have h1 : bl (Na.val l) = 0 := by omega
      unfold bl at h1; rw [if_neg h0] at h1; omega
    have hs0 : Hid (∀ neg, sgn neg (Na.val l) = if neg then -1 else 1) := fun neg => if_neg h0
    clear h0
    rcases Bool.eq_false_or_eq_true neg with rfl | rfl
    all_goals
      go_enter Tryd.func75, Tryd.ntmps75
      go_wp2_with fail
      refine HC.out.mono ?_
      rintro e w' ⟨rfl, rfl⟩
      go_wp2_with fail
      go_ret
      exact ⟨by rw [hs0.out]; rfl, HB.out⟩

set_option maxRecDepth 100000 in
theorem lowest1_any (neg : Bool) (s gv : Value) (l m : List UInt32) (gb : Nat) (w : World) (hv : IsU32s w s l) (hlen : l.length ≤ 100000000) (hg : w.cell? ⟨gb, 0, none⟩ = some gv) (hgv : IsU32s w gv m) (hm : 0 < Na.val m) (hlen2 : m.length ≤ 100000000) :
    Calls Tryd.prog 109 #[.agg #[.bool neg, s], .pointer (some ⟨gb, 0, none⟩)] w fun e w' => ∃ q, e = .returned q ∧ IsU32s w' q (Na.digs (Na.val l / Na.val m)) ∧ Ext w w' := by
  have hb1 := below_alloc w (.cells #[.bool neg, s] 49)
  have HC := Lib.hid (divMod_any s gv l m _ (hv.below hb1) (hgv.below hb1) hm hlen hlen2)
  have hlt := World.block_lt_of_cell? w _ hg
  simp only at hlt
  have HB := Lib.hid hb1
  obtain ⟨a, cap, rfl⟩ := hv.shape
  obtain ⟨a2, cap2, rfl⟩ := hgv.shape
  clear hv hb1 hgv
  go_enter Tryd.func109, Tryd.ntmps109
  go_wp2_with fail
  refine HC.out.mono ?_
  rintro e w' ⟨q, r, rfl, hq, hr, hb⟩
  have HQ := Lib.hid hq
  clear hq hr
  go_wp2_with fail
  go_ret
  exact ⟨_, rfl, HQ.out, Ext.trans' HB.out hb⟩
end Go.Proofs.YtnenbmbgmmeiaaaDoor
