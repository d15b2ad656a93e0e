/- Walks of packages integer and rational: New, Sign. -/
import Derived.Test.YtnenbmbgmmeiaaaDoorNatWalk9
import Derived.Test.YtnenbmbgmmeiaaaDoorRel
import Derived.Test.YtnenbmbgmmeiaaaDoorCh
import Derived.Outline
namespace Go.Proofs.YtnenbmbgmmeiaaaDoor
open Go.RowKit
variable {α : Type}

/-- An integer whose digits are the number n's. -/
def IsIntN (base : Nat) (w : World) (v : Value) (neg : Bool) (n : Nat) : Prop := ∃ s, v = .agg #[.bool neg, s] ∧ IsU32s w s (Na.digs n) ∧ From base s
theorem IsIntN.ext {base : Nat} {w w' : World} {v : Value} {neg : Bool} {n : Nat} (h : IsIntN base w v neg n) (hb : Ext w w') : IsIntN base w' v neg n := by
  obtain ⟨s, hv, hs, hf⟩ := h; exact ⟨s, hv, hs.below hb, hf⟩
theorem IsIntN.mono {base base' : Nat} {w : World} {v : Value} {neg : Bool} {n : Nat} (h : IsIntN base w v neg n) (hb : base' ≤ base) : IsIntN base' w v neg n := by
  obtain ⟨s, hv, hs, hf⟩ := h; exact ⟨s, hv, hs, hf.mono hb⟩

set_option maxRecDepth 100000 in
theorem intNew_any (neg : Bool) (v : Value) (l : List UInt32) (w : World) (hv : IsU32s w v l) (hlen : l.length ≤ 1000000000) :
    Calls Tryd.prog 74 #[.bool neg, v] w fun e w' => ∃ x, e = .returned x ∧ IsIntN w.heap.size w' x (neg && decide (0 < Na.val l)) (Na.val l) ∧ Ext w w' := by
  have hb1 := below_alloc w (.cells #[.bool false, .slice none 0 0] 49)
  have HC := Lib.hid (normalize_any v l _ (hv.below hb1) hlen)
  have hpos : Hid (decide ((0 : Int) < ((Na.digs (Na.val l)).length : Int)) = decide (0 < Na.val l)) := by
    show _ = _
    rw [decide_eq_decide]
    constructor
    · intro h
      rcases Nat.eq_zero_or_pos (Na.val l) with h0 | h0
      · rw [h0, Na.digs_zero] at h; simp at h
      · exact h0
    · intro h
      have : (Na.digs (Na.val l)).length ≠ 0 := fun h' => by
        have := Na.digs_eq_nil.1 (List.eq_nil_of_length_eq_zero h'); omega
      omega
  rcases Bool.eq_false_or_eq_true neg with rfl | rfl
  all_goals
    go_enter Tryd.func74, Tryd.ntmps74
    go_wp2_with fail
    refine HC.out.mono ?_
    rintro e w1 ⟨v', rfl, ho, hb2⟩
    have hrow := ownsRow_row ho
    have hoff := from_own ho
    obtain ⟨hc, hf, hz⟩ := newBlock hb2
    have hb0 := Ext.trans' hb1 hb2
    have HB := Lib.hid hb0
    have HR := Lib.hid hrow
    have HO := Lib.hid hoff
    obtain ⟨a, cap, rfl⟩ := HR.out.shape
    clear HC ho hrow hb2 hb1 hb0 hoff
    go_wp2_with fail
  · refine bodyPost_ret (v := .agg #[.bool (decide ((0 : Int) < ((Na.digs (Na.val l)).length : Int))), .slice a (Na.digs (Na.val l)).length cap]) (by simp [results, Tryd.results74, go_sem, hc]) rfl ⟨_, rfl, ⟨_, by rw [Bool.true_and, hpos.out], ?_⟩, ?_⟩
    · exact ⟨HR.out.ch (((Ch.refl _ _).setCell _ _).setCell _ _) (fun _ => HO.out.off (by simp)), HO.out.mono (by simp)⟩
    · exact (HB.out.setCell (p := ⟨w.heap.size, 0, none⟩) (Nat.le_refl _) _).setCell (p := ⟨w.heap.size, 1, none⟩) (Nat.le_refl _) _
  · refine bodyPost_ret (v := .agg #[.bool false, .slice a (Na.digs (Na.val l)).length cap]) (by simp [results, Tryd.results74, go_sem, hc]) rfl ⟨_, rfl, ⟨_, by rw [Bool.false_and], ?_⟩, ?_⟩
    · exact ⟨HR.out.ch (((Ch.refl _ _).setCell _ _).setCell _ _) (fun _ => HO.out.off (by simp)), HO.out.mono (by simp)⟩
    · exact (HB.out.setCell (p := ⟨w.heap.size, 0, none⟩) (Nat.le_refl _) _).setCell (p := ⟨w.heap.size, 1, none⟩) (Nat.le_refl _) _
end Go.Proofs.YtnenbmbgmmeiaaaDoor
