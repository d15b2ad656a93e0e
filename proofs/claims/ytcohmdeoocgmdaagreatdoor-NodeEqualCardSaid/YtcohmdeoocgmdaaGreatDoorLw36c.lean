/- The law NodeEqual. -/
import Derived.Test.YtcohmdeoocgmdaaGreatDoorKey
import Derived.Test.YtcohmdeoocgmdaaGreatDoorOpn36
import Derived.Test.YtcohmdeoocgmdaaGreatDoorLaw36
namespace Go.Proofs.YtcohmdeoocgmdaaGreatDoor
open Go.RowKit
variable {α : Type} {K : Nat}
set_option linter.unusedVariables false
theorem decide_key (a b : NodeD) : decide (b.key = a.key) = decide (a.key = b.key) := by rw [Bool.eq_iff_iff]; simp only [decide_eq_true_eq]; exact eq_comm
set_option maxRecDepth 100000 in
set_option maxHeartbeats 3200000 in
theorem nodeEqualLaw_any {w : World} {a b : NodeD} (h : a.ok w) (h' : b.ok w) (hg : GlobOk w) :
    Calls Tryz.prog 7 #[a.v, b.v] w fun e w' => e = .returned (.bool true) ∧ Ext w w' := by
  skip
  refine Sx.enter Tryz.func7 Tryz.ntmps7 (fun ac S => ?_)
  refine Sx.seqP (fun _ κ1 => ?_)
  refine Sx.newp S 2 a.cells (fun ac u b2 E3 hb4 S => ?_)
  refine Sx.newp S 3 b.cells (fun ac u b5 E6 hb7 S => ?_)
  refine Sx.run S 1 [] [(4, .bool false)] (fun ac S => ?_)
  refine Sx.done (κ1 _ _ ?_)
  refine wp_seq_k (fun _ κ8 => ?_)
  refine Sx.seqP (fun _ κ9 => ?_)
  refine Sx.run S 1 [.mem 1 0] [(5, a.v)] (fun ac S => ?_)
  refine Sx.callv S 6 (small_any (h.below S.E)) (fun ac u E10 S => ?_)
  refine Sx.runC S 6 [.mem 0 0] [(_, _, (!(!a.small)), .bool b.small)] [(12, .bool ((!a.small) || (!b.small)))] ⟨fun u hC g => small_any (h'.below (Ext.trans' S.E hC)), trivial⟩ (fun ac u E11 S => ?_)
  refine Sx.done (κ9 _ _ ?_)
  refine Sx.cond S (fun hc12 => ?_) (fun hc12 => ?_)
  · refine Sx.seqP (fun _ κ13 => ?_)
    refine Sx.callv S 13 (example_any (hg.below S.E)) (fun ac u E14 S => ?_)
    refine Sx.run S 1 [] [(4, .bool true)] (fun ac S => ?_)
    refine Sx.done (κ13 _ _ ?_)
    refine Vp.rt ?_
    refine Sx.ret1 S Tryz.results7 ?_
    exact ⟨rfl, S.E⟩
  · obtain ⟨s1, s2⟩ : a.small = true ∧ b.small = true := by simpa using hc12
    have ha := NodeD.small_ok s1 h
    have hb := NodeD.small_ok s2 h'
    refine wp_skip ?_
    refine κ8 _ _ ?_
    refine wp_seq_k (fun _ κ15 => ?_)
    refine Sx.draw S 24 [.mem 1 0, .mem 0 0, .mem 1 0, .mem 0 0, .mem 0 0, .mem 1 0, .mem 1 0, .mem 0 0, .mem 1 0, .mem 1 0] [(_, _, true, .bool (a.eqP b)), (_, _, true, .bool (a.eqR b)), (_, _, ((a.eqP b) == (a.eqR b)), .bool (b.eqP a)), (_, _, ((a.eqP b) == (a.eqR b)), .bool (a.eqP b)), (_, _, (((a.eqP b) == (a.eqR b)) && ((b.eqP a) == (a.eqP b))), .bool (a.eqP a)), (_, _, ((((a.eqP b) == (a.eqR b)) && ((b.eqP a) == (a.eqP b))) && (a.eqP a)), .bool true)] [(37, .bool (((((a.eqP b) == (a.eqR b)) && ((b.eqP a) == (a.eqP b))) && (a.eqP a)) && true))] ⟨fun u hC g => nodeEqual_any (ha.below (Ext.trans' S.E hC)) (hb.below (Ext.trans' S.E hC)), fun u hC g => r36Equal_any (ha.below (Ext.trans' S.E hC)) (hb.below (Ext.trans' S.E hC)), fun u hC g => nodeEqual_any (hb.below (Ext.trans' S.E hC)) (ha.below (Ext.trans' S.E hC)), fun u hC g => nodeEqual_any (ha.below (Ext.trans' S.E hC)) (hb.below (Ext.trans' S.E hC)), fun u hC g => nodeEqual_any (ha.below (Ext.trans' S.E hC)) (ha.below (Ext.trans' S.E hC)), fun u hC g => example_any (hg.below (Ext.trans' S.E hC)), trivial⟩ (fun ac u E16 S => ?_)
    refine Sx.run S 1 [] [(4, .bool (((((a.eqP b) == (a.eqR b)) && ((b.eqP a) == (a.eqP b))) && (a.eqP a)) && true))] (fun ac S => ?_)
    refine Sx.done (κ15 _ _ ?_)
    refine Vp.rt ?_
    refine Sx.ret1 S Tryz.results7 ?_
    exact ⟨ret_bool (by rw [eqP_key ha.nrm hb.nrm, eqR_key ha.nrm hb.nrm, eqP_key hb.nrm ha.nrm, eqP_key ha.nrm ha.nrm, decide_key]; simp), S.E⟩
end Go.Proofs.YtcohmdeoocgmdaaGreatDoor
