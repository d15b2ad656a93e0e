/- The law NodeCheck. -/
import Derived.Test.YtcohmdeoocgmdaaGreatDoorKey
import Derived.Test.YtcohmdeoocgmdaaGreatDoorOpn36
import Derived.Test.YtcohmdeoocgmdaaGreatDoorLaw36
namespace Go.Proofs.YtcohmdeoocgmdaaGreatDoor
open Go.RowKit
variable {α : Type} {K : Nat}
set_option linter.unusedVariables false
set_option maxRecDepth 100000 in
set_option maxHeartbeats 3200000 in
theorem nodeCheckLaw_any {w : World} {nd : NodeD} (h : nd.ok w) (hg : GlobOk w) :
    Calls Tryz.prog 5 #[nd.v] w fun e w' => e = .returned (.bool true) ∧ Ext w w' := by
  skip
  refine Sx.enter Tryz.func5 Tryz.ntmps5 (fun ac S => ?_)
  refine Sx.seqP (fun _ κ1 => ?_)
  refine Sx.newp S 1 nd.cells (fun ac u b2 E3 hb4 S => ?_)
  refine Sx.run S 1 [] [(2, .bool false)] (fun ac S => ?_)
  refine Sx.done (κ1 _ _ ?_)
  refine wp_seq_k (fun _ κ5 => ?_)
  refine Sx.seqP (fun _ κ6 => ?_)
  refine Sx.run S 1 [.mem 0 0] [(3, nd.v)] (fun ac S => ?_)
  refine Sx.callv S 4 (small_any (h.below S.E)) (fun ac u E7 S => ?_)
  refine Sx.run S 1 [] [(5, .bool (!nd.small))] (fun ac S => ?_)
  refine Sx.done (κ6 _ _ ?_)
  refine Sx.cond S (fun hc8 => ?_) (fun hc8 => ?_)
  · refine Sx.seqP (fun _ κ9 => ?_)
    refine Sx.callv S 6 (example_any (hg.below S.E)) (fun ac u E10 S => ?_)
    refine Sx.run S 1 [] [(2, .bool true)] (fun ac S => ?_)
    refine Sx.done (κ9 _ _ ?_)
    refine Vp.rt ?_
    refine Sx.ret1 S Tryz.results5 ?_
    exact ⟨rfl, S.E⟩
  · have hok := NodeD.small_ok (by simpa using hc8) h
    refine wp_skip ?_
    refine κ5 _ _ ?_
    refine wp_seq_k (fun _ κ11 => ?_)
    refine Sx.draw S 16 [.mem 0 0, .mem 0 0, .mem 0 0, .mem 0 0] [(_, _, true, .int .i64 nd.checkN), (_, _, true, .int .i64 nd.check36), (_, _, ((nd.checkN) == nd.check36), .bool (nd.checkN == 0)), (_, _, ((nd.checkN) == nd.check36), .int .i64 nd.check36), (_, _, (((nd.checkN) == nd.check36) && ((nd.checkN == 0) == ((nd.check36) == 0))), .bool true)] [(22, .bool ((((nd.checkN) == nd.check36) && ((nd.checkN == 0) == ((nd.check36) == 0))) && true))] ⟨fun u hC g => nodeCheck_any (hok.below (Ext.trans' S.E hC)) (hg.below (Ext.trans' S.E hC)), fun u hC g => r36Check_any (hok.below (Ext.trans' S.E hC)), fun u hC g => nodeValid_any (hok.below (Ext.trans' S.E hC)) (hg.below (Ext.trans' S.E hC)), fun u hC g => r36Check_any (hok.below (Ext.trans' S.E hC)), fun u hC g => example_any (hg.below (Ext.trans' S.E hC)), trivial⟩ (fun ac u E12 S => ?_)
    refine Sx.run S 1 [] [(2, .bool ((((nd.checkN) == nd.check36) && ((nd.checkN == 0) == ((nd.check36) == 0))) && true))] (fun ac S => ?_)
    refine Sx.done (κ11 _ _ ?_)
    refine Vp.rt ?_
    refine Sx.ret1 S Tryz.results5 ?_
    exact ⟨ret_bool (by rw [check36_eq]; simp), S.E⟩
end Go.Proofs.YtcohmdeoocgmdaaGreatDoor
