/- Walks of reference 12 by value: coefficients, Valid, Det. -/
import Derived.Test.YtcohmdeoocgmdaaGreatDoorAffG
import Derived.Test.YtcohmdeoocgmdaaGreatDoorRefRatF
namespace Go.Proofs.YtcohmdeoocgmdaaGreatDoor
open Go.RowKit
variable {α : Type}
set_option linter.unusedVariables false
set_option maxRecDepth 100000 in
set_option maxHeartbeats 1600000 in
theorem coeff_any (t : AffD) (w : World) :
  Calls Tryz.prog 33 #[t.v] w fun e w' => ∃ b, e = .returned (.slice (some ⟨b, 0, none⟩) 6 6) ∧ w.heap.size ≤ b ∧ Bx w' b t.cells.toArray ∧ Ext w w' := by
 skip
 refine Sx.enter Tryz.func33 Tryz.ntmps33 fun ac S => Sx.seqP fun _ κ1 => Sx.newp S 1 t.cells fun ac u b2 E3 hb4 S => Sx.run S 1 [] [(2, .slice none 0 0)] fun ac S => Sx.done <| κ1 _ _ <| Sx.seqP fun _ κ5 => Sx.run S 12 [.mem 0 0, .mem 0 4, .mem 0 8, .mem 0 12, .mem 0 16, .mem 0 20] [(4, t.a.v), (6, t.b.v), (8, t.c.v), (10, t.d.v), (12, t.e.v), (14, t.f.v)] fun ac S => Sx.news S 15 6 t.cells fun ac u b6 E7 hb8 S => Sx.run S 1 [] [(2, .slice (some ⟨b6, 0, none⟩) 6 6)] fun ac S => Sx.done <| κ5 _ _ <| Vp.rt ?_
 refine Sx.ret1 S Tryz.results33 ?_
 exact ⟨b6, rfl, S.old 0, S.bx 0, S.E⟩
end Go.Proofs.YtcohmdeoocgmdaaGreatDoor
