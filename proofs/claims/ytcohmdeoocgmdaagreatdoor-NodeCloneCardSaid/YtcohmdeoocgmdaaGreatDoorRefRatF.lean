/- Walks of reference 03: Normalize, reduce, Mul, Add, Cmp, Neg, Sub, BitLen by value. -/
import Derived.Test.YtcohmdeoocgmdaaGreatDoorRatF
import Derived.Test.YtcohmdeoocgmdaaGreatDoorInt
import Derived.Test.YtcohmdeoocgmdaaGreatDoorNum2
import Derived.IntWalk
import Derived.Test.YtcohmdeoocgmdaaGreatDoorRefRat
import Derived.Test.YtcohmdeoocgmdaaGreatDoorRefRat3
namespace Go.Proofs.YtcohmdeoocgmdaaGreatDoor
open Go.RowKit
variable {α : Type}
set_option linter.unusedVariables false
attribute [local go_sem] Go.Rel.valOf
/-- Normalize by value. -/
theorem refNorm_q (v : Value) (q : Bool × Nat × Nat) (K : Nat) (w : World) (h : IsRatQ K w v q) (hK : K ≤ 1000000) :
  Calls Tryz.prog 35 #[v] w fun e w' => ∃ x, e = .returned x ∧ IsRatT w.heap.size w' x q ∧ Ext w w' := by
 obtain ⟨n1, s1, l1, n2, s2, l2, rfl, h1, h2, h3, h4, rfl⟩ := h
 exact refRatNormalize_any n1 n2 s1 s2 l1 l2 w h1 h2 (by omega) (by omega)
end Go.Proofs.YtcohmdeoocgmdaaGreatDoor
