/- A region that draws its order and ends with a store: `return n, f(n)`. No program in sight. -/
import Derived.Test.YtcohmdeoocgmdaaGreatDoorSy
import Derived.Laws.IdiomCopy
namespace Go.Sx
open Go.Proofs.YtcohmdeoocgmdaaGreatDoor Go.RowKit Go.Rel
set_option linter.unusedVariables false
section
variable {P : Program} {ops : Array Oper} {Q : Exit → Act → World → Prop} {w0 : World} {a : Act} {w : World} {os : List Oper} {n : Nat} {l : List (Nat × Value)} {bl : List (Nat × List Value)} {vs : List Mem1}
theorem store_run {ρ : Operand → Value} {o : Oper} {ty : TypeId} {x y : Operand} {b off : Nat} {A cs : List Value} (hop : o.op = .store ty x y) (hx : ρ x = .pointer (some ⟨b, off, none⟩)) (hy : ρ y = .agg cs.toArray) (hbx : Bx w b A.toArray)
  (hi : (P.info? ty).map (·.size) = some cs.length) (hf : off + cs.length ≤ A.length) (h1 : cs.all (·.oneCell') = true) : (execOp ρ o).run P w = .ok .skip (w.setCells b off cs) := by
 have hth : w.there b off cs.toArray.size := fun j hj => by
  have h3 : j < cs.length := by simpa using hj
  rw [hbx.2.1, hbx.2.2, Array.getElem?_eq_getElem (by simp; omega)]; exact ⟨rfl, rfl⟩
 have h := run_storeVar_mid (P := P) w b off ty cs.toArray hth (by rw [hi]; simp) (by rw [← h1]; simp)
 unfold execOp
 simp only [hop, hx, hy, Instr.storeAt, Instr.sureAddr, Sem.run_bind, Sem.run_pure, Result.andThen_ok, h]
end
end Go.Sx
