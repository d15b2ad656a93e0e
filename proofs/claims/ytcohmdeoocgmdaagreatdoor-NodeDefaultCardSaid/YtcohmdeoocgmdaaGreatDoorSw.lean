/- A region that draws its order and ends with a store: `return n, f(n)`. No program in sight. -/
import Derived.Test.YtcohmdeoocgmdaaGreatDoorSy
import Derived.Laws.IdiomCopy
namespace Go.Sx
open Go.Proofs.YtcohmdeoocgmdaaGreatDoor Go.RowKit Go.Rel
set_option linter.unusedVariables false
section
variable {P : Program} {ops : Array Oper} {Q : Exit → Act → World → Prop} {w0 : World} {a : Act} {w : World} {os : List Oper} {n : Nat} {l : List (Nat × Value)} {bl : List (Nat × List Value)} {vs : List Mem1}
/-- The store behind m operations that ask: what it writes was found by operation j. -/
def stD (P : Program) (os : List Oper) (m j : Nat) (l : List (Nat × Value)) : Option (Nat × Nat × Nat) :=
  match os[m]? with
  | some o => (match o.guard, o.dst, o.op with
    | none, none, .store ty (.tmp s) (.tmp s') => (match l.lookup s, P.info? ty, (os[j]?).bind (·.dst) with
      | some (.pointer (some ⟨b, off, none⟩)), some i, some d =>
        (match d == s' && decide (j < m) && (os.take m).all (fun o => !(o.dst == some s)) && o.after.toList.any (fun g => g.on == j && Region.binds .any g) with
        | true => some (b, off, i.size)
        | false => none)
      | _, _, _ => none)
    | _, _, _ => none)
  | none => none
/-- A call behind a guard that is known to hold. -/
def callOfG (P : Program) (ops : Array Oper) (os : List Oper) (l : List (Nat × Value)) : Option (FuncId × Array Value × Option Nat) :=
  match os with
  | o :: _ => (match pathOf ops (lift l) o, isSel o.op || !o.op.operands.all (fun x => (rd (lift l) [] x).isSome), ofNext (ev0 P (execOp (rdD (lift l) []) o)) with
    | some p, false, some (.enter f args) => (match gof (lift l) p with | true => some (f, args, o.dst) | false => none)
    | _, _, _ => none)
  | [] => none
theorem callGG (S : St w0 a w n l bl vs) {f : FuncId} {args : Array Value} (d : Option Nat) {R : Ending → World → Prop} (hc : Calls P f args w R)
    (next : ∀ e w', R e w' → ∃ v, e = .returned v ∧ Ext w w' ∧ ∀ a', St w0 a' w' n (extD l d v) bl vs → wpList P ops Q (os.drop 1) a' w')
    (hx : callOfG P ops os l = some (f, args, d) := by kernel_rfl) (hd : dOk n d = true := by rfl) : wpList P ops Q os a w := by
  cases os with
  | nil => cases hx
  | cons o os =>
    unfold callOfG at hx
    simp only at hx
    split at hx
    · rename_i p f' args' hp hav hev
      split at hx
      · rename_i hg
        simp only [Option.some.injEq, Prod.mk.injEq] at hx
        obtain ⟨rfl, rfl, rfl⟩ := hx
        simp only [Bool.or_eq_false_iff] at hav
        have hrun : (execOp a.eval o).run P w = .ok (.enter f' args') w := gen_ok (Std.act a) (rd_all (holds_lift S.s) o) (p := []) rfl hav.1 (by simpa using hav.2) hev
        unfold wpList
        rw [if_pos ((path_wanted (a := a) hp (fun x _ i y _ hl => holds_lift S.s i y hl)).2 hg)]
        left
        unfold Oper.wp
        rw [hrun]
        simp only [Oper.upon]
        refine hc.mono fun e w' hR => ?_
        obtain ⟨v, rfl, hE, hn⟩ := next e w' hR
        exact hn _ ((S.grow hE).act (putD S.s hd v))
      · cases hx
    · cases hx
end
end Go.Sx
