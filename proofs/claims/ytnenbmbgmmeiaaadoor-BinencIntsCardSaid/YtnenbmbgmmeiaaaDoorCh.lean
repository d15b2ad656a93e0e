/- Worlds in which one block alone may have changed; blocks laid last. No program in sight. -/
import Derived.Test.YtnenbmbgmmeiaaaDoorBase
import Derived.Deep.QuietTactic
import Derived.BigQuiet
namespace Go.Proofs.YtnenbmbgmmeiaaaDoor
set_option linter.unusedVariables false
open Go.RowKit
variable {α : Type}

/-- Of what was there, only block b may have changed. -/
abbrev Ch (b : Nat) (w w' : World) : Prop := w.grownBy w' (some b)
theorem Ch.refl (b : Nat) (w : World) : Ch b w w := ⟨rfl, rfl, rfl, Nat.le_refl _, fun _ _ _ => rfl⟩
theorem Ch.trans {b : Nat} {w w1 w2 : World} (h : Ch b w w1) (k : Ch b w1 w2) : Ch b w w2 :=
  ⟨k.os.trans h.os, k.tape.trans h.tape, k.output.trans h.output, Nat.le_trans h.size k.size, fun i hi hn => (k.block i (Nat.lt_of_lt_of_le hi h.size) hn).trans (h.block i hi hn)⟩
theorem Ch.of_ext {b : Nat} {w w' : World} (h : Ext w w') : Ch b w w' := ⟨h.os, h.tape, h.output, h.size, fun i hi _ => h.block i hi⟩
theorem Ch.drewN {b : Nat} {w w' : World} (h : Ch b w w') (n : Nat) : Ch b w (w'.drewN n) := Ch.trans h (Ch.of_ext (below_drewN (Below.refl _ _) n))
theorem Ch.setCell {b : Nat} {w w' : World} (h : Ch b w w') (o : Nat) (v : Value) : Ch b w (w'.setCell ⟨b, o, none⟩ v) :=
  Ch.trans h ⟨rfl, rfl, rfl, by simp [World.setCell], fun k _ hk => Below.heap_setCell _ _ _ _ (fun e => hk (by rw [e]))⟩
theorem Ch.alloc {b : Nat} {w w' : World} (h : Ch b w w') (o : Obj) : Ch b w (w'.alloc o) := Ch.trans h (Ch.of_ext (below_alloc _ _))
theorem Ch.cell {b : Nat} {w w' : World} (h : Ch b w w') {p : Addr} (hp : p.block < w.heap.size) (hb : p.block ≠ b) : w'.cell? p = w.cell? p :=
  World.cell?_of_block (h.block _ hp (fun e => hb (by simpa using e)))
theorem Ch.frozen {b : Nat} {w w' : World} (h : Ch b w w') {p : Addr} (hp : p.block < w.heap.size) (hb : p.block ≠ b) : w'.frozen? p = w.frozen? p :=
  World.frozen?_of_block (h.block _ hp (fun e => hb (by simpa using e)))
theorem Ch.below {b B : Nat} {w w' : World} (h : Ch b w w') (hb : B ≤ b) (hs : B ≤ w.heap.size) : Below B w w' := ⟨h.os, h.tape, h.output, h.size, fun k hk => h.block k (by omega) (fun e => by simp at e; omega)⟩
/-- The slice's cells do not lie in block b. -/
def Off (b : Nat) (v : Value) : Prop := ∀ ad n cap, v = .slice (some ad) n cap → ad.block ≠ b
theorem IsRowOf.ch {f : α → Value} {b : Nat} {w w' : World} {v : Value} {l : List α} (h : IsRowOf f w v l) (hc : Ch b w w') (ho : 0 < l.length → Off b v) : IsRowOf f w' v l := by
  obtain ⟨a, cap, rfl, hm, h⟩ := h
  refine ⟨a, cap, rfl, hm, ?_⟩
  rcases h with h | ⟨bb, o, rfl, hlt, hl, hcs⟩
  · exact .inl h
  · exact .inr ⟨bb, o, rfl, by have := hc.size; omega, hl, fun i hi => by rw [hc.cell (p := ⟨bb, o + i, none⟩) hlt (ho (by omega) ⟨bb, o, none⟩ _ _ rfl)]; exact hcs i hi⟩

theorem off_new {f : α → Value} {w : World} {v : Value} {l : List α} (h : IsRowOf f w v l) {b : Nat} (hb : w.heap.size ≤ b) : 0 < l.length → Off b v := by
  intro h0 ad n cap hv
  obtain ⟨bb, o, cap', hv', hlt, _⟩ := row_some h rfl h0
  rw [hv'] at hv
  simp only [Value.slice.injEq, Option.some.injEq] at hv
  rw [← hv.1]; simp only; omega
theorem off_own {w : World} {base b : Nat} {e : TypeId} {size : Nat} {v : Value} {n : Nat} {xs : List Value} (h : w.ownsRow base e size v n xs) (hb : b < base) : Off b v := by
  intro ad n' cap hv e'
  subst hv
  have := (World.ownsRow.lt h ad.block rfl).1
  omega
theorem bcell {w w1 : World} {W : World} (hb : Ext W w1) (hW : w.heap.size ≤ W.heap.size) : (∀ b o, b < W.heap.size → w1.cell? ⟨b, o, none⟩ = W.cell? ⟨b, o, none⟩) ∧ (∀ b o, b < W.heap.size → w1.frozen? ⟨b, o, none⟩ = W.frozen? ⟨b, o, none⟩) ∧ W.heap.size ≤ w1.heap.size :=
  ⟨fun b o h => hb.cell (p := ⟨b, o, none⟩) h, fun b o h => hb.frozen (p := ⟨b, o, none⟩) h, hb.size⟩
/-- The block laid last, in a later world. -/
theorem newBlock {w w1 : World} {cs : Array Value} {t : TypeId} (hb : Ext (w.alloc (.cells cs t)) w1) :
    (∀ i, w1.cell? ⟨w.heap.size, i, none⟩ = cs[i]?) ∧ (∀ i, w1.frozen? ⟨w.heap.size, i, none⟩ = false) ∧ w.heap.size < w1.heap.size := by
  refine ⟨fun i => ?_, fun i => ?_, by have := hb.size; simp at this; omega⟩
  · rw [hb.cell (p := ⟨w.heap.size, i, none⟩) (by simp), World.cell?_alloc_at _ _ _ _ rfl]
  · rw [hb.frozen (p := ⟨w.heap.size, i, none⟩) (by simp), World.frozen?_alloc_at _ _ _ _ rfl]
/-- A slice whose cells lie from block base on. -/
def From (base : Nat) (v : Value) : Prop := ∀ ad n cap, v = .slice (some ad) n cap → base ≤ ad.block
theorem From.mono {base base' : Nat} {v : Value} (h : From base v) (hb : base' ≤ base) : From base' v := fun ad n cap e => Nat.le_trans hb (h ad n cap e)
theorem From.off {base b : Nat} {v : Value} (h : From base v) (hb : b < base) : Off b v := fun ad n cap e => by have := h ad n cap e; omega
theorem from_own {w : World} {base : Nat} {e : TypeId} {size : Nat} {v : Value} {n : Nat} {xs : List Value} (h : w.ownsRow base e size v n xs) : From base v := by
  intro ad n' cap hv
  subst hv
  exact (World.ownsRow.lt h ad.block rfl).1
theorem own_ch {w w' : World} {base b : Nat} {e : TypeId} {size : Nat} {v : Value} {n : Nat} {xs : List Value} (h : w.ownsRow base e size v n xs) (hc : Ch b w w') (hb : b < base) : w'.ownsRow base e size v n xs := by
  refine h.kept hc ?_
  have hlt := h.lt
  cases hv : v.ownBlock with
  | none => exact .inl rfl
  | some k =>
    right
    intro e'
    have h1 := (hlt k hv).1
    simp only [Option.some.injEq] at e'
    omega
theorem from_nil (base : Nat) : From base (.slice none 0 0) := fun _ _ _ e => by simp at e
end Go.Proofs.YtnenbmbgmmeiaaaDoor
