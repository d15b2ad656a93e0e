/- The walk by lemmas: rows that came in. -/
import Derived.Test.YtcohmdeoocgmdaaGreatDoorVp
import Derived.Test.YtcohmdeoocgmdaaGreatDoorData
namespace Go.Vp
open Go.Proofs.YtcohmdeoocgmdaaGreatDoor Go.RowKit Go.Rel
set_option linter.unusedVariables false
section
variable {P : Program} {ops : Array Oper} {Q : Exit → Act → World → Prop} {a : Act} {w : World} {rest : List Oper} {o : Oper} {n : Nat} {l : List (Nat × Value)}
theorem run_index {ρ : Operand → Value} {t e : TypeId} {x ix : Operand} {b off len cap k : Nat} {kd : IntKind} (i : Nat) (hop : o.op = .indexAddr t x ix) (hx : ρ x = .slice (some ⟨b, off, none⟩) len cap) (hi : ρ ix = .int kd (i : Int)) (hlt : i < len)
  (hu : P.underlying t = some (.slice e)) (hsz : (P.info? e).map (·.size) = some k) : (execOp ρ o).run P w = .ok (.value (.pointer (some ⟨b, off + i * k, none⟩))) w := by
 have he : P.elem t = e := by unfold Program.elem; rw [hu]
 have h1 := run_indexAt_slice (P := P) w t ⟨b, off, none⟩ len cap kd (i : Int) (by rw [he]; exact hu)
 rw [if_pos ⟨by omega, by omega⟩, he] at h1
 have h2 : (sizeOf e).run P w = .ok k w := by
  cases hq : P.info? e with
  | none => simp [hq] at hsz
  | some j =>
   have : j.size = k := by simpa [hq] using hsz
   simp [sizeOf, typeInfo, hq, this]
 rw [h2] at h1
 simp only [Result.andThen, Int.toNat_natCast] at h1
 have e2 : (⟨b, off, none⟩ : Addr).add (i * k) = ⟨b, off + i * k, none⟩ := Addr.add_mid _ _ _
 rw [e2] at h1
 unfold execOp
 simp only [hop, hx, hi, Sem.run_bind, h1]
 rfl
/-- An element of a row that came in. -/
theorem rowN_range {α : Type} {k : Nat} {f : α → List Value} {v : Value} {L : List α} (h : IsRowN k f w v L) (hf : ∀ x, (f x).length = k) (i : Nat) (hi : i < L.length) :
  ∃ b off cap, v = .slice (some ⟨b, off, none⟩) L.length cap ∧ w.rangeAt b (off + i * k) (f L[i]) := by
 obtain ⟨b, off, cap, hv, hb, hl, hm, hc⟩ := rowN_some h (by omega)
 refine ⟨b, off, cap, hv, fun j u hj => ?_⟩
 have hjl : j < k := by have := (List.getElem?_eq_some_iff.1 hj).1; rw [hf] at this; exact this
 rw [hc i hi j hjl]; exact hj
theorem rowN_range2 {α : Type} {k : Nat} {f : α → List Value} {v : Value} {L : List α} (h : IsRowN k f w v L) (hf : ∀ x, (f x).length = k) (i : Nat) (hi : i < L.length) :
  ∃ b off cap, v = .slice (some ⟨b, off, none⟩) L.length cap ∧ b < w.heap.size ∧ w.rangeAt b (off + i * k) (f L[i]) := by
 obtain ⟨b, off, cap, hv, hb, hl, hm, hc⟩ := rowN_some h (by omega)
 refine ⟨b, off, cap, hv, hb, fun j u hj => ?_⟩
 have hjl : j < k := by have := (List.getElem?_eq_some_iff.1 hj).1; rw [hf] at this; exact this
 rw [hc i hi j hjl]; exact hj
theorem range_ext {w w' : World} {b off : Nat} {cs : List Value} (h : w.rangeAt b off cs) (hb : b < w.heap.size) (he : Ext w w') : w'.rangeAt b off cs := fun j v hv => by
 rw [he.cell (p := ⟨b, off + j, none⟩) hb]; exact h j v hv
theorem oc_row {α : Type} {k : Nat} {f : α → List Value} {v : Value} {L : List α} (h : IsRowN k f w v L) : v.oneCell' = true := by obtain ⟨a, cap, rfl⟩ := h.shape; rfl
theorem oc_u32s {v : Value} {L : List UInt32} (h : IsU32s w v L) : v.oneCell' = true := by obtain ⟨a, cap, rfl, _⟩ := h; rfl
end
end Go.Vp
/- Part of a row's element. -/
namespace Go.Vp
open Go.Proofs.YtcohmdeoocgmdaaGreatDoor Go.RowKit Go.Rel
end Go.Vp
