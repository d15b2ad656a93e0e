/- The walk by lemmas: rows that came in. -/
import Derived.Test.YtcohmdeoocgmdaaGreatDoorVp
import Derived.Test.YtcohmdeoocgmdaaGreatDoorData
namespace Go.Vp
open Go.Proofs.YtcohmdeoocgmdaaGreatDoor Go.RowKit Go.Rel
set_option linter.unusedVariables false
section
variable {P : Program} {ops : Array Oper} {Q : Exit → Act → World → Prop} {a : Act} {w : World} {rest : List Oper} {o : Oper} {n : Nat} {l : List (Nat × Value)}
theorem run_index {ρ : Operand → Value} {t e : TypeId} {x ix : Operand} {b off len cap k : Nat} {kd : IntKind} (i : Nat) (hop : o.op = .indexAddr t x ix) (hx : ρ x = .slice (some ⟨b, off, none⟩) len cap) (hi : ρ ix = .int kd (i : Int)) (hlt : i < len)
    (hu : P.underlying t = some (.slice e)) (hsz : (P.info? e).map (·.size) = some k) : (execOp ρ o).run P w = .ok (.value (.pointer (some ⟨b, off + i * k, none⟩))) w := by
  have he : P.elem t = e := by unfold Program.elem; rw [hu]
  have h1 := run_indexAt_slice (P := P) w t ⟨b, off, none⟩ len cap kd (i : Int) (by rw [he]; exact hu)
  rw [if_pos ⟨by omega, by omega⟩, he] at h1
  have h2 : (sizeOf e).run P w = .ok k w := by
    cases hq : P.info? e with
    | none => simp [hq] at hsz
    | some j =>
      have : j.size = k := by simpa [hq] using hsz
      simp [sizeOf, typeInfo, hq, this]
  rw [h2] at h1
  simp only [Result.andThen, Int.toNat_natCast] at h1
  have e2 : (⟨b, off, none⟩ : Addr).add (i * k) = ⟨b, off + i * k, none⟩ := Addr.add_mid _ _ _
  rw [e2] at h1
  unfold execOp
  simp only [hop, hx, hi, Sem.run_bind, h1]
  rfl
theorem step_index (hs : St a n l) {t e : TypeId} {x ix : Operand} {b off len cap k : Nat} {kd : IntKind} (i : Nat) (hop : o.op = .indexAddr t x ix) (hg : o.guard = none) (hd : (match o.dst with | some d => decide (d < n) | none => true) = true)
    (hx : ev l x = some (.slice (some ⟨b, off, none⟩) len cap)) (hi : ev l ix = some (.int kd (i : Int))) (hlt : i < len) (hu : P.underlying t = some (.slice e)) (hsz : (P.info? e).map (·.size) = some k)
    (hn : ∀ a', St a' n (Vp.ext l o.dst (.pointer (some ⟨b, off + i * k, none⟩))) → wpList P ops Q rest a' w) : wpList P ops Q (o :: rest) a w :=
  step_val hs _ hg hd (run_index i hop (hs.ev hx) (hs.ev hi) hlt hu hsz) hn
theorem run_loadR {ρ : Operand → Value} {ty : TypeId} {x : Operand} {b off k : Nat} {d : TypeDesc} (cs : List Value) (hop : o.op = .load ty x) (hx : ρ x = .pointer (some ⟨b, off, none⟩)) (hc : w.rangeAt b off cs) (hk : cs.length = k) (hu : P.underlying ty = some d) (hrow : d.isRow = true)
    (hi : (P.info? ty).map (·.size) = some k) : (execOp ρ o).run P w = .ok (.value (.agg cs.toArray)) w := by
  unfold execOp
  simp only [hop, hx, Sem.run_bind, run_loadAt_mid w b off ty cs d hc hu hrow (by rw [hk]; exact hi)]
  rfl
theorem step_loadR (hs : St a n l) {ty : TypeId} {x : Operand} {b off k : Nat} {d : TypeDesc} (cs : List Value) (hop : o.op = .load ty x) (hg : o.guard = none) (hd : (match o.dst with | some d => decide (d < n) | none => true) = true)
    (hx : ev l x = some (.pointer (some ⟨b, off, none⟩))) (hc : w.rangeAt b off cs) (hk : cs.length = k) (hu : P.underlying ty = some d) (hrow : d.isRow = true) (hi : (P.info? ty).map (·.size) = some k)
    (hn : ∀ a', St a' n (Vp.ext l o.dst (.agg cs.toArray)) → wpList P ops Q rest a' w) : wpList P ops Q (o :: rest) a w :=
  step_val hs _ hg hd (run_loadR cs hop (hs.ev hx) hc hk hu hrow hi) hn
theorem run_loadR1 {ρ : Operand → Value} {ty : TypeId} {x : Operand} {b off : Nat} {d : TypeDesc} (v : Value) (hop : o.op = .load ty x) (hx : ρ x = .pointer (some ⟨b, off, none⟩)) (hv : w.cell? ⟨b, off, none⟩ = some v) (hu : P.underlying ty = some d) (hrow : d.isRow = false) :
    (execOp ρ o).run P w = .ok (.value v) w := by
  unfold execOp
  simp only [hop, hx, Sem.run_bind, run_load1 (P := P) (ty := ty) hv hu hrow]
  rfl
theorem step_loadR1 (hs : St a n l) {ty : TypeId} {x : Operand} {b off : Nat} {d : TypeDesc} (v : Value) (hop : o.op = .load ty x) (hg : o.guard = none) (hd : (match o.dst with | some d => decide (d < n) | none => true) = true)
    (hx : ev l x = some (.pointer (some ⟨b, off, none⟩))) (hv : w.cell? ⟨b, off, none⟩ = some v) (hu : P.underlying ty = some d) (hrow : d.isRow = false)
    (hn : ∀ a', St a' n (Vp.ext l o.dst v) → wpList P ops Q rest a' w) : wpList P ops Q (o :: rest) a w :=
  step_val hs v hg hd (run_loadR1 v hop (hs.ev hx) hv hu hrow) hn
theorem run_bin {ρ : Operand → Value} {k : BinOp} {t r : TypeId} {x y : Operand} {xs ys : Array Value} {V : Value} (hop : o.op = .binOp k t x y r) (hx : ρ x = .agg xs) (hy : ρ y = .agg ys) (h : (binOp k t (.agg xs) (.agg ys)).run P w = .ok V w) (hm : P.eqGuardType P.depth t = false) : (execOp ρ o).run P w = .ok (.value V) w := by
  unfold execOp
  simp only [hop, hx, hy, Sem.run_bind, h, run_eqGuard_agg w k t x y xs ys hm, Result.andThen_ok]
  rfl
/-- An element of a row that came in. -/
theorem rowN_range {α : Type} {k : Nat} {f : α → List Value} {v : Value} {L : List α} (h : IsRowN k f w v L) (hf : ∀ x, (f x).length = k) (i : Nat) (hi : i < L.length) :
    ∃ b off cap, v = .slice (some ⟨b, off, none⟩) L.length cap ∧ w.rangeAt b (off + i * k) (f L[i]) := by
  obtain ⟨b, off, cap, hv, hb, hl, hm, hc⟩ := rowN_some h (by omega)
  refine ⟨b, off, cap, hv, fun j u hj => ?_⟩
  have hjl : j < k := by have := (List.getElem?_eq_some_iff.1 hj).1; rw [hf] at this; exact this
  rw [hc i hi j hjl]; exact hj
theorem rowN_range2 {α : Type} {k : Nat} {f : α → List Value} {v : Value} {L : List α} (h : IsRowN k f w v L) (hf : ∀ x, (f x).length = k) (i : Nat) (hi : i < L.length) :
    ∃ b off cap, v = .slice (some ⟨b, off, none⟩) L.length cap ∧ b < w.heap.size ∧ w.rangeAt b (off + i * k) (f L[i]) := by
  obtain ⟨b, off, cap, hv, hb, hl, hm, hc⟩ := rowN_some h (by omega)
  refine ⟨b, off, cap, hv, hb, fun j u hj => ?_⟩
  have hjl : j < k := by have := (List.getElem?_eq_some_iff.1 hj).1; rw [hf] at this; exact this
  rw [hc i hi j hjl]; exact hj
theorem range_ext {w w' : World} {b off : Nat} {cs : List Value} (h : w.rangeAt b off cs) (hb : b < w.heap.size) (he : Ext w w') : w'.rangeAt b off cs := fun j v hv => by
  rw [he.cell (p := ⟨b, off + j, none⟩) hb]; exact h j v hv
theorem oc_int (k : IntKind) (n : Int) : (Value.int k n).oneCell' = true := rfl
theorem oc_bool (b : Bool) : (Value.bool b).oneCell' = true := rfl
theorem oc_slice (a : Option Addr) (n c : Nat) : (Value.slice a n c).oneCell' = true := rfl
theorem oc_ptr (a : Option Addr) : (Value.pointer a).oneCell' = true := rfl
theorem oc_nil : Value.nilIface.oneCell' = true := rfl
theorem oc_iface (t : TypeId) (v : Value) : (Value.iface t v).oneCell' = true := rfl
theorem oc_row {α : Type} {k : Nat} {f : α → List Value} {v : Value} {L : List α} (h : IsRowN k f w v L) : v.oneCell' = true := by obtain ⟨a, cap, rfl⟩ := h.shape; rfl
theorem oc_u32s {v : Value} {L : List UInt32} (h : IsU32s w v L) : v.oneCell' = true := by obtain ⟨a, cap, rfl, _⟩ := h; rfl
/-- A guarded call of a function that a slot holds. -/
theorem step_guard_callv (hs : St a n l) {g t f : Nat} {b : Bool} {vs : Array Value} (G : Bool) (V : Value) (hg : o.guard = some (g, b)) (ht : (ops[g]?).bind (·.dst) = some t) (hw : a.eval (.tmp t) = .bool b ↔ G = true)
    (hd : (match o.dst with | some d => decide (d < n) | none => true) = true) (hrun : G = true → (execOp a.eval o).run P w = .ok (.enter f vs) w)
    (hc : G = true → Calls P f vs w (fun e w' => e = .returned V ∧ Ext w w')) (hn : ∀ a' w', Ext w w' → St a' n (Vp.ext l o.dst (_root_.cond G V undef)) → wpList P ops Q rest a' w') : wpList P ops Q (o :: rest) a w := by
  unfold wpList
  have hwi := wanted_iff (ops := ops) (a := a) hg
  rw [ht] at hwi
  by_cases hG : G = true
  · rw [if_pos (hwi.2 (hw.2 hG))]
    left
    unfold Oper.wp
    rw [hrun hG]
    simp only [Oper.upon]
    rw [hG] at hn
    refine (hc hG).mono fun e w' hk => ?_
    obtain ⟨rfl, hb⟩ := hk
    exact hn _ _ hb (hs.putO o.dst (lt_of hd) V)
  · rw [if_neg (fun h => hG (hw.1 (hwi.1 h)))]
    have e : G = false := by simpa using hG
    rw [e] at hn
    exact hn _ _ (Below.refl _ _) (hs.putO o.dst (lt_of hd) undef)
end
end Go.Vp
/- Part of a row's element. -/
namespace Go.Vp
open Go.Proofs.YtcohmdeoocgmdaaGreatDoor Go.RowKit Go.Rel
theorem range_sub {w : World} {b off : Nat} {cs cs' : List Value} (h : w.rangeAt b off cs) (d n : Nat) (hc : (cs.drop d).take n = cs') : w.rangeAt b (off + d) cs' := fun j v hv => by
  subst hc
  rw [List.getElem?_take] at hv
  split at hv
  · rw [List.getElem?_drop] at hv
    have := h (d + j) v hv
    rwa [Nat.add_assoc]
  · cases hv
/-- The end: a result of several cells in a variable, and one in a slot. -/
theorem end_ct {P : Program} {a : Act} {w : World} {n : Nat} {l : List (Nat × Value)} (hs : St a n l) {fn : Func} {R : Ending → World → Prop} {r s b : Nat} {u : Value} {ty : TypeId} {A : Array Value} {d : TypeDesc} (cs : List Value) (hr : fn.results = #[.cell r ty, .tmp s]) (hv : ev l (.tmp r) = some (.pointer (some ⟨b, 0, none⟩))) (hv2 : ev l (.tmp s) = some u) (hb : Bx w b A) (hA : A.toList = cs)
    (hu : P.underlying ty = some d) (hrow : d.isRow = true) (hi : (P.info? ty).map (·.size) = some cs.length) (h : R (.returned (.tuple #[.agg cs.toArray, u])) w) : bodyPost P fn R .ret a w := by
  refine ⟨hs.defers, _, ?_, h⟩
  have h1 := hs.ev hv
  have h3 := hs.ev hv2
  have h2 := run_loadVar_mid (P := P) w b 0 ty cs d (hb.range 0 cs.length (by rw [hA]; simp)) hu hrow hi
  unfold results
  rw [hr]
  simp only [Act.eval, Array.getD_eq_getD_getElem?] at h1 h3
  simp [h1, h3, asAddr, h2]
end Go.Vp
