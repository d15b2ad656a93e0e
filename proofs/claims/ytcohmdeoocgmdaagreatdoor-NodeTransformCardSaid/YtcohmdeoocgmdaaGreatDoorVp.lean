/- A walk by lemmas: an act is known by the slots that it is said to hold. No program in sight. -/
import Derived.Test.YtcohmdeoocgmdaaGreatDoorBx
namespace Go.Vp
open Go.Proofs.YtcohmdeoocgmdaaGreatDoor Go.RowKit Go.Rel
set_option linter.unusedVariables false

/-- The act has n slots, nothing is deferred, and its slots hold what l says (the first entry counts). -/
structure St (a : Act) (n : Nat) (l : List (Nat × Value)) : Prop where
  size : a.tmps.size = n
  defers : a.defers = []
  has : ∀ i v, l.lookup i = some v → a.eval (.tmp i) = v
def ev (l : List (Nat × Value)) : Operand → Option Value
  | .tmp i => l.lookup i
  | .const v => some v
  | .global g => some (.pointer (some ⟨g, 0, none⟩))
  | .func f => some (.func (.func f) #[] #[])
section
variable {P : Program} {ops : Array Oper} {Q : Exit → Act → World → Prop} {a : Act} {w : World} {rest : List Oper} {o : Oper} {n : Nat} {l : List (Nat × Value)}
theorem St.ev {x : Operand} {v : Value} (h : St a n l) (he : ev l x = some v) : a.eval x = v := by
  cases x with
  | tmp i => exact h.has i v he
  | const c => exact Option.some.inj he
  | global g => exact Option.some.inj he
  | func f => exact Option.some.inj he
theorem St.put (h : St a n l) (d : Nat) (hd : d < n) (v : Value) : St (a.put (some d) v) n ((d, v) :: l) := by
  refine ⟨by rw [put_size]; exact h.size, by rw [put_defers]; exact h.defers, fun i u hu => ?_⟩
  rw [List.lookup_cons] at hu
  by_cases hi : i = d
  · subst hi
    simp only [beq_self_eq_true] at hu
    obtain rfl := Option.some.inj hu
    have hlt : i < a.tmps.size := by rw [h.size]; exact hd
    simp [Act.eval, Act.put, hlt]
  · have e : (i == d) = false := by simpa using hi
    rw [e] at hu
    rw [eval_of_get (put_get_ne a (some d) v i (fun e => hi (Option.some.inj e).symm))]
    exact h.has i u hu
theorem St.put0 (h : St a n l) (v : Value) : St (a.put none v) n l := h
def Sub (l : List (Nat × Value)) : List (Nat × Value) → Prop
  | [] => True
  | p :: ps => l.lookup p.1 = some p.2 ∧ Sub l ps
theorem Sub.get {l : List (Nat × Value)} : ∀ {l' : List (Nat × Value)}, Sub l l' → ∀ i v, l'.lookup i = some v → l.lookup i = some v
  | [], _, i, v, h => by simp at h
  | p :: ps, hs, i, v, h => by
    rw [List.lookup_cons] at h
    by_cases hi : i = p.1
    · subst hi
      simp only [beq_self_eq_true] at h
      obtain rfl := Option.some.inj h
      exact hs.1
    · have e : (i == p.1) = false := by simpa using hi
      rw [e] at h
      exact Sub.get hs.2 i v h
theorem St.sub {l' : List (Nat × Value)} (h : St a n l) (hl : Sub l l') : St a n l' := ⟨h.size, h.defers, fun i v hi => h.has i v (hl.get i v hi)⟩
def ext (l : List (Nat × Value)) : Option Tmp → Value → List (Nat × Value)
  | some d, v => (d, v) :: l
  | none, _ => l
theorem St.putO (h : St a n l) (d : Option Tmp) (hd : ∀ t, d = some t → t < n) (v : Value) : St (a.put d v) n (Vp.ext l d v) := by
  cases d with
  | none => exact h
  | some t => exact h.put t (hd t rfl) v

/-- One operation of a plain region. -/
theorem step (hs : St a n l) (hg : o.guard = none) (hd : ∀ t, o.dst = some t → t < n) {K : Value → World → Prop} (h : Does P o a.eval w K)
    (hn : ∀ v w', K v w' → ∀ a', St a' n (Vp.ext l o.dst v) → wpList P ops Q rest a' w') : wpList P ops Q (o :: rest) a w :=
  wpList_plain hg fun _ hK => wp_of_does h fun v w' hk => hK _ _ (hn v w' hk _ (hs.putO o.dst hd v))
theorem lt_of {o : Oper} {n : Nat} (h : (match o.dst with | some d => decide (d < n) | none => true) = true) : ∀ t, o.dst = some t → t < n := by
  intro t ht; rw [ht] at h; simpa using h
theorem step_val (hs : St a n l) (V : Value) (hg : o.guard = none) (hd : (match o.dst with | some d => decide (d < n) | none => true) = true) (hrun : (execOp a.eval o).run P w = .ok (.value V) w)
    (hn : ∀ a', St a' n (Vp.ext l o.dst V) → wpList P ops Q rest a' w) : wpList P ops Q (o :: rest) a w :=
  step (K := fun v w' => v = V ∧ w' = w) hs hg (lt_of hd) (by unfold Does; rw [hrun]; exact ⟨rfl, rfl⟩) (fun v w' hk a' ha => by obtain ⟨rfl, rfl⟩ := hk; exact hn a' ha)
theorem step_to (hs : St a n l) (V : Value) (w1 : World) (hg : o.guard = none) (hd : (match o.dst with | some d => decide (d < n) | none => true) = true) (hrun : (execOp a.eval o).run P w = .ok (.value V) w1)
    (hn : ∀ a', St a' n (Vp.ext l o.dst V) → wpList P ops Q rest a' w1) : wpList P ops Q (o :: rest) a w :=
  step (K := fun v w' => v = V ∧ w' = w1) hs hg (lt_of hd) (by unfold Does; rw [hrun]; exact ⟨rfl, rfl⟩) (fun v w' hk a' ha => by obtain ⟨rfl, rfl⟩ := hk; exact hn a' ha)
theorem step_move (hs : St a n l) {x : Operand} (V : Value) (hop : o.op = .move x ∨ o.op = .assign x) (hg : o.guard = none) (hd : (match o.dst with | some d => decide (d < n) | none => true) = true) (hx : ev l x = some V)
    (hn : ∀ a', St a' n (Vp.ext l o.dst V) → wpList P ops Q rest a' w) : wpList P ops Q (o :: rest) a w := by
  refine step_val hs V hg hd ?_ hn
  unfold execOp
  rcases hop with h | h <;> rw [h] <;> simp only [hs.ev hx] <;> rfl
theorem step_call (hs : St a n l) {f : Nat} {args : Array Value} (hg : o.guard = none) (hd : (match o.dst with | some d => decide (d < n) | none => true) = true) (hrun : (execOp a.eval o).run P w = .ok (.enter f args) w)
    (hc : Calls P f args w (fun e w' => ∃ v, e = .returned v ∧ ∀ a', St a' n (Vp.ext l o.dst v) → wpList P ops Q rest a' w')) : wpList P ops Q (o :: rest) a w :=
  step (K := fun v w' => ∀ a', St a' n (Vp.ext l o.dst v) → wpList P ops Q rest a' w') hs hg (lt_of hd) (does_call hrun hc) (fun v w' hk a' ha => hk a' ha)
/-- A variable of several cells is read. -/
theorem step_load (hs : St a n l) {ty : TypeId} {x : Operand} {b off k : Nat} {A : Array Value} {d : TypeDesc} (cs : List Value) (hop : o.op = .load ty x) (hg : o.guard = none) (hd : (match o.dst with | some d => decide (d < n) | none => true) = true)
    (hx : ev l x = some (.pointer (some ⟨b, off, none⟩))) (hb : Bx w b A) (hcs : (A.toList.drop off).take k = cs) (hk : cs.length = k) (hu : P.underlying ty = some d) (hrow : d.isRow = true) (hi : (P.info? ty).map (·.size) = some k)
    (hn : ∀ a', St a' n (Vp.ext l o.dst (.agg cs.toArray)) → wpList P ops Q rest a' w) : wpList P ops Q (o :: rest) a w := by
  refine step_val hs (.agg cs.toArray) hg hd ?_ hn
  unfold execOp
  simp only [hop, hs.ev hx, Sem.run_bind, run_loadAt_mid w b off ty cs d (hb.range off k hcs) hu hrow (by rw [hk]; exact hi)]
  rfl
theorem run_load1 {ty : TypeId} {b off : Nat} {d : TypeDesc} {v : Value} (hv : w.cell? ⟨b, off, none⟩ = some v) (hu : P.underlying ty = some d) (hrow : d.isRow = false) :
    (Instr.loadAt ty (.pointer (some ⟨b, off, none⟩))).run P w = .ok v w := by
  have hagg : (isAgg ty).run P w = .ok false w := by
    unfold isAgg
    rw [Sem.run_bind, run_underlying hu w]
    cases d <;> simp_all
  simp only [Sem.run_bind, Instr.loadAt, Instr.sureAddr, Sem.run_pure, Result.andThen_ok, loadVar, hagg]
  simp [hv]
/-- A variable of one cell is read. -/
theorem step_load1 (hs : St a n l) {ty : TypeId} {x : Operand} {b off : Nat} {A : Array Value} {d : TypeDesc} (v : Value) (hop : o.op = .load ty x) (hg : o.guard = none) (hd : (match o.dst with | some d => decide (d < n) | none => true) = true)
    (hx : ev l x = some (.pointer (some ⟨b, off, none⟩))) (hb : Bx w b A) (hv : A[off]? = some v) (hu : P.underlying ty = some d) (hrow : d.isRow = false)
    (hn : ∀ a', St a' n (Vp.ext l o.dst v) → wpList P ops Q rest a' w) : wpList P ops Q (o :: rest) a w := by
  refine step_val hs v hg hd ?_ hn
  unfold execOp
  simp only [hop, hs.ev hx, Sem.run_bind, run_load1 (P := P) (ty := ty) ((hb.2.1 off).trans hv) hu hrow]
  rfl
/-- A variable of several cells is written. -/
theorem step_store (hs : St a n l) {ty : TypeId} {x y : Operand} {b off : Nat} {A : Array Value} (cs : List Value) (hop : o.op = .store ty x y) (hg : o.guard = none) (hd : o.dst = none)
    (hx : ev l x = some (.pointer (some ⟨b, off, none⟩))) (hy : ev l y = some (.agg cs.toArray)) (hb : Bx w b A) (hlen : decide (off + cs.length ≤ A.size) = true) (hi : (P.info? ty).map (·.size) = some cs.length) (h1 : cs.all (·.oneCell') = true)
    (hn : ∀ a', St a' n l → wpList P ops Q rest a' (w.setCells b off cs)) : wpList P ops Q (o :: rest) a w := by
  have hth : w.there b off cs.toArray.size := fun j hj => by
    have h2 : off + cs.length ≤ A.size := by simpa using hlen
    have h3 : j < cs.length := by simpa using hj
    rw [hb.2.1, hb.2.2, Array.getElem?_eq_getElem (by omega)]; exact ⟨rfl, rfl⟩
  refine wpList_store_mid hg ty x y hop b off cs.toArray (hs.ev hx) (hs.ev hy) hth (by rw [hi]; simp) (by rw [← h1]; simp) ?_
  rw [hd]
  exact hn a hs
/-- A variable of one cell is written. -/
theorem step_store1 (hs : St a n l) {ty : TypeId} {x y : Operand} {b off : Nat} {A : Array Value} (v : Value) (hop : o.op = .store ty x y) (hg : o.guard = none) (hd : o.dst = none)
    (hx : ev l x = some (.pointer (some ⟨b, off, none⟩))) (hy : ev l y = some v) (hb : Bx w b A) (hlen : decide (off < A.size) = true) (hi : (P.info? ty).map (·.size) = some 1) (h1 : v.cells = #[v]) (h1' : v.oneCell' = true)
    (hn : ∀ a', St a' n l → wpList P ops Q rest a' (w.setCells b off [v])) : wpList P ops Q (o :: rest) a w := by
  have h2 : off < A.size := by simpa using hlen
  refine step (K := fun u w' => w' = w.setCells b off [v]) hs hg (fun t ht => by rw [hd] at ht; cases ht) ?_ (fun u w' hk a' ha => ?_)
  · have hc := hb.2.1 off
    rw [Array.getElem?_eq_getElem h2] at hc
    have hrun : (Instr.storeAt ty (.pointer (some ⟨b, off, none⟩)) v).run P w = .ok () (w.setCell ⟨b, off, none⟩ v) := by
      cases hq : P.info? ty with
      | none => simp [hq] at hi
      | some i =>
        have hsz : i.size = 1 := by simpa [hq] using hi
        have := run_storeCells_cells (P := P) b off [v] 0 w (fun j hj => by have : j = 0 := by simpa using hj
                                                                            subst this; simp [hc]) (fun j hj => by simpa using hb.2.2 (off + j)) (fun u hu => by simp at hu; subst hu; exact h1')
        simp only [Nat.add_zero] at this
        simp [Instr.storeAt, Instr.sureAddr, storeVar, sizeOf, typeInfo, hq, h1, hsz, this]
        rfl
    unfold Does execOp
    simp only [hop, hs.ev hx, hs.ev hy, Sem.run_bind, hrun]
    rfl
  · subst hk
    rw [hd] at ha
    exact hn a' ha

def evs (l : List (Nat × Value)) : List Operand → Option (List Value)
  | [] => some []
  | x :: xs => (ev l x).bind fun v => (evs l xs).map fun vs => v :: vs
theorem St.evs (h : St a n l) : ∀ {xs : List Operand} {vs : List Value}, evs l xs = some vs → xs.map a.eval = vs
  | [], vs, he => by obtain rfl := Option.some.inj he; rfl
  | x :: xs, vs, he => by
    simp only [Vp.evs, Option.bind_eq_some_iff, Option.map_eq_some_iff] at he
    obtain ⟨v, hv, vs', hvs, rfl⟩ := he
    rw [List.map_cons, h.ev hv, h.evs hvs]
theorem run_callf {xs ts : Array _} {f : Nat} {fn : Func} (hf : P.funcs[f]? = some fn) (hnm : (fn.name == "runtime.NumGoroutine") = false) (hbd : fn.body.isNone = false) (hop : o.op = .call { callee := .value (.func f), args := xs, argTypes := ts }) : (execOp a.eval o).run P w = .ok (.enter f (xs.map a.eval)) w := by
  have hb' : ∃ c, fn.body = some c := by
    cases h : fn.body with
    | none => rw [h] at hbd; cases hbd
    | some c => exact ⟨c, rfl⟩
  obtain ⟨c, hc⟩ := hb'
  have h1 : (callFunc f (xs.map a.eval)).run P w = .ok (.enter f (xs.map a.eval)) w := by
    have h1 : fn.name ≠ "runtime.NumGoroutine" := by simpa using hnm
    simp [callFunc, hf, hc, h1]
  have h2 : a.eval (.func f) = .func (.func f) #[] #[] := rfl
  unfold execOp
  rw [hop]
  generalize a.eval = ρ at *
  simp [go_sem, h1, h2]
/-- A call of a function that is named. -/
theorem step_callf (hs : St a n l) {f : Nat} {fn : Func} (hf : P.funcs[f]? = some fn) (hnm : (fn.name == "runtime.NumGoroutine") = false) (hbd : fn.body.isNone = false) {xs : List Operand} {ts : Array TypeId} (vs : List Value) (hop : o.op = .call { callee := .value (.func f), args := xs.toArray, argTypes := ts }) (hg : o.guard = none) (hd : (match o.dst with | some d => decide (d < n) | none => true) = true) (hx : evs l xs = some vs)
    (hc : Calls P f vs.toArray w (fun e w' => ∃ v, e = .returned v ∧ ∀ a', St a' n (Vp.ext l o.dst v) → wpList P ops Q rest a' w')) : wpList P ops Q (o :: rest) a w :=
  step_call hs hg hd (by rw [run_callf hf hnm hbd hop, ← hs.evs hx]; simp) hc
/-- A variable is made for a value that came in. -/
theorem step_box (hs : St a n l) {ty : TypeId} {x : Operand} (V : Value) (A : Array Value) (hop : o.op = .box ty x) (hg : o.guard = none) (hd : (match o.dst with | some d => decide (d < n) | none => true) = true) (hx : ev l x = some V)
    (hrun : (Instr.box ty V).run P w = .ok (.pointer (some ⟨w.heap.size, 0, none⟩)) (w.alloc (.cells A ty)))
    (hn : ∀ a' b W', b = w.heap.size → Ext w W' → Bx W' b A → St a' n (Vp.ext l o.dst (.pointer (some ⟨b, 0, none⟩))) → wpList P ops Q rest a' W') : wpList P ops Q (o :: rest) a w := by
  refine step_to hs (.pointer (some ⟨w.heap.size, 0, none⟩)) (w.alloc (.cells A ty)) hg hd ?_ (fun a' ha => hn a' _ _ rfl (below_alloc _ _) (bx_new _ _ _) ha)
  unfold execOp
  simp only [hop, hs.ev hx, Sem.run_bind, hrun]
  rfl
theorem step_alloc (hs : St a n l) {ty : TypeId} (A : Array Value) (hop : o.op = .alloc ty) (hg : o.guard = none) (hd : (match o.dst with | some d => decide (d < n) | none => true) = true)
    (hrun : (Instr.alloc ty true (.tuple #[])).run P w = .ok (.pointer (some ⟨w.heap.size, 0, none⟩)) (w.alloc (.cells A ty)))
    (hn : ∀ a' b W', b = w.heap.size → Ext w W' → Bx W' b A → St a' n (Vp.ext l o.dst (.pointer (some ⟨b, 0, none⟩))) → wpList P ops Q rest a' W') : wpList P ops Q (o :: rest) a w := by
  refine step_to hs (.pointer (some ⟨w.heap.size, 0, none⟩)) (w.alloc (.cells A ty)) hg hd ?_ (fun a' ha => hn a' _ _ rfl (below_alloc _ _) (bx_new _ _ _) ha)
  unfold execOp
  simp only [hop, Sem.run_bind, hrun]
  rfl
/-- An operation that makes a row (buildSlice, makeSlice). -/
theorem step_row (hs : St a n l) {ty : TypeId} (A : Array Value) (m : Nat) (hg : o.guard = none) (hd : (match o.dst with | some d => decide (d < n) | none => true) = true)
    (hrun : (execOp a.eval o).run P w = .ok (.value (.slice (some ⟨w.heap.size, 0, none⟩) m m)) (w.alloc (.cells A ty)))
    (hn : ∀ a' b W', b = w.heap.size → Ext w W' → Bx W' b A → St a' n (Vp.ext l o.dst (.slice (some ⟨b, 0, none⟩) m m)) → wpList P ops Q rest a' W') : wpList P ops Q (o :: rest) a w :=
  step_to hs _ (w.alloc (.cells A ty)) hg hd hrun (fun a' ha => hn a' _ _ rfl (below_alloc _ _) (bx_new _ _ _) ha)
/-- A guarded operation of a plain region. -/
theorem step_guard (hs : St a n l) {g t : Nat} {b : Bool} (G : Bool) (V : Value) (hg : o.guard = some (g, b)) (ht : (ops[g]?).bind (·.dst) = some t) (hw : a.eval (.tmp t) = .bool b ↔ G = true) (hd : (match o.dst with | some d => decide (d < n) | none => true) = true)
    (hrun : G = true → (execOp a.eval o).run P w = .ok (.value V) w) (hn : ∀ a', St a' n (Vp.ext l o.dst (cond G V undef)) → wpList P ops Q rest a' w) : wpList P ops Q (o :: rest) a w := by
  unfold wpList
  have hwi := wanted_iff (ops := ops) (a := a) hg
  rw [ht] at hwi
  by_cases hG : G = true
  · rw [if_pos (hwi.2 (hw.2 hG))]
    left
    unfold Oper.wp
    rw [hrun hG]
    simp only [Oper.upon]
    rw [hG] at hn
    exact hn _ (hs.putO o.dst (lt_of hd) V)
  · rw [if_neg (fun h => hG (hw.1 (hwi.1 h)))]
    have e : G = false := by simpa using hG
    rw [e] at hn
    exact hn _ (hs.putO o.dst (lt_of hd) undef)
theorem step_guard_call (hs : St a n l) {g t f : Nat} {fn : Func} (hf : P.funcs[f]? = some fn) (hnm : (fn.name == "runtime.NumGoroutine") = false) (hbd : fn.body.isNone = false) {b : Bool} {xs : List Operand} {ts : Array TypeId} (G : Bool) (V : Value) (vs : List Value) (hg : o.guard = some (g, b)) (ht : (ops[g]?).bind (·.dst) = some t) (hw : a.eval (.tmp t) = .bool b ↔ G = true)
    (hd : (match o.dst with | some d => decide (d < n) | none => true) = true) (hop : o.op = .call { callee := .value (.func f), args := xs.toArray, argTypes := ts }) (hx : G = true → evs l xs = some vs)
    (hc : G = true → Calls P f vs.toArray w (fun e w' => e = .returned V ∧ Ext w w')) (hn : ∀ a' w', Ext w w' → St a' n (Vp.ext l o.dst (cond G V undef)) → wpList P ops Q rest a' w') : wpList P ops Q (o :: rest) a w := by
  unfold wpList
  have hwi := wanted_iff (ops := ops) (a := a) hg
  rw [ht] at hwi
  by_cases hG : G = true
  · rw [if_pos (hwi.2 (hw.2 hG))]
    left
    unfold Oper.wp
    rw [run_callf hf hnm hbd hop]
    simp only [Oper.upon]
    have e : xs.toArray.map a.eval = vs.toArray := by rw [← hs.evs (hx hG)]; simp
    rw [e]
    rw [hG] at hn
    refine (hc hG).mono fun e w' hk => ?_
    obtain ⟨rfl, hb⟩ := hk
    exact hn _ _ hb (hs.putO o.dst (lt_of hd) V)
  · rw [if_neg (fun h => hG (hw.1 (hwi.1 h)))]
    have e : G = false := by simpa using hG
    rw [e] at hn
    exact hn _ _ (Below.refl _ _) (hs.putO o.dst (lt_of hd) undef)
theorem gw_t {B : Bool} {x : Value} (h : x = .bool B) : x = .bool true ↔ B = true := by rw [h]; simp
theorem gw_f {B : Bool} {x : Value} (h : x = .bool B) : x = .bool false ↔ (!B) = true := by rw [h]; simp
theorem ggw_t {G B : Bool} {x : Value} (h : x = _root_.cond G (.bool B) undef) : x = .bool true ↔ (G && B) = true := by rw [h]; cases G <;> simp [undef]
theorem ggw_f {G B : Bool} {x : Value} (h : x = _root_.cond G (.bool B) undef) : x = .bool false ↔ (G && !B) = true := by rw [h]; cases G <;> simp [undef]
theorem step_pick (hs : St a n l) {c x y : Operand} {A : Bool} (V : Value) (hop : o.op = .pick c x y) (hg : o.guard = none) (hd : (match o.dst with | some d => decide (d < n) | none => true) = true) (hc : ev l c = some (.bool A)) (hV : (if A = true then a.eval x else a.eval y) = V)
    (hn : ∀ a', St a' n (Vp.ext l o.dst V) → wpList P ops Q rest a' w) : wpList P ops Q (o :: rest) a w := by
  refine step_val hs V hg hd ?_ hn
  have h1 := hs.ev hc
  unfold execOp
  rw [hop, ← hV]
  generalize a.eval = ρ at *
  simp [h1, asBool, go_sem]
theorem run_pick {c x y : Operand} {A : Bool} {V : Value} (hop : o.op = .pick c x y) (hc : a.eval c = .bool A) (hV : (if A = true then a.eval x else a.eval y) = V) : (execOp a.eval o).run P w = .ok (.value V) w := by
  unfold execOp
  rw [hop, ← hV]
  generalize a.eval = ρ at *
  simp [hc, asBool, go_sem]
theorem run_move {x : Operand} {V : Value} (hop : o.op = .move x ∨ o.op = .assign x) (hx : a.eval x = V) : (execOp a.eval o).run P w = .ok (.value V) w := by
  unfold execOp
  rcases hop with h | h <;> rw [h] <;> simp only [hx] <;> rfl
theorem run_load {ty : TypeId} {x : Operand} {b off k : Nat} {A : Array Value} {d : TypeDesc} (cs : List Value) (hop : o.op = .load ty x) (hx : a.eval x = .pointer (some ⟨b, off, none⟩)) (hb : Bx w b A) (hcs : (A.toList.drop off).take k = cs) (hk : cs.length = k) (hu : P.underlying ty = some d) (hrow : d.isRow = true)
    (hi : (P.info? ty).map (·.size) = some k) : (execOp a.eval o).run P w = .ok (.value (.agg cs.toArray)) w := by
  unfold execOp
  simp only [hop, hx, Sem.run_bind, run_loadAt_mid w b off ty cs d (hb.range off k hcs) hu hrow (by rw [hk]; exact hi)]
  rfl
theorem run_load1' {ty : TypeId} {x : Operand} {b off : Nat} {A : Array Value} {d : TypeDesc} (v : Value) (hop : o.op = .load ty x) (hx : a.eval x = .pointer (some ⟨b, off, none⟩)) (hb : Bx w b A) (hv : A[off]? = some v) (hu : P.underlying ty = some d) (hrow : d.isRow = false) : (execOp a.eval o).run P w = .ok (.value v) w := by
  unfold execOp
  simp only [hop, hx, Sem.run_bind, run_load1 (P := P) (ty := ty) ((hb.2.1 off).trans hv) hu hrow]
  rfl

/-! ### Control -/
theorem then_ret {K : Act → World → Prop} (h : Q .ret a w) : Exit.then K Q .ret a w := h
theorem inBlock_ret {id : Nat} (h : Q .ret a w) : Exit.inBlock id Q .ret a w := h
theorem enter {f : FuncId} {fn : Func} {c : Code} {args : Array Value} {R : Ending → World → Prop} (hf : P.funcs[f]? = some fn) (hb : fn.body = some c) (hsz : decide (args.size ≤ fn.ntmps) = true)
    (h : ∀ a, St a fn.ntmps ((List.range args.size).zip args.toList) → c.wp P (bodyPost P fn R) a w) : Calls P f args w R := by
  refine calls_of_wp hf hb (h _ ⟨?_, rfl, fun i v hv => ?_⟩)
  · have : args.size ≤ fn.ntmps := by simpa using hsz
    simp; omega
  · have key : ∀ (l : List Value) (k : Nat), ((List.range' k l.length).zip l).lookup i = some v → k ≤ i ∧ l[i - k]? = some v := by
      intro l
      induction l with
      | nil => intro k h; simp at h
      | cons x l ih =>
        intro k h
        simp only [List.length_cons, List.range'_succ, List.zip_cons_cons, List.lookup_cons] at h
        by_cases hik : i = k
        · subst hik; simp at h; simp [h]
        · have e : (i == k) = false := by simpa using hik
          rw [e] at h
          obtain ⟨h1, h2⟩ := ih (k + 1) h
          exact ⟨by omega, by rw [show i - k = (i - (k + 1)) + 1 by omega, List.getElem?_cons_succ]; exact h2⟩
    rw [List.range_eq_range', ← Array.length_toList] at hv
    obtain ⟨-, h2⟩ := key args.toList 0 hv
    simp only [Nat.sub_zero] at h2
    simp only [Act.eval, Array.getD_eq_getD_getElem?]
    have hlt : i < args.size := by have := (List.getElem?_eq_some_iff.1 h2).1; simpa using this
    rw [Array.getElem?_append_left hlt]
    have : args[i]? = some v := by simpa using h2
    rw [this]; rfl
theorem region {id : Nat} {l' : List Oper} (h : wpList P l'.toArray Q l' a w) : (Code.region id l'.toArray false).wp P Q a w := wp_region_lit h
theorem cond (hs : St a n l) {c : Operand} {x y : Code} {t : Bool} (hc : ev l c = some (.bool t)) (ht : t = true → x.wp P Q a w) (hf : t = false → y.wp P Q a w) : (Code.cond c x y).wp P Q a w := wp_cond_split (hs.ev hc) ht hf
theorem cond_t (hs : St a n l) {c : Operand} {x y : Code} (hc : ev l c = some (.bool true)) (h : x.wp P Q a w) : (Code.cond c x y).wp P Q a w := wp_cond_true (hs.ev hc) h
theorem cond_f (hs : St a n l) {c : Operand} {x y : Code} (hc : ev l c = some (.bool false)) (h : y.wp P Q a w) : (Code.cond c x y).wp P Q a w := wp_cond_false (hs.ev hc) h
/-- A loop: what holds at each round's head, by an index that falls. -/
theorem loop {ι : Type} {c : Code} (I : ι → Act → World → Prop) (μ : ι → Nat) (i0 : ι) (h0 : I i0 a w)
    (round : ∀ i a w, I i a w → c.wp P (Exit.then (fun a' w' => ∃ i', I i' a' w' ∧ μ i' < μ i) Q) a w) : (Code.loop c).wp P Q a w := by
  intro b k cs
  have key : ∀ m i a w, μ i = m → I i a w → ∃ e a' w', Q e a' w' ∧ Arrives P (lone (b.at a (.code c :: .inLoop c :: k)) cs w) b k cs e a' w' := by
    intro m
    induction m using Nat.strongRecOn with
    | _ m ih =>
      intro i a w hm hI
      obtain ⟨e, a₁, w₁, hq, harr⟩ := round i a w hI b (.inLoop c :: k) cs
      cases e with
      | normal =>
        obtain ⟨i', hI₁, hlt⟩ := hq
        obtain ⟨e₂, a₂, w₂, hq₂, harr₂⟩ := ih (μ i') (hm ▸ hlt) i' a₁ w₁ rfl hI₁
        exact ⟨e₂, a₂, w₂, hq₂, .of_steps (Steps.trans harr (.one step_inLoop)) harr₂⟩
      | exit id => exact ⟨_, a₁, w₁, hq, .pass (x := .inLoop c) rfl (fun _ _ => .inl (by simp)) harr⟩
      | goto l => exact ⟨_, a₁, w₁, hq, .pass (x := .inLoop c) rfl (fun _ _ => .inl (by simp)) harr⟩
      | ret => exact ⟨_, a₁, w₁, hq, .pass (x := .inLoop c) rfl (fun _ _ => .inl (by simp)) harr⟩
      | panic ch => exact ⟨_, a₁, w₁, hq, .pass (x := .inLoop c) rfl (fun _ _ => .inl (by simp)) harr⟩
      | outgrown => exact ⟨_, a₁, w₁, hq, .pass (x := .inLoop c) rfl (fun _ _ => .inl (by simp)) harr⟩
  obtain ⟨e, a', w', hq, harr⟩ := key _ i0 a w rfl h0
  exact ⟨e, a', w', hq, .of_steps (.one step_loop) harr⟩
/-- The end: one result in a slot. -/
theorem end_tmp (hs : St a n l) {fn : Func} {R : Ending → World → Prop} {r : Nat} {v : Value} (hr : fn.results = #[.tmp r]) (hv : ev l (.tmp r) = some v) (h : R (.returned v) w) : bodyPost P fn R .ret a w := by
  refine ⟨hs.defers, v, ?_, h⟩
  have h1 := hs.ev hv
  unfold results
  rw [hr]
  simp only [Act.eval, Array.getD_eq_getD_getElem?] at h1
  simp [h1]
/-- The end: one result of several cells in a variable. -/
theorem end_cell (hs : St a n l) {fn : Func} {R : Ending → World → Prop} {r b : Nat} {ty : TypeId} {A : Array Value} {d : TypeDesc} (cs : List Value) (hr : fn.results = #[.cell r ty]) (hv : ev l (.tmp r) = some (.pointer (some ⟨b, 0, none⟩))) (hb : Bx w b A) (hA : A.toList = cs)
    (hu : P.underlying ty = some d) (hrow : d.isRow = true) (hi : (P.info? ty).map (·.size) = some cs.length) (h : R (.returned (.agg cs.toArray)) w) : bodyPost P fn R .ret a w := by
  refine ⟨hs.defers, _, ?_, h⟩
  have h1 := hs.ev hv
  have h2 := run_loadVar_mid (P := P) w b 0 ty cs d (hb.range 0 cs.length (by rw [hA]; simp)) hu hrow hi
  unfold results
  rw [hr]
  simp only [Act.eval, Array.getD_eq_getD_getElem?] at h1
  simp [h1, asAddr, h2]
theorem end_tmp2 (hs : St a n l) {fn : Func} {R : Ending → World → Prop} {r s : Nat} {v u : Value} (hr : fn.results = #[.tmp r, .tmp s]) (hv : ev l (.tmp r) = some v) (hu : ev l (.tmp s) = some u) (h : R (.returned (.tuple #[v, u])) w) : bodyPost P fn R .ret a w := by
  refine ⟨hs.defers, _, ?_, h⟩
  have h1 := hs.ev hv
  have h2 := hs.ev hu
  unfold results
  rw [hr]
  simp only [Act.eval, Array.getD_eq_getD_getElem?] at h1 h2
  simp [h1, h2]
/-- Behind the law for drawn regions: the slots. -/
def EndS (K : Act → Prop) (w : World) (n : Nat) : List Oper → List Fact → List (Nat × Value) → Prop
  | o :: os, T :: Us, l => ∀ v, T v w → EndS K w n os Us (Vp.ext l o.dst v)
  | _, _, l => ∀ a, St a n l → K a
theorem end_of {K : Act → Prop} : ∀ (os : List Oper) (Us : List Fact) (a : Act) (l : List (Nat × Value)), St a n l → (os.all fun o => match o.dst with | some d => decide (d < n) | none => true) = true → EndS K w n os Us l → Go.Rel.End K w os Us a
  | [], _, a, l, hs, _, h => by cases ‹List Fact› <;> exact h a hs
  | _ :: _, [], a, l, hs, _, h => h a hs
  | o :: os, T :: Us, a, l, hs, hd, h => fun v hv => by
    rw [List.all_cons, Bool.and_eq_true] at hd
    exact end_of os Us _ _ (hs.putO o.dst (lt_of hd.1) v) hd.2 (h v hv)
end
end Go.Vp
