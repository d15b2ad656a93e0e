/- Ground for every seat: byte slices that read as lists, and small facts on worlds. No program in sight. -/
import Derived.WalkKit
import Derived.WalkLawsBesides
import Derived.WalkSpells
import Derived.Lib.Hide
import Derived.Laws.AppendOwnNone
import Derived.Lib.SliceRun
import Derived.Laws.BytesArg
namespace Go.Proofs.YtnenbmbgmmeiaaaDoor
open Go.RowKit
variable {α : Type}

/-- The slice value v reads in the world w as the list l of cells, each element one cell. -/
def IsRowOf (f : α → Value) (w : World) (v : Value) (l : List α) : Prop :=
  ∃ a cap, v = .slice a l.length cap ∧ cap ≤ maxLen ∧
    ((l = [] ∧ (a = none → cap = 0)) ∨
      ∃ b o, a = some ⟨b, o, none⟩ ∧ b < w.heap.size ∧ l.length ≤ cap ∧ ∀ i (h : i < l.length), w.cell? ⟨b, o + i, none⟩ = some (f l[i]))

abbrev u8v (x : UInt8) : Value := .int .u8 (x.toNat : Int)
abbrev u32v (x : UInt32) : Value := .int .u32 (x.toNat : Int)
abbrev u64v (x : UInt64) : Value := .int .u64 (x.toNat : Int)

abbrev IsBytes (w : World) (v : Value) (l : List UInt8) : Prop := IsRowOf u8v w v l

theorem IsRowOf.below {f : α → Value} {w w' : World} {v : Value} {l : List α} (h : IsRowOf f w v l) (hb : Below w.heap.size w w') : IsRowOf f w' v l := by
  obtain ⟨a, cap, hv, hm, h⟩ := h
  refine ⟨a, cap, hv, hm, ?_⟩
  rcases h with h | ⟨b, o, ha, hlt, hl, hc⟩
  · exact .inl h
  · exact .inr ⟨b, o, ha, by have := hb.size; omega, hl, fun i hi => by rw [hb.cell (p := ⟨b, o + i, none⟩) hlt]; exact hc i hi⟩

theorem row_len {f : α → Value} {w : World} {a : Option Addr} {cap : Nat} {l : List α} (hm : cap ≤ maxLen)
    (h : (l = [] ∧ (a = none → cap = 0)) ∨
      ∃ b o, a = some ⟨b, o, none⟩ ∧ b < w.heap.size ∧ l.length ≤ cap ∧ ∀ i (h : i < l.length), w.cell? ⟨b, o + i, none⟩ = some (f l[i])) :
    l.length ≤ 9223372036854775807 := by
  unfold maxLen at hm
  rcases h with ⟨rfl, _⟩ | ⟨_, _, _, _, h, _⟩
  · simp
  · omega

theorem ret_int {k : IntKind} {a b : Int} (h : a = b) : Ending.returned (.int k a) = .returned (.int k b) := by rw [h]
theorem val_int {k : IntKind} {a b : Int} (h : a = b) : Value.int k a = .int k b := by rw [h]


theorem val_i64 {a b : Int} (h : a = b) : Value.int .i64 a = .int .i64 b := by rw [h]

/-- n elements of size cells each, the cells xs, wherever the slice value leads. -/
def RawRow (w : World) (size : Nat) (v : Value) (n : Nat) (xs : List Value) : Prop :=
  xs.length = n * size ∧ (∀ u ∈ xs, u.oneCell' = true) ∧
    ((n = 0 ∧ ∃ a cap, v = .slice a 0 cap ∧ (a = none → cap = 0)) ∨
      ∃ b o cap, v = .slice (some ⟨b, o, none⟩) n cap ∧ b < w.heap.size ∧ n ≤ cap ∧ cap ≤ maxLen ∧ ∀ (j : Nat) u, xs[j]? = some u → w.cell? ⟨b, o + j, none⟩ = some u)

theorem IsRowOf.raw {f : α → Value} (hf : ∀ x, (f x).oneCell' = true) {w : World} {v : Value} {l : List α} (h : IsRowOf f w v l) : RawRow w 1 v l.length (l.map f) := by
  obtain ⟨a, cap, rfl, hm, h⟩ := h
  refine ⟨by simp, by simpa using fun x _ => hf x, ?_⟩
  rcases h with ⟨rfl, hz⟩ | ⟨b, o, rfl, hb, hl, hc⟩
  · exact .inl ⟨rfl, a, cap, rfl, hz⟩
  · refine .inr ⟨b, o, cap, rfl, hb, hl, hm, fun j u hj => ?_⟩
    have hlt : j < l.length := by
      have := (List.getElem?_eq_some_iff.1 hj).1; simpa using this
    rw [hc j hlt]
    simpa [List.getElem?_eq_getElem hlt] using hj

theorem ownsRow_raw {w : World} {base : Nat} {e : TypeId} {size : Nat} {v : Value} {n : Nat} {xs : List Value} (h : w.ownsRow base e size v n xs)
    (h1 : ∀ u ∈ xs, u.oneCell' = true) : RawRow w size v n xs := by
  refine ⟨h.1, h1, ?_⟩
  have hlt := h.lt
  rcases h.2 with ⟨rfl, rfl⟩ | ⟨g, cap, cur, rfl, hb, hg, hn, hm, hc, ht⟩
  · exact .inl ⟨rfl, none, 0, rfl, fun _ => rfl⟩
  · refine .inr ⟨g, 0, cap, rfl, (hlt g rfl).2, hn, hm, fun j u hj => ?_⟩
    have hj' : j < n * size := by
      have := (List.getElem?_eq_some_iff.1 hj).1; rw [h.1] at this; exact this
    rw [Nat.zero_add, h.cellAt j hj', hj]

theorem ownsRow_row {f : α → Value} {w : World} {base : Nat} {e : TypeId} {v : Value} {l : List α} (h : w.ownsRow base e 1 v l.length (l.map f)) : IsRowOf f w v l := by
  have hlt := h.lt
  rcases h.2 with ⟨rfl, h0⟩ | ⟨g, cap, cur, rfl, hb, hg, hn, hm, hc, ht⟩
  · exact ⟨none, 0, by rw [h0], Nat.zero_le _, .inl ⟨List.eq_nil_of_length_eq_zero h0, fun _ => rfl⟩⟩
  · refine ⟨_, cap, rfl, hm, .inr ⟨g, 0, rfl, (hlt g rfl).2, hn, fun i hi => ?_⟩⟩
    rw [Nat.zero_add, h.cellAt i (by omega)]
    simp [List.getElem?_eq_getElem hi]

/-- What a program's tables say of a slice type: its element's type, the zero element, its cells, its bytes. -/
structure SliceTy (P : Program) (t e : TypeId) (z : Value) (size bytes : Nat) : Prop where
  und : P.underlying t = some (.slice e)
  info : ∃ i, P.info? e = some i ∧ i.zero = some z ∧ i.size = size ∧ i.bytes = bytes
  zc : z.cells.size = size
  pos : 0 < size

theorem wpList_append_raw {P : Program} {w : World} {ops : Array Oper} {rest : List Oper} {o : Oper} {a : Act} {Q : Exit → Act → World → Prop}
    (hgd : o.guard = none) (s x : Operand) (t : TypeId) (ho : o.op = .call { callee := .builtin .append, args := #[s, x], argTypes := #[t, t] })
    {e : TypeId} {z : Value} {size bytes : Nat} (T : SliceTy P t e z size bytes) (base : Nat)
    {v : Value} {n : Nat} {xs : List Value} (hown : w.ownsRow base e size v n xs) (hs : a.eval s = v)
    {y : Value} {m : Nat} {ys : List Value} (hy : RawRow w size y m ys) (hx : a.eval x = y)
    (h63 : n + m ≤ maxLen) (hbytes : (n + m) * bytes ≤ 140737488355328) (hbase : base ≤ w.heap.size)
    (h : ∀ v' w', w'.ownsRow base e size v' (n + m) (xs ++ ys) → w.grownBy w' v.ownBlock → wpList P ops Q rest (a.put o.dst v') w') : wpList P ops Q (o :: rest) a w := by
  obtain ⟨i, hi, hz', hsz, hby⟩ := T.info
  obtain ⟨hl, h1, hy⟩ := hy
  rcases hy with ⟨rfl, ad, cap, rfl, hz⟩ | ⟨b, off, cap, rfl, hb, hn, hm, hc⟩
  · have : ys = [] := List.eq_nil_of_length_eq_zero (by simpa using hl)
    subst this
    rcases ad with _ | ad
    case some =>
      refine wpList_append_own w hgd s x t ho base e i z size bytes T.und hi hz' hsz hby T.zc T.pos v n xs hs hown ad 0 cap [] hx (by simp) (by simp) (by simp) h63 hbytes hbase ?_
      intro v' w' h2 h3 _; exact h v' w' h2 h3
    obtain rfl := hz rfl
    refine wpList_append_own_none hgd s x t ho base e i size T.und hi v n xs hs hown hx ?_
    exact h v w (by simpa using hown) ⟨rfl, rfl, rfl, Nat.le_refl _, fun _ _ _ => rfl⟩
  · refine wpList_append_own w hgd s x t ho base e i z size bytes T.und hi hz' hsz hby T.zc T.pos v n xs hs hown ⟨b, off, none⟩ m cap ys hx hl ?_ h1 h63 hbytes hbase ?_
    · intro j u hj
      have : (⟨b, off, none⟩ : Addr).add j = ⟨b, off + j, none⟩ := by unfold Addr.add; split <;> simp_all
      rw [this]; exact hc j u hj
    · intro v' w' h2 h3 _; exact h v' w' h2 h3

/-- 'string(b)' of a slice of bytes. -/
theorem run_string_row {P : Program} {w : World} {src e dst : TypeId} (hs : P.underlying src = some (.slice e)) (he : P.underlying e = some (.int .u8)) (hd : P.underlying dst = some .string)
    {v : Value} {l : List UInt8} (h : IsBytes w v l) : (convert src dst v).run P w = .ok (.string ⟨l.toArray⟩) w := by
  obtain ⟨a, cap, rfl, hm, h⟩ := h
  rcases h with ⟨rfl, hz⟩ | ⟨b, o, rfl, hb, hl, hc⟩
  · rcases a with _ | ad
    · exact run_convert_bytes_nil w src e hs he _ _ dst hd
    · have hl : (loadCells ad 0).run P w = .ok (([] : List Int).map (Value.int .u8)).toArray w := by simpa using run_loadCells_list (P := P) w ad [] (by simp)
      rw [run_convert_bytes_string w src dst e _ _ cap hs he hd]
      exact (run_bytesToString w ad 0 cap [] hl).trans rfl
  · rw [run_convert_bytes_arg w src e hs he b o l.length cap (l.map fun c => (c.toNat : Int)) (by simp) ?_ dst hd]
    · congr 2
      simp only [strOfNums, List.map_map]
      congr 2
      rw [List.map_congr_left (g := id) (fun c _ => by simp)]; simp
    · intro i hi
      rw [hc i hi]; simp [List.getElem?_eq_getElem hi]


/-- A slice whose elements take one cell each and read by R. -/
def IsSl1 (R : World → Value → α → Prop) (w : World) (v : Value) (l : List α) : Prop :=
  ∃ a cap, v = .slice a l.length cap ∧ cap ≤ maxLen ∧
    ((l = [] ∧ (a = none → cap = 0)) ∨
      ∃ b o, a = some ⟨b, o, none⟩ ∧ b < w.heap.size ∧ l.length ≤ cap ∧ ∀ i (h : i < l.length), ∃ x, w.cell? ⟨b, o + i, none⟩ = some x ∧ R w x l[i])

theorem IsSl1.below {R : World → Value → α → Prop} (hR : ∀ w w' x y, Below w.heap.size w w' → R w x y → R w' x y) {w w' : World} {v : Value} {l : List α}
    (h : IsSl1 R w v l) (hb : Below w.heap.size w w') : IsSl1 R w' v l := by
  obtain ⟨a, cap, hv, hm, h⟩ := h
  refine ⟨a, cap, hv, hm, ?_⟩
  rcases h with h | ⟨b, o, ha, hlt, hl, hc⟩
  · exact .inl h
  · refine .inr ⟨b, o, ha, by have := hb.size; omega, hl, fun i hi => ?_⟩
    obtain ⟨x, hx, hr⟩ := hc i hi
    exact ⟨x, by rw [hb.cell (p := ⟨b, o + i, none⟩) hlt]; exact hx, hR _ _ _ _ hb hr⟩

abbrev IsParts (w : World) (v : Value) (ls : List (List UInt8)) : Prop := IsSl1 IsBytes w v ls

theorem sl_len {R : World → Value → α → Prop} {w : World} {a : Option Addr} {cap : Nat} {l : List α} (hm : cap ≤ maxLen)
    (h : (l = [] ∧ (a = none → cap = 0)) ∨
      ∃ b o, a = some ⟨b, o, none⟩ ∧ b < w.heap.size ∧ l.length ≤ cap ∧ ∀ i (h : i < l.length), ∃ x, w.cell? ⟨b, o + i, none⟩ = some x ∧ R w x l[i]) :
    l.length ≤ 9223372036854775807 := by
  unfold maxLen at hm
  rcases h with ⟨rfl, _⟩ | ⟨_, _, _, _, h, _⟩
  · simp
  · omega

theorem take_snoc (l : List α) (k : Nat) (h : k < l.length) : l.take (k + 1) = l.take k ++ [l[k]] := by
  rw [List.take_succ_eq_append_getElem h]

theorem RawRow.below {w w' : World} {size : Nat} {v : Value} {n : Nat} {xs : List Value} (h : RawRow w size v n xs) (hb : Below w.heap.size w w') : RawRow w' size v n xs := by
  obtain ⟨h1, h2, h⟩ := h
  refine ⟨h1, h2, ?_⟩
  rcases h with h | ⟨b, o, cap, hv, hlt, hl, hm, hc⟩
  · exact .inl h
  · exact .inr ⟨b, o, cap, hv, by have := hb.size; omega, hl, hm, fun j u hj => by rw [hb.cell (p := ⟨b, o + j, none⟩) hlt]; exact hc j u hj⟩
theorem raw_alloc {w : World} {size : Nat} {v : Value} {n : Nat} {xs : List Value} (h : RawRow w size v n xs) (o : Obj) : RawRow (w.alloc o) size v n xs :=
  h.below ((Below.refl _ _).alloc (Nat.le_refl _) o)
theorem IsRowOf.len {f : α → Value} {w : World} {v : Value} {l : List α} (h : IsRowOf f w v l) : l.length ≤ maxLen := by
  obtain ⟨a, cap, rfl, hm, h⟩ := h
  rcases h with ⟨rfl, _⟩ | ⟨b, o, rfl, hb, hl, hc⟩
  · simp
  · omega

theorem raw_new (w : World) (cs : Array Value) (e : TypeId) (n size : Nat) (hs : cs.size = n * size) (hm : n ≤ maxLen) (h1 : ∀ u ∈ cs.toList, u.oneCell' = true) :
    RawRow (w.alloc (.cells cs e)) size (.slice (some ⟨w.heap.size, 0, none⟩) n n) n cs.toList := by
  refine ⟨by simpa using hs, h1, .inr ⟨w.heap.size, 0, n, rfl, by simp, Nat.le_refl _, hm, fun j u hj => ?_⟩⟩
  rw [Nat.zero_add, World.cell?_alloc_at _ _ _ _ rfl]; simpa using hj
theorem row_new {f : α → Value} (w : World) (l : List α) (e : TypeId) (hm : l.length ≤ maxLen) :
    IsRowOf f (w.alloc (.cells (l.map f).toArray e)) (.slice (some ⟨w.heap.size, 0, none⟩) l.length l.length) l := by
  refine ⟨_, _, rfl, hm, .inr ⟨_, _, rfl, by simp, Nat.le_refl _, fun i hi => ?_⟩⟩
  rw [Nat.zero_add, World.cell?_alloc_at _ _ _ _ rfl]; simp [List.getElem?_eq_getElem hi]
theorem sl1_new {R : World → Value → α → Prop} (w : World) (x : Value) (y : α) (e : TypeId) (h : R (w.alloc (.cells #[x] e)) x y) :
    IsSl1 R (w.alloc (.cells #[x] e)) (.slice (some ⟨w.heap.size, 0, none⟩) 1 1) [y] := by
  refine ⟨_, _, rfl, by unfold maxLen; omega, .inr ⟨_, _, rfl, by simp, Nat.le_refl _, fun i hi => ?_⟩⟩
  have : i = 0 := by simpa using hi
  subst this
  exact ⟨x, by rw [World.cell?_alloc_at _ _ _ _ rfl]; simp, h⟩
theorem ownsRow_mono {w : World} {base base' : Nat} {e : TypeId} {size : Nat} {v : Value} {n : Nat} {xs : List Value} (h : w.ownsRow base e size v n xs) (hb : base' ≤ base) : w.ownsRow base' e size v n xs := by
  obtain ⟨h1, h2⟩ := h
  refine ⟨h1, ?_⟩
  rcases h2 with h2 | ⟨g, cap, cur, hv, hg, r⟩
  · exact .inl h2
  · exact .inr ⟨g, cap, cur, hv, by omega, r⟩
theorem below_alloc (w : World) (o : Obj) : Below w.heap.size w (w.alloc o) := (Below.refl _ _).alloc (Nat.le_refl _) o

theorem row_take {f : α → Value} {w : World} {b o cap n : Nat} {l : List α} (hb : b < w.heap.size) (hl : l.length ≤ cap) (hm : cap ≤ maxLen) (hn : n ≤ l.length)
    (hc : ∀ i (h : i < l.length), w.cell? ⟨b, o + i, none⟩ = some (f l[i])) : IsRowOf f w (.slice (some ⟨b, o, none⟩) n cap) (l.take n) := by
  have e : (l.take n).length = n := by simp; omega
  refine ⟨_, cap, by rw [e], hm, .inr ⟨b, o, rfl, hb, by omega, fun i hi => ?_⟩⟩
  rw [hc i (by omega)]; simp
theorem row_drop {f : α → Value} {w : World} {b o cap n : Nat} {l : List α} (hb : b < w.heap.size) (hl : l.length ≤ cap) (hm : cap ≤ maxLen)
    (hc : ∀ i (h : i < l.length), w.cell? ⟨b, o + i, none⟩ = some (f l[i])) : IsRowOf f w (.slice (some ⟨b, o + n, none⟩) (l.length - n) (cap - n)) (l.drop n) := by
  refine ⟨_, cap - n, by simp, by omega, .inr ⟨b, o + n, rfl, hb, by simp; omega, fun i hi => ?_⟩⟩
  rw [Nat.add_assoc, hc (n + i) (by simp at hi; omega)]; simp

theorem row_new_fr {f : α → Value} (w : World) (l : List α) (e : TypeId) (fr : Nat × Nat) (hm : l.length ≤ maxLen) :
    IsRowOf f (w.alloc (.cells (l.map f).toArray e fr)) (.slice (some ⟨w.heap.size, 0, none⟩) l.length l.length) l := by
  refine ⟨_, _, rfl, hm, .inr ⟨_, _, rfl, by simp, Nat.le_refl _, fun i hi => ?_⟩⟩
  rw [Nat.zero_add, World.cell?_alloc_mark]; simp [List.getElem?_eq_getElem hi]
theorem row_nil {f : α → Value} (w : World) : IsRowOf f w (.slice none 0 0) [] := ⟨none, 0, rfl, Nat.zero_le _, .inl ⟨rfl, fun _ => rfl⟩⟩
theorem size_alloc_le {n : Nat} {w : World} (h : n ≤ w.heap.size) (o : Obj) : n ≤ (w.alloc o).heap.size := by simp; omega

/-- Nothing that existed has changed. -/
abbrev Ext (w w' : World) : Prop := Below w.heap.size w w'
theorem Ext.rfl' {w : World} : Ext w w := Below.refl _ _
theorem Ext.trans' {a b c : World} (h1 : Ext a b) (h2 : Ext b c) : Ext a c := Below.trans h1 (Below.mono h2 h1.size)
abbrev IsU32s (w : World) (v : Value) (l : List UInt32) : Prop := IsRowOf u32v w v l
theorem IsRowOf.shape {f : α → Value} {w : World} {v : Value} {l : List α} (h : IsRowOf f w v l) : ∃ a cap, v = .slice a l.length cap := by
  obtain ⟨a, cap, h, _⟩ := h; exact ⟨a, cap, h⟩
theorem row_some {f : α → Value} {w : World} {v : Value} {l : List α} {n : Nat} (h : IsRowOf f w v l) (hn : l.length = n) (hp : 0 < n) :
    ∃ b o cap, v = .slice (some ⟨b, o, none⟩) n cap ∧ b < w.heap.size ∧ n ≤ cap ∧ cap ≤ maxLen ∧ ∀ i (h : i < l.length), w.cell? ⟨b, o + i, none⟩ = some (f l[i]) := by
  subst hn
  obtain ⟨a, cap, rfl, hm, h⟩ := h
  rcases h with ⟨rfl, _⟩ | ⟨b, o, rfl, hb, hl, hc⟩
  · simp at hp
  · exact ⟨b, o, cap, rfl, hb, hl, hm, hc⟩
/-- The cells of a slice value whose shape is known. -/
theorem row_cells {f : α → Value} {w : World} {b o n cap : Nat} {l : List α} (h : IsRowOf f w (.slice (some ⟨b, o, none⟩) n cap) l) :
    l.length = n ∧ cap ≤ maxLen ∧ (0 < n → b < w.heap.size ∧ n ≤ cap) ∧ ∀ i (h : i < l.length), w.cell? ⟨b, o + i, none⟩ = some (f l[i]) := by
  obtain ⟨a, cap', hv, hm, h⟩ := h
  simp only [Value.slice.injEq] at hv
  obtain ⟨rfl, rfl, rfl⟩ := hv
  rcases h with ⟨rfl, _⟩ | ⟨b', o', ha, hb, hl, hc⟩
  · exact ⟨rfl, hm, by simp, by simp⟩
  · simp only [Option.some.injEq, Addr.mk.injEq, and_true] at ha
    obtain ⟨rfl, rfl⟩ := ha
    exact ⟨rfl, hm, fun _ => ⟨hb, hl⟩, hc⟩
/-- The first n elements, whatever the capacity is said to be. -/
theorem row_cut {f : α → Value} {w : World} {a : Option Addr} {cap cap' n : Nat} {l : List α} (h : IsRowOf f w (.slice a l.length cap) l) (hn : n ≤ l.length) (hc : n ≤ cap') (hm : cap' ≤ maxLen) (ha : a = none → cap' = 0) :
    IsRowOf f w (.slice a n cap') (l.take n) := by
  obtain ⟨a', cap0, hv, hm0, h⟩ := h
  simp only [Value.slice.injEq, true_and] at hv
  obtain ⟨rfl, rfl⟩ := hv
  have e : (l.take n).length = n := by simp; omega
  refine ⟨a, cap', by rw [e], hm, ?_⟩
  rcases h with ⟨rfl, h0⟩ | ⟨b, o, rfl, hb, hl, hc0⟩
  · exact .inl ⟨by simp, ha⟩
  · exact .inr ⟨b, o, rfl, hb, by omega, fun i hi => by rw [hc0 i (by omega)]; simp⟩
theorem ownsRow_ext {w w' : World} {base : Nat} {e : TypeId} {size : Nat} {v : Value} {n : Nat} {xs : List Value} (h : w.ownsRow base e size v n xs) (hb : Ext w w') : w'.ownsRow base e size v n xs := by
  obtain ⟨h1, h2⟩ := h
  refine ⟨h1, ?_⟩
  rcases h2 with h2 | ⟨g, cap, cur, hv, hg, hh, r⟩
  · exact .inl h2
  · refine .inr ⟨g, cap, cur, hv, hg, ?_, r⟩
    have hlt : g < w.heap.size := by
      rcases Nat.lt_or_ge g w.heap.size with h | h
      · exact h
      · rw [Array.getElem?_eq_none h] at hh; simp at hh
    rw [hb.block g hlt]; exact hh

/-- 'make([]T, n)' for elements of one cell. -/
theorem wpList_make_row {P : Program} {w : World} {ops : Array Oper} {rest : List Oper} {o : Oper} {a : Act} {Q : Exit → Act → World → Prop}
    (hg : o.guard = none) (l c : Operand) (t : TypeId) (hop : o.op = Op.makeSlice t l c)
    {e : TypeId} {z : Value} {bytes : Nat} (T : SliceTy P t e z 1 bytes) (hz1 : z.cells = #[z]) (base : Nat)
    {L : Int} (n : Nat) (hl : a.eval l = .int .i64 L) (hc : a.eval c = .int .i64 L) (hL : L = (n : Int)) (b2 : bytes * n ≤ 281474976710656) (b3 : n ≤ maxLen) (b4 : base ≤ w.heap.size)
    (hK : ∀ w', w'.ownsRow base e 1 (.slice (some ⟨w.heap.size, 0, none⟩) n n) n (List.replicate n z) → w.grownBy w' none →
      wpList P ops Q rest (a.put o.dst (.slice (some ⟨w.heap.size, 0, none⟩) n n)) w') :
    wpList P ops Q (o :: rest) a w := by
  obtain ⟨i, hi, hz, hsz, hby⟩ := T.info
  subst hby
  refine wpList_make_full w hg l c t hop base e i z 1 T.und hi hz hsz .i64 .i64 L L n hl hc hL hL b2 b3 b4 fun w' h1 h2 => hK w' ?_ h2
  rw [hz1, Nat.mul_one, toList_madeCells_one] at h1
  exact h1
theorem below_made {B : Nat} {a w w' : World} (h : Below B a w) (hg : w.grownBy w' none) (hB : B ≤ w.heap.size) : Below B a w' := h.grown hg hB (fun _ h => by cases h)
theorem set_rep (n : Nat) (z x : α) (q : List α) : (List.replicate (n + 1) z ++ q).set n x = List.replicate n z ++ x :: q := by
  rw [List.replicate_succ', List.append_assoc, List.set_append]
  simp

/-- 'append' onto a slice without spare room: the row is new. -/
theorem wpList_append_tight {P : Program} {w : World} {ops : Array Oper} {rest : List Oper} {o : Oper} {a : Act} {Q : Exit → Act → World → Prop}
    (hgd : o.guard = none) (s x : Operand) (t : TypeId) (ho : o.op = .call { callee := .builtin .append, args := #[s, x], argTypes := #[t, t] })
    {e : TypeId} {z : Value} {size bytes : Nat} (T : SliceTy P t e z size bytes)
    {ad : Option Addr} {n : Nat} {xs : List Value} (hv : RawRow w size (.slice ad n n) n xs) (hs : a.eval s = .slice ad n n)
    {b off cap m : Nat} {ys : List Value} (hy : RawRow w size (.slice (some ⟨b, off, none⟩) m cap) m ys) (hx : a.eval x = .slice (some ⟨b, off, none⟩) m cap) (hm : 0 < m)
    (h63 : n + m ≤ maxLen) (hbytes : (n + m) * bytes ≤ 140737488355328)
    (h : ∀ v' w', w'.ownsRow w.heap.size e size v' (n + m) (xs ++ ys) → Ext w w' → wpList P ops Q rest (a.put o.dst v') w') : wpList P ops Q (o :: rest) a w := by
  obtain ⟨i, hi, hz', hsz, hby⟩ := T.info
  obtain ⟨hl2, h12, hy⟩ := hy
  have hys : ∀ (j : Nat) u, ys[j]? = some u → w.cell? ((⟨b, off, none⟩ : Addr).add j) = some u := by
    intro j u hj
    have e1 : (⟨b, off, none⟩ : Addr).add j = ⟨b, off + j, none⟩ := by unfold Addr.add; split <;> simp_all
    rw [e1]
    rcases hy with ⟨h0, _⟩ | ⟨b', o', cap', hv', _, _, _, hc⟩
    · omega
    · simp only [Value.slice.injEq, Option.some.injEq, Addr.mk.injEq, and_true] at hv'
      obtain ⟨⟨rfl, rfl⟩, -, -⟩ := hv'
      exact hc j u hj
  obtain ⟨hl1, h11, hv⟩ := hv
  rcases hv with ⟨rfl, a0, c0, hv', hz⟩ | ⟨b0, o0, cap0, hv', hb0, hn0, hm0, hc0⟩
  · have hxs : xs = [] := List.eq_nil_of_length_eq_zero (by simpa using hl1)
    subst hxs
    refine wpList_append_grows w hgd s x t ho e i z size bytes T.und hi hz' hsz hby T.zc T.pos ad 0 0 [] hs (fun _ => ⟨rfl, rfl⟩) (by simp) (by simp) ⟨b, off, none⟩ m cap ys hx hl2 hys h12 (by omega) h63 hbytes ?_
    intro v' w' h1 h2
    exact h v' w' (by simpa using h1) (below_made (Below.refl _ _) h2 (Nat.le_refl _))
  · simp only [Value.slice.injEq] at hv'
    obtain ⟨rfl, -, rfl⟩ := hv'
    refine wpList_append_arg w hgd s x t ho e i z size bytes T.und hi hz' hsz hby T.zc T.pos b0 o0 n n xs hs hl1 hc0 ⟨b, off, none⟩ m cap ys hx hl2 hys h12 (fun h => by omega) h63 hbytes (fun h => by omega) ?_
    intro _ v' w' h1 h2
    exact h v' w' h1 (below_made (Below.refl _ _) h2 (Nat.le_refl _))

/-- An owned row's cell j: there, and free to be written. -/
theorem own_any {w : World} {base : Nat} {e : TypeId} {g n cap : Nat} {xs : List Value} (h : w.ownsRow base e 1 (.slice (some ⟨g, 0, none⟩) n cap) n xs) (j : Nat) (hj : j < n) :
    (∃ u, w.cell? ⟨g, j, none⟩ = some u) ∧ w.frozen? ⟨g, j, none⟩ = false := by
  refine ⟨⟨xs[j]'(by have := h.1; omega), ?_⟩, h.frozenAt j⟩
  rw [h.cellAt j (by omega), List.getElem?_eq_getElem]
theorem raw_one (w : World) (x : Value) (e : TypeId) (h : x.oneCell' = true) : RawRow (w.alloc (.cells #[x] e)) 1 (.slice (some ⟨w.heap.size, 0, none⟩) 1 1) 1 [x] :=
  raw_new w #[x] e 1 1 rfl (by unfold maxLen; omega) (by intro u hu; simp at hu; rw [hu]; exact h)
theorem own_shape {w : World} {base : Nat} {e : TypeId} {size : Nat} {v : Value} {n : Nat} {xs : List Value} (h : w.ownsRow base e size v n xs) (hn : 0 < n) :
    ∃ g cap, v = .slice (some ⟨g, 0, none⟩) n cap ∧ base ≤ g ∧ n ≤ cap ∧ cap ≤ maxLen := by
  rcases h.2 with ⟨_, h0⟩ | ⟨g, cap, cur, hv, hg, _, hc, hm, _⟩
  · omega
  · exact ⟨g, cap, hv, hg, hc, hm⟩
end Go.Proofs.YtnenbmbgmmeiaaaDoor
