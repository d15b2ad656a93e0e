/- Arguments that came in, read as lists: from the form's own reading to the words of the walks. No program in sight. -/
import Derived.Test.YtnenbmbgmmeiaaaDoorBase
import Derived.ProofKit
import Derived.OpenShut
import Derived.ShutString
import Derived.ChangeOld
namespace Go.Proofs.YtnenbmbgmmeiaaaDoor
open Go.RowKit
variable {α : Type}

theorem exists_list {Q : Nat → α → Prop} (n : Nat) (h : ∀ i, i < n → ∃ y, Q i y) : ∃ l : List α, l.length = n ∧ ∀ i (h : i < l.length), Q i l[i] := by
  induction n with
  | zero => exact ⟨[], rfl, fun i h => absurd h (by simp)⟩
  | succ n ih =>
    obtain ⟨l, hl, hq⟩ := ih fun i hi => h i (by omega)
    obtain ⟨y, hy⟩ := h n (by omega)
    refine ⟨l ++ [y], by simp [hl], fun i hi => ?_⟩
    rcases Nat.lt_or_ge i l.length with h1 | h1
    · rw [List.getElem_append_left h1]; exact hq i h1
    · obtain rfl : i = n := by simp at hi; omega
      rw [List.getElem_append_right h1]; simpa [hl] using hy

section
variable {H : Type} {enc : TypeId × Value → H} {P : Program} {w : World} {sp : Nat → Bool} {held : Bool}

theorem mapM_some {β γ : Type} {f : β → Option γ} {l : List β} {r : List γ} (h : l.mapM f = some r) : r.length = l.length ∧ ∀ x ∈ l, ∃ y, f x = some y := by
  induction l generalizing r with
  | nil => simp at h; subst h; simp
  | cons a l ih =>
    simp only [List.mapM_cons, Option.bind_eq_bind, Option.bind_eq_some_iff] at h
    obtain ⟨y, hy, ys, hys, he⟩ := h
    obtain ⟨h1, h2⟩ := ih hys
    simp only [Option.pure_def, Option.some.injEq] at he
    subst he
    refine ⟨by simp [h1], fun x hx => ?_⟩
    rcases List.mem_cons.1 hx with rfl | hx
    · exact ⟨y, hy⟩
    · exact h2 x hx

/-- A slice that came in: nil, or every element reads. -/
theorem trod_slice {t e : TypeId} (ht : P.underlying t = some (.slice e)) {fuel : Nat} {a : Option Addr} {len cap : Nat} {d : DataW H} {ps : List MemPlace}
    (h : DataW.trod enc P w 0 sp held fuel t [.slice a len cap] = some (d, ps)) :
    (a = none ∧ len = 0 ∧ cap = 0 ∧ d = .nil) ∨ ∃ ad elems rest, a = some ad ∧ len ≤ cap ∧ cap ≤ maxLen ∧ d = .slice elems rest ∧ elems.length = len ∧
      ∃ fuel', ∀ i, i < len → ∃ cs d' p', w.cells? 0 (ad.add (i * P.cellsOf e)) (P.cellsOf e) = some cs ∧ DataW.trod enc P w 0 sp held fuel' e cs = some (d', p') := by
  cases fuel with
  | zero => simp [DataW.trod] at h
  | succ fuel =>
    rcases a with _ | ad
    · by_cases hz : len = 0 ∧ cap = 0
      · obtain ⟨rfl, rfl⟩ := hz
        simp only [DataW.trod, ht, Option.some.injEq, Prod.mk.injEq] at h
        exact .inl ⟨rfl, rfl, rfl, h.1.symm⟩
      · exfalso
        simp only [DataW.trod, ht] at h
        split at h <;> simp_all
    · simp only [DataW.trod, ht] at h
      split at h
      · rename_i hb
        simp only [Option.bind_eq_some_iff, Option.map_eq_some_iff] at h
        obtain ⟨elems, he, rest, hr, hd⟩ := h
        simp only [Prod.mk.injEq] at hd
        obtain ⟨h1, h2⟩ := mapM_some he
        refine .inr ⟨ad, _, _, rfl, hb.2.1, hb.2.2, hd.1.symm, by simpa using h1, fuel, fun i hi => ?_⟩
        obtain ⟨⟨d', p'⟩, hy⟩ := h2 i (by simpa using hi)
        simp only [Option.bind_eq_some_iff] at hy
        obtain ⟨cs, hcs, ht'⟩ := hy
        exact ⟨cs, d', p', hcs, ht'⟩
      · simp at h

theorem cells_one {a : Addr} {cs : List Value} (h : w.cells? 0 a 1 = some cs) : ∃ x, cs = [x] ∧ w.cell? a = some x := by
  simp only [World.cells?, Nat.zero_le, if_true] at h
  simp only [List.range_one, List.mapM_cons, List.mapM_nil, Option.bind_eq_bind, Option.pure_def, Option.bind_eq_some_iff, Option.some.injEq] at h
  obtain ⟨x, hx, ys, rfl, rfl⟩ := h
  have e : a.add 0 = a := by simp [Addr.add]
  rw [e] at hx
  exact ⟨x, rfl, hx⟩

theorem cell_lt {a : Addr} {x : Value} (h : w.cell? a = some x) : a.block < w.heap.size := by
  unfold World.cell? at h
  rcases Nat.lt_or_ge a.block w.heap.size with h' | h'
  · exact h'
  · rw [Array.getElem?_eq_none h'] at h; simp at h
theorem cell_spot {a : Addr} {x : Value} (h : w.cell? a = some x) : a.spot = none := by
  unfold World.cell? at h
  split at h
  · cases e : a.spot
    · rfl
    · simp [e] at h
  · simp at h
theorem add_at {a : Addr} (h : a.spot = none) (n : Nat) : a.add n = ⟨a.block, a.off + n, none⟩ := by
  obtain ⟨b, o, s⟩ := a
  simp at h
  subst h
  unfold Addr.add
  split <;> simp_all

/-- A slice of elements of one cell each. -/
theorem open_sl1 {t e : TypeId} (ht : P.underlying t = some (.slice e)) (hn : P.cellsOf e = 1) {R : World → Value → α → Prop}
    (hR : ∀ fuel x d p, DataW.trod enc P w 0 sp held fuel e [x] = some (d, p) → ∃ y, R w x y)
    {fuel : Nat} {a : Option Addr} {len cap : Nat} {d : DataW H} {ps : List MemPlace} (h : DataW.trod enc P w 0 sp held fuel t [.slice a len cap] = some (d, ps)) :
    ∃ l : List α, l.length = len ∧ IsSl1 R w (.slice a len cap) l := by
  rcases trod_slice ht h with ⟨rfl, rfl, rfl, _⟩ | ⟨ad, _, _, rfl, hl, hm, _, _, fuel', hel⟩
  · exact ⟨[], rfl, none, 0, rfl, Nat.zero_le _, .inl ⟨rfl, fun _ => rfl⟩⟩
  · rw [hn] at hel
    obtain ⟨l, hlen, hq⟩ := exists_list (Q := fun i y => ∃ x, w.cell? (ad.add i) = some x ∧ R w x y) len fun i hi => by
      obtain ⟨cs, d', p', hcs, ht'⟩ := hel i hi
      rw [Nat.mul_one] at hcs
      obtain ⟨x, rfl, hx⟩ := cells_one hcs
      obtain ⟨y, hy⟩ := hR _ _ _ _ ht'
      exact ⟨y, x, hx, hy⟩
    refine ⟨l, hlen, some ad, cap, by rw [hlen], hm, ?_⟩
    rcases Nat.eq_zero_or_pos len with h0 | h0
    · left; exact ⟨List.eq_nil_of_length_eq_zero (by omega), by simp⟩
    · right
      obtain ⟨x, hx, _⟩ := hq 0 (by omega)
      have hz : ad.add 0 = ad := by simp [Addr.add]
      rw [hz] at hx
      have hs := cell_spot hx
      refine ⟨ad.block, ad.off, ?_, cell_lt hx, by omega, fun i hi => ?_⟩
      · obtain ⟨b, o, s⟩ := ad; simp at hs; subst hs; rfl
      · have := hq i hi
        rw [add_at hs] at this
        exact this

theorem sl1_row {f : α → Value} {v : Value} {l : List α} (h : IsSl1 (fun _ x y => x = f y) w v l) : IsRowOf f w v l := by
  obtain ⟨a, cap, hv, hm, h⟩ := h
  refine ⟨a, cap, hv, hm, ?_⟩
  rcases h with h | ⟨b, o, ha, hb, hl, hc⟩
  · exact .inl h
  · exact .inr ⟨b, o, ha, hb, hl, fun i hi => by obtain ⟨x, hx, rfl⟩ := hc i hi; exact hx⟩

theorem trod_int {e : TypeId} {k : IntKind} (he : P.underlying e = some (.int k)) {fuel : Nat} {x : Value} {d : DataW H} {p : List MemPlace}
    (h : DataW.trod enc P w 0 sp held fuel e [x] = some (d, p)) : ∃ n, x = .int k n ∧ (Lit.int k n).wf = true := by
  cases fuel with
  | zero => simp [DataW.trod] at h
  | succ fuel =>
    simp only [DataW.trod, he] at h
    split at h <;> simp_all
theorem int_u8 {n : Int} (h : (Lit.int .u8 n).wf = true) : ∃ c : UInt8, Value.int .u8 n = u8v c := by
  have hb := bounds_u8 h
  exact ⟨UInt8.ofNat n.toNat, by congr 1; simp; omega⟩
theorem int_u16 {n : Int} (h : (Lit.int .u16 n).wf = true) : ∃ c : UInt16, Value.int .u16 n = Value.int .u16 (c.toNat : Int) := by
  have hb := bounds_u16 h
  exact ⟨UInt16.ofNat n.toNat, by congr 1; simp; omega⟩
theorem int_u32 {n : Int} (h : (Lit.int .u32 n).wf = true) : ∃ c : UInt32, Value.int .u32 n = u32v c := by
  have hb := bounds_u32 h
  exact ⟨UInt32.ofNat n.toNat, by congr 1; simp; omega⟩
theorem int_u64 {n : Int} (h : (Lit.int .u64 n).wf = true) : ∃ c : UInt64, Value.int .u64 n = u64v c := by
  have hb := bounds_u64 h
  exact ⟨UInt64.ofNat n.toNat, by congr 1; simp; omega⟩

theorem open_bytes {t e : TypeId} (ht : P.underlying t = some (.slice e)) (he : P.underlying e = some (.int .u8)) (hn : P.cellsOf e = 1)
    {fuel : Nat} {a : Option Addr} {len cap : Nat} {d : DataW H} {ps : List MemPlace} (h : DataW.trod enc P w 0 sp held fuel t [.slice a len cap] = some (d, ps)) :
    ∃ l : List UInt8, IsBytes w (.slice a len cap) l := by
  obtain ⟨l, _, hl⟩ := open_sl1 (R := fun _ x (y : UInt8) => x = u8v y) ht hn (fun fuel x d p h => by
    obtain ⟨n, rfl, hw⟩ := trod_int he h
    exact int_u8 hw) h
  exact ⟨l, sl1_row hl⟩

theorem trod_slice_shape {t e : TypeId} (ht : P.underlying t = some (.slice e)) {fuel : Nat} {x : Value} {d : DataW H} {p : List MemPlace}
    (h : DataW.trod enc P w 0 sp held fuel t [x] = some (d, p)) : ∃ a len cap, x = .slice a len cap := by
  cases fuel with
  | zero => simp [DataW.trod] at h
  | succ fuel =>
    simp only [DataW.trod, ht] at h
    split at h <;> simp_all

theorem open_parts {t e b : TypeId} (ht : P.underlying t = some (.slice e)) (hn : P.cellsOf e = 1) (he : P.underlying e = some (.slice b)) (hb : P.underlying b = some (.int .u8)) (hnb : P.cellsOf b = 1)
    {fuel : Nat} {a : Option Addr} {len cap : Nat} {d : DataW H} {ps : List MemPlace} (h : DataW.trod enc P w 0 sp held fuel t [.slice a len cap] = some (d, ps)) :
    ∃ l : List (List UInt8), IsParts w (.slice a len cap) l := by
  obtain ⟨l, _, hl⟩ := open_sl1 (R := IsBytes) ht hn (fun fuel x d p h => by
    obtain ⟨a', len', cap', rfl⟩ := trod_slice_shape he h
    exact open_bytes he hb hnb h) h
  exact ⟨l, hl⟩
end
end Go.Proofs.YtnenbmbgmmeiaaaDoor
