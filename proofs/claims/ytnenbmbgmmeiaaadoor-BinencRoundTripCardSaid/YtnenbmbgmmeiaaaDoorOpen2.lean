/- Arguments that came in: ints, an offset with a maximum, rational numbers, the parts of a round trip. -/
import Derived.Test.YtnenbmbgmmeiaaaDoorProg
import Derived.Test.YtnenbmbgmmeiaaaDoorBase
namespace Go.Proofs.YtnenbmbgmmeiaaaDoor
open Go.RowKit Go.ChangeShapes Go.WideShapes
variable {α : Type}

abbrev i64v (x : Int) : Value := .int .i64 x
/-- A slice of ints. -/
def IsInts (w : World) (v : Value) (l : List Int) : Prop := IsRowOf i64v w v l ∧ ∀ x ∈ l, -9223372036854775808 ≤ x ∧ x ≤ 9223372036854775807
/-- An offset and a maximum. -/
def IsAsk (x : Int × Int) : Prop := (-9223372036854775808 ≤ x.1 ∧ x.1 ≤ 9223372036854775807) ∧ (-9223372036854775808 ≤ x.2 ∧ x.2 ≤ 9223372036854775807)
/-- A rational number that came in. -/
structure RatD where
  n1 : Bool
  s1 : Value
  l1 : List UInt32
  n2 : Bool
  s2 : Value
  l2 : List UInt32
abbrev RatD.v (m : RatD) : Value := .agg #[.bool m.n1, m.s1, .bool m.n2, m.s2]
def IsRatD (w : World) (m : RatD) : Prop := IsU32s w m.s1 m.l1 ∧ IsU32s w m.s2 m.l2
structure PartsD where
  n : UInt64
  i : Int
  s : Value
  l : List UInt8
  f : RatD
abbrev PartsD.v (m : PartsD) : Value := .agg #[u64v m.n, .int .i64 m.i, m.s, .bool m.f.n1, m.f.s1, .bool m.f.n2, m.f.s2]
def IsPartsD (w : World) (m : PartsD) : Prop := (-9223372036854775808 ≤ m.i ∧ m.i ≤ 9223372036854775807) ∧ IsBytes w m.s m.l ∧ IsRatD w m.f

section
variable {H : Type} {enc : TypeId × Value → H} {P : Program} {w : World} {sp : Nat → Bool} {held : Bool}
theorem open_intl {t e : TypeId} (ht : P.underlying t = some (.slice e)) (he : P.underlying e = some (.int .i64)) (hn : P.cellsOf e = 1)
    {fuel : Nat} {a : Option Addr} {len cap : Nat} {d : DataW H} {ps : List MemPlace} (h : DataW.trod enc P w 0 sp held fuel t [.slice a len cap] = some (d, ps)) :
    ∃ l : List Int, IsInts w (.slice a len cap) l := by
  obtain ⟨l, _, hl⟩ := open_sl1 (R := fun _ x (y : Int) => x = i64v y ∧ -9223372036854775808 ≤ y ∧ y ≤ 9223372036854775807) ht hn (fun fuel x d p h => by
    obtain ⟨n, rfl, hw⟩ := trod_int he h
    exact ⟨n, rfl, bounds_i64 hw⟩) h
  obtain ⟨a', cap', hv, hm, h0⟩ := hl
  refine ⟨l, ⟨a', cap', hv, hm, ?_⟩, ?_⟩
  · rcases h0 with h0 | ⟨b, o, ha, hb, hlc, hc⟩
    · exact .inl h0
    · exact .inr ⟨b, o, ha, hb, hlc, fun i hi => by obtain ⟨x, hx, rfl, _⟩ := hc i hi; exact hx⟩
  · intro x hx
    rcases h0 with ⟨rfl, _⟩ | ⟨b, o, ha, hb, hlc, hc⟩
    · simp at hx
    · obtain ⟨i, hi, rfl⟩ := List.getElem_of_mem hx
      obtain ⟨y, _, _, hb⟩ := hc i hi
      exact hb
theorem open_u32l {t e : TypeId} (ht : P.underlying t = some (.slice e)) (he : P.underlying e = some (.int .u32)) (hn : P.cellsOf e = 1)
    {fuel : Nat} {a : Option Addr} {len cap : Nat} {d : DataW H} {ps : List MemPlace} (h : DataW.trod enc P w 0 sp held fuel t [.slice a len cap] = some (d, ps)) :
    ∃ l : List UInt32, IsU32s w (.slice a len cap) l := by
  obtain ⟨l, _, hl⟩ := open_sl1 (R := fun _ x (y : UInt32) => x = u32v y) ht hn (fun fuel x d p h => by
    obtain ⟨n, rfl, hw⟩ := trod_int he h
    exact int_u32 hw) h
  exact ⟨l, sl1_row hl⟩
theorem trod_bool {e : TypeId} (he : P.underlying e = some .bool) {fuel : Nat} {x : Value} {d : DataW H} {p : List MemPlace}
    (h : DataW.trod enc P w 0 sp held fuel e [x] = some (d, p)) : ∃ b, x = .bool b := by
  cases fuel with
  | zero => simp [DataW.trod] at h
  | succ fuel =>
    simp only [DataW.trod, he] at h
    split at h <;> simp_all
theorem get_some {β : Type} {xs : List β} {n i : Nat} (h : xs.length = n) (hi : i < n) : ∃ y, xs[i]? = some y := ⟨xs[i]'(by omega), List.getElem?_eq_getElem (by omega)⟩
end

section
variable {H : Type} {enc : TypeId × Value → H} {W : World} {base : Nat} {sp : Nat → Bool} {held : Bool}
set_option maxRecDepth 100000
theorem cI : Tryd.prog.cellsOf 3 = 1 := by kernel_rfl
theorem cU64 : Tryd.prog.cellsOf 22 = 1 := by kernel_rfl
theorem cB : Tryd.prog.cellsOf 4 = 1 := by kernel_rfl
theorem cU32 : Tryd.prog.cellsOf 75 = 1 := by kernel_rfl
theorem cU8 : Tryd.prog.cellsOf 5 = 1 := by kernel_rfl
theorem cSl : Tryd.prog.cellsOf 47 = 1 := by kernel_rfl
theorem cSb : Tryd.prog.cellsOf 23 = 1 := by kernel_rfl
theorem cInt : Tryd.prog.cellsOf 49 = 2 := by kernel_rfl
theorem cRat : Tryd.prog.cellsOf 51 = 4 := by kernel_rfl
theorem cAsk : Tryd.prog.cellsOf 36 = 2 := by kernel_rfl
theorem cParts : Tryd.prog.cellsOf 59 = 7 := by kernel_rfl

theorem open_ask {v : Value} {d : DataW H} {p : List MemPlace} (hv : Value.okWide Tryd.prog W .any base 36 v) (h : DataW.Trod enc Tryd.prog W 0 sp held 36 v d p) :
    ∃ m : Int × Int, v = .agg #[.int .i64 m.1, .int .i64 m.2] ∧ IsAsk m := by
  obtain ⟨cs, rfl, hsz⟩ := okWide_struct Tryd.underlying36 hv
  rw [cAsk] at hsz
  obtain ⟨fuel, hf⟩ := h
  obtain ⟨l⟩ := cs
  match l, hsz with
  | [c0, c1], _ =>
    obtain ⟨xs, n, rfl, hx, hl, hlen, hg⟩ := DataW.trod_struct Tryd.underlying36 hf
    have h0 := hg 0 _ rfl
    have h1 := hg 1 _ rfl
    obtain ⟨y0, e0⟩ := get_some (i := 0) hlen (by decide)
    obtain ⟨y1, e1⟩ := get_some (i := 1) hlen (by decide)
    rw [e0] at h0
    rw [e1] at h1
    simp [Value.cells, cI] at h0 h1
    obtain ⟨n0, rfl, w0⟩ := trod_int (d := y0.1) (p := y0.2) Tryd.underlying3 h0
    obtain ⟨n1, rfl, w1⟩ := trod_int (d := y1.1) (p := y1.2) Tryd.underlying3 h1
    exact ⟨(n0, n1), rfl, bounds_i64 w0, bounds_i64 w1⟩

theorem open_int2 {n : Nat} {c0 c1 : Value} {y : DataW H × List MemPlace} (h : DataW.trod enc Tryd.prog W 0 sp held n 49 [c0, c1] = some y) : ∃ b l, c0 = .bool b ∧ IsU32s W c1 l := by
  obtain ⟨xs, n, rfl, hx, hl, hlen, hg⟩ := DataW.trod_struct Tryd.underlying49 h
  have h0 := hg 0 _ rfl
  have h1 := hg 1 _ rfl
  obtain ⟨y0, e0⟩ := get_some (i := 0) hlen (by decide)
  obtain ⟨y1, e1⟩ := get_some (i := 1) hlen (by decide)
  rw [e0] at h0
  rw [e1] at h1
  simp [cB, cSl] at h0 h1
  obtain ⟨b, rfl⟩ := trod_bool (d := y0.1) (p := y0.2) Tryd.underlying4 h0
  obtain ⟨a, len, cap, rfl⟩ := trod_slice_shape (d := y1.1) (p := y1.2) Tryd.underlying47 h1
  obtain ⟨l, hl⟩ := open_u32l (d := y1.1) (ps := y1.2) Tryd.underlying47 Tryd.underlying75 cU32 h1
  exact ⟨b, l, rfl, hl⟩
theorem open_rat4 {n : Nat} {c0 c1 c2 c3 : Value} {y : DataW H × List MemPlace} (h : DataW.trod enc Tryd.prog W 0 sp held n 51 [c0, c1, c2, c3] = some y) :
    ∃ m : RatD, c0 = .bool m.n1 ∧ c1 = m.s1 ∧ c2 = .bool m.n2 ∧ c3 = m.s2 ∧ IsRatD W m := by
  obtain ⟨xs, n, rfl, hx, hl, hlen, hg⟩ := DataW.trod_struct Tryd.underlying51 h
  have h0 := hg 0 _ rfl
  have h1 := hg 1 _ rfl
  obtain ⟨y0, e0⟩ := get_some (i := 0) hlen (by decide)
  obtain ⟨y1, e1⟩ := get_some (i := 1) hlen (by decide)
  rw [e0] at h0
  rw [e1] at h1
  simp [cInt] at h0 h1
  obtain ⟨b0, l0, rfl, i0⟩ := open_int2 h0
  obtain ⟨b1, l1, rfl, i1⟩ := open_int2 h1
  exact ⟨⟨b0, c1, l0, b1, c3, l1⟩, rfl, rfl, rfl, rfl, i0, i1⟩
theorem open_rat {v : Value} {d : DataW H} {p : List MemPlace} (hv : Value.okWide Tryd.prog W .any base 51 v) (h : DataW.Trod enc Tryd.prog W 0 sp held 51 v d p) :
    ∃ m : RatD, v = m.v ∧ IsRatD W m := by
  obtain ⟨cs, rfl, hsz⟩ := okWide_struct Tryd.underlying51 hv
  rw [cRat] at hsz
  obtain ⟨fuel, hf⟩ := h
  obtain ⟨l⟩ := cs
  match l, hsz with
  | [c0, c1, c2, c3], _ =>
    obtain ⟨m, rfl, rfl, rfl, rfl, hm⟩ := open_rat4 (y := (d, p)) hf
    exact ⟨m, rfl, hm⟩
theorem open_parts6 {v : Value} {d : DataW H} {p : List MemPlace} (hv : Value.okWide Tryd.prog W .any base 59 v) (h : DataW.Trod enc Tryd.prog W 0 sp held 59 v d p) :
    ∃ m : PartsD, v = m.v ∧ IsPartsD W m := by
  obtain ⟨cs, rfl, hsz⟩ := okWide_struct Tryd.underlying59 hv
  rw [cParts] at hsz
  obtain ⟨fuel, hf⟩ := h
  obtain ⟨l⟩ := cs
  match l, hsz with
  | [c0, c1, c2, c3, c4, c5, c6], _ =>
    obtain ⟨xs, n, rfl, hx, hl, hlen, hg⟩ := DataW.trod_struct Tryd.underlying59 hf
    have h0 := hg 0 _ rfl
    have h1 := hg 1 _ rfl
    have h2 := hg 2 _ rfl
    have h3 := hg 3 _ rfl
    obtain ⟨y0, e0⟩ := get_some (i := 0) hlen (by decide)
    obtain ⟨y1, e1⟩ := get_some (i := 1) hlen (by decide)
    obtain ⟨y2, e2⟩ := get_some (i := 2) hlen (by decide)
    obtain ⟨y3, e3⟩ := get_some (i := 3) hlen (by decide)
    rw [e0] at h0
    rw [e1] at h1
    rw [e2] at h2
    rw [e3] at h3
    simp [Value.cells, cU64, cI, cSb, cRat] at h0 h1 h2 h3
    obtain ⟨n0, rfl, w0⟩ := trod_int (d := y0.1) (p := y0.2) Tryd.underlying22 h0
    obtain ⟨n1, rfl, w1⟩ := trod_int (d := y1.1) (p := y1.2) Tryd.underlying3 h1
    obtain ⟨a, len, cap, rfl⟩ := trod_slice_shape (d := y2.1) (p := y2.2) Tryd.underlying23 h2
    obtain ⟨lb, hlb⟩ := open_bytes (d := y2.1) (ps := y2.2) Tryd.underlying23 Tryd.underlying5 cU8 h2
    obtain ⟨m, rfl, rfl, rfl, rfl, hm⟩ := open_rat4 h3
    obtain ⟨c, hc⟩ := int_u64 w0
    exact ⟨⟨c, n1, _, lb, m⟩, by rw [hc], bounds_i64 w1, hlb, hm⟩
end
end Go.Proofs.YtnenbmbgmmeiaaaDoor
