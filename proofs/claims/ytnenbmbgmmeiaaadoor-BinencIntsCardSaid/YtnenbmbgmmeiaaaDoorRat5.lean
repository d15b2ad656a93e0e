/- Walks of package rational: FromInt, Normalize. -/
import Derived.Test.YtnenbmbgmmeiaaaDoorRat4
namespace Go.Proofs.YtnenbmbgmmeiaaaDoor
open Go.RowKit
variable {α : Type}

set_option maxRecDepth 100000 in
theorem ratFromInt_any (x : Int) (w : World) (h : -9223372036854775808 ≤ x) (h2 : x ≤ 9223372036854775807) :
    Calls Tryd.prog 78 #[.int .i64 x] w fun e w' => ∃ v, e = .returned v ∧ IsRatN w.heap.size w' v (decide (x < 0)) x.natAbs 1 ∧ Ext w w' := by
  have hb0 := below_alloc w (.cells #[.bool false, .slice none 0 0, .bool false, .slice none 0 0] 51)
  have H1 := Lib.hid (intFromInt_any x (w.alloc (.cells #[.bool false, .slice none 0 0, .bool false, .slice none 0 0] 51)) h h2)
  have HB0 := Lib.hid hb0
  clear hb0
  go_enter Tryd.func78, Tryd.ntmps78
  go_wp2_with fail
  refine H1.out.mono ?_
  rintro e w1 ⟨y, rfl, ⟨s, rfl, hs, fs⟩, hb1⟩
  have h2 := intFromInt_any 1 w1 (by decide) (by decide)
  rw [show decide ((1 : Int) < 0) = false from rfl, show (1 : Int).natAbs = 1 from rfl] at h2
  have H2 := Lib.hid h2
  have HS := Lib.hid (And.intro hs fs)
  have HB1 := Lib.hid hb1
  clear h2 H1 hs fs hb1
  go_wp2_with fail
  refine H2.out.mono ?_
  rintro e w2 ⟨y, rfl, ⟨t, rfl, ht, ft⟩, hb2⟩
  obtain ⟨b1, d1, rfl⟩ := HS.out.1.shape
  obtain ⟨b2, d2, rfl⟩ := ht.shape
  obtain ⟨r0, f0, hz⟩ := newBlock (Ext.trans' HB1.out hb2)
  obtain ⟨-, -, hz1⟩ := newBlock HB1.out
  have F := Lib.hid (And.intro (HS.out.1.below hb2) (And.intro ht (And.intro HS.out.2 ft)))
  have HX := Lib.hid (Ext.trans' HB0.out (Ext.trans' HB1.out hb2))
  clear ht ft hb2 H2
  go_wp2_with fail
  refine bodyPost_ret (v := .agg #[.bool (decide (x < 0)), .slice b1 (Na.digs x.natAbs).length d1, .bool false, .slice b2 (Na.digs 1).length d2]) (by simp [results, Tryd.results78, go_sem, r0]) rfl ⟨_, rfl, ⟨_, _, rfl, ?_, ?_, ?_, ?_⟩, ?_⟩
  · exact F.out.1.ch (((((Ch.refl w.heap.size _).setCell _ _).setCell _ _).setCell _ _).setCell _ _) (fun _ => F.out.2.2.1.off (by simp))
  · exact F.out.2.1.ch (((((Ch.refl w.heap.size _).setCell _ _).setCell _ _).setCell _ _).setCell _ _) (fun _ => F.out.2.2.2.off hz1)
  · exact F.out.2.2.1.mono (by simp)
  · exact F.out.2.2.2.mono (by omega)
  · exact (((HX.out.setCell (p := ⟨_, 0, none⟩) (by simp only; omega) _).setCell (p := ⟨_, 1, none⟩) (by simp only; omega) _).setCell (p := ⟨_, 2, none⟩) (by simp only; omega) _).setCell (p := ⟨_, 3, none⟩) (by simp only; omega) _

theorem IsRatN.shape {base : Nat} {w : World} {v : Value} {neg : Bool} {a b : Nat} (h : IsRatN base w v neg a b) : ∃ b1 d1 b2 d2, v = .agg #[.bool neg, .slice b1 (Na.digs a).length d1, .bool false, .slice b2 (Na.digs b).length d2] := by
  obtain ⟨s, t, rfl, hs, ht, _⟩ := h
  obtain ⟨b1, d1, rfl⟩ := hs.shape
  obtain ⟨b2, d2, rfl⟩ := ht.shape
  exact ⟨b1, d1, b2, d2, rfl⟩
theorem IsRatN.ch {base : Nat} {w w' : World} {v : Value} {neg : Bool} {a b c : Nat} (h : IsRatN base w v neg a b) (hc : Ch c w w') (hlt : c < base) : IsRatN base w' v neg a b := by
  obtain ⟨s, t, rfl, hs, ht, fs, ft⟩ := h
  exact ⟨s, t, rfl, hs.ch hc (fun _ => fs.off hlt), ht.ch hc (fun _ => ft.off hlt), fs, ft⟩
theorem IsRatN.store4 {base : Nat} {w : World} {v : Value} {neg : Bool} {a b c : Nat} (h : IsRatN base w v neg a b) (hlt : c < base) (x0 x1 x2 x3 : Value) :
    IsRatN base ((((w.setCell ⟨c, 0, none⟩ x0).setCell ⟨c, 1, none⟩ x1).setCell ⟨c, 2, none⟩ x2).setCell ⟨c, 3, none⟩ x3) v neg a b :=
  h.ch (((((Ch.refl c w).setCell _ _).setCell _ _).setCell _ _).setCell _ _) hlt
theorem ext_store4 {W w : World} (h : Ext W w) {c : Nat} (hc : W.heap.size ≤ c) (x0 x1 x2 x3 : Value) :
    Ext W ((((w.setCell ⟨c, 0, none⟩ x0).setCell ⟨c, 1, none⟩ x1).setCell ⟨c, 2, none⟩ x2).setCell ⟨c, 3, none⟩ x3) :=
  (((Below.setCell h (p := ⟨c, 0, none⟩) hc _).setCell (p := ⟨c, 1, none⟩) hc _).setCell (p := ⟨c, 2, none⟩) hc _).setCell (p := ⟨c, 3, none⟩) hc _
/-- The normal form of (n1 a)/(n2 b). -/
def nrm (n1 n2 : Bool) (a b : Nat) : Bool × Nat × Nat := if b = 0 then (false, 0, 1) else (negOf n1 n2 a b, a / Nat.gcd a b, b / Nat.gcd a b)
abbrev IsRatT (base : Nat) (w : World) (v : Value) (r : Bool × Nat × Nat) : Prop := IsRatN base w v r.1 r.2.1 r.2.2

set_option maxRecDepth 100000 in
theorem ratNormalize_any (n1 n2 : Bool) (s1 s2 : Value) (l m : List UInt32) (w : World) (h1 : IsU32s w s1 l) (h2 : IsU32s w s2 m) (hl1 : l.length ≤ 100000000) (hl2 : m.length ≤ 100000000) :
    Calls Tryd.prog 57 #[.agg #[.bool n1, s1, .bool n2, s2]] w fun e w' => ∃ x, e = .returned x ∧ IsRatT w.heap.size w' x (nrm n1 n2 (Na.val l) (Na.val m)) ∧ Ext w w' := by
  obtain ⟨a1, c1, rfl⟩ := h1.shape
  obtain ⟨a2, c2, rfl⟩ := h2.shape
  have HB0 := Lib.hid ((below_alloc w (.cells #[.bool n1, .slice a1 l.length c1, .bool n2, .slice a2 m.length c2] 51)).alloc (by simp) (.cells #[.bool false, .slice none 0 0, .bool false, .slice none 0 0] 51))
  have g1 := h1.below HB0.out
  have g2 := h2.below HB0.out
  clear h1 h2
  rcases Nat.eq_zero_or_pos (Na.val m) with hm | hm
  · have HC := Lib.hid (ratNew_zero n1 n2 _ _ _ _ _ g1 g2 hm hl2)
    have hN : nrm n1 n2 (Na.val l) (Na.val m) = (false, 0, 1) := by unfold nrm; rw [if_pos hm]
    rw [hN]
    clear g1 g2 hm hN
    go_enter Tryd.func57, Tryd.ntmps57
    go_wp2_with fail
    refine HC.out.mono ?_
    rintro e w1 ⟨rfl, hb⟩
    have hsz := hb.size
    simp only [World.size_alloc] at hsz
    have hcells : (∀ i, w1.cell? ⟨w.heap.size + 1, i, none⟩ = #[Value.bool false, .slice none 0 0, .bool false, .slice none 0 0][i]?) ∧ (∀ i, w1.frozen? ⟨w.heap.size + 1, i, none⟩ = false) := by
      refine ⟨fun i => ?_, fun i => ?_⟩
      · rw [hb.cell (p := ⟨w.heap.size + 1, i, none⟩) (by simp)]; simp [go_sem]
      · rw [hb.frozen (p := ⟨w.heap.size + 1, i, none⟩) (by simp)]; simp [go_sem]
    obtain ⟨r0, f0⟩ := hcells
    have HX := Lib.hid (Ext.trans' HB0.out hb)
    have HY := Lib.hid (ratFromInt_any 0 (w1.alloc (.cells #[.bool false, .slice none 0 0, .bool false, .slice none 0 0] 51)) (by decide) (by decide))
    clear hb HC
    go_wp2_with fail
    refine HY.out.mono ?_
    rintro e w2 ⟨x, rfl, hx, hb2⟩
    have hb3 := Ext.trans' (below_alloc _ _) hb2
    obtain ⟨b1, d1, b2, d2, rfl⟩ := hx.shape
    have r1 : ∀ i, w2.cell? ⟨w.heap.size + 1, i, none⟩ = #[Value.bool false, .slice none 0 0, .bool false, .slice none 0 0][i]? := fun i => by rw [hb3.cell (p := ⟨w.heap.size + 1, i, none⟩) (by simp only; omega)]; exact r0 i
    have f1 : ∀ i, w2.frozen? ⟨w.heap.size + 1, i, none⟩ = false := fun i => by rw [hb3.frozen (p := ⟨w.heap.size + 1, i, none⟩) (by simp only; omega)]; exact f0 i
    have hz : w.heap.size + 1 < w2.heap.size := by have := hb3.size; omega
    have hz0 : w.heap.size + 1 < (w1.alloc (.cells #[.bool false, .slice none 0 0, .bool false, .slice none 0 0] 51)).heap.size := by simp; omega
    have F := Lib.hid hx
    have HX2 := Lib.hid (Ext.trans' HX.out hb3)
    clear r0 f0 hx hb2 hb3 HY
    go_wp2_with fail
    refine bodyPost_ret (v := .agg #[.bool (decide ((0 : Int) < 0)), .slice b1 (Na.digs (0 : Int).natAbs).length d1, .bool false, .slice b2 (Na.digs 1).length d2]) (by simp [results, Tryd.results57, go_sem, r1]) rfl ⟨_, rfl, ?_, ext_store4 HX2.out (by omega) _ _ _ _⟩
    exact (F.out.store4 hz0 _ _ _ _).mono (by omega)
  · have HC := Lib.hid (ratNew_any n1 n2 _ _ _ _ _ g1 g2 hm hl1 hl2)
    have hN : nrm n1 n2 (Na.val l) (Na.val m) = (negOf n1 n2 (Na.val l) (Na.val m), Na.val l / Nat.gcd (Na.val l) (Na.val m), Na.val m / Nat.gcd (Na.val l) (Na.val m)) := by unfold nrm; rw [if_neg (by omega)]
    rw [hN]
    clear g1 g2 hm hN
    go_enter Tryd.func57, Tryd.ntmps57
    go_wp2_with fail
    refine HC.out.mono ?_
    rintro e w1 ⟨x, rfl, hx, hb⟩
    have hsz := hb.size
    simp only [World.size_alloc] at hsz
    obtain ⟨b1, d1, b2, d2, rfl⟩ := hx.shape
    have r0 : ∀ i, w1.cell? ⟨w.heap.size + 1, i, none⟩ = #[Value.bool false, .slice none 0 0, .bool false, .slice none 0 0][i]? := fun i => by rw [hb.cell (p := ⟨w.heap.size + 1, i, none⟩) (by simp)]; simp [go_sem]
    have f0 : ∀ i, w1.frozen? ⟨w.heap.size + 1, i, none⟩ = false := fun i => by rw [hb.frozen (p := ⟨w.heap.size + 1, i, none⟩) (by simp)]; simp [go_sem]
    have F := Lib.hid hx
    have HX := Lib.hid (Ext.trans' HB0.out hb)
    have hz : w.heap.size + 1 < w1.heap.size := by omega
    clear hb HC hx
    go_wp2_with fail
    refine bodyPost_ret (v := .agg #[.bool (negOf n1 n2 (Na.val l) (Na.val m)), .slice b1 (Na.digs (Na.val l / Nat.gcd (Na.val l) (Na.val m))).length d1, .bool false, .slice b2 (Na.digs (Na.val m / Nat.gcd (Na.val l) (Na.val m))).length d2]) (by simp [results, Tryd.results57, go_sem, r0, hz]) rfl ⟨_, rfl, ?_, ?_⟩
    · exact ((F.out.store4 (by simp) _ _ _ _).ext (below_alloc _ _)).mono (by simp; omega)
    · exact Ext.trans' (ext_store4 HX.out (by omega) _ _ _ _) (below_alloc _ _)
end Go.Proofs.YtnenbmbgmmeiaaaDoor
