/- Walks of packages integer and rational: New, FromInt, Normalize. -/
import Derived.Test.YtnenbmbgmmeiaaaDoorRat3
namespace Go.Proofs.YtnenbmbgmmeiaaaDoor
open Go.RowKit
variable {α : Type}

/-- Three blocks laid: their cells in a later world. -/
theorem block3 {w w1 : World} {A B C : Array Value} {ta tb tc : TypeId} (hb : Ext (((w.alloc (.cells A ta)).alloc (.cells B tb)).alloc (.cells C tc)) w1) :
    (∀ i, w1.cell? ⟨w.heap.size, i, none⟩ = A[i]?) ∧ (∀ i, w1.cell? ⟨w.heap.size + 1, i, none⟩ = B[i]?) ∧ (∀ i, w1.cell? ⟨w.heap.size + 1 + 1, i, none⟩ = C[i]?) ∧ (∀ i, w1.frozen? ⟨w.heap.size + 1 + 1, i, none⟩ = false) ∧ w.heap.size + 1 + 1 < w1.heap.size := by
  refine ⟨fun i => ?_, fun i => ?_, fun i => ?_, fun i => ?_, by have := hb.size; simp at this; omega⟩
  · rw [hb.cell (p := ⟨w.heap.size, i, none⟩) (by simp; omega)]; simp [go_sem]
  · rw [hb.cell (p := ⟨w.heap.size + 1, i, none⟩) (by simp)]; simp [go_sem]
  · rw [hb.cell (p := ⟨w.heap.size + 1 + 1, i, none⟩) (by simp)]; simp [go_sem]
  · rw [hb.frozen (p := ⟨w.heap.size + 1 + 1, i, none⟩) (by simp)]; simp [go_sem]

abbrev zeroRat : Value := .agg #[.bool false, .slice none 0 0, .bool false, .slice none 0 0]
set_option maxRecDepth 100000 in
theorem ratNew_zero (n1 n2 : Bool) (s1 s2 : Value) (l m : List UInt32) (w : World) (h1 : IsU32s w s1 l) (h2 : IsU32s w s2 m) (hm : Na.val m = 0) (hl2 : m.length ≤ 100000000) :
    Calls Tryd.prog 77 #[.agg #[.bool n1, s1], .agg #[.bool n2, s2]] w fun e w' => e = .returned (.tuple #[zeroRat, .int .i64 9]) ∧ Ext w w' := by
  obtain ⟨a1, c1, rfl⟩ := h1.shape
  obtain ⟨a2, c2, rfl⟩ := h2.shape
  have HB0 := Lib.hid (((below_alloc w (.cells #[.bool n1, .slice a1 l.length c1] 49)).alloc (by simp) (.cells #[.bool n2, .slice a2 m.length c2] 49)).alloc (by simp; omega) (.cells #[.bool false, .slice none 0 0, .bool false, .slice none 0 0] 51))
  have hc := intSign_any n2 _ _ _ (h2.below HB0.out) hl2
  rw [hm] at hc
  have HC := Lib.hid hc
  clear hc h1 h2 hm
  go_enter Tryd.func77, Tryd.ntmps77
  go_wp2_with fail
  refine HC.out.mono ?_
  rintro e w1 ⟨rfl, hb⟩
  obtain ⟨-, -, r0, f0, hz⟩ := block3 hb
  have hs0 : ((sgn n2 0) == 0) = true := by unfold sgn; rfl
  have HX := Lib.hid (Ext.trans' HB0.out hb)
  clear hb HC HB0
  go_wp2_with fail
  refine bodyPost_ret (v := .tuple #[zeroRat, .int .i64 9]) (by simp [results, Tryd.results77, go_sem, r0]) rfl ⟨rfl, ?_⟩
  exact (((HX.out.setCell (p := ⟨_, 0, none⟩) (by simp only; omega) _).setCell (p := ⟨_, 1, none⟩) (by simp only; omega) _).setCell (p := ⟨_, 2, none⟩) (by simp only; omega) _).setCell (p := ⟨_, 3, none⟩) (by simp only; omega) _

set_option maxRecDepth 100000 in
theorem ratNew_any (n1 n2 : Bool) (s1 s2 : Value) (l m : List UInt32) (w : World) (h1 : IsU32s w s1 l) (h2 : IsU32s w s2 m) (hm : 0 < Na.val m) (hl1 : l.length ≤ 100000000) (hl2 : m.length ≤ 100000000) :
    Calls Tryd.prog 77 #[.agg #[.bool n1, s1], .agg #[.bool n2, s2]] w fun e w' => ∃ x, e = .returned (.tuple #[x, .int .i64 0]) ∧
      IsRatN w.heap.size w' x (negOf n1 n2 (Na.val l) (Na.val m)) (Na.val l / Nat.gcd (Na.val l) (Na.val m)) (Na.val m / Nat.gcd (Na.val l) (Na.val m)) ∧ Ext w w' := by
  obtain ⟨a1, c1, rfl⟩ := h1.shape
  obtain ⟨a2, c2, rfl⟩ := h2.shape
  have HB0 := Lib.hid (((below_alloc w (.cells #[.bool n1, .slice a1 l.length c1] 49)).alloc (by simp) (.cells #[.bool n2, .slice a2 m.length c2] 49)).alloc (by simp; omega) (.cells #[.bool false, .slice none 0 0, .bool false, .slice none 0 0] 51))
  have HC := Lib.hid (intSign_any n2 _ _ _ (h2.below HB0.out) hl2)
  have hs0 : ((sgn n2 (Na.val m)) == 0) = false := by
    rw [beq_eq_false_iff_ne]; unfold sgn; rw [if_neg (by omega)]; cases n2 <;> simp
  have H := Lib.hid (And.intro h1 h2)
  have HM := Lib.hid hm
  clear h1 h2 hm
  go_enter Tryd.func77, Tryd.ntmps77
  go_wp2_with fail
  refine HC.out.mono ?_
  rintro e w1 ⟨rfl, hb⟩
  obtain ⟨k1, k2, -, -, hz⟩ := block3 hb
  have hX := Ext.trans' HB0.out hb
  have HX := Lib.hid hX
  have HY := Lib.hid hb
  have HL := Lib.hid (lowest_any n1 n2 _ _ _ _ w1 (H.out.1.below hX) (H.out.2.below hX) HM.out hl1 hl2)
  clear hb HC hX HB0
  go_wp2_with fail
  refine HL.out.mono ?_
  rintro e w2 ⟨x, rfl, ⟨s, t, rfl, hs, ht, fs, ft⟩, hb2⟩
  obtain ⟨b1, d1, rfl⟩ := hs.shape
  obtain ⟨b2, d2, rfl⟩ := ht.shape
  obtain ⟨-, -, r0, f0, hz2⟩ := block3 (Ext.trans' HY.out hb2)
  have HX2 := Lib.hid (Ext.trans' HX.out hb2)
  have F := Lib.hid (And.intro hs (And.intro ht (And.intro fs ft)))
  clear hs ht fs ft hb2 HL k1 k2
  go_wp2_with fail
  refine bodyPost_ret (v := .tuple #[.agg #[.bool (negOf n1 n2 (Na.val l) (Na.val m)), .slice b1 (Na.digs (Na.val l / (Na.val l).gcd (Na.val m))).length d1, .bool false, .slice b2 (Na.digs (Na.val m / (Na.val l).gcd (Na.val m))).length d2], .int .i64 0]) (by simp [results, Tryd.results77, go_sem, r0]) rfl ⟨_, rfl, ⟨_, _, rfl, ?_, ?_, ?_, ?_⟩, ?_⟩
  · exact F.out.1.ch (((((Ch.refl _ _).setCell _ _).setCell _ _).setCell _ _).setCell _ _) (fun _ => F.out.2.2.1.off hz)
  · exact F.out.2.1.ch (((((Ch.refl _ _).setCell _ _).setCell _ _).setCell _ _).setCell _ _) (fun _ => F.out.2.2.2.off hz)
  · exact F.out.2.2.1.mono (by omega)
  · exact F.out.2.2.2.mono (by omega)
  · exact (((HX2.out.setCell (p := ⟨_, 0, none⟩) (by simp only; omega) _).setCell (p := ⟨_, 1, none⟩) (by simp only; omega) _).setCell (p := ⟨_, 2, none⟩) (by simp only; omega) _).setCell (p := ⟨_, 3, none⟩) (by simp only; omega) _

theorem wrap_neg_abs (x : Int) (h : -9223372036854775808 ≤ x) (hx : x < 0) : IntKind.u64.wrap (-IntKind.u64.wrap x) = ((x.natAbs : Nat) : Int) := by
  rw [IntKind.wrap_u64, IntKind.wrap_u64]; omega
set_option maxRecDepth 100000 in
theorem intFromInt_neg (x : Int) (w : World) (h : -9223372036854775808 ≤ x) (hx : x < 0) :
    Calls Tryd.prog 93 #[.int .i64 x] w fun e w' => ∃ v, e = .returned v ∧ IsIntN w.heap.size w' v (decide (x < 0)) x.natAbs ∧ Ext w w' := by
  have hb0 := below_alloc w (.cells #[.bool false, .slice none 0 0] 49)
  have hN : x.natAbs < 18446744073709551616 := by omega
  have eN : (UInt64.ofNat x.natAbs).toNat = x.natAbs := by simp; omega
  have hF := fromUint64_any (UInt64.ofNat x.natAbs) (w.alloc (.cells #[.bool false, .slice none 0 0] 49))
  rw [u64v, eN] at hF
  have hdl : (Na.digs x.natAbs).length ≤ 2 := Na.digs_length_le (by show _ < 4294967296 ^ 2; omega)
  have HF := Lib.hid hF
  have HB := Lib.hid hb0
  clear hF hb0 eN
  go_enter Tryd.func93, Tryd.ntmps93
  have hw := wrap_neg_abs x h hx
  go_wp2_with fail
  refine HF.out.mono ?_
  rintro e w1 ⟨v', rfl, ho, hb1⟩
  have hrow := ownsRow_row ho
  have HI := Lib.hid (intNew_any true v' _ w1 hrow (by omega))
  have HB1 := Lib.hid hb1
  clear hrow ho hw HF hb1
  go_wp2_with fail
  refine HI.out.mono ?_
  rintro e w2 ⟨y, rfl, ⟨s, rfl, hs, fs⟩, hb2⟩
  obtain ⟨b1, d1, rfl⟩ := hs.shape
  obtain ⟨r0, f0, hz⟩ := newBlock (Ext.trans' HB1.out hb2)
  obtain ⟨-, -, hz1⟩ := newBlock HB1.out
  have HX := Lib.hid (Ext.trans' HB.out (Ext.trans' HB1.out hb2))
  have F := Lib.hid (And.intro hs fs)
  have e1 : Hid ((true && decide (0 < Na.val (Na.digs x.natAbs))) = decide (x < 0)) := by
    show _ = _
    rw [Na.val_digs, Bool.true_and, decide_eq_decide]; omega
  clear hs fs hb2 HI
  go_wp2_with fail
  refine bodyPost_ret (v := .agg #[.bool (true && decide (0 < Na.val (Na.digs x.natAbs))), .slice b1 (Na.digs (Na.val (Na.digs x.natAbs))).length d1]) (by simp [results, Tryd.results93, go_sem, r0]) rfl ⟨_, rfl, ⟨_, by rw [e1.out], ?_, ?_⟩, ?_⟩
  · have := F.out.1.ch (((Ch.refl w.heap.size _).setCell 0 (.bool (true && decide (0 < Na.val (Na.digs x.natAbs))))).setCell 1 (.slice b1 (Na.digs (Na.val (Na.digs x.natAbs))).length d1)) (fun _ => F.out.2.off hz1)
    rw [Na.val_digs] at this ⊢
    exact this
  · exact F.out.2.mono (by omega)
  · exact (HX.out.setCell (p := ⟨_, 0, none⟩) (by simp only; omega) _).setCell (p := ⟨_, 1, none⟩) (by simp only; omega) _

set_option maxRecDepth 100000 in
theorem intFromInt_pos (x : Nat) (w : World) (h : (x : Int) ≤ 9223372036854775807) :
    Calls Tryd.prog 93 #[.int .i64 (x : Int)] w fun e w' => ∃ v, e = .returned v ∧ IsIntN w.heap.size w' v false x ∧ Ext w w' := by
  have hb0 := below_alloc w (.cells #[.bool false, .slice none 0 0] 49)
  have hN : x < 18446744073709551616 := by omega
  have eN : (UInt64.ofNat x).toNat = x := by simp; omega
  have hF := fromUint64_any (UInt64.ofNat x) (w.alloc (.cells #[.bool false, .slice none 0 0] 49))
  rw [u64v, eN] at hF
  have hdl : (Na.digs x).length ≤ 2 := Na.digs_length_le (by show _ < 4294967296 ^ 2; omega)
  have HF := Lib.hid hF
  have HB := Lib.hid hb0
  clear hF hb0 eN
  go_enter Tryd.func93, Tryd.ntmps93
  go_wp2_with fail
  refine HF.out.mono ?_
  rintro e w1 ⟨v', rfl, ho, hb1⟩
  have hrow := ownsRow_row ho
  have HI := Lib.hid (intNew_any false v' _ w1 hrow (by omega))
  have HB1 := Lib.hid hb1
  clear hrow ho HF hb1
  go_wp2_with fail
  refine HI.out.mono ?_
  rintro e w2 ⟨y, rfl, ⟨s, rfl, hs, fs⟩, hb2⟩
  obtain ⟨b1, d1, rfl⟩ := hs.shape
  obtain ⟨r0, f0, hz⟩ := newBlock (Ext.trans' HB1.out hb2)
  obtain ⟨-, -, hz1⟩ := newBlock HB1.out
  have HX := Lib.hid (Ext.trans' HB.out (Ext.trans' HB1.out hb2))
  have F := Lib.hid (And.intro hs fs)
  have e1 : Hid ((false && decide (0 < Na.val (Na.digs x))) = false) := Bool.false_and _
  clear hs fs hb2 HI
  go_wp2_with fail
  refine bodyPost_ret (v := .agg #[.bool (false && decide (0 < Na.val (Na.digs x))), .slice b1 (Na.digs (Na.val (Na.digs x))).length d1]) (by simp [results, Tryd.results93, go_sem, r0]) rfl ⟨_, rfl, ⟨_, by rw [e1.out], ?_, ?_⟩, ?_⟩
  · have := F.out.1.ch (((Ch.refl w.heap.size _).setCell 0 (.bool (false && decide (0 < Na.val (Na.digs x))))).setCell 1 (.slice b1 (Na.digs (Na.val (Na.digs x))).length d1)) (fun _ => F.out.2.off hz1)
    rw [Na.val_digs] at this ⊢
    exact this
  · exact F.out.2.mono (by omega)
  · exact (HX.out.setCell (p := ⟨_, 0, none⟩) (by simp only; omega) _).setCell (p := ⟨_, 1, none⟩) (by simp only; omega) _

theorem intFromInt_any (x : Int) (w : World) (h : -9223372036854775808 ≤ x) (h2 : x ≤ 9223372036854775807) :
    Calls Tryd.prog 93 #[.int .i64 x] w fun e w' => ∃ v, e = .returned v ∧ IsIntN w.heap.size w' v (decide (x < 0)) x.natAbs ∧ Ext w w' := by
  by_cases hx : x < 0
  · exact intFromInt_neg x w h hx
  · obtain ⟨n, rfl⟩ : ∃ n : Nat, x = n := ⟨x.toNat, by omega⟩
    have e : decide ((n : Int) < 0) = false := decide_eq_false (by omega)
    rw [e, Int.natAbs_natCast]
    exact intFromInt_pos n w h2
end Go.Proofs.YtnenbmbgmmeiaaaDoor
