/- Walks of the references on integers and rational numbers: GCD, New, FromInt, Sign, Neg, DivMod, reduce, Normalize. -/
import Derived.Test.YtcohmdeoocgmdaaGreatDoorRefNat
import Derived.Test.YtcohmdeoocgmdaaGreatDoorRat
set_option maxHeartbeats 800000
set_option maxRecDepth 100000
namespace Go.Proofs.YtcohmdeoocgmdaaGreatDoor
open Go.RowKit
variable {α : Type}
set_option linter.unusedVariables false
theorem refGcd_any (v u : Value) (l m : List UInt32) (w : World) (hv : IsU32s w v l) (hu : IsU32s w u m) (hlen : l.length ≤ 5000000) (hlen2 : m.length ≤ 5000000) :
  Calls Tryz.prog 128 #[v, u] w fun e w' => ∃ g, e = .returned g ∧ IsU32s w' g (Na.digs (Nat.gcd (Na.val l) (Na.val m))) ∧ Ext w w' := by
 have C1 := Lib.hid (refNormalize_any v l w hv (by omega))
 have hla := digs_len l
 have hlb := digs_len m
 go_enter Tryz.func128, Tryz.ntmps128
 go_wp2_with fail
 refine C1.out.mono ?_
 rintro e w1 ⟨x, rfl, hx, hb1⟩
 have hx := ownsRow_row hx
 go_wp2_with fail
 refine (refNormalize_any u m w1 (hu.below hb1) (by omega)).mono ?_
 rintro e w2 ⟨y, rfl, hy, hb2⟩
 have hy := ownsRow_row hy
 have hx2 := hx.below hb2
 have hb02 := Ext.trans' hb1 hb2
 clear hx C1 hv hu
 have HX := Lib.hid hx2
 have HY := Lib.hid hy
 clear hx2 hy
 go_wp2_with fail
 go_loopw [5, 6, 7, 8, 9] (fun x y _ _ _ wr => ∃ (A B : Nat), IsU32s wr x (Na.digs A) ∧ IsU32s wr y (Na.digs B) ∧ Nat.gcd A B = Nat.gcd (Na.val l) (Na.val m) ∧ (Na.digs A).length ≤ 5000000 ∧ (Na.digs B).length ≤ 5000000 ∧ Ext w wr) (fun _ y _ _ _ wr => valOf wr y)
 case atStart => exact ⟨(Na.val l), (Na.val m), HX.out, HY.out, rfl, by omega, by omega, hb02⟩
 case round =>
  obtain ⟨A, B, hx, hy, hg, hlA, hlB, hbel⟩ := hrel
  have HM := Lib.hid (valOf_eq hy)
  have HG := Lib.hid hg
  have HX := Lib.hid hx
  have HY := Lib.hid hy
  clear hg hx hy
  obtain ⟨ay, cy, rfl⟩ := HY.out.shape
  rcases Nat.eq_zero_or_pos B with rfl | hB
  ·have h0 : ((Na.digs 0).length : Int) = 0 := by rw [Na.digs_eq_nil.2 rfl]; rfl
   go_wp2_with fail
   go_ret
   refine ⟨_, rfl, ?_, hbel⟩
   rw [← HG.out, Nat.gcd_zero_right]
   exact HX.out
  ·have h0 : (0 : Int) < ((Na.digs B).length : Int) := by
    have : (Na.digs B).length ≠ 0 := fun h => by have := digs_len0 h; omega
    omega
   have hD := refDivMod_any _ _ _ _ wr HX.out HY.out (by rw [Na.val_digs]; exact hB) hlA hlB
   rw [Na.val_digs, Na.val_digs] at hD
   have HD := Lib.hid hD
   clear hD
   go_wp2_with fail
   refine HD.out.mono ?_
   rintro e w' ⟨q, r, rfl, hq, hr, hb⟩
   have HR := Lib.hid (ownsRow_row hr)
   have HY' := Lib.hid (HY.out.below hb)
   clear hq hr
   go_wp2_with fail
   go_roundw
   case rel =>
    refine ⟨B, A % B, HY'.out, HR.out, ?_, hlB, ?_, Ext.trans' hbel hb⟩
    ·rw [← HG.out, Nat.gcd_comm A B, Nat.gcd_rec B A, Nat.gcd_comm]
    ·exact Nat.le_trans (digs_len_le (Nat.le_of_lt (Nat.mod_lt A hB))) hlB
   case measure =>
    rw [valOf_eq HR.out, HM.out, Na.val_digs, Na.val_digs]
    exact Nat.mod_lt _ hB
theorem refNew_any (neg : Bool) (v : Value) (l : List UInt32) (w : World) (hv : IsU32s w v l) (hlen : l.length ≤ 1000000000) :
  Calls Tryz.prog 85 #[.bool neg, v] w fun e w' => ∃ x, e = .returned x ∧ IsIntN w.heap.size w' x (neg && decide (0 < Na.val l)) (Na.val l) ∧ Ext w w' := by
 have hb1 := below_alloc w (.cells #[.bool false, .slice none 0 0] 24)
 have HC := Lib.hid (refNormalize_any v l _ (hv.below hb1) hlen)
 have hpos : Hid (decide ((0 : Int) < ((Na.digs (Na.val l)).length : Int)) = decide (0 < Na.val l)) := by
  show _ = _
  rw [decide_eq_decide]
  constructor
  ·intro h
   rcases Nat.eq_zero_or_pos (Na.val l) with h0 | h0
   ·rw [h0, Na.digs_zero] at h; simp at h
   ·exact h0
  ·intro h
   have : (Na.digs (Na.val l)).length ≠ 0 := fun h' => by
    have := Na.digs_eq_nil.1 (List.eq_nil_of_length_eq_zero h'); omega
   omega
 rcases Bool.eq_false_or_eq_true neg with rfl | rfl
 all_goals
  go_enter Tryz.func85, Tryz.ntmps85
  go_wp2_with fail
  refine HC.out.mono ?_
  rintro e w1 ⟨v', rfl, ho, hb2⟩
  have hrow := ownsRow_row ho
  have hoff := from_own ho
  obtain ⟨hc, hf, hz⟩ := newBlock hb2
  have hb0 := Ext.trans' hb1 hb2
  have HB := Lib.hid hb0
  have HR := Lib.hid hrow
  have HO := Lib.hid hoff
  obtain ⟨a, cap, rfl⟩ := HR.out.shape
  clear HC ho hrow hb2 hb1 hb0 hoff
  go_wp2_with fail
 ·refine bodyPost_ret (v := .agg #[.bool (decide ((0 : Int) < ((Na.digs (Na.val l)).length : Int))), .slice a (Na.digs (Na.val l)).length cap]) (by simp [results, Tryz.results85, go_sem, hc]) rfl ⟨_, rfl, ⟨_, by rw [Bool.true_and, hpos.out], ?_⟩, ?_⟩
  ·exact ⟨HR.out.ch (((Ch.refl _ _).setCell _ _).setCell _ _) (fun _ => HO.out.off (by simp)), HO.out.mono (by simp)⟩
  ·exact (HB.out.setCell (p := ⟨w.heap.size, 0, none⟩) (Nat.le_refl _) _).setCell (p := ⟨w.heap.size, 1, none⟩) (Nat.le_refl _) _
 ·refine bodyPost_ret (v := .agg #[.bool false, .slice a (Na.digs (Na.val l)).length cap]) (by simp [results, Tryz.results85, go_sem, hc]) rfl ⟨_, rfl, ⟨_, by rw [Bool.false_and], ?_⟩, ?_⟩
  ·exact ⟨HR.out.ch (((Ch.refl _ _).setCell _ _).setCell _ _) (fun _ => HO.out.off (by simp)), HO.out.mono (by simp)⟩
  ·exact (HB.out.setCell (p := ⟨w.heap.size, 0, none⟩) (Nat.le_refl _) _).setCell (p := ⟨w.heap.size, 1, none⟩) (Nat.le_refl _) _
theorem refFromInt_any (x : Nat) (w : World) (h : (x : Int) ≤ 9223372036854775807) :
  Calls Tryz.prog 40 #[.int .i64 (x : Int)] w fun e w' => ∃ v, e = .returned v ∧ IsIntN w.heap.size w' v false x ∧ Ext w w' := by
 have hN : x < 18446744073709551616 := by omega
 obtain ⟨y, rfl⟩ : ∃ y : UInt64, x = y.toNat := ⟨UInt64.ofNat x, by simp; omega⟩
 have h0 : ¬ (y.toNat : Int) < 0 := by omega
 have hyl := y.toNat_lt
 have hw := wrapU64 y
 have hb0 := below_alloc w (.cells #[.bool false, .slice none 0 0] 24)
 have hr : IsU32s ((w.alloc (.cells #[.bool false, .slice none 0 0] 24)).alloc (.cells #[u32v y.toUInt32, u32v (y >>> 32).toUInt32] 103)) (.slice (some ⟨w.heap.size + 1, 0, none⟩) 2 2) [y.toUInt32, (y >>> 32).toUInt32] := by
  have := row_new (w.alloc (.cells #[.bool false, .slice none 0 0] 24)) [y.toUInt32, (y >>> 32).toUInt32] (f := u32v) 103 (by unfold maxLen; simp)
  simpa using this
 have hI := refNew_any false _ _ _ hr (by simp)
 rw [val_pair] at hI
 have HI := Lib.hid hI
 have HB := Lib.hid (hb0.alloc (by simp) (.cells #[u32v y.toUInt32, u32v (y >>> 32).toUInt32] 103))
 clear hr hI hb0
 have HE : Hid (((y >>> 32).toNat : Int) = ((y >>> 32).toUInt32.toNat : Int)) := by
  show _ = _
  rw [← down64_32, ← sh32_64]; omega
 go_enter Tryz.func40, Tryz.ntmps40
 go_wp2_with fail
 rw [down64_32, sh32_64, HE.out]
 refine HI.out.mono ?_
 rintro e w2 ⟨z, rfl, ⟨s, rfl, hs, fs⟩, hb2⟩
 obtain ⟨b1, d1, rfl⟩ := hs.shape
 have r0 : ∀ i, w2.cell? ⟨w.heap.size, i, none⟩ = #[Value.bool false, .slice none 0 0][i]? := fun i => by rw [hb2.cell (p := ⟨w.heap.size, i, none⟩) (by simp; omega)]; simp [go_sem]
 have f0 : ∀ i, w2.frozen? ⟨w.heap.size, i, none⟩ = false := fun i => by rw [hb2.frozen (p := ⟨w.heap.size, i, none⟩) (by simp; omega)]; simp [go_sem]
 have hz : w.heap.size < w2.heap.size := by have := hb2.size; simp at this; omega
 have HX := Lib.hid (Ext.trans' HB.out hb2)
 have F := Lib.hid (And.intro hs fs)
 clear hs fs hb2 HI
 go_wp2_with fail
 refine bodyPost_ret (v := .agg #[.bool false, .slice b1 (Na.digs y.toNat).length d1]) (by simp [results, Tryz.results40, go_sem, r0]) rfl ⟨_, rfl, ⟨_, rfl, ?_, ?_⟩, ?_⟩
 ·exact F.out.1.ch (((Ch.refl w.heap.size _).setCell 0 _).setCell 1 _) (fun _ => F.out.2.off (by simp; omega))
 ·exact F.out.2.mono (by simp; omega)
 ·exact (HX.out.setCell (p := ⟨_, 0, none⟩) (by simp only; omega) _).setCell (p := ⟨_, 1, none⟩) (by simp only; omega) _
theorem refSign_any (neg : Bool) (s : Value) (l : List UInt32) (w : World) (hv : IsU32s w s l) (hlen : l.length ≤ 100000000) :
  Calls Tryz.prog 82 #[.agg #[.bool neg, s]] w fun e w' => e = .returned (.int .i64 (sgn neg (Na.val l))) ∧ Ext w w' := by
 have hb1 := below_alloc w (.cells #[.bool neg, s] 24)
 have HC := Lib.hid (refNew_any neg s l _ (hv.below hb1) (by omega))
 have HB := Lib.hid hb1
 obtain ⟨a, cap, rfl⟩ := hv.shape
 clear hv hb1
 by_cases h0 : Na.val l = 0
 ·have hs : Hid (sgn neg (Na.val l) = 0) := by show _ = _; unfold sgn; rw [if_pos h0]
  have hd : (((Na.digs (Na.val l)).length : Int) == 0) = true := by rw [h0]; rfl
  clear h0
  go_enter Tryz.func82, Tryz.ntmps82
  go_wp2_with fail
  refine HC.out.mono ?_
  rintro e w' ⟨x, rfl, ⟨t, rfl, ht, ft⟩, hb⟩
  obtain ⟨b1, d1, rfl⟩ := ht.shape
  have HX := Lib.hid (Ext.trans' HB.out hb)
  have hsz := HX.out.size
  clear ht ft hb HC HB
  go_wp2_with fail
  go_ret
  exact ⟨by rw [hs.out]; rfl, HX.out.alloc hsz _⟩
 ·have hd : (((Na.digs (Na.val l)).length : Int) == 0) = false := by
   rw [beq_eq_false_iff_ne]
   intro h
   exact h0 (digs_len0 (by omega))
  have hs0 : Hid (∀ neg, sgn neg (Na.val l) = if neg then -1 else 1) := fun neg => if_neg h0
  have hp : decide (0 < Na.val l) = true := decide_eq_true (by omega)
  rw [hp] at HC
  clear h0 hp
  rcases Bool.eq_false_or_eq_true neg with rfl | rfl
  all_goals
   go_enter Tryz.func82, Tryz.ntmps82
   go_wp2_with fail
   refine HC.out.mono ?_
   rintro e w' ⟨x, rfl, ⟨t, rfl, ht, ft⟩, hb⟩
   obtain ⟨b1, d1, rfl⟩ := ht.shape
   have HX := Lib.hid (Ext.trans' HB.out hb)
   have hsz := HX.out.size
   clear ht ft hb HC HB
   go_wp2_with fail
   go_ret
   exact ⟨by rw [hs0.out]; rfl, HX.out.alloc hsz _⟩
theorem refNeg_any (neg : Bool) (s : Value) (l : List UInt32) (w : World) (hv : IsU32s w s l) (hlen : l.length ≤ 100000000) :
  Calls Tryz.prog 129 #[.agg #[.bool neg, s]] w fun e w' => ∃ x, e = .returned x ∧ IsIntN w.heap.size w' x (!neg && decide (0 < Na.val l)) (Na.val l) ∧ Ext w w' := by
 have hb0 := below_alloc w (.cells #[.bool neg, s] 24)
 have hb1 := hb0.alloc (by simp) (.cells #[.bool false, .slice none 0 0] 24)
 have HC := Lib.hid (refNew_any (!neg) s l _ (hv.below hb1) (by omega))
 have HB := Lib.hid hb1
 obtain ⟨a, cap, rfl⟩ := hv.shape
 clear hv hb1 hb0
 go_enter Tryz.func129, Tryz.ntmps129
 go_wp2_with fail
 refine HC.out.mono ?_
 rintro e w2 ⟨z, rfl, ⟨s, rfl, hs, fs⟩, hb2⟩
 obtain ⟨b1, d1, rfl⟩ := hs.shape
 have r0 : ∀ i, w2.cell? ⟨w.heap.size + 1, i, none⟩ = #[Value.bool false, .slice none 0 0][i]? := fun i => by rw [hb2.cell (p := ⟨w.heap.size + 1, i, none⟩) (by simp)]; simp [go_sem]
 have f0 : ∀ i, w2.frozen? ⟨w.heap.size + 1, i, none⟩ = false := fun i => by rw [hb2.frozen (p := ⟨w.heap.size + 1, i, none⟩) (by simp)]; simp [go_sem]
 have hz : w.heap.size + 1 < w2.heap.size := by have := hb2.size; simp at this; omega
 have HX := Lib.hid (Ext.trans' HB.out hb2)
 have F := Lib.hid (And.intro hs fs)
 generalize hnb : (!neg && decide (0 < Na.val l)) = nb at *
 have HNB := Lib.hid hnb
 clear hs fs hb2 HC hnb
 go_wp2_with fail
 refine bodyPost_ret (v := .agg #[.bool nb, .slice b1 (Na.digs (Na.val l)).length d1]) (by simp [results, Tryz.results129, go_sem, r0]) rfl ⟨_, rfl, ⟨_, by rw [HNB.out], ?_, ?_⟩, ?_⟩
 ·exact F.out.1.ch (((Ch.refl (w.heap.size + 1) _).setCell 0 _).setCell 1 _) (fun _ => F.out.2.off (by simp))
 ·exact F.out.2.mono (by simp; omega)
 ·exact (HX.out.setCell (p := ⟨_, 0, none⟩) (by simp only; omega) _).setCell (p := ⟨_, 1, none⟩) (by simp only; omega) _
theorem refRatFromInt_any (x : Nat) (w : World) (h : (x : Int) ≤ 9223372036854775807) :
  Calls Tryz.prog 17 #[.int .i64 (x : Int)] w fun e w' => ∃ v, e = .returned v ∧ IsRatN w.heap.size w' v false x 1 ∧ Ext w w' := by
 have hb0 := below_alloc w (.cells #[.bool false, .slice none 0 0, .bool false, .slice none 0 0] 26)
 have H1 := Lib.hid (refFromInt_any x (w.alloc (.cells #[.bool false, .slice none 0 0, .bool false, .slice none 0 0] 26)) h)
 have HB0 := Lib.hid hb0
 clear hb0
 go_enter Tryz.func17, Tryz.ntmps17
 go_wp2_with fail
 refine H1.out.mono ?_
 rintro e w1 ⟨y, rfl, ⟨s, rfl, hs, fs⟩, hb1⟩
 have h2 := refFromInt_any 1 w1 (by decide)
 have H2 := Lib.hid h2
 have HS := Lib.hid (And.intro hs fs)
 have HB1 := Lib.hid hb1
 clear h2 H1 hs fs hb1
 go_wp2_with fail
 refine H2.out.mono ?_
 rintro e w2 ⟨y, rfl, ⟨t, rfl, ht, ft⟩, hb2⟩
 obtain ⟨b1, d1, rfl⟩ := HS.out.1.shape
 obtain ⟨b2, d2, rfl⟩ := ht.shape
 obtain ⟨r0, f0, hz⟩ := newBlock (Ext.trans' HB1.out hb2)
 obtain ⟨-, -, hz1⟩ := newBlock HB1.out
 have F := Lib.hid (And.intro (HS.out.1.below hb2) (And.intro ht (And.intro HS.out.2 ft)))
 have HX := Lib.hid (Ext.trans' HB0.out (Ext.trans' HB1.out hb2))
 clear ht ft hb2 H2
 go_wp2_with fail
 refine bodyPost_ret (v := .agg #[.bool false, .slice b1 (Na.digs x).length d1, .bool false, .slice b2 (Na.digs 1).length d2]) (by simp [results, Tryz.results17, go_sem, r0]) rfl ⟨_, rfl, ⟨_, _, rfl, ?_, ?_, ?_, ?_⟩, ?_⟩
 ·exact F.out.1.ch (((((Ch.refl w.heap.size _).setCell _ _).setCell _ _).setCell _ _).setCell _ _) (fun _ => F.out.2.2.1.off (by simp))
 ·exact F.out.2.1.ch (((((Ch.refl w.heap.size _).setCell _ _).setCell _ _).setCell _ _).setCell _ _) (fun _ => F.out.2.2.2.off hz1)
 ·exact F.out.2.2.1.mono (by simp)
 ·exact F.out.2.2.2.mono (by omega)
 ·exact (((HX.out.setCell (p := ⟨_, 0, none⟩) (by simp only; omega) _).setCell (p := ⟨_, 1, none⟩) (by simp only; omega) _).setCell (p := ⟨_, 2, none⟩) (by simp only; omega) _).setCell (p := ⟨_, 3, none⟩) (by simp only; omega) _
end Go.Proofs.YtcohmdeoocgmdaaGreatDoor
