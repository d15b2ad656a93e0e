/- Nodes with default values: package node and reference 36. -/
import Derived.Test.YtcohmdeoocgmdaaGreatDoorKey
set_option maxHeartbeats 3200000
set_option maxRecDepth 100000
namespace Go.Proofs.YtcohmdeoocgmdaaGreatDoor
open Go.RowKit
variable {α : Type} {K : Nat}
set_option linter.unusedVariables false
def groupD (id : Int) (t : AffD) : NodeD := ⟨id, 1, 0, t, none, 0, [], 0, 255, 1, false, false, none, 0, [], 0, none, 0, [], StyleD.bare, none, 0, [], ImgD.bare, 0⟩
def pix0 : PixD := ⟨0, 0, 0, 0⟩
def imageD (id : Int) (t : AffD) (b : Nat) : NodeD := ⟨id, 3, 0, t, none, 0, [], 0, 0, 0, false, false, none, 0, [], 0, none, 0, [], StyleD.bare, none, 0, [], ⟨1, 1, some ⟨b, 0, none⟩, 1, [pix0]⟩, 1⟩
/-- A transform in lowest terms with the identity's value. -/
def TI (w : World) (t : AffD) : Prop := t.ok w ∧ t.Is qI
theorem TI.below {w w' : World} {t : AffD} (h : TI w t) (hE : Ext w w') : TI w' t := ⟨h.1.below hE, h.2⟩
theorem TI.setc {w w' : World} {t : AffD} {b : Nat} {A : Array Value} (h : TI w t) (hc : Ch b w w') (hx : Bx w b A) (hA : A.toList.all noU32 = true := by rfl) : TI w' t := ⟨h.1.setc hc hx hA, h.2⟩
theorem AffD.Is.q {t : AffD} {Q : Q6} (h : t.Is Q) (hn : Nrm6 Q) : t.q = Q := by
  obtain ⟨n0, n1, n2, n3, n4, n5⟩ := hn
  obtain ⟨⟨a0, b0, c0, d0⟩, ⟨a1, b1, c1, d1⟩, ⟨a2, b2, c2, d2⟩, ⟨a3, b3, c3, d3⟩, ⟨a4, b4, c4, d4⟩, ⟨a5, b5, c5, d5⟩⟩ := h
  unfold AffD.q
  rw [rec_q a0 b0 c0 d0 n0, rec_q a1 b1 c1 d1 n1, rec_q a2 b2 c2 d2 n2, rec_q a3 b3 c3 d3 n3, rec_q a4 b4 c4 d4 n4, rec_q a5 b5 c5 d5 n5]
theorem AffD.Is.fit {t : AffD} {Q : Q6} {K : Nat} (h : t.Is Q) (hl : qlen6 K Q) : t.fit K := by
  obtain ⟨l0, l1, l2, l3, l4, l5⟩ := hl
  obtain ⟨h0, h1, h2, h3, h4, h5⟩ := h
  exact ⟨rec_fit h0.2.1 h0.2.2.2 l0, rec_fit h1.2.1 h1.2.2.2 l1, rec_fit h2.2.1 h2.2.2.2 l2, rec_fit h3.2.1 h3.2.2.2 l3, rec_fit h4.2.1 h4.2.2.2 l4, rec_fit h5.2.1 h5.2.2.2 l5⟩
theorem aff_ti {base : Nat} {w : World} {v : Value} (h : IsAffT base w v qI) : ∃ t : AffD, v = t.v ∧ TI w t := by
  obtain ⟨t, rfl, k⟩ := h.sT
  obtain ⟨r, e, ho, hi⟩ := no_rec k
  exact ⟨r, e, ho, hi⟩
/-- A node with default values. -/
def IsDef (w : World) (id kind : Int) (nd : NodeD) : Prop :=
  (kind = 1 ∧ ∃ t, TI w t ∧ nd = groupD id t) ∨ (kind = 2 ∧ ∃ t, TI w t ∧ nd = shapeD id t) ∨ (kind = 3 ∧ ∃ t b, TI w t ∧ Bx w b #[.int .u8 0, .int .u8 0, .int .u8 0, .int .u8 0] ∧ nd = imageD id t b) ∨ ((kind ≠ 1 ∧ kind ≠ 2 ∧ kind ≠ 3) ∧ nd = nodeD0)
theorem IsDef.below {w w' : World} {id kind : Int} {nd : NodeD} (h : IsDef w id kind nd) (hE : Ext w w') : IsDef w' id kind nd := by
  rcases h with ⟨e, t, ht, h⟩ | ⟨e, t, ht, h⟩ | ⟨e, t, b, ht, hb, h⟩ | h
  · exact .inl ⟨e, t, ht.below hE, h⟩
  · exact .inr (.inl ⟨e, t, ht.below hE, h⟩)
  · exact .inr (.inr (.inl ⟨e, t, b, ht.below hE, hb.ext hE, h⟩))
  · exact .inr (.inr (.inr h))
theorem IsDef.setc {w w' : World} {id kind : Int} {nd : NodeD} {b : Nat} {A : Array Value} (h : IsDef w id kind nd) (hc : Ch b w w') (hx : Bx w b A) (hA : A.toList.all noU32 = true := by rfl) (h4 : decide (4 < A.size) = true := by kernel_rfl) : IsDef w' id kind nd := by
  rcases h with ⟨e, t, ht, h⟩ | ⟨e, t, ht, h⟩ | ⟨e, t, c, ht, hb, h⟩ | h
  · exact .inl ⟨e, t, ht.setc hc hx hA, h⟩
  · exact .inr (.inl ⟨e, t, ht.setc hc hx hA, h⟩)
  · exact .inr (.inr (.inl ⟨e, t, c, ht.setc hc hx hA, hb.ch hc (fun e => by subst e; have h1 := hb.2.1 4; have h2 := hx.2.1 4; rw [h1] at h2; have h3 := of_decide_eq_true h4; simp at h2; omega), h⟩))
  · exact .inr (.inr (.inr h))
theorem refFromInts1_q (w : World) :
    Calls Tryz.prog 100 #[.int .i64 1, .int .i64 0, .int .i64 0, .int .i64 1, .agg Sx.zr.toArray, .agg Sx.zr.toArray] w fun e w' => ∃ x, e = .returned x ∧ IsNo w.heap.size w' x qI ∧ Ext w w' := by
  skip
  refine Sx.enter Tryz.func100 Tryz.ntmps100 (fun ac S => ?_)
  refine Sx.seqP (fun _ κ1 => ?_)
  refine Sx.newp S 10 Sx.zr (fun ac u b2 E3 hb4 S => ?_)
  refine Sx.newp S 11 Sx.zr (fun ac u b5 E6 hb7 S => ?_)
  refine Sx.newp S 12 Sx.za (fun ac u b8 E9 hb10 S => ?_)
  refine Sx.done (κ1 _ _ ?_)
  refine wp_seq_k (fun _ κ11 => ?_)
  refine Sx.drawX S 12 [(14, fun v w1 => IsRatT w.heap.size w1 v (false, 1, 1)), (16, fun v w1 => IsRatT w.heap.size w1 v (false, 0, 1)), (18, fun v w1 => IsRatT w.heap.size w1 v (false, 0, 1)), (20, fun v w1 => IsRatT w.heap.size w1 v (false, 1, 1)), (22, fun v w1 => IsRatT w.heap.size w1 v q0), (24, fun v w1 => IsRatT w.heap.size w1 v q0)] (fun r => [.mem 2 0, .mem 1 0]) (fun x => [x 14, x 16, x 18, x 20, x 22, x 24]) (fun x => [(_, _, true, x 14, 14), (_, _, true, x 16, 16), (_, _, true, x 18, 18), (_, _, true, x 20, 20), (_, _, true, x 22, 22), (_, _, true, x 24, 24)]) [[], [], [], [], [], []] (fun x => [(14, x 14), (16, x 16), (18, x 18), (20, x 20), (22, x 22), (24, x 24)]) ⟨fun _ _ _ k h => h.ext k, fun _ _ _ k h => h.ext k, fun _ _ _ k h => h.ext k, fun _ _ _ k h => h.ext k, fun _ _ _ k h => h.ext k, fun _ _ _ k h => h.ext k, trivial⟩ (fun x => ⟨by intro u hC g F; exact (refRatFromInt_any 1 _ (by decide)).mono fun e w2 h => by obtain ⟨y, rfl, hx, hb⟩ := h; exact ⟨_, rfl, IsRatN.mono hx ((Ext.trans' S.E hC)).size, hb⟩, by intro u hC g F; exact (refRatFromInt_any 0 _ (by decide)).mono fun e w2 h => by obtain ⟨y, rfl, hx, hb⟩ := h; exact ⟨_, rfl, IsRatN.mono hx ((Ext.trans' S.E hC)).size, hb⟩, by intro u hC g F; exact (refRatFromInt_any 0 _ (by decide)).mono fun e w2 h => by obtain ⟨y, rfl, hx, hb⟩ := h; exact ⟨_, rfl, IsRatN.mono hx ((Ext.trans' S.E hC)).size, hb⟩, by intro u hC g F; exact (refRatFromInt_any 1 _ (by decide)).mono fun e w2 h => by obtain ⟨y, rfl, hx, hb⟩ := h; exact ⟨_, rfl, IsRatN.mono hx ((Ext.trans' S.E hC)).size, hb⟩, by intro u hC g F; exact (refNorm_q _ q0 1 _ (RatD.none_q ▸ RatD.toQ (RatD.none_ok _) (RatD.none_fit 1)) (by decide)).mono fun e w2 h => by obtain ⟨y, rfl, hx, hb⟩ := h; exact ⟨_, rfl, hx.mono ((Ext.trans' S.E hC)).size, hb⟩, by intro u hC g F; exact (refNorm_q _ q0 1 _ (RatD.none_q ▸ RatD.toQ (RatD.none_ok _) (RatD.none_fit 1)) (by decide)).mono fun e w2 h => by obtain ⟨y, rfl, hx, hb⟩ := h; exact ⟨_, rfl, hx.mono ((Ext.trans' S.E hC)).size, hb⟩, trivial⟩) (fun ac u x E12 F S => ?_)
  obtain ⟨F14, F16, F18, F20, F22, F24, -⟩ := F
  obtain ⟨r0, e0⟩ := IsRatN.shapeD F14
  rw [e0] at S F14
  obtain ⟨r1, e1⟩ := IsRatN.shapeD F16
  rw [e1] at S F16
  obtain ⟨r2, e2⟩ := IsRatN.shapeD F18
  rw [e2] at S F18
  obtain ⟨r3, e3⟩ := IsRatN.shapeD F20
  rw [e3] at S F20
  obtain ⟨r4, e4⟩ := IsRatN.shapeD F22
  rw [e4] at S F22
  obtain ⟨r5, e5⟩ := IsRatN.shapeD F24
  rw [e5] at S F24
  refine Sx.run S 1 [] [(25, .agg (r0.cells ++ r1.cells ++ r2.cells ++ r3.cells ++ r4.cells ++ r5.cells).toArray)] (fun ac S => ?_)
  have X14 := S.bx 0
  refine Sx.store S 0 (off := 0) (cs := (r0.cells ++ r1.cells ++ r2.cells ++ r3.cells ++ r4.cells ++ r5.cells)) rfl (fun u C13 S => ?_)
  have Fs15 := IsRatN.setc F14 C13 X14
  have Fs16 := IsRatN.setc F16 C13 X14
  have Fs17 := IsRatN.setc F18 C13 X14
  have Fs18 := IsRatN.setc F20 C13 X14
  have Fs19 := IsRatN.setc F22 C13 X14
  have Fs20 := IsRatN.setc F24 C13 X14
  refine Sx.done (κ11 _ _ ?_)
  refine Vp.rt ?_
  refine Sx.retc S 0 Tryz.results100 rfl (v := .agg (r0.cells ++ r1.cells ++ r2.cells ++ r3.cells ++ r4.cells ++ r5.cells).toArray) ?_
  exact ⟨_, rfl, ⟨⟨r0, r1, r2, r3, r4, r5⟩, rfl, Fs15, Fs16, Fs17, Fs18, Fs19, Fs20⟩, S.E⟩
theorem refIdentity_any (w : World) :
    Calls Tryz.prog 47 #[] w fun e w' => ∃ t : AffD, e = .returned t.v ∧ TI w' t ∧ Ext w w' := by
  skip
  refine Sx.enter Tryz.func47 Tryz.ntmps47 (fun ac S => ?_)
  refine Sx.seqP (fun _ κ1 => ?_)
  refine Sx.newp S 0 Sx.za (fun ac u b2 E3 hb4 S => ?_)
  refine Sx.done (κ1 _ _ ?_)
  refine Sx.seqP (fun _ κ5 => ?_)
  refine Sx.run S 2 [] [(1, .agg Sx.zr.toArray), (2, .agg Sx.zr.toArray)] (fun ac S => ?_)
  refine Sx.callG S (some 3) (refFromInts1_q _) ?_
  rintro e u ⟨x, rfl, hm, E6⟩
  obtain ⟨m, rfl, hm⟩ := hm
  obtain ⟨t, e, ho, hi⟩ := no_rec hm
  rw [e]
  refine ⟨_, rfl, E6, fun ac S => ?_⟩
  have X8 := S.bx 0
  refine Sx.store S 0 (off := 0) (cs := t.cells) rfl (fun u C7 S => ?_)
  have Fs9 := TI.setc (⟨ho, hi⟩ : TI _ t) C7 X8
  refine Sx.done (κ5 _ _ ?_)
  refine Vp.rt ?_
  refine Sx.retc S 0 Tryz.results47 rfl (v := t.v) ?_
  exact ⟨t, rfl, Fs9, S.E⟩
theorem nodeDefault_any (id kind : Int) (w : World) :
    Calls Tryz.prog 20 #[.int .i64 id, .int .i64 kind] w fun e w' => ∃ nd, e = .returned (NodeD.v nd) ∧ IsDef w' id kind nd ∧ Ext w w' := by
  skip
  refine Sx.enter Tryz.func20 Tryz.ntmps20 (fun ac S => ?_)
  refine Sx.seqP (fun _ κ1 => ?_)
  refine Sx.newp S 4 (Sx.L [.int .i64 0, .int .i64 0, .int .i64 0] ++ Sx.za ++ Sx.L [.slice none 0 0, .int .i64 0, .int .u8 0, .int .i64 0, .bool false, .bool false, .slice none 0 0, .int .i64 0, .slice none 0 0, .int .i64 0, .int .i64 0, .int .i64 0, .int .i64 0, .slice none 0 0, .int .i64 0, .slice none 0 0, .int .i64 0, .int .i64 0, .slice none 0 0, .int .i64 0]) (fun ac u b2 E3 hb4 S => ?_)
  refine Sx.done (κ1 _ _ ?_)
  refine Sx.seqP (fun _ κ5 => ?_)
  refine Sx.run S 2 [] [(6, .int .i64 id), (7, .int .i64 kind)] (fun ac S => ?_)
  refine Sx.callG S (some 8) (identity_q _) ?_
  rintro e u ⟨y, rfl, hx, E6⟩
  obtain ⟨t, rfl, ht⟩ := aff_ti hx
  refine ⟨_, rfl, E6, fun ac S => ?_⟩
  refine Sx.run S 1 [] [(9, .agg (Sx.L [.int .i64 id, .int .i64 kind, .int .i64 0] ++ t.cells ++ Sx.L [.slice none 0 0, .int .i64 0, .int .u8 0, .int .i64 0, .bool false, .bool false, .slice none 0 0, .int .i64 0, .slice none 0 0, .int .i64 0, .int .i64 0, .int .i64 0, .int .i64 0, .slice none 0 0, .int .i64 0, .slice none 0 0, .int .i64 0, .int .i64 0, .slice none 0 0, .int .i64 0]).toArray)] (fun ac S => ?_)
  refine Sx.newp S 5 (Sx.L [.int .i64 0, .int .i64 0, .int .i64 0] ++ Sx.za ++ Sx.L [.slice none 0 0, .int .i64 0, .int .u8 0, .int .i64 0, .bool false, .bool false, .slice none 0 0, .int .i64 0, .slice none 0 0, .int .i64 0, .int .i64 0, .int .i64 0, .int .i64 0, .slice none 0 0, .int .i64 0, .slice none 0 0, .int .i64 0, .int .i64 0, .slice none 0 0, .int .i64 0]) (fun ac u b7 E8 hb9 S => ?_)
  refine Sx.store S 0 (off := 0) (cs := (Sx.L [.int .i64 id, .int .i64 kind, .int .i64 0] ++ t.cells ++ Sx.L [.slice none 0 0, .int .i64 0, .int .u8 0, .int .i64 0, .bool false, .bool false, .slice none 0 0, .int .i64 0, .slice none 0 0, .int .i64 0, .int .i64 0, .int .i64 0, .int .i64 0, .slice none 0 0, .int .i64 0, .slice none 0 0, .int .i64 0, .int .i64 0, .slice none 0 0, .int .i64 0])) rfl (fun u C10 S => ?_)
  have E11 := Sx.ext_ch E8 C10 (by omega)
  refine Sx.done (κ5 _ _ ?_)
  refine wp_seq_k (fun _ κ12 => ?_)
  refine Sx.seqP (fun _ κ13 => ?_)
  refine Sx.run S 1 [] [(10, .int .i64 kind)] (fun ac S => ?_)
  refine Sx.done (κ13 _ _ ?_)
  refine wp_block ?_
  refine Sx.seqP (fun _ κ14 => ?_)
  refine Sx.run S 2 [] [(12, .bool ((kind) == 1))] (fun ac S => ?_)
  refine Sx.done (κ14 _ _ ?_)
  refine Sx.cond S (fun hc15 => ?_) (fun hc15 => ?_)
  · refine Vp.region ?_
    refine Sx.run S 1 [] [(14, .pointer (some ⟨b7, 29, none⟩))] (fun ac S => ?_)
    refine Sx.store1 S 0 (off := 29) (v := .int .u8 255) rfl (fun u C16 S => ?_)
    have E17 := Sx.ext_ch E11 C16 (by omega)
    refine Sx.run S 1 [] [(15, .pointer (some ⟨b7, 30, none⟩))] (fun ac S => ?_)
    refine Sx.store1 S 0 (off := 30) (v := .int .i64 1) rfl (fun u C18 S => ?_)
    have E19 := Sx.ext_ch E17 C18 (by omega)
    refine Sx.done (κ12 _ _ ?_)
    refine Sx.seqP (fun _ κ20 => ?_)
    refine Sx.run S 1 [.mem 0 0] [(25, .agg (Sx.L [.int .i64 id, .int .i64 kind, .int .i64 0] ++ t.cells ++ Sx.L [.slice none 0 0, .int .i64 0, .int .u8 255, .int .i64 1, .bool false, .bool false, .slice none 0 0, .int .i64 0, .slice none 0 0, .int .i64 0, .int .i64 0, .int .i64 0, .int .i64 0, .slice none 0 0, .int .i64 0, .slice none 0 0, .int .i64 0, .int .i64 0, .slice none 0 0, .int .i64 0]).toArray)] (fun ac S => ?_)
    have X22 := S.bx 1
    refine Sx.store S 1 (off := 0) (cs := (Sx.L [.int .i64 id, .int .i64 kind, .int .i64 0] ++ t.cells ++ Sx.L [.slice none 0 0, .int .i64 0, .int .u8 255, .int .i64 1, .bool false, .bool false, .slice none 0 0, .int .i64 0, .slice none 0 0, .int .i64 0, .int .i64 0, .int .i64 0, .int .i64 0, .slice none 0 0, .int .i64 0, .slice none 0 0, .int .i64 0, .int .i64 0, .slice none 0 0, .int .i64 0])) rfl (fun u C21 S => ?_)
    have Fs23 := TI.setc (ht.below E19) C21 X22
    refine Sx.done (κ20 _ _ ?_)
    refine Vp.rt ?_
    refine Sx.retc S 1 Tryz.results20 rfl (v := .agg (Sx.L [.int .i64 id, .int .i64 kind, .int .i64 0] ++ t.cells ++ Sx.L [.slice none 0 0, .int .i64 0, .int .u8 255, .int .i64 1, .bool false, .bool false, .slice none 0 0, .int .i64 0, .slice none 0 0, .int .i64 0, .int .i64 0, .int .i64 0, .int .i64 0, .slice none 0 0, .int .i64 0, .slice none 0 0, .int .i64 0, .int .i64 0, .slice none 0 0, .int .i64 0]).toArray) ?_
    have e : kind = 1 := (by simpa using hc15)
    subst e
    exact ⟨groupD id t, rfl, .inl ⟨rfl, t, Fs23, rfl⟩, S.E⟩
  · refine Sx.seqP (fun _ κ24 => ?_)
    refine Sx.run S 2 [] [(16, .bool ((kind) == 2))] (fun ac S => ?_)
    refine Sx.done (κ24 _ _ ?_)
    refine Sx.cond S (fun hc25 => ?_) (fun hc25 => ?_)
    · refine Vp.region ?_
      refine Sx.run S 1 [] [(18, .pointer (some ⟨b7, 34, none⟩))] (fun ac S => ?_)
      refine Sx.store1 S 0 (off := 34) (v := .int .i64 1) rfl (fun u C26 S => ?_)
      have E27 := Sx.ext_ch E11 C26 (by omega)
      refine Sx.done (κ12 _ _ ?_)
      refine Sx.seqP (fun _ κ28 => ?_)
      refine Sx.run S 1 [.mem 0 0] [(25, .agg (Sx.L [.int .i64 id, .int .i64 kind, .int .i64 0] ++ t.cells ++ Sx.L [.slice none 0 0, .int .i64 0, .int .u8 0, .int .i64 0, .bool false, .bool false, .slice none 0 0, .int .i64 1, .slice none 0 0, .int .i64 0, .int .i64 0, .int .i64 0, .int .i64 0, .slice none 0 0, .int .i64 0, .slice none 0 0, .int .i64 0, .int .i64 0, .slice none 0 0, .int .i64 0]).toArray)] (fun ac S => ?_)
      have X30 := S.bx 1
      refine Sx.store S 1 (off := 0) (cs := (Sx.L [.int .i64 id, .int .i64 kind, .int .i64 0] ++ t.cells ++ Sx.L [.slice none 0 0, .int .i64 0, .int .u8 0, .int .i64 0, .bool false, .bool false, .slice none 0 0, .int .i64 1, .slice none 0 0, .int .i64 0, .int .i64 0, .int .i64 0, .int .i64 0, .slice none 0 0, .int .i64 0, .slice none 0 0, .int .i64 0, .int .i64 0, .slice none 0 0, .int .i64 0])) rfl (fun u C29 S => ?_)
      have Fs31 := TI.setc (ht.below E27) C29 X30
      refine Sx.done (κ28 _ _ ?_)
      refine Vp.rt ?_
      refine Sx.retc S 1 Tryz.results20 rfl (v := .agg (Sx.L [.int .i64 id, .int .i64 kind, .int .i64 0] ++ t.cells ++ Sx.L [.slice none 0 0, .int .i64 0, .int .u8 0, .int .i64 0, .bool false, .bool false, .slice none 0 0, .int .i64 1, .slice none 0 0, .int .i64 0, .int .i64 0, .int .i64 0, .int .i64 0, .slice none 0 0, .int .i64 0, .slice none 0 0, .int .i64 0, .int .i64 0, .slice none 0 0, .int .i64 0]).toArray) ?_
      have e : kind = 2 := (by simpa using hc25)
      subst e
      exact ⟨shapeD id t, rfl, .inr (.inl ⟨rfl, t, Fs31, rfl⟩), S.E⟩
    · refine Sx.seqP (fun _ κ32 => ?_)
      refine Sx.run S 2 [] [(19, .bool ((kind) == 3))] (fun ac S => ?_)
      refine Sx.done (κ32 _ _ ?_)
      refine Sx.cond S (fun hc33 => ?_) (fun hc33 => ?_)
      · refine Vp.region ?_
        refine Sx.news S 21 1 [.int .u8 0, .int .u8 0, .int .u8 0, .int .u8 0] (fun ac u b34 E35 hb36 S => ?_)
        refine Sx.run S 2 [] [(22, .agg #[.int .i64 1, .int .i64 1, .slice (some ⟨b34, 0, none⟩) 1 1]), (23, .pointer (some ⟨b7, 43, none⟩))] (fun ac S => ?_)
        refine Sx.store S 1 (off := 43) (cs := [.int .i64 1, .int .i64 1, .slice (some ⟨b34, 0, none⟩) 1 1]) rfl (fun u C37 S => ?_)
        have E38 := Sx.ext_ch (Ext.trans' E11 E35) C37 (by omega)
        refine Sx.run S 1 [] [(24, .pointer (some ⟨b7, 46, none⟩))] (fun ac S => ?_)
        refine Sx.store1 S 1 (off := 46) (v := .int .i64 1) rfl (fun u C39 S => ?_)
        have E40 := Sx.ext_ch E38 C39 (by omega)
        refine Sx.done (κ12 _ _ ?_)
        refine Sx.seqP (fun _ κ41 => ?_)
        refine Sx.run S 1 [.mem 1 0] [(25, .agg (Sx.L [.int .i64 id, .int .i64 kind, .int .i64 0] ++ t.cells ++ Sx.L [.slice none 0 0, .int .i64 0, .int .u8 0, .int .i64 0, .bool false, .bool false, .slice none 0 0, .int .i64 0, .slice none 0 0, .int .i64 0, .int .i64 0, .int .i64 0, .int .i64 0, .slice none 0 0, .int .i64 0, .slice none 0 0, .int .i64 1, .int .i64 1, .slice (some ⟨b34, 0, none⟩) 1 1, .int .i64 1]).toArray)] (fun ac S => ?_)
        have X43 := S.bx 2
        refine Sx.store S 2 (off := 0) (cs := (Sx.L [.int .i64 id, .int .i64 kind, .int .i64 0] ++ t.cells ++ Sx.L [.slice none 0 0, .int .i64 0, .int .u8 0, .int .i64 0, .bool false, .bool false, .slice none 0 0, .int .i64 0, .slice none 0 0, .int .i64 0, .int .i64 0, .int .i64 0, .int .i64 0, .slice none 0 0, .int .i64 0, .slice none 0 0, .int .i64 1, .int .i64 1, .slice (some ⟨b34, 0, none⟩) 1 1, .int .i64 1])) rfl (fun u C42 S => ?_)
        have Fs44 := TI.setc (ht.below E40) C42 X43
        refine Sx.done (κ41 _ _ ?_)
        refine Vp.rt ?_
        refine Sx.retc S 2 Tryz.results20 rfl (v := .agg (Sx.L [.int .i64 id, .int .i64 kind, .int .i64 0] ++ t.cells ++ Sx.L [.slice none 0 0, .int .i64 0, .int .u8 0, .int .i64 0, .bool false, .bool false, .slice none 0 0, .int .i64 0, .slice none 0 0, .int .i64 0, .int .i64 0, .int .i64 0, .int .i64 0, .slice none 0 0, .int .i64 0, .slice none 0 0, .int .i64 1, .int .i64 1, .slice (some ⟨b34, 0, none⟩) 1 1, .int .i64 1]).toArray) ?_
        have e : kind = 3 := (by simpa using hc33)
        subst e
        exact ⟨imageD id t b34, rfl, .inr (.inr (.inl ⟨rfl, t, b34, Fs44, S.bx 0, rfl⟩)), S.E⟩
      · refine Sx.seqP (fun _ κ45 => ?_)
        refine Sx.run S 1 [] [(11, .agg (Sx.L [.int .i64 0, .int .i64 0, .int .i64 0] ++ Sx.za ++ Sx.L [.slice none 0 0, .int .i64 0, .int .u8 0, .int .i64 0, .bool false, .bool false, .slice none 0 0, .int .i64 0, .slice none 0 0, .int .i64 0, .int .i64 0, .int .i64 0, .int .i64 0, .slice none 0 0, .int .i64 0, .slice none 0 0, .int .i64 0, .int .i64 0, .slice none 0 0, .int .i64 0]).toArray)] (fun ac S => ?_)
        have X47 := S.bx 1
        refine Sx.store S 1 (off := 0) (cs := (Sx.L [.int .i64 0, .int .i64 0, .int .i64 0] ++ Sx.za ++ Sx.L [.slice none 0 0, .int .i64 0, .int .u8 0, .int .i64 0, .bool false, .bool false, .slice none 0 0, .int .i64 0, .slice none 0 0, .int .i64 0, .int .i64 0, .int .i64 0, .int .i64 0, .slice none 0 0, .int .i64 0, .slice none 0 0, .int .i64 0, .int .i64 0, .slice none 0 0, .int .i64 0])) rfl (fun u C46 S => ?_)
        have Fs48 := TI.setc (ht.below E11) C46 X47
        refine Sx.done (κ45 _ _ ?_)
        refine Vp.rt ?_
        refine Sx.retc S 1 Tryz.results20 rfl (v := .agg (Sx.L [.int .i64 0, .int .i64 0, .int .i64 0] ++ Sx.za ++ Sx.L [.slice none 0 0, .int .i64 0, .int .u8 0, .int .i64 0, .bool false, .bool false, .slice none 0 0, .int .i64 0, .slice none 0 0, .int .i64 0, .int .i64 0, .int .i64 0, .int .i64 0, .slice none 0 0, .int .i64 0, .slice none 0 0, .int .i64 0, .int .i64 0, .slice none 0 0, .int .i64 0]).toArray) ?_
        exact ⟨nodeD0, rfl, .inr (.inr (.inr ⟨⟨(by simpa using hc15), (by simpa using hc25), (by simpa using hc33)⟩, rfl⟩)), S.E⟩
theorem r36Default_any (id kind : Int) (w : World) :
    Calls Tryz.prog 21 #[.int .i64 id, .int .i64 kind] w fun e w' => ∃ nd, e = .returned (NodeD.v nd) ∧ IsDef w' id kind nd ∧ Ext w w' := by
  skip
  refine Sx.enter Tryz.func21 Tryz.ntmps21 (fun ac S => ?_)
  refine Sx.seqP (fun _ κ1 => ?_)
  refine Sx.newp S 4 (Sx.L [.int .i64 0, .int .i64 0, .int .i64 0] ++ Sx.za ++ Sx.L [.slice none 0 0, .int .i64 0, .int .u8 0, .int .i64 0, .bool false, .bool false, .slice none 0 0, .int .i64 0, .slice none 0 0, .int .i64 0, .int .i64 0, .int .i64 0, .int .i64 0, .slice none 0 0, .int .i64 0, .slice none 0 0, .int .i64 0, .int .i64 0, .slice none 0 0, .int .i64 0]) (fun ac u b2 E3 hb4 S => ?_)
  refine Sx.done (κ1 _ _ ?_)
  refine Sx.seqP (fun _ κ5 => ?_)
  refine Sx.run S 2 [] [(6, .int .i64 id), (7, .int .i64 kind)] (fun ac S => ?_)
  refine Sx.callG S (some 8) (refIdentity_any _) ?_
  rintro e u ⟨t, rfl, ht, E6⟩
  refine ⟨_, rfl, E6, fun ac S => ?_⟩
  refine Sx.run S 1 [] [(9, .agg (Sx.L [.int .i64 id, .int .i64 kind, .int .i64 0] ++ t.cells ++ Sx.L [.slice none 0 0, .int .i64 0, .int .u8 0, .int .i64 0, .bool false, .bool false, .slice none 0 0, .int .i64 0, .slice none 0 0, .int .i64 0, .int .i64 0, .int .i64 0, .int .i64 0, .slice none 0 0, .int .i64 0, .slice none 0 0, .int .i64 0, .int .i64 0, .slice none 0 0, .int .i64 0]).toArray)] (fun ac S => ?_)
  refine Sx.newp S 5 (Sx.L [.int .i64 0, .int .i64 0, .int .i64 0] ++ Sx.za ++ Sx.L [.slice none 0 0, .int .i64 0, .int .u8 0, .int .i64 0, .bool false, .bool false, .slice none 0 0, .int .i64 0, .slice none 0 0, .int .i64 0, .int .i64 0, .int .i64 0, .int .i64 0, .slice none 0 0, .int .i64 0, .slice none 0 0, .int .i64 0, .int .i64 0, .slice none 0 0, .int .i64 0]) (fun ac u b7 E8 hb9 S => ?_)
  refine Sx.store S 0 (off := 0) (cs := (Sx.L [.int .i64 id, .int .i64 kind, .int .i64 0] ++ t.cells ++ Sx.L [.slice none 0 0, .int .i64 0, .int .u8 0, .int .i64 0, .bool false, .bool false, .slice none 0 0, .int .i64 0, .slice none 0 0, .int .i64 0, .int .i64 0, .int .i64 0, .int .i64 0, .slice none 0 0, .int .i64 0, .slice none 0 0, .int .i64 0, .int .i64 0, .slice none 0 0, .int .i64 0])) rfl (fun u C10 S => ?_)
  have E11 := Sx.ext_ch E8 C10 (by omega)
  refine Sx.done (κ5 _ _ ?_)
  refine wp_seq_k (fun _ κ12 => ?_)
  refine Sx.seqP (fun _ κ13 => ?_)
  refine Sx.run S 1 [] [(10, .int .i64 kind)] (fun ac S => ?_)
  refine Sx.done (κ13 _ _ ?_)
  refine wp_block ?_
  refine Sx.seqP (fun _ κ14 => ?_)
  refine Sx.run S 2 [] [(11, .bool ((kind) == 1))] (fun ac S => ?_)
  refine Sx.done (κ14 _ _ ?_)
  refine Sx.cond S (fun hc15 => ?_) (fun hc15 => ?_)
  · refine Sx.seqP (fun _ κ16 => ?_)
    refine Sx.run S 1 [] [(13, .pointer (some ⟨b7, 29, none⟩))] (fun ac S => ?_)
    refine Sx.store1 S 0 (off := 29) (v := .int .u8 255) rfl (fun u C17 S => ?_)
    have E18 := Sx.ext_ch E11 C17 (by omega)
    refine Sx.done (κ16 _ _ ?_)
    refine Sx.seqP (fun _ κ19 => ?_)
    refine Sx.run S 1 [] [(14, .pointer (some ⟨b7, 30, none⟩))] (fun ac S => ?_)
    refine Sx.store1 S 0 (off := 30) (v := .int .i64 1) rfl (fun u C20 S => ?_)
    have E21 := Sx.ext_ch E18 C20 (by omega)
    refine Sx.done (κ19 _ _ ?_)
    refine Sx.seqP (fun _ κ22 => ?_)
    refine Sx.run S 1 [.mem 0 0] [(15, .agg (Sx.L [.int .i64 id, .int .i64 kind, .int .i64 0] ++ t.cells ++ Sx.L [.slice none 0 0, .int .i64 0, .int .u8 255, .int .i64 1, .bool false, .bool false, .slice none 0 0, .int .i64 0, .slice none 0 0, .int .i64 0, .int .i64 0, .int .i64 0, .int .i64 0, .slice none 0 0, .int .i64 0, .slice none 0 0, .int .i64 0, .int .i64 0, .slice none 0 0, .int .i64 0]).toArray)] (fun ac S => ?_)
    have X24 := S.bx 1
    refine Sx.store S 1 (off := 0) (cs := (Sx.L [.int .i64 id, .int .i64 kind, .int .i64 0] ++ t.cells ++ Sx.L [.slice none 0 0, .int .i64 0, .int .u8 255, .int .i64 1, .bool false, .bool false, .slice none 0 0, .int .i64 0, .slice none 0 0, .int .i64 0, .int .i64 0, .int .i64 0, .int .i64 0, .slice none 0 0, .int .i64 0, .slice none 0 0, .int .i64 0, .int .i64 0, .slice none 0 0, .int .i64 0])) rfl (fun u C23 S => ?_)
    have Fs25 := TI.setc (ht.below E21) C23 X24
    refine Sx.done (κ22 _ _ ?_)
    refine Vp.rt ?_
    refine Sx.retc S 1 Tryz.results21 rfl (v := .agg (Sx.L [.int .i64 id, .int .i64 kind, .int .i64 0] ++ t.cells ++ Sx.L [.slice none 0 0, .int .i64 0, .int .u8 255, .int .i64 1, .bool false, .bool false, .slice none 0 0, .int .i64 0, .slice none 0 0, .int .i64 0, .int .i64 0, .int .i64 0, .int .i64 0, .slice none 0 0, .int .i64 0, .slice none 0 0, .int .i64 0, .int .i64 0, .slice none 0 0, .int .i64 0]).toArray) ?_
    have e : kind = 1 := (by simpa using hc15)
    subst e
    exact ⟨groupD id t, rfl, .inl ⟨rfl, t, Fs25, rfl⟩, S.E⟩
  · refine Sx.seqP (fun _ κ26 => ?_)
    refine Sx.run S 2 [] [(16, .bool ((kind) == 2))] (fun ac S => ?_)
    refine Sx.done (κ26 _ _ ?_)
    refine Sx.cond S (fun hc27 => ?_) (fun hc27 => ?_)
    · refine Sx.seqP (fun _ κ28 => ?_)
      refine Sx.run S 1 [] [(18, .pointer (some ⟨b7, 34, none⟩))] (fun ac S => ?_)
      refine Sx.store1 S 0 (off := 34) (v := .int .i64 1) rfl (fun u C29 S => ?_)
      have E30 := Sx.ext_ch E11 C29 (by omega)
      refine Sx.done (κ28 _ _ ?_)
      refine Sx.seqP (fun _ κ31 => ?_)
      refine Sx.run S 1 [.mem 0 0] [(19, .agg (Sx.L [.int .i64 id, .int .i64 kind, .int .i64 0] ++ t.cells ++ Sx.L [.slice none 0 0, .int .i64 0, .int .u8 0, .int .i64 0, .bool false, .bool false, .slice none 0 0, .int .i64 1, .slice none 0 0, .int .i64 0, .int .i64 0, .int .i64 0, .int .i64 0, .slice none 0 0, .int .i64 0, .slice none 0 0, .int .i64 0, .int .i64 0, .slice none 0 0, .int .i64 0]).toArray)] (fun ac S => ?_)
      have X33 := S.bx 1
      refine Sx.store S 1 (off := 0) (cs := (Sx.L [.int .i64 id, .int .i64 kind, .int .i64 0] ++ t.cells ++ Sx.L [.slice none 0 0, .int .i64 0, .int .u8 0, .int .i64 0, .bool false, .bool false, .slice none 0 0, .int .i64 1, .slice none 0 0, .int .i64 0, .int .i64 0, .int .i64 0, .int .i64 0, .slice none 0 0, .int .i64 0, .slice none 0 0, .int .i64 0, .int .i64 0, .slice none 0 0, .int .i64 0])) rfl (fun u C32 S => ?_)
      have Fs34 := TI.setc (ht.below E30) C32 X33
      refine Sx.done (κ31 _ _ ?_)
      refine Vp.rt ?_
      refine Sx.retc S 1 Tryz.results21 rfl (v := .agg (Sx.L [.int .i64 id, .int .i64 kind, .int .i64 0] ++ t.cells ++ Sx.L [.slice none 0 0, .int .i64 0, .int .u8 0, .int .i64 0, .bool false, .bool false, .slice none 0 0, .int .i64 1, .slice none 0 0, .int .i64 0, .int .i64 0, .int .i64 0, .int .i64 0, .slice none 0 0, .int .i64 0, .slice none 0 0, .int .i64 0, .int .i64 0, .slice none 0 0, .int .i64 0]).toArray) ?_
      have e : kind = 2 := (by simpa using hc27)
      subst e
      exact ⟨shapeD id t, rfl, .inr (.inl ⟨rfl, t, Fs34, rfl⟩), S.E⟩
    · refine Sx.seqP (fun _ κ35 => ?_)
      refine Sx.run S 2 [] [(20, .bool ((kind) == 3))] (fun ac S => ?_)
      refine Sx.done (κ35 _ _ ?_)
      refine Sx.cond S (fun hc36 => ?_) (fun hc36 => ?_)
      · refine Sx.seqP (fun _ κ37 => ?_)
        refine Sx.run S 1 [] [(22, .agg #[.int .u8 0, .int .u8 0, .int .u8 0, .int .u8 0])] (fun ac S => ?_)
        refine Sx.news S 23 1 [.int .u8 0, .int .u8 0, .int .u8 0, .int .u8 0] (fun ac u b38 E39 hb40 S => ?_)
        refine Sx.run S 2 [] [(24, .agg #[.int .i64 1, .int .i64 1, .slice (some ⟨b38, 0, none⟩) 1 1]), (25, .pointer (some ⟨b7, 43, none⟩))] (fun ac S => ?_)
        refine Sx.store S 1 (off := 43) (cs := [.int .i64 1, .int .i64 1, .slice (some ⟨b38, 0, none⟩) 1 1]) rfl (fun u C41 S => ?_)
        have E42 := Sx.ext_ch (Ext.trans' E11 E39) C41 (by omega)
        refine Sx.done (κ37 _ _ ?_)
        refine Sx.seqP (fun _ κ43 => ?_)
        refine Sx.run S 1 [] [(26, .pointer (some ⟨b7, 46, none⟩))] (fun ac S => ?_)
        refine Sx.store1 S 1 (off := 46) (v := .int .i64 1) rfl (fun u C44 S => ?_)
        have E45 := Sx.ext_ch E42 C44 (by omega)
        refine Sx.done (κ43 _ _ ?_)
        refine Sx.seqP (fun _ κ46 => ?_)
        refine Sx.run S 1 [.mem 1 0] [(27, .agg (Sx.L [.int .i64 id, .int .i64 kind, .int .i64 0] ++ t.cells ++ Sx.L [.slice none 0 0, .int .i64 0, .int .u8 0, .int .i64 0, .bool false, .bool false, .slice none 0 0, .int .i64 0, .slice none 0 0, .int .i64 0, .int .i64 0, .int .i64 0, .int .i64 0, .slice none 0 0, .int .i64 0, .slice none 0 0, .int .i64 1, .int .i64 1, .slice (some ⟨b38, 0, none⟩) 1 1, .int .i64 1]).toArray)] (fun ac S => ?_)
        have X48 := S.bx 2
        refine Sx.store S 2 (off := 0) (cs := (Sx.L [.int .i64 id, .int .i64 kind, .int .i64 0] ++ t.cells ++ Sx.L [.slice none 0 0, .int .i64 0, .int .u8 0, .int .i64 0, .bool false, .bool false, .slice none 0 0, .int .i64 0, .slice none 0 0, .int .i64 0, .int .i64 0, .int .i64 0, .int .i64 0, .slice none 0 0, .int .i64 0, .slice none 0 0, .int .i64 1, .int .i64 1, .slice (some ⟨b38, 0, none⟩) 1 1, .int .i64 1])) rfl (fun u C47 S => ?_)
        have Fs49 := TI.setc (ht.below E45) C47 X48
        refine Sx.done (κ46 _ _ ?_)
        refine Vp.rt ?_
        refine Sx.retc S 2 Tryz.results21 rfl (v := .agg (Sx.L [.int .i64 id, .int .i64 kind, .int .i64 0] ++ t.cells ++ Sx.L [.slice none 0 0, .int .i64 0, .int .u8 0, .int .i64 0, .bool false, .bool false, .slice none 0 0, .int .i64 0, .slice none 0 0, .int .i64 0, .int .i64 0, .int .i64 0, .int .i64 0, .slice none 0 0, .int .i64 0, .slice none 0 0, .int .i64 1, .int .i64 1, .slice (some ⟨b38, 0, none⟩) 1 1, .int .i64 1]).toArray) ?_
        have e : kind = 3 := (by simpa using hc36)
        subst e
        exact ⟨imageD id t b38, rfl, .inr (.inr (.inl ⟨rfl, t, b38, Fs49, S.bx 0, rfl⟩)), S.E⟩
      · refine wp_skip ?_
        refine κ12 _ _ ?_
        refine Sx.seqP (fun _ κ50 => ?_)
        refine Sx.run S 1 [] [(28, .agg (Sx.L [.int .i64 0, .int .i64 0, .int .i64 0] ++ Sx.za ++ Sx.L [.slice none 0 0, .int .i64 0, .int .u8 0, .int .i64 0, .bool false, .bool false, .slice none 0 0, .int .i64 0, .slice none 0 0, .int .i64 0, .int .i64 0, .int .i64 0, .int .i64 0, .slice none 0 0, .int .i64 0, .slice none 0 0, .int .i64 0, .int .i64 0, .slice none 0 0, .int .i64 0]).toArray)] (fun ac S => ?_)
        have X52 := S.bx 1
        refine Sx.store S 1 (off := 0) (cs := (Sx.L [.int .i64 0, .int .i64 0, .int .i64 0] ++ Sx.za ++ Sx.L [.slice none 0 0, .int .i64 0, .int .u8 0, .int .i64 0, .bool false, .bool false, .slice none 0 0, .int .i64 0, .slice none 0 0, .int .i64 0, .int .i64 0, .int .i64 0, .int .i64 0, .slice none 0 0, .int .i64 0, .slice none 0 0, .int .i64 0, .int .i64 0, .slice none 0 0, .int .i64 0])) rfl (fun u C51 S => ?_)
        have Fs53 := TI.setc (ht.below E11) C51 X52
        refine Sx.done (κ50 _ _ ?_)
        refine Vp.rt ?_
        refine Sx.retc S 1 Tryz.results21 rfl (v := .agg (Sx.L [.int .i64 0, .int .i64 0, .int .i64 0] ++ Sx.za ++ Sx.L [.slice none 0 0, .int .i64 0, .int .u8 0, .int .i64 0, .bool false, .bool false, .slice none 0 0, .int .i64 0, .slice none 0 0, .int .i64 0, .int .i64 0, .int .i64 0, .int .i64 0, .slice none 0 0, .int .i64 0, .slice none 0 0, .int .i64 0, .int .i64 0, .slice none 0 0, .int .i64 0]).toArray) ?_
        exact ⟨nodeD0, rfl, .inr (.inr (.inr ⟨⟨(by simpa using hc15), (by simpa using hc27), (by simpa using hc36)⟩, rfl⟩)), S.E⟩
end Go.Proofs.YtcohmdeoocgmdaaGreatDoor
