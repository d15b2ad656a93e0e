/- Walks of reference 12 by value: coefficients, Valid, Det. -/
import Derived.Test.YtcohmdeoocgmdaaGreatDoorAffG
import Derived.Test.YtcohmdeoocgmdaaGreatDoorRefRatF
set_option maxHeartbeats 1600000
set_option maxRecDepth 100000
namespace Go.Proofs.YtcohmdeoocgmdaaGreatDoor
open Go.RowKit
variable {α : Type}
set_option linter.unusedVariables false
theorem coeff_any (t : AffD) (w : World) :
    Calls Tryz.prog 33 #[t.v] w fun e w' => ∃ b, e = .returned (.slice (some ⟨b, 0, none⟩) 6 6) ∧ w.heap.size ≤ b ∧ Bx w' b t.cells.toArray ∧ Ext w w' := by
  skip
  refine Sx.enter Tryz.func33 Tryz.ntmps33 (fun ac S => ?_)
  refine Sx.seqP (fun _ κ1 => ?_)
  refine Sx.newp S 1 t.cells (fun ac u b2 E3 hb4 S => ?_)
  refine Sx.run S 1 [] [(2, .slice none 0 0)] (fun ac S => ?_)
  refine Sx.done (κ1 _ _ ?_)
  refine Sx.seqP (fun _ κ5 => ?_)
  refine Sx.run S 12 [.mem 0 0, .mem 0 4, .mem 0 8, .mem 0 12, .mem 0 16, .mem 0 20] [(4, t.a.v), (6, t.b.v), (8, t.c.v), (10, t.d.v), (12, t.e.v), (14, t.f.v)] (fun ac S => ?_)
  refine Sx.news S 15 6 t.cells (fun ac u b6 E7 hb8 S => ?_)
  refine Sx.run S 1 [] [(2, .slice (some ⟨b6, 0, none⟩) 6 6)] (fun ac S => ?_)
  refine Sx.done (κ5 _ _ ?_)
  refine Vp.rt ?_
  refine Sx.ret1 S Tryz.results33 ?_
  exact ⟨b6, rfl, S.old 0, S.bx 0, S.E⟩
theorem refAffValid_q (v : Value) (Q : Q6) (K : Nat) (w : World) (h : IsAffQ K w v Q) (hK1 : 1 ≤ K) (hK : K ≤ 100000) :
    Calls Tryz.prog 14 #[v] w fun e w' => e = .returned (.bool Q.valid) ∧ Ext w w' := by
  have hq := h
  obtain ⟨nr0, nr1, nr2, nr3, nr4, nr5⟩ := h.nrm
  obtain ⟨ln0, ln1, ln2, ln3, ln4, ln5⟩ := h.len hK1
  obtain ⟨t, rfl, h0, h1, h2, h3, h4, h5⟩ := h.sQ
  refine Sx.enter Tryz.func14 Tryz.ntmps14 (fun ac S => ?_)
  refine Sx.seqP (fun _ κ1 => ?_)
  refine Sx.newp S 1 t.cells (fun ac u b2 E3 hb4 S => ?_)
  refine Sx.run S 1 [] [(2, .bool false)] (fun ac S => ?_)
  refine Sx.done (κ1 _ _ ?_)
  refine Sx.seqP (fun _ κ5 => ?_)
  refine Sx.run S 1 [.mem 0 0] [(5, t.v)] (fun ac S => ?_)
  have hold := fun p hp => (S.own p hp).1.1
  have hold0 := S.E.size
  refine Sx.callG S (some 6) (coeff_any t _) ?_
  rintro e u ⟨b6, rfl, hb8, X7, E9⟩
  skip
  refine ⟨_, rfl, E9, fun ac S => ?_⟩
  have S := S.adopt (A := t.cells) (X7) (by omega) (fun p hp => by have := hold p hp; omega) (fun m hm => by cases hm)
  refine Sx.run S 1 [] [(3, .slice (some ⟨b6, 0, none⟩) 6 6)] (fun ac S => ?_)
  refine Sx.done (κ5 _ _ ?_)
  refine wp_seq_k (fun _ κ10 => ?_)
  refine Sx.seqP (fun _ κ11 => ?_)
  refine Sx.run S 1 [] [(4, .int .i64 0)] (fun ac S => ?_)
  refine Sx.done (κ11 _ _ ?_)
  refine wp_block ?_
  refine wp_loop_rounds 7 ?_
  rw [rounds_succ]
  refine wp_seq_k (fun _ κ12 => ?_)
  refine Sx.seqP (fun _ κ13 => ?_)
  refine Sx.run S 4 [] [(10, .bool true)] (fun ac S => ?_)
  refine Sx.done (κ13 _ _ ?_)
  refine Sx.condT S ?_
  refine wp_skip ?_
  refine κ12 _ _ ?_
  refine wp_seq_k (fun _ κ14 => ?_)
  refine wp_block ?_
  refine Sx.seqP (fun _ κ15 => ?_)
  refine Sx.run S 4 [.mem 0 0] [(16, t.a.v)] (fun ac S => ?_)
  refine Sx.callv S 17 (refBitLen_q _ Q.a K _ (h0.below S.E) hK1 (by omega)) (fun ac u E16 S => ?_)
  refine Sx.run S 1 [] [(18, .bool (decide (256 < (qbits Q.a : Int))))] (fun ac S => ?_)
  refine Sx.done (κ15 _ _ ?_)
  refine Sx.cond S (fun hc17 => ?_) (fun hc17 => ?_)
  · refine Sx.seqP (fun _ κ18 => ?_)
    refine Sx.run S 1 [] [(2, .bool false)] (fun ac S => ?_)
    refine Sx.done (κ18 _ _ ?_)
    refine Vp.rt ?_
    have g0 : decide (qbits Q.a ≤ 256) = false := qb_no hc17
    refine Sx.ret1 S Tryz.results14 ?_
    exact ⟨by rw [show Q.valid = false from by simp [Q6.valid, g0]], S.E⟩
  · refine wp_skip ?_
    refine κ14 _ _ ?_
    refine Vp.region ?_
    refine Sx.run S 3 [] [(4, .int .i64 1)] (fun ac S => ?_)
    refine Sx.done ?_
    show Code.rounds _ _ _ 6 _ _
    rw [rounds_succ]
    refine wp_seq_k (fun _ κ19 => ?_)
    refine Sx.seqP (fun _ κ20 => ?_)
    refine Sx.run S 4 [] [(10, .bool true)] (fun ac S => ?_)
    refine Sx.done (κ20 _ _ ?_)
    refine Sx.condT S ?_
    refine wp_skip ?_
    refine κ19 _ _ ?_
    refine wp_seq_k (fun _ κ21 => ?_)
    refine wp_block ?_
    refine Sx.seqP (fun _ κ22 => ?_)
    refine Sx.run S 4 [.mem 0 4] [(16, t.b.v)] (fun ac S => ?_)
    refine Sx.callv S 17 (refBitLen_q _ Q.b K _ (h1.below S.E) hK1 (by omega)) (fun ac u E23 S => ?_)
    refine Sx.run S 1 [] [(18, .bool (decide (256 < (qbits Q.b : Int))))] (fun ac S => ?_)
    refine Sx.done (κ22 _ _ ?_)
    refine Sx.cond S (fun hc24 => ?_) (fun hc24 => ?_)
    · refine Sx.seqP (fun _ κ25 => ?_)
      refine Sx.run S 1 [] [(2, .bool false)] (fun ac S => ?_)
      refine Sx.done (κ25 _ _ ?_)
      refine Vp.rt ?_
      have g0 : decide (qbits Q.a ≤ 256) = true := qb_yes hc17
      have g1 : decide (qbits Q.b ≤ 256) = false := qb_no hc24
      refine Sx.ret1 S Tryz.results14 ?_
      exact ⟨by rw [show Q.valid = false from by simp [Q6.valid, g0, g1]], S.E⟩
    · refine wp_skip ?_
      refine κ21 _ _ ?_
      refine Vp.region ?_
      refine Sx.run S 3 [] [(4, .int .i64 2)] (fun ac S => ?_)
      refine Sx.done ?_
      show Code.rounds _ _ _ 5 _ _
      rw [rounds_succ]
      refine wp_seq_k (fun _ κ26 => ?_)
      refine Sx.seqP (fun _ κ27 => ?_)
      refine Sx.run S 4 [] [(10, .bool true)] (fun ac S => ?_)
      refine Sx.done (κ27 _ _ ?_)
      refine Sx.condT S ?_
      refine wp_skip ?_
      refine κ26 _ _ ?_
      refine wp_seq_k (fun _ κ28 => ?_)
      refine wp_block ?_
      refine Sx.seqP (fun _ κ29 => ?_)
      refine Sx.run S 4 [.mem 0 8] [(16, t.c.v)] (fun ac S => ?_)
      refine Sx.callv S 17 (refBitLen_q _ Q.c K _ (h2.below S.E) hK1 (by omega)) (fun ac u E30 S => ?_)
      refine Sx.run S 1 [] [(18, .bool (decide (256 < (qbits Q.c : Int))))] (fun ac S => ?_)
      refine Sx.done (κ29 _ _ ?_)
      refine Sx.cond S (fun hc31 => ?_) (fun hc31 => ?_)
      · refine Sx.seqP (fun _ κ32 => ?_)
        refine Sx.run S 1 [] [(2, .bool false)] (fun ac S => ?_)
        refine Sx.done (κ32 _ _ ?_)
        refine Vp.rt ?_
        have g0 : decide (qbits Q.a ≤ 256) = true := qb_yes hc17
        have g1 : decide (qbits Q.b ≤ 256) = true := qb_yes hc24
        have g2 : decide (qbits Q.c ≤ 256) = false := qb_no hc31
        refine Sx.ret1 S Tryz.results14 ?_
        exact ⟨by rw [show Q.valid = false from by simp [Q6.valid, g0, g1, g2]], S.E⟩
      · refine wp_skip ?_
        refine κ28 _ _ ?_
        refine Vp.region ?_
        refine Sx.run S 3 [] [(4, .int .i64 3)] (fun ac S => ?_)
        refine Sx.done ?_
        show Code.rounds _ _ _ 4 _ _
        rw [rounds_succ]
        refine wp_seq_k (fun _ κ33 => ?_)
        refine Sx.seqP (fun _ κ34 => ?_)
        refine Sx.run S 4 [] [(10, .bool true)] (fun ac S => ?_)
        refine Sx.done (κ34 _ _ ?_)
        refine Sx.condT S ?_
        refine wp_skip ?_
        refine κ33 _ _ ?_
        refine wp_seq_k (fun _ κ35 => ?_)
        refine wp_block ?_
        refine Sx.seqP (fun _ κ36 => ?_)
        refine Sx.run S 4 [.mem 0 12] [(16, t.d.v)] (fun ac S => ?_)
        refine Sx.callv S 17 (refBitLen_q _ Q.d K _ (h3.below S.E) hK1 (by omega)) (fun ac u E37 S => ?_)
        refine Sx.run S 1 [] [(18, .bool (decide (256 < (qbits Q.d : Int))))] (fun ac S => ?_)
        refine Sx.done (κ36 _ _ ?_)
        refine Sx.cond S (fun hc38 => ?_) (fun hc38 => ?_)
        · refine Sx.seqP (fun _ κ39 => ?_)
          refine Sx.run S 1 [] [(2, .bool false)] (fun ac S => ?_)
          refine Sx.done (κ39 _ _ ?_)
          refine Vp.rt ?_
          have g0 : decide (qbits Q.a ≤ 256) = true := qb_yes hc17
          have g1 : decide (qbits Q.b ≤ 256) = true := qb_yes hc24
          have g2 : decide (qbits Q.c ≤ 256) = true := qb_yes hc31
          have g3 : decide (qbits Q.d ≤ 256) = false := qb_no hc38
          refine Sx.ret1 S Tryz.results14 ?_
          exact ⟨by rw [show Q.valid = false from by simp [Q6.valid, g0, g1, g2, g3]], S.E⟩
        · refine wp_skip ?_
          refine κ35 _ _ ?_
          refine Vp.region ?_
          refine Sx.run S 3 [] [(4, .int .i64 4)] (fun ac S => ?_)
          refine Sx.done ?_
          show Code.rounds _ _ _ 3 _ _
          rw [rounds_succ]
          refine wp_seq_k (fun _ κ40 => ?_)
          refine Sx.seqP (fun _ κ41 => ?_)
          refine Sx.run S 4 [] [(10, .bool true)] (fun ac S => ?_)
          refine Sx.done (κ41 _ _ ?_)
          refine Sx.condT S ?_
          refine wp_skip ?_
          refine κ40 _ _ ?_
          refine wp_seq_k (fun _ κ42 => ?_)
          refine wp_block ?_
          refine Sx.seqP (fun _ κ43 => ?_)
          refine Sx.run S 4 [.mem 0 16] [(16, t.e.v)] (fun ac S => ?_)
          refine Sx.callv S 17 (refBitLen_q _ Q.e K _ (h4.below S.E) hK1 (by omega)) (fun ac u E44 S => ?_)
          refine Sx.run S 1 [] [(18, .bool (decide (256 < (qbits Q.e : Int))))] (fun ac S => ?_)
          refine Sx.done (κ43 _ _ ?_)
          refine Sx.cond S (fun hc45 => ?_) (fun hc45 => ?_)
          · refine Sx.seqP (fun _ κ46 => ?_)
            refine Sx.run S 1 [] [(2, .bool false)] (fun ac S => ?_)
            refine Sx.done (κ46 _ _ ?_)
            refine Vp.rt ?_
            have g0 : decide (qbits Q.a ≤ 256) = true := qb_yes hc17
            have g1 : decide (qbits Q.b ≤ 256) = true := qb_yes hc24
            have g2 : decide (qbits Q.c ≤ 256) = true := qb_yes hc31
            have g3 : decide (qbits Q.d ≤ 256) = true := qb_yes hc38
            have g4 : decide (qbits Q.e ≤ 256) = false := qb_no hc45
            refine Sx.ret1 S Tryz.results14 ?_
            exact ⟨by rw [show Q.valid = false from by simp [Q6.valid, g0, g1, g2, g3, g4]], S.E⟩
          · refine wp_skip ?_
            refine κ42 _ _ ?_
            refine Vp.region ?_
            refine Sx.run S 3 [] [(4, .int .i64 5)] (fun ac S => ?_)
            refine Sx.done ?_
            show Code.rounds _ _ _ 2 _ _
            rw [rounds_succ]
            refine wp_seq_k (fun _ κ47 => ?_)
            refine Sx.seqP (fun _ κ48 => ?_)
            refine Sx.run S 4 [] [(10, .bool true)] (fun ac S => ?_)
            refine Sx.done (κ48 _ _ ?_)
            refine Sx.condT S ?_
            refine wp_skip ?_
            refine κ47 _ _ ?_
            refine wp_seq_k (fun _ κ49 => ?_)
            refine wp_block ?_
            refine Sx.seqP (fun _ κ50 => ?_)
            refine Sx.run S 4 [.mem 0 20] [(16, t.f.v)] (fun ac S => ?_)
            refine Sx.callv S 17 (refBitLen_q _ Q.f K _ (h5.below S.E) hK1 (by omega)) (fun ac u E51 S => ?_)
            refine Sx.run S 1 [] [(18, .bool (decide (256 < (qbits Q.f : Int))))] (fun ac S => ?_)
            refine Sx.done (κ50 _ _ ?_)
            refine Sx.cond S (fun hc52 => ?_) (fun hc52 => ?_)
            · refine Sx.seqP (fun _ κ53 => ?_)
              refine Sx.run S 1 [] [(2, .bool false)] (fun ac S => ?_)
              refine Sx.done (κ53 _ _ ?_)
              refine Vp.rt ?_
              have g0 : decide (qbits Q.a ≤ 256) = true := qb_yes hc17
              have g1 : decide (qbits Q.b ≤ 256) = true := qb_yes hc24
              have g2 : decide (qbits Q.c ≤ 256) = true := qb_yes hc31
              have g3 : decide (qbits Q.d ≤ 256) = true := qb_yes hc38
              have g4 : decide (qbits Q.e ≤ 256) = true := qb_yes hc45
              have g5 : decide (qbits Q.f ≤ 256) = false := qb_no hc52
              refine Sx.ret1 S Tryz.results14 ?_
              exact ⟨by rw [show Q.valid = false from by simp [Q6.valid, g0, g1, g2, g3, g4, g5]], S.E⟩
            · refine wp_skip ?_
              refine κ49 _ _ ?_
              refine Vp.region ?_
              refine Sx.run S 3 [] [(4, .int .i64 6)] (fun ac S => ?_)
              refine Sx.done ?_
              show Code.rounds _ _ _ 1 _ _
              rw [rounds_succ]
              refine wp_seq_k (fun _ κ54 => ?_)
              refine Sx.seqP (fun _ κ55 => ?_)
              refine Sx.run S 4 [] [(10, .bool false)] (fun ac S => ?_)
              refine Sx.done (κ55 _ _ ?_)
              refine Sx.condF S ?_
              refine wp_exit ?_
              refine κ10 _ _ ?_
              refine Sx.seqP (fun _ κ56 => ?_)
              refine Sx.run S 1 [] [(2, .bool true)] (fun ac S => ?_)
              refine Sx.done (κ56 _ _ ?_)
              refine Vp.rt ?_
              have g0 : decide (qbits Q.a ≤ 256) = true := qb_yes hc17
              have g1 : decide (qbits Q.b ≤ 256) = true := qb_yes hc24
              have g2 : decide (qbits Q.c ≤ 256) = true := qb_yes hc31
              have g3 : decide (qbits Q.d ≤ 256) = true := qb_yes hc38
              have g4 : decide (qbits Q.e ≤ 256) = true := qb_yes hc45
              have g5 : decide (qbits Q.f ≤ 256) = true := qb_yes hc52
              refine Sx.ret1 S Tryz.results14 ?_
              exact ⟨by rw [show Q.valid = true from by simp [Q6.valid, g0, g1, g2, g3, g4, g5]], S.E⟩
theorem refDet_q (v : Value) (Q : Q6) (K : Nat) (w : World) (h : IsAffQ K w v Q) (hK1 : 1 ≤ K) (hK : K ≤ 10000) :
    Calls Tryz.prog 16 #[v] w fun e w' => ∃ x, e = .returned x ∧ IsRatT w.heap.size w' x Q.det ∧ Ext w w' := by
  have hq := h
  obtain ⟨nr0, nr1, nr2, nr3, nr4, nr5⟩ := h.nrm
  obtain ⟨ln0, ln1, ln2, ln3, ln4, ln5⟩ := h.len hK1
  obtain ⟨t, rfl, h0, h1, h2, h3, h4, h5⟩ := h.sQ
  refine Sx.enter Tryz.func16 Tryz.ntmps16 (fun ac S => ?_)
  refine Sx.seqP (fun _ κ1 => ?_)
  refine Sx.newp S 1 t.cells (fun ac u b2 E3 hb4 S => ?_)
  refine Sx.newp S 2 Sx.zr (fun ac u b5 E6 hb7 S => ?_)
  refine Sx.done (κ1 _ _ ?_)
  refine wp_seq_k (fun _ κ8 => ?_)
  refine Sx.drawX S 11 [(7, fun v w1 => IsRatT w.heap.size w1 v (qmul Q.a Q.d)), (12, fun v w1 => IsRatT w.heap.size w1 v (qmul Q.b Q.c)), (13, fun v w1 => IsRatT w.heap.size w1 v Q.det)] (fun r => [.mem 1 0, .mem 1 12, .mem 1 4, .mem 1 8]) (fun x => [x 7, x 12, x 13]) (fun x => [(_, _, true, x 7, 7), (_, _, true, x 12, 12), (_, _, true, x 13, 13)]) [[], [], [7, 12]] (fun x => [(13, x 13)]) ⟨fun _ _ _ k h => h.ext k, fun _ _ _ k h => h.ext k, fun _ _ _ k h => h.ext k, trivial⟩ (fun x => ⟨by intro u hC g F; exact (refMul_q _ _ Q.a Q.d K K _ (h0.below (Ext.trans' S.E hC)) (h3.below (Ext.trans' S.E hC)) hK1 hK1 (by omega) (by omega)).mono fun e w2 h => by obtain ⟨y, rfl, hx, hb⟩ := h; exact ⟨_, rfl, hx.mono ((Ext.trans' S.E hC)).size, hb⟩, by intro u hC g F; exact (refMul_q _ _ Q.b Q.c K K _ (h1.below (Ext.trans' S.E hC)) (h2.below (Ext.trans' S.E hC)) hK1 hK1 (by omega) (by omega)).mono fun e w2 h => by obtain ⟨y, rfl, hx, hb⟩ := h; exact ⟨_, rfl, hx.mono ((Ext.trans' S.E hC)).size, hb⟩, by intro u hC g F; obtain ⟨F7, F12, -⟩ := F; exact (refSub_q _ _ (qmul Q.a Q.d) (qmul Q.b Q.c) (K + K) (K + K) _ (IsRatN.toQ F7 (nz_nrm _ _) (qmul_len hK1 ln0 ln3)) (IsRatN.toQ F12 (nz_nrm _ _) (qmul_len hK1 ln1 ln2)) (by omega) (by omega) (by omega) (by omega)).mono fun e w2 h => by obtain ⟨y, rfl, hx, hb⟩ := h; exact ⟨_, rfl, hx.mono ((Ext.trans' S.E hC)).size, hb⟩, trivial⟩) (fun ac u x E9 F S => ?_)
  obtain ⟨F7, F12, F13, -⟩ := F
  obtain ⟨m, em⟩ := IsRatN.shapeD F13
  rw [em] at S F13
  have X11 := S.bx 0
  refine Sx.store S 0 (off := 0) (cs := m.cells) rfl (fun u C10 S => ?_)
  have F12 := IsRatN.setc F13 C10 X11
  refine Sx.done (κ8 _ _ ?_)
  refine Vp.rt ?_
  refine Sx.retc S 0 Tryz.results16 rfl (v := m.v) ?_
  exact ⟨_, rfl, F12, S.E⟩
end Go.Proofs.YtcohmdeoocgmdaaGreatDoor
