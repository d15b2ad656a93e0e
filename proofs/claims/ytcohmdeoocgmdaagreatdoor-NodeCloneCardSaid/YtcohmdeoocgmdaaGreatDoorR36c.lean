/- References 03 and 12: the sameness of numbers and of transforms. -/
import Derived.Test.YtcohmdeoocgmdaaGreatDoorCheck
import Derived.Test.YtcohmdeoocgmdaaGreatDoorRef12
set_option maxHeartbeats 1600000
set_option maxRecDepth 100000
namespace Go.Proofs.YtcohmdeoocgmdaaGreatDoor
open Go.RowKit
variable {α : Type} {K : Nat}
set_option linter.unusedVariables false
/-- Two numbers are the same in all fields. -/
def RatD.same (r s : RatD) : Bool := (r.n1 == s.n1 && r.l1 == s.l1) && (r.n2 == s.n2 && r.l2 == s.l2)
def AffD.same (t u : AffD) : Bool := t.a.same u.a && (t.b.same u.b && (t.c.same u.c && (t.d.same u.d && (t.e.same u.e && t.f.same u.f))))
/-- A number in lowest terms, with the value q. -/
def RatD.Is (r : RatD) (q : Bool × Nat × Nat) : Prop := r.n1 = q.1 ∧ r.l1 = Na.digs q.2.1 ∧ r.n2 = false ∧ r.l2 = Na.digs q.2.2
def AffD.Is (t : AffD) (Q : Q6) : Prop := t.a.Is Q.a ∧ t.b.Is Q.b ∧ t.c.Is Q.c ∧ t.d.Is Q.d ∧ t.e.Is Q.e ∧ t.f.Is Q.f
theorem rat_same_is {r s : RatD} {q1 q2 : Bool × Nat × Nat} (h : r.Is q1) (k : s.Is q2) : r.same s = decide (q1 = q2) := by
 obtain ⟨a, b, c⟩ := q1
 obtain ⟨a', b', c'⟩ := q2
 obtain ⟨e1, e2, e3, e4⟩ := h
 obtain ⟨f1, f2, f3, f4⟩ := k
 have hd : ∀ m n : Nat, Na.digs m = Na.digs n ↔ m = n := fun m n => ⟨fun h => by rw [← Na.val_digs m, h, Na.val_digs], fun h => by rw [h]⟩
 rw [Bool.eq_iff_iff]
 simp only [RatD.same, e1, e2, e3, e4, f1, f2, f3, f4, Bool.and_eq_true, beq_iff_eq, decide_eq_true_eq, Prod.mk.injEq, hd, true_and]
 exact ⟨fun h => ⟨h.1.1, h.1.2, h.2⟩, fun h => ⟨⟨h.1, h.2.1⟩, h.2.2⟩⟩
/-- Six numbers in one row. -/
def IsCo (w : World) (v : Value) (t : AffD) : Prop := ∃ b, v = .slice (some ⟨b, 0, none⟩) 6 6 ∧ Bx w b t.cells.toArray
theorem IsCo.ext {w w' : World} {v : Value} {t : AffD} (h : IsCo w v t) (hE : Ext w w') : IsCo w' v t := by
 obtain ⟨b, e, X⟩ := h; exact ⟨b, e, X.ext hE⟩
def AffT6 (base : Nat) (w : World) (t : AffD) (Q : Q6) : Prop := IsRatT base w t.a.v Q.a ∧ IsRatT base w t.b.v Q.b ∧ IsRatT base w t.c.v Q.c ∧ IsRatT base w t.d.v Q.d ∧ IsRatT base w t.e.v Q.e ∧ IsRatT base w t.f.v Q.f
theorem AffT6.ext {base : Nat} {w w' : World} {t : AffD} {Q : Q6} (h : AffT6 base w t Q) (hE : Ext w w') : AffT6 base w' t Q := ⟨h.1.ext hE, h.2.1.ext hE, h.2.2.1.ext hE, h.2.2.2.1.ext hE, h.2.2.2.2.1.ext hE, h.2.2.2.2.2.ext hE⟩
/-- A transform whose numbers are in lowest terms. -/
def IsNo (base : Nat) (w : World) (v : Value) (Q : Q6) : Prop := ∃ t : AffD, v = t.v ∧ AffT6 base w t Q
theorem IsNo.ext {base : Nat} {w w' : World} {v : Value} {Q : Q6} (h : IsNo base w v Q) (hE : Ext w w') : IsNo base w' v Q := by
 obtain ⟨t, e, X⟩ := h; exact ⟨t, e, X.ext hE⟩
def Q6.same (P Q : Q6) : Bool := decide (P.a = Q.a) && (decide (P.b = Q.b) && (decide (P.c = Q.c) && (decide (P.d = Q.d) && (decide (P.e = Q.e) && decide (P.f = Q.f)))))
theorem IsNo.mono {b b' : Nat} {w : World} {v : Value} {Q : Q6} (h : IsNo b w v Q) (hb : b' ≤ b) : IsNo b' w v Q := by
 obtain ⟨t, e, h0, h1, h2, h3, h4, h5⟩ := h; exact ⟨t, e, h0.mono hb, h1.mono hb, h2.mono hb, h3.mono hb, h4.mono hb, h5.mono hb⟩
theorem same_is {t u : AffD} {P Q : Q6} (h : t.Is P) (k : u.Is Q) : t.same u = P.same Q := by
 unfold AffD.same Q6.same
 rw [rat_same_is h.1 k.1, rat_same_is h.2.1 k.2.1, rat_same_is h.2.2.1 k.2.2.1, rat_same_is h.2.2.2.1 k.2.2.2.1, rat_same_is h.2.2.2.2.1 k.2.2.2.2.1, rat_same_is h.2.2.2.2.2 k.2.2.2.2.2]
theorem no_rec {base : Nat} {w : World} {t : AffD} {Q : Q6} (h : AffT6 base w t Q) : ∃ r : AffD, t.v = r.v ∧ r.ok w ∧ r.Is Q := by
 obtain ⟨h0, h1, h2, h3, h4, h5⟩ := h
 obtain ⟨r0, e0, a0, z0⟩ := IsRatN.recD h0
 obtain ⟨r1, e1, a1, z1⟩ := IsRatN.recD h1
 obtain ⟨r2, e2, a2, z2⟩ := IsRatN.recD h2
 obtain ⟨r3, e3, a3, z3⟩ := IsRatN.recD h3
 obtain ⟨r4, e4, a4, z4⟩ := IsRatN.recD h4
 obtain ⟨r5, e5, a5, z5⟩ := IsRatN.recD h5
 refine ⟨⟨r0, r1, r2, r3, r4, r5⟩, ?_, ⟨a0, a1, a2, a3, a4, a5⟩, z0, z1, z2, z3, z4, z5⟩
 have key : ∀ {x y : RatD}, x.v = y.v → x.cells = y.cells := fun h => by
  unfold RatD.v at h
  simp only [Value.agg.injEq, Array.mk.injEq] at h
  exact h
 unfold AffD.v AffD.cells
 rw [key e0, key e1, key e2, key e3, key e4, key e5]
theorem refSame_raw {r s : RatD} {w : World} (h : r.ok w) (k : s.ok w) :
  Calls Tryz.prog 103 #[r.v, s.v] w fun e w' => e = .returned (.bool (r.same s)) ∧ Ext w w' := by
 skip
 refine Sx.enter Tryz.func103 Tryz.ntmps103 fun ac S => Sx.seqP fun _ κ1 => Sx.newp S 2 r.cells fun ac u b2 E3 hb4 S => Sx.newp S 3 s.cells fun ac u b5 E6 hb7 S => Sx.run S 1 [] [(4, .bool false)] fun ac S => Sx.done <| κ1 _ _ <| Sx.seqP fun _ κ8 => Sx.run S 4 [.mem 1 0, .mem 0 0] [(6, .agg #[.bool r.n1, r.s1]), (8, .agg #[.bool s.n1, s.s1])] fun ac S => Sx.callv S 9 (sameInt_any r.n1 s.n1 r.s1 s.s1 r.l1 s.l1 _ (h.1.below S.E) (k.1.below S.E)) fun ac u E9 S => Sx.runC S 8 [.mem 1 2, .mem 0 2] [(_, _, (r.n1 == s.n1 && r.l1 == s.l1), .bool (r.n2 == s.n2 && r.l2 == s.l2))] [(4, .bool ((r.n1 == s.n1 && r.l1 == s.l1) && (r.n2 == s.n2 && r.l2 == s.l2)))] ⟨fun u hC g => sameInt_any r.n2 s.n2 r.s2 s.s2 r.l2 s.l2 _ (h.2.below (Ext.trans' S.E hC)) (k.2.below (Ext.trans' S.E hC)), trivial⟩ fun ac u E10 S => Sx.done <| κ8 _ _ <| Vp.rt ?_
 refine Sx.ret1 S Tryz.results103 ?_
 exact ⟨rfl, S.E⟩
theorem refSameAll_q {w : World} {v1 v2 : Value} {t t2 : AffD} (h1 : IsCo w v1 t) (h2 : IsCo w v2 t2) (h : t.ok w) (k : t2.ok w) :
  Calls Tryz.prog 53 #[v1, v2] w fun e w' => e = .returned (.bool (t.same t2)) ∧ Ext w w' := by
 obtain ⟨b1, rfl, X1⟩ := h1
 obtain ⟨b2, rfl, X2⟩ := h2
 obtain ⟨h0, h1, h2, h3, h4, h5⟩ := h
 obtain ⟨k0, k1, k2, k3, k4, k5⟩ := k
 refine Sx.enter Tryz.func53 Tryz.ntmps53 (fun ac S => ?_)
 have S := S.view0 X1.1 (X1.range 0 24 rfl)
 have S := S.view0 X2.1 (X2.range 0 24 rfl)
 refine Sx.seqP fun _ κ1 => Sx.run S 1 [] [(4, .bool false)] fun ac S => Sx.done <| κ1 _ _ <| wp_seq_k fun _ κ2 => Sx.seqP fun _ κ3 => Sx.run S 5 [] [(10, .bool false)] fun ac S => Sx.done <| κ3 _ _ <| Sx.condF S <| wp_skip <| κ2 _ _ <| wp_seq_k fun _ κ4 => Sx.seqP fun _ κ5 => Sx.run S 1 [] [(5, .int .i64 0)] fun ac S => Sx.done <| κ5 _ _ <| wp_block <| wp_loop_rounds 7 ?_
 rw [rounds_succ]
 refine wp_seq_k fun _ κ6 => Sx.seqP fun _ κ7 => Sx.run S 4 [] [(14, .bool true)] fun ac S => Sx.done <| κ7 _ _ <| Sx.condT S <| wp_skip <| κ6 _ _ <| wp_seq_k fun _ κ8 => wp_block <| wp_seq_k fun _ κ9 => Sx.draw S 10 [.mem 1 0, .mem 0 0] [(_, _, true, .bool (t.a.same t2.a))] [(26, .bool (!(t.a.same t2.a)))] ⟨fun u hC g => refSame_raw (r := t.a) (s := t2.a) (h0.below (Ext.trans' S.E hC)) (k0.below (Ext.trans' S.E hC)), trivial⟩ fun ac u E10 S => Sx.done (κ9 _ _ ?_)
 refine Sx.cond S (fun hc11 => ?_) (fun hc11 => ?_)
 ·refine Sx.seqP fun _ κ12 => Sx.run S 1 [] [(4, .bool false)] fun ac S => Sx.done <| κ12 _ _ <| Vp.rt ?_
  have g0 : t.a.same t2.a = false := by simpa using hc11
  refine Sx.ret1 S Tryz.results53 ?_
  exact ⟨ret_bool (by simp only [AffD.same, g0, Bool.false_and]), S.E⟩
 ·refine wp_skip <| κ8 _ _ <| Vp.region <| Sx.run S 3 [] [(5, .int .i64 1)] fun ac S => Sx.done ?_
  show Code.rounds _ _ _ 6 _ _
  rw [rounds_succ]
  refine wp_seq_k fun _ κ13 => Sx.seqP fun _ κ14 => Sx.run S 4 [] [(14, .bool true)] fun ac S => Sx.done <| κ14 _ _ <| Sx.condT S <| wp_skip <| κ13 _ _ <| wp_seq_k fun _ κ15 => wp_block <| wp_seq_k fun _ κ16 => Sx.draw S 10 [.mem 1 4, .mem 0 4] [(_, _, true, .bool (t.b.same t2.b))] [(26, .bool (!(t.b.same t2.b)))] ⟨fun u hC g => refSame_raw (r := t.b) (s := t2.b) (h1.below (Ext.trans' S.E hC)) (k1.below (Ext.trans' S.E hC)), trivial⟩ fun ac u E17 S => Sx.done (κ16 _ _ ?_)
  refine Sx.cond S (fun hc18 => ?_) (fun hc18 => ?_)
  ·refine Sx.seqP fun _ κ19 => Sx.run S 1 [] [(4, .bool false)] fun ac S => Sx.done <| κ19 _ _ <| Vp.rt ?_
   have g0 : t.a.same t2.a = true := by simpa using hc11
   have g1 : t.b.same t2.b = false := by simpa using hc18
   refine Sx.ret1 S Tryz.results53 ?_
   exact ⟨ret_bool (by simp only [AffD.same, g0, g1, Bool.true_and, Bool.false_and]), S.E⟩
  ·refine wp_skip <| κ15 _ _ <| Vp.region <| Sx.run S 3 [] [(5, .int .i64 2)] fun ac S => Sx.done ?_
   show Code.rounds _ _ _ 5 _ _
   rw [rounds_succ]
   refine wp_seq_k fun _ κ20 => Sx.seqP fun _ κ21 => Sx.run S 4 [] [(14, .bool true)] fun ac S => Sx.done <| κ21 _ _ <| Sx.condT S <| wp_skip <| κ20 _ _ <| wp_seq_k fun _ κ22 => wp_block <| wp_seq_k fun _ κ23 => Sx.draw S 10 [.mem 1 8, .mem 0 8] [(_, _, true, .bool (t.c.same t2.c))] [(26, .bool (!(t.c.same t2.c)))] ⟨fun u hC g => refSame_raw (r := t.c) (s := t2.c) (h2.below (Ext.trans' S.E hC)) (k2.below (Ext.trans' S.E hC)), trivial⟩ fun ac u E24 S => Sx.done (κ23 _ _ ?_)
   refine Sx.cond S (fun hc25 => ?_) (fun hc25 => ?_)
   ·refine Sx.seqP fun _ κ26 => Sx.run S 1 [] [(4, .bool false)] fun ac S => Sx.done <| κ26 _ _ <| Vp.rt ?_
    have g0 : t.a.same t2.a = true := by simpa using hc11
    have g1 : t.b.same t2.b = true := by simpa using hc18
    have g2 : t.c.same t2.c = false := by simpa using hc25
    refine Sx.ret1 S Tryz.results53 ?_
    exact ⟨ret_bool (by simp only [AffD.same, g0, g1, g2, Bool.true_and, Bool.false_and]), S.E⟩
   ·refine wp_skip <| κ22 _ _ <| Vp.region <| Sx.run S 3 [] [(5, .int .i64 3)] fun ac S => Sx.done ?_
    show Code.rounds _ _ _ 4 _ _
    rw [rounds_succ]
    refine wp_seq_k fun _ κ27 => Sx.seqP fun _ κ28 => Sx.run S 4 [] [(14, .bool true)] fun ac S => Sx.done <| κ28 _ _ <| Sx.condT S <| wp_skip <| κ27 _ _ <| wp_seq_k fun _ κ29 => wp_block <| wp_seq_k fun _ κ30 => Sx.draw S 10 [.mem 1 12, .mem 0 12] [(_, _, true, .bool (t.d.same t2.d))] [(26, .bool (!(t.d.same t2.d)))] ⟨fun u hC g => refSame_raw (r := t.d) (s := t2.d) (h3.below (Ext.trans' S.E hC)) (k3.below (Ext.trans' S.E hC)), trivial⟩ fun ac u E31 S => Sx.done (κ30 _ _ ?_)
    refine Sx.cond S (fun hc32 => ?_) (fun hc32 => ?_)
    ·refine Sx.seqP fun _ κ33 => Sx.run S 1 [] [(4, .bool false)] fun ac S => Sx.done <| κ33 _ _ <| Vp.rt ?_
     have g0 : t.a.same t2.a = true := by simpa using hc11
     have g1 : t.b.same t2.b = true := by simpa using hc18
     have g2 : t.c.same t2.c = true := by simpa using hc25
     have g3 : t.d.same t2.d = false := by simpa using hc32
     refine Sx.ret1 S Tryz.results53 ?_
     exact ⟨ret_bool (by simp only [AffD.same, g0, g1, g2, g3, Bool.true_and, Bool.false_and]), S.E⟩
    ·refine wp_skip <| κ29 _ _ <| Vp.region <| Sx.run S 3 [] [(5, .int .i64 4)] fun ac S => Sx.done ?_
     show Code.rounds _ _ _ 3 _ _
     rw [rounds_succ]
     refine wp_seq_k fun _ κ34 => Sx.seqP fun _ κ35 => Sx.run S 4 [] [(14, .bool true)] fun ac S => Sx.done <| κ35 _ _ <| Sx.condT S <| wp_skip <| κ34 _ _ <| wp_seq_k fun _ κ36 => wp_block <| wp_seq_k fun _ κ37 => Sx.draw S 10 [.mem 1 16, .mem 0 16] [(_, _, true, .bool (t.e.same t2.e))] [(26, .bool (!(t.e.same t2.e)))] ⟨fun u hC g => refSame_raw (r := t.e) (s := t2.e) (h4.below (Ext.trans' S.E hC)) (k4.below (Ext.trans' S.E hC)), trivial⟩ fun ac u E38 S => Sx.done (κ37 _ _ ?_)
     refine Sx.cond S (fun hc39 => ?_) (fun hc39 => ?_)
     ·refine Sx.seqP fun _ κ40 => Sx.run S 1 [] [(4, .bool false)] fun ac S => Sx.done <| κ40 _ _ <| Vp.rt ?_
      have g0 : t.a.same t2.a = true := by simpa using hc11
      have g1 : t.b.same t2.b = true := by simpa using hc18
      have g2 : t.c.same t2.c = true := by simpa using hc25
      have g3 : t.d.same t2.d = true := by simpa using hc32
      have g4 : t.e.same t2.e = false := by simpa using hc39
      refine Sx.ret1 S Tryz.results53 ?_
      exact ⟨ret_bool (by simp only [AffD.same, g0, g1, g2, g3, g4, Bool.true_and, Bool.false_and]), S.E⟩
     ·refine wp_skip <| κ36 _ _ <| Vp.region <| Sx.run S 3 [] [(5, .int .i64 5)] fun ac S => Sx.done ?_
      show Code.rounds _ _ _ 2 _ _
      rw [rounds_succ]
      refine wp_seq_k fun _ κ41 => Sx.seqP fun _ κ42 => Sx.run S 4 [] [(14, .bool true)] fun ac S => Sx.done <| κ42 _ _ <| Sx.condT S <| wp_skip <| κ41 _ _ <| wp_seq_k fun _ κ43 => wp_block <| wp_seq_k fun _ κ44 => Sx.draw S 10 [.mem 1 20, .mem 0 20] [(_, _, true, .bool (t.f.same t2.f))] [(26, .bool (!(t.f.same t2.f)))] ⟨fun u hC g => refSame_raw (r := t.f) (s := t2.f) (h5.below (Ext.trans' S.E hC)) (k5.below (Ext.trans' S.E hC)), trivial⟩ fun ac u E45 S => Sx.done (κ44 _ _ ?_)
      refine Sx.cond S (fun hc46 => ?_) (fun hc46 => ?_)
      ·refine Sx.seqP fun _ κ47 => Sx.run S 1 [] [(4, .bool false)] fun ac S => Sx.done <| κ47 _ _ <| Vp.rt ?_
       have g0 : t.a.same t2.a = true := by simpa using hc11
       have g1 : t.b.same t2.b = true := by simpa using hc18
       have g2 : t.c.same t2.c = true := by simpa using hc25
       have g3 : t.d.same t2.d = true := by simpa using hc32
       have g4 : t.e.same t2.e = true := by simpa using hc39
       have g5 : t.f.same t2.f = false := by simpa using hc46
       refine Sx.ret1 S Tryz.results53 ?_
       exact ⟨ret_bool (by simp only [AffD.same, g0, g1, g2, g3, g4, g5, Bool.true_and]), S.E⟩
      ·refine wp_skip <| κ43 _ _ <| Vp.region <| Sx.run S 3 [] [(5, .int .i64 6)] fun ac S => Sx.done ?_
       show Code.rounds _ _ _ 1 _ _
       rw [rounds_succ]
       refine wp_seq_k fun _ κ48 => Sx.seqP fun _ κ49 => Sx.run S 4 [] [(14, .bool false)] fun ac S => Sx.done <| κ49 _ _ <| Sx.condF S <| wp_exit <| κ4 _ _ <| Sx.seqP fun _ κ50 => Sx.run S 1 [] [(4, .bool true)] fun ac S => Sx.done <| κ50 _ _ <| Vp.rt ?_
       have g0 : t.a.same t2.a = true := by simpa using hc11
       have g1 : t.b.same t2.b = true := by simpa using hc18
       have g2 : t.c.same t2.c = true := by simpa using hc25
       have g3 : t.d.same t2.d = true := by simpa using hc32
       have g4 : t.e.same t2.e = true := by simpa using hc39
       have g5 : t.f.same t2.f = true := by simpa using hc46
       refine Sx.ret1 S Tryz.results53 ?_
       exact ⟨ret_bool (by simp only [AffD.same, g0, g1, g2, g3, g4, g5, Bool.true_and]), S.E⟩
theorem refNorm12_q (v : Value) (Q : Q6) (K : Nat) (w : World) (h : IsAffQ K w v Q) (hK1 : 1 ≤ K) (hK : K ≤ 10000) :
  Calls Tryz.prog 101 #[v] w fun e w' => ∃ x, e = .returned x ∧ IsNo w.heap.size w' x Q ∧ Ext w w' := by
 have hq := h
 obtain ⟨nr0, nr1, nr2, nr3, nr4, nr5⟩ := h.nrm
 obtain ⟨ln0, ln1, ln2, ln3, ln4, ln5⟩ := h.len hK1
 obtain ⟨t, rfl, h0, h1, h2, h3, h4, h5⟩ := h.sQ
 refine Sx.enter Tryz.func101 Tryz.ntmps101 fun ac S => Sx.seqP fun _ κ1 => Sx.newp S 1 t.cells fun ac u b2 E3 hb4 S => Sx.newp S 2 Sx.za fun ac u b5 E6 hb7 S => Sx.done <| κ1 _ _ <| wp_seq_k fun _ κ8 => Sx.drawX S 18 [(5, fun v w1 => IsRatT w.heap.size w1 v Q.a), (8, fun v w1 => IsRatT w.heap.size w1 v Q.b), (11, fun v w1 => IsRatT w.heap.size w1 v Q.c), (14, fun v w1 => IsRatT w.heap.size w1 v Q.d), (17, fun v w1 => IsRatT w.heap.size w1 v Q.e), (20, fun v w1 => IsRatT w.heap.size w1 v Q.f)] (fun r => [.mem 1 0, .mem 1 4, .mem 1 8, .mem 1 12, .mem 1 16, .mem 1 20]) (fun x => [x 5, x 8, x 11, x 14, x 17, x 20]) (fun x => [(_, _, true, x 5, 5), (_, _, true, x 8, 8), (_, _, true, x 11, 11), (_, _, true, x 14, 14), (_, _, true, x 17, 17), (_, _, true, x 20, 20)]) [[], [], [], [], [], []] (fun x => [(5, x 5), (8, x 8), (11, x 11), (14, x 14), (17, x 17), (20, x 20)]) ⟨fun _ _ _ k h => h.ext k, fun _ _ _ k h => h.ext k, fun _ _ _ k h => h.ext k, fun _ _ _ k h => h.ext k, fun _ _ _ k h => h.ext k, fun _ _ _ k h => h.ext k, trivial⟩ (fun x => ⟨by intro u hC g F; exact (refNorm_q _ Q.a K _ (h0.below (Ext.trans' S.E hC)) (by omega)).mono fun e w2 h => by obtain ⟨y, rfl, hx, hb⟩ := h; exact ⟨_, rfl, hx.mono ((Ext.trans' S.E hC)).size, hb⟩, by intro u hC g F; exact (refNorm_q _ Q.b K _ (h1.below (Ext.trans' S.E hC)) (by omega)).mono fun e w2 h => by obtain ⟨y, rfl, hx, hb⟩ := h; exact ⟨_, rfl, hx.mono ((Ext.trans' S.E hC)).size, hb⟩, by intro u hC g F; exact (refNorm_q _ Q.c K _ (h2.below (Ext.trans' S.E hC)) (by omega)).mono fun e w2 h => by obtain ⟨y, rfl, hx, hb⟩ := h; exact ⟨_, rfl, hx.mono ((Ext.trans' S.E hC)).size, hb⟩, by intro u hC g F; exact (refNorm_q _ Q.d K _ (h3.below (Ext.trans' S.E hC)) (by omega)).mono fun e w2 h => by obtain ⟨y, rfl, hx, hb⟩ := h; exact ⟨_, rfl, hx.mono ((Ext.trans' S.E hC)).size, hb⟩, by intro u hC g F; exact (refNorm_q _ Q.e K _ (h4.below (Ext.trans' S.E hC)) (by omega)).mono fun e w2 h => by obtain ⟨y, rfl, hx, hb⟩ := h; exact ⟨_, rfl, hx.mono ((Ext.trans' S.E hC)).size, hb⟩, by intro u hC g F; exact (refNorm_q _ Q.f K _ (h5.below (Ext.trans' S.E hC)) (by omega)).mono fun e w2 h => by obtain ⟨y, rfl, hx, hb⟩ := h; exact ⟨_, rfl, hx.mono ((Ext.trans' S.E hC)).size, hb⟩, trivial⟩) (fun ac u x E9 F S => ?_)
 obtain ⟨F5, F8, F11, F14, F17, F20, -⟩ := F
 obtain ⟨ma, ema⟩ := IsRatN.shapeD F5
 rw [ema] at S F5
 obtain ⟨mb, emb⟩ := IsRatN.shapeD F8
 rw [emb] at S F8
 obtain ⟨mc, emc⟩ := IsRatN.shapeD F11
 rw [emc] at S F11
 obtain ⟨md, emd⟩ := IsRatN.shapeD F14
 rw [emd] at S F14
 obtain ⟨me, eme⟩ := IsRatN.shapeD F17
 rw [eme] at S F17
 obtain ⟨mf, emf⟩ := IsRatN.shapeD F20
 rw [emf] at S F20
 refine Sx.run S 1 [] [(21, .agg (ma.cells ++ mb.cells ++ mc.cells ++ md.cells ++ me.cells ++ mf.cells).toArray)] (fun ac S => ?_)
 have X11 := S.bx 0
 refine Sx.store S 0 (off := 0) (cs := (ma.cells ++ mb.cells ++ mc.cells ++ md.cells ++ me.cells ++ mf.cells)) rfl (fun u C10 S => ?_)
 have Fs12 := IsRatN.setc F5 C10 X11
 have Fs13 := IsRatN.setc F8 C10 X11
 have Fs14 := IsRatN.setc F11 C10 X11
 have Fs15 := IsRatN.setc F14 C10 X11
 have Fs16 := IsRatN.setc F17 C10 X11
 have Fs17 := IsRatN.setc F20 C10 X11
 refine Sx.done <| κ8 _ _ <| Vp.rt ?_
 refine Sx.retc S 0 Tryz.results101 rfl (v := .agg (ma.cells ++ mb.cells ++ mc.cells ++ md.cells ++ me.cells ++ mf.cells).toArray) ?_
 exact ⟨_, rfl, ⟨⟨ma, mb, mc, md, me, mf⟩, rfl, Fs12, Fs13, Fs14, Fs15, Fs16, Fs17⟩, S.E⟩
theorem refFields_raw {w : World} {t t2 : AffD} (h : t.ok w) (k : t2.ok w) :
  Calls Tryz.prog 23 #[t.v, t2.v] w fun e w' => e = .returned (.bool (t.same t2)) ∧ Ext w w' := by
 skip
 refine Sx.enter Tryz.func23 Tryz.ntmps23 fun ac S => Sx.seqP fun _ κ1 => Sx.newp S 2 t.cells fun ac u b2 E3 hb4 S => Sx.newp S 3 t2.cells fun ac u b5 E6 hb7 S => Sx.run S 1 [] [(4, .bool false)] fun ac S => Sx.done <| κ1 _ _ <| wp_seq_k fun _ κ8 => Sx.drawX S 5 [(6, fun v w1 => IsCo w1 v t), (8, fun v w1 => IsCo w1 v t2)] (fun r => [.mem 1 0, .mem 0 0]) (fun x => [x 6, x 8, .bool (t.same t2)]) (fun x => [(_, _, true, x 6, 6), (_, _, true, x 8, 8), (_, _, true, .bool (t.same t2), 9)]) [[], [], [6, 8]] (fun x => [(9, .bool (t.same t2))]) ⟨fun _ _ _ k h => h.ext k, fun _ _ _ k h => h.ext k, trivial⟩ (fun x => ⟨by intro u hC g F; exact (coeff_any t _).mono fun e w2 h => by obtain ⟨b, rfl, hb0, X, hb⟩ := h; exact ⟨_, rfl, ⟨b, rfl, X⟩, hb⟩, by intro u hC g F; exact (coeff_any t2 _).mono fun e w2 h => by obtain ⟨b, rfl, hb0, X, hb⟩ := h; exact ⟨_, rfl, ⟨b, rfl, X⟩, hb⟩, by intro u hC g F; obtain ⟨F6, F8, -⟩ := F; exact (refSameAll_q F6 F8 (h.below (Ext.trans' S.E hC)) (k.below (Ext.trans' S.E hC))).mono fun e w2 h => ⟨_, h.1, rfl, h.2⟩, trivial⟩) (fun ac u x E9 F S => ?_)
 obtain ⟨F6, F8, -⟩ := F
 refine Sx.run S 1 [] [(4, .bool (t.same t2))] fun ac S => Sx.done <| κ8 _ _ <| Vp.rt ?_
 refine Sx.ret1 S Tryz.results23 ?_
 exact ⟨rfl, S.E⟩
theorem refFields_q {w : World} {n1 n2 : Nat} {v1 v2 : Value} {P Q : Q6} (h : IsNo n1 w v1 P) (k : IsNo n2 w v2 Q) :
  Calls Tryz.prog 23 #[v1, v2] w fun e w' => e = .returned (.bool (P.same Q)) ∧ Ext w w' := by
 obtain ⟨t, rfl, h⟩ := h
 obtain ⟨t2, rfl, k⟩ := k
 obtain ⟨r, e, ho, hi⟩ := no_rec h
 obtain ⟨s, e2, ko, ki⟩ := no_rec k
 rw [e, e2]
 exact (refFields_raw ho ko).mono fun _ _ h => ⟨h.1.trans (ret_bool (same_is hi ki)), h.2⟩
theorem refEqual12_q {w : World} {P Q : Q6} {t t2 : AffD} (h : IsAffQ K w t.v P) (k : IsAffQ K w t2.v Q) (hK1 : 1 ≤ K) (hK : K ≤ 10000) :
  Calls Tryz.prog 48 #[t.v, t2.v] w fun e w' => e = .returned (.bool (P.same Q)) ∧ Ext w w' := by
 skip
 refine Sx.enter Tryz.func48 Tryz.ntmps48 fun ac S => Sx.seqP fun _ κ1 => Sx.newp S 2 t.cells fun ac u b2 E3 hb4 S => Sx.newp S 3 t2.cells fun ac u b5 E6 hb7 S => Sx.run S 1 [] [(4, .bool false)] fun ac S => Sx.done <| κ1 _ _ <| wp_seq_k fun _ κ8 => Sx.drawX S 5 [(6, fun v w1 => IsNo w.heap.size w1 v P), (8, fun v w1 => IsNo w.heap.size w1 v Q)] (fun r => [.mem 1 0, .mem 0 0]) (fun x => [x 6, x 8, .bool (P.same Q)]) (fun x => [(_, _, true, x 6, 6), (_, _, true, x 8, 8), (_, _, true, .bool (P.same Q), 9)]) [[], [], [6, 8]] (fun x => [(9, .bool (P.same Q))]) ⟨fun _ _ _ k h => h.ext k, fun _ _ _ k h => h.ext k, trivial⟩ (fun x => ⟨by intro u hC g F; exact (refNorm12_q _ P K _ (h.belowQ (Ext.trans' S.E hC)) hK1 hK).mono fun e w2 h => by obtain ⟨y, rfl, hx, hb⟩ := h; exact ⟨_, rfl, IsNo.mono hx ((Ext.trans' S.E hC)).size, hb⟩, by intro u hC g F; exact (refNorm12_q _ Q K _ (k.belowQ (Ext.trans' S.E hC)) hK1 hK).mono fun e w2 h => by obtain ⟨y, rfl, hx, hb⟩ := h; exact ⟨_, rfl, IsNo.mono hx ((Ext.trans' S.E hC)).size, hb⟩, by intro u hC g F; obtain ⟨F6, F8, -⟩ := F; exact (refFields_q F6 F8).mono fun e w2 h => ⟨_, h.1, rfl, h.2⟩, trivial⟩) (fun ac u x E9 F S => ?_)
 obtain ⟨F6, F8, -⟩ := F
 refine Sx.run S 1 [] [(4, .bool (P.same Q))] fun ac S => Sx.done <| κ8 _ _ <| Vp.rt ?_
 refine Sx.ret1 S Tryz.results48 ?_
 exact ⟨rfl, S.E⟩
end Go.Proofs.YtcohmdeoocgmdaaGreatDoor
