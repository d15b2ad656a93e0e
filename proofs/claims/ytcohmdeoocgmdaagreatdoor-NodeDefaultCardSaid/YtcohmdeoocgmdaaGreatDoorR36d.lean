/- Reference 34: valid paints. -/
import Derived.Test.YtcohmdeoocgmdaaGreatDoorR36c
import Derived.Test.YtcohmdeoocgmdaaGreatDoorQeq
import Derived.Test.YtcohmdeoocgmdaaGreatDoorSw
set_option maxHeartbeats 3200000
set_option maxRecDepth 100000
namespace Go.Proofs.YtcohmdeoocgmdaaGreatDoor
open Go.RowKit
variable {α : Type} {K : Nat}
set_option linter.unusedVariables false
def PaintD.noramp (p : PaintD) : Bool := ((((p.p0.x == 0) && (p.p0.y == 0)) && ((p.p1.x == 0) && (p.p1.y == 0))) && ((p.radius) == 0)) && ((((p.stops.length : Nat) : Int)) == 0)
theorem r34ramp_any {w : World} {p : PaintD} (h : p.ok w) :
    Calls Tryz.prog 186 #[p.v] w fun e w' => e = .returned (.bool (p.noramp)) ∧ Ext w w' := by
  skip
  refine Sx.enter Tryz.func186 Tryz.ntmps186 (fun ac S => ?_)
  refine Sx.seqP (fun _ κ1 => ?_)
  refine Sx.newp S 1 p.cells (fun ac u b2 E3 hb4 S => ?_)
  refine Sx.run S 1 [] [(2, .bool false)] (fun ac S => ?_)
  refine Sx.done (κ1 _ _ ?_)
  refine Sx.seqP (fun _ κ5 => ?_)
  refine Sx.run S 22 [.mem 0 5, .cmp .eql 69 (.tmp 4) (.tmp 5) (.agg #[.int .i64 p.p0.x, .int .i64 p.p0.y]) (.agg #[.int .i64 0, .int .i64 0]) (.bool ((p.p0.x == 0) && (p.p0.y == 0))), .mem 0 7, .cmp .eql 69 (.tmp 9) (.tmp 10) (.agg #[.int .i64 p.p1.x, .int .i64 p.p1.y]) (.agg #[.int .i64 0, .int .i64 0]) (.bool ((p.p1.x == 0) && (p.p1.y == 0))), .mem 0 9, .mem 0 10] [(2, .bool (((((p.p0.x == 0) && (p.p0.y == 0)) && ((p.p1.x == 0) && (p.p1.y == 0))) && ((p.radius) == 0)) && ((((p.stops.length : Nat) : Int)) == 0)))] (fun ac S => ?_) (hk := ⟨Sx.cmp_agg (fun _ => eqPt ..) (by kernel_rfl), Sx.cmp_agg (fun _ => eqPt ..) (by kernel_rfl), trivial⟩)
  refine Sx.done (κ5 _ _ ?_)
  refine Vp.rt ?_
  refine Sx.ret1 S Tryz.results186 ?_
  exact ⟨rfl, S.E⟩
def PaintD.noimg (p : PaintD) : Bool := ((((p.img.w) == 0) && ((p.img.h) == 0)) && ((((p.img.l.length : Nat) : Int)) == 0)) && ((p.samp) == 0)
theorem r34image_any {w : World} {p : PaintD} (h : p.ok w) :
    Calls Tryz.prog 187 #[p.v] w fun e w' => e = .returned (.bool (p.noimg)) ∧ Ext w w' := by
  skip
  refine Sx.enter Tryz.func187 Tryz.ntmps187 (fun ac S => ?_)
  refine Sx.seqP (fun _ κ1 => ?_)
  refine Sx.newp S 1 p.cells (fun ac u b2 E3 hb4 S => ?_)
  refine Sx.run S 1 [] [(2, .bool false)] (fun ac S => ?_)
  refine Sx.done (κ1 _ _ ?_)
  refine Sx.seqP (fun _ κ5 => ?_)
  refine Sx.run S 23 [.mem 0 12, .mem 0 13, .mem 0 14, .mem 0 15] [(2, .bool (((((p.img.w) == 0) && ((p.img.h) == 0)) && ((((p.img.l.length : Nat) : Int)) == 0)) && ((p.samp) == 0)))] (fun ac S => ?_)
  refine Sx.done (κ5 _ _ ?_)
  refine Vp.rt ?_
  refine Sx.ret1 S Tryz.results187 ?_
  exact ⟨rfl, S.E⟩
theorem r34zero_any {w : World} {t : AffD} (h : IsAffQ K w t.v t.q) (hK1 : 1 ≤ K) (hK : K ≤ 10000) :
    Calls Tryz.prog 188 #[t.v] w fun e w' => e = .returned (.bool (t.q.same AffD.none.q)) ∧ Ext w w' := by
  skip
  refine Sx.enter Tryz.func188 Tryz.ntmps188 (fun ac S => ?_)
  refine Sx.seqP (fun _ κ1 => ?_)
  refine Sx.newp S 1 t.cells (fun ac u b2 E3 hb4 S => ?_)
  refine Sx.run S 1 [] [(2, .bool false)] (fun ac S => ?_)
  refine Sx.done (κ1 _ _ ?_)
  refine Sx.seqP (fun _ κ5 => ?_)
  refine Sx.run S 2 [.mem 0 0] [(3, t.v), (4, .agg Sx.za.toArray)] (fun ac S => ?_)
  refine Sx.callv S 5 (refEqual12_q (t := t) (t2 := AffD.none) (h.belowQ S.E) ((AffD.toQ (AffD.none_ok _) (AffD.none_fit K)).belowQ (Below.refl _ _)) hK1 hK) (fun ac u E6 S => ?_)
  refine Sx.run S 1 [] [(2, .bool (t.q.same AffD.none.q))] (fun ac S => ?_)
  refine Sx.done (κ5 _ _ ?_)
  refine Vp.rt ?_
  refine Sx.ret1 S Tryz.results188 ?_
  exact ⟨rfl, S.E⟩
def PaintD.has34 (p : PaintD) : Bool := cond ((p.kind) == 1) (((p.noramp && p.noimg) && ((p.spread) == 0)) && (p.t.q.same AffD.none.q)) (cond ((p.kind) == 2) ((((((p.noimg && (((p.color.r.toNat : Int) == 0) && (((p.color.g.toNat : Int) == 0) && (((p.color.b.toNat : Int) == 0) && ((p.color.a.toNat : Int) == 0))))) && ((p.radius) == 0)) && (pt11 p.p0.x p.p0.y)) && (pt11 p.p1.x p.p1.y)) && (stopsOk p.stops)) && (decide (1 ≤ p.spread) && decide (p.spread ≤ 3))) (cond ((p.kind) == 3) (((((((p.noimg && (((p.color.r.toNat : Int) == 0) && (((p.color.g.toNat : Int) == 0) && (((p.color.b.toNat : Int) == 0) && ((p.color.a.toNat : Int) == 0))))) && ((p.p1.x == 0) && (p.p1.y == 0))) && (pt11 p.p0.x p.p0.y)) && (decide (1 ≤ p.radius))) && (decide (p.radius ≤ 1048576))) && (stopsOk p.stops)) && (decide (1 ≤ p.spread) && decide (p.spread ≤ 3))) (cond ((p.kind) == 4) ((((p.noramp && (((p.color.r.toNat : Int) == 0) && (((p.color.g.toNat : Int) == 0) && (((p.color.b.toNat : Int) == 0) && ((p.color.a.toNat : Int) == 0))))) && (p.img.valid)) && (((p.spread) == 0) || (decide (1 ≤ p.spread) && decide (p.spread ≤ 3)))) && (((p.samp) == 1) || ((p.samp) == 2))) (false))))
theorem r34has_any {w : World} {p : PaintD} (h : p.ok w) (hq : IsAffQ K w p.t.v p.t.q) (hK1 : 1 ≤ K) (hK : K ≤ 10000) :
    Calls Tryz.prog 166 #[p.v] w fun e w' => e = .returned (.bool p.has34) ∧ Ext w w' := by
  skip
  refine Sx.enter Tryz.func166 Tryz.ntmps166 (fun ac S => ?_)
  refine Sx.seqP (fun _ κ1 => ?_)
  refine Sx.newp S 1 p.cells (fun ac u b2 E3 hb4 S => ?_)
  refine Sx.run S 1 [] [(2, .bool false)] (fun ac S => ?_)
  refine Sx.done (κ1 _ _ ?_)
  refine wp_seq_k (fun _ κ5 => ?_)
  refine Sx.seqP (fun _ κ6 => ?_)
  refine Sx.run S 2 [.mem 0 0] [(4, .int .i64 p.kind)] (fun ac S => ?_)
  refine Sx.done (κ6 _ _ ?_)
  refine wp_block ?_
  refine Sx.seqP (fun _ κ7 => ?_)
  refine Sx.run S 2 [] [(5, .bool ((p.kind) == 1))] (fun ac S => ?_)
  refine Sx.done (κ7 _ _ ?_)
  refine Sx.cond S (fun hc8 => ?_) (fun hc8 => ?_)
  · refine Sx.seqP (fun _ κ9 => ?_)
    refine Sx.run S 1 [.mem 0 0] [(7, p.v)] (fun ac S => ?_)
    refine Sx.callv S 8 (r34ramp_any (h.below S.E)) (fun ac u E10 S => ?_)
    refine Sx.runC S 15 [.mem 0 0, .mem 0 11, .mem 0 16] [(_, _, p.noramp, .bool p.noimg), (_, _, ((p.noramp && p.noimg) && ((p.spread) == 0)), .bool (p.t.q.same AffD.none.q))] [(2, .bool (((p.noramp && p.noimg) && ((p.spread) == 0)) && (p.t.q.same AffD.none.q)))] ⟨fun u hC g => r34image_any (h.below (Ext.trans' S.E hC)), fun u hC g => r34zero_any (K := K) (t := p.t) (hq.belowQ (Ext.trans' S.E hC)) hK1 hK, trivial⟩ (fun ac u E11 S => ?_)
    refine Sx.done (κ9 _ _ ?_)
    refine Vp.rt ?_
    have p0 := hc8
    refine Sx.ret1 S Tryz.results166 ?_
    exact ⟨ret_bool (by unfold PaintD.has34; simp only [p0, cond_true]), S.E⟩
  · refine Sx.seqP (fun _ κ12 => ?_)
    refine Sx.run S 2 [] [(23, .bool ((p.kind) == 2))] (fun ac S => ?_)
    refine Sx.done (κ12 _ _ ?_)
    refine Sx.cond S (fun hc13 => ?_) (fun hc13 => ?_)
    · refine Sx.seqP (fun _ κ14 => ?_)
      refine Sx.run S 1 [.mem 0 0] [(25, p.v)] (fun ac S => ?_)
      refine Sx.callv S 26 (r34image_any (h.below S.E)) (fun ac u E15 S => ?_)
      refine Sx.runC S 32 [.mem 0 1, .cmp .eql 67 (.tmp 29) (.tmp 30) (.agg #[.int .u8 (p.color.r.toNat : Int), .int .u8 (p.color.g.toNat : Int), .int .u8 (p.color.b.toNat : Int), .int .u8 (p.color.a.toNat : Int)]) (.agg #[.int .u8 0, .int .u8 0, .int .u8 0, .int .u8 0]) (.bool (((p.color.r.toNat : Int) == 0) && (((p.color.g.toNat : Int) == 0) && (((p.color.b.toNat : Int) == 0) && ((p.color.a.toNat : Int) == 0))))), .mem 0 9, .mem 0 5, .mem 0 7, .mem 0 10, .mem 0 11] [(_, _, ((p.noimg && (((p.color.r.toNat : Int) == 0) && (((p.color.g.toNat : Int) == 0) && (((p.color.b.toNat : Int) == 0) && ((p.color.a.toNat : Int) == 0))))) && ((p.radius) == 0)), .bool (pt11 p.p0.x p.p0.y)), (_, _, (((p.noimg && (((p.color.r.toNat : Int) == 0) && (((p.color.g.toNat : Int) == 0) && (((p.color.b.toNat : Int) == 0) && ((p.color.a.toNat : Int) == 0))))) && ((p.radius) == 0)) && (pt11 p.p0.x p.p0.y)), .bool (pt11 p.p1.x p.p1.y)), (_, _, ((((p.noimg && (((p.color.r.toNat : Int) == 0) && (((p.color.g.toNat : Int) == 0) && (((p.color.b.toNat : Int) == 0) && ((p.color.a.toNat : Int) == 0))))) && ((p.radius) == 0)) && (pt11 p.p0.x p.p0.y)) && (pt11 p.p1.x p.p1.y)), .bool (stopsOk p.stops)), (_, _, (((((p.noimg && (((p.color.r.toNat : Int) == 0) && (((p.color.g.toNat : Int) == 0) && (((p.color.b.toNat : Int) == 0) && ((p.color.a.toNat : Int) == 0))))) && ((p.radius) == 0)) && (pt11 p.p0.x p.p0.y)) && (pt11 p.p1.x p.p1.y)) && (stopsOk p.stops)), .bool (decide (1 ≤ p.spread) && decide (p.spread ≤ 3)))] [(2, .bool ((((((p.noimg && (((p.color.r.toNat : Int) == 0) && (((p.color.g.toNat : Int) == 0) && (((p.color.b.toNat : Int) == 0) && ((p.color.a.toNat : Int) == 0))))) && ((p.radius) == 0)) && (pt11 p.p0.x p.p0.y)) && (pt11 p.p1.x p.p1.y)) && (stopsOk p.stops)) && (decide (1 ≤ p.spread) && decide (p.spread ≤ 3))))] ⟨fun u hC g => r11Valid_any p.p0.x p.p0.y _, fun u hC g => r11Valid_any p.p1.x p.p1.y _, fun u hC g => r31Valid_any (h.2.2.2.2.1.below (Ext.trans' S.E hC)), fun u hC g => Sx.same (r34spread_any p.spread _), trivial⟩ (fun ac u E16 S => ?_) (hk := ⟨Sx.cmp_agg (fun _ => eqCol ..) (by kernel_rfl), trivial⟩)
      refine Sx.done (κ14 _ _ ?_)
      refine Vp.rt ?_
      have p0 := hc8
      have p1 := hc13
      refine Sx.ret1 S Tryz.results166 ?_
      exact ⟨ret_bool (by unfold PaintD.has34; simp only [p0, p1, cond_true, cond_false]), S.E⟩
    · refine Sx.seqP (fun _ κ17 => ?_)
      refine Sx.run S 2 [] [(58, .bool ((p.kind) == 3))] (fun ac S => ?_)
      refine Sx.done (κ17 _ _ ?_)
      refine Sx.cond S (fun hc18 => ?_) (fun hc18 => ?_)
      · refine Sx.seqP (fun _ κ19 => ?_)
        refine Sx.run S 1 [.mem 0 0] [(60, p.v)] (fun ac S => ?_)
        refine Sx.callv S 61 (r34image_any (h.below S.E)) (fun ac u E20 S => ?_)
        refine Sx.runC S 38 [.mem 0 1, .cmp .eql 67 (.tmp 64) (.tmp 65) (.agg #[.int .u8 (p.color.r.toNat : Int), .int .u8 (p.color.g.toNat : Int), .int .u8 (p.color.b.toNat : Int), .int .u8 (p.color.a.toNat : Int)]) (.agg #[.int .u8 0, .int .u8 0, .int .u8 0, .int .u8 0]) (.bool (((p.color.r.toNat : Int) == 0) && (((p.color.g.toNat : Int) == 0) && (((p.color.b.toNat : Int) == 0) && ((p.color.a.toNat : Int) == 0))))), .mem 0 7, .cmp .eql 69 (.tmp 70) (.tmp 71) (.agg #[.int .i64 p.p1.x, .int .i64 p.p1.y]) (.agg #[.int .i64 0, .int .i64 0]) (.bool ((p.p1.x == 0) && (p.p1.y == 0))), .mem 0 5, .mem 0 9, .mem 0 9, .mem 0 10, .mem 0 11] [(_, _, ((p.noimg && (((p.color.r.toNat : Int) == 0) && (((p.color.g.toNat : Int) == 0) && (((p.color.b.toNat : Int) == 0) && ((p.color.a.toNat : Int) == 0))))) && ((p.p1.x == 0) && (p.p1.y == 0))), .bool (pt11 p.p0.x p.p0.y)), (_, _, (((((p.noimg && (((p.color.r.toNat : Int) == 0) && (((p.color.g.toNat : Int) == 0) && (((p.color.b.toNat : Int) == 0) && ((p.color.a.toNat : Int) == 0))))) && ((p.p1.x == 0) && (p.p1.y == 0))) && (pt11 p.p0.x p.p0.y)) && (decide (1 ≤ p.radius))) && (decide (p.radius ≤ 1048576))), .bool (stopsOk p.stops)), (_, _, ((((((p.noimg && (((p.color.r.toNat : Int) == 0) && (((p.color.g.toNat : Int) == 0) && (((p.color.b.toNat : Int) == 0) && ((p.color.a.toNat : Int) == 0))))) && ((p.p1.x == 0) && (p.p1.y == 0))) && (pt11 p.p0.x p.p0.y)) && (decide (1 ≤ p.radius))) && (decide (p.radius ≤ 1048576))) && (stopsOk p.stops)), .bool (decide (1 ≤ p.spread) && decide (p.spread ≤ 3)))] [(2, .bool (((((((p.noimg && (((p.color.r.toNat : Int) == 0) && (((p.color.g.toNat : Int) == 0) && (((p.color.b.toNat : Int) == 0) && ((p.color.a.toNat : Int) == 0))))) && ((p.p1.x == 0) && (p.p1.y == 0))) && (pt11 p.p0.x p.p0.y)) && (decide (1 ≤ p.radius))) && (decide (p.radius ≤ 1048576))) && (stopsOk p.stops)) && (decide (1 ≤ p.spread) && decide (p.spread ≤ 3))))] ⟨fun u hC g => r11Valid_any p.p0.x p.p0.y _, fun u hC g => r31Valid_any (h.2.2.2.2.1.below (Ext.trans' S.E hC)), fun u hC g => Sx.same (r34spread_any p.spread _), trivial⟩ (fun ac u E21 S => ?_) (hk := ⟨Sx.cmp_agg (fun _ => eqCol ..) (by kernel_rfl), Sx.cmp_agg (fun _ => eqPt ..) (by kernel_rfl), trivial⟩)
        refine Sx.done (κ19 _ _ ?_)
        refine Vp.rt ?_
        have p0 := hc8
        have p1 := hc13
        have p2 := hc18
        refine Sx.ret1 S Tryz.results166 ?_
        exact ⟨ret_bool (by unfold PaintD.has34; simp only [p0, p1, p2, cond_true, cond_false]), S.E⟩
      · refine Sx.seqP (fun _ κ22 => ?_)
        refine Sx.run S 2 [] [(99, .bool ((p.kind) == 4))] (fun ac S => ?_)
        refine Sx.done (κ22 _ _ ?_)
        refine Sx.cond S (fun hc23 => ?_) (fun hc23 => ?_)
        · refine Sx.seqP (fun _ κ24 => ?_)
          refine Sx.run S 1 [.mem 0 0] [(101, p.v)] (fun ac S => ?_)
          refine Sx.callv S 102 (r34ramp_any (h.below S.E)) (fun ac u E25 S => ?_)
          refine Sx.runC S 32 [.mem 0 1, .cmp .eql 67 (.tmp 105) (.tmp 106) (.agg #[.int .u8 (p.color.r.toNat : Int), .int .u8 (p.color.g.toNat : Int), .int .u8 (p.color.b.toNat : Int), .int .u8 (p.color.a.toNat : Int)]) (.agg #[.int .u8 0, .int .u8 0, .int .u8 0, .int .u8 0]) (.bool (((p.color.r.toNat : Int) == 0) && (((p.color.g.toNat : Int) == 0) && (((p.color.b.toNat : Int) == 0) && ((p.color.a.toNat : Int) == 0))))), .mem 0 12, .mem 0 11, .mem 0 11, .mem 0 15, .mem 0 15] [(_, _, (p.noramp && (((p.color.r.toNat : Int) == 0) && (((p.color.g.toNat : Int) == 0) && (((p.color.b.toNat : Int) == 0) && ((p.color.a.toNat : Int) == 0))))), .bool (p.img.valid)), (_, _, (((p.noramp && (((p.color.r.toNat : Int) == 0) && (((p.color.g.toNat : Int) == 0) && (((p.color.b.toNat : Int) == 0) && ((p.color.a.toNat : Int) == 0))))) && (p.img.valid)) && (!((p.spread) == 0))), .bool (decide (1 ≤ p.spread) && decide (p.spread ≤ 3)))] [(2, .bool ((((p.noramp && (((p.color.r.toNat : Int) == 0) && (((p.color.g.toNat : Int) == 0) && (((p.color.b.toNat : Int) == 0) && ((p.color.a.toNat : Int) == 0))))) && (p.img.valid)) && (((p.spread) == 0) || (decide (1 ≤ p.spread) && decide (p.spread ≤ 3)))) && (((p.samp) == 1) || ((p.samp) == 2))))] ⟨fun u hC g => r33Valid_any (m := p.img) (h.2.2.2.2.2.2.2.1.below (Ext.trans' S.E hC)), fun u hC g => Sx.same (r34spread_any p.spread _), trivial⟩ (fun ac u E26 S => ?_) (hk := ⟨Sx.cmp_agg (fun _ => eqCol ..) (by kernel_rfl), trivial⟩)
          refine Sx.done (κ24 _ _ ?_)
          refine Vp.rt ?_
          have p0 := hc8
          have p1 := hc13
          have p2 := hc18
          have p3 := hc23
          refine Sx.ret1 S Tryz.results166 ?_
          exact ⟨ret_bool (by unfold PaintD.has34; simp only [p0, p1, p2, p3, cond_true, cond_false]), S.E⟩
        · refine wp_skip ?_
          refine κ5 _ _ ?_
          refine Sx.seqP (fun _ κ27 => ?_)
          refine Sx.run S 1 [] [(2, .bool false)] (fun ac S => ?_)
          refine Sx.done (κ27 _ _ ?_)
          refine Vp.rt ?_
          have p0 := hc8
          have p1 := hc13
          have p2 := hc18
          have p3 := hc23
          refine Sx.ret1 S Tryz.results166 ?_
          exact ⟨ret_bool (by unfold PaintD.has34; simp only [p0, p1, p2, p3, cond_false]), S.E⟩
def PaintD.valid34 (p : PaintD) : Bool := (p.t.q.valid && p.has34) && ((p.kind == 1) || ((qcmp p.t.q.det q0) != 0))
theorem v34_no {p : PaintD} (h : ((!(p.t.q.valid)) || (!(p.has34))) = true) : false = p.valid34 := by
  unfold PaintD.valid34
  cases hv : p.t.q.valid <;> cases hh : p.has34 <;> simp [hv, hh] at h ⊢
theorem v34_yes {p : PaintD} (h : ((!(p.t.q.valid)) || (!(p.has34))) = false) : (p.t.q.valid && p.has34) = true := by
  cases hv : p.t.q.valid <;> cases hh : p.has34 <;> simp [hv, hh] at h ⊢
theorem r34Valid_any {w : World} {p : PaintD} (h : p.ok w) (hq : IsAffQ K w p.t.v p.t.q) (hK1 : 1 ≤ K) (hK : K ≤ 10000) :
    Calls Tryz.prog 137 #[p.v] w fun e w' => e = .returned (.bool p.valid34) ∧ Ext w w' := by
  skip
  refine Sx.enter Tryz.func137 Tryz.ntmps137 (fun ac S => ?_)
  refine Sx.seqP (fun _ κ1 => ?_)
  refine Sx.newp S 1 p.cells (fun ac u b2 E3 hb4 S => ?_)
  refine Sx.run S 1 [] [(2, .bool false)] (fun ac S => ?_)
  refine Sx.done (κ1 _ _ ?_)
  refine wp_seq_k (fun _ κ5 => ?_)
  refine Sx.seqP (fun _ κ6 => ?_)
  refine Sx.run S 2 [.mem 0 16] [(4, p.t.v)] (fun ac S => ?_)
  refine Sx.callv S 5 (refAffValid_q p.t.v p.t.q K _ (hq.belowQ S.E) hK1 (by omega)) (fun ac u E7 S => ?_)
  refine Sx.runC S 6 [.mem 0 0] [(_, _, (!(!p.t.q.valid)), .bool p.has34)] [(11, .bool ((!p.t.q.valid) || (!p.has34)))] ⟨fun u hC g => r34has_any (K := K) (h.below (Ext.trans' S.E hC)) (hq.belowQ (Ext.trans' S.E hC)) hK1 hK, trivial⟩ (fun ac u E8 S => ?_)
  refine Sx.done (κ6 _ _ ?_)
  refine Sx.cond S (fun hc9 => ?_) (fun hc9 => ?_)
  · refine Sx.seqP (fun _ κ10 => ?_)
    refine Sx.run S 1 [] [(2, .bool false)] (fun ac S => ?_)
    refine Sx.done (κ10 _ _ ?_)
    refine Vp.rt ?_
    have p0 := hc9
    refine Sx.ret1 S Tryz.results137 ?_
    exact ⟨ret_bool (v34_no p0), S.E⟩
  · refine wp_skip ?_
    refine κ5 _ _ ?_
    refine Sx.seqP (fun _ κ11 => ?_)
    cases hk : (p.kind == 1)
    · refine Sx.run S 6 [.mem 0 0, .re 14 (.bool ((p.kind) == 1)) (.bool false), .mem 0 16] [(15, .bool false), (17, p.t.v)] (fun ac S => ?_) (hk := ⟨congrArg Value.bool hk, trivial⟩)
      refine Sx.callGG S (some 18) (refDet_q p.t.v p.t.q K _ (hq.belowQ S.E) hK1 hK) ?_
      rintro e u ⟨y, rfl, hd, E12⟩
      refine ⟨_, rfl, E12, fun ac S => ?_⟩
      refine Sx.callGG S (some 19) (refRatFromInt_any 0 _ (by decide)) ?_
      rintro e u ⟨z, rfl, hz, E13⟩
      refine ⟨_, rfl, E13, fun ac S => ?_⟩
      refine Sx.callGG S (some 20) (refCmp_q _ _ p.t.q.det q0 (K + K + (K + K) + 1) 1 _ (IsRatN.toQ (hd.ext E13) (det_nrm _) (det_len hK1 (AffR.len6 hq hK1))) (IsRatN.toQ (q := q0) hz q0_nrm q0_len) (by omega) (by omega) (by omega) (by omega)) ?_
      rintro e u ⟨rfl, E14⟩
      refine ⟨_, rfl, E14, fun ac S => ?_⟩
      refine Sx.run S 3 [] [(2, .bool (((qcmp p.t.q.det q0)) != 0))] (fun ac S => ?_)
      refine Sx.done (κ11 _ _ ?_)
      refine Vp.rt ?_
      have p0 := hc9
      refine Sx.ret1 S Tryz.results137 ?_
      exact ⟨ret_bool (by unfold PaintD.valid34; rw [v34_yes p0, hk]; rfl), S.E⟩
    · refine Sx.run S 12 [.mem 0 0, .re 14 (.bool ((p.kind) == 1)) (.bool true), .dead 16 (.bool false), .dead 17 (.bool false), .dead 18 (.bool false), .dead 19 (.bool false), .dead 20 (.bool false), .dead 21 (.bool false)] [(2, .bool true)] (fun ac S => ?_) (hk := ⟨congrArg Value.bool hk, trivial⟩)
      refine Sx.done (κ11 _ _ ?_)
      refine Vp.rt ?_
      have p0 := hc9
      refine Sx.ret1 S Tryz.results137 ?_
      exact ⟨ret_bool (by unfold PaintD.valid34; rw [v34_yes p0, hk]; rfl), S.E⟩
end Go.Proofs.YtcohmdeoocgmdaaGreatDoor
