/- Walks of package node: the law's own functions. -/
import Derived.Test.YtcohmdeoocgmdaaGreatDoorNode
import Derived.Test.YtcohmdeoocgmdaaGreatDoorVpC
set_option maxHeartbeats 3200000
set_option maxRecDepth 100000
namespace Go.Proofs.YtcohmdeoocgmdaaGreatDoor
open Go.RowKit
variable {α : Type} {K : Nat}
set_option linter.unusedVariables false
def AffD.short (t : AffD) : Bool := cond ((decide (20 < ((t.a.l1.length : Nat) : Int))) || (decide (20 < ((t.a.l2.length : Nat) : Int)))) (false) (cond ((decide (20 < ((t.b.l1.length : Nat) : Int))) || (decide (20 < ((t.b.l2.length : Nat) : Int)))) (false) (cond ((decide (20 < ((t.c.l1.length : Nat) : Int))) || (decide (20 < ((t.c.l2.length : Nat) : Int)))) (false) (cond ((decide (20 < ((t.d.l1.length : Nat) : Int))) || (decide (20 < ((t.d.l2.length : Nat) : Int)))) (false) (cond ((decide (20 < ((t.e.l1.length : Nat) : Int))) || (decide (20 < ((t.e.l2.length : Nat) : Int)))) (false) (cond ((decide (20 < ((t.f.l1.length : Nat) : Int))) || (decide (20 < ((t.f.l2.length : Nat) : Int)))) (false) (true))))))
theorem affShort_any {w : World} {t : AffD} (h : t.ok w) :
  Calls Tryz.prog 13 #[t.v] w fun e w' => e = .returned (.bool t.short) ∧ Ext w w' := by
 obtain ⟨t0, t1, t2, t3, t4, t5⟩ := h
 obtain ⟨p0, c0, e0, -⟩ := t0.1
 obtain ⟨q0, d0, f0, -⟩ := t0.2
 obtain ⟨p1, c1, e1, -⟩ := t1.1
 obtain ⟨q1, d1, f1, -⟩ := t1.2
 obtain ⟨p2, c2, e2, -⟩ := t2.1
 obtain ⟨q2, d2, f2, -⟩ := t2.2
 obtain ⟨p3, c3, e3, -⟩ := t3.1
 obtain ⟨q3, d3, f3, -⟩ := t3.2
 obtain ⟨p4, c4, e4, -⟩ := t4.1
 obtain ⟨q4, d4, f4, -⟩ := t4.2
 obtain ⟨p5, c5, e5, -⟩ := t5.1
 obtain ⟨q5, d5, f5, -⟩ := t5.2
 refine Sx.enter Tryz.func13 Tryz.ntmps13 fun ac S => Sx.seqP fun _ κ1 => Sx.newp S 1 t.cells fun ac u b2 E3 hb4 S => Sx.run S 1 [] [(2, .bool false)] fun ac S => Sx.done <| κ1 _ _ <| Sx.seqP fun _ κ5 => Sx.run S 12 [.mem 0 0, .mem 0 4, .mem 0 8, .mem 0 12, .mem 0 16, .mem 0 20] [(6, t.a.v), (8, t.b.v), (10, t.c.v), (12, t.d.v), (14, t.e.v), (16, t.f.v)] fun ac S => Sx.news S 17 6 t.cells fun ac u b6 E7 hb8 S => Sx.run S 1 [] [(3, .slice (some ⟨b6, 0, none⟩) 6 6)] fun ac S => Sx.done <| κ5 _ _ <| wp_seq_k fun _ κ9 => Sx.seqP fun _ κ10 => Sx.run S 3 [] [(19, .int .i64 6), (20, .int .i64 0)] fun ac S => Sx.done <| κ10 _ _ <| wp_block <| wp_loop_rounds 7 ?_
 rw [rounds_succ]
 refine Sx.seqP fun _ κ11 => Sx.run S 1 [] [(21, .bool true)] fun ac S => Sx.done <| κ11 _ _ <| wp_seq_k fun _ κ12 => Sx.condT S <| wp_skip <| κ12 _ _ <| wp_seq_k fun _ κ13 => wp_block <| Sx.seqP fun _ κ14 => Sx.run S 2 [] [(4, .int .i64 0)] fun ac S => Sx.done <| κ14 _ _ <| Sx.seqP fun _ κ15 => Sx.run S 18 [.mem 0 1, .mem 0 3] [(40, .bool ((decide (20 < ((t.a.l1.length : Nat) : Int))) || (decide (20 < ((t.a.l2.length : Nat) : Int)))))] fun ac S => Sx.done (κ15 _ _ ?_)
 refine Sx.cond S (fun hc16 => ?_) (fun hc16 => ?_)
 ·refine Sx.seqP fun _ κ17 => Sx.run S 1 [] [(2, .bool false)] fun ac S => Sx.done <| κ17 _ _ <| Vp.rt ?_
  refine Sx.ret1 S Tryz.results13 ?_
  exact ⟨ret_bool (by unfold AffD.short; rw [hc16]; rfl), S.E⟩
 ·refine wp_skip <| κ13 _ _ <| Vp.region <| Sx.run S 2 [] [(20, .int .i64 1)] fun ac S => Sx.done ?_
  show Code.rounds _ _ _ 6 _ _
  rw [rounds_succ]
  refine Sx.seqP fun _ κ18 => Sx.run S 1 [] [(21, .bool true)] fun ac S => Sx.done <| κ18 _ _ <| wp_seq_k fun _ κ19 => Sx.condT S <| wp_skip <| κ19 _ _ <| wp_seq_k fun _ κ20 => wp_block <| Sx.seqP fun _ κ21 => Sx.run S 2 [] [(4, .int .i64 1)] fun ac S => Sx.done <| κ21 _ _ <| Sx.seqP fun _ κ22 => Sx.run S 18 [.mem 0 5, .mem 0 7] [(40, .bool ((decide (20 < ((t.b.l1.length : Nat) : Int))) || (decide (20 < ((t.b.l2.length : Nat) : Int)))))] fun ac S => Sx.done (κ22 _ _ ?_)
  refine Sx.cond S (fun hc23 => ?_) (fun hc23 => ?_)
  ·refine Sx.seqP fun _ κ24 => Sx.run S 1 [] [(2, .bool false)] fun ac S => Sx.done <| κ24 _ _ <| Vp.rt ?_
   refine Sx.ret1 S Tryz.results13 ?_
   exact ⟨ret_bool (by unfold AffD.short; rw [hc16, hc23]; rfl), S.E⟩
  ·refine wp_skip <| κ20 _ _ <| Vp.region <| Sx.run S 2 [] [(20, .int .i64 2)] fun ac S => Sx.done ?_
   show Code.rounds _ _ _ 5 _ _
   rw [rounds_succ]
   refine Sx.seqP fun _ κ25 => Sx.run S 1 [] [(21, .bool true)] fun ac S => Sx.done <| κ25 _ _ <| wp_seq_k fun _ κ26 => Sx.condT S <| wp_skip <| κ26 _ _ <| wp_seq_k fun _ κ27 => wp_block <| Sx.seqP fun _ κ28 => Sx.run S 2 [] [(4, .int .i64 2)] fun ac S => Sx.done <| κ28 _ _ <| Sx.seqP fun _ κ29 => Sx.run S 18 [.mem 0 9, .mem 0 11] [(40, .bool ((decide (20 < ((t.c.l1.length : Nat) : Int))) || (decide (20 < ((t.c.l2.length : Nat) : Int)))))] fun ac S => Sx.done (κ29 _ _ ?_)
   refine Sx.cond S (fun hc30 => ?_) (fun hc30 => ?_)
   ·refine Sx.seqP fun _ κ31 => Sx.run S 1 [] [(2, .bool false)] fun ac S => Sx.done <| κ31 _ _ <| Vp.rt ?_
    refine Sx.ret1 S Tryz.results13 ?_
    exact ⟨ret_bool (by unfold AffD.short; rw [hc16, hc23, hc30]; rfl), S.E⟩
   ·refine wp_skip <| κ27 _ _ <| Vp.region <| Sx.run S 2 [] [(20, .int .i64 3)] fun ac S => Sx.done ?_
    show Code.rounds _ _ _ 4 _ _
    rw [rounds_succ]
    refine Sx.seqP fun _ κ32 => Sx.run S 1 [] [(21, .bool true)] fun ac S => Sx.done <| κ32 _ _ <| wp_seq_k fun _ κ33 => Sx.condT S <| wp_skip <| κ33 _ _ <| wp_seq_k fun _ κ34 => wp_block <| Sx.seqP fun _ κ35 => Sx.run S 2 [] [(4, .int .i64 3)] fun ac S => Sx.done <| κ35 _ _ <| Sx.seqP fun _ κ36 => Sx.run S 18 [.mem 0 13, .mem 0 15] [(40, .bool ((decide (20 < ((t.d.l1.length : Nat) : Int))) || (decide (20 < ((t.d.l2.length : Nat) : Int)))))] fun ac S => Sx.done (κ36 _ _ ?_)
    refine Sx.cond S (fun hc37 => ?_) (fun hc37 => ?_)
    ·refine Sx.seqP fun _ κ38 => Sx.run S 1 [] [(2, .bool false)] fun ac S => Sx.done <| κ38 _ _ <| Vp.rt ?_
     refine Sx.ret1 S Tryz.results13 ?_
     exact ⟨ret_bool (by unfold AffD.short; rw [hc16, hc23, hc30, hc37]; rfl), S.E⟩
    ·refine wp_skip <| κ34 _ _ <| Vp.region <| Sx.run S 2 [] [(20, .int .i64 4)] fun ac S => Sx.done ?_
     show Code.rounds _ _ _ 3 _ _
     rw [rounds_succ]
     refine Sx.seqP fun _ κ39 => Sx.run S 1 [] [(21, .bool true)] fun ac S => Sx.done <| κ39 _ _ <| wp_seq_k fun _ κ40 => Sx.condT S <| wp_skip <| κ40 _ _ <| wp_seq_k fun _ κ41 => wp_block <| Sx.seqP fun _ κ42 => Sx.run S 2 [] [(4, .int .i64 4)] fun ac S => Sx.done <| κ42 _ _ <| Sx.seqP fun _ κ43 => Sx.run S 18 [.mem 0 17, .mem 0 19] [(40, .bool ((decide (20 < ((t.e.l1.length : Nat) : Int))) || (decide (20 < ((t.e.l2.length : Nat) : Int)))))] fun ac S => Sx.done (κ43 _ _ ?_)
     refine Sx.cond S (fun hc44 => ?_) (fun hc44 => ?_)
     ·refine Sx.seqP fun _ κ45 => Sx.run S 1 [] [(2, .bool false)] fun ac S => Sx.done <| κ45 _ _ <| Vp.rt ?_
      refine Sx.ret1 S Tryz.results13 ?_
      exact ⟨ret_bool (by unfold AffD.short; rw [hc16, hc23, hc30, hc37, hc44]; rfl), S.E⟩
     ·refine wp_skip <| κ41 _ _ <| Vp.region <| Sx.run S 2 [] [(20, .int .i64 5)] fun ac S => Sx.done ?_
      show Code.rounds _ _ _ 2 _ _
      rw [rounds_succ]
      refine Sx.seqP fun _ κ46 => Sx.run S 1 [] [(21, .bool true)] fun ac S => Sx.done <| κ46 _ _ <| wp_seq_k fun _ κ47 => Sx.condT S <| wp_skip <| κ47 _ _ <| wp_seq_k fun _ κ48 => wp_block <| Sx.seqP fun _ κ49 => Sx.run S 2 [] [(4, .int .i64 5)] fun ac S => Sx.done <| κ49 _ _ <| Sx.seqP fun _ κ50 => Sx.run S 18 [.mem 0 21, .mem 0 23] [(40, .bool ((decide (20 < ((t.f.l1.length : Nat) : Int))) || (decide (20 < ((t.f.l2.length : Nat) : Int)))))] fun ac S => Sx.done (κ50 _ _ ?_)
      refine Sx.cond S (fun hc51 => ?_) (fun hc51 => ?_)
      ·refine Sx.seqP fun _ κ52 => Sx.run S 1 [] [(2, .bool false)] fun ac S => Sx.done <| κ52 _ _ <| Vp.rt ?_
       refine Sx.ret1 S Tryz.results13 ?_
       exact ⟨ret_bool (by unfold AffD.short; rw [hc16, hc23, hc30, hc37, hc44, hc51]; rfl), S.E⟩
      ·refine wp_skip <| κ48 _ _ <| Vp.region <| Sx.run S 2 [] [(20, .int .i64 6)] fun ac S => Sx.done ?_
       show Code.rounds _ _ _ 1 _ _
       rw [rounds_succ]
       refine Sx.seqP fun _ κ53 => Sx.run S 1 [] [(21, .bool false)] fun ac S => Sx.done <| κ53 _ _ <| wp_seq_k fun _ κ54 => Sx.condF S <| wp_exit <| κ9 _ _ <| Sx.seqP fun _ κ55 => Sx.run S 1 [] [(2, .bool true)] fun ac S => Sx.done <| κ55 _ _ <| Vp.rt ?_
       refine Sx.ret1 S Tryz.results13 ?_
       exact ⟨ret_bool (by unfold AffD.short; rw [hc16, hc23, hc30, hc37, hc44, hc51]; rfl), S.E⟩
end Go.Proofs.YtcohmdeoocgmdaaGreatDoor
namespace Go.Proofs.YtcohmdeoocgmdaaGreatDoor
open Go.RowKit
variable {α : Type} {K : Nat}
set_option linter.unusedVariables false
def PaintD.small (p : PaintD) : Bool := !(((decide (100 < ((p.stops.length : Nat) : Int))) || (decide (1000 < ((p.img.l.length : Nat) : Int)))) || (!(p.t.short)))
def paintsSmall (l : List PaintD) : Bool := l.all PaintD.small && decide (((l.length : Nat) : Int) ≤ 5)
theorem smallP_end {l : List PaintD} {k : Nat} (hk : l.length ≤ k) (hR : (l.take k).all PaintD.small = true) : decide (((l.length : Nat) : Int) ≤ 5) = paintsSmall l := by
 unfold paintsSmall; rw [all_of_take hk hR]; rfl
theorem smallP_bad {l : List PaintD} {k : Nat} (hk : k < l.length) (h : (((decide (100 < ((l[k].stops.length : Nat) : Int))) || (decide (1000 < ((l[k].img.l.length : Nat) : Int)))) || (!(l[k].t.short))) = true) : false = paintsSmall l := by
 unfold paintsSmall; rw [not_all hk (by unfold PaintD.small; rw [h]; rfl)]; rfl
theorem smallP_ok {p : PaintD} (h : (((decide (100 < ((p.stops.length : Nat) : Int))) || (decide (1000 < ((p.img.l.length : Nat) : Int)))) || (!(p.t.short))) = false) : p.small = true := by
 unfold PaintD.small; rw [h]; rfl
theorem smallPaints_any {w : World} {v : Value} {l : List PaintD} (h : IsPaints w v l) :
  Calls Tryz.prog 29 #[v] w fun e w' => e = .returned (.bool (paintsSmall l)) ∧ Ext w w' := by
 obtain ⟨a, cap, rfl⟩ := h.1.shape
 have hmax : l.length ≤ 9223372036854775807 := h.1.len
 refine Sx.enter Tryz.func29 Tryz.ntmps29 fun ac S => Sx.seqP fun _ κ1 => Sx.run S 1 [] [(2, .bool false)] fun ac S => Sx.done <| κ1 _ _ <| wp_seq_k fun _ κ2 => Sx.seqP fun _ κ3 => Sx.run S 3 [] [(5, .int .i64 ((l.length : Nat) : Int)), (6, .int .i64 0)] fun ac S => Sx.done <| κ3 _ _ <| wp_block ?_
 refine Vp.loop (ι := Nat) (fun p a' w' => p ≤ l.length ∧ ((l.take p).all PaintD.small = true) ∧ Sx.St w a' w' 39 [(0, .slice a l.length cap), (2, .bool false), (5, .int .i64 ((l.length : Nat) : Int)), (6, .int .i64 ((p : Nat) : Int))] [] []) (fun p => l.length - p) (0) ⟨Nat.zero_le _, rfl, (S.sub [(0, .slice a l.length cap), (2, .bool false), (5, .int .i64 ((l.length : Nat) : Int)), (6, .int .i64 ((0 : Nat) : Int))]).noviews⟩ ?_
 rintro k ac u hI
 try dsimp only at hI
 obtain ⟨hk, hR, S⟩ := hI
 refine Sx.seqP fun _ κ4 => Sx.run S 1 [] [(7, .bool (decide (((k : Nat) : Int) < ((l.length : Nat) : Int))))] fun ac S => Sx.done <| κ4 _ _ <| wp_seq_k (fun _ κ5 => ?_)
 refine Sx.cond S (fun hc6 => ?_) (fun hc6 => ?_)
 ·refine wp_skip <| κ5 _ _ <| wp_seq_k fun _ κ7 => wp_block <| Sx.seqP fun _ κ8 => Sx.run S 2 [] [(3, .int .i64 ((k : Nat) : Int))] fun ac S => Sx.done <| κ8 _ _ <| Sx.seqP (fun _ κ9 => ?_)
  have lt15 : k < l.length := by have := of_decide_eq_true hc6; omega
  obtain ⟨b10, o11, c12, hv, hb17, hr13⟩ := Vp.rowN_range2 h.1 (fun _ => rfl) (k) lt15
  simp only [Value.slice.injEq, true_and] at hv
  obtain ⟨rfl, rfl⟩ := hv
  obtain ⟨x16, hx14⟩ : ∃ z, l[k] = z := ⟨_, rfl⟩
  rw [hx14] at hr13
  have hpo := h.2 _ (hx14 ▸ List.getElem_mem lt15)
  obtain ⟨r1, r2, er1⟩ := hpo.2.2.2.2.1.shape
  obtain ⟨r3, r4, er2⟩ := hpo.2.2.2.2.2.2.2.1.2.2.shape
  have S := S.view0 hb17 hr13
  refine Sx.runC S 26 [.idx k l.length, .mem 0 10, .idx k l.length, .mem 0 14, .idx k l.length, .mem 0 16] [(_, _, (!((decide (100 < ((x16.stops.length : Nat) : Int))) || (decide (1000 < ((x16.img.l.length : Nat) : Int))))), .bool (x16.t.short))] [(34, .bool (((decide (100 < ((x16.stops.length : Nat) : Int))) || (decide (1000 < ((x16.img.l.length : Nat) : Int)))) || (!(x16.t.short))))] ⟨fun u hC g => affShort_any (hpo.2.2.2.2.2.2.2.2.2.below (Ext.trans' S.E hC)), trivial⟩ (hk := ⟨lt15, lt15, lt15, trivial⟩) fun ac u E18 S => Sx.done (κ9 _ _ ?_)
  refine Sx.cond S (fun hc19 => ?_) (fun hc19 => ?_)
  ·refine Sx.seqP fun _ κ20 => Sx.run S 1 [] [(2, .bool false)] fun ac S => Sx.done <| κ20 _ _ <| Vp.rt ?_
   refine Sx.ret1 S Tryz.results29 ?_
   exact ⟨ret_bool (smallP_bad lt15 (by rw [hx14]; exact hc19)), S.E⟩
  ·refine wp_skip <| κ7 _ _ <| Vp.region <| Sx.run S 2 [.re 35 (.int .i64 (IntKind.i64.wrap (((k : Nat) : Int) + 1))) (.int .i64 (((k + 1) : Nat) : Int))] [(6, .int .i64 (((k + 1) : Nat) : Int))] (hk := ⟨Sx.wrap_succ (by omega), trivial⟩) fun ac S => Sx.done ?_
   show ∃ i', _ ∧ _
   exact ⟨(k + 1), ⟨by omega, (all_take_succ lt15 hR (by rw [hx14]; exact smallP_ok hc19)), (S.sub [(0, .slice (some ⟨b10, o11, none⟩) l.length cap), (2, .bool false), (5, .int .i64 ((l.length : Nat) : Int)), (6, .int .i64 (((k + 1) : Nat) : Int))]).noviews⟩, by show _ - _ < _ - _; omega⟩
 ·refine wp_exit <| κ2 _ _ <| Sx.seqP fun _ κ21 => Sx.run S 4 [] [(2, .bool (decide (((l.length : Nat) : Int) ≤ 5)))] fun ac S => Sx.done <| κ21 _ _ <| Vp.rt ?_
  refine Sx.ret1 S Tryz.results29 ?_
  exact ⟨ret_bool (smallP_end (by have := of_decide_eq_false hc6; omega) hR), S.E⟩
end Go.Proofs.YtcohmdeoocgmdaaGreatDoor
namespace Go.Proofs.YtcohmdeoocgmdaaGreatDoor
open Go.RowKit
variable {α : Type} {K : Nat}
set_option linter.unusedVariables false
def NodeD.small (nd : NodeD) : Bool := ((((((nd.t.short) && (decide (((nd.clip.length : Nat) : Int) ≤ 300))) && (decide (((nd.path.length : Nat) : Int) ≤ 300))) && (paintsSmall nd.fill)) && (paintsSmall nd.stroke)) && (decide (((nd.style.dash.length : Nat) : Int) ≤ 100))) && (decide (((nd.img.l.length : Nat) : Int) ≤ 1000))
theorem small_any {w : World} {nd : NodeD} (h : nd.ok w) :
  Calls Tryz.prog 9 #[nd.v] w fun e w' => e = .returned (.bool nd.small) ∧ Ext w w' := by
 obtain ⟨a1, c1, ecs⟩ := h.2.2.2.2.1.1.shape
 obtain ⟨a2, c2, eps⟩ := h.2.2.2.2.2.2.2.1.1.shape
 obtain ⟨a3, c3, efs⟩ := h.2.2.2.2.2.2.2.2.2.1.1.shape
 obtain ⟨a4, c4, ess⟩ := h.2.2.2.2.2.2.2.2.2.2.2.1.1.shape
 obtain ⟨a5, c5, est, -⟩ := h.2.2.2.2.2.2.2.2.2.2.1.2.2.2.2.1
 obtain ⟨a6, c6, eim⟩ := h.2.2.2.2.2.2.2.2.2.2.2.2.1.2.2.shape
 refine Sx.enter Tryz.func9 Tryz.ntmps9 fun ac S => Sx.seqP fun _ κ1 => Sx.newp S 1 nd.cells fun ac u b2 E3 hb4 S => Sx.run S 1 [] [(2, .bool false)] fun ac S => Sx.done <| κ1 _ _ <| Sx.seqP fun _ κ5 => Sx.run S 2 [.mem 0 3] [(4, nd.t.v)] fun ac S => Sx.callv S 5 (affShort_any (t := nd.t) (h.2.2.2.1.below S.E)) fun ac u E6 S => Sx.runC S 37 [.mem 0 27, .mem 0 33, .mem 0 35, .mem 0 42, .mem 0 40, .mem 0 45] [(_, _, (((nd.t.short) && (decide (((nd.clip.length : Nat) : Int) ≤ 300))) && (decide (((nd.path.length : Nat) : Int) ≤ 300))), .bool (paintsSmall nd.fill)), (_, _, ((((nd.t.short) && (decide (((nd.clip.length : Nat) : Int) ≤ 300))) && (decide (((nd.path.length : Nat) : Int) ≤ 300))) && (paintsSmall nd.fill)), .bool (paintsSmall nd.stroke))] [(2, .bool (((((((nd.t.short) && (decide (((nd.clip.length : Nat) : Int) ≤ 300))) && (decide (((nd.path.length : Nat) : Int) ≤ 300))) && (paintsSmall nd.fill)) && (paintsSmall nd.stroke)) && (decide (((nd.style.dash.length : Nat) : Int) ≤ 100))) && (decide (((nd.img.l.length : Nat) : Int) ≤ 1000))))] ⟨fun u hC g => smallPaints_any (l := nd.fill) (h.2.2.2.2.2.2.2.2.2.1.below (Ext.trans' S.E hC)), fun u hC g => smallPaints_any (l := nd.stroke) (h.2.2.2.2.2.2.2.2.2.2.2.1.below (Ext.trans' S.E hC)), trivial⟩ fun ac u E7 S => Sx.done <| κ5 _ _ <| Vp.rt ?_
 refine Sx.ret1 S Tryz.results9 ?_
 exact ⟨rfl, S.E⟩
end Go.Proofs.YtcohmdeoocgmdaaGreatDoor
namespace Go.Proofs.YtcohmdeoocgmdaaGreatDoor
open Go.RowKit
variable {α : Type} {K : Nat}
set_option linter.unusedVariables false
theorem cond_ff : ∀ {a b : Bool}, cond a false b = true → a = false ∧ b = true := by decide
theorem fit_of {r : RatD} (h : ((decide (20 < ((r.l1.length : Nat) : Int))) || (decide (20 < ((r.l2.length : Nat) : Int)))) = false) : r.fit 20 := by
 simp only [Bool.or_eq_false_iff, decide_eq_false_iff_not] at h
 exact ⟨by omega, by omega⟩
theorem AffD.short_fit {t : AffD} (h : t.short = true) : t.fit 20 := by
 unfold AffD.short at h
 obtain ⟨h0, h⟩ := cond_ff h
 obtain ⟨h1, h⟩ := cond_ff h
 obtain ⟨h2, h⟩ := cond_ff h
 obtain ⟨h3, h⟩ := cond_ff h
 obtain ⟨h4, h⟩ := cond_ff h
 obtain ⟨h5, h⟩ := cond_ff h
 exact ⟨fit_of h0, fit_of h1, fit_of h2, fit_of h3, fit_of h4, fit_of h5⟩
theorem paints_fit {l : List PaintD} (h : paintsSmall l = true) : ∀ p ∈ l, p.t.fit 20 := by
 unfold paintsSmall at h
 rw [Bool.and_eq_true, List.all_eq_true] at h
 intro p hp
 have h1 := h.1 p hp
 unfold PaintD.small at h1
 simp only [Bool.not_eq_true', Bool.or_eq_false_iff, Bool.not_eq_false'] at h1
 exact AffD.short_fit h1.2
theorem NodeD.small_ok {w : World} {nd : NodeD} (h : nd.small = true) (ho : nd.ok w) : NodeOk 20 w nd := by
 unfold NodeD.small at h
 simp only [Bool.and_eq_true] at h
 exact ⟨ho, AffD.short_fit h.1.1.1.1.1.1, paints_fit h.1.1.1.2, paints_fit h.1.1.2, by decide, by decide⟩
end Go.Proofs.YtcohmdeoocgmdaaGreatDoor
