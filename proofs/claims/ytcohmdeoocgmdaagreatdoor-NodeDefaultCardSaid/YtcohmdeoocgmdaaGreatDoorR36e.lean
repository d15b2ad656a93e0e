/- Reference 36: Check. -/
import Derived.Test.YtcohmdeoocgmdaaGreatDoorV34
set_option maxHeartbeats 3200000
set_option maxRecDepth 100000
namespace Go.Proofs.YtcohmdeoocgmdaaGreatDoor
open Go.RowKit
variable {α : Type} {K : Nat}
set_option linter.unusedVariables false
theorem none_nrm6 : Nrm6 AffD.none.q := (AffD.toQ (w := default) (AffD.none_ok _) (AffD.none_fit 1)).nrm
theorem r36paints_any {w : World} {v : Value} {l : List PaintD} (h : IsPaints w v l) (hf : ∀ p ∈ l, p.t.fit K) (hK1 : 1 ≤ K) (hK : K ≤ 10000) :
    Calls Tryz.prog 96 #[v] w fun e w' => e = .returned (.bool (l.all PaintD.valid)) ∧ Ext w w' := by
  obtain ⟨a, cap, rfl⟩ := h.1.shape
  have hmax : l.length ≤ 9223372036854775807 := h.1.len
  refine Sx.enter Tryz.func96 Tryz.ntmps96 (fun ac S => ?_)
  refine Sx.seqP (fun _ κ1 => ?_)
  refine Sx.run S 1 [] [(2, .bool false)] (fun ac S => ?_)
  refine Sx.done (κ1 _ _ ?_)
  refine wp_seq_k (fun _ κ2 => ?_)
  refine Sx.seqP (fun _ κ3 => ?_)
  refine Sx.run S 1 [] [(3, .int .i64 0)] (fun ac S => ?_)
  refine Sx.done (κ3 _ _ ?_)
  refine wp_block ?_
  refine Vp.loop (ι := Nat) (fun p a' w' => p ≤ l.length ∧ ((l.take p).all PaintD.valid = true) ∧ Sx.St w a' w' 16 [(0, .slice a l.length cap), (2, .bool false), (3, .int .i64 ((p : Nat) : Int))] [] []) (fun p => l.length - p) (0) ⟨Nat.zero_le _, rfl, (S.sub [(0, .slice a l.length cap), (2, .bool false), (3, .int .i64 ((0 : Nat) : Int))]).noviews⟩ ?_
  rintro k ac u hI
  try dsimp only at hI
  obtain ⟨hk, hR, S⟩ := hI
  refine wp_seq_k (fun _ κ4 => ?_)
  refine Sx.seqP (fun _ κ5 => ?_)
  refine Sx.run S 4 [] [(7, .bool (decide (((k : Nat) : Int) < ((l.length : Nat) : Int))))] (fun ac S => ?_)
  refine Sx.done (κ5 _ _ ?_)
  refine Sx.cond S (fun hc6 => ?_) (fun hc6 => ?_)
  · refine wp_skip ?_
    refine κ4 _ _ ?_
    refine wp_seq_k (fun _ κ7 => ?_)
    refine wp_block ?_
    refine Sx.seqP (fun _ κ8 => ?_)
    have lt14 : k < l.length := by have := of_decide_eq_true hc6; omega
    obtain ⟨b9, o10, c11, hv, hb16, hr12⟩ := Vp.rowN_range2 h.1 (fun _ => rfl) (k) lt14
    simp only [Value.slice.injEq, true_and] at hv
    obtain ⟨rfl, rfl⟩ := hv
    obtain ⟨x15, hx13⟩ : ∃ z, l[k] = z := ⟨_, rfl⟩
    rw [hx13] at hr12
    have hpo := h.2 _ (hx13 ▸ List.getElem_mem lt14)
    have hpq := AffD.toQ hpo.2.2.2.2.2.2.2.2.2 (hf _ (hx13 ▸ List.getElem_mem lt14))
    have S := S.view0 hb16 hr12
    refine Sx.run S 4 [.idx k l.length, .mem 0 0] [(13, x15.v)] (fun ac S => ?_) (hk := ⟨lt14, trivial⟩)
    refine Sx.callv S 14 (r34Valid_any (p := x15) (K := K) (hpo.below S.E) (hpq.belowQ S.E) hK1 hK) (fun ac u E17 S => ?_)
    refine Sx.run S 1 [] [(15, .bool (!x15.valid34))] (fun ac S => ?_)
    refine Sx.done (κ8 _ _ ?_)
    refine Sx.cond S (fun hc18 => ?_) (fun hc18 => ?_)
    · refine Sx.seqP (fun _ κ19 => ?_)
      refine Sx.run S 1 [] [(2, .bool false)] (fun ac S => ?_)
      refine Sx.done (κ19 _ _ ?_)
      refine Vp.rt ?_
      refine Sx.ret1 S Tryz.results96 ?_
      exact ⟨ret_bool (not_all lt14 (by rw [hx13, ← valid34_eq hpq.nrm none_nrm6]; simpa using hc18)).symm, S.E⟩
    · refine wp_skip ?_
      refine κ7 _ _ ?_
      refine Vp.region ?_
      refine Sx.run S 3 [.re 9 (.int .i64 (IntKind.i64.wrap (((k : Nat) : Int) + 1))) (.int .i64 (((k + 1) : Nat) : Int))] [(3, .int .i64 (((k + 1) : Nat) : Int))] (fun ac S => ?_) (hk := ⟨Sx.wrap_succ (by omega), trivial⟩)
      refine Sx.done ?_
      show ∃ i', _ ∧ _
      exact ⟨(k + 1), ⟨by omega, (all_take_succ lt14 hR (by rw [hx13, ← valid34_eq hpq.nrm none_nrm6]; simpa using hc18)), (S.sub [(0, .slice (some ⟨b9, o10, none⟩) l.length cap), (2, .bool false), (3, .int .i64 (((k + 1) : Nat) : Int))]).noviews⟩, by show _ - _ < _ - _; omega⟩
  · refine wp_exit ?_
    refine κ2 _ _ ?_
    refine Sx.seqP (fun _ κ20 => ?_)
    refine Sx.run S 1 [] [(2, .bool true)] (fun ac S => ?_)
    refine Sx.done (κ20 _ _ ?_)
    refine Vp.rt ?_
    refine Sx.ret1 S Tryz.results96 ?_
    exact ⟨ret_bool (all_of_take (by have := of_decide_eq_false hc6; omega) hR).symm, S.E⟩
def NodeD.shape36 (nd : NodeD) : Int := cond (!(pathOk nd.path)) (10) (cond (!((nd.fillRule == 1) || (nd.fillRule == 2))) (2) (cond ((decide (1 < ((nd.fill.length : Nat) : Int))) || (decide (1 < ((nd.stroke.length : Nat) : Int)))) (5) (cond ((decide (0 < ((nd.stroke.length : Nat) : Int))) && (!nd.style.valid)) (13) (cond (((((nd.stroke.length : Nat) : Int)) == 0) && (!nd.noStyle)) (17) (cond ((!(nd.fill.all PaintD.valid)) || (!(nd.stroke.all PaintD.valid))) (16) (0))))))
theorem r36shape_any {w : World} {nd : NodeD} (h : NodeOk K w nd) :
    Calls Tryz.prog 43 #[nd.v] w fun e w' => e = .returned (.int .i64 nd.shape36) ∧ Ext w w' := by
  skip
  refine Sx.enter Tryz.func43 Tryz.ntmps43 (fun ac S => ?_)
  refine Sx.seqP (fun _ κ1 => ?_)
  refine Sx.newp S 1 nd.cells (fun ac u b2 E3 hb4 S => ?_)
  refine Sx.run S 1 [] [(2, .int .i64 0)] (fun ac S => ?_)
  refine Sx.done (κ1 _ _ ?_)
  refine wp_seq_k (fun _ κ5 => ?_)
  refine wp_block ?_
  refine Sx.seqP (fun _ κ6 => ?_)
  refine Sx.run S 2 [.mem 0 33] [(5, nd.ps)] (fun ac S => ?_)
  refine Sx.callv S 6 (r13Valid_any (l := nd.path) (h.1.2.2.2.2.2.2.2.1.below S.E)) (fun ac u E7 S => ?_)
  refine Sx.run S 2 [] [(3, .bool (!(pathOk nd.path)))] (fun ac S => ?_)
  refine Sx.done (κ6 _ _ ?_)
  refine Sx.cond S (fun hc8 => ?_) (fun hc8 => ?_)
  · refine Sx.seqP (fun _ κ9 => ?_)
    refine Sx.run S 1 [] [(2, .int .i64 10)] (fun ac S => ?_)
    refine Sx.done (κ9 _ _ ?_)
    refine Vp.rt ?_
    have p0 := hc8
    refine Sx.ret1 S Tryz.results43 ?_
    exact ⟨congrArg (fun z : Int => Ending.returned (.int .i64 z)) (by unfold NodeD.shape36; simp only [p0, cond_true]), S.E⟩
  · refine Sx.seqP (fun _ κ10 => ?_)
    refine Sx.run S 2 [.mem 0 34] [(10, .int .i64 nd.fillRule)] (fun ac S => ?_)
    refine Sx.calls S 11 (r36rule_any nd.fillRule _) (fun ac S => ?_)
    refine Sx.run S 2 [] [(8, .bool (!((nd.fillRule == 1) || (nd.fillRule == 2))))] (fun ac S => ?_)
    refine Sx.done (κ10 _ _ ?_)
    refine Sx.cond S (fun hc11 => ?_) (fun hc11 => ?_)
    · refine Sx.seqP (fun _ κ12 => ?_)
      refine Sx.run S 1 [] [(2, .int .i64 2)] (fun ac S => ?_)
      refine Sx.done (κ12 _ _ ?_)
      refine Vp.rt ?_
      have p0 := hc8
      have p1 := hc11
      refine Sx.ret1 S Tryz.results43 ?_
      exact ⟨congrArg (fun z : Int => Ending.returned (.int .i64 z)) (by unfold NodeD.shape36; simp only [p0, p1, cond_true, cond_false]), S.E⟩
    · refine Sx.seqP (fun _ κ13 => ?_)
      refine Sx.run S 11 [.mem 0 35, .mem 0 42] [(13, .bool ((decide (1 < ((nd.fill.length : Nat) : Int))) || (decide (1 < ((nd.stroke.length : Nat) : Int)))))] (fun ac S => ?_)
      refine Sx.done (κ13 _ _ ?_)
      refine Sx.cond S (fun hc14 => ?_) (fun hc14 => ?_)
      · refine Sx.seqP (fun _ κ15 => ?_)
        refine Sx.run S 1 [] [(2, .int .i64 5)] (fun ac S => ?_)
        refine Sx.done (κ15 _ _ ?_)
        refine Vp.rt ?_
        have p0 := hc8
        have p1 := hc11
        have p2 := hc14
        refine Sx.ret1 S Tryz.results43 ?_
        exact ⟨congrArg (fun z : Int => Ending.returned (.int .i64 z)) (by unfold NodeD.shape36; simp only [p0, p1, p2, cond_true, cond_false]), S.E⟩
      · refine Sx.seqP (fun _ κ16 => ?_)
        refine Sx.runC S 11 [.mem 0 42, .mem 0 36] [(_, _, (decide (0 < ((nd.stroke.length : Nat) : Int))), .bool nd.style.valid)] [(24, .bool ((decide (0 < ((nd.stroke.length : Nat) : Int))) && (!nd.style.valid)))] ⟨fun u hC g => r22style_any (p := nd.style) (h.1.2.2.2.2.2.2.2.2.2.2.1.below (Ext.trans' S.E hC)), trivial⟩ (fun ac u E17 S => ?_)
        refine Sx.done (κ16 _ _ ?_)
        refine Sx.cond S (fun hc18 => ?_) (fun hc18 => ?_)
        · refine Sx.seqP (fun _ κ19 => ?_)
          refine Sx.run S 1 [] [(2, .int .i64 13)] (fun ac S => ?_)
          refine Sx.done (κ19 _ _ ?_)
          refine Vp.rt ?_
          have p0 := hc8
          have p1 := hc11
          have p2 := hc14
          have p3 := hc18
          refine Sx.ret1 S Tryz.results43 ?_
          exact ⟨congrArg (fun z : Int => Ending.returned (.int .i64 z)) (by unfold NodeD.shape36; simp only [p0, p1, p2, p3, cond_true, cond_false]), S.E⟩
        · refine Sx.seqP (fun _ κ20 => ?_)
          refine Sx.runC S 10 [.mem 0 42, .mem 0 0] [(_, _, ((((nd.stroke.length : Nat) : Int)) == 0), .bool nd.noStyle)] [(35, .bool (((((nd.stroke.length : Nat) : Int)) == 0) && (!nd.noStyle)))] ⟨fun u hC g => r36noStyle_any (h.1.below (Ext.trans' S.E hC)), trivial⟩ (fun ac u E21 S => ?_)
          refine Sx.done (κ20 _ _ ?_)
          refine Sx.cond S (fun hc22 => ?_) (fun hc22 => ?_)
          · refine Sx.seqP (fun _ κ23 => ?_)
            refine Sx.run S 1 [] [(2, .int .i64 17)] (fun ac S => ?_)
            refine Sx.done (κ23 _ _ ?_)
            refine Vp.rt ?_
            have p0 := hc8
            have p1 := hc11
            have p2 := hc14
            have p3 := hc18
            have p4 := hc22
            refine Sx.ret1 S Tryz.results43 ?_
            exact ⟨congrArg (fun z : Int => Ending.returned (.int .i64 z)) (by unfold NodeD.shape36; simp only [p0, p1, p2, p3, p4, cond_true, cond_false]), S.E⟩
          · refine Sx.seqP (fun _ κ24 => ?_)
            refine Sx.run S 2 [.mem 0 35] [(47, nd.fs)] (fun ac S => ?_)
            refine Sx.callv S 48 (r36paints_any (l := nd.fill) (K := K) (h.1.2.2.2.2.2.2.2.2.2.1.below S.E) h.2.2.1 h.2.2.2.2.1 h.2.2.2.2.2) (fun ac u E25 S => ?_)
            refine Sx.runC S 8 [.mem 0 42] [(_, _, (!(!(nd.fill.all PaintD.valid))), .bool (nd.stroke.all PaintD.valid))] [(45, .bool ((!(nd.fill.all PaintD.valid)) || (!(nd.stroke.all PaintD.valid))))] ⟨fun u hC g => r36paints_any (l := nd.stroke) (K := K) (h.1.2.2.2.2.2.2.2.2.2.2.2.1.below (Ext.trans' S.E hC)) h.2.2.2.1 h.2.2.2.2.1 h.2.2.2.2.2, trivial⟩ (fun ac u E26 S => ?_)
            refine Sx.done (κ24 _ _ ?_)
            refine Sx.cond S (fun hc27 => ?_) (fun hc27 => ?_)
            · refine Sx.seqP (fun _ κ28 => ?_)
              refine Sx.run S 1 [] [(2, .int .i64 16)] (fun ac S => ?_)
              refine Sx.done (κ28 _ _ ?_)
              refine Vp.rt ?_
              have p0 := hc8
              have p1 := hc11
              have p2 := hc14
              have p3 := hc18
              have p4 := hc22
              have p5 := hc27
              refine Sx.ret1 S Tryz.results43 ?_
              exact ⟨congrArg (fun z : Int => Ending.returned (.int .i64 z)) (by unfold NodeD.shape36; simp only [p0, p1, p2, p3, p4, p5, cond_true, cond_false]), S.E⟩
            · refine wp_skip ?_
              refine κ5 _ _ ?_
              refine Sx.seqP (fun _ κ29 => ?_)
              refine Sx.run S 1 [] [(2, .int .i64 0)] (fun ac S => ?_)
              refine Sx.done (κ29 _ _ ?_)
              refine Vp.rt ?_
              have p0 := hc8
              have p1 := hc11
              have p2 := hc14
              have p3 := hc18
              have p4 := hc22
              have p5 := hc27
              refine Sx.ret1 S Tryz.results43 ?_
              exact ⟨congrArg (fun z : Int => Ending.returned (.int .i64 z)) (by unfold NodeD.shape36; simp only [p0, p1, p2, p3, p4, p5, cond_false]), S.E⟩
def NodeD.check36 (nd : NodeD) : Int := cond ((decide (nd.kind < 1)) || (decide (3 < nd.kind))) (2) (cond ((((decide (nd.id < 1)) || (decide (1073741824 < nd.id))) || (decide (nd.depth < 0))) || (decide (8 ≤ nd.depth))) (6) (cond (!nd.t.q.valid) (5) (cond (((qcmp nd.t.q.det q0)) == 0) (9) (cond (!(pathOk nd.clip)) (10) (cond (!nd.onlyOwn) (17) (cond ((nd.kind) == 2) (nd.shape36) (cond ((nd.kind) == 1) (cond (!(decide (1 ≤ nd.blend) && decide (nd.blend ≤ 13))) (2) (0)) (cond (!nd.img.valid) (16) (cond (((nd.samp) != 1) && ((nd.samp) != 2)) (2) (0))))))))))
theorem r36Check_any {w : World} {nd : NodeD} (h : NodeOk K w nd) :
    Calls Tryz.prog 18 #[nd.v] w fun e w' => e = .returned (.int .i64 nd.check36) ∧ Ext w w' := by
  skip
  refine Sx.enter Tryz.func18 Tryz.ntmps18 (fun ac S => ?_)
  refine Sx.seqP (fun _ κ1 => ?_)
  refine Sx.newp S 1 nd.cells (fun ac u b2 E3 hb4 S => ?_)
  refine Sx.run S 1 [] [(2, .int .i64 0)] (fun ac S => ?_)
  refine Sx.done (κ1 _ _ ?_)
  refine wp_seq_k (fun _ κ5 => ?_)
  refine wp_block ?_
  refine Sx.seqP (fun _ κ6 => ?_)
  refine Sx.run S 9 [.mem 0 1, .mem 0 1] [(3, .bool ((decide (nd.kind < 1)) || (decide (3 < nd.kind))))] (fun ac S => ?_)
  refine Sx.done (κ6 _ _ ?_)
  refine Sx.cond S (fun hc7 => ?_) (fun hc7 => ?_)
  · refine Sx.seqP (fun _ κ8 => ?_)
    refine Sx.run S 1 [] [(2, .int .i64 2)] (fun ac S => ?_)
    refine Sx.done (κ8 _ _ ?_)
    refine Vp.rt ?_
    have p0 := hc7
    refine Sx.ret1 S Tryz.results18 ?_
    exact ⟨congrArg (fun z : Int => Ending.returned (.int .i64 z)) (by unfold NodeD.check36; simp only [p0, cond_true]), S.E⟩
  · refine Sx.seqP (fun _ κ9 => ?_)
    refine Sx.run S 19 [.mem 0 0, .mem 0 0, .mem 0 2, .mem 0 2] [(12, .bool ((((decide (nd.id < 1)) || (decide (1073741824 < nd.id))) || (decide (nd.depth < 0))) || (decide (8 ≤ nd.depth))))] (fun ac S => ?_)
    refine Sx.done (κ9 _ _ ?_)
    refine Sx.cond S (fun hc10 => ?_) (fun hc10 => ?_)
    · refine Sx.seqP (fun _ κ11 => ?_)
      refine Sx.run S 1 [] [(2, .int .i64 6)] (fun ac S => ?_)
      refine Sx.done (κ11 _ _ ?_)
      refine Vp.rt ?_
      have p0 := hc7
      have p1 := hc10
      refine Sx.ret1 S Tryz.results18 ?_
      exact ⟨congrArg (fun z : Int => Ending.returned (.int .i64 z)) (by unfold NodeD.check36; simp only [p0, p1, cond_true, cond_false]), S.E⟩
    · refine Sx.seqP (fun _ κ12 => ?_)
      refine Sx.run S 2 [.mem 0 3] [(33, nd.t.v)] (fun ac S => ?_)
      refine Sx.callv S 34 (refAffValid_q nd.t.v nd.t.q K _ ((AffD.toQ h.1.2.2.2.1 h.2.1).belowQ S.E) h.2.2.2.2.1 (by have := h.2.2.2.2.2; omega)) (fun ac u E13 S => ?_)
      refine Sx.run S 2 [] [(31, .bool (!nd.t.q.valid))] (fun ac S => ?_)
      refine Sx.done (κ12 _ _ ?_)
      refine Sx.cond S (fun hc14 => ?_) (fun hc14 => ?_)
      · refine Sx.seqP (fun _ κ15 => ?_)
        refine Sx.run S 1 [] [(2, .int .i64 5)] (fun ac S => ?_)
        refine Sx.done (κ15 _ _ ?_)
        refine Vp.rt ?_
        have p0 := hc7
        have p1 := hc10
        have p2 := hc14
        refine Sx.ret1 S Tryz.results18 ?_
        exact ⟨congrArg (fun z : Int => Ending.returned (.int .i64 z)) (by unfold NodeD.check36; simp only [p0, p1, p2, cond_true, cond_false]), S.E⟩
      · refine Sx.seqP (fun _ κ16 => ?_)
        refine Sx.run S 2 [.mem 0 3] [(38, nd.t.v)] (fun ac S => ?_)
        refine Sx.callG S (some 39) (refDet_q nd.t.v nd.t.q K _ ((AffD.toQ h.1.2.2.2.1 h.2.1).belowQ S.E) h.2.2.2.2.1 h.2.2.2.2.2) ?_
        rintro e u ⟨x, rfl, hd, E17⟩
        refine ⟨_, rfl, E17, fun ac S => ?_⟩
        refine Sx.callG S (some 40) (refRatFromInt_any 0 _ (by decide)) ?_
        rintro e u ⟨z, rfl, hz, E18⟩
        refine ⟨_, rfl, E18, fun ac S => ?_⟩
        refine Sx.callv S 41 (refCmp_q _ _ nd.t.q.det q0 (K + K + (K + K) + 1) 1 _ (IsRatN.toQ (hd.ext E18) (det_nrm _) (det_len h.2.2.2.2.1 (AffR.len6 (AffD.toQ h.1.2.2.2.1 h.2.1) h.2.2.2.2.1))) (IsRatN.toQ (q := q0) hz q0_nrm q0_len) (by have := h.2.2.2.2.1; omega) (by omega) (by have := h.2.2.2.2.2; omega) (by omega)) (fun ac u E19 S => ?_)
        refine Sx.run S 2 [] [(36, .bool (((qcmp nd.t.q.det q0)) == 0))] (fun ac S => ?_)
        refine Sx.done (κ16 _ _ ?_)
        refine Sx.cond S (fun hc20 => ?_) (fun hc20 => ?_)
        · refine Sx.seqP (fun _ κ21 => ?_)
          refine Sx.run S 1 [] [(2, .int .i64 9)] (fun ac S => ?_)
          refine Sx.done (κ21 _ _ ?_)
          refine Vp.rt ?_
          have p0 := hc7
          have p1 := hc10
          have p2 := hc14
          have p3 := hc20
          refine Sx.ret1 S Tryz.results18 ?_
          exact ⟨congrArg (fun z : Int => Ending.returned (.int .i64 z)) (by unfold NodeD.check36; simp only [p0, p1, p2, p3, cond_true, cond_false]), S.E⟩
        · refine Sx.seqP (fun _ κ22 => ?_)
          refine Sx.run S 2 [.mem 0 27] [(45, nd.cs)] (fun ac S => ?_)
          refine Sx.callv S 46 (r13Valid_any (l := nd.clip) (h.1.2.2.2.2.1.below S.E)) (fun ac u E23 S => ?_)
          refine Sx.run S 2 [] [(43, .bool (!(pathOk nd.clip)))] (fun ac S => ?_)
          refine Sx.done (κ22 _ _ ?_)
          refine Sx.cond S (fun hc24 => ?_) (fun hc24 => ?_)
          · refine Sx.seqP (fun _ κ25 => ?_)
            refine Sx.run S 1 [] [(2, .int .i64 10)] (fun ac S => ?_)
            refine Sx.done (κ25 _ _ ?_)
            refine Vp.rt ?_
            have p0 := hc7
            have p1 := hc10
            have p2 := hc14
            have p3 := hc20
            have p4 := hc24
            refine Sx.ret1 S Tryz.results18 ?_
            exact ⟨congrArg (fun z : Int => Ending.returned (.int .i64 z)) (by unfold NodeD.check36; simp only [p0, p1, p2, p3, p4, cond_true, cond_false]), S.E⟩
          · refine Sx.seqP (fun _ κ26 => ?_)
            refine Sx.run S 1 [.mem 0 0] [(49, nd.v)] (fun ac S => ?_)
            refine Sx.callv S 50 (r36own_any (h.1.below S.E)) (fun ac u E27 S => ?_)
            refine Sx.run S 2 [] [(48, .bool (!nd.onlyOwn))] (fun ac S => ?_)
            refine Sx.done (κ26 _ _ ?_)
            refine Sx.cond S (fun hc28 => ?_) (fun hc28 => ?_)
            · refine Sx.seqP (fun _ κ29 => ?_)
              refine Sx.run S 1 [] [(2, .int .i64 17)] (fun ac S => ?_)
              refine Sx.done (κ29 _ _ ?_)
              refine Vp.rt ?_
              have p0 := hc7
              have p1 := hc10
              have p2 := hc14
              have p3 := hc20
              have p4 := hc24
              have p5 := hc28
              refine Sx.ret1 S Tryz.results18 ?_
              exact ⟨congrArg (fun z : Int => Ending.returned (.int .i64 z)) (by unfold NodeD.check36; simp only [p0, p1, p2, p3, p4, p5, cond_true, cond_false]), S.E⟩
            · refine wp_skip ?_
              refine κ5 _ _ ?_
              refine wp_seq_k (fun _ κ30 => ?_)
              refine Sx.seqP (fun _ κ31 => ?_)
              refine Sx.run S 3 [.mem 0 1] [(54, .bool ((nd.kind) == 2))] (fun ac S => ?_)
              refine Sx.done (κ31 _ _ ?_)
              refine Sx.cond S (fun hc32 => ?_) (fun hc32 => ?_)
              · refine Sx.seqP (fun _ κ33 => ?_)
                refine Sx.run S 1 [.mem 0 0] [(55, nd.v)] (fun ac S => ?_)
                refine Sx.callv S 56 (r36shape_any (h.below S.E)) (fun ac u E34 S => ?_)
                refine Sx.run S 1 [] [(2, .int .i64 nd.shape36)] (fun ac S => ?_)
                refine Sx.done (κ33 _ _ ?_)
                refine Vp.rt ?_
                have p0 := hc7
                have p1 := hc10
                have p2 := hc14
                have p3 := hc20
                have p4 := hc24
                have p5 := hc28
                have p6 := hc32
                refine Sx.ret1 S Tryz.results18 ?_
                exact ⟨congrArg (fun z : Int => Ending.returned (.int .i64 z)) (by unfold NodeD.check36; simp only [p0, p1, p2, p3, p4, p5, p6, cond_true, cond_false]), S.E⟩
              · refine wp_skip ?_
                refine κ30 _ _ ?_
                refine wp_seq_k (fun _ κ35 => ?_)
                refine Sx.seqP (fun _ κ36 => ?_)
                refine Sx.run S 3 [.mem 0 1] [(59, .bool ((nd.kind) == 1))] (fun ac S => ?_)
                refine Sx.done (κ36 _ _ ?_)
                refine Sx.cond S (fun hc37 => ?_) (fun hc37 => ?_)
                · refine wp_seq_k (fun _ κ38 => ?_)
                  refine Sx.seqP (fun _ κ39 => ?_)
                  refine Sx.run S 2 [.mem 0 30] [(61, .int .i64 nd.blend)] (fun ac S => ?_)
                  refine Sx.calls S 62 (r28mode_any nd.blend _) (fun ac S => ?_)
                  refine Sx.run S 1 [] [(63, .bool (!(decide (1 ≤ nd.blend) && decide (nd.blend ≤ 13))))] (fun ac S => ?_)
                  refine Sx.done (κ39 _ _ ?_)
                  refine Sx.cond S (fun hc40 => ?_) (fun hc40 => ?_)
                  · refine Sx.seqP (fun _ κ41 => ?_)
                    refine Sx.run S 1 [] [(2, .int .i64 2)] (fun ac S => ?_)
                    refine Sx.done (κ41 _ _ ?_)
                    refine Vp.rt ?_
                    have p0 := hc7
                    have p1 := hc10
                    have p2 := hc14
                    have p3 := hc20
                    have p4 := hc24
                    have p5 := hc28
                    have p6 := hc32
                    have p7 := hc37
                    have p8 := hc40
                    refine Sx.ret1 S Tryz.results18 ?_
                    exact ⟨congrArg (fun z : Int => Ending.returned (.int .i64 z)) (by unfold NodeD.check36; simp only [p0, p1, p2, p3, p4, p5, p6, p7, p8, cond_true, cond_false]), S.E⟩
                  · refine wp_skip ?_
                    refine κ38 _ _ ?_
                    refine Sx.seqP (fun _ κ42 => ?_)
                    refine Sx.run S 1 [] [(2, .int .i64 0)] (fun ac S => ?_)
                    refine Sx.done (κ42 _ _ ?_)
                    refine Vp.rt ?_
                    have p0 := hc7
                    have p1 := hc10
                    have p2 := hc14
                    have p3 := hc20
                    have p4 := hc24
                    have p5 := hc28
                    have p6 := hc32
                    have p7 := hc37
                    have p8 := hc40
                    refine Sx.ret1 S Tryz.results18 ?_
                    exact ⟨congrArg (fun z : Int => Ending.returned (.int .i64 z)) (by unfold NodeD.check36; simp only [p0, p1, p2, p3, p4, p5, p6, p7, p8, cond_true, cond_false]), S.E⟩
                · refine wp_skip ?_
                  refine κ35 _ _ ?_
                  refine wp_seq_k (fun _ κ43 => ?_)
                  refine Sx.seqP (fun _ κ44 => ?_)
                  refine Sx.run S 2 [.mem 0 43] [(65, nd.img.v)] (fun ac S => ?_)
                  refine Sx.callv S 66 (r33Valid_any (m := nd.img) (h.1.2.2.2.2.2.2.2.2.2.2.2.2.1.below S.E)) (fun ac u E45 S => ?_)
                  refine Sx.run S 1 [] [(67, .bool (!nd.img.valid))] (fun ac S => ?_)
                  refine Sx.done (κ44 _ _ ?_)
                  refine Sx.cond S (fun hc46 => ?_) (fun hc46 => ?_)
                  · refine Sx.seqP (fun _ κ47 => ?_)
                    refine Sx.run S 1 [] [(2, .int .i64 16)] (fun ac S => ?_)
                    refine Sx.done (κ47 _ _ ?_)
                    refine Vp.rt ?_
                    have p0 := hc7
                    have p1 := hc10
                    have p2 := hc14
                    have p3 := hc20
                    have p4 := hc24
                    have p5 := hc28
                    have p6 := hc32
                    have p7 := hc37
                    have p8 := hc46
                    refine Sx.ret1 S Tryz.results18 ?_
                    exact ⟨congrArg (fun z : Int => Ending.returned (.int .i64 z)) (by unfold NodeD.check36; simp only [p0, p1, p2, p3, p4, p5, p6, p7, p8, cond_true, cond_false]), S.E⟩
                  · refine wp_skip ?_
                    refine κ43 _ _ ?_
                    refine wp_seq_k (fun _ κ48 => ?_)
                    refine Sx.seqP (fun _ κ49 => ?_)
                    refine Sx.run S 8 [.mem 0 46, .mem 0 46] [(75, .bool (((nd.samp) != 1) && ((nd.samp) != 2)))] (fun ac S => ?_)
                    refine Sx.done (κ49 _ _ ?_)
                    refine Sx.cond S (fun hc50 => ?_) (fun hc50 => ?_)
                    · refine Sx.seqP (fun _ κ51 => ?_)
                      refine Sx.run S 1 [] [(2, .int .i64 2)] (fun ac S => ?_)
                      refine Sx.done (κ51 _ _ ?_)
                      refine Vp.rt ?_
                      have p0 := hc7
                      have p1 := hc10
                      have p2 := hc14
                      have p3 := hc20
                      have p4 := hc24
                      have p5 := hc28
                      have p6 := hc32
                      have p7 := hc37
                      have p8 := hc46
                      have p9 := hc50
                      refine Sx.ret1 S Tryz.results18 ?_
                      exact ⟨congrArg (fun z : Int => Ending.returned (.int .i64 z)) (by unfold NodeD.check36; simp only [p0, p1, p2, p3, p4, p5, p6, p7, p8, p9, cond_true, cond_false]), S.E⟩
                    · refine wp_skip ?_
                      refine κ48 _ _ ?_
                      refine Sx.seqP (fun _ κ52 => ?_)
                      refine Sx.run S 1 [] [(2, .int .i64 0)] (fun ac S => ?_)
                      refine Sx.done (κ52 _ _ ?_)
                      refine Vp.rt ?_
                      have p0 := hc7
                      have p1 := hc10
                      have p2 := hc14
                      have p3 := hc20
                      have p4 := hc24
                      have p5 := hc28
                      have p6 := hc32
                      have p7 := hc37
                      have p8 := hc46
                      have p9 := hc50
                      refine Sx.ret1 S Tryz.results18 ?_
                      exact ⟨congrArg (fun z : Int => Ending.returned (.int .i64 z)) (by unfold NodeD.check36; simp only [p0, p1, p2, p3, p4, p5, p6, p7, p8, p9, cond_false]), S.E⟩
end Go.Proofs.YtcohmdeoocgmdaaGreatDoor
