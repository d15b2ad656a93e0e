/- The law NodeTransform. -/
import Derived.Test.YtcohmdeoocgmdaaGreatDoorCheck
import Derived.Test.YtcohmdeoocgmdaaGreatDoorLaw36
import Derived.Test.YtcohmdeoocgmdaaGreatDoorRef12
namespace Go.Proofs.YtcohmdeoocgmdaaGreatDoor
open Go.RowKit
variable {α : Type} {K : Nat}
set_option linter.unusedVariables false
theorem tr_l {a b : Bool} (h : (!((!a) || (!b))) = true) : a = true := by cases a <;> simp_all
theorem tr_r {a b : Bool} (h : (!((!a) || (!b))) = true) : b = true := by cases b <;> simp_all
theorem commonL_of (nd : NodeD) : ∃ a b c d e f : Bool, nd.commonL = [(a, 2), (b, 6), (c, 5), (d, 9), (e, 10), (f, 17)] ∧ ∀ t : AffD, ({ nd with t := t } : NodeD).commonL = [(a, 2), (b, 6), (!t.q.valid, 5), (qeq t.q.det q0, 9), (e, 10), (f, 17)] := ⟨_, _, _, _, _, _, rfl, fun _ => rfl⟩
/-- A node without an error has none in its lists. -/
theorem check0 {nd : NodeD} (h : nd.checkN = 0) : badL nd.commonL = false ∧ nd.ownN = 0 := by
  unfold NodeD.checkN at h
  obtain ⟨a, b, c, d, e, f, hL, -⟩ := commonL_of nd
  rw [hL] at h ⊢
  generalize nd.ownN = o at h ⊢
  cases a <;> cases b <;> cases c <;> cases d <;> cases e <;> cases f <;> simp [badL, codeL] at h ⊢ <;> exact h
/-- What a replaced transform does. -/
theorem check_tr {nd : NodeD} {t : AffD} (h : nd.checkN = 0) : ({ nd with t := t } : NodeD).checkN = if (!t.q.valid) = true then 5 else if qeq t.q.det q0 = true then 9 else 0 := by
  obtain ⟨hb, ho⟩ := check0 h
  obtain ⟨a, b, c, d, e, f, hL, hT⟩ := commonL_of nd
  unfold NodeD.checkN
  rw [hT t]
  show _root_.cond _ _ nd.ownN = _
  rw [ho]
  rw [hL] at hb
  cases a <;> cases b <;> cases c <;> cases d <;> cases e <;> cases f <;> simp [badL] at hb
  cases t.q.valid <;> cases qeq t.q.det q0 <;> rfl

set_option maxRecDepth 100000 in
set_option maxHeartbeats 3200000 in
theorem nodeTransform_any {w : World} {nd : NodeD} {t : AffD} (h : nd.ok w) (ht : t.ok w) (hg : GlobOk w) :
    Calls Tryz.prog 4 #[nd.v, t.v] w fun e w' => e = .returned (.bool true) ∧ Ext w w' := by
  skip
  refine Sx.enter Tryz.func4 Tryz.ntmps4 (fun ac S => ?_)
  refine Sx.seqP (fun κκ κ1 => ?_)
  refine Sx.newp S 2 nd.cells (fun ac u b2 E3 hb4 S => ?_)
  refine Sx.newp S 3 t.cells (fun ac u b5 E6 hb7 S => ?_)
  refine Sx.run S 1 [] [(4, .bool false)] (fun ac S => ?_)
  refine Sx.done (κ1 _ _ ?_)
  refine wp_seq_k (fun κκ κ8 => ?_)
  refine Sx.seqP (fun κκ κ9 => ?_)
  refine Sx.run S 1 [.mem 1 0] [(6, nd.v)] (fun ac S => ?_)
  refine Sx.callv S 7 (small_any (h.below S.E)) (fun ac u E10 S => ?_)
  refine Sx.runC S 11 [.mem 0 0, .mem 1 0] [(_, _, (!(!nd.small)), .bool t.short), (_, _, (!((!nd.small) || (!t.short))), .int .i64 nd.checkN)] [(18, .bool (((!nd.small) || (!t.short)) || ((nd.checkN) != 0)))] ⟨fun u hC g => affShort_any (ht.below (Ext.trans' S.E hC)), fun u hC g => nodeCheck_any (NodeD.small_ok (tr_l g) (h.below (Ext.trans' S.E hC))) (hg.below (Ext.trans' S.E hC)), trivial⟩ (fun ac u E11 S => ?_)
  refine Sx.done (κ9 _ _ ?_)
  refine Sx.cond S (fun hc12 => ?_) (fun hc12 => ?_)
  · refine Sx.seqP (fun κκ κ13 => ?_)
    refine Sx.callv S 19 (example_any (hg.below S.E)) (fun ac u E14 S => ?_)
    refine Sx.run S 1 [] [(4, .bool true)] (fun ac S => ?_)
    refine Sx.done (κ13 _ _ ?_)
    refine wp_ret ?_
    repeat first | with_reducible refine Vp.then_ret ?_ | with_reducible refine Vp.inBlock_ret ?_
    refine Sx.ret1 S Tryz.results4 ?_
    exact ⟨rfl, S.E⟩
  · obtain ⟨hs, hsh, hc0⟩ : nd.small = true ∧ t.short = true ∧ nd.checkN = 0 := by
      have hh := hc12
      simp only [Bool.or_eq_false_iff, Bool.not_eq_false', bne_eq_false_iff_eq] at hh
      exact ⟨hh.1.1, hh.1.2, hh.2⟩
    have hok := NodeD.small_ok hs h
    have hnt : NodeOk 20 w { nd with t := t } := ⟨⟨hok.1.1, hok.1.2.1, hok.1.2.2.1, ht, hok.1.2.2.2.2⟩, AffD.short_fit hsh, hok.2.2⟩
    refine wp_skip ?_
    refine κ8 _ _ ?_
    refine Sx.seqP (fun κκ κ15 => ?_)
    refine Sx.run S 2 [.mem 0 0] [(20, t.v), (21, .pointer (some ⟨b2, 3, none⟩))] (fun ac S => ?_)
    refine Sx.store S 1 (off := 3) (cs := t.cells) rfl (fun u C16 S => ?_)
    refine Sx.done (κ15 _ _ ?_)
    refine Sx.seqP (fun κκ κ17 => ?_)
    refine Sx.run S 1 [] [(5, .int .i64 0)] (fun ac S => ?_)
    refine Sx.done (κ17 _ _ ?_)
    refine wp_seq_k (fun κκ κ18 => ?_)
    refine Sx.seqP (fun κκ κ19 => ?_)
    refine Sx.run S 1 [.mem 0 0] [(22, t.v)] (fun ac S => ?_)
    refine Sx.callv S 23 (refAffValid_q t.v t.q 20 _ ((AffD.toQ ht (AffD.short_fit hsh)).belowQ S.E) (by decide) (by decide)) (fun ac u E20 S => ?_)
    refine Sx.run S 1 [] [(24, .bool (!t.q.valid))] (fun ac S => ?_)
    refine Sx.done (κ19 _ _ ?_)
    refine Sx.cond S (fun hc21 => ?_) (fun hc21 => ?_)
    · refine Vp.region ?_
      refine Sx.run S 1 [] [(5, .int .i64 5)] (fun ac S => ?_)
      refine Sx.done (κ18 _ _ ?_)
      refine Sx.seqP (fun κκ κ22 => ?_)
      refine Sx.run S 1 [.mem 1 0] [(30, .agg (Sx.L [.int .i64 nd.id, .int .i64 nd.kind, .int .i64 nd.depth] ++ t.cells ++ Sx.L [nd.cs, .int .i64 nd.clipRule, .int .u8 (nd.opacity.toNat : Int), .int .i64 nd.blend, .bool nd.isolated, .bool nd.knockout, nd.ps, .int .i64 nd.fillRule, nd.fs] ++ nd.style.cells ++ Sx.L [nd.ss] ++ nd.img.cells ++ Sx.L [.int .i64 nd.samp]).toArray)] (fun ac S => ?_)
      refine Sx.callv S 31 (nodeCheck_any (nd := { nd with t := t }) (K := 20) (NodeOk.below hnt S.E) (hg.below S.E)) (fun ac u E23 S => ?_)
      refine Sx.runC S 6 [] [(_, _, ((({ nd with t := t } : NodeD).checkN) == 5), .bool true)] [(4, .bool (((({ nd with t := t } : NodeD).checkN) == 5) && true))] ⟨fun u hC g => example_any (hg.below (Ext.trans' S.E hC)), trivial⟩ (fun ac u E24 S => ?_)
      refine Sx.done (κ22 _ _ ?_)
      refine wp_ret ?_
      repeat first | with_reducible refine Vp.then_ret ?_ | with_reducible refine Vp.inBlock_ret ?_
      have p0 := hc21
      refine Sx.ret1 S Tryz.results4 ?_
      exact ⟨by rw [check_tr hc0, if_pos p0]; rfl, S.E⟩
    · refine Sx.seqP (fun κκ κ25 => ?_)
      refine Sx.run S 1 [.mem 0 0] [(25, t.v)] (fun ac S => ?_)
      refine Sx.callG S (some 26) (refDet_q t.v t.q 20 _ ((AffD.toQ ht (AffD.short_fit hsh)).belowQ S.E) (by decide) (by decide)) ?_
      rintro e u ⟨y, rfl, hd, E26⟩
      refine ⟨_, rfl, E26, fun ac S => ?_⟩
      refine Sx.callG S (some 27) (refRatFromInt_any 0 _ (by decide)) ?_
      rintro e u ⟨z, rfl, hz, E27⟩
      refine ⟨_, rfl, E27, fun ac S => ?_⟩
      refine Sx.callv S 28 (refCmp_q _ _ t.q.det q0 (20 + 20 + (20 + 20) + 1) 1 _ (IsRatN.toQ (hd.ext E27) (det_nrm _) (det_len (by decide) (AffR.len6 ((AffD.toQ ht (AffD.short_fit hsh)).belowQ (Below.refl _ _)) (by decide)))) (IsRatN.toQ (q := q0) hz q0_nrm q0_len) (by decide) (by decide) (by decide) (by decide)) (fun ac u E28 S => ?_)
      refine Sx.run S 1 [] [(29, .bool (((qcmp t.q.det q0)) == 0))] (fun ac S => ?_)
      refine Sx.done (κ25 _ _ ?_)
      refine Sx.cond S (fun hc29 => ?_) (fun hc29 => ?_)
      · refine Vp.region ?_
        refine Sx.run S 1 [] [(5, .int .i64 9)] (fun ac S => ?_)
        refine Sx.done (κ18 _ _ ?_)
        refine Sx.seqP (fun κκ κ30 => ?_)
        refine Sx.run S 1 [.mem 1 0] [(30, .agg (Sx.L [.int .i64 nd.id, .int .i64 nd.kind, .int .i64 nd.depth] ++ t.cells ++ Sx.L [nd.cs, .int .i64 nd.clipRule, .int .u8 (nd.opacity.toNat : Int), .int .i64 nd.blend, .bool nd.isolated, .bool nd.knockout, nd.ps, .int .i64 nd.fillRule, nd.fs] ++ nd.style.cells ++ Sx.L [nd.ss] ++ nd.img.cells ++ Sx.L [.int .i64 nd.samp]).toArray)] (fun ac S => ?_)
        refine Sx.callv S 31 (nodeCheck_any (nd := { nd with t := t }) (K := 20) (NodeOk.below hnt S.E) (hg.below S.E)) (fun ac u E31 S => ?_)
        refine Sx.runC S 6 [] [(_, _, ((({ nd with t := t } : NodeD).checkN) == 9), .bool true)] [(4, .bool (((({ nd with t := t } : NodeD).checkN) == 9) && true))] ⟨fun u hC g => example_any (hg.below (Ext.trans' S.E hC)), trivial⟩ (fun ac u E32 S => ?_)
        refine Sx.done (κ30 _ _ ?_)
        refine wp_ret ?_
        repeat first | with_reducible refine Vp.then_ret ?_ | with_reducible refine Vp.inBlock_ret ?_
        have p0 := hc21
        have p1 := hc29
        refine Sx.ret1 S Tryz.results4 ?_
        exact ⟨by rw [check_tr hc0, if_neg (by rw [p0]; decide)]; unfold qeq; rw [p1]; rfl, S.E⟩
      · refine wp_skip ?_
        refine κ18 _ _ ?_
        refine Sx.seqP (fun κκ κ33 => ?_)
        refine Sx.run S 1 [.mem 1 0] [(30, .agg (Sx.L [.int .i64 nd.id, .int .i64 nd.kind, .int .i64 nd.depth] ++ t.cells ++ Sx.L [nd.cs, .int .i64 nd.clipRule, .int .u8 (nd.opacity.toNat : Int), .int .i64 nd.blend, .bool nd.isolated, .bool nd.knockout, nd.ps, .int .i64 nd.fillRule, nd.fs] ++ nd.style.cells ++ Sx.L [nd.ss] ++ nd.img.cells ++ Sx.L [.int .i64 nd.samp]).toArray)] (fun ac S => ?_)
        refine Sx.callv S 31 (nodeCheck_any (nd := { nd with t := t }) (K := 20) (NodeOk.below hnt S.E) (hg.below S.E)) (fun ac u E34 S => ?_)
        refine Sx.runC S 6 [] [(_, _, ((({ nd with t := t } : NodeD).checkN) == 0), .bool true)] [(4, .bool (((({ nd with t := t } : NodeD).checkN) == 0) && true))] ⟨fun u hC g => example_any (hg.below (Ext.trans' S.E hC)), trivial⟩ (fun ac u E35 S => ?_)
        refine Sx.done (κ33 _ _ ?_)
        refine wp_ret ?_
        repeat first | with_reducible refine Vp.then_ret ?_ | with_reducible refine Vp.inBlock_ret ?_
        have p0 := hc21
        have p1 := hc29
        refine Sx.ret1 S Tryz.results4 ?_
        exact ⟨by rw [check_tr hc0, if_neg (by rw [p0]; decide)]; unfold qeq; rw [p1]; rfl, S.E⟩
end Go.Proofs.YtcohmdeoocgmdaaGreatDoor
