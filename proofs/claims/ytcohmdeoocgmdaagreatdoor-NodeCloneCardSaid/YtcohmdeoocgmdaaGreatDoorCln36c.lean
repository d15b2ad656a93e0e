/- Copies of nodes in new memory: reference 36. -/
import Derived.Test.YtcohmdeoocgmdaaGreatDoorCln36b
set_option maxHeartbeats 3200000
set_option maxRecDepth 100000
namespace Go.Proofs.YtcohmdeoocgmdaaGreatDoor
open Go.RowKit
variable {α : Type} {K : Nat}
set_option linter.unusedVariables false
theorem cloneInt_any {w : World} {n : Bool} {v : Value} {l : List UInt32} (h : IsRowN 1 u32c w v l) (hl : l.length ≤ 10000000) :
    Calls Tryz.prog 144 #[.agg #[.bool n, v]] w fun e w' => ∃ a c, e = .returned (.agg #[.bool n, .slice a l.length c]) ∧ Cp 103 1 u32c w.heap.size (.slice a l.length c) l w' ∧ Ext w w' := by
  obtain ⟨a0, c0, rfl⟩ := h.shape
  refine Sx.enter Tryz.func144 Tryz.ntmps144 fun ac S => Sx.seqP fun _ κ1 => Sx.newp S 1 [.bool n, .slice a0 l.length c0] fun ac u b2 E3 hb4 S => Sx.newp S 2 [.bool false, .slice none 0 0] fun ac u b5 E6 hb7 S => Sx.done <| κ1 _ _ <| wp_seq_k (fun _ κ8 => ?_)
  have y0 := S.E.size
  have z0 := (S.bx 0).1
  refine Go.Rel.wp_region 7 (by kernel_rfl) (by rw [S.s.size]; kernel_rfl) Ext (fun w' => Ext u w')
    [Rel.is (.pointer (some ⟨b2, 0, none⟩)),
   Rel.is (.bool n),
   (fun v w' => ∃ b, v = .slice (some ⟨b, 0, none⟩) 0 0),
   Rel.is (.pointer (some ⟨b2, 1, none⟩)),
   Rel.is (.slice a0 l.length c0),
   (fun v w' => Cp 103 1 u32c u.heap.size v l w'),
   (fun v w' => ∃ s, v = .agg #[.bool n, s] ∧ Cp 103 1 u32c u.heap.size s l w')]
    ?_ ?_ ?_ ⟨?_, ?_, ?_, ?_, ?_, ?_, ?_, trivial⟩ ?_
  · exact below_drewN (Below.refl _ _) 1
  · exact fun _ _ h k => Ext.trans' h k
  · exact Rel.Monos.mem ⟨Rel.mono_is _, Rel.mono_is _, fun _ _ _ _ h => h, Rel.mono_is _, Rel.mono_is _, fun _ _ _ k h => h.ext k, fun _ _ _ k h => by obtain ⟨s, e, h⟩ := h; exact ⟨s, e, h.ext k⟩, trivial⟩
  · intro ρ w' hs ho hC hd
    have h1 : ρ (.tmp 1) = .pointer (some ⟨b2, 0, none⟩) := (ho 1 rfl).trans (S.s.ev rfl)
    exact Rel.does_val (u := .pointer (some ⟨b2, 0, none⟩)) (by simp [go_sem, h1]) Ext.rfl' rfl
  · intro ρ w' hs ho hC hd
    have h3 : ρ (.tmp 3) = .pointer (some ⟨b2, 0, none⟩) := hd.1 rfl
    exact Rel.does_load1 rfl h3 ((S.bx 1).ext hC) rfl Tryz.underlying4 rfl Ext.rfl' rfl
  · intro ρ w' hs ho hC hd
    refine Rel.does_to (T := fun v w' => ∃ b, v = .slice (some ⟨b, 0, none⟩) 0 0) (u := .slice (some ⟨w'.heap.size, 0, none⟩) 0 0) (w1 := w'.alloc (.cells #[] 103)) (by simp [go_sem]) (below_alloc _ _) ⟨_, rfl⟩
  · intro ρ w' hs ho hC hd
    have h1 : ρ (.tmp 1) = .pointer (some ⟨b2, 0, none⟩) := (ho 1 rfl).trans (S.s.ev rfl)
    exact Rel.does_val (u := .pointer (some ⟨b2, 1, none⟩)) (by simp [go_sem, h1]) Ext.rfl' rfl
  · intro ρ w' hs ho hC hd
    have h6 : ρ (.tmp 6) = .pointer (some ⟨b2, 1, none⟩) := hd.1 rfl
    exact Rel.does_load1 rfl h6 ((S.bx 1).ext hC) rfl Tryz.underlying22 rfl Ext.rfl' rfl
  · intro ρ w' hs ho hC hd
    have h5 : ∃ b, (ρ (.tmp 5)) = .slice (some ⟨b, 0, none⟩) 0 0 := hd.1 rfl
    have h7 : ρ (.tmp 7) = .slice a0 l.length c0 := hd.2.1 rfl
    obtain ⟨b, hb⟩ := h5
    exact Sx.does_copy (F := fun v w' => Cp 103 1 u32c u.heap.size v l w') rfl tyU32 hb (h.below (Ext.trans' S.E hC)) h7 (fun _ => rfl) (fun _ => rfl) (by omega) fun v' w1 q2 q3 => Cp.mono q2 hC.size
  · intro ρ w' hs ho hC hd
    have h4 : ρ (.tmp 4) = .bool n := hd.1 rfl
    have h8 : Cp 103 1 u32c u.heap.size (ρ (.tmp 8)) l w' := hd.2.1 rfl
    obtain ⟨a, c, e⟩ := Cp.shape h8
    exact Rel.does_to (T := fun v w' => ∃ s, v = .agg #[.bool n, s] ∧ Cp 103 1 u32c u.heap.size s l w') (u := .agg #[.bool n, .slice a l.length c]) (w1 := w') (by simp [go_sem, h4, e]) Ext.rfl' ⟨_, rfl, by rw [← e]; exact h8⟩
  · intro u E9
    refine Vp.end_of _ _ _ _ S.s rfl ?_
    rintro _ rfl _ rfl v10 h11 _ rfl _ rfl v12 h13 v14 h15
    intro ac s
    have S := (S.grow E9).act s
    clear s
    change wpList _ _ _ (List.drop 7 _) _ _
    obtain ⟨s9, rfl, hs⟩ := h15
    obtain ⟨a, c, rfl⟩ := Cp.shape hs
    refine Sx.store S 0 (off := 0) (cs := [.bool n, .slice a l.length c]) rfl (fun u C16 S => ?_)
    have Fs17 := Dep.ch hs C16 (by omega)
    refine Sx.done <| κ8 _ _ <| Vp.rt ?_
    refine Sx.retc S 0 Tryz.results144 rfl (v := .agg #[.bool n, .slice a l.length c]) ?_
    exact ⟨a, c, rfl, Cp.mono Fs17 (by omega), S.E⟩
theorem cloneRat_any {w : World} {r : RatD} (h : r.ok w) (hl : r.l1.length ≤ 10000000 ∧ r.l2.length ≤ 10000000) :
    Calls Tryz.prog 110 #[r.v] w fun e w' => ∃ m : RatD, e = .returned m.v ∧ m.cp w.heap.size w' ∧ m.strip = r.strip ∧ Ext w w' := by
  skip
  refine Sx.enter Tryz.func110 Tryz.ntmps110 fun ac S => Sx.seqP fun _ κ1 => Sx.newp S 1 r.cells fun ac u b2 E3 hb4 S => Sx.newp S 2 Sx.zr fun ac u b5 E6 hb7 S => Sx.done <| κ1 _ _ <| wp_seq_k (fun _ κ8 => ?_)
  have y0 := S.E.size
  have z0 := (S.bx 0).1
  refine Sx.drawX S 6 [(5, fun v w1 => ∃ a c, v = .agg #[.bool r.n1, .slice a r.l1.length c] ∧ Cp 103 1 u32c u.heap.size (.slice a r.l1.length c) r.l1 w1), (8, fun v w1 => ∃ a c, v = .agg #[.bool r.n2, .slice a r.l2.length c] ∧ Cp 103 1 u32c u.heap.size (.slice a r.l2.length c) r.l2 w1)] (fun r => [.mem 1 0, .mem 1 2]) (fun x => [x 5, x 8]) (fun x => [(_, _, true, x 5, 5), (_, _, true, x 8, 8)]) [[], []] (fun x => [(5, x 5), (8, x 8)]) ⟨fun _ _ _ k h => by obtain ⟨a, c, e, h⟩ := h; exact ⟨a, c, e, h.ext k⟩, fun _ _ _ k h => by obtain ⟨a, c, e, h⟩ := h; exact ⟨a, c, e, h.ext k⟩, trivial⟩ (fun x => ⟨by intro u hC g F; exact (cloneInt_any (n := r.n1) (v := r.s1) (l := r.l1) ((rowN_one (f := u32v) h.1).below (Ext.trans' S.E hC)) hl.1).mono fun e w2 h => by obtain ⟨a, c, rfl, hx, hb⟩ := h; exact ⟨_, rfl, ⟨a, c, rfl, hx.mono hC.size⟩, hb⟩, by intro u hC g F; exact (cloneInt_any (n := r.n2) (v := r.s2) (l := r.l2) ((rowN_one (f := u32v) h.2).below (Ext.trans' S.E hC)) hl.2).mono fun e w2 h => by obtain ⟨a, c, rfl, hx, hb⟩ := h; exact ⟨_, rfl, ⟨a, c, rfl, hx.mono hC.size⟩, hb⟩, trivial⟩) (fun ac u x E9 F S => ?_)
  obtain ⟨F5, F8, -⟩ := F
  obtain ⟨a1, c1, e1, F5⟩ := F5
  rw [e1] at S
  obtain ⟨a2, c2, e2, F8⟩ := F8
  rw [e2] at S
  refine Sx.run S 1 [] [(9, .agg #[.bool r.n1, .slice a1 r.l1.length c1, .bool r.n2, .slice a2 r.l2.length c2])] fun ac S => Sx.store S 0 (off := 0) (cs := [.bool r.n1, .slice a1 r.l1.length c1, .bool r.n2, .slice a2 r.l2.length c2]) rfl (fun u C10 S => ?_)
  have Fs11 := Dep.ch F5 C10 (by omega)
  have Fs12 := Dep.ch F8 C10 (by omega)
  refine Sx.done <| κ8 _ _ <| Vp.rt ?_
  refine Sx.retc S 0 Tryz.results110 rfl (v := .agg #[.bool r.n1, .slice a1 r.l1.length c1, .bool r.n2, .slice a2 r.l2.length c2]) ?_
  exact ⟨⟨r.n1, a1, c1, r.l1, r.n2, a2, c2, r.l2⟩, rfl, rat_le (rat_cp (r := ⟨r.n1, a1, c1, r.l1, r.n2, a2, c2, r.l2⟩) Fs11 Fs12) (by omega), rfl, S.E⟩
theorem cloneAff_any {w : World} {t : AffD} (h : t.ok w) (hl : t.lim) :
    Calls Tryz.prog 60 #[t.v] w fun e w' => ∃ m : AffD, e = .returned m.v ∧ m.cp w.heap.size w' ∧ m.strip = t.strip ∧ Ext w w' := by
  obtain ⟨h0, h1, h2, h3, h4, h5⟩ := h
  obtain ⟨hl0, hl1, hl2, hl3, hl4, hl5⟩ := aff_lim hl
  refine Sx.enter Tryz.func60 Tryz.ntmps60 fun ac S => Sx.seqP fun _ κ1 => Sx.newp S 1 t.cells fun ac u b2 E3 hb4 S => Sx.newp S 2 Sx.za fun ac u b5 E6 hb7 S => Sx.done <| κ1 _ _ <| wp_seq_k (fun _ κ8 => ?_)
  have y0 := S.E.size
  have z0 := (S.bx 0).1
  refine Sx.drawX S 18 [(5, fun v w1 => ∃ m : RatD, v = m.v ∧ m.cp u.heap.size w1 ∧ m.strip = t.a.strip), (8, fun v w1 => ∃ m : RatD, v = m.v ∧ m.cp u.heap.size w1 ∧ m.strip = t.b.strip), (11, fun v w1 => ∃ m : RatD, v = m.v ∧ m.cp u.heap.size w1 ∧ m.strip = t.c.strip), (14, fun v w1 => ∃ m : RatD, v = m.v ∧ m.cp u.heap.size w1 ∧ m.strip = t.d.strip), (17, fun v w1 => ∃ m : RatD, v = m.v ∧ m.cp u.heap.size w1 ∧ m.strip = t.e.strip), (20, fun v w1 => ∃ m : RatD, v = m.v ∧ m.cp u.heap.size w1 ∧ m.strip = t.f.strip)] (fun r => [.mem 1 0, .mem 1 4, .mem 1 8, .mem 1 12, .mem 1 16, .mem 1 20]) (fun x => [x 5, x 8, x 11, x 14, x 17, x 20]) (fun x => [(_, _, true, x 5, 5), (_, _, true, x 8, 8), (_, _, true, x 11, 11), (_, _, true, x 14, 14), (_, _, true, x 17, 17), (_, _, true, x 20, 20)]) [[], [], [], [], [], []] (fun x => [(5, x 5), (8, x 8), (11, x 11), (14, x 14), (17, x 17), (20, x 20)]) ⟨fun _ _ _ k h => by obtain ⟨m, e, h, q⟩ := h; exact ⟨m, e, h.ext k, q⟩, fun _ _ _ k h => by obtain ⟨m, e, h, q⟩ := h; exact ⟨m, e, h.ext k, q⟩, fun _ _ _ k h => by obtain ⟨m, e, h, q⟩ := h; exact ⟨m, e, h.ext k, q⟩, fun _ _ _ k h => by obtain ⟨m, e, h, q⟩ := h; exact ⟨m, e, h.ext k, q⟩, fun _ _ _ k h => by obtain ⟨m, e, h, q⟩ := h; exact ⟨m, e, h.ext k, q⟩, fun _ _ _ k h => by obtain ⟨m, e, h, q⟩ := h; exact ⟨m, e, h.ext k, q⟩, trivial⟩ (fun x => ⟨by intro u hC g F; exact (cloneRat_any (r := t.a) (h0.below (Ext.trans' S.E hC)) hl0).mono fun e w2 h => by obtain ⟨m, rfl, hx, hs, hb⟩ := h; exact ⟨_, rfl, ⟨m, rfl, rat_le hx hC.size, hs⟩, hb⟩, by intro u hC g F; exact (cloneRat_any (r := t.b) (h1.below (Ext.trans' S.E hC)) hl1).mono fun e w2 h => by obtain ⟨m, rfl, hx, hs, hb⟩ := h; exact ⟨_, rfl, ⟨m, rfl, rat_le hx hC.size, hs⟩, hb⟩, by intro u hC g F; exact (cloneRat_any (r := t.c) (h2.below (Ext.trans' S.E hC)) hl2).mono fun e w2 h => by obtain ⟨m, rfl, hx, hs, hb⟩ := h; exact ⟨_, rfl, ⟨m, rfl, rat_le hx hC.size, hs⟩, hb⟩, by intro u hC g F; exact (cloneRat_any (r := t.d) (h3.below (Ext.trans' S.E hC)) hl3).mono fun e w2 h => by obtain ⟨m, rfl, hx, hs, hb⟩ := h; exact ⟨_, rfl, ⟨m, rfl, rat_le hx hC.size, hs⟩, hb⟩, by intro u hC g F; exact (cloneRat_any (r := t.e) (h4.below (Ext.trans' S.E hC)) hl4).mono fun e w2 h => by obtain ⟨m, rfl, hx, hs, hb⟩ := h; exact ⟨_, rfl, ⟨m, rfl, rat_le hx hC.size, hs⟩, hb⟩, by intro u hC g F; exact (cloneRat_any (r := t.f) (h5.below (Ext.trans' S.E hC)) hl5).mono fun e w2 h => by obtain ⟨m, rfl, hx, hs, hb⟩ := h; exact ⟨_, rfl, ⟨m, rfl, rat_le hx hC.size, hs⟩, hb⟩, trivial⟩) (fun ac u x E9 F S => ?_)
  obtain ⟨F5, F8, F11, F14, F17, F20, -⟩ := F
  obtain ⟨m0, e0, F5, s0⟩ := F5
  rw [e0] at S
  obtain ⟨m1, e1, F8, s1⟩ := F8
  rw [e1] at S
  obtain ⟨m2, e2, F11, s2⟩ := F11
  rw [e2] at S
  obtain ⟨m3, e3, F14, s3⟩ := F14
  rw [e3] at S
  obtain ⟨m4, e4, F17, s4⟩ := F17
  rw [e4] at S
  obtain ⟨m5, e5, F20, s5⟩ := F20
  rw [e5] at S
  refine Sx.run S 1 [] [(21, .agg (m0.cells ++ m1.cells ++ m2.cells ++ m3.cells ++ m4.cells ++ m5.cells).toArray)] fun ac S => Sx.store S 0 (off := 0) (cs := (m0.cells ++ m1.cells ++ m2.cells ++ m3.cells ++ m4.cells ++ m5.cells)) rfl (fun u C10 S => ?_)
  have Fs11 := Dep.ch F5 C10 (by omega)
  have Fs12 := Dep.ch F8 C10 (by omega)
  have Fs13 := Dep.ch F11 C10 (by omega)
  have Fs14 := Dep.ch F14 C10 (by omega)
  have Fs15 := Dep.ch F17 C10 (by omega)
  have Fs16 := Dep.ch F20 C10 (by omega)
  refine Sx.done <| κ8 _ _ <| Vp.rt ?_
  refine Sx.retc S 0 Tryz.results60 rfl (v := .agg (m0.cells ++ m1.cells ++ m2.cells ++ m3.cells ++ m4.cells ++ m5.cells).toArray) ?_
  exact ⟨⟨m0, m1, m2, m3, m4, m5⟩, rfl, aff_cp (t := ⟨m0, m1, m2, m3, m4, m5⟩) (rat_le Fs11 (by omega)) (rat_le Fs12 (by omega)) (rat_le Fs13 (by omega)) (rat_le Fs14 (by omega)) (rat_le Fs15 (by omega)) (rat_le Fs16 (by omega)), by unfold AffD.strip; rw [s0, s1, s2, s3, s4, s5], S.E⟩
theorem clonePaints_any {w : World} {v : Value} {l : List PaintD} (h : IsPaints w v l) (hl : l.length ≤ 10000000) (hl2 : ∀ p ∈ l, p.lim) :
    Calls Tryz.prog 61 #[v] w fun e w' => ∃ v' l', e = .returned v' ∧ CpPaints w.heap.size v' l' w' ∧ l'.map PaintD.strip = l.map PaintD.strip ∧ Ext w w' := by
  obtain ⟨a, cap, rfl⟩ := h.1.shape
  refine Sx.enter Tryz.func61 Tryz.ntmps61 fun ac S => Sx.seqP fun _ κ1 => Sx.run S 1 [] [(2, .slice none 0 0)] fun ac S => Sx.done <| κ1 _ _ <| Sx.seqP (fun _ κ2 => ?_)
  have R := Sx.Rw.nil S
  refine Sx.newRow S R 6 0 72 40 [] fun ac u v3 E4 X5 R S => Sx.run S 1 [] [(3, v3)] fun ac S => Sx.done <| κ2 _ _ <| wp_seq_k fun _ κ6 => Sx.seqP fun _ κ7 => Sx.run S 1 [] [(4, .int .i64 0)] fun ac S => Sx.done <| κ7 _ _ <| wp_block ?_
  refine Vp.loop (ι := Nat × Value × List PaintD) (fun p a' w' => p.1 ≤ l.length ∧ (p.2.2.map PaintD.strip = (l.take p.1).map PaintD.strip) ∧ Sx.Rw w w' [] [⟨72, 40, p.2.1, p.1, p.2.2.flatMap PaintD.cells⟩] ∧ Sx.Ow w.heap.size (Sx.Ob [] [⟨72, 40, p.2.1, p.1, p.2.2.flatMap PaintD.cells⟩]) (fun W => ∀ z ∈ p.2.2, z.okT w.heap.size W) w' ∧ Sx.St w a' w' 38 [(0, .slice a l.length cap), (2, .slice none 0 0), (3, p.2.1), (4, .int .i64 ((p.1 : Nat) : Int))] [] []) (fun p => l.length - p.1) (0, v3, []) ⟨Nat.zero_le _, rfl, R, (fun _ _ _ z hz => by cases hz), (S.sub [(0, .slice a l.length cap), (2, .slice none 0 0), (3, v3), (4, .int .i64 ((0 : Nat) : Int))]).noviews⟩ ?_
  rintro ⟨k, v, M⟩ ac u hI
  try dsimp only at hI
  obtain ⟨hk, hR, R, hF_M, S⟩ := hI
  refine wp_seq_k fun _ κ8 => Sx.seqP fun _ κ9 => Sx.run S 4 [] [(10, .bool (decide (((k : Nat) : Int) < ((l.length : Nat) : Int))))] fun ac S => Sx.done (κ9 _ _ ?_)
  refine Sx.cond S (fun hc10 => ?_) (fun hc10 => ?_)
  · refine wp_skip <| κ8 _ _ <| wp_seq_k fun _ κ11 => wp_block <| Sx.seqP (fun _ κ12 => ?_)
    have lt18 : k < l.length := by have := of_decide_eq_true hc10; omega
    obtain ⟨b13, o14, c15, hv, hb20, hr16⟩ := Vp.rowN_range2 h.1 (fun _ => rfl) (k) lt18
    simp only [Value.slice.injEq, true_and] at hv
    obtain ⟨rfl, rfl⟩ := hv
    obtain ⟨x19, hx17⟩ : ∃ z, l[k] = z := ⟨_, rfl⟩
    rw [hx17] at hr16
    have hxo := h.2 _ (hx17 ▸ List.getElem_mem lt18)
    have hxl := hl2 _ (hx17 ▸ List.getElem_mem lt18)
    have S := S.view0 hb20 hr16
    refine Sx.run S 4 [.idx k l.length, .mem 0 0] [(16, x19.v)] (hk := ⟨lt18, trivial⟩) fun ac S => Sx.newp S 5 (Sx.L [.int .i64 0, .int .u8 0, .int .u8 0, .int .u8 0, .int .u8 0, .int .i64 0, .int .i64 0, .int .i64 0, .int .i64 0, .int .i64 0, .slice none 0 0, .int .i64 0, .int .i64 0, .int .i64 0, .slice none 0 0, .int .i64 0] ++ Sx.za) fun ac u b21 E22 hb23 S => Sx.store S 0 (off := 0) (cs := x19.cells) rfl fun u C24 S => Sx.done <| κ12 _ _ <| Sx.seqP fun _ κ25 => Sx.news S 17 0 [] fun ac u b26 E27 hb28 S => Sx.run S 2 [.mem 1 10] [(19, x19.sv)] (fun ac S => ?_)
    obtain ⟨R, Y29⟩ := R.sync2 S (Sx.Stp.trans (Sx.Stp.boxv E22 hb23) (Sx.Stp.trans (Sx.Stp.chm C24 (by simp [Sx.vb])) (Sx.Stp.boxv E27 hb28)))
    have q30 := S.E.size
    have q31 := R.lt
    refine Sx.appE S (ad := ⟨b26, 0, none⟩) 20 tyStop (hxo.2.2.2.2.1.below S.E) (by have := hxl.1; omega) (fun ac u v32 E33 F34 S => ?_)
    obtain ⟨a1, c1, rfl⟩ := Cp.shape F34
    obtain ⟨R, Y35⟩ := R.sync2 S (Sx.Stp.ext E33)
    have G36 := Sx.On.imp (Sx.Dep.ow F34 q30 q31) fun _ h => h.le q30
    refine Sx.run S 1 [] [(21, .pointer (some ⟨b21, 10, none⟩))] fun ac S => Sx.store1 S 1 (off := 10) (v := .slice a1 x19.stops.length c1) rfl fun u C37 S => Sx.done <| κ25 _ _ <| Sx.seqP fun _ κ38 => Sx.news S 22 0 [] fun ac u b39 E40 hb41 S => Sx.run S 3 [.mem 2 14] [(25, x19.img.s)] (fun ac S => ?_)
    obtain ⟨R, Y42⟩ := R.sync2 S (Sx.Stp.trans (Sx.Stp.chm C37 (by simp [Sx.vb])) (Sx.Stp.boxv E40 hb41))
    have q43 := S.E.size
    have q44 := R.lt
    refine Sx.appE S (ad := ⟨b39, 0, none⟩) 26 tyPix (hxo.2.2.2.2.2.2.2.1.2.2.below S.E) (by have := hxl.2.1; omega) (fun ac u v45 E46 F47 S => ?_)
    obtain ⟨a2, c2, rfl⟩ := Cp.shape F47
    obtain ⟨R, Y48⟩ := R.sync2 S (Sx.Stp.ext E46)
    have G49 := Sx.On.imp (Sx.Dep.ow F47 q43 q44) fun _ h => h.le q43
    refine Sx.run S 2 [] [(28, .pointer (some ⟨b21, 14, none⟩))] fun ac S => Sx.store1 S 2 (off := 14) (v := .slice a2 x19.img.l.length c2) rfl fun u C50 S => Sx.done <| κ38 _ _ <| Sx.seqP fun _ κ51 => Sx.run S 2 [.mem 2 16] [(30, x19.t.v)] (fun ac S => ?_)
    obtain ⟨R, Y52⟩ := R.sync2 S (Sx.Stp.chm C50 (by simp [Sx.vb]))
    have q53 := S.E.size
    have q54 := R.lt
    refine Sx.callG S (some 31) (cloneAff_any (hxo.2.2.2.2.2.2.2.2.2.below S.E) hxl.2.2) ?_
    rintro e u ⟨t, rfl, ht, hst, E55⟩
    refine ⟨_, rfl, E55, fun ac S => ?_⟩
    obtain ⟨R, Y56⟩ := R.sync2 S (Sx.Stp.ext E55)
    have G57 := Sx.On.imp (Sx.Dep.ow ht q53 q54) fun _ h => h.le q53
    refine Sx.run S 1 [] [(32, .pointer (some ⟨b21, 16, none⟩))] fun ac S => Sx.store S 2 (off := 16) (cs := t.cells) rfl fun u C58 S => Sx.done <| κ51 _ _ <| Vp.region <| Sx.run S 2 [.mem 2 0] [(33, v), (34, .agg (Sx.L [.int .i64 x19.kind] ++ x19.color.cells ++ Sx.L [.int .i64 x19.p0.x, .int .i64 x19.p0.y, .int .i64 x19.p1.x, .int .i64 x19.p1.y, .int .i64 x19.radius, .slice a1 x19.stops.length c1, .int .i64 x19.spread, .int .i64 x19.img.w, .int .i64 x19.img.h, .slice a2 x19.img.l.length c2, .int .i64 x19.samp] ++ t.cells).toArray)] fun ac S => Sx.news S 35 1 (Sx.L [.int .i64 x19.kind] ++ x19.color.cells ++ Sx.L [.int .i64 x19.p0.x, .int .i64 x19.p0.y, .int .i64 x19.p1.x, .int .i64 x19.p1.y, .int .i64 x19.radius, .slice a1 x19.stops.length c1, .int .i64 x19.spread, .int .i64 x19.img.w, .int .i64 x19.img.h, .slice a2 x19.img.l.length c2, .int .i64 x19.samp] ++ t.cells) (fun ac u b59 E60 hb61 S => ?_)
    obtain ⟨R, Y63⟩ := R.sync2 S (Sx.Stp.trans (Sx.Stp.chm C58 (by simp [Sx.vb])) (Sx.Stp.boxv E60 hb61))
    have G62 := paint_cp hxo (Sx.On.step G36 (Sx.Stp.trans Y42 (Sx.Stp.trans Y48 (Sx.Stp.trans Y52 (Sx.Stp.trans Y56 Y63))))) (Sx.On.step G49 (Sx.Stp.trans Y52 (Sx.Stp.trans Y56 Y63))) (Sx.On.step G57 Y63)
    have hM : M.length = k := by have := congrArg List.length hR; simp at this; omega
    refine Sx.app S R 0 36 rfl tyPaint (Sx.raw_bx (m := 1) (k := 40) (A := (x19.re a1 c1 a2 c2 t).cells) (S.bx 0)) (by show k + 1 ≤ 9223372036854775807; omega) (by show (k + 1) * 520 ≤ 140737488355328; omega) fun ac u v64 X65 R S => Sx.run S 1 [] [(3, v64)] fun ac S => Sx.done <| κ11 _ _ <| Vp.region <| Sx.run S 3 [.re 12 (.int .i64 (IntKind.i64.wrap (((k : Nat) : Int) + 1))) (.int .i64 (((k + 1) : Nat) : Int))] [(4, .int .i64 (((k + 1) : Nat) : Int))] (hk := ⟨Sx.wrap_succ (by omega), trivial⟩) fun ac S => Sx.done ?_
    have S := S.dropB 4
    obtain ⟨R, Y66⟩ := R.sync2 S (Sx.Stp.dropv 4)
    show ∃ i', _ ∧ _
    exact ⟨((k + 1), v64, M ++ [x19.re a1 c1 a2 c2 t]), ⟨by omega, (strip_snoc lt18 hx17 hR (by show (x19.re a1 c1 a2 c2 t).strip = x19.strip; unfold PaintD.strip PaintD.re; rw [hst]; rfl)), R.as (congrArg (fun xs => [(⟨72, 40, v64, k + 1, xs⟩ : Sx.Row)]) (show M.flatMap PaintD.cells ++ (x19.re a1 c1 a2 c2 t).cells = (M ++ [x19.re a1 c1 a2 c2 t]).flatMap PaintD.cells by simp)), Sx.On.imp (Sx.On.and (Sx.On.step hF_M (Sx.Stp.trans Y29 (Sx.Stp.trans Y35 (Sx.Stp.trans Y42 (Sx.Stp.trans Y48 (Sx.Stp.trans Y52 (Sx.Stp.trans Y56 (Sx.Stp.trans Y63 (Sx.Stp.trans X65 Y66))))))))) (Sx.On.step G62 (Sx.Stp.trans X65 Y66))) fun _ h => all_snoc h.1 h.2, (S.sub [(0, .slice (some ⟨b13, o14, none⟩) l.length cap), (2, .slice none 0 0), (3, v64), (4, .int .i64 (((k + 1) : Nat) : Int))]).noviews⟩, by show _ - _ < _ - _; omega⟩
  · refine wp_exit <| κ6 _ _ <| Sx.seqP fun _ κ67 => Sx.run S 2 [] [(2, v)] fun ac S => Sx.done <| κ67 _ _ <| Vp.rt ?_
    refine Sx.ret1 S Tryz.results61 ?_
    have hk := of_decide_eq_false hc10
    obtain rfl : k = l.length := by omega
    exact ⟨_, M, rfl, Sx.On.and (Sx.own_rowT (fun _ => rfl) (R.own _ List.mem_cons_self) (by have := congrArg List.length hR; simp at this; exact this.symm) rfl) (Sx.Ow.dep hF_M), by simpa using hR, S.E⟩
theorem clone36_any {w : World} {nd : NodeD} (h : nd.ok w) (hl : nd.lim) :
    Calls Tryz.prog 25 #[nd.v] w fun e w' => ∃ m : NodeD, e = .returned m.v ∧ m.cp w.heap.size w' ∧ m.strip = nd.strip ∧ Ext w w' := by
  skip
  refine Sx.enter Tryz.func25 Tryz.ntmps25 fun ac S => Sx.seqP fun _ κ1 => Sx.newp S 1 nd.cells fun ac u b2 E3 hb4 S => Sx.newp S 2 (Sx.L [.int .i64 0, .int .i64 0, .int .i64 0] ++ Sx.za ++ Sx.L [.slice none 0 0, .int .i64 0, .int .u8 0, .int .i64 0, .bool false, .bool false, .slice none 0 0, .int .i64 0, .slice none 0 0, .int .i64 0, .int .i64 0, .int .i64 0, .int .i64 0, .slice none 0 0, .int .i64 0, .slice none 0 0, .int .i64 0, .int .i64 0, .slice none 0 0, .int .i64 0]) fun ac u b5 E6 hb7 S => Sx.done <| κ1 _ _ <| Sx.seqP fun _ κ8 => Sx.run S 1 [.mem 1 0] [(4, nd.v)] fun ac S => Sx.newp S 3 (Sx.L [.int .i64 0, .int .i64 0, .int .i64 0] ++ Sx.za ++ Sx.L [.slice none 0 0, .int .i64 0, .int .u8 0, .int .i64 0, .bool false, .bool false, .slice none 0 0, .int .i64 0, .slice none 0 0, .int .i64 0, .int .i64 0, .int .i64 0, .int .i64 0, .slice none 0 0, .int .i64 0, .slice none 0 0, .int .i64 0, .int .i64 0, .slice none 0 0, .int .i64 0]) fun ac u b9 E10 hb11 S => Sx.store S 0 (off := 0) (cs := nd.cells) rfl fun u C12 S => Sx.done <| κ8 _ _ <| Sx.seqP (fun _ κ13 => ?_)
  have y := S.E.size
  have z0 := (S.bx 0).1
  have z1 := (S.bx 1).1
  have z2 := (S.bx 2).1
  refine Sx.run S 2 [.mem 2 3] [(6, nd.t.v)] fun ac S => Sx.callG S (some 7) (cloneAff_any (h.2.2.2.1.below S.E) hl.1) ?_
  rintro e u ⟨t, rfl, ht, hs, E14⟩
  refine ⟨_, rfl, E14, fun ac S => ?_⟩
  refine Sx.run S 1 [] [(8, .pointer (some ⟨b9, 3, none⟩))] fun ac S => Sx.store S 0 (off := 3) (cs := t.cells) rfl (fun u C15 S => ?_)
  have Fs16 := Dep.ch ht C15 (by omega)
  refine Sx.done <| κ13 _ _ <| Sx.seqP fun _ κ17 => Sx.news S 9 0 [] fun ac u b18 E19 hb20 S => Sx.run S 2 [.mem 3 27] [(11, nd.cs)] (fun ac S => ?_)
  have y := S.E.size
  have z0 := (S.bx 0).1
  have z1 := (S.bx 1).1
  have z2 := (S.bx 2).1
  have z3 := (S.bx 3).1
  refine Sx.appE S (ad := ⟨b18, 0, none⟩) 12 tySeg (h.2.2.2.2.1.1.below S.E) (by have := hl.2.1; omega) (fun ac u v21 E22 F23 S => ?_)
  obtain ⟨a1, c1, rfl⟩ := Cp.shape F23
  refine Sx.run S 1 [] [(13, .pointer (some ⟨b9, 27, none⟩))] fun ac S => Sx.store1 S 1 (off := 27) (v := .slice a1 nd.clip.length c1) rfl (fun u C24 S => ?_)
  have Fs25 := Dep.ch (Fs16.ext (Ext.trans' E19 E22)) C24 (by omega)
  have Fs26 := Dep.ch F23 C24 (by omega)
  refine Sx.done <| κ17 _ _ <| Sx.seqP fun _ κ27 => Sx.news S 14 0 [] fun ac u b28 E29 hb30 S => Sx.run S 2 [.mem 4 33] [(16, nd.ps)] (fun ac S => ?_)
  have y := S.E.size
  have z0 := (S.bx 0).1
  have z1 := (S.bx 1).1
  have z2 := (S.bx 2).1
  have z3 := (S.bx 3).1
  have z4 := (S.bx 4).1
  refine Sx.appE S (ad := ⟨b28, 0, none⟩) 17 tySeg (h.2.2.2.2.2.2.2.1.1.below S.E) (by have := hl.2.2.1; omega) (fun ac u v31 E32 F33 S => ?_)
  obtain ⟨a2, c2, rfl⟩ := Cp.shape F33
  refine Sx.run S 1 [] [(18, .pointer (some ⟨b9, 33, none⟩))] fun ac S => Sx.store1 S 2 (off := 33) (v := .slice a2 nd.path.length c2) rfl (fun u C34 S => ?_)
  have Fs35 := Dep.ch (Fs25.ext (Ext.trans' E29 E32)) C34 (by omega)
  have Fs36 := Dep.ch (Fs26.ext (Ext.trans' E29 E32)) C34 (by omega)
  have Fs37 := Dep.ch F33 C34 (by omega)
  refine Sx.done <| κ27 _ _ <| Sx.seqP (fun _ κ38 => ?_)
  have y := S.E.size
  have z0 := (S.bx 0).1
  have z1 := (S.bx 1).1
  have z2 := (S.bx 2).1
  have z3 := (S.bx 3).1
  have z4 := (S.bx 4).1
  refine Sx.run S 2 [.mem 4 35] [(20, nd.fs)] fun ac S => Sx.callG S (some 21) (clonePaints_any (h.2.2.2.2.2.2.2.2.2.1.below S.E) hl.2.2.2.1 hl.2.2.2.2.1) ?_
  rintro e u ⟨v, l3, rfl, h3, s3, E39⟩
  obtain ⟨a3, c3, rfl⟩ := (Sx.On.self h3).1.1.shape
  refine ⟨_, rfl, E39, fun ac S => ?_⟩
  refine Sx.run S 1 [] [(22, .pointer (some ⟨b9, 35, none⟩))] fun ac S => Sx.store1 S 2 (off := 35) (v := .slice a3 l3.length c3) rfl (fun u C40 S => ?_)
  have Fs41 := Dep.ch (Fs35.ext E39) C40 (by omega)
  have Fs42 := Dep.ch (Fs36.ext E39) C40 (by omega)
  have Fs43 := Dep.ch (Fs37.ext E39) C40 (by omega)
  have Fs44 := Dep.ch h3 C40 (by omega)
  refine Sx.done <| κ38 _ _ <| Sx.seqP (fun _ κ45 => ?_)
  have y := S.E.size
  have z0 := (S.bx 0).1
  have z1 := (S.bx 1).1
  have z2 := (S.bx 2).1
  have z3 := (S.bx 3).1
  have z4 := (S.bx 4).1
  refine Sx.run S 2 [.mem 4 42] [(24, nd.ss)] fun ac S => Sx.callG S (some 25) (clonePaints_any (h.2.2.2.2.2.2.2.2.2.2.2.1.below S.E) hl.2.2.2.2.2.2.1 hl.2.2.2.2.2.2.2.1) ?_
  rintro e u ⟨v, l4, rfl, h4, s4, E46⟩
  obtain ⟨a4, c4, rfl⟩ := (Sx.On.self h4).1.1.shape
  refine ⟨_, rfl, E46, fun ac S => ?_⟩
  refine Sx.run S 1 [] [(26, .pointer (some ⟨b9, 42, none⟩))] fun ac S => Sx.store1 S 2 (off := 42) (v := .slice a4 l4.length c4) rfl (fun u C47 S => ?_)
  have Fs48 := Dep.ch (Fs41.ext E46) C47 (by omega)
  have Fs49 := Dep.ch (Fs42.ext E46) C47 (by omega)
  have Fs50 := Dep.ch (Fs43.ext E46) C47 (by omega)
  have Fs51 := Dep.ch (Fs44.ext E46) C47 (by omega)
  have Fs52 := Dep.ch h4 C47 (by omega)
  refine Sx.done <| κ45 _ _ <| Sx.seqP fun _ κ53 => Sx.news S 27 0 [] fun ac u b54 E55 hb56 S => Sx.run S 3 [.mem 5 40] [(30, nd.style.s)] (fun ac S => ?_)
  have y := S.E.size
  have z0 := (S.bx 0).1
  have z1 := (S.bx 1).1
  have z2 := (S.bx 2).1
  have z3 := (S.bx 3).1
  have z4 := (S.bx 4).1
  have z5 := (S.bx 5).1
  refine Sx.appE S (ad := ⟨b54, 0, none⟩) 31 tyInt ((rowN_one (f := i64v) h.2.2.2.2.2.2.2.2.2.2.1.2.2.2.2.1).below S.E) (by have := hl.2.2.2.2.2.1; omega) (fun ac u v57 E58 F59 S => ?_)
  obtain ⟨a5, c5, rfl⟩ := Cp.shape F59
  refine Sx.run S 2 [] [(33, .pointer (some ⟨b9, 40, none⟩))] fun ac S => Sx.store1 S 3 (off := 40) (v := .slice a5 nd.style.dash.length c5) rfl (fun u C60 S => ?_)
  have Fs61 := Dep.ch (Fs48.ext (Ext.trans' E55 E58)) C60 (by omega)
  have Fs62 := Dep.ch (Fs49.ext (Ext.trans' E55 E58)) C60 (by omega)
  have Fs63 := Dep.ch (Fs50.ext (Ext.trans' E55 E58)) C60 (by omega)
  have Fs64 := Dep.ch (Fs51.ext (Ext.trans' E55 E58)) C60 (by omega)
  have Fs65 := Dep.ch (Fs52.ext (Ext.trans' E55 E58)) C60 (by omega)
  have Fs66 := Dep.ch F59 C60 (by omega)
  refine Sx.done <| κ53 _ _ <| Sx.seqP fun _ κ67 => Sx.news S 34 0 [] fun ac u b68 E69 hb70 S => Sx.run S 3 [.mem 6 45] [(37, nd.img.s)] (fun ac S => ?_)
  have y := S.E.size
  have z0 := (S.bx 0).1
  have z1 := (S.bx 1).1
  have z2 := (S.bx 2).1
  have z3 := (S.bx 3).1
  have z4 := (S.bx 4).1
  have z5 := (S.bx 5).1
  have z6 := (S.bx 6).1
  refine Sx.appE S (ad := ⟨b68, 0, none⟩) 38 tyPix (h.2.2.2.2.2.2.2.2.2.2.2.2.1.2.2.below S.E) (by have := hl.2.2.2.2.2.2.2.2; omega) (fun ac u v71 E72 F73 S => ?_)
  obtain ⟨a6, c6, rfl⟩ := Cp.shape F73
  refine Sx.run S 2 [] [(40, .pointer (some ⟨b9, 45, none⟩))] fun ac S => Sx.store1 S 4 (off := 45) (v := .slice a6 nd.img.l.length c6) rfl (fun u C74 S => ?_)
  have Fs75 := Dep.ch (Fs61.ext (Ext.trans' E69 E72)) C74 (by omega)
  have Fs76 := Dep.ch (Fs62.ext (Ext.trans' E69 E72)) C74 (by omega)
  have Fs77 := Dep.ch (Fs63.ext (Ext.trans' E69 E72)) C74 (by omega)
  have Fs78 := Dep.ch (Fs64.ext (Ext.trans' E69 E72)) C74 (by omega)
  have Fs79 := Dep.ch (Fs65.ext (Ext.trans' E69 E72)) C74 (by omega)
  have Fs80 := Dep.ch (Fs66.ext (Ext.trans' E69 E72)) C74 (by omega)
  have Fs81 := Dep.ch F73 C74 (by omega)
  refine Sx.done <| κ67 _ _ <| Sx.seqP fun _ κ82 => Sx.run S 1 [.mem 4 0] [(41, .agg (Sx.L [.int .i64 nd.id, .int .i64 nd.kind, .int .i64 nd.depth] ++ t.cells ++ Sx.L [.slice a1 nd.clip.length c1, .int .i64 nd.clipRule, .int .u8 (nd.opacity.toNat : Int), .int .i64 nd.blend, .bool nd.isolated, .bool nd.knockout, .slice a2 nd.path.length c2, .int .i64 nd.fillRule, .slice a3 l3.length c3, .int .i64 nd.style.width, .int .i64 nd.style.join, .int .i64 nd.style.cap, .int .i64 nd.style.miter, .slice a5 nd.style.dash.length c5, .int .i64 nd.style.phase, .slice a4 l4.length c4, .int .i64 nd.img.w, .int .i64 nd.img.h, .slice a6 nd.img.l.length c6, .int .i64 nd.samp]).toArray)] fun ac S => Sx.store S 5 (off := 0) (cs := (Sx.L [.int .i64 nd.id, .int .i64 nd.kind, .int .i64 nd.depth] ++ t.cells ++ Sx.L [.slice a1 nd.clip.length c1, .int .i64 nd.clipRule, .int .u8 (nd.opacity.toNat : Int), .int .i64 nd.blend, .bool nd.isolated, .bool nd.knockout, .slice a2 nd.path.length c2, .int .i64 nd.fillRule, .slice a3 l3.length c3, .int .i64 nd.style.width, .int .i64 nd.style.join, .int .i64 nd.style.cap, .int .i64 nd.style.miter, .slice a5 nd.style.dash.length c5, .int .i64 nd.style.phase, .slice a4 l4.length c4, .int .i64 nd.img.w, .int .i64 nd.img.h, .slice a6 nd.img.l.length c6, .int .i64 nd.samp])) rfl (fun u C83 S => ?_)
  have Fs84 := Dep.ch Fs75 C83 (by omega)
  have Fs85 := Dep.ch Fs76 C83 (by omega)
  have Fs86 := Dep.ch Fs77 C83 (by omega)
  have Fs87 := Dep.ch Fs78 C83 (by omega)
  have Fs88 := Dep.ch Fs79 C83 (by omega)
  have Fs89 := Dep.ch Fs80 C83 (by omega)
  have Fs90 := Dep.ch Fs81 C83 (by omega)
  refine Sx.done <| κ82 _ _ <| Vp.rt ?_
  refine Sx.retc S 5 Tryz.results25 rfl (v := .agg (Sx.L [.int .i64 nd.id, .int .i64 nd.kind, .int .i64 nd.depth] ++ t.cells ++ Sx.L [.slice a1 nd.clip.length c1, .int .i64 nd.clipRule, .int .u8 (nd.opacity.toNat : Int), .int .i64 nd.blend, .bool nd.isolated, .bool nd.knockout, .slice a2 nd.path.length c2, .int .i64 nd.fillRule, .slice a3 l3.length c3, .int .i64 nd.style.width, .int .i64 nd.style.join, .int .i64 nd.style.cap, .int .i64 nd.style.miter, .slice a5 nd.style.dash.length c5, .int .i64 nd.style.phase, .slice a4 l4.length c4, .int .i64 nd.img.w, .int .i64 nd.img.h, .slice a6 nd.img.l.length c6, .int .i64 nd.samp]).toArray) ?_
  exact ⟨⟨nd.id, nd.kind, nd.depth, t, a1, c1, nd.clip, nd.clipRule, nd.opacity, nd.blend, nd.isolated, nd.knockout, a2, c2, nd.path, nd.fillRule, a3, c3, l3, ⟨nd.style.width, nd.style.join, nd.style.cap, nd.style.miter, a5, c5, nd.style.dash, nd.style.phase⟩, a4, c4, l4, ⟨nd.img.w, nd.img.h, a6, c6, nd.img.l⟩, nd.samp⟩, rfl, node_cp h rfl rfl rfl rfl rfl rfl rfl rfl rfl rfl rfl (aff_le Fs84 (by omega)) (Cp.mono Fs85 (by omega)) (Cp.mono Fs86 (by omega)) (paints_le Fs87 (by omega)) (paints_le Fs88 (by omega)) (Cp.mono Fs89 (by omega)) (Cp.mono Fs90 (by omega)), by unfold NodeD.strip; rw [hs, s3, s4]; rfl, S.E⟩
end Go.Proofs.YtcohmdeoocgmdaaGreatDoor
