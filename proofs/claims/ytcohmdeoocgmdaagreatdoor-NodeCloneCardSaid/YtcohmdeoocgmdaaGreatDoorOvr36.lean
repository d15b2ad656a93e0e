/- The law NodeClone: writing into a copy changes only the copy's memory. -/
import Derived.Test.YtcohmdeoocgmdaaGreatDoorCln36c
import Derived.Test.YtcohmdeoocgmdaaGreatDoorOw
namespace Go.Proofs.YtcohmdeoocgmdaaGreatDoor
open Go.RowKit
variable {α : Type} {K : Nat}
set_option linter.unusedVariables false
/-- The cells that stay: all of a paint but its kind, all of a node but its number. -/
def kpN (e : TypeId) (i : Nat) : Bool := (e == 72 && !(i % 40 == 0)) || (e == 38 && !(i % 47 == 0))
theorem kp_paint {i j q : Nat} (h1 : 0 < j) (h2 : j + q < 40) : kpN 72 (i * 40 + j + q) = true := by
 have : (i * 40 + j + q) % 40 = j + q := by omega
 simp [kpN, this]; omega
set_option maxRecDepth 100000 in
set_option maxHeartbeats 3200000 in
theorem overwrite_any {w : World} {nd : NodeD} {base : Nat} (h : nd.cp base w) (hb : base ≤ w.heap.size) :
  Calls Tryz.prog 28 #[nd.v] w fun e w' => e = .returned (.tuple #[]) ∧ Below base w w' := by
 have hT := Sx.On.self h
 refine Sx.enter Tryz.func28 Tryz.ntmps28 (fun ac S => ?_)
 have S := S.from hb
 refine Sx.seqP fun _ κ1 => Sx.newp S 1 nd.cells fun ac u b2 E3 hb4 S => Sx.done <| κ1 _ _ <| wp_seq_k fun _ κ5 => Sx.seqP fun _ κ6 => Sx.run S 4 [.mem 0 27] [(16, .int .i64 ((nd.clip.length : Nat) : Int)), (17, .int .i64 0)] fun ac S => Sx.done <| κ6 _ _ <| wp_block ?_
 refine Vp.loop (ι := Nat) (fun p a' w' => p ≤ nd.clip.length ∧ (Sx.Rl kpN base w w') ∧ Sx.St (Sx.cut base w) a' w' 181 [(0, nd.v), (1, .pointer (some ⟨b2, 0, none⟩)), (16, .int .i64 ((nd.clip.length : Nat) : Int)), (17, .int .i64 ((p : Nat) : Int))] [(b2, nd.cells)] []) (fun p => nd.clip.length - p) (0) ⟨Nat.zero_le _, (Sx.Rl.ext' (Sx.Rl.refl (kp := kpN) (base := base) (w := w)) E3 hb), (S.sub [(0, nd.v), (1, .pointer (some ⟨b2, 0, none⟩)), (16, .int .i64 ((nd.clip.length : Nat) : Int)), (17, .int .i64 ((0 : Nat) : Int))]).noviews⟩ ?_
 rintro k ac u hI
 try dsimp only at hI
 obtain ⟨hk, hR, S⟩ := hI
 refine Sx.seqP fun _ κ7 => Sx.run S 1 [] [(18, .bool (decide (((k : Nat) : Int) < ((nd.clip.length : Nat) : Int))))] fun ac S => Sx.done <| κ7 _ _ <| wp_seq_k (fun _ κ8 => ?_)
 refine Sx.cond S (fun hc9 => ?_) (fun hc9 => ?_)
 ·refine wp_skip <| κ8 _ _ <| wp_seq_k fun _ κ10 => wp_block <| Sx.seqP fun _ κ11 => Sx.run S 2 [] [(2, .int .i64 ((k : Nat) : Int))] fun ac S => Sx.done (κ11 _ _ ?_)
  have hmx : nd.clip.length ≤ 9223372036854775807 := (hT.1.2.2.2.2.1.1).len
  have lt12 : k < nd.clip.length := by have := of_decide_eq_true hc9; omega
  obtain ⟨g13, p13, hv13, hb13, hg13, r13, ho13, hs13⟩ := Sx.Ty.now (hT.2.2.1) (hR) (by omega)
  refine Vp.region <| Sx.run S 5 [.mem 0 27, .re 21 nd.cs (.slice (some ⟨g13, 0, none⟩) nd.clip.length p13), .idx k nd.clip.length] [(24, .pointer (some ⟨g13, 0 + k * 7, none⟩))] (hk := ⟨hv13, lt12, trivial⟩) fun ac S => Sx.storeT1 S kpN (off := 0 + k * 7) (v := .int .i64 9) ho13 (by omega) (Sx.cut_size hb) hb13 (Sx.ne_of_ge (m := w.heap.size) (by simp [Sx.vb]; omega) hg13) rfl (fun u X14 S => ?_)
  have hR15 := (hR).trans X14
  refine Sx.done <| κ10 _ _ <| Vp.region <| Sx.run S 2 [.re 25 (.int .i64 (IntKind.i64.wrap (((k : Nat) : Int) + 1))) (.int .i64 (((k + 1) : Nat) : Int))] [(17, .int .i64 (((k + 1) : Nat) : Int))] (hk := ⟨Sx.wrap_succ (by omega), trivial⟩) fun ac S => Sx.done ?_
  show ∃ i', _ ∧ _
  exact ⟨(k + 1), ⟨by omega, hR15, (S.sub [(0, nd.v), (1, .pointer (some ⟨b2, 0, none⟩)), (16, .int .i64 ((nd.clip.length : Nat) : Int)), (17, .int .i64 (((k + 1) : Nat) : Int))]).noviews⟩, by show _ - _ < _ - _; omega⟩
 ·refine wp_exit <| κ5 _ _ <| wp_seq_k fun _ κ16 => Sx.seqP fun _ κ17 => Sx.run S 4 [.mem 0 33] [(28, .int .i64 ((nd.path.length : Nat) : Int)), (29, .int .i64 0)] fun ac S => Sx.done <| κ17 _ _ <| wp_block ?_
  refine Vp.loop (ι := Nat) (fun p a' w' => p ≤ nd.path.length ∧ (Sx.Rl kpN base w w') ∧ Sx.St (Sx.cut base w) a' w' 181 [(0, nd.v), (1, .pointer (some ⟨b2, 0, none⟩)), (16, .int .i64 ((nd.clip.length : Nat) : Int)), (28, .int .i64 ((nd.path.length : Nat) : Int)), (29, .int .i64 ((p : Nat) : Int))] [(b2, nd.cells)] []) (fun p => nd.path.length - p) (0) ⟨Nat.zero_le _, hR, (S.sub [(0, nd.v), (1, .pointer (some ⟨b2, 0, none⟩)), (16, .int .i64 ((nd.clip.length : Nat) : Int)), (28, .int .i64 ((nd.path.length : Nat) : Int)), (29, .int .i64 ((0 : Nat) : Int))]).noviews⟩ ?_
  rintro k ac u hI
  try dsimp only at hI
  obtain ⟨hk, hR, S⟩ := hI
  refine Sx.seqP fun _ κ18 => Sx.run S 1 [] [(30, .bool (decide (((k : Nat) : Int) < ((nd.path.length : Nat) : Int))))] fun ac S => Sx.done <| κ18 _ _ <| wp_seq_k (fun _ κ19 => ?_)
  refine Sx.cond S (fun hc20 => ?_) (fun hc20 => ?_)
  ·refine wp_skip <| κ19 _ _ <| wp_seq_k fun _ κ21 => wp_block <| Sx.seqP fun _ κ22 => Sx.run S 2 [] [(3, .int .i64 ((k : Nat) : Int))] fun ac S => Sx.done (κ22 _ _ ?_)
   have hmx : nd.path.length ≤ 9223372036854775807 := (hT.1.2.2.2.2.2.2.2.1.1).len
   have lt23 : k < nd.path.length := by have := of_decide_eq_true hc20; omega
   obtain ⟨g24, p24, hv24, hb24, hg24, r24, ho24, hs24⟩ := Sx.Ty.now (hT.2.2.2.1) (hR) (by omega)
   refine Vp.region <| Sx.run S 5 [.mem 0 33, .re 33 nd.ps (.slice (some ⟨g24, 0, none⟩) nd.path.length p24), .idx k nd.path.length] [(36, .pointer (some ⟨g24, 0 + k * 7, none⟩))] (hk := ⟨hv24, lt23, trivial⟩) fun ac S => Sx.storeT1 S kpN (off := 0 + k * 7) (v := .int .i64 9) ho24 (by omega) (Sx.cut_size hb) hb24 (Sx.ne_of_ge (m := w.heap.size) (by simp [Sx.vb]; omega) hg24) rfl (fun u X25 S => ?_)
   have hR26 := (hR).trans X25
   refine Sx.done <| κ21 _ _ <| Vp.region <| Sx.run S 2 [.re 37 (.int .i64 (IntKind.i64.wrap (((k : Nat) : Int) + 1))) (.int .i64 (((k + 1) : Nat) : Int))] [(29, .int .i64 (((k + 1) : Nat) : Int))] (hk := ⟨Sx.wrap_succ (by omega), trivial⟩) fun ac S => Sx.done ?_
   show ∃ i', _ ∧ _
   exact ⟨(k + 1), ⟨by omega, hR26, (S.sub [(0, nd.v), (1, .pointer (some ⟨b2, 0, none⟩)), (16, .int .i64 ((nd.clip.length : Nat) : Int)), (28, .int .i64 ((nd.path.length : Nat) : Int)), (29, .int .i64 (((k + 1) : Nat) : Int))]).noviews⟩, by show _ - _ < _ - _; omega⟩
  ·refine wp_exit <| κ16 _ _ <| wp_seq_k fun _ κ27 => Sx.seqP fun _ κ28 => Sx.run S 5 [.mem 0 40] [(41, .int .i64 ((nd.style.dash.length : Nat) : Int)), (42, .int .i64 0)] fun ac S => Sx.done <| κ28 _ _ <| wp_block ?_
   refine Vp.loop (ι := Nat) (fun p a' w' => p ≤ nd.style.dash.length ∧ (Sx.Rl kpN base w w') ∧ Sx.St (Sx.cut base w) a' w' 181 [(0, nd.v), (1, .pointer (some ⟨b2, 0, none⟩)), (16, .int .i64 ((nd.clip.length : Nat) : Int)), (28, .int .i64 ((nd.path.length : Nat) : Int)), (41, .int .i64 ((nd.style.dash.length : Nat) : Int)), (42, .int .i64 ((p : Nat) : Int))] [(b2, nd.cells)] []) (fun p => nd.style.dash.length - p) (0) ⟨Nat.zero_le _, hR, (S.sub [(0, nd.v), (1, .pointer (some ⟨b2, 0, none⟩)), (16, .int .i64 ((nd.clip.length : Nat) : Int)), (28, .int .i64 ((nd.path.length : Nat) : Int)), (41, .int .i64 ((nd.style.dash.length : Nat) : Int)), (42, .int .i64 ((0 : Nat) : Int))]).noviews⟩ ?_
   rintro k ac u hI
   try dsimp only at hI
   obtain ⟨hk, hR, S⟩ := hI
   refine Sx.seqP fun _ κ29 => Sx.run S 1 [] [(43, .bool (decide (((k : Nat) : Int) < ((nd.style.dash.length : Nat) : Int))))] fun ac S => Sx.done <| κ29 _ _ <| wp_seq_k (fun _ κ30 => ?_)
   refine Sx.cond S (fun hc31 => ?_) (fun hc31 => ?_)
   ·refine wp_skip <| κ30 _ _ <| wp_seq_k fun _ κ32 => wp_block <| Sx.seqP fun _ κ33 => Sx.run S 2 [] [(4, .int .i64 ((k : Nat) : Int))] fun ac S => Sx.done (κ33 _ _ ?_)
    have hmx : nd.style.dash.length ≤ 9223372036854775807 := (rowN_one (f := i64v) hT.1.2.2.2.2.2.2.2.2.2.2.1.2.2.2.2.1).len
    have lt34 : k < nd.style.dash.length := by have := of_decide_eq_true hc31; omega
    obtain ⟨g35, p35, hv35, hb35, hg35, r35, ho35, hs35⟩ := Sx.Ty.now (hT.2.2.2.2.2.2.1) (hR) (by omega)
    refine Vp.region <| Sx.run S 5 [.mem 0 40, .re 47 nd.style.s (.slice (some ⟨g35, 0, none⟩) nd.style.dash.length p35), .idx k nd.style.dash.length] [(49, .pointer (some ⟨g35, 0 + k * 1, none⟩))] (hk := ⟨hv35, lt34, trivial⟩) fun ac S => Sx.storeT1 S kpN (off := 0 + k * 1) (v := .int .i64 (-1)) ho35 (by omega) (Sx.cut_size hb) hb35 (Sx.ne_of_ge (m := w.heap.size) (by simp [Sx.vb]; omega) hg35) rfl (fun u X36 S => ?_)
    have hR37 := (hR).trans X36
    refine Sx.done <| κ32 _ _ <| Vp.region <| Sx.run S 2 [.re 50 (.int .i64 (IntKind.i64.wrap (((k : Nat) : Int) + 1))) (.int .i64 (((k + 1) : Nat) : Int))] [(42, .int .i64 (((k + 1) : Nat) : Int))] (hk := ⟨Sx.wrap_succ (by omega), trivial⟩) fun ac S => Sx.done ?_
    show ∃ i', _ ∧ _
    exact ⟨(k + 1), ⟨by omega, hR37, (S.sub [(0, nd.v), (1, .pointer (some ⟨b2, 0, none⟩)), (16, .int .i64 ((nd.clip.length : Nat) : Int)), (28, .int .i64 ((nd.path.length : Nat) : Int)), (41, .int .i64 ((nd.style.dash.length : Nat) : Int)), (42, .int .i64 (((k + 1) : Nat) : Int))]).noviews⟩, by show _ - _ < _ - _; omega⟩
   ·refine wp_exit <| κ27 _ _ <| wp_seq_k fun _ κ38 => Sx.seqP fun _ κ39 => Sx.run S 5 [.mem 0 45] [(54, .int .i64 ((nd.img.l.length : Nat) : Int)), (55, .int .i64 0)] fun ac S => Sx.done <| κ39 _ _ <| wp_block ?_
    refine Vp.loop (ι := Nat) (fun p a' w' => p ≤ nd.img.l.length ∧ (Sx.Rl kpN base w w') ∧ Sx.St (Sx.cut base w) a' w' 181 [(0, nd.v), (1, .pointer (some ⟨b2, 0, none⟩)), (16, .int .i64 ((nd.clip.length : Nat) : Int)), (28, .int .i64 ((nd.path.length : Nat) : Int)), (41, .int .i64 ((nd.style.dash.length : Nat) : Int)), (54, .int .i64 ((nd.img.l.length : Nat) : Int)), (55, .int .i64 ((p : Nat) : Int))] [(b2, nd.cells)] []) (fun p => nd.img.l.length - p) (0) ⟨Nat.zero_le _, hR, (S.sub [(0, nd.v), (1, .pointer (some ⟨b2, 0, none⟩)), (16, .int .i64 ((nd.clip.length : Nat) : Int)), (28, .int .i64 ((nd.path.length : Nat) : Int)), (41, .int .i64 ((nd.style.dash.length : Nat) : Int)), (54, .int .i64 ((nd.img.l.length : Nat) : Int)), (55, .int .i64 ((0 : Nat) : Int))]).noviews⟩ ?_
    rintro k ac u hI
    try dsimp only at hI
    obtain ⟨hk, hR, S⟩ := hI
    refine Sx.seqP fun _ κ40 => Sx.run S 1 [] [(56, .bool (decide (((k : Nat) : Int) < ((nd.img.l.length : Nat) : Int))))] fun ac S => Sx.done <| κ40 _ _ <| wp_seq_k (fun _ κ41 => ?_)
    refine Sx.cond S (fun hc42 => ?_) (fun hc42 => ?_)
    ·refine wp_skip <| κ41 _ _ <| wp_seq_k fun _ κ43 => wp_block <| Sx.seqP fun _ κ44 => Sx.run S 2 [] [(5, .int .i64 ((k : Nat) : Int))] fun ac S => Sx.done (κ44 _ _ ?_)
     have hmx : nd.img.l.length ≤ 9223372036854775807 := (hT.1.2.2.2.2.2.2.2.2.2.2.2.2.1.2.2).len
     have lt45 : k < nd.img.l.length := by have := of_decide_eq_true hc42; omega
     obtain ⟨g46, p46, hv46, hb46, hg46, r46, ho46, hs46⟩ := Sx.Ty.now (hT.2.2.2.2.2.2.2) (hR) (by omega)
     refine Vp.region <| Sx.run S 6 [.mem 0 45, .re 60 nd.img.s (.slice (some ⟨g46, 0, none⟩) nd.img.l.length p46), .idx k nd.img.l.length] [(62, .agg #[.int .u8 9, .int .u8 0, .int .u8 0, .int .u8 0]), (63, .pointer (some ⟨g46, 0 + k * 4, none⟩))] (hk := ⟨hv46, lt45, trivial⟩) fun ac S => Sx.storeT S kpN (off := 0 + k * 4) (cs := [.int .u8 9, .int .u8 0, .int .u8 0, .int .u8 0]) ho46 (by simp; omega) (Sx.cut_size hb) hb46 (Sx.ne_of_ge (m := w.heap.size) (by simp [Sx.vb]; omega) hg46) (fun _ _ => rfl) (fun u X47 S => ?_)
     have hR48 := (hR).trans X47
     refine Sx.done <| κ43 _ _ <| Vp.region <| Sx.run S 2 [.re 64 (.int .i64 (IntKind.i64.wrap (((k : Nat) : Int) + 1))) (.int .i64 (((k + 1) : Nat) : Int))] [(55, .int .i64 (((k + 1) : Nat) : Int))] (hk := ⟨Sx.wrap_succ (by omega), trivial⟩) fun ac S => Sx.done ?_
     show ∃ i', _ ∧ _
     exact ⟨(k + 1), ⟨by omega, hR48, (S.sub [(0, nd.v), (1, .pointer (some ⟨b2, 0, none⟩)), (16, .int .i64 ((nd.clip.length : Nat) : Int)), (28, .int .i64 ((nd.path.length : Nat) : Int)), (41, .int .i64 ((nd.style.dash.length : Nat) : Int)), (54, .int .i64 ((nd.img.l.length : Nat) : Int)), (55, .int .i64 (((k + 1) : Nat) : Int))]).noviews⟩, by show _ - _ < _ - _; omega⟩
    ·refine wp_exit <| κ38 _ _ <| wp_seq_k fun _ κ49 => Sx.seqP fun _ κ50 => Sx.run S 4 [.mem 0 35, .mem 0 42] [(66, nd.fs), (68, nd.ss)] fun ac S => Sx.news S 69 2 [nd.fs, nd.ss] fun ac u b51 E52 hb53 S => Sx.run S 2 [] [(70, .int .i64 2), (71, .int .i64 0)] fun ac S => Sx.done <| κ50 _ _ <| wp_block ?_
     have hz : ∀ b ∈ Sx.vb [(b51, [nd.fs, nd.ss]), (b2, nd.cells)], w.heap.size ≤ b := by have := hR.bel.size; simp [Sx.vb]; omega
     refine wp_loop_rounds 3 ?_
     rw [rounds_succ]
     refine Sx.seqP fun _ κ54 => Sx.run S 1 [] [(72, .bool true)] fun ac S => Sx.done <| κ54 _ _ <| wp_seq_k fun _ κ55 => Sx.condT S <| wp_skip <| κ55 _ _ <| wp_seq_k fun _ κ56 => wp_block <| Sx.seqP fun _ κ57 => Sx.run S 3 [.mem 0 0] [(7, nd.fs)] fun ac S => Sx.done <| κ57 _ _ <| Sx.seqP fun _ κ58 => Sx.run S 3 [] [(76, .int .i64 ((nd.fill.length : Nat) : Int)), (77, .int .i64 0)] fun ac S => Sx.done <| κ58 _ _ <| wp_block ?_
     refine Vp.loop (ι := Nat) (fun p a' w' => p ≤ nd.fill.length ∧ (Sx.Rl kpN base w w') ∧ Sx.St (Sx.cut base w) a' w' 181 [(0, nd.v), (1, .pointer (some ⟨b2, 0, none⟩)), (7, nd.fs), (16, .int .i64 ((nd.clip.length : Nat) : Int)), (28, .int .i64 ((nd.path.length : Nat) : Int)), (41, .int .i64 ((nd.style.dash.length : Nat) : Int)), (54, .int .i64 ((nd.img.l.length : Nat) : Int)), (69, .slice (some ⟨b51, 0, none⟩) 2 2), (70, .int .i64 2), (71, .int .i64 0), (76, .int .i64 ((nd.fill.length : Nat) : Int)), (77, .int .i64 ((p : Nat) : Int))] [(b51, [nd.fs, nd.ss]), (b2, nd.cells)] []) (fun p => nd.fill.length - p) (0) ⟨Nat.zero_le _, (Sx.Rl.ext' hR E52 hb), (S.sub [(0, nd.v), (1, .pointer (some ⟨b2, 0, none⟩)), (7, nd.fs), (16, .int .i64 ((nd.clip.length : Nat) : Int)), (28, .int .i64 ((nd.path.length : Nat) : Int)), (41, .int .i64 ((nd.style.dash.length : Nat) : Int)), (54, .int .i64 ((nd.img.l.length : Nat) : Int)), (69, .slice (some ⟨b51, 0, none⟩) 2 2), (70, .int .i64 2), (71, .int .i64 0), (76, .int .i64 ((nd.fill.length : Nat) : Int)), (77, .int .i64 ((0 : Nat) : Int))]).noviews⟩ ?_
     rintro i ac u hI
     try dsimp only at hI
     obtain ⟨hk, hR, S⟩ := hI
     refine Sx.seqP fun _ κ59 => Sx.run S 1 [] [(78, .bool (decide (((i : Nat) : Int) < ((nd.fill.length : Nat) : Int))))] fun ac S => Sx.done <| κ59 _ _ <| wp_seq_k (fun _ κ60 => ?_)
     refine Sx.cond S (fun hc61 => ?_) (fun hc61 => ?_)
     ·refine wp_skip <| κ60 _ _ <| wp_seq_k fun _ κ62 => wp_block <| Sx.seqP fun _ κ63 => Sx.run S 2 [] [(8, .int .i64 ((i : Nat) : Int))] fun ac S => Sx.done <| κ63 _ _ <| wp_seq_k fun _ κ64 => Sx.seqP (fun _ κ65 => ?_)
      have hmi : nd.fill.length ≤ 9223372036854775807 := hT.2.2.2.2.1.1.1.len
      have lt66 : i < nd.fill.length := by have := of_decide_eq_true hc61; omega
      obtain ⟨g67, p67, hv67, hb67, hg67, r67, ho67, hs67⟩ := Sx.Ty.now (hT.2.2.2.2.1.1.2) (hR) (by omega)
      have hr68 := Sx.RowT.now (hT.2.2.2.2.1.1) (hR) lt66 10 1 (cs := [nd.fill[i].sv]) (by show _ + 1 ≤ 40; decide) rfl (fun q hq => kp_paint (by decide) (by simp at hq; omega)) hv67
      have S := S.view (Nat.lt_of_lt_of_le hg67 (hR).bel.size) hr68 (Sx.ne_of_ge hz hg67)
      refine Sx.run S 7 [.re 80 nd.fs (.slice (some ⟨g67, 0, none⟩) nd.fill.length p67), .idx i nd.fill.length, .mem 2 0] [(85, .int .i64 ((nd.fill[i].stops.length : Nat) : Int)), (86, .int .i64 0)] (hk := ⟨hv67, lt66, trivial⟩) fun ac S => Sx.done <| κ65 _ _ <| wp_block ?_
      refine Vp.loop (ι := Nat) (fun p a' w' => p ≤ nd.fill[i].stops.length ∧ (Sx.Rl kpN base w w') ∧ Sx.St (Sx.cut base w) a' w' 181 [(0, nd.v), (1, .pointer (some ⟨b2, 0, none⟩)), (7, nd.fs), (8, .int .i64 ((i : Nat) : Int)), (16, .int .i64 ((nd.clip.length : Nat) : Int)), (28, .int .i64 ((nd.path.length : Nat) : Int)), (41, .int .i64 ((nd.style.dash.length : Nat) : Int)), (54, .int .i64 ((nd.img.l.length : Nat) : Int)), (69, .slice (some ⟨b51, 0, none⟩) 2 2), (70, .int .i64 2), (71, .int .i64 0), (76, .int .i64 ((nd.fill.length : Nat) : Int)), (77, .int .i64 ((i : Nat) : Int)), (85, .int .i64 ((nd.fill[i].stops.length : Nat) : Int)), (86, .int .i64 ((p : Nat) : Int))] [(b51, [nd.fs, nd.ss]), (b2, nd.cells)] []) (fun p => nd.fill[i].stops.length - p) (0) ⟨Nat.zero_le _, hR, (S.sub [(0, nd.v), (1, .pointer (some ⟨b2, 0, none⟩)), (7, nd.fs), (8, .int .i64 ((i : Nat) : Int)), (16, .int .i64 ((nd.clip.length : Nat) : Int)), (28, .int .i64 ((nd.path.length : Nat) : Int)), (41, .int .i64 ((nd.style.dash.length : Nat) : Int)), (54, .int .i64 ((nd.img.l.length : Nat) : Int)), (69, .slice (some ⟨b51, 0, none⟩) 2 2), (70, .int .i64 2), (71, .int .i64 0), (76, .int .i64 ((nd.fill.length : Nat) : Int)), (77, .int .i64 ((i : Nat) : Int)), (85, .int .i64 ((nd.fill[i].stops.length : Nat) : Int)), (86, .int .i64 ((0 : Nat) : Int))]).noviews⟩ ?_
      rintro k ac u hI
      try dsimp only at hI
      obtain ⟨hk, hR, S⟩ := hI
      refine Sx.seqP fun _ κ69 => Sx.run S 1 [] [(87, .bool (decide (((k : Nat) : Int) < ((nd.fill[i].stops.length : Nat) : Int))))] fun ac S => Sx.done <| κ69 _ _ <| wp_seq_k (fun _ κ70 => ?_)
      refine Sx.cond S (fun hc71 => ?_) (fun hc71 => ?_)
      ·refine wp_skip <| κ70 _ _ <| wp_seq_k fun _ κ72 => wp_block <| Sx.seqP fun _ κ73 => Sx.run S 2 [] [(9, .int .i64 ((k : Nat) : Int))] fun ac S => Sx.done (κ73 _ _ ?_)
       have hmx : nd.fill[i].stops.length ≤ 9223372036854775807 := ((hT.2.2.2.2.1.2 nd.fill[i] (List.getElem_mem lt66)).1.2.2.2.2.1).len
       have lt74 : k < nd.fill[i].stops.length := by have := of_decide_eq_true hc71; omega
       obtain ⟨g75, p75, hv75, hb75, hg75, r75, ho75, hs75⟩ := Sx.Ty.now (hT.2.2.2.2.1.1.2) (hR) (by omega)
       have hr76 := Sx.RowT.now (hT.2.2.2.2.1.1) (hR) lt66 10 1 (cs := [nd.fill[i].sv]) (by show _ + 1 ≤ 40; decide) rfl (fun q hq => kp_paint (by decide) (by simp at hq; omega)) hv75
       have S := S.view (Nat.lt_of_lt_of_le hg75 (hR).bel.size) hr76 (Sx.ne_of_ge hz hg75)
       obtain ⟨g77, p77, hv77, hb77, hg77, r77, ho77, hs77⟩ := Sx.Ty.now ((hT.2.2.2.2.1.2 nd.fill[i] (List.getElem_mem lt66)).2.1) (hR) (by omega)
       refine Vp.region <| Sx.run S 8 [.re 89 nd.fs (.slice (some ⟨g75, 0, none⟩) nd.fill.length p75), .idx i nd.fill.length, .mem 2 0, .re 93 (nd.fill[i].sv) (.slice (some ⟨g77, 0, none⟩) (nd.fill[i].stops.length) p77), .idx k nd.fill[i].stops.length] [(96, .pointer (some ⟨g77, 0 + k * 5, none⟩))] (hk := ⟨hv75, lt66, hv77, lt74, trivial⟩) fun ac S => Sx.storeT1 S kpN (off := 0 + k * 5) (v := .int .i64 (-1)) ho77 (by omega) (Sx.cut_size hb) hb77 (Sx.ne_of_ge hz hg77) rfl (fun u X78 S => ?_)
       have hR79 := (hR).trans X78
       refine Sx.done <| κ72 _ _ <| Vp.region <| Sx.run S 2 [.re 97 (.int .i64 (IntKind.i64.wrap (((k : Nat) : Int) + 1))) (.int .i64 (((k + 1) : Nat) : Int))] [(86, .int .i64 (((k + 1) : Nat) : Int))] (hk := ⟨Sx.wrap_succ (by omega), trivial⟩) fun ac S => Sx.done ?_
       show ∃ i', _ ∧ _
       exact ⟨(k + 1), ⟨by omega, hR79, (S.sub [(0, nd.v), (1, .pointer (some ⟨b2, 0, none⟩)), (7, nd.fs), (8, .int .i64 ((i : Nat) : Int)), (16, .int .i64 ((nd.clip.length : Nat) : Int)), (28, .int .i64 ((nd.path.length : Nat) : Int)), (41, .int .i64 ((nd.style.dash.length : Nat) : Int)), (54, .int .i64 ((nd.img.l.length : Nat) : Int)), (69, .slice (some ⟨b51, 0, none⟩) 2 2), (70, .int .i64 2), (71, .int .i64 0), (76, .int .i64 ((nd.fill.length : Nat) : Int)), (77, .int .i64 ((i : Nat) : Int)), (85, .int .i64 ((nd.fill[i].stops.length : Nat) : Int)), (86, .int .i64 (((k + 1) : Nat) : Int))]).noviews⟩, by show _ - _ < _ - _; omega⟩
      ·refine wp_exit <| κ64 _ _ <| wp_seq_k fun _ κ80 => Sx.seqP (fun _ κ81 => ?_)
       obtain ⟨g82, p82, hv82, hb82, hg82, r82, ho82, hs82⟩ := Sx.Ty.now (hT.2.2.2.2.1.1.2) (hR) (by omega)
       have hr83 := Sx.RowT.now (hT.2.2.2.2.1.1) (hR) lt66 14 1 (cs := [nd.fill[i].img.s]) (by show _ + 1 ≤ 40; decide) rfl (fun q hq => kp_paint (by decide) (by simp at hq; omega)) hv82
       have S := S.view (Nat.lt_of_lt_of_le hg82 (hR).bel.size) hr83 (Sx.ne_of_ge hz hg82)
       refine Sx.run S 8 [.re 98 nd.fs (.slice (some ⟨g82, 0, none⟩) nd.fill.length p82), .idx i nd.fill.length, .mem 2 0] [(104, .int .i64 ((nd.fill[i].img.l.length : Nat) : Int)), (105, .int .i64 0)] (hk := ⟨hv82, lt66, trivial⟩) fun ac S => Sx.done <| κ81 _ _ <| wp_block ?_
       refine Vp.loop (ι := Nat) (fun p a' w' => p ≤ nd.fill[i].img.l.length ∧ (Sx.Rl kpN base w w') ∧ Sx.St (Sx.cut base w) a' w' 181 [(0, nd.v), (1, .pointer (some ⟨b2, 0, none⟩)), (7, nd.fs), (8, .int .i64 ((i : Nat) : Int)), (16, .int .i64 ((nd.clip.length : Nat) : Int)), (28, .int .i64 ((nd.path.length : Nat) : Int)), (41, .int .i64 ((nd.style.dash.length : Nat) : Int)), (54, .int .i64 ((nd.img.l.length : Nat) : Int)), (69, .slice (some ⟨b51, 0, none⟩) 2 2), (70, .int .i64 2), (71, .int .i64 0), (76, .int .i64 ((nd.fill.length : Nat) : Int)), (77, .int .i64 ((i : Nat) : Int)), (85, .int .i64 ((nd.fill[i].stops.length : Nat) : Int)), (104, .int .i64 ((nd.fill[i].img.l.length : Nat) : Int)), (105, .int .i64 ((p : Nat) : Int))] [(b51, [nd.fs, nd.ss]), (b2, nd.cells)] []) (fun p => nd.fill[i].img.l.length - p) (0) ⟨Nat.zero_le _, hR, (S.sub [(0, nd.v), (1, .pointer (some ⟨b2, 0, none⟩)), (7, nd.fs), (8, .int .i64 ((i : Nat) : Int)), (16, .int .i64 ((nd.clip.length : Nat) : Int)), (28, .int .i64 ((nd.path.length : Nat) : Int)), (41, .int .i64 ((nd.style.dash.length : Nat) : Int)), (54, .int .i64 ((nd.img.l.length : Nat) : Int)), (69, .slice (some ⟨b51, 0, none⟩) 2 2), (70, .int .i64 2), (71, .int .i64 0), (76, .int .i64 ((nd.fill.length : Nat) : Int)), (77, .int .i64 ((i : Nat) : Int)), (85, .int .i64 ((nd.fill[i].stops.length : Nat) : Int)), (104, .int .i64 ((nd.fill[i].img.l.length : Nat) : Int)), (105, .int .i64 ((0 : Nat) : Int))]).noviews⟩ ?_
       rintro k ac u hI
       try dsimp only at hI
       obtain ⟨hk, hR, S⟩ := hI
       refine Sx.seqP fun _ κ84 => Sx.run S 1 [] [(106, .bool (decide (((k : Nat) : Int) < ((nd.fill[i].img.l.length : Nat) : Int))))] fun ac S => Sx.done <| κ84 _ _ <| wp_seq_k (fun _ κ85 => ?_)
       refine Sx.cond S (fun hc86 => ?_) (fun hc86 => ?_)
       ·refine wp_skip <| κ85 _ _ <| wp_seq_k fun _ κ87 => wp_block <| Sx.seqP fun _ κ88 => Sx.run S 2 [] [(10, .int .i64 ((k : Nat) : Int))] fun ac S => Sx.done (κ88 _ _ ?_)
        have hmx : nd.fill[i].img.l.length ≤ 9223372036854775807 := ((hT.2.2.2.2.1.2 nd.fill[i] (List.getElem_mem lt66)).1.2.2.2.2.2.2.2.1.2.2).len
        have lt89 : k < nd.fill[i].img.l.length := by have := of_decide_eq_true hc86; omega
        obtain ⟨g90, p90, hv90, hb90, hg90, r90, ho90, hs90⟩ := Sx.Ty.now (hT.2.2.2.2.1.1.2) (hR) (by omega)
        have hr91 := Sx.RowT.now (hT.2.2.2.2.1.1) (hR) lt66 14 1 (cs := [nd.fill[i].img.s]) (by show _ + 1 ≤ 40; decide) rfl (fun q hq => kp_paint (by decide) (by simp at hq; omega)) hv90
        have S := S.view (Nat.lt_of_lt_of_le hg90 (hR).bel.size) hr91 (Sx.ne_of_ge hz hg90)
        obtain ⟨g92, p92, hv92, hb92, hg92, r92, ho92, hs92⟩ := Sx.Ty.now ((hT.2.2.2.2.1.2 nd.fill[i] (List.getElem_mem lt66)).2.2.1) (hR) (by omega)
        refine Vp.region <| Sx.run S 9 [.re 108 nd.fs (.slice (some ⟨g90, 0, none⟩) nd.fill.length p90), .idx i nd.fill.length, .mem 2 0, .re 113 (nd.fill[i].img.s) (.slice (some ⟨g92, 0, none⟩) (nd.fill[i].img.l.length) p92), .idx k nd.fill[i].img.l.length] [(115, .agg #[.int .u8 9, .int .u8 0, .int .u8 0, .int .u8 0]), (116, .pointer (some ⟨g92, 0 + k * 4, none⟩))] (hk := ⟨hv90, lt66, hv92, lt89, trivial⟩) fun ac S => Sx.storeT S kpN (off := 0 + k * 4) (cs := [.int .u8 9, .int .u8 0, .int .u8 0, .int .u8 0]) ho92 (by simp; omega) (Sx.cut_size hb) hb92 (Sx.ne_of_ge hz hg92) (fun _ _ => rfl) (fun u X93 S => ?_)
        have hR94 := (hR).trans X93
        refine Sx.done <| κ87 _ _ <| Vp.region <| Sx.run S 2 [.re 117 (.int .i64 (IntKind.i64.wrap (((k : Nat) : Int) + 1))) (.int .i64 (((k + 1) : Nat) : Int))] [(105, .int .i64 (((k + 1) : Nat) : Int))] (hk := ⟨Sx.wrap_succ (by omega), trivial⟩) fun ac S => Sx.done ?_
        show ∃ i', _ ∧ _
        exact ⟨(k + 1), ⟨by omega, hR94, (S.sub [(0, nd.v), (1, .pointer (some ⟨b2, 0, none⟩)), (7, nd.fs), (8, .int .i64 ((i : Nat) : Int)), (16, .int .i64 ((nd.clip.length : Nat) : Int)), (28, .int .i64 ((nd.path.length : Nat) : Int)), (41, .int .i64 ((nd.style.dash.length : Nat) : Int)), (54, .int .i64 ((nd.img.l.length : Nat) : Int)), (69, .slice (some ⟨b51, 0, none⟩) 2 2), (70, .int .i64 2), (71, .int .i64 0), (76, .int .i64 ((nd.fill.length : Nat) : Int)), (77, .int .i64 ((i : Nat) : Int)), (85, .int .i64 ((nd.fill[i].stops.length : Nat) : Int)), (104, .int .i64 ((nd.fill[i].img.l.length : Nat) : Int)), (105, .int .i64 (((k + 1) : Nat) : Int))]).noviews⟩, by show _ - _ < _ - _; omega⟩
       ·refine wp_exit <| κ80 _ _ <| wp_seq_k fun _ κ95 => Sx.seqP (fun _ κ96 => ?_)
        obtain ⟨g97, p97, hv97, hb97, hg97, r97, ho97, hs97⟩ := Sx.Ty.now (hT.2.2.2.2.1.1.2) (hR) (by omega)
        have hr98 := Sx.RowT.now (hT.2.2.2.2.1.1) (hR) lt66 17 1 (cs := [nd.fill[i].t.a.s1]) (by show _ + 1 ≤ 40; decide) rfl (fun q hq => kp_paint (by decide) (by simp at hq; omega)) hv97
        have S := S.view (Nat.lt_of_lt_of_le hg97 (hR).bel.size) hr98 (Sx.ne_of_ge hz hg97)
        refine Sx.run S 10 [.re 118 nd.fs (.slice (some ⟨g97, 0, none⟩) nd.fill.length p97), .idx i nd.fill.length, .mem 2 0] [(126, .int .i64 ((nd.fill[i].t.a.l1.length : Nat) : Int)), (127, .int .i64 0)] (hk := ⟨hv97, lt66, trivial⟩) fun ac S => Sx.done <| κ96 _ _ <| wp_block ?_
        refine Vp.loop (ι := Nat) (fun p a' w' => p ≤ nd.fill[i].t.a.l1.length ∧ (Sx.Rl kpN base w w') ∧ Sx.St (Sx.cut base w) a' w' 181 [(0, nd.v), (1, .pointer (some ⟨b2, 0, none⟩)), (7, nd.fs), (8, .int .i64 ((i : Nat) : Int)), (16, .int .i64 ((nd.clip.length : Nat) : Int)), (28, .int .i64 ((nd.path.length : Nat) : Int)), (41, .int .i64 ((nd.style.dash.length : Nat) : Int)), (54, .int .i64 ((nd.img.l.length : Nat) : Int)), (69, .slice (some ⟨b51, 0, none⟩) 2 2), (70, .int .i64 2), (71, .int .i64 0), (76, .int .i64 ((nd.fill.length : Nat) : Int)), (77, .int .i64 ((i : Nat) : Int)), (85, .int .i64 ((nd.fill[i].stops.length : Nat) : Int)), (104, .int .i64 ((nd.fill[i].img.l.length : Nat) : Int)), (126, .int .i64 ((nd.fill[i].t.a.l1.length : Nat) : Int)), (127, .int .i64 ((p : Nat) : Int))] [(b51, [nd.fs, nd.ss]), (b2, nd.cells)] []) (fun p => nd.fill[i].t.a.l1.length - p) (0) ⟨Nat.zero_le _, hR, (S.sub [(0, nd.v), (1, .pointer (some ⟨b2, 0, none⟩)), (7, nd.fs), (8, .int .i64 ((i : Nat) : Int)), (16, .int .i64 ((nd.clip.length : Nat) : Int)), (28, .int .i64 ((nd.path.length : Nat) : Int)), (41, .int .i64 ((nd.style.dash.length : Nat) : Int)), (54, .int .i64 ((nd.img.l.length : Nat) : Int)), (69, .slice (some ⟨b51, 0, none⟩) 2 2), (70, .int .i64 2), (71, .int .i64 0), (76, .int .i64 ((nd.fill.length : Nat) : Int)), (77, .int .i64 ((i : Nat) : Int)), (85, .int .i64 ((nd.fill[i].stops.length : Nat) : Int)), (104, .int .i64 ((nd.fill[i].img.l.length : Nat) : Int)), (126, .int .i64 ((nd.fill[i].t.a.l1.length : Nat) : Int)), (127, .int .i64 ((0 : Nat) : Int))]).noviews⟩ ?_
        rintro k ac u hI
        try dsimp only at hI
        obtain ⟨hk, hR, S⟩ := hI
        refine Sx.seqP fun _ κ99 => Sx.run S 1 [] [(128, .bool (decide (((k : Nat) : Int) < ((nd.fill[i].t.a.l1.length : Nat) : Int))))] fun ac S => Sx.done <| κ99 _ _ <| wp_seq_k (fun _ κ100 => ?_)
        refine Sx.cond S (fun hc101 => ?_) (fun hc101 => ?_)
        ·refine wp_skip <| κ100 _ _ <| wp_seq_k fun _ κ102 => wp_block <| Sx.seqP fun _ κ103 => Sx.run S 2 [] [(11, .int .i64 ((k : Nat) : Int))] fun ac S => Sx.done (κ103 _ _ ?_)
         have hmx : nd.fill[i].t.a.l1.length ≤ 9223372036854775807 := (rowN_one (f := u32v) (hT.2.2.2.2.1.2 nd.fill[i] (List.getElem_mem lt66)).2.2.2.ok.1.1).len
         have lt104 : k < nd.fill[i].t.a.l1.length := by have := of_decide_eq_true hc101; omega
         obtain ⟨g105, p105, hv105, hb105, hg105, r105, ho105, hs105⟩ := Sx.Ty.now (hT.2.2.2.2.1.1.2) (hR) (by omega)
         have hr106 := Sx.RowT.now (hT.2.2.2.2.1.1) (hR) lt66 17 1 (cs := [nd.fill[i].t.a.s1]) (by show _ + 1 ≤ 40; decide) rfl (fun q hq => kp_paint (by decide) (by simp at hq; omega)) hv105
         have S := S.view (Nat.lt_of_lt_of_le hg105 (hR).bel.size) hr106 (Sx.ne_of_ge hz hg105)
         obtain ⟨g107, p107, hv107, hb107, hg107, r107, ho107, hs107⟩ := Sx.Ty.now ((hT.2.2.2.2.1.2 nd.fill[i] (List.getElem_mem lt66)).2.2.2.1.2.1) (hR) (by omega)
         refine Vp.region <| Sx.run S 10 [.re 130 nd.fs (.slice (some ⟨g105, 0, none⟩) nd.fill.length p105), .idx i nd.fill.length, .mem 2 0, .re 137 (nd.fill[i].t.a.s1) (.slice (some ⟨g107, 0, none⟩) (nd.fill[i].t.a.l1.length) p107), .idx k nd.fill[i].t.a.l1.length] [(139, .pointer (some ⟨g107, 0 + k * 1, none⟩))] (hk := ⟨hv105, lt66, hv107, lt104, trivial⟩) fun ac S => Sx.storeT1 S kpN (off := 0 + k * 1) (v := .int .u32 9) ho107 (by omega) (Sx.cut_size hb) hb107 (Sx.ne_of_ge hz hg107) rfl (fun u X108 S => ?_)
         have hR109 := (hR).trans X108
         refine Sx.done <| κ102 _ _ <| Vp.region <| Sx.run S 2 [.re 140 (.int .i64 (IntKind.i64.wrap (((k : Nat) : Int) + 1))) (.int .i64 (((k + 1) : Nat) : Int))] [(127, .int .i64 (((k + 1) : Nat) : Int))] (hk := ⟨Sx.wrap_succ (by omega), trivial⟩) fun ac S => Sx.done ?_
         show ∃ i', _ ∧ _
         exact ⟨(k + 1), ⟨by omega, hR109, (S.sub [(0, nd.v), (1, .pointer (some ⟨b2, 0, none⟩)), (7, nd.fs), (8, .int .i64 ((i : Nat) : Int)), (16, .int .i64 ((nd.clip.length : Nat) : Int)), (28, .int .i64 ((nd.path.length : Nat) : Int)), (41, .int .i64 ((nd.style.dash.length : Nat) : Int)), (54, .int .i64 ((nd.img.l.length : Nat) : Int)), (69, .slice (some ⟨b51, 0, none⟩) 2 2), (70, .int .i64 2), (71, .int .i64 0), (76, .int .i64 ((nd.fill.length : Nat) : Int)), (77, .int .i64 ((i : Nat) : Int)), (85, .int .i64 ((nd.fill[i].stops.length : Nat) : Int)), (104, .int .i64 ((nd.fill[i].img.l.length : Nat) : Int)), (126, .int .i64 ((nd.fill[i].t.a.l1.length : Nat) : Int)), (127, .int .i64 (((k + 1) : Nat) : Int))]).noviews⟩, by show _ - _ < _ - _; omega⟩
        ·refine wp_exit <| κ95 _ _ ?_
         obtain ⟨g110, p110, hv110, hb110, hg110, r110, ho110, hs110⟩ := Sx.Ty.now (hT.2.2.2.2.1.1.2) (hR) (by omega)
         refine Vp.region <| Sx.run S 4 [.re 141 nd.fs (.slice (some ⟨g110, 0, none⟩) nd.fill.length p110), .idx i nd.fill.length] [(144, .pointer (some ⟨g110, 0 + i * 40, none⟩))] (hk := ⟨hv110, lt66, trivial⟩) fun ac S => Sx.storeT1 S kpN (off := 0 + i * 40) (v := .int .i64 77) ho110 (by omega) (Sx.cut_size hb) hb110 (Sx.ne_of_ge hz hg110) (by simp [kpN]) (fun u X111 S => ?_)
         have hR112 := (hR).trans X111
         refine Sx.done <| κ62 _ _ <| Vp.region <| Sx.run S 2 [.re 145 (.int .i64 (IntKind.i64.wrap (((i : Nat) : Int) + 1))) (.int .i64 (((i + 1) : Nat) : Int))] [(77, .int .i64 (((i + 1) : Nat) : Int))] (hk := ⟨Sx.wrap_succ (by omega), trivial⟩) fun ac S => Sx.done ?_
         show ∃ i', _ ∧ _
         exact ⟨(i + 1), ⟨by omega, hR112, (S.sub [(0, nd.v), (1, .pointer (some ⟨b2, 0, none⟩)), (7, nd.fs), (16, .int .i64 ((nd.clip.length : Nat) : Int)), (28, .int .i64 ((nd.path.length : Nat) : Int)), (41, .int .i64 ((nd.style.dash.length : Nat) : Int)), (54, .int .i64 ((nd.img.l.length : Nat) : Int)), (69, .slice (some ⟨b51, 0, none⟩) 2 2), (70, .int .i64 2), (71, .int .i64 0), (76, .int .i64 ((nd.fill.length : Nat) : Int)), (77, .int .i64 (((i + 1) : Nat) : Int))]).noviews⟩, by show _ - _ < _ - _; omega⟩
     ·refine wp_exit <| κ56 _ _ <| Vp.region <| Sx.run S 2 [] [(71, .int .i64 1)] fun ac S => Sx.done ?_
      show Code.rounds _ _ _ 2 _ _
      rw [rounds_succ]
      refine Sx.seqP fun _ κ113 => Sx.run S 1 [] [(72, .bool true)] fun ac S => Sx.done <| κ113 _ _ <| wp_seq_k fun _ κ114 => Sx.condT S <| wp_skip <| κ114 _ _ <| wp_seq_k fun _ κ115 => wp_block <| Sx.seqP fun _ κ116 => Sx.run S 3 [.mem 0 1] [(7, nd.ss)] fun ac S => Sx.done <| κ116 _ _ <| Sx.seqP fun _ κ117 => Sx.run S 3 [] [(76, .int .i64 ((nd.stroke.length : Nat) : Int)), (77, .int .i64 0)] fun ac S => Sx.done <| κ117 _ _ <| wp_block ?_
      refine Vp.loop (ι := Nat) (fun p a' w' => p ≤ nd.stroke.length ∧ (Sx.Rl kpN base w w') ∧ Sx.St (Sx.cut base w) a' w' 181 [(0, nd.v), (1, .pointer (some ⟨b2, 0, none⟩)), (7, nd.ss), (16, .int .i64 ((nd.clip.length : Nat) : Int)), (28, .int .i64 ((nd.path.length : Nat) : Int)), (41, .int .i64 ((nd.style.dash.length : Nat) : Int)), (54, .int .i64 ((nd.img.l.length : Nat) : Int)), (69, .slice (some ⟨b51, 0, none⟩) 2 2), (70, .int .i64 2), (71, .int .i64 1), (76, .int .i64 ((nd.stroke.length : Nat) : Int)), (77, .int .i64 ((p : Nat) : Int))] [(b51, [nd.fs, nd.ss]), (b2, nd.cells)] []) (fun p => nd.stroke.length - p) (0) ⟨Nat.zero_le _, hR, (S.sub [(0, nd.v), (1, .pointer (some ⟨b2, 0, none⟩)), (7, nd.ss), (16, .int .i64 ((nd.clip.length : Nat) : Int)), (28, .int .i64 ((nd.path.length : Nat) : Int)), (41, .int .i64 ((nd.style.dash.length : Nat) : Int)), (54, .int .i64 ((nd.img.l.length : Nat) : Int)), (69, .slice (some ⟨b51, 0, none⟩) 2 2), (70, .int .i64 2), (71, .int .i64 1), (76, .int .i64 ((nd.stroke.length : Nat) : Int)), (77, .int .i64 ((0 : Nat) : Int))]).noviews⟩ ?_
      rintro i ac u hI
      try dsimp only at hI
      obtain ⟨hk, hR, S⟩ := hI
      refine Sx.seqP fun _ κ118 => Sx.run S 1 [] [(78, .bool (decide (((i : Nat) : Int) < ((nd.stroke.length : Nat) : Int))))] fun ac S => Sx.done <| κ118 _ _ <| wp_seq_k (fun _ κ119 => ?_)
      refine Sx.cond S (fun hc120 => ?_) (fun hc120 => ?_)
      ·refine wp_skip <| κ119 _ _ <| wp_seq_k fun _ κ121 => wp_block <| Sx.seqP fun _ κ122 => Sx.run S 2 [] [(8, .int .i64 ((i : Nat) : Int))] fun ac S => Sx.done <| κ122 _ _ <| wp_seq_k fun _ κ123 => Sx.seqP (fun _ κ124 => ?_)
       have hmi : nd.stroke.length ≤ 9223372036854775807 := hT.2.2.2.2.2.1.1.1.len
       have lt125 : i < nd.stroke.length := by have := of_decide_eq_true hc120; omega
       obtain ⟨g126, p126, hv126, hb126, hg126, r126, ho126, hs126⟩ := Sx.Ty.now (hT.2.2.2.2.2.1.1.2) (hR) (by omega)
       have hr127 := Sx.RowT.now (hT.2.2.2.2.2.1.1) (hR) lt125 10 1 (cs := [nd.stroke[i].sv]) (by show _ + 1 ≤ 40; decide) rfl (fun q hq => kp_paint (by decide) (by simp at hq; omega)) hv126
       have S := S.view (Nat.lt_of_lt_of_le hg126 (hR).bel.size) hr127 (Sx.ne_of_ge hz hg126)
       refine Sx.run S 7 [.re 80 nd.ss (.slice (some ⟨g126, 0, none⟩) nd.stroke.length p126), .idx i nd.stroke.length, .mem 2 0] [(85, .int .i64 ((nd.stroke[i].stops.length : Nat) : Int)), (86, .int .i64 0)] (hk := ⟨hv126, lt125, trivial⟩) fun ac S => Sx.done <| κ124 _ _ <| wp_block ?_
       refine Vp.loop (ι := Nat) (fun p a' w' => p ≤ nd.stroke[i].stops.length ∧ (Sx.Rl kpN base w w') ∧ Sx.St (Sx.cut base w) a' w' 181 [(0, nd.v), (1, .pointer (some ⟨b2, 0, none⟩)), (7, nd.ss), (8, .int .i64 ((i : Nat) : Int)), (16, .int .i64 ((nd.clip.length : Nat) : Int)), (28, .int .i64 ((nd.path.length : Nat) : Int)), (41, .int .i64 ((nd.style.dash.length : Nat) : Int)), (54, .int .i64 ((nd.img.l.length : Nat) : Int)), (69, .slice (some ⟨b51, 0, none⟩) 2 2), (70, .int .i64 2), (71, .int .i64 1), (76, .int .i64 ((nd.stroke.length : Nat) : Int)), (77, .int .i64 ((i : Nat) : Int)), (85, .int .i64 ((nd.stroke[i].stops.length : Nat) : Int)), (86, .int .i64 ((p : Nat) : Int))] [(b51, [nd.fs, nd.ss]), (b2, nd.cells)] []) (fun p => nd.stroke[i].stops.length - p) (0) ⟨Nat.zero_le _, hR, (S.sub [(0, nd.v), (1, .pointer (some ⟨b2, 0, none⟩)), (7, nd.ss), (8, .int .i64 ((i : Nat) : Int)), (16, .int .i64 ((nd.clip.length : Nat) : Int)), (28, .int .i64 ((nd.path.length : Nat) : Int)), (41, .int .i64 ((nd.style.dash.length : Nat) : Int)), (54, .int .i64 ((nd.img.l.length : Nat) : Int)), (69, .slice (some ⟨b51, 0, none⟩) 2 2), (70, .int .i64 2), (71, .int .i64 1), (76, .int .i64 ((nd.stroke.length : Nat) : Int)), (77, .int .i64 ((i : Nat) : Int)), (85, .int .i64 ((nd.stroke[i].stops.length : Nat) : Int)), (86, .int .i64 ((0 : Nat) : Int))]).noviews⟩ ?_
       rintro k ac u hI
       try dsimp only at hI
       obtain ⟨hk, hR, S⟩ := hI
       refine Sx.seqP fun _ κ128 => Sx.run S 1 [] [(87, .bool (decide (((k : Nat) : Int) < ((nd.stroke[i].stops.length : Nat) : Int))))] fun ac S => Sx.done <| κ128 _ _ <| wp_seq_k (fun _ κ129 => ?_)
       refine Sx.cond S (fun hc130 => ?_) (fun hc130 => ?_)
       ·refine wp_skip <| κ129 _ _ <| wp_seq_k fun _ κ131 => wp_block <| Sx.seqP fun _ κ132 => Sx.run S 2 [] [(9, .int .i64 ((k : Nat) : Int))] fun ac S => Sx.done (κ132 _ _ ?_)
        have hmx : nd.stroke[i].stops.length ≤ 9223372036854775807 := ((hT.2.2.2.2.2.1.2 nd.stroke[i] (List.getElem_mem lt125)).1.2.2.2.2.1).len
        have lt133 : k < nd.stroke[i].stops.length := by have := of_decide_eq_true hc130; omega
        obtain ⟨g134, p134, hv134, hb134, hg134, r134, ho134, hs134⟩ := Sx.Ty.now (hT.2.2.2.2.2.1.1.2) (hR) (by omega)
        have hr135 := Sx.RowT.now (hT.2.2.2.2.2.1.1) (hR) lt125 10 1 (cs := [nd.stroke[i].sv]) (by show _ + 1 ≤ 40; decide) rfl (fun q hq => kp_paint (by decide) (by simp at hq; omega)) hv134
        have S := S.view (Nat.lt_of_lt_of_le hg134 (hR).bel.size) hr135 (Sx.ne_of_ge hz hg134)
        obtain ⟨g136, p136, hv136, hb136, hg136, r136, ho136, hs136⟩ := Sx.Ty.now ((hT.2.2.2.2.2.1.2 nd.stroke[i] (List.getElem_mem lt125)).2.1) (hR) (by omega)
        refine Vp.region <| Sx.run S 8 [.re 89 nd.ss (.slice (some ⟨g134, 0, none⟩) nd.stroke.length p134), .idx i nd.stroke.length, .mem 2 0, .re 93 (nd.stroke[i].sv) (.slice (some ⟨g136, 0, none⟩) (nd.stroke[i].stops.length) p136), .idx k nd.stroke[i].stops.length] [(96, .pointer (some ⟨g136, 0 + k * 5, none⟩))] (hk := ⟨hv134, lt125, hv136, lt133, trivial⟩) fun ac S => Sx.storeT1 S kpN (off := 0 + k * 5) (v := .int .i64 (-1)) ho136 (by omega) (Sx.cut_size hb) hb136 (Sx.ne_of_ge hz hg136) rfl (fun u X137 S => ?_)
        have hR138 := (hR).trans X137
        refine Sx.done <| κ131 _ _ <| Vp.region <| Sx.run S 2 [.re 97 (.int .i64 (IntKind.i64.wrap (((k : Nat) : Int) + 1))) (.int .i64 (((k + 1) : Nat) : Int))] [(86, .int .i64 (((k + 1) : Nat) : Int))] (hk := ⟨Sx.wrap_succ (by omega), trivial⟩) fun ac S => Sx.done ?_
        show ∃ i', _ ∧ _
        exact ⟨(k + 1), ⟨by omega, hR138, (S.sub [(0, nd.v), (1, .pointer (some ⟨b2, 0, none⟩)), (7, nd.ss), (8, .int .i64 ((i : Nat) : Int)), (16, .int .i64 ((nd.clip.length : Nat) : Int)), (28, .int .i64 ((nd.path.length : Nat) : Int)), (41, .int .i64 ((nd.style.dash.length : Nat) : Int)), (54, .int .i64 ((nd.img.l.length : Nat) : Int)), (69, .slice (some ⟨b51, 0, none⟩) 2 2), (70, .int .i64 2), (71, .int .i64 1), (76, .int .i64 ((nd.stroke.length : Nat) : Int)), (77, .int .i64 ((i : Nat) : Int)), (85, .int .i64 ((nd.stroke[i].stops.length : Nat) : Int)), (86, .int .i64 (((k + 1) : Nat) : Int))]).noviews⟩, by show _ - _ < _ - _; omega⟩
       ·refine wp_exit <| κ123 _ _ <| wp_seq_k fun _ κ139 => Sx.seqP (fun _ κ140 => ?_)
        obtain ⟨g141, p141, hv141, hb141, hg141, r141, ho141, hs141⟩ := Sx.Ty.now (hT.2.2.2.2.2.1.1.2) (hR) (by omega)
        have hr142 := Sx.RowT.now (hT.2.2.2.2.2.1.1) (hR) lt125 14 1 (cs := [nd.stroke[i].img.s]) (by show _ + 1 ≤ 40; decide) rfl (fun q hq => kp_paint (by decide) (by simp at hq; omega)) hv141
        have S := S.view (Nat.lt_of_lt_of_le hg141 (hR).bel.size) hr142 (Sx.ne_of_ge hz hg141)
        refine Sx.run S 8 [.re 98 nd.ss (.slice (some ⟨g141, 0, none⟩) nd.stroke.length p141), .idx i nd.stroke.length, .mem 2 0] [(104, .int .i64 ((nd.stroke[i].img.l.length : Nat) : Int)), (105, .int .i64 0)] (hk := ⟨hv141, lt125, trivial⟩) fun ac S => Sx.done <| κ140 _ _ <| wp_block ?_
        refine Vp.loop (ι := Nat) (fun p a' w' => p ≤ nd.stroke[i].img.l.length ∧ (Sx.Rl kpN base w w') ∧ Sx.St (Sx.cut base w) a' w' 181 [(0, nd.v), (1, .pointer (some ⟨b2, 0, none⟩)), (7, nd.ss), (8, .int .i64 ((i : Nat) : Int)), (16, .int .i64 ((nd.clip.length : Nat) : Int)), (28, .int .i64 ((nd.path.length : Nat) : Int)), (41, .int .i64 ((nd.style.dash.length : Nat) : Int)), (54, .int .i64 ((nd.img.l.length : Nat) : Int)), (69, .slice (some ⟨b51, 0, none⟩) 2 2), (70, .int .i64 2), (71, .int .i64 1), (76, .int .i64 ((nd.stroke.length : Nat) : Int)), (77, .int .i64 ((i : Nat) : Int)), (85, .int .i64 ((nd.stroke[i].stops.length : Nat) : Int)), (104, .int .i64 ((nd.stroke[i].img.l.length : Nat) : Int)), (105, .int .i64 ((p : Nat) : Int))] [(b51, [nd.fs, nd.ss]), (b2, nd.cells)] []) (fun p => nd.stroke[i].img.l.length - p) (0) ⟨Nat.zero_le _, hR, (S.sub [(0, nd.v), (1, .pointer (some ⟨b2, 0, none⟩)), (7, nd.ss), (8, .int .i64 ((i : Nat) : Int)), (16, .int .i64 ((nd.clip.length : Nat) : Int)), (28, .int .i64 ((nd.path.length : Nat) : Int)), (41, .int .i64 ((nd.style.dash.length : Nat) : Int)), (54, .int .i64 ((nd.img.l.length : Nat) : Int)), (69, .slice (some ⟨b51, 0, none⟩) 2 2), (70, .int .i64 2), (71, .int .i64 1), (76, .int .i64 ((nd.stroke.length : Nat) : Int)), (77, .int .i64 ((i : Nat) : Int)), (85, .int .i64 ((nd.stroke[i].stops.length : Nat) : Int)), (104, .int .i64 ((nd.stroke[i].img.l.length : Nat) : Int)), (105, .int .i64 ((0 : Nat) : Int))]).noviews⟩ ?_
        rintro k ac u hI
        try dsimp only at hI
        obtain ⟨hk, hR, S⟩ := hI
        refine Sx.seqP fun _ κ143 => Sx.run S 1 [] [(106, .bool (decide (((k : Nat) : Int) < ((nd.stroke[i].img.l.length : Nat) : Int))))] fun ac S => Sx.done <| κ143 _ _ <| wp_seq_k (fun _ κ144 => ?_)
        refine Sx.cond S (fun hc145 => ?_) (fun hc145 => ?_)
        ·refine wp_skip <| κ144 _ _ <| wp_seq_k fun _ κ146 => wp_block <| Sx.seqP fun _ κ147 => Sx.run S 2 [] [(10, .int .i64 ((k : Nat) : Int))] fun ac S => Sx.done (κ147 _ _ ?_)
         have hmx : nd.stroke[i].img.l.length ≤ 9223372036854775807 := ((hT.2.2.2.2.2.1.2 nd.stroke[i] (List.getElem_mem lt125)).1.2.2.2.2.2.2.2.1.2.2).len
         have lt148 : k < nd.stroke[i].img.l.length := by have := of_decide_eq_true hc145; omega
         obtain ⟨g149, p149, hv149, hb149, hg149, r149, ho149, hs149⟩ := Sx.Ty.now (hT.2.2.2.2.2.1.1.2) (hR) (by omega)
         have hr150 := Sx.RowT.now (hT.2.2.2.2.2.1.1) (hR) lt125 14 1 (cs := [nd.stroke[i].img.s]) (by show _ + 1 ≤ 40; decide) rfl (fun q hq => kp_paint (by decide) (by simp at hq; omega)) hv149
         have S := S.view (Nat.lt_of_lt_of_le hg149 (hR).bel.size) hr150 (Sx.ne_of_ge hz hg149)
         obtain ⟨g151, p151, hv151, hb151, hg151, r151, ho151, hs151⟩ := Sx.Ty.now ((hT.2.2.2.2.2.1.2 nd.stroke[i] (List.getElem_mem lt125)).2.2.1) (hR) (by omega)
         refine Vp.region <| Sx.run S 9 [.re 108 nd.ss (.slice (some ⟨g149, 0, none⟩) nd.stroke.length p149), .idx i nd.stroke.length, .mem 2 0, .re 113 (nd.stroke[i].img.s) (.slice (some ⟨g151, 0, none⟩) (nd.stroke[i].img.l.length) p151), .idx k nd.stroke[i].img.l.length] [(115, .agg #[.int .u8 9, .int .u8 0, .int .u8 0, .int .u8 0]), (116, .pointer (some ⟨g151, 0 + k * 4, none⟩))] (hk := ⟨hv149, lt125, hv151, lt148, trivial⟩) fun ac S => Sx.storeT S kpN (off := 0 + k * 4) (cs := [.int .u8 9, .int .u8 0, .int .u8 0, .int .u8 0]) ho151 (by simp; omega) (Sx.cut_size hb) hb151 (Sx.ne_of_ge hz hg151) (fun _ _ => rfl) (fun u X152 S => ?_)
         have hR153 := (hR).trans X152
         refine Sx.done <| κ146 _ _ <| Vp.region <| Sx.run S 2 [.re 117 (.int .i64 (IntKind.i64.wrap (((k : Nat) : Int) + 1))) (.int .i64 (((k + 1) : Nat) : Int))] [(105, .int .i64 (((k + 1) : Nat) : Int))] (hk := ⟨Sx.wrap_succ (by omega), trivial⟩) fun ac S => Sx.done ?_
         show ∃ i', _ ∧ _
         exact ⟨(k + 1), ⟨by omega, hR153, (S.sub [(0, nd.v), (1, .pointer (some ⟨b2, 0, none⟩)), (7, nd.ss), (8, .int .i64 ((i : Nat) : Int)), (16, .int .i64 ((nd.clip.length : Nat) : Int)), (28, .int .i64 ((nd.path.length : Nat) : Int)), (41, .int .i64 ((nd.style.dash.length : Nat) : Int)), (54, .int .i64 ((nd.img.l.length : Nat) : Int)), (69, .slice (some ⟨b51, 0, none⟩) 2 2), (70, .int .i64 2), (71, .int .i64 1), (76, .int .i64 ((nd.stroke.length : Nat) : Int)), (77, .int .i64 ((i : Nat) : Int)), (85, .int .i64 ((nd.stroke[i].stops.length : Nat) : Int)), (104, .int .i64 ((nd.stroke[i].img.l.length : Nat) : Int)), (105, .int .i64 (((k + 1) : Nat) : Int))]).noviews⟩, by show _ - _ < _ - _; omega⟩
        ·refine wp_exit <| κ139 _ _ <| wp_seq_k fun _ κ154 => Sx.seqP (fun _ κ155 => ?_)
         obtain ⟨g156, p156, hv156, hb156, hg156, r156, ho156, hs156⟩ := Sx.Ty.now (hT.2.2.2.2.2.1.1.2) (hR) (by omega)
         have hr157 := Sx.RowT.now (hT.2.2.2.2.2.1.1) (hR) lt125 17 1 (cs := [nd.stroke[i].t.a.s1]) (by show _ + 1 ≤ 40; decide) rfl (fun q hq => kp_paint (by decide) (by simp at hq; omega)) hv156
         have S := S.view (Nat.lt_of_lt_of_le hg156 (hR).bel.size) hr157 (Sx.ne_of_ge hz hg156)
         refine Sx.run S 10 [.re 118 nd.ss (.slice (some ⟨g156, 0, none⟩) nd.stroke.length p156), .idx i nd.stroke.length, .mem 2 0] [(126, .int .i64 ((nd.stroke[i].t.a.l1.length : Nat) : Int)), (127, .int .i64 0)] (hk := ⟨hv156, lt125, trivial⟩) fun ac S => Sx.done <| κ155 _ _ <| wp_block ?_
         refine Vp.loop (ι := Nat) (fun p a' w' => p ≤ nd.stroke[i].t.a.l1.length ∧ (Sx.Rl kpN base w w') ∧ Sx.St (Sx.cut base w) a' w' 181 [(0, nd.v), (1, .pointer (some ⟨b2, 0, none⟩)), (7, nd.ss), (8, .int .i64 ((i : Nat) : Int)), (16, .int .i64 ((nd.clip.length : Nat) : Int)), (28, .int .i64 ((nd.path.length : Nat) : Int)), (41, .int .i64 ((nd.style.dash.length : Nat) : Int)), (54, .int .i64 ((nd.img.l.length : Nat) : Int)), (69, .slice (some ⟨b51, 0, none⟩) 2 2), (70, .int .i64 2), (71, .int .i64 1), (76, .int .i64 ((nd.stroke.length : Nat) : Int)), (77, .int .i64 ((i : Nat) : Int)), (85, .int .i64 ((nd.stroke[i].stops.length : Nat) : Int)), (104, .int .i64 ((nd.stroke[i].img.l.length : Nat) : Int)), (126, .int .i64 ((nd.stroke[i].t.a.l1.length : Nat) : Int)), (127, .int .i64 ((p : Nat) : Int))] [(b51, [nd.fs, nd.ss]), (b2, nd.cells)] []) (fun p => nd.stroke[i].t.a.l1.length - p) (0) ⟨Nat.zero_le _, hR, (S.sub [(0, nd.v), (1, .pointer (some ⟨b2, 0, none⟩)), (7, nd.ss), (8, .int .i64 ((i : Nat) : Int)), (16, .int .i64 ((nd.clip.length : Nat) : Int)), (28, .int .i64 ((nd.path.length : Nat) : Int)), (41, .int .i64 ((nd.style.dash.length : Nat) : Int)), (54, .int .i64 ((nd.img.l.length : Nat) : Int)), (69, .slice (some ⟨b51, 0, none⟩) 2 2), (70, .int .i64 2), (71, .int .i64 1), (76, .int .i64 ((nd.stroke.length : Nat) : Int)), (77, .int .i64 ((i : Nat) : Int)), (85, .int .i64 ((nd.stroke[i].stops.length : Nat) : Int)), (104, .int .i64 ((nd.stroke[i].img.l.length : Nat) : Int)), (126, .int .i64 ((nd.stroke[i].t.a.l1.length : Nat) : Int)), (127, .int .i64 ((0 : Nat) : Int))]).noviews⟩ ?_
         rintro k ac u hI
         try dsimp only at hI
         obtain ⟨hk, hR, S⟩ := hI
         refine Sx.seqP fun _ κ158 => Sx.run S 1 [] [(128, .bool (decide (((k : Nat) : Int) < ((nd.stroke[i].t.a.l1.length : Nat) : Int))))] fun ac S => Sx.done <| κ158 _ _ <| wp_seq_k (fun _ κ159 => ?_)
         refine Sx.cond S (fun hc160 => ?_) (fun hc160 => ?_)
         ·refine wp_skip <| κ159 _ _ <| wp_seq_k fun _ κ161 => wp_block <| Sx.seqP fun _ κ162 => Sx.run S 2 [] [(11, .int .i64 ((k : Nat) : Int))] fun ac S => Sx.done (κ162 _ _ ?_)
          have hmx : nd.stroke[i].t.a.l1.length ≤ 9223372036854775807 := (rowN_one (f := u32v) (hT.2.2.2.2.2.1.2 nd.stroke[i] (List.getElem_mem lt125)).2.2.2.ok.1.1).len
          have lt163 : k < nd.stroke[i].t.a.l1.length := by have := of_decide_eq_true hc160; omega
          obtain ⟨g164, p164, hv164, hb164, hg164, r164, ho164, hs164⟩ := Sx.Ty.now (hT.2.2.2.2.2.1.1.2) (hR) (by omega)
          have hr165 := Sx.RowT.now (hT.2.2.2.2.2.1.1) (hR) lt125 17 1 (cs := [nd.stroke[i].t.a.s1]) (by show _ + 1 ≤ 40; decide) rfl (fun q hq => kp_paint (by decide) (by simp at hq; omega)) hv164
          have S := S.view (Nat.lt_of_lt_of_le hg164 (hR).bel.size) hr165 (Sx.ne_of_ge hz hg164)
          obtain ⟨g166, p166, hv166, hb166, hg166, r166, ho166, hs166⟩ := Sx.Ty.now ((hT.2.2.2.2.2.1.2 nd.stroke[i] (List.getElem_mem lt125)).2.2.2.1.2.1) (hR) (by omega)
          refine Vp.region <| Sx.run S 10 [.re 130 nd.ss (.slice (some ⟨g164, 0, none⟩) nd.stroke.length p164), .idx i nd.stroke.length, .mem 2 0, .re 137 (nd.stroke[i].t.a.s1) (.slice (some ⟨g166, 0, none⟩) (nd.stroke[i].t.a.l1.length) p166), .idx k nd.stroke[i].t.a.l1.length] [(139, .pointer (some ⟨g166, 0 + k * 1, none⟩))] (hk := ⟨hv164, lt125, hv166, lt163, trivial⟩) fun ac S => Sx.storeT1 S kpN (off := 0 + k * 1) (v := .int .u32 9) ho166 (by omega) (Sx.cut_size hb) hb166 (Sx.ne_of_ge hz hg166) rfl (fun u X167 S => ?_)
          have hR168 := (hR).trans X167
          refine Sx.done <| κ161 _ _ <| Vp.region <| Sx.run S 2 [.re 140 (.int .i64 (IntKind.i64.wrap (((k : Nat) : Int) + 1))) (.int .i64 (((k + 1) : Nat) : Int))] [(127, .int .i64 (((k + 1) : Nat) : Int))] (hk := ⟨Sx.wrap_succ (by omega), trivial⟩) fun ac S => Sx.done ?_
          show ∃ i', _ ∧ _
          exact ⟨(k + 1), ⟨by omega, hR168, (S.sub [(0, nd.v), (1, .pointer (some ⟨b2, 0, none⟩)), (7, nd.ss), (8, .int .i64 ((i : Nat) : Int)), (16, .int .i64 ((nd.clip.length : Nat) : Int)), (28, .int .i64 ((nd.path.length : Nat) : Int)), (41, .int .i64 ((nd.style.dash.length : Nat) : Int)), (54, .int .i64 ((nd.img.l.length : Nat) : Int)), (69, .slice (some ⟨b51, 0, none⟩) 2 2), (70, .int .i64 2), (71, .int .i64 1), (76, .int .i64 ((nd.stroke.length : Nat) : Int)), (77, .int .i64 ((i : Nat) : Int)), (85, .int .i64 ((nd.stroke[i].stops.length : Nat) : Int)), (104, .int .i64 ((nd.stroke[i].img.l.length : Nat) : Int)), (126, .int .i64 ((nd.stroke[i].t.a.l1.length : Nat) : Int)), (127, .int .i64 (((k + 1) : Nat) : Int))]).noviews⟩, by show _ - _ < _ - _; omega⟩
         ·refine wp_exit <| κ154 _ _ ?_
          obtain ⟨g169, p169, hv169, hb169, hg169, r169, ho169, hs169⟩ := Sx.Ty.now (hT.2.2.2.2.2.1.1.2) (hR) (by omega)
          refine Vp.region <| Sx.run S 4 [.re 141 nd.ss (.slice (some ⟨g169, 0, none⟩) nd.stroke.length p169), .idx i nd.stroke.length] [(144, .pointer (some ⟨g169, 0 + i * 40, none⟩))] (hk := ⟨hv169, lt125, trivial⟩) fun ac S => Sx.storeT1 S kpN (off := 0 + i * 40) (v := .int .i64 77) ho169 (by omega) (Sx.cut_size hb) hb169 (Sx.ne_of_ge hz hg169) (by simp [kpN]) (fun u X170 S => ?_)
          have hR171 := (hR).trans X170
          refine Sx.done <| κ121 _ _ <| Vp.region <| Sx.run S 2 [.re 145 (.int .i64 (IntKind.i64.wrap (((i : Nat) : Int) + 1))) (.int .i64 (((i + 1) : Nat) : Int))] [(77, .int .i64 (((i + 1) : Nat) : Int))] (hk := ⟨Sx.wrap_succ (by omega), trivial⟩) fun ac S => Sx.done ?_
          show ∃ i', _ ∧ _
          exact ⟨(i + 1), ⟨by omega, hR171, (S.sub [(0, nd.v), (1, .pointer (some ⟨b2, 0, none⟩)), (7, nd.ss), (16, .int .i64 ((nd.clip.length : Nat) : Int)), (28, .int .i64 ((nd.path.length : Nat) : Int)), (41, .int .i64 ((nd.style.dash.length : Nat) : Int)), (54, .int .i64 ((nd.img.l.length : Nat) : Int)), (69, .slice (some ⟨b51, 0, none⟩) 2 2), (70, .int .i64 2), (71, .int .i64 1), (76, .int .i64 ((nd.stroke.length : Nat) : Int)), (77, .int .i64 (((i + 1) : Nat) : Int))]).noviews⟩, by show _ - _ < _ - _; omega⟩
      ·refine wp_exit <| κ115 _ _ <| Vp.region <| Sx.run S 2 [] [(71, .int .i64 2)] fun ac S => Sx.done ?_
       show Code.rounds _ _ _ 1 _ _
       rw [rounds_succ]
       refine Sx.seqP fun _ κ172 => Sx.run S 1 [] [(72, .bool false)] fun ac S => Sx.done <| κ172 _ _ <| wp_seq_k fun _ κ173 => Sx.condF S <| wp_exit <| κ49 _ _ <| wp_seq_k fun _ κ174 => Sx.seqP fun _ κ175 => Sx.run S 7 [.mem 1 4] [(152, .int .i64 ((nd.t.a.l1.length : Nat) : Int)), (153, .int .i64 0)] fun ac S => Sx.done <| κ175 _ _ <| wp_block ?_
       refine Vp.loop (ι := Nat) (fun p a' w' => p ≤ nd.t.a.l1.length ∧ (Sx.Rl kpN base w w') ∧ Sx.St (Sx.cut base w) a' w' 181 [(0, nd.v), (1, .pointer (some ⟨b2, 0, none⟩)), (7, nd.ss), (16, .int .i64 ((nd.clip.length : Nat) : Int)), (28, .int .i64 ((nd.path.length : Nat) : Int)), (41, .int .i64 ((nd.style.dash.length : Nat) : Int)), (54, .int .i64 ((nd.img.l.length : Nat) : Int)), (69, .slice (some ⟨b51, 0, none⟩) 2 2), (70, .int .i64 2), (71, .int .i64 2), (76, .int .i64 ((nd.stroke.length : Nat) : Int)), (152, .int .i64 ((nd.t.a.l1.length : Nat) : Int)), (153, .int .i64 ((p : Nat) : Int))] [(b51, [nd.fs, nd.ss]), (b2, nd.cells)] []) (fun p => nd.t.a.l1.length - p) (0) ⟨Nat.zero_le _, hR, (S.sub [(0, nd.v), (1, .pointer (some ⟨b2, 0, none⟩)), (7, nd.ss), (16, .int .i64 ((nd.clip.length : Nat) : Int)), (28, .int .i64 ((nd.path.length : Nat) : Int)), (41, .int .i64 ((nd.style.dash.length : Nat) : Int)), (54, .int .i64 ((nd.img.l.length : Nat) : Int)), (69, .slice (some ⟨b51, 0, none⟩) 2 2), (70, .int .i64 2), (71, .int .i64 2), (76, .int .i64 ((nd.stroke.length : Nat) : Int)), (152, .int .i64 ((nd.t.a.l1.length : Nat) : Int)), (153, .int .i64 ((0 : Nat) : Int))]).noviews⟩ ?_
       rintro k ac u hI
       try dsimp only at hI
       obtain ⟨hk, hR, S⟩ := hI
       refine Sx.seqP fun _ κ176 => Sx.run S 1 [] [(154, .bool (decide (((k : Nat) : Int) < ((nd.t.a.l1.length : Nat) : Int))))] fun ac S => Sx.done <| κ176 _ _ <| wp_seq_k (fun _ κ177 => ?_)
       refine Sx.cond S (fun hc178 => ?_) (fun hc178 => ?_)
       ·refine wp_skip <| κ177 _ _ <| wp_seq_k fun _ κ179 => wp_block <| Sx.seqP fun _ κ180 => Sx.run S 2 [] [(12, .int .i64 ((k : Nat) : Int))] fun ac S => Sx.done (κ180 _ _ ?_)
        have hmx : nd.t.a.l1.length ≤ 9223372036854775807 := (rowN_one (f := u32v) hT.2.1.ok.1.1).len
        have lt181 : k < nd.t.a.l1.length := by have := of_decide_eq_true hc178; omega
        obtain ⟨g182, p182, hv182, hb182, hg182, r182, ho182, hs182⟩ := Sx.Ty.now (hT.2.1.1.2.1) (hR) (by omega)
        refine Vp.region <| Sx.run S 7 [.mem 1 4, .re 160 nd.t.a.s1 (.slice (some ⟨g182, 0, none⟩) nd.t.a.l1.length p182), .idx k nd.t.a.l1.length] [(162, .pointer (some ⟨g182, 0 + k * 1, none⟩))] (hk := ⟨hv182, lt181, trivial⟩) fun ac S => Sx.storeT1 S kpN (off := 0 + k * 1) (v := .int .u32 9) ho182 (by omega) (Sx.cut_size hb) hb182 (Sx.ne_of_ge hz hg182) rfl (fun u X183 S => ?_)
        have hR184 := (hR).trans X183
        refine Sx.done <| κ179 _ _ <| Vp.region <| Sx.run S 2 [.re 163 (.int .i64 (IntKind.i64.wrap (((k : Nat) : Int) + 1))) (.int .i64 (((k + 1) : Nat) : Int))] [(153, .int .i64 (((k + 1) : Nat) : Int))] (hk := ⟨Sx.wrap_succ (by omega), trivial⟩) fun ac S => Sx.done ?_
        show ∃ i', _ ∧ _
        exact ⟨(k + 1), ⟨by omega, hR184, (S.sub [(0, nd.v), (1, .pointer (some ⟨b2, 0, none⟩)), (7, nd.ss), (16, .int .i64 ((nd.clip.length : Nat) : Int)), (28, .int .i64 ((nd.path.length : Nat) : Int)), (41, .int .i64 ((nd.style.dash.length : Nat) : Int)), (54, .int .i64 ((nd.img.l.length : Nat) : Int)), (69, .slice (some ⟨b51, 0, none⟩) 2 2), (70, .int .i64 2), (71, .int .i64 2), (76, .int .i64 ((nd.stroke.length : Nat) : Int)), (152, .int .i64 ((nd.t.a.l1.length : Nat) : Int)), (153, .int .i64 (((k + 1) : Nat) : Int))]).noviews⟩, by show _ - _ < _ - _; omega⟩
       ·refine wp_exit <| κ174 _ _ <| Sx.seqP fun _ κ185 => Sx.run S 7 [.mem 1 18] [(169, .int .i64 ((nd.t.d.l2.length : Nat) : Int)), (170, .int .i64 0)] fun ac S => Sx.done <| κ185 _ _ <| wp_block ?_
        refine Vp.loop (ι := Nat) (fun p a' w' => p ≤ nd.t.d.l2.length ∧ (Sx.Rl kpN base w w') ∧ Sx.St (Sx.cut base w) a' w' 181 [(0, nd.v), (1, .pointer (some ⟨b2, 0, none⟩)), (7, nd.ss), (16, .int .i64 ((nd.clip.length : Nat) : Int)), (28, .int .i64 ((nd.path.length : Nat) : Int)), (41, .int .i64 ((nd.style.dash.length : Nat) : Int)), (54, .int .i64 ((nd.img.l.length : Nat) : Int)), (69, .slice (some ⟨b51, 0, none⟩) 2 2), (70, .int .i64 2), (71, .int .i64 2), (76, .int .i64 ((nd.stroke.length : Nat) : Int)), (152, .int .i64 ((nd.t.a.l1.length : Nat) : Int)), (169, .int .i64 ((nd.t.d.l2.length : Nat) : Int)), (170, .int .i64 ((p : Nat) : Int))] [(b51, [nd.fs, nd.ss]), (b2, nd.cells)] []) (fun p => nd.t.d.l2.length - p) (0) ⟨Nat.zero_le _, hR, (S.sub [(0, nd.v), (1, .pointer (some ⟨b2, 0, none⟩)), (7, nd.ss), (16, .int .i64 ((nd.clip.length : Nat) : Int)), (28, .int .i64 ((nd.path.length : Nat) : Int)), (41, .int .i64 ((nd.style.dash.length : Nat) : Int)), (54, .int .i64 ((nd.img.l.length : Nat) : Int)), (69, .slice (some ⟨b51, 0, none⟩) 2 2), (70, .int .i64 2), (71, .int .i64 2), (76, .int .i64 ((nd.stroke.length : Nat) : Int)), (152, .int .i64 ((nd.t.a.l1.length : Nat) : Int)), (169, .int .i64 ((nd.t.d.l2.length : Nat) : Int)), (170, .int .i64 ((0 : Nat) : Int))]).noviews⟩ ?_
        rintro k ac u hI
        try dsimp only at hI
        obtain ⟨hk, hR, S⟩ := hI
        refine Sx.seqP fun _ κ186 => Sx.run S 1 [] [(171, .bool (decide (((k : Nat) : Int) < ((nd.t.d.l2.length : Nat) : Int))))] fun ac S => Sx.done <| κ186 _ _ <| wp_seq_k (fun _ κ187 => ?_)
        refine Sx.cond S (fun hc188 => ?_) (fun hc188 => ?_)
        ·refine wp_skip <| κ187 _ _ <| wp_seq_k fun _ κ189 => wp_block <| Sx.seqP fun _ κ190 => Sx.run S 2 [] [(13, .int .i64 ((k : Nat) : Int))] fun ac S => Sx.done (κ190 _ _ ?_)
         have hmx : nd.t.d.l2.length ≤ 9223372036854775807 := (rowN_one (f := u32v) hT.2.1.ok.2.2.2.1.2).len
         have lt191 : k < nd.t.d.l2.length := by have := of_decide_eq_true hc188; omega
         obtain ⟨g192, p192, hv192, hb192, hg192, r192, ho192, hs192⟩ := Sx.Ty.now (hT.2.1.2.2.2.1.2.2) (hR) (by omega)
         refine Vp.region <| Sx.run S 7 [.mem 1 18, .re 177 nd.t.d.s2 (.slice (some ⟨g192, 0, none⟩) nd.t.d.l2.length p192), .idx k nd.t.d.l2.length] [(179, .pointer (some ⟨g192, 0 + k * 1, none⟩))] (hk := ⟨hv192, lt191, trivial⟩) fun ac S => Sx.storeT1 S kpN (off := 0 + k * 1) (v := .int .u32 9) ho192 (by omega) (Sx.cut_size hb) hb192 (Sx.ne_of_ge hz hg192) rfl (fun u X193 S => ?_)
         have hR194 := (hR).trans X193
         refine Sx.done <| κ189 _ _ <| Vp.region <| Sx.run S 2 [.re 180 (.int .i64 (IntKind.i64.wrap (((k : Nat) : Int) + 1))) (.int .i64 (((k + 1) : Nat) : Int))] [(170, .int .i64 (((k + 1) : Nat) : Int))] (hk := ⟨Sx.wrap_succ (by omega), trivial⟩) fun ac S => Sx.done ?_
         show ∃ i', _ ∧ _
         exact ⟨(k + 1), ⟨by omega, hR194, (S.sub [(0, nd.v), (1, .pointer (some ⟨b2, 0, none⟩)), (7, nd.ss), (16, .int .i64 ((nd.clip.length : Nat) : Int)), (28, .int .i64 ((nd.path.length : Nat) : Int)), (41, .int .i64 ((nd.style.dash.length : Nat) : Int)), (54, .int .i64 ((nd.img.l.length : Nat) : Int)), (69, .slice (some ⟨b51, 0, none⟩) 2 2), (70, .int .i64 2), (71, .int .i64 2), (76, .int .i64 ((nd.stroke.length : Nat) : Int)), (152, .int .i64 ((nd.t.a.l1.length : Nat) : Int)), (169, .int .i64 ((nd.t.d.l2.length : Nat) : Int)), (170, .int .i64 (((k + 1) : Nat) : Int))]).noviews⟩, by show _ - _ < _ - _; omega⟩
        ·refine wp_exit ?_
         have key : bodyPost Tryz.prog Tryz.f28 (fun e w' => e = .returned (.tuple #[]) ∧ Below base w w') .normal ac u := Sx.end0 S Tryz.results28 ⟨rfl, (hR).bel⟩
         exact key
end Go.Proofs.YtcohmdeoocgmdaaGreatDoor
