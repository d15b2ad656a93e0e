/- The law NodeClone. -/
import Derived.Test.YtcohmdeoocgmdaaGreatDoorOvr36
import Derived.Test.YtcohmdeoocgmdaaGreatDoorOpn36
import Derived.Test.YtcohmdeoocgmdaaGreatDoorLaw36
set_option maxHeartbeats 3200000
set_option maxRecDepth 100000
namespace Go.Proofs.YtcohmdeoocgmdaaGreatDoor
open Go.RowKit
variable {α : Type} {K : Nat}
set_option linter.unusedVariables false
theorem key_strip (n : NodeD) : n.strip.key = n.key := by
 unfold NodeD.key NodeD.strip
 simp only [List.map_map]
 rfl
theorem key_of_strip {a b : NodeD} (h : a.strip = b.strip) : a.key = b.key := by rw [← key_strip a, ← key_strip b, h]
theorem valid_strip1 (p : PaintD) : p.strip.valid = p.valid := by
 have h : p.strip.without.eq (PaintD.bare p.kind) = p.without.eq (PaintD.bare p.kind) := by
  unfold PaintD.without
  rw [show p.strip.kind = p.kind from rfl]
  cases p.kind == 1 <;> cases p.kind == 2 <;> cases p.kind == 3 <;> cases p.kind == 4 <;> rfl
 unfold PaintD.valid
 rw [show p.strip.kind = p.kind from rfl, h]
 rfl
theorem valid_strip : ∀ l : List PaintD, (l.map PaintD.strip).all PaintD.valid = l.all PaintD.valid
 | [] => rfl
 | p :: l => by rw [List.map_cons, List.all_cons, List.all_cons, valid_strip l, valid_strip1]
theorem checkN_strip (n : NodeD) : n.strip.checkN = n.checkN := by
 have hb : n.strip.bare = n.bare := by unfold NodeD.bare NodeD.strip; simp only [List.length_map]; rfl
 have hc : n.strip.commonL = n.commonL := by unfold NodeD.commonL; rw [hb]; rfl
 have hs : n.strip.shapeL = n.shapeL := by
  unfold NodeD.shapeL
  rw [show n.strip.fill = n.fill.map PaintD.strip from rfl, show n.strip.stroke = n.stroke.map PaintD.strip from rfl, valid_strip, valid_strip, List.length_map, List.length_map]
  rfl
 unfold NodeD.checkN NodeD.ownN
 rw [hc, hs]; rfl
theorem check_of_strip {a b : NodeD} (h : a.strip = b.strip) : a.checkN = b.checkN := by rw [← checkN_strip a, ← checkN_strip b, h]
theorem same_of_strip {t u : AffD} (h : t.strip = u.strip) : t.same u = true := by
 have e : t.same u = t.strip.same u.strip := rfl
 rw [e, h]
 simp [AffD.same, RatD.same]
theorem fits_of_strip {l m : List PaintD} (h : l.map PaintD.strip = m.map PaintD.strip) (hf : ∀ p ∈ m, p.t.fit K) : ∀ p ∈ l, p.t.fit K := fun p hp => by
 have hm : p.strip ∈ m.map PaintD.strip := h ▸ List.mem_map.2 ⟨p, hp, rfl⟩
 obtain ⟨q, hq, e⟩ := List.mem_map.1 hm
 have h1 : q.strip.t.fit K := hf q hq
 rw [e] at h1
 exact h1
theorem strip_parts {a b : NodeD} (h : a.strip = b.strip) : a.t.strip = b.t.strip ∧ a.fill.map PaintD.strip = b.fill.map PaintD.strip ∧ a.stroke.map PaintD.strip = b.stroke.map PaintD.strip := by
 unfold NodeD.strip at h
 simp only [NodeD.mk.injEq] at h
 exact ⟨h.2.2.2.1, h.2.2.2.2.2.2.2.2.2.2.2.2.2.2.2.2.2.2.1, h.2.2.2.2.2.2.2.2.2.2.2.2.2.2.2.2.2.2.2.2.2.2.1⟩
theorem NodeOk.strip {w w' : World} {a b : NodeD} (h : NodeOk K w a) (hb : b.ok w') (hs : b.strip = a.strip) : NodeOk K w' b := by
 obtain ⟨h1, h2, h3⟩ := strip_parts hs
 have hf : a.t.strip.fit K := h.2.1
 exact ⟨hb, by rw [← h1] at hf; exact hf, fits_of_strip h2 h.2.2.1, fits_of_strip h3 h.2.2.2.1, h.2.2.2.2⟩
theorem fit_lim {t : AffD} (h : t.fit 20) : t.lim := ⟨h.1.mono (by decide), h.2.1.mono (by decide), h.2.2.1.mono (by decide), h.2.2.2.1.mono (by decide), h.2.2.2.2.1.mono (by decide), h.2.2.2.2.2.mono (by decide)⟩
theorem paints_lim {l : List PaintD} (h : paintsSmall l = true) : l.length ≤ 10000000 ∧ ∀ p ∈ l, p.lim := by
 have hf := paints_fit h
 unfold paintsSmall at h
 rw [Bool.and_eq_true, List.all_eq_true] at h
 refine ⟨by have := of_decide_eq_true h.2; omega, fun p hp => ?_⟩
 have h1 := h.1 p hp
 unfold PaintD.small at h1
 simp only [Bool.not_eq_true', Bool.or_eq_false_iff, decide_eq_false_iff_not] at h1
 exact ⟨by omega, by omega, fit_lim (hf p hp)⟩
theorem NodeD.small_lim {nd : NodeD} (h : nd.small = true) : nd.lim := by
 unfold NodeD.small at h
 simp only [Bool.and_eq_true, decide_eq_true_eq] at h
 exact ⟨fit_lim (AffD.short_fit h.1.1.1.1.1.1), by omega, by omega, (paints_lim h.1.1.1.2).1, (paints_lim h.1.1.1.2).2, by omega, (paints_lim h.1.1.2).1, (paints_lim h.1.1.2).2, by omega⟩
theorem strip_get {l m : List PaintD} (h : l.map PaintD.strip = m.map PaintD.strip) {k : Nat} (h1 : k < l.length) (h2 : k < m.length) : l[k].t.strip = m[k].t.strip := by
 have e : (l.map PaintD.strip)[k]'(by simpa using h1) = (m.map PaintD.strip)[k]'(by simpa using h2) := by simp only [h]
 rw [List.getElem_map, List.getElem_map] at e
 exact congrArg PaintD.t e
def yes : Bool := true
theorem sameFields_any {w : World} {a b : NodeD} (h : NodeOk K w a) (h' : NodeOk K w b) (hs : a.strip = b.strip) :
  Calls Tryz.prog 27 #[a.v, b.v] w fun e w' => e = .returned (.bool yes) ∧ Ext w w' := by
 obtain ⟨hs1, hs2, hs3⟩ := strip_parts hs
 have heq : a.eqR b = true := by rw [eqR_key h.nrm h'.nrm, key_of_strip hs]; simp
 have hts := same_of_strip hs1
 refine Sx.enter Tryz.func27 Tryz.ntmps27 fun ac S => Sx.seqP fun _ κ1 => Sx.newp S 2 a.cells fun ac u b2 E3 hb4 S => Sx.newp S 3 b.cells fun ac u b5 E6 hb7 S => Sx.run S 1 [] [(4, .bool false)] fun ac S => Sx.done <| κ1 _ _ <| wp_seq_k fun _ κ8 => Sx.seqP fun _ κ9 => Sx.run S 2 [.mem 1 0, .mem 0 0] [(7, a.v), (8, b.v)] fun ac S => Sx.callv S 9 (r36Equal_any (h.below S.E) (h'.below S.E)) fun ac u E10 S => Sx.runC S 9 [.mem 1 3, .mem 0 3] [(_, _, (!(!(a.eqR b))), .bool (a.t.same b.t))] [(18, .bool ((!(a.eqR b)) || (!(a.t.same b.t))))] ⟨fun u hC g => refFields_raw (t := a.t) (t2 := b.t) (h.1.2.2.2.1.below (Ext.trans' S.E hC)) (h'.1.2.2.2.1.below (Ext.trans' S.E hC)), trivial⟩ fun ac u E11 S => Sx.done (κ9 _ _ ?_)
 refine Sx.cond S (fun hc12 => ?_) (fun hc12 => ?_)
 ·refine Sx.seqP fun _ κ13 => Sx.run S 1 [] [(4, .bool false)] fun ac S => Sx.done <| κ13 _ _ <| Vp.rt ?_
  refine Sx.ret1 S Tryz.results27 ?_
  rw [heq, hts] at hc12
  cases hc12
 ·refine wp_skip <| κ8 _ _ <| wp_seq_k fun _ κ14 => Sx.seqP fun _ κ15 => Sx.run S 4 [.mem 1 35] [(21, .int .i64 ((a.fill.length : Nat) : Int)), (22, .int .i64 0)] fun ac S => Sx.done <| κ15 _ _ <| wp_block ?_
  refine Vp.loop (ι := Nat) (fun p a' w' => p ≤ a.fill.length ∧ (True) ∧ Sx.St w a' w' 61 [(0, a.v), (1, b.v), (2, .pointer (some ⟨b2, 0, none⟩)), (3, .pointer (some ⟨b5, 0, none⟩)), (4, .bool false), (21, .int .i64 ((a.fill.length : Nat) : Int)), (22, .int .i64 ((p : Nat) : Int))] [(b5, b.cells), (b2, a.cells)] []) (fun p => a.fill.length - p) (0) ⟨Nat.zero_le _, trivial, (S.sub [(0, a.v), (1, b.v), (2, .pointer (some ⟨b2, 0, none⟩)), (3, .pointer (some ⟨b5, 0, none⟩)), (4, .bool false), (21, .int .i64 ((a.fill.length : Nat) : Int)), (22, .int .i64 ((0 : Nat) : Int))]).noviews⟩ ?_
  rintro k ac u hI
  try dsimp only at hI
  obtain ⟨hk, hR, S⟩ := hI
  refine Sx.seqP fun _ κ16 => Sx.run S 1 [] [(23, .bool (decide (((k : Nat) : Int) < ((a.fill.length : Nat) : Int))))] fun ac S => Sx.done <| κ16 _ _ <| wp_seq_k (fun _ κ17 => ?_)
  refine Sx.cond S (fun hc18 => ?_) (fun hc18 => ?_)
  ·refine wp_skip <| κ17 _ _ <| wp_seq_k fun _ κ19 => wp_block <| Sx.seqP fun _ κ20 => Sx.run S 2 [] [(5, .int .i64 ((k : Nat) : Int))] fun ac S => Sx.done <| κ20 _ _ <| wp_seq_k (fun _ κ21 => ?_)
   have lt22 : k < a.fill.length := by have := of_decide_eq_true hc18; omega
   have ln22 : a.fill.length = b.fill.length := by have := congrArg List.length hs2; simpa using this
   have mt22 : k < b.fill.length := by omega
   have hmx : a.fill.length ≤ 9223372036854775807 := h.1.2.2.2.2.2.2.2.2.2.1.1.len
   obtain ⟨bx22, ox22, cx22, vx22, hbx22, hrx22⟩ := Vp.rowN_range2 h.1.2.2.2.2.2.2.2.2.2.1.1 (fun _ => rfl) k lt22
   obtain ⟨x22, ex22⟩ : ∃ z, a.fill[k] = z := ⟨_, rfl⟩
   rw [ex22] at hrx22
   have hx22 := h.1.2.2.2.2.2.2.2.2.2.1.2 _ (ex22 ▸ List.getElem_mem lt22)
   have S := S.view0 hbx22 hrx22
   obtain ⟨by22, oy22, cy22, vy22, hby22, hry22⟩ := Vp.rowN_range2 h'.1.2.2.2.2.2.2.2.2.2.1.1 (fun _ => rfl) k mt22
   obtain ⟨y22, ey22⟩ : ∃ z, b.fill[k] = z := ⟨_, rfl⟩
   rw [ey22] at hry22
   have hy22 := h'.1.2.2.2.2.2.2.2.2.2.1.2 _ (ey22 ▸ List.getElem_mem mt22)
   have S := S.view0 hby22 hry22
   refine Sx.draw S 14 [.mem 1 35, .re 26 a.fs (.slice (some ⟨bx22, ox22, none⟩) a.fill.length cx22), .idx k a.fill.length, .mem 3 16, .mem 0 35, .re 32 b.fs (.slice (some ⟨by22, oy22, none⟩) b.fill.length cy22), .idx k b.fill.length, .mem 2 16] [(_, _, true, .bool (x22.t.same y22.t))] [(38, .bool (!(x22.t.same y22.t)))] ⟨fun u hC g => refFields_raw (t := x22.t) (t2 := y22.t) (hx22.2.2.2.2.2.2.2.2.2.below (Ext.trans' S.E hC)) (hy22.2.2.2.2.2.2.2.2.2.below (Ext.trans' S.E hC)), trivial⟩ (hk := ⟨vx22, lt22, vy22, mt22, trivial⟩) fun ac u E23 S => Sx.done (κ21 _ _ ?_)
   refine Sx.cond S (fun hc24 => ?_) (fun hc24 => ?_)
   ·refine Sx.seqP fun _ κ25 => Sx.run S 1 [] [(4, .bool false)] fun ac S => Sx.done <| κ25 _ _ <| Vp.rt ?_
    refine Sx.ret1 S Tryz.results27 ?_
    rw [same_of_strip (by have := strip_get hs2 lt22 mt22; rw [ex22, ey22] at this; exact this)] at hc24
    cases hc24
   ·refine wp_skip <| κ19 _ _ <| Vp.region <| Sx.run S 2 [.re 39 (.int .i64 (IntKind.i64.wrap (((k : Nat) : Int) + 1))) (.int .i64 (((k + 1) : Nat) : Int))] [(22, .int .i64 (((k + 1) : Nat) : Int))] (hk := ⟨Sx.wrap_succ (by omega), trivial⟩) fun ac S => Sx.done ?_
    show ∃ i', _ ∧ _
    exact ⟨(k + 1), ⟨by omega, trivial, (S.sub [(0, a.v), (1, b.v), (2, .pointer (some ⟨b2, 0, none⟩)), (3, .pointer (some ⟨b5, 0, none⟩)), (4, .bool false), (21, .int .i64 ((a.fill.length : Nat) : Int)), (22, .int .i64 (((k + 1) : Nat) : Int))]).noviews⟩, by show _ - _ < _ - _; omega⟩
  ·refine wp_exit <| κ14 _ _ <| wp_seq_k fun _ κ26 => Sx.seqP fun _ κ27 => Sx.run S 4 [.mem 1 42] [(42, .int .i64 ((a.stroke.length : Nat) : Int)), (43, .int .i64 0)] fun ac S => Sx.done <| κ27 _ _ <| wp_block ?_
   refine Vp.loop (ι := Nat) (fun p a' w' => p ≤ a.stroke.length ∧ (True) ∧ Sx.St w a' w' 61 [(0, a.v), (1, b.v), (2, .pointer (some ⟨b2, 0, none⟩)), (3, .pointer (some ⟨b5, 0, none⟩)), (4, .bool false), (21, .int .i64 ((a.fill.length : Nat) : Int)), (42, .int .i64 ((a.stroke.length : Nat) : Int)), (43, .int .i64 ((p : Nat) : Int))] [(b5, b.cells), (b2, a.cells)] []) (fun p => a.stroke.length - p) (0) ⟨Nat.zero_le _, trivial, (S.sub [(0, a.v), (1, b.v), (2, .pointer (some ⟨b2, 0, none⟩)), (3, .pointer (some ⟨b5, 0, none⟩)), (4, .bool false), (21, .int .i64 ((a.fill.length : Nat) : Int)), (42, .int .i64 ((a.stroke.length : Nat) : Int)), (43, .int .i64 ((0 : Nat) : Int))]).noviews⟩ ?_
   rintro k ac u hI
   try dsimp only at hI
   obtain ⟨hk, hR, S⟩ := hI
   refine Sx.seqP fun _ κ28 => Sx.run S 1 [] [(44, .bool (decide (((k : Nat) : Int) < ((a.stroke.length : Nat) : Int))))] fun ac S => Sx.done <| κ28 _ _ <| wp_seq_k (fun _ κ29 => ?_)
   refine Sx.cond S (fun hc30 => ?_) (fun hc30 => ?_)
   ·refine wp_skip <| κ29 _ _ <| wp_seq_k fun _ κ31 => wp_block <| Sx.seqP fun _ κ32 => Sx.run S 2 [] [(6, .int .i64 ((k : Nat) : Int))] fun ac S => Sx.done <| κ32 _ _ <| wp_seq_k (fun _ κ33 => ?_)
    have lt34 : k < a.stroke.length := by have := of_decide_eq_true hc30; omega
    have ln34 : a.stroke.length = b.stroke.length := by have := congrArg List.length hs3; simpa using this
    have mt34 : k < b.stroke.length := by omega
    have hmx : a.stroke.length ≤ 9223372036854775807 := h.1.2.2.2.2.2.2.2.2.2.2.2.1.1.len
    obtain ⟨bx34, ox34, cx34, vx34, hbx34, hrx34⟩ := Vp.rowN_range2 h.1.2.2.2.2.2.2.2.2.2.2.2.1.1 (fun _ => rfl) k lt34
    obtain ⟨x34, ex34⟩ : ∃ z, a.stroke[k] = z := ⟨_, rfl⟩
    rw [ex34] at hrx34
    have hx34 := h.1.2.2.2.2.2.2.2.2.2.2.2.1.2 _ (ex34 ▸ List.getElem_mem lt34)
    have S := S.view0 hbx34 hrx34
    obtain ⟨by34, oy34, cy34, vy34, hby34, hry34⟩ := Vp.rowN_range2 h'.1.2.2.2.2.2.2.2.2.2.2.2.1.1 (fun _ => rfl) k mt34
    obtain ⟨y34, ey34⟩ : ∃ z, b.stroke[k] = z := ⟨_, rfl⟩
    rw [ey34] at hry34
    have hy34 := h'.1.2.2.2.2.2.2.2.2.2.2.2.1.2 _ (ey34 ▸ List.getElem_mem mt34)
    have S := S.view0 hby34 hry34
    refine Sx.draw S 14 [.mem 1 42, .re 47 a.ss (.slice (some ⟨bx34, ox34, none⟩) a.stroke.length cx34), .idx k a.stroke.length, .mem 3 16, .mem 0 42, .re 53 b.ss (.slice (some ⟨by34, oy34, none⟩) b.stroke.length cy34), .idx k b.stroke.length, .mem 2 16] [(_, _, true, .bool (x34.t.same y34.t))] [(59, .bool (!(x34.t.same y34.t)))] ⟨fun u hC g => refFields_raw (t := x34.t) (t2 := y34.t) (hx34.2.2.2.2.2.2.2.2.2.below (Ext.trans' S.E hC)) (hy34.2.2.2.2.2.2.2.2.2.below (Ext.trans' S.E hC)), trivial⟩ (hk := ⟨vx34, lt34, vy34, mt34, trivial⟩) fun ac u E35 S => Sx.done (κ33 _ _ ?_)
    refine Sx.cond S (fun hc36 => ?_) (fun hc36 => ?_)
    ·refine Sx.seqP fun _ κ37 => Sx.run S 1 [] [(4, .bool false)] fun ac S => Sx.done <| κ37 _ _ <| Vp.rt ?_
     refine Sx.ret1 S Tryz.results27 ?_
     rw [same_of_strip (by have := strip_get hs3 lt34 mt34; rw [ex34, ey34] at this; exact this)] at hc36
     cases hc36
    ·refine wp_skip <| κ31 _ _ <| Vp.region <| Sx.run S 2 [.re 60 (.int .i64 (IntKind.i64.wrap (((k : Nat) : Int) + 1))) (.int .i64 (((k + 1) : Nat) : Int))] [(43, .int .i64 (((k + 1) : Nat) : Int))] (hk := ⟨Sx.wrap_succ (by omega), trivial⟩) fun ac S => Sx.done ?_
     show ∃ i', _ ∧ _
     exact ⟨(k + 1), ⟨by omega, trivial, (S.sub [(0, a.v), (1, b.v), (2, .pointer (some ⟨b2, 0, none⟩)), (3, .pointer (some ⟨b5, 0, none⟩)), (4, .bool false), (21, .int .i64 ((a.fill.length : Nat) : Int)), (42, .int .i64 ((a.stroke.length : Nat) : Int)), (43, .int .i64 (((k + 1) : Nat) : Int))]).noviews⟩, by show _ - _ < _ - _; omega⟩
   ·refine wp_exit <| κ26 _ _ <| Sx.seqP fun _ κ38 => Sx.run S 1 [] [(4, .bool true)] fun ac S => Sx.done <| κ38 _ _ <| Vp.rt ?_
    refine Sx.ret1 S Tryz.results27 ?_
    exact ⟨rfl, S.E⟩
theorem nodeCloneLaw_any {w : World} {nd : NodeD} (h : nd.ok w) (hg : GlobOk w) :
  Calls Tryz.prog 8 #[nd.v] w fun e w' => e = .returned (.bool true) ∧ Ext w w' := by
 skip
 refine Sx.enter Tryz.func8 Tryz.ntmps8 fun ac S => Sx.seqP fun _ κ1 => Sx.newp S 1 nd.cells fun ac u b2 E3 hb4 S => Sx.run S 1 [] [(2, .bool false)] fun ac S => Sx.done <| κ1 _ _ <| wp_seq_k fun _ κ5 => Sx.seqP fun _ κ6 => Sx.run S 1 [.mem 0 0] [(5, nd.v)] fun ac S => Sx.callv S 6 (small_any (h.below S.E)) fun ac u E7 S => Sx.run S 1 [] [(7, .bool (!nd.small))] fun ac S => Sx.done (κ6 _ _ ?_)
 refine Sx.cond S (fun hc8 => ?_) (fun hc8 => ?_)
 ·refine Sx.seqP fun _ κ9 => Sx.callv S 8 (example_any (hg.below S.E)) fun ac u E10 S => Sx.run S 1 [] [(2, .bool true)] fun ac S => Sx.done <| κ9 _ _ <| Vp.rt ?_
  refine Sx.ret1 S Tryz.results8 ?_
  exact ⟨rfl, S.E⟩
 ·have hsm : nd.small = true := by simpa using hc8
  have hok := NodeD.small_ok hsm h
  have hlim := NodeD.small_lim hsm
  refine wp_skip <| κ5 _ _ <| Sx.seqP fun _ κ11 => Sx.run S 1 [.mem 0 0] [(9, nd.v)] fun ac S => Sx.callG S (some 10) (clone36_any (hok.1.below S.E) hlim) ?_
  rintro e u ⟨m, rfl, hm, hms, E12⟩
  refine ⟨_, rfl, E12, fun ac S => ?_⟩
  refine Sx.newp S 3 (Sx.L [.int .i64 0, .int .i64 0, .int .i64 0] ++ Sx.za ++ Sx.L [.slice none 0 0, .int .i64 0, .int .u8 0, .int .i64 0, .bool false, .bool false, .slice none 0 0, .int .i64 0, .slice none 0 0, .int .i64 0, .int .i64 0, .int .i64 0, .int .i64 0, .slice none 0 0, .int .i64 0, .slice none 0 0, .int .i64 0, .int .i64 0, .slice none 0 0, .int .i64 0]) fun ac u b13 E14 hb15 S => Sx.store S 0 (off := 0) (cs := m.cells) rfl (fun u C16 S => ?_)
  have E17 := Sx.ext_ch E14 C16 (by omega)
  refine Sx.done <| κ11 _ _ <| Sx.seqP fun _ κ18 => Sx.run S 1 [.mem 1 0] [(11, nd.v)] (fun ac S => ?_)
  have hwas : m.ok u := (Sx.On.self (Sx.On.ext hm E17)).1
  have z0 := (S.bx 0).1
  have z1 := (S.bx 1).1
  have y0 := S.E.size
  refine Sx.callG S (some 12) (clone_any (hok.1.below S.E) hlim) ?_
  rintro e u ⟨c, rfl, hc, hcs, E19⟩
  have Ec := E19
  refine ⟨_, rfl, E19, fun ac S => ?_⟩
  refine Sx.newp S 4 (Sx.L [.int .i64 0, .int .i64 0, .int .i64 0] ++ Sx.za ++ Sx.L [.slice none 0 0, .int .i64 0, .int .u8 0, .int .i64 0, .bool false, .bool false, .slice none 0 0, .int .i64 0, .slice none 0 0, .int .i64 0, .int .i64 0, .int .i64 0, .int .i64 0, .slice none 0 0, .int .i64 0, .slice none 0 0, .int .i64 0, .int .i64 0, .slice none 0 0, .int .i64 0]) fun ac u b20 E21 hb22 S => Sx.store S 0 (off := 0) (cs := c.cells) rfl (fun u C23 S => ?_)
  have E24 := Sx.ext_ch E21 C23 (by omega)
  have E25 := Sx.ext_ch E21 C23 (by omega)
  refine Sx.done <| κ18 _ _ <| wp_seq_k fun _ κ26 => wp_seq_k fun _ κ27 => Sx.draw S 17 [.mem 0 0, .mem 2 0, .mem 0 0, .mem 2 0, .mem 0 0, .mem 2 0] [(_, _, true, .bool yes), (_, _, (!(!yes)), .bool (c.eqP nd)), (_, _, (!((!yes) || (!(c.eqP nd)))), .int .i64 c.checkN), (_, _, (!((!yes) || (!(c.eqP nd)))), .int .i64 nd.checkN)] [(29, .bool (((!yes) || (!(c.eqP nd))) || ((c.checkN) != nd.checkN)))] ⟨fun u hC g => sameFields_any (hok.strip (Sx.On.self (Sx.On.ext hc (Ext.trans' E24 hC))).1 hcs) (hok.below (Ext.trans' S.E hC)) hcs, fun u hC g => nodeEqual_any (hok.strip (Sx.On.self (Sx.On.ext hc (Ext.trans' E24 hC))).1 hcs) (hok.below (Ext.trans' S.E hC)), fun u hC g => nodeCheck_any (hok.strip (Sx.On.self (Sx.On.ext hc (Ext.trans' E24 hC))).1 hcs) (hg.below (Ext.trans' S.E hC)), fun u hC g => nodeCheck_any (hok.below (Ext.trans' S.E hC)) (hg.below (Ext.trans' S.E hC)), trivial⟩ fun ac u E28 S => Sx.done (κ27 _ _ ?_)
  refine Sx.cond S (fun hc29 => ?_) (fun hc29 => ?_)
  ·refine Sx.seqP fun _ κ30 => Sx.run S 1 [] [(2, .bool false)] fun ac S => Sx.done <| κ30 _ _ <| Vp.rt ?_
   refine Sx.ret1 S Tryz.results8 ?_
   rw [show yes = true from rfl, eqP_key (hok.strip (Sx.On.self (Sx.On.ext hc (Ext.trans' E24 E28))).1 hcs).nrm hok.nrm, key_of_strip hcs, check_of_strip hcs] at hc29
   simp at hc29
  ·refine wp_skip <| κ26 _ _ <| Sx.seqP fun _ κ31 => Sx.run S 1 [.mem 0 0] [(30, c.v)] (fun ac S => ?_)
   have S := S.dropB 1
   refine Sx.callB S (some 31) (overwrite_any (Sx.On.ext hc (Ext.trans' E24 E28)) ((Ext.trans' Ec (Ext.trans' E25 E28))).size) (by omega) (by simp [Sx.vb]; omega) (fun ac u B8 S => ?_)
   have E9 := Below.trans ((Ext.trans' Ec (Ext.trans' E25 E28))) B8
   refine Sx.done <| κ31 _ _ <| Sx.seqP fun _ κ32 => Sx.run S 2 [.mem 1 0, .mem 0 0] [(32, nd.v), (33, m.v)] fun ac S => Sx.callv S 34 (sameFields_any (hok.below S.E) ((hok.strip (hwas.below E9) hms).below Ext.rfl') hms.symm) fun ac u E33 S => Sx.runC S 4 [] [(_, _, yes, .bool true)] [(2, .bool (yes && true))] ⟨fun u hC g => example_any (hg.below (Ext.trans' S.E hC)), trivial⟩ fun ac u E34 S => Sx.done <| κ32 _ _ <| Vp.rt ?_
   refine Sx.ret1 S Tryz.results8 ?_
   exact ⟨rfl, S.E⟩
end Go.Proofs.YtcohmdeoocgmdaaGreatDoor
