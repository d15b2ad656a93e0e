/- The references that the law NodeCheck calls: the simple tests. -/
import Derived.Test.YtcohmdeoocgmdaaGreatDoorCheck
set_option maxHeartbeats 1600000
set_option maxRecDepth 100000
namespace Go.Proofs.YtcohmdeoocgmdaaGreatDoor
open Go.RowKit
variable {α : Type} {K : Nat}
set_option linter.unusedVariables false
def size33 (a b : Int) : Bool := (side a && side b) && decide (a * b ≤ 65536)
theorem within_no {x lo hi : Int} (h : (!(decide (lo ≤ x) && decide (x ≤ hi))) = true) : ((decide (x < lo)) || (decide (hi < x))) = true := by
  simp only [Bool.not_eq_true', Bool.and_eq_false_iff, decide_eq_false_iff_not] at h
  simp only [Bool.or_eq_true, decide_eq_true_eq]; omega
theorem within_yes {x lo hi : Int} (h : (!(decide (lo ≤ x) && decide (x ≤ hi))) = false) : ((decide (x < lo)) || (decide (hi < x))) = false := by
  simp only [Bool.not_eq_false', Bool.and_eq_true, decide_eq_true_eq] at h
  simp only [Bool.or_eq_false_iff, decide_eq_false_iff_not]; omega
theorem dash22_end {l : List Int} {k : Nat} {any : Bool} (hk : l.length ≤ k) (hR : dashAny l (l.take k) = some any) : ((any && (decide (((l.length : Nat) : Int) ≤ 16))) && ((Int.tmod ((l.length : Nat) : Int) 2) == 0)) = dashOk l := by
  rw [← dash_end hk hR, Bool.and_assoc, Bool.and_assoc, Bool.and_comm (decide _)]
theorem r33_size {a b : Int} : (((((decide (1 ≤ a)) && (decide (a ≤ 4096))) && (decide (1 ≤ b))) && (decide (b ≤ 4096))) && (decide (IntKind.i64.wrap (a * b) ≤ 65536))) = size33 a b := by
  unfold size33
  cases ha : side a
  · have : ((decide (1 ≤ a)) && (decide (a ≤ 4096))) = false := ha
    rw [this]; rfl
  · cases hb : side b
    · have : ((decide (1 ≤ b)) && (decide (b ≤ 4096))) = false := hb
      rw [Bool.and_assoc ((decide (1 ≤ a)) && (decide (a ≤ 4096))), this]; simp
    · rw [side_wrap ha hb]
      have h1 : ((decide (1 ≤ a)) && (decide (a ≤ 4096))) = true := ha
      have h2 : ((decide (1 ≤ b)) && (decide (b ≤ 4096))) = true := hb
      rw [Bool.and_assoc ((decide (1 ≤ a)) && (decide (a ≤ 4096))), h1, h2]
theorem size33_wrap {a b : Int} (h : size33 a b = true) : IntKind.i64.wrap (a * b) = a * b := by
  unfold size33 at h
  simp only [Bool.and_eq_true] at h
  exact side_wrap h.1.1 h.1.2
theorem img33_wrap {m : ImgD} : ((!(size33 m.w m.h)) || (((m.l.length : Nat) : Int) != IntKind.i64.wrap (m.w * m.h))) = ((!(size33 m.w m.h)) || (((m.l.length : Nat) : Int) != (m.w * m.h))) := by
  cases h : size33 m.w m.h
  · rfl
  · rw [size33_wrap h]
theorem size33_eq (m : ImgD) : size33 m.w m.h = m.size := by unfold size33 ImgD.size; rw [Bool.and_assoc]
theorem img33_no {m : ImgD} (h : ((!(size33 m.w m.h)) || (((m.l.length : Nat) : Int) != (m.w * m.h))) = true) : false = m.valid := by
  unfold ImgD.valid
  rw [← size33_eq]
  revert h
  cases size33 m.w m.h <;> simp
  intro h h1; omega
theorem img33_yes {m : ImgD} (h : ((!(size33 m.w m.h)) || (((m.l.length : Nat) : Int) != (m.w * m.h))) = false) (ha : m.l.all PixD.valid = true) : true = m.valid := by
  unfold ImgD.valid
  rw [← size33_eq]
  revert h
  cases size33 m.w m.h <;> simp
  intro h; exact ⟨h, by simpa using ha⟩
theorem img33_bad {m : ImgD} (ha : m.l.all PixD.valid = false) : false = m.valid := by
  unfold ImgD.valid
  rw [ha]; simp
theorem r36rule_any (n : Int) (w : World) :
    Calls Tryz.prog 90 #[.int .i64 n] w fun e w' => e = .returned (.bool (((n) == 1) || ((n) == 2))) ∧ w = w' := by
  skip
  refine Sx.enter Tryz.func90 Tryz.ntmps90 (fun ac S => ?_)
  refine Sx.seqP (fun _ κ1 => ?_)
  refine Sx.run S 1 [] [(2, .bool false)] (fun ac S => ?_)
  refine Sx.done (κ1 _ _ ?_)
  refine Sx.seqP (fun _ κ2 => ?_)
  refine Sx.run S 7 [] [(2, .bool (((n) == 1) || ((n) == 2)))] (fun ac S => ?_)
  refine Sx.done (κ2 _ _ ?_)
  refine Vp.rt ?_
  refine Sx.ret1 S Tryz.results90 ?_
  exact ⟨rfl, rfl⟩
def NodeD.noShape (nd : NodeD) : Bool := ((((((nd.path.length : Nat) : Int)) == 0) && ((nd.fillRule) == 0)) && ((((nd.fill.length : Nat) : Int)) == 0)) && ((((nd.stroke.length : Nat) : Int)) == 0)
theorem r36noShape_any {w : World} {nd : NodeD} (h : nd.ok w) :
    Calls Tryz.prog 91 #[nd.v] w fun e w' => e = .returned (.bool (nd.noShape)) ∧ Ext w w' := by
  skip
  refine Sx.enter Tryz.func91 Tryz.ntmps91 (fun ac S => ?_)
  refine Sx.seqP (fun _ κ1 => ?_)
  refine Sx.newp S 1 nd.cells (fun ac u b2 E3 hb4 S => ?_)
  refine Sx.run S 1 [] [(2, .bool false)] (fun ac S => ?_)
  refine Sx.done (κ1 _ _ ?_)
  refine Sx.seqP (fun _ κ5 => ?_)
  refine Sx.run S 22 [.mem 0 33, .mem 0 34, .mem 0 35, .mem 0 42] [(2, .bool (((((((nd.path.length : Nat) : Int)) == 0) && ((nd.fillRule) == 0)) && ((((nd.fill.length : Nat) : Int)) == 0)) && ((((nd.stroke.length : Nat) : Int)) == 0)))] (fun ac S => ?_)
  refine Sx.done (κ5 _ _ ?_)
  refine Vp.rt ?_
  refine Sx.ret1 S Tryz.results91 ?_
  exact ⟨rfl, S.E⟩
def NodeD.noStyle (nd : NodeD) : Bool := ((((((nd.style.width) == 0) && ((nd.style.join) == 0)) && ((nd.style.cap) == 0)) && ((nd.style.miter) == 0)) && ((((nd.style.dash.length : Nat) : Int)) == 0)) && ((nd.style.phase) == 0)
theorem r36noStyle_any {w : World} {nd : NodeD} (h : nd.ok w) :
    Calls Tryz.prog 92 #[nd.v] w fun e w' => e = .returned (.bool (nd.noStyle)) ∧ Ext w w' := by
  skip
  refine Sx.enter Tryz.func92 Tryz.ntmps92 (fun ac S => ?_)
  refine Sx.seqP (fun _ κ1 => ?_)
  refine Sx.newp S 1 nd.cells (fun ac u b2 E3 hb4 S => ?_)
  refine Sx.run S 1 [] [(2, .bool false)] (fun ac S => ?_)
  refine Sx.done (κ1 _ _ ?_)
  refine Sx.seqP (fun _ κ5 => ?_)
  refine Sx.run S 2 [.mem 0 36] [(5, nd.style.v)] (fun ac S => ?_)
  refine Sx.newp S 3 [.int .i64 0, .int .i64 0, .int .i64 0, .int .i64 0, .slice none 0 0, .int .i64 0] (fun ac u b6 E7 hb8 S => ?_)
  refine Sx.store S 0 (off := 0) (cs := nd.style.cells) rfl (fun u C9 S => ?_)
  refine Sx.done (κ5 _ _ ?_)
  refine Sx.seqP (fun _ κ10 => ?_)
  refine Sx.run S 30 [.mem 0 0, .mem 0 1, .mem 0 2, .mem 0 3, .mem 0 4, .mem 0 5] [(2, .bool (((((((nd.style.width) == 0) && ((nd.style.join) == 0)) && ((nd.style.cap) == 0)) && ((nd.style.miter) == 0)) && ((((nd.style.dash.length : Nat) : Int)) == 0)) && ((nd.style.phase) == 0)))] (fun ac S => ?_)
  refine Sx.done (κ10 _ _ ?_)
  refine Vp.rt ?_
  refine Sx.ret1 S Tryz.results92 ?_
  exact ⟨rfl, S.E⟩
def NodeD.noImage (nd : NodeD) : Bool := ((((nd.img.w) == 0) && ((nd.img.h) == 0)) && ((((nd.img.l.length : Nat) : Int)) == 0)) && ((nd.samp) == 0)
theorem r36noImage_any {w : World} {nd : NodeD} (h : nd.ok w) :
    Calls Tryz.prog 93 #[nd.v] w fun e w' => e = .returned (.bool (nd.noImage)) ∧ Ext w w' := by
  skip
  refine Sx.enter Tryz.func93 Tryz.ntmps93 (fun ac S => ?_)
  refine Sx.seqP (fun _ κ1 => ?_)
  refine Sx.newp S 1 nd.cells (fun ac u b2 E3 hb4 S => ?_)
  refine Sx.run S 1 [] [(2, .bool false)] (fun ac S => ?_)
  refine Sx.done (κ1 _ _ ?_)
  refine Sx.seqP (fun _ κ5 => ?_)
  refine Sx.run S 23 [.mem 0 43, .mem 0 44, .mem 0 45, .mem 0 46] [(2, .bool (((((nd.img.w) == 0) && ((nd.img.h) == 0)) && ((((nd.img.l.length : Nat) : Int)) == 0)) && ((nd.samp) == 0)))] (fun ac S => ?_)
  refine Sx.done (κ5 _ _ ?_)
  refine Vp.rt ?_
  refine Sx.ret1 S Tryz.results93 ?_
  exact ⟨rfl, S.E⟩
def NodeD.noGroup (nd : NodeD) : Bool := (((((nd.opacity.toNat : Int)) == 0) && ((nd.blend) == 0)) && (!nd.isolated)) && (!nd.knockout)
theorem r36noGroup_any {w : World} {nd : NodeD} (h : nd.ok w) :
    Calls Tryz.prog 94 #[nd.v] w fun e w' => e = .returned (.bool (nd.noGroup)) ∧ Ext w w' := by
  skip
  refine Sx.enter Tryz.func94 Tryz.ntmps94 (fun ac S => ?_)
  refine Sx.seqP (fun _ κ1 => ?_)
  refine Sx.newp S 1 nd.cells (fun ac u b2 E3 hb4 S => ?_)
  refine Sx.run S 1 [] [(2, .bool false)] (fun ac S => ?_)
  refine Sx.done (κ1 _ _ ?_)
  refine Sx.seqP (fun _ κ5 => ?_)
  refine Sx.run S 19 [.mem 0 29, .mem 0 30, .mem 0 31, .mem 0 32] [(2, .bool ((((((nd.opacity.toNat : Int)) == 0) && ((nd.blend) == 0)) && (!nd.isolated)) && (!nd.knockout)))] (fun ac S => ?_)
  refine Sx.done (κ5 _ _ ?_)
  refine Vp.rt ?_
  refine Sx.ret1 S Tryz.results94 ?_
  exact ⟨rfl, S.E⟩
def NodeD.onlyOwn (nd : NodeD) : Bool := cond ((((((nd.clip.length : Nat) : Int)) == 0) && ((nd.clipRule) != 0)) || ((decide (0 < ((nd.clip.length : Nat) : Int))) && (!((nd.clipRule == 1) || (nd.clipRule == 2))))) (false) (cond ((nd.kind) == 1) ((nd.noShape && nd.noStyle) && nd.noImage) (cond ((nd.kind) == 2) (nd.noGroup && nd.noImage) ((nd.noGroup && nd.noShape) && nd.noStyle)))
theorem r36own_any {w : World} {nd : NodeD} (h : nd.ok w) :
    Calls Tryz.prog 42 #[nd.v] w fun e w' => e = .returned (.bool nd.onlyOwn) ∧ Ext w w' := by
  skip
  refine Sx.enter Tryz.func42 Tryz.ntmps42 (fun ac S => ?_)
  refine Sx.seqP (fun _ κ1 => ?_)
  refine Sx.newp S 1 nd.cells (fun ac u b2 E3 hb4 S => ?_)
  refine Sx.run S 1 [] [(2, .bool false)] (fun ac S => ?_)
  refine Sx.done (κ1 _ _ ?_)
  refine wp_seq_k (fun _ κ5 => ?_)
  refine Sx.seqP (fun _ κ6 => ?_)
  refine Sx.runC S 21 [.mem 0 27, .mem 0 28, .mem 0 27, .mem 0 28] [(_, _, ((!(((((nd.clip.length : Nat) : Int)) == 0) && ((nd.clipRule) != 0))) && (decide (0 < ((nd.clip.length : Nat) : Int)))), .bool ((nd.clipRule == 1) || (nd.clipRule == 2)))] [(23, .bool ((((((nd.clip.length : Nat) : Int)) == 0) && ((nd.clipRule) != 0)) || ((decide (0 < ((nd.clip.length : Nat) : Int))) && (!((nd.clipRule == 1) || (nd.clipRule == 2))))))] ⟨fun u hC g => Sx.same (r36rule_any nd.clipRule _), trivial⟩ (fun ac u E7 S => ?_)
  refine Sx.done (κ6 _ _ ?_)
  refine Sx.cond S (fun hc8 => ?_) (fun hc8 => ?_)
  · refine Sx.seqP (fun _ κ9 => ?_)
    refine Sx.run S 1 [] [(2, .bool false)] (fun ac S => ?_)
    refine Sx.done (κ9 _ _ ?_)
    refine Vp.rt ?_
    have p0 := hc8
    refine Sx.ret1 S Tryz.results42 ?_
    exact ⟨ret_bool (by unfold NodeD.onlyOwn; simp only [p0, cond_true]), S.E⟩
  · refine wp_skip ?_
    refine κ5 _ _ ?_
    refine wp_seq_k (fun _ κ10 => ?_)
    refine Sx.seqP (fun _ κ11 => ?_)
    refine Sx.run S 2 [.mem 0 1] [(25, .int .i64 nd.kind)] (fun ac S => ?_)
    refine Sx.done (κ11 _ _ ?_)
    refine wp_block ?_
    refine Sx.seqP (fun _ κ12 => ?_)
    refine Sx.run S 2 [] [(26, .bool ((nd.kind) == 1))] (fun ac S => ?_)
    refine Sx.done (κ12 _ _ ?_)
    refine Sx.cond S (fun hc13 => ?_) (fun hc13 => ?_)
    · refine Sx.seqP (fun _ κ14 => ?_)
      refine Sx.run S 1 [.mem 0 0] [(28, nd.v)] (fun ac S => ?_)
      refine Sx.callv S 29 (r36noShape_any (h.below S.E)) (fun ac u E15 S => ?_)
      refine Sx.runC S 9 [.mem 0 0, .mem 0 0] [(_, _, nd.noShape, .bool nd.noStyle), (_, _, (nd.noShape && nd.noStyle), .bool nd.noImage)] [(2, .bool ((nd.noShape && nd.noStyle) && nd.noImage))] ⟨fun u hC g => r36noStyle_any (h.below (Ext.trans' S.E hC)), fun u hC g => r36noImage_any (h.below (Ext.trans' S.E hC)), trivial⟩ (fun ac u E16 S => ?_)
      refine Sx.done (κ14 _ _ ?_)
      refine Vp.rt ?_
      have p0 := hc8
      have p1 := hc13
      refine Sx.ret1 S Tryz.results42 ?_
      exact ⟨ret_bool (by unfold NodeD.onlyOwn; simp only [p0, p1, cond_true, cond_false]), S.E⟩
    · refine Sx.seqP (fun _ κ17 => ?_)
      refine Sx.run S 2 [] [(38, .bool ((nd.kind) == 2))] (fun ac S => ?_)
      refine Sx.done (κ17 _ _ ?_)
      refine Sx.cond S (fun hc18 => ?_) (fun hc18 => ?_)
      · refine Sx.seqP (fun _ κ19 => ?_)
        refine Sx.run S 1 [.mem 0 0] [(40, nd.v)] (fun ac S => ?_)
        refine Sx.callv S 41 (r36noGroup_any (h.below S.E)) (fun ac u E20 S => ?_)
        refine Sx.runC S 5 [.mem 0 0] [(_, _, nd.noGroup, .bool nd.noImage)] [(2, .bool (nd.noGroup && nd.noImage))] ⟨fun u hC g => r36noImage_any (h.below (Ext.trans' S.E hC)), trivial⟩ (fun ac u E21 S => ?_)
        refine Sx.done (κ19 _ _ ?_)
        refine Vp.rt ?_
        have p0 := hc8
        have p1 := hc13
        have p2 := hc18
        refine Sx.ret1 S Tryz.results42 ?_
        exact ⟨ret_bool (by unfold NodeD.onlyOwn; simp only [p0, p1, p2, cond_true, cond_false]), S.E⟩
      · refine wp_skip ?_
        refine κ10 _ _ ?_
        refine Sx.seqP (fun _ κ22 => ?_)
        refine Sx.run S 1 [.mem 0 0] [(46, nd.v)] (fun ac S => ?_)
        refine Sx.callv S 47 (r36noGroup_any (h.below S.E)) (fun ac u E23 S => ?_)
        refine Sx.runC S 9 [.mem 0 0, .mem 0 0] [(_, _, nd.noGroup, .bool nd.noShape), (_, _, (nd.noGroup && nd.noShape), .bool nd.noStyle)] [(2, .bool ((nd.noGroup && nd.noShape) && nd.noStyle))] ⟨fun u hC g => r36noShape_any (h.below (Ext.trans' S.E hC)), fun u hC g => r36noStyle_any (h.below (Ext.trans' S.E hC)), trivial⟩ (fun ac u E24 S => ?_)
        refine Sx.done (κ22 _ _ ?_)
        refine Vp.rt ?_
        have p0 := hc8
        have p1 := hc13
        have p2 := hc18
        refine Sx.ret1 S Tryz.results42 ?_
        exact ⟨ret_bool (by unfold NodeD.onlyOwn; simp only [p0, p1, p2, cond_false]), S.E⟩
theorem r28mode_any (n : Int) (w : World) :
    Calls Tryz.prog 44 #[.int .i64 n] w fun e w' => e = .returned (.bool ((decide (1 ≤ n)) && (decide (n ≤ 13)))) ∧ w = w' := by
  skip
  refine Sx.enter Tryz.func44 Tryz.ntmps44 (fun ac S => ?_)
  refine Sx.seqP (fun _ κ1 => ?_)
  refine Sx.run S 1 [] [(2, .bool false)] (fun ac S => ?_)
  refine Sx.done (κ1 _ _ ?_)
  refine Sx.seqP (fun _ κ2 => ?_)
  refine Sx.run S 7 [] [(2, .bool ((decide (1 ≤ n)) && (decide (n ≤ 13))))] (fun ac S => ?_)
  refine Sx.done (κ2 _ _ ?_)
  refine Vp.rt ?_
  refine Sx.ret1 S Tryz.results44 ?_
  exact ⟨rfl, rfl⟩
def PixD.ok27 (p : PixD) : Bool := ((decide ((p.r.toNat : Int) ≤ (p.a.toNat : Int))) && (decide ((p.g.toNat : Int) ≤ (p.a.toNat : Int)))) && (decide ((p.b.toNat : Int) ≤ (p.a.toNat : Int)))
theorem r27Valid_any (p : PixD) (w : World) :
    Calls Tryz.prog 98 #[.agg #[.int .u8 (p.r.toNat : Int), .int .u8 (p.g.toNat : Int), .int .u8 (p.b.toNat : Int), .int .u8 (p.a.toNat : Int)]] w fun e w' => e = .returned (.bool (p.ok27)) ∧ Ext w w' := by
  skip
  refine Sx.enter Tryz.func98 Tryz.ntmps98 (fun ac S => ?_)
  refine Sx.seqP (fun _ κ1 => ?_)
  refine Sx.newp S 1 p.cells (fun ac u b2 E3 hb4 S => ?_)
  refine Sx.run S 1 [] [(2, .bool false)] (fun ac S => ?_)
  refine Sx.done (κ1 _ _ ?_)
  refine Sx.seqP (fun _ κ5 => ?_)
  refine Sx.run S 20 [.mem 0 0, .mem 0 3, .mem 0 1, .mem 0 3, .mem 0 2, .mem 0 3] [(2, .bool (((decide ((p.r.toNat : Int) ≤ (p.a.toNat : Int))) && (decide ((p.g.toNat : Int) ≤ (p.a.toNat : Int)))) && (decide ((p.b.toNat : Int) ≤ (p.a.toNat : Int)))))] (fun ac S => ?_)
  refine Sx.done (κ5 _ _ ?_)
  refine Vp.rt ?_
  refine Sx.ret1 S Tryz.results98 ?_
  exact ⟨rfl, S.E⟩
theorem ok27_valid (p : PixD) : p.ok27 = p.valid := by
  unfold PixD.ok27 PixD.valid
  simp only [UInt8.le_iff_toNat_le, Int.ofNat_le, Bool.and_assoc]
theorem r33Size_any (a b : Int) (w : World) :
    Calls Tryz.prog 97 #[.int .i64 a, .int .i64 b] w fun e w' => e = .returned (.bool (size33 a b)) ∧ w = w' := by
  skip
  refine Sx.enter Tryz.func97 Tryz.ntmps97 (fun ac S => ?_)
  refine Sx.seqP (fun _ κ1 => ?_)
  refine Sx.run S 1 [] [(4, .bool false)] (fun ac S => ?_)
  refine Sx.done (κ1 _ _ ?_)
  refine Sx.seqP (fun _ κ2 => ?_)
  refine Sx.run S 21 [] [(4, .bool (((((decide (1 ≤ a)) && (decide (a ≤ 4096))) && (decide (1 ≤ b))) && (decide (b ≤ 4096))) && (decide ((IntKind.i64.wrap (a * b)) ≤ 65536))))] (fun ac S => ?_)
  refine Sx.done (κ2 _ _ ?_)
  refine Vp.rt ?_
  refine Sx.ret1 S Tryz.results97 ?_
  exact ⟨ret_bool (by exact r33_size), rfl⟩
theorem r33Valid_any {w : World} {m : ImgD} (h : m.ok w) :
    Calls Tryz.prog 45 #[m.v] w fun e w' => e = .returned (.bool m.valid) ∧ Ext w w' := by
  obtain ⟨a, cap, hs⟩ := h.2.2.shape
  unfold ImgD.v
  have hq := h.2.2
  rw [hs]
  rw [hs] at hq
  have hmax : m.l.length ≤ 9223372036854775807 := h.2.2.len
  refine Sx.enter Tryz.func45 Tryz.ntmps45 (fun ac S => ?_)
  refine Sx.seqP (fun _ κ1 => ?_)
  refine Sx.newp S 1 [.int .i64 m.w, .int .i64 m.h, .slice a m.l.length cap] (fun ac u b2 E3 hb4 S => ?_)
  refine Sx.run S 1 [] [(2, .bool false)] (fun ac S => ?_)
  refine Sx.done (κ1 _ _ ?_)
  refine wp_seq_k (fun _ κ5 => ?_)
  refine Sx.seqP (fun _ κ6 => ?_)
  refine Sx.run S 4 [.mem 0 0, .mem 0 1] [(5, .int .i64 m.w), (7, .int .i64 m.h)] (fun ac S => ?_)
  refine Sx.calls S 8 (r33Size_any m.w m.h _) (fun ac S => ?_)
  refine Sx.run S 12 [.mem 0 2, .mem 0 0, .mem 0 1] [(20, .bool ((!(size33 m.w m.h)) || ((((m.l.length : Nat) : Int)) != (IntKind.i64.wrap (m.w * m.h)))))] (fun ac S => ?_)
  refine Sx.done (κ6 _ _ ?_)
  refine Sx.cond S (fun hc7 => ?_) (fun hc7 => ?_)
  · refine Sx.seqP (fun _ κ8 => ?_)
    refine Sx.run S 1 [] [(2, .bool false)] (fun ac S => ?_)
    refine Sx.done (κ8 _ _ ?_)
    refine Vp.rt ?_
    refine Sx.ret1 S Tryz.results45 ?_
    exact ⟨ret_bool (img33_no (img33_wrap ▸ hc7)), S.E⟩
  · refine wp_skip ?_
    refine κ5 _ _ ?_
    refine wp_seq_k (fun _ κ9 => ?_)
    refine Sx.seqP (fun _ κ10 => ?_)
    refine Sx.run S 1 [] [(3, .int .i64 0)] (fun ac S => ?_)
    refine Sx.done (κ10 _ _ ?_)
    refine wp_block ?_
    refine Vp.loop (ι := Nat) (fun p a' w' => p ≤ m.l.length ∧ ((m.l.take p).all PixD.valid = true) ∧ Sx.St w a' w' 35 [(0, .agg #[.int .i64 m.w, .int .i64 m.h, .slice a m.l.length cap]), (1, .pointer (some ⟨b2, 0, none⟩)), (2, .bool false), (3, .int .i64 ((p : Nat) : Int))] [(b2, [.int .i64 m.w, .int .i64 m.h, .slice a m.l.length cap])] []) (fun p => m.l.length - p) (0) ⟨Nat.zero_le _, rfl, (S.sub [(0, .agg #[.int .i64 m.w, .int .i64 m.h, .slice a m.l.length cap]), (1, .pointer (some ⟨b2, 0, none⟩)), (2, .bool false), (3, .int .i64 ((0 : Nat) : Int))]).noviews⟩ ?_
    rintro k ac u hI
    try dsimp only at hI
    obtain ⟨hk, hR, S⟩ := hI
    refine wp_seq_k (fun _ κ11 => ?_)
    refine Sx.seqP (fun _ κ12 => ?_)
    refine Sx.run S 5 [.mem 0 2] [(25, .bool (decide (((k : Nat) : Int) < ((m.l.length : Nat) : Int))))] (fun ac S => ?_)
    refine Sx.done (κ12 _ _ ?_)
    refine Sx.cond S (fun hc13 => ?_) (fun hc13 => ?_)
    · refine wp_skip ?_
      refine κ11 _ _ ?_
      refine wp_seq_k (fun _ κ14 => ?_)
      refine wp_block ?_
      refine Sx.seqP (fun _ κ15 => ?_)
      have lt21 : k < m.l.length := by have := of_decide_eq_true hc13; omega
      obtain ⟨b16, o17, c18, hv, hb23, hr19⟩ := Vp.rowN_range2 hq (fun _ => rfl) (k) lt21
      simp only [Value.slice.injEq, true_and] at hv
      obtain ⟨rfl, rfl⟩ := hv
      obtain ⟨x22, hx20⟩ : ∃ z, m.l[k] = z := ⟨_, rfl⟩
      rw [hx20] at hr19
      have S := S.view0 hb23 hr19
      refine Sx.run S 5 [.mem 0 2, .idx k m.l.length, .mem 1 0] [(32, .agg x22.cells.toArray)] (fun ac S => ?_) (hk := ⟨lt21, trivial⟩)
      refine Sx.callv S 33 (r27Valid_any x22 _) (fun ac u E24 S => ?_)
      refine Sx.run S 1 [] [(34, .bool (!x22.ok27))] (fun ac S => ?_)
      refine Sx.done (κ15 _ _ ?_)
      refine Sx.cond S (fun hc25 => ?_) (fun hc25 => ?_)
      · refine Sx.seqP (fun _ κ26 => ?_)
        refine Sx.run S 1 [] [(2, .bool false)] (fun ac S => ?_)
        refine Sx.done (κ26 _ _ ?_)
        refine Vp.rt ?_
        refine Sx.ret1 S Tryz.results45 ?_
        exact ⟨ret_bool (img33_bad (not_all lt21 (by rw [hx20]; simpa [ok27_valid] using hc25))), S.E⟩
      · refine wp_skip ?_
        refine κ14 _ _ ?_
        refine Vp.region ?_
        refine Sx.run S 3 [.re 27 (.int .i64 (IntKind.i64.wrap (((k : Nat) : Int) + 1))) (.int .i64 (((k + 1) : Nat) : Int))] [(3, .int .i64 (((k + 1) : Nat) : Int))] (fun ac S => ?_) (hk := ⟨Sx.wrap_succ (by omega), trivial⟩)
        refine Sx.done ?_
        show ∃ i', _ ∧ _
        exact ⟨(k + 1), ⟨by omega, (all_take_succ lt21 hR (by rw [hx20]; simpa [ok27_valid] using hc25)), (S.sub [(0, .agg #[.int .i64 m.w, .int .i64 m.h, .slice (some ⟨b16, o17, none⟩) m.l.length cap]), (1, .pointer (some ⟨b2, 0, none⟩)), (2, .bool false), (3, .int .i64 (((k + 1) : Nat) : Int))]).noviews⟩, by show _ - _ < _ - _; omega⟩
    · refine wp_exit ?_
      refine κ9 _ _ ?_
      refine Sx.seqP (fun _ κ27 => ?_)
      refine Sx.run S 1 [] [(2, .bool true)] (fun ac S => ?_)
      refine Sx.done (κ27 _ _ ?_)
      refine Vp.rt ?_
      refine Sx.ret1 S Tryz.results45 ?_
      exact ⟨ret_bool (img33_yes (img33_wrap ▸ hc7) (all_of_take (by have := of_decide_eq_false hc13; omega) hR)), S.E⟩
theorem r22within_any (n lo hi : Int) (w : World) :
    Calls Tryz.prog 135 #[.int .i64 n, .int .i64 lo, .int .i64 hi] w fun e w' => e = .returned (.bool ((decide (lo ≤ n)) && (decide (n ≤ hi)))) ∧ w = w' := by
  skip
  refine Sx.enter Tryz.func135 Tryz.ntmps135 (fun ac S => ?_)
  refine Sx.seqP (fun _ κ1 => ?_)
  refine Sx.run S 1 [] [(6, .bool false)] (fun ac S => ?_)
  refine Sx.done (κ1 _ _ ?_)
  refine Sx.seqP (fun _ κ2 => ?_)
  refine Sx.run S 9 [] [(6, .bool ((decide (lo ≤ n)) && (decide (n ≤ hi))))] (fun ac S => ?_)
  refine Sx.done (κ2 _ _ ?_)
  refine Vp.rt ?_
  refine Sx.ret1 S Tryz.results135 ?_
  exact ⟨rfl, rfl⟩
theorem r22width_any (n : Int) (w : World) :
    Calls Tryz.prog 134 #[.int .i64 n] w fun e w' => e = .returned (.bool ((decide (1 ≤ n) && decide (n ≤ 16384)))) ∧ w = w' := by
  skip
  refine Sx.enter Tryz.func134 Tryz.ntmps134 (fun ac S => ?_)
  refine Sx.seqP (fun _ κ1 => ?_)
  refine Sx.run S 1 [] [(2, .bool false)] (fun ac S => ?_)
  refine Sx.done (κ1 _ _ ?_)
  refine Sx.seqP (fun _ κ2 => ?_)
  refine Sx.run S 1 [] [(3, .int .i64 n)] (fun ac S => ?_)
  refine Sx.calls S 4 (r22within_any n 1 16384 _) (fun ac S => ?_)
  refine Sx.run S 1 [] [(2, .bool (decide (1 ≤ n) && decide (n ≤ 16384)))] (fun ac S => ?_)
  refine Sx.done (κ2 _ _ ?_)
  refine Vp.rt ?_
  refine Sx.ret1 S Tryz.results134 ?_
  exact ⟨rfl, rfl⟩
theorem r22dashes_any {w : World} {v : Value} {l : List Int} (h : IsRowOf i64v w v l) :
    Calls Tryz.prog 136 #[v] w fun e w' => e = .returned (.bool (dashOk l)) ∧ Ext w w' := by
  obtain ⟨a, cap, rfl⟩ := (rowN_one h).shape
  have hmax : l.length ≤ 9223372036854775807 := (rowN_one h).len
  refine Sx.enter Tryz.func136 Tryz.ntmps136 (fun ac S => ?_)
  refine Sx.seqP (fun _ κ1 => ?_)
  refine Sx.run S 1 [] [(2, .bool false)] (fun ac S => ?_)
  refine Sx.done (κ1 _ _ ?_)
  refine Sx.seqP (fun _ κ2 => ?_)
  refine Sx.run S 4 [] [(3, .bool ((((l.length : Nat) : Int)) == 0))] (fun ac S => ?_)
  refine Sx.done (κ2 _ _ ?_)
  refine wp_seq_k (fun _ κ3 => ?_)
  refine Sx.seqP (fun _ κ4 => ?_)
  refine Sx.run S 1 [] [(4, .int .i64 0)] (fun ac S => ?_)
  refine Sx.done (κ4 _ _ ?_)
  refine wp_block ?_
  refine Vp.loop (ι := Nat × Bool) (fun p a' w' => p.1 ≤ l.length ∧ (dashAny l (l.take p.1) = some p.2) ∧ Sx.St w a' w' 40 [(0, .slice a l.length cap), (2, .bool false), (3, .bool p.2), (4, .int .i64 ((p.1 : Nat) : Int))] [] []) (fun p => l.length - p.1) (0, (((l.length : Nat) : Int) == 0)) ⟨Nat.zero_le _, dash_zero l, (S.sub [(0, .slice a l.length cap), (2, .bool false), (3, .bool (((l.length : Nat) : Int) == 0)), (4, .int .i64 ((0 : Nat) : Int))]).noviews⟩ ?_
  rintro ⟨k, any⟩ ac u hI
  try dsimp only at hI
  obtain ⟨hk, hR, S⟩ := hI
  refine wp_seq_k (fun _ κ5 => ?_)
  refine Sx.seqP (fun _ κ6 => ?_)
  refine Sx.run S 4 [] [(11, .bool (decide (((k : Nat) : Int) < ((l.length : Nat) : Int))))] (fun ac S => ?_)
  refine Sx.done (κ6 _ _ ?_)
  refine Sx.cond S (fun hc7 => ?_) (fun hc7 => ?_)
  · refine wp_skip ?_
    refine κ5 _ _ ?_
    refine wp_seq_k (fun _ κ8 => ?_)
    refine wp_block ?_
    refine wp_seq_k (fun _ κ9 => ?_)
    refine Sx.seqP (fun _ κ10 => ?_)
    have lt16 : k < l.length := by have := of_decide_eq_true hc7; omega
    obtain ⟨b11, o12, c13, hv, hb18, hr14⟩ := Vp.rowN_range2 (rowN_one h) (fun _ => rfl) (k) lt16
    simp only [Value.slice.injEq, true_and] at hv
    obtain ⟨rfl, rfl⟩ := hv
    obtain ⟨x17, hx15⟩ : ∃ z, l[k] = z := ⟨_, rfl⟩
    rw [hx15] at hr14
    have S := S.view0 hb18 hr14
    refine Sx.run S 4 [.idx k l.length, .mem 0 0] [(17, .int .i64 x17)] (fun ac S => ?_) (hk := ⟨lt16, trivial⟩)
    refine Sx.calls S 18 (r22within_any x17 0 1048576 _) (fun ac S => ?_)
    refine Sx.run S 1 [] [(19, .bool (!(decide (0 ≤ x17) && decide (x17 ≤ 1048576))))] (fun ac S => ?_)
    refine Sx.done (κ10 _ _ ?_)
    refine Sx.cond S (fun hc19 => ?_) (fun hc19 => ?_)
    · refine Sx.seqP (fun _ κ20 => ?_)
      refine Sx.run S 1 [] [(2, .bool false)] (fun ac S => ?_)
      refine Sx.done (κ20 _ _ ?_)
      refine Vp.rt ?_
      refine Sx.ret1 S Tryz.results136 ?_
      exact ⟨ret_bool (dash_bad lt16 hR (by rw [hx15]; exact within_no hc19)), S.E⟩
    · refine wp_skip ?_
      refine κ9 _ _ ?_
      refine Vp.region ?_
      refine Sx.run S 9 [.idx k l.length, .mem 0 0] [(3, .bool (any || (decide (0 < x17))))] (fun ac S => ?_) (hk := ⟨lt16, trivial⟩)
      refine Sx.done (κ8 _ _ ?_)
      refine Vp.region ?_
      refine Sx.run S 3 [.re 13 (.int .i64 (IntKind.i64.wrap (((k : Nat) : Int) + 1))) (.int .i64 (((k + 1) : Nat) : Int))] [(4, .int .i64 (((k + 1) : Nat) : Int))] (fun ac S => ?_) (hk := ⟨Sx.wrap_succ (by omega), trivial⟩)
      refine Sx.done ?_
      show ∃ i', _ ∧ _
      exact ⟨((k + 1), any || (decide (0 < x17))), ⟨by omega, (by rw [← hx15]; exact dash_step lt16 hR (by rw [hx15]; exact within_yes hc19)), (S.sub [(0, .slice (some ⟨b11, o12, none⟩) l.length cap), (2, .bool false), (3, .bool (any || (decide (0 < x17)))), (4, .int .i64 (((k + 1) : Nat) : Int))]).noviews⟩, by show _ - _ < _ - _; omega⟩
  · refine wp_exit ?_
    refine κ3 _ _ ?_
    refine Sx.seqP (fun _ κ21 => ?_)
    refine Sx.run S 13 [] [(2, .bool ((any && (decide (((l.length : Nat) : Int) ≤ 16))) && (((Int.tmod ((l.length : Nat) : Int) 2)) == 0)))] (fun ac S => ?_)
    refine Sx.done (κ21 _ _ ?_)
    refine Vp.rt ?_
    refine Sx.ret1 S Tryz.results136 ?_
    exact ⟨ret_bool (dash22_end (by have := of_decide_eq_false hc7; omega) hR), S.E⟩
theorem style22 {p : StyleD} {v : Bool} (h : (v = false ∧ (((!(decide (1 ≤ p.width) && decide (p.width ≤ 16384))) || (!(decide (1 ≤ p.join) && decide (p.join ≤ 3)))) || (!(decide (3 ≤ p.cap) && decide (p.cap ≤ 5)))) = true) ∨ (v = (((decide (256 ≤ p.miter) && decide (p.miter ≤ 65536)) && (dashOk p.dash)) && (decide (0 ≤ p.phase) && decide (p.phase ≤ 1048576))) ∧ (((!(decide (1 ≤ p.width) && decide (p.width ≤ 16384))) || (!(decide (1 ≤ p.join) && decide (p.join ≤ 3)))) || (!(decide (3 ≤ p.cap) && decide (p.cap ≤ 5)))) = false)) : v = p.valid := by
  rw [Bool.eq_iff_iff]
  unfold StyleD.valid
  generalize dashOk p.dash = dd at h ⊢
  rcases h with ⟨rfl, h⟩ | ⟨rfl, h⟩ <;> cases dd <;> simp only [Bool.or_eq_true, Bool.and_eq_true, Bool.not_eq_true', Bool.or_eq_false_iff, Bool.not_eq_false', decide_eq_true_eq, Bool.and_eq_false_iff, decide_eq_false_iff_not, beq_iff_eq, Bool.false_eq_true, and_false, false_and, and_true, false_iff] at h ⊢ <;> omega
theorem r22style_any {w : World} {p : StyleD} (h : p.ok w) :
    Calls Tryz.prog 95 #[p.v] w fun e w' => e = .returned (.bool p.valid) ∧ Ext w w' := by
  skip
  refine Sx.enter Tryz.func95 Tryz.ntmps95 (fun ac S => ?_)
  refine Sx.seqP (fun _ κ1 => ?_)
  refine Sx.newp S 1 p.cells (fun ac u b2 E3 hb4 S => ?_)
  refine Sx.run S 1 [] [(2, .bool false)] (fun ac S => ?_)
  refine Sx.done (κ1 _ _ ?_)
  refine wp_seq_k (fun _ κ5 => ?_)
  refine Sx.seqP (fun _ κ6 => ?_)
  refine Sx.run S 2 [.mem 0 0] [(4, .int .i64 p.width)] (fun ac S => ?_)
  refine Sx.calls S 5 (r22width_any p.width _) (fun ac S => ?_)
  refine Sx.runC S 13 [.mem 0 1, .mem 0 2] [(_, _, (!(!(decide (1 ≤ p.width) && decide (p.width ≤ 16384)))), .bool (decide (1 ≤ p.join) && decide (p.join ≤ 3))), (_, _, (!((!(decide (1 ≤ p.width) && decide (p.width ≤ 16384))) || (!(decide (1 ≤ p.join) && decide (p.join ≤ 3))))), .bool (decide (3 ≤ p.cap) && decide (p.cap ≤ 5)))] [(18, .bool (((!(decide (1 ≤ p.width) && decide (p.width ≤ 16384))) || (!(decide (1 ≤ p.join) && decide (p.join ≤ 3)))) || (!(decide (3 ≤ p.cap) && decide (p.cap ≤ 5)))))] ⟨fun u hC g => Sx.same (r22within_any p.join 1 3 _), fun u hC g => Sx.same (r22within_any p.cap 3 5 _), trivial⟩ (fun ac u E7 S => ?_)
  refine Sx.done (κ6 _ _ ?_)
  refine Sx.cond S (fun hc8 => ?_) (fun hc8 => ?_)
  · refine Sx.seqP (fun _ κ9 => ?_)
    refine Sx.run S 1 [] [(2, .bool false)] (fun ac S => ?_)
    refine Sx.done (κ9 _ _ ?_)
    refine Vp.rt ?_
    have p0 := hc8
    refine Sx.ret1 S Tryz.results95 ?_
    exact ⟨ret_bool (style22 (.inl ⟨rfl, p0⟩)), S.E⟩
  · refine wp_skip ?_
    refine κ5 _ _ ?_
    refine Sx.seqP (fun _ κ10 => ?_)
    refine Sx.run S 2 [.mem 0 3] [(20, .int .i64 p.miter)] (fun ac S => ?_)
    refine Sx.calls S 21 (r22within_any p.miter 256 65536 _) (fun ac S => ?_)
    refine Sx.runC S 11 [.mem 0 4, .mem 0 5] [(_, _, (decide (256 ≤ p.miter) && decide (p.miter ≤ 65536)), .bool (dashOk p.dash)), (_, _, ((decide (256 ≤ p.miter) && decide (p.miter ≤ 65536)) && (dashOk p.dash)), .bool (decide (0 ≤ p.phase) && decide (p.phase ≤ 1048576)))] [(2, .bool (((decide (256 ≤ p.miter) && decide (p.miter ≤ 65536)) && (dashOk p.dash)) && (decide (0 ≤ p.phase) && decide (p.phase ≤ 1048576))))] ⟨fun u hC g => r22dashes_any (h.2.2.2.2.1.below (Ext.trans' S.E hC)), fun u hC g => Sx.same (r22within_any p.phase 0 1048576 _), trivial⟩ (fun ac u E11 S => ?_)
    refine Sx.done (κ10 _ _ ?_)
    refine Vp.rt ?_
    have p0 := hc8
    refine Sx.ret1 S Tryz.results95 ?_
    exact ⟨ret_bool (style22 (.inr ⟨rfl, p0⟩)), S.E⟩
def pt11 (x y : Int) : Bool := (((decide (-1048576 ≤ x)) && (decide (x ≤ 1048576))) && (decide (-1048576 ≤ y))) && (decide (y ≤ 1048576))
theorem r11Valid_any (x y : Int) (w : World) :
    Calls Tryz.prog 165 #[.agg #[.int .i64 x, .int .i64 y]] w fun e w' => e = .returned (.bool (pt11 x y)) ∧ Ext w w' := by
  skip
  refine Sx.enter Tryz.func165 Tryz.ntmps165 (fun ac S => ?_)
  refine Sx.seqP (fun _ κ1 => ?_)
  refine Sx.newp S 1 [.int .i64 x, .int .i64 y] (fun ac u b2 E3 hb4 S => ?_)
  refine Sx.run S 1 [] [(2, .bool false)] (fun ac S => ?_)
  refine Sx.done (κ1 _ _ ?_)
  refine Sx.seqP (fun _ κ5 => ?_)
  refine Sx.run S 19 [.mem 0 0, .mem 0 0, .mem 0 1, .mem 0 1] [(2, .bool ((((decide (-1048576 ≤ x)) && (decide (x ≤ 1048576))) && (decide (-1048576 ≤ y))) && (decide (y ≤ 1048576))))] (fun ac S => ?_)
  refine Sx.done (κ5 _ _ ?_)
  refine Vp.rt ?_
  refine Sx.ret1 S Tryz.results165 ?_
  exact ⟨rfl, S.E⟩
theorem r34spread_any (n : Int) (w : World) :
    Calls Tryz.prog 190 #[.int .i64 n] w fun e w' => e = .returned (.bool ((decide (1 ≤ n)) && (decide (n ≤ 3)))) ∧ w = w' := by
  skip
  refine Sx.enter Tryz.func190 Tryz.ntmps190 (fun ac S => ?_)
  refine Sx.seqP (fun _ κ1 => ?_)
  refine Sx.run S 1 [] [(2, .bool false)] (fun ac S => ?_)
  refine Sx.done (κ1 _ _ ?_)
  refine Sx.seqP (fun _ κ2 => ?_)
  refine Sx.run S 7 [] [(2, .bool ((decide (1 ≤ n)) && (decide (n ≤ 3))))] (fun ac S => ?_)
  refine Sx.done (κ2 _ _ ?_)
  refine Vp.rt ?_
  refine Sx.ret1 S Tryz.results190 ?_
  exact ⟨rfl, rfl⟩
end Go.Proofs.YtcohmdeoocgmdaaGreatDoor
