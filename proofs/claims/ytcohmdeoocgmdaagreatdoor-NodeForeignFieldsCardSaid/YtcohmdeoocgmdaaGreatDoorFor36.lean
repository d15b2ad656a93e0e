/- The law NodeForeignFields: a node with one field changed, and what Check says of it. -/
import Derived.Test.YtcohmdeoocgmdaaGreatDoorLaw36
import Derived.Test.YtcohmdeoocgmdaaGreatDoorCheck
import Derived.Test.YtcohmdeoocgmdaaGreatDoorSw
namespace Go.Proofs.YtcohmdeoocgmdaaGreatDoor
open Go.RowKit
variable {α : Type} {K : Nat}
set_option linter.unusedVariables false
theorem for_l {a : Bool} (h : (!(!a)) = true) : a = true := by cases a <;> simp_all
theorem rowN_bx1 {α : Type} {k : Nat} {f : α → List Value} {w : World} {b : Nat} {x : α} (hk : (f x).length = k) (hx : Bx w b (f x).toArray) : IsRowN k f w (.slice (some ⟨b, 0, none⟩) 1 1) [x] :=
  ⟨_, _, rfl, by decide, .inr ⟨b, 0, rfl, hx.1, Nat.le_refl _, fun i hi j hj => by
    have hi : i < 1 := hi
    obtain rfl : i = 0 := by omega
    have := hx.2.1 j
    rw [show 0 + 0 * k + j = j by omega]
    simpa using this⟩⟩
theorem commonF (nd : NodeD) : ∃ a b c d e : Bool, nd.commonL = [(a, 2), (b, 6), (c, 5), (d, 9), (e, 10), ((!((((((nd.clip.length : Nat) : Int)) == 0) && ((nd.clipRule) == 0)) || ((decide (0 < ((nd.clip.length : Nat) : Int))) && ((nd.clipRule == 1) || (nd.clipRule == 2))))) || (!(nd.bare)), 17)] := ⟨_, _, _, _, _, rfl⟩
theorem check0 {nd : NodeD} (h : nd.checkN = 0) : badL nd.commonL = false ∧ nd.ownN = 0 := by
  unfold NodeD.checkN at h
  obtain ⟨a, b, c, d, e, hL⟩ := commonF nd
  rw [hL] at h ⊢
  generalize nd.ownN = o at h ⊢
  generalize ((!((((((nd.clip.length : Nat) : Int)) == 0) && ((nd.clipRule) == 0)) || ((decide (0 < ((nd.clip.length : Nat) : Int))) && ((nd.clipRule == 1) || (nd.clipRule == 2))))) || (!(nd.bare))) = f at h ⊢
  cases a <;> cases b <;> cases c <;> cases d <;> cases e <;> cases f <;> simp [badL, codeL] at h ⊢ <;> exact h
/-- What a node with other fields, of the same kind, number, depth, transform and clip, gives where its bare fields are not bare. -/
theorem check17 {nd m : NodeD} (h : nd.checkN = 0) (h1 : m.kind = nd.kind) (h2 : m.id = nd.id) (h3 : m.depth = nd.depth) (h4 : m.t = nd.t) (h5 : m.clip = nd.clip)
    (h6 : (!((((((m.clip.length : Nat) : Int)) == 0) && ((m.clipRule) == 0)) || ((decide (0 < ((m.clip.length : Nat) : Int))) && ((m.clipRule == 1) || (m.clipRule == 2))))) = true ∨ m.bare = false) : m.checkN = 17 := by
  have hb := (check0 h).1
  have e : ∃ f, m.commonL = nd.commonL.take 5 ++ [(f, 17)] ∧ f = true := by
    refine ⟨(!((((((m.clip.length : Nat) : Int)) == 0) && ((m.clipRule) == 0)) || ((decide (0 < ((m.clip.length : Nat) : Int))) && ((m.clipRule == 1) || (m.clipRule == 2))))) || (!(m.bare)), ?_, ?_⟩
    · unfold NodeD.commonL
      rw [h1, h2, h3, h4, h5]
      rfl
    · rcases h6 with h6 | h6 <;> rw [h6]
      · rfl
      · cases (!((((((m.clip.length : Nat) : Int)) == 0) && ((m.clipRule) == 0)) || ((decide (0 < ((m.clip.length : Nat) : Int))) && ((m.clipRule == 1) || (m.clipRule == 2))))) <;> rfl
  obtain ⟨f, e1, rfl⟩ := e
  obtain ⟨a, b, c, d, g, hL⟩ := commonF nd
  rw [hL] at e1 hb
  unfold NodeD.checkN
  rw [e1]
  cases a <;> cases b <;> cases c <;> cases d <;> cases g <;> simp [badL] at hb <;> rfl
theorem kind_of {nd : NodeD} (h : nd.checkN = 0) : nd.kind = 1 ∨ nd.kind = 2 ∨ nd.kind = 3 := by
  have hb := (check0 h).1
  unfold NodeD.commonL badL at hb
  simp only [List.any_cons, Bool.or_eq_false_iff] at hb
  have h1 := of_decide_eq_false hb.1.1
  have h2 := of_decide_eq_false hb.1.2
  omega
theorem clip_of {nd : NodeD} (h : nd.checkN = 0) : ((((((nd.clip.length : Nat) : Int)) == 0) && ((nd.clipRule) == 0)) || ((decide (0 < ((nd.clip.length : Nat) : Int))) && ((nd.clipRule == 1) || (nd.clipRule == 2)))) = true ∧ nd.bare = true := by
  have hb := (check0 h).1
  unfold NodeD.commonL badL at hb
  simp only [List.any_cons, Bool.or_eq_false_iff, Bool.not_eq_false'] at hb
  exact hb.2.2.2.2.2.1
theorem u8_half (o : UInt8) : IntKind.u8.wrap (Int.tdiv (o.toNat : Int) 2) = (((o / 2).toNat : Nat) : Int) := by
  have h : (o / 2).toNat = o.toNat / 2 := by simp
  have h2 := o.toNat_lt
  rw [h]
  show _ = _
  rw [show Int.tdiv (o.toNat : Int) 2 = ((o.toNat / 2 : Nat) : Int) from rfl]
  rw [IntKind.wrap_u8]; omega
theorem u8_half1 (o : UInt8) : IntKind.u8.wrap ((((o / 2).toNat : Nat) : Int) + 1) = (((o / 2 + 1).toNat : Nat) : Int) := by
  have h : (o / 2).toNat = o.toNat / 2 := by simp
  have h2 := o.toNat_lt
  have h3 : (o / 2 + 1).toNat = o.toNat / 2 + 1 := by
    rw [UInt8.toNat_add, h]
    show (o.toNat / 2 + 1) % 256 = _
    omega
  rw [h, h3]
  rw [IntKind.wrap_u8]; omega
theorem u8_ne0 (o : UInt8) : (((o / 2 + 1).toNat : Nat) : Int) ≠ 0 := by
  have h : (o / 2).toNat = o.toNat / 2 := by simp
  have h2 := o.toNat_lt
  have h3 : (o / 2 + 1).toNat = o.toNat / 2 + 1 := by
    rw [UInt8.toNat_add, h]
    show (o.toNat / 2 + 1) % 256 = _
    omega
  omega
theorem i64_1 : I64 1 := ⟨by decide, by decide⟩
theorem i64_2 : I64 2 := ⟨by decide, by decide⟩
theorem i64_256 : I64 256 := ⟨by decide, by decide⟩
theorem i64_wrap (x : Int) : I64 (IntKind.i64.wrap x) := by unfold I64; rw [IntKind.wrap_i64]; omega
def W1 (nd : NodeD) : NodeD := { nd with opacity := nd.opacity / 2 + 1 }
def W2 (nd : NodeD) : NodeD := { nd with isolated := true }
def W3 (nd : NodeD) : NodeD := { nd with blend := 1 }
def W4 (nd : NodeD) : NodeD := { nd with fillRule := 2 }
def W5 (nd : NodeD) (b : Nat) : NodeD := { nd with fsa := some ⟨b, 0, none⟩, fsc := 1, fill := [PaintD.bare 1] }
def W6 (nd : NodeD) (b : Nat) : NodeD := { nd with psa := some ⟨b, 0, none⟩, psc := 1, path := [⟨1, .none, .none, .none⟩] }
def W7 (nd : NodeD) : NodeD := { nd with style := { nd.style with width := 256 } }
def W8 (nd : NodeD) : NodeD := { nd with samp := 2 }
def W9 (nd : NodeD) : NodeD := { nd with img := { nd.img with w := IntKind.i64.wrap (nd.img.w + 1) } }
def W10 (nd : NodeD) : NodeD := { nd with clipRule := 1 }
/-- A node with one field changed: it is a node, and Check says so where its kind has no such field. -/
def Foreign (K : Nat) (w : World) (nd m : NodeD) (o : Bool) : Prop := NodeOk K w m ∧ (o = true → m.checkN = 17)
theorem W1_ok {w : World} {nd : NodeD} (h : NodeOk K w nd) (hc : nd.checkN = 0) : Foreign K w nd (W1 nd) ((nd.kind) != 1) := by
  refine ⟨⟨⟨h.1.1, h.1.2.1, h.1.2.2.1, h.1.2.2.2.1, h.1.2.2.2.2.1, h.1.2.2.2.2.2.1, h.1.2.2.2.2.2.2.1, h.1.2.2.2.2.2.2.2.1, h.1.2.2.2.2.2.2.2.2.1, h.1.2.2.2.2.2.2.2.2.2.1, h.1.2.2.2.2.2.2.2.2.2.2.1, h.1.2.2.2.2.2.2.2.2.2.2.2.1, h.1.2.2.2.2.2.2.2.2.2.2.2.2.1, h.1.2.2.2.2.2.2.2.2.2.2.2.2.2⟩, h.2.1, h.2.2.1, h.2.2.2.1, h.2.2.2.2.1, h.2.2.2.2.2⟩, fun ho => ?_⟩
  rcases kind_of hc with hk | hk | hk
  · rw [hk] at ho; cases ho
  · refine check17 hc rfl rfl rfl rfl rfl (.inr ?_)
    unfold NodeD.bare W1
    simp only [hk]
    have h0 : ((((nd.opacity / 2 + 1).toNat : Nat) : Int) == 0) = false := by simpa using u8_ne0 nd.opacity
    simp only [h0, Bool.false_and]
    rfl
  · refine check17 hc rfl rfl rfl rfl rfl (.inr ?_)
    unfold NodeD.bare W1
    simp only [hk]
    have h0 : ((((nd.opacity / 2 + 1).toNat : Nat) : Int) == 0) = false := by simpa using u8_ne0 nd.opacity
    simp only [h0, Bool.false_and]
    rfl
theorem W2_ok {w : World} {nd : NodeD} (h : NodeOk K w nd) (hc : nd.checkN = 0) : Foreign K w nd (W2 nd) ((nd.kind) != 1) := by
  refine ⟨⟨⟨h.1.1, h.1.2.1, h.1.2.2.1, h.1.2.2.2.1, h.1.2.2.2.2.1, h.1.2.2.2.2.2.1, h.1.2.2.2.2.2.2.1, h.1.2.2.2.2.2.2.2.1, h.1.2.2.2.2.2.2.2.2.1, h.1.2.2.2.2.2.2.2.2.2.1, h.1.2.2.2.2.2.2.2.2.2.2.1, h.1.2.2.2.2.2.2.2.2.2.2.2.1, h.1.2.2.2.2.2.2.2.2.2.2.2.2.1, h.1.2.2.2.2.2.2.2.2.2.2.2.2.2⟩, h.2.1, h.2.2.1, h.2.2.2.1, h.2.2.2.2.1, h.2.2.2.2.2⟩, fun ho => ?_⟩
  rcases kind_of hc with hk | hk | hk
  · rw [hk] at ho; cases ho
  · refine check17 hc rfl rfl rfl rfl rfl (.inr ?_)
    unfold NodeD.bare W2
    simp only [hk]
    simp
  · refine check17 hc rfl rfl rfl rfl rfl (.inr ?_)
    unfold NodeD.bare W2
    simp only [hk]
    simp
theorem W3_ok {w : World} {nd : NodeD} (h : NodeOk K w nd) (hc : nd.checkN = 0) : Foreign K w nd (W3 nd) ((nd.kind) != 1) := by
  refine ⟨⟨⟨h.1.1, h.1.2.1, h.1.2.2.1, h.1.2.2.2.1, h.1.2.2.2.2.1, h.1.2.2.2.2.2.1, i64_1, h.1.2.2.2.2.2.2.2.1, h.1.2.2.2.2.2.2.2.2.1, h.1.2.2.2.2.2.2.2.2.2.1, h.1.2.2.2.2.2.2.2.2.2.2.1, h.1.2.2.2.2.2.2.2.2.2.2.2.1, h.1.2.2.2.2.2.2.2.2.2.2.2.2.1, h.1.2.2.2.2.2.2.2.2.2.2.2.2.2⟩, h.2.1, h.2.2.1, h.2.2.2.1, h.2.2.2.2.1, h.2.2.2.2.2⟩, fun ho => ?_⟩
  rcases kind_of hc with hk | hk | hk
  · rw [hk] at ho; cases ho
  · refine check17 hc rfl rfl rfl rfl rfl (.inr ?_)
    unfold NodeD.bare W3
    simp only [hk]
    simp
  · refine check17 hc rfl rfl rfl rfl rfl (.inr ?_)
    unfold NodeD.bare W3
    simp only [hk]
    simp
theorem W4_ok {w : World} {nd : NodeD} (h : NodeOk K w nd) (hc : nd.checkN = 0) : Foreign K w nd (W4 nd) ((nd.kind) != 2) := by
  refine ⟨⟨⟨h.1.1, h.1.2.1, h.1.2.2.1, h.1.2.2.2.1, h.1.2.2.2.2.1, h.1.2.2.2.2.2.1, h.1.2.2.2.2.2.2.1, h.1.2.2.2.2.2.2.2.1, i64_2, h.1.2.2.2.2.2.2.2.2.2.1, h.1.2.2.2.2.2.2.2.2.2.2.1, h.1.2.2.2.2.2.2.2.2.2.2.2.1, h.1.2.2.2.2.2.2.2.2.2.2.2.2.1, h.1.2.2.2.2.2.2.2.2.2.2.2.2.2⟩, h.2.1, h.2.2.1, h.2.2.2.1, h.2.2.2.2.1, h.2.2.2.2.2⟩, fun ho => ?_⟩
  rcases kind_of hc with hk | hk | hk
  · refine check17 hc rfl rfl rfl rfl rfl (.inr ?_)
    unfold NodeD.bare W4
    simp only [hk]
    simp
  · rw [hk] at ho; cases ho
  · refine check17 hc rfl rfl rfl rfl rfl (.inr ?_)
    unfold NodeD.bare W4
    simp only [hk]
    simp
theorem W5_ok {w : World} {nd : NodeD} (h : NodeOk K w nd) {b : Nat} (hx : Bx w b (PaintD.bare 1).cells.toArray) (hc : nd.checkN = 0) : Foreign K w nd (W5 nd b) ((nd.kind) != 2) := by
  refine ⟨⟨⟨h.1.1, h.1.2.1, h.1.2.2.1, h.1.2.2.2.1, h.1.2.2.2.2.1, h.1.2.2.2.2.2.1, h.1.2.2.2.2.2.2.1, h.1.2.2.2.2.2.2.2.1, h.1.2.2.2.2.2.2.2.2.1, ⟨rowN_bx1 rfl hx, fun p hp => by rw [List.mem_singleton.1 hp]; exact PaintD.bare_ok i64_1 w⟩, h.1.2.2.2.2.2.2.2.2.2.2.1, h.1.2.2.2.2.2.2.2.2.2.2.2.1, h.1.2.2.2.2.2.2.2.2.2.2.2.2.1, h.1.2.2.2.2.2.2.2.2.2.2.2.2.2⟩, h.2.1, (fun p hp => by rw [List.mem_singleton.1 hp]; exact AffD.none_fit K), h.2.2.2.1, h.2.2.2.2.1, h.2.2.2.2.2⟩, fun ho => ?_⟩
  rcases kind_of hc with hk | hk | hk
  · refine check17 hc rfl rfl rfl rfl rfl (.inr ?_)
    unfold NodeD.bare W5
    simp only [hk]
    simp
  · rw [hk] at ho; cases ho
  · refine check17 hc rfl rfl rfl rfl rfl (.inr ?_)
    unfold NodeD.bare W5
    simp only [hk]
    simp
theorem W6_ok {w : World} {nd : NodeD} (h : NodeOk K w nd) {b : Nat} (hx : Bx w b (SegD.cells ⟨1, .none, .none, .none⟩).toArray) (hc : nd.checkN = 0) : Foreign K w nd (W6 nd b) ((nd.kind) != 2) := by
  refine ⟨⟨⟨h.1.1, h.1.2.1, h.1.2.2.1, h.1.2.2.2.1, h.1.2.2.2.2.1, h.1.2.2.2.2.2.1, h.1.2.2.2.2.2.2.1, ⟨rowN_bx1 rfl hx, fun p hp => by rw [List.mem_singleton.1 hp]; exact ⟨i64_1, PtD.none_ok, PtD.none_ok, PtD.none_ok⟩⟩, h.1.2.2.2.2.2.2.2.2.1, h.1.2.2.2.2.2.2.2.2.2.1, h.1.2.2.2.2.2.2.2.2.2.2.1, h.1.2.2.2.2.2.2.2.2.2.2.2.1, h.1.2.2.2.2.2.2.2.2.2.2.2.2.1, h.1.2.2.2.2.2.2.2.2.2.2.2.2.2⟩, h.2.1, h.2.2.1, h.2.2.2.1, h.2.2.2.2.1, h.2.2.2.2.2⟩, fun ho => ?_⟩
  rcases kind_of hc with hk | hk | hk
  · refine check17 hc rfl rfl rfl rfl rfl (.inr ?_)
    unfold NodeD.bare W6
    simp only [hk]
    simp
  · rw [hk] at ho; cases ho
  · refine check17 hc rfl rfl rfl rfl rfl (.inr ?_)
    unfold NodeD.bare W6
    simp only [hk]
    simp
theorem W7_ok {w : World} {nd : NodeD} (h : NodeOk K w nd) (hc : nd.checkN = 0) : Foreign K w nd (W7 nd) (((nd.kind) != 2) || ((((nd.stroke.length : Nat) : Int)) == 0)) := by
  refine ⟨⟨⟨h.1.1, h.1.2.1, h.1.2.2.1, h.1.2.2.2.1, h.1.2.2.2.2.1, h.1.2.2.2.2.2.1, h.1.2.2.2.2.2.2.1, h.1.2.2.2.2.2.2.2.1, h.1.2.2.2.2.2.2.2.2.1, h.1.2.2.2.2.2.2.2.2.2.1, ⟨i64_256, h.1.2.2.2.2.2.2.2.2.2.2.1.2⟩, h.1.2.2.2.2.2.2.2.2.2.2.2.1, h.1.2.2.2.2.2.2.2.2.2.2.2.2.1, h.1.2.2.2.2.2.2.2.2.2.2.2.2.2⟩, h.2.1, h.2.2.1, h.2.2.2.1, h.2.2.2.2.1, h.2.2.2.2.2⟩, fun ho => ?_⟩
  rcases kind_of hc with hk | hk | hk
  · refine check17 hc rfl rfl rfl rfl rfl (.inr ?_)
    unfold NodeD.bare W7
    simp only [hk]
    simp [StyleD.eq, StyleD.bare]
  · rw [hk] at ho
    have hs : ((nd.stroke.length : Nat) : Int) = 0 := by simpa using ho
    have hs0 : nd.stroke.length = 0 := by omega
    obtain ⟨hb, hown⟩ := check0 hc
    have hcl : (W7 nd).commonL = nd.commonL := by unfold NodeD.commonL NodeD.bare W7; simp only [hk]; rfl
    unfold NodeD.checkN
    rw [hcl, hb]
    show (W7 nd).ownN = 17
    have hL : nd.ownN = codeL nd.shapeL := by unfold NodeD.ownN; rw [hk]; rfl
    have hL2 : (W7 nd).ownN = codeL (W7 nd).shapeL := by unfold NodeD.ownN; rw [show (W7 nd).kind = 2 from hk]; rfl
    rw [hL] at hown
    rw [hL2]
    have e1 : ∃ a b c d e f, nd.shapeL = [(a, 10), (b, 2), (c, 5), (d, 13), (e, 17), (f, 16)] ∧ (W7 nd).shapeL = [(a, 10), (b, 2), (c, 5), (false, 13), (true, 17), (f, 16)] := by
      refine ⟨_, _, _, _, _, _, rfl, ?_⟩
      unfold NodeD.shapeL W7
      simp [hs0, StyleD.eq, StyleD.bare]
    obtain ⟨a, b, c, d, e, f, h1, h2⟩ := e1
    rw [h1] at hown
    rw [h2]
    cases a <;> cases b <;> cases c <;> simp [codeL] at hown ⊢
  · refine check17 hc rfl rfl rfl rfl rfl (.inr ?_)
    unfold NodeD.bare W7
    simp only [hk]
    simp [StyleD.eq, StyleD.bare]
theorem W8_ok {w : World} {nd : NodeD} (h : NodeOk K w nd) (hc : nd.checkN = 0) : Foreign K w nd (W8 nd) ((nd.kind) != 3) := by
  refine ⟨⟨⟨h.1.1, h.1.2.1, h.1.2.2.1, h.1.2.2.2.1, h.1.2.2.2.2.1, h.1.2.2.2.2.2.1, h.1.2.2.2.2.2.2.1, h.1.2.2.2.2.2.2.2.1, h.1.2.2.2.2.2.2.2.2.1, h.1.2.2.2.2.2.2.2.2.2.1, h.1.2.2.2.2.2.2.2.2.2.2.1, h.1.2.2.2.2.2.2.2.2.2.2.2.1, h.1.2.2.2.2.2.2.2.2.2.2.2.2.1, i64_2⟩, h.2.1, h.2.2.1, h.2.2.2.1, h.2.2.2.2.1, h.2.2.2.2.2⟩, fun ho => ?_⟩
  rcases kind_of hc with hk | hk | hk
  · refine check17 hc rfl rfl rfl rfl rfl (.inr ?_)
    unfold NodeD.bare W8
    simp only [hk]
    simp
  · refine check17 hc rfl rfl rfl rfl rfl (.inr ?_)
    unfold NodeD.bare W8
    simp only [hk]
    simp
  · rw [hk] at ho; cases ho
theorem W9_ok {w : World} {nd : NodeD} (h : NodeOk K w nd) (hc : nd.checkN = 0) : Foreign K w nd (W9 nd) ((nd.kind) != 3) := by
  refine ⟨⟨⟨h.1.1, h.1.2.1, h.1.2.2.1, h.1.2.2.2.1, h.1.2.2.2.2.1, h.1.2.2.2.2.2.1, h.1.2.2.2.2.2.2.1, h.1.2.2.2.2.2.2.2.1, h.1.2.2.2.2.2.2.2.2.1, h.1.2.2.2.2.2.2.2.2.2.1, h.1.2.2.2.2.2.2.2.2.2.2.1, h.1.2.2.2.2.2.2.2.2.2.2.2.1, ⟨i64_wrap _, h.1.2.2.2.2.2.2.2.2.2.2.2.2.1.2⟩, h.1.2.2.2.2.2.2.2.2.2.2.2.2.2⟩, h.2.1, h.2.2.1, h.2.2.2.1, h.2.2.2.2.1, h.2.2.2.2.2⟩, fun ho => ?_⟩
  rcases kind_of hc with hk | hk | hk
  · refine check17 hc rfl rfl rfl rfl rfl (.inr ?_)
    have hbare := (clip_of hc).2
    unfold NodeD.bare at hbare
    rw [hk] at hbare
    have hw : nd.img.w = 0 := by
      simp [ImgD.eq, ImgD.bare] at hbare
      exact hbare.2.1.1
    unfold NodeD.bare W9
    simp only [hk]
    rw [hw]
    simp [ImgD.eq, ImgD.bare, show IntKind.i64.wrap 1 = 1 by decide]
  · refine check17 hc rfl rfl rfl rfl rfl (.inr ?_)
    have hbare := (clip_of hc).2
    unfold NodeD.bare at hbare
    rw [hk] at hbare
    have hw : nd.img.w = 0 := by
      simp [ImgD.eq, ImgD.bare] at hbare
      exact hbare.2.1.1
    unfold NodeD.bare W9
    simp only [hk]
    rw [hw]
    simp [ImgD.eq, ImgD.bare, show IntKind.i64.wrap 1 = 1 by decide]
  · rw [hk] at ho; cases ho
theorem W10_ok {w : World} {nd : NodeD} (h : NodeOk K w nd) (hc : nd.checkN = 0) : Foreign K w nd (W10 nd) ((((nd.clip.length : Nat) : Int)) == 0) := by
  refine ⟨⟨⟨h.1.1, h.1.2.1, h.1.2.2.1, h.1.2.2.2.1, h.1.2.2.2.2.1, i64_1, h.1.2.2.2.2.2.2.1, h.1.2.2.2.2.2.2.2.1, h.1.2.2.2.2.2.2.2.2.1, h.1.2.2.2.2.2.2.2.2.2.1, h.1.2.2.2.2.2.2.2.2.2.2.1, h.1.2.2.2.2.2.2.2.2.2.2.2.1, h.1.2.2.2.2.2.2.2.2.2.2.2.2.1, h.1.2.2.2.2.2.2.2.2.2.2.2.2.2⟩, h.2.1, h.2.2.1, h.2.2.2.1, h.2.2.2.2.1, h.2.2.2.2.2⟩, fun ho => ?_⟩
  refine check17 hc rfl rfl rfl rfl rfl (.inl ?_)
  have h0 : ((nd.clip.length : Nat) : Int) = 0 := by simpa using ho
  unfold W10
  simp [h0]

set_option maxRecDepth 100000 in
set_option maxHeartbeats 3200000 in
theorem withForeign_any {w : World} {nd : NodeD} {k : Int} (h : NodeOk K w nd) (hc : nd.checkN = 0) :
    Calls Tryz.prog 12 #[nd.v, .int .i64 k] w fun e w' => ∃ m o, e = .returned (.tuple #[m.v, .bool o]) ∧ Foreign K w' nd m o ∧ Ext w w' := by
  skip
  refine Sx.enter Tryz.func12 Tryz.ntmps12 (fun ac S => ?_)
  refine Sx.seqP (fun κκ κ1 => ?_)
  refine Sx.newp S 2 nd.cells (fun ac u b2 E3 hb4 S => ?_)
  refine Sx.newp S 4 (Sx.L [.int .i64 0, .int .i64 0, .int .i64 0] ++ Sx.za ++ Sx.L [.slice none 0 0, .int .i64 0, .int .u8 0, .int .i64 0, .bool false, .bool false, .slice none 0 0, .int .i64 0, .slice none 0 0, .int .i64 0, .int .i64 0, .int .i64 0, .int .i64 0, .slice none 0 0, .int .i64 0, .slice none 0 0, .int .i64 0, .int .i64 0, .slice none 0 0, .int .i64 0]) (fun ac u b5 E6 hb7 S => ?_)
  refine Sx.run S 1 [] [(5, .bool false)] (fun ac S => ?_)
  refine Sx.done (κ1 _ _ ?_)
  refine wp_seq_k (fun κκ κ8 => ?_)
  refine Sx.seqP (fun κκ κ9 => ?_)
  refine Sx.run S 1 [] [(6, .int .i64 k)] (fun ac S => ?_)
  refine Sx.done (κ9 _ _ ?_)
  refine wp_block ?_
  refine Sx.seqP (fun κκ κ10 => ?_)
  refine Sx.run S 2 [] [(7, .bool ((k) == 0))] (fun ac S => ?_)
  refine Sx.done (κ10 _ _ ?_)
  refine Sx.cond S (fun hc11 => ?_) (fun hc11 => ?_)
  · refine Sx.seqP (fun κκ κ12 => ?_)
    refine Sx.run S 5 [.mem 1 29, .re 11 (.int .u8 (IntKind.u8.wrap (Int.tdiv (nd.opacity.toNat : Int) 2))) (.int .u8 (((nd.opacity / 2).toNat : Nat) : Int)), .re 12 (.int .u8 (IntKind.u8.wrap ((((nd.opacity / 2).toNat : Nat) : Int) + 1))) (.int .u8 (((nd.opacity / 2 + 1).toNat : Nat) : Int))] [(12, .int .u8 (((nd.opacity / 2 + 1).toNat : Nat) : Int)), (13, .pointer (some ⟨b2, 29, none⟩))] (fun ac S => ?_) (hk := ⟨congrArg (Value.int .u8) (u8_half _), congrArg (Value.int .u8) (u8_half1 _), trivial⟩)
    refine Sx.store1 S 1 (off := 29) (v := .int .u8 (((nd.opacity / 2 + 1).toNat : Nat) : Int)) rfl (fun u C13 S => ?_)
    refine Sx.done (κ12 _ _ ?_)
    refine wp_seq_k (fun κκ κ14 => ?_)
    refine Sx.drawS S 4 0 [.mem 0 0, .mem 0 1] [(17, .bool ((nd.kind) != 1))] 0 (off := 0) (cs := (Sx.L [.int .i64 nd.id, .int .i64 nd.kind, .int .i64 nd.depth] ++ nd.t.cells ++ Sx.L [nd.cs, .int .i64 nd.clipRule, .int .u8 (((nd.opacity / 2 + 1).toNat : Nat) : Int), .int .i64 nd.blend, .bool nd.isolated, .bool nd.knockout, nd.ps, .int .i64 nd.fillRule, nd.fs] ++ nd.style.cells ++ Sx.L [nd.ss] ++ nd.img.cells ++ Sx.L [.int .i64 nd.samp])) rfl (fun ac u C15 S => ?_)
    refine Sx.run S 1 [] [(5, .bool ((nd.kind) != 1))] (fun ac S => ?_)
    refine Sx.done (κ14 _ _ ?_)
    refine wp_ret ?_
    repeat first | with_reducible refine Vp.then_ret ?_ | with_reducible refine Vp.inBlock_ret ?_
    refine Sx.retct S 0 Tryz.results12 rfl (v := (W1 nd).v) (u := .bool ((nd.kind) != 1)) ⟨W1 nd, _, rfl, W1_ok (h.below S.E) hc, S.E⟩
  · refine Sx.seqP (fun κκ κ16 => ?_)
    refine Sx.run S 2 [] [(18, .bool ((k) == 1))] (fun ac S => ?_)
    refine Sx.done (κ16 _ _ ?_)
    refine Sx.cond S (fun hc17 => ?_) (fun hc17 => ?_)
    · refine Sx.seqP (fun κκ κ18 => ?_)
      refine Sx.run S 1 [] [(20, .pointer (some ⟨b2, 31, none⟩))] (fun ac S => ?_)
      refine Sx.store1 S 1 (off := 31) (v := .bool true) rfl (fun u C19 S => ?_)
      refine Sx.done (κ18 _ _ ?_)
      refine wp_seq_k (fun κκ κ20 => ?_)
      refine Sx.drawS S 4 0 [.mem 0 0, .mem 0 1] [(24, .bool ((nd.kind) != 1))] 0 (off := 0) (cs := (Sx.L [.int .i64 nd.id, .int .i64 nd.kind, .int .i64 nd.depth] ++ nd.t.cells ++ Sx.L [nd.cs, .int .i64 nd.clipRule, .int .u8 (nd.opacity.toNat : Int), .int .i64 nd.blend, .bool true, .bool nd.knockout, nd.ps, .int .i64 nd.fillRule, nd.fs] ++ nd.style.cells ++ Sx.L [nd.ss] ++ nd.img.cells ++ Sx.L [.int .i64 nd.samp])) rfl (fun ac u C21 S => ?_)
      refine Sx.run S 1 [] [(5, .bool ((nd.kind) != 1))] (fun ac S => ?_)
      refine Sx.done (κ20 _ _ ?_)
      refine wp_ret ?_
      repeat first | with_reducible refine Vp.then_ret ?_ | with_reducible refine Vp.inBlock_ret ?_
      refine Sx.retct S 0 Tryz.results12 rfl (v := (W2 nd).v) (u := .bool ((nd.kind) != 1)) ⟨W2 nd, _, rfl, W2_ok (h.below S.E) hc, S.E⟩
    · refine Sx.seqP (fun κκ κ22 => ?_)
      refine Sx.run S 2 [] [(25, .bool ((k) == 2))] (fun ac S => ?_)
      refine Sx.done (κ22 _ _ ?_)
      refine Sx.cond S (fun hc23 => ?_) (fun hc23 => ?_)
      · refine Sx.seqP (fun κκ κ24 => ?_)
        refine Sx.run S 1 [] [(27, .pointer (some ⟨b2, 30, none⟩))] (fun ac S => ?_)
        refine Sx.store1 S 1 (off := 30) (v := .int .i64 1) rfl (fun u C25 S => ?_)
        refine Sx.done (κ24 _ _ ?_)
        refine wp_seq_k (fun κκ κ26 => ?_)
        refine Sx.drawS S 4 0 [.mem 0 0, .mem 0 1] [(31, .bool ((nd.kind) != 1))] 0 (off := 0) (cs := (Sx.L [.int .i64 nd.id, .int .i64 nd.kind, .int .i64 nd.depth] ++ nd.t.cells ++ Sx.L [nd.cs, .int .i64 nd.clipRule, .int .u8 (nd.opacity.toNat : Int), .int .i64 1, .bool nd.isolated, .bool nd.knockout, nd.ps, .int .i64 nd.fillRule, nd.fs] ++ nd.style.cells ++ Sx.L [nd.ss] ++ nd.img.cells ++ Sx.L [.int .i64 nd.samp])) rfl (fun ac u C27 S => ?_)
        refine Sx.run S 1 [] [(5, .bool ((nd.kind) != 1))] (fun ac S => ?_)
        refine Sx.done (κ26 _ _ ?_)
        refine wp_ret ?_
        repeat first | with_reducible refine Vp.then_ret ?_ | with_reducible refine Vp.inBlock_ret ?_
        refine Sx.retct S 0 Tryz.results12 rfl (v := (W3 nd).v) (u := .bool ((nd.kind) != 1)) ⟨W3 nd, _, rfl, W3_ok (h.below S.E) hc, S.E⟩
      · refine Sx.seqP (fun κκ κ28 => ?_)
        refine Sx.run S 2 [] [(32, .bool ((k) == 3))] (fun ac S => ?_)
        refine Sx.done (κ28 _ _ ?_)
        refine Sx.cond S (fun hc29 => ?_) (fun hc29 => ?_)
        · refine Sx.seqP (fun κκ κ30 => ?_)
          refine Sx.run S 1 [] [(34, .pointer (some ⟨b2, 34, none⟩))] (fun ac S => ?_)
          refine Sx.store1 S 1 (off := 34) (v := .int .i64 2) rfl (fun u C31 S => ?_)
          refine Sx.done (κ30 _ _ ?_)
          refine wp_seq_k (fun κκ κ32 => ?_)
          refine Sx.drawS S 4 0 [.mem 0 0, .mem 0 1] [(38, .bool ((nd.kind) != 2))] 0 (off := 0) (cs := (Sx.L [.int .i64 nd.id, .int .i64 nd.kind, .int .i64 nd.depth] ++ nd.t.cells ++ Sx.L [nd.cs, .int .i64 nd.clipRule, .int .u8 (nd.opacity.toNat : Int), .int .i64 nd.blend, .bool nd.isolated, .bool nd.knockout, nd.ps, .int .i64 2, nd.fs] ++ nd.style.cells ++ Sx.L [nd.ss] ++ nd.img.cells ++ Sx.L [.int .i64 nd.samp])) rfl (fun ac u C33 S => ?_)
          refine Sx.run S 1 [] [(5, .bool ((nd.kind) != 2))] (fun ac S => ?_)
          refine Sx.done (κ32 _ _ ?_)
          refine wp_ret ?_
          repeat first | with_reducible refine Vp.then_ret ?_ | with_reducible refine Vp.inBlock_ret ?_
          refine Sx.retct S 0 Tryz.results12 rfl (v := (W4 nd).v) (u := .bool ((nd.kind) != 2)) ⟨W4 nd, _, rfl, W4_ok (h.below S.E) hc, S.E⟩
        · refine Sx.seqP (fun κκ κ34 => ?_)
          refine Sx.run S 2 [] [(39, .bool ((k) == 4))] (fun ac S => ?_)
          refine Sx.done (κ34 _ _ ?_)
          refine Sx.cond S (fun hc35 => ?_) (fun hc35 => ?_)
          · refine Sx.seqP (fun κκ κ36 => ?_)
            refine Sx.run S 1 [] [(41, .agg (Sx.L [.int .i64 1, .int .u8 0, .int .u8 0, .int .u8 0, .int .u8 0, .int .i64 0, .int .i64 0, .int .i64 0, .int .i64 0, .int .i64 0, .slice none 0 0, .int .i64 0, .int .i64 0, .int .i64 0, .slice none 0 0, .int .i64 0] ++ Sx.za).toArray)] (fun ac S => ?_)
            refine Sx.news S 42 1 (Sx.L [.int .i64 1, .int .u8 0, .int .u8 0, .int .u8 0, .int .u8 0, .int .i64 0, .int .i64 0, .int .i64 0, .int .i64 0, .int .i64 0, .slice none 0 0, .int .i64 0, .int .i64 0, .int .i64 0, .slice none 0 0, .int .i64 0] ++ Sx.za) (fun ac u b37 E38 hb39 S => ?_)
            refine Sx.run S 1 [] [(43, .pointer (some ⟨b2, 35, none⟩))] (fun ac S => ?_)
            refine Sx.store1 S 2 (off := 35) (v := .slice (some ⟨b37, 0, none⟩) 1 1) rfl (fun u C40 S => ?_)
            refine Sx.done (κ36 _ _ ?_)
            refine wp_seq_k (fun κκ κ41 => ?_)
            refine Sx.drawS S 4 0 [.mem 1 0, .mem 1 1] [(47, .bool ((nd.kind) != 2))] 1 (off := 0) (cs := (Sx.L [.int .i64 nd.id, .int .i64 nd.kind, .int .i64 nd.depth] ++ nd.t.cells ++ Sx.L [nd.cs, .int .i64 nd.clipRule, .int .u8 (nd.opacity.toNat : Int), .int .i64 nd.blend, .bool nd.isolated, .bool nd.knockout, nd.ps, .int .i64 nd.fillRule, .slice (some ⟨b37, 0, none⟩) 1 1] ++ nd.style.cells ++ Sx.L [nd.ss] ++ nd.img.cells ++ Sx.L [.int .i64 nd.samp])) rfl (fun ac u C42 S => ?_)
            refine Sx.run S 1 [] [(5, .bool ((nd.kind) != 2))] (fun ac S => ?_)
            refine Sx.done (κ41 _ _ ?_)
            refine wp_ret ?_
            repeat first | with_reducible refine Vp.then_ret ?_ | with_reducible refine Vp.inBlock_ret ?_
            refine Sx.retct S 1 Tryz.results12 rfl (v := (W5 nd b37).v) (u := .bool ((nd.kind) != 2)) ⟨W5 nd b37, _, rfl, W5_ok (h.below S.E) (S.bx 0) hc, S.E⟩
          · refine Sx.seqP (fun κκ κ43 => ?_)
            refine Sx.run S 2 [] [(48, .bool ((k) == 5))] (fun ac S => ?_)
            refine Sx.done (κ43 _ _ ?_)
            refine Sx.cond S (fun hc44 => ?_) (fun hc44 => ?_)
            · refine Sx.seqP (fun κκ κ45 => ?_)
              refine Sx.run S 1 [] [(50, .agg #[.int .i64 1, .int .i64 0, .int .i64 0, .int .i64 0, .int .i64 0, .int .i64 0, .int .i64 0])] (fun ac S => ?_)
              refine Sx.news S 51 1 [.int .i64 1, .int .i64 0, .int .i64 0, .int .i64 0, .int .i64 0, .int .i64 0, .int .i64 0] (fun ac u b46 E47 hb48 S => ?_)
              refine Sx.run S 1 [] [(52, .pointer (some ⟨b2, 33, none⟩))] (fun ac S => ?_)
              refine Sx.store1 S 2 (off := 33) (v := .slice (some ⟨b46, 0, none⟩) 1 1) rfl (fun u C49 S => ?_)
              refine Sx.done (κ45 _ _ ?_)
              refine wp_seq_k (fun κκ κ50 => ?_)
              refine Sx.drawS S 4 0 [.mem 1 0, .mem 1 1] [(56, .bool ((nd.kind) != 2))] 1 (off := 0) (cs := (Sx.L [.int .i64 nd.id, .int .i64 nd.kind, .int .i64 nd.depth] ++ nd.t.cells ++ Sx.L [nd.cs, .int .i64 nd.clipRule, .int .u8 (nd.opacity.toNat : Int), .int .i64 nd.blend, .bool nd.isolated, .bool nd.knockout, .slice (some ⟨b46, 0, none⟩) 1 1, .int .i64 nd.fillRule, nd.fs] ++ nd.style.cells ++ Sx.L [nd.ss] ++ nd.img.cells ++ Sx.L [.int .i64 nd.samp])) rfl (fun ac u C51 S => ?_)
              refine Sx.run S 1 [] [(5, .bool ((nd.kind) != 2))] (fun ac S => ?_)
              refine Sx.done (κ50 _ _ ?_)
              refine wp_ret ?_
              repeat first | with_reducible refine Vp.then_ret ?_ | with_reducible refine Vp.inBlock_ret ?_
              refine Sx.retct S 1 Tryz.results12 rfl (v := (W6 nd b46).v) (u := .bool ((nd.kind) != 2)) ⟨W6 nd b46, _, rfl, W6_ok (h.below S.E) (S.bx 0) hc, S.E⟩
            · refine Sx.seqP (fun κκ κ52 => ?_)
              refine Sx.run S 2 [] [(57, .bool ((k) == 6))] (fun ac S => ?_)
              refine Sx.done (κ52 _ _ ?_)
              refine Sx.cond S (fun hc53 => ?_) (fun hc53 => ?_)
              · refine Sx.seqP (fun κκ κ54 => ?_)
                refine Sx.run S 2 [] [(60, .pointer (some ⟨b2, 36, none⟩))] (fun ac S => ?_)
                refine Sx.store1 S 1 (off := 36) (v := .int .i64 256) rfl (fun u C55 S => ?_)
                refine Sx.done (κ54 _ _ ?_)
                refine wp_seq_k (fun κκ κ56 => ?_)
                refine Sx.drawS S 10 0 [.mem 0 0, .mem 0 1, .mem 0 42] [(70, .bool (((nd.kind) != 2) || ((((nd.stroke.length : Nat) : Int)) == 0)))] 0 (off := 0) (cs := (Sx.L [.int .i64 nd.id, .int .i64 nd.kind, .int .i64 nd.depth] ++ nd.t.cells ++ Sx.L [nd.cs, .int .i64 nd.clipRule, .int .u8 (nd.opacity.toNat : Int), .int .i64 nd.blend, .bool nd.isolated, .bool nd.knockout, nd.ps, .int .i64 nd.fillRule, nd.fs, .int .i64 256, .int .i64 nd.style.join, .int .i64 nd.style.cap, .int .i64 nd.style.miter, nd.style.s, .int .i64 nd.style.phase, nd.ss] ++ nd.img.cells ++ Sx.L [.int .i64 nd.samp])) rfl (fun ac u C57 S => ?_)
                refine Sx.run S 1 [] [(5, .bool (((nd.kind) != 2) || ((((nd.stroke.length : Nat) : Int)) == 0)))] (fun ac S => ?_)
                refine Sx.done (κ56 _ _ ?_)
                refine wp_ret ?_
                repeat first | with_reducible refine Vp.then_ret ?_ | with_reducible refine Vp.inBlock_ret ?_
                refine Sx.retct S 0 Tryz.results12 rfl (v := (W7 nd).v) (u := .bool (((nd.kind) != 2) || ((((nd.stroke.length : Nat) : Int)) == 0))) ⟨W7 nd, _, rfl, W7_ok (h.below S.E) hc, S.E⟩
              · refine Sx.seqP (fun κκ κ58 => ?_)
                refine Sx.run S 2 [] [(71, .bool ((k) == 7))] (fun ac S => ?_)
                refine Sx.done (κ58 _ _ ?_)
                refine Sx.cond S (fun hc59 => ?_) (fun hc59 => ?_)
                · refine Sx.seqP (fun κκ κ60 => ?_)
                  refine Sx.run S 1 [] [(73, .pointer (some ⟨b2, 46, none⟩))] (fun ac S => ?_)
                  refine Sx.store1 S 1 (off := 46) (v := .int .i64 2) rfl (fun u C61 S => ?_)
                  refine Sx.done (κ60 _ _ ?_)
                  refine wp_seq_k (fun κκ κ62 => ?_)
                  refine Sx.drawS S 4 0 [.mem 0 0, .mem 0 1] [(77, .bool ((nd.kind) != 3))] 0 (off := 0) (cs := (Sx.L [.int .i64 nd.id, .int .i64 nd.kind, .int .i64 nd.depth] ++ nd.t.cells ++ Sx.L [nd.cs, .int .i64 nd.clipRule, .int .u8 (nd.opacity.toNat : Int), .int .i64 nd.blend, .bool nd.isolated, .bool nd.knockout, nd.ps, .int .i64 nd.fillRule, nd.fs] ++ nd.style.cells ++ Sx.L [nd.ss] ++ nd.img.cells ++ Sx.L [.int .i64 2])) rfl (fun ac u C63 S => ?_)
                  refine Sx.run S 1 [] [(5, .bool ((nd.kind) != 3))] (fun ac S => ?_)
                  refine Sx.done (κ62 _ _ ?_)
                  refine wp_ret ?_
                  repeat first | with_reducible refine Vp.then_ret ?_ | with_reducible refine Vp.inBlock_ret ?_
                  refine Sx.retct S 0 Tryz.results12 rfl (v := (W8 nd).v) (u := .bool ((nd.kind) != 3)) ⟨W8 nd, _, rfl, W8_ok (h.below S.E) hc, S.E⟩
                · refine Sx.seqP (fun κκ κ64 => ?_)
                  refine Sx.run S 2 [] [(78, .bool ((k) == 8))] (fun ac S => ?_)
                  refine Sx.done (κ64 _ _ ?_)
                  refine Sx.cond S (fun hc65 => ?_) (fun hc65 => ?_)
                  · refine Sx.seqP (fun κκ κ66 => ?_)
                    refine Sx.run S 6 [.mem 1 43] [(83, .int .i64 (IntKind.i64.wrap (nd.img.w + 1))), (85, .pointer (some ⟨b2, 43, none⟩))] (fun ac S => ?_)
                    refine Sx.store1 S 1 (off := 43) (v := .int .i64 (IntKind.i64.wrap (nd.img.w + 1))) rfl (fun u C67 S => ?_)
                    refine Sx.done (κ66 _ _ ?_)
                    refine wp_seq_k (fun κκ κ68 => ?_)
                    refine Sx.drawS S 4 0 [.mem 0 0, .mem 0 1] [(89, .bool ((nd.kind) != 3))] 0 (off := 0) (cs := (Sx.L [.int .i64 nd.id, .int .i64 nd.kind, .int .i64 nd.depth] ++ nd.t.cells ++ Sx.L [nd.cs, .int .i64 nd.clipRule, .int .u8 (nd.opacity.toNat : Int), .int .i64 nd.blend, .bool nd.isolated, .bool nd.knockout, nd.ps, .int .i64 nd.fillRule, nd.fs] ++ nd.style.cells ++ Sx.L [nd.ss, .int .i64 (IntKind.i64.wrap (nd.img.w + 1)), .int .i64 nd.img.h, nd.img.s, .int .i64 nd.samp])) rfl (fun ac u C69 S => ?_)
                    refine Sx.run S 1 [] [(5, .bool ((nd.kind) != 3))] (fun ac S => ?_)
                    refine Sx.done (κ68 _ _ ?_)
                    refine wp_ret ?_
                    repeat first | with_reducible refine Vp.then_ret ?_ | with_reducible refine Vp.inBlock_ret ?_
                    refine Sx.retct S 0 Tryz.results12 rfl (v := (W9 nd).v) (u := .bool ((nd.kind) != 3)) ⟨W9 nd, _, rfl, W9_ok (h.below S.E) hc, S.E⟩
                  · refine wp_skip ?_
                    refine κ8 _ _ ?_
                    refine Sx.seqP (fun κκ κ70 => ?_)
                    refine Sx.run S 1 [] [(90, .pointer (some ⟨b2, 28, none⟩))] (fun ac S => ?_)
                    refine Sx.store1 S 1 (off := 28) (v := .int .i64 1) rfl (fun u C71 S => ?_)
                    refine Sx.done (κ70 _ _ ?_)
                    refine wp_seq_k (fun κκ κ72 => ?_)
                    refine Sx.drawS S 5 0 [.mem 0 0, .mem 0 27] [(95, .bool ((((nd.clip.length : Nat) : Int)) == 0))] 0 (off := 0) (cs := (Sx.L [.int .i64 nd.id, .int .i64 nd.kind, .int .i64 nd.depth] ++ nd.t.cells ++ Sx.L [nd.cs, .int .i64 1, .int .u8 (nd.opacity.toNat : Int), .int .i64 nd.blend, .bool nd.isolated, .bool nd.knockout, nd.ps, .int .i64 nd.fillRule, nd.fs] ++ nd.style.cells ++ Sx.L [nd.ss] ++ nd.img.cells ++ Sx.L [.int .i64 nd.samp])) rfl (fun ac u C73 S => ?_)
                    refine Sx.run S 1 [] [(5, .bool ((((nd.clip.length : Nat) : Int)) == 0))] (fun ac S => ?_)
                    refine Sx.done (κ72 _ _ ?_)
                    refine wp_ret ?_
                    repeat first | with_reducible refine Vp.then_ret ?_ | with_reducible refine Vp.inBlock_ret ?_
                    refine Sx.retct S 0 Tryz.results12 rfl (v := (W10 nd).v) (u := .bool ((((nd.clip.length : Nat) : Int)) == 0)) ⟨W10 nd, _, rfl, W10_ok (h.below S.E) hc, S.E⟩

set_option maxRecDepth 100000 in
set_option maxHeartbeats 3200000 in
theorem nodeForeign_any {w : World} {nd : NodeD} {k : Int} (h : nd.ok w) (hk : I64 k) (hg : GlobOk w) :
    Calls Tryz.prog 3 #[nd.v, .int .i64 k] w fun e w' => e = .returned (.bool true) ∧ Ext w w' := by
  skip
  refine Sx.enter Tryz.func3 Tryz.ntmps3 (fun ac S => ?_)
  refine Sx.seqP (fun κκ κ1 => ?_)
  refine Sx.newp S 2 nd.cells (fun ac u b2 E3 hb4 S => ?_)
  refine Sx.run S 1 [] [(4, .bool false)] (fun ac S => ?_)
  refine Sx.done (κ1 _ _ ?_)
  refine wp_seq_k (fun κκ κ5 => ?_)
  refine Sx.seqP (fun κκ κ6 => ?_)
  refine Sx.run S 1 [.mem 0 0] [(7, nd.v)] (fun ac S => ?_)
  refine Sx.callv S 8 (small_any (h.below S.E)) (fun ac u E7 S => ?_)
  refine Sx.runC S 6 [.mem 0 0] [(_, _, (!(!nd.small)), .int .i64 nd.checkN)] [(14, .bool ((!nd.small) || ((nd.checkN) != 0)))] ⟨fun u hC g => nodeCheck_any (NodeD.small_ok (for_l g) (h.below (Ext.trans' S.E hC))) (hg.below (Ext.trans' S.E hC)), trivial⟩ (fun ac u E8 S => ?_)
  refine Sx.done (κ6 _ _ ?_)
  refine Sx.cond S (fun hc9 => ?_) (fun hc9 => ?_)
  · refine Sx.seqP (fun κκ κ10 => ?_)
    refine Sx.callv S 15 (example_any (hg.below S.E)) (fun ac u E11 S => ?_)
    refine Sx.run S 1 [] [(4, .bool true)] (fun ac S => ?_)
    refine Sx.done (κ10 _ _ ?_)
    refine wp_ret ?_
    repeat first | with_reducible refine Vp.then_ret ?_ | with_reducible refine Vp.inBlock_ret ?_
    refine Sx.ret1 S Tryz.results3 ?_
    exact ⟨rfl, S.E⟩
  · obtain ⟨hs, hc0⟩ : nd.small = true ∧ nd.checkN = 0 := by
      have hh := hc9
      simp only [Bool.or_eq_false_iff, Bool.not_eq_false', bne_eq_false_iff_eq] at hh
      exact hh
    have hok := NodeD.small_ok hs h
    refine wp_skip ?_
    refine κ5 _ _ ?_
    refine Sx.seqP (fun κκ κ12 => ?_)
    refine Sx.run S 5 [.mem 0 0] [(17, nd.v), (21, .int .i64 (IntKind.i64.wrap (Int.tmod (IntKind.u64.wrap k) 10)))] (fun ac S => ?_)
    refine Sx.callG S (some 22) (withForeign_any (K := 20) (k := (IntKind.i64.wrap (Int.tmod (IntKind.u64.wrap k) 10))) (hok.below S.E) hc0) ?_
    rintro e u ⟨m, o, rfl, hm, E13⟩
    refine ⟨_, rfl, E13, fun ac S => ?_⟩
    refine Sx.run S 3 [] [(23, m.v), (24, .bool o)] (fun ac S => ?_)
    refine Sx.newp S 5 (Sx.L [.int .i64 0, .int .i64 0, .int .i64 0] ++ Sx.za ++ Sx.L [.slice none 0 0, .int .i64 0, .int .u8 0, .int .i64 0, .bool false, .bool false, .slice none 0 0, .int .i64 0, .slice none 0 0, .int .i64 0, .int .i64 0, .int .i64 0, .int .i64 0, .slice none 0 0, .int .i64 0, .slice none 0 0, .int .i64 0, .int .i64 0, .slice none 0 0, .int .i64 0]) (fun ac u b14 E15 hb16 S => ?_)
    refine Sx.store S 0 (off := 0) (cs := m.cells) rfl (fun u C17 S => ?_)
    have E18 := Sx.ext_ch E15 C17 (by omega)
    refine Sx.run S 1 [] [(6, .bool o)] (fun ac S => ?_)
    refine Sx.done (κ12 _ _ ?_)
    refine Sx.seqP (fun κκ κ19 => ?_)
    refine Sx.runC S 11 [.mem 0 0] [(_, _, (!(!o)), .int .i64 m.checkN), (_, _, ((!o) || ((m.checkN) == 17)), .bool true)] [(4, .bool (((!o) || ((m.checkN) == 17)) && true))] ⟨fun u hC g => nodeCheck_any (nd := m) (K := 20) ((NodeOk.below hm.1 (Ext.trans' E18 hC))) (hg.below (Ext.trans' S.E hC)), fun u hC g => example_any (hg.below (Ext.trans' S.E hC)), trivial⟩ (fun ac u E20 S => ?_)
    refine Sx.done (κ19 _ _ ?_)
    refine wp_ret ?_
    repeat first | with_reducible refine Vp.then_ret ?_ | with_reducible refine Vp.inBlock_ret ?_
    refine Sx.ret1 S Tryz.results3 ?_
    exact ⟨by cases o; rfl; rw [hm.2 rfl]; rfl, S.E⟩
end Go.Proofs.YtcohmdeoocgmdaaGreatDoor
