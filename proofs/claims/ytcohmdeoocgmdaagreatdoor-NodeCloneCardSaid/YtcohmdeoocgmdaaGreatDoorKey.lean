/- The key of a node: its content with numbers in lowest terms. Nodes are equal exactly if their keys are. No program in sight. -/
import Derived.Test.YtcohmdeoocgmdaaGreatDoorE36b
namespace Go.Proofs.YtcohmdeoocgmdaaGreatDoor
variable {K : Nat}
instance q6dec : DecidableEq Q6 := fun P Q => decidable_of_iff (P.a = Q.a ∧ P.b = Q.b ∧ P.c = Q.c ∧ P.d = Q.d ∧ P.e = Q.e ∧ P.f = Q.f) (by
 obtain ⟨a, b, c, d, e, f⟩ := P
 obtain ⟨a', b', c', d', e', f'⟩ := Q
 simp)
structure ImgK where
 w : Int
 h : Int
 l : List PixD
deriving DecidableEq
structure PaintK where
 kind : Int
 color : PixD
 p0 : PtD
 p1 : PtD
 radius : Int
 stops : List StopD
 spread : Int
 img : ImgK
 samp : Int
 q : Q6
deriving DecidableEq
structure StyleK where
 width : Int
 join : Int
 cap : Int
 miter : Int
 dash : List Int
 phase : Int
deriving DecidableEq
structure NodeK where
 id : Int
 kind : Int
 depth : Int
 q : Q6
 clip : List SegD
 clipRule : Int
 opacity : UInt8
 blend : Int
 isolated : Bool
 knockout : Bool
 path : List SegD
 fillRule : Int
 fill : List PaintK
 style : StyleK
 stroke : List PaintK
 img : ImgK
 samp : Int
deriving DecidableEq
def ImgD.key (m : ImgD) : ImgK := ⟨m.w, m.h, m.l⟩
def PaintD.key (p : PaintD) : PaintK := ⟨p.kind, p.color, p.p0, p.p1, p.radius, p.stops, p.spread, p.img.key, p.samp, p.t.q⟩
def StyleD.key (p : StyleD) : StyleK := ⟨p.width, p.join, p.cap, p.miter, p.dash, p.phase⟩
def NodeD.key (n : NodeD) : NodeK := ⟨n.id, n.kind, n.depth, n.t.q, n.clip, n.clipRule, n.opacity, n.blend, n.isolated, n.knockout, n.path, n.fillRule, n.fill.map PaintD.key, n.style.key, n.stroke.map PaintD.key, n.img.key, n.samp⟩
theorem u8_iff {a b : UInt8} : (a.toNat : Int) = (b.toNat : Int) ↔ a = b := ⟨u8_inj, fun h => by rw [h]⟩
theorem pix_iff {a b : PixD} : (a.r = b.r ∧ a.g = b.g ∧ a.b = b.b ∧ a.a = b.a) ↔ a = b := by cases a; cases b; simp
theorem pt_iff {a b : PtD} : (a.x = b.x ∧ a.y = b.y) ↔ a = b := by cases a; cases b; simp
theorem img_eqk (m n : ImgD) : m.eq n = decide (m.key = n.key) := by
 rw [Bool.eq_iff_iff]; simp [ImgD.eq, ImgD.key]
theorem sty_eqk (p q : StyleD) : p.eq q = decide (p.key = q.key) := by
 rw [Bool.eq_iff_iff]; simp only [StyleD.eq, StyleD.key, StyleK.mk.injEq, Bool.and_eq_true, beq_iff_eq, decide_eq_true_eq, and_assoc]
 constructor
 ·rintro ⟨h1, h2, h3, h4, h5, h6⟩; exact ⟨h1, h2, h3, h4, h6, h5⟩
 ·rintro ⟨h1, h2, h3, h4, h5, h6⟩; exact ⟨h1, h2, h3, h4, h6, h5⟩
theorem q6_same (P Q : Q6) : P.same Q = decide (P = Q) := by
 obtain ⟨a, b, c, d, e, f⟩ := P
 obtain ⟨a', b', c', d', e', f'⟩ := Q
 rw [Bool.eq_iff_iff]; simp [Q6.same]
theorem q6_eq {P Q : Q6} (hp : Nrm6 P) (hq : Nrm6 Q) : P.eq Q = decide (P = Q) := by rw [← Q6.same_eq hp hq, q6_same]
theorem PaintD.eq_key {p q : PaintD} (hp : Nrm6 p.t.q) (hq : Nrm6 q.t.q) : p.eq q = decide (p.key = q.key) := by
 rw [Bool.eq_iff_iff]
 unfold PaintD.eq
 rw [q6_eq hp hq, img_eqk]
 simp only [Bool.and_eq_true, beq_iff_eq, decide_eq_true_eq, u8_iff, pix_iff, pt_iff, PaintD.key, PaintK.mk.injEq, and_assoc]
 constructor
 ·rintro ⟨h1, h2, h3, h4, h5, h6, h7, h8, h9, h10⟩; exact ⟨h1, h2, h3, h4, h5, h8, h6, h9, h7, h10⟩
 ·rintro ⟨h1, h2, h3, h4, h5, h6, h7, h8, h9, h10⟩; exact ⟨h1, h2, h3, h4, h5, h7, h9, h6, h8, h10⟩
/-- All transforms of a list of paints are in lowest terms. -/
def NrmP (l : List PaintD) : Prop := ∀ p ∈ l, Nrm6 p.t.q
theorem paintsEq_key : ∀ {l m : List PaintD}, NrmP l → NrmP m → paintsEq l m = decide (l.map PaintD.key = m.map PaintD.key)
 | [], [], _, _ => by simp [paintsEq]
 | [], y :: m, _, _ => by simp [paintsEq]
 | x :: l, [], _, _ => by simp [paintsEq]
 | x :: l, y :: m, hl, hm => by
  have ih := paintsEq_key (l := l) (m := m) (fun p hp => hl p (List.mem_cons_of_mem _ hp)) (fun p hp => hm p (List.mem_cons_of_mem _ hp))
  have e := PaintD.eq_key (hl x List.mem_cons_self) (hm y List.mem_cons_self)
  rw [Bool.eq_iff_iff] at ih e ⊢
  simp only [paintsEq, List.length_cons, Nat.add_right_cancel_iff, List.zip_cons_cons, List.all_cons, List.map_cons, List.cons.injEq, Bool.and_eq_true, decide_eq_true_eq] at ih e ⊢
  rw [e, ← ih]
  constructor
  ·rintro ⟨h1, h2, h3⟩; exact ⟨h2, h1, h3⟩
  ·rintro ⟨h1, h2, h3⟩; exact ⟨h2, h1, h3⟩
/-- All transforms of a node are in lowest terms. -/
def NodeD.nrm (n : NodeD) : Prop := Nrm6 n.t.q ∧ NrmP n.fill ∧ NrmP n.stroke
theorem NodeOk.nrm {w : World} {n : NodeD} (h : NodeOk K w n) : n.nrm :=
 ⟨(AffD.toQ h.1.2.2.2.1 h.2.1).nrm, fun p hp => (AffD.toQ (h.1.2.2.2.2.2.2.2.2.2.1.2 p hp).2.2.2.2.2.2.2.2.2 (h.2.2.1 p hp)).nrm, fun p hp => (AffD.toQ (h.1.2.2.2.2.2.2.2.2.2.2.2.1.2 p hp).2.2.2.2.2.2.2.2.2 (h.2.2.2.1 p hp)).nrm⟩
theorem cond_ff' {a b : Bool} : cond a false b = (!a && b) := by cases a <;> rfl
theorem eqP_key {a b : NodeD} (ha : a.nrm) (hb : b.nrm) : a.eqP b = decide (a.key = b.key) := by
 rw [Bool.eq_iff_iff]
 unfold NodeD.eqP
 rw [q6_eq ha.1 hb.1, paintsEq_key ha.2.1 hb.2.1, paintsEq_key ha.2.2 hb.2.2, img_eqk, sty_eqk]
 simp only [cond_ff', Bool.and_eq_true, Bool.not_eq_true', Bool.or_eq_false_iff, bne_eq_false_iff_eq, Bool.not_eq_false', beq_iff_eq, decide_eq_true_eq, u8_iff, NodeD.key, NodeK.mk.injEq, and_assoc]
 constructor
 ·rintro ⟨h1, h2, h3, h4, h5, h6, h7, h8, h9, h10, h11, h12, h13, h14, h15, h16, h17⟩; exact ⟨h1, h2, h3, h11, h12, h4, h5, h6, h7, h8, h13, h9, h14, h16, h15, h17, h10⟩
 ·rintro ⟨h1, h2, h3, h11, h12, h4, h5, h6, h7, h8, h13, h9, h14, h16, h15, h17, h10⟩; exact ⟨h1, h2, h3, h4, h5, h6, h7, h8, h9, h10, h11, h12, h13, h14, h15, h16, h17⟩
theorem eqR_key {a b : NodeD} (ha : a.nrm) (hb : b.nrm) : a.eqR b = decide (a.key = b.key) := by
 rw [Bool.eq_iff_iff]
 unfold NodeD.eqR
 rw [q6_same, paintsEq_key ha.2.1 hb.2.1, paintsEq_key ha.2.2 hb.2.2, img_eqk, sty_eqk]
 simp only [cond_ff', Bool.and_eq_true, Bool.not_eq_true', Bool.or_eq_false_iff, bne_eq_false_iff_eq, Bool.not_eq_false', beq_iff_eq, decide_eq_true_eq, u8_iff, NodeD.key, NodeK.mk.injEq, and_assoc]
 constructor
 ·rintro ⟨h1, h2, h3, h11, h4, h9, h10, h5, h6, h7, h8, h12, h13, h14, h15, h16, h17⟩; exact ⟨h1, h2, h3, h11, h12, h4, h5, h6, h7, h8, h13, h9, h14, h16, h15, h17, h10⟩
 ·rintro ⟨h1, h2, h3, h11, h12, h4, h5, h6, h7, h8, h13, h9, h14, h16, h15, h17, h10⟩; exact ⟨h1, h2, h3, h11, h4, h9, h10, h5, h6, h7, h8, h12, h13, h14, h15, h16, h17⟩
/- What Check says of a node is what reference 36 says. -/
end Go.Proofs.YtcohmdeoocgmdaaGreatDoor
