/- Walks of binenc: the reader's state, next, number. -/
import Derived.Test.YtnenbmbgmmeiaaaDoorEncWalk5
import Derived.Test.YtnenbmbgmmeiaaaDoorCh
namespace Go.Proofs.YtnenbmbgmmeiaaaDoor
open Go.RowKit En
variable {α : Type}

/-- The reader in block b: its slice and its place. -/
structure Rd (w : World) (b : Nat) (v : Value) (l : List UInt8) (p : Nat) : Prop where
  c0 : w.cell? ⟨b, 0, none⟩ = some v
  c1 : w.cell? ⟨b, 1, none⟩ = some (.int .i64 p)
  fz : w.frozen? ⟨b, 1, none⟩ = false
  row : IsBytes w v l
  off : 0 < l.length → Off b v
  hp : p ≤ l.length
  lt : b < w.heap.size
theorem Rd.drewN {w : World} {b : Nat} {v : Value} {l : List UInt8} {p : Nat} (h : Rd w b v l p) (n : Nat) : Rd (w.drewN n) b v l p :=
  ⟨by rw [World.cell?_drewN]; exact h.c0, by rw [World.cell?_drewN]; exact h.c1, by rw [World.frozen?_drewN]; exact h.fz, h.row.below (below_drewN (Below.refl _ _) n), h.off, h.hp, by simpa using h.lt⟩
theorem Rd.ext {w w' : World} {b : Nat} {v : Value} {l : List UInt8} {p : Nat} (h : Rd w b v l p) (hb : Ext w w') : Rd w' b v l p :=
  ⟨by rw [hb.cell (p := ⟨b, 0, none⟩) h.lt]; exact h.c0, by rw [hb.cell (p := ⟨b, 1, none⟩) h.lt]; exact h.c1, by rw [hb.frozen (p := ⟨b, 1, none⟩) h.lt]; exact h.fz, h.row.below hb, h.off, h.hp, by have := hb.size; have := h.lt; omega⟩
theorem Rd.set {w : World} {b : Nat} {v : Value} {l : List UInt8} {p q : Nat} (h : Rd w b v l p) (hq : q ≤ l.length) : Rd (w.setCell ⟨b, 1, none⟩ (.int .i64 q)) b v l q :=
  ⟨by rw [World.cell?_setCell_other _ _ _ _ (by simp)]; exact h.c0, World.cell?_setCell_same _ _ _ h.c1, by simpa using h.fz, h.row.ch ((Ch.refl b w).setCell _ _) h.off, h.off, hq, by simpa [World.setCell] using h.lt⟩

theorem next_any (l : List UInt8) (b p k : Nat) (v : Value) (w : World) (h : Rd w b v l p) (hk : p + k ≤ l.length) (h0 : 0 < l.length) :
    Calls Tryd.prog 52 #[.pointer (some ⟨b, 0, none⟩), .int .i64 k] w fun e w' => ∃ v', e = .returned v' ∧ Rd w' b v l (p + k) ∧ Ch b w w' ∧ IsBytes w' v' ((l.drop p).take k) ∧ Off b v' := by
  obtain ⟨bb, o, cap, hv, hb, hl, hm, hc⟩ := row_some h.row rfl h0
  subst hv
  have hne : bb ≠ b := h.off h0 _ _ _ rfl
  refine (next_some l b p k bb o cap w hm hl hb hne hc h.c0 h.c1 h.fz hk).mono ?_
  rintro e w' ⟨v', n, rfl, hw, hr, hoff⟩
  have he : (p : Int) + (k : Int) = ((p + k : Nat) : Int) := by omega
  rw [he] at hw
  refine ⟨v', rfl, ?_, ?_, hr, ?_⟩
  · rw [hw]; exact (h.set hk).drewN n
  · rw [hw]; exact ((Ch.refl b w).setCell _ _).drewN n
  · intro ad n' cap' hv'
    exact fun e => hne (by rw [← e]; exact hoff ad n' cap' hv')
theorem from_rd (v : Value) (l : List UInt8) (i : Nat) (w : World) (hv : IsBytes w v l) (h : i ≤ l.length) :
    Calls Tryd.prog 45 #[v, .int .i64 i] w fun e w' => ∃ b, e = .returned (.tuple #[.pointer (some ⟨b, 0, none⟩), .int .i64 0]) ∧ Rd w' b v l i ∧ Ext w w' ∧ w.heap.size ≤ b := by
  refine (from_good v l i w hv h).mono ?_
  rintro e w' ⟨rfl, rfl⟩
  refine ⟨_, rfl, ⟨?_, ?_, ?_, hv.below (below_alloc _ _), off_new hv (Nat.le_refl _), h, by simp⟩, below_alloc _ _, Nat.le_refl _⟩
  · rw [World.cell?_alloc_at _ _ _ _ rfl]; rfl
  · rw [World.cell?_alloc_at _ _ _ _ rfl]; rfl
  · rw [World.frozen?_alloc_at _ _ _ _ rfl]
end Go.Proofs.YtnenbmbgmmeiaaaDoor
