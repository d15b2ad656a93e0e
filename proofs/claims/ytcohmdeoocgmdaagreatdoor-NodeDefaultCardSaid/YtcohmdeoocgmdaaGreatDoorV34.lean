/- Valid paints by reference 34 are those by package paint. No program in sight. -/
import Derived.Test.YtcohmdeoocgmdaaGreatDoorR36d
namespace Go.Proofs.YtcohmdeoocgmdaaGreatDoor
theorem len0 {α : Type} (l : List α) : (((l.length : Nat) : Int) == 0) = l.isEmpty := by cases l <;> simp <;> omega
theorem nil0 {α : Type} [DecidableEq α] (l : List α) : decide (l = []) = l.isEmpty := by cases l <;> simp
theorem valid34_eq {p : PaintD} (hn : Nrm6 p.t.q) (h0 : Nrm6 AffD.none.q) : p.valid34 = p.valid := by
  have hs : p.t.q.same AffD.none.q = p.t.q.eq AffD.none.q := Q6.same_eq hn h0
  have ha : AffD.none.q.eq AffD.none.q = true := by rw [← Q6.same_eq h0 h0]; unfold Q6.same; simp
  have e1 : pt11 p.p0.x p.p0.y = PtD.valid ⟨p.p0.x, p.p0.y⟩ := pt11_eq ⟨p.p0.x, p.p0.y⟩
  have e2 : pt11 p.p1.x p.p1.y = PtD.valid ⟨p.p1.x, p.p1.y⟩ := pt11_eq ⟨p.p1.x, p.p1.y⟩
  unfold PaintD.valid34 PaintD.valid PaintD.has34
  rw [hs, e1, e2]
  cases htv : p.t.q.valid
  · simp
  · by_cases k1 : p.kind = 1
    · simp [k1, PaintD.without, PaintD.only1, PaintD.eq, PaintD.bare, PaintD.noramp, PaintD.noimg, ha, PixD.none, PtD.none, ImgD.eq, ImgD.bare, len0, nil0]
      cases p.t.q.eq AffD.none.q <;> simp
      ac_rfl
    · by_cases k2 : p.kind = 2
      · simp [k2, PaintD.without, PaintD.only2, PaintD.eq, PaintD.bare, PaintD.noimg, ha, PixD.none, PtD.none, ImgD.eq, ImgD.bare, len0, spreadOk]
        ac_rfl
      · by_cases k3 : p.kind = 3
        · simp [k3, PaintD.without, PaintD.only3, PaintD.eq, PaintD.bare, PaintD.noimg, PaintD.noramp, ha, PixD.none, PtD.none, ImgD.eq, ImgD.bare, len0, spreadOk, ← Int.not_lt]
          ac_rfl
        · by_cases k4 : p.kind = 4
          · simp [k4, PaintD.without, PaintD.only4, bne, PaintD.eq, PaintD.bare, PaintD.noimg, PaintD.noramp, ha, PixD.none, PtD.none, ImgD.eq, ImgD.bare, len0, nil0, spreadOk]
            ac_rfl
          · have j1 : (p.kind == 1) = false := by simpa using k1
            have j2 : (p.kind == 2) = false := by simpa using k2
            have j3 : (p.kind == 3) = false := by simpa using k3
            have j4 : (p.kind == 4) = false := by simpa using k4
            rw [j1, j2, j3, j4]
            simp
end Go.Proofs.YtcohmdeoocgmdaaGreatDoor
