/- Walks of binenc: the reader's next. -/
import Derived.Test.YtnenbmbgmmeiaaaDoorEncWalk4
import Derived.Deep.RegionHeld3
namespace Go.Proofs.YtnenbmbgmmeiaaaDoor
open Go.RowKit En
variable {α : Type}

theorem blk_of {bb o n c n' c' : Nat} {ad : Addr} (h : Value.slice (some ⟨bb, o, none⟩) n c = .slice (some ad) n' c') : bb = ad.block := by
  simp only [Value.slice.injEq, Option.some.injEq] at h; rw [← h.1]
theorem row_mid {f : α → Value} {w : World} {bb o cap p k : Nat} {l : List α} (hm : cap ≤ maxLen) (hp : p + k ≤ l.length) (hlc : l.length ≤ cap) (hb : bb < w.heap.size)
    (hc : ∀ i (h : i < l.length), w.cell? ⟨bb, o + i, none⟩ = some (f l[i])) : IsRowOf f w (.slice (if cap = p then some ⟨bb, o, none⟩ else some ⟨bb, o + p, none⟩) k (cap - p)) ((l.drop p).take k) := by
  have e : ((l.drop p).take k).length = k := by simp; omega
  rcases Nat.eq_zero_or_pos k with rfl | hk
  · refine ⟨_, cap - p, by rw [e], by omega, .inl ⟨by simp, fun h => ?_⟩⟩
    split at h <;> simp at h
  · rw [if_neg (by omega)]
    refine ⟨_, cap - p, by rw [e], by omega, .inr ⟨bb, o + p, rfl, hb, by rw [e]; omega, fun i hi => ?_⟩⟩
    rw [e] at hi
    rw [Nat.add_assoc, hc (p + i) (by omega)]; simp

set_option maxRecDepth 100000 in
set_option maxHeartbeats 800000 in
theorem next_some (l : List UInt8) (b p k bb o cap : Nat) (w : World) (hm : cap ≤ maxLen) (hlc : l.length ≤ cap) (hbb : bb < w.heap.size) (hne : bb ≠ b)
    (hcs : ∀ i (h : i < l.length), w.cell? ⟨bb, o + i, none⟩ = some (u8v l[i])) (h0 : w.cell? ⟨b, 0, none⟩ = some (.slice (some ⟨bb, o, none⟩) l.length cap)) (h1 : w.cell? ⟨b, 1, none⟩ = some (.int .i64 p))
    (hfz : w.frozen? ⟨b, 1, none⟩ = false) (hp : p + k ≤ l.length) :
    Calls Tryd.prog 52 #[.pointer (some ⟨b, 0, none⟩), .int .i64 k] w fun e w' => ∃ v' n, e = .returned v' ∧ w' = (w.setCell ⟨b, 1, none⟩ (.int .i64 ((p : Int) + (k : Int)))).drewN n ∧
      IsBytes w' v' ((l.drop p).take k) ∧ ∀ ad n cap', v' = .slice (some ad) n cap' → bb = ad.block := by
  have HC := Lib.hid hcs
  clear hcs
  have hc : p + k ≤ cap := by omega
  have hi0 : (0 : Int) ≤ (p : Int) := by omega
  have hi1 : (p : Int) ≤ (p : Int) + (k : Int) := by omega
  have hi2 : (p : Int) + (k : Int) ≤ (cap : Int) := by omega
  have hi4 : IntKind.i64.wrap ((p : Int) + (k : Int)) = (p : Int) + (k : Int) := by rw [IntKind.wrap_i64]; have : maxLen = 9223372036854775807 := rfl; omega
  have hi5 : ((p : Int) + (k : Int)).toNat = p + k := by omega
  have hc2 : p ≤ p + k := by omega
  have hc3 : p + k - p = k := by omega
  have hc4 : p ≤ cap := by omega
  have hrow : IsBytes ((w.setCell ⟨b, 1, none⟩ (.int .i64 ((p : Int) + (k : Int)))).drewN 1) (.slice (if cap = p then some ⟨bb, o, none⟩ else some ⟨bb, o + p, none⟩) k (cap - p)) ((l.drop p).take k) :=
    row_mid hm hp hlc (by simpa using hbb) (fun i h => by rw [World.cell?_drewN, World.cell?_setCell_other _ _ _ _ (by simp only [ne_eq, Addr.mk.injEq]; omega)]; exact HC.out i h)
  by_cases hcp : cap = p
  · rw [if_pos hcp] at hrow
    have HR := Lib.hid hrow
    clear hrow
    subst hcp
    have HR := Lib.hid (by have h := HR.out; rw [Nat.sub_self] at h; exact h)
    go_enter Tryd.func52, Tryd.ntmps52
    go_wp2_with fail
    go_region_held3 (fun w' => w'.cell? ⟨b, 0, none⟩ = some (.slice (some ⟨bb, o, none⟩) l.length cap) ∧ w'.cell? ⟨b, 1, none⟩ = some (.int .i64 cap)) (go_keep) (fail)
    go_wp2_with fail
    go_ret
    exact ⟨_, 1, rfl, rfl, HR.out, fun _ _ _ e => blk_of e⟩
  · rw [if_neg hcp] at hrow
    have HR := Lib.hid hrow
    clear hrow
    go_enter Tryd.func52, Tryd.ntmps52
    go_wp2_with fail
    go_region_held3 (fun w' => w'.cell? ⟨b, 0, none⟩ = some (.slice (some ⟨bb, o, none⟩) l.length cap) ∧ w'.cell? ⟨b, 1, none⟩ = some (.int .i64 p)) (go_keep) (fail)
    go_wp2_with fail
    go_ret
    exact ⟨_, 1, rfl, rfl, HR.out, fun _ _ _ e => blk_of e⟩
end Go.Proofs.YtnenbmbgmmeiaaaDoor
