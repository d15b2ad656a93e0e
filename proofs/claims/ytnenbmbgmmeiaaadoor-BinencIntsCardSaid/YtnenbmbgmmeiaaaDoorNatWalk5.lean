/- Walks of package natural: take (subtracting a multiple in place). -/
import Derived.Test.YtnenbmbgmmeiaaaDoorNatWalk4
namespace Go.Proofs.YtnenbmbgmmeiaaaDoor
open Go.RowKit
variable {α : Type}

def seg (l : List UInt32) (k i : Nat) : List UInt32 := (l.drop k).take i
theorem seg_set (l : List UInt32) (k i : Nat) (x : UInt32) (h : k + i < l.length) : seg (l.set (k + i) x) k (i + 1) = seg l k i ++ [x] := by
  unfold seg
  apply List.ext_getElem
  · simp; omega
  · intro j h1 h2
    simp only [List.getElem_take, List.getElem_drop, List.getElem_set]
    rcases Nat.lt_or_ge j i with hj | hj
    · rw [if_neg (by omega), List.getElem_append_left (by simp; omega)]; simp
    · have : j = i := by simp at h1; omega
      subst this
      rw [if_pos rfl, List.getElem_append_right (by simp; omega)]; simp
theorem seg_length (l : List UInt32) (k i : Nat) (h : k + i ≤ l.length) : (seg l k i).length = i := by unfold seg; simp; omega
theorem val_seg_succ (l : List UInt32) (k i : Nat) (h : k + i < l.length) : Na.val (seg l k (i + 1)) = Na.val (seg l k i) + Na.B ^ i * l[k + i].toNat := by
  unfold seg
  rw [Na.val_take_succ _ _ (by simp; omega)]; simp
theorem val_seg_set (l : List UInt32) (k i : Nat) (x : UInt32) (h : k + i < l.length) : Na.val (seg (l.set (k + i) x) k (i + 1)) = Na.val (seg l k i) + Na.B ^ i * x.toNat := by
  rw [seg_set l k i x h, Na.val_snoc, seg_length _ _ _ (by omega)]
/-- What a row has become between k and k + i: elsewhere it is as it was. -/
def Turned (us ws : List UInt32) (k i : Nat) : Prop := ws.length = us.length ∧ ws.take k = us.take k ∧ ws.drop (k + i) = us.drop (k + i)
theorem Turned.refl (us : List UInt32) (k i : Nat) : Turned us us k i := ⟨rfl, rfl, rfl⟩
theorem Turned.set {us ws : List UInt32} {k i : Nat} (h : Turned us ws k i) (x : UInt32) : Turned us (ws.set (k + i) x) k (i + 1) := by
  obtain ⟨h1, h2, h3⟩ := h
  refine ⟨by simp [h1], ?_, ?_⟩
  · rw [List.take_set_of_le (by omega), h2]
  · rw [List.drop_set_of_lt (by omega)]
    have : ws.drop (k + i + 1) = us.drop (k + i + 1) := by rw [← List.drop_drop, h3, List.drop_drop]
    exact this
theorem Turned.get {us ws : List UInt32} {k i : Nat} (h : Turned us ws k i) (hl : k + i < us.length) : ws[k + i]'(by rw [h.1]; exact hl) = us[k + i] := by
  have h1 := congrArg (fun l => l[0]?) h.2.2
  have h2 := h.1
  simp only [List.getElem?_drop, Nat.add_zero] at h1
  rw [List.getElem?_eq_getElem (by omega), List.getElem?_eq_getElem hl] at h1
  exact Option.some.inj h1
theorem take_arith {A W Y Q c bo U s lo x bo' : Nat} (E : Nat) (h : A + E * (c + bo) = W + Q * Y) (y : Nat) (hs : s = c + Q * y) (hlo : lo = s % Na.B) (hu : U + Na.B * bo' = x + lo + bo) :
    A + E * U + E * Na.B * (s / Na.B + bo') = W + E * x + Q * (Y + E * y) := by
  have h1 := Nat.mod_add_div s Na.B
  rw [← hlo] at h1
  have e1 : Q * (Y + E * y) = Q * Y + E * (Q * y) := by rw [Nat.mul_add, Nat.mul_left_comm]
  have e2 : E * Na.B * (s / Na.B + bo') = E * (Na.B * (s / Na.B)) + E * (Na.B * bo') := by rw [Nat.mul_add, Nat.mul_assoc, Nat.mul_assoc]
  have e3 : E * U + E * (Na.B * bo') = E * x + E * lo + E * bo := by rw [← Nat.mul_add, hu, Nat.mul_add, Nat.mul_add]
  have e4 : E * lo + E * (Na.B * (s / Na.B)) = E * c + E * (Q * y) := by rw [← Nat.mul_add, h1, hs, Nat.mul_add]
  rw [Nat.mul_add] at h
  rw [e1, e2]
  omega
theorem sub_wrap (U lo bo : Nat) (hU : U < 4294967296) (hlo : lo < 4294967296) (hbo : bo ≤ 1) : ∃ Z x bo' : Nat, IntKind.u64.wrap (IntKind.u64.wrap ((U : Int) - (lo : Int)) - (bo : Int)) = (Z : Int) ∧
    (Z : Int) % 4294967296 = (x : Int) ∧ (Z : Int) / 9223372036854775808 = (bo' : Int) ∧ bo' ≤ 1 ∧ x < 4294967296 ∧ U + Na.B * bo' = x + lo + bo := by
  rw [IntKind.wrap_u64, IntKind.wrap_u64]
  unfold Na.B
  by_cases h : lo + bo ≤ U
  · exact ⟨U - lo - bo, U - lo - bo, 0, by omega, by omega, by omega, by omega, by omega, by omega⟩
  · exact ⟨U + 18446744073709551616 - lo - bo, U + 4294967296 - lo - bo, 1, by omega, by omega, by omega, by omega, by omega, by omega⟩
theorem and_mask (s : Nat) (hs : s < 18446744073709551616) : bits .and .u64 (s : Int) 4294967295 = ((s % Na.B : Nat) : Int) := by
  have := u64_and_nat s 4294967295 hs (by omega)
  rw [show ((4294967295 : Nat) : Int) = 4294967295 from rfl] at this
  rw [this, nat_mask32]; rfl

theorem grown_refl (w : World) (row : Option Nat) : w.grownBy w row := ⟨rfl, rfl, rfl, Nat.le_refl _, fun _ _ _ => rfl⟩
theorem grown_trans {a b c : World} {row : Option Nat} (h1 : a.grownBy b row) (h2 : b.grownBy c row) : a.grownBy c row :=
  ⟨h2.os.trans h1.os, h2.tape.trans h1.tape, h2.output.trans h1.output, Nat.le_trans h1.size h2.size, fun k hk hne => (h2.block k (Nat.lt_of_lt_of_le hk h1.size) hne).trans (h1.block k hk hne)⟩
theorem grown_ext {a b : World} (row : Option Nat) (h : Ext a b) : a.grownBy b row := ⟨h.os, h.tape, h.output, h.size, fun k hk _ => h.block k hk⟩

set_option maxRecDepth 100000 in
set_option maxHeartbeats 1600000 in
theorem take_any (g k n N cp cap : Nat) (us ys : List UInt32) (bv ov cv Q : Nat) (w0 w : World) (hn : ys.length = n) (hN : us.length = N) (hk : k + n + 1 ≤ N) (hN2 : N ≤ 1000000000) (hQ : Q < 4294967296)
    (hv : ∀ i (h : i < ys.length), w0.cell? ⟨bv, ov + i, none⟩ = some (u32v ys[i])) (hbv : bv < w0.heap.size)
    (hown : w.ownsRow w0.heap.size 75 1 (.slice (some ⟨g, 0, none⟩) N cap) N (us.map u32v)) (hbel : Below w0.heap.size w0 w) :
    Calls Tryd.prog 124 #[.slice (some ⟨g, k, none⟩) (n + 1) cp, .slice (some ⟨bv, ov, none⟩) n cv, .int .u64 Q] w fun e w' => ∃ (neg : Bool) (ws : List UInt32), e = .returned (.bool neg) ∧
      Turned us ws k (n + 1) ∧ Na.val (seg us k (n + 1)) + (if neg then Na.B ^ (n + 1) else 0) = Na.val (seg ws k (n + 1)) + Q * Na.val ys ∧
      w'.ownsRow w0.heap.size 75 1 (.slice (some ⟨g, 0, none⟩) N cap) N (ws.map u32v) ∧ Below w0.heap.size w0 w' ∧ w.grownBy w' (some g) := by
  have hgb : w0.heap.size ≤ g := (hown.lt g rfl).1
  have HV := Lib.hid hv
  have HN := Lib.hid hn
  have HNN := Lib.hid hN
  have HO := Lib.hid hown
  clear hv hn hN hown
  go_enter Tryd.func124, Tryd.ntmps124
  go_wp2_with fail
  go_loopw [7, 8, 15] (fun cv bv iv wr => ∃ (i c bo : Nat) (ws : List UInt32), i ≤ n ∧ iv = .int .i64 i ∧ cv = .int .u64 c ∧ bv = .int .u64 bo ∧ c < 4294967296 ∧ bo ≤ 1 ∧ Turned us ws k i ∧
      Na.val (seg us k i) + Na.B ^ i * (c + bo) = Na.val (seg ws k i) + Q * Na.val (ys.take i) ∧
      wr.ownsRow w0.heap.size 75 1 (.slice (some ⟨g, 0, none⟩) N cap) N (ws.map u32v) ∧ Below w0.heap.size w0 wr ∧ w.grownBy wr (some g)) (fun _ _ iv _ => n - (intOf iv).toNat)
  case atStart => exact ⟨0, 0, 0, us, by omega, rfl, rfl, rfl, by omega, by omega, Turned.refl _ _ _, by simp [seg, Na.val], HO.out, hbel, grown_refl _ _⟩
  case round =>
    obtain ⟨i, c, bo, ws, hi, rfl, rfl, rfl, hc, hbo, htu, hval, hown, hbel, hgr⟩ := hrel
    have HVAL := Lib.hid hval
    have HTU := Lib.hid htu
    have HW := Lib.hid hown
    clear hval htu hown HO
    have hwl := HTU.out.1
    by_cases hlt : i < n
    · have hyl : i < ys.length := by rw [HN.out]; exact hlt
      have hy : wr.cell? ⟨bv, ov + i, none⟩ = some (u32v ys[i]) := by rw [hbel.cell (p := ⟨bv, ov + i, none⟩) hbv]; exact HV.out i hyl
      have hul : k + i < us.length := by rw [HNN.out]; omega
      have hu : wr.cell? ⟨g, k + i, none⟩ = some (u32v us[k + i]) := by
        rw [HW.out.cellAt (k + i) (by omega), List.getElem?_map, List.getElem?_eq_getElem (by omega), Option.map_some, HTU.out.get hul]
      have hfz := HW.out.frozenAt (k + i)
      have HY := Lib.hid (Na.val_take_succ ys i hyl)
      have HU := Lib.hid (val_seg_succ us k i hul)
      generalize ys[i] = y at hy HY
      generalize us[k + i] = U at hu HU
      have g1 := y.toNat_lt
      have g2 := U.toNat_lt
      have y0 := wrap32_64 y
      have u0 := wrap32_64 U
      obtain ⟨qy, hqy⟩ : ∃ qy, qy = Q * y.toNat := ⟨_, rfl⟩
      have hmul := mul_wrap' hqy hQ g1
      have hqb : qy ≤ 18446744065119617025 := by rw [hqy]; exact Nat.mul_le_mul (show Q ≤ 4294967295 by omega) (show y.toNat ≤ 4294967295 by omega)
      obtain ⟨s, hs⟩ : ∃ s, s = c + qy := ⟨_, rfl⟩
      have hsum : IntKind.u64.wrap ((c : Int) + (qy : Int)) = (s : Int) := by rw [hs, ← wrapNat64 (c + qy) (by omega)]; simp
      have hsb : s < 18446744073709551616 := by omega
      obtain ⟨lo, hlo⟩ : ∃ lo, lo = s % Na.B := ⟨_, rfl⟩
      have hand : bits .and .u64 (s : Int) 4294967295 = (lo : Int) := by rw [hlo]; exact and_mask s hsb
      have hlob : lo < 4294967296 := by rw [hlo]; exact Nat.mod_lt _ (by decide)
      obtain ⟨Z, x, bo', hZ, hx, hb', hbo', hxb, hu'⟩ := sub_wrap U.toNat lo bo g2 hlob hbo
      obtain ⟨c', hc'⟩ : ∃ c', c' = s / Na.B := ⟨_, rfl⟩
      have hcar : (s : Int) / 4294967296 = (c' : Int) := by rw [hc']; simp [Na.B]
      have hcb : c' < 4294967296 := by rw [hc']; exact Nat.div_lt_of_lt_mul hsb
      rw [hqy] at hs
      have HS := Lib.hid hs
      have HLO := Lib.hid hlo
      have HC := Lib.hid hc'
      have HUU := Lib.hid hu'
      clear hqy hs hlo hc' hu' hqb hsb
      go_wp2_with fail
      go_roundw
      case rel =>
        have hst := (HW.out.stored (k + i) (u32v (UInt32.ofNat x))).1
        rw [← List.map_set] at hst
        have hg2 := (HW.out.stored (k + i) (Value.int .u32 (x : Int))).2
        refine ⟨i + 1, c', bo', ws.set (k + i) (UInt32.ofNat x), by omega, by go_num, rfl, rfl, hcb, hbo', HTU.out.set _, ?_, ?_, ?_, grown_trans hgr hg2⟩
        · rw [HU.out, HY.out, val_seg_set _ _ _ _ (by omega), ofNat_small hxb, HC.out, Nat.pow_succ]
          exact take_arith (Na.B ^ i) HVAL.out y.toNat HS.out HLO.out HUU.out
        · simpa [u32v, ofNat_small hxb] using hst
        · exact hbel.setCell (p := ⟨g, k + i, none⟩) hgb _
      case measure => simp [intOf]; omega
    · obtain rfl : i = n := by omega
      have hul : k + i < us.length := by rw [HNN.out]; omega
      have hu : wr.cell? ⟨g, k + i, none⟩ = some (u32v us[k + i]) := by
        rw [HW.out.cellAt (k + i) (by omega), List.getElem?_map, List.getElem?_eq_getElem (by omega), Option.map_some, HTU.out.get hul]
      have hfz := HW.out.frozenAt (k + i)
      have HU := Lib.hid (val_seg_succ us k i hul)
      generalize us[k + i] = U at hu HU
      have g2 := U.toNat_lt
      have u0 := wrap32_64 U
      obtain ⟨Z, x, bo', hZ, hx, hb', hbo', hxb, hu'⟩ := sub_wrap U.toNat c bo g2 hc hbo
      have HUU := Lib.hid hu'
      clear hu'
      go_wp2_with fail
      go_ret
      have hst := (HW.out.stored (k + i) (u32v (UInt32.ofNat x))).1
      rw [← List.map_set] at hst
      refine ⟨((bo' : Int) != 0), ws.set (k + i) (UInt32.ofNat x), rfl, HTU.out.set _, ?_, by simpa [u32v, ofNat_small hxb] using hst, hbel.setCell (p := ⟨g, k + i, none⟩) hgb _, grown_trans hgr (HW.out.stored (k + i) (Value.int .u32 (x : Int))).2⟩
      have hv := HVAL.out
      rw [← HN.out, List.take_length, HN.out] at hv
      rw [HU.out, val_seg_set _ _ _ _ (by omega), ofNat_small hxb, Nat.pow_succ]
      have h3 := HUU.out
      have e : (if ((bo' : Int) != 0) = true then Na.B ^ i * Na.B else 0) = Na.B ^ i * (Na.B * bo') := by
        rcases (show bo' = 0 ∨ bo' = 1 by omega) with rfl | rfl <;> simp
      rw [e]
      have e3 : Na.B ^ i * U.toNat + Na.B ^ i * (Na.B * bo') = Na.B ^ i * x + Na.B ^ i * (c + bo) := by rw [← Nat.mul_add, h3, ← Nat.mul_add]; congr 1; omega
      omega
end Go.Proofs.YtnenbmbgmmeiaaaDoor
