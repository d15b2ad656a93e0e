/- Walks of package natural: GCD. -/
import Derived.Test.YtnenbmbgmmeiaaaDoorNatWalk8
namespace Go.Proofs.YtnenbmbgmmeiaaaDoor
open Go.RowKit
variable {α : Type}

theorem rowOf_unique {f : α → Value} (hf : ∀ x y, f x = f y → x = y) {w : World} {v : Value} {l l' : List α} (h : IsRowOf f w v l) (h' : IsRowOf f w v l') : l = l' := by
  obtain ⟨a, cap, rfl, _, h⟩ := h
  obtain ⟨a', cap', hv, _, h'⟩ := h'
  simp only [Value.slice.injEq] at hv
  obtain ⟨rfl, hl, rfl⟩ := hv
  apply List.ext_getElem hl
  intro i h1 h2
  rcases h with ⟨rfl, _⟩ | ⟨b, o, rfl, _, _, hc⟩
  · simp at h1
  rcases h' with ⟨rfl, _⟩ | ⟨b', o', ha, _, _, hc'⟩
  · simp at h2
  simp only [Option.some.injEq, Addr.mk.injEq, and_true] at ha
  obtain ⟨rfl, rfl⟩ := ha
  have e := (hc i h1).symm.trans (hc' i h2)
  exact hf _ _ (Option.some.inj e)
theorem u32v_inj (x y : UInt32) (h : u32v x = u32v y) : x = y := by
  simp only [u32v, Value.int.injEq, true_and] at h
  exact UInt32.toNat_inj.1 (by omega)
open Classical in
/-- The number that a row of digits stands for (a loop's measure). -/
noncomputable def valOf (w : World) (v : Value) : Nat := if h : ∃ l, IsU32s w v l then Na.val h.choose else 0
theorem valOf_eq {w : World} {v : Value} {l : List UInt32} (h : IsU32s w v l) : valOf w v = Na.val l := by
  have h1 : ∃ l, IsU32s w v l := ⟨l, h⟩
  unfold valOf
  rw [dif_pos h1, rowOf_unique u32v_inj h1.choose_spec h]
theorem digs_len_le {a b : Nat} (h : a ≤ b) : (Na.digs a).length ≤ (Na.digs b).length :=
  Na.length_le (Na.digs_norm a) (by have := Na.val_lt (Na.digs b); rw [Na.val_digs] at this ⊢; omega)

set_option maxRecDepth 100000 in
set_option maxHeartbeats 800000 in
theorem gcd_any (v u : Value) (l m : List UInt32) (w : World) (hv : IsU32s w v l) (hu : IsU32s w u m) (hlen : l.length ≤ 100000000) (hlen2 : m.length ≤ 100000000) :
    Calls Tryd.prog 108 #[v, u] w fun e w' => ∃ g, e = .returned g ∧ IsU32s w' g (Na.digs (Nat.gcd (Na.val l) (Na.val m))) ∧ Ext w w' := by
  have C1 := Lib.hid (normalize_any v l w hv (by omega))
  have hla := digs_len l
  have hlb := digs_len m
  go_enter Tryd.func108, Tryd.ntmps108
  go_wp2_with fail
  refine C1.out.mono ?_
  rintro e w1 ⟨x, rfl, hx, hb1⟩
  have hx := ownsRow_row hx
  go_wp2_with fail
  refine (normalize_any u m w1 (hu.below hb1) (by omega)).mono ?_
  rintro e w2 ⟨y, rfl, hy, hb2⟩
  have hy := ownsRow_row hy
  have hx2 := hx.below hb2
  have hb02 := Ext.trans' hb1 hb2
  clear hx C1 hv hu
  have HX := Lib.hid hx2
  have HY := Lib.hid hy
  clear hx2 hy
  go_wp2_with fail
  go_loopw [0, 1] (fun x y wr => ∃ (A B : Nat), IsU32s wr x (Na.digs A) ∧ IsU32s wr y (Na.digs B) ∧ Nat.gcd A B = Nat.gcd (Na.val l) (Na.val m) ∧ (Na.digs A).length ≤ 100000000 ∧ (Na.digs B).length ≤ 100000000 ∧ Ext w wr) (fun _ y wr => valOf wr y)
  case atStart => exact ⟨(Na.val l), (Na.val m), HX.out, HY.out, rfl, by omega, by omega, hb02⟩
  case round =>
    obtain ⟨A, B, hx, hy, hg, hlA, hlB, hbel⟩ := hrel
    have HM := Lib.hid (valOf_eq hy)
    have HG := Lib.hid hg
    have HX := Lib.hid hx
    have HY := Lib.hid hy
    clear hg hx hy
    obtain ⟨ay, cy, rfl⟩ := HY.out.shape
    rcases Nat.eq_zero_or_pos B with rfl | hB
    · have h0 : ((Na.digs 0).length : Int) = 0 := by rw [Na.digs_eq_nil.2 rfl]; rfl
      go_wp2_with fail
      go_ret
      refine ⟨_, rfl, ?_, hbel⟩
      rw [← HG.out, Nat.gcd_zero_right]
      exact HX.out
    · have h0 : (0 : Int) < ((Na.digs B).length : Int) := by
        have : (Na.digs B).length ≠ 0 := fun h => by have := digs_len0 h; omega
        omega
      have hD := divMod_any _ _ _ _ wr HX.out HY.out (by rw [Na.val_digs]; exact hB) hlA hlB
      rw [Na.val_digs, Na.val_digs] at hD
      have HD := Lib.hid hD
      clear hD
      go_wp2_with fail
      refine HD.out.mono ?_
      rintro e w' ⟨q, r, rfl, hq, hr, hb⟩
      have HR := Lib.hid hr
      have HY' := Lib.hid (HY.out.below hb)
      clear hq hr
      go_wp2_with fail
      go_roundw
      case rel => 
        refine ⟨B, A % B, HY'.out, HR.out, ?_, hlB, ?_, Ext.trans' hbel hb⟩
        · rw [← HG.out, Nat.gcd_comm A B, Nat.gcd_rec B A, Nat.gcd_comm]
        · exact Nat.le_trans (digs_len_le (Nat.le_of_lt (Nat.mod_lt A hB))) hlB
      case measure =>
        rw [valOf_eq HR.out, HM.out, Na.val_digs, Na.val_digs]
        exact Nat.mod_lt _ hB
end Go.Proofs.YtnenbmbgmmeiaaaDoor
