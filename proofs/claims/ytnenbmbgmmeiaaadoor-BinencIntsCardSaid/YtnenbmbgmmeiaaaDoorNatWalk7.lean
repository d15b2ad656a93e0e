/- Walks of package natural: DivMod, the long way. -/
import Derived.Test.YtnenbmbgmmeiaaaDoorNatWalk6
import Derived.Test.YtnenbmbgmmeiaaaDoorNatLaw3
namespace Go.Proofs.YtnenbmbgmmeiaaaDoor
open Go.RowKit
variable {α : Type}

theorem Turned.trans {us ws ts : List UInt32} {k i : Nat} (h1 : Turned us ws k i) (h2 : Turned ws ts k i) : Turned us ts k i :=
  ⟨h2.1.trans h1.1, h2.2.1.trans h1.2.1, h2.2.2.trans h1.2.2⟩
theorem div_end {a b U V P q r : Nat} (hU : U = a * P) (hV : V = b * P) (h : U = r + V * q) (hr : r < V) (hP : 0 < P) : q = a / b ∧ r / P = a % b := by
  subst hU hV
  have h1 : b * q * P ≤ a * P := by rw [Nat.mul_right_comm]; omega
  have h2 := Nat.le_of_mul_le_mul_right h1 hP
  obtain ⟨s, rfl⟩ : ∃ s, a = s + b * q := ⟨a - b * q, by omega⟩
  have h3 : r = s * P := by rw [Nat.add_mul, Nat.mul_right_comm b q P] at h; omega
  subst h3
  have h4 : s < b := Nat.lt_of_mul_lt_mul_right hr
  rw [Nat.mul_div_cancel _ hP, Nat.add_mul_div_left _ _ (by omega), Nat.add_mul_mod_self_left, Nat.div_eq_of_lt h4, Nat.mod_eq_of_lt h4]
  exact ⟨by omega, rfl⟩
theorem shiftDown_any (v : Value) (l : List UInt32) (p : Nat) (w : World) (hv : IsU32s w v l) (hp2 : p ≤ 31) (hlen : l.length ≤ 1000000000) :
    Calls Tryd.prog 122 #[v, .int .i64 (-(p : Int))] w fun e w' => ∃ v', e = .returned v' ∧ IsU32s w' v' (Na.digs (Na.val l / 2 ^ p)) ∧ Ext w w' := by
  rcases Nat.eq_zero_or_pos p with rfl | hp
  · have h := shiftL_any v l 0 w hv (by omega) hlen
    refine h.mono ?_
    rintro e w' ⟨a, rfl, hr, hb⟩
    simp only [Nat.pow_zero, Nat.mul_one, Nat.div_one] at hr ⊢
    exact ⟨_, rfl, hr, hb⟩
  · refine (shiftR_any v l p w hv hp hp2 hlen).mono ?_
    rintro e w' ⟨a, rfl, hr, hb⟩
    exact ⟨_, rfl, hr, hb⟩
/-- The divisor, shifted so that its top bit is set. -/
theorem top_shift (b : List UInt32) (m : Nat) (hm : b.length = m + 1) (hn : Na.norm b) : ∃ p : Nat, (32 : Int) - (Lib.bitLen (b[m]'(by omega)).toNat : Int) = (p : Int) ∧ p ≤ 31 ∧
    (Na.digs (Na.val b * 2 ^ p)).length = m + 1 ∧ ∀ (h : m < (Na.digs (Na.val b * 2 ^ p)).length), 2147483648 ≤ ((Na.digs (Na.val b * 2 ^ p))[m]).toNat := by
  have hx0 : b[m]'(by omega) ≠ 0 := by
    have := Na.last_ne hn (by omega)
    simpa [hm] using this
  have hv := Na.val_take_succ b m (by omega)
  rw [← hm, List.take_length] at hv
  have ht := Na.val_lt (b.take m)
  have e2 : (b.take m).length = m := by simp; omega
  rw [e2] at ht
  generalize b[m]'(by omega) = x at *
  have hb : 1 ≤ Lib.bitLen x.toNat ∧ 2 ^ (Lib.bitLen x.toNat - 1) ≤ x.toNat ∧ x.toNat < 2 ^ Lib.bitLen x.toNat :=
    Lib.bitLenAux_bounds 64 _ (by have := x.toNat_lt; omega) (fun e => hx0 (UInt32.toNat_inj.1 (by simpa using e)))
  have hbl := Lib.bitLen_le x.toNat 32 (by omega) x.toNat_lt
  generalize Lib.bitLen x.toNat = c at *
  refine ⟨32 - c, by omega, by omega, ?_⟩
  have hp1 : 2147483648 ≤ x.toNat * 2 ^ (32 - c) := by
    have h1 : 2 ^ (c - 1) * 2 ^ (32 - c) = 2147483648 := by rw [← Nat.pow_add, show c - 1 + (32 - c) = 31 by omega]
    rw [← h1]; exact Nat.mul_le_mul_right _ hb.2.1
  have hp2 : (x.toNat + 1) * 2 ^ (32 - c) ≤ Na.B := by
    have h1 : 2 ^ c * 2 ^ (32 - c) = Na.B := by rw [← Nat.pow_add, show c + (32 - c) = 32 by omega]; rfl
    rw [← h1]; exact Nat.mul_le_mul_right _ hb.2.2
  have hpp : 0 < 2 ^ (32 - c) := Nat.two_pow_pos _
  generalize 2 ^ (32 - c) = P at *
  have hlo : Na.B ^ m * 2147483648 ≤ Na.val b * P := by
    rw [hv, Nat.add_mul, Nat.mul_assoc]
    have := Nat.mul_le_mul_left (Na.B ^ m) hp1
    omega
  have hhi : Na.val b * P < Na.B ^ (m + 1) := by
    have h1 : Na.val b < Na.B ^ m * (x.toNat + 1) := by rw [hv, Nat.mul_succ]; omega
    have h2 : Na.val b * P < Na.B ^ m * (x.toNat + 1) * P := Nat.mul_lt_mul_of_pos_right h1 hpp
    have h3 := Nat.mul_le_mul_left (Na.B ^ m) hp2
    rw [Nat.pow_succ]
    rw [Nat.mul_assoc] at h2
    omega
  have hd := Na.val_digs (Na.val b * P)
  have hnd := Na.digs_norm (Na.val b * P)
  generalize Na.val b * P = V at *
  generalize Na.digs V = l at *
  have hB0 : 0 < Na.B ^ m := Nat.pow_pos Na.B_pos
  have hll : l.length = m + 1 := by
    have h1 := Na.length_le hnd (by rw [hd]; exact hhi)
    rcases Nat.lt_or_ge l.length (m + 1) with h | h
    · have h2 := Na.val_lt l
      have h3 : Na.B ^ l.length ≤ Na.B ^ m := Nat.pow_le_pow_right Na.B_pos (by omega)
      have h4 : Na.B ^ m * 1 ≤ Na.B ^ m * 2147483648 := Nat.mul_le_mul_left _ (by omega)
      rw [hd] at h2
      omega
    · omega
  refine ⟨hll, fun h => ?_⟩
  have h1 := Na.val_take_succ l m h
  rw [← hll, List.take_length, hd] at h1
  have h2 := Na.val_lt (l.take m)
  have h3 : (l.take m).length = m := by simp; omega
  rw [h3] at h2
  rcases Nat.lt_or_ge (l[m]).toNat 2147483648 with h4 | h4
  · have h5 : Na.B ^ m * ((l[m]).toNat + 1) ≤ Na.B ^ m * 2147483648 := Nat.mul_le_mul_left _ h4
    rw [Nat.mul_succ] at h5
    omega
  · exact h4

theorem cmp_len_ge {a b : List UInt32} (hb : Na.norm b) (h : Na.val b ≤ Na.val a) : b.length ≤ a.length := Na.length_le hb (Nat.lt_of_le_of_lt h (Na.val_lt a))
theorem shift_len (a : List UInt32) (p : Nat) (hp : p ≤ 31) (hn : Na.norm a) : a.length ≤ (Na.digs (Na.val a * 2 ^ p)).length ∧ (Na.digs (Na.val a * 2 ^ p)).length ≤ a.length + 1 := by
  have hv := Na.val_lt a
  have hP : 0 < 2 ^ p := Nat.two_pow_pos p
  have hP2 : 2 ^ p ≤ Na.B := Nat.le_trans (Nat.pow_le_pow_right (by omega) (show p ≤ 32 by omega)) (Nat.le_refl _)
  constructor
  · rcases Nat.lt_or_ge (Na.digs (Na.val a * 2 ^ p)).length a.length with h | h
    · exfalso
      have h1 := Na.val_lt (Na.digs (Na.val a * 2 ^ p))
      rw [Na.val_digs] at h1
      have h2 := Na.le_val hn (by omega)
      have h3 : Na.B ^ (Na.digs (Na.val a * 2 ^ p)).length ≤ Na.B ^ (a.length - 1) := Nat.pow_le_pow_right Na.B_pos (by omega)
      have h4 : Na.val a * 1 ≤ Na.val a * 2 ^ p := Nat.mul_le_mul_left _ hP
      omega
    · exact h
  · apply Na.digs_length_le
    rw [Nat.pow_succ]
    exact Nat.lt_of_lt_of_le (Nat.mul_lt_mul_of_pos_right hv hP) (Nat.mul_le_mul_left _ hP2)

set_option maxRecDepth 100000 in
set_option maxHeartbeats 3200000 in
theorem divMod_long (v u : Value) (l m : List UInt32) (n : Nat) (w : World) (hv : IsU32s w v l) (hu : IsU32s w u m) (hn : (Na.digs (Na.val m)).length = n + 2) (hge : Na.val m ≤ Na.val l) (hlen : l.length ≤ 100000000) (hlen2 : m.length ≤ 100000000) :
    Calls Tryd.prog 110 #[v, u] w fun e w' => ∃ q r, e = .returned (.tuple #[q, r, .int .i64 0]) ∧ IsU32s w' q (Na.digs (Na.val l / Na.val m)) ∧ IsU32s w' r (Na.digs (Na.val l % Na.val m)) ∧ Ext w w' := by
  have C1 := Lib.hid (short_any v l w hv)
  have C2 := Lib.hid (short_any u m w hu)
  have hla := digs_len l
  have hlb := digs_len m
  have ea := Na.val_digs (Na.val l)
  have eb := Na.val_digs (Na.val m)
  have na := Na.digs_norm (Na.val l)
  have nb := Na.digs_norm (Na.val m)
  have hcv := cmpI_nonneg hge
  rw [← ea, ← eb] at hcv hge
  rw [← ea, ← eb]
  clear hv hu ea eb
  generalize Na.digs (Na.val l) = a at *
  generalize Na.digs (Na.val m) = b at *
  obtain ⟨p, hp, hp31, hvl, hvt⟩ := top_shift b (n + 1) hn nb
  have hbtop := (b[n + 1]'(by omega)).toNat_lt
  have HGE := Lib.hid hge
  have HNA := Lib.hid na
  have HNB := Lib.hid nb
  have HVL : Hid ((Na.digs (Na.val b * 2 ^ p)).length = n + 2) := hvl
  have HVT := Lib.hid hvt
  have HN := Lib.hid hn
  clear hge na nb hvl hvt
  go_enter Tryd.func110, Tryd.ntmps110
  go_wp2_with fail
  refine C1.out.mono ?_
  rintro e w' ⟨x, rfl, hx, rfl⟩
  go_wp2_with fail
  refine C2.out.mono ?_
  rintro e w' ⟨y, rfl, hy, rfl⟩
  obtain ⟨by1, oy, cy, hys, hby, hly, hmy, hcy⟩ := row_some hy rfl (by omega)
  simp only [Value.slice.injEq] at hys
  obtain ⟨rfl, -, -⟩ := hys
  have hct := hcy (n + 1) (by omega)
  clear hcy
  go_wp2_with fail
  refine (cmp_any _ _ a b _ hx (by rw [← HN.out]; exact hy)).mono ?_
  rintro e w1 ⟨rfl, hb1⟩
  have hct1 : w1.cell? ⟨by1, oy + (n + 1), none⟩ = some (u32v (b[n + 1]'(by omega))) := (hb1.cell (p := ⟨by1, oy + (n + 1), none⟩) hby).trans hct
  clear hct
  generalize cmpI (Na.val a) (Na.val b) = c at hcv ⊢
  generalize b[n + 1]'(by omega) = bt at *
  have hn1 : ((n : Int) + 2 == 1) = false := by rw [beq_eq_false_iff_ne]; omega
  go_wp2_with fail
  refine (Tryd.bits_LeadingZeros32 (bt.toNat : Int) _ (by omega) (by omega)).mono ?_
  rintro e w' ⟨rfl, rfl⟩
  rw [Int.toNat_natCast, hp]
  clear hp
  have hy1 := hy.below hb1
  rw [HN.out] at hy1
  have hx1 := hx.below hb1
  go_wp2_with fail
  refine (shiftL_any _ b p _ hy1 hp31 (by omega)).mono ?_
  rintro e w2 ⟨bv, rfl, hvv, hb2⟩
  rw [HVL.out] at hvv ⊢
  go_wp2_with fail
  refine (shiftL_any _ a p _ (hx1.below hb2) hp31 (by omega)).mono ?_
  rintro e w3 ⟨bu, rfl, huu, hb3⟩
  have hul := shift_len a p hp31 HNA.out
  have hvv3 := hvv.below hb3
  have hb03 : Ext w w3 := Ext.trans' hb1 (Ext.trans' hb2 hb3)
  have hVn : Na.val (Na.digs (Na.val b * 2 ^ p)) = Na.val b * 2 ^ p := Na.val_digs _
  have hUn : Na.val (Na.digs (Na.val a * 2 ^ p)) = Na.val a * 2 ^ p := Na.val_digs _
  generalize Na.digs (Na.val b * 2 ^ p) = vs at *
  generalize Na.digs (Na.val a * 2 ^ p) = us at *
  have HVn := Lib.hid hVn
  have HUn := Lib.hid hUn
  clear hVn hUn hvv hy hy1 hx hx1 hct1 C1 C2
  have r0 := raw_one w3 (.int .u32 0) 75 rfl
  have ru := raw_alloc (huu.raw (fun _ => rfl)) (.cells #[.int .u32 0] 75)
  have h63 : us.length + 1 ≤ maxLen := by unfold maxLen; omega
  have hby : (us.length + 1) * 4 ≤ 140737488355328 := by omega
  have b34 := below_alloc w3 (.cells #[.int .u32 0] 75)
  have hvv4 := hvv3.below b34
  have hb04 := Ext.trans' hb03 b34
  clear huu hvv3 hb1 hb2 hb3 b34
  have hNa : ¬ ((us.length : Int) + 1 ≤ (a.length : Int)) := by omega
  go_wp2_with (at_builtin; refine wpList_append_tight rfl _ _ _ rfl tyU32 ru rfl r0 rfl (by decide) h63 hby ?_; intro uv w5 hown5 hb45; obtain ⟨g, cap, rfl, hgb, hNc, hcm⟩ := own_shape hown5 (Nat.succ_pos _))
  refine wp_loop_rounds 1 ?_
  rw [rounds_succ]
  have HO5 := Lib.hid hown5
  have hvv5 := hvv4.below hb45
  have hb05 := Ext.trans' hb04 hb45
  have hk0 : vs.length ≤ us.length := by
    have h1 := HVL.out
    have h2 := HN.out
    have h3 := cmp_len_ge HNB.out HGE.out
    omega
  clear hown5 ru r0 hb04
  obtain ⟨K, hK⟩ : ∃ K, us.length + 1 = K + (n + 2) := ⟨us.length + 1 - (n + 2), by have h1 := HVL.out; omega⟩
  have hKi : (us.length : Int) + 1 - ((n : Int) + 2) = (K : Int) := by omega
  have HK := Lib.hid hK
  have hK1 : K ≤ us.length := by omega
  have hK63 : K ≤ maxLen := by unfold maxLen; omega
  have hKby : 4 * K ≤ 281474976710656 := by omega
  clear hK
  go_wp2_with (at_make; refine wpList_make_row rfl _ _ _ rfl tyU32 rfl w5.heap.size K rfl rfl rfl hKby hK63 (Nat.le_refl _) ?_; intro w6 hown6 hg6)
  have hb56 := below_made (Below.refl w5.heap.size w5) hg6 (Nat.le_refl _)
  have HO6 := Lib.hid hown6
  have hg5 : g < w5.heap.size := (HO5.out.lt g rfl).2
  have hvv6 := hvv5.below hb56
  clear hown6 hKi hvv5 hNa hvv6
  obtain ⟨bb, ob, cb, hvs, hbb, hlb2, hmb2, hcv4⟩ := row_some hvv4 HVL.out (by omega)
  simp only [Value.slice.injEq] at hvs
  obtain ⟨rfl, -, -⟩ := hvs
  have hbw : w3.heap.size + 1 = (w3.alloc (.cells #[.int .u32 0] 75)).heap.size := by simp
  have hg4 : (w3.alloc (.cells #[.int .u32 0] 75)).heap.size ≤ g := hgb
  have hExt4 : Ext w (w3.alloc (.cells #[.int .u32 0] 75)) := Ext.trans' hb03 (below_alloc _ _)
  have hb46 : Ext (w3.alloc (.cells #[.int .u32 0] 75)) w6 := Ext.trans' hb45 hb56
  have H5 : Hid (w6.ownsRow (w3.alloc (.cells #[.int .u32 0] 75)).heap.size 75 1 (.slice (some ⟨g, 0, none⟩) (us.length + 1) cap) (us.length + 1) ((us ++ [0]).map u32v)) := by
    have := ownsRow_ext HO5.out hb56
    unfold Hid
    simpa [u32v] using this
  clear hvv4 HO5 hb45 hb03 hb05 hbw hgb
  generalize w3.alloc (.cells #[.int .u32 0] 75) = w4 at *
  have HC := Lib.hid hcv4
  have hVpos : Na.B ^ (n + 1) ≤ Na.val vs := by
    have h0 : n + 1 < vs.length := by have := HVL.out; omega
    have h1 := HVT.out h0
    have h2 := Na.val_take_succ vs (n + 1) h0
    rw [List.take_of_length_le (by have := HVL.out; omega)] at h2
    have h3 : Na.B ^ (n + 1) * 1 ≤ Na.B ^ (n + 1) * (vs[n + 1]).toNat := Nat.mul_le_mul_left _ (by omega)
    omega
  have HVP := Lib.hid hVpos
  clear hVpos
  clear hcv4
  go_loopw [13] (fun i wr => ∃ (k : Nat) (ut qd : List UInt32), k ≤ K ∧ i = .int .i64 ((k : Int) - 1) ∧ ut.length = us.length + 1 ∧ k + qd.length = K ∧ Na.val (ut.drop k) < Na.val vs ∧
      Na.val us = Na.val ut + Na.B ^ k * (Na.val vs * Na.val qd) ∧
      wr.ownsRow w4.heap.size 75 1 (.slice (some ⟨g, 0, none⟩) (us.length + 1) cap) (us.length + 1) (ut.map u32v) ∧
      wr.ownsRow w5.heap.size 75 1 (.slice (some ⟨w5.heap.size, 0, none⟩) K K) K ((List.replicate k 0 ++ qd).map u32v) ∧ Below w4.heap.size w4 wr) (fun i _ => (intOf i + 1).toNat)
  case atStart =>
    refine ⟨K, us ++ [0], [], Nat.le_refl _, rfl, by simp, by simp, ?_, by simp [Na.val_append, Na.val], H5.out, by simpa [u32v] using HO6.out, hb46⟩
    have h1 := HK.out
    have h2 : (us ++ [0]).drop K = us.drop K ++ [0] := by rw [List.drop_append_of_le_length (by omega)]
    rw [h2, Na.val_snoc]
    have h3 := Na.val_lt (us.drop K)
    have h4 : (us.drop K).length = n + 1 := by simp; omega
    rw [h4] at h3
    have h5 := HVP.out
    simp; omega
  case round =>
    obtain ⟨k, ut, qd, hk, rfl, hutl, hkq, hlt, hU, hou, hoq, hbel⟩ := hrel
    have HOU := Lib.hid hou
    have HOQ := Lib.hid hoq
    have HUT := Lib.hid hutl
    have HKQ := Lib.hid hkq
    have HU := Lib.hid hU
    clear hou hoq hutl hkq hU
    cases k with
    | zero =>
      have hqR : IsU32s wr (.slice (some ⟨w5.heap.size, 0, none⟩) K K) qd := by
        have h1 := HOQ.out
        have h2 := HKQ.out
        rw [Nat.zero_add] at h2
        rw [← h2] at h1 ⊢
        exact ownsRow_row (l := qd) h1
      have huR : IsU32s wr (.slice (some ⟨g, 0, none⟩) (us.length + 1) cap) ut := by
        have h1 := HOU.out
        have h2 := HUT.out
        rw [← h2] at h1 ⊢
        exact ownsRow_row (l := ut) h1
      have hE := div_end HUn.out HVn.out (by have h1 := HU.out; rw [Nat.pow_zero, Nat.one_mul] at h1; exact h1) (by rw [List.drop_zero] at hlt; exact hlt) (Nat.two_pow_pos p)
      have HE := Lib.hid hE
      have hutlen : ut.length ≤ 1000000000 := by have h1 := HUT.out; omega
      clear hE
      go_wp2_with fail
      refine (short_any _ qd _ hqR).mono ?_
      rintro e w' ⟨q', rfl, hq', rfl⟩
      go_wp2_with fail
      refine (shiftDown_any _ ut p _ huR hp31 hutlen).mono ?_
      rintro e w9 ⟨r', rfl, hr', hb9⟩
      go_wp2_with fail
      go_ret3
      have hq9 := hq'.below hb9
      rw [HE.out.1] at hq9
      rw [HE.out.2] at hr'
      rw [HE.out.1]
      exact ⟨_, _, rfl, hq9, hr', Ext.trans' hExt4 (hbel.trans (hb9.mono hbel.size))⟩
    | succ j =>
      have hi : (((j + 1 : Nat) : Int) - 1) = (j : Int) := by omega
      rw [hi]
      clear hi
      have hjc : j < cap := by omega
      have hKK := HK.out
      have hpc : j + (n + 2) + 1 ≤ cap := by omega
      have hpl : j + (n + 2) + 1 - j = n + 3 := by omega
      have hul2 : j + n + 3 ≤ ut.length := by have := HUT.out; omega
      obtain ⟨hf1, hf2, hf3, hf4, ⟨L, hL1, hL2⟩, ⟨M, hM1, hM2⟩⟩ := step_facts vs ut n j HVL.out hul2 hlt
      have hjN : ∀ i (h : i < ut.length), wr.cell? ⟨g, i, none⟩ = some (u32v ut[i]) := fun i h => by
        rw [HOU.out.cellAt i (by have := HUT.out; omega), List.getElem?_map, List.getElem?_eq_getElem h, Option.map_some]
      have hvv : ∀ i (h : i < vs.length), wr.cell? ⟨bb, ob + i, none⟩ = some (u32v vs[i]) := fun i h => by
        rw [hbel.cell (p := ⟨bb, ob + i, none⟩) hbb]; exact HC.out i h
      have i2 : j + (n + 2) < ut.length := by omega
      have i1 : j + (n + 1) < ut.length := by omega
      have i0 : j + n < ut.length := by omega
      have v1 : n + 1 < vs.length := by have := HVL.out; omega
      have v0 : n < vs.length := by omega
      have hVtop := HVT.out v1
      have hn9 : n ≤ 1000000000 := by omega
      have hg := guess_any g j (cap - j) bb ob (n + 2) n _ _ _ _ _ wr hn9 (ut[j + (n + 2)]'i2).toNat_lt (ut[j + (n + 1)]'i1).toNat_lt (ut[j + n]'i0).toNat_lt
        (vs[n + 1]'v1).toNat_lt (vs[n]'v0).toNat_lt hVtop hf4 (hjN _ i2) (hjN _ i1) (hjN _ i0) (hvv _ v1) (hvv _ v0)
      have hVpos : 0 < (vs[n + 1]'v1).toNat := Nat.lt_of_lt_of_le (by decide) hVtop
      have hglaw := fun q h1 h2 h3 => Na.guess_law (q := q) hL2 hL1 hM2 hM1 hVpos (ut[j + n]'i0).toNat_lt h1 hf3 h2 h3
      have HG := Lib.hid hg
      have HGL := Lib.hid hglaw
      have HF1 := Lib.hid hf1
      have HF2 := Lib.hid hf2
      have HF3 := Lib.hid hf3
      clear hKK hf1 hf2 hf3 hf4 hL1 hL2 hM1 hM2 hjN hvv hg hglaw
      go_wp2_with fail
      refine HG.out.mono ?_
      rintro e w7 ⟨q, rfl, hqB, hq1, hq2, hb7⟩
      have hq := HGL.out q hqB hq1 hq2
      have HQ := Lib.hid hq
      clear HG HGL hq1 hq2 hq
      have HOU7 := Lib.hid (ownsRow_ext HOU.out hb7)
      have HOQ7 := Lib.hid (ownsRow_ext HOQ.out hb7)
      have hbel7 : Below w4.heap.size w4 w7 := hbel.trans (hb7.mono hbel.size)
      go_wp2_with fail
      refine (take_any g j (n + 2) (us.length + 1) (cap - j) cap ut vs bb ob (n + 2) q w4 w7 HVL.out HUT.out (by have := HUT.out; omega) (by omega) hqB HC.out hbb HOU7.out hbel7).mono ?_
      rintro e w8 ⟨neg, ws, rfl, hturn, hval, hown8, hbel8, hgr8⟩
      have HT := Lib.hid hturn
      have HV8 := Lib.hid hval
      have HO8 := Lib.hid hown8
      have HQ8 := Lib.hid (HOQ7.out.kept hgr8 (by right; simp [Value.ownBlock]; omega))
      clear hturn hval hown8
      have hVp0 : 0 < Na.val vs := Nat.lt_of_lt_of_le (Nat.pow_pos Na.B_pos) HVP.out
      have hsl : seg ut j (n + 2 + 1) = seg ut j (n + 3) := rfl
      have hx8 : Na.val (seg ws j (n + 2 + 1)) < Na.B ^ (n + 2 + 1) := by
        have h1 := Na.val_lt (seg ws j (n + 2 + 1))
        rw [seg_length _ _ _ (by have := HT.out.1; have := HUT.out; omega)] at h1; exact h1
      have hv8 := HV8.out
      rw [hsl, HF1.out] at hv8
      have hstep := Na.step_law neg hVp0 HQ.out.1 HQ.out.2 hx8 hv8
      have HS := Lib.hid hstep
      have HX8 := Lib.hid hx8
      have hdz : Na.val (ut.drop (j + (n + 2 + 1))) = 0 := HF2.out
      have HDZ := Lib.hid hdz
      obtain ⟨⟨cv, hcell⟩, hfz⟩ := own_any HQ8.out j (by omega)
      have hqi : (q : Int) % 4294967296 = q := by omega
      clear hsl hx8 hv8 hstep hdz hul2
      have hw45 : w4.heap.size ≤ w5.heap.size := by omega
      have heq : u32v (UInt32.ofNat q) = .int .u32 (q : Int) := by simp only [u32v, ofNat_small hqB]
      have HEQ := Lib.hid heq
      clear heq
      cases neg with
      | false =>
        have HS1 := Lib.hid (HS.out.1 rfl)
        clear HS
        go_wp2_with fail
        go_roundw
        case rel =>
          obtain ⟨hxm, hqd⟩ := HS1.out
          have hst := HQ8.out.stored j (.int .u32 (q : Int))
          rw [← HEQ.out, List.map_append, List.map_replicate, set_rep, HEQ.out] at hst
          have hdrop := drop_turned HT.out (by have := HUT.out; omega) HDZ.out
          rw [hxm] at hdrop
          refine ⟨j, ws, UInt32.ofNat q :: qd, by omega, rfl, HT.out.1.trans HUT.out, by have := HKQ.out; simp; omega, by rw [hdrop]; exact Nat.mod_lt _ hVp0, ?_, ?_, ?_, ?_⟩
          · have := u_step HU.out HT.out.1 (by have := HUT.out; omega) HT.out.2.1 hdrop hqd
            simp only [Na.val, ofNat_small hqB]; exact this
          · exact HO8.out.kept hst.2 (by right; simp [Value.ownBlock]; omega)
          · have h1 := hst.1
            rw [← HEQ.out] at h1 ⊢
            rw [List.map_append, List.map_replicate, List.map_cons]
            exact h1
          · exact hbel8.setCell (p := ⟨w5.heap.size, j, none⟩) hw45 _
        case measure => simp [intOf]
      | true =>
        have HS1 := Lib.hid (HS.out.2 rfl)
        have hq1 := HS1.out.1
        have hqm : (1 : Int) ≤ q := by omega
        clear HS hcell hfz
        go_wp2_with fail
        go_loopw [16, 105] (fun cv iv wr => ∃ (i c : Nat) (wt : List UInt32), i ≤ n + 2 ∧ iv = .int .i64 i ∧ cv = .int .u64 c ∧ c ≤ 1 ∧ Turned ws wt j i ∧
          Na.val (seg wt j i) + Na.B ^ i * c = Na.val (seg ws j i) + Na.val (vs.take i) ∧
          wr.ownsRow w4.heap.size 75 1 (.slice (some ⟨g, 0, none⟩) (us.length + 1) cap) (us.length + 1) (wt.map u32v) ∧ w8.grownBy wr (some g) ∧ Below w4.heap.size w4 wr) (fun _ iv _ => n + 2 - (intOf iv).toNat)
        case atStart => exact ⟨0, 0, ws, by omega, rfl, rfl, by omega, Turned.refl _ _ _, by simp [seg, Na.val], HO8.out, grown_refl _ _, hbel8⟩
        case round =>
          obtain ⟨i, c, wt, hi, rfl, rfl, hc, htu, hval, hown, hgr, hbl⟩ := hrel
          have HT9 := Lib.hid htu
          have HV9 := Lib.hid hval
          have HO9 := Lib.hid hown
          clear htu hval hown
          by_cases hlt2 : i < n + 2
          · have hul : j + i < ws.length := by have hwsl := HT.out.1; have hutl := HUT.out; omega
            have hu : wr.cell? ⟨g, j + i, none⟩ = some (u32v (ws[j + i]'hul)) := by
              rw [HO9.out.cellAt (j + i) (by have hwsl := HT.out.1; have hutl := HUT.out; omega), List.getElem?_map, List.getElem?_eq_getElem (by have hwl := HT9.out.1; omega), Option.map_some, HT9.out.get hul]
            have hfz := HO9.out.frozenAt (j + i)
            have HU9 := Lib.hid (val_seg_succ ws j i hul)
            have hwtl : j + i < wt.length := by have hwl := HT9.out.1; omega
            generalize ws[j + i]'hul = U at hu HU9
            have g2 := U.toNat_lt
            have u0 := wrap32_64 U
            have hyl : i < vs.length := by have := HVL.out; omega
            have hy : wr.cell? ⟨bb, ob + i, none⟩ = some (u32v vs[i]) := by rw [hbl.cell (p := ⟨bb, ob + i, none⟩) hbb]; exact HC.out i hyl
            have HY := Lib.hid (Na.val_take_succ vs i hyl)
            generalize vs[i] = y at hy HY
            have g1 := y.toNat_lt
            have y0 := wrap32_64 y
            go_wp2_with fail
            go_roundw
            case rel =>
              obtain ⟨z1, z2, z3, z4⟩ := add_step c U.toNat y.toNat hc g2 g1
              have hst := HO9.out.stored (j + i) (.int .u32 (((c + (U.toNat + y.toNat)) % Na.B : Nat) : Int))
              have ez : u32v (UInt32.ofNat ((c + (U.toNat + y.toNat)) % Na.B)) = .int .u32 (((c + (U.toNat + y.toNat)) % Na.B : Nat) : Int) := by simp only [u32v, ofNat_small z3]
              rw [← ez, ← List.map_set, ez] at hst
              rw [z1, z2]
              refine ⟨i + 1, (c + (U.toNat + y.toNat)) / Na.B, wt.set (j + i) (UInt32.ofNat ((c + (U.toNat + y.toNat)) % Na.B)), by omega, by go_num, rfl, z4, HT9.out.set _, ?_, hst.1, grown_trans hgr hst.2, hbl.setCell (p := ⟨g, j + i, none⟩) hg4 _⟩
              rw [val_seg_set _ _ _ _ hwtl, HU9.out, HY.out, ofNat_small z3, Nat.pow_succ]
              exact add_arith (Na.B ^ i) HV9.out
            case measure => simp [intOf]; omega
          · obtain rfl : i = n + 2 := by omega
            have hul : j + (n + 2) < ws.length := by have hwsl := HT.out.1; have hutl := HUT.out; omega
            have hu : wr.cell? ⟨g, j + (n + 2), none⟩ = some (u32v (ws[j + (n + 2)]'hul)) := by
              rw [HO9.out.cellAt (j + (n + 2)) (by have hwsl := HT.out.1; have hutl := HUT.out; omega), List.getElem?_map, List.getElem?_eq_getElem (by have hwl := HT9.out.1; omega), Option.map_some, HT9.out.get hul]
            have hfz := HO9.out.frozenAt (j + (n + 2))
            have HU9 := Lib.hid (val_seg_succ ws j (n + 2) hul)
            have hwtl : j + (n + 2) < wt.length := by have hwl := HT9.out.1; omega
            generalize ws[j + (n + 2)]'hul = U at hu HU9
            have g2 := U.toNat_lt
            have u0 := wrap32_64 U
            have HQ9 := Lib.hid (HQ8.out.kept hgr (by right; simp [Value.ownBlock]; omega))
            obtain ⟨⟨cv, hcell⟩, hfz2⟩ := own_any HQ9.out j (by omega)
            have hcm4 : (c : Int) % 4294967296 = c := by omega
            have hqm1 : ((q : Int) - 1) % 4294967296 = (q : Int) - 1 := by omega
            have hgne : g ≠ w5.heap.size := by omega
            go_wp2_with fail
            go_roundw
            case rel =>
              obtain ⟨hq1', hqd, hxV⟩ := HS1.out
              have hzb : (U.toNat + c) % Na.B < 4294967296 := Nat.mod_lt _ (by decide)
              have ez : u32v (UInt32.ofNat ((U.toNat + c) % Na.B)) = .int .u32 (((U.toNat : Int) + (c : Int)) % 4294967296) := by
                simp only [u32v, ofNat_small hzb]; simp [Na.B]
              have eq' : u32v (UInt32.ofNat (q - 1)) = .int .u32 ((q : Int) - 1) := by
                simp only [u32v, ofNat_small (show q - 1 < 4294967296 by omega)]; congr 1; omega
              have hst := HO9.out.stored (j + (n + 2)) (.int .u32 (((U.toNat : Int) + (c : Int)) % 4294967296))
              rw [← ez, ← List.map_set, ez] at hst
              have hq9 := HQ9.out.kept hst.2 (by right; simp [Value.ownBlock]; omega)
              have hst2 := hq9.stored j (.int .u32 ((q : Int) - 1))
              rw [← eq', List.map_append, List.map_replicate, set_rep, eq'] at hst2
              have htt := HT.out.trans (HT9.out.set (UInt32.ofNat ((U.toNat + c) % Na.B)))
              have hdrop := drop_turned htt (by have := HUT.out; omega) HDZ.out
              have hvt := HV9.out
              rw [List.take_of_length_le (by have := HVL.out; omega)] at hvt
              have hA := Na.val_lt (seg wt j (n + 2))
              rw [seg_length _ _ _ (by omega)] at hA
              have hVlt := Na.val_lt vs
              rw [HVL.out] at hVlt
              have hR : Na.val (ut.drop j) % Na.val vs < Na.B ^ (n + 2) := Nat.lt_trans (Nat.mod_lt _ hVp0) hVlt
              rw [Nat.pow_succ] at hxV
              have hlast := add_last hvt HU9.out hxV hA hR g2 hc
              rw [val_seg_set _ _ _ _ hwtl, ofNat_small hzb, hlast] at hdrop
              refine ⟨j, wt.set (j + (n + 2)) (UInt32.ofNat ((U.toNat + c) % Na.B)), UInt32.ofNat (q - 1) :: qd, by omega, rfl, htt.1.trans HUT.out, by have := HKQ.out; simp; omega, by rw [hdrop]; exact Nat.mod_lt _ hVp0, ?_, ?_, ?_, ?_⟩
              · have := u_step HU.out htt.1 (by have := HUT.out; omega) htt.2.1 hdrop hqd
                simp only [Na.val, ofNat_small (show q - 1 < 4294967296 by omega)]; exact this
              · exact hst.1.kept hst2.2 (by right; simp [Value.ownBlock]; omega)
              · have h1 := hst2.1
                rw [← eq'] at h1 ⊢
                rw [List.map_append, List.map_replicate, List.map_cons]
                exact h1
              · exact (hbl.setCell (p := ⟨g, j + (n + 2), none⟩) hg4 _).setCell (p := ⟨w5.heap.size, j, none⟩) hw45 _
            case measure => simp [intOf]
end Go.Proofs.YtnenbmbgmmeiaaaDoor
