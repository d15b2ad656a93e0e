/- Walks of binenc and rational: great, same, IsNormalized, bytes.Equal. -/
import Derived.Test.YtnenbmbgmmeiaaaDoorRefRat8
namespace Nb
theorem mag_step2 {A : List UInt32} {V q r c : Nat} (hq : q < A.length) (hv : Na.val A = V) (hV : V < 256 ^ (4 * q + r)) (hr : r < 4) (hc : c < 256) :
    A[q].toNat < 256 ^ r ∧ A[q].toNat + c * 256 ^ r < 4294967296 ∧ Na.val (A.set q (UInt32.ofNat (A[q].toNat + c * 256 ^ r))) = V + 256 ^ (4 * q + r) * c := by
  have h1 := Na.val_split A q
  rw [Na.val_drop A q hq, hv, pow_B] at h1
  have h2 : A[q].toNat + Na.B * Na.val (A.drop (q + 1)) < 256 ^ r := by
    have h3 : 256 ^ (4 * q) * (A[q].toNat + Na.B * Na.val (A.drop (q + 1))) < 256 ^ (4 * q) * 256 ^ r := by rw [← Nat.pow_add]; omega
    exact Nat.lt_of_mul_lt_mul_left h3
  have h4 : A[q].toNat + c * 256 ^ r < 4294967296 := by
    have h5 : (c + 1) * 256 ^ r ≤ 256 * 256 ^ r := Nat.mul_le_mul_right _ hc
    have h6 : 256 * 256 ^ r ≤ 256 * 256 ^ 3 := Nat.mul_le_mul_left _ (Nat.pow_le_pow_right (by omega) (by omega))
    rw [Nat.add_mul] at h5
    omega
  refine ⟨by omega, h4, ?_⟩
  have h7 := Na.val_split (A.set q (UInt32.ofNat (A[q].toNat + c * 256 ^ r))) q
  rw [Na.val_drop _ q (by simpa using hq), List.take_set_of_le (by omega), pow_B, List.getElem_set_self, List.drop_set_of_lt (by omega)] at h7
  have e : (UInt32.ofNat (A[q].toNat + c * 256 ^ r)).toNat = A[q].toNat + c * 256 ^ r := by simp; omega
  rw [h7, e, h1, Nat.pow_add, Nat.mul_assoc, Nat.mul_comm c, Nat.mul_add, Nat.mul_add, Nat.mul_add]
  omega
end Nb
namespace Go.Proofs.YtnenbmbgmmeiaaaDoor
open Go.RowKit En
variable {α : Type}
set_option linter.unusedVariables false

set_option maxRecDepth 100000 in
set_option maxHeartbeats 800000 in
theorem bytesEqual_any (v u : Value) (l m : List UInt8) (w : World) (hv : IsBytes w v l) (hu : IsBytes w u m) :
    Calls Tryd.prog 55 #[v, u] w fun e w' => e = .returned (.bool (l == m)) ∧ w = w' := by
  have s1 := run_string_row (P := Tryd.prog) (src := 23) (e := 5) (dst := 9) Tryd.underlying23 Tryd.underlying5 Tryd.underlying9 hv
  have s2 := run_string_row (P := Tryd.prog) (src := 23) (e := 5) (dst := 9) Tryd.underlying23 Tryd.underlying5 Tryd.underlying9 hu
  clear hv hu
  go_enter Tryd.func55, Tryd.ntmps55
  go_wp2_with fail
  go_ret
  exact ⟨rfl, rfl⟩

set_option maxRecDepth 100000 in
set_option maxHeartbeats 1600000 in
theorem great_any (neg : Bool) (v : Value) (s : List UInt8) (w : World) (hv : IsBytes w v s) (hl : s.length ≤ 1000000) :
    Calls Tryd.prog 53 #[.bool neg, v] w fun e w' => ∃ x, e = .returned x ∧ IsIntN w.heap.size w' x (neg && decide (0 < Nb.val s)) (Nb.val s) ∧ Ext w w' := by
  have HV := Lib.hid hv
  obtain ⟨a1, c1, rfl⟩ := hv.shape
  obtain ⟨N, hN⟩ : ∃ N, N = (s.length + 3) / 4 := ⟨_, rfl⟩
  have hNI : ((s.length : Int) + 3) / 4 = (N : Int) := by omega
  have h63 : N ≤ maxLen := by unfold maxLen; omega
  have hby : 4 * N ≤ 281474976710656 := by omega
  have HN := Lib.hid hN
  clear hv hN
  go_enter Tryd.func53, Tryd.ntmps53
  go_wp2_with (at_make; refine wpList_make_row rfl _ _ _ rfl tyU32 rfl (w.heap.size + 1) N rfl rfl hNI hby h63 (by simp) ?_; intro w1 hown hg)
  have hb1 := below_made (below_alloc w _) hg (by simp)
  simp only [World.size_alloc] at hown
  have hN2 : Na.val (List.replicate N (0 : UInt32)) = 0 := Na.val_zeros N
  have HO := Lib.hid hown
  have HB1 := Lib.hid hb1
  have hs1 : w.heap.size + 1 < w1.heap.size := (hown.lt (w.heap.size + 1) rfl).2
  have HB2 := Lib.hid (below_made (Below.refl _ _) hg (Nat.le_refl _))
  clear hg hown hb1 hNI
  go_wp2_with fail
  go_loopw [6, 7, 15] (fun _ _ iv wr => ∃ (i : Nat) (M : List UInt32), iv = .int .i64 i ∧ i ≤ s.length ∧ M.length = N ∧ Na.val M = Nb.val (s.take i) ∧ wr.ownsRow (w.heap.size + 1) 75 1 (.slice (some ⟨w.heap.size + 1, 0, none⟩) N N) N (M.map u32v) ∧ Below (w.heap.size + 1) (w.alloc (.cells #[.bool false, .slice none 0 0] 49)) wr) (fun _ _ iv _ => s.length - (intOf iv).toNat)
  case atStart => exact ⟨0, List.replicate N 0, rfl, Nat.zero_le _, by simp, by rw [hN2]; rfl, by simpa [u32v] using HO.out, by simpa using HB2.out⟩
  case round =>
    obtain ⟨i, M, rfl, hi, hM, hval, hown, hbel⟩ := hrel
    by_cases hlt : i < s.length
    · obtain ⟨q, r, hqr, hr4⟩ : ∃ q r, i = 4 * q + r ∧ r < 4 := ⟨i / 4, i % 4, by omega, by omega⟩
      have hq : (i : Int) / 4 = (q : Int) := by omega
      have hqN : q < N := by rw [HN.out]; omega
      obtain ⟨bx, ox, cx, hxs, hbx, hlx, hmx, hcx⟩ := row_some HV.out rfl (by omega)
      simp only [Value.slice.injEq] at hxs
      obtain ⟨rfl, -, -⟩ := hxs
      have hlb := Nb.val_lt (s.take i)
      rw [List.length_take, Nat.min_eq_left hi] at hlb
      have hsucc := Nb.val_take_succ s i hlt
      have hcell := hcx i hlt
      generalize s[i] = c at *
      have hcl := c.toNat_lt
      have hqM : q < M.length := by rw [hM]; exact hqN
      obtain ⟨f0, f1, f2⟩ := Nb.mag_step2 (c := c.toNat) hqM hval (by rw [← hqr]; exact hlb) hr4 hcl
      have hcB : wr.cell? ⟨bx, ox + i, none⟩ = some (u8v c) := by
        rw [hbel.cell (p := ⟨bx, ox + i, none⟩) (by simp only; omega)]
        rw [(below_alloc w _).cell (p := ⟨bx, ox + i, none⟩) hbx]; exact hcell
      have hcA := hown.cellAt q (by omega)
      have hfz := hown.frozenAt q
      rw [List.getElem?_map, List.getElem?_eq_getElem hqM, Option.map_some] at hcA
      have hst := (hown.stored q (u32v (UInt32.ofNat (M[q].toNat + c.toNat * 256 ^ r)))).1
      rw [← List.map_set] at hst
      have HST := Lib.hid hst
      have HF2 := Lib.hid f2
      obtain ⟨d, hd⟩ : ∃ d, M[q] = d := ⟨_, rfl⟩
      rw [hd] at hcA f0 f1 HST HF2
      have hdl := d.toNat_lt
      have HM := Lib.hid hM
      have HS := Lib.hid hsucc
      have HV2 := Lib.hid hval
      have HQR := Lib.hid hqr
      have HF0 := Lib.hid f0
      have k1 : IntKind.i64.wrap (q : Int) = (q : Int) := IntWalk.i64_in _ (by unfold maxLen at h63; omega)
      have k2 : IntKind.u32.wrap (c.toNat : Int) = (c.toNat : Int) := by rw [IntKind.wrap_u32]; omega
      have k4 : (q : Int) < (N : Int) := by omega
      have k5 : (i : Int) < (s.length : Int) := by omega
      have k6 : (i : Int).tmod 4 = (r : Int) := by
        rw [Int.tmod_eq_emod_of_nonneg (by omega)]; omega
      have k7 : IntKind.i64.wrap (8 * (r : Int)) = 8 * (r : Int) := IntWalk.i64_in _ (by omega)
      have k8 : ¬ 8 * (r : Int) < 0 := by omega
      have k9 : (0 : Int) ≤ 8 * (r : Int) := by omega
      have k10 : (0 : Int) ≤ (r : Int) := by omega
      clear hd hcx hsucc hM hval f2 hst hqr f0 hown hN2
      go_wp2_with fail
      go_still_tail 13, (by kernel_rfl)
      go_wp2_with fail
      have hX : bits .or .u32 (d.toNat : Int) ((c.toNat : Int) * 2 ^ (8 * r) % 4294967296) = ((UInt32.ofNat (d.toNat + c.toNat * 256 ^ r)).toNat : Int) := by
        have h2 : (2 : Nat) ^ (8 * r) = 256 ^ r := by rw [Nat.pow_mul]
        have h4 : (2 : Int) ^ (8 * r) = ((256 ^ r : Nat) : Int) := by rw [← h2]; simp
        have h3 : (c.toNat : Int) * 2 ^ (8 * r) % 4294967296 = ((c.toNat * 256 ^ r : Nat) : Int) := by
          rw [h4, ← Int.natCast_mul]; omega
        rw [h3, u32_or_nat _ _ d.toNat_lt (by omega), Nat.or_comm, nat_join (8 * r) _ _ (by rw [h2]; simp) (by rw [h2]; exact HF0.out), ofNat_small f1, Nat.add_comm]
      rw [hX]
      refine ⟨⟨i + 1, M.set q (UInt32.ofNat (d.toNat + c.toNat * 256 ^ r)), by go_num, by omega, ?_, ?_, ownsRow_ext HST.out ((Below.refl _ _).drew), (hbel.setCell (p := ⟨w.heap.size + 1, q, none⟩) (Nat.le_refl _) _).drew⟩, by simp [intOf]; omega⟩
      · rw [List.length_set]; exact HM.out
      · rw [HF2.out, HS.out, HQR.out]; rfl
    · obtain rfl : i = s.length := by omega
      rw [List.take_length] at hval
      have hrow := own_row' hM hown
      have hext : Ext (w.alloc (.cells #[.bool false, .slice none 0 0] 49)) wr := by
        have := hbel
        rw [← World.size_alloc w (.cells #[.bool false, .slice none 0 0] 49)] at this
        exact this
      have hNew := intNew_any neg _ M wr hrow (by rw [hM, HN.out]; omega)
      rw [hval] at hNew
      have HNew := Lib.hid hNew
      have HE := Lib.hid hext
      have hge : ¬ (s.length : Int) < (s.length : Int) := by omega
      clear hval hrow hM hown hNew hext
      go_wp2_with fail
      refine HNew.out.mono ?_
      rintro e w2 ⟨x, rfl, ⟨t, rfl, ht, ft⟩, hb2⟩
      obtain ⟨b1, d1, rfl⟩ := ht.shape
      obtain ⟨e0, e1, f0, hz⟩ := two_cells (Ext.trans' HE.out hb2)
      have hlt1 : w.heap.size < wr.heap.size := by have := HE.out.size; simp at this; omega
      obtain ⟨nb, hnb⟩ : ∃ nb, (neg && decide (0 < Nb.val s)) = nb := ⟨_, rfl⟩
      rw [hnb]
      have HNB := Lib.hid hnb
      have HT := Lib.hid (And.intro ht ft)
      have HE2 := Lib.hid (Ext.trans' (Ext.trans' (below_alloc w _) HE.out) hb2)
      clear ht ft hb2 hnb HNew
      go_wp2_with fail
      refine bodyPost_ret (v := .agg #[.bool nb, .slice b1 (Na.digs (Nb.val s)).length d1]) (by simp [results, Tryd.results53, go_sem, e0, e1]) rfl ⟨_, rfl, ⟨_, by rw [HNB.out], ?_, ?_⟩, ?_⟩
      · exact HT.out.1.ch (((Ch.refl _ _).setCell _ _).setCell _ _) (fun _ => HT.out.2.off hlt1)
      · exact HT.out.2.mono (by omega)
      · exact (HE2.out.setCell (p := ⟨w.heap.size, 0, none⟩) (Nat.le_refl _) _).setCell (p := ⟨w.heap.size, 1, none⟩) (Nat.le_refl _) _
end Go.Proofs.YtnenbmbgmmeiaaaDoor
