/- Walk of the reference on natural numbers: Mul. -/
import Derived.Test.YtcohmdeoocgmdaaGreatDoorNum2
import Derived.IntWalk
set_option maxHeartbeats 1600000
set_option maxRecDepth 100000
namespace Go.Proofs.YtcohmdeoocgmdaaGreatDoor
open Go.RowKit
variable {α : Type}
set_option linter.unusedVariables false
theorem refMul_any (v u : Value) (l m : List UInt32) (w : World) (hv : IsU32s w v l) (hu : IsU32s w u m) (hl : l.length ≤ 50000000) (hm : m.length ≤ 50000000) :
    Calls Tryz.prog 86 #[v, u] w fun e w' => ∃ v', e = .returned v' ∧ OwnU w.heap.size w' v' (Na.digs (Na.val l * Na.val m)) ∧ Ext w w' := by
  have H1 := Lib.hid hv
  have H2 := Lib.hid hu
  obtain ⟨a1, c1, rfl⟩ := hv.shape
  obtain ⟨a2, c2, rfl⟩ := hu.shape
  clear hv hu
  obtain ⟨N, hN⟩ : ∃ N, N = l.length + m.length + 1 := ⟨_, rfl⟩
  have hNN : ((l.length : Int) + (m.length : Int) + 1) = (N : Int) := by omega
  have hN1 : N ≤ 100000001 := by omega
  have h63 : N ≤ maxLen := by unfold maxLen; omega
  have hby : 4 * N ≤ 281474976710656 := by omega
  have HN := Lib.hid hN
  clear hN
  go_enter Tryz.func86, Tryz.ntmps86
  go_wp2_with (at_make; refine wpList_make_row rfl _ _ _ rfl tyU32 rfl w.heap.size N rfl rfl rfl hby h63 (Nat.le_refl _) ?_; intro w1 hown hg)
  have hb1 := below_made (Below.refl w.heap.size w) hg (Nat.le_refl _)
  clear hg
  have HO := Lib.hid hown
  clear hown hNN
  go_loopw [6] (fun iv wr => ∃ (i : Nat) (out : List UInt32), i ≤ l.length ∧ iv = .int .i64 i ∧ out.length = N ∧ Na.val out = Na.val (l.take i) * Na.val m ∧ Na.Clear (i + m.length) out ∧
      wr.ownsRow w.heap.size 103 1 (.slice (some ⟨w.heap.size, 0, none⟩) N N) N (out.map u32v) ∧ Ext w wr) (fun iv _ => l.length - (intOf iv).toNat)
  case atStart => exact ⟨0, List.replicate N 0, Nat.zero_le _, rfl, by simp, by rw [Na.val_zeros]; simp [Na.val], (Na.clear_rep N).mono (Nat.zero_le _), by simpa [u32v] using HO.out, hb1⟩
  case round =>
    obtain ⟨i, out, hi, rfl, hol, hval, hclr, hown, hbel⟩ := hrel
    have HOL := Lib.hid hol
    have HVAL := Lib.hid hval
    have HW := Lib.hid hown
    have HC := Lib.hid hclr
    have HB := Lib.hid hbel
    clear hol hval hown hclr HO hbel
    by_cases hlt : i < l.length
    · obtain ⟨wo, rfl⟩ : ∃ wo : World, wo = wr := ⟨_, rfl⟩
      obtain ⟨bx, ox, cx, hxs, hbx, hlx, hmx, hcx⟩ := row_some H1.out rfl (by omega)
      simp only [Value.slice.injEq] at hxs
      obtain ⟨rfl, -, -⟩ := hxs
      have HCK := Lib.hid (fun (wr : World) (h : Ext w wr) => (h.cell (p := ⟨bx, ox + i, none⟩) hbx).trans (hcx i hlt))
      have T0 := Lib.hid (Na.val_take_succ l i hlt)
      clear hcx
      generalize l[i] = x at *
      have g0 := x.toNat_lt
      have x0 := wrap32_64 x
      have hi1 : (0 : Int) ≤ (i : Int) := by omega
      have hi2 : (i : Int) < (l.length : Int) := by omega
      go_wp2_with fail
      go_loopw [7, 8] (fun cv kv wr => ∃ (k c : Nat) (o2 : List UInt32), k ≤ m.length ∧ kv = .int .i64 k ∧ cv = .int .u64 c ∧ c < 4294967296 ∧ o2.length = N ∧ Na.val o2 + Na.B ^ (i + k) * c = Na.val out + Na.B ^ i * (x.toNat * Na.val (m.take k)) ∧
        Na.Clear (i + m.length) o2 ∧ wr.ownsRow w.heap.size 103 1 (.slice (some ⟨w.heap.size, 0, none⟩) N N) N (o2.map u32v) ∧ Ext w wr) (fun _ kv _ => m.length - (intOf kv).toNat)
      case atStart => exact ⟨0, 0, out, Nat.zero_le _, rfl, rfl, by omega, HOL.out, by simp [Na.val], HC.out, HW.out, HB.out⟩
      case round =>
        obtain ⟨k, c, o2, hk, rfl, rfl, hc, hol2, hval2, hclr2, hown2, hbel2⟩ := hrel
        have HOL2 := Lib.hid hol2
        have HVAL2 := Lib.hid hval2
        have HW2 := Lib.hid hown2
        have HC2 := Lib.hid hclr2
        have HB2 := Lib.hid hbel2
        have hNi : i + m.length < N := by have := HN.out; omega
        clear hol2 hval2 hown2 hclr2 hbel2 HW HC HB HOL
        by_cases hkl : k < m.length
        · have hck := HCK.out wr HB2.out
          obtain ⟨by', oy, cy, hys, hby', hly, hmy, hcy⟩ := row_some H2.out rfl (by omega)
          simp only [Value.slice.injEq] at hys
          obtain ⟨rfl, -, -⟩ := hys
          have hcl : wr.cell? ⟨by', oy + k, none⟩ = some (u32v m[k]) := by rw [HB2.out.cell (p := ⟨by', oy + k, none⟩) hby']; exact hcy k hkl
          have T1 := Lib.hid (Na.val_take_succ m k hkl)
          generalize m[k] = y at *
          have hikN : i + k < N := by omega
          have hik2 : i + k < o2.length := by rw [HOL2.out]; exact hikN
          have hco := HW2.out.cellAt (i + k) (by omega)
          rw [List.getElem?_map, List.getElem?_eq_getElem hik2, Option.map_some] at hco
          have hog : o2.getD (i + k) 0 = o2[i + k] := by simp [List.getD, List.getElem?_eq_getElem hik2]
          have hfz := HW2.out.frozenAt (i + k)
          generalize o2[i + k] = o at *
          have g1 := y.toNat_lt
          have g2 := o.toNat_lt
          have y0 := wrap32_64 y
          have o0 := wrap32_64 o
          obtain ⟨t, s, n, ht, hs, hn, hmul, hs1, hs2, hnb⟩ := mul_sums g0 g1 g2 hc
          have hs3 : IntKind.u64.wrap ((s : Int) + (c : Int)) = (n : Int) := (congrArg IntKind.u64.wrap (Int.add_comm _ _)).trans hs2
          have HST := Lib.hid (Na.mul_step (t := t) hik2 HVAL2.out (show n = t + (o2.getD (i + k) 0).toNat + c by rw [hog]; omega))
          rw [ht] at HST
          have hmod : (n : Int) % 4294967296 = ((UInt32.ofNat n).toNat : Int) := dgI n
          have hdiv : (n : Int) / 4294967296 = ((n / Na.B : Nat) : Int) := dvI n
          have hc' : n / Na.B < 4294967296 := Nat.div_lt_of_lt_mul hnb
          generalize hq : n / Na.B = c' at *
          obtain ⟨d, hd⟩ : ∃ d, UInt32.ofNat n = d := ⟨_, rfl⟩
          rw [hd] at hmod HST
          have hk1 : (0 : Int) ≤ (k : Int) := by omega
          have hk2 : (k : Int) < (m.length : Int) := by omega
          have hik3 : IntKind.i64.wrap ((i : Int) + (k : Int)) = (i : Int) + (k : Int) := IntWalk.i64_in _ (by omega)
          have hik4 : (0 : Int) ≤ (i : Int) + (k : Int) := by omega
          have hik5 : (i : Int) + (k : Int) < (N : Int) := by omega
          have hik6 : ((i : Int) + (k : Int)).toNat = i + k := by omega
          clear hcy hog ht hs hn hq hd hnb HVAL2
          go_wp2_with fail
          go_quiet (fail)
          clear hik3
          go_wp2_with fail
          go_roundw
          case rel =>
            refine ⟨k + 1, c', o2.set (i + k) d, by omega, by go_num, rfl, hc', by rw [List.length_set]; exact HOL2.out, ?_, HC2.out.set (by omega), by rw [List.map_set]; exact ((ownsRow_ext HW2.out (below_drewN Ext.rfl' _)).stored (i + k) (u32v d)).1, (below_drewN HB2.out _).setCell (p := ⟨w.heap.size, i + k, none⟩) (Nat.le_refl _) _⟩
            rw [← Nat.add_assoc, HST.out, T1.out, Na.mul_row]
          case measure => simp [intOf]; omega
        · obtain rfl : k = m.length := by omega
          have hik2 : i + m.length < o2.length := by rw [HOL2.out]; exact hNi
          have HST := Lib.hid (Na.mul_end hik2 HVAL2.out (HC2.out _ (Nat.le_refl _)) hc)
          obtain ⟨d, rfl⟩ : ∃ d : UInt32, c = d.toNat := ⟨UInt32.ofNat c, (ofNat_small hc).symm⟩
          rw [show UInt32.ofNat d.toNat = d by simp] at HST
          obtain ⟨⟨cv, hcell⟩, hfz⟩ := own_any HW2.out (i + m.length) hNi
          have hst := HW2.out.stored (i + m.length) (u32v d)
          rw [← List.map_set] at hst
          have HS := Lib.hid hst
          clear hst
          go_wp2_with fail
          go_roundw
          case rel =>
            refine ⟨i + 1, o2.set (i + m.length) d, by omega, by go_num, by rw [List.length_set]; exact HOL2.out, ?_, by rw [show i + 1 + m.length = i + m.length + 1 by omega]; exact HC2.out.set_at, HS.out.1, HB2.out.setCell (p := ⟨w.heap.size, i + m.length, none⟩) (Nat.le_refl _) _⟩
            rw [HST.out, HVAL.out, List.take_length, Na.mul_next, T0.out]
          case measure => simp [intOf]; omega
    · obtain rfl : i = l.length := by omega
      have hs := refNormalize_any _ _ _ (own_row' HOL.out HW.out) (by rw [HOL.out]; omega)
      rw [HVAL.out, List.take_length] at hs
      have HS := Lib.hid hs
      clear hs
      go_wp2_with fail
      refine HS.out.mono ?_
      rintro e w' ⟨v', rfl, hr, hb⟩
      have HR := Lib.hid (ownsRow_mono hr HB.out.size)
      have HX := Lib.hid (Ext.trans' HB.out hb)
      clear hr hb
      go_wp2_with fail
      go_ret
      exact ⟨_, rfl, HR.out, HX.out⟩
theorem refSub_lt (v u : Value) (l m : List UInt32) (w : World) (hv : IsU32s w v l) (hu : IsU32s w u m) (hlt : Na.val l < Na.val m) :
    Calls Tryz.prog 161 #[v, u] w fun e w' => e = .returned (.tuple #[.slice none 0 0, .bool false]) ∧ Ext w w' := by
  have hc := refCmp_any v u l m w hv hu
  rw [cmpI_lt hlt] at hc
  have HC := Lib.hid hc
  obtain ⟨a1, c1, rfl⟩ := hv.shape
  obtain ⟨a2, c2, rfl⟩ := hu.shape
  clear hc hv hu hlt
  go_enter Tryz.func161, Tryz.ntmps161
  go_wp2_with fail
  refine HC.out.mono ?_
  rintro e w' ⟨rfl, hb⟩
  have HB := Lib.hid hb
  clear hb
  go_wp2_with fail
  go_ret2
  exact ⟨rfl, HB.out⟩
end Go.Proofs.YtcohmdeoocgmdaaGreatDoor
