/- Walks of package natural and of its reference: Mul. -/
import Derived.Test.YtcohmdeoocgmdaaGreatDoorRefNat
import Derived.Test.YtcohmdeoocgmdaaGreatDoorMulLaw
import Derived.Outline
namespace Go.Proofs.YtcohmdeoocgmdaaGreatDoor
open Go.RowKit
variable {α : Type}
set_option linter.unusedVariables false
theorem mul_sums {x y o c : Nat} (hx : x < 4294967296) (hy : y < 4294967296) (ho : o < 4294967296) (hc : c < 4294967296) : ∃ t s n : Nat, t = x * y ∧ s = t + o ∧ n = s + c ∧
  IntKind.u64.wrap ((x : Int) * (y : Int)) = (t : Int) ∧ IntKind.u64.wrap ((t : Int) + (o : Int)) = (s : Int) ∧ IntKind.u64.wrap ((c : Int) + (s : Int)) = (n : Int) ∧ n < 18446744073709551616 := by
 have hqb : x * y ≤ 4294967295 * 4294967295 := Nat.mul_le_mul (by omega) (by omega)
 refine ⟨x * y, x * y + o, x * y + o + c, rfl, rfl, rfl, mul_wrap hx hy, ?_, ?_, by omega⟩
 ·rw [← wrapNat64 (x * y + o) (by omega)]; simp
 ·rw [← wrapNat64 (x * y + o + c) (by omega)]; congr 1; omega
set_option maxRecDepth 100000 in
set_option maxHeartbeats 1600000 in
theorem natMul_any (v u : Value) (l m : List UInt32) (w : World) (hv : IsU32s w v l) (hu : IsU32s w u m) (hl : l.length ≤ 50000000) (hm : m.length ≤ 50000000) :
  Calls Tryz.prog 191 #[v, u] w fun e w' => ∃ a, e = .returned (.slice a (Na.digs (Na.val l * Na.val m)).length (Na.digs (Na.val l * Na.val m)).length) ∧
   IsU32s w' (.slice a (Na.digs (Na.val l * Na.val m)).length (Na.digs (Na.val l * Na.val m)).length) (Na.digs (Na.val l * Na.val m)) ∧ Ext w w' := by
 have hd1 := digs_len l
 have hd2 := digs_len m
 have e1 := Na.val_digs (Na.val l)
 have e2 := Na.val_digs (Na.val m)
 have S1 := Lib.hid (short_any v l w hv)
 have S2 := Lib.hid (short_any u m w hu)
 obtain ⟨a1, c1, rfl⟩ := hv.shape
 obtain ⟨a2, c2, rfl⟩ := hu.shape
 clear hv hu
 rw [← e1, ← e2]
 generalize Na.digs (Na.val l) = X at *
 generalize Na.digs (Na.val m) = Y at *
 have hX : X.length ≤ 50000000 := by omega
 have hY : Y.length ≤ 50000000 := by omega
 obtain ⟨N, hN⟩ : ∃ N, N = X.length + Y.length := ⟨_, rfl⟩
 have hNN : ((X.length : Int) + (Y.length : Int)) = (N : Int) := by omega
 have hN1 : N ≤ 100000000 := by omega
 have h63 : N ≤ maxLen := by unfold maxLen; omega
 have hby : 4 * N ≤ 281474976710656 := by omega
 have HN := Lib.hid hN
 clear hN e1 e2 hd1 hd2 hl hm
 go_enter Tryz.func191, Tryz.ntmps191
 go_wp2_with fail
 go_step3
 go_wp2_with fail
 refine S1.out.mono ?_
 rintro e w' ⟨b1, rfl, h1, rfl⟩
 have H1 := Lib.hid h1
 clear h1 S1
 go_wp2_with fail
 refine S2.out.mono ?_
 rintro e w' ⟨b2, rfl, h2, rfl⟩
 have H2 := Lib.hid h2
 clear h2 S2
 go_wp2_with (at_make; refine wpList_make_row rfl _ _ _ rfl tyU32 rfl w.heap.size N rfl rfl rfl hby h63 (Nat.le_refl _) ?_; intro w1 hown hg)
 have hb1 := below_made (Below.refl w.heap.size w) hg (Nat.le_refl _)
 clear hg
 have HO := Lib.hid hown
 clear hown hNN
 try go_step3
 go_wp2_with fail
 go_loopw [23] (fun iv wr => ∃ (i : Nat) (out : List UInt32), i ≤ X.length ∧ iv = .int .i64 i ∧ out.length = N ∧ Na.val out = Na.val (X.take i) * Na.val Y ∧ Na.Clear (i + Y.length) out ∧
   wr.ownsRow w.heap.size 103 1 (.slice (some ⟨w.heap.size, 0, none⟩) N N) N (out.map u32v) ∧ Ext w wr) (fun iv _ => X.length - (intOf iv).toNat)
 case atStart => exact ⟨0, List.replicate N 0, Nat.zero_le _, rfl, by simp, by rw [Na.val_zeros]; simp [Na.val], (Na.clear_rep N).mono (Nat.zero_le _), by simpa [u32v] using HO.out, hb1⟩
 case round =>
  obtain ⟨i, out, hi, rfl, hol, hval, hclr, hown, hbel⟩ := hrel
  have HOL := Lib.hid hol
  have HVAL := Lib.hid hval
  have HW := Lib.hid hown
  have HC := Lib.hid hclr
  have HB := Lib.hid hbel
  clear hol hval hown hclr HO hbel
  by_cases hlt : i < X.length
  ·obtain ⟨bx, ox, cx, hxs, hbx, hlx, hmx, hcx⟩ := row_some H1.out rfl (by omega)
   simp only [Value.slice.injEq] at hxs
   obtain ⟨rfl, -, -⟩ := hxs
   have hck : wr.cell? ⟨bx, ox + i, none⟩ = some (u32v X[i]) := by rw [HB.out.cell (p := ⟨bx, ox + i, none⟩) hbx]; exact hcx i hlt
   have T0 := Lib.hid (Na.val_take_succ X i hlt)
   generalize X[i] = x at *
   have g0 := x.toNat_lt
   have x0 := wrap32_64 x
   clear hcx
   by_cases hz : x.toNat = 0
   ·have hzb : ((x.toNat : Int) == 0) = true := by rw [beq_iff_eq]; omega
    have HZ := Lib.hid hz
    clear hz
    go_wp2_with fail
    go_roundw
    case rel =>
     refine ⟨i + 1, out, by omega, by go_num, HOL.out, ?_, HC.out.mono (by omega), HW.out, HB.out⟩
     rw [HVAL.out, T0.out, HZ.out]; simp
    case measure => simp [intOf]; omega
   ·have hzb : ((x.toNat : Int) == 0) = false := by rw [beq_eq_false_iff_ne]; omega
    obtain ⟨wo, rfl⟩ : ∃ wo : World, wo = wr := ⟨_, rfl⟩
    clear hz
    go_wp2_with fail
    clear hck hzb
    go_loopw [8, 32] (fun cv kv wr => ∃ (k c : Nat) (o2 : List UInt32), k ≤ Y.length ∧ kv = .int .i64 k ∧ cv = .int .u64 c ∧ c < 4294967296 ∧ o2.length = N ∧ Na.val o2 + Na.B ^ (i + k) * c = Na.val out + Na.B ^ i * (x.toNat * Na.val (Y.take k)) ∧
     Na.Clear (i + Y.length) o2 ∧ wr.ownsRow w.heap.size 103 1 (.slice (some ⟨w.heap.size, 0, none⟩) N N) N (o2.map u32v) ∧ Ext w wr) (fun _ kv _ => Y.length - (intOf kv).toNat)
    case atStart => exact ⟨0, 0, out, Nat.zero_le _, rfl, rfl, by omega, HOL.out, by simp [Na.val], HC.out, HW.out, HB.out⟩
    case round =>
     obtain ⟨k, c, o2, hk, rfl, rfl, hc, hol2, hval2, hclr2, hown2, hbel2⟩ := hrel
     have HOL2 := Lib.hid hol2
     have HVAL2 := Lib.hid hval2
     have HW2 := Lib.hid hown2
     have HC2 := Lib.hid hclr2
     have HB2 := Lib.hid hbel2
     have hNi : i + Y.length < N := by have := HN.out; omega
     clear hol2 hval2 hown2 hclr2 hbel2 HW HC HB HOL
     by_cases hkl : k < Y.length
     ·obtain ⟨by', oy, cy, hys, hby', hly, hmy, hcy⟩ := row_some H2.out rfl (by omega)
      simp only [Value.slice.injEq] at hys
      obtain ⟨rfl, -, -⟩ := hys
      have hcl : wr.cell? ⟨by', oy + k, none⟩ = some (u32v Y[k]) := by rw [HB2.out.cell (p := ⟨by', oy + k, none⟩) hby']; exact hcy k hkl
      have T1 := Lib.hid (Na.val_take_succ Y k hkl)
      generalize Y[k] = y at *
      have hikN : i + k < N := by omega
      have hik2 : i + k < o2.length := by rw [HOL2.out]; exact hikN
      have hco := HW2.out.cellAt (i + k) (by omega)
      rw [List.getElem?_map, List.getElem?_eq_getElem hik2, Option.map_some] at hco
      have hog : o2.getD (i + k) 0 = o2[i + k] := by simp [List.getD, List.getElem?_eq_getElem hik2]
      have hfz := HW2.out.frozenAt (i + k)
      generalize o2[i + k] = o at *
      have g1 := y.toNat_lt
      have g2 := o.toNat_lt
      have y0 := wrap32_64 y
      have o0 := wrap32_64 o
      obtain ⟨t, s, n, ht, hs, hn, hmul, hs1, hs2, hnb⟩ := mul_sums g0 g1 g2 hc
      have HST := Lib.hid (Na.mul_step (t := t) hik2 HVAL2.out (show n = t + (o2.getD (i + k) 0).toNat + c by rw [hog]; omega))
      rw [ht] at HST
      have hmod : (n : Int) % 4294967296 = ((UInt32.ofNat n).toNat : Int) := dgI n
      have hdiv : (n : Int) / 4294967296 = ((n / Na.B : Nat) : Int) := dvI n
      have hc' : n / Na.B < 4294967296 := Nat.div_lt_of_lt_mul hnb
      generalize hq : n / Na.B = c' at *
      obtain ⟨d, hd⟩ : ∃ d, UInt32.ofNat n = d := ⟨_, rfl⟩
      rw [hd] at hmod HST
      have hst := HW2.out.stored (i + k) (u32v d)
      rw [← List.map_set] at hst
      have HS := Lib.hid hst
      clear hcy hst hog ht hs hn hq hd hnb HW2 HVAL2
      go_wp2_with fail
      go_roundw
      case rel =>
       refine ⟨k + 1, c', o2.set (i + k) d, by omega, by go_num, rfl, hc', by rw [List.length_set]; exact HOL2.out, ?_, HC2.out.set (by omega), HS.out.1, HB2.out.setCell (p := ⟨w.heap.size, i + k, none⟩) (Nat.le_refl _) _⟩
       rw [← Nat.add_assoc, HST.out, T1.out, Na.mul_row]
      case measure => simp [intOf]; omega
     ·obtain rfl : k = Y.length := by omega
      have hik2 : i + Y.length < o2.length := by rw [HOL2.out]; exact hNi
      have HST := Lib.hid (Na.mul_end hik2 HVAL2.out (HC2.out _ (Nat.le_refl _)) hc)
      obtain ⟨d, rfl⟩ : ∃ d : UInt32, c = d.toNat := ⟨UInt32.ofNat c, (ofNat_small hc).symm⟩
      rw [show UInt32.ofNat d.toNat = d by simp] at HST
      obtain ⟨⟨cv, hcell⟩, hfz⟩ := own_any HW2.out (i + Y.length) hNi
      have hst := HW2.out.stored (i + Y.length) (u32v d)
      rw [← List.map_set] at hst
      have HS := Lib.hid hst
      clear hst
      go_wp2_with fail
      go_roundw
      case rel =>
       refine ⟨i + 1, o2.set (i + Y.length) d, by omega, by go_num, by rw [List.length_set]; exact HOL2.out, ?_, by rw [show i + 1 + Y.length = i + Y.length + 1 by omega]; exact HC2.out.set_at, HS.out.1, HB2.out.setCell (p := ⟨w.heap.size, i + Y.length, none⟩) (Nat.le_refl _) _⟩
       rw [HST.out, HVAL.out, List.take_length, Na.mul_next, T0.out]
      case measure => simp [intOf]; omega
  ·obtain rfl : i = X.length := by omega
   have hs := short_any _ _ _ (own_row' HOL.out HW.out)
   rw [HVAL.out, List.take_length] at hs
   have HS := Lib.hid hs
   clear hs
   go_wp2_with fail
   refine HS.out.mono ?_
   rintro e w' ⟨a', rfl, hr, rfl⟩
   have HR := Lib.hid hr
   clear hr
   go_wp2_with fail
   try rw [Exit.noGoto_ret]
   go_ret
   exact ⟨_, rfl, HR.out, HB.out⟩
end Go.Proofs.YtcohmdeoocgmdaaGreatDoor
