/- Walks of the reference on natural numbers: Normalize, Digit, Cmp. -/
import Derived.Test.YtcohmdeoocgmdaaGreatDoorNatW2
import Derived.Test.YtcohmdeoocgmdaaGreatDoorNat
import Derived.Test.YtcohmdeoocgmdaaGreatDoorBase
set_option maxHeartbeats 3200000
set_option maxRecDepth 100000
namespace Go.Proofs.YtcohmdeoocgmdaaGreatDoor
open Go.RowKit
variable {α : Type}
set_option linter.unusedVariables false
abbrev OwnU (base : Nat) (w : World) (v : Value) (l : List UInt32) : Prop := w.ownsRow base 103 1 v l.length (l.map u32v)
theorem refNormalize_any (v : Value) (l : List UInt32) (w : World) (hv : IsU32s w v l) (hlen : l.length ≤ 1000000000) :
  Calls Tryz.prog 132 #[v] w fun e w' => ∃ v', e = .returned v' ∧ OwnU w.heap.size w' v' (Na.digs (Na.val l)) ∧ Ext w w' := by
 obtain ⟨hd, hK, hz, ht⟩ := Na.digs_facts l
 have hdl : (Na.digs (Na.val l)).length ≤ l.length := hK
 generalize hK0 : (Na.digs (Na.val l)).length = K at *
 have HV := Lib.hid hv
 have HD := Lib.hid hd
 have HZ := Lib.hid hz
 have HT := Lib.hid ht
 obtain ⟨a, cap, rfl⟩ := hv.shape
 clear hv hd hz ht hK0
 go_enter Tryz.func132, Tryz.ntmps132
 go_wp2_with fail
 go_loop [3] (fun i => ∃ k : Nat, K ≤ k ∧ k ≤ l.length ∧ i = .int .i64 k) (fun i => (intOf i).toNat)
 case atStart => exact ⟨l.length, hK, Nat.le_refl _, rfl⟩
 case round =>
  obtain ⟨k, hk1, hk2, rfl⟩ := hrel
  by_cases hkK : K < k
  ·obtain ⟨j, rfl⟩ : ∃ j, k = j + 1 := ⟨k - 1, by omega⟩
   obtain ⟨b, o, c, hsv, hbb, hlc, hm, hc⟩ := row_some HV.out rfl (by omega)
   simp only [Value.slice.injEq] at hsv
   obtain ⟨rfl, -, -⟩ := hsv
   have hck := hc j (by omega)
   rw [HZ.out j (by omega) (by omega)] at hck
   clear hc
   go_wp2
   go_round
   case rel => exact ⟨j, by omega, by omega, by go_num⟩
   case measure => simp [intOf]
  ·obtain rfl : k = K := by omega
   clear hkK hk1
   obtain ⟨D, HD1, HDL, HG⟩ : ∃ D : List UInt32, Hid (Na.digs (Na.val l) = D) ∧ Hid (D.length = k) ∧ Hid (∀ i (h : i < D.length) (h2 : i < l.length), D[i] = l[i]) :=
    ⟨l.take k, HD.out, by show _ = _; simp; omega, fun i h h2 => by simp⟩
   have hDl : D.length ≤ 1000000000 := by rw [HDL.out]; omega
   clear HD
   rcases k with _ | j
   case' succ =>
    obtain ⟨b, o, c, hsv, hbb, hlc, hm, hc⟩ := row_some HV.out rfl (by omega)
    simp only [Value.slice.injEq] at hsv
    obtain ⟨rfl, -, -⟩ := hsv
    have hck := hc j (by omega)
    clear hc
    have hzb : ((l[j].toNat : Int) == 0) = false := by
     rw [beq_eq_false_iff_ne]; intro e; exact HT.out j (by omega) rfl (UInt32.toNat_inj.1 (by simp; omega))
   all_goals
    go_wp2_with fail
    go_loopw [4, 5] (fun g i wr => ∃ q : Nat, i = .int .i64 q ∧ q ≤ D.length ∧ wr.ownsRow w.heap.size 103 1 g q ((D.take q).map u32v) ∧ Ext w wr) (fun _ i _ => D.length - (intOf i).toNat)
    case atStart => exact ⟨0, rfl, Nat.zero_le _, World.ownsRow_lit w #[] 0 (Nat.le_refl _) (Nat.zero_le _) rfl, below_alloc _ _⟩
    case round =>
     obtain ⟨q, rfl, hq, hown, hbel⟩ := hrel
     by_cases hlt : q < D.length
     ·have hlt2 := Nat.lt_of_lt_of_eq hlt HDL.out
      try exact absurd hlt2 (Nat.not_lt_zero _)
      all_goals
       have hlt3 : q < l.length := by omega
       obtain ⟨b, o, c, hsv, hbb, hlc, hm, hc⟩ := row_some HV.out rfl (by omega)
       simp only [Value.slice.injEq] at hsv
       obtain ⟨hsv, -, -⟩ := hsv
       first | cases hsv | skip
       have hckq : wr.cell? ⟨b, o + q, none⟩ = some (u32v D[q]) := by rw [hbel.cell (p := ⟨b, o + q, none⟩) hbb, HG.out q hlt hlt3]; exact hc q hlt3
       clear hc
       have HS : Hid (D.take (q + 1) = D.take q ++ [D[q]]) := take_snoc D q hlt
       have hr := raw_one wr (u32v D[q]) 103 rfl
       have hown' := hown.alloc (.cells #[u32v D[q]] 103)
       have hsz : w.heap.size ≤ wr.heap.size := hbel.size
       have hsz' : w.heap.size ≤ (wr.alloc (.cells #[u32v D[q]] 103)).heap.size := by simp; omega
       have h63 : q + 1 ≤ maxLen := by unfold maxLen; omega
       have hby : (q + 1) * 4 ≤ 140737488355328 := by omega
       clear hown
       go_wp2_with (at_builtin; refine wpList_append_raw rfl _ _ _ rfl tyU32 w.heap.size hown' rfl hr rfl h63 hby hsz' ?_; intro v2 w2 hown2 hg)
       go_roundw
       case rel =>
        refine ⟨q + 1, by go_num, by omega, ?_, (hbel.alloc hsz _).grown hg hsz' (fun k hk => (World.ownsRow.lt hown' k hk).1)⟩
        rw [HS.out, List.map_append]; exact hown2
       case measure => simp [intOf]; omega
     ·obtain rfl : q = D.length := by omega
      have hge := Nat.le_of_eq HDL.out.symm
      rw [List.take_length] at hown
      go_wp2_with fail
      go_ret
      exact ⟨_, rfl, by rw [HD1.out]; exact hown, hbel⟩
theorem refDigit_any (v : Value) (l : List UInt32) (i : Nat) (w : World) (hv : IsU32s w v l) (hi : i ≤ 9223372036854775807) :
  Calls Tryz.prog 184 #[v, .int .i64 i] w fun e w' => e = .returned (.int .u64 ((l.getD i 0).toNat : Int)) ∧ w = w' := by
 obtain ⟨a, cap, rfl, hm, ha⟩ := hv
 have hl := row_len hm ha
 have HA := Lib.hid ha
 clear ha
 have h0 : ¬ (i : Int) < 0 := by omega
 by_cases hlt : i < l.length
 ·rcases HA.out with ⟨rfl, _⟩ | ⟨b, o, rfl, hb, hlc, hc⟩
  ·simp at hlt
  have hck := hc i hlt
  clear hc
  have e : l.getD i 0 = l[i] := by simp [List.getD, List.getElem?_eq_getElem hlt]
  rw [e]
  go_enter Tryz.func184, Tryz.ntmps184
  go_wp2
  go_ret
  exact ⟨ret_int (wrap32_64 _), rfl⟩
 ·have e : l.getD i 0 = 0 := by simp [List.getD, List.getElem?_eq_none (Nat.le_of_not_lt hlt)]
  rw [e]
  go_enter Tryz.func184, Tryz.ntmps184
  go_wp2
  go_ret
  exact ⟨rfl, rfl⟩
theorem refCmp_any (v u : Value) (l m : List UInt32) (w : World) (hv : IsU32s w v l) (hu : IsU32s w u m) :
  Calls Tryz.prog 185 #[v, u] w fun e w' => e = .returned (.int .i64 (cmpI (Na.val l) (Na.val m))) ∧ Ext w w' := by
 have hl := hv.len
 have hm := hu.len
 unfold maxLen at hl hm
 have HV := Lib.hid hv
 have HU := Lib.hid hu
 obtain ⟨a1, c1, rfl⟩ := hv.shape
 obtain ⟨a2, c2, rfl⟩ := hu.shape
 clear hv hu
 obtain ⟨M, hM⟩ : ∃ M, M = max l.length m.length := ⟨_, rfl⟩
 have hmax : max (l.length : Int) (m.length : Int) = (M : Int) := by omega
 have hM1 : M ≤ 9223372036854775807 := by omega
 have HE : Hid (Na.val (l.drop M) = Na.val (m.drop M)) := by
  show _ = _
  rw [List.drop_eq_nil_of_le (by omega), List.drop_eq_nil_of_le (by omega)]
 clear hM
 go_enter Tryz.func185, Tryz.ntmps185
 go_wp2_with fail
 clear hmax
 go_loopw [5] (fun i wr => ∃ k : Nat, k ≤ M ∧ i = .int .i64 ((k : Int) - 1) ∧ Na.val (l.drop k) = Na.val (m.drop k) ∧ Ext w wr) (fun i _ => (intOf i + 1).toNat)
 case atStart => exact ⟨M, Nat.le_refl _, rfl, HE.out, Below.refl _ _⟩
 case round =>
  obtain ⟨k, hk, rfl, hd, hbel⟩ := hrel
  have HDr := Lib.hid hd
  clear hd
  cases k with
  | zero =>
   have hr := Lib.hid (cmpI_eq (show Na.val l = Na.val m from HDr.out))
   go_wp2_with fail
   go_ret
   exact ⟨by rw [hr.out]; rfl, hbel⟩
  | succ j =>
   have hi : (((j + 1 : Nat) : Int) - 1) = (j : Int) := by omega
   rw [hi]
   clear hi
   have d0 := refDigit_any _ l j wr (HV.out.below hbel) (by omega)
   have d1 := refDigit_any _ m j wr (HU.out.below hbel) (by omega)
   have hlt := @Na.cmp_at l m j HDr.out
   have hgt := @Na.cmp_at m l j HDr.out.symm
   have heq := @Na.eq_at l m j HDr.out
   have g0 := (l.getD j 0).toNat_lt
   have g1 := (m.getD j 0).toNat_lt
   generalize (l.getD j 0).toNat = x at *
   generalize (m.getD j 0).toNat = y at *
   have D0 := Lib.hid d0
   have D1 := Lib.hid d1
   clear d0 d1
   rcases Nat.lt_trichotomy x y with h | h | h
   ·have hr := Lib.hid (cmpI_lt (hlt h))
    have h' : (x : Int) < y := by omega
    clear hlt hgt heq h
    go_wp2_with fail
    refine D0.out.mono ?_
    rintro e w' ⟨rfl, rfl⟩
    go_wp2_with fail
    refine D1.out.mono ?_
    rintro e w' ⟨rfl, rfl⟩
    go_wp2_with fail
    go_ret
    exact ⟨by rw [hr.out]; rfl, hbel⟩
   ·have HQ := Lib.hid (heq h)
    have h1' : ¬ (x : Int) < y := by omega
    have h2' : ¬ (y : Int) < x := by omega
    clear hlt hgt heq h
    go_wp2_with fail
    refine D0.out.mono ?_
    rintro e w' ⟨rfl, rfl⟩
    go_wp2_with fail
    refine D1.out.mono ?_
    rintro e w' ⟨rfl, rfl⟩
    go_wp2_with fail
    refine D0.out.mono ?_
    rintro e w' ⟨rfl, rfl⟩
    go_wp2_with fail
    refine D1.out.mono ?_
    rintro e w' ⟨rfl, rfl⟩
    go_wp2_with fail
    go_roundw
    case rel => exact ⟨j, by omega, rfl, HQ.out, hbel⟩
    case measure => simp [intOf]
   ·have hr := Lib.hid (cmpI_gt (hgt h))
    have h1' : ¬ (x : Int) < y := by omega
    have h2' : (y : Int) < x := by omega
    clear hlt hgt heq h
    go_wp2_with fail
    refine D0.out.mono ?_
    rintro e w' ⟨rfl, rfl⟩
    go_wp2_with fail
    refine D1.out.mono ?_
    rintro e w' ⟨rfl, rfl⟩
    go_wp2_with fail
    refine D0.out.mono ?_
    rintro e w' ⟨rfl, rfl⟩
    go_wp2_with fail
    refine D1.out.mono ?_
    rintro e w' ⟨rfl, rfl⟩
    go_wp2_with fail
    go_ret
    exact ⟨by rw [hr.out]; rfl, hbel⟩
end Go.Proofs.YtcohmdeoocgmdaaGreatDoor
/- Walks of the reference on natural numbers: Add, Times, Sub. -/
namespace Go.Proofs.YtcohmdeoocgmdaaGreatDoor
open Go.RowKit
variable {α : Type}
theorem dgI (n : Nat) : (n : Int) % 4294967296 = ((UInt32.ofNat n).toNat : Int) := by simp
theorem dvI (n : Nat) : (n : Int) / 4294967296 = ((n / Na.B : Nat) : Int) := by simp [Na.B]
theorem own_row' {f : α → Value} {w : World} {base n : Nat} {e : TypeId} {v : Value} {l : List α} (hn : l.length = n) (h : w.ownsRow base e 1 v n (l.map f)) : IsRowOf f w v l := by
 subst hn; exact ownsRow_row h
theorem B_eq : Na.B = 4294967296 := rfl
theorem refTimes_any (v : Value) (l : List UInt32) (D : Nat) (w : World) (hv : IsU32s w v l) (hD : D < 4294967296) (hl : l.length ≤ 100000000) :
  Calls Tryz.prog 203 #[v, .int .u64 D] w fun e w' => ∃ v', e = .returned v' ∧ OwnU w.heap.size w' v' (Na.digs (Na.val l * D)) ∧ Ext w w' := by
 have HV := Lib.hid hv
 obtain ⟨a1, c1, rfl⟩ := hv.shape
 clear hv
 go_enter Tryz.func203, Tryz.ntmps203
 go_wp2_with fail
 go_loopw [5, 6, 7, 8] (fun g cv iv _ wr => ∃ (i c : Nat) (out : List UInt32), i ≤ l.length ∧ iv = .int .i64 i ∧ cv = .int .u64 c ∧ c < 4294967296 ∧ out.length = i ∧ Na.val out + Na.B ^ i * c = Na.val (l.take i) * D ∧
   wr.ownsRow w.heap.size 103 1 g i (out.map u32v) ∧ Ext w wr) (fun _ _ iv _ _ => l.length - (intOf iv).toNat)
 case atStart => exact ⟨0, 0, [], Nat.zero_le _, rfl, rfl, by omega, rfl, by simp [Na.val], World.ownsRow_lit w #[] 0 (Nat.le_refl _) (Nat.zero_le _) rfl, below_alloc _ _⟩
 case round =>
  obtain ⟨i, c, out, hi, rfl, rfl, hc, hol, hval, hown, hbel⟩ := hrel
  have HOL := Lib.hid hol
  have HVAL := Lib.hid hval
  have hsz : w.heap.size ≤ wr.heap.size := hbel.size
  have h63 : i + 1 ≤ maxLen := by unfold maxLen; omega
  have hby : (i + 1) * 4 ≤ 140737488355328 := by omega
  clear hol hval
  by_cases hlt : i < l.length
  ·obtain ⟨bx, ox, cx, hxs, hbx, hlx, hmx, hcx⟩ := row_some HV.out rfl (by omega)
   simp only [Value.slice.injEq] at hxs
   obtain ⟨rfl, -, -⟩ := hxs
   have hck : wr.cell? ⟨bx, ox + i, none⟩ = some (u32v l[i]) := by rw [hbel.cell (p := ⟨bx, ox + i, none⟩) hbx]; exact hcx i hlt
   clear hcx
   have T0 := Lib.hid (Na.val_take_succ l i hlt)
   generalize l[i] = x at *
   have g0 := x.toNat_lt
   have x0 := wrap32_64 x
   obtain ⟨t, ht⟩ : ∃ t, t = x.toNat * D := ⟨_, rfl⟩
   have hmul : IntKind.u64.wrap ((x.toNat : Int) * (D : Int)) = (t : Int) := by
    have h1 : x.toNat * D ≤ 4294967295 * 4294967295 := Nat.mul_le_mul (by omega) (by omega)
    rw [ht, ← wrapNat64 (x.toNat * D) (by omega)]; simp
   have htb : t ≤ 18446744065119617025 := by rw [ht]; exact Nat.mul_le_mul (show x.toNat ≤ 4294967295 by omega) (show D ≤ 4294967295 by omega)
   obtain ⟨n, hn⟩ : ∃ n, n = t + c := ⟨_, rfl⟩
   have hsum : IntKind.u64.wrap ((t : Int) + (c : Int)) = (n : Int) := by rw [hn, ← wrapNat64 (t + c) (by omega)]; simp
   have hnb : n < 18446744073709551616 := by omega
   have hmod : (n : Int) % 4294967296 = ((UInt32.ofNat n).toNat : Int) := dgI n
   have hdiv : (n : Int) / 4294967296 = ((n / Na.B : Nat) : Int) := dvI n
   have hc' : n / Na.B < 4294967296 := Nat.div_lt_of_lt_mul hnb
   have HST := Lib.hid (Na.step_up HOL.out HVAL.out hn)
   rw [ht] at HST
   generalize hq : n / Na.B = c' at *
   obtain ⟨d, hd⟩ : ∃ d, UInt32.ofNat n = d := ⟨_, rfl⟩
   rw [hd] at hmod HST
   have hr := raw_one wr (u32v d) 103 rfl
   have hown' := hown.alloc (.cells #[u32v d] 103)
   have hsz' : w.heap.size ≤ (wr.alloc (.cells #[u32v d] 103)).heap.size := by simp; omega
   clear hown hn hq hd ht hnb
   go_wp2_with (at_builtin; refine wpList_append_raw rfl _ _ _ rfl tyU32 w.heap.size hown' rfl hr rfl h63 hby hsz' ?_; intro v2 w2 hown2 hg)
   go_roundw
   case rel =>
    refine ⟨i + 1, c', out ++ [d], by omega, by go_num, rfl, hc', by simp [HOL.out], ?_, by rw [List.map_append]; exact hown2, (hbel.alloc hsz _).grown hg hsz' (fun k hk => (World.ownsRow.lt hown' k hk).1)⟩
    rw [HST.out, T0.out, Nat.add_mul, Nat.mul_assoc]
   case measure => simp [intOf]; omega
  ·obtain rfl : i = l.length := by omega
   obtain ⟨d, rfl⟩ : ∃ d : UInt32, c = d.toNat := ⟨UInt32.ofNat c, (ofNat_small (by omega)).symm⟩
   have hdl := d.toNat_lt
   have hdm : (d.toNat : Int) % 4294967296 = (d.toNat : Int) := by omega
   have HD : Hid (Na.val (out ++ [d]) = Na.val l * D) := by
    show _ = _
    rw [Na.val_snoc, HOL.out, HVAL.out, List.take_length]
   have HDL : Hid ((out ++ [d]).length = l.length + 1) := by show _ = _; simp [HOL.out]
   have HMM : Hid ((out ++ [d]).map u32v = out.map u32v ++ [u32v d]) := by show _ = _; simp
   have hr := raw_one wr (u32v d) 103 rfl
   have hown' := hown.alloc (.cells #[u32v d] 103)
   have hsz' : w.heap.size ≤ (wr.alloc (.cells #[u32v d] 103)).heap.size := by simp; omega
   clear hown
   go_wp2_with (at_builtin; refine wpList_append_raw rfl _ _ _ rfl tyU32 w.heap.size hown' rfl hr rfl h63 hby hsz' ?_; intro v2 w2 hown2 hg)
   have hb2 := (hbel.alloc hsz _).grown hg hsz' (fun k hk => (World.ownsRow.lt hown' k hk).1)
   have HR := Lib.hid (refNormalize_any v2 (out ++ [d]) w2 (ownsRow_row (by rw [HDL.out, HMM.out]; exact hown2)) (by rw [HDL.out]; omega))
   rw [HD.out] at HR
   have HB2 := Lib.hid hb2
   clear hown2 hg hb2
   go_wp2_with fail
   refine HR.out.mono ?_
   rintro e w' ⟨v', rfl, ho, hb⟩
   have HO := Lib.hid (ownsRow_mono ho HB2.out.size)
   have HB := Lib.hid (Ext.trans' HB2.out hb)
   clear ho hb
   go_wp2_with fail
   go_ret
   exact ⟨_, rfl, HO.out, HB.out⟩
theorem sub_end {A C E lent o : Nat} (h : A + E * lent = o + C) (hle : C ≤ A) (ho : o < E) : o = A - C := by
 rcases Nat.eq_zero_or_pos lent with h0 | h0
 ·subst h0; omega
 ·have : E * 1 ≤ E * lent := Nat.mul_le_mul_left _ h0
  omega
theorem refSub_any (v u : Value) (l m : List UInt32) (w : World) (hv : IsU32s w v l) (hu : IsU32s w u m) (hl : l.length ≤ 100000000) (hle : Na.val m ≤ Na.val l) :
  Calls Tryz.prog 161 #[v, u] w fun e w' => ∃ v', e = .returned (.tuple #[v', .bool true]) ∧ OwnU w.heap.size w' v' (Na.digs (Na.val l - Na.val m)) ∧ Ext w w' := by
 have HV := Lib.hid hv
 have HU := Lib.hid hu
 have HC := Lib.hid (refCmp_any v u l m w hv hu)
 obtain ⟨a1, c1, rfl⟩ := hv.shape
 obtain ⟨a2, c2, rfl⟩ := hu.shape
 have hcp : ¬ cmpI (Na.val l) (Na.val m) < 0 := by
  unfold cmpI; rw [if_neg (by omega)]; split <;> omega
 generalize cmpI (Na.val l) (Na.val m) = C at *
 have HLE := Lib.hid hle
 clear hv hu hle
 go_enter Tryz.func161, Tryz.ntmps161
 go_wp2_with fail
 refine HC.out.mono ?_
 rintro e w1 ⟨rfl, hb1⟩
 have HB1 := Lib.hid hb1
 have hs1 := hb1.size
 clear hb1 HC
 go_wp2_with fail
 clear hcp
 go_loopw [6, 7, 8, 9] (fun g cv iv _ wr => ∃ (i c : Nat) (out : List UInt32), i ≤ l.length ∧ iv = .int .i64 i ∧ cv = .int .u64 c ∧ c ≤ 1 ∧ out.length = i ∧ Na.val (l.take i) + Na.B ^ i * c = Na.val out + Na.val (m.take i) ∧
   wr.ownsRow w.heap.size 103 1 g i (out.map u32v) ∧ Ext w wr) (fun _ _ iv _ _ => l.length - (intOf iv).toNat)
 case atStart => exact ⟨0, 0, [], Nat.zero_le _, rfl, rfl, by omega, rfl, by simp [Na.val], World.ownsRow_lit w1 #[] 0 hs1 (Nat.zero_le _) rfl, Ext.trans' HB1.out (below_alloc _ _)⟩
 case round =>
  obtain ⟨i, c, out, hi, rfl, rfl, hc, hol, hval, hown, hbel⟩ := hrel
  have HOL := Lib.hid hol
  have HVAL := Lib.hid hval
  have hsz : w.heap.size ≤ wr.heap.size := hbel.size
  have h63 : i + 1 ≤ maxLen := by unfold maxLen; omega
  have hby : (i + 1) * 4 ≤ 140737488355328 := by omega
  clear hol hval
  by_cases hlt : i < l.length
  ·have d0 := refDigit_any _ l i wr (HV.out.below hbel) (by omega)
   have d1 := refDigit_any _ m i wr (HU.out.below hbel) (by omega)
   have g0 := (l.getD i 0).toNat_lt
   have g1 := (m.getD i 0).toNat_lt
   have t0 := Na.val_take_succ' l i
   have t1 := Na.val_take_succ' m i
   generalize (l.getD i 0).toNat = x at *
   generalize (m.getD i 0).toNat = y at *
   have D0 := Lib.hid d0
   have D1 := Lib.hid d1
   have T0 := Lib.hid t0
   have T1 := Lib.hid t1
   obtain ⟨n, hn⟩ : ∃ n, n = 4294967296 + x - y - c := ⟨_, rfl⟩
   have hmod : ((4294967296 : Int) + x - y - c) % 4294967296 = ((UInt32.ofNat n).toNat : Int) := by rw [← dgI, hn]; omega
   have hdiv : ((4294967296 : Int) + x - y - c) / 4294967296 = ((n / Na.B : Nat) : Int) := by rw [← dvI, hn]; omega
   have hq1 : n / Na.B ≤ 1 := by rw [hn, B_eq]; omega
   have hlent : x + Na.B * (1 - n / Na.B) = n % Na.B + y + c := by rw [hn, B_eq]; omega
   have HST := Lib.hid (Na.step_down HOL.out HVAL.out hlent)
   generalize n / Na.B = q at *
   obtain ⟨d, hd⟩ : ∃ d, UInt32.ofNat n = d := ⟨_, rfl⟩
   rw [hd] at hmod HST
   have hq2 : (1 : Int) - (q : Int) = ((1 - q : Nat) : Int) := by omega
   have hr := raw_one wr (u32v d) 103 rfl
   have hown' := hown.alloc (.cells #[u32v d] 103)
   have hsz' : w.heap.size ≤ (wr.alloc (.cells #[u32v d] 103)).heap.size := by simp; omega
   have HQ2 := Lib.hid hq2
   clear hown d0 d1 t0 t1 hn hd hlent hq2
   go_wp2_with fail
   refine D0.out.mono ?_
   rintro e w' ⟨rfl, rfl⟩
   go_wp2_with fail
   refine D1.out.mono ?_
   rintro e w' ⟨rfl, rfl⟩
   go_wp2_with (at_builtin; refine wpList_append_raw rfl _ _ _ rfl tyU32 w.heap.size hown' rfl hr rfl h63 hby hsz' ?_; intro v2 w2 hown2 hg)
   go_roundw
   case rel =>
    refine ⟨i + 1, 1 - q, out ++ [d], by omega, by go_num, by rw [HQ2.out], by omega, by simp [HOL.out], ?_, by rw [List.map_append]; exact hown2, (hbel.alloc hsz _).grown hg hsz' (fun k hk => (World.ownsRow.lt hown' k hk).1)⟩
    rw [T0.out, T1.out, HST.out]
   case measure => simp [intOf]; omega
  ·obtain rfl : i = l.length := by omega
   have hml : Na.val (m.take l.length) = Na.val m := Na.val_take_all (Nat.lt_of_le_of_lt HLE.out (Na.val_lt l))
   have HD : Hid (Na.val out = Na.val l - Na.val m) := by
    have h := HVAL.out
    rw [List.take_length, hml] at h
    exact sub_end h HLE.out (by have := Na.val_lt out; rw [HOL.out] at this; exact this)
   have hrow := own_row' HOL.out hown
   have HR := Lib.hid (refNormalize_any _ out wr hrow (by rw [HOL.out]; omega))
   rw [HD.out] at HR
   have HB2 := Lib.hid hbel
   clear hown hbel hml hrow
   go_wp2_with fail
   refine HR.out.mono ?_
   rintro e w' ⟨v', rfl, ho, hb⟩
   have HO := Lib.hid (ownsRow_mono ho HB2.out.size)
   have HB := Lib.hid (Ext.trans' HB2.out hb)
   clear ho hb
   go_wp2_with fail
   go_ret2
   exact ⟨_, rfl, HO.out, HB.out⟩
end Go.Proofs.YtcohmdeoocgmdaaGreatDoor
/- Walks of the reference on natural numbers: often (a digit of a quotient). -/
namespace Go.Proofs.YtcohmdeoocgmdaaGreatDoor
open Go.RowKit
variable {α : Type}
theorem often_any (v u : Value) (l m : List UInt32) (n : Nat) (w : World) (hv : IsU32s w v l) (hu : IsU32s w u m) (hm : m.length = n + 1) (hnz0 : 0 < (m.getD n 0).toNat) (hlt : Na.val l < Na.B * Na.val m) (hl : l.length ≤ 100000000) (hn : n ≤ 10000000) :
  Calls Tryz.prog 183 #[v, u] w fun e w' => ∃ v', e = .returned (.tuple #[.int .u64 ((Na.val l / Na.val m : Nat) : Int), v']) ∧ OwnU w.heap.size w' v' (Na.digs (Na.val l % Na.val m)) ∧ Ext w w' := by
 have HV := Lib.hid hv
 have HU := Lib.hid hu
 obtain ⟨a1, c1, rfl⟩ := hv.shape
 obtain ⟨bx, ox, cx, rfl, hbx, hlx, hmx, hcx⟩ := row_some hu hm (by omega)
 have e : m.getD n 0 = m[n]'(by omega) := by simp [List.getD, List.getElem?_eq_getElem (show n < m.length by omega)]
 have D1 : Hid (∀ nq, Calls Tryz.prog 184 #[.slice a1 l.length c1, .int .i64 ((n : Int) + 1)] (w.drewN nq) fun e w' => e = .returned (.int .u64 ((l.getD (n + 1) 0).toNat : Int)) ∧ w' = w.drewN nq) := fun nq =>
  (refDigit_any _ l (n + 1) _ (HV.out.below (below_drewN (Below.refl _ _) nq)) (by omega)).mono fun _ _ h => ⟨h.1, h.2.symm⟩
 have D0 : Hid (∀ nq, Calls Tryz.prog 184 #[.slice a1 l.length c1, .int .i64 (n : Int)] (w.drewN nq) fun e w' => e = .returned (.int .u64 ((l.getD n 0).toNat : Int)) ∧ w' = w.drewN nq) := fun nq =>
  (refDigit_any _ l (n) _ (HV.out.below (below_drewN (Below.refl _ _) nq)) (by omega)).mono fun _ _ h => ⟨h.1, h.2.symm⟩
 obtain ⟨hest, hest2, hVp⟩ := Na.est_digits hm hnz0 hlt
 rw [e] at hest hnz0
 have hml : Na.val m < Na.B ^ (n + 1) := by have := Na.val_lt m; rw [hm] at this; exact this
 have hck := hcx n (by omega)
 generalize m[n]'(by omega) = t at *
 have g0 := (l.getD n 0).toNat_lt
 have g1 := (l.getD (n + 1) 0).toNat_lt
 generalize (l.getD n 0).toNat = x0 at *
 generalize (l.getD (n + 1) 0).toNat = x1 at *
 obtain ⟨T1, hT1⟩ : ∃ T1, T1 = x1 * 4294967296 := ⟨_, rfl⟩
 obtain ⟨T, hT⟩ : ∃ T, T = T1 + x0 := ⟨_, rfl⟩
 obtain ⟨q, hq⟩ : ∃ q, q = T / t.toNat := ⟨_, rfl⟩
 have k1 : IntKind.i64.wrap (n : Int) = (n : Int) := IntWalk.i64_in _ (by omega)
 have k2 : IntKind.u64.wrap ((x1 : Int) * 4294967296) = (T1 : Int) := by rw [IntKind.wrap_u64, hT1]; omega
 have k3 : IntKind.u64.wrap ((T1 : Int) + (x0 : Int)) = (T : Int) := by rw [IntKind.wrap_u64, hT]; omega
 have k4 := wrap32_64 t
 have k5 : (T : Int).tdiv (t.toNat : Int) = (q : Int) := by rw [tdiv_nat, hq]
 have k6 : IntKind.u64.wrap (q : Int) = (q : Int) := by
  have : q ≤ T := by rw [hq]; exact Nat.div_le_self _ _
  rw [IntKind.wrap_u64]; omega
 have k7 : ((t.toNat : Int) == 0) = false := by rw [beq_eq_false_iff_ne]; omega
 rw [← hT1, ← hT, ← hq] at hest
 obtain ⟨d0, hd0⟩ : ∃ d0, d0 = min q 4294967295 := ⟨_, rfl⟩
 have k8 : min (q : Int) 4294967295 = (d0 : Int) := by omega
 have hd0b : d0 < 4294967296 := by omega
 have hd1 : Na.val l / Na.val m ≤ d0 := by omega
 have HQ := Lib.hid hq
 have HT := Lib.hid hT
 have HT1 := Lib.hid hT1
 have HLT := Lib.hid hlt
 have HD1 := Lib.hid hd1
 have HML := Lib.hid hml
 have HVP := Lib.hid hVp
 clear hv hu hcx e hT1 hT hq hest hest2 hd0 hd1 hlt hml hVp HQ HT HT1
 go_enter Tryz.func183, Tryz.ntmps183
 go_wp2_with fail
 have K8 := Lib.hid k8
 clear k8
 go_quiet ((first | with_reducible exact Calls.quiet_of_same (D1.out _) | with_reducible exact Calls.quiet_of_same (D0.out _)))
 clear k1 k2 k3 k4 k5 k6 k7
 have k8 := K8.out
 go_wp2_with fail
 clear k8
 refine (refTimes_any _ m d0 _ (HU.out.below (below_drewN (Below.refl _ _) nq)) hd0b (by omega)).mono ?_
 rintro e w1 ⟨p, rfl, ho, hb⟩
 have HB := Lib.hid (Ext.trans' (below_drewN (Below.refl w.heap.size w) nq) hb)
 have HP := Lib.hid (ownsRow_row ho)
 clear ho hb
 go_wp2_with fail
 go_loopw [8, 9] (fun dv p wr => ∃ d : Nat, dv = .int .u64 d ∧ d < 4294967296 ∧ Na.val l / Na.val m ≤ d ∧ IsU32s wr p (Na.digs (Na.val m * d)) ∧ Ext w wr) (fun dv _ _ => (intOf dv).toNat)
 case atStart => exact ⟨d0, rfl, hd0b, HD1.out, HP.out, HB.out⟩
 case round =>
  obtain ⟨d, rfl, hd, hqd, hp, hbel⟩ := hrel
  have hlen : (Na.digs (Na.val m * d)).length ≤ n + 2 := by
   apply Na.digs_length_le
   rw [Nat.pow_succ]
   exact Nat.mul_lt_mul'' HML.out hd
  have HC := Lib.hid (refCmp_any _ _ _ _ wr hp (HV.out.below hbel))
  rw [Na.val_digs] at HC
  by_cases h : Na.val l < Na.val m * d
  ·obtain ⟨f1, f2, f3, f4⟩ := Na.down_step hqd h HVP.out
   rw [cmpI_gt h] at HC
   have HS := Lib.hid (fun w1 (h1 : Ext wr w1) => refSub_any _ _ _ _ w1 (hp.below h1) (HU.out.below (Ext.trans' hbel h1)) (by omega) (by rw [Na.val_digs]; exact f4))
   rw [Na.val_digs, f3] at HS
   have hdz : 1 ≤ d := f1
   have hd1 : ((d - 1 : Nat) : Int) = (d : Int) - 1 := by omega
   have HD1 := Lib.hid hd1
   have HF2 := Lib.hid f2
   have HBEL := Lib.hid hbel
   clear hp hbel hqd f1 f2 f3 f4 h hd1 hlen
   go_wp2_with fail
   refine HC.out.mono ?_
   rintro e w2 ⟨rfl, hb2⟩
   have HS2 := Lib.hid (HS.out w2 hb2)
   have HB2 := Lib.hid (Ext.trans' HBEL.out hb2)
   clear hb2 HS HC
   go_wp2_with fail
   refine HS2.out.mono ?_
   rintro e w3 ⟨p', rfl, ho, hb3⟩
   have HO := Lib.hid (ownsRow_row ho)
   have HB3 := Lib.hid (Ext.trans' HB2.out hb3)
   clear ho hb3 HS2
   go_wp2_with fail
   go_roundw
   case rel => exact ⟨d - 1, by rw [HD1.out], by omega, HF2.out, HO.out, HB3.out⟩
   case measure => simp [intOf]; omega
  ·have hle : Na.val m * d ≤ Na.val l := by omega
   obtain ⟨f1, f2⟩ := Na.down_digit hqd hle HVP.out
   have hcp : ¬ (0 : Int) < cmpI (Na.val m * d) (Na.val l) := by
    unfold cmpI; rw [if_neg h]; split <;> omega
   have HS := Lib.hid (fun w1 (h1 : Ext wr w1) => refSub_any _ _ _ _ w1 (HV.out.below (Ext.trans' hbel h1)) (hp.below h1) hl (by rw [Na.val_digs]; exact hle))
   rw [Na.val_digs, f2] at HS
   have HF1 := Lib.hid f1
   have HBEL := Lib.hid hbel
   generalize cmpI (Na.val m * d) (Na.val l) = cc at *
   clear hp hbel hqd f1 f2 h hle hlen
   go_wp2_with fail
   refine HC.out.mono ?_
   rintro e w2 ⟨rfl, hb2⟩
   have HS2 := Lib.hid (HS.out w2 hb2)
   have HB2 := Lib.hid (Ext.trans' HBEL.out hb2)
   clear hb2 HS HC
   go_wp2_with fail
   refine HS2.out.mono ?_
   rintro e w3 ⟨p', rfl, ho, hb3⟩
   have HO := Lib.hid (ownsRow_mono ho HB2.out.size)
   have HB3 := Lib.hid (Ext.trans' HB2.out hb3)
   clear ho hb3 HS2
   go_wp2_with fail
   go_ret2
   exact ⟨_, by rw [← HF1.out]; rfl, HO.out, HB3.out⟩
end Go.Proofs.YtcohmdeoocgmdaaGreatDoor
/- Walks of the reference on natural numbers: up, Shift, BitLen. -/
namespace Go.Proofs.YtcohmdeoocgmdaaGreatDoor
open Go.RowKit
variable {α : Type}
theorem ownU_sh {w : World} {base : Nat} {e : TypeId} {size : Nat} {v : Value} {n : Nat} {xs : List Value} (h : w.ownsRow base e size v n xs) : ∃ a cap, v = .slice a n cap := by
 rcases h.2 with ⟨hv, h0⟩ | ⟨g, cap, cur, hv, _⟩
 ·exact ⟨none, 0, by rw [hv, h0]⟩
 ·exact ⟨_, cap, hv⟩
theorem refUp_any (v : Value) (l : List UInt32) (p : Nat) (w : World) (hv : IsU32s w v l) (hp : p ≤ 31) (hl : l.length ≤ 100000000) :
  Calls Tryz.prog 202 #[v, .int .i64 p] w fun e w' => ∃ v', e = .returned v' ∧ OwnU w.heap.size w' v' (Na.digs (Na.val l * 2 ^ p)) ∧ Ext w w' := by
 have HV := Lib.hid hv
 obtain ⟨a1, c1, rfl⟩ := hv.shape
 clear hv
 have hq32 : (p : Int) / 32 = 0 := by omega
 have hr32 : (p : Int) % 32 = (p : Int) := by omega
 have h630 : 0 ≤ maxLen := Nat.zero_le _
 have hby0 : 4 * 0 ≤ 281474976710656 := by omega
 have hP : 2 ^ p ≤ 2147483648 := Nat.pow_le_pow_right (n := 2) (by omega) hp
 have hP0 := Nat.two_pow_pos p
 go_enter Tryz.func202, Tryz.ntmps202
 go_wp2_with (at_make; refine wpList_make_row rfl _ _ _ rfl tyU32 rfl w.heap.size 0 rfl rfl rfl hby0 h630 (Nat.le_refl _) ?_; intro w1 hown hg)
 have hb1 := below_made (Below.refl w.heap.size w) hg (Nat.le_refl _)
 have HO := Lib.hid hown
 clear hg hown
 go_loopw [5, 6, 7, 8] (fun g cv iv _ wr => ∃ (i c : Nat) (out : List UInt32), i ≤ l.length ∧ iv = .int .i64 i ∧ cv = .int .u64 c ∧ c < 2 ^ p ∧ out.length = i ∧ Na.val out + Na.B ^ i * c = Na.val (l.take i) * 2 ^ p ∧
   wr.ownsRow w.heap.size 103 1 g i (out.map u32v) ∧ Ext w wr) (fun _ _ iv _ _ => l.length - (intOf iv).toNat)
 case atStart => exact ⟨0, 0, [], Nat.zero_le _, rfl, rfl, hP0, rfl, by simp [Na.val], HO.out, hb1⟩
 case round =>
  obtain ⟨i, c, out, hi, rfl, rfl, hc, hol, hval, hown, hbel⟩ := hrel
  have HOL := Lib.hid hol
  have HVAL := Lib.hid hval
  have hsz : w.heap.size ≤ wr.heap.size := hbel.size
  have h63 : i + 1 ≤ maxLen := by unfold maxLen; omega
  have hby : (i + 1) * 4 ≤ 140737488355328 := by omega
  have hc32 : c < 4294967296 := by omega
  clear hol hval HO
  by_cases hlt : i < l.length
  ·obtain ⟨bx, ox, cx, hxs, hbx, hlx, hmx, hcx⟩ := row_some HV.out rfl (by omega)
   simp only [Value.slice.injEq] at hxs
   obtain ⟨rfl, -, -⟩ := hxs
   have hck : wr.cell? ⟨bx, ox + i, none⟩ = some (u32v l[i]) := by rw [hbel.cell (p := ⟨bx, ox + i, none⟩) hbx]; exact hcx i hlt
   clear hcx
   have T0 := Lib.hid (Na.val_take_succ l i hlt)
   generalize l[i] = x at *
   have g0 := x.toNat_lt
   have x0 := wrap32_64 x
   obtain ⟨t, ht⟩ : ∃ t, t = x.toNat * 2 ^ p := ⟨_, rfl⟩
   have ht1 : t ≤ 4294967295 * 2 ^ p := by rw [ht]; exact Nat.mul_le_mul_right _ (by omega)
   have hmul : IntKind.u64.wrap ((x.toNat : Int) * 2 ^ p) = (t : Int) := by
    rw [ht, ← wrapNat64 (x.toNat * 2 ^ p) (by omega)]; simp
   obtain ⟨n, hn⟩ : ∃ n, n = t + c := ⟨_, rfl⟩
   have hsum : IntKind.u64.wrap ((t : Int) + (c : Int)) = (n : Int) := by rw [hn, ← wrapNat64 (t + c) (by omega)]; simp
   have hmod : (n : Int) % 4294967296 = ((UInt32.ofNat n).toNat : Int) := dgI n
   have hdiv : (n : Int) / 4294967296 = ((n / Na.B : Nat) : Int) := dvI n
   have hc' : n / Na.B < 2 ^ p := Nat.div_lt_of_lt_mul (by rw [B_eq]; omega)
   have HST := Lib.hid (Na.step_up HOL.out HVAL.out hn)
   rw [ht] at HST
   generalize hq : n / Na.B = c' at *
   obtain ⟨d, hd⟩ : ∃ d, UInt32.ofNat n = d := ⟨_, rfl⟩
   rw [hd] at hmod HST
   have hr := raw_one wr (u32v d) 103 rfl
   have hown' := hown.alloc (.cells #[u32v d] 103)
   have hsz' : w.heap.size ≤ (wr.alloc (.cells #[u32v d] 103)).heap.size := by simp; omega
   clear hown hn hq hd ht ht1 hq32
   go_wp2_with (at_builtin; refine wpList_append_raw rfl _ _ _ rfl tyU32 w.heap.size hown' rfl hr rfl h63 hby hsz' ?_; intro v2 w2 hown2 hg)
   go_roundw
   case rel =>
    refine ⟨i + 1, c', out ++ [d], by omega, by go_num, rfl, hc', by simp [HOL.out], ?_, by rw [List.map_append]; exact hown2, (hbel.alloc hsz _).grown hg hsz' (fun k hk => (World.ownsRow.lt hown' k hk).1)⟩
    rw [HST.out, T0.out, Nat.add_mul, Nat.mul_assoc]
   case measure => simp [intOf]; omega
  ·obtain rfl : i = l.length := by omega
   obtain ⟨d, rfl⟩ : ∃ d : UInt32, c = d.toNat := ⟨UInt32.ofNat c, (ofNat_small (by omega)).symm⟩
   have hdl := d.toNat_lt
   have hdm : (d.toNat : Int) % 4294967296 = (d.toNat : Int) := by omega
   have HD : Hid (Na.val (out ++ [d]) = Na.val l * 2 ^ p) := by
    show _ = _
    rw [Na.val_snoc, HOL.out, HVAL.out, List.take_length]
   have HDL : Hid ((out ++ [d]).length = l.length + 1) := by show _ = _; simp [HOL.out]
   have HMM : Hid ((out ++ [d]).map u32v = out.map u32v ++ [u32v d]) := by show _ = _; simp
   have hr := raw_one wr (u32v d) 103 rfl
   have hown' := hown.alloc (.cells #[u32v d] 103)
   have hsz' : w.heap.size ≤ (wr.alloc (.cells #[u32v d] 103)).heap.size := by simp; omega
   clear hown
   go_wp2_with (at_builtin; refine wpList_append_raw rfl _ _ _ rfl tyU32 w.heap.size hown' rfl hr rfl h63 hby hsz' ?_; intro v2 w2 hown2 hg)
   have hb2 := (hbel.alloc hsz _).grown hg hsz' (fun k hk => (World.ownsRow.lt hown' k hk).1)
   have HR := Lib.hid (refNormalize_any v2 (out ++ [d]) w2 (ownsRow_row (by rw [HDL.out, HMM.out]; exact hown2)) (by rw [HDL.out]; omega))
   rw [HD.out] at HR
   have HB2 := Lib.hid hb2
   clear hown2 hg hb2
   go_wp2_with fail
   refine HR.out.mono ?_
   rintro e w' ⟨v', rfl, ho, hb⟩
   have HO := Lib.hid (ownsRow_mono ho HB2.out.size)
   have HB := Lib.hid (Ext.trans' HB2.out hb)
   clear ho hb
   go_wp2_with fail
   go_ret
   exact ⟨_, rfl, HO.out, HB.out⟩
theorem refShiftL_any (v : Value) (l : List UInt32) (p : Nat) (w : World) (hv : IsU32s w v l) (hp : p ≤ 31) (hl : l.length ≤ 100000000) :
  Calls Tryz.prog 182 #[v, .int .i64 p] w fun e w' => ∃ v', e = .returned v' ∧ OwnU w.heap.size w' v' (Na.digs (Na.val l * 2 ^ p)) ∧ Ext w w' := by
 have HC := Lib.hid (refUp_any v l p w hv hp hl)
 obtain ⟨a1, c1, rfl⟩ := hv.shape
 clear hv
 have hmin : min (p : Int) 4096 = (p : Int) := by omega
 have h0 : (0 : Int) ≤ (p : Int) := by omega
 go_enter Tryz.func182, Tryz.ntmps182
 go_wp2_with fail
 refine HC.out.mono ?_
 rintro e w' ⟨v', rfl, ho, hb⟩
 have HO := Lib.hid ho
 have HB := Lib.hid hb
 clear ho hb
 go_wp2_with fail
 go_ret
 exact ⟨_, rfl, HO.out, HB.out⟩
theorem refShiftR_any (v : Value) (l : List UInt32) (p : Nat) (w : World) (hv : IsU32s w v l) (hp : 0 < p) (hp2 : p ≤ 31) (hl : l.length ≤ 100000000) :
  Calls Tryz.prog 182 #[v, .int .i64 (-(p : Int))] w fun e w' => ∃ v', e = .returned v' ∧ OwnU w.heap.size w' v' (Na.digs (Na.val l / 2 ^ p)) ∧ Ext w w' := by
 have HV := Lib.hid hv
 obtain ⟨a1, c1, rfl⟩ := hv.shape
 clear hv
 have hneg : ¬ (0 : Int) ≤ -(p : Int) := by omega
 by_cases h0 : l.length = 0
 ·obtain rfl : l = [] := List.eq_nil_of_length_eq_zero h0
  have hlt : -(p : Int) < 0 := by omega
  clear h0
  go_enter Tryz.func182, Tryz.ntmps182
  go_wp2_with fail
  go_ret
  refine ⟨_, rfl, ?_, below_alloc _ _⟩
  rw [show Na.digs (Na.val [] / 2 ^ p) = [] by simp [Na.val, Na.digs, Na.digsF]]
  exact World.ownsRow_lit w #[] 0 (Nat.le_refl _) (Nat.zero_le _) rfl
 ·have hge : ¬ -(p : Int) < -32 * (l.length : Int) := by omega
  have hq32 : (p : Int) / 32 = 0 := by omega
  have hr32 : (p : Int) % 32 = (p : Int) := by omega
  have hsl := Na.shr_length p l
  have HS : Hid (Na.val (Na.shr p l) = Na.val l / 2 ^ p) := Na.shr_val p (by omega) l
  have HG : Hid (∀ i (h : i < l.length) (h2 : i < (Na.shr p l).length), (Na.shr p l)[i] = UInt32.ofNat (((l.getD i 0).toNat + Na.B * (l.getD (i + 1) 0).toNat) / 2 ^ p)) := fun i h _ => Na.shr_get p l i h
  generalize Na.shr p l = S at *
  have HSL := Lib.hid hsl
  clear hsl
  go_enter Tryz.func182, Tryz.ntmps182
  go_wp2_with fail
  clear hge hq32 hneg h0
  go_loopw [5, 6, 7] (fun g iv _ wr => ∃ i : Nat, i ≤ l.length ∧ iv = .int .i64 i ∧ wr.ownsRow w.heap.size 103 1 g i ((S.take i).map u32v) ∧ Ext w wr) (fun _ iv _ _ => l.length - (intOf iv).toNat)
  case atStart => exact ⟨0, Nat.zero_le _, rfl, World.ownsRow_lit w #[] 0 (Nat.le_refl _) (Nat.zero_le _) rfl, below_alloc _ _⟩
  case round =>
   obtain ⟨i, hi, rfl, hown, hbel⟩ := hrel
   have hsz : w.heap.size ≤ wr.heap.size := hbel.size
   have h63 : i + 1 ≤ maxLen := by unfold maxLen; omega
   have hby : (i + 1) * 4 ≤ 140737488355328 := by omega
   by_cases hlt : i < l.length
   ·have d0 := refDigit_any _ l i wr (HV.out.below hbel) (by omega)
    have d1 := refDigit_any _ l (i + 1) wr (HV.out.below hbel) (by omega)
    have g0 := (l.getD i 0).toNat_lt
    have g1 := (l.getD (i + 1) 0).toNat_lt
    have hget := HG.out i hlt (by rw [HSL.out]; exact hlt)
    have hsnoc := take_snoc S i (by rw [HSL.out]; exact hlt)
    generalize (l.getD i 0).toNat = x0 at *
    generalize (l.getD (i + 1) 0).toNat = x1 at *
    obtain ⟨N, hN⟩ : ∃ N, N = x0 + Na.B * x1 := ⟨_, rfl⟩
    rw [← hN] at hget
    have hN' : (x1 : Int) * 4294967296 + (x0 : Int) = (N : Int) := by rw [hN, B_eq]; omega
    have hsd : (N : Int) / 2 ^ p % 4294967296 = ((UInt32.ofNat (N / 2 ^ p)).toNat : Int) := shr_digit N p
    rw [← hget] at hsd
    have D0 := Lib.hid d0
    have D1 := Lib.hid d1
    generalize S[i]'(by rw [HSL.out]; exact hlt) = d at *
    have HSN := Lib.hid hsnoc
    have hr := raw_one wr (u32v d) 103 rfl
    have hown' := hown.alloc (.cells #[u32v d] 103)
    have hsz' : w.heap.size ≤ (wr.alloc (.cells #[u32v d] 103)).heap.size := by simp; omega
    clear hown d0 d1 hN hget hsnoc
    go_wp2_with fail
    refine D1.out.mono ?_
    rintro e w' ⟨rfl, rfl⟩
    go_wp2_with fail
    refine D0.out.mono ?_
    rintro e w' ⟨rfl, rfl⟩
    go_wp2_with (at_builtin; refine wpList_append_raw rfl _ _ _ rfl tyU32 w.heap.size hown' rfl hr rfl h63 hby hsz' ?_; intro v2 w2 hown2 hg)
    go_roundw
    case rel =>
     refine ⟨i + 1, by omega, by go_num, ?_, (hbel.alloc hsz _).grown hg hsz' (fun k hk => (World.ownsRow.lt hown' k hk).1)⟩
     rw [HSN.out, List.map_append]; exact hown2
    case measure => simp [intOf]; omega
   ·obtain rfl : i = l.length := by omega
    have hst : S.take l.length = S := List.take_of_length_le (by rw [HSL.out]; exact Nat.le_refl _)
    rw [hst] at hown
    have hrow := own_row' HSL.out hown
    have HR := Lib.hid (refNormalize_any _ S wr hrow (by rw [HSL.out]; omega))
    rw [HS.out] at HR
    have HB2 := Lib.hid hbel
    clear hrow hown hbel hst
    go_wp2_with fail
    refine HR.out.mono ?_
    rintro e w' ⟨v', rfl, ho, hb⟩
    have HO := Lib.hid (ownsRow_mono ho HB2.out.size)
    have HB := Lib.hid (Ext.trans' HB2.out hb)
    clear ho hb
    go_wp2_with fail
    go_ret
    exact ⟨_, rfl, HO.out, HB.out⟩
theorem half_pow (x j : Nat) : (((x / 2 ^ j : Nat) : Int)) / 2 = ((x / 2 ^ (j + 1) : Nat) : Int) := by
 rw [Nat.pow_succ, ← Nat.div_div_eq_div_mul]; rfl
theorem refBitLen_any (v : Value) (l : List UInt32) (w : World) (hv : IsU32s w v l) (hlen : l.length ≤ 1000000000) :
  Calls Tryz.prog 127 #[v] w fun e w' => e = .returned (.int .i64 (bl (Na.val l) : Int)) ∧ Ext w w' := by
 have hd := digs_len l
 have ea := Na.val_digs (Na.val l)
 have na := Na.digs_norm (Na.val l)
 have C1 := Lib.hid (refNormalize_any v l w hv hlen)
 clear hv
 rw [← ea]
 generalize Na.digs (Na.val l) = a at *
 by_cases h0 : a.length = 0
 ·obtain rfl : a = [] := List.eq_nil_of_length_eq_zero h0
  clear ea h0
  go_enter Tryz.func127, Tryz.ntmps127
  go_wp2_with fail
  refine C1.out.mono ?_
  rintro e w' ⟨x, rfl, hx, hb⟩
  obtain ⟨xa, xc, rfl⟩ := ownU_sh hx
  go_wp2_with fail
  go_ret
  exact ⟨rfl, hb⟩
 ·obtain ⟨m, hm⟩ : ∃ m, a.length = m + 1 := ⟨a.length - 1, by omega⟩
  have hx0 : a[m]'(by omega) ≠ 0 := by
   have := Na.last_ne na (by omega)
   simpa [hm] using this
  have hbd : ∀ c : Nat, 2 ^ (c - 1) ≤ (a[m]'(by omega)).toNat → (a[m]'(by omega)).toNat < 2 ^ c → 1 ≤ c → bl (Na.val (a.take m ++ [a[m]'(by omega)])) = 32 * (a.take m).length + c := fun c h1 h2 h3 => bl_digs (a.take m) (a[m]'(by omega)) hx0 c h1 h2 h3
  have e1 : a.take m ++ [a[m]'(by omega)] = a := by
   rw [← List.take_succ_eq_append_getElem (by omega), ← hm, List.take_length]
  rw [e1] at hbd
  have e2 : (a.take m).length = m := by simp; omega
  rw [e2] at hbd
  have HBD := Lib.hid hbd
  have HM := Lib.hid hm
  have hml : (m : Int) ≤ 1000000000 := by omega
  have hxp : 0 < (a[m]'(by omega)).toNat := Nat.pos_of_ne_zero fun e => hx0 (UInt32.toNat_inj.1 (by simpa using e))
  have hne : ((m : Int) + 1 == 0) = false := by rw [beq_eq_false_iff_ne]; omega
  have hxl := (a[m]'(by omega)).toNat_lt
  clear ea na hbd e1 e2 hx0 h0
  go_enter Tryz.func127, Tryz.ntmps127
  go_wp2_with fail
  refine C1.out.mono ?_
  rintro e w1 ⟨x, rfl, hx, hb⟩
  have hx := ownsRow_row hx
  obtain ⟨bx, ox, cx, rfl, hbx, hlx, hmx, hcx⟩ := row_some hx hm (by omega)
  have hck := hcx m (by omega)
  have HB := Lib.hid hb
  generalize a[m]'(by omega) = c at *
  clear hcx hx hb hm C1
  go_wp2_with fail
  clear hne
  have hstart : Hid ((c.toNat : Int) = ((c.toNat / 2 ^ 0 : Nat) : Int)) := by show _ = _; simp
  go_loopw [4, 5] (fun nv tv wr => ∃ j : Nat, nv = .int .i64 (32 * (m : Int) + j) ∧ j ≤ 32 ∧ tv = .int .u32 ((c.toNat / 2 ^ j : Nat) : Int) ∧ (j = 0 ∨ 2 ^ (j - 1) ≤ c.toNat) ∧ Ext w wr) (fun _ tv _ => (intOf tv).toNat)
  case atStart => exact ⟨0, by simp, by omega, by simp [u32v], .inl rfl, HB.out⟩
  case round =>
   obtain ⟨j, rfl, hj, rfl, hjj, hbel⟩ := hrel
   have HJ := Lib.hid hjj
   have HH := Lib.hid (half_pow c.toNat j)
   clear hjj
   obtain ⟨T, hT⟩ : ∃ T, c.toNat / 2 ^ j = T := ⟨_, rfl⟩
   rw [hT] at HH ⊢
   by_cases hz : 0 < T
   ·have HT := Lib.hid hT
    have hle : Hid (2 ^ j ≤ c.toNat) := by
     show _ ≤ _
     rcases Nat.lt_or_ge c.toNat (2 ^ j) with h | h
     ·rw [Nat.div_eq_of_lt h] at hT; omega
     ·exact h
    have hj31 : j ≤ 31 := by
     rcases Nat.lt_or_ge 31 j with h | h
     ·have : 2 ^ 32 ≤ 2 ^ j := Nat.pow_le_pow_right (by omega) h
      have := hle.out; omega
     ·exact h
    clear hT
    go_wp2_with fail
    go_roundw
    case rel =>
     have hdl : c.toNat / 2 ^ (j + 1) < 4294967296 := Nat.lt_of_le_of_lt (Nat.div_le_self _ _) hxl
     have hw : (T : Int) / 2 = ((c.toNat / 2 ^ (j + 1) : Nat) : Int) ∧ (T : Int) / 2 % 4294967296 = ((c.toNat / 2 ^ (j + 1) : Nat) : Int) := by
      have hh := HH.out
      generalize c.toNat / 2 ^ (j + 1) = Z at *
      omega
     exact ⟨j + 1, val_int (by omega), by omega, (by first | exact val_int hw.2 | exact val_int hw.1), .inr (by simpa using hle.out), hbel⟩
    case measure => simp [intOf]; omega
   ·obtain rfl : T = 0 := by omega
    have hlt : c.toNat < 2 ^ j := by
     rcases Nat.lt_or_ge c.toNat (2 ^ j) with h | h
     ·exact h
     ·have := Nat.div_pos h (Nat.two_pow_pos j); omega
    have hj1 : 1 ≤ j := by
     rcases Nat.eq_zero_or_pos j with h | h
     ·subst h; simp at hlt; omega
     ·exact h
    have hr : bl (Na.val a) = 32 * m + j := HBD.out j (by rcases HJ.out with h | h; omega; exact h) hlt hj1
    have HR := Lib.hid hr
    clear hT hlt hr hz
    go_wp2_with fail
    go_ret
    exact ⟨ret_int (by rw [HR.out]; omega), hbel⟩
end Go.Proofs.YtcohmdeoocgmdaaGreatDoor
/- Walks of the reference on natural numbers: DivMod, GCD, FromUint64. -/
namespace Go.Proofs.YtcohmdeoocgmdaaGreatDoor
open Go.RowKit
variable {α : Type}
theorem B_pow (n : Nat) : Na.B ^ n = 2 ^ (32 * n) := by rw [Nat.pow_mul]; rfl
theorem digs_pos {V n : Nat} (h : (Na.digs V).length = n + 1) : Na.B ^ n ≤ V ∧ V < Na.B ^ (n + 1) := by
 have h1 := Na.le_val (Na.digs_norm V) (by omega)
 have h2 := Na.val_lt (Na.digs V)
 rw [Na.val_digs, h] at h1 h2
 exact ⟨h1, h2⟩
theorem digs_len_eq {V n : Nat} (h1 : Na.B ^ n ≤ V) (h2 : V < Na.B ^ (n + 1)) : (Na.digs V).length = n + 1 := by
 have h3 := Na.digs_length_le h2
 rcases Nat.lt_or_ge (Na.digs V).length (n + 1) with h | h
 ·have h4 := Na.val_lt (Na.digs V)
  rw [Na.val_digs] at h4
  have h5 : Na.B ^ (Na.digs V).length ≤ Na.B ^ n := Nat.pow_le_pow_right Na.B_pos (by omega)
  omega
 ·omega
theorem norm_shift {V n : Nat} (h : (Na.digs V).length = n + 1) : 32 * n + 1 ≤ bl V ∧ bl V ≤ 32 * (n + 1) ∧ ∀ p, bl V + p = 32 * (n + 1) → (Na.digs (V * 2 ^ p)).length = n + 1 := by
 obtain ⟨h1, h2⟩ := digs_pos h
 have h0 : V ≠ 0 := by have := Nat.pow_pos (n := n) Na.B_pos; omega
 have hb : bl V = Nat.log2 V + 1 := by unfold bl; rw [if_neg h0]
 have hk1 := Nat.log2_self_le h0
 have hk2 : V < 2 ^ (Nat.log2 V + 1) := Nat.lt_log2_self
 rw [hb]
 generalize Nat.log2 V = k at *
 have e1 : 32 * n < k + 1 := by
  rw [B_pow] at h1
  exact (Nat.pow_lt_pow_iff_right (by omega : 1 < 2)).1 (Nat.lt_of_le_of_lt h1 hk2)
 have e2 : k < 32 * (n + 1) := by
  rw [B_pow] at h2
  exact (Nat.pow_lt_pow_iff_right (by omega : 1 < 2)).1 (Nat.lt_of_le_of_lt hk1 h2)
 refine ⟨by omega, by omega, fun p hp => ?_⟩
 apply digs_len_eq
 ·exact Nat.le_trans h1 (Nat.le_mul_of_pos_right _ (Nat.two_pow_pos p))
 ·rw [B_pow, ← hp, Nat.pow_add]
  exact Nat.mul_lt_mul_of_pos_right hk2 (Nat.two_pow_pos p)
theorem getD_last {l : List UInt32} {n : Nat} (h : Na.norm l) (hl : l.length = n + 1) : 0 < (l.getD n 0).toNat := by
 have h1 := Na.last_ne h (by omega)
 simp only [hl, Nat.add_sub_cancel] at h1
 have e : l.getD n 0 = l[n]'(by omega) := by simp [List.getD, List.getElem?_eq_getElem (show n < l.length by omega)]
 rw [e]
 exact Nat.pos_of_ne_zero fun h2 => h1 (UInt32.toNat_inj.1 (by simpa using h2))
/-- A row of an own block is not touched by a store into an elder block. -/
theorem own_set {w : World} {base g : Nat} {e : TypeId} {v : Value} {n : Nat} {xs : List Value} (h : w.ownsRow base e 1 v n xs) (hg : g < base) (o : Nat) (x : Value) : (w.setCell ⟨g, o, none⟩ x).ownsRow base e 1 v n xs :=
 own_ch h ((Ch.refl g w).setCell o x) hg
theorem refDivMod_any (v u : Value) (l m : List UInt32) (w : World) (hv : IsU32s w v l) (hu : IsU32s w u m) (hm : 0 < Na.val m) (hll : l.length ≤ 5000000) (hml : m.length ≤ 5000000) :
  Calls Tryz.prog 159 #[v, u] w fun e w' => ∃ q r, e = .returned (.tuple #[q, r, .int .i64 0]) ∧ OwnU w.heap.size w' q (Na.digs (Na.val l / Na.val m)) ∧ OwnU w.heap.size w' r (Na.digs (Na.val l % Na.val m)) ∧ Ext w w' := by
 have hdm := digs_len m
 have hnorm := Na.digs_norm (Na.val m)
 have C1 := Lib.hid (refNormalize_any u m w hu (by omega))
 have HV := Lib.hid hv
 obtain ⟨a1, c1, rfl⟩ := hv.shape
 obtain ⟨a2, c2, rfl⟩ := hu.shape
 have hne0 : (Na.digs (Na.val m)).length ≠ 0 := fun h => by have := digs_len0 h; omega
 obtain ⟨n, hn⟩ : ∃ n, (Na.digs (Na.val m)).length = n + 1 := ⟨(Na.digs (Na.val m)).length - 1, by omega⟩
 obtain ⟨hb1, hb2, hsh⟩ := norm_shift hn
 obtain ⟨p, hp⟩ : ∃ p, bl (Na.val m) + p = 32 * (n + 1) := ⟨32 * (n + 1) - bl (Na.val m), by omega⟩
 have hp31 : p ≤ 31 := by omega
 have hln := hsh p hp
 have hVp : 0 < Na.val m * 2 ^ p := Nat.mul_pos hm (Nat.two_pow_pos p)
 have hlU : (Na.digs (Na.val l * 2 ^ p)).length ≤ l.length + 1 := by
  apply Na.digs_length_le
  rw [Nat.pow_succ]
  refine Nat.mul_lt_mul_of_lt_of_le (Na.val_lt l) ?_ Na.B_pos
  have : 2 ^ p ≤ 2 ^ 32 := Nat.pow_le_pow_right (by omega) (by omega)
  exact this
 have hEq : Hid (∀ Q R, Q * (Na.val m * 2 ^ p) + R = Na.val l * 2 ^ p → R < Na.val m * 2 ^ p → Q = Na.val l / Na.val m ∧ R / 2 ^ p = Na.val l % Na.val m ∧ (p = 0 → R = Na.val l % Na.val m)) := by
  intro Q R h hR
  obtain ⟨e1, e2⟩ := Na.long_end h hR
  rw [Nat.mul_div_mul_right _ _ (Nat.two_pow_pos p)] at e1
  rw [Nat.mul_mod_mul_right] at e2
  refine ⟨e1, by rw [e2, Nat.mul_div_cancel _ (Nat.two_pow_pos p)], fun h0 => by rw [e2, h0]; simp⟩
 have hbI : 32 * ((n : Int) + 1) - (bl (Na.val m) : Int) = (p : Int) := by omega
 have hblb : (bl (Na.val m) : Int) ≤ 32 * ((n : Int) + 1) := by omega
 have hnb : n ≤ 5000000 := by omega
 have C2 := fun (x : Value) (w1 : World) (h : IsU32s w1 x (Na.digs (Na.val m))) => refBitLen_any x _ w1 h (by omega)
 have C3 := fun (x : Value) (w1 : World) (h : IsU32s w1 x (Na.digs (Na.val m))) => refShiftL_any x _ p w1 h hp31 (by omega)
 rw [Na.val_digs] at C2 C3
 have CC2 := Lib.hid C2
 have CC3 := Lib.hid C3
 clear C2 C3
 have hn0 : ((n : Int) + 1 == 0) = false := by rw [beq_eq_false_iff_ne]; omega
 have HN := Lib.hid hn
 have HLN := Lib.hid hln
 have HVP := Lib.hid hVp
 clear hv hu hsh hp hn hln hVp hdm hnorm hne0
 go_enter Tryz.func159, Tryz.ntmps159
 go_wp2_with fail
 refine C1.out.mono ?_
 rintro e w1 ⟨t, rfl, ht, hb⟩
 have HT := Lib.hid (ownsRow_row ht)
 have HB1 := Lib.hid hb
 obtain ⟨at', ct, rfl⟩ := ownU_sh ht
 rw [HN.out] at HT ⊢
 clear ht hb C1
 go_wp2_with fail
 refine (CC2.out _ w1 HT.out).mono ?_
 rintro e w2 ⟨rfl, hb⟩
 have HB2 := Lib.hid (Ext.trans' HB1.out hb)
 have HT2 := Lib.hid (HT.out.below hb)
 clear hb CC2 HT
 go_wp2_with fail
 refine (refShiftL_any _ l p w2 (HV.out.below HB2.out) hp31 (by omega)).mono ?_
 rintro e w3 ⟨x, rfl, hx, hb⟩
 have HB3 := Lib.hid (Ext.trans' HB2.out hb)
 have HX := Lib.hid (ownsRow_row hx)
 have HT3 := Lib.hid (HT2.out.below hb)
 obtain ⟨ax, cx, rfl⟩ := ownU_sh hx
 clear hb hx HT2
 go_wp2_with fail
 refine (CC3.out _ w3 HT3.out).mono ?_
 rintro e w4 ⟨y, rfl, hy, hb⟩
 have HB4 := Lib.hid (Ext.trans' HB3.out hb)
 have HX4 := Lib.hid (HX.out.below hb)
 have HY4 := Lib.hid (ownsRow_row hy)
 clear hb hy HX HT3 CC3
 generalize hU : Na.val l * 2 ^ p = U at *
 generalize hW : Na.val m * 2 ^ p = V at *
 obtain ⟨N, hNN⟩ : ∃ N, (Na.digs U).length = N := ⟨_, rfl⟩
 have HNN := Lib.hid hNN
 have hN63 : N ≤ maxLen := by unfold maxLen; omega
 have hNby : 4 * N ≤ 281474976710656 := by omega
 have hN6 : N ≤ 6000000 := by omega
 rw [hNN] at HX4 ⊢
 clear hU hW hNN hlU
 have hs4 := HB4.out.size
 go_wp2_with (at_make; refine wpList_make_row rfl _ _ _ rfl tyU32 rfl w4.heap.size N rfl rfl rfl hNby hN63 (Nat.le_refl _) ?_; intro w5 hown hg)
 have hb5 := below_made (Below.refl w4.heap.size w4) hg (Nat.le_refl _)
 have hs5 : w4.heap.size < w5.heap.size := (hown.lt w4.heap.size rfl).2
 have HO := Lib.hid hown
 have HB5 := Lib.hid hb5
 clear hg hown hb5 hn0 hblb hbI
 go_wp2_with fail
 go_loopw [12, 13, 14, 15, 16, 17] (fun rv iv _ _ _ _ wr => ∃ (k R : Nat) (q : List UInt32), k + q.length = N ∧ iv = .int .i64 ((k : Int) - 1) ∧
   Na.val q * V + R = Na.val ((Na.digs U).drop k) ∧ R < V ∧ OwnU (w4.heap.size + 1) wr rv (Na.digs R) ∧
   wr.ownsRow w4.heap.size 103 1 (.slice (some ⟨w4.heap.size, 0, none⟩) N N) N ((List.replicate k 0 ++ q).map u32v) ∧ Ext w4 wr) (fun _ iv _ _ _ _ _ => (intOf iv + 1).toNat)
 case atStart =>
  refine ⟨N, 0, [], by simp, rfl, ?_, HVP.out, ?_, ?_, HB5.out.alloc (by omega) _⟩
  ·rw [List.drop_eq_nil_of_le (by rw [HNN.out]; exact Nat.le_refl _)]; simp [Na.val]
  ·exact World.ownsRow_lit w5 #[] 0 (by omega) (Nat.zero_le _) rfl
  ·have := HO.out.alloc (.cells #[] 103)
   simpa [u32v] using this
 case round =>
  obtain ⟨k, R, q, hkq, rfl, hval, hR, hr, hown, hbel⟩ := hrel
  have HKQ := Lib.hid hkq
  have HVAL := Lib.hid hval
  have HRR := Lib.hid hr
  have HW := Lib.hid hown
  have hszr := hbel.size
  have hkN : k ≤ N := by omega
  clear hkq hval hr hown
  cases k with
  | zero =>
   obtain ⟨e1, e2, e3⟩ := hEq.out (Na.val q) R (by have := HVAL.out; rw [List.drop_zero, Na.val_digs] at this; exact this) hR
   have HE := Lib.hid (And.intro e1 (And.intro e2 e3))
   have hrow : IsU32s wr (.slice (some ⟨w4.heap.size, 0, none⟩) N N) q := by
    have h1 := HKQ.out
    have h2 := HW.out
    simp only [List.replicate_zero, List.nil_append] at h2
    exact own_row' (by omega) h2
   have HQ := Lib.hid (refNormalize_any _ q wr hrow (by have := HKQ.out; omega))
   have hRow := ownsRow_row HRR.out
   have hRl : (Na.digs R).length ≤ 6000000 := by
    have h1 := digs_len_le (Nat.le_of_lt hR)
    rw [HLN.out] at h1; omega
   have HRow := Lib.hid hRow
   have HBEL := Lib.hid (Ext.trans' HB4.out hbel)
   clear e1 e2 e3 hrow hRow hEq hbel
   go_wp2_with fail
   refine HQ.out.mono ?_
   rintro e w6 ⟨x, rfl, hx, hb⟩
   have HX6 := Lib.hid (ownsRow_mono hx HBEL.out.size)
   have HB6 := Lib.hid (Ext.trans' HBEL.out hb)
   have HR6 := Lib.hid (HRow.out.below hb)
   clear hx hb HQ
   rcases Nat.eq_zero_or_pos p with h0 | h0
   ·subst h0
    have HS := refShiftL_any _ _ 0 w6 HR6.out (by omega) (by omega)
    rw [Na.val_digs, Nat.pow_zero, Nat.mul_one, HE.out.2.2 rfl] at HS
    have HSS := Lib.hid HS
    clear HS
    go_wp2_with fail
    refine HSS.out.mono ?_
    rintro e w7 ⟨y, rfl, hy, hb⟩
    have HY7 := Lib.hid (ownsRow_mono hy HB6.out.size)
    have HX7 := Lib.hid (ownsRow_ext HX6.out hb)
    have HB7 := Lib.hid (Ext.trans' HB6.out hb)
    clear hy hb
    go_wp2_with fail
    go_ret3
    exact ⟨_, _, rfl, by rw [← HE.out.1]; exact HX7.out, HY7.out, HB7.out⟩
   ·have HS := refShiftR_any _ _ p w6 HR6.out h0 hp31 (by omega)
    rw [Na.val_digs, HE.out.2.1] at HS
    have HSS := Lib.hid HS
    clear HS
    go_wp2_with fail
    refine HSS.out.mono ?_
    rintro e w7 ⟨y, rfl, hy, hb⟩
    have HY7 := Lib.hid (ownsRow_mono hy HB6.out.size)
    have HX7 := Lib.hid (ownsRow_ext HX6.out hb)
    have HB7 := Lib.hid (Ext.trans' HB6.out hb)
    clear hy hb
    go_wp2_with fail
    go_ret3
    exact ⟨_, _, rfl, by rw [← HE.out.1]; exact HX7.out, HY7.out, HB7.out⟩
  | succ j =>
   have hi : (((j + 1 : Nat) : Int) - 1) = (j : Int) := by omega
   rw [hi]
   clear hi
   obtain ⟨bx, ox, cx', hxs, hbx, hlx, hmx, hcx⟩ := row_some HX4.out HNN.out (by omega)
   simp only [Value.slice.injEq] at hxs
   obtain ⟨rfl, -, rfl⟩ := hxs
   have hjl : j < (Na.digs U).length := by rw [HNN.out]; omega
   have hck : wr.cell? ⟨bx, ox + j, none⟩ = some (u32v (Na.digs U)[j]) := by rw [hbel.cell (p := ⟨bx, ox + j, none⟩) hbx]; exact hcx j hjl
   have HD := Lib.hid (Na.val_drop (Na.digs U) j hjl)
   clear hcx
   generalize (Na.digs U)[j] = x at *
   have hxl := x.toNat_lt
   obtain ⟨f1, f2, f3⟩ := Na.long_step (u := x.toNat) HVP.out hR hxl HVAL.out
   have HF := Lib.hid (And.intro f1 (And.intro f2 f3))
   have hND : x.toNat + Na.B * R < Na.B * V := by
    have h1 : Na.B * (R + 1) ≤ Na.B * V := Nat.mul_le_mul_left _ hR
    rw [Nat.mul_succ] at h1
    have : x.toNat < Na.B := hxl
    omega
   have HND := Lib.hid hND
   have hRl : (Na.digs R).length ≤ n + 1 := by
    have h1 := digs_len_le (Nat.le_of_lt hR)
    rw [HLN.out] at h1; exact h1
   have HRow := Lib.hid (ownsRow_row HRR.out)
   obtain ⟨ra, rc, rfl⟩ := ownU_sh HRR.out
   have HBEL := Lib.hid hbel
   clear f1 f2 f3 hND hEq
   go_wp2_with fail
   obtain ⟨wo, rfl⟩ : ∃ wo : World, wo = wr := ⟨_, rfl⟩
   have hlenR : (((Na.digs R).length : Nat) : Int) ≤ 6000000 := by omega
   go_loopw [14, 15] (fun nv kv wr => ∃ i : Nat, i ≤ (Na.digs R).length ∧ kv = .int .i64 i ∧ wr.ownsRow wo.heap.size 103 1 nv (1 + i) ((x :: (Na.digs R).take i).map u32v) ∧ Ext wo wr) (fun _ kv _ => (Na.digs R).length - (intOf kv).toNat)
   case atStart => exact ⟨0, Nat.zero_le _, rfl, World.ownsRow_lit (base := wo.heap.size) wo #[u32v x] 1 (Nat.le_refl _) (by unfold maxLen; omega) rfl, below_alloc _ _⟩
   case round =>
    obtain ⟨i, hi, rfl, hown, hwi⟩ := hrel
    have hsz : wo.heap.size ≤ wr.heap.size := hwi.size
    have h63 : 1 + i + 1 ≤ maxLen := by unfold maxLen; omega
    have hby : (1 + i + 1) * 4 ≤ 140737488355328 := by omega
    by_cases hlt : i < (Na.digs R).length
    ·obtain ⟨br, or, cr, hxs, hbr, hlr, hmr, hcr⟩ := row_some HRow.out rfl (by omega)
     simp only [Value.slice.injEq] at hxs
     obtain ⟨rfl, -, -⟩ := hxs
     have hck : wr.cell? ⟨br, or + i, none⟩ = some (u32v (Na.digs R)[i]) := by rw [hwi.cell (p := ⟨br, or + i, none⟩) hbr]; exact hcr i hlt
     have HSN : Hid ((x :: (Na.digs R).take (i + 1)).map u32v = (x :: (Na.digs R).take i).map u32v ++ [u32v (Na.digs R)[i]]) := by show _ = _; rw [take_snoc (Na.digs R) i hlt]; simp only [List.map_cons, List.map_append, List.map_nil, List.cons_append]
     clear hcr
     generalize (Na.digs R)[i] = d at *
     have hr := raw_one wr (u32v d) 103 rfl
     have hown' := hown.alloc (.cells #[u32v d] 103)
     have hsz' : wo.heap.size ≤ (wr.alloc (.cells #[u32v d] 103)).heap.size := by simp; omega
     clear hown
     go_wp2_with (at_builtin; refine wpList_append_raw rfl _ _ _ rfl tyU32 wo.heap.size hown' rfl hr rfl h63 hby hsz' ?_; intro v2 w2 hown2 hg)
     go_roundw
     case rel =>
      refine ⟨i + 1, by omega, by go_num, ?_, (hwi.alloc hsz _).grown hg hsz' (fun k hk => (World.ownsRow.lt hown' k hk).1)⟩
      rw [HSN.out]; exact hown2
     case measure => simp [intOf]; omega
    ·obtain rfl : i = (Na.digs R).length := by omega
     rw [List.take_length] at hown
     have hrow := own_row' (l := x :: Na.digs R) (by simp; omega) hown
     have HN1 := refNormalize_any _ (x :: Na.digs R) wr hrow (by simp; omega)
     have eN : Na.val (x :: Na.digs R) = x.toNat + Na.B * R := by show _ + _ = _; rw [Na.val_digs]
     rw [eN] at HN1
     have HNO := Lib.hid HN1
     have HWI := Lib.hid hwi
     clear hrow HN1 eN hown hwi
     generalize hNn : x.toNat + Na.B * R = X at *
     have hlX : (Na.digs X).length ≤ n + 2 := by
      apply Na.digs_length_le
      have h1 := HND.out
      have h2 := (digs_pos HLN.out).2
      have h3 : Na.B * V < Na.B * Na.B ^ (n + 1) := Nat.mul_lt_mul_of_pos_left h2 Na.B_pos
      rw [Nat.mul_comm Na.B (Na.B ^ (n + 1)), ← Nat.pow_succ] at h3
      exact Nat.lt_trans h1 h3
     go_wp2_with fail
     refine HNO.out.mono ?_
     rintro e w6 ⟨z, rfl, hz, hb⟩
     have HZ := Lib.hid (ownsRow_row hz)
     have HB6 := Lib.hid (Ext.trans' HWI.out hb)
     have HB46 := Lib.hid (Ext.trans' HBEL.out HB6.out)
     have HOF := often_any z y (Na.digs X) (Na.digs V) n w6 HZ.out (HY4.out.below HB46.out) HLN.out (getD_last (Na.digs_norm V) HLN.out) (by rw [Na.val_digs, Na.val_digs]; exact HND.out) (by omega) (by omega)
     rw [Na.val_digs, Na.val_digs] at HOF
     have HOFT := Lib.hid HOF
     obtain ⟨D, hD⟩ : ∃ D, X / V = D := ⟨_, rfl⟩
     rw [hD] at HOFT HF
     have hDB : D < 4294967296 := HF.out.2.1
     clear hz hb HOF HNO hD
     go_wp2_with fail
     refine HOFT.out.mono ?_
     rintro e w7 ⟨y', rfl, hy, hb⟩
     have HY7 := Lib.hid hy
     have HB7 := Lib.hid (Ext.trans' HB6.out hb)
     have HW7 := Lib.hid (ownsRow_ext HW.out (Ext.trans' HB6.out hb))
     have HB47 := Lib.hid (Ext.trans' HBEL.out HB7.out)
     have hs6 : w4.heap.size + 1 ≤ w6.heap.size := by
      have h1 := (World.ownsRow.lt HW.out w4.heap.size rfl).2
      have h2 := HB6.out.size
      omega
     obtain ⟨⟨cv, hcell⟩, hfz⟩ := own_any HW7.out j (by omega)
     have hmod : (D : Int) % 4294967296 = ((UInt32.ofNat D).toNat : Int) := dgI D
     have hst := (HW7.out.stored j (u32v (UInt32.ofNat D)))
     rw [List.map_append, List.map_replicate, set_rep] at hst
     have HST := Lib.hid hst
     have HDv : Hid ((UInt32.ofNat D).toNat = D) := ofNat_small hDB
     generalize UInt32.ofNat D = dd at *
     clear hy hb HOFT hst HW
     go_wp2_with fail
     go_roundw
     case rel =>
      have hD' := HDv.out
      subst hD'
      refine ⟨j, X % V, dd :: q, ?_, rfl, ?_, HF.out.2.2, ?_, ?_, ?_⟩
      ·have := HKQ.out; simp; omega
      ·rw [HD.out, ← HF.out.1]
       rfl
      ·exact own_set (ownsRow_mono HY7.out hs6) (by omega) j _
      ·have := HST.out.1
       simpa [u32v] using this
      ·exact HB47.out.setCell (p := ⟨w4.heap.size, j, none⟩) (Nat.le_refl _) _
     case measure => simp [intOf]
end Go.Proofs.YtcohmdeoocgmdaaGreatDoor
