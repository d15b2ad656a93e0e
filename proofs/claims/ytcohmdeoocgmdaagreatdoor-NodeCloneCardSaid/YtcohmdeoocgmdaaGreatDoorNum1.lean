/- Walks of package natural: Add, Sub. -/
import Derived.Test.YtcohmdeoocgmdaaGreatDoorRefNat
import Derived.Test.YtcohmdeoocgmdaaGreatDoorMulLaw
set_option maxHeartbeats 1600000
set_option maxRecDepth 100000
namespace Go.Proofs.YtcohmdeoocgmdaaGreatDoor
open Go.RowKit
variable {α : Type}
set_option linter.unusedVariables false
theorem set_mid (out : List α) (k : Nat) (z x : α) : (out ++ List.replicate (k + 1) z).set out.length x = (out ++ [x]) ++ List.replicate k z := by
 rw [List.set_append_right _ _ (Nat.le_refl _), Nat.sub_self, List.replicate_succ, List.set_cons_zero, List.append_assoc]; rfl
theorem natAdd_any (v u : Value) (l m : List UInt32) (w : World) (hv : IsU32s w v l) (hu : IsU32s w u m) (hl : l.length ≤ 100000000) (hm : m.length ≤ 100000000) :
  Calls Tryz.prog 204 #[v, u] w fun e w' => ∃ a, e = .returned (.slice a (Na.digs (Na.val l + Na.val m)).length (Na.digs (Na.val l + Na.val m)).length) ∧
   IsU32s w' (.slice a (Na.digs (Na.val l + Na.val m)).length (Na.digs (Na.val l + Na.val m)).length) (Na.digs (Na.val l + Na.val m)) ∧ Ext w w' := by
 have HV := Lib.hid hv
 have HU := Lib.hid hu
 obtain ⟨a1, c1, rfl⟩ := hv.shape
 obtain ⟨a2, c2, rfl⟩ := hu.shape
 clear hv hu
 obtain ⟨M, hM⟩ : ∃ M, M = max l.length m.length := ⟨_, rfl⟩
 have hmax : max (l.length : Int) (m.length : Int) = (M : Int) := by omega
 obtain ⟨N, hN⟩ : ∃ N, N = M + 1 := ⟨_, rfl⟩
 have hMN : (M : Int) + 1 = (N : Int) := by omega
 have hM1 : N ≤ 100000001 := by omega
 have HE : Hid (Na.val (l.take N) = Na.val l ∧ Na.val (m.take N) = Na.val m ∧ Na.val l + Na.val m < Na.B ^ N) := by
  refine ⟨by rw [List.take_of_length_le (by omega)], by rw [List.take_of_length_le (by omega)], ?_⟩
  rw [hN]
  have h1 := Na.val_lt l
  have h2 := Na.val_lt m
  have h3 : Na.B ^ l.length ≤ Na.B ^ M := Nat.pow_le_pow_right (by decide) (by omega)
  have h4 : Na.B ^ m.length ≤ Na.B ^ M := Nat.pow_le_pow_right (by decide) (by omega)
  have h6 : Na.B ^ M * 2 ≤ Na.B ^ M * Na.B := Nat.mul_le_mul_left _ (by decide)
  rw [Nat.pow_succ]
  generalize Na.B ^ M * Na.B = q at *
  generalize Na.B ^ M = p at *
  omega
 have h63 : N ≤ maxLen := by unfold maxLen; omega
 have hby : 4 * N ≤ 281474976710656 := by omega
 clear hM hN
 go_enter Tryz.func204, Tryz.ntmps204
 go_wp2_with (at_make; refine wpList_make_row rfl _ _ _ rfl tyU32 rfl w.heap.size N rfl rfl rfl hby h63 (Nat.le_refl _) ?_; intro w1 hown hg)
 clear hmax hMN
 have hb1 := below_made (Below.refl w.heap.size w) hg (Nat.le_refl _)
 clear hg
 have HO := Lib.hid hown
 clear hown
 go_loopw [6, 17] (fun cv iv wr => ∃ (i c k : Nat) (out : List UInt32), i + k = N ∧ iv = .int .i64 i ∧ cv = .int .u64 c ∧ c ≤ 1 ∧ out.length = i ∧ Na.val out + Na.B ^ i * c = Na.val (l.take i) + Na.val (m.take i) ∧
   wr.ownsRow w.heap.size 103 1 (.slice (some ⟨w.heap.size, 0, none⟩) N N) N ((out ++ List.replicate k 0).map u32v) ∧ Ext w wr) (fun _ iv _ => N - (intOf iv).toNat)
 case atStart => exact ⟨0, 0, N, [], by omega, rfl, rfl, by omega, rfl, by simp [Na.val], by simpa [u32v] using HO.out, hb1⟩
 case round =>
  obtain ⟨i, c, k, out, hik, rfl, rfl, hc, hol, hval, hown, hbel⟩ := hrel
  have HOL := Lib.hid hol
  have HVAL := Lib.hid hval
  have HW := Lib.hid hown
  have hiM : i ≤ N := by omega
  have HIK := Lib.hid hik
  clear hol hval hown HO hik
  by_cases hlt : i < N
  ·obtain ⟨k', rfl⟩ : ∃ k', k = k' + 1 := ⟨k - 1, by have := HIK.out; omega⟩
   have d0 := digit_any _ l i wr (HV.out.below hbel) (by omega)
   have d1 := digit_any _ m i wr (HU.out.below hbel) (by omega)
   have g0 := (l.getD i 0).toNat_lt
   have g1 := (m.getD i 0).toNat_lt
   have t0 := Na.val_take_succ' l i
   have t1 := Na.val_take_succ' m i
   generalize (l.getD i 0).toNat = x at *
   generalize (m.getD i 0).toNat = y at *
   have D0 := Lib.hid d0
   have D1 := Lib.hid d1
   have T0 := Lib.hid t0
   have T1 := Lib.hid t1
   obtain ⟨n, hn⟩ : ∃ n, n = x + y + c := ⟨_, rfl⟩
   have hmod : ((c : Int) + ((x : Int) + y)) % 4294967296 = ((UInt32.ofNat n).toNat : Int) := by
    rw [show (c : Int) + ((x : Int) + y) = (n : Int) by omega, dgI]
   have hdiv : ((c : Int) + ((x : Int) + y)) / 4294967296 = ((n / Na.B : Nat) : Int) := by
    rw [show (c : Int) + ((x : Int) + y) = (n : Int) by omega, dvI]
   have hc' : n / Na.B ≤ 1 := by rw [hn, B_eq]; omega
   have HST := Lib.hid (Na.step_up HOL.out HVAL.out hn)
   generalize hq : n / Na.B = c' at *
   obtain ⟨d, hd⟩ : ∃ d, UInt32.ofNat n = d := ⟨_, rfl⟩
   rw [hd] at hmod HST
   obtain ⟨⟨cv, hcell⟩, hfz⟩ := own_any HW.out i hlt
   have hst := HW.out.stored i (u32v d)
   have hse : ((out ++ List.replicate (k' + 1) 0).map u32v).set i (u32v d) = ((out ++ [d]) ++ List.replicate k' 0).map u32v := by rw [← List.map_set, ← HOL.out, set_mid]
   rw [hse] at hst
   have HS := Lib.hid hst
   clear d0 d1 t0 t1 hn hq hd hst hse
   go_wp2_with fail
   refine D0.out.mono ?_
   rintro e w' ⟨rfl, rfl⟩
   go_wp2_with fail
   refine D1.out.mono ?_
   rintro e w' ⟨rfl, rfl⟩
   go_wp2_with fail
   go_roundw
   case rel =>
    refine ⟨i + 1, c', k', out ++ [d], by have := HIK.out; omega, by go_num, rfl, hc', by simp [HOL.out], ?_, HS.out.1, hbel.setCell (p := ⟨w.heap.size, i, none⟩) (Nat.le_refl _) _⟩
    rw [HST.out, T0.out, T1.out, Nat.mul_add]; omega
   case measure => simp [intOf]; omega
  ·obtain rfl : i = N := by omega
   obtain rfl : k = 0 := by have := HIK.out; omega
   have hrow : IsU32s wr (.slice (some ⟨w.heap.size, 0, none⟩) i i) out := by
    have := HW.out
    rw [List.replicate_zero, List.append_nil] at this
    exact own_row' HOL.out this
   have hv : Na.val out = Na.val l + Na.val m := by
    have h1 := HVAL.out
    rw [HE.out.1, HE.out.2.1] at h1
    have h2 := HE.out.2.2
    have h3 : c = 0 := by
     rcases Nat.eq_zero_or_pos c with h | h
     ·exact h
     ·have := Nat.mul_le_mul_left (Na.B ^ i) h
      omega
    rw [h3] at h1
    omega
   have hs := short_any _ _ _ hrow
   rw [hv] at hs
   have HS := Lib.hid hs
   clear hs hrow hv
   go_wp2_with fail
   refine HS.out.mono ?_
   rintro e w' ⟨a', rfl, hr, rfl⟩
   have HR := Lib.hid hr
   clear hr
   go_wp2_with fail
   go_ret
   exact ⟨_, rfl, HR.out, hbel⟩
theorem natSub_lt (v u : Value) (l m : List UInt32) (w : World) (hv : IsU32s w v l) (hu : IsU32s w u m) (hlt : Na.val l < Na.val m) :
  Calls Tryz.prog 205 #[v, u] w fun e w' => e = .returned (.tuple #[.slice none 0 0, .bool false]) ∧ Ext w w' := by
 have hc := cmp_any v u l m w hv hu
 rw [cmpI_lt hlt] at hc
 have HC := Lib.hid hc
 obtain ⟨a1, c1, rfl⟩ := hv.shape
 obtain ⟨a2, c2, rfl⟩ := hu.shape
 clear hc hv hu hlt
 go_enter Tryz.func205, Tryz.ntmps205
 go_wp2_with fail
 refine HC.out.mono ?_
 rintro e w' ⟨rfl, hb⟩
 have HB := Lib.hid hb
 clear hb
 go_wp2_with fail
 go_ret2
 exact ⟨rfl, HB.out⟩
theorem natSub_ge (v u : Value) (l m : List UInt32) (w : World) (hv : IsU32s w v l) (hu : IsU32s w u m) (hl : l.length ≤ 100000000) (hle : Na.val m ≤ Na.val l) :
  Calls Tryz.prog 205 #[v, u] w fun e w' => ∃ a, e = .returned (.tuple #[.slice a (Na.digs (Na.val l - Na.val m)).length (Na.digs (Na.val l - Na.val m)).length, .bool true]) ∧
   IsU32s w' (.slice a (Na.digs (Na.val l - Na.val m)).length (Na.digs (Na.val l - Na.val m)).length) (Na.digs (Na.val l - Na.val m)) ∧ Ext w w' := by
 have HCM := Lib.hid (cmp_any v u l m w hv hu)
 have hcn := cmpI_nonneg hle
 have hdl := digs_len l
 have HV := Lib.hid hv
 have HU := Lib.hid hu
 obtain ⟨a1, c1, rfl⟩ := hv.shape
 obtain ⟨a2, c2, rfl⟩ := hu.shape
 clear hv hu
 obtain ⟨M, hM⟩ : ∃ M, M = (Na.digs (Na.val l)).length := ⟨_, rfl⟩
 have HE : Hid (Na.val (l.take M) = Na.val l ∧ Na.val (m.take M) = Na.val m ∧ Na.val l < Na.B ^ M) := by
  have h1 : Na.val l < Na.B ^ M := by
   have := Na.val_lt (Na.digs (Na.val l))
   rw [Na.val_digs, ← hM] at this; exact this
  exact ⟨Na.val_take_all h1, Na.val_take_all (by omega), h1⟩
 have HLE := Lib.hid hle
 have HM := Lib.hid hM
 have hM1 : M ≤ 100000000 := by omega
 have h63 : M ≤ maxLen := by unfold maxLen; omega
 have hby : 4 * M ≤ 281474976710656 := by omega
 generalize cmpI (Na.val l) (Na.val m) = cc at *
 clear hM hle hdl
 go_enter Tryz.func205, Tryz.ntmps205
 go_wp2_with fail
 refine HCM.out.mono ?_
 rintro e w0 ⟨rfl, hb0⟩
 have HB0 := Lib.hid hb0
 have hsh := short_any _ l w0 (HV.out.below hb0)
 rw [← HM.out] at hsh
 have HSH := Lib.hid hsh
 clear hsh hb0
 go_wp2_with fail
 refine HSH.out.mono ?_
 rintro e w' ⟨aa, rfl, -, rfl⟩
 go_wp2_with (at_make; refine wpList_make_row rfl _ _ _ rfl tyU32 rfl w0.heap.size M rfl rfl rfl hby h63 (Nat.le_refl _) ?_; intro w1 hown hg)
 have hb1 := Ext.trans' HB0.out (below_made (Below.refl w0.heap.size w0) hg (Nat.le_refl _))
 have hsz0 := HB0.out.size
 clear hg
 have HO := Lib.hid hown
 clear hown
 go_loopw [7, 20] (fun cv iv wr => ∃ (i c k : Nat) (out : List UInt32), i + k = M ∧ iv = .int .i64 i ∧ cv = .int .u64 c ∧ c ≤ 1 ∧ out.length = i ∧ Na.val (l.take i) + Na.B ^ i * c = Na.val out + Na.val (m.take i) ∧
   wr.ownsRow w0.heap.size 103 1 (.slice (some ⟨w0.heap.size, 0, none⟩) M M) M ((out ++ List.replicate k 0).map u32v) ∧ Ext w wr) (fun _ iv _ => M - (intOf iv).toNat)
 case atStart => exact ⟨0, 0, M, [], by omega, rfl, rfl, by omega, rfl, by simp [Na.val], by simpa [u32v] using HO.out, hb1⟩
 case round =>
  obtain ⟨i, c, k, out, hik, rfl, rfl, hc, hol, hval, hown, hbel⟩ := hrel
  have HOL := Lib.hid hol
  have HVAL := Lib.hid hval
  have HW := Lib.hid hown
  have hiM : i ≤ M := by omega
  have HIK := Lib.hid hik
  clear hol hval hown HO hik
  by_cases hlt : i < M
  ·obtain ⟨k', rfl⟩ : ∃ k', k = k' + 1 := ⟨k - 1, by have := HIK.out; omega⟩
   have d0 := digit_any _ l i wr (HV.out.below hbel) (by omega)
   have d1 := digit_any _ m i wr (HU.out.below hbel) (by omega)
   have g0 := (l.getD i 0).toNat_lt
   have g1 := (m.getD i 0).toNat_lt
   have t0 := Na.val_take_succ' l i
   have t1 := Na.val_take_succ' m i
   generalize (l.getD i 0).toNat = x at *
   generalize (m.getD i 0).toNat = y at *
   have D0 := Lib.hid d0
   have D1 := Lib.hid d1
   have T0 := Lib.hid t0
   have T1 := Lib.hid t1
   obtain ⟨Z, r, c', hZ, hr, hb', hbo', hxb, hu'⟩ := sub_wrap x y c g0 g1 hc
   obtain ⟨d, rfl⟩ : ∃ d : UInt32, r = d.toNat := ⟨UInt32.ofNat r, (ofNat_small hxb).symm⟩
   have HST : Hid (Na.val (l.take (i + 1)) + Na.B ^ (i + 1) * c' = Na.val (out ++ [d]) + Na.val (m.take (i + 1))) := by
    show _ = _
    have h1 := HVAL.out
    rw [T0.out, T1.out, Na.val_snoc, HOL.out, Nat.pow_succ]
    have h2 : Na.B ^ i * (x + Na.B * c') = Na.B ^ i * (d.toNat + y + c) := by rw [hu']
    rw [Nat.mul_add, Nat.mul_add, Nat.mul_add, ← Nat.mul_assoc] at h2
    omega
   obtain ⟨⟨cv, hcell⟩, hfz⟩ := own_any HW.out i hlt
   have hst := HW.out.stored i (u32v d)
   have hse : ((out ++ List.replicate (k' + 1) 0).map u32v).set i (u32v d) = ((out ++ [d]) ++ List.replicate k' 0).map u32v := by rw [← List.map_set, ← HOL.out, set_mid]
   rw [hse] at hst
   have HS := Lib.hid hst
   clear d0 d1 t0 t1 hst hse hu' hxb
   go_wp2_with fail
   refine D0.out.mono ?_
   rintro e w' ⟨rfl, rfl⟩
   go_wp2_with fail
   refine D1.out.mono ?_
   rintro e w' ⟨rfl, rfl⟩
   go_wp2_with fail
   go_roundw
   case rel =>
    exact ⟨i + 1, c', k', out ++ [d], by have := HIK.out; omega, by go_num, rfl, hbo', by simp [HOL.out], HST.out, HS.out.1, hbel.setCell (p := ⟨w0.heap.size, i, none⟩) hsz0 _⟩
   case measure => simp [intOf]; omega
  ·obtain rfl : i = M := by omega
   obtain rfl : k = 0 := by have := HIK.out; omega
   have hrow : IsU32s wr (.slice (some ⟨w0.heap.size, 0, none⟩) i i) out := by
    have := HW.out
    rw [List.replicate_zero, List.append_nil] at this
    exact own_row' HOL.out this
   have hv : Na.val out = Na.val l - Na.val m := by
    have h1 := HVAL.out
    rw [HE.out.1, HE.out.2.1] at h1
    have h2 := Na.val_lt out
    rw [HOL.out] at h2
    exact sub_end h1 HLE.out h2
   have hs := short_any _ _ _ hrow
   rw [hv] at hs
   have HS := Lib.hid hs
   clear hs hrow hv
   go_wp2_with fail
   refine HS.out.mono ?_
   rintro e w' ⟨a', rfl, hr, rfl⟩
   have HR := Lib.hid hr
   clear hr
   go_wp2_with fail
   go_ret2
   exact ⟨_, rfl, HR.out, hbel⟩
end Go.Proofs.YtcohmdeoocgmdaaGreatDoor
