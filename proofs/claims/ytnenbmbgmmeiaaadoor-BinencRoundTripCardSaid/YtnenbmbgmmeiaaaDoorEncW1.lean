/- Walks of binenc: PutUvarint and the reference's; Same. -/
import Derived.Test.YtnenbmbgmmeiaaaDoorNatW1
import Derived.Test.YtnenbmbgmmeiaaaDoorEncSp
import Derived.Deep.QuietTactic
import Derived.BigQuiet
import Derived.Test.YtnenbmbgmmeiaaaDoorBase
import Derived.Deep.RegionHeld3
import Derived.Outline
import Derived.Laws.DeepNot64
import Derived.Lib.Zigzag
namespace Go.Proofs.YtnenbmbgmmeiaaaDoor
open Go.RowKit En
variable {α : Type}

set_option maxRecDepth 10000 in
theorem or_nat : ∀ m : Fin 256, m.val ||| 128 = m.val % 128 + 128 := by decide
theorem or_128 (n : Nat) : bits .or .u8 ((n : Int) % 256) 128 = (n : Int) % 128 + 128 := by
  have h := or_nat ⟨n % 256, Nat.mod_lt _ (by decide)⟩
  have := u8_or_nat (n % 256) 128 (by omega) (by omega)
  rw [show ((128 : Nat) : Int) = 128 from rfl, show ((n % 256 : Nat) : Int) = (n : Int) % 256 by omega] at this
  rw [this, h]; simp only; omega
set_option maxRecDepth 100000 in
set_option maxHeartbeats 800000 in
theorem refPutUvarint_any (x : Nat) (w : World) (hx : x < 18446744073709551616) :
    Calls Tryd.prog 17 #[.int .u64 (x : Int)] w fun e w' => ∃ v', e = .returned v' ∧ w'.ownsRow w.heap.size 5 1 v' (uvar 10 x).length ((uvar 10 x).map u8v) ∧ Ext w w' := by
  go_enter Tryd.func17, Tryd.ntmps17
  go_wp2
  go_loopw [0, 3] (fun xv v wr => ∃ (f n : Nat) (out : List UInt8), xv = .int .u64 n ∧ n < 18446744073709551616 ∧ n < 128 ^ (f + 1) ∧ out.length + f = 9 ∧ uvar 10 x = out ++ uvar (f + 1) n ∧ wr.ownsRow w.heap.size 5 1 v out.length (out.map u8v) ∧ Ext w wr) (fun xv _ _ => (intOf xv).toNat)
  case atStart => exact ⟨9, x, [], rfl, hx, by omega, rfl, rfl, World.ownsRow_lit w #[] 0 (Nat.le_refl _) (Nat.zero_le _) rfl, below_alloc _ _⟩
  case round =>
    obtain ⟨f, n, out, rfl, hn, hf, hl, hu, hown, hbel⟩ := hrel
    have HU := Lib.hid hu
    have h63 : out.length + 1 ≤ maxLen := by unfold maxLen; omega
    have hby : (out.length + 1) * 1 ≤ 140737488355328 := by omega
    have hsz : w.heap.size ≤ wr.heap.size := hbel.size
    clear hu
    by_cases hlt : n < 128
    · have hr := raw_one wr (.int .u8 (n : Int)) 5 rfl
      have hown' := hown.alloc (.cells #[.int .u8 (n : Int)] 5)
      have hsz' : w.heap.size ≤ (wr.alloc (.cells #[.int .u8 (n : Int)] 5)).heap.size := by simp; omega
      clear hown
      have hn8 : (n : Int) % 256 = n := by omega
      go_wp2_with (at_builtin; refine wpList_append_raw rfl _ _ _ rfl tyU8 w.heap.size hown' rfl hr rfl h63 hby hsz' ?_; intro v' w' hown2 hg)
      go_ret
      refine ⟨_, rfl, ?_, (hbel.alloc hsz _).grown hg hsz' (fun k hk => (World.ownsRow.lt hown' k hk).1)⟩
      have e : uvar 10 x = out ++ [UInt8.ofNat n] := by rw [HU.out, uvar, if_pos hlt]
      rw [e]
      simpa [u8v, ofNat8 (show n < 256 by omega)] using hown2
    · cases f with
      | zero => exact absurd hf (by omega)
      | succ f =>
        have hr := raw_one wr (.int .u8 ((n : Int) % 128 + 128)) 5 rfl
        have hown' := hown.alloc (.cells #[.int .u8 ((n : Int) % 128 + 128)] 5)
        have hsz' : w.heap.size ≤ (wr.alloc (.cells #[.int .u8 ((n : Int) % 128 + 128)] 5)).heap.size := by simp; omega
        have hn8 : ((n : Int) % 128 + 128) % 256 = (n : Int) % 128 + 128 := by omega
        clear hown
        go_wp2_with (at_builtin; refine wpList_append_raw rfl _ _ _ rfl tyU8 w.heap.size hown' rfl hr rfl h63 hby hsz' ?_; intro v' w' hown2 hg)
        go_roundw
        case rel =>
          refine ⟨f, n / 128, out ++ [UInt8.ofNat (n % 128 + 128)], by simp, by omega, ?_, by simp; omega, ?_, ?_, (hbel.alloc hsz _).grown hg hsz' (fun k hk => (World.ownsRow.lt hown' k hk).1)⟩
          · rw [Nat.pow_succ] at hf; exact Nat.div_lt_of_lt_mul (by omega)
          · rw [HU.out, uvar, if_neg hlt]; simp
          · simpa [u8v, ofNat8 (show n % 128 + 128 < 256 by omega), hn8] using hown2
        case measure => simp [intOf]; omega
set_option maxRecDepth 100000 in
set_option maxHeartbeats 800000 in
theorem putUvarint_any (x : Nat) (w : World) (hx : x < 18446744073709551616) :
    Calls Tryd.prog 16 #[.int .u64 (x : Int)] w fun e w' => ∃ v', e = .returned v' ∧ w'.ownsRow w.heap.size 5 1 v' (uvar 10 x).length ((uvar 10 x).map u8v) ∧ Ext w w' := by
  go_enter Tryd.func16, Tryd.ntmps16
  go_wp2
  go_loopw [0, 3] (fun xv v wr => ∃ (f n : Nat) (out : List UInt8), xv = .int .u64 n ∧ n < 18446744073709551616 ∧ n < 128 ^ (f + 1) ∧ out.length + f = 9 ∧ uvar 10 x = out ++ uvar (f + 1) n ∧ wr.ownsRow w.heap.size 5 1 v out.length (out.map u8v) ∧ Ext w wr) (fun xv _ _ => (intOf xv).toNat)
  case atStart => exact ⟨9, x, [], rfl, hx, by omega, rfl, rfl, World.ownsRow_nil _ _ _ _, Below.refl _ _⟩
  case round =>
    obtain ⟨f, n, out, rfl, hn, hf, hl, hu, hown, hbel⟩ := hrel
    have HU := Lib.hid hu
    have h63 : out.length + 1 ≤ maxLen := by unfold maxLen; omega
    have hby : (out.length + 1) * 1 ≤ 140737488355328 := by omega
    have hsz : w.heap.size ≤ wr.heap.size := hbel.size
    clear hu
    by_cases hlt : n < 128
    · have hr := raw_one wr (.int .u8 (n : Int)) 5 rfl
      have hown' := hown.alloc (.cells #[.int .u8 (n : Int)] 5)
      have hsz' : w.heap.size ≤ (wr.alloc (.cells #[.int .u8 (n : Int)] 5)).heap.size := by simp; omega
      clear hown
      have hn8 : (n : Int) % 256 = n := by omega
      go_wp2_with (at_builtin; refine wpList_append_raw rfl _ _ _ rfl tyU8 w.heap.size hown' rfl hr rfl h63 hby hsz' ?_; intro v' w' hown2 hg)
      go_ret
      refine ⟨_, rfl, ?_, (hbel.alloc hsz _).grown hg hsz' (fun k hk => (World.ownsRow.lt hown' k hk).1)⟩
      have e : uvar 10 x = out ++ [UInt8.ofNat n] := by rw [HU.out, uvar, if_pos hlt]
      rw [e]
      simpa [u8v, ofNat8 (show n < 256 by omega)] using hown2
    · cases f with
      | zero => exact absurd hf (by omega)
      | succ f =>
        have hr := raw_one wr (.int .u8 ((n : Int) % 128 + 128)) 5 rfl
        have hown' := hown.alloc (.cells #[.int .u8 ((n : Int) % 128 + 128)] 5)
        have hsz' : w.heap.size ≤ (wr.alloc (.cells #[.int .u8 ((n : Int) % 128 + 128)] 5)).heap.size := by simp; omega
        have hn8 := or_128 n
        clear hown
        go_wp2_with (at_builtin; refine wpList_append_raw rfl _ _ _ rfl tyU8 w.heap.size hown' rfl hr rfl h63 hby hsz' ?_; intro v' w' hown2 hg)
        go_roundw
        case rel =>
          refine ⟨f, n / 128, out ++ [UInt8.ofNat (n % 128 + 128)], by simp, by omega, ?_, by simp; omega, ?_, ?_, (hbel.alloc hsz _).grown hg hsz' (fun k hk => (World.ownsRow.lt hown' k hk).1)⟩
          · rw [Nat.pow_succ] at hf; exact Nat.div_lt_of_lt_mul (by omega)
          · rw [HU.out, uvar, if_neg hlt]; simp
          · simpa [u8v, ofNat8 (show n % 128 + 128 < 256 by omega), show ((n : Int) % 128 + 128) % 256 = (n : Int) % 128 + 128 by omega] using hown2
        case measure => simp [intOf]; omega
end Go.Proofs.YtnenbmbgmmeiaaaDoor
/- Walks of chapter 06's reference: Same. -/
namespace Go.Proofs.YtnenbmbgmmeiaaaDoor
open Go.RowKit En
variable {α : Type}

theorem u8v_inj (x y : UInt8) (h : u8v x = u8v y) : x = y := by
  simp only [u8v, Value.int.injEq, true_and] at h
  exact UInt8.toNat_inj.1 (by omega)

set_option maxRecDepth 100000 in
set_option maxHeartbeats 800000 in
theorem same06 (v u : Value) (l m : List UInt8) (w : World) (hv : IsBytes w v l) (hu : IsBytes w u m) :
    Calls Tryd.prog 15 #[v, u] w fun e w' => e = .returned (.bool (l == m)) ∧ Ext w w' := by
  obtain ⟨a, cap, rfl, hm, ha⟩ := hv
  obtain ⟨a2, cap2, rfl, hm2, ha2⟩ := hu
  have HA := Lib.hid ha
  have HA2 := Lib.hid ha2
  have hl := row_len hm ha
  have hl2 := row_len hm2 ha2
  clear ha ha2
  go_enter Tryd.func15, Tryd.ntmps15
  by_cases hne : (l.length : Int) = (m.length : Int)
  · have hlm : l.length = m.length := by omega
    have HLM := Lib.hid hlm
    have hne0 : ((l.length : Int) != (m.length : Int)) = false := by simp [hne]
    clear hne hlm
    go_wp2_with fail
    go_loopw [5] (fun i wr => ∃ k : Nat, k ≤ l.length ∧ i = .int .i64 k ∧ l.take k = m.take k ∧ Ext w wr) (fun i _ => l.length - (intOf i).toNat)
    case atStart => exact ⟨0, Nat.zero_le _, rfl, rfl, Below.refl _ _⟩
    case round =>
      obtain ⟨k, hk, rfl, ht, hbel⟩ := hrel
      have HT := Lib.hid ht
      clear ht
      by_cases hlt : k < l.length
      · have hlt2 : k < m.length := by have := HLM.out; omega
        rcases HA.out with ⟨rfl, _⟩ | ⟨b, o, rfl, hb, hlc, hc⟩
        · simp at hlt
        rcases HA2.out with ⟨rfl, _⟩ | ⟨b2, o2, rfl, hb2, hlc2, hc2⟩
        · simp at hlt2
        have h1 : wr.cell? ⟨b, o + k, none⟩ = some (u8v l[k]) := by rw [hbel.cell (p := ⟨b, o + k, none⟩) hb]; exact hc k hlt
        have h2 : wr.cell? ⟨b2, o2 + k, none⟩ = some (u8v m[k]) := by rw [hbel.cell (p := ⟨b2, o2 + k, none⟩) hb2]; exact hc2 k hlt2
        have hlti : (k : Int) < (m.length : Int) := by omega
        clear hc hc2
        by_cases he : l[k] = m[k]
        · have hei : (((l[k]).toNat : Int) != ((m[k]).toNat : Int)) = false := by simp [he]
          have HE := Lib.hid he
          clear he
          go_wp2_with fail
          go_quiet (fail)
          go_wp2_with fail
          go_roundw
          case rel =>
            refine ⟨k + 1, by omega, by go_num, ?_, below_drewN hbel _⟩
            rw [take_snoc l k hlt, take_snoc m k hlt2, HT.out, HE.out]
          case measure => simp [intOf]; omega
        · have hei : (((l[k]).toNat : Int) != ((m[k]).toNat : Int)) = true := by
            simp only [bne_iff_ne, ne_eq]
            intro h; exact he (UInt8.toNat_inj.1 (by omega))
          have HE := Lib.hid he
          clear he
          go_wp2_with fail
          go_quiet (fail)
          go_wp2_with fail
          go_ret
          have hf : (l == m) = false := by
            rw [beq_eq_false_iff_ne]
            rintro rfl
            exact HE.out rfl
          exact ⟨by rw [hf]; rfl, below_drewN hbel _⟩
      · obtain rfl : k = l.length := by omega
        go_wp2_with fail
        go_ret
        have ht := HT.out
        rw [List.take_length, HLM.out, List.take_length] at ht
        have hf : (l == m) = true := by rw [beq_iff_eq]; exact ht
        exact ⟨by rw [hf]; rfl, hbel⟩
  · have hne0 : ((l.length : Int) != (m.length : Int)) = true := by simp [hne]
    have hf : (l == m) = false := by
      rw [beq_eq_false_iff_ne]
      rintro rfl
      exact hne rfl
    clear hne
    go_wp2_with fail
    go_ret
    exact ⟨by rw [hf]; rfl, Below.refl _ _⟩
end Go.Proofs.YtnenbmbgmmeiaaaDoor
/- Walks of binenc: PutVarint and the reference's. -/
namespace Go.Proofs.YtnenbmbgmmeiaaaDoor
open Go.RowKit En
variable {α : Type}

set_option maxRecDepth 100000 in
set_option maxHeartbeats 800000 in
theorem refPutVarint_any (x : Int) (w : World) (h : -9223372036854775808 ≤ x) (h2 : x ≤ 9223372036854775807) :
    Calls Tryd.prog 22 #[.int .i64 x] w fun e w' => ∃ v', e = .returned v' ∧ w'.ownsRow w.heap.size 5 1 v' (uvar 10 (zig x)).length ((uvar 10 (zig x)).map u8v) ∧ Ext w w' := by
  have HC := Lib.hid (refPutUvarint_any (zig x) w (zig_lt h h2))
  go_enter Tryd.func22, Tryd.ntmps22
  by_cases hx : x < 0
  · have hz : ((zig x : Nat) : Int) = -2 * x - 1 := by unfold zig; rw [if_pos hx]; omega
    go_wp2_with fail
    rw [show (-1 - x) * 2 + 1 = ((zig x : Nat) : Int) by omega]
    refine HC.out.mono ?_
    rintro e w' ⟨v', rfl, ho, hb⟩
    go_wp2_with fail
    go_ret
    exact ⟨_, rfl, ho, hb⟩
  · have hz : ((zig x : Nat) : Int) = 2 * x := by unfold zig; rw [if_neg hx]; omega
    go_wp2_with fail
    rw [show x * 2 = ((zig x : Nat) : Int) by omega]
    refine HC.out.mono ?_
    rintro e w' ⟨v', rfl, ho, hb⟩
    go_wp2_with fail
    go_ret
    exact ⟨_, rfl, ho, hb⟩
theorem xor_ones (a : Nat) (ha : a < 18446744073709551616) : bits .xor .u64 (a : Int) 18446744073709551615 = ((18446744073709551615 - a : Nat) : Int) := by
  have h1 := bx64 (UInt64.ofNat a) (-1)
  have e1 : (UInt64.ofNat a).toNat = a := by simp; omega
  have e2 : (((-1 : UInt64).toNat : Nat) : Int) = 18446744073709551615 := by decide
  rw [e1, e2, UInt64.xor_neg_one, UInt64.toNat_not, e1] at h1
  rw [h1]; rfl
theorem zig_bits (x : Int) (h : -9223372036854775808 ≤ x) (h2 : x ≤ 9223372036854775807) :
    bits BinOp.xor IntKind.u64 (IntKind.u64.wrap (IntKind.u64.wrap x * 2)) (IntKind.u64.wrap (x / 9223372036854775808)) = ((zig x : Nat) : Int) := by
  rw [IntKind.wrap_u64, IntKind.wrap_u64, IntKind.wrap_u64]
  unfold zig
  split
  · rw [show x / 9223372036854775808 % 18446744073709551616 = 18446744073709551615 by omega]
    rw [show x % 18446744073709551616 * 2 % 18446744073709551616 = (((2 * x + 18446744073709551616).toNat : Nat) : Int) by omega, xor_ones _ (by omega)]
    omega
  · rw [show x / 9223372036854775808 % 18446744073709551616 = ((0 : Nat) : Int) by omega]
    rw [show x % 18446744073709551616 * 2 % 18446744073709551616 = (((2 * x).toNat : Nat) : Int) by omega, u64_xor_nat _ _ (by omega) (by omega), Nat.xor_zero]
theorem putVarint_any (x : Int) (w : World) (h : -9223372036854775808 ≤ x) (h2 : x ≤ 9223372036854775807) :
    Calls Tryd.prog 21 #[.int .i64 x] w fun e w' => ∃ v', e = .returned v' ∧ w'.ownsRow w.heap.size 5 1 v' (uvar 10 (zig x)).length ((uvar 10 (zig x)).map u8v) ∧ Ext w w' := by
  have HC := Lib.hid (putUvarint_any (zig x) w (zig_lt h h2))
  go_enter Tryd.func21, Tryd.ntmps21
  go_wp2_with fail
  rw [zig_bits x h h2]
  refine HC.out.mono ?_
  rintro e w' ⟨v', rfl, ho, hb⟩
  go_wp2_with fail
  go_ret
  exact ⟨_, rfl, ho, hb⟩
end Go.Proofs.YtnenbmbgmmeiaaaDoor
/- Walks of binenc: the reader. -/
namespace Go.Proofs.YtnenbmbgmmeiaaaDoor
open Go.RowKit En
variable {α : Type}

set_option maxRecDepth 100000 in
set_option maxHeartbeats 800000 in
theorem from_bad (v : Value) (l : List UInt8) (i : Int) (w : World) (hv : IsBytes w v l) (h : i < 0 ∨ (l.length : Int) < i) :
    Calls Tryd.prog 45 #[v, .int .i64 i] w fun e w' => e = .returned (.tuple #[.pointer none, .int .i64 2]) ∧ w = w' := by
  obtain ⟨a, cap, rfl, hm, ha⟩ := hv
  have hl := row_len hm ha
  clear ha
  go_enter Tryd.func45, Tryd.ntmps45
  by_cases h1 : i < 0
  · go_wp2_with fail
    go_ret2
    exact ⟨rfl, rfl⟩
  · have h2 : (l.length : Int) < i := by omega
    clear h
    go_wp2_with fail
    go_ret2
    exact ⟨rfl, rfl⟩
theorem from_good (v : Value) (l : List UInt8) (i : Nat) (w : World) (hv : IsBytes w v l) (h : i ≤ l.length) :
    Calls Tryd.prog 45 #[v, .int .i64 i] w fun e w' => e = .returned (.tuple #[.pointer (some ⟨w.heap.size, 0, none⟩), .int .i64 0]) ∧ w' = w.alloc (.cells #[v, .int .i64 i] 73) := by
  obtain ⟨a, cap, rfl, hm, ha⟩ := hv
  have hl := row_len hm ha
  clear ha
  go_enter Tryd.func45, Tryd.ntmps45
  go_wp2_with fail
  go_ret2
  exact ⟨rfl, rfl⟩
theorem left_any (v : Value) (l : List UInt8) (b p : Nat) (w : World) (hv : IsBytes w v l) (h0 : w.cell? ⟨b, 0, none⟩ = some v) (h1 : w.cell? ⟨b, 1, none⟩ = some (.int .i64 p)) (hp : p ≤ l.length) :
    Calls Tryd.prog 51 #[.pointer (some ⟨b, 0, none⟩)] w fun e w' => e = .returned (.int .i64 ((l.length - p : Nat) : Int)) ∧ ∃ n, w' = w.drewN n := by
  obtain ⟨a, cap, rfl, hm, ha⟩ := hv
  have hl := row_len hm ha
  clear ha
  go_enter Tryd.func51, Tryd.ntmps51
  go_wp2_with fail
  go_quiet (fail)
  go_wp2_with fail
  go_ret
  exact ⟨ret_int (by omega), _, rfl⟩
end Go.Proofs.YtnenbmbgmmeiaaaDoor
/- Walks of binenc: the reader's next. -/
namespace Go.Proofs.YtnenbmbgmmeiaaaDoor
open Go.RowKit En
variable {α : Type}

theorem blk_of {bb o n c n' c' : Nat} {ad : Addr} (h : Value.slice (some ⟨bb, o, none⟩) n c = .slice (some ad) n' c') : bb = ad.block := by
  simp only [Value.slice.injEq, Option.some.injEq] at h; rw [← h.1]
theorem row_mid {f : α → Value} {w : World} {bb o cap p k : Nat} {l : List α} (hm : cap ≤ maxLen) (hp : p + k ≤ l.length) (hlc : l.length ≤ cap) (hb : bb < w.heap.size)
    (hc : ∀ i (h : i < l.length), w.cell? ⟨bb, o + i, none⟩ = some (f l[i])) : IsRowOf f w (.slice (if cap = p then some ⟨bb, o, none⟩ else some ⟨bb, o + p, none⟩) k (cap - p)) ((l.drop p).take k) := by
  have e : ((l.drop p).take k).length = k := by simp; omega
  rcases Nat.eq_zero_or_pos k with rfl | hk
  · refine ⟨_, cap - p, by rw [e], by omega, .inl ⟨by simp, fun h => ?_⟩⟩
    split at h <;> simp at h
  · rw [if_neg (by omega)]
    refine ⟨_, cap - p, by rw [e], by omega, .inr ⟨bb, o + p, rfl, hb, by rw [e]; omega, fun i hi => ?_⟩⟩
    rw [e] at hi
    rw [Nat.add_assoc, hc (p + i) (by omega)]; simp

set_option maxRecDepth 100000 in
set_option maxHeartbeats 800000 in
theorem next_some (l : List UInt8) (b p k bb o cap : Nat) (w : World) (hm : cap ≤ maxLen) (hlc : l.length ≤ cap) (hbb : bb < w.heap.size) (hne : bb ≠ b)
    (hcs : ∀ i (h : i < l.length), w.cell? ⟨bb, o + i, none⟩ = some (u8v l[i])) (h0 : w.cell? ⟨b, 0, none⟩ = some (.slice (some ⟨bb, o, none⟩) l.length cap)) (h1 : w.cell? ⟨b, 1, none⟩ = some (.int .i64 p))
    (hfz : w.frozen? ⟨b, 1, none⟩ = false) (hp : p + k ≤ l.length) :
    Calls Tryd.prog 52 #[.pointer (some ⟨b, 0, none⟩), .int .i64 k] w fun e w' => ∃ v' n, e = .returned v' ∧ w' = (w.setCell ⟨b, 1, none⟩ (.int .i64 ((p : Int) + (k : Int)))).drewN n ∧
      IsBytes w' v' ((l.drop p).take k) ∧ ∀ ad n cap', v' = .slice (some ad) n cap' → bb = ad.block := by
  have HC := Lib.hid hcs
  clear hcs
  have hc : p + k ≤ cap := by omega
  have hi0 : (0 : Int) ≤ (p : Int) := by omega
  have hi1 : (p : Int) ≤ (p : Int) + (k : Int) := by omega
  have hi2 : (p : Int) + (k : Int) ≤ (cap : Int) := by omega
  have hi4 : IntKind.i64.wrap ((p : Int) + (k : Int)) = (p : Int) + (k : Int) := by rw [IntKind.wrap_i64]; have : maxLen = 9223372036854775807 := rfl; omega
  have hi5 : ((p : Int) + (k : Int)).toNat = p + k := by omega
  have hc2 : p ≤ p + k := by omega
  have hc3 : p + k - p = k := by omega
  have hc4 : p ≤ cap := by omega
  have hrow : IsBytes ((w.setCell ⟨b, 1, none⟩ (.int .i64 ((p : Int) + (k : Int)))).drewN 1) (.slice (if cap = p then some ⟨bb, o, none⟩ else some ⟨bb, o + p, none⟩) k (cap - p)) ((l.drop p).take k) :=
    row_mid hm hp hlc (by simpa using hbb) (fun i h => by rw [World.cell?_drewN, World.cell?_setCell_other _ _ _ _ (by simp only [ne_eq, Addr.mk.injEq]; omega)]; exact HC.out i h)
  by_cases hcp : cap = p
  · rw [if_pos hcp] at hrow
    have HR := Lib.hid hrow
    clear hrow
    subst hcp
    have HR := Lib.hid (by have h := HR.out; rw [Nat.sub_self] at h; exact h)
    go_enter Tryd.func52, Tryd.ntmps52
    go_wp2_with fail
    go_region_held3 (fun w' => w'.cell? ⟨b, 0, none⟩ = some (.slice (some ⟨bb, o, none⟩) l.length cap) ∧ w'.cell? ⟨b, 1, none⟩ = some (.int .i64 cap)) (go_keep) (fail)
    go_wp2_with fail
    go_ret
    exact ⟨_, 1, rfl, rfl, HR.out, fun _ _ _ e => blk_of e⟩
  · rw [if_neg hcp] at hrow
    have HR := Lib.hid hrow
    clear hrow
    go_enter Tryd.func52, Tryd.ntmps52
    go_wp2_with fail
    go_region_held3 (fun w' => w'.cell? ⟨b, 0, none⟩ = some (.slice (some ⟨bb, o, none⟩) l.length cap) ∧ w'.cell? ⟨b, 1, none⟩ = some (.int .i64 p)) (go_keep) (fail)
    go_wp2_with fail
    go_ret
    exact ⟨_, 1, rfl, rfl, HR.out, fun _ _ _ e => blk_of e⟩
end Go.Proofs.YtnenbmbgmmeiaaaDoor
/- Walks of binenc: the reader's state, next, number. -/
namespace Go.Proofs.YtnenbmbgmmeiaaaDoor
open Go.RowKit En
variable {α : Type}

/-- The reader in block b: its slice and its place. -/
structure Rd (w : World) (b : Nat) (v : Value) (l : List UInt8) (p : Nat) : Prop where
  c0 : w.cell? ⟨b, 0, none⟩ = some v
  c1 : w.cell? ⟨b, 1, none⟩ = some (.int .i64 p)
  fz : w.frozen? ⟨b, 1, none⟩ = false
  row : IsBytes w v l
  off : 0 < l.length → Off b v
  hp : p ≤ l.length
  lt : b < w.heap.size
theorem Rd.drewN {w : World} {b : Nat} {v : Value} {l : List UInt8} {p : Nat} (h : Rd w b v l p) (n : Nat) : Rd (w.drewN n) b v l p :=
  ⟨by rw [World.cell?_drewN]; exact h.c0, by rw [World.cell?_drewN]; exact h.c1, by rw [World.frozen?_drewN]; exact h.fz, h.row.below (below_drewN (Below.refl _ _) n), h.off, h.hp, by simpa using h.lt⟩
theorem Rd.ext {w w' : World} {b : Nat} {v : Value} {l : List UInt8} {p : Nat} (h : Rd w b v l p) (hb : Ext w w') : Rd w' b v l p :=
  ⟨by rw [hb.cell (p := ⟨b, 0, none⟩) h.lt]; exact h.c0, by rw [hb.cell (p := ⟨b, 1, none⟩) h.lt]; exact h.c1, by rw [hb.frozen (p := ⟨b, 1, none⟩) h.lt]; exact h.fz, h.row.below hb, h.off, h.hp, by have := hb.size; have := h.lt; omega⟩
theorem Rd.set {w : World} {b : Nat} {v : Value} {l : List UInt8} {p q : Nat} (h : Rd w b v l p) (hq : q ≤ l.length) : Rd (w.setCell ⟨b, 1, none⟩ (.int .i64 q)) b v l q :=
  ⟨by rw [World.cell?_setCell_other _ _ _ _ (by simp)]; exact h.c0, World.cell?_setCell_same _ _ _ h.c1, by simpa using h.fz, h.row.ch ((Ch.refl b w).setCell _ _) h.off, h.off, hq, by simpa [World.setCell] using h.lt⟩

theorem next_any (l : List UInt8) (b p k : Nat) (v : Value) (w : World) (h : Rd w b v l p) (hk : p + k ≤ l.length) (h0 : 0 < l.length) :
    Calls Tryd.prog 52 #[.pointer (some ⟨b, 0, none⟩), .int .i64 k] w fun e w' => ∃ v', e = .returned v' ∧ Rd w' b v l (p + k) ∧ Ch b w w' ∧ IsBytes w' v' ((l.drop p).take k) ∧ Off b v' := by
  obtain ⟨bb, o, cap, hv, hb, hl, hm, hc⟩ := row_some h.row rfl h0
  subst hv
  have hne : bb ≠ b := h.off h0 _ _ _ rfl
  refine (next_some l b p k bb o cap w hm hl hb hne hc h.c0 h.c1 h.fz hk).mono ?_
  rintro e w' ⟨v', n, rfl, hw, hr, hoff⟩
  have he : (p : Int) + (k : Int) = ((p + k : Nat) : Int) := by omega
  rw [he] at hw
  refine ⟨v', rfl, ?_, ?_, hr, ?_⟩
  · rw [hw]; exact (h.set hk).drewN n
  · rw [hw]; exact ((Ch.refl b w).setCell _ _).drewN n
  · intro ad n' cap' hv'
    exact fun e => hne (by rw [← e]; exact hoff ad n' cap' hv')
theorem from_rd (v : Value) (l : List UInt8) (i : Nat) (w : World) (hv : IsBytes w v l) (h : i ≤ l.length) :
    Calls Tryd.prog 45 #[v, .int .i64 i] w fun e w' => ∃ b, e = .returned (.tuple #[.pointer (some ⟨b, 0, none⟩), .int .i64 0]) ∧ Rd w' b v l i ∧ Ext w w' ∧ w.heap.size ≤ b := by
  refine (from_good v l i w hv h).mono ?_
  rintro e w' ⟨rfl, rfl⟩
  refine ⟨_, rfl, ⟨?_, ?_, ?_, hv.below (below_alloc _ _), off_new hv (Nat.le_refl _), h, by simp⟩, below_alloc _ _, Nat.le_refl _⟩
  · rw [World.cell?_alloc_at _ _ _ _ rfl]; rfl
  · rw [World.cell?_alloc_at _ _ _ _ rfl]; rfl
  · rw [World.frozen?_alloc_at _ _ _ _ rfl]
end Go.Proofs.YtnenbmbgmmeiaaaDoor
/- Walks of binenc: number. -/
namespace Go.Proofs.YtnenbmbgmmeiaaaDoor
open Go.RowKit En
variable {α : Type}

def NumPost (w : World) (b : Nat) (v : Value) (l : List UInt8) (p : Nat) (r : Except Nat (Nat × Nat)) (e : Ending) (w' : World) : Prop :=
  ∃ q, Rd w' b v l q ∧ Ch b w w' ∧ (match r with
    | .ok (n, k) => q = p + k ∧ e = .returned (.tuple #[.int .u64 (n : Int), .int .i64 0])
    | .error er => e = .returned (.tuple #[.int .u64 0, .int .i64 (er : Int)]))
theorem left_rd (l : List UInt8) (b p : Nat) (v : Value) (w : World) (h : Rd w b v l p) :
    Calls Tryd.prog 51 #[.pointer (some ⟨b, 0, none⟩)] w fun e w' => e = .returned (.int .i64 ((l.length - p : Nat) : Int)) ∧ Rd w' b v l p ∧ Ch b w w' := by
  refine (left_any v l b p w h.row h.c0 h.c1 h.hp).mono ?_
  rintro e w' ⟨rfl, n, rfl⟩
  exact ⟨rfl, h.drewN n, (Ch.refl b w).drewN n⟩

theorem num_ok {w : World} {b : Nat} {v : Value} {l : List UInt8} {p k f acc c : Nat} {w' : World} (hu : Hid (usc 9 (l.drop p) = comb k acc (usc f (l.drop (p + k))))) (hf : usc f (l.drop (p + k)) = .ok (c, 1))
    (hr : Rd w' b v l (p + k + 1)) (hc : Ch b w w') {x : Int} (hx : x = ((acc + 128 ^ k * c : Nat) : Int)) : NumPost w b v l p (usc 9 (l.drop p)) (.returned (.tuple #[.int .u64 x, .int .i64 0])) w' := by
  refine ⟨p + k + 1, hr, hc, ?_⟩
  rw [hu.out, hf, hx]
  exact ⟨by omega, rfl⟩
theorem num_err {w : World} {b : Nat} {v : Value} {l : List UInt8} {p k f acc q er : Nat} {w' : World} (hu : Hid (usc 9 (l.drop p) = comb k acc (usc f (l.drop (p + k))))) (hf : usc f (l.drop (p + k)) = .error er)
    (hr : Rd w' b v l q) (hc : Ch b w w') : NumPost w b v l p (usc 9 (l.drop p)) (.returned (.tuple #[.int .u64 0, .int .i64 (er : Int)])) w' := by
  refine ⟨q, hr, hc, ?_⟩
  rw [hu.out, hf]
  rfl
set_option maxRecDepth 10000 in
theorem andNot_all : ∀ c : Fin 256, bits .andNot .u8 (c.val : Int) 128 = ((c.val % 128 : Nat) : Int) := by decide +kernel
theorem num_step (c : UInt8) (acc k : Nat) (h : acc < 128 ^ k) (hk : k ≤ 9) (h9 : k < 9 ∨ c.toNat < 2) :
    bits BinOp.or IntKind.u64 (acc : Int) (IntKind.u64.wrap (IntKind.u64.wrap (bits BinOp.andNot IntKind.u8 (c.toNat : Int) 128) * 2 ^ (7 * k))) = ((acc + 128 ^ k * (c.toNat % 128) : Nat) : Int) := by
  have h1 := andNot_all ⟨c.toNat, c.toNat_lt⟩
  simp only at h1
  rw [h1]
  have e128 : (128 : Nat) ^ k = 2 ^ (7 * k) := by rw [Nat.pow_mul]
  have hp : 2 ^ (7 * k) ≤ 2 ^ 63 := Nat.pow_le_pow_right (by omega) (by omega)
  have hb : (c.toNat % 128) * 2 ^ (7 * k) < 18446744073709551616 := by
    rcases h9 with h9 | h9
    · have h2 : 2 ^ (7 * k) ≤ 2 ^ 56 := Nat.pow_le_pow_right (by omega) (by omega)
      have h3 : c.toNat % 128 ≤ 127 := by omega
      have := Nat.mul_le_mul h3 h2
      omega
    · have h3 : c.toNat % 128 ≤ 1 := by omega
      have := Nat.mul_le_mul h3 hp
      omega
  have w1 : IntKind.u64.wrap ((c.toNat % 128 : Nat) : Int) = ((c.toNat % 128 : Nat) : Int) := by rw [IntKind.wrap_u64]; omega
  rw [w1]
  have w2 : ((c.toNat % 128 : Nat) : Int) * 2 ^ (7 * k) = (((c.toNat % 128) * 2 ^ (7 * k) : Nat) : Int) := by push_cast; rfl
  rw [w2, IntKind.wrap_u64]
  have w3 : (((c.toNat % 128) * 2 ^ (7 * k) : Nat) : Int) % 18446744073709551616 = (((c.toNat % 128) * 2 ^ (7 * k) : Nat) : Int) := by omega
  rw [w3, u64_or_nat _ _ (by omega) hb, Nat.or_comm, nat_join (7 * k) _ _ (Nat.mul_mod_left _ _) (by omega), e128, Nat.mul_comm, Nat.add_comm]

set_option maxRecDepth 100000 in
set_option maxHeartbeats 800000 in
theorem number_any (l : List UInt8) (b p : Nat) (v : Value) (w : World) (h : Rd w b v l p) :
    Calls Tryd.prog 46 #[.pointer (some ⟨b, 0, none⟩)] w (NumPost w b v l p (usc 9 (l.drop p))) := by
  have hml := h.row.len
  unfold maxLen at hml
  have H := Lib.hid h
  clear h
  go_enter Tryd.func46, Tryd.ntmps46
  go_wp2_with fail
  go_loopw [4, 5] (fun n i wr => ∃ k f acc : Nat, i = .int .i64 k ∧ k + f = 9 ∧ n = .int .u64 acc ∧ acc < 128 ^ k ∧ Rd wr b v l (p + k) ∧ Hid (usc 9 (l.drop p) = comb k acc (usc f (l.drop (p + k)))) ∧ Ch b w wr) (fun _ i _ => 10 - (intOf i).toNat)
  case atStart => exact ⟨0, 9, 0, rfl, rfl, rfl, by omega, H.out, (comb_zero _).symm, Ch.refl _ _⟩
  case round =>
    obtain ⟨k, f, acc, rfl, hkf, rfl, hacc, hrd, HU, hch⟩ := hrel
    have HC := Lib.hid (left_rd l b (p + k) v wr hrd)
    have hpk := hrd.hp
    have HR := Lib.hid hrd
    have HA := Lib.hid hacc
    clear hrd hacc
    go_wp2_with fail
    refine HC.out.mono ?_
    rintro e w' ⟨rfl, hrd2, hch2⟩
    clear HC HR
    by_cases hlt : p + k < l.length
    · have hl0 : (0 : Int) < ((l.length - (p + k) : Nat) : Int) := by omega
      have HN := Lib.hid (next_any l b (p + k) 1 v w' hrd2 (by omega) (by omega))
      have HR := Lib.hid hrd2
      clear hrd2
      go_wp2_with fail
      refine HN.out.mono ?_
      rintro e w3 ⟨v', rfl, hrd3, hch3, hrow, hoff⟩
      clear HN HR
      have hone : (l.drop (p + k)).take 1 = [l[p + k]] := by rw [List.drop_eq_getElem_cons hlt]; rfl
      rw [hone] at hrow
      obtain ⟨c, hcc⟩ : ∃ c, l[p + k] = c := ⟨_, rfl⟩
      rw [hcc] at hrow
      obtain ⟨bb, o, cap, hv, hb, hl, hm, hc⟩ := row_some hrow rfl Nat.one_pos
      have hc0 := hc 0 Nat.one_pos
      simp only [Nat.add_zero, List.getElem_cons_zero] at hc0
      rw [hv]
      have HD := Lib.hid (List.drop_eq_getElem_cons hlt)
      rw [hcc] at HD
      clear hc hv hrow hone hcc
      have HR := Lib.hid hrd3
      have hch4 := Ch.trans hch (Ch.trans hch2 hch3)
      clear hrd3
      have hc8 := c.toNat_lt
      have hk9 : k ≤ 9 := by omega
      cases f with
      | zero =>
        obtain rfl : k = 9 := by omega
        rcases Nat.lt_trichotomy c.toNat 1 with h1 | h1 | h1
        · have hc1 : ((c.toNat : Int) == 0) = true := by rw [beq_iff_eq]; omega
          have hu : Hid (usc 0 (l.drop (p + 9)) = .error 3) := by rw [HD.out]; simp only [usc]; rw [if_neg (by omega)]; rfl
          go_wp2_with fail
          go_ret2
          exact num_err HU hu.out HR.out hch4
        · have hc1 : ((c.toNat : Int) == 0) = false := by rw [beq_eq_false_iff_ne]; omega
          have hu : Hid (usc 0 (l.drop (p + 9)) = .ok (c.toNat, 1)) := by rw [HD.out]; simp only [usc]; rw [if_pos h1, h1]; rfl
          have HS := Lib.hid (num_step c acc 9 HA.out (by omega) (.inr (by omega)))
          have h1' : (c.toNat : Int) ≤ 1 := by omega
          have h2' : (c.toNat : Int) < 128 := by omega
          have H1 := Lib.hid h1
          clear h1
          go_wp2_with fail
          go_ret2
          refine num_ok HU hu.out HR.out hch4 (HS.out.trans ?_)
          have := H1.out; rw [this]
        · have hu : Hid (usc 0 (l.drop (p + 9)) = .error 3) := by rw [HD.out]; simp only [usc]; rw [if_neg (by omega)]; rfl
          go_wp2_with fail
          go_ret2
          exact num_err HU hu.out HR.out hch4
      | succ f =>
        have hk9 : ((k : Int) == 9) = false := by rw [beq_eq_false_iff_ne]; omega
        have HS := Lib.hid (num_step c acc k HA.out (by omega) (.inl (by omega)))
        by_cases hlo : c.toNat < 128
        · have hlo' : (c.toNat : Int) < 128 := by omega
          have H128 : Hid (c.toNat % 128 = c.toNat) := Nat.mod_eq_of_lt hlo
          rcases Nat.eq_zero_or_pos c.toNat with h0 | h0
          · have h0' : ((c.toNat : Int) == 0) = true := by rw [beq_iff_eq]; omega
            rcases Nat.eq_zero_or_pos k with hk | hk
            · have hu : Hid (usc (f + 1) (l.drop (p + k)) = .ok (c.toNat, 1)) := by rw [HD.out]; simp only [usc]; rw [if_pos hlo, if_neg (by omega)]; rfl
              have hkp : ¬ (0 : Int) < (k : Int) := by omega
              have HK := Lib.hid hk
              have H0 := Lib.hid h0
              clear hk h0
              go_wp2_with fail
              go_ret2
              exact num_ok HU hu.out HR.out hch4 (HS.out.trans (by rw [H128.out]))
            · have hu : Hid (usc (f + 1) (l.drop (p + k)) = .error 3) := by rw [HD.out]; simp only [usc]; rw [if_pos hlo, if_pos ⟨h0, by omega⟩]; rfl
              have hkp : (0 : Int) < (k : Int) := by omega
              have H0 := Lib.hid h0
              clear h0
              go_wp2_with fail
              go_ret2
              exact num_err HU hu.out HR.out hch4
          · have h0' : ((c.toNat : Int) == 0) = false := by rw [beq_eq_false_iff_ne]; omega
            have hu : Hid (usc (f + 1) (l.drop (p + k)) = .ok (c.toNat, 1)) := by rw [HD.out]; simp only [usc]; rw [if_pos hlo, if_neg (by omega)]; rfl
            go_wp2_with fail
            go_ret2
            exact num_ok HU hu.out HR.out hch4 (HS.out.trans (by rw [H128.out]))
        · have hlo' : ¬ (c.toNat : Int) < 128 := by omega
          have HL := Lib.hid hlo
          clear hlo
          go_wp2_with fail
          go_roundw
          case rel =>
            refine ⟨k + 1, f, acc + 128 ^ k * (c.toNat % 128), by go_num, by omega, by rw [HS.out], ?_, HR.out, ?_, hch4⟩
            · have := HA.out
              rw [Nat.pow_succ]
              have h2 : c.toNat % 128 ≤ 127 := by omega
              have := Nat.mul_le_mul_left (128 ^ k) h2
              omega
            · show _ = _
              rw [HU.out, HD.out, usc_cons f c _ HL.out, comb_comb]; rfl
          case measure => simp [intOf]; omega
    · have hl0 : ¬ (0 : Int) < ((l.length - (p + k) : Nat) : Int) := by omega
      have hu : Hid (usc f (l.drop (p + k)) = .error 4) := by rw [List.drop_eq_nil_of_le (by omega), usc_nil]; rfl
      have hch4 := Ch.trans hch hch2
      have HR := Lib.hid hrd2
      clear hrd2
      go_wp2_with fail
      go_ret2
      exact num_err HU hu.out HR.out hch4
end Go.Proofs.YtnenbmbgmmeiaaaDoor
/- Walks of binenc: Uvarint, Varint and the references'. -/
namespace Go.Proofs.YtnenbmbgmmeiaaaDoor
open Go.RowKit En
variable {α : Type}
theorem uat_bad {l : List UInt8} {i : Int} (h : i < 0 ∨ (l.length : Int) < i) : uat l i = (0, 0, 2) := by unfold uat; rw [if_pos h]
theorem uat_ok {l : List UInt8} {i n k : Nat} (h : i ≤ l.length) (hu : usc 9 (l.drop i) = .ok (n, k)) : uat l i = (n, i + k, 0) := by
  unfold uat; rw [if_neg (by omega), Int.toNat_natCast, hu]
theorem uat_err {l : List UInt8} {i e : Nat} (h : i ≤ l.length) (hu : usc 9 (l.drop i) = .error e) : uat l i = (0, 0, e) := by
  unfold uat; rw [if_neg (by omega), Int.toNat_natCast, hu]
theorem err_pos {l : List UInt8} {e : Nat} (hu : usc 9 l = .error e) : ((e : Int) != 0) = true := by
  rw [bne_iff_ne]; rcases usc_err _ _ _ hu with h | h <;> omega
abbrev utup (r : Nat × Nat × Nat) : Value := .tuple #[.int .u64 (r.1 : Int), .int .i64 (r.2.1 : Int), .int .i64 (r.2.2 : Int)]

set_option maxRecDepth 100000 in
set_option maxHeartbeats 800000 in
theorem uvarint_any (v : Value) (l : List UInt8) (i : Int) (w : World) (hv : IsBytes w v l) :
    Calls Tryd.prog 13 #[v, .int .i64 i] w fun e w' => e = .returned (utup (uat l i)) ∧ Ext w w' := by
  by_cases hbad : i < 0 ∨ (l.length : Int) < i
  · rw [uat_bad hbad]
    have HF := Lib.hid (from_bad v l i w hv hbad)
    clear hbad
    go_enter Tryd.func13, Tryd.ntmps13
    go_wp2_with fail
    refine HF.out.mono ?_
    rintro e w' ⟨rfl, rfl⟩
    go_wp2_with fail
    go_ret3
    exact ⟨rfl, Below.refl _ _⟩
  · obtain ⟨p, rfl⟩ : ∃ p : Nat, i = p := ⟨i.toNat, by omega⟩
    have hp : p ≤ l.length := by omega
    have HF := Lib.hid (from_rd v l p w hv hp)
    clear hbad
    have hl := hv.len
    unfold maxLen at hl
    cases hu : usc 9 (l.drop p) with
    | error er =>
      rw [uat_err hp hu]
      have he := err_pos hu
      have HU := Lib.hid hu
      clear hu
      go_enter Tryd.func13, Tryd.ntmps13
      go_wp2_with fail
      refine HF.out.mono ?_
      rintro e w1 ⟨b, rfl, hrd, hb1, hb⟩
      have HN := Lib.hid (number_any l b p v w1 hrd)
      rw [HU.out] at HN
      clear hrd HF
      go_wp2_with fail
      refine HN.out.mono ?_
      rintro e w2 ⟨q, hrd, hch, rfl⟩
      have HR := Lib.hid hrd
      have HB := Lib.hid (Below.trans hb1 (hch.below hb hb1.size))
      clear hrd hch hb1 HN
      go_wp2_with fail
      go_ret3
      exact ⟨rfl, HB.out⟩
    | ok r =>
      obtain ⟨n, k⟩ := r
      rw [uat_ok hp hu]
      have HU := Lib.hid hu
      clear hu
      go_enter Tryd.func13, Tryd.ntmps13
      go_wp2_with fail
      refine HF.out.mono ?_
      rintro e w1 ⟨b, rfl, hrd, hb1, hb⟩
      have HN := Lib.hid (number_any l b p v w1 hrd)
      rw [HU.out] at HN
      clear hrd HF
      go_wp2_with fail
      refine HN.out.mono ?_
      rintro e w2 ⟨q, hrd, hch, hq, rfl⟩
      have h1 := hrd.c1
      have HB := Lib.hid (Below.trans hb1 (hch.below hb hb1.size))
      have HQ := Lib.hid hq
      clear hrd hch hb1 HN hq
      go_wp2_with fail
      go_quiet (fail)
      go_wp2_with fail
      go_ret3
      rw [HQ.out]
      exact ⟨rfl, below_drewN HB.out _⟩
end Go.Proofs.YtnenbmbgmmeiaaaDoor
/- Walks of chapter 06's reference: Uvarint; Varint of both. -/
namespace Go.Proofs.YtnenbmbgmmeiaaaDoor
open Go.RowKit En
variable {α : Type}

def grp : List UInt8 → Nat
  | [] => 0
  | c :: l => c.toNat % 128 + 128 * grp l
theorem grp_snoc (l : List UInt8) (c : UInt8) : grp (l ++ [c]) = grp l + 128 ^ l.length * (c.toNat % 128) := by
  induction l with
  | nil => simp [grp]
  | cons d l ih =>
    simp only [List.cons_append, grp, ih, List.length_cons, Nat.pow_succ, Nat.mul_add]
    rw [Nat.mul_comm (128 ^ l.length) 128, Nat.mul_assoc]; omega
theorem grp_take (l : List UInt8) (p k : Nat) (h : p + k < l.length) : grp ((l.drop p).take (k + 1)) = grp ((l.drop p).take k) + 128 ^ k * ((l[p + k]).toNat % 128) := by
  have hlt : k < (l.drop p).length := by simp; omega
  rw [take_snoc (l.drop p) k hlt, grp_snoc]
  have e : ((l.drop p).take k).length = k := by simp; omega
  rw [e]; simp

/-- The bytes ahead of offset p + k all say that more follow. -/
def Led (l : List UInt8) (p k f : Nat) : Prop := usc 9 (l.drop p) = comb k (grp ((l.drop p).take k)) (usc f (l.drop (p + k)))
theorem led_next {l : List UInt8} {p k f : Nat} (h : Led l p k (f + 1)) (hlt : p + k < l.length) (hc : ¬ (l[p + k]).toNat < 128) : Led l p (k + 1) f := by
  unfold Led at h ⊢
  rw [h, usc_drop f l (p + k) hlt hc, comb_comb, grp_take l p k hlt]; rfl
theorem led_ok {l : List UInt8} {p k f : Nat} (h : Led l p k f) (hlt : p + k < l.length) (hf : usc f (l.drop (p + k)) = .ok ((l[p + k]).toNat, 1)) (hc : (l[p + k]).toNat < 128) :
    usc 9 (l.drop p) = .ok (grp ((l.drop p).take (k + 1)), k + 1) := by
  unfold Led at h
  rw [h, hf, grp_take l p k hlt, Nat.mod_eq_of_lt hc]; rfl
theorem led_err {l : List UInt8} {p k f e : Nat} (h : Led l p k f) (hf : usc f (l.drop (p + k)) = .error e) : usc 9 (l.drop p) = .error e := by
  unfold Led at h
  rw [h, hf]; rfl

set_option maxRecDepth 100000 in
set_option maxHeartbeats 1600000 in
theorem refUvarint_any (v : Value) (l : List UInt8) (i : Int) (w : World) (hv : IsBytes w v l) :
    Calls Tryd.prog 14 #[v, .int .i64 i] w fun e w' => e = .returned (utup (uat l i)) ∧ w = w' := by
  have hml := hv.len
  unfold maxLen at hml
  obtain ⟨a, cap, rfl, hm, ha⟩ := hv
  have HA := Lib.hid ha
  clear ha
  by_cases hbad : i < 0 ∨ (l.length : Int) < i
  · rw [uat_bad hbad]
    go_enter Tryd.func14, Tryd.ntmps14
    by_cases h1 : i < 0
    · go_wp2_with fail
      go_ret3
      exact ⟨rfl, rfl⟩
    · have h2 : (l.length : Int) < i := by omega
      clear hbad
      go_wp2_with fail
      go_ret3
      exact ⟨rfl, rfl⟩
  · obtain ⟨p, rfl⟩ : ∃ p : Nat, i = p := ⟨i.toNat, by omega⟩
    have hp : p ≤ l.length := by omega
    clear hbad
    go_enter Tryd.func14, Tryd.ntmps14
    go_wp2_with fail
    go_loop [7] (fun i => ∃ k : Nat, i = .int .i64 k ∧ ∃ f : Nat, k + f = 9 ∧ p + k ≤ l.length ∧ Hid (Led l p k f)) (fun i => 10 - (intOf i).toNat)
    case atStart => exact ⟨0, rfl, 9, rfl, hp, (comb_zero _).symm⟩
    case round =>
      obtain ⟨k, rfl, f, hkf, hpk, HL⟩ := hrel
      by_cases hlt : p + k < l.length
      · rcases HA.out with ⟨rfl, _⟩ | ⟨b, o, rfl, hb, hlc, hcs⟩
        · simp at hlt
        have hc0 := hcs (p + k) hlt
        clear hcs
        obtain ⟨c, hcc⟩ : ∃ c, l[p + k] = c := ⟨_, rfl⟩
        rw [hcc] at hc0
        have hc8 := c.toNat_lt
        have HD := Lib.hid (List.drop_eq_getElem_cons hlt)
        rw [hcc] at HD
        have HCC := Lib.hid hcc
        clear hcc
        have hltI : (p : Int) + (k : Int) < (l.length : Int) := by omega
        by_cases hgo : k < 9 ∧ 127 < c.toNat
        · obtain ⟨hk9, hc⟩ := hgo
          obtain ⟨g, rfl⟩ : ∃ g, f = g + 1 := ⟨f - 1, by omega⟩
          have hcI : (127 : Int) < (c.toNat : Int) := by omega
          have HN : Hid (Led l p (k + 1) g) := led_next HL.out hlt (by rw [HCC.out]; omega)
          go_wp2_with fail
          go_round
          case rel => exact ⟨k + 1, by go_num, g, by omega, by omega, HN⟩
          case measure => simp [intOf]; omega
        · by_cases hend : (k < 9 ∧ c.toNat < 128 ∧ (c.toNat ≠ 0 ∨ k = 0)) ∨ (k = 9 ∧ c.toNat = 1)
          · have hf : usc f (l.drop (p + k)) = .ok (c.toNat, 1) := by
              rw [HD.out]
              rcases hend with ⟨h1, h2, h3⟩ | ⟨h1, h2⟩
              · obtain ⟨g, rfl⟩ : ∃ g, f = g + 1 := ⟨f - 1, by omega⟩
                simp only [usc]; rw [if_pos h2, if_neg (by omega)]
              · obtain rfl : f = 0 := by omega
                simp only [usc]; rw [if_pos h2, h2]
            have hu := led_ok HL.out hlt (by rw [HCC.out]; exact hf) (by rw [HCC.out]; omega)
            have hT := (usc_ok9 hu).1
            generalize hTT : grp ((l.drop p).take (k + 1)) = T at *
            have HT := Lib.hid hTT
            have HU := Lib.hid hu
            clear hu hf hTT hgo HL HD
            have hc127 : ¬ (127 : Int) < (c.toNat : Int) := by omega
            have fin : Hid ((((k : Int) == 9) = false ∧ ¬ (0 : Int) < (k : Int)) ∨ (((k : Int) == 9) = false ∧ ((c.toNat : Int) == 0) = false ∧ (0 : Int) < (k : Int) ∧ (k : Int) < 9) ∨ (((k : Int) == 9) = true ∧ ((c.toNat : Int) == 0) = false ∧ ¬ (1 : Int) < (c.toNat : Int) ∧ (0 : Int) < (k : Int) ∧ ¬ (k : Int) < 9)) := by
              rcases Nat.eq_zero_or_pos k with h0 | h0
              · left; exact ⟨by rw [beq_eq_false_iff_ne]; omega, by omega⟩
              · right
                rcases hend with ⟨h1, h2, h3⟩ | ⟨h1, h2⟩
                · left; exact ⟨by rw [beq_eq_false_iff_ne]; omega, by rw [beq_eq_false_iff_ne]; omega, by omega, by omega⟩
                · right; exact ⟨by rw [beq_iff_eq]; omega, by rw [beq_eq_false_iff_ne]; omega, by omega, by omega, by omega⟩
            clear hend
            have hne : ((p : Int) + (k : Int) == (l.length : Int)) = false := by rw [beq_eq_false_iff_ne]; omega
            have h0 : Hid (k + 1 ≤ k + 1 ∧ grp ((l.drop p).take (k + 1)) + 128 ^ (k + 1) * 0 = T) := ⟨Nat.le_refl _, by rw [HT.out]; rfl⟩
            rcases fin.out with ⟨hk9, hz⟩ | ⟨hk9, hz, hz1, hz3⟩ | ⟨hk9, hz, hz2, hz1, hz3⟩
            all_goals
              go_wp2_with fail
              go_loop [8, 9] (fun nv i => ∃ j : Nat, i = .int .i64 ((j : Int) - 1) ∧ ∃ n : Nat, nv = .int .u64 n ∧ Hid (j ≤ k + 1 ∧ grp ((l.drop p).take j) + 128 ^ j * n = T)) (fun _ i => (intOf i + 1).toNat)
              case atStart => exact ⟨k + 1, val_i64 (by omega), 0, rfl, h0⟩
              case round =>
                obtain ⟨j, rfl, n, rfl, HJ⟩ := hrel
                cases j with
                | zero =>
                  go_wp2_with fail
                  go_ret3
                  have e : n = T := by have := HJ.out.2; simp [grp] at this; exact this
                  refine ⟨?_, rfl⟩
                  rw [uat_ok hp HU.out, e]
                  have e2 : (p : Int) + (k : Int) + 1 = ((p + (k + 1) : Nat) : Int) := by omega
                  rw [e2]; rfl
                | succ j =>
                  have hi : (((j + 1 : Nat) : Int) - 1) = (j : Int) := by omega
                  rw [hi]
                  have hjk : j ≤ k := by have := HJ.out.1; omega
                  have hltj : p + j < l.length := by omega
                  obtain ⟨d, hdd⟩ : ∃ d, l[p + j] = d := ⟨_, rfl⟩
                  have hcj : w.cell? ⟨b, o + (p + j), none⟩ = some (u8v d) := by
                    rcases HA.out with ⟨h, _⟩ | ⟨b', o', h, _, _, hcs⟩
                    · rw [h] at hlt; simp at hlt
                    · simp only [Option.some.injEq, Addr.mk.injEq, and_true] at h
                      obtain ⟨rfl, rfl⟩ := h
                      rw [hcs (p + j) hltj, hdd]
                  have hg := grp_take l p j hltj
                  rw [hdd] at hg
                  have hT2 : 128 ^ j * (n * 128 + d.toNat % 128) + grp ((l.drop p).take j) = T := by
                    have := HJ.out.2
                    rw [hg, Nat.pow_succ] at this
                    rw [Nat.mul_add, Nat.mul_comm n, ← Nat.mul_assoc]; omega
                  have hle : n * 128 + d.toNat % 128 ≤ T := by
                    have h1 : 1 ≤ 128 ^ j := Nat.pow_pos (by omega)
                    have := Nat.mul_le_mul_right (n * 128 + d.toNat % 128) h1
                    omega
                  have hd8 := d.toNat_lt
                  have HN : Hid (j ≤ k + 1 ∧ grp ((l.drop p).take j) + 128 ^ j * (n * 128 + d.toNat % 128) = T) := ⟨by omega, by omega⟩
                  have hb1 : (n : Int) * 128 + (d.toNat : Int) % 128 < 18446744073709551616 := by omega
                  clear hT2 hg hdd hi
                  go_wp2_with fail
                  go_round
                  case rel => exact ⟨j, rfl, n * 128 + d.toNat % 128, by first | rfl | exact val_int (by omega), HN⟩
                  case measure => simp [intOf]
          · have herr : usc f (l.drop (p + k)) = .error 3 := by
              rw [HD.out]
              rcases Nat.lt_or_ge k 9 with h9 | h9
              · obtain ⟨g, rfl⟩ : ∃ g, f = g + 1 := ⟨f - 1, by omega⟩
                simp only [usc]; rw [if_pos (by omega), if_pos ⟨by omega, by omega⟩]
              · obtain rfl : f = 0 := by omega
                simp only [usc]; rw [if_neg (by omega)]
            have HE := Lib.hid (uat_err hp (led_err HL.out herr))
            have hne : ((p : Int) + (k : Int) == (l.length : Int)) = false := by rw [beq_eq_false_iff_ne]; omega
            have fin : Hid ((((k : Int) == 9) = false ∧ ((c.toNat : Int) == 0) = true ∧ (0 : Int) < (k : Int) ∧ (k : Int) < 9 ∧ ¬ (127 : Int) < (c.toNat : Int)) ∨ (((k : Int) == 9) = true ∧ (1 : Int) < (c.toNat : Int) ∧ ¬ (k : Int) < 9) ∨ (((k : Int) == 9) = true ∧ ((c.toNat : Int) == 0) = true ∧ ¬ (1 : Int) < (c.toNat : Int) ∧ (0 : Int) < (k : Int) ∧ ¬ (k : Int) < 9)) := by
              rcases Nat.lt_or_ge k 9 with h9 | h9
              · left; exact ⟨by rw [beq_eq_false_iff_ne]; omega, by rw [beq_iff_eq]; omega, by omega, by omega, by omega⟩
              · right
                by_cases h1 : 1 < c.toNat
                · left; exact ⟨by rw [beq_iff_eq]; omega, by omega, by omega⟩
                · right; exact ⟨by rw [beq_iff_eq]; omega, by rw [beq_iff_eq]; omega, by omega, by omega, by omega⟩
            clear herr hgo hend
            rcases fin.out with ⟨hk9, hz, h1, h2, h3⟩ | ⟨hk9, hz, h1⟩ | ⟨hk9, hz, h1, h2, h3⟩
            all_goals
              go_wp2_with fail
              go_ret3
              exact ⟨by rw [HE.out]; rfl, rfl⟩
      · have hE := uat_err hp (led_err HL.out (show usc f (l.drop (p + k)) = .error 4 by rw [List.drop_eq_nil_of_le (by omega), usc_nil]))
        have HE := Lib.hid hE
        have hne : ((p : Int) + (k : Int) == (l.length : Int)) = true := by rw [beq_iff_eq]; omega
        have hltI : ¬ (p : Int) + (k : Int) < (l.length : Int) := by omega
        have hk9 : Hid ((((k : Int) == 9) = false ∧ (k : Int) < 9) ∨ (((k : Int) == 9) = true ∧ ¬ (k : Int) < 9)) := by
          rcases Nat.lt_or_ge k 9 with h9 | h9
          · left; exact ⟨by rw [beq_eq_false_iff_ne]; omega, by omega⟩
          · right; exact ⟨by rw [beq_iff_eq]; omega, by omega⟩
        clear hE
        rcases hk9.out with ⟨h1, h2⟩ | ⟨h1, h2⟩
        all_goals
          go_wp2_with fail
          go_ret3
          exact ⟨by rw [HE.out]; rfl, rfl⟩
end Go.Proofs.YtnenbmbgmmeiaaaDoor
/- Walks of chapter 06: Varint of both. -/
namespace Go.Proofs.YtnenbmbgmmeiaaaDoor
open Go.RowKit En
variable {α : Type}
theorem uat_bd (l : List UInt8) (i : Int) : (uat l i).1 < 18446744073709551616 := by
  unfold uat
  split
  · simp
  · split
    · rename_i h; exact (usc_ok9 h).1
    · simp
abbrev vtup (r : Int × Nat × Nat) : Value := .tuple #[.int .i64 r.1, .int .i64 (r.2.1 : Int), .int .i64 (r.2.2 : Int)]
theorem uat_fail {l : List UInt8} {i : Int} (h : (uat l i).2.2 ≠ 0) : (uat l i).1 = 0 ∧ (uat l i).2.1 = 0 := by
  unfold uat at h ⊢
  split
  · simp
  · split
    · rename_i h1 _ n k h2; simp only [h2] at h; rw [if_neg h1] at h; simp at h
    · simp
set_option maxRecDepth 100000 in
set_option maxHeartbeats 800000 in
theorem refVarint_any (v : Value) (l : List UInt8) (i : Int) (w : World) (hv : IsBytes w v l) :
    Calls Tryd.prog 20 #[v, .int .i64 i] w fun e w' => e = .returned (vtup (vat l i)) ∧ w = w' := by
  have HC := Lib.hid (refUvarint_any v l i w hv)
  have hb := uat_bd l i
  have hf := @uat_fail l i
  unfold vat
  generalize uat l i = r at *
  obtain ⟨n, next, er⟩ := r
  simp only at hb hf
  have HF := Lib.hid hf
  clear hf hv
  go_enter Tryd.func20, Tryd.ntmps20
  rcases Nat.eq_zero_or_pos er with he | he
  · subst he
    rcases Nat.mod_two_eq_zero_or_one n with hn | hn
    · have hn' : ((n : Int) % 2 == 1) = false := by rw [beq_eq_false_iff_ne]; omega
      have hu : Hid (unzig n = (n : Int) / 2) := by show _ = _; unfold unzig; rw [if_neg (by omega)]; omega
      have HN := Lib.hid hn
      clear hn
      go_wp2_with fail
      refine HC.out.mono ?_
      rintro e w' ⟨rfl, rfl⟩
      go_wp2_with fail
      go_ret3
      exact ⟨by rw [hu.out]; rfl, rfl⟩
    · have hn' : ((n : Int) % 2 == 1) = true := by rw [beq_iff_eq]; omega
      have hu : Hid (unzig n = -1 - (n : Int) / 2) := by show _ = _; unfold unzig; rw [if_pos hn]; omega
      have HN := Lib.hid hn
      clear hn
      go_wp2_with fail
      refine HC.out.mono ?_
      rintro e w' ⟨rfl, rfl⟩
      go_wp2_with fail
      go_ret3
      exact ⟨by rw [hu.out]; rfl, rfl⟩
  · have he' : ((er : Int) != 0) = true := by rw [bne_iff_ne]; omega
    obtain ⟨h1, h2⟩ := HF.out (by omega)
    subst h1 h2
    go_wp2_with fail
    refine HC.out.mono ?_
    rintro e w' ⟨rfl, rfl⟩
    go_wp2_with fail
    go_ret3
    exact ⟨rfl, rfl⟩
theorem bits_xor_comm (k : IntKind) (x y : Int) : bits .xor k x y = bits .xor k y x := by
  show k.wrap ((BitVec.ofInt k.bits x ^^^ BitVec.ofInt k.bits y).toNat : Int) = k.wrap ((BitVec.ofInt k.bits y ^^^ BitVec.ofInt k.bits x).toNat : Int)
  rw [BitVec.xor_comm]
theorem i64_xor0 (a : Nat) (ha : a < 9223372036854775808) : bits .xor .i64 (a : Int) 0 = (a : Int) := by
  show IntKind.i64.wrap ((BitVec.ofInt 64 (a : Int) ^^^ BitVec.ofInt 64 0).toNat : Int) = _
  have h1 : BitVec.ofInt 64 0 = 0#64 := by decide
  rw [h1, BitVec.xor_zero, ofInt_u64 a (by omega)]
  simp [IntKind.wrap, IntKind.bits, IntKind.signed]
  omega
theorem unzig_bits (n : Nat) (h : n < 18446744073709551616) : bits BinOp.xor IntKind.i64 ((n : Int) / 2) (wrap64 (-wrap64 (bits BinOp.and IntKind.u64 (n : Int) 1))) = unzig n := by
  rw [Lib.u64_and1 _ (by omega) (by omega)]
  unfold unzig
  have e : (n : Int) / 2 = ((n / 2 : Nat) : Int) := rfl
  rcases Nat.mod_two_eq_zero_or_one n with h2 | h2
  · have e1 : (n : Int) % 2 = 0 := by omega
    have e2 : wrap64 (-wrap64 0) = 0 := by simp [wrap64]
    rw [e1, e2, e, i64_xor0 _ (by omega), if_neg (by omega)]
  · have e1 : (n : Int) % 2 = 1 := by omega
    have e2 : wrap64 (-wrap64 1) = -1 := by simp [wrap64]
    rw [e1, e2, e, bits_xor_comm, i64_not _ (by omega), if_pos h2]
theorem varint_any (v : Value) (l : List UInt8) (i : Int) (w : World) (hv : IsBytes w v l) :
    Calls Tryd.prog 19 #[v, .int .i64 i] w fun e w' => e = .returned (vtup (vat l i)) ∧ Ext w w' := by
  have HC := Lib.hid (uvarint_any v l i w hv)
  have hn := uat_bd l i
  unfold vat
  generalize uat l i = r at *
  obtain ⟨n, next, er⟩ := r
  simp only at hn
  clear hv
  go_enter Tryd.func19, Tryd.ntmps19
  go_wp2_with fail
  refine HC.out.mono ?_
  rintro e w' ⟨rfl, hb⟩
  go_wp2_with fail
  go_ret3
  exact ⟨by rw [unzig_bits _ hn]; rfl, hb⟩
end Go.Proofs.YtnenbmbgmmeiaaaDoor
