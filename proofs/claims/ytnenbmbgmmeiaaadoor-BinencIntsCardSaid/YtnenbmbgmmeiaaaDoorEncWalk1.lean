/- Walks of binenc: PutUvarint and the reference's; Same. -/
import Derived.Test.YtnenbmbgmmeiaaaDoorNatTypes
import Derived.Test.YtnenbmbgmmeiaaaDoorEncSpec2
namespace Go.Proofs.YtnenbmbgmmeiaaaDoor
open Go.RowKit En
variable {α : Type}

set_option maxRecDepth 10000 in
theorem or_nat : ∀ m : Fin 256, m.val ||| 128 = m.val % 128 + 128 := by decide
theorem or_128 (n : Nat) : bits .or .u8 ((n : Int) % 256) 128 = (n : Int) % 128 + 128 := by
  have h := or_nat ⟨n % 256, Nat.mod_lt _ (by decide)⟩
  have := u8_or_nat (n % 256) 128 (by omega) (by omega)
  rw [show ((128 : Nat) : Int) = 128 from rfl, show ((n % 256 : Nat) : Int) = (n : Int) % 256 by omega] at this
  rw [this, h]; simp only; omega
set_option maxRecDepth 100000 in
set_option maxHeartbeats 800000 in
theorem refPutUvarint_any (x : Nat) (w : World) (hx : x < 18446744073709551616) :
    Calls Tryd.prog 17 #[.int .u64 (x : Int)] w fun e w' => ∃ v', e = .returned v' ∧ w'.ownsRow w.heap.size 5 1 v' (uvar 10 x).length ((uvar 10 x).map u8v) ∧ Ext w w' := by
  go_enter Tryd.func17, Tryd.ntmps17
  go_wp2
  go_loopw [0, 3] (fun xv v wr => ∃ (f n : Nat) (out : List UInt8), xv = .int .u64 n ∧ n < 18446744073709551616 ∧ n < 128 ^ (f + 1) ∧ out.length + f = 9 ∧ uvar 10 x = out ++ uvar (f + 1) n ∧ wr.ownsRow w.heap.size 5 1 v out.length (out.map u8v) ∧ Ext w wr) (fun xv _ _ => (intOf xv).toNat)
  case atStart => exact ⟨9, x, [], rfl, hx, by omega, rfl, rfl, World.ownsRow_lit w #[] 0 (Nat.le_refl _) (Nat.zero_le _) rfl, below_alloc _ _⟩
  case round =>
    obtain ⟨f, n, out, rfl, hn, hf, hl, hu, hown, hbel⟩ := hrel
    have HU := Lib.hid hu
    have h63 : out.length + 1 ≤ maxLen := by unfold maxLen; omega
    have hby : (out.length + 1) * 1 ≤ 140737488355328 := by omega
    have hsz : w.heap.size ≤ wr.heap.size := hbel.size
    clear hu
    by_cases hlt : n < 128
    · have hr := raw_one wr (.int .u8 (n : Int)) 5 rfl
      have hown' := hown.alloc (.cells #[.int .u8 (n : Int)] 5)
      have hsz' : w.heap.size ≤ (wr.alloc (.cells #[.int .u8 (n : Int)] 5)).heap.size := by simp; omega
      clear hown
      have hn8 : (n : Int) % 256 = n := by omega
      go_wp2_with (at_builtin; refine wpList_append_raw rfl _ _ _ rfl tyU8 w.heap.size hown' rfl hr rfl h63 hby hsz' ?_; intro v' w' hown2 hg)
      go_ret
      refine ⟨_, rfl, ?_, (hbel.alloc hsz _).grown hg hsz' (fun k hk => (World.ownsRow.lt hown' k hk).1)⟩
      have e : uvar 10 x = out ++ [UInt8.ofNat n] := by rw [HU.out, uvar, if_pos hlt]
      rw [e]
      simpa [u8v, ofNat8 (show n < 256 by omega)] using hown2
    · cases f with
      | zero => exact absurd hf (by omega)
      | succ f =>
        have hr := raw_one wr (.int .u8 ((n : Int) % 128 + 128)) 5 rfl
        have hown' := hown.alloc (.cells #[.int .u8 ((n : Int) % 128 + 128)] 5)
        have hsz' : w.heap.size ≤ (wr.alloc (.cells #[.int .u8 ((n : Int) % 128 + 128)] 5)).heap.size := by simp; omega
        have hn8 : ((n : Int) % 128 + 128) % 256 = (n : Int) % 128 + 128 := by omega
        clear hown
        go_wp2_with (at_builtin; refine wpList_append_raw rfl _ _ _ rfl tyU8 w.heap.size hown' rfl hr rfl h63 hby hsz' ?_; intro v' w' hown2 hg)
        go_roundw
        case rel =>
          refine ⟨f, n / 128, out ++ [UInt8.ofNat (n % 128 + 128)], by simp, by omega, ?_, by simp; omega, ?_, ?_, (hbel.alloc hsz _).grown hg hsz' (fun k hk => (World.ownsRow.lt hown' k hk).1)⟩
          · rw [Nat.pow_succ] at hf; exact Nat.div_lt_of_lt_mul (by omega)
          · rw [HU.out, uvar, if_neg hlt]; simp
          · simpa [u8v, ofNat8 (show n % 128 + 128 < 256 by omega), hn8] using hown2
        case measure => simp [intOf]; omega
set_option maxRecDepth 100000 in
set_option maxHeartbeats 800000 in
theorem putUvarint_any (x : Nat) (w : World) (hx : x < 18446744073709551616) :
    Calls Tryd.prog 16 #[.int .u64 (x : Int)] w fun e w' => ∃ v', e = .returned v' ∧ w'.ownsRow w.heap.size 5 1 v' (uvar 10 x).length ((uvar 10 x).map u8v) ∧ Ext w w' := by
  go_enter Tryd.func16, Tryd.ntmps16
  go_wp2
  go_loopw [0, 3] (fun xv v wr => ∃ (f n : Nat) (out : List UInt8), xv = .int .u64 n ∧ n < 18446744073709551616 ∧ n < 128 ^ (f + 1) ∧ out.length + f = 9 ∧ uvar 10 x = out ++ uvar (f + 1) n ∧ wr.ownsRow w.heap.size 5 1 v out.length (out.map u8v) ∧ Ext w wr) (fun xv _ _ => (intOf xv).toNat)
  case atStart => exact ⟨9, x, [], rfl, hx, by omega, rfl, rfl, World.ownsRow_nil _ _ _ _, Below.refl _ _⟩
  case round =>
    obtain ⟨f, n, out, rfl, hn, hf, hl, hu, hown, hbel⟩ := hrel
    have HU := Lib.hid hu
    have h63 : out.length + 1 ≤ maxLen := by unfold maxLen; omega
    have hby : (out.length + 1) * 1 ≤ 140737488355328 := by omega
    have hsz : w.heap.size ≤ wr.heap.size := hbel.size
    clear hu
    by_cases hlt : n < 128
    · have hr := raw_one wr (.int .u8 (n : Int)) 5 rfl
      have hown' := hown.alloc (.cells #[.int .u8 (n : Int)] 5)
      have hsz' : w.heap.size ≤ (wr.alloc (.cells #[.int .u8 (n : Int)] 5)).heap.size := by simp; omega
      clear hown
      have hn8 : (n : Int) % 256 = n := by omega
      go_wp2_with (at_builtin; refine wpList_append_raw rfl _ _ _ rfl tyU8 w.heap.size hown' rfl hr rfl h63 hby hsz' ?_; intro v' w' hown2 hg)
      go_ret
      refine ⟨_, rfl, ?_, (hbel.alloc hsz _).grown hg hsz' (fun k hk => (World.ownsRow.lt hown' k hk).1)⟩
      have e : uvar 10 x = out ++ [UInt8.ofNat n] := by rw [HU.out, uvar, if_pos hlt]
      rw [e]
      simpa [u8v, ofNat8 (show n < 256 by omega)] using hown2
    · cases f with
      | zero => exact absurd hf (by omega)
      | succ f =>
        have hr := raw_one wr (.int .u8 ((n : Int) % 128 + 128)) 5 rfl
        have hown' := hown.alloc (.cells #[.int .u8 ((n : Int) % 128 + 128)] 5)
        have hsz' : w.heap.size ≤ (wr.alloc (.cells #[.int .u8 ((n : Int) % 128 + 128)] 5)).heap.size := by simp; omega
        have hn8 := or_128 n
        clear hown
        go_wp2_with (at_builtin; refine wpList_append_raw rfl _ _ _ rfl tyU8 w.heap.size hown' rfl hr rfl h63 hby hsz' ?_; intro v' w' hown2 hg)
        go_roundw
        case rel =>
          refine ⟨f, n / 128, out ++ [UInt8.ofNat (n % 128 + 128)], by simp, by omega, ?_, by simp; omega, ?_, ?_, (hbel.alloc hsz _).grown hg hsz' (fun k hk => (World.ownsRow.lt hown' k hk).1)⟩
          · rw [Nat.pow_succ] at hf; exact Nat.div_lt_of_lt_mul (by omega)
          · rw [HU.out, uvar, if_neg hlt]; simp
          · simpa [u8v, ofNat8 (show n % 128 + 128 < 256 by omega), show ((n : Int) % 128 + 128) % 256 = (n : Int) % 128 + 128 by omega] using hown2
        case measure => simp [intOf]; omega
end Go.Proofs.YtnenbmbgmmeiaaaDoor
