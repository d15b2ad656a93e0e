/- Walks of chapter 06's reference: Same. -/
import Derived.Test.YtnenbmbgmmeiaaaDoorEncWalk1
import Derived.Deep.QuietTactic
import Derived.BigQuiet
namespace Go.Proofs.YtnenbmbgmmeiaaaDoor
open Go.RowKit En
variable {α : Type}

theorem u8v_inj (x y : UInt8) (h : u8v x = u8v y) : x = y := by
  simp only [u8v, Value.int.injEq, true_and] at h
  exact UInt8.toNat_inj.1 (by omega)

set_option maxRecDepth 100000 in
set_option maxHeartbeats 800000 in
theorem same06 (v u : Value) (l m : List UInt8) (w : World) (hv : IsBytes w v l) (hu : IsBytes w u m) :
    Calls Tryd.prog 15 #[v, u] w fun e w' => e = .returned (.bool (l == m)) ∧ Ext w w' := by
  obtain ⟨a, cap, rfl, hm, ha⟩ := hv
  obtain ⟨a2, cap2, rfl, hm2, ha2⟩ := hu
  have HA := Lib.hid ha
  have HA2 := Lib.hid ha2
  have hl := row_len hm ha
  have hl2 := row_len hm2 ha2
  clear ha ha2
  go_enter Tryd.func15, Tryd.ntmps15
  by_cases hne : (l.length : Int) = (m.length : Int)
  · have hlm : l.length = m.length := by omega
    have HLM := Lib.hid hlm
    have hne0 : ((l.length : Int) != (m.length : Int)) = false := by simp [hne]
    clear hne hlm
    go_wp2_with fail
    go_loopw [5] (fun i wr => ∃ k : Nat, k ≤ l.length ∧ i = .int .i64 k ∧ l.take k = m.take k ∧ Ext w wr) (fun i _ => l.length - (intOf i).toNat)
    case atStart => exact ⟨0, Nat.zero_le _, rfl, rfl, Below.refl _ _⟩
    case round =>
      obtain ⟨k, hk, rfl, ht, hbel⟩ := hrel
      have HT := Lib.hid ht
      clear ht
      by_cases hlt : k < l.length
      · have hlt2 : k < m.length := by have := HLM.out; omega
        rcases HA.out with ⟨rfl, _⟩ | ⟨b, o, rfl, hb, hlc, hc⟩
        · simp at hlt
        rcases HA2.out with ⟨rfl, _⟩ | ⟨b2, o2, rfl, hb2, hlc2, hc2⟩
        · simp at hlt2
        have h1 : wr.cell? ⟨b, o + k, none⟩ = some (u8v l[k]) := by rw [hbel.cell (p := ⟨b, o + k, none⟩) hb]; exact hc k hlt
        have h2 : wr.cell? ⟨b2, o2 + k, none⟩ = some (u8v m[k]) := by rw [hbel.cell (p := ⟨b2, o2 + k, none⟩) hb2]; exact hc2 k hlt2
        have hlti : (k : Int) < (m.length : Int) := by omega
        clear hc hc2
        by_cases he : l[k] = m[k]
        · have hei : (((l[k]).toNat : Int) != ((m[k]).toNat : Int)) = false := by simp [he]
          have HE := Lib.hid he
          clear he
          go_wp2_with fail
          go_quiet (fail)
          go_wp2_with fail
          go_roundw
          case rel =>
            refine ⟨k + 1, by omega, by go_num, ?_, below_drewN hbel _⟩
            rw [take_snoc l k hlt, take_snoc m k hlt2, HT.out, HE.out]
          case measure => simp [intOf]; omega
        · have hei : (((l[k]).toNat : Int) != ((m[k]).toNat : Int)) = true := by
            simp only [bne_iff_ne, ne_eq]
            intro h; exact he (UInt8.toNat_inj.1 (by omega))
          have HE := Lib.hid he
          clear he
          go_wp2_with fail
          go_quiet (fail)
          go_wp2_with fail
          go_ret
          have hf : (l == m) = false := by
            rw [beq_eq_false_iff_ne]
            rintro rfl
            exact HE.out rfl
          exact ⟨by rw [hf]; rfl, below_drewN hbel _⟩
      · obtain rfl : k = l.length := by omega
        go_wp2_with fail
        go_ret
        have ht := HT.out
        rw [List.take_length, HLM.out, List.take_length] at ht
        have hf : (l == m) = true := by rw [beq_iff_eq]; exact ht
        exact ⟨by rw [hf]; rfl, hbel⟩
  · have hne0 : ((l.length : Int) != (m.length : Int)) = true := by simp [hne]
    have hf : (l == m) = false := by
      rw [beq_eq_false_iff_ne]
      rintro rfl
      exact hne rfl
    clear hne
    go_wp2_with fail
    go_ret
    exact ⟨by rw [hf]; rfl, Below.refl _ _⟩
end Go.Proofs.YtnenbmbgmmeiaaaDoor
