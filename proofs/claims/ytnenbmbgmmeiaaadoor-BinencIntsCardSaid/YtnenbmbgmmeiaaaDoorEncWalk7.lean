/- Walks of binenc: number. -/
import Derived.Test.YtnenbmbgmmeiaaaDoorEncWalk6
import Derived.Test.YtnenbmbgmmeiaaaDoorBits
import Derived.Outline
namespace Go.Proofs.YtnenbmbgmmeiaaaDoor
open Go.RowKit En
variable {α : Type}

def NumPost (w : World) (b : Nat) (v : Value) (l : List UInt8) (p : Nat) (r : Except Nat (Nat × Nat)) (e : Ending) (w' : World) : Prop :=
  ∃ q, Rd w' b v l q ∧ Ch b w w' ∧ (match r with
    | .ok (n, k) => q = p + k ∧ e = .returned (.tuple #[.int .u64 (n : Int), .int .i64 0])
    | .error er => e = .returned (.tuple #[.int .u64 0, .int .i64 (er : Int)]))
theorem left_rd (l : List UInt8) (b p : Nat) (v : Value) (w : World) (h : Rd w b v l p) :
    Calls Tryd.prog 51 #[.pointer (some ⟨b, 0, none⟩)] w fun e w' => e = .returned (.int .i64 ((l.length - p : Nat) : Int)) ∧ Rd w' b v l p ∧ Ch b w w' := by
  refine (left_any v l b p w h.row h.c0 h.c1 h.hp).mono ?_
  rintro e w' ⟨rfl, n, rfl⟩
  exact ⟨rfl, h.drewN n, (Ch.refl b w).drewN n⟩

theorem num_ok {w : World} {b : Nat} {v : Value} {l : List UInt8} {p k f acc c : Nat} {w' : World} (hu : Hid (usc 9 (l.drop p) = comb k acc (usc f (l.drop (p + k))))) (hf : usc f (l.drop (p + k)) = .ok (c, 1))
    (hr : Rd w' b v l (p + k + 1)) (hc : Ch b w w') {x : Int} (hx : x = ((acc + 128 ^ k * c : Nat) : Int)) : NumPost w b v l p (usc 9 (l.drop p)) (.returned (.tuple #[.int .u64 x, .int .i64 0])) w' := by
  refine ⟨p + k + 1, hr, hc, ?_⟩
  rw [hu.out, hf, hx]
  exact ⟨by omega, rfl⟩
theorem num_err {w : World} {b : Nat} {v : Value} {l : List UInt8} {p k f acc q er : Nat} {w' : World} (hu : Hid (usc 9 (l.drop p) = comb k acc (usc f (l.drop (p + k))))) (hf : usc f (l.drop (p + k)) = .error er)
    (hr : Rd w' b v l q) (hc : Ch b w w') : NumPost w b v l p (usc 9 (l.drop p)) (.returned (.tuple #[.int .u64 0, .int .i64 (er : Int)])) w' := by
  refine ⟨q, hr, hc, ?_⟩
  rw [hu.out, hf]
  rfl
set_option maxRecDepth 10000 in
theorem andNot_all : ∀ c : Fin 256, bits .andNot .u8 (c.val : Int) 128 = ((c.val % 128 : Nat) : Int) := by decide +kernel
theorem num_step (c : UInt8) (acc k : Nat) (h : acc < 128 ^ k) (hk : k ≤ 9) (h9 : k < 9 ∨ c.toNat < 2) :
    bits BinOp.or IntKind.u64 (acc : Int) (IntKind.u64.wrap (IntKind.u64.wrap (bits BinOp.andNot IntKind.u8 (c.toNat : Int) 128) * 2 ^ (7 * k))) = ((acc + 128 ^ k * (c.toNat % 128) : Nat) : Int) := by
  have h1 := andNot_all ⟨c.toNat, c.toNat_lt⟩
  simp only at h1
  rw [h1]
  have e128 : (128 : Nat) ^ k = 2 ^ (7 * k) := by rw [Nat.pow_mul]
  have hp : 2 ^ (7 * k) ≤ 2 ^ 63 := Nat.pow_le_pow_right (by omega) (by omega)
  have hb : (c.toNat % 128) * 2 ^ (7 * k) < 18446744073709551616 := by
    rcases h9 with h9 | h9
    · have h2 : 2 ^ (7 * k) ≤ 2 ^ 56 := Nat.pow_le_pow_right (by omega) (by omega)
      have h3 : c.toNat % 128 ≤ 127 := by omega
      have := Nat.mul_le_mul h3 h2
      omega
    · have h3 : c.toNat % 128 ≤ 1 := by omega
      have := Nat.mul_le_mul h3 hp
      omega
  have w1 : IntKind.u64.wrap ((c.toNat % 128 : Nat) : Int) = ((c.toNat % 128 : Nat) : Int) := by rw [IntKind.wrap_u64]; omega
  rw [w1]
  have w2 : ((c.toNat % 128 : Nat) : Int) * 2 ^ (7 * k) = (((c.toNat % 128) * 2 ^ (7 * k) : Nat) : Int) := by push_cast; rfl
  rw [w2, IntKind.wrap_u64]
  have w3 : (((c.toNat % 128) * 2 ^ (7 * k) : Nat) : Int) % 18446744073709551616 = (((c.toNat % 128) * 2 ^ (7 * k) : Nat) : Int) := by omega
  rw [w3, u64_or_nat _ _ (by omega) hb, Nat.or_comm, nat_join (7 * k) _ _ (Nat.mul_mod_left _ _) (by omega), e128, Nat.mul_comm, Nat.add_comm]

set_option maxRecDepth 100000 in
set_option maxHeartbeats 800000 in
theorem number_any (l : List UInt8) (b p : Nat) (v : Value) (w : World) (h : Rd w b v l p) :
    Calls Tryd.prog 46 #[.pointer (some ⟨b, 0, none⟩)] w (NumPost w b v l p (usc 9 (l.drop p))) := by
  have hml := h.row.len
  unfold maxLen at hml
  have H := Lib.hid h
  clear h
  go_enter Tryd.func46, Tryd.ntmps46
  go_wp2_with fail
  go_loopw [4, 5] (fun n i wr => ∃ k f acc : Nat, i = .int .i64 k ∧ k + f = 9 ∧ n = .int .u64 acc ∧ acc < 128 ^ k ∧ Rd wr b v l (p + k) ∧ Hid (usc 9 (l.drop p) = comb k acc (usc f (l.drop (p + k)))) ∧ Ch b w wr) (fun _ i _ => 10 - (intOf i).toNat)
  case atStart => exact ⟨0, 9, 0, rfl, rfl, rfl, by omega, H.out, (comb_zero _).symm, Ch.refl _ _⟩
  case round =>
    obtain ⟨k, f, acc, rfl, hkf, rfl, hacc, hrd, HU, hch⟩ := hrel
    have HC := Lib.hid (left_rd l b (p + k) v wr hrd)
    have hpk := hrd.hp
    have HR := Lib.hid hrd
    have HA := Lib.hid hacc
    clear hrd hacc
    go_wp2_with fail
    refine HC.out.mono ?_
    rintro e w' ⟨rfl, hrd2, hch2⟩
    clear HC HR
    by_cases hlt : p + k < l.length
    · have hl0 : (0 : Int) < ((l.length - (p + k) : Nat) : Int) := by omega
      have HN := Lib.hid (next_any l b (p + k) 1 v w' hrd2 (by omega) (by omega))
      have HR := Lib.hid hrd2
      clear hrd2
      go_wp2_with fail
      refine HN.out.mono ?_
      rintro e w3 ⟨v', rfl, hrd3, hch3, hrow, hoff⟩
      clear HN HR
      have hone : (l.drop (p + k)).take 1 = [l[p + k]] := by rw [List.drop_eq_getElem_cons hlt]; rfl
      rw [hone] at hrow
      obtain ⟨c, hcc⟩ : ∃ c, l[p + k] = c := ⟨_, rfl⟩
      rw [hcc] at hrow
      obtain ⟨bb, o, cap, hv, hb, hl, hm, hc⟩ := row_some hrow rfl Nat.one_pos
      have hc0 := hc 0 Nat.one_pos
      simp only [Nat.add_zero, List.getElem_cons_zero] at hc0
      rw [hv]
      have HD := Lib.hid (List.drop_eq_getElem_cons hlt)
      rw [hcc] at HD
      clear hc hv hrow hone hcc
      have HR := Lib.hid hrd3
      have hch4 := Ch.trans hch (Ch.trans hch2 hch3)
      clear hrd3
      have hc8 := c.toNat_lt
      have hk9 : k ≤ 9 := by omega
      cases f with
      | zero =>
        obtain rfl : k = 9 := by omega
        rcases Nat.lt_trichotomy c.toNat 1 with h1 | h1 | h1
        · have hc1 : ((c.toNat : Int) == 0) = true := by rw [beq_iff_eq]; omega
          have hu : Hid (usc 0 (l.drop (p + 9)) = .error 3) := by rw [HD.out]; simp only [usc]; rw [if_neg (by omega)]; rfl
          go_wp2_with fail
          go_ret2
          exact num_err HU hu.out HR.out hch4
        · have hc1 : ((c.toNat : Int) == 0) = false := by rw [beq_eq_false_iff_ne]; omega
          have hu : Hid (usc 0 (l.drop (p + 9)) = .ok (c.toNat, 1)) := by rw [HD.out]; simp only [usc]; rw [if_pos h1, h1]; rfl
          have HS := Lib.hid (num_step c acc 9 HA.out (by omega) (.inr (by omega)))
          have h1' : (c.toNat : Int) ≤ 1 := by omega
          have h2' : (c.toNat : Int) < 128 := by omega
          have H1 := Lib.hid h1
          clear h1
          go_wp2_with fail
          go_ret2
          refine num_ok HU hu.out HR.out hch4 (HS.out.trans ?_)
          have := H1.out; rw [this]
        · have hu : Hid (usc 0 (l.drop (p + 9)) = .error 3) := by rw [HD.out]; simp only [usc]; rw [if_neg (by omega)]; rfl
          go_wp2_with fail
          go_ret2
          exact num_err HU hu.out HR.out hch4
      | succ f =>
        have hk9 : ((k : Int) == 9) = false := by rw [beq_eq_false_iff_ne]; omega
        have HS := Lib.hid (num_step c acc k HA.out (by omega) (.inl (by omega)))
        by_cases hlo : c.toNat < 128
        · have hlo' : (c.toNat : Int) < 128 := by omega
          have H128 : Hid (c.toNat % 128 = c.toNat) := Nat.mod_eq_of_lt hlo
          rcases Nat.eq_zero_or_pos c.toNat with h0 | h0
          · have h0' : ((c.toNat : Int) == 0) = true := by rw [beq_iff_eq]; omega
            rcases Nat.eq_zero_or_pos k with hk | hk
            · have hu : Hid (usc (f + 1) (l.drop (p + k)) = .ok (c.toNat, 1)) := by rw [HD.out]; simp only [usc]; rw [if_pos hlo, if_neg (by omega)]; rfl
              have hkp : ¬ (0 : Int) < (k : Int) := by omega
              have HK := Lib.hid hk
              have H0 := Lib.hid h0
              clear hk h0
              go_wp2_with fail
              go_ret2
              exact num_ok HU hu.out HR.out hch4 (HS.out.trans (by rw [H128.out]))
            · have hu : Hid (usc (f + 1) (l.drop (p + k)) = .error 3) := by rw [HD.out]; simp only [usc]; rw [if_pos hlo, if_pos ⟨h0, by omega⟩]; rfl
              have hkp : (0 : Int) < (k : Int) := by omega
              have H0 := Lib.hid h0
              clear h0
              go_wp2_with fail
              go_ret2
              exact num_err HU hu.out HR.out hch4
          · have h0' : ((c.toNat : Int) == 0) = false := by rw [beq_eq_false_iff_ne]; omega
            have hu : Hid (usc (f + 1) (l.drop (p + k)) = .ok (c.toNat, 1)) := by rw [HD.out]; simp only [usc]; rw [if_pos hlo, if_neg (by omega)]; rfl
            go_wp2_with fail
            go_ret2
            exact num_ok HU hu.out HR.out hch4 (HS.out.trans (by rw [H128.out]))
        · have hlo' : ¬ (c.toNat : Int) < 128 := by omega
          have HL := Lib.hid hlo
          clear hlo
          go_wp2_with fail
          go_roundw
          case rel =>
            refine ⟨k + 1, f, acc + 128 ^ k * (c.toNat % 128), by go_num, by omega, by rw [HS.out], ?_, HR.out, ?_, hch4⟩
            · have := HA.out
              rw [Nat.pow_succ]
              have h2 : c.toNat % 128 ≤ 127 := by omega
              have := Nat.mul_le_mul_left (128 ^ k) h2
              omega
            · show _ = _
              rw [HU.out, HD.out, usc_cons f c _ HL.out, comb_comb]; rfl
          case measure => simp [intOf]; omega
    · have hl0 : ¬ (0 : Int) < ((l.length - (p + k) : Nat) : Int) := by omega
      have hu : Hid (usc f (l.drop (p + k)) = .error 4) := by rw [List.drop_eq_nil_of_le (by omega), usc_nil]; rfl
      have hch4 := Ch.trans hch hch2
      have HR := Lib.hid hrd2
      clear hrd2
      go_wp2_with fail
      go_ret2
      exact num_err HU hu.out HR.out hch4
end Go.Proofs.YtnenbmbgmmeiaaaDoor
