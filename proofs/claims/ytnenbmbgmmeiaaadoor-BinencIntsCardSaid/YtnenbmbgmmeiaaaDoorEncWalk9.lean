/- Walks of chapter 06's reference: Uvarint; Varint of both. -/
import Derived.Test.YtnenbmbgmmeiaaaDoorEncWalk8
namespace Go.Proofs.YtnenbmbgmmeiaaaDoor
open Go.RowKit En
variable {α : Type}

def grp : List UInt8 → Nat
  | [] => 0
  | c :: l => c.toNat % 128 + 128 * grp l
theorem grp_snoc (l : List UInt8) (c : UInt8) : grp (l ++ [c]) = grp l + 128 ^ l.length * (c.toNat % 128) := by
  induction l with
  | nil => simp [grp]
  | cons d l ih =>
    simp only [List.cons_append, grp, ih, List.length_cons, Nat.pow_succ, Nat.mul_add]
    rw [Nat.mul_comm (128 ^ l.length) 128, Nat.mul_assoc]; omega
theorem grp_take (l : List UInt8) (p k : Nat) (h : p + k < l.length) : grp ((l.drop p).take (k + 1)) = grp ((l.drop p).take k) + 128 ^ k * ((l[p + k]).toNat % 128) := by
  have hlt : k < (l.drop p).length := by simp; omega
  rw [take_snoc (l.drop p) k hlt, grp_snoc]
  have e : ((l.drop p).take k).length = k := by simp; omega
  rw [e]; simp

/-- The bytes ahead of offset p + k all say that more follow. -/
def Led (l : List UInt8) (p k f : Nat) : Prop := usc 9 (l.drop p) = comb k (grp ((l.drop p).take k)) (usc f (l.drop (p + k)))
theorem led_next {l : List UInt8} {p k f : Nat} (h : Led l p k (f + 1)) (hlt : p + k < l.length) (hc : ¬ (l[p + k]).toNat < 128) : Led l p (k + 1) f := by
  unfold Led at h ⊢
  rw [h, usc_drop f l (p + k) hlt hc, comb_comb, grp_take l p k hlt]; rfl
theorem led_ok {l : List UInt8} {p k f : Nat} (h : Led l p k f) (hlt : p + k < l.length) (hf : usc f (l.drop (p + k)) = .ok ((l[p + k]).toNat, 1)) (hc : (l[p + k]).toNat < 128) :
    usc 9 (l.drop p) = .ok (grp ((l.drop p).take (k + 1)), k + 1) := by
  unfold Led at h
  rw [h, hf, grp_take l p k hlt, Nat.mod_eq_of_lt hc]; rfl
theorem led_err {l : List UInt8} {p k f e : Nat} (h : Led l p k f) (hf : usc f (l.drop (p + k)) = .error e) : usc 9 (l.drop p) = .error e := by
  unfold Led at h
  rw [h, hf]; rfl

set_option maxRecDepth 100000 in
set_option maxHeartbeats 1600000 in
theorem refUvarint_any (v : Value) (l : List UInt8) (i : Int) (w : World) (hv : IsBytes w v l) :
    Calls Tryd.prog 14 #[v, .int .i64 i] w fun e w' => e = .returned (utup (uat l i)) ∧ w = w' := by
  have hml := hv.len
  unfold maxLen at hml
  obtain ⟨a, cap, rfl, hm, ha⟩ := hv
  have HA := Lib.hid ha
  clear ha
  by_cases hbad : i < 0 ∨ (l.length : Int) < i
  · rw [uat_bad hbad]
    go_enter Tryd.func14, Tryd.ntmps14
    by_cases h1 : i < 0
    · go_wp2_with fail
      go_ret3
      exact ⟨rfl, rfl⟩
    · have h2 : (l.length : Int) < i := by omega
      clear hbad
      go_wp2_with fail
      go_ret3
      exact ⟨rfl, rfl⟩
  · obtain ⟨p, rfl⟩ : ∃ p : Nat, i = p := ⟨i.toNat, by omega⟩
    have hp : p ≤ l.length := by omega
    clear hbad
    go_enter Tryd.func14, Tryd.ntmps14
    go_wp2_with fail
    go_loop [7] (fun i => ∃ k : Nat, i = .int .i64 k ∧ ∃ f : Nat, k + f = 9 ∧ p + k ≤ l.length ∧ Hid (Led l p k f)) (fun i => 10 - (intOf i).toNat)
    case atStart => exact ⟨0, rfl, 9, rfl, hp, (comb_zero _).symm⟩
    case round =>
      obtain ⟨k, rfl, f, hkf, hpk, HL⟩ := hrel
      by_cases hlt : p + k < l.length
      · rcases HA.out with ⟨rfl, _⟩ | ⟨b, o, rfl, hb, hlc, hcs⟩
        · simp at hlt
        have hc0 := hcs (p + k) hlt
        clear hcs
        obtain ⟨c, hcc⟩ : ∃ c, l[p + k] = c := ⟨_, rfl⟩
        rw [hcc] at hc0
        have hc8 := c.toNat_lt
        have HD := Lib.hid (List.drop_eq_getElem_cons hlt)
        rw [hcc] at HD
        have HCC := Lib.hid hcc
        clear hcc
        have hltI : (p : Int) + (k : Int) < (l.length : Int) := by omega
        by_cases hgo : k < 9 ∧ 127 < c.toNat
        · obtain ⟨hk9, hc⟩ := hgo
          obtain ⟨g, rfl⟩ : ∃ g, f = g + 1 := ⟨f - 1, by omega⟩
          have hcI : (127 : Int) < (c.toNat : Int) := by omega
          have HN : Hid (Led l p (k + 1) g) := led_next HL.out hlt (by rw [HCC.out]; omega)
          go_wp2_with fail
          go_round
          case rel => exact ⟨k + 1, by go_num, g, by omega, by omega, HN⟩
          case measure => simp [intOf]; omega
        · by_cases hend : (k < 9 ∧ c.toNat < 128 ∧ (c.toNat ≠ 0 ∨ k = 0)) ∨ (k = 9 ∧ c.toNat = 1)
          · have hf : usc f (l.drop (p + k)) = .ok (c.toNat, 1) := by
              rw [HD.out]
              rcases hend with ⟨h1, h2, h3⟩ | ⟨h1, h2⟩
              · obtain ⟨g, rfl⟩ : ∃ g, f = g + 1 := ⟨f - 1, by omega⟩
                simp only [usc]; rw [if_pos h2, if_neg (by omega)]
              · obtain rfl : f = 0 := by omega
                simp only [usc]; rw [if_pos h2, h2]
            have hu := led_ok HL.out hlt (by rw [HCC.out]; exact hf) (by rw [HCC.out]; omega)
            have hT := (usc_ok9 hu).1
            generalize hTT : grp ((l.drop p).take (k + 1)) = T at *
            have HT := Lib.hid hTT
            have HU := Lib.hid hu
            clear hu hf hTT hgo HL HD
            have hc127 : ¬ (127 : Int) < (c.toNat : Int) := by omega
            have fin : Hid ((((k : Int) == 9) = false ∧ ¬ (0 : Int) < (k : Int)) ∨ (((k : Int) == 9) = false ∧ ((c.toNat : Int) == 0) = false ∧ (0 : Int) < (k : Int) ∧ (k : Int) < 9) ∨ (((k : Int) == 9) = true ∧ ((c.toNat : Int) == 0) = false ∧ ¬ (1 : Int) < (c.toNat : Int) ∧ (0 : Int) < (k : Int) ∧ ¬ (k : Int) < 9)) := by
              rcases Nat.eq_zero_or_pos k with h0 | h0
              · left; exact ⟨by rw [beq_eq_false_iff_ne]; omega, by omega⟩
              · right
                rcases hend with ⟨h1, h2, h3⟩ | ⟨h1, h2⟩
                · left; exact ⟨by rw [beq_eq_false_iff_ne]; omega, by rw [beq_eq_false_iff_ne]; omega, by omega, by omega⟩
                · right; exact ⟨by rw [beq_iff_eq]; omega, by rw [beq_eq_false_iff_ne]; omega, by omega, by omega, by omega⟩
            clear hend
            have hne : ((p : Int) + (k : Int) == (l.length : Int)) = false := by rw [beq_eq_false_iff_ne]; omega
            have h0 : Hid (k + 1 ≤ k + 1 ∧ grp ((l.drop p).take (k + 1)) + 128 ^ (k + 1) * 0 = T) := ⟨Nat.le_refl _, by rw [HT.out]; rfl⟩
            rcases fin.out with ⟨hk9, hz⟩ | ⟨hk9, hz, hz1, hz3⟩ | ⟨hk9, hz, hz2, hz1, hz3⟩
            all_goals
              go_wp2_with fail
              go_loop [8, 9] (fun nv i => ∃ j : Nat, i = .int .i64 ((j : Int) - 1) ∧ ∃ n : Nat, nv = .int .u64 n ∧ Hid (j ≤ k + 1 ∧ grp ((l.drop p).take j) + 128 ^ j * n = T)) (fun _ i => (intOf i + 1).toNat)
              case atStart => exact ⟨k + 1, val_i64 (by omega), 0, rfl, h0⟩
              case round =>
                obtain ⟨j, rfl, n, rfl, HJ⟩ := hrel
                cases j with
                | zero =>
                  go_wp2_with fail
                  go_ret3
                  have e : n = T := by have := HJ.out.2; simp [grp] at this; exact this
                  refine ⟨?_, rfl⟩
                  rw [uat_ok hp HU.out, e]
                  have e2 : (p : Int) + (k : Int) + 1 = ((p + (k + 1) : Nat) : Int) := by omega
                  rw [e2]; rfl
                | succ j =>
                  have hi : (((j + 1 : Nat) : Int) - 1) = (j : Int) := by omega
                  rw [hi]
                  have hjk : j ≤ k := by have := HJ.out.1; omega
                  have hltj : p + j < l.length := by omega
                  obtain ⟨d, hdd⟩ : ∃ d, l[p + j] = d := ⟨_, rfl⟩
                  have hcj : w.cell? ⟨b, o + (p + j), none⟩ = some (u8v d) := by
                    rcases HA.out with ⟨h, _⟩ | ⟨b', o', h, _, _, hcs⟩
                    · rw [h] at hlt; simp at hlt
                    · simp only [Option.some.injEq, Addr.mk.injEq, and_true] at h
                      obtain ⟨rfl, rfl⟩ := h
                      rw [hcs (p + j) hltj, hdd]
                  have hg := grp_take l p j hltj
                  rw [hdd] at hg
                  have hT2 : 128 ^ j * (n * 128 + d.toNat % 128) + grp ((l.drop p).take j) = T := by
                    have := HJ.out.2
                    rw [hg, Nat.pow_succ] at this
                    rw [Nat.mul_add, Nat.mul_comm n, ← Nat.mul_assoc]; omega
                  have hle : n * 128 + d.toNat % 128 ≤ T := by
                    have h1 : 1 ≤ 128 ^ j := Nat.pow_pos (by omega)
                    have := Nat.mul_le_mul_right (n * 128 + d.toNat % 128) h1
                    omega
                  have hd8 := d.toNat_lt
                  have HN : Hid (j ≤ k + 1 ∧ grp ((l.drop p).take j) + 128 ^ j * (n * 128 + d.toNat % 128) = T) := ⟨by omega, by omega⟩
                  have hb1 : (n : Int) * 128 + (d.toNat : Int) % 128 < 18446744073709551616 := by omega
                  clear hT2 hg hdd hi
                  go_wp2_with fail
                  go_round
                  case rel => exact ⟨j, rfl, n * 128 + d.toNat % 128, by first | rfl | exact val_int (by omega), HN⟩
                  case measure => simp [intOf]
          · have herr : usc f (l.drop (p + k)) = .error 3 := by
              rw [HD.out]
              rcases Nat.lt_or_ge k 9 with h9 | h9
              · obtain ⟨g, rfl⟩ : ∃ g, f = g + 1 := ⟨f - 1, by omega⟩
                simp only [usc]; rw [if_pos (by omega), if_pos ⟨by omega, by omega⟩]
              · obtain rfl : f = 0 := by omega
                simp only [usc]; rw [if_neg (by omega)]
            have HE := Lib.hid (uat_err hp (led_err HL.out herr))
            have hne : ((p : Int) + (k : Int) == (l.length : Int)) = false := by rw [beq_eq_false_iff_ne]; omega
            have fin : Hid ((((k : Int) == 9) = false ∧ ((c.toNat : Int) == 0) = true ∧ (0 : Int) < (k : Int) ∧ (k : Int) < 9 ∧ ¬ (127 : Int) < (c.toNat : Int)) ∨ (((k : Int) == 9) = true ∧ (1 : Int) < (c.toNat : Int) ∧ ¬ (k : Int) < 9) ∨ (((k : Int) == 9) = true ∧ ((c.toNat : Int) == 0) = true ∧ ¬ (1 : Int) < (c.toNat : Int) ∧ (0 : Int) < (k : Int) ∧ ¬ (k : Int) < 9)) := by
              rcases Nat.lt_or_ge k 9 with h9 | h9
              · left; exact ⟨by rw [beq_eq_false_iff_ne]; omega, by rw [beq_iff_eq]; omega, by omega, by omega, by omega⟩
              · right
                by_cases h1 : 1 < c.toNat
                · left; exact ⟨by rw [beq_iff_eq]; omega, by omega, by omega⟩
                · right; exact ⟨by rw [beq_iff_eq]; omega, by rw [beq_iff_eq]; omega, by omega, by omega, by omega⟩
            clear herr hgo hend
            rcases fin.out with ⟨hk9, hz, h1, h2, h3⟩ | ⟨hk9, hz, h1⟩ | ⟨hk9, hz, h1, h2, h3⟩
            all_goals
              go_wp2_with fail
              go_ret3
              exact ⟨by rw [HE.out]; rfl, rfl⟩
      · have hE := uat_err hp (led_err HL.out (show usc f (l.drop (p + k)) = .error 4 by rw [List.drop_eq_nil_of_le (by omega), usc_nil]))
        have HE := Lib.hid hE
        have hne : ((p : Int) + (k : Int) == (l.length : Int)) = true := by rw [beq_iff_eq]; omega
        have hltI : ¬ (p : Int) + (k : Int) < (l.length : Int) := by omega
        have hk9 : Hid ((((k : Int) == 9) = false ∧ (k : Int) < 9) ∨ (((k : Int) == 9) = true ∧ ¬ (k : Int) < 9)) := by
          rcases Nat.lt_or_ge k 9 with h9 | h9
          · left; exact ⟨by rw [beq_eq_false_iff_ne]; omega, by omega⟩
          · right; exact ⟨by rw [beq_iff_eq]; omega, by omega⟩
        clear hE
        rcases hk9.out with ⟨h1, h2⟩ | ⟨h1, h2⟩
        all_goals
          go_wp2_with fail
          go_ret3
          exact ⟨by rw [HE.out]; rfl, rfl⟩
end Go.Proofs.YtnenbmbgmmeiaaaDoor
