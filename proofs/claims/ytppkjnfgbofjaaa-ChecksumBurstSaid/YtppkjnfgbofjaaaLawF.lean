/- The walk of the law ChecksumBurst. -/
import Derived.Test.YtppkjnfgbofjaaaLawC
namespace Go.Proofs.Ytppkjnfgbofjaaa
open Go.RowKit
variable {α : Type}

/-- Bit k of the bytes c, turned over. -/
def flip (c : List UInt8) (k : Nat) : List UInt8 := c.set (k / 8) (c.getD (k / 8) 0 ^^^ (1 <<< UInt8.ofNat (k % 8)))
def flips (c : List UInt8) (m t : Nat) : Nat → List UInt8
  | 0 => c
  | i + 1 => if t.testBit i && decide (m + i < 8 * c.length) then flip (flips c m t i) (m + i) else flips c m t i
def anyB (n m t : Nat) : Nat → Bool
  | 0 => false
  | i + 1 => if t.testBit i && decide (m + i < 8 * n) then true else anyB n m t i
theorem flips_length (c : List UInt8) (m t i : Nat) : (flips c m t i).length = c.length := by
  induction i with
  | zero => rfl
  | succ i ih => unfold flips; split <;> simp [flip, ih]

theorem testBit_tmod (t i : Nat) : ((t : Int) / 2 ^ i).tmod 2 = 1 ↔ t.testBit i = true := by
  have e : ((t : Int) / 2 ^ i) = ((t / 2 ^ i : Nat) : Int) := by simp
  rw [e, Nat.testBit_eq_decide_div_mod_eq]
  have : (((t / 2 ^ i : Nat) : Int)).tmod 2 = ((t / 2 ^ i % 2 : Nat) : Int) := by
    rw [Int.tmod_eq_emod_of_nonneg (Int.natCast_nonneg _)]; rfl
  rw [this]
  simp
  omega
theorem one_shift (j : Nat) (h : j < 8) : (2 : Int) ^ j % 256 = (((1 : UInt8) <<< UInt8.ofNat j).toNat : Int) := by
  have : ∀ j, j < 8 → (2 : Int) ^ j % 256 = (((1 : UInt8) <<< UInt8.ofNat j).toNat : Int) := by decide
  exact this j h
theorem one_bit (a b : Nat) (ha : a < 8) (hb : b < 8) : ((1 : UInt8) <<< UInt8.ofNat a).toNat.testBit b = decide (b = a) := by
  have : ∀ a, a < 8 → ∀ b, b < 8 → ((1 : UInt8) <<< UInt8.ofNat a).toNat.testBit b = decide (b = a) := by decide
  exact this a ha b hb
theorem bits_flip (c : List UInt8) (k : Nat) (hk : k < 8 * c.length) (j : Nat) : (Crc.bits (flip c k)).getD j false = ((Crc.bits c).getD j false ^^ decide (j = k)) := by
  rw [Crc.get_bits, Crc.get_bits]
  unfold flip
  by_cases h : j / 8 = k / 8
  · have e : (c.set (k / 8) (c.getD (k / 8) 0 ^^^ (1 <<< UInt8.ofNat (k % 8)))).getD (j / 8) 0 = c.getD (k / 8) 0 ^^^ (1 <<< UInt8.ofNat (k % 8)) := by
      rw [h]; simp [List.getD, show k / 8 < c.length by omega]
    rw [e, UInt8.toNat_xor, Nat.testBit_xor, one_bit _ _ (Nat.mod_lt _ (by omega)) (Nat.mod_lt _ (by omega)), h]
    congr 1
    rw [Bool.eq_iff_iff, decide_eq_true_iff, decide_eq_true_iff]; omega
  · have e : (c.set (k / 8) (c.getD (k / 8) 0 ^^^ (1 <<< UInt8.ofNat (k % 8)))).getD (j / 8) 0 = c.getD (j / 8) 0 := by
      simp [List.getD, List.getElem?_set, show ¬ k / 8 = j / 8 by omega]
    rw [e]
    have : ¬ j = k := by intro e; exact h (by rw [e])
    simp [this]
theorem bits_flips (c : List UInt8) (m t i j : Nat) (hj : j < 8 * c.length) :
    (Crc.bits (flips c m t i)).getD j false = ((Crc.bits c).getD j false ^^ (decide (m ≤ j ∧ j < m + i) && t.testBit (j - m))) := by
  induction i with
  | zero =>
    have : ¬ (m ≤ j ∧ j < m + 0) := by omega
    simp only [flips]; rw [decide_eq_false this]; simp
  | succ i ih =>
    unfold flips
    have hl := flips_length c m t i
    by_cases hk : t.testBit i = true ∧ m + i < 8 * c.length
    · rw [if_pos (by simp [hk.1, hk.2]), bits_flip _ _ (by rw [hl]; exact hk.2), ih]
      by_cases e : j = m + i
      · subst e
        simp [hk.1]
      · have e1 : decide (m ≤ j ∧ j < m + (i + 1)) = decide (m ≤ j ∧ j < m + i) := by
          rw [Bool.eq_iff_iff, decide_eq_true_iff, decide_eq_true_iff]; omega
        simp [e, e1]
    · rw [if_neg (by simpa using hk), ih]
      by_cases e : j = m + i
      · subst e
        have : t.testBit i = false := by
          cases h : t.testBit i
          · rfl
          · exact (hk ⟨h, hj⟩).elim
        simp [this]
      · have e1 : decide (m ≤ j ∧ j < m + (i + 1)) = decide (m ≤ j ∧ j < m + i) := by
          rw [Bool.eq_iff_iff, decide_eq_true_iff, decide_eq_true_iff]; omega
        simp [e1]
theorem anyB_false (c : List UInt8) (m t i : Nat) (h : anyB c.length m t i = false) : flips c m t i = c := by
  induction i with
  | zero => rfl
  | succ i ih =>
    unfold anyB at h
    unfold flips
    split at h
    · simp at h
    · rename_i hn; rw [if_neg hn]; exact ih h
theorem anyB_true (n m t i : Nat) (h : anyB n m t i = true) : ∃ j, j < i ∧ t.testBit j = true ∧ m + j < 8 * n := by
  induction i with
  | zero => simp [anyB] at h
  | succ i ih =>
    unfold anyB at h
    split at h
    · rename_i hn; exact ⟨i, by omega, by simpa using hn⟩
    · obtain ⟨j, h1, h2⟩ := ih h; exact ⟨j, by omega, h2⟩
theorem verify_flipped (l : List UInt8) (m t : Nat) (h : anyB (l.length + 4) m t 32 = true) : Crc.verify (flips (Crc.app l) m t 32) = ([], 19) := by
  have hl : (flips (Crc.app l) m t 32).length = l.length + 4 := by rw [flips_length, app_len]
  rw [verify_eq_long _ _ hl, if_neg]
  refine Crc.burst_detected l _ hl m t (fun j hj => ?_) ?_
  · exact bits_flips (Crc.app l) m t 32 j (by rw [app_len]; exact hj)
  · exact anyB_true _ _ _ _ h
theorem verify_whole (l : List UInt8) (m t : Nat) (h : anyB (l.length + 4) m t 32 = false) : Crc.verify (flips (Crc.app l) m t 32) = (l, 0) := by
  rw [anyB_false (Crc.app l) m t 32 (by rw [app_len]; exact h), verify_app]
theorem flips_on (c : List UInt8) (m t i : Nat) (h1 : t.testBit i = true) (h2 : m + i < 8 * c.length) : flips c m t (i + 1) = flip (flips c m t i) (m + i) := by
  conv => lhs; unfold flips
  rw [if_pos (by simp [h1, h2])]
theorem flips_off (c : List UInt8) (m t i : Nat) (h : ¬ (t.testBit i = true ∧ m + i < 8 * c.length)) : flips c m t (i + 1) = flips c m t i := by
  conv => lhs; unfold flips
  rw [if_neg (by simpa using h)]
theorem anyB_on (n m t i : Nat) (h1 : t.testBit i = true) (h2 : m + i < 8 * n) : anyB n m t (i + 1) = true := by
  unfold anyB; rw [if_pos (by simp [h1, h2])]
theorem anyB_off (n m t i : Nat) (h : ¬ (t.testBit i = true ∧ m + i < 8 * n)) : anyB n m t (i + 1) = anyB n m t i := by
  conv => lhs; unfold anyB
  rw [if_neg (by simpa using h)]

set_option maxHeartbeats 1600000 in
theorem burst_walk (v1 : Value) (l : List UInt8) (at' : UInt16) (t : UInt32) (w : World) (h1 : IsBytes w v1 l) :
    Calls Try.prog 7 #[v1, .int .u16 at'.toNat, u32v t] w fun e w' => e = .returned (.bool true) ∧ Below w.heap.size w w' := by
  obtain ⟨a1, cap1, rfl⟩ : ∃ a cap, v1 = .slice a l.length cap := by obtain ⟨a, cap, h, _⟩ := h1; exact ⟨a, cap, h⟩
  have hl1 := h1.len
  unfold maxLen at hl1
  by_cases hl : 4000 < l.length
  · go_enter Try.func7, Try.ntmps7
    go_wp2_with fail
    refine (example_holds _).mono ?_
    rintro e w' ⟨rfl, hb⟩
    go_wp2_with fail
    go_ret
    exact ⟨rfl, hb⟩
  have ha := at'.toNat_lt
  go_enter Try.func7, Try.ntmps7
  go_wp2_with fail
  have hc := appendCRC32 _ l w h1 (by omega)
  have hn : (l ++ Crc.le4 (Crc.update 0 l)).length = l.length + 4 := by simp [Crc.le4]
  rw [hn] at hc
  have HC : Hid (Crc.app l = l ++ Crc.le4 (Crc.update 0 l)) := rfl
  rw [← HC.out] at hc
  refine hc.mono ?_
  clear hc
  rintro e w2 ⟨v2, rfl, hown, hb2⟩
  obtain ⟨g, cap, rfl, hgb⟩ : ∃ g cap, v2 = .slice (some ⟨g, 0, none⟩) (l.length + 4) cap ∧ w.heap.size ≤ g := by
    rcases hown.2 with ⟨_, h⟩ | ⟨g, cap, cur, h, hg, _⟩
    · omega
    · exact ⟨g, cap, h, hg⟩
  have hm : (0 : Int) < 8 * ((l.length : Int) + 4) := by omega
  go_wp2_with fail
  have hmr : 0 ≤ (at'.toNat : Int) % (8 * ((l.length : Int) + 4)) ∧ (at'.toNat : Int) % (8 * ((l.length : Int) + 4)) < 8 * ((l.length : Int) + 4) := ⟨Int.emod_nonneg _ (by omega), Int.emod_lt_of_pos _ (by omega)⟩
  obtain ⟨m, hmd⟩ := Int.eq_ofNat_of_zero_le hmr.1
  rw [hmd] at hmr
  have hm8 : m < 8 * (l.length + 4) := by omega
  rw [hmd]
  clear hmd hmr hm ha
  go_loopw [9, 10] (fun sm i wr => ∃ k : Nat, k ≤ 32 ∧ i = .int .i64 k ∧ sm = .bool (anyB (l.length + 4) m t.toNat k) ∧ wr.ownsRow w.heap.size 5 1 (.slice (some ⟨g, 0, none⟩) (l.length + 4) cap) (l.length + 4) ((flips (Crc.app l) m t.toNat k).map u8v) ∧ Below w.heap.size w wr) (fun _ i _ => 32 - (intOf i).toNat)
  case atStart => exact ⟨0, by omega, rfl, rfl, ownsRow_mono hown (Nat.le_refl _), hb2⟩
  case round =>
    obtain ⟨i, hi, rfl, rfl, ho, hbel⟩ := hrel
    rename_i wr
    have HO := Lib.hid ho
    clear ho
    by_cases hlt : i < 32
    · have hfl := flips_length (Crc.app l) m t.toNat i
      rw [app_len] at hfl
      by_cases hb : t.toNat.testBit i = true
      · have ht := (testBit_tmod t.toNat i).2 hb
        by_cases hk : m + i < 8 * (l.length + 4)
        · have hk' : (m : Int) + i < 8 * ((l.length : Int) + 4) := by omega
          have hq : (m + i) / 8 < (flips (Crc.app l) m t.toNat i).length := by omega
          have hcell := HO.out.cellAt ((m + i) / 8) (by omega)
          rw [List.getElem?_map, List.getElem?_eq_getElem hq, Option.map_some] at hcell
          have hfz := HO.out.frozenAt ((m + i) / 8)
          have hst := HO.out.stored ((m + i) / 8) (u8v ((flips (Crc.app l) m t.toNat i)[(m + i) / 8] ^^^ (1 <<< UInt8.ofNat ((m + i) % 8))))
          have E : Hid ((flips (Crc.app l) m t.toNat (i + 1)).map u8v = ((flips (Crc.app l) m t.toNat i).map u8v).set ((m + i) / 8) (u8v ((flips (Crc.app l) m t.toNat i)[(m + i) / 8] ^^^ (1 <<< UInt8.ofNat ((m + i) % 8))))) := by
            unfold Hid
            rw [flips_on _ _ _ _ hb (by rw [app_len]; exact hk), flip, List.map_set]
            congr 2
            simp [List.getD, List.getElem?_eq_getElem hq]
          generalize (flips (Crc.app l) m t.toNat i)[(m + i) / 8] = c at hcell hst E
          have HB := Lib.hid hb
          clear hb
          go_wp2_with fail
          go_roundw
          case rel =>
            have e8 := one_shift ((m + i) % 8) (Nat.mod_lt _ (by omega))
            rw [e8, bx8]
            exact ⟨i + 1, by omega, by go_num, by rw [anyB_on _ _ _ _ HB.out hk], by rw [E.out]; exact hst.1, hbel.setCell (p := ⟨g, (m + i) / 8, none⟩) hgb _⟩
          case measure => simp [intOf]; omega
        · have hk' : 8 * ((l.length : Int) + 4) ≤ (m : Int) + i := by omega
          have HB := Lib.hid hb
          clear hb
          go_wp2_with fail
          go_roundw
          case rel => exact ⟨i + 1, by omega, by go_num, by rw [anyB_off _ _ _ _ (fun h => hk h.2)], by rw [flips_off _ _ _ _ (by rw [app_len]; exact fun h => hk h.2)]; exact HO.out, hbel⟩
          case measure => simp [intOf]; omega
      · have ht : ¬ ((t.toNat : Int) / 2 ^ i).tmod 2 = 1 := fun e => hb ((testBit_tmod t.toNat i).1 e)
        have HB := Lib.hid hb
        clear hb
        go_wp2_with fail
        go_roundw
        case rel => exact ⟨i + 1, by omega, by go_num, by rw [anyB_off _ _ _ _ (fun h => HB.out h.1)], by rw [flips_off _ _ _ _ (fun h => HB.out h.1)]; exact HO.out, hbel⟩
        case measure => simp [intOf]; omega
    · obtain rfl : i = 32 := by omega
      have hfl := flips_length (Crc.app l) m t.toNat 32
      rw [app_len] at hfl
      have ho := HO.out
      rw [← hfl] at ho
      have hrow := ownsRow_row ho
      rw [hfl] at hrow
      have h1' := h1.below hbel
      have hv := verify_shape _ _ wr hrow (by omega)
      clear ho HO
      by_cases hany : anyB (l.length + 4) m t.toNat 32 = true
      · rw [verify_flipped _ _ _ hany] at hv
        rw [hany]
        clear hany
        go_wp2_with fail
        refine hv.mono ?_
        clear hv
        rintro e w3 ⟨a, cap', rfl, hy, b3⟩
        go_wp2_with fail
        refine (example_holds _).mono ?_
        rintro e w' ⟨rfl, hb⟩
        go_wp2_with fail
        go_ret
        exact ⟨rfl, two_below (two_below hbel b3) hb⟩
      · have hany : anyB (l.length + 4) m t.toNat 32 = false := by simpa using hany
        rw [verify_whole _ _ _ hany] at hv
        rw [hany]
        clear hany
        go_wp2_with fail
        refine hv.mono ?_
        clear hv
        rintro e w3 ⟨a, cap', rfl, hy, b3⟩
        go_wp2_with fail
        refine (same07 _ _ _ _ _ hy (h1'.below b3)).mono ?_
        rintro e w' ⟨rfl, rfl⟩
        rw [show (((l, (0 : Int)) : List UInt8 × Int).1 == l) = true by simp]
        go_wp2_with fail
        refine (example_holds _).mono ?_
        rintro e w' ⟨rfl, hb⟩
        go_wp2_with fail
        go_ret
        exact ⟨rfl, two_below (two_below hbel b3) hb⟩
end Go.Proofs.Ytppkjnfgbofjaaa
