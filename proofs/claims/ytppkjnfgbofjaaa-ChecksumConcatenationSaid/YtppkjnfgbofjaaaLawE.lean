/- The walk of the law ChecksumConcatenation. -/
import Derived.Test.YtppkjnfgbofjaaaLawB
namespace Go.Proofs.Ytppkjnfgbofjaaa
open Go.RowKit
variable {α : Type}

theorem update_append (a b : List UInt8) : Crc.update (Crc.update 0 a) b = Crc.update 0 (a ++ b) := by
  unfold Crc.update
  rw [Crc.reg_append, UInt32.xor_assoc, UInt32.xor_self, UInt32.xor_zero]
theorem crc_flatten (ls : List (List UInt8)) : Crc.crc ls = Crc.update 0 ls.flatten := by
  have h : ∀ (ls : List (List UInt8)) (a : List UInt8), ls.foldl Crc.update (Crc.update 0 a) = Crc.update 0 (a ++ ls.flatten) := by
    intro ls
    induction ls with
    | nil => intro a; simp
    | cons b ls ih => intro a; simp only [List.foldl_cons, update_append, ih, List.flatten_cons, List.append_assoc]
  have e : Crc.update 0 [] = 0 := by decide
  have := h ls []
  rw [e] at this
  simpa [Crc.crc] using this
theorem few_len (ls : List (List UInt8)) (h : fewB ls = true) (k : Nat) : (ls.take k).flatten.length ≤ 100000 ∧ ∀ j (hj : j < ls.length), ls[j].length ≤ 2000 := by
  simp only [fewB, Bool.and_eq_true, decide_eq_true_eq, List.all_eq_true] at h
  have hb : ∀ l : List (List UInt8), (∀ x ∈ l, x.length ≤ 2000) → l.flatten.length ≤ 2000 * l.length := by
    intro l
    induction l with
    | nil => intro _; simp
    | cons a l ih =>
      intro hx
      have h1 := hx a (by simp)
      have h2 := ih fun x hm => hx x (by simp [hm])
      simp only [List.flatten_cons, List.length_append, List.length_cons]; omega
  have h1 := hb (ls.take k) fun x hx => h.2 x (List.mem_of_mem_take hx)
  have h2 : (ls.take k).length ≤ ls.length := by simp; omega
  exact ⟨by omega, fun j hj => h.2 _ (List.getElem_mem hj)⟩
theorem flatten_take (ls : List (List UInt8)) (k : Nat) (h : k < ls.length) : (ls.take (k + 1)).flatten = (ls.take k).flatten ++ ls[k] := by
  rw [take_snoc ls k h, List.flatten_append]; simp

set_option maxHeartbeats 1600000 in
theorem concat_walk (v1 : Value) (ls : List (List UInt8)) (w : World) (h1 : IsParts w v1 ls) :
    Calls Try.prog 4 #[v1] w fun e w' => e = .returned (.bool true) ∧ Below w.heap.size w w' := by
  have h1' := Lib.hid h1
  have hR : ∀ w w' x (y : List UInt8), Below w.heap.size w w' → IsBytes w x y → IsBytes w' x y := fun _ _ _ _ hb h => h.below hb
  have HR := Lib.hid hR
  clear hR
  obtain ⟨a, cap, rfl, hm, ha⟩ := h1
  have hl := sl_len hm ha
  have HA := Lib.hid ha
  clear ha
  by_cases hf : fewB ls = true
  case neg =>
    have hf : fewB ls = false := by simpa using hf
    go_enter Try.func4, Try.ntmps4
    go_wp2_with fail
    refine (few_any _ _ _ h1'.out).mono ?_
    rintro e w' ⟨rfl, rfl⟩
    rw [hf]
    go_wp2_with fail
    refine (example_holds _).mono ?_
    rintro e w' ⟨rfl, hb⟩
    go_wp2_with fail
    go_ret
    exact ⟨rfl, hb⟩
  have HF := Lib.hid (few_len ls hf)
  go_enter Try.func4, Try.ntmps4
  go_wp2_with fail
  refine (few_any _ _ _ h1'.out).mono ?_
  rintro e w' ⟨rfl, rfl⟩
  rw [hf]
  clear hf
  go_wp2_with fail
  go_loopw [3, 4, 5] (fun all n i wr => ∃ k : Nat, k ≤ ls.length ∧ i = .int .i64 k ∧ n = u32v (Crc.crc (ls.take k)) ∧ wr.ownsRow w.heap.size 5 1 all (ls.take k).flatten.length ((ls.take k).flatten.map u8v) ∧ Below w.heap.size w wr) (fun _ _ i _ => ls.length - (intOf i).toNat)
  case atStart => exact ⟨0, Nat.zero_le _, rfl, rfl, World.ownsRow_lit w #[] 0 (Nat.le_refl _) (Nat.zero_le _) rfl, below_alloc _ _⟩
  case round =>
    obtain ⟨k, hk, rfl, rfl, hown, hbel⟩ := hrel
    rename_i wr
    by_cases hlt : k < ls.length
    · rcases HA.out with ⟨rfl, _⟩ | ⟨b, o, rfl, hb, hlc, hc⟩
      · simp at hlt
      obtain ⟨x, hx, hxl⟩ := hc k hlt
      have hck : wr.cell? ⟨b, o + k, none⟩ = some x := by rw [hbel.cell (p := ⟨b, o + k, none⟩) hb]; exact hx
      clear hc hx
      have hr := (hxl.below hbel).raw (fun _ => rfl)
      have hq := (HF.out k).1
      have hq2 := (HF.out k).2 k hlt
      have h63 : (ls.take k).flatten.length + ls[k].length ≤ maxLen := by unfold maxLen; omega
      have hby : ((ls.take k).flatten.length + ls[k].length) * 1 ≤ 140737488355328 := by omega
      have hsz : w.heap.size ≤ wr.heap.size := hbel.size
      have HX := Lib.hid hxl
      clear hxl
      go_wp2_with (at_builtin; refine wpList_append_raw rfl _ _ _ rfl tyU8 w.heap.size hown rfl hr rfl h63 hby hsz ?_; intro v' wn hown2 hg; have hbel2 := hbel.grown hg hsz (fun k hk => (World.ownsRow.lt hown k hk).1); have hck2 := (hbel2.cell (p := ⟨b, o + k, none⟩) hb).trans ((hbel.cell (p := ⟨b, o + k, none⟩) hb).symm.trans hck); clear hown hg hr hck)
      refine (updateCRC32 _ _ _ _ (HX.out.below hbel2)).mono ?_
      rintro e w' ⟨rfl, rfl⟩
      go_wp2_with fail
      go_roundw
      case rel => exact ⟨k + 1, by omega, by go_num, by rw [crc_snoc _ _ ‹_›], by rw [flatten_take _ _ ‹_›, List.length_append, List.map_append]; exact hown2, hbel2⟩
      case measure => simp [intOf]; omega
    · obtain rfl : k = ls.length := by omega
      simp only [List.take_length] at hown
      have HC := Lib.hid (crc_flatten ls)
      generalize ls.flatten = fl at hown HC
      have hrow := ownsRow_row hown
      clear hown
      obtain ⟨a2, cap2, h2⟩ : ∃ a cap, _ = Value.slice a fl.length cap := by obtain ⟨a, cap, h, _⟩ := hrow; exact ⟨a, cap, h⟩
      subst h2
      have hq := IsSl1.below (fun w w' x y hb h => HR.out w w' x y hb h) h1'.out hbel
      have hb2 := below_alloc wr (.cells #[.slice a2 fl.length cap2] 24)
      have hp := sl1_new (R := IsBytes) wr (.slice a2 fl.length cap2) fl 24 (hrow.below hb2)
      simp only [List.take_length]
      go_wp2_with fail
      refine (crc32 _ _ _ hq).mono ?_
      rintro e w' ⟨rfl, rfl⟩
      rw [HC.out]
      go_wp2_with fail
      refine (crc32 _ _ _ hp).mono ?_
      rintro e w' ⟨rfl, rfl⟩
      rw [crc_one]
      have hrow2 := hrow.below hb2
      have hs2 := size_alloc_le (Nat.le_refl wr.heap.size) (.cells #[.slice a2 fl.length cap2] 24)
      have hbel2 := two_below hbel hb2
      generalize wr.alloc (.cells #[.slice a2 fl.length cap2] 24) = w2 at hrow2 hbel2 ⊢
      have hb3 := below_alloc w2 (.cells #[.slice a2 fl.length cap2] 24)
      have hp3 := sl1_new (R := IsBytes) w2 (.slice a2 fl.length cap2) fl 24 (hrow2.below hb3)
      go_wp2_with fail
      refine (crc32 _ _ _ hp3).mono ?_
      rintro e w' ⟨rfl, rfl⟩
      rw [crc_one]
      go_wp2_with fail
      refine (crc32 _ [] _ ⟨none, 0, rfl, Nat.zero_le _, .inl ⟨rfl, fun _ => rfl⟩⟩).mono ?_
      rintro e w' ⟨rfl, rfl⟩
      rw [show Crc.crc [] = 0 from rfl]
      go_wp2_with fail
      refine (example_holds _).mono ?_
      rintro e w' ⟨rfl, hb⟩
      go_wp2_with fail
      go_ret
      exact ⟨rfl, two_below (two_below hbel2 hb3) hb⟩
end Go.Proofs.Ytppkjnfgbofjaaa
