/- The reference's verification, the guard, and the chapter's example. -/
import Derived.Test.YtppkjnfgbofjaaaCrcWalk3
import Derived.Lib.SlBytesConst
namespace Go.Proofs.Ytppkjnfgbofjaaa
open Go.RowKit
variable {α : Type}

set_option maxHeartbeats 400000 in
theorem refVerify_short (v : Value) (l : List UInt8) (w : World) (hv : IsBytes w v l) (h : l.length < 4) :
    Calls Try.prog 18 #[v] w fun e w' => e = .returned (.tuple #[.slice none 0 0, .int .i64 4]) ∧ w = w' := by
  obtain ⟨a, cap, rfl⟩ : ∃ a cap, v = .slice a l.length cap := by obtain ⟨a, cap, h, _⟩ := hv; exact ⟨a, cap, h⟩
  clear hv
  go_enter Try.func18, Try.ntmps18
  go_wp2
  go_ret2
  exact ⟨rfl, rfl⟩

theorem ok_same (l : List UInt8) (m : Nat) (x : List UInt8) (h : l.length = m + 4) : ((l.take m ++ x == l) = true ↔ l.drop m = x) := by
  rw [beq_iff_eq]
  constructor
  · intro e
    have := congrArg (List.drop m) e
    rw [← this, List.drop_append]
    simp [h]
  · intro e; rw [← e, List.take_append_drop]

theorem row_some {f : α → Value} {w : World} {v : Value} {l : List α} {n : Nat} (h : IsRowOf f w v l) (hn : l.length = n) (hp : 0 < n) :
    ∃ b o cap, v = .slice (some ⟨b, o, none⟩) n cap ∧ b < w.heap.size ∧ n ≤ cap ∧ cap ≤ maxLen ∧ ∀ i (h : i < l.length), w.cell? ⟨b, o + i, none⟩ = some (f l[i]) := by
  subst hn
  obtain ⟨a, cap, rfl, hm, h⟩ := h
  rcases h with ⟨rfl, _⟩ | ⟨b, o, rfl, hb, hl, hc⟩
  · simp at hp
  · exact ⟨b, o, cap, rfl, hb, hl, hm, hc⟩

theorem refAppend_shape (v : Value) (l : List UInt8) (w : World) (hv : IsBytes w v l) (hlen : l.length ≤ 100000000) :
    Calls Try.prog 21 #[v] w fun e w' => ∃ b o cap, e = .returned (.slice (some ⟨b, o, none⟩) (l.length + 4) cap) ∧ l.length ≤ cap ∧
      IsBytes w' (.slice (some ⟨b, o, none⟩) (l.length + 4) cap) (l ++ Crc.le4 (Crc.update 0 l)) ∧ IsBytes w' (.slice (some ⟨b, o, none⟩) l.length cap) l ∧ Below w.heap.size w w' := by
  refine (refAppend v l w hv hlen).mono ?_
  rintro e w' ⟨v', rfl, hown, hb⟩
  have hrow := ownsRow_row hown
  obtain ⟨b, o, cap, rfl, h1, h2, h3, h4⟩ := row_some (n := l.length + 4) hrow (by simp [Crc.le4]) (by omega)
  refine ⟨b, o, cap, rfl, by omega, hrow, ?_, hb⟩
  have := row_take (f := u8v) (n := l.length) h1 (by simp [Crc.le4]; omega) h3 (by simp) h4
  simpa using this

set_option maxHeartbeats 400000 in
theorem refVerify_long (v : Value) (l : List UInt8) (m : Nat) (w : World) (hv : IsBytes w v l) (hlen : l.length = m + 4) (hm : m ≤ 100000000) :
    Calls Try.prog 18 #[v] w fun e w' => ∃ v' k, e = .returned (.tuple #[v', .int .i64 k]) ∧ Below w.heap.size w w' ∧
      (l.drop m = Crc.le4 (Crc.update 0 (l.take m)) → k = 0 ∧ IsBytes w' v' (l.take m)) ∧ (l.drop m ≠ Crc.le4 (Crc.update 0 (l.take m)) → k = 19 ∧ v' = .slice none 0 0) := by
  have hv0 := hv
  obtain ⟨a, cap, rfl, hcap, ha⟩ := hv
  rcases ha with ⟨rfl, _⟩ | ⟨b, o, rfl, hb, hlc, hc⟩
  · simp at hlen
  have hr := row_take (n := m) hb hlc hcap (by omega) hc
  have hmc : m ≤ cap := by omega
  clear hc
  go_enter Try.func18, Try.ntmps18
  go_wp2_with fail
  have hlt : (l.take m).length = m := by simp; omega
  have hc0 := refAppend_shape _ _ w hr (by omega)
  rw [hlt] at hc0
  refine hc0.mono ?_
  rintro e w2 ⟨b2, o2, cap2, rfl, hmc2, hrow, hr2, hb2⟩
  clear hc0 hlt
  have hv2 := hv0.below hb2
  rw [hlen] at hv2
  have hs := ok_same l m (Crc.le4 (Crc.update 0 (l.take m))) hlen
  generalize hx : Crc.le4 (Crc.update 0 (l.take m)) = x at hrow hs ⊢
  have HS := Lib.hid hs
  have HX := Lib.hid hx
  clear hs hx
  go_wp2_with fail
  refine (same07 _ _ _ _ _ hrow hv2).mono ?_
  rintro e w' ⟨rfl, rfl⟩
  by_cases hd : l.drop m = x
  · have HD := Lib.hid hd
    have hb := HS.out.2 hd
    clear hd
    rw [hb]
    clear hb
    go_wp2_with fail
    go_ret2
    exact ⟨_, _, rfl, hb2, fun _ => ⟨rfl, hr2⟩, fun h => (h (HX.out.trans HD.out.symm).symm).elim⟩
  · have HD := Lib.hid hd
    have hb : (l.take m ++ x == l) = false := by
      cases e : (l.take m ++ x == l)
      · rfl
      · exact (hd (HS.out.1 e)).elim
    clear hd
    rw [hb]
    clear hb
    go_wp2_with fail
    go_ret2
    exact ⟨_, _, rfl, hb2, fun h => (HD.out (h.trans HX.out)).elim, fun _ => ⟨rfl, rfl⟩⟩

def fewB (ls : List (List UInt8)) : Bool := decide (ls.length ≤ 50) && ls.all fun l => decide (l.length ≤ 2000)
theorem few_many (ls : List (List UInt8)) (h : 50 < ls.length) : fewB ls = false := by simp [fewB]; omega
theorem few_long (ls : List (List UInt8)) (k : Nat) (hk : k < ls.length) (h : 2000 < ls[k].length) : fewB ls = false := by
  simp only [fewB, Bool.and_eq_false_iff, List.all_eq_false]
  exact .inr ⟨ls[k], List.getElem_mem hk, by simp; omega⟩

set_option maxHeartbeats 400000 in
theorem few_any (v : Value) (l : List (List UInt8)) (w : World) (hv : IsParts w v l) :
    Calls Try.prog 9 #[v] w fun e w' => e = .returned (.bool (fewB l)) ∧ w = w' := by
  obtain ⟨a, cap, rfl, hm, ha⟩ := hv
  have hl := sl_len hm ha
  have HA := Lib.hid ha
  clear ha
  by_cases h50 : 50 < l.length
  · have H := Lib.hid (few_many l h50)
    go_enter Try.func9, Try.ntmps9
    go_wp2
    go_ret
    exact ⟨by rw [H.out]; rfl, rfl⟩
  go_enter Try.func9, Try.ntmps9
  go_wp2
  go_loop [3] (fun i => ∃ k : Nat, k ≤ l.length ∧ i = .int .i64 k ∧ ∀ j (h : j < l.length), j < k → l[j].length ≤ 2000) (fun i => l.length - (intOf i).toNat)
  case atStart => exact ⟨0, Nat.zero_le _, rfl, fun j _ h => absurd h (by omega)⟩
  case round =>
    obtain ⟨k, hk, rfl, hall⟩ := hrel
    have HL := Lib.hid hall
    clear hall
    by_cases hlt : k < l.length
    · rcases HA.out with ⟨rfl, _⟩ | ⟨b, o, rfl, hb, hlc, hc⟩
      · simp at hlt
      obtain ⟨x, hck, hx⟩ := hc k hlt
      obtain ⟨ax, capx, rfl, _⟩ := hx
      clear hc
      by_cases hbig : 2000 < l[k].length
      · have H := Lib.hid (few_long l k hlt hbig)
        go_wp2
        go_ret
        exact ⟨by rw [H.out]; rfl, rfl⟩
      · go_wp2
        go_round
        case rel => exact ⟨k + 1, by omega, by go_num, fun j hj hjk => by
          rcases Nat.lt_or_ge j k with h | h
          · exact HL.out j hj h
          · obtain rfl : j = k := by omega
            omega⟩
        case measure => simp [intOf]; omega
    · obtain rfl : k = l.length := by omega
      have H : Hid (fewB l = true) := by
        simp only [Hid, fewB, Bool.and_eq_true, List.all_eq_true, decide_eq_true_eq]
        refine ⟨by omega, fun x hx => ?_⟩
        obtain ⟨j, hj, rfl⟩ := List.getElem_of_mem hx
        exact HL.out j hj hj
      go_wp2
      go_ret
      exact ⟨by rw [H.out]; rfl, rfl⟩

def ex : List UInt8 := [49, 50, 51, 52, 53, 54, 55, 56, 57]
theorem ex_crc : Crc.update 0 ex = 3421780262 := by decide +kernel

theorem crc_ex : Crc.crc [ex] = 3421780262 := ex_crc
theorem fnv_nil : Crc.fnv [] = 14695981039346656037 := rfl

set_option maxHeartbeats 800000 in
theorem example_holds (w : World) :
    Calls Try.prog 10 #[] w fun e w' => e = .returned (.bool true) ∧ Below w.heap.size w w' := by
  have kc := fun (w : World) (C : Array Value) (n c : Nat) => Lib.run_convert_bytes_const (P := Try.prog) w 24 5 C n c Try.underlying24 Try.underlying5
  have hb : IsBytes (w.alloc (.cells #[.int .u8 49, .int .u8 50, .int .u8 51, .int .u8 52, .int .u8 53, .int .u8 54, .int .u8 55, .int .u8 56, .int .u8 57] 5 (9, 10))) (.slice (some ⟨w.heap.size, 0, none⟩) 9 9) ex :=
    row_new_fr w ex 5 (9, 10) (by decide)
  have hA := below_alloc w (.cells #[.int .u8 49, .int .u8 50, .int .u8 51, .int .u8 52, .int .u8 53, .int .u8 54, .int .u8 55, .int .u8 56, .int .u8 57] 5 (9, 10))
  have hA' : w.heap.size < (w.alloc (.cells #[.int .u8 49, .int .u8 50, .int .u8 51, .int .u8 52, .int .u8 53, .int .u8 54, .int .u8 55, .int .u8 56, .int .u8 57] 5 (9, 10))).heap.size := by simp
  go_enter Try.func10, Try.ntmps10
  go_wp2_with fail
  clear kc
  generalize w.alloc (.cells #[.int .u8 49, .int .u8 50, .int .u8 51, .int .u8 52, .int .u8 53, .int .u8 54, .int .u8 55, .int .u8 56, .int .u8 57] 5 (9, 10)) = w1 at hb hA hA' ⊢
  refine (appendCRC32 _ _ _ hb (by decide)).mono ?_
  rintro e w2 ⟨v2, rfl, hown, hB2⟩
  have h2 := ownsRow_row hown
  have hb2 := hb.below hB2
  have hA2 := hA.trans (hB2.mono (Nat.le_of_lt hA'))
  clear hown hb hA
  go_wp2_with fail
  refine (verify_long _ _ 9 _ h2 rfl (by decide)).mono ?_
  rintro e w3 ⟨v3, k3, rfl, hB3, hok, _⟩
  obtain ⟨rfl, h3⟩ := hok rfl
  have h3 : IsBytes w3 v3 ex := h3
  have hb3 := hb2.below hB3
  have hs2 := hB2.size
  have hA3 := hA2.trans (hB3.mono (by omega))
  clear hok h2 hb2 hA2
  have hB4 := below_alloc w3 (.cells #[.int .u8 1, .int .u8 2, .int .u8 3] 5)
  have h4 : IsBytes (w3.alloc (.cells #[.int .u8 1, .int .u8 2, .int .u8 3] 5)) (.slice (some ⟨w3.heap.size, 0, none⟩) 3 3) [1, 2, 3] := row_new w3 [1, 2, 3] _ (by decide)
  have hs3 := hB3.size
  have hA4 := hA3.trans (hB4.mono (by omega))
  have hb4 := hb3.below hB4
  have h34 := h3.below hB4
  have hs4 : w3.heap.size < (w3.alloc (.cells #[.int .u8 1, .int .u8 2, .int .u8 3] 5)).heap.size := by simp
  go_wp2_with fail
  generalize w3.alloc (.cells #[.int .u8 1, .int .u8 2, .int .u8 3] 5) = w4 at hA4 hb4 h34 h4 hs4 ⊢
  refine (verify_short _ _ _ h4 (by decide)).mono ?_
  rintro e w' ⟨rfl, rfl⟩
  clear hb3 h3 hB4 hA3 h4
  have hB5 := below_alloc w4 (.cells #[.slice (some ⟨w.heap.size, 0, none⟩) 9 9] 24)
  have hp := sl1_new (R := IsBytes) w4 (.slice (some ⟨w.heap.size, 0, none⟩) 9 9) ex 24 (hb4.below hB5)
  have hb5 := hb4.below hB5
  have h35 := h34.below hB5
  have hA5 := hA4.trans (hB5.mono (by omega))
  go_wp2_with fail
  generalize w4.alloc (.cells #[.slice (some ⟨w.heap.size, 0, none⟩) 9 9] 24) = w5 at hp hb5 h35 hA5 ⊢
  refine (crc32 _ _ _ hp).mono ?_
  rintro e w' ⟨rfl, rfl⟩
  rw [crc_ex]
  clear hb4 h34 hA4 hB5 hp
  go_wp2_with fail
  refine (fnv64 _ _ _ (row_nil _)).mono ?_
  rintro e w' ⟨rfl, rfl⟩
  rw [fnv_nil]
  go_wp2_with fail
  refine (same07 _ _ _ _ _ h35 hb5).mono ?_
  rintro e w' ⟨rfl, rfl⟩
  rw [show (ex == ex) = true from rfl]
  go_wp2_with fail
  go_ret
  exact ⟨rfl, hA5⟩
end Go.Proofs.Ytppkjnfgbofjaaa
