/- The law on sequences, walked. -/
import Derived.Test.YtnenbmbgmmeiaaaDoorEncW5
import Derived.Test.YtnenbmbgmmeiaaaDoorLaw6C
import Derived.Outline
namespace En
theorem iat_put (A R : List UInt8) (l : List Int) (most : Int) (hb : ∀ x ∈ l, -9223372036854775808 ≤ x ∧ x ≤ 9223372036854775807) (hl : l.length < 18446744073709551616) (h : (l.length : Int) ≤ most) :
    iat (A ++ (putI l ++ R)) A.length most = (l, A.length + (putI l).length, 0) := by
  have hd : (A ++ (putI l ++ R)).drop A.length = uvar 10 l.length ++ (deltas 0 l ++ R) := by simp [putI]
  have hd2 : (A ++ (putI l ++ R)).drop (A.length + (uvar 10 l.length).length) = deltas 0 l ++ R := by rw [← List.drop_drop, hd]; simp
  have hu := usc_uvar9 l.length (deltas 0 l ++ R) hl
  unfold iat
  rw [if_neg (by simp; omega), Int.toNat_natCast, hd, hu]
  simp only
  rw [if_neg (by omega), isc_deltas l 0 _ _ R hd2 hb]
  simp [putI]; omega
theorem iat_short (A R : List UInt8) (l : List Int) (most : Int) (hl : l.length < 18446744073709551616) (h : most < (l.length : Int)) :
    iat (A ++ (putI l ++ R)) A.length most = ([], 0, 5) := by
  have hd : (A ++ (putI l ++ R)).drop A.length = uvar 10 l.length ++ (deltas 0 l ++ R) := by simp [putI]
  have hu := usc_uvar9 l.length (deltas 0 l ++ R) hl
  unfold iat
  rw [if_neg (by simp; omega), Int.toNat_natCast, hd, hu]
  simp only
  rw [if_pos (by omega)]
theorem rat_put (A R : List UInt8) (s : List UInt8) (most : Int) (hl : s.length < 18446744073709551616) (h : (s.length : Int) ≤ most) :
    rat (A ++ (putR s ++ R)) A.length most = (s, A.length + (putR s).length, 0) := by
  obtain ⟨hg, hf⟩ := runs_flat s
  have hrl : (runs s).length ≤ s.length := by have := good_pos hg; rw [hf] at this; exact this
  have hd : (A ++ (putR s ++ R)).drop A.length = uvar 10 (runs s).length ++ (runsB (runs s) ++ R) := by simp [putR]
  have hd2 : (A ++ (putR s ++ R)).drop (A.length + (uvar 10 (runs s).length).length) = runsB (runs s) ++ R := by rw [← List.drop_drop, hd]; simp
  have hu := usc_uvar9 (runs s).length (runsB (runs s) ++ R) (by omega)
  unfold rat
  rw [if_neg (by simp; omega), Int.toNat_natCast, hd, hu]
  simp only
  rw [if_neg (by omega), rsc_runsB (runs s) none _ most 0 _ R hd2 hg (by rw [hf]; simpa using h) (by rw [hf]; exact hl)]
  simp only [hf]
  simp [putR]; omega
theorem deltas_len (l : List Int) : ∀ last, (deltas last l).length ≤ 10 * l.length := by
  induction l with
  | nil => intro last; simp [deltas]
  | cons x l ih => intro last; have h1 := ih x; have h2 := uvar_len 10 (zig (w64 (x - last))); simp only [deltas, List.length_append, List.length_cons]; omega
theorem putI_len (l : List Int) : (putI l).length ≤ 10 + 10 * l.length := by
  have h1 := deltas_len l 0
  have h2 := uvar_len 10 l.length
  unfold putI; rw [List.length_append]; omega
theorem putR_len (s : List UInt8) : (putR s).length ≤ 10 + 11 * s.length := by
  obtain ⟨hg, hf⟩ := runs_flat s
  have hrl : (runs s).length ≤ s.length := by have := good_pos hg; rw [hf] at this; exact this
  have h1 := runsB_len (runs s)
  have h2 := uvar_len 10 (runs s).length
  unfold putR; rw [List.length_append]; omega
theorem seq_reads (ar s : List UInt8) (l : List Int) (hb : ∀ x ∈ l, -9223372036854775808 ≤ x ∧ x ≤ 9223372036854775807) (hl : l.length ≤ 300) (hs : s.length ≤ 300) :
    ∃ B2 B3 B4, B2 = ar ++ putI l ∧ B3 = B2 ++ putR s ∧ B4 = B3 ++ ar ∧ iat B4 ar.length l.length = (l, B2.length, 0) ∧ rat B4 B2.length s.length = (s, B3.length, 0) ∧ iat B4 ar.length ((l.length : Int) - 1) = ([], 0, 5) := by
  refine ⟨_, _, _, rfl, rfl, rfl, ?_, ?_, ?_⟩
  · have := iat_put ar (putR s ++ ar) l l.length hb (by omega) (by omega)
    rw [List.length_append, ← this]; congr 1; simp
  · have := rat_put (ar ++ putI l) ar s s.length (by omega) (by omega)
    rw [show (ar ++ putI l ++ putR s).length = (ar ++ putI l).length + (putR s).length from List.length_append, ← this]; congr 1; simp
  · have := iat_short ar (putR s ++ ar) l ((l.length : Int) - 1) (by omega) (by omega)
    rw [← this]; congr 1; simp
end En
namespace Go.Proofs.YtnenbmbgmmeiaaaDoor
open Go.RowKit En
variable {α : Type}
set_option linter.unusedVariables false

theorem own_app {base : Nat} {w : World} {v : Value} {A B : List UInt8} {n m : Nat} (hn : n = A.length) (hm : m = B.length) (h : w.ownsRow base 5 1 v (n + m) (A.map u8v ++ B.map u8v)) : OwnB base w v (A ++ B) := by
  subst hn hm
  unfold OwnB
  rw [List.length_append, List.map_append]; exact h

set_option maxRecDepth 100000 in
set_option maxHeartbeats 3200000 in
theorem lawSeq (v1 : Value) (l : List Int) (v2 : Value) (s : List UInt8) (v3 : Value) (ar : List UInt8) (w : World) (h1 : IsInts w v1 l) (h2 : IsBytes w v2 s) (h3 : IsBytes w v3 ar) :
    Calls Tryd.prog 11 #[v1, v2, v3] w fun e w' => e = .returned (.bool true) ∧ Ext w w' := by
  have HV1 := Lib.hid h1
  have HV2 := Lib.hid h2
  have HV3 := Lib.hid h3
  have hl1 := h1.1.len
  have hl2 := h2.len
  have hl3 := h3.len
  obtain ⟨a1, c1, rfl⟩ := h1.1.shape
  obtain ⟨a2, c2, rfl⟩ := h2.shape
  obtain ⟨a3, c3, rfl⟩ := h3.shape
  unfold maxLen at hl1 hl2 hl3
  have hbd := h1.2
  clear h1 h2
  by_cases hbig : 300 < l.length ∨ 300 < s.length ∨ 300 < ar.length
  · have HE := Lib.hid (example_any w)
    have hcase : (300 : Int) < l.length ∨ ¬ (300 : Int) < l.length ∧ (300 : Int) < s.length ∨ ¬ (300 : Int) < l.length ∧ ¬ (300 : Int) < s.length ∧ (300 : Int) < ar.length := by omega
    clear hbig h3 hbd
    rcases hcase with h | ⟨h, h'⟩ | ⟨h, h', h''⟩
    all_goals
      go_enter Tryd.func11, Tryd.ntmps11
      go_wp2_with fail
      refine HE.out.mono ?_
      rintro e w5 ⟨rfl, hb⟩
      go_wp2_with fail
      go_ret
      exact ⟨rfl, hb⟩
  · have k1 : ¬ (300 : Int) < l.length := by omega
    have k2 : ¬ (300 : Int) < s.length := by omega
    have k3 : ¬ (300 : Int) < ar.length := by omega
    obtain ⟨B2, B3, B4, e2, e3, e4, r1, r2, r3⟩ := seq_reads ar s l hbd (by omega) (by omega)
    have hlB2 : B2.length ≤ 4000 := by have := putI_len l; rw [e2, List.length_append]; omega
    have hlB3 : B3.length ≤ 8000 := by have := putR_len s; rw [e3, List.length_append]; omega
    have hlB4 : B4.length ≤ 9000 := by rw [e4, List.length_append]; omega
    have hlI := putI_len l
    have hlR := putR_len s
    have HR := Lib.hid (And.intro r1 (And.intro r2 r3))
    have HB := Lib.hid (And.intro e2 (And.intro e3 e4))
    have hown0 := World.ownsRow_lit (base := w.heap.size) (e := 5) (size := 1) w #[] 0 (Nat.le_refl _) (Nat.zero_le _) rfl
    have hr0 := raw_alloc (h3.raw (fun _ => rfl)) (.cells #[] 5)
    have h63 : 0 + ar.length ≤ maxLen := by unfold maxLen; omega
    have hby : (0 + ar.length) * 1 ≤ 140737488355328 := by omega
    have hs0 : w.heap.size ≤ (w.alloc (.cells #[] 5)).heap.size := by simp
    clear hbig h3 hbd e2 e3 e4 r1 r2 r3
    go_enter Tryd.func11, Tryd.ntmps11
    go_wp2_with (at_builtin; refine wpList_append_raw rfl _ _ _ rfl tyU8 w.heap.size hown0 rfl hr0 rfl h63 hby hs0 ?_; intro b1 w1 hown hg)
    have HB1 := Lib.hid ((below_alloc w _).grown hg hs0 (fun k hk => (World.ownsRow.lt hown0 k hk).1))
    simp only [Nat.zero_add, List.nil_append] at hown
    have HO1 := Lib.hid hown
    have HP := Lib.hid (putInts_any _ l w1 ⟨HV1.out.1.below HB1.out, HV1.out.2⟩ (by omega))
    clear hown0 hr0 hg hown
    go_wp2_with fail
    refine HP.out.mono ?_
    rintro e w2 ⟨y, rfl, hy, hb2⟩
    have hown0 := ownsRow_ext HO1.out hb2
    have hr0 := (ownsRow_row hy).raw (fun _ => rfl)
    have hext2 := Ext.trans' HB1.out hb2
    have hs0 := hext2.size
    have h63 : ar.length + (putI l).length ≤ maxLen := by unfold maxLen; omega
    have hby : (ar.length + (putI l).length) * 1 ≤ 140737488355328 := by omega
    have HE2 := Lib.hid hext2
    clear hy hb2 hext2 HP
    go_wp2_with (at_builtin; refine wpList_append_raw rfl _ _ _ rfl tyU8 w.heap.size hown0 rfl hr0 rfl h63 hby hs0 ?_; intro b2 w3 hown hg)
    have HE3 := Lib.hid (HE2.out.grown hg hs0 (fun k hk => (World.ownsRow.lt hown0 k hk).1))
    have hO := own_app rfl rfl hown
    rw [← HB.out.1] at hO
    have HO3 := Lib.hid hO
    have HP := Lib.hid (putRuns_any _ s w3 (HV2.out.below HE3.out) (by omega))
    clear hown0 hr0 hg hown hO
    go_wp2_with fail
    refine HP.out.mono ?_
    rintro e w4 ⟨y, rfl, hy, hb4⟩
    have hown0 := ownsRow_ext HO3.out hb4
    have hr0 := (ownsRow_row hy).raw (fun _ => rfl)
    have hext4 := Ext.trans' HE3.out hb4
    have hs0 := hext4.size
    have h63 : B2.length + (putR s).length ≤ maxLen := by unfold maxLen; omega
    have h63' : B3.length + ar.length ≤ maxLen := by unfold maxLen; omega
    have hby' : (B3.length + ar.length) * 1 ≤ 140737488355328 := by omega
    have hby : (B2.length + (putR s).length) * 1 ≤ 140737488355328 := by omega
    have HE4 := Lib.hid hext4
    clear hy hb4 hext4 HP
    go_wp2_with (first | (at_builtin; refine wpList_append_raw rfl _ _ _ rfl tyU8 w.heap.size hown0 rfl hr0 rfl h63 hby hs0 ?_; intro b3 w5 hown hg; have hext5 := HE4.out.grown hg hs0 (fun k hk => (World.ownsRow.lt hown0 k hk).1); have hO := own_app rfl rfl hown; rw [← HB.out.2.1] at hO; obtain ⟨b3a, b3c, rfl⟩ := own_sh hO; unfold OwnB at hO; have hr1 := (HV3.out.below hext5).raw (fun _ => rfl); have hs1 := hext5.size; have HE5 := Lib.hid hext5; clear hown hg hext5 hown0 hr0) | (at_builtin; refine wpList_append_raw rfl _ _ _ rfl tyU8 w.heap.size hO rfl hr1 rfl h63' hby' hs1 ?_; intro b4 w6 hown hg))
    have HE6 := Lib.hid (HE5.out.grown hg hs1 (fun k hk => (World.ownsRow.lt hO k hk).1))
    have hO2 := own_app rfl rfl hown
    rw [← HB.out.2.2] at hO2
    have HO6 := Lib.hid (ownsRow_row hO2)
    have hI := intsAt_any _ B4 ar.length l.length w6 HO6.out (by omega) (by omega)
    rw [HR.out.1] at hI
    have HI := Lib.hid hI
    clear hr1 hg hown hO hO2 hI
    go_wp2_with fail
    refine HI.out.mono ?_
    rintro e w7 ⟨y7, rfl, hy7, hb7⟩
    have HE7 := Lib.hid (Ext.trans' HE6.out hb7)
    have HS := Lib.hid (sameInts06 y7 _ l l w7 (ownsRow_row hy7) (HV1.out.1.below HE7.out))
    rw [beq_self_eq_true] at HS
    have HO7 := Lib.hid (HO6.out.below hb7)
    clear hy7 hb7 HI
    go_wp2_with fail
    refine HS.out.mono ?_
    rintro e w8 ⟨rfl, hb8⟩
    have HE8 := Lib.hid (Ext.trans' HE7.out hb8)
    have HO8 := Lib.hid (HO7.out.below hb8)
    have hI := runsAt_any _ B4 B2.length s.length w8 HO8.out (by omega) (by omega)
    rw [HR.out.2.1] at hI
    have HI := Lib.hid hI
    clear hb8 hI HS
    go_wp2_with fail
    refine HI.out.mono ?_
    rintro e w9 ⟨y9, rfl, hy9, hb9⟩
    have HE9 := Lib.hid (Ext.trans' HE8.out hb9)
    have HO9 := Lib.hid (HO8.out.below hb9)
    have HS := Lib.hid (same06 y9 _ s s w9 (ownsRow_row hy9) (HV2.out.below HE9.out))
    rw [beq_self_eq_true] at HS
    clear hy9 hb9 HI
    go_wp2_with fail
    refine HS.out.mono ?_
    rintro e w10 ⟨rfl, hb10⟩
    have HE10 := Lib.hid (Ext.trans' HE9.out hb10)
    have HO10 := Lib.hid (HO9.out.below hb10)
    have hI := intsAt_any _ B4 ar.length ((l.length : Int) - 1) w10 HO10.out (by omega) (by omega)
    rw [HR.out.2.2] at hI
    have HI := Lib.hid hI
    clear hb10 hI HS
    go_wp2_with fail
    refine HI.out.mono ?_
    rintro e w11 ⟨y11, rfl, hy11, hb11⟩
    have HE11 := Lib.hid (Ext.trans' HE10.out hb11)
    have HX := Lib.hid (example_any w11)
    clear hy11 hb11 HI
    go_wp2_with fail
    refine HX.out.mono ?_
    rintro e w12 ⟨rfl, hb12⟩
    have HE12 := Lib.hid (Ext.trans' HE11.out hb12)
    clear hb12 HX
    go_wp2_with fail
    go_ret
    exact ⟨rfl, HE12.out⟩
end Go.Proofs.YtnenbmbgmmeiaaaDoor
