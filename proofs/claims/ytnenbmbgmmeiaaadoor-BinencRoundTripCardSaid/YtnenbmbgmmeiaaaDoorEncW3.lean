/- Walks of chapter 06: some, Bytes, the reference's PutBytes and Bytes. -/
import Derived.Test.YtnenbmbgmmeiaaaDoorEncW2
import Derived.Test.YtnenbmbgmmeiaaaDoorOpen2
namespace Go.Proofs.YtnenbmbgmmeiaaaDoor
open Go.RowKit En
variable {α : Type}

set_option maxHeartbeats 400000 in
theorem clone8 (v : Value) (l : List UInt8) (w : World) (hv : IsBytes w v l) (hlen : l.length ≤ 1000000000) :
    Calls Tryd.prog 73 #[v] w fun e w' => ∃ v', e = .returned v' ∧ OwnB w.heap.size w' v' l ∧ Ext w w' := by
  have hr := hv.raw (fun _ => rfl)
  obtain ⟨a, cap, rfl, hm, ha⟩ := hv
  rcases a with _ | ad
  · have hz : l = [] ∧ cap = 0 := by
      rcases ha with ⟨h, h0⟩ | ⟨b, o, h, _⟩
      · exact ⟨h, h0 rfl⟩
      · cases h
    obtain ⟨rfl, rfl⟩ := hz
    have hnil := Lib.run_eql_slice_nil (P := Tryd.prog) w 23 5 none 0 0 0 0 Tryd.underlying23
    clear ha hr
    go_enter Tryd.func73, Tryd.ntmps73
    go_wp2
    go_ret
    exact ⟨_, rfl, World.ownsRow_nil _ _ _ _, Below.refl _ _⟩
  · have hnil := Lib.run_eql_slice_nil (P := Tryd.prog) w 23 5 (some ad) l.length cap 0 0 Tryd.underlying23
    have hown := World.ownsRow_lit (base := w.heap.size) (e := 5) (size := 1) w #[] 0 (Nat.le_refl _) (Nat.zero_le _) rfl
    have hr := raw_alloc hr (.cells #[] 5)
    have h63 : 0 + l.length ≤ maxLen := by unfold maxLen; omega
    have hby : (0 + l.length) * 1 ≤ 140737488355328 := by omega
    clear ha
    go_enter Tryd.func73, Tryd.ntmps73
    go_wp2_with (at_builtin; refine wpList_append_raw rfl _ _ _ rfl tyU8 w.heap.size hown rfl hr rfl h63 hby (by simp) ?_; intro v' w' hown' hg)
    go_ret
    simp only [Nat.zero_add, List.nil_append] at hown'
    exact ⟨_, rfl, by simpa [OwnB] using hown', ((Below.refl _ _).alloc (Nat.le_refl _) _).grown hg (by simp) (by simp [Value.ownBlock])⟩

def SomePost (w : World) (b : Nat) (v : Value) (l : List UInt8) (p : Nat) (r : Except Nat (List UInt8 × Nat)) (e : Ending) (w' : World) : Prop :=
  ∃ q, Rd w' b v l q ∧ Ch b w w' ∧ (match r with
    | .ok (s, k) => q = p + k ∧ ∃ x, e = .returned (.tuple #[x, .int .i64 0]) ∧ OwnB w.heap.size w' x s
    | .error er => e = .returned (.tuple #[.slice none 0 0, .int .i64 (er : Int)]))
theorem bsc_err {most : Int} {l : List UInt8} {e : Nat} (h : usc 9 l = .error e) : bsc most l = .error e := by unfold bsc; rw [h]
theorem bsc_5 {most : Int} {l : List UInt8} {n k : Nat} (h : usc 9 l = .ok (n, k)) (h5 : most < 0 ∨ most < (n : Int)) : bsc most l = .error 5 := by unfold bsc; rw [h]; simp only; rw [if_pos h5]
theorem bsc_4 {most : Int} {l : List UInt8} {n k : Nat} (h : usc 9 l = .ok (n, k)) (h5 : ¬ (most < 0 ∨ most < (n : Int))) (h4 : l.length - k < n) : bsc most l = .error 4 := by
  unfold bsc; rw [h]; simp only; rw [if_neg h5, if_pos h4]
theorem bsc_0 {most : Int} {l : List UInt8} {n k : Nat} (h : usc 9 l = .ok (n, k)) (h5 : ¬ (most < 0 ∨ most < (n : Int))) (h4 : ¬ l.length - k < n) : bsc most l = .ok ((l.drop k).take n, k + n) := by
  unfold bsc; rw [h]; simp only; rw [if_neg h5, if_neg h4]

set_option maxRecDepth 100000 in
set_option maxHeartbeats 800000 in
theorem some_any (l : List UInt8) (b p : Nat) (v : Value) (most : Int) (w : World) (h : Rd w b v l p) (hl : l.length ≤ 1000000000) (hmb : most ≤ 9223372036854775807) :
    Calls Tryd.prog 47 #[.pointer (some ⟨b, 0, none⟩), .int .i64 most] w (SomePost w b v l p (bsc most (l.drop p))) := by
  have HN := Lib.hid (number_any l b p v w h)
  have hpl := h.hp
  cases hu : usc 9 (l.drop p) with
  | error er =>
    rw [bsc_err hu]
    rw [hu] at HN
    have he := err_pos hu
    clear hu h
    go_enter Tryd.func47, Tryd.ntmps47
    go_wp2_with fail
    refine HN.out.mono ?_
    rintro e w1 ⟨q, hrd, hch, rfl⟩
    have HR := Lib.hid hrd
    have HC := Lib.hid hch
    clear hrd hch HN
    go_wp2_with fail
    go_ret2
    exact ⟨q, HR.out, HC.out, rfl⟩
  | ok r =>
    obtain ⟨n, k⟩ := r
    obtain ⟨hn64, hk1, hkl, hk10, -⟩ := usc_ok9 hu
    simp only [List.length_drop] at hkl
    rw [hu] at HN
    clear h
    by_cases h5 : most < 0 ∨ most < (n : Int)
    · rw [bsc_5 hu h5]
      clear hu
      by_cases h0 : most < 0
      · clear h5
        go_enter Tryd.func47, Tryd.ntmps47
        go_wp2_with fail
        refine HN.out.mono ?_
        rintro e w1 ⟨q, hrd, hch, hq, rfl⟩
        have HR := Lib.hid hrd
        have HC := Lib.hid hch
        clear hrd hch HN hq
        go_wp2_with fail
        go_ret2
        exact ⟨q, HR.out, HC.out, rfl⟩
      · have h1 : most < (n : Int) := by omega
        clear h5
        go_enter Tryd.func47, Tryd.ntmps47
        go_wp2_with fail
        refine HN.out.mono ?_
        rintro e w1 ⟨q, hrd, hch, hq, rfl⟩
        have HR := Lib.hid hrd
        have HC := Lib.hid hch
        clear hrd hch HN hq
        go_wp2_with fail
        go_ret2
        exact ⟨q, HR.out, HC.out, rfl⟩
    · have h0 : 0 ≤ most := by omega
      have h1 : (n : Int) ≤ most := by omega
      by_cases h4 : (l.drop p).length - k < n
      · rw [bsc_4 hu h5 h4]
        have h4' : ((l.length - (p + k) : Nat) : Int) < (n : Int) := by simp at h4; omega
        clear hu h5 h4
        go_enter Tryd.func47, Tryd.ntmps47
        go_wp2_with fail
        refine HN.out.mono ?_
        rintro e w1 ⟨q, hrd, hch, rfl, rfl⟩
        have HL := Lib.hid (left_rd l b (p + k) v w1 hrd)
        have HC := Lib.hid hch
        clear hrd hch HN
        go_wp2_with fail
        refine HL.out.mono ?_
        rintro e w2 ⟨rfl, hrd, hch⟩
        have HR := Lib.hid hrd
        have HC2 := Lib.hid (Ch.trans HC.out hch)
        clear hrd hch HL
        go_wp2_with fail
        go_ret2
        exact ⟨_, HR.out, HC2.out, rfl⟩
      · rw [bsc_0 hu h5 h4]
        have h4' : ¬ ((l.length - (p + k) : Nat) : Int) < (n : Int) := by simp at h4; omega
        have hpk : p + k + n ≤ l.length := by simp at h4; omega
        clear hu h5 h4
        go_enter Tryd.func47, Tryd.ntmps47
        go_wp2_with fail
        refine HN.out.mono ?_
        rintro e w1 ⟨q, hrd, hch, rfl, rfl⟩
        have HL := Lib.hid (left_rd l b (p + k) v w1 hrd)
        have HC := Lib.hid hch
        clear hrd hch HN
        go_wp2_with fail
        refine HL.out.mono ?_
        rintro e w2 ⟨rfl, hrd, hch⟩
        have HX := Lib.hid (next_any l b (p + k) n v w2 hrd hpk (by omega))
        have HC2 := Lib.hid (Ch.trans HC.out hch)
        clear hrd hch HL
        go_wp2_with fail
        refine HX.out.mono ?_
        rintro e w3 ⟨x, rfl, hrd, hch, hrow, hoff⟩
        have HR := Lib.hid hrd
        have HC3 := Lib.hid (Ch.trans HC2.out hch)
        have hlen : ((l.drop (p + k)).take n).length ≤ 1000000000 := by simp; omega
        have HK := Lib.hid (clone8 x _ w3 hrow hlen)
        clear hrd hch hrow hoff HX
        go_wp2_with fail
        refine HK.out.mono ?_
        rintro e w4 ⟨y, rfl, ho, hb⟩
        have HO := Lib.hid ho
        have HB := Lib.hid hb
        clear ho hb HK
        go_wp2_with fail
        go_ret2
        refine ⟨p + k + n, HR.out.ext HB.out, Ch.trans HC3.out (Ch.of_ext HB.out), by omega, _, rfl, ?_⟩
        rw [List.drop_drop]
        exact ownsRow_mono HO.out HC3.out.size
end Go.Proofs.YtnenbmbgmmeiaaaDoor
/- Walks of chapter 06: Bytes of both, the reference's PutBytes. -/
namespace Go.Proofs.YtnenbmbgmmeiaaaDoor
open Go.RowKit En
variable {α : Type}

def BytesPost (w : World) (r : List UInt8 × Nat × Nat) (e : Ending) (w' : World) : Prop :=
  ∃ x, e = .returned (.tuple #[x, .int .i64 (r.2.1 : Int), .int .i64 (r.2.2 : Int)]) ∧ OwnB w.heap.size w' x r.1 ∧ Ext w w'
theorem bytes_err {w w' : World} {er : Nat} (hb : Ext w w') : BytesPost w ([], 0, er) (.returned (.tuple #[.slice none 0 0, .int .i64 0, .int .i64 (er : Int)])) w' :=
  ⟨_, rfl, World.ownsRow_nil _ _ _ _, hb⟩
theorem bat_bad {l : List UInt8} {i most : Int} (h : i < 0 ∨ (l.length : Int) < i) : bat l i most = ([], 0, 2) := by unfold bat; rw [if_pos h]
theorem bat_ok {l s : List UInt8} {i k : Nat} {most : Int} (h : i ≤ l.length) (hu : bsc most (l.drop i) = .ok (s, k)) : bat l i most = (s, i + k, 0) := by
  unfold bat; rw [if_neg (by omega), Int.toNat_natCast, hu]
theorem bat_err {l : List UInt8} {i e : Nat} {most : Int} (h : i ≤ l.length) (hu : bsc most (l.drop i) = .error e) : bat l i most = ([], 0, e) := by
  unfold bat; rw [if_neg (by omega), Int.toNat_natCast, hu]
theorem bsc_pos {most : Int} {l : List UInt8} {e : Nat} (hu : bsc most l = .error e) : ((e : Int) != 0) = true := by
  rw [bne_iff_ne]
  unfold bsc at hu
  cases h : usc 9 l with
  | error e' => rw [h] at hu; simp only [Except.error.injEq] at hu; rcases usc_err _ _ _ h with h | h <;> omega
  | ok r =>
    obtain ⟨n, k⟩ := r
    rw [h] at hu
    simp only at hu
    split at hu
    · simp only [Except.error.injEq] at hu; omega
    · split at hu
      · simp only [Except.error.injEq] at hu; omega
      · cases hu

set_option maxRecDepth 100000 in
set_option maxHeartbeats 800000 in
theorem bytesAt_any (v : Value) (l : List UInt8) (i most : Int) (w : World) (hv : IsBytes w v l) (hl : l.length ≤ 1000000000) (hmb : most ≤ 9223372036854775807) :
    Calls Tryd.prog 23 #[v, .int .i64 i, .int .i64 most] w (BytesPost w (bat l i most)) := by
  by_cases hbad : i < 0 ∨ (l.length : Int) < i
  · rw [bat_bad hbad]
    have HF := Lib.hid (from_bad v l i w hv hbad)
    clear hbad
    go_enter Tryd.func23, Tryd.ntmps23
    go_wp2_with fail
    refine HF.out.mono ?_
    rintro e w' ⟨rfl, rfl⟩
    go_wp2_with fail
    go_ret3
    exact bytes_err (Below.refl _ _)
  · obtain ⟨p, rfl⟩ : ∃ p : Nat, i = p := ⟨i.toNat, by omega⟩
    have hp : p ≤ l.length := by omega
    have HF := Lib.hid (from_rd v l p w hv hp)
    clear hbad
    cases hu : bsc most (l.drop p) with
    | error er =>
      rw [bat_err hp hu]
      have he := bsc_pos hu
      have HU := Lib.hid hu
      clear hu
      go_enter Tryd.func23, Tryd.ntmps23
      go_wp2_with fail
      refine HF.out.mono ?_
      rintro e w1 ⟨b, rfl, hrd, hb1, hb⟩
      have HN := Lib.hid (some_any l b p v most w1 hrd hl hmb)
      rw [HU.out] at HN
      clear hrd HF
      go_wp2_with fail
      refine HN.out.mono ?_
      rintro e w2 ⟨q, hrd, hch, rfl⟩
      have HB := Lib.hid (Below.trans hb1 (hch.below hb hb1.size))
      clear hrd hch hb1 HN
      go_wp2_with fail
      go_ret3
      exact bytes_err HB.out
    | ok r =>
      obtain ⟨s, k⟩ := r
      rw [bat_ok hp hu]
      have HU := Lib.hid hu
      clear hu
      go_enter Tryd.func23, Tryd.ntmps23
      go_wp2_with fail
      refine HF.out.mono ?_
      rintro e w1 ⟨b, rfl, hrd, hb1, hb⟩
      have HN := Lib.hid (some_any l b p v most w1 hrd hl hmb)
      rw [HU.out] at HN
      clear hrd HF
      go_wp2_with fail
      refine HN.out.mono ?_
      rintro e w2 ⟨q, hrd, hch, hq, x, rfl, ho⟩
      have h1 := hrd.c1
      have HB := Lib.hid (Below.trans hb1 (hch.below hb hb1.size))
      have HO := Lib.hid (ownsRow_mono ho hb1.size)
      have HQ := Lib.hid hq
      clear hrd hch hb1 HN hq ho
      go_wp2_with fail
      go_quiet (fail)
      go_wp2_with fail
      go_ret3
      rw [HQ.out]
      exact ⟨x, rfl, ownsRow_ext HO.out (below_drewN (Below.refl _ _) _), below_drewN HB.out _⟩

set_option maxRecDepth 100000 in
set_option maxHeartbeats 800000 in
theorem refPutBytes_any (v : Value) (l : List UInt8) (w : World) (hv : IsBytes w v l) (hlen : l.length ≤ 1000000000) :
    Calls Tryd.prog 26 #[v] w fun e w' => ∃ v', e = .returned v' ∧ OwnB w.heap.size w' v' (putB l) ∧ Ext w w' := by
  have HP := Lib.hid (refPutUvarint_any l.length w (by omega))
  have HV := Lib.hid hv
  obtain ⟨a, cap, rfl⟩ := hv.shape
  have hul := uvar_len 10 l.length
  clear hv
  go_enter Tryd.func26, Tryd.ntmps26
  go_wp2_with fail
  refine HP.out.mono ?_
  rintro e w1 ⟨v', rfl, ho, hb⟩
  have HO := Lib.hid ho
  have HB := Lib.hid hb
  clear ho hb HP
  go_wp2_with fail
  go_loopw [3, 4] (fun g i wr => ∃ k : Nat, i = .int .i64 k ∧ k ≤ l.length ∧ wr.ownsRow w.heap.size 5 1 g ((uvar 10 l.length).length + k) ((uvar 10 l.length ++ l.take k).map u8v) ∧ Ext w wr) (fun _ i _ => l.length - (intOf i).toNat)
  case atStart => exact ⟨0, rfl, Nat.zero_le _, by simpa using HO.out, HB.out⟩
  case round =>
    obtain ⟨k, rfl, hk, hown, hbel⟩ := hrel
    by_cases hlt : k < l.length
    · obtain ⟨b, o, c, hsv, hbb, hlc, hm, hc⟩ := row_some HV.out rfl (by omega)
      simp only [Value.slice.injEq] at hsv
      obtain ⟨rfl, -, -⟩ := hsv
      have hck : wr.cell? ⟨b, o + k, none⟩ = some (u8v l[k]) := by rw [hbel.cell (p := ⟨b, o + k, none⟩) hbb]; exact hc k hlt
      clear hc
      have HT : Hid (uvar 10 l.length ++ l.take (k + 1) = (uvar 10 l.length ++ l.take k) ++ [l[k]]) := by show _ = _; rw [take_snoc l k hlt, List.append_assoc]
      have hr := raw_one wr (u8v l[k]) 5 rfl
      have hown' := hown.alloc (.cells #[u8v l[k]] 5)
      have hsz : w.heap.size ≤ wr.heap.size := hbel.size
      have hsz' : w.heap.size ≤ (wr.alloc (.cells #[u8v l[k]] 5)).heap.size := by simp; omega
      have h63 : (uvar 10 l.length).length + k + 1 ≤ maxLen := by unfold maxLen; omega
      have hby : ((uvar 10 l.length).length + k + 1) * 1 ≤ 140737488355328 := by omega
      clear hown
      go_wp2_with (at_builtin; refine wpList_append_raw rfl _ _ _ rfl tyU8 w.heap.size hown' rfl hr rfl h63 hby hsz' ?_; intro v2 w2 hown2 hg)
      go_roundw
      case rel =>
        refine ⟨k + 1, by go_num, by omega, ?_, (hbel.alloc hsz _).grown hg hsz' (fun k hk => (World.ownsRow.lt hown' k hk).1)⟩
        rw [HT.out, List.map_append]; exact hown2
      case measure => simp [intOf]; omega
    · obtain rfl : k = l.length := by omega
      rw [List.take_length] at hown
      go_wp2_with fail
      go_ret
      refine ⟨_, rfl, ?_, hbel⟩
      unfold OwnB putB
      rw [List.length_append]; exact hown

set_option maxRecDepth 100000 in
set_option maxHeartbeats 1600000 in
theorem refBytes_any (v : Value) (l : List UInt8) (i most : Int) (w : World) (hv : IsBytes w v l) (hl : l.length ≤ 1000000000) (hmb : most ≤ 9223372036854775807) :
    Calls Tryd.prog 24 #[v, .int .i64 i, .int .i64 most] w (BytesPost w (bat l i most)) := by
  have HC := Lib.hid (refUvarint_any v l i w hv)
  have HV := Lib.hid hv
  obtain ⟨a, cap, rfl⟩ := hv.shape
  clear hv
  by_cases hbad : i < 0 ∨ (l.length : Int) < i
  · rw [bat_bad hbad]
    rw [uat_bad hbad] at HC
    clear hbad
    go_enter Tryd.func24, Tryd.ntmps24
    go_wp2_with fail
    refine HC.out.mono ?_
    rintro e w1 ⟨rfl, rfl⟩
    go_wp2_with fail
    go_ret3
    exact bytes_err (Below.refl _ _)
  obtain ⟨p, rfl⟩ : ∃ p : Nat, i = p := ⟨i.toNat, by omega⟩
  have hp : p ≤ l.length := by omega
  clear hbad
  cases hu : usc 9 (l.drop p) with
  | error er =>
    rw [bat_err hp (bsc_err hu)]
    rw [uat_err hp hu] at HC
    have he := err_pos hu
    clear hu
    go_enter Tryd.func24, Tryd.ntmps24
    go_wp2_with fail
    refine HC.out.mono ?_
    rintro e w1 ⟨rfl, rfl⟩
    go_wp2_with fail
    go_ret3
    exact bytes_err (Below.refl _ _)
  | ok r =>
    obtain ⟨n, k⟩ := r
    obtain ⟨hn64, hk1, hkl, hk10, -⟩ := usc_ok9 hu
    simp only [List.length_drop] at hkl
    rw [uat_ok hp hu] at HC
    by_cases h5 : most < 0 ∨ most < (n : Int)
    · rw [bat_err hp (bsc_5 hu h5)]
      clear hu
      by_cases h0 : most < 0
      · clear h5
        go_enter Tryd.func24, Tryd.ntmps24
        go_wp2_with fail
        refine HC.out.mono ?_
        rintro e w1 ⟨rfl, rfl⟩
        go_wp2_with fail
        go_ret3
        exact bytes_err (Below.refl _ _)
      · have h1 : most < (n : Int) := by omega
        clear h5
        go_enter Tryd.func24, Tryd.ntmps24
        go_wp2_with fail
        refine HC.out.mono ?_
        rintro e w1 ⟨rfl, rfl⟩
        go_wp2_with fail
        go_ret3
        exact bytes_err (Below.refl _ _)
    · have h0 : 0 ≤ most := by omega
      have h1 : (n : Int) ≤ most := by omega
      by_cases h4 : (l.drop p).length - k < n
      · rw [bat_err hp (bsc_4 hu h5 h4)]
        have h4' : (l.length : Int) - ((p : Int) + (k : Int)) < (n : Int) := by simp at h4; omega
        clear hu h5 h4
        go_enter Tryd.func24, Tryd.ntmps24
        go_wp2_with fail
        refine HC.out.mono ?_
        rintro e w1 ⟨rfl, rfl⟩
        go_wp2_with fail
        go_ret3
        exact bytes_err (Below.refl _ _)
      · rw [bat_ok hp (bsc_0 hu h5 h4)]
        have hpk : p + k + n ≤ l.length := by simp at h4; omega
        have h4' : ¬ (l.length : Int) - ((p : Int) + (k : Int)) < (n : Int) := by omega
        clear hu h5 h4
        go_enter Tryd.func24, Tryd.ntmps24
        go_wp2_with fail
        refine HC.out.mono ?_
        rintro e w1 ⟨rfl, rfl⟩
        go_wp2_with fail
        go_loopw [12, 13] (fun g i wr => ∃ j : Nat, i = .int .i64 j ∧ j ≤ n ∧ wr.ownsRow w.heap.size 5 1 g j (((l.drop (p + k)).take j).map u8v) ∧ Ext w wr) (fun _ i _ => n - (intOf i).toNat)
        case atStart => exact ⟨0, rfl, Nat.zero_le _, World.ownsRow_lit w #[] 0 (Nat.le_refl _) (Nat.zero_le _) rfl, below_alloc _ _⟩
        case round =>
          obtain ⟨j, rfl, hj, hown, hbel⟩ := hrel
          by_cases hlt : j < n
          · obtain ⟨b, o, c, hsv, hbb, hlc, hm, hc⟩ := row_some HV.out rfl (by omega)
            simp only [Value.slice.injEq] at hsv
            obtain ⟨rfl, -, -⟩ := hsv
            have hlj : p + k + j < l.length := by omega
            obtain ⟨d, hd⟩ : ∃ d, l[p + k + j] = d := ⟨_, rfl⟩
            have hck : wr.cell? ⟨b, o + (p + k + j), none⟩ = some (u8v d) := by rw [hbel.cell (p := ⟨b, o + (p + k + j), none⟩) hbb, hc _ hlj, hd]
            clear hc
            have HT : Hid ((l.drop (p + k)).take (j + 1) = (l.drop (p + k)).take j ++ [d]) := by
              show _ = _
              rw [take_snoc (l.drop (p + k)) j (by simp; omega)]; simp [hd]
            have hr := raw_one wr (u8v d) 5 rfl
            have hown' := hown.alloc (.cells #[u8v d] 5)
            have hsz : w.heap.size ≤ wr.heap.size := hbel.size
            have hsz' : w.heap.size ≤ (wr.alloc (.cells #[u8v d] 5)).heap.size := by simp; omega
            have h63 : j + 1 ≤ maxLen := by unfold maxLen; omega
            have hby : (j + 1) * 1 ≤ 140737488355328 := by omega
            clear hown hd
            go_wp2_with (at_builtin; refine wpList_append_raw rfl _ _ _ rfl tyU8 w.heap.size hown' rfl hr rfl h63 hby hsz' ?_; intro v2 w2 hown2 hg)
            go_roundw
            case rel =>
              refine ⟨j + 1, by go_num, by omega, ?_, (hbel.alloc hsz _).grown hg hsz' (fun k hk => (World.ownsRow.lt hown' k hk).1)⟩
              rw [HT.out, List.map_append]; exact hown2
            case measure => simp [intOf]; omega
          · obtain rfl : j = n := by omega
            have he : (p : Int) + (k : Int) + (j : Int) = ((p + (k + j) : Nat) : Int) := by omega
            have hlen : ((l.drop (p + k)).take j).length = j := by simp; omega
            have HE := Lib.hid he
            have HO := Lib.hid hown
            have HL := Lib.hid hlen
            clear he hlen hown
            go_wp2_with fail
            go_ret3
            rw [HE.out]
            refine ⟨_, rfl, ?_, hbel⟩
            show World.ownsRow _ _ _ _ _ _ _
            rw [List.drop_drop]
            have hx := HL.out
            rw [hx]; exact HO.out
end Go.Proofs.YtnenbmbgmmeiaaaDoor
/- Walks of chapter 06: length, signed, count, PutInts of both. -/
namespace Go.Proofs.YtnenbmbgmmeiaaaDoor
open Go.RowKit En
variable {α : Type}

theorem wrap_w64 (z : Int) : wrap64 z = w64 z := by unfold wrap64 w64; rfl
theorem length_any (n : Nat) (w : World) (hn : (n : Int) ≤ 9223372036854775807) :
    Calls Tryd.prog 50 #[.int .i64 n] w fun e w' => ∃ v', e = .returned v' ∧ w'.ownsRow w.heap.size 5 1 v' (uvar 10 n).length ((uvar 10 n).map u8v) ∧ Ext w w' := by
  have HC := Lib.hid (putUvarint_any n w (by omega))
  go_enter Tryd.func50, Tryd.ntmps50
  go_wp2_with fail
  refine HC.out.mono ?_
  rintro e w' ⟨v', rfl, ho, hb⟩
  go_wp2_with fail
  go_ret
  exact ⟨_, rfl, ho, hb⟩

theorem deltas_snoc (l : List Int) (x : Int) : ∀ last : Int, deltas last (l ++ [x]) = deltas last l ++ uvar 10 (zig (w64 (x - (l.getLast?.getD last)))) := by
  induction l with
  | nil => intro last; simp [deltas]
  | cons a l ih =>
    intro last
    simp only [List.cons_append, deltas, ih a, List.append_assoc]
    congr 2
    cases l with
    | nil => simp
    | cons b l => simp [List.getLast?_cons]
theorem deltas_len (l : List Int) : ∀ last : Int, (deltas last l).length ≤ 10 * l.length := by
  induction l with
  | nil => intro last; simp [deltas]
  | cons a l ih =>
    intro last
    have := ih a
    have := uvar_len 10 (zig (w64 (a - last)))
    simp [deltas]; omega
/-- The element before place k. -/
def prev (l : List Int) (k : Nat) : Int := (l.take k).getLast?.getD 0
theorem prev_succ (l : List Int) (k : Nat) (h : k < l.length) : prev l (k + 1) = l[k] := by
  unfold prev; rw [take_snoc l k h, List.getLast?_concat]; rfl
theorem deltas_take (l : List Int) (k : Nat) (h : k < l.length) : deltas 0 (l.take (k + 1)) = deltas 0 (l.take k) ++ uvar 10 (zig (w64 (l[k] - prev l k))) := by
  rw [take_snoc l k h, deltas_snoc]; rfl
theorem prev_bd {l : List Int} (h : ∀ x ∈ l, -9223372036854775808 ≤ x ∧ x ≤ 9223372036854775807) (k : Nat) : -9223372036854775808 ≤ prev l k ∧ prev l k ≤ 9223372036854775807 := by
  unfold prev
  cases hl : (l.take k).getLast? with
  | none => simp
  | some y =>
    have hm := List.mem_of_getLast? hl
    exact h y (List.mem_of_mem_take hm)

set_option maxRecDepth 100000 in
set_option maxHeartbeats 800000 in
theorem putInts_any (v : Value) (l : List Int) (w : World) (hv : IsInts w v l) (hlen : l.length ≤ 100000000) :
    Calls Tryd.prog 29 #[v] w fun e w' => ∃ v', e = .returned v' ∧ OwnB w.heap.size w' v' (putI l) ∧ Ext w w' := by
  have HP := Lib.hid (length_any l.length w (by omega))
  have HV := Lib.hid hv.1
  have HB := Lib.hid hv.2
  obtain ⟨a, cap, rfl⟩ := hv.1.shape
  clear hv
  go_enter Tryd.func29, Tryd.ntmps29
  go_wp2_with fail
  refine HP.out.mono ?_
  rintro e w1 ⟨v', rfl, ho, hb⟩
  have HO := Lib.hid (And.intro ho hb)
  clear ho hb HP
  go_wp2_with fail
  go_loopw [3, 4, 12] (fun g p i wr => ∃ k : Nat, i = .int .i64 k ∧ k ≤ l.length ∧ p = .int .i64 (prev l k) ∧ wr.ownsRow w.heap.size 5 1 g ((uvar 10 l.length).length + (deltas 0 (l.take k)).length) ((uvar 10 l.length ++ deltas 0 (l.take k)).map u8v) ∧ Ext w wr) (fun _ _ i _ => l.length - (intOf i).toNat)
  case atStart => exact ⟨0, rfl, Nat.zero_le _, rfl, by simpa [deltas] using HO.out.1, HO.out.2⟩
  case round =>
    obtain ⟨k, rfl, hk, rfl, hown, hbel⟩ := hrel
    have hul := uvar_len 10 l.length
    have hdl := deltas_len (l.take k) 0
    have htl : (l.take k).length = k := by simp; omega
    by_cases hlt : k < l.length
    · obtain ⟨b, o, c, hsv, hbb, hlc, hm, hc⟩ := row_some HV.out rfl (by omega)
      simp only [Value.slice.injEq] at hsv
      obtain ⟨rfl, -, -⟩ := hsv
      have hT := deltas_take l k hlt
      have hx := HB.out _ (List.getElem_mem hlt)
      have hp := prev_bd HB.out k
      have hps := prev_succ l k hlt
      obtain ⟨x, hxx⟩ : ∃ x, l[k] = x := ⟨_, rfl⟩
      have hck : wr.cell? ⟨b, o + k, none⟩ = some (i64v x) := by rw [hbel.cell (p := ⟨b, o + k, none⟩) hbb, hc k hlt, hxx]
      rw [hxx] at hT hx hps
      obtain ⟨y, hy⟩ : ∃ y, prev l k = y := ⟨_, rfl⟩
      rw [hy] at hT hp
      rw [hy]
      have hwb := w64_bd (x - y)
      have HC := Lib.hid (putVarint_any (w64 (x - y)) wr hwb.1 hwb.2)
      have hul2 := uvar_len 10 (zig (w64 (x - y)))
      have HT := Lib.hid hT
      have HPS := Lib.hid hps
      have HW := Lib.hid hown
      clear hc hxx hy hT hps hown hwb
      go_wp2_with fail
      rw [wrap_w64]
      refine HC.out.mono ?_
      rintro e w2 ⟨q, rfl, hq, hb2⟩
      have hown := ownsRow_ext HW.out hb2
      have hraw := (ownsRow_row hq).raw (fun _ => rfl)
      have h63 : (uvar 10 l.length).length + (deltas 0 (l.take k)).length + (uvar 10 (zig (w64 (x - y)))).length ≤ maxLen := by unfold maxLen; omega
      have hby : ((uvar 10 l.length).length + (deltas 0 (l.take k)).length + (uvar 10 (zig (w64 (x - y)))).length) * 1 ≤ 140737488355328 := by omega
      have hsz : w.heap.size ≤ w2.heap.size := (Ext.trans' hbel hb2).size
      have hbel2 := Ext.trans' hbel hb2
      clear HC hq hb2 hbel HW
      go_wp2_with (at_builtin; refine wpList_append_raw rfl _ _ _ rfl tyU8 w.heap.size hown rfl hraw rfl h63 hby hsz ?_; intro v2 w3 hown2 hg)
      go_roundw
      case rel =>
        refine ⟨k + 1, by go_num, by omega, by rw [HPS.out], ?_, hbel2.grown hg hsz (fun k hk => (World.ownsRow.lt hown k hk).1)⟩
        rw [HT.out, List.length_append, ← Nat.add_assoc, ← List.append_assoc, List.map_append (l₁ := uvar 10 l.length ++ _)]; exact hown2
      case measure => simp [intOf]; omega
    · obtain rfl : k = l.length := by omega
      rw [List.take_length] at hown
      go_wp2_with fail
      go_ret
      refine ⟨_, rfl, ?_, hbel⟩
      unfold OwnB putI
      rw [List.length_append]; exact hown
end Go.Proofs.YtnenbmbgmmeiaaaDoor
/- Walks of chapter 06: the reference's PutInts; signed, count; Ints of binenc. -/
namespace Go.Proofs.YtnenbmbgmmeiaaaDoor
open Go.RowKit En
variable {α : Type}

theorem tyI : SliceTy Tryd.prog 41 3 (.int .i64 0) 1 8 := ⟨Tryd.underlying41, info_parts (by kernel_rfl), rfl, by decide⟩
theorem wrap_u (x y : Int) : wrap64 (IntKind.u64.wrap (IntKind.u64.wrap x - IntKind.u64.wrap y)) = w64 (x - y) := by
  rw [IntKind.wrap_u64, IntKind.wrap_u64, IntKind.wrap_u64]; unfold wrap64 w64; omega

set_option maxRecDepth 100000 in
set_option maxHeartbeats 800000 in
theorem refPutInts_any (v : Value) (l : List Int) (w : World) (hv : IsInts w v l) (hlen : l.length ≤ 100000000) :
    Calls Tryd.prog 30 #[v] w fun e w' => ∃ v', e = .returned v' ∧ OwnB w.heap.size w' v' (putI l) ∧ Ext w w' := by
  have HP := Lib.hid (refPutUvarint_any l.length w (by omega))
  have HV := Lib.hid hv.1
  have HB := Lib.hid hv.2
  obtain ⟨a, cap, rfl⟩ := hv.1.shape
  clear hv
  go_enter Tryd.func30, Tryd.ntmps30
  go_wp2_with fail
  refine HP.out.mono ?_
  rintro e w1 ⟨v', rfl, ho, hb⟩
  have HO := Lib.hid (And.intro ho hb)
  clear ho hb HP
  go_wp2_with fail
  go_loopw [3, 4, 5] (fun g p i wr => ∃ k : Nat, i = .int .i64 k ∧ k ≤ l.length ∧ p = .int .i64 (prev l k) ∧ wr.ownsRow w.heap.size 5 1 g ((uvar 10 l.length).length + (deltas 0 (l.take k)).length) ((uvar 10 l.length ++ deltas 0 (l.take k)).map u8v) ∧ Ext w wr) (fun _ _ i _ => l.length - (intOf i).toNat)
  case atStart => exact ⟨0, rfl, Nat.zero_le _, rfl, by simpa [deltas] using HO.out.1, HO.out.2⟩
  case round =>
    obtain ⟨k, rfl, hk, rfl, hown, hbel⟩ := hrel
    have hul := uvar_len 10 l.length
    have hdl := deltas_len (l.take k) 0
    have htl : (l.take k).length = k := by simp; omega
    by_cases hlt : k < l.length
    · obtain ⟨b, o, c, hsv, hbb, hlc, hm, hc⟩ := row_some HV.out rfl (by omega)
      simp only [Value.slice.injEq] at hsv
      obtain ⟨rfl, -, -⟩ := hsv
      have hT := deltas_take l k hlt
      have hx := HB.out _ (List.getElem_mem hlt)
      have hp := prev_bd HB.out k
      have hps := prev_succ l k hlt
      obtain ⟨x, hxx⟩ : ∃ x, l[k] = x := ⟨_, rfl⟩
      have hck : wr.cell? ⟨b, o + k, none⟩ = some (i64v x) := by rw [hbel.cell (p := ⟨b, o + k, none⟩) hbb, hc k hlt, hxx]
      rw [hxx] at hT hx hps
      obtain ⟨y, hy⟩ : ∃ y, prev l k = y := ⟨_, rfl⟩
      rw [hy] at hT hp
      rw [hy]
      have hwb := w64_bd (x - y)
      have HC := Lib.hid (refPutVarint_any (w64 (x - y)) wr hwb.1 hwb.2)
      have hul2 := uvar_len 10 (zig (w64 (x - y)))
      have HT := Lib.hid hT
      have HPS := Lib.hid hps
      have HW := Lib.hid hown
      have HX := Lib.hid hx
      have HPB := Lib.hid hp
      clear hc hxx hy hT hps hown hwb hx hp
      go_wp2_with fail
      rw [wrap_u]
      refine HC.out.mono ?_
      rintro e w2 ⟨q, rfl, hq, hb2⟩
      have hown := ownsRow_ext HW.out hb2
      have hraw := (ownsRow_row hq).raw (fun _ => rfl)
      have h63 : (uvar 10 l.length).length + (deltas 0 (l.take k)).length + (uvar 10 (zig (w64 (x - y)))).length ≤ maxLen := by unfold maxLen; omega
      have hby : ((uvar 10 l.length).length + (deltas 0 (l.take k)).length + (uvar 10 (zig (w64 (x - y)))).length) * 1 ≤ 140737488355328 := by omega
      have hsz : w.heap.size ≤ w2.heap.size := (Ext.trans' hbel hb2).size
      have hbel2 := Ext.trans' hbel hb2
      have hcr : wr.cell? ⟨b, o + k, none⟩ = some (i64v x) := by assumption
      have hltw : b < wr.heap.size := by have := hbel.size; omega
      have hck2 : w2.cell? ⟨b, o + k, none⟩ = some (i64v x) := by rw [hb2.cell (p := ⟨b, o + k, none⟩) hltw]; exact hcr
      clear HC hq hb2 hbel HW
      go_wp2_with (at_builtin; refine wpList_append_raw rfl _ _ _ rfl tyU8 w.heap.size hown rfl hraw rfl h63 hby hsz ?_; intro v2 w3 hown2 hg; have hck3 : w3.cell? ⟨b, o + k, none⟩ = some (i64v x) := hg.cell hck2 (fun e => by have := (World.ownsRow.lt hown b e.symm).1; omega))
      go_roundw
      case rel =>
        refine ⟨k + 1, by go_num, by omega, by rw [HPS.out], ?_, hbel2.grown hg hsz (fun k hk => (World.ownsRow.lt hown k hk).1)⟩
        rw [HT.out, List.length_append, ← Nat.add_assoc, ← List.append_assoc, List.map_append (l₁ := uvar 10 l.length ++ _)]; exact hown2
      case measure => simp [intOf]; omega
    · obtain rfl : k = l.length := by omega
      rw [List.take_length] at hown
      go_wp2_with fail
      go_ret
      refine ⟨_, rfl, ?_, hbel⟩
      unfold OwnB putI
      rw [List.length_append]; exact hown

def SignedPost (w : World) (b : Nat) (v : Value) (l : List UInt8) (p : Nat) (r : Except Nat (Nat × Nat)) (e : Ending) (w' : World) : Prop :=
  ∃ q, Rd w' b v l q ∧ Ch b w w' ∧ (match r with
    | .ok (n, k) => q = p + k ∧ e = .returned (.tuple #[.int .i64 (unzig n), .int .i64 0])
    | .error er => e = .returned (.tuple #[.int .i64 0, .int .i64 (er : Int)]))
theorem signed_any (l : List UInt8) (b p : Nat) (v : Value) (w : World) (h : Rd w b v l p) :
    Calls Tryd.prog 49 #[.pointer (some ⟨b, 0, none⟩)] w (SignedPost w b v l p (usc 9 (l.drop p))) := by
  have HN := Lib.hid (number_any l b p v w h)
  clear h
  cases hu : usc 9 (l.drop p) with
  | error er =>
    rw [hu] at HN
    have hz := unzig_bits 0 (by omega)
    rw [show unzig 0 = 0 by decide, show (((0 : Nat) : Int) / 2) = 0 by decide, Int.natCast_zero] at hz
    have HZ := Lib.hid hz
    clear hu hz
    go_enter Tryd.func49, Tryd.ntmps49
    go_wp2_with fail
    refine HN.out.mono ?_
    rintro e w1 ⟨q, hrd, hch, rfl⟩
    have HR := Lib.hid hrd
    have HC := Lib.hid hch
    clear hrd hch HN
    go_wp2_with fail
    go_ret2
    refine ⟨q, HR.out, HC.out, ?_⟩
    exact congrArg (fun z => Ending.returned (Value.tuple #[Value.int .i64 z, Value.int .i64 (er : Int)])) HZ.out
  | ok r =>
    obtain ⟨n, k⟩ := r
    obtain ⟨hn64, -⟩ := usc_ok9 hu
    rw [hu] at HN
    have HZ := Lib.hid (unzig_bits n hn64)
    clear hu
    go_enter Tryd.func49, Tryd.ntmps49
    go_wp2_with fail
    refine HN.out.mono ?_
    rintro e w1 ⟨q, hrd, hch, hq, rfl⟩
    have HR := Lib.hid (And.intro hrd hq)
    have HC := Lib.hid hch
    clear hrd hch HN hq
    go_wp2_with fail
    go_ret2
    exact ⟨q, HR.out.1, HC.out, HR.out.2, by rw [← HZ.out]; rfl⟩

def CountPost (w : World) (b : Nat) (v : Value) (l : List UInt8) (p : Nat) (most : Int) (r : Except Nat (Nat × Nat)) (e : Ending) (w' : World) : Prop :=
  ∃ q, Rd w' b v l q ∧ Ch b w w' ∧ (match r with
    | .ok (n, k) => if most < 0 ∨ most < (n : Int) then e = .returned (.tuple #[.int .i64 0, .int .i64 5]) else q = p + k ∧ e = .returned (.tuple #[.int .i64 (n : Int), .int .i64 0])
    | .error er => e = .returned (.tuple #[.int .i64 0, .int .i64 (er : Int)]))
set_option maxRecDepth 100000 in
theorem count_any (l : List UInt8) (b p : Nat) (v : Value) (most : Int) (w : World) (h : Rd w b v l p) (hmb : most ≤ 9223372036854775807) :
    Calls Tryd.prog 48 #[.pointer (some ⟨b, 0, none⟩), .int .i64 most] w (CountPost w b v l p most (usc 9 (l.drop p))) := by
  have HN := Lib.hid (number_any l b p v w h)
  clear h
  cases hu : usc 9 (l.drop p) with
  | error er =>
    rw [hu] at HN
    have he := err_pos hu
    clear hu
    go_enter Tryd.func48, Tryd.ntmps48
    go_wp2_with fail
    refine HN.out.mono ?_
    rintro e w1 ⟨q, hrd, hch, rfl⟩
    have HR := Lib.hid hrd
    have HC := Lib.hid hch
    clear hrd hch HN
    go_wp2_with fail
    go_ret2
    exact ⟨q, HR.out, HC.out, rfl⟩
  | ok r =>
    obtain ⟨n, k⟩ := r
    obtain ⟨hn64, -⟩ := usc_ok9 hu
    rw [hu] at HN
    clear hu
    by_cases h0 : most < 0
    · go_enter Tryd.func48, Tryd.ntmps48
      go_wp2_with fail
      refine HN.out.mono ?_
      rintro e w1 ⟨q, hrd, hch, hq, rfl⟩
      have HR := Lib.hid hrd
      have HC := Lib.hid hch
      have H0 : Hid (most < 0 ∨ most < (n : Int)) := .inl h0
      clear hrd hch HN hq
      go_wp2_with fail
      go_ret2
      refine ⟨q, HR.out, HC.out, ?_⟩
      simp only [if_pos H0.out]; rfl
    · by_cases h1 : most < (n : Int)
      · go_enter Tryd.func48, Tryd.ntmps48
        go_wp2_with fail
        refine HN.out.mono ?_
        rintro e w1 ⟨q, hrd, hch, hq, rfl⟩
        have HR := Lib.hid hrd
        have HC := Lib.hid hch
        have H0 : Hid (most < 0 ∨ most < (n : Int)) := .inr h1
        clear hrd hch HN hq
        go_wp2_with fail
        go_ret2
        refine ⟨q, HR.out, HC.out, ?_⟩
        simp only [if_pos H0.out]; rfl
      · go_enter Tryd.func48, Tryd.ntmps48
        go_wp2_with fail
        refine HN.out.mono ?_
        rintro e w1 ⟨q, hrd, hch, hq, rfl⟩
        have HR := Lib.hid (And.intro hrd hq)
        have HC := Lib.hid hch
        have H0 : Hid (¬ (most < 0 ∨ most < (n : Int))) := by show ¬ _; omega
        clear hrd hch HN hq
        go_wp2_with fail
        go_ret2
        refine ⟨q, HR.out.1, HC.out, ?_⟩
        simp only [if_neg H0.out]
        exact ⟨HR.out.2, rfl⟩
end Go.Proofs.YtnenbmbgmmeiaaaDoor
/- Walks of chapter 06: Ints of both, SameInts. -/
namespace Go.Proofs.YtnenbmbgmmeiaaaDoor
open Go.RowKit En
variable {α : Type}

def OwnI (base : Nat) (w : World) (v : Value) (l : List Int) : Prop := w.ownsRow base 3 1 v l.length (l.map i64v)
def IntsPost (w : World) (r : List Int × Nat × Nat) (e : Ending) (w' : World) : Prop :=
  ∃ x, e = .returned (.tuple #[x, .int .i64 (r.2.1 : Int), .int .i64 (r.2.2 : Int)]) ∧ OwnI w.heap.size w' x r.1 ∧ Ext w w'
theorem ints_err {w w' : World} {er : Nat} (hb : Ext w w') : IntsPost w ([], 0, er) (.returned (.tuple #[.slice none 0 0, .int .i64 0, .int .i64 (er : Int)])) w' :=
  ⟨_, rfl, World.ownsRow_nil _ _ _ _, hb⟩
theorem iat_bad {l : List UInt8} {i most : Int} (h : i < 0 ∨ (l.length : Int) < i) : iat l i most = ([], 0, 2) := by unfold iat; rw [if_pos h]
theorem iat_err {l : List UInt8} {i e : Nat} {most : Int} (h : i ≤ l.length) (hu : usc 9 (l.drop i) = .error e) : iat l i most = ([], 0, e) := by
  unfold iat; rw [if_neg (by omega), Int.toNat_natCast, hu]
theorem iat_5 {l : List UInt8} {i n k : Nat} {most : Int} (h : i ≤ l.length) (hu : usc 9 (l.drop i) = .ok (n, k)) (h5 : most < 0 ∨ most < (n : Int)) : iat l i most = ([], 0, 5) := by
  unfold iat; rw [if_neg (by omega), Int.toNat_natCast, hu]; simp only; rw [if_pos h5]
theorem iat_go {l : List UInt8} {i n k : Nat} {most : Int} (h : i ≤ l.length) (hu : usc 9 (l.drop i) = .ok (n, k)) (h5 : ¬ (most < 0 ∨ most < (n : Int))) :
    iat l i most = match isc l n 0 (i + k) with | .error e => ([], 0, e) | .ok (vs, q) => (vs, q, 0) := by
  unfold iat; rw [if_neg (by omega), Int.toNat_natCast, hu]; simp only; rw [if_neg h5]; rfl
/-- What is left to read after k ints. -/
def Left (l : List UInt8) (n p0 : Nat) (done : List Int) (m : Nat) (last : Int) (p : Nat) : Prop := isc l n 0 p0 = pre done (isc l m last p) ∧ done.length ≤ p ∧ -9223372036854775808 ≤ last ∧ last ≤ 9223372036854775807
theorem left_next {l : List UInt8} {n p0 m p u k : Nat} {done : List Int} {last : Int} (h : Left l n p0 done (m + 1) last p) (hu : usc 9 (l.drop p) = .ok (u, k)) :
    Left l n p0 (done ++ [w64 (last + unzig u)]) m (w64 (last + unzig u)) (p + k) := by
  obtain ⟨h1, h2, h3⟩ := h
  obtain ⟨_, hk, _⟩ := usc_ok9 hu
  refine ⟨by rw [h1, isc_succ hu, pre_pre], by simp; omega, (w64_bd _).1, (w64_bd _).2⟩
theorem left_err {l : List UInt8} {n p0 m p e : Nat} {done : List Int} {last : Int} (h : Left l n p0 done (m + 1) last p) (hu : usc 9 (l.drop p) = .error e) : isc l n 0 p0 = .error e := by
  rw [h.1, isc_fail hu]; rfl
theorem left_end {l : List UInt8} {n p0 p : Nat} {done : List Int} {last : Int} (h : Left l n p0 done 0 last p) : isc l n 0 p0 = .ok (done, p) := by
  rw [h.1]; simp [isc, pre]

theorem Rd.far {w w' : World} {b B : Nat} {v : Value} {l : List UInt8} {p : Nat} (h : Rd w b v l p) (hb : Below B w w') (hB : b < B) (hv : IsBytes w' v l) : Rd w' b v l p :=
  ⟨by rw [hb.cell (p := ⟨b, 0, none⟩) hB]; exact h.c0, by rw [hb.cell (p := ⟨b, 1, none⟩) hB]; exact h.c1, by rw [hb.frozen (p := ⟨b, 1, none⟩) hB]; exact h.fz, hv, h.off, h.hp, by have := hb.size; have := h.lt; omega⟩
set_option maxRecDepth 100000 in
set_option maxHeartbeats 1600000 in
theorem intsAt_any (v : Value) (l : List UInt8) (i most : Int) (w : World) (hv : IsBytes w v l) (hl : l.length ≤ 1000000000) (hmb : most ≤ 9223372036854775807) :
    Calls Tryd.prog 27 #[v, .int .i64 i, .int .i64 most] w (IntsPost w (iat l i most)) := by
  by_cases hbad : i < 0 ∨ (l.length : Int) < i
  · rw [iat_bad hbad]
    have HF := Lib.hid (from_bad v l i w hv hbad)
    clear hbad
    go_enter Tryd.func27, Tryd.ntmps27
    go_wp2_with fail
    refine HF.out.mono ?_
    rintro e w' ⟨rfl, rfl⟩
    go_wp2_with fail
    go_ret3
    exact ints_err (Below.refl _ _)
  obtain ⟨p, rfl⟩ : ∃ p : Nat, i = p := ⟨i.toNat, by omega⟩
  have hp : p ≤ l.length := by omega
  have HF := Lib.hid (from_rd v l p w hv hp)
  clear hbad
  cases hu : usc 9 (l.drop p) with
  | error er =>
    rw [iat_err hp hu]
    have he := err_pos hu
    have HU := Lib.hid hu
    clear hu
    go_enter Tryd.func27, Tryd.ntmps27
    go_wp2_with fail
    refine HF.out.mono ?_
    rintro e w1 ⟨b, rfl, hrd, hb1, hb⟩
    have HN := Lib.hid (count_any l b p v most w1 hrd hmb)
    rw [HU.out] at HN
    clear hrd HF
    go_wp2_with fail
    refine HN.out.mono ?_
    rintro e w2 ⟨q, hrd, hch, rfl⟩
    have HB := Lib.hid (Below.trans hb1 (hch.below hb hb1.size))
    clear hrd hch hb1 HN
    go_wp2_with fail
    go_ret3
    exact ints_err HB.out
  | ok r =>
    obtain ⟨n, k⟩ := r
    obtain ⟨hn64, hk1, hkl, hk10, -⟩ := usc_ok9 hu
    simp only [List.length_drop] at hkl
    have HU := Lib.hid hu
    by_cases h5 : most < 0 ∨ most < (n : Int)
    · rw [iat_5 hp hu h5]
      have H5 := Lib.hid h5
      clear hu h5
      go_enter Tryd.func27, Tryd.ntmps27
      go_wp2_with fail
      refine HF.out.mono ?_
      rintro e w1 ⟨b, rfl, hrd, hb1, hb⟩
      have HN := Lib.hid (count_any l b p v most w1 hrd hmb)
      rw [HU.out] at HN
      clear hrd HF
      go_wp2_with fail
      refine HN.out.mono ?_
      rintro e w2 ⟨q, hrd, hch, hq⟩
      simp only [if_pos H5.out] at hq
      subst hq
      have HB := Lib.hid (Below.trans hb1 (hch.below hb hb1.size))
      clear hrd hch hb1 HN
      go_wp2_with fail
      go_ret3
      exact ints_err HB.out
    · have hR := iat_go hp hu h5
      have H5 := Lib.hid h5
      have h0 : 0 ≤ most := by omega
      have h1 : (n : Int) ≤ most := by omega
      have HR := Lib.hid hR
      clear hu h5 hR
      go_enter Tryd.func27, Tryd.ntmps27
      go_wp2_with fail
      refine HF.out.mono ?_
      rintro e w1 ⟨b, rfl, hrd, hb1, hb⟩
      have HN := Lib.hid (count_any l b p v most w1 hrd hmb)
      rw [HU.out] at HN
      have HB1 := Lib.hid (And.intro hb1 hrd.lt)
      clear hrd HF hb1
      go_wp2_with fail
      refine HN.out.mono ?_
      rintro e w2 ⟨q, hrd, hch, hq⟩
      simp only [if_neg H5.out] at hq
      obtain ⟨rfl, rfl⟩ := hq
      have HB2 := Lib.hid (And.intro hrd hch)
      clear hrd hch HN
      go_wp2_with fail
      go_loopw [12, 13, 35] (fun g la i wr => ∃ (j : Nat) (done : List Int) (last : Int) (pp : Nat), i = .int .i64 j ∧ j ≤ n ∧ la = .int .i64 last ∧ done.length = j ∧ Rd wr b v l pp ∧ Hid (Left l n (p + k) done (n - j) last pp) ∧ wr.ownsRow w1.heap.size 3 1 g j (done.map i64v) ∧ Below w.heap.size w wr ∧ w1.heap.size ≤ wr.heap.size) (fun _ _ i _ => n - (intOf i).toNat)
      case atStart => exact ⟨0, [], 0, p + k, rfl, Nat.zero_le _, rfl, rfl, HB2.out.1, ⟨(pre_nil _).symm, by simp, by omega, by omega⟩, World.ownsRow_nil _ _ _ _, Below.trans HB1.out.1 (HB2.out.2.below hb HB1.out.1.size), HB2.out.2.size⟩
      case round =>
        obtain ⟨j, done, last, pp, rfl, hj, rfl, hdone, hrd, HL, hown, hbel, hsz⟩ := hrel
        have hppl := hrd.hp
        have hdp := HL.out.2.1
        have HD := Lib.hid hdone
        have HO := Lib.hid hown
        have HBL := Lib.hid hbel
        clear hown hbel
        by_cases hlt : j < n
        · obtain ⟨m, hm⟩ : ∃ m, n - j = m + 1 := ⟨n - j - 1, by omega⟩
          rw [hm] at HL
          have HS := Lib.hid (signed_any l b pp v wr hrd)
          cases hus : usc 9 (l.drop pp) with
          | error er =>
            rw [hus] at HS
            have he := err_pos hus
            have hres := HR.out
            rw [left_err HL.out hus] at hres
            have HRes := Lib.hid hres
            clear hus hres hrd hm hdone hdp
            go_wp2_with fail
            refine HS.out.mono ?_
            rintro e w3 ⟨q, hrd, hch, rfl⟩
            have HB3 := Lib.hid (Below.trans HBL.out (hch.below hb HBL.out.size))
            clear hrd hch HS
            go_wp2_with fail
            go_ret3
            rw [HRes.out]
            exact ints_err HB3.out
          | ok r =>
            obtain ⟨u, kk⟩ := r
            rw [hus] at HS
            have HN := Lib.hid (left_next HL.out hus)
            have hub := (usc_ok9 hus).1
            have hzb := unzig_bd hub
            have HZB := Lib.hid hzb
            have HLB := Lib.hid HL.out.2.2
            have hjp : j ≤ pp := by omega
            have HM := Lib.hid hm
            clear hus hrd hdone hdp hm hzb
            go_wp2_with fail
            refine HS.out.mono ?_
            rintro e w3 ⟨q, hrd, hch, rfl, rfl⟩
            have hown3 := own_ch HO.out hch HB1.out.2
            have HR3 := Lib.hid hrd
            have HB3 := Lib.hid (Below.trans HBL.out (hch.below hb HBL.out.size))
            have hsz3 : w1.heap.size ≤ w3.heap.size := Nat.le_trans hsz hch.size
            have hr := raw_one w3 (i64v (w64 (last + unzig u))) 3 rfl
            have hown4 := hown3.alloc (.cells #[i64v (w64 (last + unzig u))] 3)
            have hsz4 : w1.heap.size ≤ (w3.alloc (.cells #[i64v (w64 (last + unzig u))] 3)).heap.size := by simp; omega
            have h63 : j + 1 ≤ maxLen := by unfold maxLen; omega
            have hby : (j + 1) * 8 ≤ 140737488355328 := by omega
            have hwr : wrap64 (last + unzig u) = w64 (last + unzig u) := wrap_w64 _
            clear hrd hch HS hown3
            go_wp2_with (at_builtin; refine wpList_append_raw rfl _ _ _ rfl tyI w1.heap.size hown4 rfl hr rfl h63 hby hsz4 ?_; intro v2 w4 hown5 hg)
            go_roundw
            case rel =>
              have hb4 : Below w1.heap.size w3 w4 := ((Below.refl _ _).alloc hsz3 _).grown hg hsz4 (fun k hk => (World.ownsRow.lt hown4 k hk).1)
              have hbel4 : Below w.heap.size w w4 := Below.trans HB3.out (hb4.mono HB1.out.1.size)
              refine ⟨j + 1, done ++ [w64 (last + unzig u)], w64 (last + unzig u), pp + kk, by go_num, by omega, rfl, by simp [HD.out], HR3.out.far hb4 HB1.out.2 (hv.below hbel4), ?_, ?_, hbel4, ?_⟩
              · have e : n - (j + 1) = m := by have := HM.out; omega
                rw [e]; exact HN.out
              · rw [List.map_append]; exact hown5
              · exact Nat.le_trans hsz4 hg.size
            case measure => simp [intOf]; omega
        · obtain rfl : j = n := by omega
          have hc1 := hrd.c1
          rw [Nat.sub_self] at HL
          have hres := HR.out
          rw [left_end HL.out] at hres
          have HRes := Lib.hid hres
          clear hres hdone hrd
          go_wp2_with fail
          go_quiet (fail)
          go_wp2_with fail
          go_ret3
          rw [HRes.out]
          refine ⟨_, rfl, ?_, below_drewN HBL.out _⟩
          unfold OwnI
          have hd := HD.out
          rw [hd]
          exact ownsRow_ext (ownsRow_mono HO.out HB1.out.1.size) (below_drewN (Below.refl _ _) _)
end Go.Proofs.YtnenbmbgmmeiaaaDoor
/- Walks of chapter 06: the reference's Ints and SameInts. -/
namespace Go.Proofs.YtnenbmbgmmeiaaaDoor
open Go.RowKit En
variable {α : Type}
set_option linter.unusedVariables false

set_option maxRecDepth 100000 in
set_option maxHeartbeats 800000 in
theorem sameInts06 (v u : Value) (l m : List Int) (w : World) (hv : IsRowOf i64v w v l) (hu : IsRowOf i64v w u m) :
    Calls Tryd.prog 31 #[v, u] w fun e w' => e = .returned (.bool (l == m)) ∧ Ext w w' := by
  obtain ⟨a, cap, rfl, hm, ha⟩ := hv
  obtain ⟨a2, cap2, rfl, hm2, ha2⟩ := hu
  have HA := Lib.hid ha
  have HA2 := Lib.hid ha2
  have hl := row_len hm ha
  have hl2 := row_len hm2 ha2
  clear ha ha2
  go_enter Tryd.func31, Tryd.ntmps31
  by_cases hne : (l.length : Int) = (m.length : Int)
  · have hlm : l.length = m.length := by omega
    have HLM := Lib.hid hlm
    have hne0 : ((l.length : Int) != (m.length : Int)) = false := by simp [hne]
    clear hne hlm
    go_wp2_with fail
    go_loopw [5] (fun i wr => ∃ k : Nat, k ≤ l.length ∧ i = .int .i64 k ∧ l.take k = m.take k ∧ Ext w wr) (fun i _ => l.length - (intOf i).toNat)
    case atStart => exact ⟨0, Nat.zero_le _, rfl, rfl, Below.refl _ _⟩
    case round =>
      obtain ⟨k, hk, rfl, ht, hbel⟩ := hrel
      have HT := Lib.hid ht
      clear ht
      by_cases hlt : k < l.length
      · have hlt2 : k < m.length := by have := HLM.out; omega
        rcases HA.out with ⟨rfl, _⟩ | ⟨b, o, rfl, hb, hlc, hc⟩
        · simp at hlt
        rcases HA2.out with ⟨rfl, _⟩ | ⟨b2, o2, rfl, hb2, hlc2, hc2⟩
        · simp at hlt2
        have h1 : wr.cell? ⟨b, o + k, none⟩ = some (i64v l[k]) := by rw [hbel.cell (p := ⟨b, o + k, none⟩) hb]; exact hc k hlt
        have h2 : wr.cell? ⟨b2, o2 + k, none⟩ = some (i64v m[k]) := by rw [hbel.cell (p := ⟨b2, o2 + k, none⟩) hb2]; exact hc2 k hlt2
        have hlti : (k : Int) < (m.length : Int) := by omega
        clear hc hc2
        by_cases he : l[k] = m[k]
        · have hei : (l[k] != m[k]) = false := by simp [he]
          have HE := Lib.hid he
          clear he
          go_wp2_with fail
          go_quiet (fail)
          go_wp2_with fail
          go_roundw
          case rel =>
            refine ⟨k + 1, by omega, by go_num, ?_, below_drewN hbel _⟩
            rw [take_snoc l k hlt, take_snoc m k hlt2, HT.out, HE.out]
          case measure => simp [intOf]; omega
        · have hei : (l[k] != m[k]) = true := by
            simp only [bne_iff_ne, ne_eq]
            exact he
          have HE := Lib.hid he
          clear he
          go_wp2_with fail
          go_quiet (fail)
          go_wp2_with fail
          go_ret
          have hf : (l == m) = false := by
            rw [beq_eq_false_iff_ne]
            rintro rfl
            exact HE.out rfl
          exact ⟨by rw [hf]; rfl, below_drewN hbel _⟩
      · obtain rfl : k = l.length := by omega
        go_wp2_with fail
        go_ret
        have ht := HT.out
        rw [List.take_length, HLM.out, List.take_length] at ht
        have hf : (l == m) = true := by rw [beq_iff_eq]; exact ht
        exact ⟨by rw [hf]; rfl, hbel⟩
  · have hne0 : ((l.length : Int) != (m.length : Int)) = true := by simp [hne]
    have hf : (l == m) = false := by
      rw [beq_eq_false_iff_ne]
      rintro rfl
      exact hne rfl
    clear hne
    go_wp2_with fail
    go_ret
    exact ⟨by rw [hf]; rfl, Below.refl _ _⟩

set_option maxRecDepth 100000 in
set_option maxHeartbeats 1600000 in
theorem refInts_any (v : Value) (l : List UInt8) (i most : Int) (w : World) (hv : IsBytes w v l) (hl : l.length ≤ 1000000000) (hmb : most ≤ 9223372036854775807) :
    Calls Tryd.prog 28 #[v, .int .i64 i, .int .i64 most] w (IntsPost w (iat l i most)) := by
  have HC := Lib.hid (refUvarint_any v l i w hv)
  have HV := Lib.hid hv
  obtain ⟨a, cap, rfl⟩ := hv.shape
  clear hv
  by_cases hbad : i < 0 ∨ (l.length : Int) < i
  · rw [iat_bad hbad]
    rw [uat_bad hbad] at HC
    clear hbad
    go_enter Tryd.func28, Tryd.ntmps28
    go_wp2_with fail
    refine HC.out.mono ?_
    rintro e w1 ⟨rfl, rfl⟩
    go_wp2_with fail
    go_ret3
    exact ints_err (Below.refl _ _)
  obtain ⟨p, rfl⟩ : ∃ p : Nat, i = p := ⟨i.toNat, by omega⟩
  have hp : p ≤ l.length := by omega
  clear hbad
  cases hu : usc 9 (l.drop p) with
  | error er =>
    rw [iat_err hp hu]
    rw [uat_err hp hu] at HC
    have he := err_pos hu
    clear hu
    go_enter Tryd.func28, Tryd.ntmps28
    go_wp2_with fail
    refine HC.out.mono ?_
    rintro e w1 ⟨rfl, rfl⟩
    go_wp2_with fail
    go_ret3
    exact ints_err (Below.refl _ _)
  | ok r =>
    obtain ⟨n, k⟩ := r
    obtain ⟨hn64, hk1, hkl, hk10, -⟩ := usc_ok9 hu
    simp only [List.length_drop] at hkl
    rw [uat_ok hp hu] at HC
    by_cases h5 : most < 0 ∨ most < (n : Int)
    · rw [iat_5 hp hu h5]
      clear hu
      by_cases h0 : most < 0
      · clear h5
        go_enter Tryd.func28, Tryd.ntmps28
        go_wp2_with fail
        refine HC.out.mono ?_
        rintro e w1 ⟨rfl, rfl⟩
        go_wp2_with fail
        go_ret3
        exact ints_err (Below.refl _ _)
      · have h1 : most < (n : Int) := by omega
        clear h5
        go_enter Tryd.func28, Tryd.ntmps28
        go_wp2_with fail
        refine HC.out.mono ?_
        rintro e w1 ⟨rfl, rfl⟩
        go_wp2_with fail
        go_ret3
        exact ints_err (Below.refl _ _)
    · have HR := Lib.hid (iat_go hp hu h5)
      have h0 : 0 ≤ most := by omega
      have h1 : (n : Int) ≤ most := by omega
      clear hu h5
      go_enter Tryd.func28, Tryd.ntmps28
      go_wp2_with fail
      refine HC.out.mono ?_
      rintro e w1 ⟨rfl, rfl⟩
      go_wp2_with fail
      go_loopw [10, 12, 13, 14] (fun px g la i wr => ∃ (j : Nat) (done : List Int) (last : Int) (pp : Nat), i = .int .u64 j ∧ j ≤ n ∧ px = .int .i64 pp ∧ la = .int .i64 last ∧ done.length = j ∧ pp ≤ l.length ∧ Hid (Left l n (p + k) done (n - j) last pp) ∧ wr.ownsRow w.heap.size 3 1 g j (done.map i64v) ∧ Ext w wr) (fun _ _ _ i _ => n - (intOf i).toNat)
      case atStart => exact ⟨0, [], 0, p + k, rfl, Nat.zero_le _, val_i64 (by omega), rfl, rfl, by omega, ⟨(pre_nil _).symm, by simp, by omega, by omega⟩, World.ownsRow_lit w #[] 0 (Nat.le_refl _) (Nat.zero_le _) rfl, below_alloc _ _⟩
      case round =>
        obtain ⟨j, done, last, pp, rfl, hj, rfl, rfl, hdone, hppl, HL, hown, hbel⟩ := hrel
        have hdp := HL.out.2.1
        have HD := Lib.hid hdone
        by_cases hlt : j < n
        · obtain ⟨m, hm⟩ : ∃ m, n - j = m + 1 := ⟨n - j - 1, by omega⟩
          rw [hm] at HL
          have hS := refVarint_any (.slice a l.length cap) l pp wr (HV.out.below hbel)
          cases hus : usc 9 (l.drop pp) with
          | error er =>
            unfold vat at hS
            rw [uat_err hppl hus] at hS
            have HS := Lib.hid hS
            have he := err_pos hus
            have hres := HR.out
            rw [left_err HL.out hus] at hres
            have HRes := Lib.hid hres
            clear hus hres hm hdone hdp hS hown
            go_wp2_with fail
            refine HS.out.mono ?_
            rintro e w3 ⟨rfl, rfl⟩
            go_wp2_with fail
            go_ret3
            rw [HRes.out]
            exact ints_err hbel
          | ok r =>
            obtain ⟨u, kk⟩ := r
            unfold vat at hS
            rw [uat_ok hppl hus] at hS
            have HS := Lib.hid hS
            have HN := Lib.hid (left_next HL.out hus)
            obtain ⟨hub, -, hkk, -⟩ := usc_ok9 hus
            simp only [List.length_drop] at hkk
            have HZB := Lib.hid (unzig_bd hub)
            have hjp : j ≤ pp := by omega
            have HM := Lib.hid hm
            have hr := raw_one wr (i64v (w64 (last + unzig u))) 3 rfl
            have hown4 := hown.alloc (.cells #[i64v (w64 (last + unzig u))] 3)
            have hsz : w.heap.size ≤ wr.heap.size := hbel.size
            have hsz4 : w.heap.size ≤ (wr.alloc (.cells #[i64v (w64 (last + unzig u))] 3)).heap.size := by simp; omega
            have h63 : j + 1 ≤ maxLen := by unfold maxLen; omega
            have hby : (j + 1) * 8 ≤ 140737488355328 := by omega
            have hwr : wrap64 (IntKind.u64.wrap (IntKind.u64.wrap last + IntKind.u64.wrap (unzig u))) = w64 (last + unzig u) := by
              rw [IntKind.wrap_u64, IntKind.wrap_u64, IntKind.wrap_u64]; unfold wrap64 w64; omega
            clear hus hS hdone hdp hm hown
            go_wp2_with fail
            refine HS.out.mono ?_
            rintro e w3 ⟨rfl, rfl⟩
            go_wp2_with (at_builtin; refine wpList_append_raw rfl _ _ _ rfl tyI w.heap.size hown4 rfl hr rfl h63 hby hsz4 ?_; intro v2 w4 hown5 hg)
            go_roundw
            case rel =>
              refine ⟨j + 1, done ++ [w64 (last + unzig u)], w64 (last + unzig u), pp + kk, by go_num, by omega, rfl, rfl, by simp [HD.out], by omega, ?_, ?_, (hbel.alloc hsz _).grown hg hsz4 (fun k hk => (World.ownsRow.lt hown4 k hk).1)⟩
              · have e : n - (j + 1) = m := by have := HM.out; omega
                rw [e]; exact HN.out
              · rw [List.map_append]; exact hown5
            case measure => simp [intOf]; omega
        · obtain rfl : j = n := by omega
          rw [Nat.sub_self] at HL
          have hres := HR.out
          rw [left_end HL.out] at hres
          have HRes := Lib.hid hres
          have HO := Lib.hid hown
          clear hres hdone hown
          go_wp2_with fail
          go_ret3
          rw [HRes.out]
          refine ⟨_, rfl, ?_, hbel⟩
          unfold OwnI
          have hd := HD.out
          rw [hd]
          exact HO.out
end Go.Proofs.YtnenbmbgmmeiaaaDoor
