/- Walks of chapter 06: Bytes of both, the reference's PutBytes. -/
import Derived.Test.YtnenbmbgmmeiaaaDoorEncWalk15
namespace Go.Proofs.YtnenbmbgmmeiaaaDoor
open Go.RowKit En
variable {α : Type}

def BytesPost (w : World) (r : List UInt8 × Nat × Nat) (e : Ending) (w' : World) : Prop :=
  ∃ x, e = .returned (.tuple #[x, .int .i64 (r.2.1 : Int), .int .i64 (r.2.2 : Int)]) ∧ OwnB w.heap.size w' x r.1 ∧ Ext w w'
theorem bytes_err {w w' : World} {er : Nat} (hb : Ext w w') : BytesPost w ([], 0, er) (.returned (.tuple #[.slice none 0 0, .int .i64 0, .int .i64 (er : Int)])) w' :=
  ⟨_, rfl, World.ownsRow_nil _ _ _ _, hb⟩
theorem bat_bad {l : List UInt8} {i most : Int} (h : i < 0 ∨ (l.length : Int) < i) : bat l i most = ([], 0, 2) := by unfold bat; rw [if_pos h]
theorem bat_ok {l s : List UInt8} {i k : Nat} {most : Int} (h : i ≤ l.length) (hu : bsc most (l.drop i) = .ok (s, k)) : bat l i most = (s, i + k, 0) := by
  unfold bat; rw [if_neg (by omega), Int.toNat_natCast, hu]
theorem bat_err {l : List UInt8} {i e : Nat} {most : Int} (h : i ≤ l.length) (hu : bsc most (l.drop i) = .error e) : bat l i most = ([], 0, e) := by
  unfold bat; rw [if_neg (by omega), Int.toNat_natCast, hu]
theorem bsc_pos {most : Int} {l : List UInt8} {e : Nat} (hu : bsc most l = .error e) : ((e : Int) != 0) = true := by
  rw [bne_iff_ne]
  unfold bsc at hu
  cases h : usc 9 l with
  | error e' => rw [h] at hu; simp only [Except.error.injEq] at hu; rcases usc_err _ _ _ h with h | h <;> omega
  | ok r =>
    obtain ⟨n, k⟩ := r
    rw [h] at hu
    simp only at hu
    split at hu
    · simp only [Except.error.injEq] at hu; omega
    · split at hu
      · simp only [Except.error.injEq] at hu; omega
      · cases hu

set_option maxRecDepth 100000 in
set_option maxHeartbeats 800000 in
theorem bytesAt_any (v : Value) (l : List UInt8) (i most : Int) (w : World) (hv : IsBytes w v l) (hl : l.length ≤ 1000000000) (hmb : most ≤ 9223372036854775807) :
    Calls Tryd.prog 23 #[v, .int .i64 i, .int .i64 most] w (BytesPost w (bat l i most)) := by
  by_cases hbad : i < 0 ∨ (l.length : Int) < i
  · rw [bat_bad hbad]
    have HF := Lib.hid (from_bad v l i w hv hbad)
    clear hbad
    go_enter Tryd.func23, Tryd.ntmps23
    go_wp2_with fail
    refine HF.out.mono ?_
    rintro e w' ⟨rfl, rfl⟩
    go_wp2_with fail
    go_ret3
    exact bytes_err (Below.refl _ _)
  · obtain ⟨p, rfl⟩ : ∃ p : Nat, i = p := ⟨i.toNat, by omega⟩
    have hp : p ≤ l.length := by omega
    have HF := Lib.hid (from_rd v l p w hv hp)
    clear hbad
    cases hu : bsc most (l.drop p) with
    | error er =>
      rw [bat_err hp hu]
      have he := bsc_pos hu
      have HU := Lib.hid hu
      clear hu
      go_enter Tryd.func23, Tryd.ntmps23
      go_wp2_with fail
      refine HF.out.mono ?_
      rintro e w1 ⟨b, rfl, hrd, hb1, hb⟩
      have HN := Lib.hid (some_any l b p v most w1 hrd hl hmb)
      rw [HU.out] at HN
      clear hrd HF
      go_wp2_with fail
      refine HN.out.mono ?_
      rintro e w2 ⟨q, hrd, hch, rfl⟩
      have HB := Lib.hid (Below.trans hb1 (hch.below hb hb1.size))
      clear hrd hch hb1 HN
      go_wp2_with fail
      go_ret3
      exact bytes_err HB.out
    | ok r =>
      obtain ⟨s, k⟩ := r
      rw [bat_ok hp hu]
      have HU := Lib.hid hu
      clear hu
      go_enter Tryd.func23, Tryd.ntmps23
      go_wp2_with fail
      refine HF.out.mono ?_
      rintro e w1 ⟨b, rfl, hrd, hb1, hb⟩
      have HN := Lib.hid (some_any l b p v most w1 hrd hl hmb)
      rw [HU.out] at HN
      clear hrd HF
      go_wp2_with fail
      refine HN.out.mono ?_
      rintro e w2 ⟨q, hrd, hch, hq, x, rfl, ho⟩
      have h1 := hrd.c1
      have HB := Lib.hid (Below.trans hb1 (hch.below hb hb1.size))
      have HO := Lib.hid (ownsRow_mono ho hb1.size)
      have HQ := Lib.hid hq
      clear hrd hch hb1 HN hq ho
      go_wp2_with fail
      go_quiet (fail)
      go_wp2_with fail
      go_ret3
      rw [HQ.out]
      exact ⟨x, rfl, ownsRow_ext HO.out (below_drewN (Below.refl _ _) _), below_drewN HB.out _⟩

set_option maxRecDepth 100000 in
set_option maxHeartbeats 800000 in
theorem refPutBytes_any (v : Value) (l : List UInt8) (w : World) (hv : IsBytes w v l) (hlen : l.length ≤ 1000000000) :
    Calls Tryd.prog 26 #[v] w fun e w' => ∃ v', e = .returned v' ∧ OwnB w.heap.size w' v' (putB l) ∧ Ext w w' := by
  have HP := Lib.hid (refPutUvarint_any l.length w (by omega))
  have HV := Lib.hid hv
  obtain ⟨a, cap, rfl⟩ := hv.shape
  have hul := uvar_len 10 l.length
  clear hv
  go_enter Tryd.func26, Tryd.ntmps26
  go_wp2_with fail
  refine HP.out.mono ?_
  rintro e w1 ⟨v', rfl, ho, hb⟩
  have HO := Lib.hid ho
  have HB := Lib.hid hb
  clear ho hb HP
  go_wp2_with fail
  go_loopw [3, 4] (fun g i wr => ∃ k : Nat, i = .int .i64 k ∧ k ≤ l.length ∧ wr.ownsRow w.heap.size 5 1 g ((uvar 10 l.length).length + k) ((uvar 10 l.length ++ l.take k).map u8v) ∧ Ext w wr) (fun _ i _ => l.length - (intOf i).toNat)
  case atStart => exact ⟨0, rfl, Nat.zero_le _, by simpa using HO.out, HB.out⟩
  case round =>
    obtain ⟨k, rfl, hk, hown, hbel⟩ := hrel
    by_cases hlt : k < l.length
    · obtain ⟨b, o, c, hsv, hbb, hlc, hm, hc⟩ := row_some HV.out rfl (by omega)
      simp only [Value.slice.injEq] at hsv
      obtain ⟨rfl, -, -⟩ := hsv
      have hck : wr.cell? ⟨b, o + k, none⟩ = some (u8v l[k]) := by rw [hbel.cell (p := ⟨b, o + k, none⟩) hbb]; exact hc k hlt
      clear hc
      have HT : Hid (uvar 10 l.length ++ l.take (k + 1) = (uvar 10 l.length ++ l.take k) ++ [l[k]]) := by show _ = _; rw [take_snoc l k hlt, List.append_assoc]
      have hr := raw_one wr (u8v l[k]) 5 rfl
      have hown' := hown.alloc (.cells #[u8v l[k]] 5)
      have hsz : w.heap.size ≤ wr.heap.size := hbel.size
      have hsz' : w.heap.size ≤ (wr.alloc (.cells #[u8v l[k]] 5)).heap.size := by simp; omega
      have h63 : (uvar 10 l.length).length + k + 1 ≤ maxLen := by unfold maxLen; omega
      have hby : ((uvar 10 l.length).length + k + 1) * 1 ≤ 140737488355328 := by omega
      clear hown
      go_wp2_with (at_builtin; refine wpList_append_raw rfl _ _ _ rfl tyU8 w.heap.size hown' rfl hr rfl h63 hby hsz' ?_; intro v2 w2 hown2 hg)
      go_roundw
      case rel =>
        refine ⟨k + 1, by go_num, by omega, ?_, (hbel.alloc hsz _).grown hg hsz' (fun k hk => (World.ownsRow.lt hown' k hk).1)⟩
        rw [HT.out, List.map_append]; exact hown2
      case measure => simp [intOf]; omega
    · obtain rfl : k = l.length := by omega
      rw [List.take_length] at hown
      go_wp2_with fail
      go_ret
      refine ⟨_, rfl, ?_, hbel⟩
      unfold OwnB putB
      rw [List.length_append]; exact hown

set_option maxRecDepth 100000 in
set_option maxHeartbeats 1600000 in
theorem refBytes_any (v : Value) (l : List UInt8) (i most : Int) (w : World) (hv : IsBytes w v l) (hl : l.length ≤ 1000000000) (hmb : most ≤ 9223372036854775807) :
    Calls Tryd.prog 24 #[v, .int .i64 i, .int .i64 most] w (BytesPost w (bat l i most)) := by
  have HC := Lib.hid (refUvarint_any v l i w hv)
  have HV := Lib.hid hv
  obtain ⟨a, cap, rfl⟩ := hv.shape
  clear hv
  by_cases hbad : i < 0 ∨ (l.length : Int) < i
  · rw [bat_bad hbad]
    rw [uat_bad hbad] at HC
    clear hbad
    go_enter Tryd.func24, Tryd.ntmps24
    go_wp2_with fail
    refine HC.out.mono ?_
    rintro e w1 ⟨rfl, rfl⟩
    go_wp2_with fail
    go_ret3
    exact bytes_err (Below.refl _ _)
  obtain ⟨p, rfl⟩ : ∃ p : Nat, i = p := ⟨i.toNat, by omega⟩
  have hp : p ≤ l.length := by omega
  clear hbad
  cases hu : usc 9 (l.drop p) with
  | error er =>
    rw [bat_err hp (bsc_err hu)]
    rw [uat_err hp hu] at HC
    have he := err_pos hu
    clear hu
    go_enter Tryd.func24, Tryd.ntmps24
    go_wp2_with fail
    refine HC.out.mono ?_
    rintro e w1 ⟨rfl, rfl⟩
    go_wp2_with fail
    go_ret3
    exact bytes_err (Below.refl _ _)
  | ok r =>
    obtain ⟨n, k⟩ := r
    obtain ⟨hn64, hk1, hkl, hk10, -⟩ := usc_ok9 hu
    simp only [List.length_drop] at hkl
    rw [uat_ok hp hu] at HC
    by_cases h5 : most < 0 ∨ most < (n : Int)
    · rw [bat_err hp (bsc_5 hu h5)]
      clear hu
      by_cases h0 : most < 0
      · clear h5
        go_enter Tryd.func24, Tryd.ntmps24
        go_wp2_with fail
        refine HC.out.mono ?_
        rintro e w1 ⟨rfl, rfl⟩
        go_wp2_with fail
        go_ret3
        exact bytes_err (Below.refl _ _)
      · have h1 : most < (n : Int) := by omega
        clear h5
        go_enter Tryd.func24, Tryd.ntmps24
        go_wp2_with fail
        refine HC.out.mono ?_
        rintro e w1 ⟨rfl, rfl⟩
        go_wp2_with fail
        go_ret3
        exact bytes_err (Below.refl _ _)
    · have h0 : 0 ≤ most := by omega
      have h1 : (n : Int) ≤ most := by omega
      by_cases h4 : (l.drop p).length - k < n
      · rw [bat_err hp (bsc_4 hu h5 h4)]
        have h4' : (l.length : Int) - ((p : Int) + (k : Int)) < (n : Int) := by simp at h4; omega
        clear hu h5 h4
        go_enter Tryd.func24, Tryd.ntmps24
        go_wp2_with fail
        refine HC.out.mono ?_
        rintro e w1 ⟨rfl, rfl⟩
        go_wp2_with fail
        go_ret3
        exact bytes_err (Below.refl _ _)
      · rw [bat_ok hp (bsc_0 hu h5 h4)]
        have hpk : p + k + n ≤ l.length := by simp at h4; omega
        have h4' : ¬ (l.length : Int) - ((p : Int) + (k : Int)) < (n : Int) := by omega
        clear hu h5 h4
        go_enter Tryd.func24, Tryd.ntmps24
        go_wp2_with fail
        refine HC.out.mono ?_
        rintro e w1 ⟨rfl, rfl⟩
        go_wp2_with fail
        go_loopw [12, 13] (fun g i wr => ∃ j : Nat, i = .int .i64 j ∧ j ≤ n ∧ wr.ownsRow w.heap.size 5 1 g j (((l.drop (p + k)).take j).map u8v) ∧ Ext w wr) (fun _ i _ => n - (intOf i).toNat)
        case atStart => exact ⟨0, rfl, Nat.zero_le _, World.ownsRow_lit w #[] 0 (Nat.le_refl _) (Nat.zero_le _) rfl, below_alloc _ _⟩
        case round =>
          obtain ⟨j, rfl, hj, hown, hbel⟩ := hrel
          by_cases hlt : j < n
          · obtain ⟨b, o, c, hsv, hbb, hlc, hm, hc⟩ := row_some HV.out rfl (by omega)
            simp only [Value.slice.injEq] at hsv
            obtain ⟨rfl, -, -⟩ := hsv
            have hlj : p + k + j < l.length := by omega
            obtain ⟨d, hd⟩ : ∃ d, l[p + k + j] = d := ⟨_, rfl⟩
            have hck : wr.cell? ⟨b, o + (p + k + j), none⟩ = some (u8v d) := by rw [hbel.cell (p := ⟨b, o + (p + k + j), none⟩) hbb, hc _ hlj, hd]
            clear hc
            have HT : Hid ((l.drop (p + k)).take (j + 1) = (l.drop (p + k)).take j ++ [d]) := by
              show _ = _
              rw [take_snoc (l.drop (p + k)) j (by simp; omega)]; simp [hd]
            have hr := raw_one wr (u8v d) 5 rfl
            have hown' := hown.alloc (.cells #[u8v d] 5)
            have hsz : w.heap.size ≤ wr.heap.size := hbel.size
            have hsz' : w.heap.size ≤ (wr.alloc (.cells #[u8v d] 5)).heap.size := by simp; omega
            have h63 : j + 1 ≤ maxLen := by unfold maxLen; omega
            have hby : (j + 1) * 1 ≤ 140737488355328 := by omega
            clear hown hd
            go_wp2_with (at_builtin; refine wpList_append_raw rfl _ _ _ rfl tyU8 w.heap.size hown' rfl hr rfl h63 hby hsz' ?_; intro v2 w2 hown2 hg)
            go_roundw
            case rel =>
              refine ⟨j + 1, by go_num, by omega, ?_, (hbel.alloc hsz _).grown hg hsz' (fun k hk => (World.ownsRow.lt hown' k hk).1)⟩
              rw [HT.out, List.map_append]; exact hown2
            case measure => simp [intOf]; omega
          · obtain rfl : j = n := by omega
            have he : (p : Int) + (k : Int) + (j : Int) = ((p + (k + j) : Nat) : Int) := by omega
            have hlen : ((l.drop (p + k)).take j).length = j := by simp; omega
            have HE := Lib.hid he
            have HO := Lib.hid hown
            have HL := Lib.hid hlen
            clear he hlen hown
            go_wp2_with fail
            go_ret3
            rw [HE.out]
            refine ⟨_, rfl, ?_, hbel⟩
            show World.ownsRow _ _ _ _ _ _ _
            rw [List.drop_drop]
            have hx := HL.out
            rw [hx]; exact HO.out
end Go.Proofs.YtnenbmbgmmeiaaaDoor
