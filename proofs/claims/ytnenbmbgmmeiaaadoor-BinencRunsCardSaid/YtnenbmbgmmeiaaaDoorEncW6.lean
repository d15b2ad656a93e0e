/- Walk of the reference of chapter 06: PutRuns. -/
import Derived.Test.YtnenbmbgmmeiaaaDoorEncW5
namespace Go.Proofs.YtnenbmbgmmeiaaaDoor
open Go.RowKit En
variable {α : Type}
set_option linter.unusedVariables false

theorem flat_take {s : List UInt8} {i n : Nat} (R : List (Nat × UInt8)) (hR : flat R = s.take i) (hi : i + n ≤ s.length) (c : UInt8) (hc : ∀ j, j < n → s[i + j]? = some c) : flat (R ++ [(n, c)]) = s.take (i + n) := by
  rw [flat_append, hR, List.take_add]
  congr 1
  simp only [flat, List.append_nil]
  apply List.ext_getElem?
  intro j
  rcases Nat.lt_or_ge j n with h | h
  · rw [List.getElem?_replicate, if_pos h, List.getElem?_take_of_lt h, List.getElem?_drop, hc j h]
  · rw [List.getElem?_replicate, if_neg (by omega), List.getElem?_eq_none (by simp; omega)]

theorem own_app {base : Nat} {w : World} {v : Value} {A B : List UInt8} {n m : Nat} (hn : n = A.length) (hm : m = B.length) (h : w.ownsRow base 5 1 v (n + m) (A.map u8v ++ B.map u8v)) : OwnB base w v (A ++ B) := by
  subst hn hm
  unfold OwnB
  rw [List.length_append, List.map_append]; exact h
theorem own_app2 {base : Nat} {w : World} {v : Value} {A B : List UInt8} {n m : Nat} (hn : n = A.length) (hm : m = B.length) (h : w.ownsRow base 5 1 v (n + m) (A.map u8v ++ B.map u8v)) : w.ownsRow base 5 1 v (A ++ B).length ((A ++ B).map u8v) := by
  subst hn hm
  rw [List.length_append, List.map_append]; exact h
set_option maxRecDepth 100000 in
set_option maxHeartbeats 3200000 in
theorem refPutRuns_any (v : Value) (s : List UInt8) (w : World) (hv : IsBytes w v s) (hlen : s.length ≤ 1000000) :
    Calls Tryd.prog 44 #[v] w fun e w' => ∃ v', e = .returned v' ∧ OwnB w.heap.size w' v' (putR s) ∧ Ext w w' := by
  have HV := Lib.hid hv
  obtain ⟨a, cap, rfl⟩ := hv.shape
  clear hv
  go_enter Tryd.func44, Tryd.ntmps44
  go_wp2_with fail
  go_loopw [3, 4, 5, 6] (fun ov rv iv _ wr => ∃ (i : Nat) (R : List (Nat × UInt8)), iv = .int .i64 i ∧ i ≤ s.length ∧ rv = .int .i64 (R.length : Int) ∧ flat R = s.take i ∧ good none R ∧ (∀ c, s[i]? = some c → lastv none R ≠ some c) ∧
      OwnB w.heap.size wr ov (runsB R) ∧ Ext w wr) (fun _ _ iv _ _ => s.length - (intOf iv).toNat)
  case atStart => exact ⟨0, [], rfl, Nat.zero_le _, rfl, rfl, trivial, fun c _ => by simp [lastv], World.ownsRow_lit w #[] 0 (Nat.le_refl _) (Nat.zero_le _) rfl, below_alloc _ _⟩
  case round =>
    obtain ⟨i, R, rfl, hi, rfl, hf, hg, hl, hown, hbel⟩ := hrel
    have hRl := good_pos hg
    have hfl : (flat R).length ≤ i := by rw [hf]; exact List.length_take_le _ _
    have hrb := runsB_len R
    have HF := Lib.hid (And.intro hf (And.intro hg hl))
    clear hf hg hl
    by_cases hlt : i < s.length
    · obtain ⟨b, o, cp, hsv, hbb, hlc, hm, hc⟩ := row_some HV.out rfl (by omega)
      simp only [Value.slice.injEq] at hsv
      obtain ⟨rfl, -, -⟩ := hsv
      have HC := Lib.hid hc
      obtain ⟨ci, hci⟩ : ∃ ci, s[i] = ci := ⟨_, rfl⟩
      have hci2 : s[i]? = some ci := by rw [List.getElem?_eq_getElem hlt, hci]
      have HCI := Lib.hid hci2
      have hcell0 := hc i hlt
      rw [hci] at hcell0
      have HOW := Lib.hid hown
      have HBEL := Lib.hid hbel
      obtain ⟨wo, rfl⟩ : ∃ wo : World, wo = wr := ⟨_, rfl⟩
      clear hc hci hci2 hown
      go_wp2_with fail
      go_loopw [6] (fun kv wr => ∃ n : Nat, kv = .int .i64 ((i : Int) + n) ∧ i + n ≤ s.length ∧ (∀ j, j < n → s[i + j]? = some ci) ∧ Ext wo wr) (fun kv _ => s.length - (intOf kv).toNat)
      case atStart => exact ⟨0, by simp, by omega, fun j hj => absurd hj (Nat.not_lt_zero _), Below.refl _ _⟩
      case round =>
        obtain ⟨n, rfl, hn, hall, hb2⟩ := hrel
        have HALL := Lib.hid hall
        have hcI : wr.cell? ⟨b, o + i, none⟩ = some (u8v ci) := by rw [(Ext.trans' hbel hb2).cell (p := ⟨b, o + i, none⟩) hbb]; exact hcell0
        have h0 : (0 : Int) ≤ (i : Int) + n := by omega
        have hti : ((i : Int) + (n : Int)).toNat = i + n := by omega
        clear hall
        by_cases hA : i + n < s.length ∧ s[i + n]? = some ci
        · obtain ⟨hA1, hA2⟩ := hA
          have hA3 : (i : Int) + n < s.length := by omega
          have hck : wr.cell? ⟨b, o + (i + n), none⟩ = some (u8v ci) := by
            rw [(Ext.trans' hbel hb2).cell (p := ⟨b, o + (i + n), none⟩) hbb, HC.out (i + n) hA1]
            rw [List.getElem?_eq_getElem hA1] at hA2
            rw [Option.some.inj hA2]
          have HA2 := Lib.hid hA2
          clear hA2
          go_wp2_with fail
          go_quiet (fail)
          go_wp2_with fail
          go_roundw
          case rel =>
            refine ⟨n + 1, val_i64 (by omega), by omega, fun j hj => ?_, below_drewN hb2 _⟩
            rcases Nat.lt_or_ge j n with h | h
            · exact HALL.out j h
            · obtain rfl : j = n := by omega
              exact HA2.out
          case measure => simp [intOf]; omega
        · have hn1 : 0 < n := by
            rcases Nat.eq_zero_or_pos n with h | h
            · subst h; exact absurd ⟨by omega, HCI.out⟩ hA
            · exact h
          have hnext : ∀ c, s[i + n]? = some c → c ≠ ci := by
            intro c hc e
            have h1 : i + n < s.length := (List.getElem?_eq_some_iff.1 hc).1
            exact hA ⟨h1, by rw [hc, e]⟩
          have HNX := Lib.hid hnext
          have hcase : (∃ d, s[i + n]? = some d ∧ d ≠ ci ∧ (i : Int) + n < s.length ∧ wr.cell? ⟨b, o + (i + n), none⟩ = some (u8v d)) ∨ decide ((i : Int) + n < s.length) = false := by
            rcases Nat.lt_or_ge (i + n) s.length with h | h
            · left
              refine ⟨s[i + n], List.getElem?_eq_getElem h, hnext _ (List.getElem?_eq_getElem h), by omega, ?_⟩
              rw [(Ext.trans' hbel hb2).cell (p := ⟨b, o + (i + n), none⟩) hbb, HC.out (i + n) h]
            · right
              rw [decide_eq_false_iff_not]; omega
          clear hnext hA
          rcases hcase with ⟨d, hd1, hd2, hA3, hck⟩ | hA3
          case' inl =>
            have hne : ((d.toNat : Int) == (ci.toNat : Int)) = false := by
              rw [beq_eq_false_iff_ne]; intro e; exact hd2 (UInt8.toNat_inj.1 (by omega))
            clear hd1 hd2
          all_goals
            go_wp2_with fail
            go_quiet (fail)
            go_wp2_with fail
            have hw3 := below_drewN hb2 nq
            have HP := Lib.hid (refPutUvarint_any n (wr.drewN nq) (by omega))
            have HW3 := Lib.hid hw3
            have hn10 := uvar_len 10 n
            have hsub : (i : Int) + n - i = n := by omega
            rw [hsub]
            clear hw3 hsub
            refine HP.out.mono ?_
            rintro e w3 ⟨y, rfl, hy, hb3⟩
            have hx3 := Ext.trans' HW3.out hb3
            have hown0 := ownsRow_ext HOW.out hx3
            have hr0 := (ownsRow_row hy).raw (fun _ => rfl)
            have hext3 := Ext.trans' HBEL.out hx3
            have hs0 := hext3.size
            have h63 : (runsB R).length + (uvar 10 n).length ≤ maxLen := by unfold maxLen; omega
            have hby : ((runsB R).length + (uvar 10 n).length) * 1 ≤ 140737488355328 := by omega
            have h63' : (runsB R ++ uvar 10 n).length + 1 ≤ maxLen := by unfold maxLen; rw [List.length_append]; omega
            have hby' : ((runsB R ++ uvar 10 n).length + 1) * 1 ≤ 140737488355328 := by rw [List.length_append]; omega
            have HEX := Lib.hid hext3
            clear hy hb3 hx3 hext3 HP
            go_wp2_with (first | (at_builtin; refine wpList_append_raw rfl _ _ _ rfl tyU8 w.heap.size hown0 rfl hr0 rfl h63 hby hs0 ?_; intro b3 w5 hown hg; have hext5 := HEX.out.grown hg hs0 (fun k hk => (World.ownsRow.lt hown0 k hk).1); have hO := own_app2 rfl rfl hown; have hcI5 := (hext5.cell (p := ⟨b, o + i, none⟩) hbb).trans hcell0; have hown1 := World.ownsRow.alloc hO (.cells #[u8v ci] 5); have hr1 := raw_one w5 (u8v ci) 5 rfl; have hs1 := size_alloc_le hext5.size (.cells #[u8v ci] 5); have HE5 := Lib.hid hext5; clear hown hg hext5 hown0 hr0 hO) | (at_builtin; refine wpList_append_raw rfl _ _ _ rfl tyU8 w.heap.size hown1 rfl hr1 rfl h63' hby' hs1 ?_; intro b4 w6 hown hg))
            have HE6 := Lib.hid ((HE5.out.alloc HE5.out.size (.cells #[u8v ci] 5)).grown hg hs1 (fun k hk => (World.ownsRow.lt hown1 k hk).1))
            have hO6 := own_app rfl rfl (B := [ci]) hown
            have eR : runsB (R ++ [(n, ci)]) = runsB R ++ uvar 10 n ++ [ci] := by rw [runsB_append]; simp [runsB]
            rw [← eR] at hO6
            refine ⟨⟨i + n, R ++ [(n, ci)], val_i64 (by omega), hn, val_i64 (by simp), flat_take R HF.out.1 hn ci HALL.out, (good_snoc R n ci none).2 ⟨HF.out.2.1, hn1, HF.out.2.2 ci HCI.out⟩, ?_, hO6, HE6.out⟩, by simp [intOf]; omega⟩
            intro c hc
            rw [lastv_snoc]
            intro e
            exact HNX.out c hc (Option.some.inj e).symm
    · obtain rfl : i = s.length := by omega
      have hR : runs s = R := runs_of HF.out.2.1 (by rw [HF.out.1, List.take_length])
      have HR := Lib.hid hR
      have HP := Lib.hid (refPutUvarint_any R.length wr (by omega))
      have HBEL := Lib.hid hbel
      have HOW := Lib.hid hown
      have hul := uvar_len 10 R.length
      clear hR hown hbel
      go_wp2_with fail
      refine HP.out.mono ?_
      rintro e w3 ⟨y, rfl, hy, hb3⟩
      have hown0 := ownsRow_mono hy HBEL.out.size
      have hr0 := ((ownsRow_row HOW.out).below hb3).raw (fun _ => rfl)
      have hext3 := Ext.trans' HBEL.out hb3
      have hs0 := hext3.size
      have h63 : (uvar 10 R.length).length + (runsB R).length ≤ maxLen := by unfold maxLen; omega
      have hby : ((uvar 10 R.length).length + (runsB R).length) * 1 ≤ 140737488355328 := by omega
      have HEX := Lib.hid hext3
      clear hy hb3 hext3 HP
      go_wp2_with (at_builtin; refine wpList_append_raw rfl _ _ _ rfl tyU8 w.heap.size hown0 rfl hr0 rfl h63 hby hs0 ?_; intro b3 w5 hown hg)
      have HE5 := Lib.hid (HEX.out.grown hg hs0 (fun k hk => (World.ownsRow.lt hown0 k hk).1))
      have hO := own_app rfl rfl hown
      clear hown hg
      go_wp2_with fail
      go_ret
      refine ⟨_, rfl, ?_, HE5.out⟩
      unfold putR
      rw [HR.out]
      exact hO
end Go.Proofs.YtnenbmbgmmeiaaaDoor
