/- Walks of chapter 06: the reference's Ints and SameInts. -/
import Derived.Test.YtnenbmbgmmeiaaaDoorEncWalk19
namespace Go.Proofs.YtnenbmbgmmeiaaaDoor
open Go.RowKit En
variable {α : Type}
set_option linter.unusedVariables false

set_option maxRecDepth 100000 in
set_option maxHeartbeats 800000 in
theorem sameInts06 (v u : Value) (l m : List Int) (w : World) (hv : IsRowOf i64v w v l) (hu : IsRowOf i64v w u m) :
    Calls Tryd.prog 31 #[v, u] w fun e w' => e = .returned (.bool (l == m)) ∧ Ext w w' := by
  obtain ⟨a, cap, rfl, hm, ha⟩ := hv
  obtain ⟨a2, cap2, rfl, hm2, ha2⟩ := hu
  have HA := Lib.hid ha
  have HA2 := Lib.hid ha2
  have hl := row_len hm ha
  have hl2 := row_len hm2 ha2
  clear ha ha2
  go_enter Tryd.func31, Tryd.ntmps31
  by_cases hne : (l.length : Int) = (m.length : Int)
  · have hlm : l.length = m.length := by omega
    have HLM := Lib.hid hlm
    have hne0 : ((l.length : Int) != (m.length : Int)) = false := by simp [hne]
    clear hne hlm
    go_wp2_with fail
    go_loopw [5] (fun i wr => ∃ k : Nat, k ≤ l.length ∧ i = .int .i64 k ∧ l.take k = m.take k ∧ Ext w wr) (fun i _ => l.length - (intOf i).toNat)
    case atStart => exact ⟨0, Nat.zero_le _, rfl, rfl, Below.refl _ _⟩
    case round =>
      obtain ⟨k, hk, rfl, ht, hbel⟩ := hrel
      have HT := Lib.hid ht
      clear ht
      by_cases hlt : k < l.length
      · have hlt2 : k < m.length := by have := HLM.out; omega
        rcases HA.out with ⟨rfl, _⟩ | ⟨b, o, rfl, hb, hlc, hc⟩
        · simp at hlt
        rcases HA2.out with ⟨rfl, _⟩ | ⟨b2, o2, rfl, hb2, hlc2, hc2⟩
        · simp at hlt2
        have h1 : wr.cell? ⟨b, o + k, none⟩ = some (i64v l[k]) := by rw [hbel.cell (p := ⟨b, o + k, none⟩) hb]; exact hc k hlt
        have h2 : wr.cell? ⟨b2, o2 + k, none⟩ = some (i64v m[k]) := by rw [hbel.cell (p := ⟨b2, o2 + k, none⟩) hb2]; exact hc2 k hlt2
        have hlti : (k : Int) < (m.length : Int) := by omega
        clear hc hc2
        by_cases he : l[k] = m[k]
        · have hei : (l[k] != m[k]) = false := by simp [he]
          have HE := Lib.hid he
          clear he
          go_wp2_with fail
          go_quiet (fail)
          go_wp2_with fail
          go_roundw
          case rel =>
            refine ⟨k + 1, by omega, by go_num, ?_, below_drewN hbel _⟩
            rw [take_snoc l k hlt, take_snoc m k hlt2, HT.out, HE.out]
          case measure => simp [intOf]; omega
        · have hei : (l[k] != m[k]) = true := by
            simp only [bne_iff_ne, ne_eq]
            exact he
          have HE := Lib.hid he
          clear he
          go_wp2_with fail
          go_quiet (fail)
          go_wp2_with fail
          go_ret
          have hf : (l == m) = false := by
            rw [beq_eq_false_iff_ne]
            rintro rfl
            exact HE.out rfl
          exact ⟨by rw [hf]; rfl, below_drewN hbel _⟩
      · obtain rfl : k = l.length := by omega
        go_wp2_with fail
        go_ret
        have ht := HT.out
        rw [List.take_length, HLM.out, List.take_length] at ht
        have hf : (l == m) = true := by rw [beq_iff_eq]; exact ht
        exact ⟨by rw [hf]; rfl, hbel⟩
  · have hne0 : ((l.length : Int) != (m.length : Int)) = true := by simp [hne]
    have hf : (l == m) = false := by
      rw [beq_eq_false_iff_ne]
      rintro rfl
      exact hne rfl
    clear hne
    go_wp2_with fail
    go_ret
    exact ⟨by rw [hf]; rfl, Below.refl _ _⟩

set_option maxRecDepth 100000 in
set_option maxHeartbeats 1600000 in
theorem refInts_any (v : Value) (l : List UInt8) (i most : Int) (w : World) (hv : IsBytes w v l) (hl : l.length ≤ 1000000000) (hmb : most ≤ 9223372036854775807) :
    Calls Tryd.prog 28 #[v, .int .i64 i, .int .i64 most] w (IntsPost w (iat l i most)) := by
  have HC := Lib.hid (refUvarint_any v l i w hv)
  have HV := Lib.hid hv
  obtain ⟨a, cap, rfl⟩ := hv.shape
  clear hv
  by_cases hbad : i < 0 ∨ (l.length : Int) < i
  · rw [iat_bad hbad]
    rw [uat_bad hbad] at HC
    clear hbad
    go_enter Tryd.func28, Tryd.ntmps28
    go_wp2_with fail
    refine HC.out.mono ?_
    rintro e w1 ⟨rfl, rfl⟩
    go_wp2_with fail
    go_ret3
    exact ints_err (Below.refl _ _)
  obtain ⟨p, rfl⟩ : ∃ p : Nat, i = p := ⟨i.toNat, by omega⟩
  have hp : p ≤ l.length := by omega
  clear hbad
  cases hu : usc 9 (l.drop p) with
  | error er =>
    rw [iat_err hp hu]
    rw [uat_err hp hu] at HC
    have he := err_pos hu
    clear hu
    go_enter Tryd.func28, Tryd.ntmps28
    go_wp2_with fail
    refine HC.out.mono ?_
    rintro e w1 ⟨rfl, rfl⟩
    go_wp2_with fail
    go_ret3
    exact ints_err (Below.refl _ _)
  | ok r =>
    obtain ⟨n, k⟩ := r
    obtain ⟨hn64, hk1, hkl, hk10, -⟩ := usc_ok9 hu
    simp only [List.length_drop] at hkl
    rw [uat_ok hp hu] at HC
    by_cases h5 : most < 0 ∨ most < (n : Int)
    · rw [iat_5 hp hu h5]
      clear hu
      by_cases h0 : most < 0
      · clear h5
        go_enter Tryd.func28, Tryd.ntmps28
        go_wp2_with fail
        refine HC.out.mono ?_
        rintro e w1 ⟨rfl, rfl⟩
        go_wp2_with fail
        go_ret3
        exact ints_err (Below.refl _ _)
      · have h1 : most < (n : Int) := by omega
        clear h5
        go_enter Tryd.func28, Tryd.ntmps28
        go_wp2_with fail
        refine HC.out.mono ?_
        rintro e w1 ⟨rfl, rfl⟩
        go_wp2_with fail
        go_ret3
        exact ints_err (Below.refl _ _)
    · have HR := Lib.hid (iat_go hp hu h5)
      have h0 : 0 ≤ most := by omega
      have h1 : (n : Int) ≤ most := by omega
      clear hu h5
      go_enter Tryd.func28, Tryd.ntmps28
      go_wp2_with fail
      refine HC.out.mono ?_
      rintro e w1 ⟨rfl, rfl⟩
      go_wp2_with fail
      go_loopw [10, 12, 13, 14] (fun px g la i wr => ∃ (j : Nat) (done : List Int) (last : Int) (pp : Nat), i = .int .u64 j ∧ j ≤ n ∧ px = .int .i64 pp ∧ la = .int .i64 last ∧ done.length = j ∧ pp ≤ l.length ∧ Hid (Left l n (p + k) done (n - j) last pp) ∧ wr.ownsRow w.heap.size 3 1 g j (done.map i64v) ∧ Ext w wr) (fun _ _ _ i _ => n - (intOf i).toNat)
      case atStart => exact ⟨0, [], 0, p + k, rfl, Nat.zero_le _, val_i64 (by omega), rfl, rfl, by omega, ⟨(pre_nil _).symm, by simp, by omega, by omega⟩, World.ownsRow_lit w #[] 0 (Nat.le_refl _) (Nat.zero_le _) rfl, below_alloc _ _⟩
      case round =>
        obtain ⟨j, done, last, pp, rfl, hj, rfl, rfl, hdone, hppl, HL, hown, hbel⟩ := hrel
        have hdp := HL.out.2.1
        have HD := Lib.hid hdone
        by_cases hlt : j < n
        · obtain ⟨m, hm⟩ : ∃ m, n - j = m + 1 := ⟨n - j - 1, by omega⟩
          rw [hm] at HL
          have hS := refVarint_any (.slice a l.length cap) l pp wr (HV.out.below hbel)
          cases hus : usc 9 (l.drop pp) with
          | error er =>
            unfold vat at hS
            rw [uat_err hppl hus] at hS
            have HS := Lib.hid hS
            have he := err_pos hus
            have hres := HR.out
            rw [left_err HL.out hus] at hres
            have HRes := Lib.hid hres
            clear hus hres hm hdone hdp hS hown
            go_wp2_with fail
            refine HS.out.mono ?_
            rintro e w3 ⟨rfl, rfl⟩
            go_wp2_with fail
            go_ret3
            rw [HRes.out]
            exact ints_err hbel
          | ok r =>
            obtain ⟨u, kk⟩ := r
            unfold vat at hS
            rw [uat_ok hppl hus] at hS
            have HS := Lib.hid hS
            have HN := Lib.hid (left_next HL.out hus)
            obtain ⟨hub, -, hkk, -⟩ := usc_ok9 hus
            simp only [List.length_drop] at hkk
            have HZB := Lib.hid (unzig_bd hub)
            have hjp : j ≤ pp := by omega
            have HM := Lib.hid hm
            have hr := raw_one wr (i64v (w64 (last + unzig u))) 3 rfl
            have hown4 := hown.alloc (.cells #[i64v (w64 (last + unzig u))] 3)
            have hsz : w.heap.size ≤ wr.heap.size := hbel.size
            have hsz4 : w.heap.size ≤ (wr.alloc (.cells #[i64v (w64 (last + unzig u))] 3)).heap.size := by simp; omega
            have h63 : j + 1 ≤ maxLen := by unfold maxLen; omega
            have hby : (j + 1) * 8 ≤ 140737488355328 := by omega
            have hwr : wrap64 (IntKind.u64.wrap (IntKind.u64.wrap last + IntKind.u64.wrap (unzig u))) = w64 (last + unzig u) := by
              rw [IntKind.wrap_u64, IntKind.wrap_u64, IntKind.wrap_u64]; unfold wrap64 w64; omega
            clear hus hS hdone hdp hm hown
            go_wp2_with fail
            refine HS.out.mono ?_
            rintro e w3 ⟨rfl, rfl⟩
            go_wp2_with (at_builtin; refine wpList_append_raw rfl _ _ _ rfl tyI w.heap.size hown4 rfl hr rfl h63 hby hsz4 ?_; intro v2 w4 hown5 hg)
            go_roundw
            case rel =>
              refine ⟨j + 1, done ++ [w64 (last + unzig u)], w64 (last + unzig u), pp + kk, by go_num, by omega, rfl, rfl, by simp [HD.out], by omega, ?_, ?_, (hbel.alloc hsz _).grown hg hsz4 (fun k hk => (World.ownsRow.lt hown4 k hk).1)⟩
              · have e : n - (j + 1) = m := by have := HM.out; omega
                rw [e]; exact HN.out
              · rw [List.map_append]; exact hown5
            case measure => simp [intOf]; omega
        · obtain rfl : j = n := by omega
          rw [Nat.sub_self] at HL
          have hres := HR.out
          rw [left_end HL.out] at hres
          have HRes := Lib.hid hres
          have HO := Lib.hid hown
          clear hres hdone hown
          go_wp2_with fail
          go_ret3
          rw [HRes.out]
          refine ⟨_, rfl, ?_, hbel⟩
          unfold OwnI
          have hd := HD.out
          rw [hd]
          exact HO.out
end Go.Proofs.YtnenbmbgmmeiaaaDoor
