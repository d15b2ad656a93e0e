/- Walks: bytes.TrimRight at a zero byte, slices.Grow of nil, slices.Concat. -/
import Derived.Test.YtnenbmbgmmeiaaaDoorEncWalk10
import Derived.Test.YtnenbmbgmmeiaaaDoorNb
import Derived.Lib.AppendZeros
namespace Go.Proofs.YtnenbmbgmmeiaaaDoor
open Go.RowKit En
variable {α : Type}

set_option maxRecDepth 100000 in
theorem trimByte_any (v : Value) (l : List UInt8) (w : World) (hv : IsBytes w v l) :
    Calls Tryd.prog 94 #[v, .int .u8 0] w fun e w' => ∃ v', e = .returned v' ∧ IsBytes w v' (Nb.digs (Nb.val l)) ∧ w = w' := by
  have hv0 := Lib.hid hv
  obtain ⟨a, cap, rfl, hm, ha⟩ := hv
  have hl := row_len hm ha
  have hcap : l.length ≤ cap := by
    rcases ha with ⟨rfl, _⟩ | ⟨_, _, _, _, h, _⟩
    · simp
    · exact h
  have HA := Lib.hid ha
  clear ha
  unfold maxLen at hm
  go_enter Tryd.func94, Tryd.ntmps94
  go_wp2
  go_loop [0] (fun i => ∃ k : Nat, i = .slice a k cap ∧ k ≤ l.length ∧ Hid (Nb.val (l.take k) = Nb.val l)) (fun i => match i with | .slice _ k _ => k | _ => 0)
  case atStart => exact ⟨l.length, rfl, Nat.le_refl _, by show _ = _; rw [List.take_length]⟩
  case round =>
    obtain ⟨k, rfl, hk, HV⟩ := hrel
    by_cases h0 : k = 0
    · subst h0
      go_wp2
      go_ret
      have hD : Nb.digs (Nb.val l) = l.take 0 := Nb.digs_eq_take (by omega) HV.out (.inl rfl)
      have hr := row_cut (cap' := cap) (n := 0) hv0.out (by omega) (by omega) hm (fun h => by
        rcases HA.out with ⟨_, h'⟩ | ⟨_, _, h', _⟩
        · exact h' h
        · rw [h] at h'; cases h')
      exact ⟨_, rfl, by rw [hD]; exact hr, rfl⟩
    · obtain ⟨j, rfl⟩ : ∃ j, k = j + 1 := ⟨k - 1, by omega⟩
      rcases HA.out with ⟨rfl, _⟩ | ⟨b, o, rfl, hb, hlc, hc⟩
      · simp at hk
      have hck := hc j (by omega)
      have hlt : j < l.length := by omega
      clear hc
      by_cases hz : l[j] = 0
      · have HE : Hid (Nb.val (l.take j) = Nb.val l) := by show _ = _; rw [← HV.out, Nb.val_take_succ l j hlt, hz]; simp
        have hzb : ((l[j].toNat : Int) == 0) = true := by rw [hz]; rfl
        have HZ := Lib.hid hz
        clear hz
        go_wp2
        go_round
        case rel => exact ⟨j, rfl, by omega, HE⟩
        case measure => simp
      · have hzb : ((l[j].toNat : Int) == 0) = false := by
          rw [beq_eq_false_iff_ne]; intro e; exact hz (UInt8.toNat_inj.1 (by simp; omega))
        have HZ := Lib.hid hz
        clear hz
        go_wp2
        go_ret
        have hD : Nb.digs (Nb.val l) = l.take (j + 1) := Nb.digs_eq_take (by omega) HV.out (.inr ⟨by omega, HZ.out⟩)
        have hr := row_cut (cap' := cap) (n := j + 1) hv0.out (by omega) (by omega) hm (fun h => by cases h)
        exact ⟨_, rfl, by rw [hD]; exact hr, rfl⟩

set_option maxRecDepth 100000 in
theorem trim_any (v : Value) (l : List UInt8) (w : World) (hv : IsBytes w v l) :
    Calls Tryd.prog 80 #[v, .string ⟨#[0]⟩] w fun e w' => ∃ v', e = .returned v' ∧ IsBytes w v' (Nb.digs (Nb.val l)) ∧ w = w' := by
  have HV := Lib.hid hv
  obtain ⟨a, cap, rfl⟩ := hv.shape
  have HT := Lib.hid (trimByte_any _ _ _ hv)
  have hl := hv.len
  unfold maxLen at hl
  clear hv
  by_cases h0 : l.length = 0
  · have e : l = [] := List.eq_nil_of_length_eq_zero h0
    subst e
    have HT2 := HV
    go_enter Tryd.func80, Tryd.ntmps80
    go_wp2_with fail
    go_ret
    exact ⟨_, rfl, HV.out, rfl⟩
  · have h0' : ((l.length : Int) == 0) = false := by rw [beq_eq_false_iff_ne]; omega
    go_enter Tryd.func80, Tryd.ntmps80
    go_wp2_with fail
    refine HT.out.mono ?_
    rintro e w' ⟨v', rfl, hr, rfl⟩
    have HR := Lib.hid hr
    clear hr HT
    go_wp2_with fail
    go_ret
    exact ⟨_, rfl, HR.out, rfl⟩

set_option maxRecDepth 100000 in
theorem grow_nil (n : Nat) (w : World) (hn : n ≤ 100000000000) :
    Calls Tryd.prog 79 #[.slice none 0 0, .int .i64 n] w fun e w' => ∃ v', e = .returned v' ∧ w'.ownsRow w.heap.size 5 1 v' 0 ([].map u8v) ∧ Ext w w' := by
  rcases Nat.eq_zero_or_pos n with rfl | h0
  · go_enter Tryd.func79, Tryd.ntmps79
    go_wp2_with fail
    go_ret
    exact ⟨_, rfl, World.ownsRow_nil _ _ _ _, Below.refl _ _⟩
  · obtain ⟨i, hi, hz, hsz, hby⟩ := tyU8.info
    have happ := Lib.run_append_nil_zeros (P := Tryd.prog) w 23 3 23 5 i (.int .u8 0) .i64 .i64 Tryd.underlying23 Tryd.underlying3 hi hz n h0 (by omega) (by omega) (by rw [hby]; omega)
    have hge := grownCap_ge w n 0 5
    have hle := grownCap_le_maxLen w n 0 5 (by unfold maxLen; omega)
    have hzc : ∀ k, (Builtin.zeroCells (Value.int .u8 0).cells k).size = k := fun k => by
      have hc1 : (Value.int .u8 0).cells.size = 1 := rfl
      simp [Builtin.zeroCells, hc1]
    have hown := World.ownsRow_made (base := w.heap.size) (e := 5) (size := 1) w.drew (Builtin.zeroCells (Value.int .u8 0).cells n ++ Builtin.zeroCells (Value.int .u8 0).cells (grownCap w n 0 5 - n)) (grownCap w n 0 5) (Nat.le_refl _) hle (by rw [Array.size_append, hzc, hzc]; omega)
    have HO := Lib.hid hown
    clear hown
    go_enter Tryd.func79, Tryd.ntmps79
    go_wp2_with (at_builtin; refine Lib.wpList_append_run _ rfl _ _ _ _ rfl _ _ rfl rfl _ _ happ ?_)
    go_ret
    exact ⟨_, rfl, HO.out, (below_drewN (Below.refl _ _) 1).alloc (Nat.le_refl _) _⟩
def cat (ls : List (List UInt8)) (k : Nat) : List UInt8 := (ls.take k).flatten
theorem flatten_take (ls : List (List UInt8)) (k : Nat) (hk : k < ls.length) : cat ls (k + 1) = cat ls k ++ ls[k] := by
  unfold cat; rw [take_snoc ls k hk, List.flatten_append]; simp
theorem cat_all (ls : List (List UInt8)) : cat ls ls.length = ls.flatten := by unfold cat; rw [List.take_length]
theorem flatten_le (ls : List (List UInt8)) (k : Nat) : (cat ls k).length ≤ ls.flatten.length := by
  unfold cat
  conv => rhs; rw [← List.take_append_drop k ls, List.flatten_append, List.length_append]
  omega
set_option maxRecDepth 100000 in
set_option maxHeartbeats 800000 in
theorem concat_any (v : Value) (ls : List (List UInt8)) (w : World) (hv : IsParts w v ls) (hlen : ls.flatten.length ≤ 1000000000) :
    Calls Tryd.prog 58 #[v] w fun e w' => ∃ v', e = .returned v' ∧ w'.ownsRow w.heap.size 5 1 v' ls.flatten.length (ls.flatten.map u8v) ∧ Ext w w' := by
  obtain ⟨a, cap, rfl, hm, ha⟩ := hv
  have hl := sl_len hm ha
  have HA := Lib.hid ha
  clear ha
  go_enter Tryd.func58, Tryd.ntmps58
  go_wp2_with fail
  go_loop [3, 11] (fun s i => ∃ k : Nat, i = .int .i64 k ∧ k ≤ ls.length ∧ s = .int .i64 ((cat ls k).length : Nat)) (fun _ i => ls.length - (intOf i).toNat)
  case atStart => exact ⟨0, rfl, Nat.zero_le _, rfl⟩
  case round =>
    obtain ⟨k, rfl, hk, rfl⟩ := hrel
    have hle := flatten_le ls k
    by_cases hlt : k < ls.length
    · rcases HA.out with ⟨rfl, _⟩ | ⟨b, o, rfl, hb, hlc, hc⟩
      · simp at hlt
      obtain ⟨x, hx, hxr⟩ := hc k hlt
      obtain ⟨ax, cx, rfl⟩ := hxr.shape
      have hf : ((cat ls (k + 1)).length : Int) = ((cat ls k).length : Int) + ((ls[k]).length : Int) := by rw [flatten_take ls k hlt]; simp
      have hle2 := flatten_le ls (k + 1)
      have hs : ((cat ls k).length : Int) + ((ls[k]).length : Int) ≤ 1000000000 := by omega
      have HF := Lib.hid hf
      clear hc hxr hf
      go_wp2_with fail
      go_round
      case rel =>
        exact ⟨k + 1, by go_num, by omega, val_int HF.out.symm⟩
      case measure => simp [intOf]; omega
    · obtain rfl : k = ls.length := by omega
      have hG := grow_nil (cat ls ls.length).length w (by omega)
      have HG := Lib.hid hG
      clear hG hle
      go_wp2_with fail
      refine HG.out.mono ?_
      rintro e w1 ⟨g, rfl, ho, hb⟩
      have HO := Lib.hid ho
      have HB := Lib.hid hb
      clear ho hb HG
      go_wp2_with fail
      go_loopw [6, 27] (fun g i wr => ∃ k : Nat, i = .int .i64 k ∧ k ≤ ls.length ∧ wr.ownsRow w.heap.size 5 1 g (cat ls k).length ((cat ls k).map u8v) ∧ Ext w wr) (fun _ i _ => ls.length - (intOf i).toNat)
      case atStart => exact ⟨0, rfl, Nat.zero_le _, HO.out, HB.out⟩
      case round =>
        obtain ⟨k, rfl, hk, hown, hbel⟩ := hrel
        by_cases hlt2 : k < ls.length
        · rcases HA.out with ⟨h, _⟩ | ⟨b, o, rfl, hb, hlc, hc⟩
          · rw [h] at hlt2; simp at hlt2
          obtain ⟨x, hx, hxr⟩ := hc k hlt2
          have hxr' := hxr.below hbel
          have hx' : wr.cell? ⟨b, o + k, none⟩ = some x := by rw [hbel.cell (p := ⟨b, o + k, none⟩) hb]; exact hx
          have hraw := hxr'.raw (fun _ => rfl)
          have hf := flatten_take ls k hlt2
          have hle2 := flatten_le ls (k + 1)
          have h63 : (cat ls k).length + (ls[k]).length ≤ maxLen := by
            rw [hf, List.length_append] at hle2; unfold maxLen; omega
          have hby : ((cat ls k).length + (ls[k]).length) * 1 ≤ 140737488355328 := by
            rw [hf, List.length_append] at hle2; omega
          have hsz := hbel.size
          have HF := Lib.hid hf
          clear hc hxr hx hf hxr' hle2
          go_wp2_with (at_builtin; refine wpList_append_raw rfl _ _ _ rfl tyU8 w.heap.size hown rfl hraw rfl h63 hby hsz ?_; intro v' w' hown2 hg)
          go_roundw
          case rel =>
            refine ⟨k + 1, by go_num, by omega, ?_, hbel.grown hg hsz (fun k hk => (World.ownsRow.lt hown k hk).1)⟩
            rw [HF.out, List.length_append, List.map_append]; exact hown2
          case measure => simp [intOf]; omega
        · obtain rfl : k = ls.length := by omega
          rw [cat_all] at hown
          go_wp2_with fail
          go_ret
          exact ⟨_, rfl, hown, hbel⟩
end Go.Proofs.YtnenbmbgmmeiaaaDoor
