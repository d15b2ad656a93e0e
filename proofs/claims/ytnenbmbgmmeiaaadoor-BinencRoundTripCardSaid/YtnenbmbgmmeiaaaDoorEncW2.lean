/- Walks: bytes.TrimRight at a zero byte, slices.Grow of nil, slices.Concat. -/
import Derived.Test.YtnenbmbgmmeiaaaDoorEncW1
import Derived.Test.YtnenbmbgmmeiaaaDoorNat
import Derived.Lib.AppendZeros
import Derived.Test.YtnenbmbgmmeiaaaDoorRat
namespace Go.Proofs.YtnenbmbgmmeiaaaDoor
open Go.RowKit En
variable {α : Type}

set_option maxRecDepth 100000 in
theorem trimByte_any (v : Value) (l : List UInt8) (w : World) (hv : IsBytes w v l) :
    Calls Tryd.prog 94 #[v, .int .u8 0] w fun e w' => ∃ v', e = .returned v' ∧ IsBytes w v' (Nb.digs (Nb.val l)) ∧ w = w' := by
  have hv0 := Lib.hid hv
  obtain ⟨a, cap, rfl, hm, ha⟩ := hv
  have hl := row_len hm ha
  have hcap : l.length ≤ cap := by
    rcases ha with ⟨rfl, _⟩ | ⟨_, _, _, _, h, _⟩
    · simp
    · exact h
  have HA := Lib.hid ha
  clear ha
  unfold maxLen at hm
  go_enter Tryd.func94, Tryd.ntmps94
  go_wp2
  go_loop [0] (fun i => ∃ k : Nat, i = .slice a k cap ∧ k ≤ l.length ∧ Hid (Nb.val (l.take k) = Nb.val l)) (fun i => match i with | .slice _ k _ => k | _ => 0)
  case atStart => exact ⟨l.length, rfl, Nat.le_refl _, by show _ = _; rw [List.take_length]⟩
  case round =>
    obtain ⟨k, rfl, hk, HV⟩ := hrel
    by_cases h0 : k = 0
    · subst h0
      go_wp2
      go_ret
      have hD : Nb.digs (Nb.val l) = l.take 0 := Nb.digs_eq_take (by omega) HV.out (.inl rfl)
      have hr := row_cut (cap' := cap) (n := 0) hv0.out (by omega) (by omega) hm (fun h => by
        rcases HA.out with ⟨_, h'⟩ | ⟨_, _, h', _⟩
        · exact h' h
        · rw [h] at h'; cases h')
      exact ⟨_, rfl, by rw [hD]; exact hr, rfl⟩
    · obtain ⟨j, rfl⟩ : ∃ j, k = j + 1 := ⟨k - 1, by omega⟩
      rcases HA.out with ⟨rfl, _⟩ | ⟨b, o, rfl, hb, hlc, hc⟩
      · simp at hk
      have hck := hc j (by omega)
      have hlt : j < l.length := by omega
      clear hc
      by_cases hz : l[j] = 0
      · have HE : Hid (Nb.val (l.take j) = Nb.val l) := by show _ = _; rw [← HV.out, Nb.val_take_succ l j hlt, hz]; simp
        have hzb : ((l[j].toNat : Int) == 0) = true := by rw [hz]; rfl
        have HZ := Lib.hid hz
        clear hz
        go_wp2
        go_round
        case rel => exact ⟨j, rfl, by omega, HE⟩
        case measure => simp
      · have hzb : ((l[j].toNat : Int) == 0) = false := by
          rw [beq_eq_false_iff_ne]; intro e; exact hz (UInt8.toNat_inj.1 (by simp; omega))
        have HZ := Lib.hid hz
        clear hz
        go_wp2
        go_ret
        have hD : Nb.digs (Nb.val l) = l.take (j + 1) := Nb.digs_eq_take (by omega) HV.out (.inr ⟨by omega, HZ.out⟩)
        have hr := row_cut (cap' := cap) (n := j + 1) hv0.out (by omega) (by omega) hm (fun h => by cases h)
        exact ⟨_, rfl, by rw [hD]; exact hr, rfl⟩

set_option maxRecDepth 100000 in
theorem trim_any (v : Value) (l : List UInt8) (w : World) (hv : IsBytes w v l) :
    Calls Tryd.prog 80 #[v, .string ⟨#[0]⟩] w fun e w' => ∃ v', e = .returned v' ∧ IsBytes w v' (Nb.digs (Nb.val l)) ∧ w = w' := by
  have HV := Lib.hid hv
  obtain ⟨a, cap, rfl⟩ := hv.shape
  have HT := Lib.hid (trimByte_any _ _ _ hv)
  have hl := hv.len
  unfold maxLen at hl
  clear hv
  by_cases h0 : l.length = 0
  · have e : l = [] := List.eq_nil_of_length_eq_zero h0
    subst e
    have HT2 := HV
    go_enter Tryd.func80, Tryd.ntmps80
    go_wp2_with fail
    go_ret
    exact ⟨_, rfl, HV.out, rfl⟩
  · have h0' : ((l.length : Int) == 0) = false := by rw [beq_eq_false_iff_ne]; omega
    go_enter Tryd.func80, Tryd.ntmps80
    go_wp2_with fail
    refine HT.out.mono ?_
    rintro e w' ⟨v', rfl, hr, rfl⟩
    have HR := Lib.hid hr
    clear hr HT
    go_wp2_with fail
    go_ret
    exact ⟨_, rfl, HR.out, rfl⟩

set_option maxRecDepth 100000 in
theorem grow_nil (n : Nat) (w : World) (hn : n ≤ 100000000000) :
    Calls Tryd.prog 79 #[.slice none 0 0, .int .i64 n] w fun e w' => ∃ v', e = .returned v' ∧ w'.ownsRow w.heap.size 5 1 v' 0 ([].map u8v) ∧ Ext w w' := by
  rcases Nat.eq_zero_or_pos n with rfl | h0
  · go_enter Tryd.func79, Tryd.ntmps79
    go_wp2_with fail
    go_ret
    exact ⟨_, rfl, World.ownsRow_nil _ _ _ _, Below.refl _ _⟩
  · obtain ⟨i, hi, hz, hsz, hby⟩ := tyU8.info
    have happ := Lib.run_append_nil_zeros (P := Tryd.prog) w 23 3 23 5 i (.int .u8 0) .i64 .i64 Tryd.underlying23 Tryd.underlying3 hi hz n h0 (by omega) (by omega) (by rw [hby]; omega)
    have hge := grownCap_ge w n 0 5
    have hle := grownCap_le_maxLen w n 0 5 (by unfold maxLen; omega)
    have hzc : ∀ k, (Builtin.zeroCells (Value.int .u8 0).cells k).size = k := fun k => by
      have hc1 : (Value.int .u8 0).cells.size = 1 := rfl
      simp [Builtin.zeroCells, hc1]
    have hown := World.ownsRow_made (base := w.heap.size) (e := 5) (size := 1) w.drew (Builtin.zeroCells (Value.int .u8 0).cells n ++ Builtin.zeroCells (Value.int .u8 0).cells (grownCap w n 0 5 - n)) (grownCap w n 0 5) (Nat.le_refl _) hle (by rw [Array.size_append, hzc, hzc]; omega)
    have HO := Lib.hid hown
    clear hown
    go_enter Tryd.func79, Tryd.ntmps79
    go_wp2_with (at_builtin; refine Lib.wpList_append_run _ rfl _ _ _ _ rfl _ _ rfl rfl _ _ happ ?_)
    go_ret
    exact ⟨_, rfl, HO.out, (below_drewN (Below.refl _ _) 1).alloc (Nat.le_refl _) _⟩
def cat (ls : List (List UInt8)) (k : Nat) : List UInt8 := (ls.take k).flatten
theorem flatten_take (ls : List (List UInt8)) (k : Nat) (hk : k < ls.length) : cat ls (k + 1) = cat ls k ++ ls[k] := by
  unfold cat; rw [take_snoc ls k hk, List.flatten_append]; simp
theorem cat_all (ls : List (List UInt8)) : cat ls ls.length = ls.flatten := by unfold cat; rw [List.take_length]
theorem flatten_le (ls : List (List UInt8)) (k : Nat) : (cat ls k).length ≤ ls.flatten.length := by
  unfold cat
  conv => rhs; rw [← List.take_append_drop k ls, List.flatten_append, List.length_append]
  omega
set_option maxRecDepth 100000 in
set_option maxHeartbeats 800000 in
theorem concat_any (v : Value) (ls : List (List UInt8)) (w : World) (hv : IsParts w v ls) (hlen : ls.flatten.length ≤ 1000000000) :
    Calls Tryd.prog 58 #[v] w fun e w' => ∃ v', e = .returned v' ∧ w'.ownsRow w.heap.size 5 1 v' ls.flatten.length (ls.flatten.map u8v) ∧ Ext w w' := by
  obtain ⟨a, cap, rfl, hm, ha⟩ := hv
  have hl := sl_len hm ha
  have HA := Lib.hid ha
  clear ha
  go_enter Tryd.func58, Tryd.ntmps58
  go_wp2_with fail
  go_loop [3, 11] (fun s i => ∃ k : Nat, i = .int .i64 k ∧ k ≤ ls.length ∧ s = .int .i64 ((cat ls k).length : Nat)) (fun _ i => ls.length - (intOf i).toNat)
  case atStart => exact ⟨0, rfl, Nat.zero_le _, rfl⟩
  case round =>
    obtain ⟨k, rfl, hk, rfl⟩ := hrel
    have hle := flatten_le ls k
    by_cases hlt : k < ls.length
    · rcases HA.out with ⟨rfl, _⟩ | ⟨b, o, rfl, hb, hlc, hc⟩
      · simp at hlt
      obtain ⟨x, hx, hxr⟩ := hc k hlt
      obtain ⟨ax, cx, rfl⟩ := hxr.shape
      have hf : ((cat ls (k + 1)).length : Int) = ((cat ls k).length : Int) + ((ls[k]).length : Int) := by rw [flatten_take ls k hlt]; simp
      have hle2 := flatten_le ls (k + 1)
      have hs : ((cat ls k).length : Int) + ((ls[k]).length : Int) ≤ 1000000000 := by omega
      have HF := Lib.hid hf
      clear hc hxr hf
      go_wp2_with fail
      go_round
      case rel =>
        exact ⟨k + 1, by go_num, by omega, val_int HF.out.symm⟩
      case measure => simp [intOf]; omega
    · obtain rfl : k = ls.length := by omega
      have hG := grow_nil (cat ls ls.length).length w (by omega)
      have HG := Lib.hid hG
      clear hG hle
      go_wp2_with fail
      refine HG.out.mono ?_
      rintro e w1 ⟨g, rfl, ho, hb⟩
      have HO := Lib.hid ho
      have HB := Lib.hid hb
      clear ho hb HG
      go_wp2_with fail
      go_loopw [6, 27] (fun g i wr => ∃ k : Nat, i = .int .i64 k ∧ k ≤ ls.length ∧ wr.ownsRow w.heap.size 5 1 g (cat ls k).length ((cat ls k).map u8v) ∧ Ext w wr) (fun _ i _ => ls.length - (intOf i).toNat)
      case atStart => exact ⟨0, rfl, Nat.zero_le _, HO.out, HB.out⟩
      case round =>
        obtain ⟨k, rfl, hk, hown, hbel⟩ := hrel
        by_cases hlt2 : k < ls.length
        · rcases HA.out with ⟨h, _⟩ | ⟨b, o, rfl, hb, hlc, hc⟩
          · rw [h] at hlt2; simp at hlt2
          obtain ⟨x, hx, hxr⟩ := hc k hlt2
          have hxr' := hxr.below hbel
          have hx' : wr.cell? ⟨b, o + k, none⟩ = some x := by rw [hbel.cell (p := ⟨b, o + k, none⟩) hb]; exact hx
          have hraw := hxr'.raw (fun _ => rfl)
          have hf := flatten_take ls k hlt2
          have hle2 := flatten_le ls (k + 1)
          have h63 : (cat ls k).length + (ls[k]).length ≤ maxLen := by
            rw [hf, List.length_append] at hle2; unfold maxLen; omega
          have hby : ((cat ls k).length + (ls[k]).length) * 1 ≤ 140737488355328 := by
            rw [hf, List.length_append] at hle2; omega
          have hsz := hbel.size
          have HF := Lib.hid hf
          clear hc hxr hx hf hxr' hle2
          go_wp2_with (at_builtin; refine wpList_append_raw rfl _ _ _ rfl tyU8 w.heap.size hown rfl hraw rfl h63 hby hsz ?_; intro v' w' hown2 hg)
          go_roundw
          case rel =>
            refine ⟨k + 1, by go_num, by omega, ?_, hbel.grown hg hsz (fun k hk => (World.ownsRow.lt hown k hk).1)⟩
            rw [HF.out, List.length_append, List.map_append]; exact hown2
          case measure => simp [intOf]; omega
        · obtain rfl : k = ls.length := by omega
          rw [cat_all] at hown
          go_wp2_with fail
          go_ret
          exact ⟨_, rfl, hown, hbel⟩
end Go.Proofs.YtnenbmbgmmeiaaaDoor
/- Walks of binenc: PutBytes, small, PutRational. -/
namespace Go.Proofs.YtnenbmbgmmeiaaaDoor
open Go.RowKit En
variable {α : Type}
attribute [local go_sem] Go.Rel.Does Go.Rel.Upon Go.Rel.kept Go.Rel.valOf

set_option maxRecDepth 100000 in
theorem putBytes_any (v : Value) (l : List UInt8) (w : World) (hv : IsBytes w v l) (hlen : l.length ≤ 1000000000) :
    Calls Tryd.prog 25 #[v] w fun e w' => ∃ v', e = .returned v' ∧ w'.ownsRow w.heap.size 5 1 v' (putB l).length ((putB l).map u8v) ∧ Ext w w' := by
  have HP := Lib.hid (putUvarint_any l.length w (by omega))
  have HV := Lib.hid hv
  obtain ⟨a, cap, rfl⟩ := hv.shape
  clear hv
  go_enter Tryd.func25, Tryd.ntmps25
  go_wp2_with fail
  refine HP.out.mono ?_
  rintro e w1 ⟨v', rfl, ho, hb⟩
  have hraw := (HV.out.below hb).raw (fun _ => rfl)
  have hul := uvar_len 10 l.length
  have h63 : (uvar 10 l.length).length + l.length ≤ maxLen := by unfold maxLen; omega
  have hby : ((uvar 10 l.length).length + l.length) * 1 ≤ 140737488355328 := by omega
  have hsz := hb.size
  clear HP
  go_wp2_with (at_builtin; refine wpList_append_raw rfl _ _ _ rfl tyU8 w.heap.size ho rfl hraw rfl h63 hby hsz ?_; intro v2 w2 hown2 hg)
  go_ret
  refine ⟨_, rfl, ?_, hb.grown hg hsz (fun k hk => (World.ownsRow.lt ho k hk).1)⟩
  unfold putB
  rw [List.length_append, List.map_append]
  exact hown2

theorem le4_map (d : UInt32) : (Nb.le4 d).map u8v = [.int .u8 ((d.toNat : Int) % 256), .int .u8 ((d.toNat : Int) / 256 % 256), .int .u8 ((d.toNat : Int) / 65536 % 256), .int .u8 ((d.toNat : Int) / 16777216 % 256)] := by
  simp [Nb.le4, u8v, UInt32.toNat_shiftRight, Nat.shiftRight_eq_div_pow]
theorem nb_len (n : Nat) : (Nb.digs n).length ≤ 4 * (Na.digs n).length := by
  apply Nb.digs_length_le
  have h := Na.val_lt (Na.digs n)
  rw [Na.val_digs] at h
  have e : Nb.B ^ (4 * (Na.digs n).length) = Na.B ^ (Na.digs n).length := by
    rw [Nat.pow_mul]; rfl
  rw [e]; exact h

set_option maxRecDepth 100000 in
set_option maxHeartbeats 400000 in
theorem small_any (neg : Bool) (s : Value) (l : List UInt32) (w : World) (hs : IsU32s w s l) (hlen : l.length ≤ 100000000) :
    Calls Tryd.prog 59 #[.agg #[.bool neg, s]] w fun e w' => ∃ v', e = .returned v' ∧ IsBytes w' v' (Nb.digs (Na.val l)) ∧ Ext w w' := by
  have hb0 := below_alloc w (.cells #[.bool neg, s] 49)
  have HS := Lib.hid (hs.below hb0)
  obtain ⟨a, cap, rfl⟩ := hs.shape
  have HB0 := Lib.hid hb0
  clear hs hb0
  go_enter Tryd.func59, Tryd.ntmps59
  go_wp2_with fail
  go_loopw [3, 9] (fun v i wr => ∃ k : Nat, i = .int .i64 k ∧ k ≤ l.length ∧ wr.ownsRow (w.heap.size + 1) 5 1 v (Nb.bytes (l.take k)).length ((Nb.bytes (l.take k)).map u8v) ∧ Ext (w.alloc (.cells #[.bool neg, .slice a l.length cap] 49)) wr) (fun _ i _ => l.length - (intOf i).toNat)
  case atStart => exact ⟨0, rfl, Nat.zero_le _, World.ownsRow_nil _ _ _ _, Below.refl _ _⟩
  case round =>
    obtain ⟨k, rfl, hk, hown, hbel⟩ := hrel
    have hbl := Nb.bytes_len (l.take k)
    have htl : (l.take k).length = k := by simp; omega
    have hsz0 := hbel.size
    simp only [World.size_alloc] at hsz0
    by_cases hlt : k < l.length
    · obtain ⟨b, o, c, hsv, hb, hlc, hm, hc⟩ := row_some HS.out rfl (by omega)
      simp only [Value.slice.injEq] at hsv
      obtain ⟨rfl, -, -⟩ := hsv
      have hck : wr.cell? ⟨b, o + k, none⟩ = some (u32v l[k]) := by rw [hbel.cell (p := ⟨b, o + k, none⟩) hb]; exact hc k hlt
      clear hc
      obtain ⟨d, hd⟩ : ∃ d, l[k] = d := ⟨_, rfl⟩
      rw [hd] at hck
      have hraw := raw_new wr #[.int .u8 ((d.toNat : Int) % 256), .int .u8 ((d.toNat : Int) / 256 % 256), .int .u8 ((d.toNat : Int) / 65536 % 256), .int .u8 ((d.toNat : Int) / 16777216 % 256)] 5 4 1 rfl (by unfold maxLen; omega) (by
        intro u hu
        simp only [List.mem_cons, List.not_mem_nil, or_false] at hu
        rcases hu with rfl | rfl | rfl | rfl <;> rfl)
      have hown' := hown.alloc (.cells #[.int .u8 ((d.toNat : Int) % 256), .int .u8 ((d.toNat : Int) / 256 % 256), .int .u8 ((d.toNat : Int) / 65536 % 256), .int .u8 ((d.toNat : Int) / 16777216 % 256)] 5)
      have hsz1 : w.heap.size + 1 ≤ (wr.alloc (.cells #[.int .u8 ((d.toNat : Int) % 256), .int .u8 ((d.toNat : Int) / 256 % 256), .int .u8 ((d.toNat : Int) / 65536 % 256), .int .u8 ((d.toNat : Int) / 16777216 % 256)] 5)).heap.size := by simp; omega
      have h63 : (Nb.bytes (l.take k)).length + 4 ≤ maxLen := by unfold maxLen; omega
      have hby : ((Nb.bytes (l.take k)).length + 4) * 1 ≤ 140737488355328 := by omega
      have HT : Hid (Nb.bytes (l.take (k + 1)) = Nb.bytes (l.take k) ++ Nb.le4 d) := by show _ = _; rw [take_snoc l k hlt, hd, Nb.bytes_snoc]
      have HO := Lib.hid hown
      clear hd hown hbl htl
      go_wp2_with (at_builtin; refine wpList_append_raw rfl _ _ _ rfl tyU8 (w.heap.size + 1) hown' rfl hraw rfl h63 hby hsz1 ?_; intro v' w' hown2 hg)
      go_roundw
      case rel =>
        refine ⟨k + 1, by go_num, by omega, ?_, ?_⟩
        · rw [HT.out, List.length_append, List.map_append, le4_map]; exact hown2
        · exact (hbel.alloc (by simpa using hsz0) _).grown hg (by simpa using hsz1) (fun k hk => by have := (World.ownsRow.lt hown' k hk).1; simpa using this)
      case measure => simp [intOf]; omega
    · obtain rfl : k = l.length := by omega
      have hown3 := ownsRow_row hown
      have ht := trim_any _ _ wr hown3
      rw [List.take_length, Nb.val_bytes] at ht
      have HT := Lib.hid ht
      clear ht hown hown3 hbl htl
      go_wp2_with fail
      refine HT.out.mono ?_
      rintro e w' ⟨v', rfl, hr, rfl⟩
      have HR := Lib.hid hr
      clear hr
      go_wp2_with fail
      go_ret
      exact ⟨_, rfl, HR.out, Ext.trans' HB0.out hbel⟩
end Go.Proofs.YtnenbmbgmmeiaaaDoor
/- Walks of binenc: PutRational. -/
namespace Go.Proofs.YtnenbmbgmmeiaaaDoor
open Go.RowKit En
variable {α : Type}
attribute [local go_sem] Go.Rel.Does Go.Rel.Upon Go.Rel.kept Go.Rel.valOf

theorem nrm_len (n1 n2 : Bool) (l m : List UInt32) : (Na.digs (nrm n1 n2 (Na.val l) (Na.val m)).2.1).length ≤ l.length ∧ (Na.digs (nrm n1 n2 (Na.val l) (Na.val m)).2.2).length ≤ max 1 m.length := by
  unfold nrm
  split
  · have h1 : (Na.digs 1).length ≤ 1 := Na.digs_length_le (by decide)
    exact ⟨by rw [Na.digs_zero]; simp, by simp only; omega⟩
  · have h1 := digs_len_le (Nat.div_le_self (Na.val l) (Nat.gcd (Na.val l) (Na.val m)))
    have h2 := digs_len_le (Nat.div_le_self (Na.val m) (Nat.gcd (Na.val l) (Na.val m)))
    have := digs_len l
    have := digs_len m
    simp only; omega
/-- The bytes of a rational number in lowest terms. -/
def putQ (r : Bool × Nat × Nat) : List UInt8 := (if r.1 then 1 else 0) :: (putB (Nb.digs r.2.1) ++ putB (Nb.digs r.2.2))
theorem sl1_three {R : World → Value → α → Prop} (w : World) (x y z : Value) (a b c : α) (e : TypeId) (h1 : R (w.alloc (.cells #[x, y, z] e)) x a) (h2 : R (w.alloc (.cells #[x, y, z] e)) y b) (h3 : R (w.alloc (.cells #[x, y, z] e)) z c) :
    IsSl1 R (w.alloc (.cells #[x, y, z] e)) (.slice (some ⟨w.heap.size, 0, none⟩) 3 3) [a, b, c] := by
  refine ⟨_, _, rfl, by unfold maxLen; omega, .inr ⟨_, _, rfl, by simp, Nat.le_refl _, fun i hi => ?_⟩⟩
  rw [Nat.zero_add, World.cell?_alloc_at _ _ _ _ rfl]
  rcases i with _ | _ | _ | i
  · exact ⟨x, rfl, h1⟩
  · exact ⟨y, rfl, h2⟩
  · exact ⟨z, rfl, h3⟩
  · exact absurd hi (by simp)
theorem parts_mono {w w' : World} {v : Value} {ls : List (List UInt8)} (h : IsParts w v ls) (hb : Ext w w') : IsParts w' v ls := IsSl1.below (fun _ _ _ _ hb h => h.below hb) h hb

theorem IsRatN.parts {base : Nat} {w : World} {s t : Value} {n m neg : Bool} {a b : Nat} (h : IsRatN base w (.agg #[.bool n, s, .bool m, t]) neg a b) :
    IsU32s w s (Na.digs a) ∧ IsU32s w t (Na.digs b) ∧ From base s ∧ From base t := by
  obtain ⟨s', t', e, hs, ht, fs, ft⟩ := h
  simp only [Value.agg.injEq, Array.mk.injEq, List.cons.injEq, and_true] at e
  obtain ⟨-, rfl, -, rfl⟩ := e
  exact ⟨hs, ht, fs, ft⟩
def OwnB (base : Nat) (w : World) (v : Value) (l : List UInt8) : Prop := w.ownsRow base 5 1 v l.length (l.map u8v)
set_option maxRecDepth 100000 in
set_option maxHeartbeats 1600000 in
theorem putRational_any (n1 n2 : Bool) (s1 s2 : Value) (l m : List UInt32) (w : World) (h1 : IsU32s w s1 l) (h2 : IsU32s w s2 m) (hl1 : l.length ≤ 50000000) (hl2 : m.length ≤ 50000000) :
    Calls Tryd.prog 35 #[.agg #[.bool n1, s1, .bool n2, s2]] w fun e w' => ∃ v, e = .returned v ∧ w'.ownsRow w.heap.size 5 1 v (putQ (nrm n1 n2 (Na.val l) (Na.val m))).length ((putQ (nrm n1 n2 (Na.val l) (Na.val m))).map u8v) ∧ Ext w w' := by
  have hln := nrm_len n1 n2 l m
  have hb0 := below_alloc w (.cells #[.bool n1, s1, .bool n2, s2] 51)
  have HC := Lib.hid (ratNormalize_any n1 n2 s1 s2 l m _ (h1.below hb0) (h2.below hb0) (by omega) (by omega))
  have HB0 := Lib.hid hb0
  obtain ⟨a1, c1, rfl⟩ := h1.shape
  obtain ⟨a2, c2, rfl⟩ := h2.shape
  generalize nrm n1 n2 (Na.val l) (Na.val m) = r at *
  obtain ⟨ng, a, b⟩ := r
  simp only at hln
  clear h1 h2 hb0
  go_enter Tryd.func35, Tryd.ntmps35
  go_wp2_with fail
  refine HC.out.mono ?_
  rintro e w1 ⟨x, rfl, hx, hb1⟩
  obtain ⟨b1, d1, b2, d2, rfl⟩ := hx.shape
  obtain ⟨r0, f0, hz⟩ := newBlock hb1
  have F := Lib.hid hx
  have HB1 := Lib.hid (Ext.trans' HB0.out hb1)
  clear hx hb1 HC
  obtain ⟨sg, hsg⟩ : ∃ sg : UInt8, sg = if ng then 1 else 0 := ⟨_, rfl⟩
  obtain ⟨nb, hnb⟩ : ∃ nb : Bool, nb = ng := ⟨_, rfl⟩
  obtain ⟨q, hq⟩ : ∃ q, q = putQ (nb, a, b) := ⟨_, rfl⟩
  have HQ : Hid ([[sg], putB (Nb.digs a), putB (Nb.digs b)].flatten = q) := by
    show _ = _
    rw [hq, hsg, hnb]; simp [putQ]
  have hql : ([[sg], putB (Nb.digs a), putB (Nb.digs b)].flatten).length ≤ 1000000000 := by
    have := nb_len a
    have := nb_len b
    have := uvar_len 10 (Nb.digs a).length
    have := uvar_len 10 (Nb.digs b).length
    simp [putB]; omega
  have HQL := Lib.hid hql
  have HQ2 := Lib.hid hq
  have HSG := Lib.hid hsg
  have HNB := Lib.hid hnb
  clear hq hql
  clear hsg hnb
  have hqa := nb_len a
  have hqb := nb_len b
  have HP := Lib.hid (F.out.parts)
  clear F
  rcases Bool.eq_false_or_eq_true ng with rfl | rfl
  all_goals
    go_wp2_with fail
    generalize hW : World.setCell _ _ _ = W
    have hWb : Ext w W := by rw [← hW]; exact ext_store4 HB1.out (Nat.le_refl _) _ _ _ _
    have hk : ∀ w', Ext W w' → w'.cell? ⟨w.heap.size, 0, none⟩ = some (.bool nb) ∧ w'.cell? ⟨w.heap.size, 1, none⟩ = some (.slice b1 (Na.digs a).length d1) ∧ w'.cell? ⟨w.heap.size, 2, none⟩ = some (.bool false) ∧ w'.cell? ⟨w.heap.size, 3, none⟩ = some (.slice b2 (Na.digs b).length d2) := by
      intro w' hw'
      have hWz : w.heap.size < W.heap.size := by rw [← hW]; simpa [World.setCell] using hz
      refine ⟨?_, ?_, ?_, ?_⟩
      · rw [hw'.cell (p := ⟨w.heap.size, 0, none⟩) hWz, ← hW, HNB.out]; simp [go_sem, r0]
      · rw [hw'.cell (p := ⟨w.heap.size, 1, none⟩) hWz, ← hW]; simp [go_sem, r0]
      · rw [hw'.cell (p := ⟨w.heap.size, 2, none⟩) hWz, ← hW]; simp [go_sem, r0]
      · rw [hw'.cell (p := ⟨w.heap.size, 3, none⟩) hWz, ← hW]; simp [go_sem, r0]
    have HK := Lib.hid hk
    have hA : IsU32s W (.slice b1 (Na.digs a).length d1) (Na.digs a) := by
      rw [← hW]; exact HP.out.1.ch (((((Ch.refl w.heap.size _).setCell _ _).setCell _ _).setCell _ _).setCell _ _) (fun _ => HP.out.2.2.1.off (by simp))
    have hB : IsU32s W (.slice b2 (Na.digs b).length d2) (Na.digs b) := by
      rw [← hW]; exact HP.out.2.1.ch (((((Ch.refl w.heap.size _).setCell _ _).setCell _ _).setCell _ _).setCell _ _) (fun _ => HP.out.2.2.2.off (by simp))
    have HAB := Lib.hid (And.intro hA hB)
    have HWB := Lib.hid hWb
    clear hk hW hWb hA hB
    refine Go.Rel.wp_region 12 (by kernel_rfl) (by kernel_rfl) Ext (fun w' => Ext W w')
      [Rel.is (u8v sg), fun v w' => IsBytes w' v [sg], Rel.is (.pointer (some ⟨w.heap.size, 0, none⟩)), Rel.is (.agg #[.bool nb, .slice b1 (Na.digs a).length d1]),
       fun v w' => IsBytes w' v (Nb.digs a), fun v w' => IsBytes w' v (putB (Nb.digs a)), Rel.is (.pointer (some ⟨w.heap.size, 2, none⟩)), Rel.is (.agg #[.bool false, .slice b2 (Na.digs b).length d2]),
       fun v w' => IsBytes w' v (Nb.digs b), fun v w' => IsBytes w' v (putB (Nb.digs b)), fun v w' => IsParts w' v [[sg], putB (Nb.digs a), putB (Nb.digs b)],
       fun v w' => OwnB w.heap.size w' v q]
      ?_ ?_ ?_ ⟨?_, ?_, ?_, ?_, ?_, ?_, ?_, ?_, ?_, ?_, ?_, ?_, trivial⟩ ?_
    · exact below_drewN (Below.refl _ _) 1
    · exact fun _ _ h k => Ext.trans' h k
    · exact Rel.Monos.mem ⟨Rel.mono_is _, fun _ _ _ h k => k.below h, Rel.mono_is _, Rel.mono_is _, fun _ _ _ h k => k.below h, fun _ _ _ h k => k.below h, Rel.mono_is _, Rel.mono_is _, fun _ _ _ h k => k.below h, fun _ _ _ h k => k.below h,
        fun _ _ _ h k => parts_mono k h, fun _ _ _ h k => ownsRow_ext k h, trivial⟩
    · intro ρ w' hs ho hC hd
      have h2 : ρ (.tmp 3) = u8v sg := (ho 3 rfl).trans (by rw [HSG.out]; rfl)
      simp [go_sem, h2]
      exact ⟨Ext.rfl', rfl⟩
    · intro ρ w' hs ho hC hd
      obtain ⟨hd1, -⟩ := hd
      have h1 : ρ (.tmp 9) = _ := hd1 rfl
      simp [go_sem, h1]
      exact ⟨below_alloc _ _, row_new _ [sg] _ (by unfold maxLen; simp)⟩
    · intro ρ w' hs ho hC hd
      have h2 : ρ (.tmp 1) = .pointer (some ⟨w.heap.size, 0, none⟩) := ho 1 rfl
      simp [go_sem, h2]
      exact ⟨Ext.rfl', rfl⟩
    · intro ρ w' hs ho hC hd
      obtain ⟨hd1, -⟩ := hd
      have h1 : ρ (.tmp 11) = _ := hd1 rfl
      obtain ⟨k1, k2, -⟩ := HK.out w' hC
      simp [go_sem, h1, k1, k2]
      exact ⟨Ext.rfl', rfl⟩
    · intro ρ w' hs ho hC hd
      obtain ⟨hd1, -⟩ := hd
      have h1 : ρ (.tmp 12) = _ := hd1 rfl
      simp [go_sem, h1, hs.func]
      have hc := small_any nb _ _ w' (HAB.out.1.below hC) (by omega)
      rw [Na.val_digs] at hc
      refine hc.mono ?_
      rintro e w'' ⟨v, rfl, hr, hb⟩
      exact ⟨_, rfl, hb, hr⟩
    · intro ρ w' hs ho hC hd
      obtain ⟨hd1, -⟩ := hd
      have h1 : IsBytes w' (ρ (.tmp 13)) _ := hd1 rfl
      simp [go_sem, hs.func]
      refine (putBytes_any _ _ w' h1 (by omega)).mono ?_
      rintro e w'' ⟨v, rfl, hr, hb⟩
      exact ⟨_, rfl, hb, ownsRow_row hr⟩
    · intro ρ w' hs ho hC hd
      have h2 : ρ (.tmp 1) = .pointer (some ⟨w.heap.size, 0, none⟩) := ho 1 rfl
      simp [go_sem, h2]
      exact ⟨Ext.rfl', rfl⟩
    · intro ρ w' hs ho hC hd
      obtain ⟨hd1, -⟩ := hd
      have h1 : ρ (.tmp 15) = _ := hd1 rfl
      obtain ⟨-, -, k1, k2⟩ := HK.out w' hC
      simp [go_sem, h1, k1, k2]
      exact ⟨Ext.rfl', rfl⟩
    · intro ρ w' hs ho hC hd
      obtain ⟨hd1, -⟩ := hd
      have h1 : ρ (.tmp 16) = _ := hd1 rfl
      simp [go_sem, h1, hs.func]
      have hc := small_any false _ _ w' (HAB.out.2.below hC) (by omega)
      rw [Na.val_digs] at hc
      refine hc.mono ?_
      rintro e w'' ⟨v, rfl, hr, hb⟩
      exact ⟨_, rfl, hb, hr⟩
    · intro ρ w' hs ho hC hd
      obtain ⟨hd1, -⟩ := hd
      have h1 : IsBytes w' (ρ (.tmp 17)) _ := hd1 rfl
      simp [go_sem, hs.func]
      refine (putBytes_any _ _ w' h1 (by omega)).mono ?_
      rintro e w'' ⟨v, rfl, hr, hb⟩
      exact ⟨_, rfl, hb, ownsRow_row hr⟩
    · intro ρ w' hs ho hC hd
      obtain ⟨hd1, hd2, hd3, -⟩ := hd
      have h1 : IsBytes w' (ρ (.tmp 10)) _ := hd1 rfl
      have h2 : IsBytes w' (ρ (.tmp 14)) _ := hd2 rfl
      have h3 : IsBytes w' (ρ (.tmp 18)) _ := hd3 rfl
      obtain ⟨x1, y1, e1⟩ := h1.shape
      obtain ⟨x2, y2, e2⟩ := h2.shape
      obtain ⟨x3, y3, e3⟩ := h3.shape
      rw [e1] at h1
      rw [e2] at h2
      rw [e3] at h3
      simp [go_sem, e1, e2, e3]
      exact ⟨below_alloc _ _, sl1_three w' _ _ _ _ _ _ _ (h1.below (below_alloc _ _)) (h2.below (below_alloc _ _)) (h3.below (below_alloc _ _))⟩
    · intro ρ w' hs ho hC hd
      obtain ⟨hd1, -⟩ := hd
      have h1 : IsParts w' (ρ (.tmp 19)) _ := hd1 rfl
      simp [go_sem, hs.func]
      refine (concat_any _ _ w' h1 HQL.out).mono ?_
      rintro e w'' ⟨v, rfl, hr, hb⟩
      refine ⟨_, rfl, hb, ?_⟩
      rw [HQ.out] at hr
      exact ownsRow_mono hr (by have := (Ext.trans' HWB.out hC).size; exact this)
    · intro w' hC
      rintro _ rfl v1 h1 _ rfl _ rfl v4 h4 v5 h5 _ rfl _ rfl v8 h8 v9 h9 v10 h10 v11 h11
      change wpList _ _ _ (List.drop 12 _) _ _
      simp only [List.drop_succ_cons, List.drop_zero]
      have h12 : Hid (w'.ownsRow w.heap.size 5 1 v11 (putQ (nb, a, b)).length ((putQ (nb, a, b)).map u8v)) := by
        have := HQ2.out
        rw [← this]; exact h11
      rw [HNB.out] at h12
      have HX := Lib.hid (Ext.trans' HWB.out hC)
      clear h1 h4 h5 h8 h9 h10 h11
      go_wp2_with fail
      go_ret
      exact ⟨v11, rfl, h12.out, HX.out⟩
end Go.Proofs.YtnenbmbgmmeiaaaDoor
/- Walk of the chapter's examples. -/
namespace Go.Proofs.YtnenbmbgmmeiaaaDoor
open Go.RowKit En
variable {α : Type}

theorem ex1 : uvar 10 (zig (-1)) = [1] := by decide
theorem ex2 : vat [9, 1] 1 = (-1, 2, 0) := by decide
theorem ex3 : putQ (nrm true false 1 2) = [1, 1, 1, 1, 2] := by decide
theorem bytes_lit (w : World) (l : List UInt8) (cs : Array Value) (n : Nat) (e : TypeId) (hc : (l.map u8v).toArray = cs) (hn : l.length = n) (hm : n ≤ maxLen) : IsBytes (w.alloc (.cells cs e)) (.slice (some ⟨w.heap.size, 0, none⟩) n n) l := by
  subst hc hn
  exact row_new w l e hm
theorem u32s_lit (w : World) (l : List UInt32) (cs : Array Value) (n : Nat) (e : TypeId) (hc : (l.map u32v).toArray = cs) (hn : l.length = n) (hm : n ≤ maxLen) : IsU32s (w.alloc (.cells cs e)) (.slice (some ⟨w.heap.size, 0, none⟩) n n) l := by
  subst hc hn
  exact row_new w l e hm
theorem one_le_maxLen : (5 : Nat) ≤ maxLen := by unfold maxLen; omega
set_option maxRecDepth 100000 in
set_option maxHeartbeats 1600000 in
theorem example_any (w : World) : Calls Tryd.prog 18 #[] w fun e w' => e = .returned (.bool true) ∧ Ext w w' := by
  have hm5 := one_le_maxLen
  obtain ⟨w1, hw1⟩ : ∃ w1, w1 = w.alloc (.cells #[.int .u32 1] 75) := ⟨_, rfl⟩
  obtain ⟨w2, hw2⟩ : ∃ w2, w2 = w1.alloc (.cells #[.int .u32 2] 75) := ⟨_, rfl⟩
  obtain ⟨w3, hw3⟩ : ∃ w3, w3 = w2.alloc (.cells #[.bool true, .slice (some ⟨w.heap.size, 0, none⟩) 1 1, .bool false, .slice (some ⟨w.heap.size + 1, 0, none⟩) 1 1] 51) := ⟨_, rfl⟩
  obtain ⟨w4, hw4⟩ : ∃ w4, w4 = w3.alloc (.cells #[.int .u8 9, .int .u8 1] 5) := ⟨_, rfl⟩
  have z1 : w1.heap.size = w.heap.size + 1 := by rw [hw1]; simp
  have z2 : w2.heap.size = w.heap.size + 1 + 1 := by rw [hw2]; simp [z1]
  have z3 : w3.heap.size = w.heap.size + 1 + 1 + 1 := by rw [hw3]; simp [z2]
  have e01 : Ext w w1 := by rw [hw1]; exact below_alloc _ _
  have e12 : Ext w1 w2 := by rw [hw2]; exact below_alloc _ _
  have e23 : Ext w2 w3 := by rw [hw3]; exact below_alloc _ _
  have e34 : Ext w3 w4 := by rw [hw4]; exact below_alloc _ _
  have r1 : IsU32s w1 (.slice (some ⟨w.heap.size, 0, none⟩) 1 1) [1] := by rw [hw1]; exact u32s_lit w [1] _ 1 _ rfl rfl (by omega)
  have r2 : IsU32s w2 (.slice (some ⟨w.heap.size + 1, 0, none⟩) 1 1) [2] := by rw [hw2, ← z1]; exact u32s_lit w1 [2] _ 1 _ rfl rfl (by omega)
  have r4 : IsBytes w4 (.slice (some ⟨w.heap.size + 1 + 1 + 1, 0, none⟩) 2 2) [9, 1] := by rw [hw4, ← z3]; exact bytes_lit w3 [9, 1] _ 2 _ rfl rfl (by omega)
  have c3 : ∀ i, w3.cell? ⟨w.heap.size + 1 + 1, i, none⟩ = #[Value.bool true, .slice (some ⟨w.heap.size, 0, none⟩) 1 1, .bool false, .slice (some ⟨w.heap.size + 1, 0, none⟩) 1 1][i]? := fun i => by rw [hw3, ← z2, World.cell?_alloc_at _ _ _ _ rfl]
  have HV := varint_any _ [9, 1] 1 w4 r4
  rw [ex2] at HV
  have HA := Lib.hid (And.intro r1 (And.intro r2 (And.intro (Ext.trans' e01 (Ext.trans' e12 (Ext.trans' e23 e34))) (And.intro (Ext.trans' e12 (Ext.trans' e23 e34)) (Ext.trans' e23 e34)))))
  have HC3 := Lib.hid (And.intro c3 e34)
  have HZ3 := Lib.hid z3
  rw [hw4, hw3, hw2, hw1] at HV
  have HV' := Lib.hid HV
  have HW := Lib.hid (And.intro hw1 (And.intro hw2 (And.intro hw3 hw4)))
  clear HV hw1 hw2 hw3 hw4 z1 z2 z3 e01 e12 e23 e34 r1 r2 r4 c3
  go_enter Tryd.func18, Tryd.ntmps18
  go_wp2_with fail
  refine HV'.out.mono ?_
  rintro e w5 ⟨rfl, hb5⟩
  have hb5' : Ext w4 w5 := by rw [HW.out.2.2.2, HW.out.2.2.1, HW.out.2.1, HW.out.1]; exact hb5
  have HB5 := Lib.hid hb5'
  have HP := Lib.hid (putVarint_any (-1) w5 (by omega) (by omega))
  rw [ex1] at HP
  clear HV' hb5 hb5'
  go_wp2_with fail
  refine HP.out.mono ?_
  rintro e w6 ⟨v6, rfl, ho6, hb6⟩
  have hr6 := ownsRow_row ho6
  have HS := Lib.hid (same06 v6 (.slice (some ⟨w6.heap.size, 0, none⟩) 1 1) [1] [1] (w6.alloc (.cells #[.int .u8 1] 5)) (hr6.below (below_alloc _ _)) (bytes_lit w6 [1] _ 1 _ rfl rfl (by omega)))
  have HB6 := Lib.hid (Ext.trans' HB5.out hb6)
  clear HP ho6 hr6 hb6
  go_wp2_with fail
  refine HS.out.mono ?_
  rintro e w7 ⟨rfl, hb7⟩
  have h47 := Ext.trans' HB6.out (Ext.trans' (below_alloc _ _) hb7)
  have h37 := Ext.trans' HC3.out.2 h47
  have hk7 : ∀ i, w7.cell? ⟨w.heap.size + 1 + 1, i, none⟩ = #[Value.bool true, .slice (some ⟨w.heap.size, 0, none⟩) 1 1, .bool false, .slice (some ⟨w.heap.size + 1, 0, none⟩) 1 1][i]? := fun i => by
    rw [h37.cell (p := ⟨w.heap.size + 1 + 1, i, none⟩) (by rw [HZ3.out]; simp)]; exact HC3.out.1 i
  have g1 := HA.out.1.below (Ext.trans' HA.out.2.2.2.1 h47)
  have g2 := HA.out.2.1.below (Ext.trans' HA.out.2.2.2.2 h47)
  have hq := putRational_any true false _ _ [1] [2] w7 g1 g2 (by decide) (by decide)
  have eq3 : nrm true false (Na.val [1]) (Na.val [2]) = nrm true false 1 2 := rfl
  rw [eq3, ex3] at hq
  have HQ := Lib.hid hq
  have HB7 := Lib.hid h47
  clear HS hb7 h47 h37 g1 g2 hq eq3
  go_wp2_with fail
  refine HQ.out.mono ?_
  rintro e w8 ⟨v8, rfl, ho8, hb8⟩
  have hr8 := ownsRow_row ho8
  have HS := Lib.hid (same06 v8 (.slice (some ⟨w8.heap.size, 0, none⟩) 5 5) [1, 1, 1, 1, 2] [1, 1, 1, 1, 2] (w8.alloc (.cells #[.int .u8 1, .int .u8 1, .int .u8 1, .int .u8 1, .int .u8 2] 5)) (hr8.below (below_alloc _ _)) (bytes_lit w8 [1, 1, 1, 1, 2] _ 5 _ rfl rfl hm5))
  have HB8 := Lib.hid (Ext.trans' HB7.out hb8)
  clear HQ ho8 hr8 hb8 hk7
  go_wp2_with fail
  refine HS.out.mono ?_
  rintro e w9 ⟨rfl, hb9⟩
  have HB9 := Lib.hid (Ext.trans' HA.out.2.2.1 (Ext.trans' HB8.out (Ext.trans' (below_alloc _ _) hb9)))
  clear HS hb9
  go_wp2_with fail
  go_ret
  exact ⟨rfl, HB9.out⟩
end Go.Proofs.YtnenbmbgmmeiaaaDoor
