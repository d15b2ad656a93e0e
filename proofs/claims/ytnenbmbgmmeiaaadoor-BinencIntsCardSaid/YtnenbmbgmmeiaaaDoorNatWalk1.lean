/- Walks of package natural: short, Normalize, FromUint64, digit, Cmp. -/
import Derived.Test.YtnenbmbgmmeiaaaDoorNatTypes
import Derived.Test.YtnenbmbgmmeiaaaDoorNat
import Derived.Test.YtnenbmbgmmeiaaaDoorBits
import Derived.Deep.QuietTactic
import Derived.BigQuiet
namespace Go.Proofs.YtnenbmbgmmeiaaaDoor
set_option linter.unusedVariables false
open Go.RowKit
variable {α : Type}

theorem val_short_step (l : List UInt32) (k : Nat) (hk : k < l.length) (hv : Na.val (l.take (k + 1)) = Na.val l) (h : l[k] = 0) : Na.val (l.take k) = Na.val l := by
  rw [← hv, Na.val_take_succ l k hk, h]; simp

set_option maxHeartbeats 400000 in
theorem short_any (v : Value) (l : List UInt32) (w : World) (hv : IsU32s w v l) :
    Calls Tryd.prog 106 #[v] w fun e w' => ∃ a, e = .returned (.slice a (Na.digs (Na.val l)).length (Na.digs (Na.val l)).length) ∧
      IsU32s w (.slice a (Na.digs (Na.val l)).length (Na.digs (Na.val l)).length) (Na.digs (Na.val l)) ∧ w = w' := by
  have hv0 := Lib.hid hv
  obtain ⟨a, cap, rfl, hm, ha⟩ := hv
  have hl := row_len hm ha
  have hcap : l.length ≤ cap := by
    rcases ha with ⟨rfl, _⟩ | ⟨_, _, _, _, h, _⟩
    · simp
    · exact h
  have HA := Lib.hid ha
  clear ha
  unfold maxLen at hm
  go_enter Tryd.func106, Tryd.ntmps106
  go_wp2
  go_loop [3] (fun i => ∃ k : Nat, k ≤ l.length ∧ i = .int .i64 k ∧ Na.val (l.take k) = Na.val l) (fun i => (intOf i).toNat)
  case atStart => exact ⟨l.length, Nat.le_refl _, rfl, by rw [List.take_length]⟩
  case round =>
    obtain ⟨k, hk, rfl, hval⟩ := hrel
    have HV := Lib.hid hval
    clear hval
    by_cases h0 : k = 0
    · subst h0
      go_wp2
      go_ret
      have hD : Na.digs (Na.val l) = l.take 0 := Na.digs_eq_take (by omega) HV.out (.inl rfl)
      have hr := row_cut (cap' := 0) (n := 0) hv0.out (by omega) (by omega) (by unfold maxLen; omega) (fun _ => rfl)
      refine ⟨a, by rw [hD]; rfl, by rw [hD]; exact hr, rfl⟩
    · obtain ⟨j, rfl⟩ : ∃ j, k = j + 1 := ⟨k - 1, by omega⟩
      rcases HA.out with ⟨rfl, _⟩ | ⟨b, o, rfl, hb, hlc, hc⟩
      · simp at hk
      have hck := hc j (by omega)
      have hlt : j < l.length := by omega
      clear hc
      by_cases hz : l[j] = 0
      · have HE := Lib.hid (val_short_step l j hlt HV.out hz)
        rw [hz] at hck
        go_wp2
        go_round
        case rel => exact ⟨j, by omega, by go_num, HE.out⟩
        case measure => simp [intOf]
      · have hzb : ((l[j].toNat : Int) == 0) = false := by
          rw [beq_eq_false_iff_ne]; intro e; exact hz (UInt32.toNat_inj.1 (by simp; omega))
        have HZ := Lib.hid hz
        clear hz
        go_wp2
        go_ret
        have hD : Na.digs (Na.val l) = l.take (j + 1) := Na.digs_eq_take (by omega) HV.out (.inr ⟨by omega, HZ.out⟩)
        have hr := row_cut (cap' := j + 1) (n := j + 1) hv0.out (by omega) (by omega) (by unfold maxLen; omega) (fun h => by cases h)
        have e : (l.take (j + 1)).length = j + 1 := by simp; omega
        refine ⟨_, by rw [hD, e]; rfl, by rw [hD, e]; exact hr, rfl⟩

set_option maxHeartbeats 400000 in
theorem clone32 (v : Value) (l : List UInt32) (w : World) (hv : IsU32s w v l) (hlen : l.length ≤ 1000000000) :
    Calls Tryd.prog 105 #[v] w fun e w' => ∃ v', e = .returned v' ∧ w'.ownsRow w.heap.size 75 1 v' l.length (l.map u32v) ∧ Ext w w' := by
  have hr := hv.raw (fun _ => rfl)
  obtain ⟨a, cap, rfl, hm, ha⟩ := hv
  rcases a with _ | ad
  · have hz : l = [] ∧ cap = 0 := by
      rcases ha with ⟨h, h0⟩ | ⟨b, o, h, _⟩
      · exact ⟨h, h0 rfl⟩
      · cases h
    obtain ⟨rfl, rfl⟩ := hz
    have hnil := Lib.run_eql_slice_nil (P := Tryd.prog) w 47 75 none 0 0 0 0 Tryd.underlying47
    clear ha hr
    go_enter Tryd.func105, Tryd.ntmps105
    go_wp2
    go_ret
    exact ⟨_, rfl, World.ownsRow_nil _ _ _ _, Below.refl _ _⟩
  · have hnil := Lib.run_eql_slice_nil (P := Tryd.prog) w 47 75 (some ad) l.length cap 0 0 Tryd.underlying47
    have hown := World.ownsRow_lit (base := w.heap.size) (e := 75) (size := 1) w #[] 0 (Nat.le_refl _) (Nat.zero_le _) rfl
    have hr := raw_alloc hr (.cells #[] 75)
    have h63 : 0 + l.length ≤ maxLen := by unfold maxLen; omega
    have hby : (0 + l.length) * 4 ≤ 140737488355328 := by omega
    clear ha
    go_enter Tryd.func105, Tryd.ntmps105
    go_wp2_with (at_builtin; refine wpList_append_raw rfl _ _ _ rfl tyU32 w.heap.size hown rfl hr rfl h63 hby (by simp) ?_; intro v' w' hown' hg)
    go_ret
    simp only [Nat.zero_add, List.nil_append] at hown'
    exact ⟨_, rfl, by simpa using hown', ((Below.refl _ _).alloc (Nat.le_refl _) _).grown hg (by simp) (by simp [Value.ownBlock])⟩

theorem digs_len (l : List UInt32) : (Na.digs (Na.val l)).length ≤ l.length := Na.digs_length_le (Na.val_lt l)

theorem normalize_any (v : Value) (l : List UInt32) (w : World) (hv : IsU32s w v l) (hlen : l.length ≤ 1000000000) :
    Calls Tryd.prog 90 #[v] w fun e w' => ∃ v', e = .returned v' ∧
      w'.ownsRow w.heap.size 75 1 v' (Na.digs (Na.val l)).length ((Na.digs (Na.val l)).map u32v) ∧ Ext w w' := by
  have hd := digs_len l
  have HV := Lib.hid hv
  clear hv
  go_enter Tryd.func90, Tryd.ntmps90
  go_wp2_with fail
  refine (short_any _ _ _ HV.out).mono ?_
  rintro e w' ⟨a, rfl, hr, rfl⟩
  generalize hx : Na.digs (Na.val l) = m at hd hr
  have HX := Lib.hid hx
  clear hx
  go_wp2_with fail
  refine (clone32 _ _ _ hr (by omega)).mono ?_
  rintro e w' ⟨v', rfl, ho, hb⟩
  have HO := Lib.hid ho
  clear ho
  go_wp2_with fail
  go_ret
  exact ⟨_, rfl, by rw [HX.out]; exact HO.out, hb⟩

theorem wrap32_64 (d : UInt32) : IntKind.u64.wrap (d.toNat : Int) = (d.toNat : Int) := by
  have := d.toNat_lt; rw [IntKind.wrap_u64]; omega
theorem val_pair (x : UInt64) : Na.val [x.toUInt32, (x >>> 32).toUInt32] = x.toNat := by
  have := x.toNat_lt
  simp [Na.val, Na.B, UInt64.toNat_shiftRight, Nat.shiftRight_eq_div_pow]
  omega
theorem down64_32 (x : UInt64) : (x.toNat : Int) % (4294967296 : Int) = (x.toUInt32.toNat : Int) := by simp
theorem sh32_64 (x : UInt64) : (x.toNat : Int) / (4294967296 : Int) = ((x >>> 32).toNat : Int) := by
  rw [UInt64.toNat_shiftRight]; simp [Nat.shiftRight_eq_div_pow]

theorem fromUint64_any (x : UInt64) (w : World) :
    Calls Tryd.prog 111 #[u64v x] w fun e w' => ∃ v', e = .returned v' ∧
      w'.ownsRow w.heap.size 75 1 v' (Na.digs x.toNat).length ((Na.digs x.toNat).map u32v) ∧ Ext w w' := by
  have hr : IsU32s (w.alloc (.cells #[u32v x.toUInt32, u32v (x >>> 32).toUInt32] 75)) (.slice (some ⟨w.heap.size, 0, none⟩) 2 2) [x.toUInt32, (x >>> 32).toUInt32] :=
    row_new w [x.toUInt32, (x >>> 32).toUInt32] _ (by unfold maxLen; simp)
  have hb1 := below_alloc w (.cells #[u32v x.toUInt32, u32v (x >>> 32).toUInt32] 75)
  have hc := normalize_any _ _ _ hr (by simp)
  rw [val_pair] at hc
  have HC := Lib.hid hc
  clear hc
  go_enter Tryd.func111, Tryd.ntmps111
  go_wp2_with fail
  rw [down64_32, sh32_64, down64_32]
  refine HC.out.mono ?_
  rintro e w' ⟨v', rfl, ho, hb⟩
  have HO := Lib.hid (ownsRow_mono ho hb1.size)
  clear ho HC
  go_wp2_with fail
  go_ret
  exact ⟨_, rfl, HO.out, Ext.trans' hb1 hb⟩

set_option maxHeartbeats 400000 in
theorem digit_any (v : Value) (l : List UInt32) (i : Nat) (w : World) (hv : IsU32s w v l) (hi : i ≤ 4000000000) :
    Calls Tryd.prog 127 #[v, .int .i64 i] w fun e w' => e = .returned (.int .u64 ((l.getD i 0).toNat : Int)) ∧ w = w' := by
  obtain ⟨a, cap, rfl, hm, ha⟩ := hv
  have hl := row_len hm ha
  have HA := Lib.hid ha
  clear ha
  by_cases hlt : i < l.length
  · rcases HA.out with ⟨rfl, _⟩ | ⟨b, o, rfl, hb, hlc, hc⟩
    · simp at hlt
    have hck := hc i hlt
    clear hc
    have e : l.getD i 0 = l[i] := by simp [List.getD, List.getElem?_eq_getElem hlt]
    rw [e]
    go_enter Tryd.func127, Tryd.ntmps127
    go_wp2
    go_ret
    exact ⟨ret_int (wrap32_64 _), rfl⟩
  · have e : l.getD i 0 = 0 := by simp [List.getD, List.getElem?_eq_none (Nat.le_of_not_lt hlt)]
    rw [e]
    go_enter Tryd.func127, Tryd.ntmps127
    go_wp2
    go_ret
    exact ⟨rfl, rfl⟩

def cmpI (a b : Nat) : Int := if a < b then -1 else if b < a then 1 else 0
/-- Equal lengths, no zero at the end, and equal digits above k: digit k decides. -/
theorem val_cmp (a b : List UInt32) (h : a.length = b.length) (k : Nat) (hk : k < a.length) (he : a.drop (k + 1) = b.drop (k + 1)) :
    (a[k] < b[k]'(by omega) → Na.val a < Na.val b) ∧ (b[k]'(by omega) < a[k] → Na.val b < Na.val a) := by
  have ha := Na.val_take_drop a k (by omega)
  have hb := Na.val_take_drop b k (by omega)
  rw [Na.val_drop a k hk] at ha
  rw [Na.val_drop b k (by omega), ← he] at hb
  have la := Na.val_lt (a.take k)
  have lb := Na.val_lt (b.take k)
  have ea : (a.take k).length = k := by simp; omega
  have eb : (b.take k).length = k := by simp; omega
  rw [ea] at la
  rw [eb] at lb
  have key : ∀ x y z : Nat, x < y → Na.B ^ k * (x + Na.B * z) + Na.B ^ k ≤ Na.B ^ k * (y + Na.B * z) := by
    intro x y z hxy
    rw [← Nat.mul_succ]
    exact Nat.mul_le_mul_left _ (by omega)
  constructor
  · intro hlt
    have := key _ _ (Na.val (a.drop (k + 1))) (UInt32.lt_iff_toNat_lt.1 hlt)
    omega
  · intro hlt
    have := key _ _ (Na.val (a.drop (k + 1))) (UInt32.lt_iff_toNat_lt.1 hlt)
    omega
theorem cmp_len {a b : List UInt32} (ha : Na.norm a) (hb : Na.norm b) (h : a.length < b.length) : Na.val a < Na.val b := by
  have h1 := Na.val_lt a
  have h2 := Na.le_val hb (by omega)
  have h3 : Na.B ^ a.length ≤ Na.B ^ (b.length - 1) := Nat.pow_le_pow_right Na.B_pos (by omega)
  omega
theorem cmpI_lt {a b : Nat} (h : a < b) : cmpI a b = -1 := by unfold cmpI; rw [if_pos h]
theorem cmpI_gt {a b : Nat} (h : b < a) : cmpI a b = 1 := by unfold cmpI; rw [if_neg (by omega), if_pos h]
theorem cmpI_eq {a b : Nat} (h : a = b) : cmpI a b = 0 := by unfold cmpI; rw [if_neg (by omega), if_neg (by omega)]

set_option maxHeartbeats 800000 in
theorem cmp_any (v u : Value) (l m : List UInt32) (w : World) (hv : IsU32s w v l) (hu : IsU32s w u m) :
    Calls Tryd.prog 119 #[v, u] w fun e w' => e = .returned (.int .i64 (cmpI (Na.val l) (Na.val m))) ∧ Ext w w' := by
  have na := Na.digs_norm (Na.val l)
  have nb := Na.digs_norm (Na.val m)
  have ea := Na.val_digs (Na.val l)
  have eb := Na.val_digs (Na.val m)
  have hll : (Na.digs (Na.val l)).length ≤ maxLen := Nat.le_trans (digs_len l) hv.len
  have hlm : (Na.digs (Na.val m)).length ≤ maxLen := Nat.le_trans (digs_len m) hu.len
  have H1 := Lib.hid hv
  have H2 := Lib.hid hu
  have C1 := Lib.hid (short_any v l w hv)
  have C2 := Lib.hid (short_any u m w hu)
  clear hv hu
  unfold maxLen at hll hlm
  rw [← ea, ← eb]
  generalize Na.digs (Na.val l) = a at *
  generalize Na.digs (Na.val m) = b at *
  have EA := Lib.hid ea
  have EB := Lib.hid eb
  have NA := Lib.hid na
  have NB := Lib.hid nb
  clear ea eb na nb
  go_enter Tryd.func119, Tryd.ntmps119
  go_wp2_with fail
  refine C1.out.mono ?_
  rintro e w' ⟨x, rfl, hx, rfl⟩
  go_wp2_with fail
  refine C2.out.mono ?_
  rintro e w' ⟨y, rfl, hy, rfl⟩
  clear C1 C2 H1 H2
  rcases Nat.lt_trichotomy a.length b.length with hlt | heq | hgt
  · have hne : ((a.length : Int) != (b.length : Int)) = true := by rw [bne_iff_ne]; omega
    have hr := Lib.hid (cmpI_lt (cmp_len NA.out NB.out hlt))
    go_wp2_with fail
    go_ret
    exact ⟨by rw [hr.out]; rfl, Below.refl _ _⟩
  · have hne : ((a.length : Int) != (b.length : Int)) = false := by rw [bne_eq_false_iff_eq]; omega
    have HQ := Lib.hid heq
    clear heq
    go_wp2_with fail
    rw [HQ.out] at hx ⊢
    rw [HQ.out] at hll
    go_loopw [5] (fun i wr => ∃ k : Nat, k ≤ b.length ∧ i = .int .i64 ((k : Int) - 1) ∧ a.drop k = b.drop k ∧ Ext w wr) (fun i _ => (intOf i + 1).toNat)
    case atStart => exact ⟨b.length, Nat.le_refl _, rfl, by rw [List.drop_length, ← HQ.out, List.drop_length], Below.refl _ _⟩
    case round =>
      obtain ⟨k, hk, rfl, hd, hbel⟩ := hrel
      have HD := Lib.hid hd
      clear hd
      cases k with
      | zero =>
        have hr := Lib.hid (cmpI_eq (congrArg Na.val (show a = b from HD.out)))
        go_wp2_with fail
        go_ret
        exact ⟨by rw [hr.out]; rfl, hbel⟩
      | succ j =>
        have hi : (((j + 1 : Nat) : Int) - 1) = (j : Int) := by omega
        rw [hi]
        obtain ⟨bx, ox, cx, hxs, hbx, hlx, hmx, hcx⟩ := row_some hx HQ.out (by omega)
        obtain ⟨by', oy, cy, hys, hby, hly, hmy, hcy⟩ := row_some hy rfl (by omega)
        simp only [Value.slice.injEq] at hxs hys
        obtain ⟨rfl, -, -⟩ := hxs
        obtain ⟨rfl, -, -⟩ := hys
        have hja : j < a.length := by rw [HQ.out]; omega
        have c1 : wr.cell? ⟨bx, ox + j, none⟩ = some (u32v a[j]) := by rw [hbel.cell (p := ⟨bx, ox + j, none⟩) hbx]; exact hcx j hja
        have c2 : wr.cell? ⟨by', oy + j, none⟩ = some (u32v b[j]) := by rw [hbel.cell (p := ⟨by', oy + j, none⟩) hby]; exact hcy j (by omega)
        clear hcx hcy
        have hj1 : (0 : Int) ≤ j := by omega
        have hj2 : (j : Int) < b.length := by omega
        have hcmp := Lib.hid (val_cmp a b HQ.out j hja HD.out)
        have hdrop : Hid (a[j] = b[j] → a.drop j = b.drop j) := fun e => by
          rw [List.drop_eq_getElem_cons hja, List.drop_eq_getElem_cons (show j < b.length by omega), e, HD.out]
        rcases Nat.lt_trichotomy a[j].toNat b[j].toNat with h1 | h1 | h1
        · have hr := Lib.hid (cmpI_lt (hcmp.out.1 (UInt32.lt_iff_toNat_lt.2 h1)))
          have h1' : (a[j].toNat : Int) < b[j].toNat := by omega
          go_wp2_with fail
          go_quiet (fail)
          go_wp2_with fail
          go_ret
          exact ⟨by rw [hr.out]; rfl, below_drewN hbel _⟩
        · have h1' : ¬ (a[j].toNat : Int) < b[j].toNat := by omega
          have h2' : ¬ (b[j].toNat : Int) < a[j].toNat := by omega
          have HE := Lib.hid h1
          clear h1
          go_wp2_with fail
          go_quiet (fail)
          go_wp2_with fail
          go_quiet (fail)
          go_wp2_with fail
          go_roundw
          case rel => exact ⟨j, by omega, rfl, hdrop.out (UInt32.toNat_inj.1 HE.out), below_drewN hbel _⟩
          case measure => simp [intOf]
        · have hr := Lib.hid (cmpI_gt (hcmp.out.2 (UInt32.lt_iff_toNat_lt.2 h1)))
          have h1' : ¬ (a[j].toNat : Int) < b[j].toNat := by omega
          have h2' : (b[j].toNat : Int) < a[j].toNat := by omega
          go_wp2_with fail
          go_quiet (fail)
          go_wp2_with fail
          go_quiet (fail)
          go_wp2_with fail
          go_ret
          exact ⟨by rw [hr.out]; rfl, below_drewN (below_drewN hbel _) _⟩
  · have hne : ((a.length : Int) != (b.length : Int)) = true := by rw [bne_iff_ne]; omega
    have hr := Lib.hid (cmpI_gt (cmp_len NB.out NA.out hgt))
    go_wp2_with fail
    go_ret
    exact ⟨by rw [hr.out]; rfl, Below.refl _ _⟩
end Go.Proofs.YtnenbmbgmmeiaaaDoor
