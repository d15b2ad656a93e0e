/- Walks of package natural: Shift by less than a digit, to the right and to the left; BitLen. -/
import Derived.Test.YtnenbmbgmmeiaaaDoorNatWalk2
import Derived.Test.YtnenbmbgmmeiaaaDoorNatLaw
import Derived.Test.YtnenbmbgmmeiaaaDoorShelf
import Derived.Lib.ItoaNum
namespace Go.Proofs.YtnenbmbgmmeiaaaDoor
set_option linter.unusedVariables false
open Go.RowKit
variable {α : Type}

theorem or_join' (r : Nat) (x : Nat) (h : r < 4294967296) (hx : x < 4294967296) : bits .or .u64 (x : Int) ((r : Int) * 4294967296) = ((x + Na.B * r : Nat) : Int) := by
  have e : ((r : Int) * 4294967296) = ((r * 4294967296 : Nat) : Int) := by simp
  rw [e, u64_or_nat _ _ (by omega) (by omega), Nat.or_comm, nat_join 32 _ _ (by omega) (by omega)]
  congr 1
  unfold Na.B; omega
theorem set_take {β : Type} (l : List β) (z : β) (i : Nat) (h : i < l.length) : (l.take i ++ List.replicate (l.length - i) z).set i l[i] = l.take (i + 1) ++ List.replicate (l.length - (i + 1)) z := by
  obtain ⟨k, hk⟩ : ∃ k, l.length - i = k + 1 := ⟨l.length - i - 1, by omega⟩
  rw [hk, show l.length - (i + 1) = k by omega, List.set_append, List.replicate_succ]
  have e : (l.take i).length = i := by simp; omega
  rw [e, if_neg (by omega), Nat.sub_self, List.set_cons_zero, take_snoc l i h, List.append_assoc]
  rfl

theorem shr_digit (N p : Nat) : (N : Int) / 2 ^ p % (4294967296 : Int) = ((UInt32.ofNat (N / 2 ^ p)).toNat : Int) := by simp

set_option maxRecDepth 100000 in
set_option maxHeartbeats 800000 in
theorem shiftR_any (v : Value) (l : List UInt32) (p : Nat) (w : World) (hv : IsU32s w v l) (hp : 0 < p) (hp2 : p ≤ 31) (hlen : l.length ≤ 1000000000) :
    Calls Tryd.prog 122 #[v, .int .i64 (-(p : Int))] w fun e w' => ∃ a, e = .returned (.slice a (Na.digs (Na.val l / 2 ^ p)).length (Na.digs (Na.val l / 2 ^ p)).length) ∧
      IsU32s w' (.slice a (Na.digs (Na.val l / 2 ^ p)).length (Na.digs (Na.val l / 2 ^ p)).length) (Na.digs (Na.val l / 2 ^ p)) ∧ Ext w w' := by
  have hd := digs_len l
  have ea := Na.val_digs (Na.val l)
  have C1 := Lib.hid (short_any v l w hv)
  clear hv
  rw [← ea]
  generalize Na.digs (Na.val l) = a at *
  have EA := Lib.hid ea
  clear ea
  have hneg : -(p : Int) < 0 := by omega
  by_cases h0 : a.length = 0
  · obtain rfl : a = [] := List.eq_nil_of_length_eq_zero h0
    go_enter Tryd.func122, Tryd.ntmps122
    go_wp2_with fail
    refine C1.out.mono ?_
    rintro e w' ⟨x, rfl, hx, rfl⟩
    go_wp2_with fail
    go_ret
    exact ⟨none, by simp [Na.val, Na.digs, Na.digsF], by simpa [Na.val, Na.digs, Na.digsF] using row_nil w, Below.refl _ _⟩
  · have h1 : 0 < a.length := by omega
    have h63 : a.length ≤ maxLen := by unfold maxLen; omega
    have hby : 4 * a.length ≤ 281474976710656 := by omega
    go_enter Tryd.func122, Tryd.ntmps122
    go_wp2_with fail
    refine C1.out.mono ?_
    rintro e w' ⟨x, rfl, hx, rfl⟩
    have hn1 : ¬ -(p : Int) ≤ -32 * (a.length : Int) := by omega
    have hq32 : (p : Int) / 32 = 0 := by omega
    have hr32 : (p : Int) % 32 = (p : Int) := by omega
    go_wp2_with (at_make; refine wpList_make_row rfl _ _ _ rfl tyU32 rfl w.heap.size a.length rfl rfl rfl hby h63 (Nat.le_refl _) ?_; intro w1 hown hg)
    have hb1 := below_made (Below.refl w.heap.size w) hg (Nat.le_refl _)
    clear hg
    have HO := Lib.hid hown
    clear hown hq32 hn1
    have hsl := Na.shr_length p a
    go_loopw [37] (fun i wr => ∃ k : Nat, k ≤ a.length ∧ i = .int .i64 k ∧ wr.ownsRow w.heap.size 75 1 (.slice (some ⟨w.heap.size, 0, none⟩) a.length a.length) a.length (((Na.shr p a).take k ++ List.replicate ((Na.shr p a).length - k) 0).map u32v) ∧ Ext w wr) (fun i _ => a.length - (intOf i).toNat)
    case atStart => exact ⟨0, by omega, rfl, by simpa [u32v, hsl] using HO.out, hb1⟩
    case round =>
      obtain ⟨k, hk, rfl, hown, hbel⟩ := hrel
      have HW := Lib.hid hown
      have hx1 := hx.below hbel
      clear hown
      by_cases hlt : k < a.length
      · have g0 := (a.getD k 0).toNat_lt
        have g1 := (a.getD (k + 1) 0).toNat_lt
        have hget := Na.shr_get p a k hlt
        have d0 := digit_any _ a k _ hx1 (by omega)
        have d1 := digit_any _ a (k + 1) _ hx1 (by omega)
        generalize (a.getD k 0).toNat = D0 at *
        generalize (a.getD (k + 1) 0).toNat = D1 at *
        have hor := or_join' D1 D0 g1 g0
        generalize hN : D0 + Na.B * D1 = N at *
        obtain ⟨⟨cv, hcell⟩, hfz⟩ := own_any HW.out k hlt
        have HG := Lib.hid hget
        have HSL := Lib.hid hsl
        have E0 := Lib.hid d0
        have E1 := Lib.hid d1
        clear hget hsl hN d0 d1
        go_wp2_with fail
        refine E0.out.mono ?_
        rintro e w' ⟨rfl, rfl⟩
        go_wp2_with fail
        refine E1.out.mono ?_
        rintro e w' ⟨rfl, rfl⟩
        go_wp2_with fail
        go_roundw
        case rel =>
          have hst := HW.out.stored k (u32v ((Na.shr p a)[k]'(by rw [HSL.out]; exact hlt)))
          rw [← List.map_set, set_take _ _ k (by rw [HSL.out]; exact hlt)] at hst
          rw [HG.out] at hst
          rw [shr_digit]
          exact ⟨k + 1, by omega, by go_num, hst.1, hbel.setCell (p := ⟨w.heap.size, k, none⟩) (Nat.le_refl _) _⟩
        case measure => simp [intOf]; omega
      · obtain rfl : k = a.length := by omega
        have hrow : IsU32s wr (.slice (some ⟨w.heap.size, 0, none⟩) a.length a.length) (Na.shr p a) := by
          have := HW.out
          rw [← hsl, List.take_length, Nat.sub_self, List.replicate_zero, List.append_nil] at this
          have h2 := ownsRow_row this
          rw [hsl] at h2; exact h2
        have hs := short_any _ _ _ hrow
        rw [Na.shr_val p (by omega)] at hs
        have HS := Lib.hid hs
        clear hs hrow
        go_wp2_with fail
        refine HS.out.mono ?_
        rintro e w' ⟨a', rfl, hr, rfl⟩
        have HR := Lib.hid hr
        clear hr
        go_wp2_with fail
        go_ret
        exact ⟨_, rfl, HR.out, hbel⟩

theorem wide (c : UInt32) (p : Nat) (h : p ≤ 31) : IntKind.u64.wrap (IntKind.u64.wrap (c.toNat : Int) * 2 ^ p) = ((c.toNat * 2 ^ p : Nat) : Int) := by
  have hc := c.toNat_lt
  have hp : 2 ^ p ≤ 2 ^ 31 := Nat.pow_le_pow_right (by omega) h
  have hm : c.toNat * 2 ^ p ≤ 4294967296 * 2 ^ 31 := Nat.mul_le_mul (by omega) hp
  have e : (c.toNat : Int) * 2 ^ p = ((c.toNat * 2 ^ p : Nat) : Int) := by simp
  rw [wrap32_64, e, IntKind.wrap_u64]
  omega
theorem or_low (t : UInt32) (c p : Nat) (hp : p ≤ 31) (ht : t.toNat < 2 ^ p) :
    bits .or .u32 (t.toNat : Int) (((c * 2 ^ p : Nat) : Int) % 4294967296) = ((UInt32.ofNat (t.toNat + c * 2 ^ p % Na.B)).toNat : Int) ∧ t.toNat + c * 2 ^ p % Na.B < Na.B := by
  have hB := Na.pow_split p (by omega)
  have h2 : 0 < 2 ^ p := Nat.two_pow_pos p
  have e1 : c * 2 ^ p % Na.B = c % 2 ^ (32 - p) * 2 ^ p := by
    rw [hB, Nat.mul_comm c, Nat.mul_mod_mul_left, Nat.mul_comm]
  have e2 : c % 2 ^ (32 - p) + 1 ≤ 2 ^ (32 - p) := Nat.mod_lt _ (Nat.two_pow_pos _)
  have e3 : c * 2 ^ p % Na.B + 2 ^ p ≤ Na.B := by
    rw [e1, ← Nat.succ_mul, hB, Nat.mul_comm (2 ^ p)]; exact Nat.mul_le_mul_right _ e2
  have hlt : t.toNat + c * 2 ^ p % Na.B < Na.B := by omega
  refine ⟨?_, hlt⟩
  have e4 : ((c * 2 ^ p : Nat) : Int) % 4294967296 = ((c * 2 ^ p % Na.B : Nat) : Int) := by simp [Na.B]
  have hB' : Na.B = 4294967296 := rfl
  rw [e4, u32_or_nat _ _ t.toNat_lt (by omega), Nat.or_comm, nat_join p _ _ (by rw [e1]; simp) ht, ofNat_small (by omega), Nat.add_comm]
theorem set_two {β : Type} (q : List β) (t x y z : β) (k m : Nat) (hq : q.length = k) : ((q ++ t :: List.replicate (m + 1) z).set k x).set (k + 1) y = (q ++ [x]) ++ y :: List.replicate m z := by
  subst hq
  rw [List.set_append, if_neg (by omega), Nat.sub_self, List.set_cons_zero, List.set_append, if_neg (by omega), Nat.add_sub_cancel_left, List.replicate_succ]
  simp

set_option maxRecDepth 100000 in
set_option maxHeartbeats 800000 in
theorem shiftL_any (v : Value) (l : List UInt32) (p : Nat) (w : World) (hv : IsU32s w v l) (hp2 : p ≤ 31) (hlen : l.length ≤ 1000000000) :
    Calls Tryd.prog 122 #[v, .int .i64 (p : Int)] w fun e w' => ∃ a, e = .returned (.slice a (Na.digs (Na.val l * 2 ^ p)).length (Na.digs (Na.val l * 2 ^ p)).length) ∧
      IsU32s w' (.slice a (Na.digs (Na.val l * 2 ^ p)).length (Na.digs (Na.val l * 2 ^ p)).length) (Na.digs (Na.val l * 2 ^ p)) ∧ Ext w w' := by
  have hd := digs_len l
  have ea := Na.val_digs (Na.val l)
  have C1 := Lib.hid (short_any v l w hv)
  clear hv
  rw [← ea]
  generalize Na.digs (Na.val l) = a at *
  have EA := Lib.hid ea
  clear ea
  have h63 : a.length + 1 ≤ maxLen := by unfold maxLen; omega
  have hby : 4 * (a.length + 1) ≤ 281474976710656 := by omega
  have hq32 : (p : Int) / 32 = 0 := by omega
  have hr32 : (p : Int) % 32 = (p : Int) := by omega
  have hmin : min (p : Int) 4096 = (p : Int) := by omega
  go_enter Tryd.func122, Tryd.ntmps122
  go_wp2_with fail
  refine C1.out.mono ?_
  rintro e w' ⟨x, rfl, hx, rfl⟩
  go_wp2_with (at_make; refine wpList_make_row rfl _ _ _ rfl tyU32 rfl w.heap.size (a.length + 1) rfl rfl rfl hby h63 (Nat.le_refl _) ?_; intro w1 hown hg)
  have hb1 := below_made (Below.refl w.heap.size w) hg (Nat.le_refl _)
  clear hg
  have HO := Lib.hid hown
  clear hown
  go_loopw [76] (fun i wr => ∃ (k : Nat) (q : List UInt32) (t : UInt32), k ≤ a.length ∧ i = .int .i64 k ∧ q.length = k ∧ t.toNat < 2 ^ p ∧ Na.val (q ++ [t]) = Na.val (a.take k) * 2 ^ p ∧
      wr.ownsRow w.heap.size 75 1 (.slice (some ⟨w.heap.size, 0, none⟩) (a.length + 1) (a.length + 1)) (a.length + 1) ((q ++ t :: List.replicate (a.length - k) 0).map u32v) ∧ Ext w wr) (fun i _ => a.length - (intOf i).toNat)
  case atStart => exact ⟨0, [], 0, by omega, rfl, rfl, by simpa using Nat.two_pow_pos p, by simp [Na.val], by simpa [u32v, List.replicate_succ] using HO.out, hb1⟩
  case round =>
    obtain ⟨k, q, t, hk, rfl, hq, ht, hval, hown, hbel⟩ := hrel
    have HW := Lib.hid hown
    have hx1 := hx.below hbel
    have HV := Lib.hid hval
    have HT := Lib.hid ht
    have HQ := Lib.hid hq
    clear hown hval ht hq HO
    by_cases hlt : k < a.length
    · obtain ⟨bx, ox, cx, hxs, hbx, hlx, hmx, hcx⟩ := row_some hx1 rfl (by omega)
      simp only [Value.slice.injEq] at hxs
      obtain ⟨rfl, -, -⟩ := hxs
      have hck := hcx k hlt
      clear hcx
      have ho1 := HW.out.cellAt k (by omega)
      have hfz := HW.out.frozenAt k
      have hfz1 := HW.out.frozenAt (k + 1)
      obtain ⟨⟨cv, hcell1⟩, _⟩ := own_any HW.out (k + 1) (by omega)
      rw [List.getElem?_map, List.getElem?_append_right (by rw [HQ.out]; omega), HQ.out, Nat.sub_self, List.getElem?_cons_zero, Option.map_some] at ho1
      have HA := Lib.hid (Na.val_take_succ a k hlt)
      generalize a[k] = c at hck HA
      go_wp2_with fail
      go_roundw
      case rel =>
        obtain ⟨o1, o2⟩ := or_low t c.toNat p hp2 HT.out
        have hq := HQ.out
        have ht := HT.out
        obtain ⟨m, hm⟩ : ∃ m, a.length - k = m + 1 := ⟨a.length - k - 1, by omega⟩
        have hst := (HW.out.stored k (u32v (UInt32.ofNat (t.toNat + c.toNat * 2 ^ p % Na.B)))).1
        have hst2 := (hst.stored (k + 1) (u32v (UInt32.ofNat (c.toNat * 2 ^ p / Na.B)))).1
        rw [hm, ← List.map_set, ← List.map_set, set_two q t _ _ 0 k m hq] at hst2
        have hhi : c.toNat * 2 ^ p / Na.B < 2 ^ p := by
          refine Nat.div_lt_of_lt_mul ?_
          have hc := c.toNat_lt
          exact Nat.mul_lt_mul_of_pos_right hc (Nat.two_pow_pos p)
        have hhiB : c.toNat * 2 ^ p / Na.B < 4294967296 := by
          have : 2 ^ p ≤ 2 ^ 31 := Nat.pow_le_pow_right (by omega) hp2
          omega
        have e5 : ((c.toNat * 2 ^ p : Nat) : Int) / 4294967296 % 4294967296 = ((UInt32.ofNat (c.toNat * 2 ^ p / Na.B)).toNat : Int) := by
          rw [ofNat_small hhiB]
          have : ((c.toNat * 2 ^ p : Nat) : Int) / 4294967296 = ((c.toNat * 2 ^ p / Na.B : Nat) : Int) := by simp [Na.B]
          rw [this]; omega
        rw [wide c p hp2, o1, e5]
        refine ⟨k + 1, q ++ [UInt32.ofNat (t.toNat + c.toNat * 2 ^ p % Na.B)], UInt32.ofNat (c.toNat * 2 ^ p / Na.B), by omega, by go_num, by simp [hq], by rw [ofNat_small hhiB]; exact hhi, ?_, ?_, ?_⟩
        · have hv := HV.out
          rw [Na.val_snoc, hq] at hv
          rw [Na.val_snoc, Na.val_snoc, HA.out, Nat.add_mul, ← hv, ofNat_small o2, ofNat_small hhiB, List.length_append, hq]
          have := Nat.mod_add_div (c.toNat * 2 ^ p) Na.B
          simp only [List.length_cons, List.length_nil, Nat.pow_succ]
          generalize c.toNat * 2 ^ p / Na.B = hi at *
          generalize c.toNat * 2 ^ p % Na.B = lo at *
          rw [Nat.mul_assoc (Na.B ^ k) c.toNat, ← this, Nat.mul_add, Nat.mul_add, ← Nat.mul_assoc (Na.B ^ k) Na.B hi]
          omega
        · rw [show a.length - (k + 1) = m by omega]; exact hst2
        · exact (hbel.setCell (p := ⟨w.heap.size, k, none⟩) (Nat.le_refl _) _).setCell (p := ⟨w.heap.size, k + 1, none⟩) (Nat.le_refl _) _
      case measure => simp [intOf]; omega
    · obtain rfl : k = a.length := by omega
      have hrow : IsU32s wr (.slice (some ⟨w.heap.size, 0, none⟩) (a.length + 1) (a.length + 1)) (q ++ [t]) := by
        have := HW.out
        rw [Nat.sub_self, List.replicate_zero] at this
        have e : (q ++ [t]).length = a.length + 1 := by have := HQ.out; simp [this]
        have h2 := ownsRow_row (l := q ++ [t]) (by rw [e]; exact this)
        exact h2
      have hs := short_any _ _ _ hrow
      have hv := HV.out
      rw [List.take_length] at hv
      rw [hv] at hs
      have HS := Lib.hid hs
      clear hs hrow hv
      go_wp2_with fail
      refine HS.out.mono ?_
      rintro e w' ⟨a', rfl, hr, rfl⟩
      have HR := Lib.hid hr
      clear hr
      go_wp2_with fail
      go_ret
      exact ⟨_, rfl, HR.out, hbel⟩

/-- The number of bits. -/
def bl (n : Nat) : Nat := if n = 0 then 0 else Nat.log2 n + 1
theorem bl_eq {n k : Nat} (h1 : 2 ^ k ≤ n) (h2 : n < 2 ^ (k + 1)) : bl n = k + 1 := by
  have h0 : n ≠ 0 := by have := Nat.two_pow_pos k; omega
  unfold bl
  rw [if_neg h0, (Nat.log2_eq_iff h0).2 ⟨h1, h2⟩]
theorem bl_le {n : Nat} {a : List UInt32} (h : Na.val a = n) : bl n ≤ 32 * a.length := by
  unfold bl
  split
  · omega
  · rename_i h0
    have h1 := Na.val_lt a
    have h2 : Nat.log2 n < 32 * a.length := by
      rw [Nat.log2_lt h0, ← h]
      have : Na.B ^ a.length = 2 ^ (32 * a.length) := by rw [Nat.pow_mul]; rfl
      omega
    omega
theorem bl_digs (a : List UInt32) (x : UInt32) (hx : x ≠ 0) (c : Nat) (h1 : 2 ^ (c - 1) ≤ x.toNat) (h2 : x.toNat < 2 ^ c) (h3 : 1 ≤ c) : bl (Na.val (a ++ [x])) = 32 * a.length + c := by
  have hv := Na.val_snoc a x
  have hl := Na.val_lt a
  have hB : Na.B ^ a.length = 2 ^ (32 * a.length) := by rw [Nat.pow_mul]; rfl
  rw [hB] at hv hl
  have e : 32 * a.length + c = (32 * a.length + (c - 1)) + 1 := by omega
  rw [e]
  apply bl_eq
  · rw [hv, Nat.pow_add]
    have := Nat.mul_le_mul_left (2 ^ (32 * a.length)) h1
    omega
  · rw [hv, show 32 * a.length + (c - 1) + 1 = 32 * a.length + c by omega, Nat.pow_add]
    have := Nat.mul_le_mul_left (2 ^ (32 * a.length)) (show x.toNat + 1 ≤ 2 ^ c by omega)
    rw [Nat.mul_add] at this
    omega

set_option maxHeartbeats 400000 in
theorem bitLen_any (v : Value) (l : List UInt32) (w : World) (hv : IsU32s w v l) (hlen : l.length ≤ 1000000000) :
    Calls Tryd.prog 91 #[v] w fun e w' => e = .returned (.int .i64 (bl (Na.val l) : Int)) ∧ w = w' := by
  have hd := digs_len l
  have ea := Na.val_digs (Na.val l)
  have na := Na.digs_norm (Na.val l)
  have C1 := Lib.hid (short_any v l w hv)
  clear hv
  rw [← ea]
  generalize Na.digs (Na.val l) = a at *
  by_cases h0 : a.length = 0
  · obtain rfl : a = [] := List.eq_nil_of_length_eq_zero h0
    clear ea
    go_enter Tryd.func91, Tryd.ntmps91
    go_wp2_with fail
    refine C1.out.mono ?_
    rintro e w' ⟨x, rfl, hx, rfl⟩
    go_wp2_with fail
    go_ret
    exact ⟨rfl, rfl⟩
  · obtain ⟨m, hm⟩ : ∃ m, a.length = m + 1 := ⟨a.length - 1, by omega⟩
    have hx0 : a[m]'(by omega) ≠ 0 := by
      have := Na.last_ne na (by omega)
      simpa [hm] using this
    have hb : 1 ≤ Lib.bitLen (a[m]'(by omega)).toNat ∧ 2 ^ (Lib.bitLen (a[m]'(by omega)).toNat - 1) ≤ (a[m]'(by omega)).toNat ∧ (a[m]'(by omega)).toNat < 2 ^ Lib.bitLen (a[m]'(by omega)).toNat :=
      Lib.bitLenAux_bounds 64 _ (by have := (a[m]'(by omega)).toNat_lt; omega) (fun e => hx0 (UInt32.toNat_inj.1 (by simpa using e)))
    have hr := bl_digs (a.take m) (a[m]'(by omega)) hx0 _ hb.2.1 hb.2.2 hb.1
    have hbl := Lib.bitLen_le (a[m]'(by omega)).toNat 32 (by omega) (a[m]'(by omega)).toNat_lt
    have e1 : a.take m ++ [a[m]'(by omega)] = a := by
      rw [← List.take_succ_eq_append_getElem (by omega), ← hm, List.take_length]
    rw [e1] at hr
    have e2 : (a.take m).length = m := by simp; omega
    rw [e2] at hr
    have HR := Lib.hid hr
    have HM := Lib.hid hm
    have hml : (m : Int) ≤ 1000000000 := by omega
    have hx1 := (a[m]'(by omega)).toNat_lt
    clear ea na hr hb hx0 e1 e2
    go_enter Tryd.func91, Tryd.ntmps91
    go_wp2_with fail
    refine C1.out.mono ?_
    rintro e w' ⟨x, rfl, hx, rfl⟩
    obtain ⟨bx, ox, cx, hxs, hbx, hlx, hmx, hcx⟩ := row_some hx rfl (by omega)
    simp only [Value.slice.injEq] at hxs
    obtain ⟨rfl, -, -⟩ := hxs
    have hck := hcx m (by omega)
    clear hcx
    have h0' : ((m : Int) + 1 == 0) = false := by rw [beq_eq_false_iff_ne]; omega
    generalize a[m] = c at *
    rw [HM.out] at hx ⊢
    go_wp2_with fail
    refine (Tryd.bits_Len32 (c.toNat : Int) _ (by omega) (by omega)).mono ?_
    rintro e w' ⟨rfl, rfl⟩
    rw [Int.toNat_natCast]
    go_wp2_with fail
    go_ret
    exact ⟨ret_int (by rw [HR.out]; omega), rfl⟩
end Go.Proofs.YtnenbmbgmmeiaaaDoor
