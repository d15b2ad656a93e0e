/- Walks of package natural: DivMod, the short ways. -/
import Derived.Test.YtnenbmbgmmeiaaaDoorNatWalk5
import Derived.Test.YtnenbmbgmmeiaaaDoorNatLaw2
namespace Go.Proofs.YtnenbmbgmmeiaaaDoor
open Go.RowKit
variable {α : Type}

theorem fromUint64_nat (n : Nat) (w : World) (hn : n < 4294967296 * 4294967296) :
    Calls Tryd.prog 111 #[.int .u64 (n : Int)] w fun e w' => ∃ v', e = .returned v' ∧
      w'.ownsRow w.heap.size 75 1 v' (Na.digs n).length ((Na.digs n).map u32v) ∧ Ext w w' := by
  have h := fromUint64_any (UInt64.ofNat n) w
  have e : (UInt64.ofNat n).toNat = n := by simp; omega
  unfold u64v at h
  rw [e] at h
  exact h
theorem cmpI_nonneg {a b : Nat} (h : b ≤ a) : ¬ cmpI a b < 0 := by unfold cmpI; rw [if_neg (by omega)]; split <;> omega
theorem cmpI_neg {a b : Nat} (h : a < b) : cmpI a b < 0 := by rw [cmpI_lt h]; omega
theorem digs_len0 {n : Nat} (h : (Na.digs n).length = 0) : n = 0 := Na.digs_eq_nil.1 (List.eq_nil_of_length_eq_zero h)

set_option maxRecDepth 100000 in
set_option maxHeartbeats 800000 in
theorem divMod_zero (v u : Value) (l m : List UInt32) (w : World) (hv : IsU32s w v l) (hu : IsU32s w u m) (h0 : Na.val m = 0) :
    Calls Tryd.prog 110 #[v, u] w fun e w' => e = .returned (.tuple #[.slice none 0 0, .slice none 0 0, .int .i64 9]) ∧ w = w' := by
  have C1 := Lib.hid (short_any v l w hv)
  have c2 := short_any u m w hu
  rw [h0] at c2
  have C2 := Lib.hid c2
  clear hv hu c2 h0
  go_enter Tryd.func110, Tryd.ntmps110
  go_wp2_with fail
  refine C1.out.mono ?_
  rintro e w' ⟨x, rfl, hx, rfl⟩
  go_wp2_with fail
  refine C2.out.mono ?_
  rintro e w' ⟨y, rfl, hy, rfl⟩
  rw [show (Na.digs 0).length = 0 from rfl]
  go_wp2_with fail
  go_ret3
  exact ⟨rfl, rfl⟩

set_option maxRecDepth 100000 in
set_option maxHeartbeats 800000 in
theorem divMod_less (v u : Value) (l m : List UInt32) (w : World) (hv : IsU32s w v l) (hu : IsU32s w u m) (hlt : Na.val l < Na.val m) (hlen : l.length ≤ 1000000000) :
    Calls Tryd.prog 110 #[v, u] w fun e w' => ∃ r, e = .returned (.tuple #[.slice none 0 0, r, .int .i64 0]) ∧ IsU32s w' r (Na.digs (Na.val l)) ∧ Ext w w' := by
  have C1 := Lib.hid (short_any v l w hv)
  have C2 := Lib.hid (short_any u m w hu)
  have hb : 0 < (Na.digs (Na.val m)).length := by
    rcases Nat.eq_zero_or_pos (Na.digs (Na.val m)).length with h | h
    · have := digs_len0 h; omega
    · exact h
  have hcv := cmpI_neg hlt
  have ea := Na.val_digs (Na.val l)
  have eb := Na.val_digs (Na.val m)
  have hla := digs_len l
  rw [← ea, ← eb] at hcv
  clear hv hu hlt
  generalize Na.digs (Na.val l) = a at *
  generalize Na.digs (Na.val m) = b at *
  have EA := Lib.hid ea
  have EB := Lib.hid eb
  clear ea eb
  have hb0 : ((b.length : Int) == 0) = false := by rw [beq_eq_false_iff_ne]; omega
  go_enter Tryd.func110, Tryd.ntmps110
  go_wp2_with fail
  refine C1.out.mono ?_
  rintro e w' ⟨x, rfl, hx, rfl⟩
  go_wp2_with fail
  refine C2.out.mono ?_
  rintro e w' ⟨y, rfl, hy, rfl⟩
  go_wp2_with fail
  refine (cmp_any _ _ a b _ hx hy).mono ?_
  rintro e w1 ⟨rfl, hb1⟩
  generalize cmpI (Na.val a) (Na.val b) = c at hcv ⊢
  go_wp2_with fail
  refine (clone32 _ a _ (hx.below hb1) (by omega)).mono ?_
  rintro e w2 ⟨r, rfl, hown, hb2⟩
  have hr := ownsRow_row hown
  clear hown
  go_wp2_with fail
  go_ret3
  exact ⟨_, rfl, hr, Ext.trans' hb1 hb2⟩

set_option maxRecDepth 100000 in
set_option maxHeartbeats 800000 in
theorem divMod_one (v u : Value) (l m : List UInt32) (d : UInt32) (w : World) (hv : IsU32s w v l) (hu : IsU32s w u m) (hd : Na.digs (Na.val m) = [d]) (hge : Na.val m ≤ Na.val l) (hlen : l.length ≤ 1000000000) :
    Calls Tryd.prog 110 #[v, u] w fun e w' => ∃ q r, e = .returned (.tuple #[q, r, .int .i64 0]) ∧ IsU32s w' q (Na.digs (Na.val l / Na.val m)) ∧ IsU32s w' r (Na.digs (Na.val l % Na.val m)) ∧ Ext w w' := by
  have C1 := Lib.hid (short_any v l w hv)
  have C2 := Lib.hid (short_any u m w hu)
  have eb := Na.val_digs (Na.val m)
  have ed : Na.val m = d.toNat := by rw [← eb, hd]; simp [Na.val]
  have hd0 : 0 < d.toNat := by
    rcases Nat.eq_zero_or_pos d.toNat with h | h
    · rw [h] at ed; rw [ed] at hd; simp [Na.digs, Na.digsF] at hd
    · exact h
  have hcv := cmpI_nonneg hge
  have ea := Na.val_digs (Na.val l)
  have hla := digs_len l
  rw [ed] at hcv ⊢
  rw [hd] at C2
  rw [← ea] at hcv
  rw [← ea]
  clear hv hu hge eb
  generalize Na.digs (Na.val l) = a at *
  have EA := Lib.hid ea
  clear ea
  have hcv' : ¬ cmpI (Na.val a) (Na.val [d]) < 0 := by simpa [Na.val] using hcv
  have ON := fun w v h => Lib.hid (one_any v a d w h hd0 (by omega))
  clear hcv ed hd
  have hdl := d.toNat_lt
  have hrem : Na.val a % d.toNat < 4294967296 := by have := Nat.mod_lt (Na.val a) hd0; omega
  go_enter Tryd.func110, Tryd.ntmps110
  go_wp2_with fail
  refine C1.out.mono ?_
  rintro e w' ⟨x, rfl, hx, rfl⟩
  go_wp2_with fail
  refine C2.out.mono ?_
  rintro e w' ⟨y, rfl, hy, rfl⟩
  obtain ⟨by1, oy, cy, hys, hby, hly, hmy, hcy⟩ := row_some hy rfl (by simp)
  simp only [Value.slice.injEq] at hys
  obtain ⟨rfl, -, -⟩ := hys
  have hc0 := hcy 0 (by simp)
  simp only [Nat.add_zero, List.getElem_cons_zero] at hc0
  clear hcy
  rw [show ([d] : List UInt32).length = 1 from rfl] at hy ⊢
  go_wp2_with fail
  refine (cmp_any _ _ a [d] _ hx hy).mono ?_
  rintro e w1 ⟨rfl, hb1⟩
  have hc1 : w1.cell? ⟨by1, oy, none⟩ = some (u32v d) := (hb1.cell (p := ⟨by1, oy, none⟩) hby).trans hc0
  generalize cmpI (Na.val a) (Na.val [d]) = c at hcv' ⊢
  clear hc0
  go_wp2_with fail
  refine (ON _ _ (hx.below hb1)).out.mono ?_
  rintro e w2 ⟨q, rfl, hq, hb2⟩
  have hw : IntKind.u64.wrap ((Na.val a % d.toNat : Nat) : Int) = ((Na.val a % d.toNat : Nat) : Int) := wrapNat64 _ (by omega)
  have FU := Lib.hid (fromUint64_nat (Na.val a % d.toNat) w2 (by omega))
  generalize hrm : Na.val a % d.toNat = rm at *
  have HRM := Lib.hid hrm
  clear hrm
  go_wp2_with fail
  refine FU.out.mono ?_
  rintro e w3 ⟨r, rfl, hown, hb3⟩
  have hr := ownsRow_row hown
  clear hown
  go_wp2_with fail
  go_ret3
  exact ⟨_, _, rfl, hq.below hb3, by rw [HRM.out]; exact hr, Ext.trans' hb1 (Ext.trans' hb2 hb3)⟩
end Go.Proofs.YtnenbmbgmmeiaaaDoor
