/- Verifying a checksum. -/
import Derived.Test.YtppkjnfgbofjaaaCrcWalk2
namespace Go.Proofs.Ytppkjnfgbofjaaa
open Go.RowKit
variable {α : Type}

theorem cmp8 {c y : UInt8} {z : Int} (hz : z = (y.toNat : Int)) : ((c.toNat : Int) != z) = (c != y) := by
  subst hz
  rw [Bool.eq_iff_iff, bne_iff_ne, bne_iff_ne]
  constructor
  · intro h e; exact h (by rw [e])
  · intro h e; exact h (UInt8.toNat_inj.1 (by omega))
theorem byte0 (x : UInt32) : (x.toNat : Int) % (256 : Int) = (x.toUInt8.toNat : Int) := down32 x
theorem byte1 (x : UInt32) : (x.toNat : Int) / (256 : Int) % (256 : Int) = ((x >>> 8).toUInt8.toNat : Int) := by rw [sh8_32, down32]
theorem byte2 (x : UInt32) : (x.toNat : Int) / (65536 : Int) % (256 : Int) = ((x >>> 16).toUInt8.toNat : Int) := by rw [sh16_32, down32]
theorem byte3 (x : UInt32) : (x.toNat : Int) / (16777216 : Int) % (256 : Int) = ((x >>> 24).toUInt8.toNat : Int) := by rw [sh24_32, down32]
theorem four (l : List UInt8) (m : Nat) (h : l.length = m + 4) : ∃ c0 c1 c2 c3, l.drop m = [c0, c1, c2, c3] := by
  have e : (l.drop m).length = 4 := by simp; omega
  match l.drop m, e with
  | [c0, c1, c2, c3], _ => exact ⟨c0, c1, c2, c3, rfl⟩
/-- What the comparison has found so far. -/
def Upto (c0 c1 c2 c3 : UInt8) (x : UInt32) (k : Nat) : Prop := [c0, c1, c2, c3].take k = (Crc.le4 x).take k

set_option maxHeartbeats 400000 in
theorem verify_short (v : Value) (l : List UInt8) (w : World) (hv : IsBytes w v l) (h : l.length < 4) :
    Calls Try.prog 17 #[v] w fun e w' => e = .returned (.tuple #[.slice none 0 0, .int .i64 4]) ∧ w = w' := by
  obtain ⟨a, cap, rfl⟩ : ∃ a cap, v = .slice a l.length cap := by obtain ⟨a, cap, h, _⟩ := hv; exact ⟨a, cap, h⟩
  clear hv
  go_enter Try.func17, Try.ntmps17
  go_wp2
  go_ret2
  exact ⟨rfl, rfl⟩

set_option maxHeartbeats 400000 in
theorem verify_long (v : Value) (l : List UInt8) (m : Nat) (w : World) (hv : IsBytes w v l) (hlen : l.length = m + 4) (hm : m ≤ 100000000) :
    Calls Try.prog 17 #[v] w fun e w' => ∃ v' k, e = .returned (.tuple #[v', .int .i64 k]) ∧ Below w.heap.size w w' ∧
      (l.drop m = Crc.le4 (Crc.update 0 (l.take m)) → k = 0 ∧ IsBytes w' v' (l.take m)) ∧ (l.drop m ≠ Crc.le4 (Crc.update 0 (l.take m)) → k = 19 ∧ v' = .slice none 0 0) := by
  obtain ⟨a, cap, rfl, hcap, ha⟩ := hv
  rcases ha with ⟨rfl, _⟩ | ⟨b, o, rfl, hb, hlc, hc⟩
  · simp at hlen
  have hr := row_take (n := m) hb hlc hcap (by omega) hc
  have hp := sl1_new (R := IsBytes) w (.slice (some ⟨b, o, none⟩) m cap) (l.take m) 24 (hr.below (below_alloc _ _))
  have hr1 := hr.below (below_alloc w (.cells #[.slice (some ⟨b, o, none⟩) m cap] 24))
  have hlt : m ≤ cap := by omega
  have hne : ¬ m = cap := by omega
  have hmc : m < cap := by omega
  go_enter Try.func17, Try.ntmps17
  go_wp2_with fail
  refine (crc32 _ _ _ hp).mono ?_
  rintro e w' ⟨rfl, rfl⟩
  rw [crc_one]
  go_wp2_with fail
  generalize hx : Crc.update 0 (l.take m) = x
  have HX := Lib.hid hx
  clear hx hr
  obtain ⟨c0, c1, c2, c3, hd⟩ := four l m hlen
  have hcd : ∀ k (h : k < 4), (w.alloc (.cells #[.slice (some ⟨b, o, none⟩) m cap] 24)).cell? ⟨b, o + m + k, none⟩ = some (u8v ([c0, c1, c2, c3][k])) := by
    intro k hk
    rw [World.cell?_alloc_past _ _ _ hb, Nat.add_assoc, hc (m + k) (by omega)]
    simp only [← hd]
    rw [List.getElem_drop]
  have HC := Lib.hid hcd
  have HD := Lib.hid hd
  clear hcd hc hd
  go_loop [22] (fun i => ∃ k : Nat, k ≤ 4 ∧ i = .int .i64 k ∧ Upto c0 c1 c2 c3 x k) (fun i => 4 - (intOf i).toNat)
  case atStart => exact ⟨0, by omega, rfl, rfl⟩
  case round =>
    obtain ⟨k, hk, rfl, heq⟩ := hrel
    have HE := Lib.hid heq
    clear heq
    have hk' : k = 0 ∨ k = 1 ∨ k = 2 ∨ k = 3 ∨ k = 4 := by omega
    rcases hk' with rfl | rfl | rfl | rfl | rfl
    · have hck := HC.out 0 (by omega)
      simp only [Nat.add_zero, List.getElem_cons_zero] at hck
      go_wp2
      · have h := ‹((c0.toNat : Int) != _) = true›
        rw [cmp8 (byte0 x)] at h
        go_ret2
        exact ⟨_, _, rfl, below_alloc _ _, fun e => by rw [HD.out, HX.out] at e; simp [Crc.le4] at e; simp [e] at h, fun _ => ⟨rfl, rfl⟩⟩
      · have h := ‹((c0.toNat : Int) != _) = false›
        rw [cmp8 (byte0 x)] at h
        go_round
        case rel => exact ⟨1, by omega, rfl, by simp [Upto, Crc.le4] at h ⊢; exact h⟩
        case measure => simp [intOf]
    · have hck := HC.out 1 (by omega)
      simp only [List.getElem_cons_zero, List.getElem_cons_succ] at hck
      go_wp2
      · have h := ‹((c1.toNat : Int) != _) = true›
        rw [cmp8 (byte1 x)] at h
        go_ret2
        exact ⟨_, _, rfl, below_alloc _ _, fun e => by rw [HD.out, HX.out] at e; simp [Crc.le4] at e; simp [e] at h, fun _ => ⟨rfl, rfl⟩⟩
      · have h := ‹((c1.toNat : Int) != _) = false›
        rw [cmp8 (byte1 x)] at h
        go_round
        case rel => exact ⟨2, by omega, rfl, by have := HE.out; simp [Upto, Crc.le4] at h this ⊢; exact ⟨this, h⟩⟩
        case measure => simp [intOf]
    · have hck := HC.out 2 (by omega)
      simp only [List.getElem_cons_zero, List.getElem_cons_succ] at hck
      go_wp2
      · have h := ‹((c2.toNat : Int) != _) = true›
        rw [cmp8 (byte2 x)] at h
        go_ret2
        exact ⟨_, _, rfl, below_alloc _ _, fun e => by rw [HD.out, HX.out] at e; simp [Crc.le4] at e; simp [e] at h, fun _ => ⟨rfl, rfl⟩⟩
      · have h := ‹((c2.toNat : Int) != _) = false›
        rw [cmp8 (byte2 x)] at h
        go_round
        case rel => exact ⟨3, by omega, rfl, by have := HE.out; simp [Upto, Crc.le4] at h this ⊢; exact ⟨this.1, this.2, h⟩⟩
        case measure => simp [intOf]
    · have hck := HC.out 3 (by omega)
      simp only [List.getElem_cons_zero, List.getElem_cons_succ] at hck
      go_wp2
      · have h := ‹((c3.toNat : Int) != _) = true›
        rw [cmp8 (byte3 x)] at h
        go_ret2
        exact ⟨_, _, rfl, below_alloc _ _, fun e => by rw [HD.out, HX.out] at e; simp [Crc.le4] at e; simp [e] at h, fun _ => ⟨rfl, rfl⟩⟩
      · have h := ‹((c3.toNat : Int) != _) = false›
        rw [cmp8 (byte3 x)] at h
        go_round
        case rel => exact ⟨4, by omega, rfl, by have := HE.out; simp [Upto, Crc.le4] at h this ⊢; exact ⟨this.1, this.2.1, this.2.2, h⟩⟩
        case measure => simp [intOf]
    · have e : l.drop m = Crc.le4 (Crc.update 0 (l.take m)) := by
        rw [HD.out, HX.out]; have := HE.out; simpa [Upto, Crc.le4] using this
      have HF := Lib.hid e
      clear e
      go_wp2_with fail
      refine (clone8 _ _ _ hr1 (by simp; omega)).mono ?_
      rintro e w2 ⟨v2, rfl, hown, hb2⟩
      have hrow := ownsRow_row hown
      clear hown
      go_wp2_with fail
      go_ret2
      exact ⟨_, _, rfl, (below_alloc _ _).trans (hb2.mono (by simp)), fun _ => ⟨rfl, hrow⟩, fun h => (h HF.out).elim⟩
end Go.Proofs.Ytppkjnfgbofjaaa
