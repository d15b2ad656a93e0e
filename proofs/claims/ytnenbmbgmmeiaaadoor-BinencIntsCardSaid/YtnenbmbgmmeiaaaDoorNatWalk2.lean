/- Walks of package natural: one (division by a digit). -/
import Derived.Test.YtnenbmbgmmeiaaaDoorNatWalk1
namespace Go.Proofs.YtnenbmbgmmeiaaaDoor
set_option linter.unusedVariables false
open Go.RowKit
variable {α : Type}

theorem or_join (r : Nat) (x : UInt32) (h : r < 4294967296) : bits .or .u64 ((r : Int) * 4294967296) (IntKind.u64.wrap (x.toNat : Int)) = ((r * 4294967296 + x.toNat : Nat) : Int) := by
  have hx := x.toNat_lt
  rw [wrap32_64]
  have e : ((r : Int) * 4294967296) = ((r * 4294967296 : Nat) : Int) := by simp
  rw [e, u64_or_nat _ _ (by omega) (by omega), nat_join 32 _ _ (by omega) (by omega)]
theorem tmod_nat (a b : Nat) : (a : Int).tmod (b : Int) = ((a % b : Nat) : Int) := by
  rw [Int.tmod_eq_emod_of_nonneg (Int.natCast_nonneg _)]; rfl
theorem tdiv_nat (a b : Nat) : (a : Int).tdiv (b : Int) = ((a / b : Nat) : Int) := by
  rw [Int.tdiv_eq_ediv_of_nonneg (Int.natCast_nonneg _)]; rfl
theorem ofNat_small {n : Nat} (h : n < 4294967296) : (UInt32.ofNat n).toNat = n := by simp; omega
theorem div_digit (N d : Nat) (hd : 0 < d) (hd2 : d < 4294967296) (h : N < d * 4294967296) :
    IntKind.u64.wrap ((N : Int) / (d : Int)) % (4294967296 : Int) = ((UInt32.ofNat (N / d)).toNat : Int) := by
  have hq : N / d < 4294967296 := Nat.div_lt_of_lt_mul h
  rw [ofNat_small hq, IntKind.wrap_u64]
  have e : (N : Int) / (d : Int) = ((N / d : Nat) : Int) := rfl
  rw [e]
  generalize N / d = q at hq
  omega
theorem one_end (q r d n : Nat) (h : q * d + r = n) (hr : r < d) : q = n / d ∧ r = n % d := by
  subst h
  have : 0 < d := by omega
  rw [Nat.add_comm, Nat.mul_comm, Nat.add_mul_div_left _ _ this, Nat.div_eq_of_lt hr, Nat.add_mul_mod_self_left, Nat.mod_eq_of_lt hr]
  omega

set_option maxHeartbeats 800000 in
theorem one_any (v : Value) (l : List UInt32) (d : UInt32) (w : World) (hv : IsU32s w v l) (hd : 0 < d.toNat) (hlen : l.length ≤ 1000000000) :
    Calls Tryd.prog 120 #[v, u32v d] w fun e w' => ∃ v', e = .returned (.tuple #[v', .int .u32 ((Na.val l % d.toNat : Nat) : Int)]) ∧
      IsU32s w' v' (Na.digs (Na.val l / d.toNat)) ∧ Ext w w' := by
  have hv0 := Lib.hid hv
  obtain ⟨a, cap, rfl, hm, ha⟩ := hv
  have HA := Lib.hid ha
  clear ha
  have h63 : l.length ≤ maxLen := by unfold maxLen; omega
  have hby : 4 * l.length ≤ 281474976710656 := by omega
  have hdl := d.toNat_lt
  go_enter Tryd.func120, Tryd.ntmps120
  go_wp2_with (at_make; refine wpList_make_row rfl _ _ _ rfl tyU32 rfl w.heap.size l.length rfl rfl rfl hby h63 (Nat.le_refl _) ?_; intro w1 hown hg)
  have hb1 := below_made (Below.refl w.heap.size w) hg (Nat.le_refl _)
  clear hg
  have HO := Lib.hid hown
  clear hown
  go_loopw [7, 8] (fun r i wr => ∃ (k rest : Nat) (q : List UInt32), k + q.length = l.length ∧ i = .int .i64 ((k : Int) - 1) ∧ r = .int .u64 rest ∧ rest < d.toNat ∧
      Na.val q * d.toNat + rest = Na.val (l.drop k) ∧ wr.ownsRow w.heap.size 75 1 (.slice (some ⟨w.heap.size, 0, none⟩) l.length l.length) l.length ((List.replicate k 0 ++ q).map u32v) ∧ Ext w wr) (fun _ i _ => (intOf i + 1).toNat)
  case atStart => exact ⟨l.length, 0, [], by simp, rfl, rfl, hd, by simp [Na.val], by simpa [u32v] using HO.out, hb1⟩
  case round =>
    obtain ⟨k, rest, q, hkq, rfl, rfl, hr, hval, hown, hbel⟩ := hrel
    have HV := Lib.hid hval
    have HK := Lib.hid hkq
    have HW := Lib.hid hown
    have hkl : k ≤ l.length := by omega
    clear hval hkq hown
    cases k with
    | zero =>
      simp only [List.replicate_zero, List.nil_append] at HW
      simp only [Nat.zero_add] at HK
      have hrow : IsU32s wr (.slice (some ⟨w.heap.size, 0, none⟩) l.length l.length) q := by
        have := HW.out; rw [← HK.out] at this ⊢; exact ownsRow_row this
      have hq := one_end (Na.val q) rest d.toNat (Na.val l) (by have := HV.out; simpa using this) hr
      have HQ := Lib.hid hq
      clear hq HO
      go_wp2_with fail
      refine (short_any _ _ _ hrow).mono ?_
      rintro e w' ⟨a', rfl, hs, rfl⟩
      have hrm : (rest : Int) % 4294967296 = rest := by omega
      go_wp2_with fail
      go_ret2
      rw [HQ.out.1] at hs ⊢
      exact ⟨_, by rw [HQ.out.2]; rfl, hs, hbel⟩
    | succ j =>
      have hi : (((j + 1 : Nat) : Int) - 1) = (j : Int) := by omega
      rw [hi]
      rcases HA.out with ⟨rfl, _⟩ | ⟨b, o, rfl, hb, hlc, hc⟩
      · simp at hkl
      have hck : wr.cell? ⟨b, o + j, none⟩ = some (u32v l[j]) := by rw [hbel.cell (p := ⟨b, o + j, none⟩) hb]; exact hc j (by omega)
      clear hc hi
      obtain ⟨N, hN⟩ : ∃ N, N = rest * 4294967296 + l[j].toNat := ⟨_, rfl⟩
      have hor : bits .or .u64 ((rest : Int) * 4294967296) (IntKind.u64.wrap (l[j].toNat : Int)) = (N : Int) := by rw [hN]; exact or_join rest l[j] (by omega)
      have HN := Lib.hid hN
      have hlen2 : (List.replicate (j + 1) (0 : UInt32) ++ q).length = l.length := by have := HK.out; simp; omega
      have hcell := HW.out.cellAt j (by omega)
      rw [List.getElem?_map, List.getElem?_append_left (by simp), List.getElem?_replicate, if_pos (by omega), Option.map_some] at hcell
      have hfz := HW.out.frozenAt j
      have hst := HW.out.stored j (u32v (UInt32.ofNat (N / d.toNat)))
      rw [List.map_append, List.map_replicate, set_rep] at hst
      have HS := Lib.hid hst
      clear hN hst HO
      go_wp2_with fail
      go_roundw
      case rel =>
        have hNd : N < d.toNat * 4294967296 := by have := HN.out; have := l[j].toNat_lt; have := Nat.mul_le_mul_right 4294967296 (show rest + 1 ≤ d.toNat from hr); omega
        rw [div_digit N d.toNat hd hdl hNd, show (N : Int) % (d.toNat : Int) = ((N % d.toNat : Nat) : Int) from rfl]
        refine ⟨j, N % d.toNat, UInt32.ofNat (N / d.toNat) :: q, ?_, rfl, rfl, Nat.mod_lt _ hd, ?_, ?_, ?_⟩
        · have := HK.out; simp; omega
        · rw [Na.val_drop l j (by omega), ← HV.out]
          have e : (UInt32.ofNat (N / d.toNat)).toNat = N / d.toNat := ofNat_small (by exact Nat.div_lt_of_lt_mul hNd)
          have := Nat.mod_add_div N d.toNat
          have h2 := HN.out
          simp only [Na.val, Na.B, e]
          rw [Nat.add_mul, Nat.mul_comm (N / d.toNat)]
          rw [Nat.mul_add, Nat.mul_assoc]
          omega
        · simpa [u32v] using HS.out.1
        · exact hbel.setCell (p := ⟨w.heap.size, j, none⟩) (Nat.le_refl _) _
      case measure => simp [intOf]
end Go.Proofs.YtnenbmbgmmeiaaaDoor
