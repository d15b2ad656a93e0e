/- The walk of the law ChecksumFNVStep. -/
import Derived.Test.YtppkjnfgbofjaaaLawB
namespace Go.Proofs.Ytppkjnfgbofjaaa
open Go.RowKit
variable {α : Type}

theorem fnv_snoc (l : List UInt8) (m : UInt8) : Crc.fnv (l ++ [m]) = Crc.fnv1 (Crc.fnv l) m := by simp [Crc.fnv]
theorem fnv1_inj (x : UInt64) (m n : UInt8) (h : Crc.fnv1 x m = Crc.fnv1 x n) : m = n := by
  unfold Crc.fnv1 at h
  have h2 := congrArg (· * 14886173955864302971) h
  simp only [UInt64.mul_assoc, show (1099511628211 : UInt64) * 14886173955864302971 = 1 from by decide, UInt64.mul_one] at h2
  have h3 := congrArg (x ^^^ ·) h2
  simp only [← UInt64.xor_assoc, UInt64.xor_self, UInt64.zero_xor] at h3
  have h4 := congrArg UInt64.toNat h3
  simp at h4
  exact UInt8.toNat_inj.1 h4
theorem fnv_law1 (l : List UInt8) (m : UInt8) :
    (((Crc.fnv (l ++ [m])).toNat : Int) == IntKind.u64.wrap (bits .xor .u64 ((Crc.fnv l).toNat : Int) (IntKind.u64.wrap (m.toNat : Int)) * 1099511628211)) = true := by
  rw [fnv_step, fnv_snoc]; simp
theorem fnv_law2 (l : List UInt8) (m n : UInt8) :
    ((((Crc.fnv (l ++ [m])).toNat : Int) == ((Crc.fnv (l ++ [n])).toNat : Int)) == ((m.toNat : Int) == (n.toNat : Int))) = true := by
  rw [fnv_snoc, fnv_snoc]
  by_cases h : m = n
  · subst h; simp
  · have h1 : ¬ Crc.fnv1 (Crc.fnv l) m = Crc.fnv1 (Crc.fnv l) n := fun e => h (fnv1_inj _ _ _ e)
    have h2 : (((Crc.fnv1 (Crc.fnv l) m).toNat : Int) == ((Crc.fnv1 (Crc.fnv l) n).toNat : Int)) = false := by
      rw [beq_eq_false_iff_ne]; intro e; exact h1 (UInt64.toNat_inj.1 (by omega))
    have h3 : ((m.toNat : Int) == (n.toNat : Int)) = false := by
      rw [beq_eq_false_iff_ne]; intro e; exact h (UInt8.toNat_inj.1 (by omega))
    rw [h2, h3]; rfl

theorem row_of_append {w : World} {base : Nat} {e : TypeId} {v : Value} {l : List UInt8} {m : UInt8} {n : Nat} (h : w.ownsRow base e 1 v n ([].toArray.toList ++ l.map u8v ++ [u8v m])) : IsBytes w v (l ++ [m]) := by
  have e1 : n = (l ++ [m]).length := by have := h.1; simp at this; simp; omega
  subst e1
  exact ownsRow_row (by simpa using h)

set_option maxHeartbeats 1600000 in
theorem fnvStep_walk (v1 : Value) (l : List UInt8) (m n : UInt8) (w : World) (h1 : IsBytes w v1 l) :
    Calls Try.prog 8 #[v1, u8v m, u8v n] w fun e w' => e = .returned (.bool true) ∧ Below w.heap.size w w' := by
  obtain ⟨a1, cap1, rfl⟩ : ∃ a cap, v1 = .slice a l.length cap := by obtain ⟨a, cap, h, _⟩ := h1; exact ⟨a, cap, h⟩
  have hl1 := h1.len
  unfold maxLen at hl1
  by_cases hl : 5000 < l.length
  · go_enter Try.func8, Try.ntmps8
    go_wp2_with fail
    refine (example_holds _).mono ?_
    rintro e w' ⟨rfl, hb⟩
    go_wp2_with fail
    go_ret
    exact ⟨rfl, hb⟩
  have hown := World.ownsRow_lit (base := w.heap.size) (e := 5) (size := 1) w #[] 0 (Nat.le_refl _) (Nat.zero_le _) rfl
  have hr := raw_alloc (h1.raw (fun _ => rfl)) (.cells #[] 5)
  have h63 : 0 + l.length ≤ maxLen := by unfold maxLen; omega
  have hby : (0 + l.length) * 1 ≤ 140737488355328 := by omega
  have h63' : 0 + l.length + 1 ≤ maxLen := by unfold maxLen; omega
  have hby' : (0 + l.length + 1) * 1 ≤ 140737488355328 := by omega
  have b0 := below_alloc w (.cells #[] 5)
  have hs0 : w.heap.size ≤ (w.alloc (.cells #[] 5)).heap.size := by simp
  have H1 := Lib.hid h1
  clear h1
  go_enter Try.func8, Try.ntmps8
  go_wp2_with (first
    | (at_builtin; refine wpList_append_raw rfl _ _ _ rfl tyU8 w.heap.size hown rfl hr rfl h63 hby hs0 ?_; intro va wa hown2 hg; have ba := b0.grown hg hs0 (fun k hk => (World.ownsRow.lt hown k hk).1); have hown3 := hown2.alloc (.cells #[u8v m] 5); have hr3 := raw_one wa (u8v m) 5 rfl; have hs1 := ba.size; have hs2 := size_alloc_le hs1 (.cells #[u8v m] 5); clear hown2 hown hr hg)
    | (at_builtin; refine wpList_append_raw rfl _ _ _ rfl tyU8 w.heap.size hown3 rfl hr3 rfl h63' hby' hs2 ?_; intro vb wb hown4 hg4; have bb := (ba.alloc hs1 (.cells #[u8v m] 5)).grown hg4 hs2 (fun k hk => (World.ownsRow.lt hown3 k hk).1); have rb := row_of_append hown4; have hown5 := World.ownsRow_lit (base := wb.heap.size) (e := 5) (size := 1) wb #[] 0 (Nat.le_refl _) (Nat.zero_le _) rfl; have hr5 := raw_alloc ((H1.out.below bb).raw (fun _ => rfl)) (.cells #[] 5); have b5 := below_alloc wb (.cells #[] 5); have hs5 := size_alloc_le (Nat.le_refl wb.heap.size) (.cells #[] 5); clear hown4 hown3 hr3 hg4)
    | (at_builtin; refine wpList_append_raw rfl _ _ _ rfl tyU8 wb.heap.size hown5 rfl hr5 rfl h63 hby hs5 ?_; intro vc wc hown6 hg6; have bc := b5.grown hg6 hs5 (fun k hk => (World.ownsRow.lt hown5 k hk).1); have hown7 := hown6.alloc (.cells #[u8v n] 5); have hr7 := raw_one wc (u8v n) 5 rfl; have hs6 := bc.size; have hs7 := size_alloc_le hs6 (.cells #[u8v n] 5); clear hown5 hown6 hr5 hg6)
    | (at_builtin; refine wpList_append_raw rfl _ _ _ rfl tyU8 wb.heap.size hown7 rfl hr7 rfl h63' hby' hs7 ?_; intro vd wd hown8 hg8; have bd := (bc.alloc hs6 (.cells #[u8v n] 5)).grown hg8 hs7 (fun k hk => (World.ownsRow.lt hown7 k hk).1); have rd := row_of_append hown8; clear hown7 hown8 hr7 hg8))
  have rb' := rb.below bd
  have r1 := (H1.out.below bb).below bd
  refine (fnv64 _ _ _ rb').mono ?_
  rintro e w' ⟨rfl, rfl⟩
  go_wp2_with fail
  refine (fnv64 _ _ _ r1).mono ?_
  rintro e w' ⟨rfl, rfl⟩
  have hf1 := fnv_law1 l m
  go_wp2_with fail
  clear hf1
  refine (fnv64 _ _ _ rb').mono ?_
  rintro e w' ⟨rfl, rfl⟩
  go_wp2_with fail
  refine (fnv64 _ _ _ rd).mono ?_
  rintro e w' ⟨rfl, rfl⟩
  have hf2 := fnv_law2 l m n
  go_wp2_with fail
  refine (example_holds _).mono ?_
  rintro e w' ⟨rfl, hb⟩
  go_wp2_with fail
  go_ret
  exact ⟨rfl, two_below (two_below bb bd) hb⟩
end Go.Proofs.Ytppkjnfgbofjaaa
