/- Walk of the chapter's examples. -/
import Derived.Test.YtnenbmbgmmeiaaaDoorEncWalk13
namespace Go.Proofs.YtnenbmbgmmeiaaaDoor
open Go.RowKit En
variable {α : Type}

theorem ex1 : uvar 10 (zig (-1)) = [1] := by decide
theorem ex2 : vat [9, 1] 1 = (-1, 2, 0) := by decide
theorem ex3 : putQ (nrm true false 1 2) = [1, 1, 1, 1, 2] := by decide
theorem bytes_lit (w : World) (l : List UInt8) (cs : Array Value) (n : Nat) (e : TypeId) (hc : (l.map u8v).toArray = cs) (hn : l.length = n) (hm : n ≤ maxLen) : IsBytes (w.alloc (.cells cs e)) (.slice (some ⟨w.heap.size, 0, none⟩) n n) l := by
  subst hc hn
  exact row_new w l e hm
theorem u32s_lit (w : World) (l : List UInt32) (cs : Array Value) (n : Nat) (e : TypeId) (hc : (l.map u32v).toArray = cs) (hn : l.length = n) (hm : n ≤ maxLen) : IsU32s (w.alloc (.cells cs e)) (.slice (some ⟨w.heap.size, 0, none⟩) n n) l := by
  subst hc hn
  exact row_new w l e hm
theorem one_le_maxLen : (5 : Nat) ≤ maxLen := by unfold maxLen; omega
set_option maxRecDepth 100000 in
set_option maxHeartbeats 1600000 in
theorem example_any (w : World) : Calls Tryd.prog 18 #[] w fun e w' => e = .returned (.bool true) ∧ Ext w w' := by
  have hm5 := one_le_maxLen
  obtain ⟨w1, hw1⟩ : ∃ w1, w1 = w.alloc (.cells #[.int .u32 1] 75) := ⟨_, rfl⟩
  obtain ⟨w2, hw2⟩ : ∃ w2, w2 = w1.alloc (.cells #[.int .u32 2] 75) := ⟨_, rfl⟩
  obtain ⟨w3, hw3⟩ : ∃ w3, w3 = w2.alloc (.cells #[.bool true, .slice (some ⟨w.heap.size, 0, none⟩) 1 1, .bool false, .slice (some ⟨w.heap.size + 1, 0, none⟩) 1 1] 51) := ⟨_, rfl⟩
  obtain ⟨w4, hw4⟩ : ∃ w4, w4 = w3.alloc (.cells #[.int .u8 9, .int .u8 1] 5) := ⟨_, rfl⟩
  have z1 : w1.heap.size = w.heap.size + 1 := by rw [hw1]; simp
  have z2 : w2.heap.size = w.heap.size + 1 + 1 := by rw [hw2]; simp [z1]
  have z3 : w3.heap.size = w.heap.size + 1 + 1 + 1 := by rw [hw3]; simp [z2]
  have e01 : Ext w w1 := by rw [hw1]; exact below_alloc _ _
  have e12 : Ext w1 w2 := by rw [hw2]; exact below_alloc _ _
  have e23 : Ext w2 w3 := by rw [hw3]; exact below_alloc _ _
  have e34 : Ext w3 w4 := by rw [hw4]; exact below_alloc _ _
  have r1 : IsU32s w1 (.slice (some ⟨w.heap.size, 0, none⟩) 1 1) [1] := by rw [hw1]; exact u32s_lit w [1] _ 1 _ rfl rfl (by omega)
  have r2 : IsU32s w2 (.slice (some ⟨w.heap.size + 1, 0, none⟩) 1 1) [2] := by rw [hw2, ← z1]; exact u32s_lit w1 [2] _ 1 _ rfl rfl (by omega)
  have r4 : IsBytes w4 (.slice (some ⟨w.heap.size + 1 + 1 + 1, 0, none⟩) 2 2) [9, 1] := by rw [hw4, ← z3]; exact bytes_lit w3 [9, 1] _ 2 _ rfl rfl (by omega)
  have c3 : ∀ i, w3.cell? ⟨w.heap.size + 1 + 1, i, none⟩ = #[Value.bool true, .slice (some ⟨w.heap.size, 0, none⟩) 1 1, .bool false, .slice (some ⟨w.heap.size + 1, 0, none⟩) 1 1][i]? := fun i => by rw [hw3, ← z2, World.cell?_alloc_at _ _ _ _ rfl]
  have HV := varint_any _ [9, 1] 1 w4 r4
  rw [ex2] at HV
  have HA := Lib.hid (And.intro r1 (And.intro r2 (And.intro (Ext.trans' e01 (Ext.trans' e12 (Ext.trans' e23 e34))) (And.intro (Ext.trans' e12 (Ext.trans' e23 e34)) (Ext.trans' e23 e34)))))
  have HC3 := Lib.hid (And.intro c3 e34)
  have HZ3 := Lib.hid z3
  rw [hw4, hw3, hw2, hw1] at HV
  have HV' := Lib.hid HV
  have HW := Lib.hid (And.intro hw1 (And.intro hw2 (And.intro hw3 hw4)))
  clear HV hw1 hw2 hw3 hw4 z1 z2 z3 e01 e12 e23 e34 r1 r2 r4 c3
  go_enter Tryd.func18, Tryd.ntmps18
  go_wp2_with fail
  refine HV'.out.mono ?_
  rintro e w5 ⟨rfl, hb5⟩
  have hb5' : Ext w4 w5 := by rw [HW.out.2.2.2, HW.out.2.2.1, HW.out.2.1, HW.out.1]; exact hb5
  have HB5 := Lib.hid hb5'
  have HP := Lib.hid (putVarint_any (-1) w5 (by omega) (by omega))
  rw [ex1] at HP
  clear HV' hb5 hb5'
  go_wp2_with fail
  refine HP.out.mono ?_
  rintro e w6 ⟨v6, rfl, ho6, hb6⟩
  have hr6 := ownsRow_row ho6
  have HS := Lib.hid (same06 v6 (.slice (some ⟨w6.heap.size, 0, none⟩) 1 1) [1] [1] (w6.alloc (.cells #[.int .u8 1] 5)) (hr6.below (below_alloc _ _)) (bytes_lit w6 [1] _ 1 _ rfl rfl (by omega)))
  have HB6 := Lib.hid (Ext.trans' HB5.out hb6)
  clear HP ho6 hr6 hb6
  go_wp2_with fail
  refine HS.out.mono ?_
  rintro e w7 ⟨rfl, hb7⟩
  have h47 := Ext.trans' HB6.out (Ext.trans' (below_alloc _ _) hb7)
  have h37 := Ext.trans' HC3.out.2 h47
  have hk7 : ∀ i, w7.cell? ⟨w.heap.size + 1 + 1, i, none⟩ = #[Value.bool true, .slice (some ⟨w.heap.size, 0, none⟩) 1 1, .bool false, .slice (some ⟨w.heap.size + 1, 0, none⟩) 1 1][i]? := fun i => by
    rw [h37.cell (p := ⟨w.heap.size + 1 + 1, i, none⟩) (by rw [HZ3.out]; simp)]; exact HC3.out.1 i
  have g1 := HA.out.1.below (Ext.trans' HA.out.2.2.2.1 h47)
  have g2 := HA.out.2.1.below (Ext.trans' HA.out.2.2.2.2 h47)
  have hq := putRational_any true false _ _ [1] [2] w7 g1 g2 (by decide) (by decide)
  have eq3 : nrm true false (Na.val [1]) (Na.val [2]) = nrm true false 1 2 := rfl
  rw [eq3, ex3] at hq
  have HQ := Lib.hid hq
  have HB7 := Lib.hid h47
  clear HS hb7 h47 h37 g1 g2 hq eq3
  go_wp2_with fail
  refine HQ.out.mono ?_
  rintro e w8 ⟨v8, rfl, ho8, hb8⟩
  have hr8 := ownsRow_row ho8
  have HS := Lib.hid (same06 v8 (.slice (some ⟨w8.heap.size, 0, none⟩) 5 5) [1, 1, 1, 1, 2] [1, 1, 1, 1, 2] (w8.alloc (.cells #[.int .u8 1, .int .u8 1, .int .u8 1, .int .u8 1, .int .u8 2] 5)) (hr8.below (below_alloc _ _)) (bytes_lit w8 [1, 1, 1, 1, 2] _ 5 _ rfl rfl hm5))
  have HB8 := Lib.hid (Ext.trans' HB7.out hb8)
  clear HQ ho8 hr8 hb8 hk7
  go_wp2_with fail
  refine HS.out.mono ?_
  rintro e w9 ⟨rfl, hb9⟩
  have HB9 := Lib.hid (Ext.trans' HA.out.2.2.1 (Ext.trans' HB8.out (Ext.trans' (below_alloc _ _) hb9)))
  clear HS hb9
  go_wp2_with fail
  go_ret
  exact ⟨rfl, HB9.out⟩
end Go.Proofs.YtnenbmbgmmeiaaaDoor
