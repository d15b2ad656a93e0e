/- Walks of binenc: the reader. -/
import Derived.Test.YtnenbmbgmmeiaaaDoorEncWalk3
import Derived.Deep.QuietTactic
import Derived.BigQuiet
namespace Go.Proofs.YtnenbmbgmmeiaaaDoor
open Go.RowKit En
variable {α : Type}

set_option maxRecDepth 100000 in
set_option maxHeartbeats 800000 in
theorem from_bad (v : Value) (l : List UInt8) (i : Int) (w : World) (hv : IsBytes w v l) (h : i < 0 ∨ (l.length : Int) < i) :
    Calls Tryd.prog 45 #[v, .int .i64 i] w fun e w' => e = .returned (.tuple #[.pointer none, .int .i64 2]) ∧ w = w' := by
  obtain ⟨a, cap, rfl, hm, ha⟩ := hv
  have hl := row_len hm ha
  clear ha
  go_enter Tryd.func45, Tryd.ntmps45
  by_cases h1 : i < 0
  · go_wp2_with fail
    go_ret2
    exact ⟨rfl, rfl⟩
  · have h2 : (l.length : Int) < i := by omega
    clear h
    go_wp2_with fail
    go_ret2
    exact ⟨rfl, rfl⟩
theorem from_good (v : Value) (l : List UInt8) (i : Nat) (w : World) (hv : IsBytes w v l) (h : i ≤ l.length) :
    Calls Tryd.prog 45 #[v, .int .i64 i] w fun e w' => e = .returned (.tuple #[.pointer (some ⟨w.heap.size, 0, none⟩), .int .i64 0]) ∧ w' = w.alloc (.cells #[v, .int .i64 i] 73) := by
  obtain ⟨a, cap, rfl, hm, ha⟩ := hv
  have hl := row_len hm ha
  clear ha
  go_enter Tryd.func45, Tryd.ntmps45
  go_wp2_with fail
  go_ret2
  exact ⟨rfl, rfl⟩
theorem left_any (v : Value) (l : List UInt8) (b p : Nat) (w : World) (hv : IsBytes w v l) (h0 : w.cell? ⟨b, 0, none⟩ = some v) (h1 : w.cell? ⟨b, 1, none⟩ = some (.int .i64 p)) (hp : p ≤ l.length) :
    Calls Tryd.prog 51 #[.pointer (some ⟨b, 0, none⟩)] w fun e w' => e = .returned (.int .i64 ((l.length - p : Nat) : Int)) ∧ ∃ n, w' = w.drewN n := by
  obtain ⟨a, cap, rfl, hm, ha⟩ := hv
  have hl := row_len hm ha
  clear ha
  go_enter Tryd.func51, Tryd.ntmps51
  go_wp2_with fail
  go_quiet (fail)
  go_wp2_with fail
  go_ret
  exact ⟨ret_int (by omega), _, rfl⟩
end Go.Proofs.YtnenbmbgmmeiaaaDoor
