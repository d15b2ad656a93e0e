/- Walks of package natural: DivMod whole. -/
import Derived.Test.YtnenbmbgmmeiaaaDoorNatWalk7
namespace Go.Proofs.YtnenbmbgmmeiaaaDoor
open Go.RowKit
variable {α : Type}

theorem divMod_any (v u : Value) (l m : List UInt32) (w : World) (hv : IsU32s w v l) (hu : IsU32s w u m) (hm : 0 < Na.val m) (hlen : l.length ≤ 100000000) (hlen2 : m.length ≤ 100000000) :
    Calls Tryd.prog 110 #[v, u] w fun e w' => ∃ q r, e = .returned (.tuple #[q, r, .int .i64 0]) ∧ IsU32s w' q (Na.digs (Na.val l / Na.val m)) ∧ IsU32s w' r (Na.digs (Na.val l % Na.val m)) ∧ Ext w w' := by
  rcases Nat.lt_or_ge (Na.val l) (Na.val m) with h | h
  · refine (divMod_less v u l m w hv hu h (by omega)).mono ?_
    rintro e w' ⟨r, rfl, hr, hb⟩
    rw [Nat.div_eq_of_lt h, Nat.mod_eq_of_lt h]
    exact ⟨_, r, rfl, by rw [Na.digs_eq_nil.2 rfl]; exact row_nil _, hr, hb⟩
  · rcases hd : Na.digs (Na.val m) with _ | ⟨d, _ | ⟨d2, t⟩⟩
    · exact absurd (Na.digs_eq_nil.1 hd) (by omega)
    · exact divMod_one v u l m d w hv hu hd h (by omega)
    · exact divMod_long v u l m t.length w hv hu (by rw [hd]; simp) h hlen hlen2
end Go.Proofs.YtnenbmbgmmeiaaaDoor
