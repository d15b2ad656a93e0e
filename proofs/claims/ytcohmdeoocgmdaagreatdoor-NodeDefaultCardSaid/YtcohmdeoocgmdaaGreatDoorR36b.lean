/- Reference 13: paths. -/
import Derived.Test.YtcohmdeoocgmdaaGreatDoorR36
set_option maxHeartbeats 1600000
set_option maxRecDepth 100000
namespace Go.Proofs.YtcohmdeoocgmdaaGreatDoor
open Go.RowKit
variable {α : Type} {K : Nat}
set_option linter.unusedVariables false
theorem wrap_pred {j : Nat} (h : j ≤ 9223372036854775807) : Value.int .i64 (IntKind.i64.wrap (((j + 1 : Nat) : Int) - 1)) = .int .i64 ((j : Nat) : Int) := by
  have : IntKind.i64.wrap (((j + 1 : Nat) : Int) - 1) = ((j : Nat) : Int) := by rw [IntKind.wrap_i64]; omega
  rw [this]
theorem stand_yes {x : SegD} {j : Nat} {last : Int} (h : (((((j + 1) : Nat) : Int) == 0) || (last == 5)) = true) : (x.verb == 1) = x.stands last := by
  have h0 : ((((j + 1) : Nat) : Int) == 0) = false := by simp; omega
  rw [h0, Bool.false_or] at h
  obtain rfl : last = 5 := by simpa using h
  simp [SegD.stands]
theorem stand_no {x : SegD} {j : Nat} {last : Int} (h : (((((j + 1) : Nat) : Int) == 0) || (last == 5)) = false) : ((x.verb != 5) || (last != 1)) = x.stands last := by
  simp only [Bool.or_eq_false_iff, beq_eq_false_iff_ne, ne_eq] at h
  unfold SegD.stands
  rw [Bool.eq_iff_iff]
  simp only [Bool.or_eq_true, Bool.and_eq_true, bne_iff_ne, ne_eq, beq_iff_eq]
  omega
theorem r13named_any (v : Int) (w : World) :
    Calls Tryz.prog 162 #[.int .i64 v] w fun e w' => e = .returned (.int .i64 (named v)) ∧ w = w' := by
  skip
  refine Sx.enter Tryz.func162 Tryz.ntmps162 (fun ac S => ?_)
  refine Sx.seqP (fun _ κ1 => ?_)
  refine Sx.run S 1 [] [(2, .int .i64 0)] (fun ac S => ?_)
  refine Sx.done (κ1 _ _ ?_)
  refine wp_seq_k (fun _ κ2 => ?_)
  refine Sx.seqP (fun _ κ3 => ?_)
  refine Sx.run S 1 [] [(3, .int .i64 v)] (fun ac S => ?_)
  refine Sx.done (κ3 _ _ ?_)
  refine wp_block ?_
  refine wp_seq_k (fun _ κ4 => ?_)
  refine Sx.seqP (fun _ κ5 => ?_)
  refine Sx.run S 2 [] [(4, .bool ((v) == 1))] (fun ac S => ?_)
  refine Sx.done (κ5 _ _ ?_)
  refine Sx.cond S (fun hc6 => ?_) (fun hc6 => ?_)
  · refine wp_skip ?_
    refine κ4 _ _ ?_
    refine Sx.cond S (fun hc7 => ?_) (fun hc7 => ?_)
    · refine Sx.seqP (fun _ κ8 => ?_)
      refine Sx.run S 1 [] [(2, .int .i64 1)] (fun ac S => ?_)
      refine Sx.done (κ8 _ _ ?_)
      refine Vp.rt ?_
      have p0 := hc6
      try simp only [beq_iff_eq] at p0
      have p1 := hc7
      try simp only [beq_iff_eq] at p1
      refine Sx.ret1 S Tryz.results162 ?_
      exact ⟨ret_int (by unfold named; (repeat' split) <;> omega), rfl⟩
    · refine Sx.seqP (fun _ κ9 => ?_)
      refine Sx.run S 2 [] [(7, .bool ((v) == 3))] (fun ac S => ?_)
      refine Sx.done (κ9 _ _ ?_)
      refine Sx.cond S (fun hc10 => ?_) (fun hc10 => ?_)
      · refine Sx.seqP (fun _ κ11 => ?_)
        refine Sx.run S 1 [] [(2, .int .i64 2)] (fun ac S => ?_)
        refine Sx.done (κ11 _ _ ?_)
        refine Vp.rt ?_
        have p0 := hc6
        try simp only [beq_iff_eq] at p0
        have p1 := hc7
        try simp only [beq_eq_false_iff_ne, ne_eq] at p1
        have p2 := hc10
        try simp only [beq_iff_eq] at p2
        refine Sx.ret1 S Tryz.results162 ?_
        exact ⟨ret_int (by unfold named; (repeat' split) <;> omega), rfl⟩
      · refine Sx.seqP (fun _ κ12 => ?_)
        refine Sx.run S 2 [] [(9, .bool ((v) == 4))] (fun ac S => ?_)
        refine Sx.done (κ12 _ _ ?_)
        refine Sx.cond S (fun hc13 => ?_) (fun hc13 => ?_)
        · refine Sx.seqP (fun _ κ14 => ?_)
          refine Sx.run S 1 [] [(2, .int .i64 3)] (fun ac S => ?_)
          refine Sx.done (κ14 _ _ ?_)
          refine Vp.rt ?_
          have p0 := hc6
          try simp only [beq_iff_eq] at p0
          have p1 := hc7
          try simp only [beq_eq_false_iff_ne, ne_eq] at p1
          have p2 := hc10
          try simp only [beq_eq_false_iff_ne, ne_eq] at p2
          have p3 := hc13
          try simp only [beq_iff_eq] at p3
          refine Sx.ret1 S Tryz.results162 ?_
          exact ⟨ret_int (by unfold named; (repeat' split) <;> omega), rfl⟩
        · refine Sx.seqP (fun _ κ15 => ?_)
          refine Sx.run S 2 [] [(11, .bool ((v) == 5))] (fun ac S => ?_)
          refine Sx.done (κ15 _ _ ?_)
          refine Sx.cond S (fun hc16 => ?_) (fun hc16 => ?_)
          · refine Sx.seqP (fun _ κ17 => ?_)
            refine Sx.run S 1 [] [(2, .int .i64 0)] (fun ac S => ?_)
            refine Sx.done (κ17 _ _ ?_)
            refine Vp.rt ?_
            have p0 := hc6
            try simp only [beq_iff_eq] at p0
            have p1 := hc7
            try simp only [beq_eq_false_iff_ne, ne_eq] at p1
            have p2 := hc10
            try simp only [beq_eq_false_iff_ne, ne_eq] at p2
            have p3 := hc13
            try simp only [beq_eq_false_iff_ne, ne_eq] at p3
            have p4 := hc16
            try simp only [beq_iff_eq] at p4
            refine Sx.ret1 S Tryz.results162 ?_
            exact ⟨ret_int (by unfold named; (repeat' split) <;> omega), rfl⟩
          · refine wp_skip ?_
            refine κ2 _ _ ?_
            refine Sx.seqP (fun _ κ18 => ?_)
            refine Sx.run S 1 [] [(2, .int .i64 (-1))] (fun ac S => ?_)
            refine Sx.done (κ18 _ _ ?_)
            refine Vp.rt ?_
            have p0 := hc6
            try simp only [beq_iff_eq] at p0
            have p1 := hc7
            try simp only [beq_eq_false_iff_ne, ne_eq] at p1
            have p2 := hc10
            try simp only [beq_eq_false_iff_ne, ne_eq] at p2
            have p3 := hc13
            try simp only [beq_eq_false_iff_ne, ne_eq] at p3
            have p4 := hc16
            try simp only [beq_eq_false_iff_ne, ne_eq] at p4
            refine Sx.ret1 S Tryz.results162 ?_
            exact ⟨ret_int (by unfold named; (repeat' split) <;> omega), rfl⟩
  · refine Vp.region ?_
    refine Sx.run S 2 [] [(4, .bool ((v) == 2))] (fun ac S => ?_)
    refine Sx.done (κ4 _ _ ?_)
    refine Sx.cond S (fun hc19 => ?_) (fun hc19 => ?_)
    · refine Sx.seqP (fun _ κ20 => ?_)
      refine Sx.run S 1 [] [(2, .int .i64 1)] (fun ac S => ?_)
      refine Sx.done (κ20 _ _ ?_)
      refine Vp.rt ?_
      have p0 := hc6
      try simp only [beq_eq_false_iff_ne, ne_eq] at p0
      have p1 := hc19
      try simp only [beq_iff_eq] at p1
      refine Sx.ret1 S Tryz.results162 ?_
      exact ⟨ret_int (by unfold named; (repeat' split) <;> omega), rfl⟩
    · refine Sx.seqP (fun _ κ21 => ?_)
      refine Sx.run S 2 [] [(7, .bool ((v) == 3))] (fun ac S => ?_)
      refine Sx.done (κ21 _ _ ?_)
      refine Sx.cond S (fun hc22 => ?_) (fun hc22 => ?_)
      · refine Sx.seqP (fun _ κ23 => ?_)
        refine Sx.run S 1 [] [(2, .int .i64 2)] (fun ac S => ?_)
        refine Sx.done (κ23 _ _ ?_)
        refine Vp.rt ?_
        have p0 := hc6
        try simp only [beq_eq_false_iff_ne, ne_eq] at p0
        have p1 := hc19
        try simp only [beq_eq_false_iff_ne, ne_eq] at p1
        have p2 := hc22
        try simp only [beq_iff_eq] at p2
        refine Sx.ret1 S Tryz.results162 ?_
        exact ⟨ret_int (by unfold named; (repeat' split) <;> omega), rfl⟩
      · refine Sx.seqP (fun _ κ24 => ?_)
        refine Sx.run S 2 [] [(9, .bool ((v) == 4))] (fun ac S => ?_)
        refine Sx.done (κ24 _ _ ?_)
        refine Sx.cond S (fun hc25 => ?_) (fun hc25 => ?_)
        · refine Sx.seqP (fun _ κ26 => ?_)
          refine Sx.run S 1 [] [(2, .int .i64 3)] (fun ac S => ?_)
          refine Sx.done (κ26 _ _ ?_)
          refine Vp.rt ?_
          have p0 := hc6
          try simp only [beq_eq_false_iff_ne, ne_eq] at p0
          have p1 := hc19
          try simp only [beq_eq_false_iff_ne, ne_eq] at p1
          have p2 := hc22
          try simp only [beq_eq_false_iff_ne, ne_eq] at p2
          have p3 := hc25
          try simp only [beq_iff_eq] at p3
          refine Sx.ret1 S Tryz.results162 ?_
          exact ⟨ret_int (by unfold named; (repeat' split) <;> omega), rfl⟩
        · refine Sx.seqP (fun _ κ27 => ?_)
          refine Sx.run S 2 [] [(11, .bool ((v) == 5))] (fun ac S => ?_)
          refine Sx.done (κ27 _ _ ?_)
          refine Sx.cond S (fun hc28 => ?_) (fun hc28 => ?_)
          · refine Sx.seqP (fun _ κ29 => ?_)
            refine Sx.run S 1 [] [(2, .int .i64 0)] (fun ac S => ?_)
            refine Sx.done (κ29 _ _ ?_)
            refine Vp.rt ?_
            have p0 := hc6
            try simp only [beq_eq_false_iff_ne, ne_eq] at p0
            have p1 := hc19
            try simp only [beq_eq_false_iff_ne, ne_eq] at p1
            have p2 := hc22
            try simp only [beq_eq_false_iff_ne, ne_eq] at p2
            have p3 := hc25
            try simp only [beq_eq_false_iff_ne, ne_eq] at p3
            have p4 := hc28
            try simp only [beq_iff_eq] at p4
            refine Sx.ret1 S Tryz.results162 ?_
            exact ⟨ret_int (by unfold named; (repeat' split) <;> omega), rfl⟩
          · refine wp_skip ?_
            refine κ2 _ _ ?_
            refine Sx.seqP (fun _ κ30 => ?_)
            refine Sx.run S 1 [] [(2, .int .i64 (-1))] (fun ac S => ?_)
            refine Sx.done (κ30 _ _ ?_)
            refine Vp.rt ?_
            have p0 := hc6
            try simp only [beq_eq_false_iff_ne, ne_eq] at p0
            have p1 := hc19
            try simp only [beq_eq_false_iff_ne, ne_eq] at p1
            have p2 := hc22
            try simp only [beq_eq_false_iff_ne, ne_eq] at p2
            have p3 := hc25
            try simp only [beq_eq_false_iff_ne, ne_eq] at p3
            have p4 := hc28
            try simp only [beq_eq_false_iff_ne, ne_eq] at p4
            refine Sx.ret1 S Tryz.results162 ?_
            exact ⟨ret_int (by unfold named; (repeat' split) <;> omega), rfl⟩
theorem r13three_any (s : SegD) (w : World) :
    Calls Tryz.prog 164 #[.agg s.cells.toArray] w fun e w' => e = .returned (.agg #[.int .i64 s.a.x, .int .i64 s.a.y, .int .i64 s.b.x, .int .i64 s.b.y, .int .i64 s.c.x, .int .i64 s.c.y]) ∧ Ext w w' := by
  skip
  refine Sx.enter Tryz.func164 Tryz.ntmps164 (fun ac S => ?_)
  refine Sx.seqP (fun _ κ1 => ?_)
  refine Sx.newp S 1 s.cells (fun ac u b2 E3 hb4 S => ?_)
  refine Sx.newp S 2 [.int .i64 0, .int .i64 0, .int .i64 0, .int .i64 0, .int .i64 0, .int .i64 0] (fun ac u b5 E6 hb7 S => ?_)
  refine Sx.done (κ1 _ _ ?_)
  refine Sx.seqP (fun _ κ8 => ?_)
  refine Sx.run S 7 [.mem 1 1, .mem 1 3, .mem 1 5] [(9, .agg #[.int .i64 s.a.x, .int .i64 s.a.y, .int .i64 s.b.x, .int .i64 s.b.y, .int .i64 s.c.x, .int .i64 s.c.y])] (fun ac S => ?_)
  refine Sx.store S 0 (off := 0) (cs := [.int .i64 s.a.x, .int .i64 s.a.y, .int .i64 s.b.x, .int .i64 s.b.y, .int .i64 s.c.x, .int .i64 s.c.y]) rfl (fun u C9 S => ?_)
  refine Sx.done (κ8 _ _ ?_)
  refine Vp.rt ?_
  refine Sx.retc S 0 Tryz.results164 rfl (v := .agg #[.int .i64 s.a.x, .int .i64 s.a.y, .int .i64 s.b.x, .int .i64 s.b.y, .int .i64 s.c.x, .int .i64 s.c.y]) ?_
  exact ⟨rfl, S.E⟩
theorem r13stands0_any {w : World} {v : Value} {l : List SegD} (h : IsSegs w v l) (hi : 0 < l.length) :
    Calls Tryz.prog 163 #[v, .int .i64 0] w fun e w' => e = .returned (.bool (l[0].stands 5)) ∧ Ext w w' := by
  obtain ⟨a, cap, rfl⟩ := h.1.shape
  have hmax : l.length ≤ 9223372036854775807 := h.1.len
  refine Sx.enter Tryz.func163 Tryz.ntmps163 (fun ac S => ?_)
  refine Sx.seqP (fun _ κ1 => ?_)
  refine Sx.run S 1 [] [(4, .bool false)] (fun ac S => ?_)
  refine Sx.done (κ1 _ _ ?_)
  refine wp_seq_k (fun _ κ2 => ?_)
  refine Sx.seqP (fun _ κ3 => ?_)
  refine Sx.run S 11 [.dead 8 (.bool false), .dead 9 (.bool false), .dead 10 (.bool false), .dead 11 (.bool false), .dead 12 (.bool false), .dead 13 (.bool false), .dead 14 (.bool false)] [(15, .bool true)] (fun ac S => ?_)
  refine Sx.done (κ3 _ _ ?_)
  refine Sx.condT S ?_
  refine Sx.seqP (fun _ κ4 => ?_)
  have lt10 : 0 < l.length := (by omega)
  obtain ⟨b5, o6, c7, hv, hb12, hr8⟩ := Vp.rowN_range2 h.1 (fun _ => rfl) (0) lt10
  simp only [Value.slice.injEq, true_and] at hv
  obtain ⟨rfl, rfl⟩ := hv
  obtain ⟨x11, hx9⟩ : ∃ z, l[0] = z := ⟨_, rfl⟩
  rw [hx9] at hr8
  have S := S.view0 hb12 hr8
  refine Sx.run S 7 [.idx 0 l.length, .mem 0 0] [(4, .bool ((x11.verb) == 1))] (fun ac S => ?_) (hk := ⟨lt10, trivial⟩)
  refine Sx.done (κ4 _ _ ?_)
  refine Vp.rt ?_
  refine Sx.ret1 S Tryz.results163 ?_
  exact ⟨ret_bool (by rw [hx9]; simp [SegD.stands]), S.E⟩
theorem r13standsS_any {w : World} {v : Value} {l : List SegD} {j : Nat} (h : IsSegs w v l) (hi : j + 1 < l.length) :
    Calls Tryz.prog 163 #[v, .int .i64 ((j + 1 : Nat) : Int)] w fun e w' => e = .returned (.bool (l[j + 1].stands l[j].verb)) ∧ Ext w w' := by
  obtain ⟨a, cap, rfl⟩ := h.1.shape
  have hmax : l.length ≤ 9223372036854775807 := h.1.len
  refine Sx.enter Tryz.func163 Tryz.ntmps163 (fun ac S => ?_)
  refine Sx.seqP (fun _ κ1 => ?_)
  refine Sx.run S 1 [] [(4, .bool false)] (fun ac S => ?_)
  refine Sx.done (κ1 _ _ ?_)
  refine wp_seq_k (fun _ κ2 => ?_)
  refine Sx.seqP (fun _ κ3 => ?_)
  have lt9 : j < l.length := (by omega)
  obtain ⟨b4, o5, c6, hv, hb11, hr7⟩ := Vp.rowN_range2 h.1 (fun _ => rfl) (j) lt9
  simp only [Value.slice.injEq, true_and] at hv
  obtain ⟨rfl, rfl⟩ := hv
  obtain ⟨x10, hx8⟩ : ∃ z, l[j] = z := ⟨_, rfl⟩
  rw [hx8] at hr7
  have S := S.view0 hb11 hr7
  refine Sx.run S 11 [.re 10 (.int .i64 (IntKind.i64.wrap (((j + 1 : Nat) : Int) - 1))) (.int .i64 ((j : Nat) : Int)), .idx j l.length, .mem 0 0] [(15, .bool ((((((j + 1) : Nat) : Int)) == 0) || ((x10.verb) == 5)))] (fun ac S => ?_) (hk := ⟨wrap_pred (by omega), lt9, trivial⟩)
  refine Sx.done (κ3 _ _ ?_)
  refine Sx.cond S (fun hc12 => ?_) (fun hc12 => ?_)
  · refine Sx.seqP (fun _ κ13 => ?_)
    have lt19 : (j + 1) < l.length := (by omega)
    obtain ⟨b14, o15, c16, hv, hb21, hr17⟩ := Vp.rowN_range2 h.1 (fun _ => rfl) ((j + 1)) lt19
    simp only [Value.slice.injEq, Option.some.injEq, Addr.mk.injEq, true_and, and_true] at hv
    obtain ⟨⟨rfl, rfl⟩, rfl⟩ := hv
    obtain ⟨x20, hx18⟩ : ∃ z, l[(j + 1)] = z := ⟨_, rfl⟩
    rw [hx18] at hr17
    have S := S.view0 hb21 hr17
    refine Sx.run S 7 [.idx (j + 1) l.length, .mem 0 0] [(4, .bool ((x20.verb) == 1))] (fun ac S => ?_) (hk := ⟨lt19, trivial⟩)
    refine Sx.done (κ13 _ _ ?_)
    refine Vp.rt ?_
    have p0 := hc12
    refine Sx.ret1 S Tryz.results163 ?_
    exact ⟨ret_bool (by rw [hx18, hx8]; exact stand_yes p0), S.E⟩
  · refine wp_skip ?_
    refine κ2 _ _ ?_
    refine Sx.seqP (fun _ κ22 => ?_)
    have lt28 : (j + 1) < l.length := (by omega)
    obtain ⟨b23, o24, c25, hv, hb30, hr26⟩ := Vp.rowN_range2 h.1 (fun _ => rfl) ((j + 1)) lt28
    simp only [Value.slice.injEq, Option.some.injEq, Addr.mk.injEq, true_and, and_true] at hv
    obtain ⟨⟨rfl, rfl⟩, rfl⟩ := hv
    obtain ⟨x29, hx27⟩ : ∃ z, l[(j + 1)] = z := ⟨_, rfl⟩
    rw [hx27] at hr26
    have S := S.view0 hb30 hr26
    refine Sx.run S 16 [.idx (j + 1) l.length, .mem 0 0, .re 31 (.int .i64 (IntKind.i64.wrap (((j + 1 : Nat) : Int) - 1))) (.int .i64 ((j : Nat) : Int)), .idx j l.length, .mem 1 0] [(4, .bool (((x29.verb) != 5) || ((x10.verb) != 1)))] (fun ac S => ?_) (hk := ⟨lt28, wrap_pred (by omega), lt9, trivial⟩)
    refine Sx.done (κ22 _ _ ?_)
    refine Vp.rt ?_
    have p0 := hc12
    refine Sx.ret1 S Tryz.results163 ?_
    exact ⟨ret_bool (by rw [hx27, hx8]; exact stand_no p0), S.E⟩
/-- The verb ahead of place i: a ClosePath ahead of all. -/
def lastV (l : List SegD) : Nat → Int
  | 0 => 5
  | j + 1 => match l[j]? with | some s => s.verb | none => 5
theorem lastV_succ {l : List SegD} {j : Nat} (h : j < l.length) : lastV l (j + 1) = l[j].verb := by simp [lastV, h]
theorem r13stands_any {w : World} {v : Value} {l : List SegD} {i : Nat} (h : IsSegs w v l) (hi : i < l.length) :
    Calls Tryz.prog 163 #[v, .int .i64 ((i : Nat) : Int)] w fun e w' => e = .returned (.bool (l[i].stands (lastV l i))) ∧ Ext w w' := by
  cases i with
  | zero => exact r13stands0_any h hi
  | succ j => rw [lastV_succ (by omega)]; exact r13standsS_any h hi
theorem pt11_eq (p : PtD) : pt11 p.x p.y = p.valid := by
  unfold pt11 PtD.valid cok
  simp only [Bool.and_assoc]
theorem fit13 {v j : Int} {p : PtD} : (((decide (j < named v)) && (!(pt11 p.x p.y))) || ((decide (named v ≤ j)) && (!((p.x == 0) && (p.y == 0))))) = !(fitAt v j p) := by
  rw [pt11_eq]
  have hz : ((p.x == 0) && (p.y == 0)) = true → p.valid = true := by
    intro h
    simp only [Bool.and_eq_true, beq_iff_eq] at h
    unfold PtD.valid cok
    rw [h.1, h.2]; rfl
  unfold fitAt PtD.zero
  by_cases hn : named v ≤ j
  · rw [decide_eq_false (p := j < named v) (by omega), decide_eq_true hn]
    cases hzz : ((p.x == 0) && (p.y == 0))
    · simp
    · simp [hz hzz]
  · rw [decide_eq_true (p := j < named v) (by omega), decide_eq_false hn]
    simp
theorem r13wrong_any {w : World} {v : Value} {l : List SegD} {i : Nat} (h : IsSegs w v l) (hi : i < l.length) :
    Calls Tryz.prog 133 #[v, .int .i64 ((i : Nat) : Int)] w fun e w' => e = .returned (.int .i64 (l[i].err (lastV l i))) ∧ Ext w w' := by
  obtain ⟨a, cap, rfl⟩ := h.1.shape
  have hmax : l.length ≤ 9223372036854775807 := h.1.len
  refine Sx.enter Tryz.func133 Tryz.ntmps133 (fun ac S => ?_)
  refine Sx.seqP (fun _ κ1 => ?_)
  refine Sx.run S 1 [] [(4, .int .i64 0)] (fun ac S => ?_)
  refine Sx.done (κ1 _ _ ?_)
  refine Sx.seqP (fun _ κ2 => ?_)
  have lt8 : i < l.length := hi
  obtain ⟨b3, o4, c5, hv, hb10, hr6⟩ := Vp.rowN_range2 h.1 (fun _ => rfl) (i) lt8
  simp only [Value.slice.injEq, true_and] at hv
  obtain ⟨rfl, rfl⟩ := hv
  obtain ⟨x9, hx7⟩ : ∃ z, l[i] = z := ⟨_, rfl⟩
  rw [hx7] at hr6
  have S := S.view0 hb10 hr6
  refine Sx.run S 5 [.idx i l.length, .mem 0 0] [(12, .int .i64 x9.verb)] (fun ac S => ?_) (hk := ⟨lt8, trivial⟩)
  refine Sx.calls S 13 (r13named_any (x9.verb) _) (fun ac S => ?_)
  refine Sx.run S 1 [] [(5, .int .i64 (named x9.verb))] (fun ac S => ?_)
  refine Sx.done (κ2 _ _ ?_)
  refine wp_seq_k (fun _ κ11 => ?_)
  refine Sx.seqP (fun _ κ12 => ?_)
  refine Sx.run S 2 [] [(15, .bool (decide ((named x9.verb) < 0)))] (fun ac S => ?_)
  refine Sx.done (κ12 _ _ ?_)
  refine Sx.cond S (fun hc13 => ?_) (fun hc13 => ?_)
  · refine Sx.seqP (fun _ κ14 => ?_)
    refine Sx.run S 1 [] [(4, .int .i64 2)] (fun ac S => ?_)
    refine Sx.done (κ14 _ _ ?_)
    refine Vp.rt ?_
    have q0 := hc13
    refine Sx.ret1 S Tryz.results133 ?_
    exact ⟨ret_int (by rw [hx7]; exact (seg_err2 q0).symm), S.E⟩
  · refine wp_skip ?_
    refine κ11 _ _ ?_
    refine wp_seq_k (fun _ κ15 => ?_)
    refine Sx.seqP (fun _ κ16 => ?_)
    refine Sx.run S 2 [] [(16, .slice (some ⟨b3, o4, none⟩) l.length cap), (17, .int .i64 ((i : Nat) : Int))] (fun ac S => ?_)
    refine Sx.callv S 18 (r13stands_any (h.below S.E) hi) (fun ac u E17 S => ?_)
    refine Sx.run S 1 [] [(19, .bool (!(l[i].stands (lastV l i))))] (fun ac S => ?_)
    refine Sx.done (κ16 _ _ ?_)
    refine Sx.cond S (fun hc18 => ?_) (fun hc18 => ?_)
    · refine Sx.seqP (fun _ κ19 => ?_)
      refine Sx.run S 1 [] [(4, .int .i64 10)] (fun ac S => ?_)
      refine Sx.done (κ19 _ _ ?_)
      refine Vp.rt ?_
      have q0 := hc13
      have q1 : (!x9.stands (lastV l i)) = true := by rw [← hx7]; exact hc18
      refine Sx.ret1 S Tryz.results133 ?_
      exact ⟨ret_int (by rw [hx7]; exact (seg_err10 q0 q1).symm), S.E⟩
    · refine wp_skip ?_
      refine κ15 _ _ ?_
      refine Sx.seqP (fun _ κ20 => ?_)
      refine Sx.run S 4 [.idx i l.length, .mem 0 0] [(23, .agg x9.cells.toArray)] (fun ac S => ?_) (hk := ⟨lt8, trivial⟩)
      refine Sx.callv S 24 (r13three_any x9 _) (fun ac u E21 S => ?_)
      refine Sx.newp S 6 [.int .i64 0, .int .i64 0, .int .i64 0, .int .i64 0, .int .i64 0, .int .i64 0] (fun ac u b22 E23 hb24 S => ?_)
      refine Sx.store S 0 (off := 0) (cs := [.int .i64 x9.a.x, .int .i64 x9.a.y, .int .i64 x9.b.x, .int .i64 x9.b.y, .int .i64 x9.c.x, .int .i64 x9.c.y]) rfl (fun u C25 S => ?_)
      refine Sx.done (κ20 _ _ ?_)
      refine wp_seq_k (fun _ κ26 => ?_)
      refine Sx.seqP (fun _ κ27 => ?_)
      refine Sx.run S 1 [] [(7, .int .i64 0)] (fun ac S => ?_)
      refine Sx.done (κ27 _ _ ?_)
      refine wp_block ?_
      refine wp_loop_rounds 4 ?_
      rw [rounds_succ]
      refine wp_seq_k (fun _ κ28 => ?_)
      refine Sx.seqP (fun _ κ29 => ?_)
      refine Sx.run S 2 [] [(26, .bool true)] (fun ac S => ?_)
      refine Sx.done (κ29 _ _ ?_)
      refine Sx.condT S ?_
      refine wp_skip ?_
      refine κ28 _ _ ?_
      refine wp_seq_k (fun _ κ30 => ?_)
      refine wp_block ?_
      refine Sx.seqP (fun _ κ31 => ?_)
      refine Sx.runC S 22 [.mem 0 0, .mem 0 0, .cmp .neq 69 (.tmp 46) (.tmp 47) (.agg #[.int .i64 x9.a.x, .int .i64 x9.a.y]) (.agg #[.int .i64 0, .int .i64 0]) (.bool (!((x9.a.x == 0) && (x9.a.y == 0))))] [(_, _, (decide (0 < (named x9.verb))), .bool (pt11 x9.a.x x9.a.y))] [(50, .bool (((decide (0 < (named x9.verb))) && (!(pt11 x9.a.x x9.a.y))) || ((decide ((named x9.verb) ≤ 0)) && (!((x9.a.x == 0) && (x9.a.y == 0))))))] ⟨fun u hC g => r11Valid_any x9.a.x x9.a.y _, trivial⟩ (fun ac u E32 S => ?_) (hk := ⟨Sx.cmp_agg (fun _ => nePt ..) (by kernel_rfl), trivial⟩)
      refine Sx.done (κ31 _ _ ?_)
      refine Sx.cond S (fun hc33 => ?_) (fun hc33 => ?_)
      · refine Sx.seqP (fun _ κ34 => ?_)
        refine Sx.run S 1 [] [(4, .int .i64 6)] (fun ac S => ?_)
        refine Sx.done (κ34 _ _ ?_)
        refine Vp.rt ?_
        have q0 := hc13
        have q1 : (!x9.stands (lastV l i)) = false := by rw [← hx7]; exact hc18
        have g0 : fitAt x9.verb 0 x9.a = false := by have hh := hc33; rw [fit13] at hh; simpa using hh
        have q2 : (!x9.fits) = true := by simp [SegD.fits, g0]
        refine Sx.ret1 S Tryz.results133 ?_
        exact ⟨ret_int (by rw [hx7]; exact (seg_err6 q0 q1 q2).symm), S.E⟩
      · refine wp_skip ?_
        refine κ30 _ _ ?_
        refine Vp.region ?_
        refine Sx.run S 3 [] [(7, .int .i64 1)] (fun ac S => ?_)
        refine Sx.done ?_
        show Code.rounds _ _ _ 3 _ _
        rw [rounds_succ]
        refine wp_seq_k (fun _ κ35 => ?_)
        refine Sx.seqP (fun _ κ36 => ?_)
        refine Sx.run S 2 [] [(26, .bool true)] (fun ac S => ?_)
        refine Sx.done (κ36 _ _ ?_)
        refine Sx.condT S ?_
        refine wp_skip ?_
        refine κ35 _ _ ?_
        refine wp_seq_k (fun _ κ37 => ?_)
        refine wp_block ?_
        refine Sx.seqP (fun _ κ38 => ?_)
        refine Sx.runC S 22 [.mem 0 2, .mem 0 2, .cmp .neq 69 (.tmp 46) (.tmp 47) (.agg #[.int .i64 x9.b.x, .int .i64 x9.b.y]) (.agg #[.int .i64 0, .int .i64 0]) (.bool (!((x9.b.x == 0) && (x9.b.y == 0))))] [(_, _, (decide (1 < (named x9.verb))), .bool (pt11 x9.b.x x9.b.y))] [(50, .bool (((decide (1 < (named x9.verb))) && (!(pt11 x9.b.x x9.b.y))) || ((decide ((named x9.verb) ≤ 1)) && (!((x9.b.x == 0) && (x9.b.y == 0))))))] ⟨fun u hC g => r11Valid_any x9.b.x x9.b.y _, trivial⟩ (fun ac u E39 S => ?_) (hk := ⟨Sx.cmp_agg (fun _ => nePt ..) (by kernel_rfl), trivial⟩)
        refine Sx.done (κ38 _ _ ?_)
        refine Sx.cond S (fun hc40 => ?_) (fun hc40 => ?_)
        · refine Sx.seqP (fun _ κ41 => ?_)
          refine Sx.run S 1 [] [(4, .int .i64 6)] (fun ac S => ?_)
          refine Sx.done (κ41 _ _ ?_)
          refine Vp.rt ?_
          have q0 := hc13
          have q1 : (!x9.stands (lastV l i)) = false := by rw [← hx7]; exact hc18
          have g0 : fitAt x9.verb 0 x9.a = true := by have hh := hc33; rw [fit13] at hh; simpa using hh
          have g1 : fitAt x9.verb 1 x9.b = false := by have hh := hc40; rw [fit13] at hh; simpa using hh
          have q2 : (!x9.fits) = true := by simp [SegD.fits, g0, g1]
          refine Sx.ret1 S Tryz.results133 ?_
          exact ⟨ret_int (by rw [hx7]; exact (seg_err6 q0 q1 q2).symm), S.E⟩
        · refine wp_skip ?_
          refine κ37 _ _ ?_
          refine Vp.region ?_
          refine Sx.run S 3 [] [(7, .int .i64 2)] (fun ac S => ?_)
          refine Sx.done ?_
          show Code.rounds _ _ _ 2 _ _
          rw [rounds_succ]
          refine wp_seq_k (fun _ κ42 => ?_)
          refine Sx.seqP (fun _ κ43 => ?_)
          refine Sx.run S 2 [] [(26, .bool true)] (fun ac S => ?_)
          refine Sx.done (κ43 _ _ ?_)
          refine Sx.condT S ?_
          refine wp_skip ?_
          refine κ42 _ _ ?_
          refine wp_seq_k (fun _ κ44 => ?_)
          refine wp_block ?_
          refine Sx.seqP (fun _ κ45 => ?_)
          refine Sx.runC S 22 [.mem 0 4, .mem 0 4, .cmp .neq 69 (.tmp 46) (.tmp 47) (.agg #[.int .i64 x9.c.x, .int .i64 x9.c.y]) (.agg #[.int .i64 0, .int .i64 0]) (.bool (!((x9.c.x == 0) && (x9.c.y == 0))))] [(_, _, (decide (2 < (named x9.verb))), .bool (pt11 x9.c.x x9.c.y))] [(50, .bool (((decide (2 < (named x9.verb))) && (!(pt11 x9.c.x x9.c.y))) || ((decide ((named x9.verb) ≤ 2)) && (!((x9.c.x == 0) && (x9.c.y == 0))))))] ⟨fun u hC g => r11Valid_any x9.c.x x9.c.y _, trivial⟩ (fun ac u E46 S => ?_) (hk := ⟨Sx.cmp_agg (fun _ => nePt ..) (by kernel_rfl), trivial⟩)
          refine Sx.done (κ45 _ _ ?_)
          refine Sx.cond S (fun hc47 => ?_) (fun hc47 => ?_)
          · refine Sx.seqP (fun _ κ48 => ?_)
            refine Sx.run S 1 [] [(4, .int .i64 6)] (fun ac S => ?_)
            refine Sx.done (κ48 _ _ ?_)
            refine Vp.rt ?_
            have q0 := hc13
            have q1 : (!x9.stands (lastV l i)) = false := by rw [← hx7]; exact hc18
            have g0 : fitAt x9.verb 0 x9.a = true := by have hh := hc33; rw [fit13] at hh; simpa using hh
            have g1 : fitAt x9.verb 1 x9.b = true := by have hh := hc40; rw [fit13] at hh; simpa using hh
            have g2 : fitAt x9.verb 2 x9.c = false := by have hh := hc47; rw [fit13] at hh; simpa using hh
            have q2 : (!x9.fits) = true := by simp [SegD.fits, g0, g1, g2]
            refine Sx.ret1 S Tryz.results133 ?_
            exact ⟨ret_int (by rw [hx7]; exact (seg_err6 q0 q1 q2).symm), S.E⟩
          · refine wp_skip ?_
            refine κ44 _ _ ?_
            refine Vp.region ?_
            refine Sx.run S 3 [] [(7, .int .i64 3)] (fun ac S => ?_)
            refine Sx.done ?_
            show Code.rounds _ _ _ 1 _ _
            rw [rounds_succ]
            refine wp_seq_k (fun _ κ49 => ?_)
            refine Sx.seqP (fun _ κ50 => ?_)
            refine Sx.run S 2 [] [(26, .bool false)] (fun ac S => ?_)
            refine Sx.done (κ50 _ _ ?_)
            refine Sx.condF S ?_
            refine wp_exit ?_
            refine κ26 _ _ ?_
            refine Sx.seqP (fun _ κ51 => ?_)
            refine Sx.run S 1 [] [(4, .int .i64 0)] (fun ac S => ?_)
            refine Sx.done (κ51 _ _ ?_)
            refine Vp.rt ?_
            have q0 := hc13
            have q1 : (!x9.stands (lastV l i)) = false := by rw [← hx7]; exact hc18
            have g0 : fitAt x9.verb 0 x9.a = true := by have hh := hc33; rw [fit13] at hh; simpa using hh
            have g1 : fitAt x9.verb 1 x9.b = true := by have hh := hc40; rw [fit13] at hh; simpa using hh
            have g2 : fitAt x9.verb 2 x9.c = true := by have hh := hc47; rw [fit13] at hh; simpa using hh
            have q2 : (!x9.fits) = false := by simp [SegD.fits, g0, g1, g2]
            refine Sx.ret1 S Tryz.results133 ?_
            exact ⟨ret_int (by rw [hx7]; exact (seg_err0 q0 q1 q2).symm), S.E⟩
theorem r13Check_any {w : World} {v : Value} {l : List SegD} (h : IsSegs w v l) :
    Calls Tryz.prog 89 #[v] w fun e w' => e = .returned (.tuple #[.int .i64 (pathCheck l).1, .int .i64 (pathCheck l).2]) ∧ Ext w w' := by
  obtain ⟨a, cap, rfl⟩ := h.1.shape
  have hmax : l.length ≤ 9223372036854775807 := h.1.len
  refine Sx.enter Tryz.func89 Tryz.ntmps89 (fun ac S => ?_)
  refine Sx.seqP (fun _ κ1 => ?_)
  refine Sx.run S 2 [] [(2, .int .i64 0), (3, .int .i64 0)] (fun ac S => ?_)
  refine Sx.done (κ1 _ _ ?_)
  refine wp_seq_k (fun _ κ2 => ?_)
  refine Sx.seqP (fun _ κ3 => ?_)
  refine Sx.run S 3 [] [(8, .bool (decide (256 < ((l.length : Nat) : Int))))] (fun ac S => ?_)
  refine Sx.done (κ3 _ _ ?_)
  refine Sx.cond S (fun hc4 => ?_) (fun hc4 => ?_)
  · refine Sx.seqP (fun _ κ5 => ?_)
    refine Sx.run S 2 [] [(2, .int .i64 5), (3, .int .i64 256)] (fun ac S => ?_)
    refine Sx.done (κ5 _ _ ?_)
    refine Vp.rt ?_
    have p0 : 256 < (l.length : Int) := of_decide_eq_true hc4
    refine Sx.ret2 S Tryz.results89 ?_
    have e : pathCheck l = (5, 256) := by unfold pathCheck; rw [if_pos p0]
    exact ⟨by rw [e], S.E⟩
  · refine wp_skip ?_
    refine κ2 _ _ ?_
    refine wp_seq_k (fun _ κ6 => ?_)
    refine Sx.seqP (fun _ κ7 => ?_)
    refine Sx.run S 1 [] [(4, .int .i64 0)] (fun ac S => ?_)
    refine Sx.done (κ7 _ _ ?_)
    refine wp_block ?_
    refine Vp.loop (ι := Nat) (fun p a' w' => p ≤ l.length ∧ (pathErr 5 0 l = pathErr (lastV l p) (p : Int) (l.drop p)) ∧ Sx.St w a' w' 22 [(0, .slice a l.length cap), (2, .int .i64 0), (3, .int .i64 0), (4, .int .i64 ((p : Nat) : Int))] [] []) (fun p => l.length - p) (0) ⟨Nat.zero_le _, rfl, (S.sub [(0, .slice a l.length cap), (2, .int .i64 0), (3, .int .i64 0), (4, .int .i64 ((0 : Nat) : Int))]).noviews⟩ ?_
    rintro k ac u hI
    try dsimp only at hI
    obtain ⟨hk, hR, S⟩ := hI
    refine wp_seq_k (fun _ κ8 => ?_)
    refine Sx.seqP (fun _ κ9 => ?_)
    refine Sx.run S 4 [] [(12, .bool (decide (((k : Nat) : Int) < ((l.length : Nat) : Int))))] (fun ac S => ?_)
    refine Sx.done (κ9 _ _ ?_)
    refine Sx.cond S (fun hc10 => ?_) (fun hc10 => ?_)
    · refine wp_skip ?_
      refine κ8 _ _ ?_
      refine wp_seq_k (fun _ κ11 => ?_)
      refine wp_block ?_
      refine Sx.seqP (fun _ κ12 => ?_)
      refine Sx.run S 2 [] [(15, .slice a l.length cap), (16, .int .i64 ((k : Nat) : Int))] (fun ac S => ?_)
      have hlt : k < l.length := by have := of_decide_eq_true hc10; omega
      refine Sx.callv S 17 (r13wrong_any (h.below S.E) hlt) (fun ac u E13 S => ?_)
      refine Sx.run S 1 [] [(5, .int .i64 (l[k].err (lastV l k)))] (fun ac S => ?_)
      refine Sx.done (κ12 _ _ ?_)
      refine Sx.seqP (fun _ κ14 => ?_)
      refine Sx.run S 2 [] [(19, .bool (((l[k].err (lastV l k))) != 0))] (fun ac S => ?_)
      refine Sx.done (κ14 _ _ ?_)
      refine Sx.cond S (fun hc15 => ?_) (fun hc15 => ?_)
      · refine Sx.seqP (fun _ κ16 => ?_)
        refine Sx.run S 4 [] [(2, .int .i64 (l[k].err (lastV l k))), (3, .int .i64 ((k : Nat) : Int))] (fun ac S => ?_)
        refine Sx.done (κ16 _ _ ?_)
        refine Vp.rt ?_
        have p0 : ¬256 < (l.length : Int) := of_decide_eq_false hc4
        have herr : ¬(l[k].err (lastV l k) = 0) := by simpa using hc15
        refine Sx.ret2 S Tryz.results89 ?_
        have e : pathCheck l = (l[k].err (lastV l k), (k : Int)) := by
          unfold pathCheck
          rw [if_neg (by omega), hR, List.drop_eq_getElem_cons hlt, pathErr, if_neg herr]
        exact ⟨by rw [e], S.E⟩
      · refine wp_skip ?_
        refine κ11 _ _ ?_
        refine Vp.region ?_
        refine Sx.run S 3 [.re 14 (.int .i64 (IntKind.i64.wrap (((k : Nat) : Int) + 1))) (.int .i64 (((k + 1) : Nat) : Int))] [(4, .int .i64 (((k + 1) : Nat) : Int))] (fun ac S => ?_) (hk := ⟨Sx.wrap_succ (by omega), trivial⟩)
        refine Sx.done ?_
        show ∃ i', _ ∧ _
        have herr : l[k].err (lastV l k) = 0 := by simpa using hc15
        rw [List.drop_eq_getElem_cons hlt, pathErr, if_pos herr, ← lastV_succ hlt] at hR
        exact ⟨(k + 1), ⟨by omega, hR, (S.sub [(0, .slice a l.length cap), (2, .int .i64 0), (3, .int .i64 0), (4, .int .i64 (((k + 1) : Nat) : Int))]).noviews⟩, by show _ - _ < _ - _; omega⟩
    · refine wp_exit ?_
      refine κ6 _ _ ?_
      refine Sx.seqP (fun _ κ17 => ?_)
      refine Sx.run S 2 [] [(2, .int .i64 0), (3, .int .i64 0)] (fun ac S => ?_)
      refine Sx.done (κ17 _ _ ?_)
      refine Vp.rt ?_
      have p0 : ¬256 < (l.length : Int) := of_decide_eq_false hc4
      have p1 : ¬(k : Int) < (l.length : Int) := of_decide_eq_false hc10
      refine Sx.ret2 S Tryz.results89 ?_
      have e : pathCheck l = (0, 0) := by
        unfold pathCheck
        rw [if_neg (by omega), hR, List.drop_eq_nil_of_le (by omega)]
        rfl
      exact ⟨by rw [e], S.E⟩
theorem r13Valid_any {w : World} {v : Value} {l : List SegD} (h : IsSegs w v l) :
    Calls Tryz.prog 41 #[v] w fun e w' => e = .returned (.bool (pathOk l)) ∧ Ext w w' := by
  skip
  refine Sx.enter Tryz.func41 Tryz.ntmps41 (fun ac S => ?_)
  refine Sx.seqP (fun _ κ1 => ?_)
  refine Sx.run S 1 [] [(2, .bool false)] (fun ac S => ?_)
  refine Sx.done (κ1 _ _ ?_)
  refine Sx.seqP (fun _ κ2 => ?_)
  refine Sx.run S 1 [] [(6, v)] (fun ac S => ?_)
  refine Sx.callv S 7 (r13Check_any (h.below S.E)) (fun ac u E3 S => ?_)
  refine Sx.run S 5 [] [(3, .int .i64 ((pathCheck l).1))] (fun ac S => ?_)
  refine Sx.done (κ2 _ _ ?_)
  refine Sx.seqP (fun _ κ4 => ?_)
  refine Sx.run S 3 [] [(2, .bool (((pathCheck l).1) == 0))] (fun ac S => ?_)
  refine Sx.done (κ4 _ _ ?_)
  refine Vp.rt ?_
  refine Sx.ret1 S Tryz.results41 ?_
  exact ⟨rfl, S.E⟩
def lastO (l : List StopD) : Nat → Int
  | 0 => 0
  | j + 1 => match l[j]? with | some s => s.o | none => 0
theorem lastO_succ {l : List StopD} {j : Nat} (h : j < l.length) : lastO l (j + 1) = l[j].o := by simp [lastO, h]
theorem s31_next {l : List StopD} {k : Nat} (hk : k < l.length) (hR : stopsFrom 0 l = stopsFrom (lastO l k) (l.drop k) ∧ 0 ≤ lastO l k) (hb : ¬(l[k].o < lastO l k ∨ 65536 < l[k].o)) : stopsFrom 0 l = stopsFrom (lastO l (k + 1)) (l.drop (k + 1)) ∧ 0 ≤ lastO l (k + 1) := by
  obtain ⟨h1, h2⟩ := hR
  rw [lastO_succ hk]
  refine ⟨?_, by omega⟩
  rw [h1, List.drop_eq_getElem_cons hk, stopsFrom, decide_eq_true (p := lastO l k ≤ l[k].o) (by omega), decide_eq_true (p := l[k].o ≤ 65536) (by omega)]; rfl
theorem s31_bad {l : List StopD} {k : Nat} (hk : k < l.length) (hR : stopsFrom 0 l = stopsFrom (lastO l k) (l.drop k) ∧ 0 ≤ lastO l k) (hb : l[k].o < lastO l k ∨ 65536 < l[k].o) : false = stopsOk l := by
  unfold stopsOk
  rw [hR.1, List.drop_eq_getElem_cons hk, stopsFrom]
  rcases hb with hb | hb
  · rw [decide_eq_false (p := lastO l k ≤ l[k].o) (by omega)]; simp
  · rw [decide_eq_false (p := l[k].o ≤ 65536) (by omega)]; simp
theorem s31_end {l : List StopD} {k : Nat} (hk : l.length ≤ k) (hR : stopsFrom 0 l = stopsFrom (lastO l k) (l.drop k) ∧ 0 ≤ lastO l k) : ((decide (1 ≤ ((l.length : Nat) : Int))) && (decide (((l.length : Nat) : Int) ≤ 16))) = stopsOk l := by
  unfold stopsOk
  rw [hR.1, List.drop_eq_nil_of_le hk, stopsFrom, Bool.eq_iff_iff]
  simp only [Bool.and_eq_true, decide_eq_true_eq, and_true]
  omega
theorem r31Valid_any {w : World} {v : Value} {l : List StopD} (h : IsRowN 5 StopD.cells w v l) :
    Calls Tryz.prog 189 #[v] w fun e w' => e = .returned (.bool (stopsOk l)) ∧ Ext w w' := by
  obtain ⟨a, cap, rfl⟩ := h.shape
  have hmax : l.length ≤ 9223372036854775807 := h.len
  refine Sx.enter Tryz.func189 Tryz.ntmps189 (fun ac S => ?_)
  refine Sx.seqP (fun _ κ1 => ?_)
  refine Sx.run S 1 [] [(2, .bool false)] (fun ac S => ?_)
  refine Sx.done (κ1 _ _ ?_)
  refine wp_seq_k (fun _ κ2 => ?_)
  refine Sx.seqP (fun _ κ3 => ?_)
  refine Sx.run S 1 [] [(3, .int .i64 0)] (fun ac S => ?_)
  refine Sx.done (κ3 _ _ ?_)
  refine wp_block ?_
  refine Vp.loop (ι := Nat) (fun p a' w' => p ≤ l.length ∧ (stopsFrom 0 l = stopsFrom (lastO l p) (l.drop p) ∧ 0 ≤ lastO l p) ∧ Sx.St w a' w' 50 [(0, .slice a l.length cap), (2, .bool false), (3, .int .i64 ((p : Nat) : Int))] [] []) (fun p => l.length - p) (0) ⟨Nat.zero_le _, ⟨rfl, Int.le_refl 0⟩, (S.sub [(0, .slice a l.length cap), (2, .bool false), (3, .int .i64 ((0 : Nat) : Int))]).noviews⟩ ?_
  rintro k ac u hI
  try dsimp only at hI
  obtain ⟨hk, hR, S⟩ := hI
  refine wp_seq_k (fun _ κ4 => ?_)
  refine Sx.seqP (fun _ κ5 => ?_)
  refine Sx.run S 4 [] [(7, .bool (decide (((k : Nat) : Int) < ((l.length : Nat) : Int))))] (fun ac S => ?_)
  refine Sx.done (κ5 _ _ ?_)
  refine Sx.cond S (fun hc6 => ?_) (fun hc6 => ?_)
  · refine wp_skip ?_
    refine κ4 _ _ ?_
    refine wp_seq_k (fun _ κ7 => ?_)
    refine wp_block ?_
    refine wp_seq_k (fun _ κ8 => ?_)
    have hlt := of_decide_eq_true hc6
    rcases k with _ | j
    · have lt15 : 0 < l.length := (by omega)
      obtain ⟨b10, o11, c12, hv, hb17, hr13⟩ := Vp.rowN_range2 h (fun _ => rfl) (0) lt15
      simp only [Value.slice.injEq, true_and] at hv
      obtain ⟨rfl, rfl⟩ := hv
      obtain ⟨x16, hx14⟩ : ∃ z, l[0] = z := ⟨_, rfl⟩
      rw [hx14] at hr13
      have S := S.view0 hb17 hr13
      refine Sx.draw S 32 [.idx 0 l.length, .mem 0 0, .idx 0 l.length, .mem 0 0, .dead 28 (.bool false), .dead 29 (.bool false), .dead 30 (.bool false), .dead 31 (.bool false), .dead 32 (.bool false), .dead 33 (.bool false), .dead 34 (.bool false), .dead 35 (.bool false), .dead 36 (.bool false), .dead 37 (.bool false), .dead 38 (.bool false), .dead 39 (.bool false)] [] [(41, .bool (((decide (x16.o < 0)) || (decide (65536 < x16.o))) || false))] trivial (fun ac u E9 S => ?_) (hk := ⟨lt15, lt15, trivial⟩)
      refine Sx.done (κ8 _ _ ?_)
      refine Sx.cond S (fun hc18 => ?_) (fun hc18 => ?_)
      · refine Sx.seqP (fun _ κ19 => ?_)
        refine Sx.run S 1 [] [(2, .bool false)] (fun ac S => ?_)
        refine Sx.done (κ19 _ _ ?_)
        refine Vp.rt ?_
        have hh := hc18
        rw [← hx14] at hh
        have hb : (l[0].o < lastO l 0 ∨ 65536 < l[0].o) := by
          have hl := hR.2
          rw [show lastO l 0 = 0 from rfl] at *
          simp at hh hl ⊢
          omega
        refine Sx.ret1 S Tryz.results189 ?_
        exact ⟨ret_bool (s31_bad (by omega) hR hb), S.E⟩
      · refine wp_skip ?_
        refine κ7 _ _ ?_
        refine Vp.region ?_
        refine Sx.run S 3 [] [(3, .int .i64 1)] (fun ac S => ?_)
        refine Sx.done ?_
        show ∃ i', _ ∧ _
        have hh := hc18
        rw [← hx14] at hh
        have hb : ¬(l[0].o < lastO l 0 ∨ 65536 < l[0].o) := by
          have hl := hR.2
          rw [show lastO l 0 = 0 from rfl] at *
          simp at hh hl ⊢
          omega
        exact ⟨(0 + 1), ⟨by omega, (s31_next (by omega) hR hb), (S.sub [(0, .slice (some ⟨b10, o11, none⟩) l.length cap), (2, .bool false), (3, .int .i64 (((0 + 1) : Nat) : Int))]).noviews⟩, by show _ - _ < _ - _; omega⟩
    · have lt26 : (j + 1) < l.length := (by omega)
      obtain ⟨b21, o22, c23, hv, hb28, hr24⟩ := Vp.rowN_range2 h (fun _ => rfl) ((j + 1)) lt26
      simp only [Value.slice.injEq, true_and] at hv
      obtain ⟨rfl, rfl⟩ := hv
      obtain ⟨x27, hx25⟩ : ∃ z, l[(j + 1)] = z := ⟨_, rfl⟩
      rw [hx25] at hr24
      have S := S.view0 hb28 hr24
      have lt34 : j < l.length := (by omega)
      obtain ⟨b29, o30, c31, hv, hb36, hr32⟩ := Vp.rowN_range2 h (fun _ => rfl) (j) lt34
      simp only [Value.slice.injEq, Option.some.injEq, Addr.mk.injEq, true_and, and_true] at hv
      obtain ⟨⟨rfl, rfl⟩, rfl⟩ := hv
      obtain ⟨x35, hx33⟩ : ∃ z, l[j] = z := ⟨_, rfl⟩
      rw [hx33] at hr32
      have S := S.view0 hb36 hr32
      refine Sx.draw S 32 [.idx (j + 1) l.length, .mem 1 0, .idx (j + 1) l.length, .mem 1 0, .idx (j + 1) l.length, .mem 1 0, .re 35 (.int .i64 (IntKind.i64.wrap (((j + 1 : Nat) : Int) - 1))) (.int .i64 ((j : Nat) : Int)), .idx j l.length, .mem 0 0] [] [(41, .bool (((decide (x27.o < 0)) || (decide (65536 < x27.o))) || ((decide (0 < (((j + 1) : Nat) : Int))) && (decide (x27.o < x35.o)))))] trivial (fun ac u E20 S => ?_) (hk := ⟨lt26, lt26, lt26, wrap_pred (by omega), lt34, trivial⟩)
      refine Sx.done (κ8 _ _ ?_)
      refine Sx.cond S (fun hc37 => ?_) (fun hc37 => ?_)
      · refine Sx.seqP (fun _ κ38 => ?_)
        refine Sx.run S 1 [] [(2, .bool false)] (fun ac S => ?_)
        refine Sx.done (κ38 _ _ ?_)
        refine Vp.rt ?_
        have hh := hc37
        rw [← hx25, ← hx33] at hh
        have hb : (l[(j + 1)].o < lastO l (j + 1) ∨ 65536 < l[(j + 1)].o) := by
          have hl := hR.2
          rw [lastO_succ (show j < l.length by omega)] at *
          simp at hh hl ⊢
          omega
        refine Sx.ret1 S Tryz.results189 ?_
        exact ⟨ret_bool (s31_bad (by omega) hR hb), S.E⟩
      · refine wp_skip ?_
        refine κ7 _ _ ?_
        refine Vp.region ?_
        refine Sx.run S 3 [.re 9 (.int .i64 (IntKind.i64.wrap ((((j + 1) : Nat) : Int) + 1))) (.int .i64 ((((j + 1) + 1) : Nat) : Int))] [(3, .int .i64 ((((j + 1) + 1) : Nat) : Int))] (fun ac S => ?_) (hk := ⟨Sx.wrap_succ (by omega), trivial⟩)
        refine Sx.done ?_
        show ∃ i', _ ∧ _
        have hh := hc37
        rw [← hx25, ← hx33] at hh
        have hb : ¬(l[(j + 1)].o < lastO l (j + 1) ∨ 65536 < l[(j + 1)].o) := by
          have hl := hR.2
          rw [lastO_succ (show j < l.length by omega)] at *
          simp at hh hl ⊢
          omega
        exact ⟨((j + 1) + 1), ⟨by omega, (s31_next (by omega) hR hb), (S.sub [(0, .slice (some ⟨b21, o22, none⟩) l.length cap), (2, .bool false), (3, .int .i64 ((((j + 1) + 1) : Nat) : Int))]).noviews⟩, by show _ - _ < _ - _; omega⟩
  · refine wp_exit ?_
    refine κ2 _ _ ?_
    refine Sx.seqP (fun _ κ39 => ?_)
    refine Sx.run S 9 [] [(2, .bool ((decide (1 ≤ ((l.length : Nat) : Int))) && (decide (((l.length : Nat) : Int) ≤ 16))))] (fun ac S => ?_)
    refine Sx.done (κ39 _ _ ?_)
    refine Vp.rt ?_
    refine Sx.ret1 S Tryz.results189 ?_
    exact ⟨ret_bool (s31_end (by have := of_decide_eq_false hc6; omega) hR), S.E⟩
end Go.Proofs.YtcohmdeoocgmdaaGreatDoor
