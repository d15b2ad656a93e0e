/- Walks of binenc: runsOf. -/
import Derived.Test.YtnenbmbgmmeiaaaDoorEncW3
import Derived.Test.YtnenbmbgmmeiaaaDoorEncSp
import Derived.Test.YtnenbmbgmmeiaaaDoorRel
import Derived.Lib.MakeNoZero
import Derived.Laws.CopyOwn
namespace Go.Proofs.YtnenbmbgmmeiaaaDoor
open Go.RowKit En
variable {α : Type}
set_option linter.unusedVariables false

theorem tyRun : SliceTy Tryd.prog 103 97 (.agg #[.int .i64 0, .int .u8 0]) 2 16 := ⟨Tryd.underlying103, info_parts (by kernel_rfl), rfl, by decide⟩
/-- The cells of a slice of runs. -/
def rcells (R : List (Nat × UInt8)) : List Value := R.flatMap fun x => [.int .i64 (x.1 : Int), u8v x.2]
theorem rcells_snoc (R : List (Nat × UInt8)) (n : Nat) (c : UInt8) : rcells (R ++ [(n, c)]) = rcells R ++ [.int .i64 (n : Int), u8v c] := by simp [rcells]
theorem rcells_len (R : List (Nat × UInt8)) : (rcells R).length = R.length * 2 := by
  induction R with
  | nil => rfl
  | cons x R ih => simp only [rcells, List.flatMap_cons, List.length_append, List.length_cons, List.length_nil] at ih ⊢; omega
theorem set_end (l : List Value) (a b x : Value) : (l ++ [a, b]).set l.length x = l ++ [x, b] := by simp
theorem snoc_of {β : Type} {R : List β} (h : 0 < R.length) : ∃ S x, R = S ++ [x] := ⟨R.dropLast, R.getLast (by intro e; rw [e] at h; simp at h), (List.dropLast_concat_getLast _).symm⟩

theorem own_sh {w : World} {base : Nat} {e : TypeId} {size : Nat} {v : Value} {n : Nat} {xs : List Value} (h : w.ownsRow base e size v n xs) : ∃ a cap, v = .slice a n cap := by
  rcases h.2 with ⟨rfl, rfl⟩ | ⟨g, cap, cur, hv, _⟩
  · exact ⟨_, _, rfl⟩
  · exact ⟨_, _, hv⟩
set_option maxRecDepth 100000 in
set_option maxHeartbeats 1600000 in
theorem runsOf_any (v : Value) (l : List UInt8) (w : World) (hv : IsBytes w v l) (hlen : l.length ≤ 1000000000) :
    Calls Tryd.prog 72 #[v] w fun e w' => ∃ v', e = .returned v' ∧ w'.ownsRow w.heap.size 97 2 v' (runs l).length (rcells (runs l)) ∧ Ext w w' := by
  have HV := Lib.hid hv
  obtain ⟨a, cap, rfl⟩ := hv.shape
  clear hv
  go_enter Tryd.func72, Tryd.ntmps72
  go_wp2_with fail
  go_loopw [3, 9] (fun g i wr => ∃ k : Nat, i = .int .i64 k ∧ k ≤ l.length ∧ ∃ R, Hid (good none R ∧ flat R = l.take k) ∧ wr.ownsRow w.heap.size 97 2 g R.length (rcells R) ∧ Ext w wr) (fun _ i _ => l.length - (intOf i).toNat)
  case atStart => exact ⟨0, rfl, Nat.zero_le _, [], ⟨trivial, rfl⟩, World.ownsRow_nil _ _ _ _, Below.refl _ _⟩
  case round =>
    obtain ⟨k, rfl, hk, R, HR, hown, hbel⟩ := hrel
    have hRl : R.length ≤ k := by
      have := good_pos HR.out.1
      rw [HR.out.2] at this
      simp at this; omega
    have hsz : w.heap.size ≤ wr.heap.size := hbel.size
    by_cases hlt : k < l.length
    · obtain ⟨b, o, c, hsv, hbb, hlc, hm, hc⟩ := row_some HV.out rfl (by omega)
      simp only [Value.slice.injEq] at hsv
      obtain ⟨rfl, -, -⟩ := hsv
      obtain ⟨d, hd⟩ : ∃ d, l[k] = d := ⟨_, rfl⟩
      have hck : wr.cell? ⟨b, o + k, none⟩ = some (u8v d) := by rw [hbel.cell (p := ⟨b, o + k, none⟩) hbb, hc k hlt, hd]
      have HT : Hid (l.take (k + 1) = l.take k ++ [d]) := by show _ = _; rw [take_snoc l k hlt, hd]
      clear hc hd
      have hraw := raw_new wr #[.int .i64 1, u8v d] 97 1 2 rfl (by unfold maxLen; omega) (by
        intro u hu
        simp only [List.mem_cons, List.not_mem_nil, or_false] at hu
        rcases hu with rfl | rfl <;> rfl)
      have hown' := hown.alloc (.cells #[.int .i64 1, u8v d] 97)
      have hsz1 : w.heap.size ≤ (wr.alloc (.cells #[.int .i64 1, u8v d] 97)).heap.size := by simp; omega
      have h63 : R.length + 1 ≤ maxLen := by unfold maxLen; omega
      have hby : (R.length + 1) * 16 ≤ 140737488355328 := by omega
      rcases Nat.eq_zero_or_pos R.length with h0 | h0
      · have hRn : R = [] := List.eq_nil_of_length_eq_zero h0
        subst hRn
        have HN := Lib.hid (push_new (c := d) HR.out.1 (by simp [lastv]))
        have HO := Lib.hid hown
        obtain ⟨ag, cg, rfl⟩ := own_sh hown
        clear hown h0
        go_wp2_with (at_builtin; refine wpList_append_raw rfl _ _ _ rfl tyRun w.heap.size hown' rfl hraw rfl h63 hby hsz1 ?_; intro v' w' hown2 hg)
        go_roundw
        case rel =>
          refine ⟨k + 1, by go_num, by omega, [(1, d)], ⟨HN.out.1, ?_⟩, ?_, (hbel.alloc hsz _).grown hg hsz1 (fun k hk => (World.ownsRow.lt hown' k hk).1)⟩
          · have := HN.out.2; rw [HR.out.2] at this; rw [HT.out]; exact this
          · exact hown2
        case measure => simp [intOf]; omega
      · obtain ⟨S, ⟨n, c0⟩, rfl⟩ := snoc_of h0
        have hSl : (S ++ [(n, c0)]).length = S.length + 1 := by simp
        obtain ⟨g, cg, rfl, hg1, hg2, hg3⟩ := own_shape hown h0
        have hcl := rcells_len S
        have c1 := hown.cellAt (S.length * 2) (by rw [hSl]; omega)
        have c2 := hown.cellAt (S.length * 2 + 1) (by rw [hSl]; omega)
        rw [rcells_snoc, ← hcl, List.getElem?_append_right (Nat.le_refl _), Nat.sub_self, hcl] at c1
        rw [rcells_snoc, ← hcl, List.getElem?_append_right (by omega), Nat.add_sub_cancel_left, hcl] at c2
        simp only [List.getElem?_cons_zero, List.getElem?_cons_succ] at c1 c2
        have hfz := hown.frozenAt (S.length * 2)
        have hst := hown.stored (S.length * 2) (.int .i64 ((n : Int) + 1))
        rw [rcells_snoc, ← hcl, set_end, hcl] at hst
        have hnle : n ≤ k := by
          have := good_le (n, c0) (show (n, c0) ∈ S ++ [(n, c0)] by simp)
          rw [HR.out.2] at this
          simp at this; omega
        rw [hSl] at hown hown' hst hRl h63 hby hg2 ⊢
        have HST := Lib.hid hst
        have HOW := Lib.hid hown'
        by_cases hcd : c0 = d
        · subst hcd
          have HN := Lib.hid (push_same HR.out.1)
          clear hown hst h0 hSl hcl hown'
          go_wp2_with fail
          go_roundw
          case rel =>
            refine ⟨k + 1, by go_num, by omega, S ++ [(n + 1, c0)], ⟨HN.out.1, ?_⟩, ?_, hbel.setCell (p := ⟨g, S.length * 2, none⟩) hg1 _⟩
            · rw [HN.out.2, HR.out.2, HT.out]
            · rw [rcells_snoc, List.length_append]; exact HST.out.1
          case measure => simp [intOf]; omega
        · have hne : ((c0.toNat : Int) == (d.toNat : Int)) = false := by rw [beq_eq_false_iff_ne]; intro e; exact hcd (UInt8.toNat_inj.1 (by omega))
          have HN := Lib.hid (push_new (c := d) HR.out.1 (by rw [lastv_snoc]; intro e; exact hcd (Option.some.inj e)))
          clear hown hst h0 hSl hcl hcd
          go_wp2_with (at_builtin; refine wpList_append_raw rfl _ _ _ rfl tyRun w.heap.size hown' rfl hraw rfl h63 hby hsz1 ?_; intro v' w' hown2 hg)
          go_roundw
          case rel =>
            refine ⟨k + 1, by go_num, by omega, (S ++ [(n, c0)]) ++ [(1, d)], ⟨HN.out.1, ?_⟩, ?_, (hbel.alloc hsz _).grown hg hsz1 (fun k hk => (World.ownsRow.lt hown' k hk).1)⟩
            · rw [HN.out.2, HR.out.2, HT.out]
            · rw [rcells_snoc, List.length_append, List.length_append]; exact hown2
          case measure => simp [intOf]; omega
    · obtain rfl : k = l.length := by omega
      have hR := runs_of HR.out.1 (by rw [HR.out.2, List.take_length])
      have HRR := Lib.hid hR
      have HO := Lib.hid hown
      clear hR hown
      go_wp2_with fail
      go_ret
      refine ⟨_, rfl, ?_, hbel⟩
      rw [HRR.out]; exact HO.out
end Go.Proofs.YtnenbmbgmmeiaaaDoor
/- Walks of binenc: PutRuns. -/
namespace Go.Proofs.YtnenbmbgmmeiaaaDoor
open Go.RowKit En
variable {α : Type}
set_option linter.unusedVariables false
attribute [local go_sem] Go.Rel.Does Go.Rel.Upon Go.Rel.kept Go.Rel.valOf

theorem rcells_get (R : List (Nat × UInt8)) (k : Nat) (h : k < R.length) : (rcells R)[k * 2]? = some (.int .i64 (R[k].1 : Int)) ∧ (rcells R)[k * 2 + 1]? = some (u8v R[k].2) := by
  induction R generalizing k with
  | nil => simp at h
  | cons x R ih =>
    cases k with
    | zero => exact ⟨rfl, rfl⟩
    | succ k =>
      have := ih k (by simpa using h)
      have e : rcells (x :: R) = .int .i64 (x.1 : Int) :: u8v x.2 :: rcells R := rfl
      rw [e, show (k + 1) * 2 = k * 2 + 2 by omega, show k * 2 + 2 + 1 = (k * 2 + 1) + 2 by omega]
      exact this
theorem runsB_take (R : List (Nat × UInt8)) (k : Nat) (h : k < R.length) : runsB (R.take (k + 1)) = runsB (R.take k) ++ uvar 10 R[k].1 ++ [R[k].2] := by
  rw [take_snoc R k h, runsB_append]; simp [runsB]
def FreshB (base : Nat) (w : World) (v : Value) (l : List UInt8) : Prop := IsBytes w v l ∧ From base v
theorem FreshB.ext {base : Nat} {w w' : World} {v : Value} {l : List UInt8} (h : FreshB base w v l) (hb : Ext w w') : FreshB base w' v l := ⟨h.1.below hb, h.2⟩
theorem FreshB.ch {base g : Nat} {w w' : World} {v : Value} {l : List UInt8} (h : FreshB base w v l) (hb : Ch g w w') (hg : g < base) : FreshB base w' v l := ⟨h.1.ch hb (fun _ => h.2.off hg), h.2⟩

set_option maxRecDepth 100000 in
set_option maxHeartbeats 1600000 in
theorem putRuns_any (v : Value) (l : List UInt8) (w : World) (hv : IsBytes w v l) (hlen : l.length ≤ 10000000) :
    Calls Tryd.prog 43 #[v] w fun e w' => ∃ v', e = .returned v' ∧ OwnB w.heap.size w' v' (putR l) ∧ Ext w w' := by
  have HP := Lib.hid (runsOf_any v l w hv (by omega))
  have hgr := (runs_flat l).1
  have hfl := (runs_flat l).2
  have hRl := good_pos hgr
  rw [hfl] at hRl
  have hle : ∀ x ∈ runs l, x.1 ≤ l.length := fun x hx => by have := good_le x hx; rw [hfl] at this; exact this
  have HLE := Lib.hid hle
  obtain ⟨a, cap, rfl⟩ := hv.shape
  unfold putR
  generalize runs l = R at *
  clear hv hgr hfl hle
  go_enter Tryd.func43, Tryd.ntmps43
  go_wp2_with fail
  refine HP.out.mono ?_
  rintro e w1 ⟨q, rfl, ho, hb⟩
  obtain ⟨aq, cq, hq⟩ := own_sh ho
  rw [hq] at ho
  have HQ := Lib.hid ho
  have HB := Lib.hid hb
  have HL := Lib.hid (length_any R.length w1 (by omega))
  clear ho hb HP
  go_wp2_with fail
  refine HL.out.mono ?_
  rintro e w2 ⟨b0, rfl, ho, hb⟩
  have HO := Lib.hid (And.intro ho hb)
  have hul := uvar_len 10 R.length
  have hup : 0 < (uvar 10 R.length).length := uvar_pos 9 _
  clear ho hb HL
  go_wp2_with fail
  go_loopw [4, 14] (fun g i wr => ∃ k : Nat, i = .int .i64 k ∧ k ≤ R.length ∧ wr.ownsRow w1.heap.size 5 1 g ((uvar 10 R.length).length + (runsB (R.take k)).length) ((uvar 10 R.length ++ runsB (R.take k)).map u8v) ∧ Ext w1 wr) (fun _ i _ => R.length - (intOf i).toNat)
  case atStart => exact ⟨0, rfl, Nat.zero_le _, by simpa [runsB] using HO.out.1, HO.out.2⟩
  case round =>
    obtain ⟨k, rfl, hk, hown, hbel⟩ := hrel
    have hrl := runsB_len (R.take k)
    have htl : (R.take k).length = k := by simp; omega
    have hsz := hbel.size
    by_cases hlt : k < R.length
    · obtain ⟨gq, cq', hsh, hg1, hg2, hg3⟩ := own_shape HQ.out (by omega)
      simp only [Value.slice.injEq, true_and] at hsh
      obtain ⟨rfl, rfl⟩ := hsh
      have hgl := (World.ownsRow.lt HQ.out gq rfl).2
      have c1 := HQ.out.cellAt (k * 2) (by omega)
      have c2 := HQ.out.cellAt (k * 2 + 1) (by omega)
      rw [(rcells_get R k hlt).1] at c1
      rw [(rcells_get R k hlt).2] at c2
      have hT := runsB_take R k hlt
      have hxl := HLE.out _ (List.getElem_mem hlt)
      obtain ⟨⟨n, c⟩, hx⟩ : ∃ x, R[k] = x := ⟨_, rfl⟩
      rw [hx] at c1 c2 hT hxl
      simp only at c1 c2 hT hxl
      rw [← hbel.cell (p := ⟨gq, k * 2, none⟩) hgl] at c1
      rw [← hbel.cell (p := ⟨gq, k * 2 + 1, none⟩) hgl] at c2
      obtain ⟨g, cg, rfl, hb1, hb2, hb3⟩ := own_shape hown (by omega)
      have hgw := (World.ownsRow.lt hown g rfl).2
      have hn10 := uvar_len 10 n
      have hnp : 0 < (uvar 10 n).length := uvar_pos 9 _
      have HT := Lib.hid hT
      have HOW := Lib.hid hown
      have HBL := Lib.hid hbel
      clear hT hx hown hbel
      go_wp2_with fail
      generalize hW : wr.alloc _ = W
      have hWz : W.heap.size = wr.heap.size + 1 := by rw [← hW]; simp
      have hWe : Ext wr W := by rw [← hW]; exact below_alloc _ _
      have hk1 : W.cell? ⟨wr.heap.size, 0, none⟩ = some (.int .i64 (n : Int)) := by rw [← hW]; simp [go_sem]
      have hk2 : W.cell? ⟨wr.heap.size, 1, none⟩ = some (u8v c) := by rw [← hW]; simp [go_sem]
      have HK : Hid (∀ w', Ch g W w' → w'.cell? ⟨wr.heap.size, 0, none⟩ = some (.int .i64 (n : Int)) ∧ w'.cell? ⟨wr.heap.size, 1, none⟩ = some (u8v c)) := by
        intro w' hw'
        rw [hw'.cell (p := ⟨wr.heap.size, 0, none⟩) (by simp only; omega) (by simp only; omega), hw'.cell (p := ⟨wr.heap.size, 1, none⟩) (by simp only; omega) (by simp only; omega)]
        exact ⟨hk1, hk2⟩
      have HWE := Lib.hid hWe
      clear hW hk1 hk2 hWe c1 c2
      refine Go.RelI.wp_region 8 (by kernel_rfl) (by kernel_rfl) (RelI.But 4 Ext (Ch g)) (fun w' => Ch g W w') 4
        (fun w' => w'.ownsRow w1.heap.size 5 1 (.slice (some ⟨g, 0, none⟩) ((uvar 10 R.length).length + (runsB (R.take k)).length) cg) ((uvar 10 R.length).length + (runsB (R.take k)).length) ((uvar 10 R.length ++ runsB (R.take k)).map u8v))
        [Rel.is (.slice (some ⟨g, 0, none⟩) ((uvar 10 R.length).length + (runsB (R.take k)).length) cg), Rel.is (.pointer (some ⟨wr.heap.size, 0, none⟩)), Rel.is (.int .i64 (n : Int)), fun v w' => FreshB W.heap.size w' v (uvar 10 n),
         fun v w' => w'.ownsRow w1.heap.size 5 1 v ((uvar 10 R.length).length + (runsB (R.take k)).length + (uvar 10 n).length) ((uvar 10 R.length ++ runsB (R.take k)).map u8v ++ (uvar 10 n).map u8v),
         Rel.is (.pointer (some ⟨wr.heap.size, 1, none⟩)), Rel.is (u8v c), fun v w' => FreshB W.heap.size w' v [c]]
        ?_ ?_ ?_ ?_ ?_ ⟨?_, ?_, ?_, ?_, ?_, ?_, ?_, ?_, trivial⟩ ?_
      · exact (Ch.refl _ _).drewN 1
      · exact ownsRow_ext (ownsRow_ext HOW.out HWE.out) (below_drewN (Below.refl _ _) 1)
      · intro i wa wb h hR
        unfold RelI.But at hR
        split at hR
        · exact Ch.trans h hR
        · exact Ch.trans h (Ch.of_ext hR)
      · intro i wa wb hi h hR
        rw [RelI.but_ne hi] at hR
        exact ownsRow_ext h hR
      · exact RelI.MonosBut.mem ⟨Rel.mono_is _, fun _ => Rel.mono_is _, Rel.mono_is _, fun _ => Rel.mono_is _, Rel.mono_is _, fun _ => Rel.mono_is _, fun _ _ _ h k => FreshB.ext k h, fun _ _ _ _ h k => FreshB.ch k h (by omega),
          fun _ _ _ h k => ownsRow_ext k h, fun e => absurd rfl e, Rel.mono_is _, fun _ => Rel.mono_is _, Rel.mono_is _, fun _ => Rel.mono_is _, fun _ _ _ h k => FreshB.ext k h, fun _ _ _ _ h k => FreshB.ch k h (by omega), trivial⟩
      · intro ρ w' hs ho hC hd
        have h1 : ρ (.tmp 4) = .slice (some ⟨g, 0, none⟩) ((uvar 10 R.length).length + (runsB (R.take k)).length) cg := ho 4 rfl
        simp [go_sem, h1]
        exact ⟨Ext.rfl', rfl⟩
      · intro ρ w' hs ho hC hd
        have h1 : ρ (.tmp 6) = .pointer (some ⟨wr.heap.size, 0, none⟩) := ho 6 rfl
        simp [go_sem, h1]
        exact ⟨Ext.rfl', rfl⟩
      · intro ρ w' hs ho hC hd
        obtain ⟨hd1, -⟩ := hd
        have h1 : ρ (.tmp 19) = _ := hd1 rfl
        obtain ⟨q1, q2⟩ := HK.out w' hC.1
        simp [go_sem, h1, q1]
        exact ⟨Ext.rfl', rfl⟩
      · intro ρ w' hs ho hC hd
        obtain ⟨hd1, -⟩ := hd
        have h1 : ρ (.tmp 20) = _ := hd1 rfl
        simp [go_sem, h1, hs.func]
        refine (length_any n w' (by omega)).mono ?_
        rintro e w'' ⟨y, rfl, hr, hb⟩
        exact ⟨_, rfl, hb, ownsRow_row hr, (from_own hr).mono hC.1.size⟩
      · intro ρ w' hs ho hC hd
        obtain ⟨hd1, hd2, -⟩ := hd
        have h1 : ρ (.tmp 18) = _ := hd1 rfl
        have h2 : FreshB W.heap.size w' (ρ (.tmp 21)) _ := hd2 rfl
        refine does_append _ _ _ rfl tyU8 w1.heap.size (hC.2 rfl) h1 (h2.1.raw (fun _ => rfl)) hnp rfl (by unfold maxLen; omega) (by omega) (by have := hC.1.size; omega) ?_
        intro v' w'' ho2 hg
        exact ⟨hg, ho2⟩
      · intro ρ w' hs ho hC hd
        have h1 : ρ (.tmp 6) = .pointer (some ⟨wr.heap.size, 0, none⟩) := ho 6 rfl
        simp [go_sem, h1]
        exact ⟨Ext.rfl', rfl⟩
      · intro ρ w' hs ho hC hd
        obtain ⟨hd1, -⟩ := hd
        have h1 : ρ (.tmp 23) = _ := hd1 rfl
        obtain ⟨q1, q2⟩ := HK.out w' hC.1
        simp [go_sem, h1, q2]
        exact ⟨Ext.rfl', rfl⟩
      · intro ρ w' hs ho hC hd
        obtain ⟨hd1, -⟩ := hd
        have h1 : ρ (.tmp 24) = _ := hd1 rfl
        simp [go_sem, h1]
        refine ⟨below_alloc _ _, row_new _ [c] _ (by unfold maxLen; simp), ?_⟩
        intro ad n' c' e
        simp only [Value.slice.injEq, Option.some.injEq] at e
        rw [← e.1]; exact hC.1.size
      · intro w' hC
        rintro _ rfl _ rfl _ rfl v3 h3 v4 h4 _ rfl _ rfl v7 h7
        change wpList _ _ _ (List.drop 8 _) _ _
        simp only [List.drop_succ_cons, List.drop_zero, Go.Act.put, List.setIfInBounds_toArray, List.set_cons_succ, List.set_cons_zero]
        have hraw := h7.1.raw (fun _ => rfl)
        have h63 : (uvar 10 R.length).length + (runsB (R.take k)).length + (uvar 10 n).length + [c].length ≤ maxLen := by unfold maxLen; simp; omega
        have hby : ((uvar 10 R.length).length + (runsB (R.take k)).length + (uvar 10 n).length + [c].length) * 1 ≤ 140737488355328 := by simp; omega
        have hsz8 : w1.heap.size ≤ w'.heap.size := by have := hC.size; omega
        have hbw : Below w1.heap.size w1 w' := Below.trans (Ext.trans' HBL.out HWE.out) (hC.below hb1 (by omega))
        have HBW := Lib.hid hbw
        clear h3 hbw
        go_wp2_with (at_builtin; refine wpList_append_raw rfl _ _ _ rfl tyU8 w1.heap.size h4 rfl hraw rfl h63 hby hsz8 ?_; intro v' w'' hown2 hg)
        go_roundw
        case rel =>
          refine ⟨k + 1, by go_num, by omega, ?_, HBW.out.grown hg hsz8 (fun k hk => (World.ownsRow.lt h4 k hk).1)⟩
          rw [HT.out]
          have e1 : (uvar 10 R.length).length + (runsB (R.take k) ++ uvar 10 n ++ [c]).length = (uvar 10 R.length).length + (runsB (R.take k)).length + (uvar 10 n).length + [c].length := by simp; omega
          have e2 : (uvar 10 R.length ++ (runsB (R.take k) ++ uvar 10 n ++ [c])).map u8v = (uvar 10 R.length ++ runsB (R.take k)).map u8v ++ (uvar 10 n).map u8v ++ [c].map u8v := by simp
          rw [e1, e2]
          exact hown2
        case measure => simp [intOf]; omega
    · obtain rfl : k = R.length := by omega
      rw [List.take_length] at hown
      have HOW := Lib.hid hown
      clear hown
      go_wp2_with fail
      go_ret
      refine ⟨_, rfl, ?_, Ext.trans' HB.out hbel⟩
      unfold OwnB
      rw [List.length_append]
      exact ownsRow_mono HOW.out HB.out.size
end Go.Proofs.YtnenbmbgmmeiaaaDoor
/- Walks: bytes.Repeat of one byte. -/
namespace Go.Proofs.YtnenbmbgmmeiaaaDoor
open Go.RowKit En
variable {α : Type}
set_option linter.unusedVariables false
attribute [local go_sem] Go.Rel.Does Go.Rel.Upon Go.Rel.kept Go.Rel.valOf

/-- 'copy' as an operation of a drawn region. -/
theorem does_copy {P : Program} {w : World} {o : Oper} {ρ : Operand → Value} {K : Value → World → Prop} (d s : Operand) (dT sT : TypeId)
    (ho : o.op = .call { callee := .builtin .copy, args := #[d, s], argTypes := #[dT, sT] }) (elem : TypeId) (hu : P.underlying dT = some (.slice elem)) (hsz : (P.info? elem).map (·.size) = some 1)
    (g off dLen dCap : Nat) (ad : Addr) (sLen sCap : Nat) (hd : ρ d = .slice (some ⟨g, off, none⟩) dLen dCap) (hs : ρ s = .slice (some ad) sLen sCap)
    (cur : List Value) (t : TypeId) (hg : w.heap[g]? = some (.cells cur.toArray t (0, 0))) (cs : List Value) (hn : cs.length = Nat.min sLen dLen)
    (hsrc : ∀ j v, cs[j]? = some v → w.cell? (ad.add j) = some v) (hfit : off + cs.length ≤ cur.length) (h1 : ∀ v ∈ cs, v.oneCell' = true) (B : Nat) (w0 : World) (hb : Below B w0 w) (hBg : B ≤ g)
    (h : ∀ w', w'.heap[g]? = some (.cells (splice cur off cs).toArray t (0, 0)) → Below B w0 w' → K (goInt cs.length) w') : Rel.Does P o ρ w K := by
  have hrun := run_copy_row (P := P) w dT sT o.type elem g off dLen dCap ad sLen sCap cur.toArray t cs hu hsz hg hn hsrc (by simpa using hfit) h1
  unfold Rel.Does execOp
  simp only [ho, resolve, invoke, builtin, Sem.run_bind, Sem.run_pure, Result.andThen_ok, List.map_toArray, List.map_cons, List.map_nil, hd, hs, hrun]
  exact h _ (by simpa [splice] using setRow_heap w g _ _ t _ hg) (below_setRow hb hBg _)
theorem splice_get {α : Type} (L : List α) (off : Nat) (cs : List α) (x : α) (hf : off + cs.length ≤ L.length) (h1 : ∀ j, j < off → L[j]? = some x) (h2 : ∀ j, j < cs.length → cs[j]? = some x) : ∀ j, j < off + cs.length → (splice L off cs)[j]? = some x := by
  intro j hj
  unfold splice
  by_cases h : j < off
  · rw [List.getElem?_append_left (by simp; omega), List.getElem?_take_of_lt h]; exact h1 j h
  · have e : (L.take off).length = off := by simp; omega
    rw [List.getElem?_append_right (by omega), e, List.getElem?_append_left (by omega)]; exact h2 _ (by omega)
theorem and_mask32 (n : Nat) (h : n < 4294967296) : bits .and .u64 (n : Int) 4294967295 = (n : Int) := by
  have := u64_and_nat n 4294967295 (by omega) (by omega)
  rw [show ((4294967295 : Nat) : Int) = 4294967295 from rfl] at this
  rw [this]
  congr 1
  have h2 := Nat.and_two_pow_sub_one_eq_mod n 32
  rw [show 2 ^ 32 - 1 = 4294967295 from rfl, show 2 ^ 32 = 4294967296 from rfl] at h2
  rw [h2]; omega
theorem mul64_one (n : Nat) (w : World) (h : n < 4294967296) :
    Calls Tryd.prog 104 #[.int .u64 1, .int .u64 n] w fun e w' => e = .returned (.tuple #[.int .u64 0, .int .u64 n]) ∧ w = w' := by
  have h1 := and_mask32 n h
  have h2 := and_mask32 1 (by omega)
  have h3 := and_mask32 0 (by omega)
  simp only [Int.natCast_zero, Int.natCast_one] at h2 h3
  have h4 : (n : Int) / 4294967296 = 0 := by omega
  go_enter Tryd.func104, Tryd.ntmps104
  go_wp2_with fail
  go_ret2
  exact ⟨rfl, rfl⟩
theorem mul_one (n : Nat) (w : World) (h : n < 4294967296) :
    Calls Tryd.prog 88 #[.int .u64 1, .int .u64 n] w fun e w' => e = .returned (.tuple #[.int .u64 0, .int .u64 n]) ∧ w = w' := by
  have HC := Lib.hid (mul64_one n w h)
  go_enter Tryd.func88, Tryd.ntmps88
  go_wp2_with fail
  refine HC.out.mono ?_
  rintro e w' ⟨rfl, rfl⟩
  go_wp2_with fail
  go_ret2
  exact ⟨rfl, rfl⟩

theorem makeNoZero_run (n : Nat) (w : World) (hn : n ≤ 281474976710656) :
    ∃ cs : Array Value, (callFunc 89 #[.int .i64 (n : Int)]).run Tryd.prog w = .ok (.value (.slice (some ⟨w.heap.size, 0, none⟩) n cs.size)) ((w.alloc (.cells cs 5)).drewN 2) ∧ n ≤ cs.size ∧ (n ≤ maxLen → cs.size ≤ maxLen) := by
  obtain ⟨cs, hrun, hle, hmax⟩ := Lib.run_makeNoZero (P := Tryd.prog) w #[3] 23 5 Tryd.underlying23 n hn
  refine ⟨cs, ?_, hle, hmax⟩
  rw [run_callFunc_extern Tryd.func89 (by kernel_rfl) (by kernel_rfl) (by kernel_rfl) (e := Extern.BytealgMakeNoZero.makeNoZero #[3] #[23]) (by kernel_rfl), hrun]
  rfl

set_option maxRecDepth 100000 in
set_option maxHeartbeats 1600000 in
theorem repeat_any (v : Value) (c : UInt8) (n : Nat) (w : World) (hv : IsBytes w v [c]) (h1 : 1 ≤ n) (hn : n ≤ 100000000) :
    Calls Tryd.prog 70 #[v, .int .i64 n] w fun e w' => ∃ v', e = .returned v' ∧ IsBytes w' v' (List.replicate n c) ∧ Ext w w' := by
  obtain ⟨b, o, cap, rfl, hb, hlc, hm, hc⟩ := row_some hv rfl Nat.one_pos
  have HM := Lib.hid (mul_one n w (by omega))
  obtain ⟨cs, hmk, hcs, hmax⟩ := makeNoZero_run n w (by omega)
  have hcsm := hmax (by unfold maxLen; omega)
  have n0 : ((n : Int) == 0) = false := by rw [beq_eq_false_iff_ne]; omega
  have i0 : (0 : Int) ≤ (n : Int) := by omega
  have i1 : (n : Int) ≤ (cs.size : Int) := by omega
  have HC := Lib.hid hc
  clear hc hv
  go_enter Tryd.func70, Tryd.ntmps70
  go_wp2_with fail
  refine HM.out.mono ?_
  rintro e w' ⟨rfl, rfl⟩
  have hu8 : (Tryd.prog.info? 5).map (·.size) = some 1 := by kernel_rfl
  have hg0 : ((w.alloc (.cells cs 5)).drewN 2).heap[w.heap.size]? = some (.cells cs.toList.toArray 5 (0, 0)) := by
    show (w.alloc (.cells cs 5)).heap[w.heap.size]? = _
    rw [heap_alloc_new]
  have hsrc : ∀ (j : Nat) v, [u8v c][j]? = some v → ((w.alloc (.cells cs 5)).drewN 2).cell? ((⟨b, o, none⟩ : Addr).add j) = some v := by
    intro j v hj
    rcases j with _ | j
    · simp only [List.getElem?_cons_zero, Option.some.injEq] at hj
      subst hj
      have h0 := HC.out 0 Nat.one_pos
      simp only [Nat.add_zero, List.getElem_cons_zero] at h0
      have e : (⟨b, o, none⟩ : Addr).add 0 = ⟨b, o, none⟩ := rfl
      rw [e, World.cell?_drewN, (below_alloc w _).cell (p := ⟨b, o, none⟩) hb]
      exact h0
    · simp at hj
  have hone : ∀ v ∈ [u8v c], v.oneCell' = true := by intro v hv; simp at hv; subst hv; rfl
  have hb0 : Below w.heap.size w ((w.alloc (.cells cs 5)).drewN 2) := below_drewN (below_alloc _ _) 2
  have HS := Lib.hid hsrc
  have hcase : ∃ cm : Nat, 1 ≤ cm ∧ cm ≤ n ∧ (n = cm ∧ n ≤ 8192 ∨ cm = 8192 ∧ 8192 < n) := by
    by_cases h8 : n ≤ 8192
    · exact ⟨n, by omega, by omega, .inl ⟨rfl, h8⟩⟩
    · exact ⟨8192, by omega, by omega, .inr ⟨rfl, by omega⟩⟩
  have hm1 : [u8v c].length = Nat.min 1 n := by show 1 = min 1 n; omega
  have hf1 : 0 + [u8v c].length ≤ cs.toList.length := by simp; omega
  have hsp1 : Hid ((splice cs.toList 0 [u8v c]).length = cs.size ∧ ∀ j, j < 1 → (splice cs.toList 0 [u8v c])[j]? = some (u8v c)) := by
    refine ⟨by rw [length_splice _ _ _ hf1]; simp, fun j hj => ?_⟩
    obtain rfl : j = 0 := by omega
    simp [splice]
  clear hsrc HM
  obtain ⟨cm, hcm1, hcm2, ⟨rfl, h8⟩ | ⟨rfl, h8⟩⟩ := hcase
  all_goals
    go_wp2_with (with_reducible refine wpList_copy_splice (o := ⟨some 60, _, _, _, _, _⟩) rfl _ _ _ _ rfl 5 Tryd.underlying23 hu8 _ _ _ _ _ _ rfl rfl w.heap.size 0 cs.toList 5 hg0 [u8v c] hm1 (fun _ => ⟨rfl, _, rfl, HS.out⟩) hf1 hone w.heap.size w hb0 (Nat.le_refl _) ?_; intro w1 HG1 hb1)
    have HG := Lib.hid HG1
    clear HG1 hg0 hm1 hf1
    go_loopw [10] (fun i wr => ∃ bp : Nat, i = .int .i64 bp ∧ 1 ≤ bp ∧ bp ≤ n ∧ ∃ cur : List Value, Hid (wr.heap[w.heap.size]? = some (.cells cur.toArray 5 (0, 0))) ∧ Hid (cur.length = cs.size ∧ ∀ j, j < bp → cur[j]? = some (u8v c)) ∧ Below w.heap.size w wr) (fun i _ => n - (intOf i).toNat)
    case atStart => exact ⟨1, rfl, Nat.le_refl _, h1, _, HG.out, hsp1.out, hb1⟩
    case round =>
      obtain ⟨bp, rfl, hbp1, hbp2, cur, HH, HCU, hbel⟩ := hrel
      by_cases hlt : bp < n
      · have hmm : ∃ m : Nat, 1 ≤ m ∧ m ≤ bp ∧ (n ≤ 8192 → min (bp : Int) (n : Int) = m) ∧ (8192 < n → min (bp : Int) 8192 = m) := by
          by_cases h : bp ≤ 8192
          · exact ⟨bp, hbp1, Nat.le_refl _, fun _ => by omega, fun _ => by omega⟩
          · exact ⟨8192, by omega, by omega, fun _ => by omega, fun _ => by omega⟩
        obtain ⟨m, hm1, hm2, hA, hB⟩ := hmm
        obtain ⟨q, hq⟩ : ∃ q, q = min m (n - bp) := ⟨_, rfl⟩
        have hq1 : 1 ≤ q := by omega
        have hq2 : bp + q ≤ n := by omega
        have hq3 : q ≤ m := by omega
        have HQ := Lib.hid hq
        first
          | have hmin := hA h8
          | have hmin := hB h8
        clear hA hB hq
        have HCE : Hid (∀ j, (wr.drewN 1).cell? ⟨w.heap.size, j, none⟩ = cur[j]?) := fun j => by
          rw [World.cell?_drewN]; simp [World.cell?, HH.out]
        have hg2 : (wr.drewN 1).heap[w.heap.size]? = some (.cells cur.toArray 5 (0, 0)) := HH.out
        have HG2 := Lib.hid hg2
        have HB2 := Lib.hid (below_drewN hbel 1)
        clear hg2
        go_wp2_with fail
        have hf2 : bp + (List.replicate q (u8v c)).length ≤ cur.length := by have := HCU.out.1; simp; omega
        have HN : Hid ((splice cur bp (List.replicate q (u8v c))).length = cs.size ∧ ∀ j, j < bp + q → (splice cur bp (List.replicate q (u8v c)))[j]? = some (u8v c)) := by
          refine ⟨by rw [length_splice _ _ _ hf2]; exact HCU.out.1, ?_⟩
          have := splice_get cur bp (List.replicate q (u8v c)) (u8v c) hf2 HCU.out.2 (fun j hj => by rw [List.length_replicate] at hj; rw [List.getElem?_replicate, if_pos hj])
          rw [List.length_replicate] at this
          exact this
        have HF2 := Lib.hid hf2
        clear hf2
        refine Go.RelI.wp_region 8 (by kernel_rfl) (by kernel_rfl) (RelI.But 7 (fun a b => a = b) (fun _ _ => True)) (fun _ => True) 7 (fun w' => w' = wr.drewN 1)
          [Rel.is (.int .i64 (bp : Int)), Rel.is (.slice (some ⟨w.heap.size, 0, none⟩) n n), Rel.is (.int .i64 (bp : Int)), Rel.is (.slice (some ⟨w.heap.size, bp, none⟩) (n - bp) (n - bp)),
           Rel.is (.slice (some ⟨w.heap.size, 0, none⟩) n n), Rel.is (.int .i64 (m : Int)), Rel.is (.slice (some ⟨w.heap.size, 0, none⟩) m n),
           fun v w' => v = .int .i64 (q : Int) ∧ w'.heap[w.heap.size]? = some (.cells (splice cur bp (List.replicate q (u8v c))).toArray 5 (0, 0)) ∧ Below w.heap.size w w']
          ?_ ?_ ?_ ?_ ?_ ⟨?_, ?_, ?_, ?_, ?_, ?_, ?_, ?_, trivial⟩ ?_
        · trivial
        · rfl
        · intros; trivial
        · intro i wa wb hi h hR
          rw [RelI.but_ne hi] at hR
          exact hR ▸ h
        · exact RelI.MonosBut.mem ⟨Rel.mono_is _, fun _ => Rel.mono_is _, Rel.mono_is _, fun _ => Rel.mono_is _, Rel.mono_is _, fun _ => Rel.mono_is _, Rel.mono_is _, fun _ => Rel.mono_is _, Rel.mono_is _, fun _ => Rel.mono_is _,
            Rel.mono_is _, fun _ => Rel.mono_is _, Rel.mono_is _, fun _ => Rel.mono_is _, fun _ _ _ h k => h ▸ k, fun e => absurd rfl e, trivial⟩
        · intro ρ w' hs ho hC hd
          have h1 : ρ (.tmp 10) = .int .i64 (bp : Int) := ho 10 rfl
          simp [go_sem, h1]
          exact ⟨rfl, rfl⟩
        · intro ρ w' hs ho hC hd
          have h1 : ρ (.tmp 9) = .slice (some ⟨w.heap.size, 0, none⟩) n n := ho 9 rfl
          simp [go_sem, h1]
          exact ⟨rfl, rfl⟩
        · intro ρ w' hs ho hC hd
          have h1 : ρ (.tmp 10) = .int .i64 (bp : Int) := ho 10 rfl
          simp [go_sem, h1]
          exact ⟨rfl, rfl⟩
        · intro ρ w' hs ho hC hd
          obtain ⟨hd1, hd2, -⟩ := hd
          have h1 : ρ (.tmp 68) = _ := hd1 rfl
          have h2 : ρ (.tmp 69) = _ := hd2 rfl
          have k1 : (bp : Int) ≤ (n : Int) := by omega
          have k2 : ¬ n = bp := by omega
          have k3 : bp ≤ n := by omega
          simp [go_sem, h1, h2, k1, k2]
          exact ⟨rfl, rfl⟩
        · intro ρ w' hs ho hC hd
          have h1 : ρ (.tmp 9) = .slice (some ⟨w.heap.size, 0, none⟩) n n := ho 9 rfl
          simp [go_sem, h1]
          exact ⟨rfl, rfl⟩
        · intro ρ w' hs ho hC hd
          have h1 : ρ (.tmp 11) = .int .i64 (m : Int) := ho 11 rfl
          simp [go_sem, h1]
          exact ⟨rfl, rfl⟩
        · intro ρ w' hs ho hC hd
          obtain ⟨hd1, hd2, -⟩ := hd
          have h1 : ρ (.tmp 71) = _ := hd1 rfl
          have h2 : ρ (.tmp 72) = _ := hd2 rfl
          have k1 : (m : Int) ≤ (n : Int) := by omega
          have k2 : m ≤ n := by omega
          simp [go_sem, h1, h2, k1]
          exact ⟨rfl, rfl⟩
        · intro ρ w' hs ho hC hd
          obtain ⟨hd1, hd2, -⟩ := hd
          have h1 : ρ (.tmp 70) = _ := hd1 rfl
          have h2 : ρ (.tmp 73) = _ := hd2 rfl
          have hw : w' = wr.drewN 1 := hC.2 rfl
          rw [hw]
          refine does_copy _ _ _ _ rfl 5 Tryd.underlying23 hu8 w.heap.size bp _ _ _ _ _ h1 h2 cur 5 HG2.out (List.replicate q (u8v c)) ?_ ?_ HF2.out ?_ w.heap.size w HB2.out (Nat.le_refl _) ?_
          · rw [List.length_replicate]; exact HQ.out
          · intro j v hj
            have hjq : j < q := by have := (List.getElem?_eq_some_iff.1 hj).1; simpa using this
            rw [List.getElem?_replicate, if_pos hjq] at hj
            have e : (⟨w.heap.size, 0, none⟩ : Addr).add j = ⟨w.heap.size, j, none⟩ := by unfold Addr.add; split <;> simp_all
            rw [e, HCE.out, HCU.out.2 j (by omega), hj]
          · intro v hv
            obtain ⟨_, rfl⟩ := List.mem_replicate.1 hv
            rfl
          · intro w'' hg3 hb3
            refine ⟨trivial, ?_, hg3, hb3⟩
            show goInt _ = _
            rw [List.length_replicate]; rfl
        · intro w' hC
          rintro _ rfl _ rfl _ rfl _ rfl _ rfl _ rfl _ rfl _ ⟨rfl, hg3, hb3⟩
          change wpList _ _ _ (List.drop 8 _) _ _
          simp only [List.drop_succ_cons, List.drop_zero, Go.Act.put, List.setIfInBounds_toArray, List.set_cons_succ, List.set_cons_zero]
          have HG3 := Lib.hid hg3
          clear hg3
          go_wp2_with fail
          go_roundw
          case rel => exact ⟨bp + q, by go_num, by omega, by omega, _, HG3.out, HN.out, hb3⟩
          case measure => simp [intOf]; omega
      · obtain rfl : bp = n := by omega
        go_wp2_with fail
        go_ret
        refine ⟨.slice (some ⟨w.heap.size, 0, none⟩) bp bp, rfl, ⟨some ⟨w.heap.size, 0, none⟩, bp, by rw [List.length_replicate], by unfold maxLen; omega, .inr ⟨w.heap.size, 0, rfl, ?_, by simp, fun i hi => ?_⟩⟩, hbel⟩
        · rcases Nat.lt_or_ge w.heap.size wr.heap.size with h | h
          · exact h
          · have := HH.out; rw [Array.getElem?_eq_none h] at this; cases this
        · rw [List.length_replicate] at hi
          have e : wr.cell? ⟨w.heap.size, i, none⟩ = cur[i]? := by simp [World.cell?, HH.out]
          rw [Nat.zero_add, e, HCU.out.2 i hi, List.getElem_replicate]
end Go.Proofs.YtnenbmbgmmeiaaaDoor
/- Walks of binenc: reader.run. -/
namespace Go.Proofs.YtnenbmbgmmeiaaaDoor
open Go.RowKit En
variable {α : Type}

theorem Ch.setNew {b c : Nat} {w w' : World} (h : Ch b w w') (hc : w.heap.size ≤ c) (o : Nat) (v : Value) : Ch b w (w'.setCell ⟨c, o, none⟩ v) :=
  ⟨h.os, h.tape, h.output, by simpa [World.setCell] using h.size, fun k hk hn => (Below.heap_setCell _ _ _ _ (fun e => by simp at e; omega)).trans (h.block k hk hn)⟩
theorem Rd.box {w : World} {b c : Nat} {v : Value} {l : List UInt8} {p : Nat} (h : Rd w b v l p) (hne : c ≠ b) (hv : 0 < l.length → Off c v) (o : Nat) (x : Value) : Rd (w.setCell ⟨c, o, none⟩ x) b v l p :=
  ⟨by rw [World.cell?_setCell_other _ _ _ _ (by intro e; exact hne (by simpa using congrArg Addr.block e))]; exact h.c0, by rw [World.cell?_setCell_other _ _ _ _ (by intro e; exact hne (by simpa using congrArg Addr.block e))]; exact h.c1, by simpa using h.fz,
   h.row.ch ((Ch.refl c w).setCell _ _) hv, h.off, h.hp, by simpa [World.setCell] using h.lt⟩
/-- Reading one run after another. -/
def run1 (l : List UInt8) (last : Option UInt8) (room : Nat) (p : Nat) : Except Nat ((Nat × UInt8) × Nat) :=
  match usc 9 (l.drop p) with
  | .error e => .error e
  | .ok (u, k) => if l.length ≤ p + k then .error 4 else if u = 0 ∨ last = some (l.getD (p + k) 0) then .error 3 else if room < u then .error 5 else .ok ((u, l.getD (p + k) 0), k + 1)
theorem run1_e {l : List UInt8} {last : Option UInt8} {room p e : Nat} (h : usc 9 (l.drop p) = .error e) : run1 l last room p = .error e := by unfold run1; rw [h]
theorem run1_4 {l : List UInt8} {last : Option UInt8} {room p u k : Nat} (h : usc 9 (l.drop p) = .ok (u, k)) (h4 : l.length ≤ p + k) : run1 l last room p = .error 4 := by unfold run1; rw [h]; simp only; rw [if_pos h4]
theorem run1_3 {l : List UInt8} {last : Option UInt8} {room p u k : Nat} (h : usc 9 (l.drop p) = .ok (u, k)) (h4 : p + k < l.length) (h3 : u = 0 ∨ last = some l[p + k]) : run1 l last room p = .error 3 := by
  unfold run1; rw [h]; simp only; rw [if_neg (by omega), List.getD_eq_getElem?_getD, List.getElem?_eq_getElem h4, Option.getD_some, if_pos h3]
theorem run1_5 {l : List UInt8} {last : Option UInt8} {room p u k : Nat} (h : usc 9 (l.drop p) = .ok (u, k)) (h4 : p + k < l.length) (h3 : ¬ (u = 0 ∨ last = some l[p + k])) (h5 : room < u) : run1 l last room p = .error 5 := by
  unfold run1; rw [h]; simp only; rw [if_neg (by omega), List.getD_eq_getElem?_getD, List.getElem?_eq_getElem h4, Option.getD_some, if_neg h3, if_pos h5]
theorem run1_0 {l : List UInt8} {last : Option UInt8} {room p u k : Nat} (h : usc 9 (l.drop p) = .ok (u, k)) (h4 : p + k < l.length) (h3 : ¬ (u = 0 ∨ last = some l[p + k])) (h5 : ¬ room < u) : run1 l last room p = .ok ((u, l[p + k]), k + 1) := by
  unfold run1; rw [h]; simp only; rw [if_neg (by omega), List.getD_eq_getElem?_getD, List.getElem?_eq_getElem h4, Option.getD_some, if_neg h3, if_neg h5]
/-- The pointer to the run before. -/
def LastP (b : Nat) (w : World) (lp : Value) (last : Option UInt8) : Prop :=
  match last with
  | none => lp = .pointer none
  | some c => ∃ lb, lp = .pointer (some ⟨lb, 0, none⟩) ∧ lb < w.heap.size ∧ lb ≠ b ∧ w.cell? ⟨lb, 1, none⟩ = some (u8v c)
def RunPost (w : World) (b : Nat) (v : Value) (l : List UInt8) (p : Nat) (r : Except Nat ((Nat × UInt8) × Nat)) (e : Ending) (w' : World) : Prop :=
  ∃ q, Rd w' b v l q ∧ Ch b w w' ∧ (match r with
    | .ok (x, k) => q = p + k ∧ e = .returned (.tuple #[.agg #[.int .i64 (x.1 : Int), u8v x.2], .int .i64 0])
    | .error er => e = .returned (.tuple #[.agg #[.int .i64 0, .int .u8 0], .int .i64 (er : Int)]))
theorem run_fin {w w1 : World} {b : Nat} {v : Value} {l : List UInt8} {p q : Nat} {r : Except Nat ((Nat × UInt8) × Nat)} {e : Ending} (hrd : Rd w1 b v l q) (hch : Ch b w w1) (hb : b < w.heap.size) (hv : 0 < l.length → Off w.heap.size v) (x y : Value)
    (hr : (match r with
    | .ok (x, k) => q = p + k ∧ e = .returned (.tuple #[.agg #[.int .i64 (x.1 : Int), u8v x.2], .int .i64 0])
    | .error er => e = .returned (.tuple #[.agg #[.int .i64 0, .int .u8 0], .int .i64 (er : Int)]))) : RunPost w b v l p r e ((w1.setCell ⟨w.heap.size, 0, none⟩ x).setCell ⟨w.heap.size, 1, none⟩ y) :=
  ⟨q, (hrd.box (by omega) hv _ _).box (by omega) hv _ _, (hch.setNew (Nat.le_refl _) _ _).setNew (Nat.le_refl _) _ _, hr⟩
theorem boxed {w w1 : World} {b : Nat} {cs : Array Value} {t : TypeId} (h : Ch b (w.alloc (.cells cs t)) w1) (hb : b < w.heap.size) :
    (∀ i, w1.cell? ⟨w.heap.size, i, none⟩ = cs[i]?) ∧ (∀ i, w1.frozen? ⟨w.heap.size, i, none⟩ = false) ∧ w.heap.size < w1.heap.size := by
  refine ⟨fun i => ?_, fun i => ?_, by have := h.size; simp at this; omega⟩
  · rw [h.cell (p := ⟨w.heap.size, i, none⟩) (by simp) (by simp; omega), World.cell?_alloc_at _ _ _ _ rfl]
  · rw [h.frozen (p := ⟨w.heap.size, i, none⟩) (by simp) (by simp; omega), World.frozen?_alloc_at _ _ _ _ rfl]

set_option maxRecDepth 100000 in
set_option maxHeartbeats 1600000 in
theorem run_any (l : List UInt8) (b p room : Nat) (v lp : Value) (last : Option UInt8) (w : World) (h : Rd w b v l p) (hlp : LastP b w lp last) (hl : l.length ≤ 1000000000) (hroom : room ≤ 1000000000000) :
    Calls Tryd.prog 69 #[.pointer (some ⟨b, 0, none⟩), lp, .int .i64 room] w (RunPost w b v l p (run1 l last room p)) := by
  have hbl := h.lt
  have HV := Lib.hid (off_new h.row (Nat.le_refl _))
  have HN := Lib.hid (number_any l b p v _ (h.ext (below_alloc w (.cells #[.int .i64 0, .int .u8 0] 97))))
  have HB0 := Lib.hid (Ch.of_ext (b := b) (below_alloc w (.cells #[.int .i64 0, .int .u8 0] 97)))
  have hpl := h.hp
  cases hu : usc 9 (l.drop p) with
  | error er =>
    rw [run1_e hu]
    rw [hu] at HN
    have he := err_pos hu
    clear hu h hlp
    go_enter Tryd.func69, Tryd.ntmps69
    go_wp2_with fail
    refine HN.out.mono ?_
    rintro e w1 ⟨q, hrd, hch, rfl⟩
    obtain ⟨r0, f0, hz⟩ := boxed hch hbl
    have HR := Lib.hid hrd
    have HC := Lib.hid (Ch.trans HB0.out hch)
    clear hrd hch HN
    go_wp2_with fail
    refine bodyPost_ret (v := .tuple #[.agg #[.int .i64 0, .int .u8 0], .int .i64 (er : Int)]) (by simp [results, Tryd.results69, go_sem, r0]) rfl ?_
    exact run_fin HR.out HC.out hbl HV.out _ _ rfl
  | ok r =>
    obtain ⟨u, k⟩ := r
    obtain ⟨hn64, hk1, hkl, hk10, -⟩ := usc_ok9 hu
    simp only [List.length_drop] at hkl
    rw [hu] at HN
    clear h
    by_cases h4 : l.length ≤ p + k
    · rw [run1_4 hu h4]
      have h4' : ((l.length - (p + k) : Nat) : Int) = 0 := by omega
      clear hu hlp h4
      go_enter Tryd.func69, Tryd.ntmps69
      go_wp2_with fail
      refine HN.out.mono ?_
      rintro e w1 ⟨q, hrd, hch, rfl, rfl⟩
      have HL := Lib.hid (left_rd l b (p + k) v w1 hrd)
      have HC := Lib.hid hch
      clear hrd hch HN
      go_wp2_with fail
      refine HL.out.mono ?_
      rintro e w2 ⟨rfl, hrd, hch⟩
      obtain ⟨r0, f0, hz⟩ := boxed (Ch.trans HC.out hch) hbl
      have HR := Lib.hid hrd
      have HC2 := Lib.hid (Ch.trans HB0.out (Ch.trans HC.out hch))
      clear hrd hch HL
      go_wp2_with fail
      refine bodyPost_ret (v := .tuple #[.agg #[.int .i64 0, .int .u8 0], .int .i64 4]) (by simp [results, Tryd.results69, go_sem, r0]) rfl ?_
      exact run_fin HR.out HC2.out hbl HV.out _ _ rfl
    · have h4' : ¬ ((l.length - (p + k) : Nat) : Int) = 0 := by omega
      have hk : p + k < l.length := by omega
      have hk1' : p + k + 1 ≤ l.length := by omega
      obtain ⟨d, hd⟩ : ∃ d, l[p + k] = d := ⟨_, rfl⟩
      have ht : (l.drop (p + k)).take 1 = [d] := by
        rw [List.drop_eq_getElem_cons hk, List.take_succ_cons, List.take_zero, hd]
      have HT := Lib.hid ht
      clear h4 ht
      have hcase : (u = 0 ∨ (u ≠ 0 ∧ ∃ c, last = some c ∧ c = d) ∨ (u ≠ 0 ∧ (last = none ∨ ∃ c, last = some c ∧ c ≠ d) ∧ (room < u ∨ u ≤ room))) := by
        rcases Nat.eq_zero_or_pos u with h | h
        · exact .inl h
        · rcases last with _ | c
          · exact .inr (.inr ⟨by omega, .inl rfl, by omega⟩)
          · by_cases hc : c = d
            · exact .inr (.inl ⟨by omega, c, rfl, hc⟩)
            · exact .inr (.inr ⟨by omega, .inr ⟨c, rfl, hc⟩, by omega⟩)
      rcases hcase with rfl | ⟨hu0, c, rfl, hcd⟩ | ⟨hu0, hlast, hroom2⟩
      · rw [run1_3 hu hk (.inl rfl)]
        clear hu hlp
        go_enter Tryd.func69, Tryd.ntmps69
        go_wp2_with fail
        refine HN.out.mono ?_
        rintro e w1 ⟨q, hrd, hch, rfl, rfl⟩
        have HL := Lib.hid (left_rd l b (p + k) v w1 hrd)
        have HC := Lib.hid hch
        clear hrd hch HN
        go_wp2_with fail
        refine HL.out.mono ?_
        rintro e w2 ⟨rfl, hrd, hch⟩
        have HX := Lib.hid (next_any l b (p + k) 1 v w2 hrd hk1' (by omega))
        have HC2 := Lib.hid (Ch.trans HC.out hch)
        clear hrd hch HL
        go_wp2_with fail
        refine HX.out.mono ?_
        rintro e w3 ⟨x, rfl, hrd, hch, hrow, hoff⟩
        rw [HT.out] at hrow
        obtain ⟨xb, xo, xc, rfl, hxb, hxl, -, hxc⟩ := row_some hrow rfl (by simp)
        have hx0 : w3.cell? ⟨xb, xo, none⟩ = some (u8v d) := by simpa using hxc 0 (by simp)
        obtain ⟨r0, f0, hz⟩ := boxed (Ch.trans HC2.out hch) hbl
        have HR := Lib.hid hrd
        have HC3 := Lib.hid (Ch.trans HB0.out (Ch.trans HC2.out hch))
        clear hrd hch HX hrow hoff hxc
        go_wp2_with fail
        refine bodyPost_ret (v := .tuple #[.agg #[.int .i64 0, .int .u8 0], .int .i64 3]) (by simp [results, Tryd.results69, go_sem, r0]) rfl ?_
        exact run_fin HR.out HC3.out hbl HV.out _ _ rfl
      · obtain rfl : d = c := hcd.symm
        rw [run1_3 hu hk (.inr (by rw [hd]))]
        obtain ⟨lb, rfl, hlb, hlbb, hlc⟩ := hlp
        clear hu
        go_enter Tryd.func69, Tryd.ntmps69
        go_wp2_with fail
        refine HN.out.mono ?_
        rintro e w1 ⟨q, hrd, hch, rfl, rfl⟩
        have HL := Lib.hid (left_rd l b (p + k) v w1 hrd)
        have HC := Lib.hid hch
        clear hrd hch HN
        go_wp2_with fail
        refine HL.out.mono ?_
        rintro e w2 ⟨rfl, hrd, hch⟩
        have HX := Lib.hid (next_any l b (p + k) 1 v w2 hrd hk1' (by omega))
        have HC2 := Lib.hid (Ch.trans HC.out hch)
        clear hrd hch HL
        go_wp2_with fail
        refine HX.out.mono ?_
        rintro e w3 ⟨x, rfl, hrd, hch, hrow, hoff⟩
        rw [HT.out] at hrow
        obtain ⟨xb, xo, xc, rfl, hxb, hxl, -, hxc⟩ := row_some hrow rfl (by simp)
        have hx0 : w3.cell? ⟨xb, xo, none⟩ = some (u8v d) := by simpa using hxc 0 (by simp)
        obtain ⟨r0, f0, hz⟩ := boxed (Ch.trans HC2.out hch) hbl
        have HR := Lib.hid hrd
        have HC3 := Lib.hid (Ch.trans HB0.out (Ch.trans HC2.out hch))
        clear hrd hch HX hrow hoff hxc
        have hlc3 : w3.cell? ⟨lb, 1, none⟩ = some (u8v d) := by rw [HC3.out.cell (p := ⟨lb, 1, none⟩) hlb hlbb]; exact hlc
        go_wp2_with fail
        refine bodyPost_ret (v := .tuple #[.agg #[.int .i64 0, .int .u8 0], .int .i64 3]) (by simp [results, Tryd.results69, go_sem, r0]) rfl ?_
        exact run_fin HR.out HC3.out hbl HV.out _ _ rfl
      · rcases hlast with rfl | ⟨c, rfl, hcd⟩
        · simp only [LastP] at hlp
          subst hlp
          rcases hroom2 with h5 | h5
          · rw [run1_5 hu hk (by simp [hu0]) h5]
            clear hu
            go_enter Tryd.func69, Tryd.ntmps69
            go_wp2_with fail
            refine HN.out.mono ?_
            rintro e w1 ⟨q, hrd, hch, rfl, rfl⟩
            have HL := Lib.hid (left_rd l b (p + k) v w1 hrd)
            have HC := Lib.hid hch
            clear hrd hch HN
            go_wp2_with fail
            refine HL.out.mono ?_
            rintro e w2 ⟨rfl, hrd, hch⟩
            have HX := Lib.hid (next_any l b (p + k) 1 v w2 hrd hk1' (by omega))
            have HC2 := Lib.hid (Ch.trans HC.out hch)
            clear hrd hch HL
            go_wp2_with fail
            refine HX.out.mono ?_
            rintro e w3 ⟨x, rfl, hrd, hch, hrow, hoff⟩
            rw [HT.out] at hrow
            obtain ⟨xb, xo, xc, rfl, hxb, hxl, -, hxc⟩ := row_some hrow rfl (by simp)
            have hx0 : w3.cell? ⟨xb, xo, none⟩ = some (u8v d) := by simpa using hxc 0 (by simp)
            obtain ⟨r0, f0, hz⟩ := boxed (Ch.trans HC2.out hch) hbl
            have HR := Lib.hid hrd
            have HC3 := Lib.hid (Ch.trans HB0.out (Ch.trans HC2.out hch))
            clear hrd hch HX hrow hoff hxc
            go_wp2_with fail
            refine bodyPost_ret (v := .tuple #[.agg #[.int .i64 0, .int .u8 0], .int .i64 5]) (by simp [results, Tryd.results69, go_sem, r0]) rfl ?_
            exact run_fin HR.out HC3.out hbl HV.out _ _ rfl
          · rw [run1_0 hu hk (by simp [hu0]) (by omega), hd]
            clear hu
            go_enter Tryd.func69, Tryd.ntmps69
            go_wp2_with fail
            refine HN.out.mono ?_
            rintro e w1 ⟨q, hrd, hch, rfl, rfl⟩
            have HL := Lib.hid (left_rd l b (p + k) v w1 hrd)
            have HC := Lib.hid hch
            clear hrd hch HN
            go_wp2_with fail
            refine HL.out.mono ?_
            rintro e w2 ⟨rfl, hrd, hch⟩
            have HX := Lib.hid (next_any l b (p + k) 1 v w2 hrd hk1' (by omega))
            have HC2 := Lib.hid (Ch.trans HC.out hch)
            clear hrd hch HL
            go_wp2_with fail
            refine HX.out.mono ?_
            rintro e w3 ⟨x, rfl, hrd, hch, hrow, hoff⟩
            rw [HT.out] at hrow
            obtain ⟨xb, xo, xc, rfl, hxb, hxl, -, hxc⟩ := row_some hrow rfl (by simp)
            have hx0 : w3.cell? ⟨xb, xo, none⟩ = some (u8v d) := by simpa using hxc 0 (by simp)
            obtain ⟨r0, f0, hz⟩ := boxed (Ch.trans HC2.out hch) hbl
            have HR := Lib.hid hrd
            have HC3 := Lib.hid (Ch.trans HB0.out (Ch.trans HC2.out hch))
            clear hrd hch HX hrow hoff hxc
            go_wp2_with fail
            refine bodyPost_ret (v := .tuple #[.agg #[.int .i64 (u : Int), u8v d], .int .i64 0]) (by simp [results, Tryd.results69, go_sem, r0]) rfl ?_
            exact run_fin HR.out HC3.out hbl HV.out _ _ ⟨by omega, rfl⟩
        · obtain ⟨lb, rfl, hlb, hlbb, hlc⟩ := hlp
          have hne : ((c.toNat : Int) == (d.toNat : Int)) = false := by rw [beq_eq_false_iff_ne]; intro e; exact hcd (UInt8.toNat_inj.1 (by omega))
          rcases hroom2 with h5 | h5
          · rw [run1_5 hu hk (by rw [hd]; simp [hu0, hcd]) h5]
            clear hu
            go_enter Tryd.func69, Tryd.ntmps69
            go_wp2_with fail
            refine HN.out.mono ?_
            rintro e w1 ⟨q, hrd, hch, rfl, rfl⟩
            have HL := Lib.hid (left_rd l b (p + k) v w1 hrd)
            have HC := Lib.hid hch
            clear hrd hch HN
            go_wp2_with fail
            refine HL.out.mono ?_
            rintro e w2 ⟨rfl, hrd, hch⟩
            have HX := Lib.hid (next_any l b (p + k) 1 v w2 hrd hk1' (by omega))
            have HC2 := Lib.hid (Ch.trans HC.out hch)
            clear hrd hch HL
            go_wp2_with fail
            refine HX.out.mono ?_
            rintro e w3 ⟨x, rfl, hrd, hch, hrow, hoff⟩
            rw [HT.out] at hrow
            obtain ⟨xb, xo, xc, rfl, hxb, hxl, -, hxc⟩ := row_some hrow rfl (by simp)
            have hx0 : w3.cell? ⟨xb, xo, none⟩ = some (u8v d) := by simpa using hxc 0 (by simp)
            obtain ⟨r0, f0, hz⟩ := boxed (Ch.trans HC2.out hch) hbl
            have HR := Lib.hid hrd
            have HC3 := Lib.hid (Ch.trans HB0.out (Ch.trans HC2.out hch))
            clear hrd hch HX hrow hoff hxc
            have hlc3 : w3.cell? ⟨lb, 1, none⟩ = some (u8v c) := by rw [HC3.out.cell (p := ⟨lb, 1, none⟩) hlb hlbb]; exact hlc
            go_wp2_with fail
            refine bodyPost_ret (v := .tuple #[.agg #[.int .i64 0, .int .u8 0], .int .i64 5]) (by simp [results, Tryd.results69, go_sem, r0]) rfl ?_
            exact run_fin HR.out HC3.out hbl HV.out _ _ rfl
          · rw [run1_0 hu hk (by rw [hd]; simp [hu0, hcd]) (by omega), hd]
            clear hu
            go_enter Tryd.func69, Tryd.ntmps69
            go_wp2_with fail
            refine HN.out.mono ?_
            rintro e w1 ⟨q, hrd, hch, rfl, rfl⟩
            have HL := Lib.hid (left_rd l b (p + k) v w1 hrd)
            have HC := Lib.hid hch
            clear hrd hch HN
            go_wp2_with fail
            refine HL.out.mono ?_
            rintro e w2 ⟨rfl, hrd, hch⟩
            have HX := Lib.hid (next_any l b (p + k) 1 v w2 hrd hk1' (by omega))
            have HC2 := Lib.hid (Ch.trans HC.out hch)
            clear hrd hch HL
            go_wp2_with fail
            refine HX.out.mono ?_
            rintro e w3 ⟨x, rfl, hrd, hch, hrow, hoff⟩
            rw [HT.out] at hrow
            obtain ⟨xb, xo, xc, rfl, hxb, hxl, -, hxc⟩ := row_some hrow rfl (by simp)
            have hx0 : w3.cell? ⟨xb, xo, none⟩ = some (u8v d) := by simpa using hxc 0 (by simp)
            obtain ⟨r0, f0, hz⟩ := boxed (Ch.trans HC2.out hch) hbl
            have HR := Lib.hid hrd
            have HC3 := Lib.hid (Ch.trans HB0.out (Ch.trans HC2.out hch))
            clear hrd hch HX hrow hoff hxc
            have hlc3 : w3.cell? ⟨lb, 1, none⟩ = some (u8v c) := by rw [HC3.out.cell (p := ⟨lb, 1, none⟩) hlb hlbb]; exact hlc
            go_wp2_with fail
            refine bodyPost_ret (v := .tuple #[.agg #[.int .i64 (u : Int), u8v d], .int .i64 0]) (by simp [results, Tryd.results69, go_sem, r0]) rfl ?_
            exact run_fin HR.out HC3.out hbl HV.out _ _ ⟨by omega, rfl⟩
end Go.Proofs.YtnenbmbgmmeiaaaDoor
