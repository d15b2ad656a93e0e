/- Writes into rows of one's own whose places alone are known: what stays. No program in sight. -/
import Derived.Test.YtcohmdeoocgmdaaGreatDoorOwn
namespace Go.Sx
open Go.Proofs.YtcohmdeoocgmdaaGreatDoor Go.RowKit Go.Rel
set_option linter.unusedVariables false
/-- Blocks below base are as they were; the others keep their type and size, and the cells that kp names. -/
structure Rl (kp : TypeId → Nat → Bool) (base : Nat) (w w' : World) : Prop where
 bel : Below base w w'
 obj : ∀ (g : Nat) (cur : Array Value) (e : TypeId), w.heap[g]? = some (.cells cur e (0, 0)) → ∃ cur' : Array Value, w'.heap[g]? = some (.cells cur' e (0, 0)) ∧ cur'.size = cur.size ∧ ∀ i : Nat, kp e i = true → cur'[i]? = cur[i]?
section
variable {kp : TypeId → Nat → Bool} {base : Nat} {w w' w2 : World}
theorem Rl.refl : Rl kp base w w := ⟨Below.refl _ _, fun g cur e h => ⟨cur, h, rfl, fun _ _ => rfl⟩⟩
theorem Rl.trans (h : Rl kp base w w') (k : Rl kp base w' w2) : Rl kp base w w2 := ⟨h.bel.trans k.bel, fun g cur e hg => by
 obtain ⟨c1, h1, h2, h3⟩ := h.obj g cur e hg
 obtain ⟨c2, k1, k2, k3⟩ := k.obj g c1 e h1
 exact ⟨c2, k1, k2.trans h2, fun i hi => (k3 i hi).trans (h3 i hi)⟩⟩
theorem Rl.ext (h : Rl kp base w w') (hE : Ext w' w2) (hb : base ≤ w'.heap.size) : Rl kp base w w2 := h.trans ⟨⟨hE.os, hE.tape, hE.output, hE.size, fun k hk => hE.block k (Nat.lt_of_lt_of_le hk hb)⟩, fun g cur e hg => ⟨cur, (hE.block g (bx_obj hg).1).trans hg, rfl, fun _ _ => rfl⟩⟩
theorem Rl.ext' (h : Rl kp base w w') (hE : Ext w' w2) (hb : base ≤ w.heap.size) : Rl kp base w w2 := h.ext hE (Nat.le_trans hb h.bel.size)
theorem Rl.set {g off : Nat} {cur : Array Value} {e : TypeId} {cs : List Value} (h : w.heap[g]? = some (.cells cur e (0, 0))) (hb : base ≤ g) (hf : off + cs.length ≤ cur.size) (hk : ∀ j, j < cs.length → kp e (off + j) = false) : Rl kp base w (w.setCells g off cs) := by
 have hc : Ch g w (w.setCells g off cs) := (Ch.refl g w).setCells cs off
 refine ⟨hc.below hb (Nat.le_trans hb (Nat.le_of_lt (bx_obj h).1)), fun g' cur' e' hg' => ?_⟩
 by_cases hgg : g' = g
 ·subst hgg
  rw [h] at hg'
  simp only [Option.some.injEq, Obj.cells.injEq, and_true] at hg'
  obtain ⟨rfl, rfl⟩ := hg'
  refine ⟨_, setCells_obj g' e (0, 0) cs off w cur h hf, by unfold spl; simp; omega, fun i hi => ?_⟩
  rw [List.getElem?_toArray]
  unfold spl
  rw [List.getElem?_append, List.getElem?_append]
  simp only [List.length_append, List.length_take, Array.length_toList, List.getElem?_take, List.getElem?_drop]
  rw [Nat.min_eq_left (by omega)]
  by_cases h1 : i < off
  ·simp [h1, show i < off + cs.length by omega]
  ·by_cases h2 : i < off + cs.length
   ·exfalso
    have := hk (i - off) (by omega)
    rw [show off + (i - off) = i by omega, hi] at this
    cases this
   ·simp [h2, show off + cs.length + (i - (off + cs.length)) = i by omega]
 ·exact ⟨cur', (hc.block g' (bx_obj hg').1 fun e => hgg (Option.some.inj e)).trans hg', rfl, fun _ _ => rfl⟩
/-- Where a row lies now. -/
theorem Ty.now {k n : Nat} {e : TypeId} {v : Value} (h : Ty e k base v n w) (hR : Rl kp base w w') (hn : 0 < n) : ∃ g cap, v = .slice (some ⟨g, 0, none⟩) n cap ∧ base ≤ g ∧ g < w.heap.size ∧ ∃ cur, w'.heap[g]? = some (.cells cur e (0, 0)) ∧ n * k ≤ cur.size := by
 rcases h with h | ⟨g, cap, cur, h1, h2, h3, h4⟩
 ·omega
 ·obtain ⟨c, h5, h6, -⟩ := hR.obj g cur e h3
  exact ⟨g, cap, h1, h2, (bx_obj h3).1, c, h5, by rw [h6]; exact h4⟩
/-- Cells of a row that have stayed. -/
theorem RowT.now {α : Type} {k : Nat} {e : TypeId} {f : α → List Value} {v : Value} {L : List α} (h : RowT e k f base v L w) (hR : Rl kp base w w') {i : Nat} (hi : i < L.length) (j m : Nat) {cs : List Value} (hm : j + cs.length ≤ k) (hc : ((f L[i]).drop j).take cs.length = cs) (hk : ∀ q, q < cs.length → kp e (i * k + j + q) = true) {g cap : Nat} (hv : v = .slice (some ⟨g, 0, none⟩) L.length cap) : w'.rangeAt g (0 + i * k + j) cs := by
 subst hv
 obtain ⟨hrow, hty⟩ := h
 rcases hty with hty | ⟨g', cap', cur, h1, h2, h3, h4⟩
 ·omega
 ·simp only [Value.slice.injEq, Option.some.injEq, Addr.mk.injEq, and_true, true_and] at h1
  obtain ⟨rfl, rfl⟩ := h1
  obtain ⟨c, h5, h6, h7⟩ := hR.obj g cur e h3
  obtain ⟨a, cp, hv, hm2, ⟨rfl, _⟩ | ⟨b, o, rfl, hb, hl, hcell⟩⟩ := hrow
  ·simp at hi
  ·simp only [Value.slice.injEq, Option.some.injEq, Addr.mk.injEq, and_true, true_and] at hv
   obtain ⟨⟨rfl, rfl⟩, rfl⟩ := hv
   intro q u hq
   have hql : q < cs.length := by
    by_cases h : q < cs.length
    ·exact h
    ·rw [List.getElem?_eq_none (by omega)] at hq; cases hq
   have h8 := hcell i hi (j + q) (by omega)
   rw [(bx_obj h3).2.1] at h8
   have h9 := h7 (i * k + j + q) (hk q hql)
   rw [(bx_obj h5).2.1, show 0 + i * k + j + q = i * k + j + q by omega, h9, show i * k + j + q = 0 + i * k + (j + q) by omega, h8]
   rw [← hc, List.getElem?_take_of_lt hql, List.getElem?_drop] at hq
   exact hq
variable {P : Program} {ops : Array Oper} {Q : Exit → Act → World → Prop} {w0 : World} {a : Act} {os : List Oper} {n : Nat} {l : List (Nat × Value)} {bl : List (Nat × List Value)} {vs : List Mem1}
theorem St.setT {g off : Nat} {cur : Array Value} {e : TypeId} {cs : List Value} (S : St w0 a w n l bl vs) (h : w.heap[g]? = some (.cells cur e (0, 0))) (hb : w0.heap.size ≤ g) (hne : ∀ p ∈ bl, p.1 ≠ g) : St w0 a (w.setCells g off cs) n l bl [] := by
 have hc : Ch g w (w.setCells g off cs) := (Ch.refl g w).setCells cs off
 exact ⟨S.s, ext_setCells S.E hb cs off, fun p hp => ⟨(S.own p hp).1.ch hc (hne p hp), (S.own p hp).2⟩, S.apart, fun m hm => by cases hm⟩
theorem ne_of_ge {m g : Nat} (h : ∀ b ∈ vb bl, m ≤ b) (hg : g < m) : ∀ p ∈ bl, p.1 ≠ g := fun p hp e => by have := h p.1 (List.mem_map.2 ⟨p, hp, rfl⟩); omega
/-- A store into a row whose place alone is known. -/
theorem storeT (S : St w0 a w n l bl vs) (kp : TypeId → Nat → Bool) {g off : Nat} {e : TypeId} {cur : Array Value} {cs : List Value} (hT : w.heap[g]? = some (.cells cur e (0, 0))) (hf : off + cs.length ≤ cur.size) (hw : w0.heap.size = base) (hb : base ≤ g) (hne : ∀ p ∈ bl, p.1 ≠ g) (hk : ∀ j, j < cs.length → kp e (off + j) = false)
  (next : ∀ w', Rl kp base w w' → St w0 a w' n l bl [] → wpList P ops Q (os.drop 1) a w')
  (hx : storeOf P os l = some (g, off, .agg cs.toArray, cs.length) := by kernel_rfl) (h1 : cs.all (·.oneCell') = true := by kernel_rfl) : wpList P ops Q os a w := by
 obtain ⟨o, os', ty, x, y, rfl, hg, hdst, hop, hxx, hyy, hi⟩ := storeOf_some hx
 have hst := rd_all (holds_lift S.s) o
 have ex : a.eval x = .pointer (some ⟨g, off, none⟩) := rd_ok (Std.act a) (hst x (by rw [hop]; simp [Op.operands])) (p := []) rfl hxx
 have ey : a.eval y = .agg cs.toArray := rd_ok (Std.act a) (hst y (by rw [hop]; simp [Op.operands])) (p := []) rfl hyy
 have hrun := store_run (P := P) (A := cur.toList) hop ex ey (by simpa using bx_obj hT) hi (by simpa using hf) h1
 unfold wpList
 rw [if_pos (by simp [Region.wanted, hg])]
 left
 unfold Oper.wp
 rw [hrun]
 simp only [Oper.upon]
 rw [hdst]
 exact next _ (Rl.set hT hb hf hk) (S.setT hT (hw ▸ hb) hne)
theorem storeT1 (S : St w0 a w n l bl vs) (kp : TypeId → Nat → Bool) {g off : Nat} {e : TypeId} {cur : Array Value} {v : Value} (hT : w.heap[g]? = some (.cells cur e (0, 0))) (hf : off < cur.size) (hw : w0.heap.size = base) (hb : base ≤ g) (hne : ∀ p ∈ bl, p.1 ≠ g) (hk : kp e off = false)
  (next : ∀ w', Rl kp base w w' → St w0 a w' n l bl [] → wpList P ops Q (os.drop 1) a w')
  (hx : storeOf P os l = some (g, off, v, 1) := by kernel_rfl) (h1 : v.cells = #[v] := by kernel_rfl) (h1' : v.oneCell' = true := by kernel_rfl) : wpList P ops Q os a w := by
 obtain ⟨o, os', ty, x, y, rfl, hg, hdst, hop, hxx, hyy, hi⟩ := storeOf_some hx
 have hst := rd_all (holds_lift S.s) o
 have ex : a.eval x = .pointer (some ⟨g, off, none⟩) := rd_ok (Std.act a) (hst x (by rw [hop]; simp [Op.operands])) (p := []) rfl hxx
 have ey : a.eval y = v := rd_ok (Std.act a) (hst y (by rw [hop]; simp [Op.operands])) (p := []) rfl hyy
 have hrun := store_run1 (P := P) (A := cur.toList) hop ex ey (by simpa using bx_obj hT) hi (by simpa using hf) h1 h1'
 unfold wpList
 rw [if_pos (by simp [Region.wanted, hg])]
 left
 unfold Oper.wp
 rw [hrun]
 simp only [Oper.upon]
 rw [hdst]
 exact next _ (Rl.set (cs := [v]) hT hb (by simp; omega) fun j hj => by
  obtain rfl : j = 0 := by simpa using hj
  exact hk) (S.setT hT (hw ▸ hb) hne)
/-- A call that may have changed what lies from base on. -/
theorem callB (S : St w0 a w n l bl vs) {f : FuncId} {args : Array Value} {V : Value} (d : Option Nat) (hc : Calls P f args w fun e w' => e = .returned V ∧ Below base w w') (hb : w0.heap.size ≤ base) (hlt : ∀ b ∈ vb bl, b < base)
  (next : ∀ a' w', Below base w w' → St w0 a' w' n (extD l d V) bl [] → wpList P ops Q (os.drop 1) a' w') (hx : callOf P os l = some (f, args, d) := by kernel_rfl) (hd : dOk n d = true := by rfl) : wpList P ops Q os a w := by
 cases os with
 | nil => cases hx
 | cons o os =>
  unfold callOf at hx
  simp only at hx
  split at hx
  ·rename_i f' args' hg hav hev
   simp only [Option.some.injEq, Prod.mk.injEq] at hx
   obtain ⟨rfl, rfl, rfl⟩ := hx
   simp only [Bool.or_eq_false_iff] at hav
   have hrun : (execOp a.eval o).run P w = .ok (.enter f' args') w := gen_ok (Std.act a) (rd_all (holds_lift S.s) o) (p := []) rfl hav.1 (by simpa using hav.2) hev
   unfold wpList
   rw [if_pos (by simp [Region.wanted, hg])]
   left
   unfold Oper.wp
   rw [hrun]
   simp only [Oper.upon]
   refine hc.mono fun e w' hR => ?_
   obtain ⟨rfl, hB⟩ := hR
   have hE : Ext w0 w' := ⟨hB.os.trans S.E.os, hB.tape.trans S.E.tape, hB.output.trans S.E.output, Nat.le_trans S.E.size hB.size, fun k hk => (hB.block k (Nat.lt_of_lt_of_le hk hb)).trans (S.E.block k hk)⟩
   refine next _ w' hB ⟨putD S.s hd V, hE, fun p hp => ⟨?_, (S.own p hp).2⟩, S.apart, fun m hm => by cases hm⟩
   have hb1 := hB.block p.1 (hlt p.1 (List.mem_map.2 ⟨p, hp, rfl⟩))
   have hx := (S.own p hp).1
   exact ⟨Nat.lt_of_lt_of_le hx.1 hB.size, fun i => (World.cell?_of_block (a := ⟨p.1, i, none⟩) hb1).trans (hx.2.1 i), fun i => (World.frozen?_of_block (a := ⟨p.1, i, none⟩) hb1).trans (hx.2.2 i)⟩
  ·cases hx
theorem end0 (S : St w0 a w n l bl vs) {fn : Func} {R : Ending → World → Prop} (hr : fn.results = #[]) (h : R (.returned (.tuple #[])) w) : bodyPost P fn R .normal a w := ret0 S hr h
/-- A world cut off at base: what lies from base on counts as new. -/
def cut (base : Nat) (w : World) : World := { w with heap := w.heap.extract 0 base }
theorem cut_size (hb : base ≤ w.heap.size) : (cut base w).heap.size = base := by unfold cut; simp; omega
theorem cut_ext (hb : base ≤ w.heap.size) : Ext (cut base w) w := ⟨rfl, rfl, rfl, by rw [cut_size hb]; exact hb, fun k hk => by
 rw [cut_size hb] at hk
 unfold cut
 rw [Array.getElem?_extract]
 simp; omega⟩
/-- A walk that may write from base on. -/
theorem St.from (S : St w a w n l [] []) (hb : base ≤ w.heap.size) : St (cut base w) a w n l [] [] := ⟨S.s, cut_ext hb, fun p hp => (by cases hp), S.apart, fun m hm => (by cases hm)⟩
end
end Go.Sx
