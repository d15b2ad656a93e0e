/- Walks of chapter 06: length, signed, count, PutInts of both. -/
import Derived.Test.YtnenbmbgmmeiaaaDoorEncWalk16
import Derived.Test.YtnenbmbgmmeiaaaDoorOpen2
namespace Go.Proofs.YtnenbmbgmmeiaaaDoor
open Go.RowKit En
variable {α : Type}

theorem wrap_w64 (z : Int) : wrap64 z = w64 z := by unfold wrap64 w64; rfl
theorem length_any (n : Nat) (w : World) (hn : (n : Int) ≤ 9223372036854775807) :
    Calls Tryd.prog 50 #[.int .i64 n] w fun e w' => ∃ v', e = .returned v' ∧ w'.ownsRow w.heap.size 5 1 v' (uvar 10 n).length ((uvar 10 n).map u8v) ∧ Ext w w' := by
  have HC := Lib.hid (putUvarint_any n w (by omega))
  go_enter Tryd.func50, Tryd.ntmps50
  go_wp2_with fail
  refine HC.out.mono ?_
  rintro e w' ⟨v', rfl, ho, hb⟩
  go_wp2_with fail
  go_ret
  exact ⟨_, rfl, ho, hb⟩

theorem deltas_snoc (l : List Int) (x : Int) : ∀ last : Int, deltas last (l ++ [x]) = deltas last l ++ uvar 10 (zig (w64 (x - (l.getLast?.getD last)))) := by
  induction l with
  | nil => intro last; simp [deltas]
  | cons a l ih =>
    intro last
    simp only [List.cons_append, deltas, ih a, List.append_assoc]
    congr 2
    cases l with
    | nil => simp
    | cons b l => simp [List.getLast?_cons]
theorem deltas_len (l : List Int) : ∀ last : Int, (deltas last l).length ≤ 10 * l.length := by
  induction l with
  | nil => intro last; simp [deltas]
  | cons a l ih =>
    intro last
    have := ih a
    have := uvar_len 10 (zig (w64 (a - last)))
    simp [deltas]; omega
/-- The element before place k. -/
def prev (l : List Int) (k : Nat) : Int := (l.take k).getLast?.getD 0
theorem prev_succ (l : List Int) (k : Nat) (h : k < l.length) : prev l (k + 1) = l[k] := by
  unfold prev; rw [take_snoc l k h, List.getLast?_concat]; rfl
theorem deltas_take (l : List Int) (k : Nat) (h : k < l.length) : deltas 0 (l.take (k + 1)) = deltas 0 (l.take k) ++ uvar 10 (zig (w64 (l[k] - prev l k))) := by
  rw [take_snoc l k h, deltas_snoc]; rfl
theorem prev_bd {l : List Int} (h : ∀ x ∈ l, -9223372036854775808 ≤ x ∧ x ≤ 9223372036854775807) (k : Nat) : -9223372036854775808 ≤ prev l k ∧ prev l k ≤ 9223372036854775807 := by
  unfold prev
  cases hl : (l.take k).getLast? with
  | none => simp
  | some y =>
    have hm := List.mem_of_getLast? hl
    exact h y (List.mem_of_mem_take hm)

set_option maxRecDepth 100000 in
set_option maxHeartbeats 800000 in
theorem putInts_any (v : Value) (l : List Int) (w : World) (hv : IsInts w v l) (hlen : l.length ≤ 100000000) :
    Calls Tryd.prog 29 #[v] w fun e w' => ∃ v', e = .returned v' ∧ OwnB w.heap.size w' v' (putI l) ∧ Ext w w' := by
  have HP := Lib.hid (length_any l.length w (by omega))
  have HV := Lib.hid hv.1
  have HB := Lib.hid hv.2
  obtain ⟨a, cap, rfl⟩ := hv.1.shape
  clear hv
  go_enter Tryd.func29, Tryd.ntmps29
  go_wp2_with fail
  refine HP.out.mono ?_
  rintro e w1 ⟨v', rfl, ho, hb⟩
  have HO := Lib.hid (And.intro ho hb)
  clear ho hb HP
  go_wp2_with fail
  go_loopw [3, 4, 12] (fun g p i wr => ∃ k : Nat, i = .int .i64 k ∧ k ≤ l.length ∧ p = .int .i64 (prev l k) ∧ wr.ownsRow w.heap.size 5 1 g ((uvar 10 l.length).length + (deltas 0 (l.take k)).length) ((uvar 10 l.length ++ deltas 0 (l.take k)).map u8v) ∧ Ext w wr) (fun _ _ i _ => l.length - (intOf i).toNat)
  case atStart => exact ⟨0, rfl, Nat.zero_le _, rfl, by simpa [deltas] using HO.out.1, HO.out.2⟩
  case round =>
    obtain ⟨k, rfl, hk, rfl, hown, hbel⟩ := hrel
    have hul := uvar_len 10 l.length
    have hdl := deltas_len (l.take k) 0
    have htl : (l.take k).length = k := by simp; omega
    by_cases hlt : k < l.length
    · obtain ⟨b, o, c, hsv, hbb, hlc, hm, hc⟩ := row_some HV.out rfl (by omega)
      simp only [Value.slice.injEq] at hsv
      obtain ⟨rfl, -, -⟩ := hsv
      have hT := deltas_take l k hlt
      have hx := HB.out _ (List.getElem_mem hlt)
      have hp := prev_bd HB.out k
      have hps := prev_succ l k hlt
      obtain ⟨x, hxx⟩ : ∃ x, l[k] = x := ⟨_, rfl⟩
      have hck : wr.cell? ⟨b, o + k, none⟩ = some (i64v x) := by rw [hbel.cell (p := ⟨b, o + k, none⟩) hbb, hc k hlt, hxx]
      rw [hxx] at hT hx hps
      obtain ⟨y, hy⟩ : ∃ y, prev l k = y := ⟨_, rfl⟩
      rw [hy] at hT hp
      rw [hy]
      have hwb := w64_bd (x - y)
      have HC := Lib.hid (putVarint_any (w64 (x - y)) wr hwb.1 hwb.2)
      have hul2 := uvar_len 10 (zig (w64 (x - y)))
      have HT := Lib.hid hT
      have HPS := Lib.hid hps
      have HW := Lib.hid hown
      clear hc hxx hy hT hps hown hwb
      go_wp2_with fail
      rw [wrap_w64]
      refine HC.out.mono ?_
      rintro e w2 ⟨q, rfl, hq, hb2⟩
      have hown := ownsRow_ext HW.out hb2
      have hraw := (ownsRow_row hq).raw (fun _ => rfl)
      have h63 : (uvar 10 l.length).length + (deltas 0 (l.take k)).length + (uvar 10 (zig (w64 (x - y)))).length ≤ maxLen := by unfold maxLen; omega
      have hby : ((uvar 10 l.length).length + (deltas 0 (l.take k)).length + (uvar 10 (zig (w64 (x - y)))).length) * 1 ≤ 140737488355328 := by omega
      have hsz : w.heap.size ≤ w2.heap.size := (Ext.trans' hbel hb2).size
      have hbel2 := Ext.trans' hbel hb2
      clear HC hq hb2 hbel HW
      go_wp2_with (at_builtin; refine wpList_append_raw rfl _ _ _ rfl tyU8 w.heap.size hown rfl hraw rfl h63 hby hsz ?_; intro v2 w3 hown2 hg)
      go_roundw
      case rel =>
        refine ⟨k + 1, by go_num, by omega, by rw [HPS.out], ?_, hbel2.grown hg hsz (fun k hk => (World.ownsRow.lt hown k hk).1)⟩
        rw [HT.out, List.length_append, ← Nat.add_assoc, ← List.append_assoc, List.map_append (l₁ := uvar 10 l.length ++ _)]; exact hown2
      case measure => simp [intOf]; omega
    · obtain rfl : k = l.length := by omega
      rw [List.take_length] at hown
      go_wp2_with fail
      go_ret
      refine ⟨_, rfl, ?_, hbel⟩
      unfold OwnB putI
      rw [List.length_append]; exact hown
end Go.Proofs.YtnenbmbgmmeiaaaDoor
