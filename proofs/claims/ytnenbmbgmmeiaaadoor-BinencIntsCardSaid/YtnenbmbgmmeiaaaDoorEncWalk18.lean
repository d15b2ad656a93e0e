/- Walks of chapter 06: the reference's PutInts; signed, count; Ints of binenc. -/
import Derived.Test.YtnenbmbgmmeiaaaDoorEncWalk17
namespace Go.Proofs.YtnenbmbgmmeiaaaDoor
open Go.RowKit En
variable {α : Type}

theorem tyI : SliceTy Tryd.prog 41 3 (.int .i64 0) 1 8 := ⟨Tryd.underlying41, info_parts (by kernel_rfl), rfl, by decide⟩
theorem wrap_u (x y : Int) : wrap64 (IntKind.u64.wrap (IntKind.u64.wrap x - IntKind.u64.wrap y)) = w64 (x - y) := by
  rw [IntKind.wrap_u64, IntKind.wrap_u64, IntKind.wrap_u64]; unfold wrap64 w64; omega

set_option maxRecDepth 100000 in
set_option maxHeartbeats 800000 in
theorem refPutInts_any (v : Value) (l : List Int) (w : World) (hv : IsInts w v l) (hlen : l.length ≤ 100000000) :
    Calls Tryd.prog 30 #[v] w fun e w' => ∃ v', e = .returned v' ∧ OwnB w.heap.size w' v' (putI l) ∧ Ext w w' := by
  have HP := Lib.hid (refPutUvarint_any l.length w (by omega))
  have HV := Lib.hid hv.1
  have HB := Lib.hid hv.2
  obtain ⟨a, cap, rfl⟩ := hv.1.shape
  clear hv
  go_enter Tryd.func30, Tryd.ntmps30
  go_wp2_with fail
  refine HP.out.mono ?_
  rintro e w1 ⟨v', rfl, ho, hb⟩
  have HO := Lib.hid (And.intro ho hb)
  clear ho hb HP
  go_wp2_with fail
  go_loopw [3, 4, 5] (fun g p i wr => ∃ k : Nat, i = .int .i64 k ∧ k ≤ l.length ∧ p = .int .i64 (prev l k) ∧ wr.ownsRow w.heap.size 5 1 g ((uvar 10 l.length).length + (deltas 0 (l.take k)).length) ((uvar 10 l.length ++ deltas 0 (l.take k)).map u8v) ∧ Ext w wr) (fun _ _ i _ => l.length - (intOf i).toNat)
  case atStart => exact ⟨0, rfl, Nat.zero_le _, rfl, by simpa [deltas] using HO.out.1, HO.out.2⟩
  case round =>
    obtain ⟨k, rfl, hk, rfl, hown, hbel⟩ := hrel
    have hul := uvar_len 10 l.length
    have hdl := deltas_len (l.take k) 0
    have htl : (l.take k).length = k := by simp; omega
    by_cases hlt : k < l.length
    · obtain ⟨b, o, c, hsv, hbb, hlc, hm, hc⟩ := row_some HV.out rfl (by omega)
      simp only [Value.slice.injEq] at hsv
      obtain ⟨rfl, -, -⟩ := hsv
      have hT := deltas_take l k hlt
      have hx := HB.out _ (List.getElem_mem hlt)
      have hp := prev_bd HB.out k
      have hps := prev_succ l k hlt
      obtain ⟨x, hxx⟩ : ∃ x, l[k] = x := ⟨_, rfl⟩
      have hck : wr.cell? ⟨b, o + k, none⟩ = some (i64v x) := by rw [hbel.cell (p := ⟨b, o + k, none⟩) hbb, hc k hlt, hxx]
      rw [hxx] at hT hx hps
      obtain ⟨y, hy⟩ : ∃ y, prev l k = y := ⟨_, rfl⟩
      rw [hy] at hT hp
      rw [hy]
      have hwb := w64_bd (x - y)
      have HC := Lib.hid (refPutVarint_any (w64 (x - y)) wr hwb.1 hwb.2)
      have hul2 := uvar_len 10 (zig (w64 (x - y)))
      have HT := Lib.hid hT
      have HPS := Lib.hid hps
      have HW := Lib.hid hown
      have HX := Lib.hid hx
      have HPB := Lib.hid hp
      clear hc hxx hy hT hps hown hwb hx hp
      go_wp2_with fail
      rw [wrap_u]
      refine HC.out.mono ?_
      rintro e w2 ⟨q, rfl, hq, hb2⟩
      have hown := ownsRow_ext HW.out hb2
      have hraw := (ownsRow_row hq).raw (fun _ => rfl)
      have h63 : (uvar 10 l.length).length + (deltas 0 (l.take k)).length + (uvar 10 (zig (w64 (x - y)))).length ≤ maxLen := by unfold maxLen; omega
      have hby : ((uvar 10 l.length).length + (deltas 0 (l.take k)).length + (uvar 10 (zig (w64 (x - y)))).length) * 1 ≤ 140737488355328 := by omega
      have hsz : w.heap.size ≤ w2.heap.size := (Ext.trans' hbel hb2).size
      have hbel2 := Ext.trans' hbel hb2
      have hcr : wr.cell? ⟨b, o + k, none⟩ = some (i64v x) := by assumption
      have hltw : b < wr.heap.size := by have := hbel.size; omega
      have hck2 : w2.cell? ⟨b, o + k, none⟩ = some (i64v x) := by rw [hb2.cell (p := ⟨b, o + k, none⟩) hltw]; exact hcr
      clear HC hq hb2 hbel HW
      go_wp2_with (at_builtin; refine wpList_append_raw rfl _ _ _ rfl tyU8 w.heap.size hown rfl hraw rfl h63 hby hsz ?_; intro v2 w3 hown2 hg; have hck3 : w3.cell? ⟨b, o + k, none⟩ = some (i64v x) := hg.cell hck2 (fun e => by have := (World.ownsRow.lt hown b e.symm).1; omega))
      go_roundw
      case rel =>
        refine ⟨k + 1, by go_num, by omega, by rw [HPS.out], ?_, hbel2.grown hg hsz (fun k hk => (World.ownsRow.lt hown k hk).1)⟩
        rw [HT.out, List.length_append, ← Nat.add_assoc, ← List.append_assoc, List.map_append (l₁ := uvar 10 l.length ++ _)]; exact hown2
      case measure => simp [intOf]; omega
    · obtain rfl : k = l.length := by omega
      rw [List.take_length] at hown
      go_wp2_with fail
      go_ret
      refine ⟨_, rfl, ?_, hbel⟩
      unfold OwnB putI
      rw [List.length_append]; exact hown

def SignedPost (w : World) (b : Nat) (v : Value) (l : List UInt8) (p : Nat) (r : Except Nat (Nat × Nat)) (e : Ending) (w' : World) : Prop :=
  ∃ q, Rd w' b v l q ∧ Ch b w w' ∧ (match r with
    | .ok (n, k) => q = p + k ∧ e = .returned (.tuple #[.int .i64 (unzig n), .int .i64 0])
    | .error er => e = .returned (.tuple #[.int .i64 0, .int .i64 (er : Int)]))
theorem signed_any (l : List UInt8) (b p : Nat) (v : Value) (w : World) (h : Rd w b v l p) :
    Calls Tryd.prog 49 #[.pointer (some ⟨b, 0, none⟩)] w (SignedPost w b v l p (usc 9 (l.drop p))) := by
  have HN := Lib.hid (number_any l b p v w h)
  clear h
  cases hu : usc 9 (l.drop p) with
  | error er =>
    rw [hu] at HN
    have hz := unzig_bits 0 (by omega)
    rw [show unzig 0 = 0 by decide, show (((0 : Nat) : Int) / 2) = 0 by decide, Int.natCast_zero] at hz
    have HZ := Lib.hid hz
    clear hu hz
    go_enter Tryd.func49, Tryd.ntmps49
    go_wp2_with fail
    refine HN.out.mono ?_
    rintro e w1 ⟨q, hrd, hch, rfl⟩
    have HR := Lib.hid hrd
    have HC := Lib.hid hch
    clear hrd hch HN
    go_wp2_with fail
    go_ret2
    refine ⟨q, HR.out, HC.out, ?_⟩
    exact congrArg (fun z => Ending.returned (Value.tuple #[Value.int .i64 z, Value.int .i64 (er : Int)])) HZ.out
  | ok r =>
    obtain ⟨n, k⟩ := r
    obtain ⟨hn64, -⟩ := usc_ok9 hu
    rw [hu] at HN
    have HZ := Lib.hid (unzig_bits n hn64)
    clear hu
    go_enter Tryd.func49, Tryd.ntmps49
    go_wp2_with fail
    refine HN.out.mono ?_
    rintro e w1 ⟨q, hrd, hch, hq, rfl⟩
    have HR := Lib.hid (And.intro hrd hq)
    have HC := Lib.hid hch
    clear hrd hch HN hq
    go_wp2_with fail
    go_ret2
    exact ⟨q, HR.out.1, HC.out, HR.out.2, by rw [← HZ.out]; rfl⟩

def CountPost (w : World) (b : Nat) (v : Value) (l : List UInt8) (p : Nat) (most : Int) (r : Except Nat (Nat × Nat)) (e : Ending) (w' : World) : Prop :=
  ∃ q, Rd w' b v l q ∧ Ch b w w' ∧ (match r with
    | .ok (n, k) => if most < 0 ∨ most < (n : Int) then e = .returned (.tuple #[.int .i64 0, .int .i64 5]) else q = p + k ∧ e = .returned (.tuple #[.int .i64 (n : Int), .int .i64 0])
    | .error er => e = .returned (.tuple #[.int .i64 0, .int .i64 (er : Int)]))
set_option maxRecDepth 100000 in
theorem count_any (l : List UInt8) (b p : Nat) (v : Value) (most : Int) (w : World) (h : Rd w b v l p) (hmb : most ≤ 9223372036854775807) :
    Calls Tryd.prog 48 #[.pointer (some ⟨b, 0, none⟩), .int .i64 most] w (CountPost w b v l p most (usc 9 (l.drop p))) := by
  have HN := Lib.hid (number_any l b p v w h)
  clear h
  cases hu : usc 9 (l.drop p) with
  | error er =>
    rw [hu] at HN
    have he := err_pos hu
    clear hu
    go_enter Tryd.func48, Tryd.ntmps48
    go_wp2_with fail
    refine HN.out.mono ?_
    rintro e w1 ⟨q, hrd, hch, rfl⟩
    have HR := Lib.hid hrd
    have HC := Lib.hid hch
    clear hrd hch HN
    go_wp2_with fail
    go_ret2
    exact ⟨q, HR.out, HC.out, rfl⟩
  | ok r =>
    obtain ⟨n, k⟩ := r
    obtain ⟨hn64, -⟩ := usc_ok9 hu
    rw [hu] at HN
    clear hu
    by_cases h0 : most < 0
    · go_enter Tryd.func48, Tryd.ntmps48
      go_wp2_with fail
      refine HN.out.mono ?_
      rintro e w1 ⟨q, hrd, hch, hq, rfl⟩
      have HR := Lib.hid hrd
      have HC := Lib.hid hch
      have H0 : Hid (most < 0 ∨ most < (n : Int)) := .inl h0
      clear hrd hch HN hq
      go_wp2_with fail
      go_ret2
      refine ⟨q, HR.out, HC.out, ?_⟩
      simp only [if_pos H0.out]; rfl
    · by_cases h1 : most < (n : Int)
      · go_enter Tryd.func48, Tryd.ntmps48
        go_wp2_with fail
        refine HN.out.mono ?_
        rintro e w1 ⟨q, hrd, hch, hq, rfl⟩
        have HR := Lib.hid hrd
        have HC := Lib.hid hch
        have H0 : Hid (most < 0 ∨ most < (n : Int)) := .inr h1
        clear hrd hch HN hq
        go_wp2_with fail
        go_ret2
        refine ⟨q, HR.out, HC.out, ?_⟩
        simp only [if_pos H0.out]; rfl
      · go_enter Tryd.func48, Tryd.ntmps48
        go_wp2_with fail
        refine HN.out.mono ?_
        rintro e w1 ⟨q, hrd, hch, hq, rfl⟩
        have HR := Lib.hid (And.intro hrd hq)
        have HC := Lib.hid hch
        have H0 : Hid (¬ (most < 0 ∨ most < (n : Int))) := by show ¬ _; omega
        clear hrd hch HN hq
        go_wp2_with fail
        go_ret2
        refine ⟨q, HR.out.1, HC.out, ?_⟩
        simp only [if_neg H0.out]
        exact ⟨HR.out.2, rfl⟩
end Go.Proofs.YtnenbmbgmmeiaaaDoor
