/- Walks of binenc: PutBytes, small, PutRational. -/
import Derived.Test.YtnenbmbgmmeiaaaDoorEncWalk11
import Derived.Test.YtnenbmbgmmeiaaaDoorRat5
namespace Go.Proofs.YtnenbmbgmmeiaaaDoor
open Go.RowKit En
variable {α : Type}
attribute [local go_sem] Go.Rel.Does Go.Rel.Upon Go.Rel.kept Go.Rel.valOf

set_option maxRecDepth 100000 in
theorem putBytes_any (v : Value) (l : List UInt8) (w : World) (hv : IsBytes w v l) (hlen : l.length ≤ 1000000000) :
    Calls Tryd.prog 25 #[v] w fun e w' => ∃ v', e = .returned v' ∧ w'.ownsRow w.heap.size 5 1 v' (putB l).length ((putB l).map u8v) ∧ Ext w w' := by
  have HP := Lib.hid (putUvarint_any l.length w (by omega))
  have HV := Lib.hid hv
  obtain ⟨a, cap, rfl⟩ := hv.shape
  clear hv
  go_enter Tryd.func25, Tryd.ntmps25
  go_wp2_with fail
  refine HP.out.mono ?_
  rintro e w1 ⟨v', rfl, ho, hb⟩
  have hraw := (HV.out.below hb).raw (fun _ => rfl)
  have hul := uvar_len 10 l.length
  have h63 : (uvar 10 l.length).length + l.length ≤ maxLen := by unfold maxLen; omega
  have hby : ((uvar 10 l.length).length + l.length) * 1 ≤ 140737488355328 := by omega
  have hsz := hb.size
  clear HP
  go_wp2_with (at_builtin; refine wpList_append_raw rfl _ _ _ rfl tyU8 w.heap.size ho rfl hraw rfl h63 hby hsz ?_; intro v2 w2 hown2 hg)
  go_ret
  refine ⟨_, rfl, ?_, hb.grown hg hsz (fun k hk => (World.ownsRow.lt ho k hk).1)⟩
  unfold putB
  rw [List.length_append, List.map_append]
  exact hown2

theorem le4_map (d : UInt32) : (Nb.le4 d).map u8v = [.int .u8 ((d.toNat : Int) % 256), .int .u8 ((d.toNat : Int) / 256 % 256), .int .u8 ((d.toNat : Int) / 65536 % 256), .int .u8 ((d.toNat : Int) / 16777216 % 256)] := by
  simp [Nb.le4, u8v, UInt32.toNat_shiftRight, Nat.shiftRight_eq_div_pow]
theorem nb_len (n : Nat) : (Nb.digs n).length ≤ 4 * (Na.digs n).length := by
  apply Nb.digs_length_le
  have h := Na.val_lt (Na.digs n)
  rw [Na.val_digs] at h
  have e : Nb.B ^ (4 * (Na.digs n).length) = Na.B ^ (Na.digs n).length := by
    rw [Nat.pow_mul]; rfl
  rw [e]; exact h

set_option maxRecDepth 100000 in
set_option maxHeartbeats 400000 in
theorem small_any (neg : Bool) (s : Value) (l : List UInt32) (w : World) (hs : IsU32s w s l) (hlen : l.length ≤ 100000000) :
    Calls Tryd.prog 59 #[.agg #[.bool neg, s]] w fun e w' => ∃ v', e = .returned v' ∧ IsBytes w' v' (Nb.digs (Na.val l)) ∧ Ext w w' := by
  have hb0 := below_alloc w (.cells #[.bool neg, s] 49)
  have HS := Lib.hid (hs.below hb0)
  obtain ⟨a, cap, rfl⟩ := hs.shape
  have HB0 := Lib.hid hb0
  clear hs hb0
  go_enter Tryd.func59, Tryd.ntmps59
  go_wp2_with fail
  go_loopw [3, 9] (fun v i wr => ∃ k : Nat, i = .int .i64 k ∧ k ≤ l.length ∧ wr.ownsRow (w.heap.size + 1) 5 1 v (Nb.bytes (l.take k)).length ((Nb.bytes (l.take k)).map u8v) ∧ Ext (w.alloc (.cells #[.bool neg, .slice a l.length cap] 49)) wr) (fun _ i _ => l.length - (intOf i).toNat)
  case atStart => exact ⟨0, rfl, Nat.zero_le _, World.ownsRow_nil _ _ _ _, Below.refl _ _⟩
  case round =>
    obtain ⟨k, rfl, hk, hown, hbel⟩ := hrel
    have hbl := Nb.bytes_len (l.take k)
    have htl : (l.take k).length = k := by simp; omega
    have hsz0 := hbel.size
    simp only [World.size_alloc] at hsz0
    by_cases hlt : k < l.length
    · obtain ⟨b, o, c, hsv, hb, hlc, hm, hc⟩ := row_some HS.out rfl (by omega)
      simp only [Value.slice.injEq] at hsv
      obtain ⟨rfl, -, -⟩ := hsv
      have hck : wr.cell? ⟨b, o + k, none⟩ = some (u32v l[k]) := by rw [hbel.cell (p := ⟨b, o + k, none⟩) hb]; exact hc k hlt
      clear hc
      obtain ⟨d, hd⟩ : ∃ d, l[k] = d := ⟨_, rfl⟩
      rw [hd] at hck
      have hraw := raw_new wr #[.int .u8 ((d.toNat : Int) % 256), .int .u8 ((d.toNat : Int) / 256 % 256), .int .u8 ((d.toNat : Int) / 65536 % 256), .int .u8 ((d.toNat : Int) / 16777216 % 256)] 5 4 1 rfl (by unfold maxLen; omega) (by
        intro u hu
        simp only [List.mem_cons, List.not_mem_nil, or_false] at hu
        rcases hu with rfl | rfl | rfl | rfl <;> rfl)
      have hown' := hown.alloc (.cells #[.int .u8 ((d.toNat : Int) % 256), .int .u8 ((d.toNat : Int) / 256 % 256), .int .u8 ((d.toNat : Int) / 65536 % 256), .int .u8 ((d.toNat : Int) / 16777216 % 256)] 5)
      have hsz1 : w.heap.size + 1 ≤ (wr.alloc (.cells #[.int .u8 ((d.toNat : Int) % 256), .int .u8 ((d.toNat : Int) / 256 % 256), .int .u8 ((d.toNat : Int) / 65536 % 256), .int .u8 ((d.toNat : Int) / 16777216 % 256)] 5)).heap.size := by simp; omega
      have h63 : (Nb.bytes (l.take k)).length + 4 ≤ maxLen := by unfold maxLen; omega
      have hby : ((Nb.bytes (l.take k)).length + 4) * 1 ≤ 140737488355328 := by omega
      have HT : Hid (Nb.bytes (l.take (k + 1)) = Nb.bytes (l.take k) ++ Nb.le4 d) := by show _ = _; rw [take_snoc l k hlt, hd, Nb.bytes_snoc]
      have HO := Lib.hid hown
      clear hd hown hbl htl
      go_wp2_with (at_builtin; refine wpList_append_raw rfl _ _ _ rfl tyU8 (w.heap.size + 1) hown' rfl hraw rfl h63 hby hsz1 ?_; intro v' w' hown2 hg)
      go_roundw
      case rel =>
        refine ⟨k + 1, by go_num, by omega, ?_, ?_⟩
        · rw [HT.out, List.length_append, List.map_append, le4_map]; exact hown2
        · exact (hbel.alloc (by simpa using hsz0) _).grown hg (by simpa using hsz1) (fun k hk => by have := (World.ownsRow.lt hown' k hk).1; simpa using this)
      case measure => simp [intOf]; omega
    · obtain rfl : k = l.length := by omega
      have hown3 := ownsRow_row hown
      have ht := trim_any _ _ wr hown3
      rw [List.take_length, Nb.val_bytes] at ht
      have HT := Lib.hid ht
      clear ht hown hown3 hbl htl
      go_wp2_with fail
      refine HT.out.mono ?_
      rintro e w' ⟨v', rfl, hr, rfl⟩
      have HR := Lib.hid hr
      clear hr
      go_wp2_with fail
      go_ret
      exact ⟨_, rfl, HR.out, Ext.trans' HB0.out hbel⟩
end Go.Proofs.YtnenbmbgmmeiaaaDoor
