/- More walks of chapter 7: the reference's functions, cloning, appending, verifying. -/
import Derived.Test.YtppkjnfgbofjaaaCrcWalk
import Derived.Test.YtppkjnfgbofjaaaTypes7
namespace Go.Proofs.Ytppkjnfgbofjaaa
open Go.RowKit
variable {α : Type}

theorem ref_step (x : UInt32) (c : UInt8) : bits .xor .u32 ((Crc.many 8 ((x &&& 255) ^^^ c.toUInt32)).toNat : Int) ((x >>> 8).toNat : Int) = ((Crc.byte x c).toNat : Int) := by
  rw [bx32, Crc.byte_ref]

set_option maxHeartbeats 400000 in
theorem refUpdate (s : UInt32) (v : Value) (l : List UInt8) (w : World) (hv : IsBytes w v l) :
    Calls Try.prog 14 #[u32v s, v] w fun e w' => e = .returned (u32v (Crc.update s l)) ∧ w = w' := by
  obtain ⟨a, cap, rfl, hm, ha⟩ := hv
  have hl := row_len hm ha
  have HA := Lib.hid ha
  clear ha
  go_enter Try.func14, Try.ntmps14
  go_wp2
  go_loop [5, 6] (fun s1 i => ∃ k : Nat, k ≤ l.length ∧ i = .int .i64 k ∧ s1 = u32v (Crc.reg (s ^^^ 0xffffffff) (l.take k))) (fun _ i => l.length - (intOf i).toNat)
  case atStart => exact ⟨0, Nat.zero_le _, rfl, by rw [bx32n]; rfl⟩
  case round =>
    obtain ⟨k, hk, rfl, rfl⟩ := hrel
    by_cases hlt : k < l.length
    · rcases HA.out with ⟨rfl, _⟩ | ⟨b, o, rfl, hb, hlc, hc⟩
      · simp at hlt
      have hck := hc k hlt
      have E := Lib.hid (reg_take (s ^^^ 0xffffffff) l k hlt)
      generalize Crc.reg (s ^^^ 0xffffffff) (l.take k) = x at E
      go_wp2_with fail
      rw [ba32ff, up8_32, bx32]
      refine (refOne _ _).mono ?_
      rintro e w' ⟨rfl, rfl⟩
      go_wp2
      go_round
      case rel => exact ⟨k + 1, by omega, by go_num, by rw [E.out, sh8_32, ref_step]⟩
      case measure => simp [intOf]; omega
    · obtain rfl : k = l.length := by omega
      go_wp2
      go_ret
      exact ⟨ret_int (by simp only [bx32n, List.take_length]; rfl), rfl⟩

set_option maxHeartbeats 400000 in
theorem refCRC32 (v : Value) (l : List (List UInt8)) (w : World) (hv : IsParts w v l) :
    Calls Try.prog 12 #[v] w fun e w' => e = .returned (u32v (Crc.crc l)) ∧ w = w' := by
  obtain ⟨a, cap, rfl, hm, ha⟩ := hv
  have hl := sl_len hm ha
  have HA := Lib.hid ha
  clear ha
  go_enter Try.func12, Try.ntmps12
  go_wp2
  go_loop [3, 4] (fun s1 i => ∃ k : Nat, k ≤ l.length ∧ i = .int .i64 k ∧ s1 = u32v (Crc.crc (l.take k))) (fun _ i => l.length - (intOf i).toNat)
  case atStart => exact ⟨0, Nat.zero_le _, rfl, rfl⟩
  case round =>
    obtain ⟨k, hk, rfl, rfl⟩ := hrel
    by_cases hlt : k < l.length
    · rcases HA.out with ⟨rfl, _⟩ | ⟨b, o, rfl, hb, hlc, hc⟩
      · simp at hlt
      obtain ⟨x, hck, hx⟩ := hc k hlt
      go_wp2_with fail
      refine (refUpdate _ x l[k] _ hx).mono ?_
      rintro e w' ⟨rfl, rfl⟩
      go_wp2
      go_round
      case rel => exact ⟨k + 1, by omega, by go_num, by rw [crc_snoc l k ‹_›]⟩
      case measure => simp [intOf]; omega
    · obtain rfl : k = l.length := by omega
      go_wp2
      go_ret
      exact ⟨ret_int (by simp only [List.take_length]), rfl⟩

set_option maxHeartbeats 400000 in
theorem refFnv (v : Value) (l : List UInt8) (w : World) (hv : IsBytes w v l) :
    Calls Try.prog 16 #[v] w fun e w' => e = .returned (u64v (Crc.fnv l)) ∧ w = w' := by
  obtain ⟨a, cap, rfl, hm, ha⟩ := hv
  have hl := row_len hm ha
  have HA := Lib.hid ha
  clear ha
  go_enter Try.func16, Try.ntmps16
  go_wp2
  go_loop [3, 4] (fun s1 i => ∃ k : Nat, k ≤ l.length ∧ i = .int .i64 k ∧ s1 = u64v (Crc.fnv (l.take k))) (fun _ i => l.length - (intOf i).toNat)
  case atStart => exact ⟨0, Nat.zero_le _, rfl, rfl⟩
  case round =>
    obtain ⟨k, hk, rfl, rfl⟩ := hrel
    by_cases hlt : k < l.length
    · rcases HA.out with ⟨rfl, _⟩ | ⟨b, o, rfl, hb, hlc, hc⟩
      · simp at hlt
      have hck := hc k hlt
      go_wp2
      go_round
      case rel => exact ⟨k + 1, by omega, by go_num, by rw [fnv_take l k ‹_›, fnv_step]⟩
      case measure => simp [intOf]; omega
    · obtain rfl : k = l.length := by omega
      go_wp2
      go_ret
      exact ⟨ret_int (by simp only [List.take_length]), rfl⟩

set_option maxHeartbeats 400000 in
theorem same07 (v u : Value) (l m : List UInt8) (w : World) (hv : IsBytes w v l) (hu : IsBytes w u m) :
    Calls Try.prog 19 #[v, u] w fun e w' => e = .returned (.bool (l == m)) ∧ w = w' := by
  have s1 := run_string_row (P := Try.prog) (src := 24) (e := 5) (dst := 9) Try.underlying24 Try.underlying5 Try.underlying9 hv
  have s2 := run_string_row (P := Try.prog) (src := 24) (e := 5) (dst := 9) Try.underlying24 Try.underlying5 Try.underlying9 hu
  go_enter Try.func19, Try.ntmps19
  go_wp2
  go_ret
  exact ⟨rfl, rfl⟩

set_option maxHeartbeats 400000 in
theorem clone8 (v : Value) (l : List UInt8) (w : World) (hv : IsBytes w v l) (hlen : l.length ≤ 140737488355328) :
    Calls Try.prog 23 #[v] w fun e w' => ∃ v', e = .returned v' ∧ w'.ownsRow w.heap.size 5 1 v' l.length (l.map u8v) ∧ Below w.heap.size w w' := by
  have hr := hv.raw (fun _ => rfl)
  obtain ⟨a, cap, rfl, hm, ha⟩ := hv
  rcases a with _ | ad
  · have hz : l = [] ∧ cap = 0 := by
      rcases ha with ⟨h, h0⟩ | ⟨b, o, h, _⟩
      · exact ⟨h, h0 rfl⟩
      · cases h
    obtain ⟨rfl, rfl⟩ := hz
    have hnil := Lib.run_eql_slice_nil (P := Try.prog) w 24 5 none 0 0 0 0 Try.underlying24
    clear ha hr
    go_enter Try.func23, Try.ntmps23
    go_wp2
    go_ret
    exact ⟨_, rfl, World.ownsRow_nil _ _ _ _, Below.refl _ _⟩
  · have hnil := Lib.run_eql_slice_nil (P := Try.prog) w 24 5 (some ad) l.length cap 0 0 Try.underlying24
    have hown := World.ownsRow_lit (base := w.heap.size) (e := 5) (size := 1) w #[] 0 (Nat.le_refl _) (Nat.zero_le _) rfl
    have hr := raw_alloc hr (.cells #[] 5)
    have h63 : 0 + l.length ≤ maxLen := by
      rcases ha with ⟨rfl, _⟩ | ⟨b, o, _, _, h, _⟩
      · simp
      · omega
    have hby : (0 + l.length) * 1 ≤ 140737488355328 := by omega
    clear ha
    go_enter Try.func23, Try.ntmps23
    go_wp2_with (at_builtin; refine wpList_append_raw rfl _ _ _ rfl tyU8 w.heap.size hown rfl hr rfl h63 hby (by simp) ?_; intro v' w' hown' hg)
    go_ret
    simp only [Nat.zero_add, List.nil_append] at hown'
    exact ⟨_, rfl, by simpa using hown', ((Below.refl _ _).alloc (Nat.le_refl _) _).grown hg (by simp) (by simp [Value.ownBlock])⟩

theorem crc_one (l : List UInt8) : Crc.crc [l] = Crc.update 0 l := rfl
theorem sh16_32 (x : UInt32) : (x.toNat : Int) / (65536 : Int) = ((x >>> 16).toNat : Int) := by
  rw [UInt32.toNat_shiftRight]; simp [Nat.shiftRight_eq_div_pow]
theorem sh24_32 (x : UInt32) : (x.toNat : Int) / (16777216 : Int) = ((x >>> 24).toNat : Int) := by
  rw [UInt32.toNat_shiftRight]; simp [Nat.shiftRight_eq_div_pow]

theorem le4_cells (x : UInt32) : (Crc.le4 x).map u8v =
    [.int .u8 ((x.toNat : Int) % 256), .int .u8 ((x.toNat : Int) / 256 % 256), .int .u8 ((x.toNat : Int) / 65536 % 256), .int .u8 ((x.toNat : Int) / 16777216 % 256)] := by
  simp only [Crc.le4, List.map_cons, List.map_nil, u8v]
  rw [sh8_32, sh16_32, sh24_32, down32, down32, down32, down32]
theorem raw_le4 (x : UInt32) (w : World) (e : TypeId) : RawRow (w.alloc (.cells #[.int .u8 ((x.toNat : Int) % 256), .int .u8 ((x.toNat : Int) / 256 % 256), .int .u8 ((x.toNat : Int) / 65536 % 256), .int .u8 ((x.toNat : Int) / 16777216 % 256)] e)) 1
    (.slice (some ⟨w.heap.size, 0, none⟩) 4 4) 4 ((Crc.le4 x).map u8v) := by
  rw [le4_cells]
  exact raw_new w _ e 4 1 rfl (by unfold maxLen; omega) (by intro u hu; simp at hu; rcases hu with rfl | rfl | rfl | rfl <;> rfl)

set_option maxHeartbeats 400000 in
theorem appendCRC32 (v : Value) (l : List UInt8) (w : World) (hv : IsBytes w v l) (hlen : l.length ≤ 100000000) :
    Calls Try.prog 20 #[v] w fun e w' => ∃ v', e = .returned v' ∧
      w'.ownsRow w.heap.size 5 1 v' (l ++ Crc.le4 (Crc.update 0 l)).length ((l ++ Crc.le4 (Crc.update 0 l)).map u8v) ∧ Below w.heap.size w w' := by
  obtain ⟨a, cap, rfl⟩ : ∃ a cap, v = .slice a l.length cap := by obtain ⟨a, cap, h, _⟩ := hv; exact ⟨a, cap, h⟩
  have hp := sl1_new (R := IsBytes) w (.slice a l.length cap) l 24 (hv.below (below_alloc _ _))
  have hv1 := hv.below (below_alloc w (.cells #[.slice a l.length cap] 24))
  have h63 : l.length + 4 ≤ maxLen := by unfold maxLen; omega
  have hby : (l.length + 4) * 1 ≤ 140737488355328 := by omega
  go_enter Try.func20, Try.ntmps20
  go_wp2_with fail
  refine (crc32 _ _ _ hp).mono ?_
  rintro e w' ⟨rfl, rfl⟩
  rw [crc_one]
  go_wp2_with fail
  refine (clone8 _ _ _ hv1 (by omega)).mono ?_
  rintro e w2 ⟨v2, rfl, hown, hb2⟩
  have hb2' : Below w.heap.size w w2 := (below_alloc _ _).trans (hb2.mono (by simp))
  generalize hx : Crc.update 0 l = x
  have HX := Lib.hid hx
  clear hx
  have hr := raw_le4 x w2 5
  have hown' := (ownsRow_mono hown (show w.heap.size ≤ _ by simp)).alloc (.cells #[.int .u8 ((x.toNat : Int) % 256), .int .u8 ((x.toNat : Int) / 256 % 256), .int .u8 ((x.toNat : Int) / 65536 % 256), .int .u8 ((x.toNat : Int) / 16777216 % 256)] 5)
  have hsz : w.heap.size ≤ w2.heap.size := by have := hb2.size; simp at this; omega
  have hsz' : w.heap.size ≤ (w2.alloc (.cells #[.int .u8 ((x.toNat : Int) % 256), .int .u8 ((x.toNat : Int) / 256 % 256), .int .u8 ((x.toNat : Int) / 65536 % 256), .int .u8 ((x.toNat : Int) / 16777216 % 256)] 5)).heap.size := by simp; omega
  clear hown
  go_wp2_with (at_builtin; refine wpList_append_raw rfl _ _ _ rfl tyU8 w.heap.size hown' rfl hr rfl h63 hby hsz' ?_; intro v' w' hown' hg)
  go_ret
  refine ⟨_, rfl, by rw [HX.out]; simpa [Crc.le4] using hown', (hb2'.alloc hsz _).grown hg hsz' ?_⟩
  exact fun k hk => (World.ownsRow.lt ‹_› k hk).1

theorem map_take_snoc (f : α → Value) (l : List α) (k : Nat) (h : k < l.length) : (l.take (k + 1)).map f = (l.take k).map f ++ [f l[k]] := by
  rw [take_snoc l k h, List.map_append]; rfl
theorem raw_one (w : World) (x : Value) (e : TypeId) (h : x.oneCell' = true) : RawRow (w.alloc (.cells #[x] e)) 1 (.slice (some ⟨w.heap.size, 0, none⟩) 1 1) 1 [x] :=
  raw_new w #[x] e 1 1 rfl (by unfold maxLen; omega) (by intro u hu; simp at hu; rw [hu]; exact h)

set_option maxHeartbeats 400000 in
theorem refAppend (v : Value) (l : List UInt8) (w : World) (hv : IsBytes w v l) (hlen : l.length ≤ 100000000) :
    Calls Try.prog 21 #[v] w fun e w' => ∃ v', e = .returned v' ∧
      w'.ownsRow w.heap.size 5 1 v' (l ++ Crc.le4 (Crc.update 0 l)).length ((l ++ Crc.le4 (Crc.update 0 l)).map u8v) ∧ Below w.heap.size w w' := by
  have hv0 := hv
  obtain ⟨a, cap, rfl, hm, ha⟩ := hv
  have hl := row_len hm ha
  have HA := Lib.hid ha
  clear ha
  go_enter Try.func21, Try.ntmps21
  go_wp2
  go_loopw [3, 4] (fun out i wr => ∃ k : Nat, k ≤ l.length ∧ i = .int .i64 k ∧ wr.ownsRow w.heap.size 5 1 out k ((l.take k).map u8v) ∧ Below w.heap.size w wr) (fun _ i _ => l.length - (intOf i).toNat)
  case atStart => exact ⟨0, Nat.zero_le _, rfl, World.ownsRow_lit w #[] 0 (Nat.le_refl _) (Nat.zero_le _) rfl, below_alloc _ _⟩
  case round =>
    obtain ⟨k, hk, rfl, hown, hbel⟩ := hrel
    by_cases hlt : k < l.length
    · rcases HA.out with ⟨rfl, _⟩ | ⟨b, o, rfl, hb, hlc, hc⟩
      · simp at hlt
      rename_i wr
      have hck : wr.cell? ⟨b, o + k, none⟩ = some (u8v l[k]) := by rw [hbel.cell (p := ⟨b, o + k, none⟩) hb]; exact hc k hlt
      clear hc
      have hr := raw_one wr (u8v l[k]) 5 rfl
      have hown' := hown.alloc (.cells #[u8v l[k]] 5)
      have h63 : k + 1 ≤ maxLen := by unfold maxLen; omega
      have hby : (k + 1) * 1 ≤ 140737488355328 := by omega
      have hsz : w.heap.size ≤ wr.heap.size := hbel.size
      have hsz' : w.heap.size ≤ (wr.alloc (.cells #[u8v l[k]] 5)).heap.size := by simp; omega
      clear hown
      go_wp2_with (at_builtin; refine wpList_append_raw rfl _ _ _ rfl tyU8 w.heap.size hown' rfl hr rfl h63 hby hsz' ?_; intro v' w' hown2 hg)
      go_roundw
      case rel => exact ⟨k + 1, by omega, by go_num, by rw [map_take_snoc _ _ _ ‹_›]; exact hown2, (hbel.alloc hsz _).grown hg hsz' (fun k hk => (World.ownsRow.lt hown' k hk).1)⟩
      case measure => simp [intOf]; omega
    · obtain rfl : k = l.length := by omega
      rename_i wr
      have hv1 := hv0.below hbel
      simp only [List.take_length] at hown
      go_wp2_with fail
      refine (refUpdate 0 _ _ _ hv1).mono ?_
      rintro e w' ⟨rfl, rfl⟩
      generalize hx : Crc.update 0 l = x
      have HX := Lib.hid hx
      clear hx
      have hr := raw_le4 x wr 5
      have hown' := hown.alloc (.cells #[.int .u8 ((x.toNat : Int) % 256), .int .u8 ((x.toNat : Int) / 256 % 256), .int .u8 ((x.toNat : Int) / 65536 % 256), .int .u8 ((x.toNat : Int) / 16777216 % 256)] 5)
      have hsz : w.heap.size ≤ wr.heap.size := hbel.size
      have hsz' : w.heap.size ≤ (wr.alloc (.cells #[.int .u8 ((x.toNat : Int) % 256), .int .u8 ((x.toNat : Int) / 256 % 256), .int .u8 ((x.toNat : Int) / 65536 % 256), .int .u8 ((x.toNat : Int) / 16777216 % 256)] 5)).heap.size := by simp; omega
      have h63 : l.length + 4 ≤ maxLen := by unfold maxLen; omega
      have hby : (l.length + 4) * 1 ≤ 140737488355328 := by omega
      clear hown
      go_wp2_with (at_builtin; refine wpList_append_raw rfl _ _ _ rfl tyU8 w.heap.size hown' rfl hr rfl h63 hby hsz' ?_; intro v' w' hown2 hg)
      go_ret
      exact ⟨_, rfl, by rw [HX.out]; simpa [Crc.le4] using hown2, (hbel.alloc hsz _).grown hg hsz' (fun k hk => (World.ownsRow.lt hown' k hk).1)⟩
end Go.Proofs.Ytppkjnfgbofjaaa
