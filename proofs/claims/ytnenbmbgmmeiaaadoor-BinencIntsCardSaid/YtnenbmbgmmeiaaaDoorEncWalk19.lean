/- Walks of chapter 06: Ints of both, SameInts. -/
import Derived.Test.YtnenbmbgmmeiaaaDoorEncWalk18
namespace Go.Proofs.YtnenbmbgmmeiaaaDoor
open Go.RowKit En
variable {α : Type}

def OwnI (base : Nat) (w : World) (v : Value) (l : List Int) : Prop := w.ownsRow base 3 1 v l.length (l.map i64v)
def IntsPost (w : World) (r : List Int × Nat × Nat) (e : Ending) (w' : World) : Prop :=
  ∃ x, e = .returned (.tuple #[x, .int .i64 (r.2.1 : Int), .int .i64 (r.2.2 : Int)]) ∧ OwnI w.heap.size w' x r.1 ∧ Ext w w'
theorem ints_err {w w' : World} {er : Nat} (hb : Ext w w') : IntsPost w ([], 0, er) (.returned (.tuple #[.slice none 0 0, .int .i64 0, .int .i64 (er : Int)])) w' :=
  ⟨_, rfl, World.ownsRow_nil _ _ _ _, hb⟩
theorem iat_bad {l : List UInt8} {i most : Int} (h : i < 0 ∨ (l.length : Int) < i) : iat l i most = ([], 0, 2) := by unfold iat; rw [if_pos h]
theorem iat_err {l : List UInt8} {i e : Nat} {most : Int} (h : i ≤ l.length) (hu : usc 9 (l.drop i) = .error e) : iat l i most = ([], 0, e) := by
  unfold iat; rw [if_neg (by omega), Int.toNat_natCast, hu]
theorem iat_5 {l : List UInt8} {i n k : Nat} {most : Int} (h : i ≤ l.length) (hu : usc 9 (l.drop i) = .ok (n, k)) (h5 : most < 0 ∨ most < (n : Int)) : iat l i most = ([], 0, 5) := by
  unfold iat; rw [if_neg (by omega), Int.toNat_natCast, hu]; simp only; rw [if_pos h5]
theorem iat_go {l : List UInt8} {i n k : Nat} {most : Int} (h : i ≤ l.length) (hu : usc 9 (l.drop i) = .ok (n, k)) (h5 : ¬ (most < 0 ∨ most < (n : Int))) :
    iat l i most = match isc l n 0 (i + k) with | .error e => ([], 0, e) | .ok (vs, q) => (vs, q, 0) := by
  unfold iat; rw [if_neg (by omega), Int.toNat_natCast, hu]; simp only; rw [if_neg h5]; rfl
/-- What is left to read after k ints. -/
def Left (l : List UInt8) (n p0 : Nat) (done : List Int) (m : Nat) (last : Int) (p : Nat) : Prop := isc l n 0 p0 = pre done (isc l m last p) ∧ done.length ≤ p ∧ -9223372036854775808 ≤ last ∧ last ≤ 9223372036854775807
theorem left_next {l : List UInt8} {n p0 m p u k : Nat} {done : List Int} {last : Int} (h : Left l n p0 done (m + 1) last p) (hu : usc 9 (l.drop p) = .ok (u, k)) :
    Left l n p0 (done ++ [w64 (last + unzig u)]) m (w64 (last + unzig u)) (p + k) := by
  obtain ⟨h1, h2, h3⟩ := h
  obtain ⟨_, hk, _⟩ := usc_ok9 hu
  refine ⟨by rw [h1, isc_succ hu, pre_pre], by simp; omega, (w64_bd _).1, (w64_bd _).2⟩
theorem left_err {l : List UInt8} {n p0 m p e : Nat} {done : List Int} {last : Int} (h : Left l n p0 done (m + 1) last p) (hu : usc 9 (l.drop p) = .error e) : isc l n 0 p0 = .error e := by
  rw [h.1, isc_fail hu]; rfl
theorem left_end {l : List UInt8} {n p0 p : Nat} {done : List Int} {last : Int} (h : Left l n p0 done 0 last p) : isc l n 0 p0 = .ok (done, p) := by
  rw [h.1]; simp [isc, pre]

theorem Rd.far {w w' : World} {b B : Nat} {v : Value} {l : List UInt8} {p : Nat} (h : Rd w b v l p) (hb : Below B w w') (hB : b < B) (hv : IsBytes w' v l) : Rd w' b v l p :=
  ⟨by rw [hb.cell (p := ⟨b, 0, none⟩) hB]; exact h.c0, by rw [hb.cell (p := ⟨b, 1, none⟩) hB]; exact h.c1, by rw [hb.frozen (p := ⟨b, 1, none⟩) hB]; exact h.fz, hv, h.off, h.hp, by have := hb.size; have := h.lt; omega⟩
set_option maxRecDepth 100000 in
set_option maxHeartbeats 1600000 in
theorem intsAt_any (v : Value) (l : List UInt8) (i most : Int) (w : World) (hv : IsBytes w v l) (hl : l.length ≤ 1000000000) (hmb : most ≤ 9223372036854775807) :
    Calls Tryd.prog 27 #[v, .int .i64 i, .int .i64 most] w (IntsPost w (iat l i most)) := by
  by_cases hbad : i < 0 ∨ (l.length : Int) < i
  · rw [iat_bad hbad]
    have HF := Lib.hid (from_bad v l i w hv hbad)
    clear hbad
    go_enter Tryd.func27, Tryd.ntmps27
    go_wp2_with fail
    refine HF.out.mono ?_
    rintro e w' ⟨rfl, rfl⟩
    go_wp2_with fail
    go_ret3
    exact ints_err (Below.refl _ _)
  obtain ⟨p, rfl⟩ : ∃ p : Nat, i = p := ⟨i.toNat, by omega⟩
  have hp : p ≤ l.length := by omega
  have HF := Lib.hid (from_rd v l p w hv hp)
  clear hbad
  cases hu : usc 9 (l.drop p) with
  | error er =>
    rw [iat_err hp hu]
    have he := err_pos hu
    have HU := Lib.hid hu
    clear hu
    go_enter Tryd.func27, Tryd.ntmps27
    go_wp2_with fail
    refine HF.out.mono ?_
    rintro e w1 ⟨b, rfl, hrd, hb1, hb⟩
    have HN := Lib.hid (count_any l b p v most w1 hrd hmb)
    rw [HU.out] at HN
    clear hrd HF
    go_wp2_with fail
    refine HN.out.mono ?_
    rintro e w2 ⟨q, hrd, hch, rfl⟩
    have HB := Lib.hid (Below.trans hb1 (hch.below hb hb1.size))
    clear hrd hch hb1 HN
    go_wp2_with fail
    go_ret3
    exact ints_err HB.out
  | ok r =>
    obtain ⟨n, k⟩ := r
    obtain ⟨hn64, hk1, hkl, hk10, -⟩ := usc_ok9 hu
    simp only [List.length_drop] at hkl
    have HU := Lib.hid hu
    by_cases h5 : most < 0 ∨ most < (n : Int)
    · rw [iat_5 hp hu h5]
      have H5 := Lib.hid h5
      clear hu h5
      go_enter Tryd.func27, Tryd.ntmps27
      go_wp2_with fail
      refine HF.out.mono ?_
      rintro e w1 ⟨b, rfl, hrd, hb1, hb⟩
      have HN := Lib.hid (count_any l b p v most w1 hrd hmb)
      rw [HU.out] at HN
      clear hrd HF
      go_wp2_with fail
      refine HN.out.mono ?_
      rintro e w2 ⟨q, hrd, hch, hq⟩
      simp only [if_pos H5.out] at hq
      subst hq
      have HB := Lib.hid (Below.trans hb1 (hch.below hb hb1.size))
      clear hrd hch hb1 HN
      go_wp2_with fail
      go_ret3
      exact ints_err HB.out
    · have hR := iat_go hp hu h5
      have H5 := Lib.hid h5
      have h0 : 0 ≤ most := by omega
      have h1 : (n : Int) ≤ most := by omega
      have HR := Lib.hid hR
      clear hu h5 hR
      go_enter Tryd.func27, Tryd.ntmps27
      go_wp2_with fail
      refine HF.out.mono ?_
      rintro e w1 ⟨b, rfl, hrd, hb1, hb⟩
      have HN := Lib.hid (count_any l b p v most w1 hrd hmb)
      rw [HU.out] at HN
      have HB1 := Lib.hid (And.intro hb1 hrd.lt)
      clear hrd HF hb1
      go_wp2_with fail
      refine HN.out.mono ?_
      rintro e w2 ⟨q, hrd, hch, hq⟩
      simp only [if_neg H5.out] at hq
      obtain ⟨rfl, rfl⟩ := hq
      have HB2 := Lib.hid (And.intro hrd hch)
      clear hrd hch HN
      go_wp2_with fail
      go_loopw [12, 13, 35] (fun g la i wr => ∃ (j : Nat) (done : List Int) (last : Int) (pp : Nat), i = .int .i64 j ∧ j ≤ n ∧ la = .int .i64 last ∧ done.length = j ∧ Rd wr b v l pp ∧ Hid (Left l n (p + k) done (n - j) last pp) ∧ wr.ownsRow w1.heap.size 3 1 g j (done.map i64v) ∧ Below w.heap.size w wr ∧ w1.heap.size ≤ wr.heap.size) (fun _ _ i _ => n - (intOf i).toNat)
      case atStart => exact ⟨0, [], 0, p + k, rfl, Nat.zero_le _, rfl, rfl, HB2.out.1, ⟨(pre_nil _).symm, by simp, by omega, by omega⟩, World.ownsRow_nil _ _ _ _, Below.trans HB1.out.1 (HB2.out.2.below hb HB1.out.1.size), HB2.out.2.size⟩
      case round =>
        obtain ⟨j, done, last, pp, rfl, hj, rfl, hdone, hrd, HL, hown, hbel, hsz⟩ := hrel
        have hppl := hrd.hp
        have hdp := HL.out.2.1
        have HD := Lib.hid hdone
        have HO := Lib.hid hown
        have HBL := Lib.hid hbel
        clear hown hbel
        by_cases hlt : j < n
        · obtain ⟨m, hm⟩ : ∃ m, n - j = m + 1 := ⟨n - j - 1, by omega⟩
          rw [hm] at HL
          have HS := Lib.hid (signed_any l b pp v wr hrd)
          cases hus : usc 9 (l.drop pp) with
          | error er =>
            rw [hus] at HS
            have he := err_pos hus
            have hres := HR.out
            rw [left_err HL.out hus] at hres
            have HRes := Lib.hid hres
            clear hus hres hrd hm hdone hdp
            go_wp2_with fail
            refine HS.out.mono ?_
            rintro e w3 ⟨q, hrd, hch, rfl⟩
            have HB3 := Lib.hid (Below.trans HBL.out (hch.below hb HBL.out.size))
            clear hrd hch HS
            go_wp2_with fail
            go_ret3
            rw [HRes.out]
            exact ints_err HB3.out
          | ok r =>
            obtain ⟨u, kk⟩ := r
            rw [hus] at HS
            have HN := Lib.hid (left_next HL.out hus)
            have hub := (usc_ok9 hus).1
            have hzb := unzig_bd hub
            have HZB := Lib.hid hzb
            have HLB := Lib.hid HL.out.2.2
            have hjp : j ≤ pp := by omega
            have HM := Lib.hid hm
            clear hus hrd hdone hdp hm hzb
            go_wp2_with fail
            refine HS.out.mono ?_
            rintro e w3 ⟨q, hrd, hch, rfl, rfl⟩
            have hown3 := own_ch HO.out hch HB1.out.2
            have HR3 := Lib.hid hrd
            have HB3 := Lib.hid (Below.trans HBL.out (hch.below hb HBL.out.size))
            have hsz3 : w1.heap.size ≤ w3.heap.size := Nat.le_trans hsz hch.size
            have hr := raw_one w3 (i64v (w64 (last + unzig u))) 3 rfl
            have hown4 := hown3.alloc (.cells #[i64v (w64 (last + unzig u))] 3)
            have hsz4 : w1.heap.size ≤ (w3.alloc (.cells #[i64v (w64 (last + unzig u))] 3)).heap.size := by simp; omega
            have h63 : j + 1 ≤ maxLen := by unfold maxLen; omega
            have hby : (j + 1) * 8 ≤ 140737488355328 := by omega
            have hwr : wrap64 (last + unzig u) = w64 (last + unzig u) := wrap_w64 _
            clear hrd hch HS hown3
            go_wp2_with (at_builtin; refine wpList_append_raw rfl _ _ _ rfl tyI w1.heap.size hown4 rfl hr rfl h63 hby hsz4 ?_; intro v2 w4 hown5 hg)
            go_roundw
            case rel =>
              have hb4 : Below w1.heap.size w3 w4 := ((Below.refl _ _).alloc hsz3 _).grown hg hsz4 (fun k hk => (World.ownsRow.lt hown4 k hk).1)
              have hbel4 : Below w.heap.size w w4 := Below.trans HB3.out (hb4.mono HB1.out.1.size)
              refine ⟨j + 1, done ++ [w64 (last + unzig u)], w64 (last + unzig u), pp + kk, by go_num, by omega, rfl, by simp [HD.out], HR3.out.far hb4 HB1.out.2 (hv.below hbel4), ?_, ?_, hbel4, ?_⟩
              · have e : n - (j + 1) = m := by have := HM.out; omega
                rw [e]; exact HN.out
              · rw [List.map_append]; exact hown5
              · exact Nat.le_trans hsz4 hg.size
            case measure => simp [intOf]; omega
        · obtain rfl : j = n := by omega
          have hc1 := hrd.c1
          rw [Nat.sub_self] at HL
          have hres := HR.out
          rw [left_end HL.out] at hres
          have HRes := Lib.hid hres
          clear hres hdone hrd
          go_wp2_with fail
          go_quiet (fail)
          go_wp2_with fail
          go_ret3
          rw [HRes.out]
          refine ⟨_, rfl, ?_, below_drewN HBL.out _⟩
          unfold OwnI
          have hd := HD.out
          rw [hd]
          exact ownsRow_ext (ownsRow_mono HO.out HB1.out.1.size) (below_drewN (Below.refl _ _) _)
end Go.Proofs.YtnenbmbgmmeiaaaDoor
