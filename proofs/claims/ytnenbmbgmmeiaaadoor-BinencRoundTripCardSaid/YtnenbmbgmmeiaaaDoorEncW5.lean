/- Walks of binenc: Runs. -/
import Derived.Test.YtnenbmbgmmeiaaaDoorEncW4
namespace Go.Proofs.YtnenbmbgmmeiaaaDoor
open Go.RowKit En
variable {α : Type}

theorem rsc_err1 {l : List UInt8} {M m len p e : Nat} {last : Option UInt8} (hm : len ≤ M) (h : run1 l last (M - len) p = .error e) : rsc l (M : Int) (m + 1) last len p = .error e := by
  unfold run1 at h; unfold rsc
  split at h
  · next e' he => rw [he]; cases h; rfl
  · next u k he =>
    rw [he]; simp only
    split at h
    · next h4 => rw [if_pos h4]; cases h; rfl
    · next h4 =>
      rw [if_neg h4]
      split at h
      · next h3 => rw [if_pos h3]; cases h; rfl
      · next h3 =>
        rw [if_neg h3]
        split at h
        · next h5 => rw [if_pos (by omega)]; cases h; rfl
        · cases h
theorem rsc_ok1 {l : List UInt8} {M m len p k : Nat} {last : Option UInt8} {x : Nat × UInt8} (hm : len ≤ M) (h : run1 l last (M - len) p = .ok (x, k)) :
    rsc l (M : Int) (m + 1) last len p = pre [x] (rsc l (M : Int) m (some x.2) (len + x.1) (p + k)) ∧ len + x.1 ≤ M ∧ 1 ≤ x.1 := by
  unfold run1 at h
  split at h
  · cases h
  · next u k' he =>
    split at h
    · cases h
    · next h4 =>
      split at h
      · cases h
      · next h3 =>
        split at h
        · cases h
        · next h5 =>
          cases h
          refine ⟨?_, by simp only; omega, by simp only; omega⟩
          rw [rsc, he]; simp only
          rw [if_neg h4, if_neg h3, if_neg (by omega), ← Nat.add_assoc]
          rcases rsc l (M : Int) m (some (l.getD (p + k') 0)) (len + u) (p + k' + 1) with e | ⟨vs, q⟩ <;> rfl
theorem run1_err {l : List UInt8} {last : Option UInt8} {room p e : Nat} (h : run1 l last room p = .error e) : ((e : Int) != 0) = true := by
  unfold run1 at h
  split at h
  · next he => cases h; exact err_pos he
  · split at h
    · cases h; decide
    · split at h
      · cases h; decide
      · split at h
        · cases h; decide
        · cases h
def RLeft (l : List UInt8) (M n p0 : Nat) (done : List (Nat × UInt8)) (m p : Nat) : Prop := rsc l (M : Int) n none 0 p0 = pre done (rsc l (M : Int) m (lastv none done) (flat done).length p) ∧ (flat done).length ≤ M
theorem rleft_err {l : List UInt8} {M n p0 m p e : Nat} {done : List (Nat × UInt8)} (h : RLeft l M n p0 done (m + 1) p) (hr : run1 l (lastv none done) (M - (flat done).length) p = .error e) : rsc l (M : Int) n none 0 p0 = .error e := by
  rw [h.1, rsc_err1 h.2 hr]; rfl
theorem flat_snoc (R : List (Nat × UInt8)) (x : Nat × UInt8) : flat (R ++ [x]) = flat R ++ List.replicate x.1 x.2 := by
  rw [flat_append]; simp [flat]
theorem rleft_next {l : List UInt8} {M n p0 m p k : Nat} {done : List (Nat × UInt8)} {x : Nat × UInt8} (h : RLeft l M n p0 done (m + 1) p) (hr : run1 l (lastv none done) (M - (flat done).length) p = .ok (x, k)) :
    RLeft l M n p0 (done ++ [x]) m (p + k) ∧ (flat done).length + x.1 ≤ M ∧ 1 ≤ x.1 := by
  obtain ⟨h1, h2⟩ := h
  obtain ⟨k1, k2, k3⟩ := rsc_ok1 (m := m) h2 hr
  refine ⟨⟨?_, ?_⟩, k2, k3⟩
  · rw [h1, k1, pre_pre, show lastv none (done ++ [x]) = some x.2 from lastv_snoc done x.1 x.2 none, flat_snoc, List.length_append, List.length_replicate]
  · rw [flat_snoc, List.length_append, List.length_replicate]; exact k2
theorem rleft_end {l : List UInt8} {M n p0 p : Nat} {done : List (Nat × UInt8)} (h : RLeft l M n p0 done 0 p) : rsc l (M : Int) n none 0 p0 = .ok (done, p) := by
  rw [h.1]; simp [rsc, pre]
theorem rat_bad {l : List UInt8} {i most : Int} (h : i < 0 ∨ (l.length : Int) < i) : rat l i most = ([], 0, 2) := by unfold rat; rw [if_pos h]
theorem rat_err {l : List UInt8} {i e : Nat} {most : Int} (h : i ≤ l.length) (hu : usc 9 (l.drop i) = .error e) : rat l i most = ([], 0, e) := by
  unfold rat; rw [if_neg (by omega), Int.toNat_natCast, hu]
theorem rat_5 {l : List UInt8} {i n k : Nat} {most : Int} (h : i ≤ l.length) (hu : usc 9 (l.drop i) = .ok (n, k)) (h5 : most < 0) : rat l i most = ([], 0, 5) := by
  unfold rat; rw [if_neg (by omega), Int.toNat_natCast, hu]; simp only; rw [if_pos h5]
theorem rat_go {l : List UInt8} {i n k M : Nat} (h : i ≤ l.length) (hu : usc 9 (l.drop i) = .ok (n, k)) :
    rat l i (M : Int) = match rsc l (M : Int) n none 0 (i + k) with | .error e => ([], 0, e) | .ok (vs, q) => (flat vs, q, 0) := by
  unfold rat; rw [if_neg (by omega), Int.toNat_natCast, hu]; simp only; rw [if_neg (by omega)]; rfl
theorem rep_box (w : World) (n : Nat) (c : UInt8) (h1 : 1 ≤ n) (hn : n ≤ 100000000) :
    Calls Tryd.prog 70 #[.slice (some ⟨w.heap.size + 1, 0, none⟩) 1 1, .int .i64 n] ((w.alloc (.cells #[.int .i64 (n : Int), .int .u8 (c.toNat : Int)] 97)).alloc (.cells #[.int .u8 (c.toNat : Int)] 5))
      fun e w' => ∃ v', e = .returned v' ∧ IsBytes w' v' (List.replicate n c) ∧ Ext w w' ∧ w'.cell? ⟨w.heap.size, 1, none⟩ = some (u8v c) ∧ w.heap.size < w'.heap.size := by
  obtain ⟨W, hW⟩ : ∃ W, W = w.alloc (.cells #[.int .i64 (n : Int), .int .u8 (c.toNat : Int)] 97) := ⟨_, rfl⟩
  have hz : W.heap.size = w.heap.size + 1 := by rw [hW]; simp
  have hWb : Ext w W := by rw [hW]; exact below_alloc _ _
  have hWc : W.cell? ⟨w.heap.size, 1, none⟩ = some (u8v c) := by rw [hW, World.cell?_alloc_at _ _ _ _ rfl]; rfl
  rw [← hW]
  have hl := bytes_lit W [c] #[.int .u8 (c.toNat : Int)] 1 5 rfl rfl (by unfold maxLen; omega)
  rw [hz] at hl
  refine (repeat_any _ c n _ hl h1 hn).mono ?_
  rintro e w' ⟨v', rfl, hv, hb⟩
  have hb2 := Ext.trans' (below_alloc W (.cells #[.int .u8 (c.toNat : Int)] 5)) hb
  exact ⟨v', rfl, hv, Ext.trans' hWb hb2, by rw [hb2.cell (p := ⟨w.heap.size, 1, none⟩) (by rw [hz]; exact Nat.lt_succ_self _)]; exact hWc, by have := hb2.size; rw [hz] at this; omega⟩

set_option maxRecDepth 100000 in
set_option maxHeartbeats 1600000 in
theorem runsAt_any (v : Value) (l : List UInt8) (i most : Int) (w : World) (hv : IsBytes w v l) (hl : l.length ≤ 1000000000) (hmb : most ≤ 1000000) :
    Calls Tryd.prog 41 #[v, .int .i64 i, .int .i64 most] w (BytesPost w (rat l i most)) := by
  by_cases hbad : i < 0 ∨ (l.length : Int) < i
  · rw [rat_bad hbad]
    have HF := Lib.hid (from_bad v l i w hv hbad)
    clear hbad
    go_enter Tryd.func41, Tryd.ntmps41
    go_wp2_with fail
    refine HF.out.mono ?_
    rintro e w' ⟨rfl, rfl⟩
    go_wp2_with fail
    go_ret3
    exact bytes_err (Below.refl _ _)
  obtain ⟨p, rfl⟩ : ∃ p : Nat, i = p := ⟨i.toNat, by omega⟩
  have hp : p ≤ l.length := by omega
  have HF := Lib.hid (from_rd v l p w hv hp)
  clear hbad
  cases hu : usc 9 (l.drop p) with
  | error er =>
    rw [rat_err hp hu]
    have he := err_pos hu
    have HU := Lib.hid hu
    clear hu
    go_enter Tryd.func41, Tryd.ntmps41
    go_wp2_with fail
    refine HF.out.mono ?_
    rintro e w1 ⟨b, rfl, hrd, hb1, hb⟩
    have HN := Lib.hid (number_any l b p v w1 hrd)
    rw [HU.out] at HN
    clear hrd HF
    go_wp2_with fail
    refine HN.out.mono ?_
    rintro e w2 ⟨q, hrd, hch, rfl⟩
    have HB := Lib.hid (Below.trans hb1 (hch.below hb hb1.size))
    clear hrd hch hb1 HN
    go_wp2_with fail
    go_ret3
    exact bytes_err HB.out
  | ok r =>
    obtain ⟨n, k⟩ := r
    obtain ⟨hn64, hk1, hkl, hk10, -⟩ := usc_ok9 hu
    simp only [List.length_drop] at hkl
    have HU := Lib.hid hu
    by_cases h5 : most < 0
    · rw [rat_5 hp hu h5]
      clear hu
      go_enter Tryd.func41, Tryd.ntmps41
      go_wp2_with fail
      refine HF.out.mono ?_
      rintro e w1 ⟨b, rfl, hrd, hb1, hb⟩
      have HN := Lib.hid (number_any l b p v w1 hrd)
      rw [HU.out] at HN
      clear hrd HF
      go_wp2_with fail
      refine HN.out.mono ?_
      rintro e w2 ⟨q, hrd, hch, rfl, rfl⟩
      have HB := Lib.hid (Below.trans hb1 (hch.below hb hb1.size))
      clear hrd hch hb1 HN
      go_wp2_with fail
      go_ret3
      exact bytes_err HB.out
    · obtain ⟨M, rfl⟩ : ∃ M : Nat, most = M := ⟨most.toNat, by omega⟩
      have hMb : M ≤ 1000000 := by omega
      have HR := Lib.hid (rat_go (M := M) hp hu)
      clear hu h5 hmb
      go_enter Tryd.func41, Tryd.ntmps41
      go_wp2_with fail
      refine HF.out.mono ?_
      rintro e w1 ⟨b, rfl, hrd, hb1, hb⟩
      have HN := Lib.hid (number_any l b p v w1 hrd)
      rw [HU.out] at HN
      have HB1 := Lib.hid (And.intro hb1 hrd.lt)
      clear hrd HF hb1
      go_wp2_with fail
      refine HN.out.mono ?_
      rintro e w2 ⟨q, hrd, hch, rfl, rfl⟩
      have HB2 := Lib.hid (And.intro hrd hch)
      clear hrd hch HN
      go_wp2_with fail
      go_loopw [11, 12, 13] (fun c g lp wr => ∃ (m : Nat) (done : List (Nat × UInt8)) (pp : Nat), c = .int .u64 (m : Int) ∧ m ≤ n ∧ Rd wr b v l pp ∧ Hid (LastP b wr lp (lastv none done)) ∧ Hid (RLeft l M n (p + k) done m pp) ∧ wr.ownsRow w1.heap.size 5 1 g (flat done).length ((flat done).map u8v) ∧ Below w.heap.size w wr ∧ w1.heap.size ≤ wr.heap.size) (fun c _ _ _ => (intOf c).toNat)
      case atStart => exact ⟨n, [], p + k, rfl, Nat.le_refl _, HB2.out.1, rfl, ⟨(pre_nil _).symm, Nat.zero_le _⟩, World.ownsRow_nil _ _ _ _, Below.trans HB1.out.1 (HB2.out.2.below hb HB1.out.1.size), HB2.out.2.size⟩
      case round =>
        obtain ⟨m, done, pp, rfl, hj, hrd, HLP, HL, hown, hbel, hsz⟩ := hrel
        have hppl := hrd.hp
        have hdl := HL.out.2
        have HO := Lib.hid hown
        have HBL := Lib.hid hbel
        obtain ⟨ag, cg, rfl⟩ := own_sh hown
        clear hown hbel
        rcases Nat.eq_zero_or_pos m with rfl | hmp
        · have hc1 := hrd.c1
          have hres := HR.out
          rw [rleft_end HL.out] at hres
          have HRes := Lib.hid hres
          clear hres hrd
          go_wp2_with fail
          go_quiet (fail)
          go_wp2_with fail
          go_ret3
          rw [HRes.out]
          exact ⟨_, rfl, ownsRow_mono (ownsRow_ext HO.out (below_drewN (Below.refl _ _) _)) HB1.out.1.size, below_drewN HBL.out _⟩
        · obtain ⟨m', rfl⟩ : ∃ m', m = m' + 1 := ⟨m - 1, by omega⟩
          have hs := run_any l b pp (M - (flat done).length) v u13 (lastv none done) wr hrd HLP.out hl (by omega)
          rw [Int.ofNat_sub hdl] at hs
          have HS := Lib.hid hs
          obtain ⟨fl, hfl⟩ : ∃ fl, fl = (flat done).length := ⟨_, rfl⟩
          clear hs hrd
          cases hus : run1 l (lastv none done) (M - (flat done).length) pp with
          | error er =>
            rw [hus] at HS
            have hres := HR.out
            rw [rleft_err HL.out hus] at hres
            have HRes := Lib.hid hres
            have he := run1_err hus
            clear hus hres
            go_wp2_with fail
            refine HS.out.mono ?_
            rintro e w3 ⟨q, hrd, hch, rfl⟩
            have HB3 := Lib.hid (Below.trans HBL.out (hch.below hb HBL.out.size))
            clear hrd hch HS
            go_wp2_with fail
            go_ret3
            rw [HRes.out]
            exact bytes_err (HB3.out.alloc HB3.out.size _)
          | ok r =>
            obtain ⟨⟨x, c⟩, kk⟩ := r
            rw [hus] at HS
            obtain ⟨hn1, hn2, hn3⟩ := rleft_next HL.out hus
            simp only at hn2 hn3
            have HN := Lib.hid hn1
            clear hus hn1
            go_wp2_with fail
            refine HS.out.mono ?_
            rintro e w3 ⟨q, hrd, hch, rfl, rfl⟩
            have HRB := Lib.hid (rep_box w3 x c hn3 (by omega))
            have HR3 := Lib.hid hrd
            have HC3 := Lib.hid hch
            have HB3 := Lib.hid (Below.trans HBL.out (hch.below hb HBL.out.size))
            have hsz3 : w1.heap.size ≤ w3.heap.size := Nat.le_trans hsz hch.size
            clear hrd hch HS
            go_wp2_with fail
            refine HRB.out.mono ?_
            rintro e w4 ⟨y, rfl, hy, hb4, hx4, hlt4⟩
            have hr := hy.raw (fun _ => rfl)
            have hown4 := ownsRow_ext (own_ch HO.out HC3.out HB1.out.2) hb4
            have hlen : (List.replicate x c).length = x := List.length_replicate
            rw [hlen] at hr
            have hsz4 : w1.heap.size ≤ w4.heap.size := by omega
            have h63 : (flat done).length + x ≤ maxLen := by unfold maxLen; omega
            have hby : ((flat done).length + x) * 1 ≤ 140737488355328 := by omega
            obtain ⟨ya, yc, rfl⟩ := hy.shape
            rw [hlen] at hr ⊢
            have HX4 := Lib.hid (And.intro hb4 (And.intro hx4 hlt4))
            have HOL := Lib.hid (World.ownsRow.lt (own_ch HO.out HC3.out HB1.out.2))
            clear hy hlen HRB hb4 hx4 hlt4
            go_wp2_with (at_builtin; refine wpList_append_raw rfl _ _ _ rfl tyU8 w1.heap.size hown4 rfl hr rfl h63 hby hsz4 ?_; intro v2 w5 hown5 hg)
            go_roundw
            case rel =>
              have hb5 : Below w1.heap.size w3 w5 := (HX4.out.1.mono hsz3).grown hg hsz4 (fun k hk => (World.ownsRow.lt hown4 k hk).1)
              have hbel5 : Below w.heap.size w w5 := Below.trans HB3.out (hb5.mono HB1.out.1.size)
              refine ⟨m', done ++ [(x, c)], pp + kk, by go_num, by omega, HR3.out.far hb5 HB1.out.2 (hv.below hbel5), ?_, HN.out, ?_, hbel5, Nat.le_trans hsz4 hg.size⟩
              · show LastP _ _ _ _
                rw [lastv_snoc]
                refine ⟨w3.heap.size, rfl, Nat.lt_of_lt_of_le HX4.out.2.2 hg.size, by have := HR3.out.lt; omega, ?_⟩
                rw [World.cell?_of_block (hg.block w3.heap.size HX4.out.2.2 (fun e => by have := (HOL.out _ e.symm).2; omega))]
                exact HX4.out.2.1
              · rw [flat_snoc, List.length_append, List.map_append, List.length_replicate]; exact hown5
            case measure => simp [intOf]
end Go.Proofs.YtnenbmbgmmeiaaaDoor
/- Walks of the reference of chapter 06: run. -/
namespace Go.Proofs.YtnenbmbgmmeiaaaDoor
open Go.RowKit En
variable {α : Type}

/-- Reading a run's length and byte. -/
def run0 (l : List UInt8) (p : Nat) : Except Nat ((Nat × UInt8) × Nat) :=
  match usc 9 (l.drop p) with
  | .error e => .error e
  | .ok (u, k) => if l.length ≤ p + k then .error 4 else .ok ((u, l.getD (p + k) 0), p + k + 1)
def rtup : Except Nat ((Nat × UInt8) × Nat) → Value
  | .ok (x, q) => .tuple #[.int .u64 (x.1 : Int), u8v x.2, .int .i64 (q : Int), .int .i64 0]
  | .error e => .tuple #[.int .u64 0, .int .u8 0, .int .i64 0, .int .i64 (e : Int)]
theorem run0_e {l : List UInt8} {p e : Nat} (h : usc 9 (l.drop p) = .error e) : run0 l p = .error e := by unfold run0; rw [h]
theorem run0_4 {l : List UInt8} {p u k : Nat} (h : usc 9 (l.drop p) = .ok (u, k)) (h4 : l.length ≤ p + k) : run0 l p = .error 4 := by unfold run0; rw [h]; simp only; rw [if_pos h4]
theorem run0_0 {l : List UInt8} {p u k : Nat} (h : usc 9 (l.drop p) = .ok (u, k)) (h4 : p + k < l.length) : run0 l p = .ok ((u, l[p + k]), p + k + 1) := by
  unfold run0; rw [h]; simp only; rw [if_neg (by omega), List.getD_eq_getElem?_getD, List.getElem?_eq_getElem h4, Option.getD_some]
set_option maxRecDepth 100000 in
set_option maxHeartbeats 800000 in
theorem refRun_any (v : Value) (l : List UInt8) (p : Nat) (w : World) (hv : IsBytes w v l) (hp : p ≤ l.length) :
    Calls Tryd.prog 71 #[v, .int .i64 p] w fun e w' => e = .returned (rtup (run0 l p)) ∧ Ext w w' := by
  have hml := hv.len
  unfold maxLen at hml
  have HC := Lib.hid (refUvarint_any v l p w hv)
  have HV := Lib.hid hv
  obtain ⟨a, cap, rfl⟩ := hv.shape
  clear hv
  cases hu : usc 9 (l.drop p) with
  | error er =>
    rw [run0_e hu]
    rw [uat_err hp hu] at HC
    have he := err_pos hu
    clear hu
    go_enter Tryd.func71, Tryd.ntmps71
    go_wp2_with fail
    refine HC.out.mono ?_
    rintro e w1 ⟨rfl, rfl⟩
    go_wp2_with fail
    refine bodyPost_ret (v := .tuple #[.int .u64 0, .int .u8 0, .int .i64 0, .int .i64 (er : Int)]) (by simp [results, Tryd.results71, go_sem]) rfl ⟨rfl, Below.refl _ _⟩
  | ok r =>
    obtain ⟨u, k⟩ := r
    obtain ⟨hn64, hk1, hkl, hk10, -⟩ := usc_ok9 hu
    simp only [List.length_drop] at hkl
    rw [uat_ok hp hu] at HC
    by_cases h4 : l.length ≤ p + k
    · rw [run0_4 hu h4]
      obtain ⟨q, hq⟩ : ∃ q, q = p + k := ⟨_, rfl⟩
      rw [← hq] at HC h4
      have h4' : (q : Int) ≥ (l.length : Int) := by omega
      clear hu hq
      go_enter Tryd.func71, Tryd.ntmps71
      go_wp2_with fail
      refine HC.out.mono ?_
      rintro e w1 ⟨rfl, rfl⟩
      go_wp2_with fail
      refine bodyPost_ret (v := .tuple #[.int .u64 0, .int .u8 0, .int .i64 0, .int .i64 4]) (by simp [results, Tryd.results71, go_sem]) rfl ⟨rfl, Below.refl _ _⟩
    · have hlt : p + k < l.length := by omega
      rw [run0_0 hu hlt]
      obtain ⟨q, hq⟩ : ∃ q, q = p + k := ⟨_, rfl⟩
      simp only [← hq] at HC hlt ⊢
      obtain ⟨b, o, c, hsv, hbb, hlc, hm, hc⟩ := row_some HV.out rfl (by omega)
      simp only [Value.slice.injEq] at hsv
      obtain ⟨rfl, -, -⟩ := hsv
      have hc1 := hc q hlt
      obtain ⟨d, hd⟩ : ∃ d, l[q] = d := ⟨_, rfl⟩
      rw [hd] at hc1 ⊢
      have hlti : (q : Int) < (l.length : Int) := by omega
      have hnlt : ¬ (q : Int) ≥ (l.length : Int) := by omega
      clear hu hc hd h4 hq
      go_enter Tryd.func71, Tryd.ntmps71
      go_wp2_with fail
      refine HC.out.mono ?_
      rintro e w1 ⟨rfl, rfl⟩
      go_wp2_with fail
      go_quiet (fail)
      go_wp2_with fail
      refine bodyPost_ret (v := .tuple #[.int .u64 (u : Int), u8v d, .int .i64 ((q + 1 : Nat) : Int), .int .i64 0]) (by simp [results, Tryd.results71, go_sem]) rfl ⟨rfl, below_drewN (Below.refl _ _) _⟩
end Go.Proofs.YtnenbmbgmmeiaaaDoor
/- Walks of the reference of chapter 06: Runs. -/
namespace Go.Proofs.YtnenbmbgmmeiaaaDoor
open Go.RowKit En
variable {α : Type}
set_option linter.unusedVariables false

theorem run1_run0e {l : List UInt8} {last : Option UInt8} {room p e : Nat} (h : run0 l p = .error e) : run1 l last room p = .error e := by
  unfold run0 at h; unfold run1
  split at h
  · next he => cases h; rw [he]
  · next he =>
    rw [he]; simp only
    split at h
    · next h4 => cases h; rw [if_pos h4]
    · cases h
theorem run0_err {l : List UInt8} {p e : Nat} (h : run0 l p = .error e) : ((e : Int) != 0) = true := run1_err (last := none) (room := 0) (run1_run0e h)
theorem run1_run0 {l : List UInt8} {last : Option UInt8} {room p u q : Nat} {c : UInt8} (h : run0 l p = .ok ((u, c), q)) :
    run1 l last room p = (if u = 0 ∨ last = some c then .error 3 else if room < u then .error 5 else .ok ((u, c), q - p)) ∧ p ≤ q ∧ q ≤ l.length ∧ u < 18446744073709551616 := by
  unfold run0 at h; unfold run1
  split at h
  · cases h
  · next u' k he =>
    obtain ⟨hn64, hk1, hkl, hk10, -⟩ := usc_ok9 he
    simp only [List.length_drop] at hkl
    rw [he]; simp only
    split at h
    · cases h
    · next h4 =>
      cases h
      rw [if_neg h4, show p + k + 1 - p = k + 1 by omega]
      exact ⟨rfl, by omega, by omega, hn64⟩
theorem lastv_flat (R : List (Nat × UInt8)) (h : ∀ x ∈ R, 1 ≤ x.1) : lastv none R = (flat R).getLast? := by
  rcases List.eq_nil_or_concat R with rfl | ⟨S, x, rfl⟩
  · rfl
  · obtain ⟨n, c⟩ := x
    have hn := h (n, c) (by simp)
    obtain ⟨m, rfl⟩ : ∃ m, n = m + 1 := ⟨n - 1, by simp only at hn; omega⟩
    rw [List.concat_eq_append, lastv_snoc, flat_snoc]
    simp only [List.replicate_succ']
    rw [← List.append_assoc, List.getLast?_concat]

set_option maxRecDepth 100000 in
set_option maxHeartbeats 1600000 in
theorem refRuns_any (v : Value) (l : List UInt8) (i most : Int) (w : World) (hv : IsBytes w v l) (hl : l.length ≤ 1000000000) (hmb : most ≤ 1000000) :
    Calls Tryd.prog 42 #[v, .int .i64 i, .int .i64 most] w (BytesPost w (rat l i most)) := by
  have HC := Lib.hid (refUvarint_any v l i w hv)
  have HV := Lib.hid hv
  obtain ⟨a, cap, rfl⟩ := hv.shape
  clear hv
  by_cases hbad : i < 0 ∨ (l.length : Int) < i
  · rw [rat_bad hbad]
    rw [uat_bad hbad] at HC
    clear hbad
    go_enter Tryd.func42, Tryd.ntmps42
    go_wp2_with fail
    refine HC.out.mono ?_
    rintro e w1 ⟨rfl, rfl⟩
    go_wp2_with fail
    go_ret3
    exact bytes_err (Below.refl _ _)
  obtain ⟨p, rfl⟩ : ∃ p : Nat, i = p := ⟨i.toNat, by omega⟩
  have hp : p ≤ l.length := by omega
  clear hbad
  cases hu : usc 9 (l.drop p) with
  | error er =>
    rw [rat_err hp hu]
    rw [uat_err hp hu] at HC
    have he := err_pos hu
    clear hu
    go_enter Tryd.func42, Tryd.ntmps42
    go_wp2_with fail
    refine HC.out.mono ?_
    rintro e w1 ⟨rfl, rfl⟩
    go_wp2_with fail
    go_ret3
    exact bytes_err (Below.refl _ _)
  | ok r =>
    obtain ⟨n, k⟩ := r
    obtain ⟨hn64, hk1, hkl, hk10, -⟩ := usc_ok9 hu
    simp only [List.length_drop] at hkl
    rw [uat_ok hp hu] at HC
    by_cases h5 : most < 0
    · rw [rat_5 hp hu h5]
      clear hu
      go_enter Tryd.func42, Tryd.ntmps42
      go_wp2_with fail
      refine HC.out.mono ?_
      rintro e w1 ⟨rfl, rfl⟩
      go_wp2_with fail
      go_ret3
      exact bytes_err (Below.refl _ _)
    · obtain ⟨M, rfl⟩ : ∃ M : Nat, most = M := ⟨most.toNat, by omega⟩
      have hMb : M ≤ 1000000 := by omega
      have HR := Lib.hid (rat_go (M := M) hp hu)
      clear hu h5 hmb
      go_enter Tryd.func42, Tryd.ntmps42
      go_wp2_with fail
      refine HC.out.mono ?_
      rintro e w1 ⟨rfl, rfl⟩
      go_wp2_with fail
      go_loopw [10, 12, 13] (fun px g i wr => ∃ (m : Nat) (done : List (Nat × UInt8)) (pp : Nat), i = .int .u64 ((n - m : Nat) : Int) ∧ m ≤ n ∧ px = .int .i64 (pp : Int) ∧ pp ≤ l.length ∧ Hid (RLeft l M n (p + k) done m pp ∧ ∀ x ∈ done, 1 ≤ x.1) ∧ wr.ownsRow w.heap.size 5 1 g (flat done).length ((flat done).map u8v) ∧ Ext w wr) (fun _ _ i _ => n - (intOf i).toNat)
      case atStart => exact ⟨n, [], p + k, by rw [Nat.sub_self]; rfl, Nat.le_refl _, val_i64 (by omega), by omega, ⟨⟨(pre_nil _).symm, Nat.zero_le _⟩, by simp⟩, World.ownsRow_lit w #[] 0 (Nat.le_refl _) (Nat.zero_le _) rfl, below_alloc _ _⟩
      case round =>
        obtain ⟨m, done, pp, rfl, hm, rfl, hpp, HL, hown, hbel⟩ := hrel
        obtain ⟨ii, hii⟩ : ∃ ii, n - m = ii := ⟨_, rfl⟩
        rw [hii]
        have hiin : ii + m = n := by omega
        have HI := Lib.hid hii
        have hdl := HL.out.1.2
        obtain ⟨S, hS⟩ : ∃ S, flat done = S := ⟨_, rfl⟩
        rw [hS] at hown hdl
        have HS0 := Lib.hid hS
        clear hS hii
        rcases Nat.eq_zero_or_pos m with rfl | hmp
        · have hres := HR.out
          rw [rleft_end HL.out.1] at hres
          have HRes := Lib.hid hres
          have HO := Lib.hid hown
          obtain ⟨ag, cg, rfl⟩ := own_sh hown
          obtain rfl : ii = n := by omega
          clear hres hown hiin hm
          go_wp2_with fail
          go_ret3
          rw [HRes.out]
          refine ⟨_, rfl, ?_, hbel⟩
          show World.ownsRow _ _ _ _ _ (flat done).length ((flat done).map u8v)
          rw [HS0.out]
          exact HO.out
        · obtain ⟨m', rfl⟩ : ∃ m', m = m' + 1 := ⟨m - 1, by omega⟩
          have hlt : ii < n := by omega
          have HIN := Lib.hid hiin
          have hs := refRun_any (.slice a l.length cap) l pp wr (HV.out.below hbel) hpp
          have HBL := Lib.hid hbel
          have HO := Lib.hid hown
          clear hbel
          cases hus : run0 l pp with
          | error er =>
            rw [hus] at hs
            simp only [rtup] at hs
            have HS := Lib.hid hs
            have he := run0_err hus
            have hres := HR.out
            rw [rleft_err HL.out.1 (run1_run0e hus)] at hres
            have HRes := Lib.hid hres
            clear hus hres hs hown hiin hm
            go_wp2_with fail
            refine HS.out.mono ?_
            rintro e w3 ⟨rfl, hb3⟩
            have HB3 := Lib.hid hb3
            clear hb3 HS
            go_wp2_with fail
            go_ret3
            rw [HRes.out]
            exact bytes_err (Ext.trans' HBL.out HB3.out)
          | ok r =>
            obtain ⟨⟨u, c⟩, q⟩ := r
            rw [hus] at hs
            simp only [rtup] at hs
            have HS := Lib.hid hs
            obtain ⟨hr1, hpq, hql, hu64⟩ := run1_run0 (last := lastv none done) (room := M - (flat done).length) hus
            have hlv := lastv_flat done HL.out.2
            rw [HS0.out] at hr1 hlv
            rw [hlv] at hr1
            have HLB := Lib.hid HL.out.1
            clear hus hs hlv
            have e3 : (u = 0 ∨ S.getLast? = some c) → rsc l (M : Int) n none 0 (p + k) = .error 3 := fun h => by
              rw [if_pos h] at hr1
              rw [← HS0.out] at hr1
              exact rleft_err HLB.out (by rw [lastv_flat done HL.out.2]; exact hr1)
            have e5 : ¬ (u = 0 ∨ S.getLast? = some c) → M - S.length < u → rsc l (M : Int) n none 0 (p + k) = .error 5 := fun h h' => by
              rw [if_neg h, if_pos h'] at hr1
              rw [← HS0.out] at hr1
              exact rleft_err HLB.out (by rw [lastv_flat done HL.out.2]; exact hr1)
            have e0 : ¬ (u = 0 ∨ S.getLast? = some c) → ¬ M - S.length < u → RLeft l M n (p + k) (done ++ [(u, c)]) m' q ∧ S.length + u ≤ M ∧ 1 ≤ u := fun h h' => by
              rw [if_neg h, if_neg h'] at hr1
              rw [← HS0.out] at hr1
              have := rleft_next HLB.out (by rw [lastv_flat done HL.out.2]; exact hr1)
              rw [HS0.out] at this
              rw [show pp + (q - pp) = q by omega] at this
              exact this
            have E3 := Lib.hid e3
            have E5 := Lib.hid e5
            have E0 := Lib.hid e0
            clear e3 e5 e0 hr1 hiin hm hpq
            by_cases hu0 : u = 0
            · subst hu0
              have hres := HR.out
              rw [E3.out (.inl rfl)] at hres
              have HRes := Lib.hid hres
              clear hres hown
              go_wp2_with fail
              refine HS.out.mono ?_
              rintro e w3 ⟨rfl, hb3⟩
              have HB3 := Lib.hid hb3
              clear hb3 HS
              go_wp2_with fail
              go_ret3
              rw [HRes.out]
              exact bytes_err (Ext.trans' HBL.out HB3.out)
            · have HU0 := Lib.hid hu0
              have huz : ¬ (u : Int) = 0 := by omega
              rcases Nat.eq_zero_or_pos S.length with h0 | h0
              · obtain rfl : S = [] := List.eq_nil_of_length_eq_zero h0
                clear hu0 h0
                have hno : ¬ (u = 0 ∨ ([] : List UInt8).getLast? = some c) := by simp [HU0.out]
                have HNO := Lib.hid hno
                clear hno
                obtain ⟨ag, cg, rfl⟩ := own_sh hown
                clear hown
                by_cases h5 : M < u
                · have h5' : (M : Int) < (u : Int) := by omega
                  have hres := HR.out
                  rw [E5.out HNO.out (by simpa using h5)] at hres
                  have HRes := Lib.hid hres
                  clear hres h5
                  go_wp2_with fail
                  refine HS.out.mono ?_
                  rintro e w3 ⟨rfl, hb3⟩
                  have HB3 := Lib.hid hb3
                  clear hb3 HS
                  go_wp2_with fail
                  go_ret3
                  rw [HRes.out]
                  exact bytes_err (Ext.trans' HBL.out HB3.out)
                · have h5' : ¬ (M : Int) < (u : Int) := by omega
                  have HE := Lib.hid (E0.out HNO.out (by simpa using h5))
                  clear h5
                  go_wp2_with fail
                  refine HS.out.mono ?_
                  rintro e w3 ⟨rfl, hb3⟩
                  have HB3 := Lib.hid hb3
                  clear hb3 HS
                  go_wp2_with fail
                  have t1 : ((u : Int) == 0) = false := by rw [beq_eq_false_iff_ne]; omega
                  have t2 : decide (M < u) = false := by rw [decide_eq_false_iff_not]; omega
                  simp only [t1, t2]
                  clear h5' huz t1 t2
                  go_loopw [12, 18] (fun g kk wi => ∃ (j len : Nat), kk = .int .u64 (j : Int) ∧ j ≤ u ∧ Hid (len = ([] : List UInt8).length + j) ∧ wi.ownsRow w.heap.size 5 1 g len ((([] : List UInt8) ++ List.replicate j c).map u8v) ∧ Ext w wi) (fun _ kk _ => u - (intOf kk).toNat)
                  case atStart => exact ⟨0, ([] : List UInt8).length, rfl, Nat.zero_le _, rfl, by simpa using ownsRow_ext HO.out HB3.out, Ext.trans' HBL.out HB3.out⟩
                  case round =>
                    obtain ⟨j, len, rfl, hj, HLEN, hown2, hbel2⟩ := hrel
                    have hlen2 : len ≤ 10000000 := by
                      have q1 := HLEN.out
                      have q2 := HE.out.2.1
                      repeat rw [List.length_append] at q1
                      repeat rw [List.length_cons] at q1
                      repeat rw [List.length_nil] at q1
                      repeat rw [List.length_append] at q2
                      repeat rw [List.length_cons] at q2
                      repeat rw [List.length_nil] at q2
                      omega
                    obtain ⟨ag2, cg2, rfl⟩ := own_sh hown2
                    by_cases hju : j < u
                    · have hr := raw_one wr (u8v c) 5 rfl
                      have hown4 := hown2.alloc (.cells #[u8v c] 5)
                      have hsz : w.heap.size ≤ wr.heap.size := hbel2.size
                      have hsz4 : w.heap.size ≤ (wr.alloc (.cells #[u8v c] 5)).heap.size := by simp; omega
                      have h63 : len + 1 ≤ maxLen := by unfold maxLen; omega
                      have hby : (len + 1) * 1 ≤ 140737488355328 := by omega
                      clear hown2
                      go_wp2_with (at_builtin; refine wpList_append_raw rfl _ _ _ rfl tyU8 w.heap.size hown4 rfl hr rfl h63 hby hsz4 ?_; intro v2 w4 hown5 hg)
                      go_roundw
                      case rel =>
                        refine ⟨j + 1, len + 1, by go_num, by omega, by show _ = _; have := HLEN.out; omega, ?_, (hbel2.alloc hsz _).grown hg hsz4 (fun k hk => (World.ownsRow.lt hown4 k hk).1)⟩
                        rw [List.replicate_succ', ← List.append_assoc, List.map_append]; exact hown5
                      case measure => simp [intOf]; omega
                    · obtain rfl : j = u := by omega
                      have HO2 := Lib.hid hown2
                      have HLT := Lib.hid hlt
                      clear hown2
                      go_wp2_with fail
                      go_roundw
                      case rel =>
                        refine ⟨m', done ++ [(j, c)], q, by have := HIN.out; go_num, by have := HIN.out; omega, rfl, hql, ⟨HE.out.1, ?_⟩, ?_, hbel2⟩
                        · intro x hx
                          rcases List.mem_append.1 hx with h | h
                          · exact HL.out.2 x h
                          · rw [List.mem_singleton] at h; rw [h]; exact HE.out.2.2
                        · rw [flat_snoc, HS0.out]
                          rw [List.length_append, List.length_replicate]
                          have e : len = _ := HLEN.out
                          rw [← e]
                          exact HO2.out
                      case measure => have := HIN.out; simp [intOf]; omega
              · obtain ⟨g, cg, rfl, hg1, hg2, hg3⟩ := own_shape hown h0
                obtain ⟨S', d, rfl⟩ : ∃ S' d, S = S' ++ [d] := by
                  rcases List.eq_nil_or_concat S with rfl | ⟨S', d, rfl⟩
                  · simp at h0
                  · exact ⟨S', d, List.concat_eq_append⟩
                have hc0 := hown.cellAt S'.length (by simp)
                rw [List.map_append, List.getElem?_append_right (by simp)] at hc0
                simp only [List.length_map, Nat.sub_self, List.map_cons, List.map_nil, List.getElem?_cons_zero] at hc0
                have HC0 := Lib.hid hc0
                have HSL : Hid ((S' ++ [d]).length = S'.length + 1) := by show _ = _; simp
                have hSl := HSL.out
                have hdl' : S'.length + 1 ≤ M := by omega
                have hgs := (World.ownsRow.lt hown g rfl).2
                clear hu0 h0 hown hc0 hg1 hg2 hg3 hdl hSl
                simp only [List.length_append, List.length_cons, List.length_nil, Nat.zero_add] at *
                by_cases hdc : d = c
                · subst hdc
                  have hres := HR.out
                  rw [E3.out (.inr (by simp))] at hres
                  have HRes := Lib.hid hres
                  clear hres
                  go_wp2_with fail
                  refine HS.out.mono ?_
                  rintro e w3 ⟨rfl, hb3⟩
                  have hc3 : w3.cell? ⟨g, S'.length, none⟩ = some (u8v d) := by rw [hb3.cell (p := ⟨g, S'.length, none⟩) hgs]; exact HC0.out
                  have HB3 := Lib.hid hb3
                  clear hb3 HS
                  go_wp2_with fail
                  go_ret3
                  rw [HRes.out]
                  exact bytes_err (Ext.trans' HBL.out HB3.out)
                · have HNO : Hid (¬ (u = 0 ∨ (S' ++ [d]).getLast? = some c)) := by
                    show ¬ _
                    rw [List.getLast?_concat]
                    intro h
                    rcases h with h | h
                    · exact HU0.out h
                    · exact hdc (Option.some.inj h)
                  have hne : ((d.toNat : Int) == (c.toNat : Int)) = false := by rw [beq_eq_false_iff_ne]; intro e; exact hdc (UInt8.toNat_inj.1 (by omega))
                  clear hdc
                  by_cases h5 : M - (S'.length + 1) < u
                  · have h5' : (M : Int) - ((S'.length : Int) + 1) < (u : Int) := by omega
                    have hres := HR.out
                    rw [E5.out HNO.out (by simpa using h5)] at hres
                    have HRes := Lib.hid hres
                    clear hres h5
                    go_wp2_with fail
                    refine HS.out.mono ?_
                    rintro e w3 ⟨rfl, hb3⟩
                    have hc3 : w3.cell? ⟨g, S'.length, none⟩ = some (u8v d) := by rw [hb3.cell (p := ⟨g, S'.length, none⟩) hgs]; exact HC0.out
                    have HB3 := Lib.hid hb3
                    clear hb3 HS
                    go_wp2_with fail
                    go_ret3
                    rw [HRes.out]
                    exact bytes_err (Ext.trans' HBL.out HB3.out)
                  · have h5' : ¬ (M : Int) - ((S'.length : Int) + 1) < (u : Int) := by omega
                    have HE := Lib.hid (E0.out HNO.out (by simpa using h5))
                    clear h5
                    go_wp2_with fail
                    refine HS.out.mono ?_
                    rintro e w3 ⟨rfl, hb3⟩
                    have hc3 : w3.cell? ⟨g, S'.length, none⟩ = some (u8v d) := by rw [hb3.cell (p := ⟨g, S'.length, none⟩) hgs]; exact HC0.out
                    have HB3 := Lib.hid hb3
                    clear hb3 HS
                    go_wp2_with fail
                    have t1 : ((u : Int) == 0) = false := by rw [beq_eq_false_iff_ne]; omega
                    have t2 : decide (M - (S'.length + 1) < u) = false := by rw [decide_eq_false_iff_not]; omega
                    have t3 : decide ((M : Int) - ((S'.length : Int) + 1) < (u : Int)) = false := by rw [decide_eq_false_iff_not]; omega
                    try simp only [t1, t3]
                    clear h5' huz t1 t2
                    clear hne t3
                    go_loopw [12, 18] (fun g kk wi => ∃ (j len : Nat), kk = .int .u64 (j : Int) ∧ j ≤ u ∧ Hid (len = (S' ++ [d]).length + j) ∧ wi.ownsRow w.heap.size 5 1 g len (((S' ++ [d]) ++ List.replicate j c).map u8v) ∧ Ext w wi) (fun _ kk _ => u - (intOf kk).toNat)
                    case atStart => exact ⟨0, (S' ++ [d]).length, rfl, Nat.zero_le _, rfl, by simpa using ownsRow_ext HO.out HB3.out, Ext.trans' HBL.out HB3.out⟩
                    case round =>
                      obtain ⟨j, len, rfl, hj, HLEN, hown2, hbel2⟩ := hrel
                      have hlen2 : len ≤ 10000000 := by
                        have q1 := HLEN.out
                        have q2 := HE.out.2.1
                        repeat rw [List.length_append] at q1
                        repeat rw [List.length_cons] at q1
                        repeat rw [List.length_nil] at q1
                        repeat rw [List.length_append] at q2
                        repeat rw [List.length_cons] at q2
                        repeat rw [List.length_nil] at q2
                        omega
                      obtain ⟨ag2, cg2, rfl⟩ := own_sh hown2
                      by_cases hju : j < u
                      · have hr := raw_one wr (u8v c) 5 rfl
                        have hown4 := hown2.alloc (.cells #[u8v c] 5)
                        have hsz : w.heap.size ≤ wr.heap.size := hbel2.size
                        have hsz4 : w.heap.size ≤ (wr.alloc (.cells #[u8v c] 5)).heap.size := by simp; omega
                        have h63 : len + 1 ≤ maxLen := by unfold maxLen; omega
                        have hby : (len + 1) * 1 ≤ 140737488355328 := by omega
                        clear hown2
                        go_wp2_with (at_builtin; refine wpList_append_raw rfl _ _ _ rfl tyU8 w.heap.size hown4 rfl hr rfl h63 hby hsz4 ?_; intro v2 w4 hown5 hg)
                        go_roundw
                        case rel =>
                          refine ⟨j + 1, len + 1, by go_num, by omega, by show _ = _; have := HLEN.out; omega, ?_, (hbel2.alloc hsz _).grown hg hsz4 (fun k hk => (World.ownsRow.lt hown4 k hk).1)⟩
                          rw [List.replicate_succ', ← List.append_assoc, List.map_append]; exact hown5
                        case measure => simp [intOf]; omega
                      · obtain rfl : j = u := by omega
                        have HO2 := Lib.hid hown2
                        have HLT := Lib.hid hlt
                        clear hown2
                        go_wp2_with fail
                        go_roundw
                        case rel =>
                          refine ⟨m', done ++ [(j, c)], q, by have := HIN.out; go_num, by have := HIN.out; omega, rfl, hql, ⟨HE.out.1, ?_⟩, ?_, hbel2⟩
                          · intro x hx
                            rcases List.mem_append.1 hx with h | h
                            · exact HL.out.2 x h
                            · rw [List.mem_singleton] at h; rw [h]; exact HE.out.2.2
                          · rw [flat_snoc, HS0.out]
                            rw [List.length_append, List.length_replicate]
                            have e : len = _ := HLEN.out
                            rw [← e]
                            exact HO2.out
                        case measure => have := HIN.out; simp [intOf]; omega
end Go.Proofs.YtnenbmbgmmeiaaaDoor
/- Walks of law 06: isEncoding. -/
namespace Go.Proofs.YtnenbmbgmmeiaaaDoor
open Go.RowKit En
variable {α : Type}
set_option linter.unusedVariables false

set_option maxRecDepth 100000 in
set_option maxHeartbeats 800000 in
theorem isEncoding_any (v u : Value) (l : List UInt8) (p q : Nat) (w : World) (hv : IsBytes w v l) (hpq : p < q) (hq : q ≤ l.length) (hu : IsBytes w u ((l.take q).drop p)) :
    Calls Tryd.prog 39 #[v, .int .i64 p, .int .i64 q, u] w fun e w' => e = .returned (.bool true) ∧ Ext w w' := by
  obtain ⟨b, o, cap, rfl, hb, hl, hm, hc⟩ := row_some hv rfl (by omega)
  have hz : (l.take q).length = q := by simp; omega
  have hr : IsBytes w (.slice (some ⟨b, o + p, none⟩) (q - p) (cap - p)) ((l.take q).drop p) := by
    have := row_drop (f := u8v) (n := p) hb (by rw [hz]; omega) hm (l := l.take q) (fun i hi => by rw [hc i (by rw [hz] at hi; omega)]; simp)
    rw [hz] at this
    exact this
  have HS := Lib.hid (same06 u (.slice (some ⟨b, o + p, none⟩) (q - p) (cap - p)) _ _ w hu hr)
  rw [beq_self_eq_true] at HS
  have k1 : (p : Int) ≤ (q : Int) := by omega
  have k2 : (q : Int) ≤ (l.length : Int) := by omega
  have k3 : (0 : Int) ≤ (p : Int) := by omega
  have k4 : q ≤ cap := by omega
  have k5 : p ≤ q := by omega
  clear hv hu hc hr hz
  go_enter Tryd.func39, Tryd.ntmps39
  go_wp2_with fail
  refine HS.out.mono ?_
  rintro e w1 ⟨rfl, hb1⟩
  go_wp2_with fail
  go_ret
  exact ⟨rfl, hb1⟩
end Go.Proofs.YtnenbmbgmmeiaaaDoor
