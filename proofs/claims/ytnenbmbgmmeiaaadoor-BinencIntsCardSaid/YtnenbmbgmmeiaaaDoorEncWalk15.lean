/- Walks of chapter 06: some, Bytes, the reference's PutBytes and Bytes. -/
import Derived.Test.YtnenbmbgmmeiaaaDoorEncWalk14
namespace Go.Proofs.YtnenbmbgmmeiaaaDoor
open Go.RowKit En
variable {α : Type}

set_option maxHeartbeats 400000 in
theorem clone8 (v : Value) (l : List UInt8) (w : World) (hv : IsBytes w v l) (hlen : l.length ≤ 1000000000) :
    Calls Tryd.prog 73 #[v] w fun e w' => ∃ v', e = .returned v' ∧ OwnB w.heap.size w' v' l ∧ Ext w w' := by
  have hr := hv.raw (fun _ => rfl)
  obtain ⟨a, cap, rfl, hm, ha⟩ := hv
  rcases a with _ | ad
  · have hz : l = [] ∧ cap = 0 := by
      rcases ha with ⟨h, h0⟩ | ⟨b, o, h, _⟩
      · exact ⟨h, h0 rfl⟩
      · cases h
    obtain ⟨rfl, rfl⟩ := hz
    have hnil := Lib.run_eql_slice_nil (P := Tryd.prog) w 23 5 none 0 0 0 0 Tryd.underlying23
    clear ha hr
    go_enter Tryd.func73, Tryd.ntmps73
    go_wp2
    go_ret
    exact ⟨_, rfl, World.ownsRow_nil _ _ _ _, Below.refl _ _⟩
  · have hnil := Lib.run_eql_slice_nil (P := Tryd.prog) w 23 5 (some ad) l.length cap 0 0 Tryd.underlying23
    have hown := World.ownsRow_lit (base := w.heap.size) (e := 5) (size := 1) w #[] 0 (Nat.le_refl _) (Nat.zero_le _) rfl
    have hr := raw_alloc hr (.cells #[] 5)
    have h63 : 0 + l.length ≤ maxLen := by unfold maxLen; omega
    have hby : (0 + l.length) * 1 ≤ 140737488355328 := by omega
    clear ha
    go_enter Tryd.func73, Tryd.ntmps73
    go_wp2_with (at_builtin; refine wpList_append_raw rfl _ _ _ rfl tyU8 w.heap.size hown rfl hr rfl h63 hby (by simp) ?_; intro v' w' hown' hg)
    go_ret
    simp only [Nat.zero_add, List.nil_append] at hown'
    exact ⟨_, rfl, by simpa [OwnB] using hown', ((Below.refl _ _).alloc (Nat.le_refl _) _).grown hg (by simp) (by simp [Value.ownBlock])⟩

def SomePost (w : World) (b : Nat) (v : Value) (l : List UInt8) (p : Nat) (r : Except Nat (List UInt8 × Nat)) (e : Ending) (w' : World) : Prop :=
  ∃ q, Rd w' b v l q ∧ Ch b w w' ∧ (match r with
    | .ok (s, k) => q = p + k ∧ ∃ x, e = .returned (.tuple #[x, .int .i64 0]) ∧ OwnB w.heap.size w' x s
    | .error er => e = .returned (.tuple #[.slice none 0 0, .int .i64 (er : Int)]))
theorem bsc_err {most : Int} {l : List UInt8} {e : Nat} (h : usc 9 l = .error e) : bsc most l = .error e := by unfold bsc; rw [h]
theorem bsc_5 {most : Int} {l : List UInt8} {n k : Nat} (h : usc 9 l = .ok (n, k)) (h5 : most < 0 ∨ most < (n : Int)) : bsc most l = .error 5 := by unfold bsc; rw [h]; simp only; rw [if_pos h5]
theorem bsc_4 {most : Int} {l : List UInt8} {n k : Nat} (h : usc 9 l = .ok (n, k)) (h5 : ¬ (most < 0 ∨ most < (n : Int))) (h4 : l.length - k < n) : bsc most l = .error 4 := by
  unfold bsc; rw [h]; simp only; rw [if_neg h5, if_pos h4]
theorem bsc_0 {most : Int} {l : List UInt8} {n k : Nat} (h : usc 9 l = .ok (n, k)) (h5 : ¬ (most < 0 ∨ most < (n : Int))) (h4 : ¬ l.length - k < n) : bsc most l = .ok ((l.drop k).take n, k + n) := by
  unfold bsc; rw [h]; simp only; rw [if_neg h5, if_neg h4]

set_option maxRecDepth 100000 in
set_option maxHeartbeats 800000 in
theorem some_any (l : List UInt8) (b p : Nat) (v : Value) (most : Int) (w : World) (h : Rd w b v l p) (hl : l.length ≤ 1000000000) (hmb : most ≤ 9223372036854775807) :
    Calls Tryd.prog 47 #[.pointer (some ⟨b, 0, none⟩), .int .i64 most] w (SomePost w b v l p (bsc most (l.drop p))) := by
  have HN := Lib.hid (number_any l b p v w h)
  have hpl := h.hp
  cases hu : usc 9 (l.drop p) with
  | error er =>
    rw [bsc_err hu]
    rw [hu] at HN
    have he := err_pos hu
    clear hu h
    go_enter Tryd.func47, Tryd.ntmps47
    go_wp2_with fail
    refine HN.out.mono ?_
    rintro e w1 ⟨q, hrd, hch, rfl⟩
    have HR := Lib.hid hrd
    have HC := Lib.hid hch
    clear hrd hch HN
    go_wp2_with fail
    go_ret2
    exact ⟨q, HR.out, HC.out, rfl⟩
  | ok r =>
    obtain ⟨n, k⟩ := r
    obtain ⟨hn64, hk1, hkl, hk10, -⟩ := usc_ok9 hu
    simp only [List.length_drop] at hkl
    rw [hu] at HN
    clear h
    by_cases h5 : most < 0 ∨ most < (n : Int)
    · rw [bsc_5 hu h5]
      clear hu
      by_cases h0 : most < 0
      · clear h5
        go_enter Tryd.func47, Tryd.ntmps47
        go_wp2_with fail
        refine HN.out.mono ?_
        rintro e w1 ⟨q, hrd, hch, hq, rfl⟩
        have HR := Lib.hid hrd
        have HC := Lib.hid hch
        clear hrd hch HN hq
        go_wp2_with fail
        go_ret2
        exact ⟨q, HR.out, HC.out, rfl⟩
      · have h1 : most < (n : Int) := by omega
        clear h5
        go_enter Tryd.func47, Tryd.ntmps47
        go_wp2_with fail
        refine HN.out.mono ?_
        rintro e w1 ⟨q, hrd, hch, hq, rfl⟩
        have HR := Lib.hid hrd
        have HC := Lib.hid hch
        clear hrd hch HN hq
        go_wp2_with fail
        go_ret2
        exact ⟨q, HR.out, HC.out, rfl⟩
    · have h0 : 0 ≤ most := by omega
      have h1 : (n : Int) ≤ most := by omega
      by_cases h4 : (l.drop p).length - k < n
      · rw [bsc_4 hu h5 h4]
        have h4' : ((l.length - (p + k) : Nat) : Int) < (n : Int) := by simp at h4; omega
        clear hu h5 h4
        go_enter Tryd.func47, Tryd.ntmps47
        go_wp2_with fail
        refine HN.out.mono ?_
        rintro e w1 ⟨q, hrd, hch, rfl, rfl⟩
        have HL := Lib.hid (left_rd l b (p + k) v w1 hrd)
        have HC := Lib.hid hch
        clear hrd hch HN
        go_wp2_with fail
        refine HL.out.mono ?_
        rintro e w2 ⟨rfl, hrd, hch⟩
        have HR := Lib.hid hrd
        have HC2 := Lib.hid (Ch.trans HC.out hch)
        clear hrd hch HL
        go_wp2_with fail
        go_ret2
        exact ⟨_, HR.out, HC2.out, rfl⟩
      · rw [bsc_0 hu h5 h4]
        have h4' : ¬ ((l.length - (p + k) : Nat) : Int) < (n : Int) := by simp at h4; omega
        have hpk : p + k + n ≤ l.length := by simp at h4; omega
        clear hu h5 h4
        go_enter Tryd.func47, Tryd.ntmps47
        go_wp2_with fail
        refine HN.out.mono ?_
        rintro e w1 ⟨q, hrd, hch, rfl, rfl⟩
        have HL := Lib.hid (left_rd l b (p + k) v w1 hrd)
        have HC := Lib.hid hch
        clear hrd hch HN
        go_wp2_with fail
        refine HL.out.mono ?_
        rintro e w2 ⟨rfl, hrd, hch⟩
        have HX := Lib.hid (next_any l b (p + k) n v w2 hrd hpk (by omega))
        have HC2 := Lib.hid (Ch.trans HC.out hch)
        clear hrd hch HL
        go_wp2_with fail
        refine HX.out.mono ?_
        rintro e w3 ⟨x, rfl, hrd, hch, hrow, hoff⟩
        have HR := Lib.hid hrd
        have HC3 := Lib.hid (Ch.trans HC2.out hch)
        have hlen : ((l.drop (p + k)).take n).length ≤ 1000000000 := by simp; omega
        have HK := Lib.hid (clone8 x _ w3 hrow hlen)
        clear hrd hch hrow hoff HX
        go_wp2_with fail
        refine HK.out.mono ?_
        rintro e w4 ⟨y, rfl, ho, hb⟩
        have HO := Lib.hid ho
        have HB := Lib.hid hb
        clear ho hb HK
        go_wp2_with fail
        go_ret2
        refine ⟨p + k + n, HR.out.ext HB.out, Ch.trans HC3.out (Ch.of_ext HB.out), by omega, _, rfl, ?_⟩
        rw [List.drop_drop]
        exact ownsRow_mono HO.out HC3.out.size
end Go.Proofs.YtnenbmbgmmeiaaaDoor
