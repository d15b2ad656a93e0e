/- Walks of the reference of chapter 06: magnitude. -/
import Derived.Test.YtnenbmbgmmeiaaaDoorRefRat5
namespace Nb
theorem pow_B (q : Nat) : Na.B ^ q = 256 ^ (4 * q) := by rw [Nat.pow_mul]; rfl
theorem mag_step {A : List UInt32} {V q r c : Nat} (hA : A.length = q + 1) (hv : Na.val A = V) (hV : V < 256 ^ (4 * q + r)) (hr : r < 4) (hc : c < 256) :
    (A[q]'(by omega)).toNat + c * 256 ^ r < 4294967296 ∧ Na.val (A.set q (UInt32.ofNat ((A[q]'(by omega)).toNat + c * 256 ^ r))) = V + 256 ^ (4 * q + r) * c := by
  have h1 := Na.val_take_succ A q (by omega)
  rw [List.take_of_length_le (by omega), hv, pow_B] at h1
  have h2 : (A[q]'(by omega)).toNat < 256 ^ r := by
    have h3 : 256 ^ (4 * q) * (A[q]'(by omega)).toNat < 256 ^ (4 * q) * 256 ^ r := by rw [← Nat.pow_add]; omega
    exact Nat.lt_of_mul_lt_mul_left h3
  have h4 : (A[q]'(by omega)).toNat + c * 256 ^ r < 4294967296 := by
    have h5 : (c + 1) * 256 ^ r ≤ 256 * 256 ^ r := Nat.mul_le_mul_right _ hc
    have h6 : 256 * 256 ^ r ≤ 256 * 256 ^ 3 := Nat.mul_le_mul_left _ (Nat.pow_le_pow_right (by omega) (by omega))
    rw [Nat.add_mul] at h5
    omega
  refine ⟨h4, ?_⟩
  have h7 := Na.val_take_succ (A.set q (UInt32.ofNat ((A[q]'(by omega)).toNat + c * 256 ^ r))) q (by simp; omega)
  rw [List.take_of_length_le (by simp; omega), List.take_set_of_le (by omega), pow_B] at h7
  rw [h7, List.getElem_set_self]
  have e : (UInt32.ofNat ((A[q]'(by omega)).toNat + c * 256 ^ r)).toNat = (A[q]'(by omega)).toNat + c * 256 ^ r := by simp; omega
  rw [e, h1, Nat.mul_add, Nat.pow_add, Nat.mul_assoc, Nat.mul_comm c]
  omega
end Nb
namespace Go.Proofs.YtnenbmbgmmeiaaaDoor
open Go.RowKit
variable {α : Type}
set_option linter.unusedVariables false

set_option maxRecDepth 100000 in
set_option maxHeartbeats 1600000 in
theorem refMagnitude_any (v : Value) (s : List UInt8) (w : World) (hv : IsBytes w v s) (hl : s.length ≤ 1000000) :
    Calls Tryd.prog 56 #[v] w fun e w' => ∃ v', e = .returned v' ∧ IsU32s w' v' (Na.digs (Nb.val s)) ∧ From w.heap.size v' ∧ Ext w w' := by
  have HV := Lib.hid hv
  obtain ⟨a1, c1, rfl⟩ := hv.shape
  clear hv
  go_enter Tryd.func56, Tryd.ntmps56
  go_wp2_with fail
  go_loopw [3, 4] (fun g iv wr => ∃ (i : Nat) (A : List UInt32), iv = .int .i64 i ∧ i ≤ s.length ∧ A.length = (i + 3) / 4 ∧ Na.val A = Nb.val (s.take i) ∧ OwnU w.heap.size wr g A ∧ Ext w wr) (fun _ iv _ => s.length - (intOf iv).toNat)
  case atStart => exact ⟨0, [], rfl, Nat.zero_le _, rfl, rfl, World.ownsRow_lit w #[] 0 (Nat.le_refl _) (Nat.zero_le _) rfl, below_alloc _ _⟩
  case round =>
    obtain ⟨i, A, rfl, hi, hA, hval, hown, hbel⟩ := hrel
    have hsz : w.heap.size ≤ wr.heap.size := hbel.size
    by_cases hlt : i < s.length
    · obtain ⟨q, r, hqr, hr4⟩ : ∃ q r, i = 4 * q + r ∧ r < 4 := ⟨i / 4, i % 4, by omega, by omega⟩
      have hq : (i : Int) / 4 = (q : Int) := by omega
      obtain ⟨bx, ox, cx, hxs, hbx, hlx, hmx, hcx⟩ := row_some HV.out rfl (by omega)
      simp only [Value.slice.injEq] at hxs
      obtain ⟨rfl, -, -⟩ := hxs
      have hlb := Nb.val_lt (s.take i)
      rw [List.length_take, Nat.min_eq_left hi] at hlb
      have hsucc := Nb.val_take_succ s i hlt
      have hcell := hcx i hlt
      generalize s[i] = c at *
      have hcl := c.toNat_lt
      rw [← hval] at hsucc hlb
      have HS := Lib.hid hsucc
      rcases Nat.eq_zero_or_pos r with h0 | h0
      · -- a new digit
        subst h0
        obtain rfl : A.length = q := by omega
        have HA := Lib.hid hA
        have hm : ((i : Int) % 4 == 0) = true := by rw [beq_iff_eq]; omega
        have hm' : (i : Int) % 4 = 0 := by omega
        have hr := raw_one wr (u32v 0) 75 rfl
        have hown' := World.ownsRow.alloc hown (.cells #[u32v 0] 75)
        have hsz' : w.heap.size ≤ (wr.alloc (.cells #[u32v 0] 75)).heap.size := by simp; omega
        have h63 : A.length + 1 ≤ maxLen := by unfold maxLen; omega
        have hby : (A.length + 1) * 4 ≤ 140737488355328 := by omega
        have HQR := Lib.hid hqr
        clear hown hcx hsucc hqr hA
        go_wp2_with (at_builtin; refine wpList_append_raw rfl _ _ _ rfl tyU32 w.heap.size hown' rfl hr rfl h63 hby hsz' ?_; intro v2 w2 hown2 hg)
        have hb2 := (hbel.alloc hsz _).grown hg hsz' (fun k hk => (World.ownsRow.lt hown' k hk).1)
        obtain ⟨g, cg, rfl, hb3, hb4, hb5⟩ := own_shape hown2 (by omega)
        have hcB : w2.cell? ⟨bx, ox + i, none⟩ = some (u8v c) := by rw [hb2.cell (p := ⟨bx, ox + i, none⟩) hbx]; exact hcell
        have hcA := hown2.cellAt A.length (by omega)
        have hfz := hown2.frozenAt A.length
        have e0 : (List.map u32v A ++ [u32v 0])[A.length]? = some (u32v 0) := by rw [List.getElem?_append_right (by simp)]; simp
        rw [e0] at hcA
        clear e0
        have k1 : IntKind.i64.wrap (A.length : Int) = (A.length : Int) := IntWalk.i64_in _ (by omega)
        have k2 : IntKind.u32.wrap (c.toNat : Int) = (c.toNat : Int) := by rw [IntKind.wrap_u32]; omega
        have k3 : IntKind.i64.wrap 0 = 0 := rfl
        have k4 : (A.length : Int) < (A.length : Int) + 1 := by omega
        have k5 : (i : Int) < (s.length : Int) := by omega
        go_still_tail 20, (by kernel_rfl)
        go_wp2_with fail
        have hX : (c.toNat : Int) * 2 ^ min (i % 4 * 8) 32 % 4294967296 = ((UInt32.ofNat c.toNat).toNat : Int) := by
          have h1 : i % 4 = 0 := by omega
          rw [h1]
          simp
          omega
        rw [hX]
        have hst := (hown2.stored A.length (u32v (UInt32.ofNat c.toNat)))
        have hset : (List.map u32v A ++ [u32v 0]).set A.length (u32v (UInt32.ofNat c.toNat)) = (A ++ [UInt32.ofNat c.toNat]).map u32v := by
          rw [List.set_append]; simp
        rw [hset] at hst
        refine ⟨⟨i + 1, A ++ [UInt32.ofNat c.toNat], by go_num, by omega, ?_, ?_, ?_, ((hb2.setCell (p := ⟨g, A.length, none⟩) hb3 _).drew)⟩, by simp [intOf]; omega⟩
        · have := HQR.out; simp; omega
        · rw [HS.out, Na.val_snoc]
          have e1 : (UInt32.ofNat c.toNat).toNat = c.toNat := ofNat_small (by omega)
          have e2 : Na.B ^ A.length = Nb.B ^ i := by rw [Nb.pow_B]; show 256 ^ _ = 256 ^ _; congr 1; have := HQR.out; omega
          rw [e1, e2]
        · have h1 : OwnU w.heap.size (w2.setCell ⟨g, A.length, none⟩ (u32v (UInt32.ofNat c.toNat))) (.slice (some ⟨g, 0, none⟩) (A.length + 1) cg) (A ++ [UInt32.ofNat c.toNat]) := by
            show World.ownsRow _ _ _ _ _ _ _
            rw [show (A ++ [UInt32.ofNat c.toNat]).length = A.length + 1 by simp]
            exact hst.1
          exact ownsRow_ext h1 ((Below.refl _ _).drew)
      · have hA' : A.length = q + 1 := by omega
        have HA := Lib.hid hA
        obtain ⟨f1, f2⟩ := Nb.mag_step hA' hval (V := Nb.val (s.take i)) (by rw [← hval, ← hqr]; exact hlb) hr4 hcl
        have hm0 : ((i : Int) % 4 == 0) = false := by rw [beq_eq_false_iff_ne]; omega
        have hO : wr.ownsRow w.heap.size 75 1 u3 (q + 1) (A.map u32v) := by rw [← hA']; exact hown
        obtain ⟨g, cg, rfl, hb3, hb4, hb5⟩ := own_shape hO (by omega)
        have hcB : wr.cell? ⟨bx, ox + i, none⟩ = some (u8v c) := by rw [hbel.cell (p := ⟨bx, ox + i, none⟩) hbx]; exact hcell
        have hcA := hO.cellAt q (by omega)
        have hfz := hO.frozenAt q
        have hAq : q < A.length := by omega
        rw [List.getElem?_map, List.getElem?_eq_getElem hAq, Option.map_some] at hcA
        have hst := (hO.stored q (u32v (UInt32.ofNat ((A[q]'hAq).toNat + c.toNat * 256 ^ r)))).1
        rw [← List.map_set] at hst
        have HST := Lib.hid hst
        have HF2 := Lib.hid f2
        obtain ⟨d, hd⟩ : ∃ d, A[q]'hAq = d := ⟨_, rfl⟩
        rw [hd] at hcA f1 HST HF2
        have hdl := d.toNat_lt
        have HO := Lib.hid hO
        have k1 : IntKind.i64.wrap (q : Int) = (q : Int) := IntWalk.i64_in _ (by omega)
        have k2 : IntKind.u32.wrap (c.toNat : Int) = (c.toNat : Int) := by rw [IntKind.wrap_u32]; omega
        have k4 : (q : Int) < (q : Int) + 1 := by omega
        have k5 : (i : Int) < (s.length : Int) := by omega
        have HQR := Lib.hid hqr
        have HA' := Lib.hid hA'
        clear hd hcx hsucc hA hA' hown f2 hst hqr
        go_wp2_with fail
        go_still_tail 20, (by kernel_rfl)
        go_wp2_with fail
        have hX : ((d.toNat : Int) + (c.toNat : Int) * 2 ^ min (i % 4 * 8) 32) % 4294967296 = ((UInt32.ofNat (d.toNat + c.toNat * 256 ^ r)).toNat : Int) := by
          have h1 : i % 4 = r := by have := HQR.out; omega
          have h2 : (2 : Nat) ^ min (r * 8) 32 = 256 ^ r := by
            rw [Nat.min_eq_left (by omega), Nat.mul_comm, Nat.pow_mul]
          rw [h1, ← dgI]
          have h3 : (2 : Int) ^ min (r * 8) 32 = ((256 ^ r : Nat) : Int) := by rw [← h2]; simp
          rw [h3]; simp
        rw [hX]
        refine ⟨⟨i + 1, A.set q (UInt32.ofNat (d.toNat + c.toNat * 256 ^ r)), by go_num, by omega, ?_, ?_, ?_, ((hbel.setCell (p := ⟨g, q, none⟩) hb3 _).drew)⟩, by simp [intOf]; omega⟩
        · rw [List.length_set]; have := HQR.out; have := HA'.out; omega
        · rw [HF2.out, HS.out, ← HQR.out, hval]; rfl
        · have h1 : OwnU w.heap.size (wr.setCell ⟨g, q, none⟩ (u32v (UInt32.ofNat (d.toNat + c.toNat * 256 ^ r)))) (.slice (some ⟨g, 0, none⟩) (q + 1) cg) (A.set q (UInt32.ofNat (d.toNat + c.toNat * 256 ^ r))) := by
            show World.ownsRow _ _ _ _ _ _ _
            rw [List.length_set, HA'.out]
            exact HST.out
          exact ownsRow_ext h1 ((Below.refl _ _).drew)
    · obtain rfl : i = s.length := by omega
      rw [List.take_length] at hval
      have hge : ¬ (s.length : Int) < (s.length : Int) := by omega
      have hrow := ownsRow_row hown
      obtain ⟨d1, d2, d3, d4⟩ := Na.digs_facts A
      rw [hval] at d1 d2 d3 d4
      obtain ⟨K, hK⟩ : ∃ K, (Na.digs (Nb.val s)).length = K := ⟨_, rfl⟩
      rw [hK] at d1 d2 d3 d4
      have D := Lib.hid (And.intro d1 (And.intro d3 d4))
      have HROW := Lib.hid hrow
      have hfrom := from_own hown
      obtain ⟨ga, gc, rfl⟩ := ownU_sh hown
      have HFR : Hid (∀ k, From w.heap.size (.slice ga k gc)) := fun k ad n cap e => by
        simp only [Value.slice.injEq] at e
        obtain ⟨e1, -, -⟩ := e
        exact hfrom ad _ _ (by rw [e1])
      obtain ⟨N, hN⟩ : ∃ N, A.length = N := ⟨_, rfl⟩
      rw [hN] at HROW d2 hA ⊢
      have HLL := Lib.hid hN
      have hNs : N ≤ 1000000 := by omega
      clear d1 d3 d4 hrow hown hK hN hA hval hfrom
      go_wp2_with fail
      obtain ⟨wo, rfl⟩ : ∃ wo : World, wo = wr := ⟨_, rfl⟩
      go_loopw [3] (fun bv wr => ∃ k : Nat, K ≤ k ∧ k ≤ N ∧ bv = .slice ga k gc ∧ Ext wo wr) (fun bv _ => match bv with | .slice _ n _ => n | _ => 0)
      case atStart => exact ⟨N, d2, Nat.le_refl _, rfl, Below.refl _ _⟩
      case round =>
        obtain ⟨k, hk1, hk2, rfl, hb2⟩ := hrel
        by_cases hkK : K < k
        · obtain ⟨j, rfl⟩ : ∃ j, k = j + 1 := ⟨k - 1, by omega⟩
          obtain ⟨bg, og, cg, hsh, hbg, hlg, hmg, hcg⟩ := row_some HROW.out HLL.out (by omega)
          simp only [Value.slice.injEq, true_and] at hsh
          obtain ⟨rfl, rfl⟩ := hsh
          have hjl : j < A.length := by rw [HLL.out]; omega
          have hck : wr.cell? ⟨bg, og + j, none⟩ = some (u32v A[j]) := by rw [hb2.cell (p := ⟨bg, og + j, none⟩) hbg]; exact hcg j hjl
          rw [D.out.2.1 j hjl (by omega)] at hck
          have hjg : j ≤ gc := by omega
          have hjg' : j + 1 ≤ gc := by omega
          clear hcg
          go_wp2_with fail
          go_roundw
          case rel => exact ⟨j, by omega, by omega, rfl, hb2⟩
          case measure => simp
        · obtain rfl : k = K := by omega
          have hres : Hid (IsU32s wr (.slice ga k gc) (Na.digs (Nb.val s))) := by
            show IsRowOf _ _ _ _
            rw [D.out.1]
            have h1 := HROW.out.below hb2
            rw [← HLL.out] at h1
            have h2 := h1
            obtain ⟨a', cp', hv', hm', h'⟩ := h2
            simp only [Value.slice.injEq, true_and] at hv'
            obtain ⟨rfl, rfl⟩ := hv'
            refine row_cut h1 (by rw [HLL.out]; exact hk2) ?_ hm' ?_
            · rcases h' with ⟨h0, _⟩ | ⟨_, _, _, _, h0, _⟩
              · have := HLL.out; rw [h0] at this; simp at this; omega
              · have := HLL.out; omega
            · intro hn
              rcases h' with ⟨_, h0⟩ | ⟨_, _, hs, _⟩
              · exact h0 hn
              · rw [hn] at hs; cases hs
          have HEX := Lib.hid (Ext.trans' hbel hb2)
          rcases k with _ | j
          · go_wp2_with fail
            go_ret
            exact ⟨_, rfl, hres.out, HFR.out _, HEX.out⟩
          · obtain ⟨bg, og, cg, hsh, hbg, hlg, hmg, hcg⟩ := row_some HROW.out HLL.out (by omega)
            simp only [Value.slice.injEq, true_and] at hsh
            obtain ⟨rfl, rfl⟩ := hsh
            have hjl : j < A.length := by rw [HLL.out]; omega
            have hck : wr.cell? ⟨bg, og + j, none⟩ = some (u32v A[j]) := by rw [hb2.cell (p := ⟨bg, og + j, none⟩) hbg]; exact hcg j hjl
            have hz : ((A[j].toNat : Int) == 0) = false := by
              rw [beq_eq_false_iff_ne]; intro e; exact D.out.2.2 j hjl rfl (UInt32.toNat_inj.1 (by simp; omega))
            clear hcg
            go_wp2_with fail
            go_ret
            exact ⟨_, rfl, hres.out, HFR.out _, HEX.out⟩
end Go.Proofs.YtnenbmbgmmeiaaaDoor
