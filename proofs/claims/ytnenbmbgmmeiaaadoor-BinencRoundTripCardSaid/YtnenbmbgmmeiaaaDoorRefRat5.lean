/- Walks of the reference of chapter 06: base256. -/
import Derived.Test.YtnenbmbgmmeiaaaDoorRefRat4
namespace Go.Proofs.YtnenbmbgmmeiaaaDoor
open Go.RowKit
variable {α : Type}
set_option linter.unusedVariables false

theorem dg8 (n : Nat) : (n : Int) % 256 = ((UInt8.ofNat n).toNat : Int) := by simp
set_option maxRecDepth 100000 in
set_option maxHeartbeats 1600000 in
theorem refBase256_any (v : Value) (l : List UInt32) (w : World) (hv : IsU32s w v l) (hl : l.length ≤ 1000000) :
    Calls Tryd.prog 60 #[v] w fun e w' => ∃ v', e = .returned v' ∧ IsBytes w' v' (Nb.digs (Na.val l)) ∧ Ext w w' := by
  have HV := Lib.hid hv
  obtain ⟨a1, c1, rfl⟩ := hv.shape
  have HBL := Lib.hid (Nb.bytes_len l)
  have HGET := Lib.hid (Nb.bytes_get l)
  clear hv
  go_enter Tryd.func60, Tryd.ntmps60
  go_wp2_with fail
  go_loopw [3, 4] (fun g iv wr => ∃ i : Nat, iv = .int .i64 i ∧ i ≤ 4 * l.length ∧ wr.ownsRow w.heap.size 5 1 g i (((Nb.bytes l).take i).map u8v) ∧ Ext w wr) (fun _ iv _ => 4 * l.length - (intOf iv).toNat)
  case atStart => exact ⟨0, rfl, Nat.zero_le _, World.ownsRow_lit w #[] 0 (Nat.le_refl _) (Nat.zero_le _) rfl, below_alloc _ _⟩
  case round =>
    obtain ⟨i, rfl, hi, hown, hbel⟩ := hrel
    have hsz : w.heap.size ≤ wr.heap.size := hbel.size
    have h63 : i + 1 ≤ maxLen := by unfold maxLen; omega
    have hby : (i + 1) * 1 ≤ 140737488355328 := by omega
    by_cases hlt : i < 4 * l.length
    · have hltI : (i : Int) < 4 * (l.length : Int) := by omega
      obtain ⟨q, r, hqr, hr4⟩ : ∃ q r, i = 4 * q + r ∧ r < 4 := ⟨i / 4, i % 4, by omega, by omega⟩
      have hq : (i : Int) / 4 = (q : Int) := by omega
      have hql : q < l.length := by omega
      obtain ⟨bx, ox, cx, hxs, hbx, hlx, hmx, hcx⟩ := row_some HV.out rfl (by omega)
      simp only [Value.slice.injEq] at hxs
      obtain ⟨rfl, -, -⟩ := hxs
      have hck : wr.cell? ⟨bx, ox + q, none⟩ = some (u32v l[q]) := by rw [hbel.cell (p := ⟨bx, ox + q, none⟩) hbx]; exact hcx q hql
      have hget := HGET.out q r hql hr4
      rw [← hqr] at hget
      have hiB : i < (Nb.bytes l).length := by rw [HBL.out]; exact hlt
      have hsn := take_snoc (Nb.bytes l) i hiB
      rw [List.getElem?_eq_getElem hiB] at hget
      rw [Option.some.inj hget] at hsn
      obtain ⟨c, hc⟩ : ∃ c, UInt8.ofNat (l[q].toNat / 256 ^ r) = c := ⟨_, rfl⟩
      rw [hc] at hsn
      have hxl := l[q].toNat_lt
      have hval : ((l[q].toNat / 256 ^ r : Nat) : Int) % 256 = (c.toNat : Int) := by rw [dg8, hc]
      have HSN := Lib.hid hsn
      generalize l[q] = x at *
      have hr := raw_one wr (u8v c) 5 rfl
      have hown' := hown.alloc (.cells #[u8v c] 5)
      have hsz' : w.heap.size ≤ (wr.alloc (.cells #[u8v c] 5)).heap.size := by simp; omega
      have hcase : Hid (((i : Int) % 4 = 0 ∧ (x.toNat : Int) % 256 = (c.toNat : Int)) ∨ ((i : Int) % 4 = 1 ∧ (x.toNat : Int) / 256 % 256 = (c.toNat : Int)) ∨ ((i : Int) % 4 = 2 ∧ (x.toNat : Int) / 65536 % 256 = (c.toNat : Int)) ∨ ((i : Int) % 4 = 3 ∧ (x.toNat : Int) / 16777216 = (c.toNat : Int))) := by
        show _ ∨ _
        rcases r with _ | _ | _ | _ | r
        · left; refine ⟨by omega, ?_⟩; rw [← hval]; simp
        · right; left; refine ⟨by omega, ?_⟩; rw [← hval]; simp
        · right; right; left; refine ⟨by omega, ?_⟩; rw [← hval]; simp
        · right; right; right; refine ⟨by omega, ?_⟩; rw [← hval]; simp; omega
        · omega
      clear hown hcx hget hsn hc hval hqr hr4 hiB
      rcases hcase.out with ⟨hm, hcv⟩ | ⟨hm, hcv⟩ | ⟨hm, hcv⟩ | ⟨hm, hcv⟩
      all_goals
        go_wp2_with (at_builtin; refine wpList_append_raw rfl _ _ _ rfl tyU8 w.heap.size hown' rfl hr rfl h63 hby hsz' ?_; intro v2 w2 hown2 hg)
        go_roundw
        case rel =>
          refine ⟨i + 1, by go_num, by omega, ?_, (hbel.alloc hsz _).grown hg hsz' (fun k hk => (World.ownsRow.lt hown' k hk).1)⟩
          rw [HSN.out, List.map_append]; exact hown2
        case measure => simp [intOf]; omega
    · obtain rfl : i = 4 * l.length := by omega
      have hge : ¬ (4 * (l.length : Int)) < 4 * (l.length : Int) := by omega
      have htk : (Nb.bytes l).take (4 * l.length) = Nb.bytes l := List.take_of_length_le (by rw [HBL.out]; exact Nat.le_refl _)
      rw [htk] at hown
      have hrow := own_row' HBL.out hown
      obtain ⟨d1, d2, d3, d4⟩ := Nb.digs_facts (Nb.bytes l)
      rw [Nb.val_bytes] at d1 d2 d3 d4
      obtain ⟨K, hK⟩ : ∃ K, (Nb.digs (Na.val l)).length = K := ⟨_, rfl⟩
      rw [hK] at d1 d2 d3 d4
      obtain ⟨L, hL⟩ : ∃ L, Nb.bytes l = L := ⟨_, rfl⟩
      have hlL : L.length = 4 * l.length := by rw [← hL]; exact HBL.out
      rw [hL] at d1 d2 hrow
      have d3' : ∀ j (h : j < L.length), K ≤ j → L[j] = 0 := by subst hL; exact d3
      have d4' : ∀ j (h : j < L.length), j + 1 = K → L[j] ≠ 0 := by subst hL; exact d4
      have D := Lib.hid (And.intro d1 (And.intro d3' d4'))
      have HROW := Lib.hid hrow
      have HLL := Lib.hid hlL
      obtain ⟨ga, gc, rfl⟩ := ownU_sh hown
      have hKL : K ≤ 4 * l.length := by omega
      clear d1 d2 d3 d4 d3' d4' hrow hlL hL hown hK htk
      go_wp2_with fail
      obtain ⟨wo, rfl⟩ : ∃ wo : World, wo = wr := ⟨_, rfl⟩
      go_loopw [3] (fun bv wr => ∃ k : Nat, K ≤ k ∧ k ≤ 4 * l.length ∧ bv = .slice ga k gc ∧ Ext wo wr) (fun bv _ => match bv with | .slice _ n _ => n | _ => 0)
      case atStart => exact ⟨4 * l.length, hKL, Nat.le_refl _, by simp, Below.refl _ _⟩
      case round =>
        obtain ⟨k, hk1, hk2, rfl, hb2⟩ := hrel
        by_cases hkK : K < k
        · obtain ⟨j, rfl⟩ : ∃ j, k = j + 1 := ⟨k - 1, by omega⟩
          obtain ⟨bg, og, cg, hsh, hbg, hlg, hmg, hcg⟩ := row_some HROW.out HLL.out (by omega)
          simp only [Value.slice.injEq, true_and] at hsh
          obtain ⟨rfl, rfl⟩ := hsh
          have hjl : j < L.length := by rw [HLL.out]; omega
          have hck : wr.cell? ⟨bg, og + j, none⟩ = some (u8v L[j]) := by rw [hb2.cell (p := ⟨bg, og + j, none⟩) hbg]; exact hcg j hjl
          rw [D.out.2.1 j hjl (by omega)] at hck
          have hjg : j ≤ gc := by omega
          have hjg' : j + 1 ≤ gc := by omega
          clear hcg
          go_wp2_with fail
          go_roundw
          case rel => exact ⟨j, by omega, by omega, rfl, hb2⟩
          case measure => simp
        · obtain rfl : k = K := by omega
          have hres : Hid (IsBytes wr (.slice ga k gc) (Nb.digs (Na.val l))) := by
            show IsRowOf _ _ _ _
            rw [D.out.1]
            have h1 := HROW.out.below hb2
            rw [← HLL.out] at h1
            have h2 := h1
            obtain ⟨a', cp', hv', hm', h'⟩ := h2
            simp only [Value.slice.injEq, true_and] at hv'
            obtain ⟨rfl, rfl⟩ := hv'
            refine row_cut h1 (by rw [HLL.out]; exact hk2) ?_ hm' ?_
            · rcases h' with ⟨h0, _⟩ | ⟨_, _, _, _, h0, _⟩
              · have := HLL.out; rw [h0] at this; simp at this; omega
              · have := HLL.out; omega
            · intro hn
              rcases h' with ⟨_, h0⟩ | ⟨_, _, hs, _⟩
              · exact h0 hn
              · rw [hn] at hs; cases hs
          have HEX := Lib.hid (Ext.trans' hbel hb2)
          rcases k with _ | j
          · go_wp2_with fail
            go_ret
            exact ⟨_, rfl, hres.out, HEX.out⟩
          · obtain ⟨bg, og, cg, hsh, hbg, hlg, hmg, hcg⟩ := row_some HROW.out HLL.out (by omega)
            simp only [Value.slice.injEq, true_and] at hsh
            obtain ⟨rfl, rfl⟩ := hsh
            have hjl : j < L.length := by rw [HLL.out]; omega
            have hck : wr.cell? ⟨bg, og + j, none⟩ = some (u8v L[j]) := by rw [hb2.cell (p := ⟨bg, og + j, none⟩) hbg]; exact hcg j hjl
            have hz : ((L[j].toNat : Int) == 0) = false := by
              rw [beq_eq_false_iff_ne]; intro e; exact D.out.2.2 j hjl rfl (UInt8.toNat_inj.1 (by simp; omega))
            clear hcg
            go_wp2_with fail
            go_ret
            exact ⟨_, rfl, hres.out, HEX.out⟩
end Go.Proofs.YtnenbmbgmmeiaaaDoor
