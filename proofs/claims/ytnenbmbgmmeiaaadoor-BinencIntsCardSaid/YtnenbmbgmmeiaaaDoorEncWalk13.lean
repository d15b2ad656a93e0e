/- Walks of binenc: PutRational. -/
import Derived.Test.YtnenbmbgmmeiaaaDoorEncWalk12
namespace Go.Proofs.YtnenbmbgmmeiaaaDoor
open Go.RowKit En
variable {α : Type}
attribute [local go_sem] Go.Rel.Does Go.Rel.Upon Go.Rel.kept Go.Rel.valOf

theorem nrm_len (n1 n2 : Bool) (l m : List UInt32) : (Na.digs (nrm n1 n2 (Na.val l) (Na.val m)).2.1).length ≤ l.length ∧ (Na.digs (nrm n1 n2 (Na.val l) (Na.val m)).2.2).length ≤ max 1 m.length := by
  unfold nrm
  split
  · have h1 : (Na.digs 1).length ≤ 1 := Na.digs_length_le (by decide)
    exact ⟨by rw [Na.digs_zero]; simp, by simp only; omega⟩
  · have h1 := digs_len_le (Nat.div_le_self (Na.val l) (Nat.gcd (Na.val l) (Na.val m)))
    have h2 := digs_len_le (Nat.div_le_self (Na.val m) (Nat.gcd (Na.val l) (Na.val m)))
    have := digs_len l
    have := digs_len m
    simp only; omega
/-- The bytes of a rational number in lowest terms. -/
def putQ (r : Bool × Nat × Nat) : List UInt8 := (if r.1 then 1 else 0) :: (putB (Nb.digs r.2.1) ++ putB (Nb.digs r.2.2))
theorem sl1_three {R : World → Value → α → Prop} (w : World) (x y z : Value) (a b c : α) (e : TypeId) (h1 : R (w.alloc (.cells #[x, y, z] e)) x a) (h2 : R (w.alloc (.cells #[x, y, z] e)) y b) (h3 : R (w.alloc (.cells #[x, y, z] e)) z c) :
    IsSl1 R (w.alloc (.cells #[x, y, z] e)) (.slice (some ⟨w.heap.size, 0, none⟩) 3 3) [a, b, c] := by
  refine ⟨_, _, rfl, by unfold maxLen; omega, .inr ⟨_, _, rfl, by simp, Nat.le_refl _, fun i hi => ?_⟩⟩
  rw [Nat.zero_add, World.cell?_alloc_at _ _ _ _ rfl]
  rcases i with _ | _ | _ | i
  · exact ⟨x, rfl, h1⟩
  · exact ⟨y, rfl, h2⟩
  · exact ⟨z, rfl, h3⟩
  · exact absurd hi (by simp)
theorem parts_mono {w w' : World} {v : Value} {ls : List (List UInt8)} (h : IsParts w v ls) (hb : Ext w w') : IsParts w' v ls := IsSl1.below (fun _ _ _ _ hb h => h.below hb) h hb

theorem IsRatN.parts {base : Nat} {w : World} {s t : Value} {n m neg : Bool} {a b : Nat} (h : IsRatN base w (.agg #[.bool n, s, .bool m, t]) neg a b) :
    IsU32s w s (Na.digs a) ∧ IsU32s w t (Na.digs b) ∧ From base s ∧ From base t := by
  obtain ⟨s', t', e, hs, ht, fs, ft⟩ := h
  simp only [Value.agg.injEq, Array.mk.injEq, List.cons.injEq, and_true] at e
  obtain ⟨-, rfl, -, rfl⟩ := e
  exact ⟨hs, ht, fs, ft⟩
def OwnB (base : Nat) (w : World) (v : Value) (l : List UInt8) : Prop := w.ownsRow base 5 1 v l.length (l.map u8v)
set_option maxRecDepth 100000 in
set_option maxHeartbeats 1600000 in
theorem putRational_any (n1 n2 : Bool) (s1 s2 : Value) (l m : List UInt32) (w : World) (h1 : IsU32s w s1 l) (h2 : IsU32s w s2 m) (hl1 : l.length ≤ 50000000) (hl2 : m.length ≤ 50000000) :
    Calls Tryd.prog 35 #[.agg #[.bool n1, s1, .bool n2, s2]] w fun e w' => ∃ v, e = .returned v ∧ w'.ownsRow w.heap.size 5 1 v (putQ (nrm n1 n2 (Na.val l) (Na.val m))).length ((putQ (nrm n1 n2 (Na.val l) (Na.val m))).map u8v) ∧ Ext w w' := by
  have hln := nrm_len n1 n2 l m
  have hb0 := below_alloc w (.cells #[.bool n1, s1, .bool n2, s2] 51)
  have HC := Lib.hid (ratNormalize_any n1 n2 s1 s2 l m _ (h1.below hb0) (h2.below hb0) (by omega) (by omega))
  have HB0 := Lib.hid hb0
  obtain ⟨a1, c1, rfl⟩ := h1.shape
  obtain ⟨a2, c2, rfl⟩ := h2.shape
  generalize nrm n1 n2 (Na.val l) (Na.val m) = r at *
  obtain ⟨ng, a, b⟩ := r
  simp only at hln
  clear h1 h2 hb0
  go_enter Tryd.func35, Tryd.ntmps35
  go_wp2_with fail
  refine HC.out.mono ?_
  rintro e w1 ⟨x, rfl, hx, hb1⟩
  obtain ⟨b1, d1, b2, d2, rfl⟩ := hx.shape
  obtain ⟨r0, f0, hz⟩ := newBlock hb1
  have F := Lib.hid hx
  have HB1 := Lib.hid (Ext.trans' HB0.out hb1)
  clear hx hb1 HC
  obtain ⟨sg, hsg⟩ : ∃ sg : UInt8, sg = if ng then 1 else 0 := ⟨_, rfl⟩
  obtain ⟨nb, hnb⟩ : ∃ nb : Bool, nb = ng := ⟨_, rfl⟩
  obtain ⟨q, hq⟩ : ∃ q, q = putQ (nb, a, b) := ⟨_, rfl⟩
  have HQ : Hid ([[sg], putB (Nb.digs a), putB (Nb.digs b)].flatten = q) := by
    show _ = _
    rw [hq, hsg, hnb]; simp [putQ]
  have hql : ([[sg], putB (Nb.digs a), putB (Nb.digs b)].flatten).length ≤ 1000000000 := by
    have := nb_len a
    have := nb_len b
    have := uvar_len 10 (Nb.digs a).length
    have := uvar_len 10 (Nb.digs b).length
    simp [putB]; omega
  have HQL := Lib.hid hql
  have HQ2 := Lib.hid hq
  have HSG := Lib.hid hsg
  have HNB := Lib.hid hnb
  clear hq hql
  clear hsg hnb
  have hqa := nb_len a
  have hqb := nb_len b
  have HP := Lib.hid (F.out.parts)
  clear F
  rcases Bool.eq_false_or_eq_true ng with rfl | rfl
  all_goals
    go_wp2_with fail
    generalize hW : World.setCell _ _ _ = W
    have hWb : Ext w W := by rw [← hW]; exact ext_store4 HB1.out (Nat.le_refl _) _ _ _ _
    have hk : ∀ w', Ext W w' → w'.cell? ⟨w.heap.size, 0, none⟩ = some (.bool nb) ∧ w'.cell? ⟨w.heap.size, 1, none⟩ = some (.slice b1 (Na.digs a).length d1) ∧ w'.cell? ⟨w.heap.size, 2, none⟩ = some (.bool false) ∧ w'.cell? ⟨w.heap.size, 3, none⟩ = some (.slice b2 (Na.digs b).length d2) := by
      intro w' hw'
      have hWz : w.heap.size < W.heap.size := by rw [← hW]; simpa [World.setCell] using hz
      refine ⟨?_, ?_, ?_, ?_⟩
      · rw [hw'.cell (p := ⟨w.heap.size, 0, none⟩) hWz, ← hW, HNB.out]; simp [go_sem, r0]
      · rw [hw'.cell (p := ⟨w.heap.size, 1, none⟩) hWz, ← hW]; simp [go_sem, r0]
      · rw [hw'.cell (p := ⟨w.heap.size, 2, none⟩) hWz, ← hW]; simp [go_sem, r0]
      · rw [hw'.cell (p := ⟨w.heap.size, 3, none⟩) hWz, ← hW]; simp [go_sem, r0]
    have HK := Lib.hid hk
    have hA : IsU32s W (.slice b1 (Na.digs a).length d1) (Na.digs a) := by
      rw [← hW]; exact HP.out.1.ch (((((Ch.refl w.heap.size _).setCell _ _).setCell _ _).setCell _ _).setCell _ _) (fun _ => HP.out.2.2.1.off (by simp))
    have hB : IsU32s W (.slice b2 (Na.digs b).length d2) (Na.digs b) := by
      rw [← hW]; exact HP.out.2.1.ch (((((Ch.refl w.heap.size _).setCell _ _).setCell _ _).setCell _ _).setCell _ _) (fun _ => HP.out.2.2.2.off (by simp))
    have HAB := Lib.hid (And.intro hA hB)
    have HWB := Lib.hid hWb
    clear hk hW hWb hA hB
    refine Go.Rel.wp_region 12 (by kernel_rfl) (by kernel_rfl) Ext (fun w' => Ext W w')
      [Rel.is (u8v sg), fun v w' => IsBytes w' v [sg], Rel.is (.pointer (some ⟨w.heap.size, 0, none⟩)), Rel.is (.agg #[.bool nb, .slice b1 (Na.digs a).length d1]),
       fun v w' => IsBytes w' v (Nb.digs a), fun v w' => IsBytes w' v (putB (Nb.digs a)), Rel.is (.pointer (some ⟨w.heap.size, 2, none⟩)), Rel.is (.agg #[.bool false, .slice b2 (Na.digs b).length d2]),
       fun v w' => IsBytes w' v (Nb.digs b), fun v w' => IsBytes w' v (putB (Nb.digs b)), fun v w' => IsParts w' v [[sg], putB (Nb.digs a), putB (Nb.digs b)],
       fun v w' => OwnB w.heap.size w' v q]
      ?_ ?_ ?_ ⟨?_, ?_, ?_, ?_, ?_, ?_, ?_, ?_, ?_, ?_, ?_, ?_, trivial⟩ ?_
    · exact below_drewN (Below.refl _ _) 1
    · exact fun _ _ h k => Ext.trans' h k
    · exact Rel.Monos.mem ⟨Rel.mono_is _, fun _ _ _ h k => k.below h, Rel.mono_is _, Rel.mono_is _, fun _ _ _ h k => k.below h, fun _ _ _ h k => k.below h, Rel.mono_is _, Rel.mono_is _, fun _ _ _ h k => k.below h, fun _ _ _ h k => k.below h,
        fun _ _ _ h k => parts_mono k h, fun _ _ _ h k => ownsRow_ext k h, trivial⟩
    · intro ρ w' hs ho hC hd
      have h2 : ρ (.tmp 3) = u8v sg := (ho 3 rfl).trans (by rw [HSG.out]; rfl)
      simp [go_sem, h2]
      exact ⟨Ext.rfl', rfl⟩
    · intro ρ w' hs ho hC hd
      obtain ⟨hd1, -⟩ := hd
      have h1 : ρ (.tmp 9) = _ := hd1 rfl
      simp [go_sem, h1]
      exact ⟨below_alloc _ _, row_new _ [sg] _ (by unfold maxLen; simp)⟩
    · intro ρ w' hs ho hC hd
      have h2 : ρ (.tmp 1) = .pointer (some ⟨w.heap.size, 0, none⟩) := ho 1 rfl
      simp [go_sem, h2]
      exact ⟨Ext.rfl', rfl⟩
    · intro ρ w' hs ho hC hd
      obtain ⟨hd1, -⟩ := hd
      have h1 : ρ (.tmp 11) = _ := hd1 rfl
      obtain ⟨k1, k2, -⟩ := HK.out w' hC
      simp [go_sem, h1, k1, k2]
      exact ⟨Ext.rfl', rfl⟩
    · intro ρ w' hs ho hC hd
      obtain ⟨hd1, -⟩ := hd
      have h1 : ρ (.tmp 12) = _ := hd1 rfl
      simp [go_sem, h1, hs.func]
      have hc := small_any nb _ _ w' (HAB.out.1.below hC) (by omega)
      rw [Na.val_digs] at hc
      refine hc.mono ?_
      rintro e w'' ⟨v, rfl, hr, hb⟩
      exact ⟨_, rfl, hb, hr⟩
    · intro ρ w' hs ho hC hd
      obtain ⟨hd1, -⟩ := hd
      have h1 : IsBytes w' (ρ (.tmp 13)) _ := hd1 rfl
      simp [go_sem, hs.func]
      refine (putBytes_any _ _ w' h1 (by omega)).mono ?_
      rintro e w'' ⟨v, rfl, hr, hb⟩
      exact ⟨_, rfl, hb, ownsRow_row hr⟩
    · intro ρ w' hs ho hC hd
      have h2 : ρ (.tmp 1) = .pointer (some ⟨w.heap.size, 0, none⟩) := ho 1 rfl
      simp [go_sem, h2]
      exact ⟨Ext.rfl', rfl⟩
    · intro ρ w' hs ho hC hd
      obtain ⟨hd1, -⟩ := hd
      have h1 : ρ (.tmp 15) = _ := hd1 rfl
      obtain ⟨-, -, k1, k2⟩ := HK.out w' hC
      simp [go_sem, h1, k1, k2]
      exact ⟨Ext.rfl', rfl⟩
    · intro ρ w' hs ho hC hd
      obtain ⟨hd1, -⟩ := hd
      have h1 : ρ (.tmp 16) = _ := hd1 rfl
      simp [go_sem, h1, hs.func]
      have hc := small_any false _ _ w' (HAB.out.2.below hC) (by omega)
      rw [Na.val_digs] at hc
      refine hc.mono ?_
      rintro e w'' ⟨v, rfl, hr, hb⟩
      exact ⟨_, rfl, hb, hr⟩
    · intro ρ w' hs ho hC hd
      obtain ⟨hd1, -⟩ := hd
      have h1 : IsBytes w' (ρ (.tmp 17)) _ := hd1 rfl
      simp [go_sem, hs.func]
      refine (putBytes_any _ _ w' h1 (by omega)).mono ?_
      rintro e w'' ⟨v, rfl, hr, hb⟩
      exact ⟨_, rfl, hb, ownsRow_row hr⟩
    · intro ρ w' hs ho hC hd
      obtain ⟨hd1, hd2, hd3, -⟩ := hd
      have h1 : IsBytes w' (ρ (.tmp 10)) _ := hd1 rfl
      have h2 : IsBytes w' (ρ (.tmp 14)) _ := hd2 rfl
      have h3 : IsBytes w' (ρ (.tmp 18)) _ := hd3 rfl
      obtain ⟨x1, y1, e1⟩ := h1.shape
      obtain ⟨x2, y2, e2⟩ := h2.shape
      obtain ⟨x3, y3, e3⟩ := h3.shape
      rw [e1] at h1
      rw [e2] at h2
      rw [e3] at h3
      simp [go_sem, e1, e2, e3]
      exact ⟨below_alloc _ _, sl1_three w' _ _ _ _ _ _ _ (h1.below (below_alloc _ _)) (h2.below (below_alloc _ _)) (h3.below (below_alloc _ _))⟩
    · intro ρ w' hs ho hC hd
      obtain ⟨hd1, -⟩ := hd
      have h1 : IsParts w' (ρ (.tmp 19)) _ := hd1 rfl
      simp [go_sem, hs.func]
      refine (concat_any _ _ w' h1 HQL.out).mono ?_
      rintro e w'' ⟨v, rfl, hr, hb⟩
      refine ⟨_, rfl, hb, ?_⟩
      rw [HQ.out] at hr
      exact ownsRow_mono hr (by have := (Ext.trans' HWB.out hC).size; exact this)
    · intro w' hC
      rintro _ rfl v1 h1 _ rfl _ rfl v4 h4 v5 h5 _ rfl _ rfl v8 h8 v9 h9 v10 h10 v11 h11
      change wpList _ _ _ (List.drop 12 _) _ _
      simp only [List.drop_succ_cons, List.drop_zero]
      have h12 : Hid (w'.ownsRow w.heap.size 5 1 v11 (putQ (nb, a, b)).length ((putQ (nb, a, b)).map u8v)) := by
        have := HQ2.out
        rw [← this]; exact h11
      rw [HNB.out] at h12
      have HX := Lib.hid (Ext.trans' HWB.out hC)
      clear h1 h4 h5 h8 h9 h10 h11
      go_wp2_with fail
      go_ret
      exact ⟨v11, rfl, h12.out, HX.out⟩
end Go.Proofs.YtnenbmbgmmeiaaaDoor
