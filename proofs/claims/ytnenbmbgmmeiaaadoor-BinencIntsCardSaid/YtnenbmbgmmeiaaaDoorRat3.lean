/- Walks of package rational: lowest. -/
import Derived.Test.YtnenbmbgmmeiaaaDoorRat2
namespace Go.Proofs.YtnenbmbgmmeiaaaDoor
open Go.RowKit
variable {α : Type}
attribute [local go_sem] Go.Rel.Does Go.Rel.Upon Go.Rel.kept Go.Rel.valOf

theorem sgn_wrap (a b : Bool) (n m : Nat) : IntKind.i64.wrap (sgn a n * sgn b m) = sgn a n * sgn b m := by
  have h : ∀ a n, sgn a n = 0 ∨ sgn a n = 1 ∨ sgn a n = -1 := by
    intro a n; unfold sgn; split
    · simp
    · cases a <;> simp
  rw [IntKind.wrap_i64]
  rcases h a n with h1 | h1 | h1 <;> rcases h b m with h2 | h2 | h2 <;> rw [h1, h2] <;> decide
/-- A rational number in lowest terms, by value; its digits lie from block base on. -/
def IsRatN (base : Nat) (w : World) (v : Value) (neg : Bool) (a b : Nat) : Prop := ∃ s t, v = .agg #[.bool neg, s, .bool false, t] ∧ IsU32s w s (Na.digs a) ∧ IsU32s w t (Na.digs b) ∧ From base s ∧ From base t
theorem IsRatN.ext {base : Nat} {w w' : World} {v : Value} {neg : Bool} {a b : Nat} (h : IsRatN base w v neg a b) (hb : Ext w w') : IsRatN base w' v neg a b := by
  obtain ⟨s, t, hv, hs, ht, hf⟩ := h; exact ⟨s, t, hv, hs.below hb, ht.below hb, hf⟩
theorem IsRatN.mono {base base' : Nat} {w : World} {v : Value} {neg : Bool} {a b : Nat} (h : IsRatN base w v neg a b) (hb : base' ≤ base) : IsRatN base' w v neg a b := by
  obtain ⟨s, t, hv, hs, ht, hf, hg⟩ := h; exact ⟨s, t, hv, hs, ht, hf.mono hb, hg.mono hb⟩
theorem ratN_of {base : Nat} {w : World} {x y : Value} {n1 : Bool} {a b : Nat} (hx : IsIntN base w x n1 a) (hy : IsIntN base w y false b) :
    ∃ a1 c1 a2 c2, x = .agg #[.bool n1, .slice a1 (Na.digs a).length c1] ∧ y = .agg #[.bool false, .slice a2 (Na.digs b).length c2] ∧
      IsRatN base w (.agg #[.bool n1, .slice a1 (Na.digs a).length c1, .bool false, .slice a2 (Na.digs b).length c2]) n1 a b := by
  obtain ⟨s, rfl, hs, f1⟩ := hx
  obtain ⟨t, rfl, ht, f2⟩ := hy
  obtain ⟨a1, c1, rfl⟩ := hs.shape
  obtain ⟨a2, c2, rfl⟩ := ht.shape
  exact ⟨a1, c1, a2, c2, rfl, rfl, _, _, rfl, hs, ht, f1, f2⟩
def negOf (n1 n2 : Bool) (a b : Nat) : Bool := decide (sgn n1 a * sgn n2 b < 0) && decide (0 < a / Nat.gcd a b)

set_option maxRecDepth 100000 in
theorem lowest_any (n1 n2 : Bool) (s1 s2 : Value) (l m : List UInt32) (w : World) (h1 : IsU32s w s1 l) (h2 : IsU32s w s2 m) (hm : 0 < Na.val m) (hl1 : l.length ≤ 100000000) (hl2 : m.length ≤ 100000000) :
    Calls Tryd.prog 92 #[.agg #[.bool n1, s1], .agg #[.bool n2, s2]] w fun e w' => ∃ x, e = .returned x ∧
      IsRatN w.heap.size w' x (negOf n1 n2 (Na.val l) (Na.val m)) (Na.val l / Nat.gcd (Na.val l) (Na.val m)) (Na.val m / Nat.gcd (Na.val l) (Na.val m)) ∧ Ext w w' := by
  obtain ⟨ng, hng⟩ : ∃ x, negOf n1 n2 (Na.val l) (Na.val m) = x := ⟨_, rfl⟩
  rw [hng]
  unfold negOf at hng
  have HNG := Lib.hid hng
  clear hng
  obtain ⟨a1, c1, rfl⟩ := h1.shape
  obtain ⟨a2, c2, rfl⟩ := h2.shape
  have H1 := Lib.hid h1
  have H2 := Lib.hid h2
  clear h1 h2
  go_enter Tryd.func92, Tryd.ntmps92
  go_wp2_with fail
  have HB0 := Lib.hid (((below_alloc w (.cells #[.bool n1, .slice a1 l.length c1] 49)).alloc (by simp) (.cells #[.bool n2, .slice a2 m.length c2] 49)).alloc (by simp; omega) (.cells #[.bool false, .slice none 0 0, .bool false, .slice none 0 0] 51))
  refine (gcd_any _ _ _ _ _ (H1.out.below HB0.out) (H2.out.below HB0.out) hl1 hl2).mono ?_
  rintro e w1 ⟨g, rfl, hg, hb1⟩
  have HG := Lib.hid hg
  obtain ⟨ag, cg, hgs⟩ := hg.shape
  rw [hgs] at HG
  clear hg
  have HB1 := Lib.hid (Ext.trans' HB0.out hb1)
  go_wp2_with fail
  obtain ⟨W, hW⟩ : ∃ W, W = w1.alloc (.cells #[.slice ag (Na.digs ((Na.val l).gcd (Na.val m))).length cg] 47) := ⟨_, rfl⟩
  rw [← hW]
  have hWb : Ext w1 W := by rw [hW]; exact below_alloc _ _
  have hk : ∀ w', Ext W w' → w'.cell? ⟨w.heap.size, 0, none⟩ = some (.bool n1) ∧ w'.cell? ⟨w.heap.size, 1, none⟩ = some (.slice a1 l.length c1) ∧ w'.cell? ⟨w.heap.size + 1, 0, none⟩ = some (.bool n2) ∧
      w'.cell? ⟨w.heap.size + 1, 1, none⟩ = some (.slice a2 m.length c2) ∧ w'.cell? ⟨w1.heap.size, 0, none⟩ = some (.slice ag (Na.digs ((Na.val l).gcd (Na.val m))).length cg) := by
    intro w' hw'
    have hsz := hb1.size
    simp only [World.size_alloc] at hsz
    have hw1 := Ext.trans' hWb hw'
    refine ⟨?_, ?_, ?_, ?_, ?_⟩
    · rw [hw1.cell (p := ⟨w.heap.size, 0, none⟩) (by simp; omega), hb1.cell (p := ⟨w.heap.size, 0, none⟩) (by simp; omega)]; simp [go_sem]
    · rw [hw1.cell (p := ⟨w.heap.size, 1, none⟩) (by simp; omega), hb1.cell (p := ⟨w.heap.size, 1, none⟩) (by simp; omega)]; simp [go_sem]
    · rw [hw1.cell (p := ⟨w.heap.size + 1, 0, none⟩) (by simp; omega), hb1.cell (p := ⟨w.heap.size + 1, 0, none⟩) (by simp)]; simp [go_sem]
    · rw [hw1.cell (p := ⟨w.heap.size + 1, 1, none⟩) (by simp; omega), hb1.cell (p := ⟨w.heap.size + 1, 1, none⟩) (by simp)]; simp [go_sem]
    · rw [hw'.cell (p := ⟨w1.heap.size, 0, none⟩) (by rw [hW]; simp), hW]; simp [go_sem]
  have HK := Lib.hid hk
  have HW := Lib.hid (Ext.trans' HB1.out hWb)
  have HG' := Lib.hid (HG.out.below hWb)
  have hG : 0 < Nat.gcd (Na.val l) (Na.val m) := Nat.gcd_pos_of_pos_right _ hm
  have hGl : (Na.digs ((Na.val l).gcd (Na.val m))).length ≤ 100000000 := Nat.le_trans (digs_len_le (Nat.gcd_le_right _ hm)) (by have := digs_len m; omega)
  have hvG := Na.val_digs ((Na.val l).gcd (Na.val m))
  have hfin : W.heap.size ≤ W.heap.size := Nat.le_refl _
  have hres : Hid (∀ w', Ext W w' → (∀ i, i < 4 → ∃ u, w'.cell? ⟨w.heap.size + 1 + 1, i, none⟩ = some u ∧ w'.frozen? ⟨w.heap.size + 1 + 1, i, none⟩ = false) ∧ w.heap.size + 1 + 1 < w'.heap.size) := by
    intro w' hw'
    have hsz := hb1.size
    simp only [World.size_alloc] at hsz
    have hw1 := Ext.trans' hWb hw'
    have := hw1.size
    refine ⟨fun i hi => ?_, by omega⟩
    rw [hw1.cell (p := ⟨w.heap.size + 1 + 1, i, none⟩) (by simp; omega), hb1.cell (p := ⟨w.heap.size + 1 + 1, i, none⟩) (by simp), hw1.frozen (p := ⟨w.heap.size + 1 + 1, i, none⟩) (by simp; omega), hb1.frozen (p := ⟨w.heap.size + 1 + 1, i, none⟩) (by simp)]
    rcases i with _ | _ | _ | _ | i
    · exact ⟨.bool false, by simp [go_sem], by simp [go_sem]⟩
    · exact ⟨.slice none 0 0, by simp [go_sem], by simp [go_sem]⟩
    · exact ⟨.bool false, by simp [go_sem], by simp [go_sem]⟩
    · exact ⟨.slice none 0 0, by simp [go_sem], by simp [go_sem]⟩
    · omega
  clear hW HB0 hb1 HB1 hk hgs hWb
  refine Go.Rel.wp_region 15 (by kernel_rfl) (by kernel_rfl) Ext (fun w' => Ext W w')
    [Rel.is (.agg #[.bool n1, .slice a1 l.length c1]), Rel.is (.int .i64 (sgn n1 (Na.val l))), Rel.is (.agg #[.bool n2, .slice a2 m.length c2]), Rel.is (.int .i64 (sgn n2 (Na.val m))),
     Rel.is (.int .i64 (sgn n1 (Na.val l) * sgn n2 (Na.val m))), Rel.is (.bool (decide (sgn n1 (Na.val l) * sgn n2 (Na.val m) < 0))), Rel.is (.func (.func 109) #[] #[.pointer (some ⟨w1.heap.size, 0, none⟩)]),
     Rel.is (.agg #[.bool n1, .slice a1 l.length c1]), fun v w' => IsU32s w' v (Na.digs (Na.val l / Nat.gcd (Na.val l) (Na.val m))),
     fun v w' => IsIntN (w.heap.size + 1 + 1 + 1) w' v ng (Na.val l / Nat.gcd (Na.val l) (Na.val m)),
     Rel.is (.func (.func 109) #[] #[.pointer (some ⟨w1.heap.size, 0, none⟩)]), Rel.is (.agg #[.bool n2, .slice a2 m.length c2]),
     fun v w' => IsU32s w' v (Na.digs (Na.val m / Nat.gcd (Na.val l) (Na.val m))), fun v w' => IsIntN (w.heap.size + 1 + 1 + 1) w' v false (Na.val m / Nat.gcd (Na.val l) (Na.val m)),
     fun v w' => IsRatN (w.heap.size + 1 + 1 + 1) w' v ng (Na.val l / Nat.gcd (Na.val l) (Na.val m)) (Na.val m / Nat.gcd (Na.val l) (Na.val m))]
    ?_ ?_ ?_ ⟨?_, ?_, ?_, ?_, ?_, ?_, ?_, ?_, ?_, ?_, ?_, ?_, ?_, ?_, ?_, trivial⟩ ?_
  · exact below_drewN (Below.refl _ _) 1
  · exact fun _ _ h k => Ext.trans' h k
  · exact Rel.Monos.mem ⟨Rel.mono_is _, Rel.mono_is _, Rel.mono_is _, Rel.mono_is _, Rel.mono_is _, Rel.mono_is _, Rel.mono_is _, Rel.mono_is _, fun _ _ _ h k => k.below h, fun _ _ _ h k => k.ext h, Rel.mono_is _, Rel.mono_is _, fun _ _ _ h k => k.below h, fun _ _ _ h k => k.ext h,
      fun _ _ _ h k => k.ext h, trivial⟩
  · intro ρ w' hs ho hC hd
    have h2 : ρ (.tmp 2) = .pointer (some ⟨w.heap.size, 0, none⟩) := ho 2 rfl
    obtain ⟨k1, k2, -⟩ := HK.out w' hC
    simp [go_sem, h2, k1, k2]
    exact ⟨Ext.rfl', rfl⟩
  · intro ρ w' hs ho hC hd
    obtain ⟨hd, -⟩ := hd
    have h2 : ρ (.tmp 13) = _ := hd rfl
    simp [go_sem, h2, hs.func]
    refine (intSign_any _ _ _ _ (H1.out.below (Ext.trans' HW.out hC)) hl1).mono ?_
    rintro e w'' ⟨rfl, hb⟩
    exact ⟨_, rfl, hb, rfl⟩
  · intro ρ w' hs ho hC hd
    have h2 : ρ (.tmp 3) = .pointer (some ⟨w.heap.size + 1, 0, none⟩) := ho 3 rfl
    obtain ⟨-, -, k1, k2, -⟩ := HK.out w' hC
    simp [go_sem, h2, k1, k2]
    exact ⟨Ext.rfl', rfl⟩
  · intro ρ w' hs ho hC hd
    obtain ⟨hd, -⟩ := hd
    have h2 : ρ (.tmp 15) = _ := hd rfl
    simp [go_sem, h2, hs.func]
    refine (intSign_any _ _ _ _ (H2.out.below (Ext.trans' HW.out hC)) hl2).mono ?_
    rintro e w'' ⟨rfl, hb⟩
    exact ⟨_, rfl, hb, rfl⟩
  · intro ρ w' hs ho hC hd
    obtain ⟨hd1, hd2, -⟩ := hd
    have h1 : ρ (.tmp 14) = _ := hd1 rfl
    have h2 : ρ (.tmp 16) = _ := hd2 rfl
    simp [go_sem, h1, h2]
    exact ⟨Ext.rfl', by rw [sgn_wrap]; rfl⟩
  · intro ρ w' hs ho hC hd
    obtain ⟨hd, -⟩ := hd
    have h2 : ρ (.tmp 17) = _ := hd rfl
    simp [go_sem, h2, hs.const]
    exact ⟨Ext.rfl', rfl⟩
  · intro ρ w' hs ho hC hd
    have h2 : ρ (.tmp 6) = .func (.func 109) #[] #[.pointer (some ⟨w1.heap.size, 0, none⟩)] := ho 6 rfl
    simp [go_sem, h2]
    exact ⟨Ext.rfl', rfl⟩
  · intro ρ w' hs ho hC hd
    have h2 : ρ (.tmp 2) = .pointer (some ⟨w.heap.size, 0, none⟩) := ho 2 rfl
    obtain ⟨k1, k2, -⟩ := HK.out w' hC
    simp [go_sem, h2, k1, k2]
    exact ⟨Ext.rfl', rfl⟩
  · intro ρ w' hs ho hC hd
    obtain ⟨hd1, hd2, -⟩ := hd
    have h1 : ρ (.tmp 19) = _ := hd1 rfl
    have h2 : ρ (.tmp 20) = _ := hd2 rfl
    simp [go_sem, h1, h2]
    obtain ⟨-, -, -, -, k1⟩ := HK.out w' hC
    have hc := lowest1_any n1 (.slice a1 l.length c1) _ l _ w1.heap.size w' (H1.out.below (Ext.trans' HW.out hC)) hl1 k1 (HG'.out.below hC) (by rw [hvG]; exact hG) hGl
    rw [hvG] at hc
    refine hc.mono ?_
    rintro e w'' ⟨q, rfl, hq, hb⟩
    exact ⟨_, rfl, hb, hq⟩
  · intro ρ w' hs ho hC hd
    obtain ⟨hd1, hd2, -⟩ := hd
    have h1 : ρ (.tmp 18) = _ := hd1 rfl
    have h2 : IsU32s w' (ρ (.tmp 21)) _ := hd2 rfl
    simp [go_sem, h1, hs.func]
    have hc := intNew_any (decide (sgn n1 (Na.val l) * sgn n2 (Na.val m) < 0)) _ _ w' h2 (by have := digs_len_le (Nat.div_le_self (Na.val l) (Nat.gcd (Na.val l) (Na.val m))); have := digs_len l; omega)
    rw [Na.val_digs, HNG.out] at hc
    refine hc.mono ?_
    rintro e w'' ⟨q, rfl, hq, hb⟩
    exact ⟨_, rfl, hb, hq.mono (hres.out w' hC).2⟩
  · intro ρ w' hs ho hC hd
    have h2 : ρ (.tmp 6) = .func (.func 109) #[] #[.pointer (some ⟨w1.heap.size, 0, none⟩)] := ho 6 rfl
    simp [go_sem, h2]
    exact ⟨Ext.rfl', rfl⟩
  · intro ρ w' hs ho hC hd
    have h2 : ρ (.tmp 3) = .pointer (some ⟨w.heap.size + 1, 0, none⟩) := ho 3 rfl
    obtain ⟨-, -, k1, k2, -⟩ := HK.out w' hC
    simp [go_sem, h2, k1, k2]
    exact ⟨Ext.rfl', rfl⟩
  · intro ρ w' hs ho hC hd
    obtain ⟨hd1, hd2, -⟩ := hd
    have h1 : ρ (.tmp 23) = _ := hd1 rfl
    have h2 : ρ (.tmp 24) = _ := hd2 rfl
    simp [go_sem, h1, h2]
    obtain ⟨-, -, -, -, k1⟩ := HK.out w' hC
    have hc := lowest1_any n2 (.slice a2 m.length c2) _ m _ w1.heap.size w' (H2.out.below (Ext.trans' HW.out hC)) hl2 k1 (HG'.out.below hC) (by rw [hvG]; exact hG) hGl
    rw [hvG] at hc
    refine hc.mono ?_
    rintro e w'' ⟨q, rfl, hq, hb⟩
    exact ⟨_, rfl, hb, hq⟩
  · intro ρ w' hs ho hC hd
    obtain ⟨hd2, -⟩ := hd
    have h2 : IsU32s w' (ρ (.tmp 25)) _ := hd2 rfl
    simp [go_sem, hs.func, hs.const]
    have hc := intNew_any false _ _ w' h2 (by have := digs_len_le (Nat.div_le_self (Na.val m) (Nat.gcd (Na.val l) (Na.val m))); have := digs_len m; omega)
    rw [Na.val_digs] at hc
    refine hc.mono ?_
    rintro e w'' ⟨q, rfl, hq, hb⟩
    exact ⟨_, rfl, hb, hq.mono (hres.out w' hC).2⟩
  · intro ρ w' hs ho hC hd
    obtain ⟨hd1, hd2, -⟩ := hd
    have h1 : IsIntN (w.heap.size + 1 + 1 + 1) w' (ρ (.tmp 22)) _ _ := hd1 rfl
    have h2 : IsIntN (w.heap.size + 1 + 1 + 1) w' (ρ (.tmp 26)) _ _ := hd2 rfl
    obtain ⟨b1, d1, b2, d2, e1, e2, hr⟩ := ratN_of h1 h2
    simp [go_sem, e1, e2]
    exact ⟨Ext.rfl', hr⟩
  · intro w' hC
    rintro _ rfl _ rfl _ rfl _ rfl _ rfl _ rfl _ rfl _ rfl v8 h8 v9 h9 _ rfl _ rfl v12 h12 v13 h13 v14 ⟨s, t, rfl, hx, hy, fx, fy⟩
    change wpList _ _ _ (List.drop 15 _) _ _
    simp only [List.drop_succ_cons, List.drop_zero]
    obtain ⟨hr, hrl⟩ := hres.out w' hC
    obtain ⟨u0, r0, f0⟩ := hr 0 (by omega)
    obtain ⟨u1, r1, f1⟩ := hr 1 (by omega)
    obtain ⟨u2, r2, f2⟩ := hr 2 (by omega)
    obtain ⟨u3, r3, f3⟩ := hr 3 (by omega)
    obtain ⟨b1, d1, rfl⟩ := hx.shape
    obtain ⟨b2, d2, rfl⟩ := hy.shape
    have HX := Lib.hid (Ext.trans' HW.out hC)
    have F := Lib.hid (And.intro hx (And.intro hy (And.intro fx fy)))
    clear hr h8 h9 h12 h13 hx hy fx fy
    go_wp2_with fail
    refine bodyPost_ret (v := .agg #[.bool ng, .slice b1 (Na.digs (Na.val l / (Na.val l).gcd (Na.val m))).length d1, .bool false, .slice b2 (Na.digs (Na.val m / (Na.val l).gcd (Na.val m))).length d2]) (by simp [results, Tryd.results92, go_sem, r0, r1, r2, r3]) rfl ⟨_, rfl, ⟨_, _, rfl, ?_, ?_, ?_, ?_⟩, ?_⟩
    · exact F.out.1.ch (((((Ch.refl _ _).setCell _ _).setCell _ _).setCell _ _).setCell _ _) (fun _ => F.out.2.2.1.off (Nat.lt_succ_self _))
    · exact F.out.2.1.ch (((((Ch.refl _ _).setCell _ _).setCell _ _).setCell _ _).setCell _ _) (fun _ => F.out.2.2.2.off (Nat.lt_succ_self _))
    · exact F.out.2.2.1.mono (by omega)
    · exact F.out.2.2.2.mono (by omega)
    · exact (((HX.out.setCell (p := ⟨_, 0, none⟩) (by simp only; omega) _).setCell (p := ⟨_, 1, none⟩) (by simp only; omega) _).setCell (p := ⟨_, 2, none⟩) (by simp only; omega) _).setCell (p := ⟨_, 3, none⟩) (by simp only; omega) _
end Go.Proofs.YtnenbmbgmmeiaaaDoor
