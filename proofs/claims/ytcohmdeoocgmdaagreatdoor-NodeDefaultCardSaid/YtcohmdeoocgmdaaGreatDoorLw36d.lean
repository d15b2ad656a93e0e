/- The law NodeDefault. -/
import Derived.Test.YtcohmdeoocgmdaaGreatDoorDef36
import Derived.Test.YtcohmdeoocgmdaaGreatDoorOpn36
namespace Go.Proofs.YtcohmdeoocgmdaaGreatDoor
open Go.RowKit
variable {α : Type} {K : Nat}
set_option linter.unusedVariables false
theorem TI.fit {w : World} {t : AffD} (h : TI w t) (hK : 1 ≤ K) : t.fit K := by
  obtain ⟨h1, h2, h3, h4, h5, h6⟩ := h.2.fit qI_len
  exact ⟨h1.mono hK, h2.mono hK, h3.mono hK, h4.mono hK, h5.mono hK, h6.mono hK⟩
theorem IsDef.ok {w : World} {id kind : Int} {nd : NodeD} (h : IsDef w id kind nd) (hi : I64 id) (hK : 1 ≤ K) (hK2 : K ≤ 10000) : NodeOk K w nd := by
  rcases h with ⟨-, t, ht, rfl⟩ | ⟨-, t, ht, rfl⟩ | ⟨-, t, b, ht, hb, rfl⟩ | ⟨-, rfl⟩
  · exact ⟨⟨hi, (show I64 1 by decide), i64_0, ht.1, nil_segs w, i64_0, (show I64 1 by decide), nil_segs w, i64_0, nil_paints w, StyleD.bare_ok w, nil_paints w, ImgD.bare_ok w, i64_0⟩, ht.fit hK, fun p hp => (by cases hp), fun p hp => (by cases hp), hK, hK2⟩
  · exact shapeD_ok hi ht.1 (ht.fit (Nat.le_refl 1)) hK hK2
  · refine ⟨⟨hi, (show I64 3 by decide), i64_0, ht.1, nil_segs w, i64_0, i64_0, nil_segs w, i64_0, nil_paints w, StyleD.bare_ok w, nil_paints w, ⟨(show I64 1 by decide), (show I64 1 by decide), ?_⟩, (show I64 1 by decide)⟩, ht.fit hK, fun p hp => (by cases hp), fun p hp => (by cases hp), hK, hK2⟩
    refine ⟨some ⟨b, 0, none⟩, 1, rfl, by decide, .inr ⟨b, 0, rfl, hb.1, Nat.le_refl _, fun i hi j hj => ?_⟩⟩
    obtain rfl : i = 0 := by simp [imageD] at hi; exact hi
    have := hb.2.1 j
    rw [show 0 + 0 * 4 + j = j by omega, this]
    show _ = (PixD.cells pix0)[j]?
    rw [← List.getElem?_toArray]
    rfl
  · exact nodeD0_ok w hK hK2
theorem IsDef.key {w w2 : World} {id kind : Int} {nd m : NodeD} (h : IsDef w id kind nd) (k : IsDef w2 id kind m) : nd.key = m.key ∧ nd.t.same m.t = true := by
  have hs : qI.same qI = true := by decide
  rcases h with ⟨rfl, t, ht, rfl⟩ | ⟨rfl, t, ht, rfl⟩ | ⟨rfl, t, b, ht, -, rfl⟩ | ⟨⟨k1, k2, k3⟩, rfl⟩ <;>
  rcases k with ⟨e, u, hu, rfl⟩ | ⟨e, u, hu, rfl⟩ | ⟨e, u, c, hu, -, rfl⟩ | ⟨⟨j1, j2, j3⟩, rfl⟩ <;>
  first | contradiction | (exact absurd e (by decide)) | skip
  · exact ⟨by unfold NodeD.key groupD; simp only [ht.2.q qI_nrm, hu.2.q qI_nrm], by show t.same u = true; rw [same_is ht.2 hu.2, hs]⟩
  · exact ⟨by unfold NodeD.key shapeD; simp only [ht.2.q qI_nrm, hu.2.q qI_nrm], by show t.same u = true; rw [same_is ht.2 hu.2, hs]⟩
  · exact ⟨by unfold NodeD.key imageD ImgD.key; simp only [ht.2.q qI_nrm, hu.2.q qI_nrm], by show t.same u = true; rw [same_is ht.2 hu.2, hs]⟩
  · exact ⟨rfl, by decide⟩
theorem IsDef.check {w : World} {id kind : Int} {nd : NodeD} (h : IsDef w id kind nd) : (nd.checkN == 0) = ((((decide (1 ≤ id)) && (decide (id ≤ 1073741824))) && (decide (1 ≤ kind))) && (decide (kind ≤ 3))) := by
  have hv : qI.valid = true := by decide
  have hd : qeq qI.det q0 = false := by decide
  have key : ∀ (n : NodeD), n.commonL = [(false, 2), ((((decide (id < 1)) || (decide (1073741824 < id))) || false) || false, 6), (!n.t.q.valid, 5), (qeq n.t.q.det q0, 9), (false, 10), (false, 17)] → n.t.q = qI → n.ownN = 0 → (n.checkN == 0) = ((decide (1 ≤ id)) && (decide (id ≤ 1073741824))) := by
    intro n hL hq ho
    unfold NodeD.checkN
    rw [hL, hq, hv, hd, ho]
    rw [Bool.eq_iff_iff]
    by_cases h1 : id < 1
    · simp [badL, codeL, h1]; omega
    · by_cases h2 : 1073741824 < id
      · simp [badL, codeL, h2]
        try omega
      · simp [badL, codeL, h1, h2]; omega
  rcases h with ⟨rfl, t, ht, rfl⟩ | ⟨rfl, t, ht, rfl⟩ | ⟨rfl, t, b, ht, -, rfl⟩ | ⟨⟨k1, k2, k3⟩, rfl⟩
  · rw [key _ rfl (ht.2.q qI_nrm) rfl]; simp
  · rw [key _ rfl (ht.2.q qI_nrm) rfl]; simp
  · rw [key _ rfl (ht.2.q qI_nrm) rfl]; simp
  · rw [nodeD0_check]
    symm
    rw [Bool.eq_iff_iff]
    simp only [Bool.and_eq_true, decide_eq_true_eq, beq_iff_eq]
    omega
set_option maxRecDepth 100000 in
set_option maxHeartbeats 3200000 in
theorem nodeDefaultLaw_any {w : World} {id kind : Int} (hi : I64 id) (hk : I64 kind) (hg : GlobOk w) :
    Calls Tryz.prog 6 #[.int .i64 id, .int .i64 kind] w fun e w' => e = .returned (.bool true) ∧ Ext w w' := by
  skip
  refine Sx.enter Tryz.func6 Tryz.ntmps6 (fun ac S => ?_)
  refine Sx.seqP (fun _ κ1 => ?_)
  refine Sx.run S 1 [] [(4, .bool false)] (fun ac S => ?_)
  refine Sx.done (κ1 _ _ ?_)
  refine Sx.seqP (fun _ κ2 => ?_)
  refine Sx.run S 2 [] [(8, .int .i64 id), (9, .int .i64 kind)] (fun ac S => ?_)
  refine Sx.callG S (some 10) (nodeDefault_any id kind _) ?_
  rintro e u ⟨nd, rfl, dnd, E3⟩
  refine ⟨_, rfl, E3, fun ac S => ?_⟩
  refine Sx.newp S 5 (Sx.L [.int .i64 0, .int .i64 0, .int .i64 0] ++ Sx.za ++ Sx.L [.slice none 0 0, .int .i64 0, .int .u8 0, .int .i64 0, .bool false, .bool false, .slice none 0 0, .int .i64 0, .slice none 0 0, .int .i64 0, .int .i64 0, .int .i64 0, .int .i64 0, .slice none 0 0, .int .i64 0, .slice none 0 0, .int .i64 0, .int .i64 0, .slice none 0 0, .int .i64 0]) (fun ac u b4 E5 hb6 S => ?_)
  refine Sx.store S 0 (off := 0) (cs := nd.cells) rfl (fun u C7 S => ?_)
  have E8 := Sx.ext_ch E5 C7 (by omega)
  refine Sx.done (κ2 _ _ ?_)
  refine Sx.seqP (fun _ κ9 => ?_)
  refine Sx.run S 2 [] [(11, .int .i64 id), (12, .int .i64 kind)] (fun ac S => ?_)
  refine Sx.callG S (some 13) (r36Default_any id kind _) ?_
  rintro e u ⟨m, rfl, dm, E10⟩
  refine ⟨_, rfl, E10, fun ac S => ?_⟩
  refine Sx.newp S 6 (Sx.L [.int .i64 0, .int .i64 0, .int .i64 0] ++ Sx.za ++ Sx.L [.slice none 0 0, .int .i64 0, .int .u8 0, .int .i64 0, .bool false, .bool false, .slice none 0 0, .int .i64 0, .slice none 0 0, .int .i64 0, .int .i64 0, .int .i64 0, .int .i64 0, .slice none 0 0, .int .i64 0, .slice none 0 0, .int .i64 0, .int .i64 0, .slice none 0 0, .int .i64 0]) (fun ac u b11 E12 hb13 S => ?_)
  refine Sx.store S 0 (off := 0) (cs := m.cells) rfl (fun u C14 S => ?_)
  have E15 := Sx.ext_ch (Ext.trans' E8 (Ext.trans' E10 E12)) C14 (by have := (Ext.trans' E8 E10).size; omega)
  have E16 := Sx.ext_ch E12 C14 (by omega)
  refine Sx.done (κ9 _ _ ?_)
  refine Sx.seqP (fun _ κ17 => ?_)
  refine Sx.run S 15 [] [(7, .bool ((((decide (1 ≤ id)) && (decide (id ≤ 1073741824))) && (decide (1 ≤ kind))) && (decide (kind ≤ 3))))] (fun ac S => ?_)
  refine Sx.done (κ17 _ _ ?_)
  refine Sx.seqP (fun _ κ18 => ?_)
  refine Sx.run S 2 [.mem 1 0, .mem 0 0] [(28, nd.v), (29, m.v)] (fun ac S => ?_)
  refine Sx.callv S 30 (r36Equal_any (IsDef.ok (K := 1) (IsDef.below dnd E15) hi (by decide) (by decide)) (IsDef.ok (K := 1) (IsDef.below dm E16) hi (by decide) (by decide))) (fun ac u E19 S => ?_)
  refine Sx.runC S 17 [.mem 1 3, .mem 0 3, .mem 1 0] [(_, _, (nd.eqR m), .bool (nd.t.same m.t)), (_, _, ((nd.eqR m) && (nd.t.same m.t)), .bool (nd.checkN == 0)), (_, _, (((nd.eqR m) && (nd.t.same m.t)) && ((nd.checkN == 0) == ((((decide (1 ≤ id)) && (decide (id ≤ 1073741824))) && (decide (1 ≤ kind))) && (decide (kind ≤ 3))))), .bool true)] [(4, .bool ((((nd.eqR m) && (nd.t.same m.t)) && ((nd.checkN == 0) == ((((decide (1 ≤ id)) && (decide (id ≤ 1073741824))) && (decide (1 ≤ kind))) && (decide (kind ≤ 3))))) && true))] ⟨fun u hC g => refFields_raw (t := nd.t) (t2 := m.t) (IsDef.ok (K := 1) (IsDef.below dnd (Ext.trans' E15 (Ext.trans' E19 hC))) hi (by decide) (by decide)).1.2.2.2.1 (IsDef.ok (K := 1) (IsDef.below dm (Ext.trans' E16 (Ext.trans' E19 hC))) hi (by decide) (by decide)).1.2.2.2.1, fun u hC g => nodeValid_any (IsDef.ok (K := 1) (IsDef.below dnd (Ext.trans' E15 (Ext.trans' E19 hC))) hi (by decide) (by decide)) (hg.below (Ext.trans' S.E hC)), fun u hC g => example_any (hg.below (Ext.trans' S.E hC)), trivial⟩ (fun ac u E20 S => ?_)
  refine Sx.done (κ18 _ _ ?_)
  refine Vp.rt ?_
  refine Sx.ret1 S Tryz.results6 ?_
  exact ⟨ret_bool (by rw [eqR_key (IsDef.ok (K := 1) (IsDef.below dnd (Ext.trans' E15 (Ext.trans' E19 E20))) hi (by decide) (by decide)).nrm (IsDef.ok (K := 1) (IsDef.below dm (Ext.trans' E16 (Ext.trans' E19 E20))) hi (by decide) (by decide)).nrm, (IsDef.key (IsDef.below dnd (Ext.trans' E15 (Ext.trans' E19 E20))) (IsDef.below dm (Ext.trans' E16 (Ext.trans' E19 E20)))).1, (IsDef.key (IsDef.below dnd (Ext.trans' E15 (Ext.trans' E19 E20))) (IsDef.below dm (Ext.trans' E16 (Ext.trans' E19 E20)))).2, IsDef.check (IsDef.below dnd (Ext.trans' E15 (Ext.trans' E19 E20)))]; simp), S.E⟩
end Go.Proofs.YtcohmdeoocgmdaaGreatDoor
