/- Walks of package affine by value: Valid, Det, Equal. -/
import Derived.Test.YtfmkkemfhjkajaaGreatDoorAffF
import Derived.Test.YtfmkkemfhjkajaaGreatDoorPk11
set_option maxHeartbeats 3200000
set_option maxRecDepth 100000
namespace Go.Proofs.YtfmkkemfhjkajaaGreatDoor
open Go.RowKit
variable{α:Type}
set_option linter.unusedVariables false
theorem qb_yes{n:Nat}(h:decide (256<(n:Int))=false):decide (n≤256)=true:=by
  simp only[decide_eq_true_eq,decide_eq_false_iff_not]at h ⊢
  omega
theorem qb_no{n:Nat}(h:decide (256<(n:Int))=true):decide (n≤256)=false:=by
  simp only[decide_eq_true_eq,decide_eq_false_iff_not]at h ⊢
  omega
theorem qe_yes{p q:Bool×Nat×Nat}(h:(qcmp p q != 0)=false):qeq p q=true:=by unfold qeq; simpa[bne]using h
theorem qe_no{p q:Bool×Nat×Nat}(h:(qcmp p q != 0)=true):qeq p q=false:=by unfold qeq; simpa[bne]using h
theorem affValid_q(v:Value)(Q:Q6)(K:Nat)(w:World)(h:IsAffQ K w v Q)(hK1:1≤K)(hK:K≤100000) :
    Calls Tryz.prog 115 #[v] w fun e w'=>e = .returned (.bool Q.valid)∧Ext w w':=by
  have hq:=h
  obtain⟨nr0,nr1,nr2,nr3,nr4,nr5⟩:=h.nrm
  obtain⟨ln0,ln1,ln2,ln3,ln4,ln5⟩:=h.len hK1
  obtain⟨t,rfl,h0,h1,h2,h3,h4,h5⟩:=h.sQ
  refine Sx.enter Tryz.func115 Tryz.ntmps115 fun ac S=>Sx.seqP fun _ κ1=>Sx.newp S 1 t.cells fun ac u b2 E3 hb4 S=>Sx.run S 1 [] [(2,.bool false)] fun ac S=>Sx.done<|κ1 _ _<|wp_seq_k fun _ κ5=>Sx.seqP fun _ κ6=>Sx.run S 1 [.mem 0 0] [(5,t.v)] fun ac S=>Sx.callG S (some 6) (numbers_q _ Q K _ (hq.belowQ S.E) (by omega)) ?_
  rintro e u ⟨x,rfl,hm,E7⟩
  obtain⟨m,rfl,-⟩:=hm.sT
  refine⟨_,rfl,E7,fun ac S=>?_⟩
  refine Sx.run S 1 [] [(7,.int .i64 0)] fun ac S=>Sx.done<|κ6 _ _<|wp_block<|wp_loop_rounds 7 ?_
  rw[rounds_succ]
  refine Sx.seqP fun _ κ8=>Sx.run S 1 [] [(8,.bool true)] fun ac S=>Sx.done<|κ8 _ _<|wp_seq_k fun _ κ9=>Sx.condT S<|wp_skip<|κ9 _ _<|wp_seq_k fun _ κ10=>wp_block<|Sx.seqP fun _ κ11=>Sx.run S 1 [] [(9,m.a.v)] fun ac S=>Sx.newp S 4 Sx.zr fun ac u b12 E13 hb14 S=>Sx.store S 0 (off:=0) (cs:=m.a.cells) rfl (fun u C15 S=>?_)
  have E16:=Sx.ext_ch E13 C15 (by omega)
  refine Sx.done<|κ11 _ _<|Sx.seqP fun _ κ17=>Sx.run S 1 [.mem 0 0] [(10,m.a.v)] fun ac S=>Sx.callv S 11 (ratBitLen_q _ Q.a K _ (IsRatN.toQ (hm.extT E16).pa nr0 ln0) hK1 (by omega)) fun ac u E18 S=>Sx.run S 1 [] [(12,.bool (decide (256<(qbits Q.a:Int))))] fun ac S=>Sx.done (κ17 _ _ ?_)
  refine Sx.cond S (fun hc19=>?_) (fun hc19=>?_)
  · refine Sx.seqP fun _ κ20=>Sx.run S 1 [] [(2,.bool false)] fun ac S=>Sx.done<|κ20 _ _<|Vp.rt ?_
    have g0:decide (qbits Q.a≤256)=false:=qb_no hc19
    refine Sx.ret1 S Tryz.results115 ?_
    exact⟨by rw[show Q.valid=false from by simp[Q6.valid,g0]],S.E⟩
  · refine wp_skip<|κ10 _ _<|Vp.region<|Sx.run S 2 [] [(7,.int .i64 1)] fun ac S=>Sx.done ?_
    show Code.rounds _ _ _ 6 _ _
    rw[rounds_succ]
    refine Sx.seqP fun _ κ21=>Sx.run S 1 [] [(8,.bool true)] fun ac S=>Sx.done<|κ21 _ _<|wp_seq_k fun _ κ22=>Sx.condT S<|wp_skip<|κ22 _ _<|wp_seq_k fun _ κ23=>wp_block<|Sx.seqP fun _ κ24=>Sx.run S 1 [] [(9,m.b.v)] fun ac S=>Sx.newp S 4 Sx.zr fun ac u b25 E26 hb27 S=>Sx.store S 0 (off:=0) (cs:=m.b.cells) rfl (fun u C28 S=>?_)
    have E29:=Sx.ext_ch (Ext.trans' E16 (Ext.trans' E18 E26)) C28 (by have:=(Ext.trans' E16 E18).size; omega)
    refine Sx.done<|κ24 _ _<|Sx.seqP fun _ κ30=>Sx.run S 1 [.mem 0 0] [(10,m.b.v)] fun ac S=>Sx.callv S 11 (ratBitLen_q _ Q.b K _ (IsRatN.toQ (hm.extT E29).pb nr1 ln1) hK1 (by omega)) fun ac u E31 S=>Sx.run S 1 [] [(12,.bool (decide (256<(qbits Q.b:Int))))] fun ac S=>Sx.done (κ30 _ _ ?_)
    refine Sx.cond S (fun hc32=>?_) (fun hc32=>?_)
    · refine Sx.seqP fun _ κ33=>Sx.run S 1 [] [(2,.bool false)] fun ac S=>Sx.done<|κ33 _ _<|Vp.rt ?_
      have g0:decide (qbits Q.a≤256)=true:=qb_yes hc19
      have g1:decide (qbits Q.b≤256)=false:=qb_no hc32
      refine Sx.ret1 S Tryz.results115 ?_
      exact⟨by rw[show Q.valid=false from by simp[Q6.valid,g0,g1]],S.E⟩
    · refine wp_skip<|κ23 _ _<|Vp.region<|Sx.run S 2 [] [(7,.int .i64 2)] fun ac S=>Sx.done ?_
      show Code.rounds _ _ _ 5 _ _
      rw[rounds_succ]
      refine Sx.seqP fun _ κ34=>Sx.run S 1 [] [(8,.bool true)] fun ac S=>Sx.done<|κ34 _ _<|wp_seq_k fun _ κ35=>Sx.condT S<|wp_skip<|κ35 _ _<|wp_seq_k fun _ κ36=>wp_block<|Sx.seqP fun _ κ37=>Sx.run S 1 [] [(9,m.c.v)] fun ac S=>Sx.newp S 4 Sx.zr fun ac u b38 E39 hb40 S=>Sx.store S 0 (off:=0) (cs:=m.c.cells) rfl (fun u C41 S=>?_)
      have E42:=Sx.ext_ch (Ext.trans' E29 (Ext.trans' E31 E39)) C41 (by have:=(Ext.trans' E29 E31).size; omega)
      refine Sx.done<|κ37 _ _<|Sx.seqP fun _ κ43=>Sx.run S 1 [.mem 0 0] [(10,m.c.v)] fun ac S=>Sx.callv S 11 (ratBitLen_q _ Q.c K _ (IsRatN.toQ (hm.extT E42).pc nr2 ln2) hK1 (by omega)) fun ac u E44 S=>Sx.run S 1 [] [(12,.bool (decide (256<(qbits Q.c:Int))))] fun ac S=>Sx.done (κ43 _ _ ?_)
      refine Sx.cond S (fun hc45=>?_) (fun hc45=>?_)
      · refine Sx.seqP fun _ κ46=>Sx.run S 1 [] [(2,.bool false)] fun ac S=>Sx.done<|κ46 _ _<|Vp.rt ?_
        have g0:decide (qbits Q.a≤256)=true:=qb_yes hc19
        have g1:decide (qbits Q.b≤256)=true:=qb_yes hc32
        have g2:decide (qbits Q.c≤256)=false:=qb_no hc45
        refine Sx.ret1 S Tryz.results115 ?_
        exact⟨by rw[show Q.valid=false from by simp[Q6.valid,g0,g1,g2]],S.E⟩
      · refine wp_skip<|κ36 _ _<|Vp.region<|Sx.run S 2 [] [(7,.int .i64 3)] fun ac S=>Sx.done ?_
        show Code.rounds _ _ _ 4 _ _
        rw[rounds_succ]
        refine Sx.seqP fun _ κ47=>Sx.run S 1 [] [(8,.bool true)] fun ac S=>Sx.done<|κ47 _ _<|wp_seq_k fun _ κ48=>Sx.condT S<|wp_skip<|κ48 _ _<|wp_seq_k fun _ κ49=>wp_block<|Sx.seqP fun _ κ50=>Sx.run S 1 [] [(9,m.d.v)] fun ac S=>Sx.newp S 4 Sx.zr fun ac u b51 E52 hb53 S=>Sx.store S 0 (off:=0) (cs:=m.d.cells) rfl (fun u C54 S=>?_)
        have E55:=Sx.ext_ch (Ext.trans' E42 (Ext.trans' E44 E52)) C54 (by have:=(Ext.trans' E42 E44).size; omega)
        refine Sx.done<|κ50 _ _<|Sx.seqP fun _ κ56=>Sx.run S 1 [.mem 0 0] [(10,m.d.v)] fun ac S=>Sx.callv S 11 (ratBitLen_q _ Q.d K _ (IsRatN.toQ (hm.extT E55).pd nr3 ln3) hK1 (by omega)) fun ac u E57 S=>Sx.run S 1 [] [(12,.bool (decide (256<(qbits Q.d:Int))))] fun ac S=>Sx.done (κ56 _ _ ?_)
        refine Sx.cond S (fun hc58=>?_) (fun hc58=>?_)
        · refine Sx.seqP fun _ κ59=>Sx.run S 1 [] [(2,.bool false)] fun ac S=>Sx.done<|κ59 _ _<|Vp.rt ?_
          have g0:decide (qbits Q.a≤256)=true:=qb_yes hc19
          have g1:decide (qbits Q.b≤256)=true:=qb_yes hc32
          have g2:decide (qbits Q.c≤256)=true:=qb_yes hc45
          have g3:decide (qbits Q.d≤256)=false:=qb_no hc58
          refine Sx.ret1 S Tryz.results115 ?_
          exact⟨by rw[show Q.valid=false from by simp[Q6.valid,g0,g1,g2,g3]],S.E⟩
        · refine wp_skip<|κ49 _ _<|Vp.region<|Sx.run S 2 [] [(7,.int .i64 4)] fun ac S=>Sx.done ?_
          show Code.rounds _ _ _ 3 _ _
          rw[rounds_succ]
          refine Sx.seqP fun _ κ60=>Sx.run S 1 [] [(8,.bool true)] fun ac S=>Sx.done<|κ60 _ _<|wp_seq_k fun _ κ61=>Sx.condT S<|wp_skip<|κ61 _ _<|wp_seq_k fun _ κ62=>wp_block<|Sx.seqP fun _ κ63=>Sx.run S 1 [] [(9,m.e.v)] fun ac S=>Sx.newp S 4 Sx.zr fun ac u b64 E65 hb66 S=>Sx.store S 0 (off:=0) (cs:=m.e.cells) rfl (fun u C67 S=>?_)
          have E68:=Sx.ext_ch (Ext.trans' E55 (Ext.trans' E57 E65)) C67 (by have:=(Ext.trans' E55 E57).size; omega)
          refine Sx.done<|κ63 _ _<|Sx.seqP fun _ κ69=>Sx.run S 1 [.mem 0 0] [(10,m.e.v)] fun ac S=>Sx.callv S 11 (ratBitLen_q _ Q.e K _ (IsRatN.toQ (hm.extT E68).pe nr4 ln4) hK1 (by omega)) fun ac u E70 S=>Sx.run S 1 [] [(12,.bool (decide (256<(qbits Q.e:Int))))] fun ac S=>Sx.done (κ69 _ _ ?_)
          refine Sx.cond S (fun hc71=>?_) (fun hc71=>?_)
          · refine Sx.seqP fun _ κ72=>Sx.run S 1 [] [(2,.bool false)] fun ac S=>Sx.done<|κ72 _ _<|Vp.rt ?_
            have g0:decide (qbits Q.a≤256)=true:=qb_yes hc19
            have g1:decide (qbits Q.b≤256)=true:=qb_yes hc32
            have g2:decide (qbits Q.c≤256)=true:=qb_yes hc45
            have g3:decide (qbits Q.d≤256)=true:=qb_yes hc58
            have g4:decide (qbits Q.e≤256)=false:=qb_no hc71
            refine Sx.ret1 S Tryz.results115 ?_
            exact⟨by rw[show Q.valid=false from by simp[Q6.valid,g0,g1,g2,g3,g4]],S.E⟩
          · refine wp_skip<|κ62 _ _<|Vp.region<|Sx.run S 2 [] [(7,.int .i64 5)] fun ac S=>Sx.done ?_
            show Code.rounds _ _ _ 2 _ _
            rw[rounds_succ]
            refine Sx.seqP fun _ κ73=>Sx.run S 1 [] [(8,.bool true)] fun ac S=>Sx.done<|κ73 _ _<|wp_seq_k fun _ κ74=>Sx.condT S<|wp_skip<|κ74 _ _<|wp_seq_k fun _ κ75=>wp_block<|Sx.seqP fun _ κ76=>Sx.run S 1 [] [(9,m.f.v)] fun ac S=>Sx.newp S 4 Sx.zr fun ac u b77 E78 hb79 S=>Sx.store S 0 (off:=0) (cs:=m.f.cells) rfl (fun u C80 S=>?_)
            have E81:=Sx.ext_ch (Ext.trans' E68 (Ext.trans' E70 E78)) C80 (by have:=(Ext.trans' E68 E70).size; omega)
            refine Sx.done<|κ76 _ _<|Sx.seqP fun _ κ82=>Sx.run S 1 [.mem 0 0] [(10,m.f.v)] fun ac S=>Sx.callv S 11 (ratBitLen_q _ Q.f K _ (IsRatN.toQ (hm.extT E81).pf nr5 ln5) hK1 (by omega)) fun ac u E83 S=>Sx.run S 1 [] [(12,.bool (decide (256<(qbits Q.f:Int))))] fun ac S=>Sx.done (κ82 _ _ ?_)
            refine Sx.cond S (fun hc84=>?_) (fun hc84=>?_)
            · refine Sx.seqP fun _ κ85=>Sx.run S 1 [] [(2,.bool false)] fun ac S=>Sx.done<|κ85 _ _<|Vp.rt ?_
              have g0:decide (qbits Q.a≤256)=true:=qb_yes hc19
              have g1:decide (qbits Q.b≤256)=true:=qb_yes hc32
              have g2:decide (qbits Q.c≤256)=true:=qb_yes hc45
              have g3:decide (qbits Q.d≤256)=true:=qb_yes hc58
              have g4:decide (qbits Q.e≤256)=true:=qb_yes hc71
              have g5:decide (qbits Q.f≤256)=false:=qb_no hc84
              refine Sx.ret1 S Tryz.results115 ?_
              exact⟨by rw[show Q.valid=false from by simp[Q6.valid,g0,g1,g2,g3,g4,g5]],S.E⟩
            · refine wp_skip<|κ75 _ _<|Vp.region<|Sx.run S 2 [] [(7,.int .i64 6)] fun ac S=>Sx.done ?_
              show Code.rounds _ _ _ 1 _ _
              rw[rounds_succ]
              refine Sx.seqP fun _ κ86=>Sx.run S 1 [] [(8,.bool false)] fun ac S=>Sx.done<|κ86 _ _<|wp_seq_k fun _ κ87=>Sx.condF S<|wp_exit<|κ5 _ _<|Sx.seqP fun _ κ88=>Sx.run S 1 [] [(2,.bool true)] fun ac S=>Sx.done<|κ88 _ _<|Vp.rt ?_
              have g0:decide (qbits Q.a≤256)=true:=qb_yes hc19
              have g1:decide (qbits Q.b≤256)=true:=qb_yes hc32
              have g2:decide (qbits Q.c≤256)=true:=qb_yes hc45
              have g3:decide (qbits Q.d≤256)=true:=qb_yes hc58
              have g4:decide (qbits Q.e≤256)=true:=qb_yes hc71
              have g5:decide (qbits Q.f≤256)=true:=qb_yes hc84
              refine Sx.ret1 S Tryz.results115 ?_
              exact⟨by rw[show Q.valid=true from by simp[Q6.valid,g0,g1,g2,g3,g4,g5]],S.E⟩
theorem det_q(v:Value)(Q:Q6)(K:Nat)(w:World)(h:IsAffQ K w v Q)(hK1:1≤K)(hK:K≤10000) :
    Calls Tryz.prog 152 #[v] w fun e w'=>∃x,e = .returned x∧IsRatT w.heap.size w' x Q.det∧Ext w w':=by
  have hq:=h
  obtain⟨nr0,nr1,nr2,nr3,nr4,nr5⟩:=h.nrm
  obtain⟨ln0,ln1,ln2,ln3,ln4,ln5⟩:=h.len hK1
  obtain⟨t,rfl,h0,h1,h2,h3,h4,h5⟩:=h.sQ
  refine Sx.enter Tryz.func152 Tryz.ntmps152 fun ac S=>Sx.seqP fun _ κ1=>Sx.newp S 1 t.cells fun ac u b2 E3 hb4 S=>Sx.newp S 2 Sx.zr fun ac u b5 E6 hb7 S=>Sx.done<|κ1 _ _<|wp_seq_k fun _ κ8=>Sx.drawX S 11 [(7,fun v w1=>IsRatT w.heap.size w1 v (qmul Q.a Q.d)),(12,fun v w1=>IsRatT w.heap.size w1 v (qmul Q.b Q.c)),(13,fun v w1=>IsRatT w.heap.size w1 v Q.det)] (fun r=>[.mem 1 0,.mem 1 12,.mem 1 4,.mem 1 8]) (fun x=>[x 7,x 12,x 13]) (fun x=>[(_,_,true,x 7,7),(_,_,true,x 12,12),(_,_,true,x 13,13)]) [[],[],[7,12]] (fun x=>[(13,x 13)]) ⟨fun _ _ _ k h=>h.ext k,fun _ _ _ k h=>h.ext k,fun _ _ _ k h=>h.ext k,trivial⟩ (fun x=>⟨by intro u hC g F; exact(ratMul_q _ _ Q.a Q.d K K _ (h0.below (Ext.trans' S.E hC)) (h3.below (Ext.trans' S.E hC)) hK1 hK1 (by omega) (by omega)).mono fun e w2 h=>by obtain⟨y,rfl,hx,hb⟩:=h; exact⟨_,rfl,hx.mono ((Ext.trans' S.E hC)).size,hb⟩,by intro u hC g F; exact(ratMul_q _ _ Q.b Q.c K K _ (h1.below (Ext.trans' S.E hC)) (h2.below (Ext.trans' S.E hC)) hK1 hK1 (by omega) (by omega)).mono fun e w2 h=>by obtain⟨y,rfl,hx,hb⟩:=h; exact⟨_,rfl,hx.mono ((Ext.trans' S.E hC)).size,hb⟩,by intro u hC g F; obtain⟨F7,F12,-⟩:=F; exact(ratSub_q _ _ (qmul Q.a Q.d) (qmul Q.b Q.c) (K+K) (K+K) _ (IsRatN.toQ F7 (nz_nrm _ _) (qmul_len hK1 ln0 ln3)) (IsRatN.toQ F12 (nz_nrm _ _) (qmul_len hK1 ln1 ln2)) (by omega) (by omega) (by omega) (by omega)).mono fun e w2 h=>by obtain⟨y,rfl,hx,hb⟩:=h; exact⟨_,rfl,hx.mono ((Ext.trans' S.E hC)).size,hb⟩,trivial⟩) (fun ac u x E9 F S=>?_)
  obtain⟨F7,F12,F13,-⟩:=F
  obtain⟨m,em⟩:=IsRatN.shapeD F13
  rw[em]at S F13
  have X11:=S.bx 0
  refine Sx.store S 0 (off:=0) (cs:=m.cells) rfl (fun u C10 S=>?_)
  have F12:=IsRatN.setc F13 C10 X11
  refine Sx.done<|κ8 _ _<|Vp.rt ?_
  refine Sx.retc S 0 Tryz.results152 rfl (v:=m.v) ?_
  exact⟨_,rfl,F12,S.E⟩
theorem affEqual_q(v1 v2:Value)(P Q:Q6)(K:Nat)(w:World)(hp:IsAffQ K w v1 P)(hq:IsAffQ K w v2 Q)(hK1:1≤K)(hK:K≤10000) :
    Calls Tryz.prog 92 #[v1,v2] w fun e w'=>e = .returned (.bool (P.eq Q))∧Ext w w':=by
  obtain⟨pr0,pr1,pr2,pr3,pr4,pr5⟩:=hp.nrm
  obtain⟨pl0,pl1,pl2,pl3,pl4,pl5⟩:=hp.len hK1
  obtain⟨nr0,nr1,nr2,nr3,nr4,nr5⟩:=hq.nrm
  obtain⟨ln0,ln1,ln2,ln3,ln4,ln5⟩:=hq.len hK1
  obtain⟨t,rfl,-⟩:=hp.sQ
  obtain⟨s,rfl,-⟩:=hq.sQ
  refine Sx.enter Tryz.func92 Tryz.ntmps92 fun ac S=>Sx.seqP fun _ κ1=>Sx.newp S 2 t.cells fun ac u b2 E3 hb4 S=>Sx.newp S 3 s.cells fun ac u b5 E6 hb7 S=>Sx.run S 1 [] [(4,.bool false)] fun ac S=>Sx.done<|κ1 _ _<|wp_seq_k (fun _ κ8=>?_)
  have hold:=fun p hp=>(S.own p hp).1.1
  have hold0:=S.E.size
  refine Go.Rel.wp_regionP 6 4 5 (by kernel_rfl) (by rw[S.s.size]; kernel_rfl) Ext (fun w'=>Ext u w')
    [Rel.is (.agg #[.bool t.a.n1,t.a.s1,.bool t.a.n2,t.a.s2,.bool t.b.n1,t.b.s1,.bool t.b.n2,t.b.s2,.bool t.c.n1,t.c.s1,.bool t.c.n2,t.c.s2,.bool t.d.n1,t.d.s1,.bool t.d.n2,t.d.s2,.bool t.e.n1,t.e.s1,.bool t.e.n2,t.e.s2,.bool t.f.n1,t.f.s1,.bool t.f.n2,t.f.s2]),
   (fun v w'=>IsAffT w.heap.size w' v P),
   Rel.is (.agg #[.bool s.a.n1,s.a.s1,.bool s.a.n2,s.a.s2,.bool s.b.n1,s.b.s1,.bool s.b.n2,s.b.s2,.bool s.c.n1,s.c.s1,.bool s.c.n2,s.c.s2,.bool s.d.n1,s.d.s1,.bool s.d.n2,s.d.s2,.bool s.e.n1,s.e.s1,.bool s.e.n2,s.e.s2,.bool s.f.n1,s.f.s1,.bool s.f.n2,s.f.s2]),
   (fun v w'=>IsAffT w.heap.size w' v Q),
   (fun v w'=>NewB #[.bool false,.slice none 0 0,.bool false,.slice none 0 0,.bool false,.slice none 0 0,.bool false,.slice none 0 0,.bool false,.slice none 0 0,.bool false,.slice none 0 0,.bool false,.slice none 0 0,.bool false,.slice none 0 0,.bool false,.slice none 0 0,.bool false,.slice none 0 0,.bool false,.slice none 0 0,.bool false,.slice none 0 0] (u.heap.size) w' v),
   (fun v w'=>NewB #[.bool false,.slice none 0 0,.bool false,.slice none 0 0,.bool false,.slice none 0 0,.bool false,.slice none 0 0,.bool false,.slice none 0 0,.bool false,.slice none 0 0,.bool false,.slice none 0 0,.bool false,.slice none 0 0,.bool false,.slice none 0 0,.bool false,.slice none 0 0,.bool false,.slice none 0 0,.bool false,.slice none 0 0] (u.heap.size) w' v)]
    ?_ ?_ ?_ ?_ ⟨?_,?_,?_,?_,?_,?_,trivial⟩ ?_
  · exact below_drewN (Below.refl _ _) 1
  · exact fun _ _ h k=>Ext.trans' h k
  · exact Rel.Monos.mem ⟨Rel.mono_is _,fun _ _ _ k h=>h.extT k,Rel.mono_is _,fun _ _ _ k h=>h.extT k,fun _ _ _ k h=>h.ext k,fun _ _ _ k h=>h.ext k,trivial⟩
  · refine⟨by decide,fun i o hi ho=>?_,fun i hi u w' hT=>?_⟩
    · rcases hi with rfl | rfl
      all_goals
        obtain rfl:=Option.some.inj ho
        exact⟨_,_,rfl,rfl,rfl⟩
    · rcases hi with rfl | rfl
      · exact NewB.old hT
      · exact NewB.old hT
  · intro ρ w' hs ho hC hd
    have h2:ρ (.tmp 2) = .pointer (some ⟨b2,0,none⟩):=(ho 2 rfl).trans (S.s.ev rfl)
    exact Rel.does_load (cs:=[.bool t.a.n1,t.a.s1,.bool t.a.n2,t.a.s2,.bool t.b.n1,t.b.s1,.bool t.b.n2,t.b.s2,.bool t.c.n1,t.c.s1,.bool t.c.n2,t.c.s2,.bool t.d.n1,t.d.s1,.bool t.d.n2,t.d.s2,.bool t.e.n1,t.e.s1,.bool t.e.n2,t.e.s2,.bool t.f.n1,t.f.s1,.bool t.f.n2,t.f.s2]) rfl h2 ((S.bx 1).ext hC) rfl rfl Tryz.underlying33 rfl (by kernel_rfl) Ext.rfl' rfl
  · intro ρ w' hs ho hC hd
    have h9:ρ (.tmp 9) = .agg #[.bool t.a.n1,t.a.s1,.bool t.a.n2,t.a.s2,.bool t.b.n1,t.b.s1,.bool t.b.n2,t.b.s2,.bool t.c.n1,t.c.s1,.bool t.c.n2,t.c.s2,.bool t.d.n1,t.d.s1,.bool t.d.n2,t.d.s2,.bool t.e.n1,t.e.s1,.bool t.e.n2,t.e.s2,.bool t.f.n1,t.f.s1,.bool t.f.n2,t.f.s2]:=hd.1 rfl
    refine Rel.does_call (f:=135) (args := #[.agg #[.bool t.a.n1,t.a.s1,.bool t.a.n2,t.a.s2,.bool t.b.n1,t.b.s1,.bool t.b.n2,t.b.s2,.bool t.c.n1,t.c.s1,.bool t.c.n2,t.c.s2,.bool t.d.n1,t.d.s1,.bool t.d.n2,t.d.s2,.bool t.e.n1,t.e.s1,.bool t.e.n2,t.e.s2,.bool t.f.n1,t.f.s1,.bool t.f.n2,t.f.s2]]) (by simp[go_sem,hs.func,h9]) ?_
    refine(numbers_q _ P K w' (hp.belowQ (Ext.trans' S.E hC)) (by omega)).mono ?_
    rintro e w'' ⟨x,rfl,hx,hb⟩
    exact⟨_,rfl,hb,hx.monoT (Ext.trans' S.E hC).size⟩
  · intro ρ w' hs ho hC hd
    have h3:ρ (.tmp 3) = .pointer (some ⟨b5,0,none⟩):=(ho 3 rfl).trans (S.s.ev rfl)
    exact Rel.does_load (cs:=[.bool s.a.n1,s.a.s1,.bool s.a.n2,s.a.s2,.bool s.b.n1,s.b.s1,.bool s.b.n2,s.b.s2,.bool s.c.n1,s.c.s1,.bool s.c.n2,s.c.s2,.bool s.d.n1,s.d.s1,.bool s.d.n2,s.d.s2,.bool s.e.n1,s.e.s1,.bool s.e.n2,s.e.s2,.bool s.f.n1,s.f.s1,.bool s.f.n2,s.f.s2]) rfl h3 ((S.bx 0).ext hC) rfl rfl Tryz.underlying33 rfl (by kernel_rfl) Ext.rfl' rfl
  · intro ρ w' hs ho hC hd
    have h11:ρ (.tmp 11) = .agg #[.bool s.a.n1,s.a.s1,.bool s.a.n2,s.a.s2,.bool s.b.n1,s.b.s1,.bool s.b.n2,s.b.s2,.bool s.c.n1,s.c.s1,.bool s.c.n2,s.c.s2,.bool s.d.n1,s.d.s1,.bool s.d.n2,s.d.s2,.bool s.e.n1,s.e.s1,.bool s.e.n2,s.e.s2,.bool s.f.n1,s.f.s1,.bool s.f.n2,s.f.s2]:=hd.1 rfl
    refine Rel.does_call (f:=135) (args := #[.agg #[.bool s.a.n1,s.a.s1,.bool s.a.n2,s.a.s2,.bool s.b.n1,s.b.s1,.bool s.b.n2,s.b.s2,.bool s.c.n1,s.c.s1,.bool s.c.n2,s.c.s2,.bool s.d.n1,s.d.s1,.bool s.d.n2,s.d.s2,.bool s.e.n1,s.e.s1,.bool s.e.n2,s.e.s2,.bool s.f.n1,s.f.s1,.bool s.f.n2,s.f.s2]]) (by simp[go_sem,hs.func,h11]) ?_
    refine(numbers_q _ Q K w' (hq.belowQ (Ext.trans' S.E hC)) (by omega)).mono ?_
    rintro e w'' ⟨x,rfl,hx,hb⟩
    exact⟨_,rfl,hb,hx.monoT (Ext.trans' S.E hC).size⟩
  · intro ρ w' hs ho hC hd
    refine Rel.does_to (T:=fun v w'=>NewB #[.bool false,.slice none 0 0,.bool false,.slice none 0 0,.bool false,.slice none 0 0,.bool false,.slice none 0 0,.bool false,.slice none 0 0,.bool false,.slice none 0 0,.bool false,.slice none 0 0,.bool false,.slice none 0 0,.bool false,.slice none 0 0,.bool false,.slice none 0 0,.bool false,.slice none 0 0,.bool false,.slice none 0 0] (u.heap.size) w' v) (u := .pointer (some ⟨w'.heap.size,0,none⟩)) (w1:=w'.alloc (.cells #[.bool false,.slice none 0 0,.bool false,.slice none 0 0,.bool false,.slice none 0 0,.bool false,.slice none 0 0,.bool false,.slice none 0 0,.bool false,.slice none 0 0,.bool false,.slice none 0 0,.bool false,.slice none 0 0,.bool false,.slice none 0 0,.bool false,.slice none 0 0,.bool false,.slice none 0 0,.bool false,.slice none 0 0] 151)) (by simp[go_sem]) (below_alloc _ _) (newB_alloc _ _ _ hC.size)
  · intro ρ w' hs ho hC hd
    refine Rel.does_to (T:=fun v w'=>NewB #[.bool false,.slice none 0 0,.bool false,.slice none 0 0,.bool false,.slice none 0 0,.bool false,.slice none 0 0,.bool false,.slice none 0 0,.bool false,.slice none 0 0,.bool false,.slice none 0 0,.bool false,.slice none 0 0,.bool false,.slice none 0 0,.bool false,.slice none 0 0,.bool false,.slice none 0 0,.bool false,.slice none 0 0] (u.heap.size) w' v) (u := .pointer (some ⟨w'.heap.size,0,none⟩)) (w1:=w'.alloc (.cells #[.bool false,.slice none 0 0,.bool false,.slice none 0 0,.bool false,.slice none 0 0,.bool false,.slice none 0 0,.bool false,.slice none 0 0,.bool false,.slice none 0 0,.bool false,.slice none 0 0,.bool false,.slice none 0 0,.bool false,.slice none 0 0,.bool false,.slice none 0 0,.bool false,.slice none 0 0,.bool false,.slice none 0 0] 151)) (by simp[go_sem]) (below_alloc _ _) (newB_alloc _ _ _ hC.size)
  · intro u E9
    refine Vp.end_of _ _ _ _ S.s rfl ?_
    rintro _ rfl v10 h11 _ rfl v12 h13 v14 h15 v16 h17
    intro ac s
    intro hap
    have S:=(S.grow E9).act s
    have hne:v14≠v16:=fun e=>hap _ _ rfl rfl (by decide) (by decide) (((s.ev (x := .tmp 5) rfl).trans e).trans (s.ev (x := .tmp 6) rfl).symm)
    clear hap
    obtain⟨g18,rfl,hg19,X20⟩:=h15.bx
    obtain⟨g21,rfl,hg22,X23⟩:=h17.bx
    have hn:g18≠g21:=fun e=>hne (by rw[e])
    have S:=S.adopt (A:=Sx.za) X20 (by omega) (fun p hp=>by have:=hold p hp; omega) (fun m hm=>by cases hm)
    have S:=S.adopt (A:=Sx.za) X23 (by omega) (fun p hp=>by exact(List.mem_cons.1 hp).elim (fun e=>by rw[e]; exact hn) (fun hp=>by have:=hold p hp; omega)) (fun m hm=>by cases hm)
    clear s
    change wpList _ _ _ (List.drop 6 _) _ _
    obtain⟨m,rfl,-⟩:=h11.sT
    obtain⟨n,rfl,-⟩:=h13.sT
    have X25:=S.bx 1
    refine Sx.store S 1 (off:=0) (cs:=m.cells) rfl (fun u C24 S=>?_)
    have F26:=IsAffR.setc h11 C24 X25
    have F27:=IsAffR.setc h13 C24 X25
    have X29:=S.bx 0
    refine Sx.store S 0 (off:=0) (cs:=n.cells) rfl (fun u C28 S=>?_)
    have F30:=IsAffR.setc F26 C28 X29
    have F31:=IsAffR.setc F27 C28 X29
    refine Sx.done<|κ8 _ _<|wp_seq_k fun _ κ32=>Sx.seqP fun _ κ33=>Sx.run S 2 [.mem 1 0] [(13,m.v),(14,.int .i64 0)] fun ac S=>Sx.done<|κ33 _ _<|wp_block<|wp_loop_rounds 7 ?_
    rw[rounds_succ]
    refine Sx.seqP fun _ κ34=>Sx.run S 1 [] [(15,.bool true)] fun ac S=>Sx.done<|κ34 _ _<|wp_seq_k fun _ κ35=>Sx.condT S<|wp_skip<|κ35 _ _<|wp_seq_k fun _ κ36=>wp_block<|Sx.seqP fun _ κ37=>Sx.run S 2 [] [(16,.int .i64 0),(17,m.a.v)] fun ac S=>Sx.newp S 8 Sx.zr fun ac u b38 E39 hb40 S=>Sx.run S 1 [] [(7,.int .i64 0)] fun ac S=>Sx.store S 0 (off:=0) (cs:=m.a.cells) rfl (fun u C41 S=>?_)
    have E42:=Sx.ext_ch E39 C41 (by omega)
    have E43:=Sx.ext_ch E39 C41 (by omega)
    refine Sx.done<|κ37 _ _<|wp_seq_k fun _ κ44=>Sx.draw S 6 [.mem 0 0,.mem 1 0] [(_,_,true,.int .i64 (qcmp P.a Q.a))] [(23,.bool (((qcmp P.a Q.a)) != 0))] ⟨fun u hC g=>ratCmp_q _ _ P.a Q.a K K _ (IsRatN.toQ (F30.extT (Ext.trans' E42 hC)).pa pr0 pl0) (IsRatN.toQ (F31.extT (Ext.trans' E43 hC)).pa nr0 ln0) hK1 hK1 (by omega) (by omega),trivial⟩ fun ac u E45 S=>Sx.done (κ44 _ _ ?_)
    refine Sx.cond S (fun hc46=>?_) (fun hc46=>?_)
    · refine Sx.seqP fun _ κ47=>Sx.run S 1 [] [(4,.bool false)] fun ac S=>Sx.done<|κ47 _ _<|Vp.rt ?_
      have g0:qeq P.a Q.a=false:=qe_no hc46
      refine Sx.ret1 S Tryz.results92 ?_
      exact⟨by rw[show P.eq Q=false from by simp[Q6.eq,g0]],S.E⟩
    · refine wp_skip<|κ36 _ _<|Vp.region<|Sx.run S 2 [] [(14,.int .i64 1)] fun ac S=>Sx.done ?_
      show Code.rounds _ _ _ 6 _ _
      rw[rounds_succ]
      refine Sx.seqP fun _ κ48=>Sx.run S 1 [] [(15,.bool true)] fun ac S=>Sx.done<|κ48 _ _<|wp_seq_k fun _ κ49=>Sx.condT S<|wp_skip<|κ49 _ _<|wp_seq_k fun _ κ50=>wp_block<|Sx.seqP fun _ κ51=>Sx.run S 2 [] [(16,.int .i64 1),(17,m.b.v)] fun ac S=>Sx.newp S 8 Sx.zr fun ac u b52 E53 hb54 S=>Sx.run S 1 [] [(7,.int .i64 1)] fun ac S=>Sx.store S 0 (off:=0) (cs:=m.b.cells) rfl (fun u C55 S=>?_)
      have E56:=Sx.ext_ch (Ext.trans' E42 (Ext.trans' E45 E53)) C55 (by have:=(Ext.trans' E42 E45).size; omega)
      have E57:=Sx.ext_ch (Ext.trans' E43 (Ext.trans' E45 E53)) C55 (by have:=(Ext.trans' E43 E45).size; omega)
      refine Sx.done<|κ51 _ _<|wp_seq_k fun _ κ58=>Sx.draw S 6 [.mem 0 0,.mem 2 4] [(_,_,true,.int .i64 (qcmp P.b Q.b))] [(23,.bool (((qcmp P.b Q.b)) != 0))] ⟨fun u hC g=>ratCmp_q _ _ P.b Q.b K K _ (IsRatN.toQ (F30.extT (Ext.trans' E56 hC)).pb pr1 pl1) (IsRatN.toQ (F31.extT (Ext.trans' E57 hC)).pb nr1 ln1) hK1 hK1 (by omega) (by omega),trivial⟩ fun ac u E59 S=>Sx.done (κ58 _ _ ?_)
      refine Sx.cond S (fun hc60=>?_) (fun hc60=>?_)
      · refine Sx.seqP fun _ κ61=>Sx.run S 1 [] [(4,.bool false)] fun ac S=>Sx.done<|κ61 _ _<|Vp.rt ?_
        have g0:qeq P.a Q.a=true:=qe_yes hc46
        have g1:qeq P.b Q.b=false:=qe_no hc60
        refine Sx.ret1 S Tryz.results92 ?_
        exact⟨by rw[show P.eq Q=false from by simp[Q6.eq,g0,g1]],S.E⟩
      · refine wp_skip<|κ50 _ _<|Vp.region<|Sx.run S 2 [] [(14,.int .i64 2)] fun ac S=>Sx.done ?_
        show Code.rounds _ _ _ 5 _ _
        rw[rounds_succ]
        refine Sx.seqP fun _ κ62=>Sx.run S 1 [] [(15,.bool true)] fun ac S=>Sx.done<|κ62 _ _<|wp_seq_k fun _ κ63=>Sx.condT S<|wp_skip<|κ63 _ _<|wp_seq_k fun _ κ64=>wp_block<|Sx.seqP fun _ κ65=>Sx.run S 2 [] [(16,.int .i64 2),(17,m.c.v)] fun ac S=>Sx.newp S 8 Sx.zr fun ac u b66 E67 hb68 S=>Sx.run S 1 [] [(7,.int .i64 2)] fun ac S=>Sx.store S 0 (off:=0) (cs:=m.c.cells) rfl (fun u C69 S=>?_)
        have E70:=Sx.ext_ch (Ext.trans' E56 (Ext.trans' E59 E67)) C69 (by have:=(Ext.trans' E56 E59).size; omega)
        have E71:=Sx.ext_ch (Ext.trans' E57 (Ext.trans' E59 E67)) C69 (by have:=(Ext.trans' E57 E59).size; omega)
        refine Sx.done<|κ65 _ _<|wp_seq_k fun _ κ72=>Sx.draw S 6 [.mem 0 0,.mem 3 8] [(_,_,true,.int .i64 (qcmp P.c Q.c))] [(23,.bool (((qcmp P.c Q.c)) != 0))] ⟨fun u hC g=>ratCmp_q _ _ P.c Q.c K K _ (IsRatN.toQ (F30.extT (Ext.trans' E70 hC)).pc pr2 pl2) (IsRatN.toQ (F31.extT (Ext.trans' E71 hC)).pc nr2 ln2) hK1 hK1 (by omega) (by omega),trivial⟩ fun ac u E73 S=>Sx.done (κ72 _ _ ?_)
        refine Sx.cond S (fun hc74=>?_) (fun hc74=>?_)
        · refine Sx.seqP fun _ κ75=>Sx.run S 1 [] [(4,.bool false)] fun ac S=>Sx.done<|κ75 _ _<|Vp.rt ?_
          have g0:qeq P.a Q.a=true:=qe_yes hc46
          have g1:qeq P.b Q.b=true:=qe_yes hc60
          have g2:qeq P.c Q.c=false:=qe_no hc74
          refine Sx.ret1 S Tryz.results92 ?_
          exact⟨by rw[show P.eq Q=false from by simp[Q6.eq,g0,g1,g2]],S.E⟩
        · refine wp_skip<|κ64 _ _<|Vp.region<|Sx.run S 2 [] [(14,.int .i64 3)] fun ac S=>Sx.done ?_
          show Code.rounds _ _ _ 4 _ _
          rw[rounds_succ]
          refine Sx.seqP fun _ κ76=>Sx.run S 1 [] [(15,.bool true)] fun ac S=>Sx.done<|κ76 _ _<|wp_seq_k fun _ κ77=>Sx.condT S<|wp_skip<|κ77 _ _<|wp_seq_k fun _ κ78=>wp_block<|Sx.seqP fun _ κ79=>Sx.run S 2 [] [(16,.int .i64 3),(17,m.d.v)] fun ac S=>Sx.newp S 8 Sx.zr fun ac u b80 E81 hb82 S=>Sx.run S 1 [] [(7,.int .i64 3)] fun ac S=>Sx.store S 0 (off:=0) (cs:=m.d.cells) rfl (fun u C83 S=>?_)
          have E84:=Sx.ext_ch (Ext.trans' E70 (Ext.trans' E73 E81)) C83 (by have:=(Ext.trans' E70 E73).size; omega)
          have E85:=Sx.ext_ch (Ext.trans' E71 (Ext.trans' E73 E81)) C83 (by have:=(Ext.trans' E71 E73).size; omega)
          refine Sx.done<|κ79 _ _<|wp_seq_k fun _ κ86=>Sx.draw S 6 [.mem 0 0,.mem 4 12] [(_,_,true,.int .i64 (qcmp P.d Q.d))] [(23,.bool (((qcmp P.d Q.d)) != 0))] ⟨fun u hC g=>ratCmp_q _ _ P.d Q.d K K _ (IsRatN.toQ (F30.extT (Ext.trans' E84 hC)).pd pr3 pl3) (IsRatN.toQ (F31.extT (Ext.trans' E85 hC)).pd nr3 ln3) hK1 hK1 (by omega) (by omega),trivial⟩ fun ac u E87 S=>Sx.done (κ86 _ _ ?_)
          refine Sx.cond S (fun hc88=>?_) (fun hc88=>?_)
          · refine Sx.seqP fun _ κ89=>Sx.run S 1 [] [(4,.bool false)] fun ac S=>Sx.done<|κ89 _ _<|Vp.rt ?_
            have g0:qeq P.a Q.a=true:=qe_yes hc46
            have g1:qeq P.b Q.b=true:=qe_yes hc60
            have g2:qeq P.c Q.c=true:=qe_yes hc74
            have g3:qeq P.d Q.d=false:=qe_no hc88
            refine Sx.ret1 S Tryz.results92 ?_
            exact⟨by rw[show P.eq Q=false from by simp[Q6.eq,g0,g1,g2,g3]],S.E⟩
          · refine wp_skip<|κ78 _ _<|Vp.region<|Sx.run S 2 [] [(14,.int .i64 4)] fun ac S=>Sx.done ?_
            show Code.rounds _ _ _ 3 _ _
            rw[rounds_succ]
            refine Sx.seqP fun _ κ90=>Sx.run S 1 [] [(15,.bool true)] fun ac S=>Sx.done<|κ90 _ _<|wp_seq_k fun _ κ91=>Sx.condT S<|wp_skip<|κ91 _ _<|wp_seq_k fun _ κ92=>wp_block<|Sx.seqP fun _ κ93=>Sx.run S 2 [] [(16,.int .i64 4),(17,m.e.v)] fun ac S=>Sx.newp S 8 Sx.zr fun ac u b94 E95 hb96 S=>Sx.run S 1 [] [(7,.int .i64 4)] fun ac S=>Sx.store S 0 (off:=0) (cs:=m.e.cells) rfl (fun u C97 S=>?_)
            have E98:=Sx.ext_ch (Ext.trans' E84 (Ext.trans' E87 E95)) C97 (by have:=(Ext.trans' E84 E87).size; omega)
            have E99:=Sx.ext_ch (Ext.trans' E85 (Ext.trans' E87 E95)) C97 (by have:=(Ext.trans' E85 E87).size; omega)
            refine Sx.done<|κ93 _ _<|wp_seq_k fun _ κ100=>Sx.draw S 6 [.mem 0 0,.mem 5 16] [(_,_,true,.int .i64 (qcmp P.e Q.e))] [(23,.bool (((qcmp P.e Q.e)) != 0))] ⟨fun u hC g=>ratCmp_q _ _ P.e Q.e K K _ (IsRatN.toQ (F30.extT (Ext.trans' E98 hC)).pe pr4 pl4) (IsRatN.toQ (F31.extT (Ext.trans' E99 hC)).pe nr4 ln4) hK1 hK1 (by omega) (by omega),trivial⟩ fun ac u E101 S=>Sx.done (κ100 _ _ ?_)
            refine Sx.cond S (fun hc102=>?_) (fun hc102=>?_)
            · refine Sx.seqP fun _ κ103=>Sx.run S 1 [] [(4,.bool false)] fun ac S=>Sx.done<|κ103 _ _<|Vp.rt ?_
              have g0:qeq P.a Q.a=true:=qe_yes hc46
              have g1:qeq P.b Q.b=true:=qe_yes hc60
              have g2:qeq P.c Q.c=true:=qe_yes hc74
              have g3:qeq P.d Q.d=true:=qe_yes hc88
              have g4:qeq P.e Q.e=false:=qe_no hc102
              refine Sx.ret1 S Tryz.results92 ?_
              exact⟨by rw[show P.eq Q=false from by simp[Q6.eq,g0,g1,g2,g3,g4]],S.E⟩
            · refine wp_skip<|κ92 _ _<|Vp.region<|Sx.run S 2 [] [(14,.int .i64 5)] fun ac S=>Sx.done ?_
              show Code.rounds _ _ _ 2 _ _
              rw[rounds_succ]
              refine Sx.seqP fun _ κ104=>Sx.run S 1 [] [(15,.bool true)] fun ac S=>Sx.done<|κ104 _ _<|wp_seq_k fun _ κ105=>Sx.condT S<|wp_skip<|κ105 _ _<|wp_seq_k fun _ κ106=>wp_block<|Sx.seqP fun _ κ107=>Sx.run S 2 [] [(16,.int .i64 5),(17,m.f.v)] fun ac S=>Sx.newp S 8 Sx.zr fun ac u b108 E109 hb110 S=>Sx.run S 1 [] [(7,.int .i64 5)] fun ac S=>Sx.store S 0 (off:=0) (cs:=m.f.cells) rfl (fun u C111 S=>?_)
              have E112:=Sx.ext_ch (Ext.trans' E98 (Ext.trans' E101 E109)) C111 (by have:=(Ext.trans' E98 E101).size; omega)
              have E113:=Sx.ext_ch (Ext.trans' E99 (Ext.trans' E101 E109)) C111 (by have:=(Ext.trans' E99 E101).size; omega)
              refine Sx.done<|κ107 _ _<|wp_seq_k fun _ κ114=>Sx.draw S 6 [.mem 0 0,.mem 6 20] [(_,_,true,.int .i64 (qcmp P.f Q.f))] [(23,.bool (((qcmp P.f Q.f)) != 0))] ⟨fun u hC g=>ratCmp_q _ _ P.f Q.f K K _ (IsRatN.toQ (F30.extT (Ext.trans' E112 hC)).pf pr5 pl5) (IsRatN.toQ (F31.extT (Ext.trans' E113 hC)).pf nr5 ln5) hK1 hK1 (by omega) (by omega),trivial⟩ fun ac u E115 S=>Sx.done (κ114 _ _ ?_)
              refine Sx.cond S (fun hc116=>?_) (fun hc116=>?_)
              · refine Sx.seqP fun _ κ117=>Sx.run S 1 [] [(4,.bool false)] fun ac S=>Sx.done<|κ117 _ _<|Vp.rt ?_
                have g0:qeq P.a Q.a=true:=qe_yes hc46
                have g1:qeq P.b Q.b=true:=qe_yes hc60
                have g2:qeq P.c Q.c=true:=qe_yes hc74
                have g3:qeq P.d Q.d=true:=qe_yes hc88
                have g4:qeq P.e Q.e=true:=qe_yes hc102
                have g5:qeq P.f Q.f=false:=qe_no hc116
                refine Sx.ret1 S Tryz.results92 ?_
                exact⟨by rw[show P.eq Q=false from by simp[Q6.eq,g0,g1,g2,g3,g4,g5]],S.E⟩
              · refine wp_skip<|κ106 _ _<|Vp.region<|Sx.run S 2 [] [(14,.int .i64 6)] fun ac S=>Sx.done ?_
                show Code.rounds _ _ _ 1 _ _
                rw[rounds_succ]
                refine Sx.seqP fun _ κ118=>Sx.run S 1 [] [(15,.bool false)] fun ac S=>Sx.done<|κ118 _ _<|wp_seq_k fun _ κ119=>Sx.condF S<|wp_exit<|κ32 _ _<|Sx.seqP fun _ κ120=>Sx.run S 1 [] [(4,.bool true)] fun ac S=>Sx.done<|κ120 _ _<|Vp.rt ?_
                have g0:qeq P.a Q.a=true:=qe_yes hc46
                have g1:qeq P.b Q.b=true:=qe_yes hc60
                have g2:qeq P.c Q.c=true:=qe_yes hc74
                have g3:qeq P.d Q.d=true:=qe_yes hc88
                have g4:qeq P.e Q.e=true:=qe_yes hc102
                have g5:qeq P.f Q.f=true:=qe_yes hc116
                refine Sx.ret1 S Tryz.results92 ?_
                exact⟨by rw[show P.eq Q=true from by simp[Q6.eq,g0,g1,g2,g3,g4,g5]],S.E⟩
end Go.Proofs.YtfmkkemfhjkajaaGreatDoor
