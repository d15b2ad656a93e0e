/- Walks of package affine by value: Valid, Det, Equal. -/
import Derived.Test.YtfmkkemfhjkajaaGreatDoorAffF
import Derived.Test.YtfmkkemfhjkajaaGreatDoorPk13
set_option maxHeartbeats 3200000
set_option maxRecDepth 100000
namespace Go.Proofs.YtfmkkemfhjkajaaGreatDoor
open Go.RowKit
variable{α:Type}
set_option linter.unusedVariables false
theorem dL{n:Nat}(h:decide (256<(n:Int))=false):decide (n≤256)=true:=by
 simp only[decide_eq_true_eq,decide_eq_false_iff_not]at h ⊢
 omega
theorem vT{n:Nat}(h:decide (256<(n:Int))=true):decide (n≤256)=false:=by
 simp only[decide_eq_true_eq,decide_eq_false_iff_not]at h ⊢
 omega
theorem jm{p q:Bool×Nat×Nat}(h:(kJ p q != 0)=false):oC p q=true:=by unfold oC; simpa[bne]using h
theorem IB{p q:Bool×Nat×Nat}(h:(kJ p q != 0)=true):oC p q=false:=by unfold oC; simpa[bne]using h
theorem Eb(v:Value)(Q:Q6)(K:Nat)(w:World)(h:jk K w v Q)(hK1:1≤K)(hK:K≤100000) :
  Calls Tryz.prog 115 #[v] w fun e w'=>e = .returned (.bool Q.valid)∧Ext w w':=by
 have hq:=h
 obtain⟨nr0,nr1,nr2,nr3,nr4,nr5⟩:=h.nrm
 obtain⟨ln0,ln1,ln2,ln3,ln4,ln5⟩:=h.len hK1
 obtain⟨t,rfl,h0,h1,h2,h3,h4,h5⟩:=h.sQ
 refine aiK Tryz.func115 Tryz.ntmps115 fun ac S=>aiG fun _ aU=>aiJ S 1 t.cells fun ac u b2 E3 hb4 S=>adr S 1 [] [(2,.bool false)] fun ac S=>aiF<|aU _ _<|wp_seq_k fun _ bV=>aiG fun _ iK=>adr S 1 [.mem 0 0] [(5,t.v)] fun ac S=>aiQ S (some 6) (Bh _ Q K _ (hq.eU S.E) (by omega)) ?_
 rintro e u ⟨x,rfl,hm,E7⟩
 obtain⟨m,rfl,-⟩:=hm.sT
 refine⟨_,rfl,E7,fun ac S=>?_⟩
 refine adr S 1 [] [(7,.int .i64 0)] fun ac S=>aiF<|iK _ _<|wp_block<|wp_loop_rounds 7 ?_
 rw[rounds_succ]
 refine aiG fun _ dP=>adr S 1 [] [(8,.bool true)] fun ac S=>aiF<|dP _ _<|wp_seq_k fun _ gB=>aiN S<|wp_skip<|gB _ _<|wp_seq_k fun _ dV=>wp_block<|aiG fun _ dB=>adr S 1 [] [(9,m.a.v)] fun ac S=>aiJ S 4 Sx.zr fun ac u b12 H7 aey S=>aiL S 0 (off:=0) (cs:=m.a.cells) rfl (fun u C15 S=>?_)
 have Pz:=aiP H7 C15 (by omega)
 refine aiF<|dB _ _<|aiG fun _ ig=>adr S 1 [.mem 0 0] [(10,m.a.v)] fun ac S=>aiM S 11 (mF _ Q.a K _ (aA.toQ (hm.tC Pz).pa nr0 ln0) hK1 (by omega)) fun ac u JD S=>adr S 1 [] [(12,.bool (decide (256<(bF Q.a:Int))))] fun ac S=>aiF (ig _ _ ?_)
 refine aiI S (fun hc19=>?_) (fun hc19=>?_)
 ·refine aiG fun _ iU=>adr S 1 [] [(2,.bool false)] fun ac S=>aiF<|iU _ _<|Vp.rt ?_
  have g0:decide (bF Q.a≤256)=false:=vT hc19
  refine aiH S Tryz.results115 ?_
  exact⟨by rw[show Q.valid=false from by simp[Q6.valid,g0]],S.E⟩
 ·refine wp_skip<|dV _ _<|Vp.region<|adr S 2 [] [(7,.int .i64 1)] fun ac S=>aiF ?_
  show Code.rounds _ _ _ 6 _ _
  rw[rounds_succ]
  refine aiG fun _ jo=>adr S 1 [] [(8,.bool true)] fun ac S=>aiF<|jo _ _<|wp_seq_k fun _ jM=>aiN S<|wp_skip<|jM _ _<|wp_seq_k fun _ oJ=>wp_block<|aiG fun _ kK=>adr S 1 [] [(9,m.b.v)] fun ac S=>aiJ S 4 Sx.zr fun ac u b25 E26 Dw S=>aiL S 0 (off:=0) (cs:=m.b.cells) rfl (fun u C28 S=>?_)
  have XG:=aiP (Ext.trans' Pz (Ext.trans' JD E26)) C28 (by have:=(Ext.trans' Pz JD).size; omega)
  refine aiF<|kK _ _<|aiG fun _ nI=>adr S 1 [.mem 0 0] [(10,m.b.v)] fun ac S=>aiM S 11 (mF _ Q.b K _ (aA.toQ (hm.tC XG).pb nr1 ln1) hK1 (by omega)) fun ac u JB S=>adr S 1 [] [(12,.bool (decide (256<(bF Q.b:Int))))] fun ac S=>aiF (nI _ _ ?_)
  refine aiI S (fun hc32=>?_) (fun hc32=>?_)
  ·refine aiG fun _ lW=>adr S 1 [] [(2,.bool false)] fun ac S=>aiF<|lW _ _<|Vp.rt ?_
   have g0:decide (bF Q.a≤256)=true:=dL hc19
   have g1:decide (bF Q.b≤256)=false:=vT hc32
   refine aiH S Tryz.results115 ?_
   exact⟨by rw[show Q.valid=false from by simp[Q6.valid,g0,g1]],S.E⟩
  ·refine wp_skip<|oJ _ _<|Vp.region<|adr S 2 [] [(7,.int .i64 2)] fun ac S=>aiF ?_
   show Code.rounds _ _ _ 5 _ _
   rw[rounds_succ]
   refine aiG fun _ uQ=>adr S 1 [] [(8,.bool true)] fun ac S=>aiF<|uQ _ _<|wp_seq_k fun _ oK=>aiN S<|wp_skip<|oK _ _<|wp_seq_k fun _ nJ=>wp_block<|aiG fun _ qo=>adr S 1 [] [(9,m.c.v)] fun ac S=>aiJ S 4 Sx.zr fun ac u b38 E39 aco S=>aiL S 0 (off:=0) (cs:=m.c.cells) rfl (fun u C41 S=>?_)
   have E42:=aiP (Ext.trans' XG (Ext.trans' JB E39)) C41 (by have:=(Ext.trans' XG JB).size; omega)
   refine aiF<|qo _ _<|aiG fun _ tH=>adr S 1 [.mem 0 0] [(10,m.c.v)] fun ac S=>aiM S 11 (mF _ Q.c K _ (aA.toQ (hm.tC E42).pc nr2 ln2) hK1 (by omega)) fun ac u E44 S=>adr S 1 [] [(12,.bool (decide (256<(bF Q.c:Int))))] fun ac S=>aiF (tH _ _ ?_)
   refine aiI S (fun yZ=>?_) (fun yZ=>?_)
   ·refine aiG fun _ zU=>adr S 1 [] [(2,.bool false)] fun ac S=>aiF<|zU _ _<|Vp.rt ?_
    have g0:decide (bF Q.a≤256)=true:=dL hc19
    have g1:decide (bF Q.b≤256)=true:=dL hc32
    have g2:decide (bF Q.c≤256)=false:=vT yZ
    refine aiH S Tryz.results115 ?_
    exact⟨by rw[show Q.valid=false from by simp[Q6.valid,g0,g1,g2]],S.E⟩
   ·refine wp_skip<|nJ _ _<|Vp.region<|adr S 2 [] [(7,.int .i64 3)] fun ac S=>aiF ?_
    show Code.rounds _ _ _ 4 _ _
    rw[rounds_succ]
    refine aiG fun _ zV=>adr S 1 [] [(8,.bool true)] fun ac S=>aiF<|zV _ _<|wp_seq_k fun _ yx=>aiN S<|wp_skip<|yx _ _<|wp_seq_k fun _ yA=>wp_block<|aiG fun _ zW=>adr S 1 [] [(9,m.d.v)] fun ac S=>aiJ S 4 Sx.zr fun ac u b51 E52 ah6 S=>aiL S 0 (off:=0) (cs:=m.d.cells) rfl (fun u C54 S=>?_)
    have E55:=aiP (Ext.trans' E42 (Ext.trans' E44 E52)) C54 (by have:=(Ext.trans' E42 E44).size; omega)
    refine aiF<|zW _ _<|aiG fun _ Ea=>adr S 1 [.mem 0 0] [(10,m.d.v)] fun ac S=>aiM S 11 (mF _ Q.d K _ (aA.toQ (hm.tC E55).pd nr3 ln3) hK1 (by omega)) fun ac u E57 S=>adr S 1 [] [(12,.bool (decide (256<(bF Q.d:Int))))] fun ac S=>aiF (Ea _ _ ?_)
    refine aiI S (fun XH=>?_) (fun XH=>?_)
    ·refine aiG fun _ aga=>adr S 1 [] [(2,.bool false)] fun ac S=>aiF<|aga _ _<|Vp.rt ?_
     have g0:decide (bF Q.a≤256)=true:=dL hc19
     have g1:decide (bF Q.b≤256)=true:=dL hc32
     have g2:decide (bF Q.c≤256)=true:=dL yZ
     have g3:decide (bF Q.d≤256)=false:=vT XH
     refine aiH S Tryz.results115 ?_
     exact⟨by rw[show Q.valid=false from by simp[Q6.valid,g0,g1,g2,g3]],S.E⟩
    ·refine wp_skip<|yA _ _<|Vp.region<|adr S 2 [] [(7,.int .i64 4)] fun ac S=>aiF ?_
     show Code.rounds _ _ _ 3 _ _
     rw[rounds_succ]
     refine aiG fun _ acp=>adr S 1 [] [(8,.bool true)] fun ac S=>aiF<|acp _ _<|wp_seq_k fun _ XI=>aiN S<|wp_skip<|XI _ _<|wp_seq_k fun _ acr=>wp_block<|aiG fun _ acs=>adr S 1 [] [(9,m.e.v)] fun ac S=>aiJ S 4 Sx.zr fun ac u b64 XD ah7 S=>aiL S 0 (off:=0) (cs:=m.e.cells) rfl (fun u C67 S=>?_)
     have E68:=aiP (Ext.trans' E55 (Ext.trans' E57 XD)) C67 (by have:=(Ext.trans' E55 E57).size; omega)
     refine aiF<|acs _ _<|aiG fun _ XJ=>adr S 1 [.mem 0 0] [(10,m.e.v)] fun ac S=>aiM S 11 (mF _ Q.e K _ (aA.toQ (hm.tC E68).pe nr4 ln4) hK1 (by omega)) fun ac u E70 S=>adr S 1 [] [(12,.bool (decide (256<(bF Q.e:Int))))] fun ac S=>aiF (XJ _ _ ?_)
     refine aiI S (fun aau=>?_) (fun aau=>?_)
     ·refine aiG fun _ XE=>adr S 1 [] [(2,.bool false)] fun ac S=>aiF<|XE _ _<|Vp.rt ?_
      have g0:decide (bF Q.a≤256)=true:=dL hc19
      have g1:decide (bF Q.b≤256)=true:=dL hc32
      have g2:decide (bF Q.c≤256)=true:=dL yZ
      have g3:decide (bF Q.d≤256)=true:=dL XH
      have g4:decide (bF Q.e≤256)=false:=vT aau
      refine aiH S Tryz.results115 ?_
      exact⟨by rw[show Q.valid=false from by simp[Q6.valid,g0,g1,g2,g3,g4]],S.E⟩
     ·refine wp_skip<|acr _ _<|Vp.region<|adr S 2 [] [(7,.int .i64 5)] fun ac S=>aiF ?_
      show Code.rounds _ _ _ 2 _ _
      rw[rounds_succ]
      refine aiG fun _ ab9=>adr S 1 [] [(8,.bool true)] fun ac S=>aiF<|ab9 _ _<|wp_seq_k fun _ XF=>aiN S<|wp_skip<|XF _ _<|wp_seq_k fun _ acu=>wp_block<|aiG fun _ agb=>adr S 1 [] [(9,m.f.v)] fun ac S=>aiJ S 4 Sx.zr fun ac u b77 E78 ah8 S=>aiL S 0 (off:=0) (cs:=m.f.cells) rfl (fun u C80 S=>?_)
      have E81:=aiP (Ext.trans' E68 (Ext.trans' E70 E78)) C80 (by have:=(Ext.trans' E68 E70).size; omega)
      refine aiF<|agb _ _<|aiG fun _ PK=>adr S 1 [.mem 0 0] [(10,m.f.v)] fun ac S=>aiM S 11 (mF _ Q.f K _ (aA.toQ (hm.tC E81).pf nr5 ln5) hK1 (by omega)) fun ac u E83 S=>adr S 1 [] [(12,.bool (decide (256<(bF Q.f:Int))))] fun ac S=>aiF (PK _ _ ?_)
      refine aiI S (fun acv=>?_) (fun acv=>?_)
      ·refine aiG fun _ XK=>adr S 1 [] [(2,.bool false)] fun ac S=>aiF<|XK _ _<|Vp.rt ?_
       have g0:decide (bF Q.a≤256)=true:=dL hc19
       have g1:decide (bF Q.b≤256)=true:=dL hc32
       have g2:decide (bF Q.c≤256)=true:=dL yZ
       have g3:decide (bF Q.d≤256)=true:=dL XH
       have g4:decide (bF Q.e≤256)=true:=dL aau
       have g5:decide (bF Q.f≤256)=false:=vT acv
       refine aiH S Tryz.results115 ?_
       exact⟨by rw[show Q.valid=false from by simp[Q6.valid,g0,g1,g2,g3,g4,g5]],S.E⟩
      ·refine wp_skip<|acu _ _<|Vp.region<|adr S 2 [] [(7,.int .i64 6)] fun ac S=>aiF ?_
       show Code.rounds _ _ _ 1 _ _
       rw[rounds_succ]
       refine aiG fun _ acw=>adr S 1 [] [(8,.bool false)] fun ac S=>aiF<|acw _ _<|wp_seq_k fun _ ah9=>aiY S<|wp_exit<|bV _ _<|aiG fun _ acy=>adr S 1 [] [(2,.bool true)] fun ac S=>aiF<|acy _ _<|Vp.rt ?_
       have g0:decide (bF Q.a≤256)=true:=dL hc19
       have g1:decide (bF Q.b≤256)=true:=dL hc32
       have g2:decide (bF Q.c≤256)=true:=dL yZ
       have g3:decide (bF Q.d≤256)=true:=dL XH
       have g4:decide (bF Q.e≤256)=true:=dL aau
       have g5:decide (bF Q.f≤256)=true:=dL acv
       refine aiH S Tryz.results115 ?_
       exact⟨by rw[show Q.valid=true from by simp[Q6.valid,g0,g1,g2,g3,g4,g5]],S.E⟩
theorem SK(v:Value)(Q:Q6)(K:Nat)(w:World)(h:jk K w v Q)(hK1:1≤K)(hK:K≤10000) :
  Calls Tryz.prog 152 #[v] w fun e w'=>∃x,e = .returned x∧bH w.heap.size w' x Q.vU∧Ext w w':=by
 have hq:=h
 obtain⟨nr0,nr1,nr2,nr3,nr4,nr5⟩:=h.nrm
 obtain⟨ln0,ln1,ln2,ln3,ln4,ln5⟩:=h.len hK1
 obtain⟨t,rfl,h0,h1,h2,h3,h4,h5⟩:=h.sQ
 refine aiK Tryz.func152 Tryz.ntmps152 fun ac S=>aiG fun _ aU=>aiJ S 1 t.cells fun ac u b2 E3 hb4 S=>aiJ S 2 Sx.zr fun ac u b5 E6 hb7 S=>aiF<|aU _ _<|wp_seq_k fun _ dP=>aiV S 11 [(7,fun v w1=>bH w.heap.size w1 v (nK Q.a Q.d)),(12,fun v w1=>bH w.heap.size w1 v (nK Q.b Q.c)),(13,fun v w1=>bH w.heap.size w1 v Q.vU)] (fun r=>[.mem 1 0,.mem 1 12,.mem 1 4,.mem 1 8]) (fun x=>[x 7,x 12,x 13]) (fun x=>[(_,_,true,x 7,7),(_,_,true,x 12,12),(_,_,true,x 13,13)]) [[],[],[7,12]] (fun x=>[(13,x 13)]) ⟨fun _ _ _ k h=>h.ext k,fun _ _ _ k h=>h.ext k,fun _ _ _ k h=>h.ext k,trivial⟩ (fun x=>⟨by intro u hC g F; exact(LK _ _ Q.a Q.d K K _ (h0.below (Ext.trans' S.E hC)) (h3.below (Ext.trans' S.E hC)) hK1 hK1 (by omega) (by omega)).mono fun e w2 h=>by obtain⟨y,rfl,hx,hb⟩:=h; exact⟨_,rfl,hx.mono ((Ext.trans' S.E hC)).size,hb⟩,by intro u hC g F; exact(LK _ _ Q.b Q.c K K _ (h1.below (Ext.trans' S.E hC)) (h2.below (Ext.trans' S.E hC)) hK1 hK1 (by omega) (by omega)).mono fun e w2 h=>by obtain⟨y,rfl,hx,hb⟩:=h; exact⟨_,rfl,hx.mono ((Ext.trans' S.E hC)).size,hb⟩,by intro u hC g F; obtain⟨F7,LM,-⟩:=F; exact(XL _ _ (nK Q.a Q.d) (nK Q.b Q.c) (K+K) (K+K) _ (aA.toQ F7 (Ec _ _) (uh hK1 ln0 ln3)) (aA.toQ LM (Ec _ _) (uh hK1 ln1 ln2)) (by omega) (by omega) (by omega) (by omega)).mono fun e w2 h=>by obtain⟨y,rfl,hx,hb⟩:=h; exact⟨_,rfl,hx.mono ((Ext.trans' S.E hC)).size,hb⟩,trivial⟩) (fun ac u x E9 F S=>?_)
 obtain⟨F7,LM,F13,-⟩:=F
 obtain⟨m,em⟩:=aA.gG F13
 rw[em]at S F13
 have SL:=S.bx 0
 refine aiL S 0 (off:=0) (cs:=m.cells) rfl (fun u C10 S=>?_)
 have acz:=aA.bT F13 C10 SL
 refine aiF<|dP _ _<|Vp.rt ?_
 refine aiS S 0 Tryz.results152 rfl (v:=m.v) ?_
 exact⟨_,rfl,acz,S.E⟩
theorem y7(v1 v2:Value)(P Q:Q6)(K:Nat)(w:World)(hp:jk K w v1 P)(hq:jk K w v2 Q)(hK1:1≤K)(hK:K≤10000) :
  Calls Tryz.prog 92 #[v1,v2] w fun e w'=>e = .returned (.bool (P.eq Q))∧Ext w w':=by
 obtain⟨pr0,pr1,pr2,pr3,pr4,pr5⟩:=hp.nrm
 obtain⟨pl0,pl1,pl2,pl3,pl4,pl5⟩:=hp.len hK1
 obtain⟨nr0,nr1,nr2,nr3,nr4,nr5⟩:=hq.nrm
 obtain⟨ln0,ln1,ln2,ln3,ln4,ln5⟩:=hq.len hK1
 obtain⟨t,rfl,-⟩:=hp.sQ
 obtain⟨s,rfl,-⟩:=hq.sQ
 refine aiK Tryz.func92 Tryz.ntmps92 fun ac S=>aiG fun _ aU=>aiJ S 2 t.cells fun ac u b2 E3 hb4 S=>aiJ S 3 s.cells fun ac u b5 E6 hb7 S=>adr S 1 [] [(4,.bool false)] fun ac S=>aiF<|aU _ _<|wp_seq_k (fun _ dP=>?_)
 have hold:=fun p hp=>(S.own p hp).1.1
 have SN:=S.E.size
 refine wp_region_any (by kernel_rfl)<|Sx.JE [(4,5),(5,6)] S 6 [(10,fun v w1=>jB w.heap.size w1 v P),(12,fun v w1=>jB w.heap.size w1 v Q),(5,Sx.nM u.heap.size Sx.za none),(6,Sx.nM u.heap.size Sx.za none)] (fun r=>[.mem 1 0,.mem 0 0,.new 5 Sx.za none r,.new 6 Sx.za none r]) (fun x=>[x 10,x 12,x 5,x 6]) (fun x=>[(_,_,true,x 10,10),(_,_,true,x 12,12)]) [[],[]] (fun x=>[(5,x 5),(6,x 6),(10,x 10),(12,x 12)]) ⟨fun _ _ _ k h=>dG.tC h k,fun _ _ _ k h=>dG.tC h k,Sx.nM.mono,Sx.nM.mono,trivial⟩ (fun x=>⟨by intro u hC g F; exact(Bh _ P K _ (hp.eU (Ext.trans' S.E hC)) (by omega)).mono fun e w2 h=>by obtain⟨x,rfl,hx,hb⟩:=h; exact⟨_,rfl,hx.SI ((Ext.trans' S.E hC)).size,hb⟩,by intro u hC g F; exact(Bh _ Q K _ (hq.eU (Ext.trans' S.E hC)) (by omega)).mono fun e w2 h=>by obtain⟨x,rfl,hx,hb⟩:=h; exact⟨_,rfl,hx.SI ((Ext.trans' S.E hC)).size,hb⟩,trivial⟩) (fun ac u x E9 F AP S=>?_) (hN:=fun r=>⟨⟨rfl,rfl⟩,⟨rfl,rfl⟩,trivial⟩) (hk:=fun r=>⟨trivial,trivial,trivial⟩) (hA:=⟨⟨_,_,_,rfl,rfl,rfl,rfl,rfl⟩,⟨_,_,_,rfl,rfl,rfl,rfl,rfl⟩,trivial⟩)
 obtain⟨F10,LM,F5,F6,-⟩:=F
 obtain⟨m,em,-⟩:=F10.sT
 rw[em]at S F10
 obtain⟨n,em,-⟩:=LM.sT
 rw[em]at S LM
 obtain⟨b10,F5,PL,SL⟩:=F5
 rw[F5]at S
 have S:=S.adopt (A:=Sx.za) SL (by omega) (fun p hp=>by have:=hold p hp; omega) (fun m hm=>by cases hm)
 obtain⟨b13,F6,XM,Ed⟩:=F6
 rw[F6]at S
 have S:=S.adopt (A:=Sx.za) Ed (by omega) (fun p hp=>by exact(List.mem_cons.1 hp).elim (fun e e2=>AP (4,5) (by simp) (5,6) (by simp) (by decide) (F5.trans ((congrArg (Sx.shV none) ((congrArg Prod.fst e).symm.trans e2)).trans F6.symm))) (fun hp=>by have:=hold p hp; omega)) (fun m hm=>by cases hm)
 have UZ:=S.bx 1
 refine aiL S 1 (off:=0) (cs:=m.cells) rfl (fun u Xj S=>?_)
 have PN:=dG.bT F10 Xj UZ
 have Dx:=dG.bT LM Xj UZ
 have X21:=S.bx 0
 refine aiL S 0 (off:=0) (cs:=n.cells) rfl (fun u C20 S=>?_)
 have y8:=dG.bT PN C20 X21
 have Ee:=dG.bT Dx C20 X21
 refine aiF<|dP _ _<|wp_seq_k fun _ kK=>aiG fun _ wB=>adr S 2 [.mem 1 0] [(13,m.v),(14,.int .i64 0)] fun ac S=>aiF<|wB _ _<|wp_block<|wp_loop_rounds 7 ?_
 rw[rounds_succ]
 refine aiG fun _ kH=>adr S 1 [] [(15,.bool true)] fun ac S=>aiF<|kH _ _<|wp_seq_k fun _ lJ=>aiN S<|wp_skip<|lJ _ _<|wp_seq_k fun _ lK=>wp_block<|aiG fun _ qm=>adr S 2 [] [(16,.int .i64 0),(17,m.a.v)] fun ac S=>aiJ S 8 Sx.zr fun ac u b30 JB PE S=>adr S 1 [] [(7,.int .i64 0)] fun ac S=>aiL S 0 (off:=0) (cs:=m.a.cells) rfl (fun u UO S=>?_)
 have Xh:=aiP JB UO (by omega)
 have Xi:=aiP JB UO (by omega)
 refine aiF<|qm _ _<|wp_seq_k fun _ nJ=>aiO S 6 [.mem 0 0,.mem 1 0] [(_,_,true,.int .i64 (kJ P.a Q.a))] [(23,.bool (((kJ P.a Q.a)) != 0))] ⟨fun u hC g=>lN _ _ P.a Q.a K K _ (aA.toQ (y8.tC (Ext.trans' Xh hC)).pa pr0 pl0) (aA.toQ (Ee.tC (Ext.trans' Xi hC)).pa nr0 ln0) hK1 hK1 (by omega) (by omega),trivial⟩ fun ac u LP S=>aiF (nJ _ _ ?_)
 refine aiI S (fun hc38=>?_) (fun hc38=>?_)
 ·refine aiG fun _ ug=>adr S 1 [] [(4,.bool false)] fun ac S=>aiF<|ug _ _<|Vp.rt ?_
  have g0:oC P.a Q.a=false:=IB hc38
  refine aiH S Tryz.results92 ?_
  exact⟨by rw[show P.eq Q=false from by simp[Q6.eq,g0]],S.E⟩
 ·refine wp_skip<|lK _ _<|Vp.region<|adr S 2 [] [(14,.int .i64 1)] fun ac S=>aiF ?_
  show Code.rounds _ _ _ 6 _ _
  rw[rounds_succ]
  refine aiG fun _ yY=>adr S 1 [] [(15,.bool true)] fun ac S=>aiF<|yY _ _<|wp_seq_k fun _ qW=>aiN S<|wp_skip<|qW _ _<|wp_seq_k fun _ qX=>wp_block<|aiG fun _ tH=>adr S 2 [] [(16,.int .i64 1),(17,m.b.v)] fun ac S=>aiJ S 8 Sx.zr fun ac u b44 E45 aez S=>adr S 1 [] [(7,.int .i64 1)] fun ac S=>aiL S 0 (off:=0) (cs:=m.b.cells) rfl (fun u C47 S=>?_)
  have E48:=aiP (Ext.trans' Xh (Ext.trans' LP E45)) C47 (by have:=(Ext.trans' Xh LP).size; omega)
  have E49:=aiP (Ext.trans' Xi (Ext.trans' LP E45)) C47 (by have:=(Ext.trans' Xi LP).size; omega)
  refine aiF<|tH _ _<|wp_seq_k fun _ zW=>aiO S 6 [.mem 0 0,.mem 2 4] [(_,_,true,.int .i64 (kJ P.b Q.b))] [(23,.bool (((kJ P.b Q.b)) != 0))] ⟨fun u hC g=>lN _ _ P.b Q.b K K _ (aA.toQ (y8.tC (Ext.trans' E48 hC)).pb pr1 pl1) (aA.toQ (Ee.tC (Ext.trans' E49 hC)).pb nr1 ln1) hK1 hK1 (by omega) (by omega),trivial⟩ fun ac u E51 S=>aiF (zW _ _ ?_)
  refine aiI S (fun y9=>?_) (fun y9=>?_)
  ·refine aiG fun _ XO=>adr S 1 [] [(4,.bool false)] fun ac S=>aiF<|XO _ _<|Vp.rt ?_
   have g0:oC P.a Q.a=true:=jm hc38
   have g1:oC P.b Q.b=false:=IB y9
   refine aiH S Tryz.results92 ?_
   exact⟨by rw[show P.eq Q=false from by simp[Q6.eq,g0,g1]],S.E⟩
  ·refine wp_skip<|qX _ _<|Vp.region<|adr S 2 [] [(14,.int .i64 2)] fun ac S=>aiF ?_
   show Code.rounds _ _ _ 5 _ _
   rw[rounds_succ]
   refine aiG fun _ UR=>adr S 1 [] [(15,.bool true)] fun ac S=>aiF<|UR _ _<|wp_seq_k fun _ D9=>aiN S<|wp_skip<|D9 _ _<|wp_seq_k fun _ Ea=>wp_block<|aiG fun _ JC=>adr S 2 [] [(16,.int .i64 2),(17,m.c.v)] fun ac S=>aiJ S 8 Sx.zr fun ac u b58 XC afX S=>adr S 1 [] [(7,.int .i64 2)] fun ac S=>aiL S 0 (off:=0) (cs:=m.c.cells) rfl (fun u C61 S=>?_)
   have E62:=aiP (Ext.trans' E48 (Ext.trans' E51 XC)) C61 (by have:=(Ext.trans' E48 E51).size; omega)
   have E63:=aiP (Ext.trans' E49 (Ext.trans' E51 XC)) C61 (by have:=(Ext.trans' E49 E51).size; omega)
   refine aiF<|JC _ _<|wp_seq_k fun _ agc=>aiO S 6 [.mem 0 0,.mem 3 8] [(_,_,true,.int .i64 (kJ P.c Q.c))] [(23,.bool (((kJ P.c Q.c)) != 0))] ⟨fun u hC g=>lN _ _ P.c Q.c K K _ (aA.toQ (y8.tC (Ext.trans' E62 hC)).pc pr2 pl2) (aA.toQ (Ee.tC (Ext.trans' E63 hC)).pc nr2 ln2) hK1 hK1 (by omega) (by omega),trivial⟩ fun ac u XD S=>aiF (agc _ _ ?_)
   refine aiI S (fun U0=>?_) (fun U0=>?_)
   ·refine aiG fun _ acA=>adr S 1 [] [(4,.bool false)] fun ac S=>aiF<|acA _ _<|Vp.rt ?_
    have g0:oC P.a Q.a=true:=jm hc38
    have g1:oC P.b Q.b=true:=jm y9
    have g2:oC P.c Q.c=false:=IB U0
    refine aiH S Tryz.results92 ?_
    exact⟨by rw[show P.eq Q=false from by simp[Q6.eq,g0,g1,g2]],S.E⟩
   ·refine wp_skip<|Ea _ _<|Vp.region<|adr S 2 [] [(14,.int .i64 3)] fun ac S=>aiF ?_
    show Code.rounds _ _ _ 4 _ _
    rw[rounds_succ]
    refine aiG fun _ acB=>adr S 1 [] [(15,.bool true)] fun ac S=>aiF<|acB _ _<|wp_seq_k fun _ XJ=>aiN S<|wp_skip<|XJ _ _<|wp_seq_k fun _ acC=>wp_block<|aiG fun _ PG=>adr S 2 [] [(16,.int .i64 3),(17,m.d.v)] fun ac S=>aiJ S 8 Sx.zr fun ac u b72 E73 aia S=>adr S 1 [] [(7,.int .i64 3)] fun ac S=>aiL S 0 (off:=0) (cs:=m.d.cells) rfl (fun u C75 S=>?_)
    have E76:=aiP (Ext.trans' E62 (Ext.trans' XD E73)) C75 (by have:=(Ext.trans' E62 XD).size; omega)
    have E77:=aiP (Ext.trans' E63 (Ext.trans' XD E73)) C75 (by have:=(Ext.trans' E63 XD).size; omega)
    refine aiF<|PG _ _<|wp_seq_k fun _ acD=>aiO S 6 [.mem 0 0,.mem 4 12] [(_,_,true,.int .i64 (kJ P.d Q.d))] [(23,.bool (((kJ P.d Q.d)) != 0))] ⟨fun u hC g=>lN _ _ P.d Q.d K K _ (aA.toQ (y8.tC (Ext.trans' E76 hC)).pd pr3 pl3) (aA.toQ (Ee.tC (Ext.trans' E77 hC)).pd nr3 ln3) hK1 hK1 (by omega) (by omega),trivial⟩ fun ac u E79 S=>aiF (acD _ _ ?_)
    refine aiI S (fun XP=>?_) (fun XP=>?_)
    ·refine aiG fun _ agd=>adr S 1 [] [(4,.bool false)] fun ac S=>aiF<|agd _ _<|Vp.rt ?_
     have g0:oC P.a Q.a=true:=jm hc38
     have g1:oC P.b Q.b=true:=jm y9
     have g2:oC P.c Q.c=true:=jm U0
     have g3:oC P.d Q.d=false:=IB XP
     refine aiH S Tryz.results92 ?_
     exact⟨by rw[show P.eq Q=false from by simp[Q6.eq,g0,g1,g2,g3]],S.E⟩
    ·refine wp_skip<|acC _ _<|Vp.region<|adr S 2 [] [(14,.int .i64 4)] fun ac S=>aiF ?_
     show Code.rounds _ _ _ 3 _ _
     rw[rounds_succ]
     refine aiG fun _ PK=>adr S 1 [] [(15,.bool true)] fun ac S=>aiF<|PK _ _<|wp_seq_k fun _ aav=>aiN S<|wp_skip<|aav _ _<|wp_seq_k fun _ acE=>wp_block<|aiG fun _ XK=>adr S 2 [] [(16,.int .i64 4),(17,m.e.v)] fun ac S=>aiJ S 8 Sx.zr fun ac u b86 E87 aib S=>adr S 1 [] [(7,.int .i64 4)] fun ac S=>aiL S 0 (off:=0) (cs:=m.e.cells) rfl (fun u C89 S=>?_)
     have E90:=aiP (Ext.trans' E76 (Ext.trans' E79 E87)) C89 (by have:=(Ext.trans' E76 E79).size; omega)
     have E91:=aiP (Ext.trans' E77 (Ext.trans' E79 E87)) C89 (by have:=(Ext.trans' E77 E79).size; omega)
     refine aiF<|XK _ _<|wp_seq_k fun _ ach=>aiO S 6 [.mem 0 0,.mem 5 16] [(_,_,true,.int .i64 (kJ P.e Q.e))] [(23,.bool (((kJ P.e Q.e)) != 0))] ⟨fun u hC g=>lN _ _ P.e Q.e K K _ (aA.toQ (y8.tC (Ext.trans' E90 hC)).pe pr4 pl4) (aA.toQ (Ee.tC (Ext.trans' E91 hC)).pe nr4 ln4) hK1 hK1 (by omega) (by omega),trivial⟩ fun ac u E93 S=>aiF (ach _ _ ?_)
     refine aiI S (fun aaw=>?_) (fun aaw=>?_)
     ·refine aiG fun _ acF=>adr S 1 [] [(4,.bool false)] fun ac S=>aiF<|acF _ _<|Vp.rt ?_
      have g0:oC P.a Q.a=true:=jm hc38
      have g1:oC P.b Q.b=true:=jm y9
      have g2:oC P.c Q.c=true:=jm U0
      have g3:oC P.d Q.d=true:=jm XP
      have g4:oC P.e Q.e=false:=IB aaw
      refine aiH S Tryz.results92 ?_
      exact⟨by rw[show P.eq Q=false from by simp[Q6.eq,g0,g1,g2,g3,g4]],S.E⟩
     ·refine wp_skip<|acE _ _<|Vp.region<|adr S 2 [] [(14,.int .i64 5)] fun ac S=>aiF ?_
      show Code.rounds _ _ _ 2 _ _
      rw[rounds_succ]
      refine aiG fun _ agf=>adr S 1 [] [(15,.bool true)] fun ac S=>aiF<|agf _ _<|wp_seq_k fun _ agh=>aiN S<|wp_skip<|agh _ _<|wp_seq_k fun _ agi=>wp_block<|aiG fun _ agj=>adr S 2 [] [(16,.int .i64 5),(17,m.f.v)] fun ac S=>aiJ S 8 Sx.zr fun ac u aic aat ahY S=>adr S 1 [] [(7,.int .i64 5)] fun ac S=>aiL S 0 (off:=0) (cs:=m.f.cells) rfl (fun u aeA S=>?_)
      have agk:=aiP (Ext.trans' E90 (Ext.trans' E93 aat)) aeA (by have:=(Ext.trans' E90 E93).size; omega)
      have agl:=aiP (Ext.trans' E91 (Ext.trans' E93 aat)) aeA (by have:=(Ext.trans' E91 E93).size; omega)
      refine aiF<|agj _ _<|wp_seq_k fun _ aeB=>aiO S 6 [.mem 0 0,.mem 6 20] [(_,_,true,.int .i64 (kJ P.f Q.f))] [(23,.bool (((kJ P.f Q.f)) != 0))] ⟨fun u hC g=>lN _ _ P.f Q.f K K _ (aA.toQ (y8.tC (Ext.trans' agk hC)).pf pr5 pl5) (aA.toQ (Ee.tC (Ext.trans' agl hC)).pf nr5 ln5) hK1 hK1 (by omega) (by omega),trivial⟩ fun ac u aie S=>aiF (aeB _ _ ?_)
      refine aiI S (fun XQ=>?_) (fun XQ=>?_)
      ·refine aiG fun _ aeC=>adr S 1 [] [(4,.bool false)] fun ac S=>aiF<|aeC _ _<|Vp.rt ?_
       have g0:oC P.a Q.a=true:=jm hc38
       have g1:oC P.b Q.b=true:=jm y9
       have g2:oC P.c Q.c=true:=jm U0
       have g3:oC P.d Q.d=true:=jm XP
       have g4:oC P.e Q.e=true:=jm aaw
       have g5:oC P.f Q.f=false:=IB XQ
       refine aiH S Tryz.results92 ?_
       exact⟨by rw[show P.eq Q=false from by simp[Q6.eq,g0,g1,g2,g3,g4,g5]],S.E⟩
      ·refine wp_skip<|agi _ _<|Vp.region<|adr S 2 [] [(14,.int .i64 6)] fun ac S=>aiF ?_
       show Code.rounds _ _ _ 1 _ _
       rw[rounds_succ]
       refine aiG fun _ XR=>adr S 1 [] [(15,.bool false)] fun ac S=>aiF<|XR _ _<|wp_seq_k fun _ abO=>aiY S<|wp_exit<|kK _ _<|aiG fun _ SH=>adr S 1 [] [(4,.bool true)] fun ac S=>aiF<|SH _ _<|Vp.rt ?_
       have g0:oC P.a Q.a=true:=jm hc38
       have g1:oC P.b Q.b=true:=jm y9
       have g2:oC P.c Q.c=true:=jm U0
       have g3:oC P.d Q.d=true:=jm XP
       have g4:oC P.e Q.e=true:=jm aaw
       have g5:oC P.f Q.f=true:=jm XQ
       refine aiH S Tryz.results92 ?_
       exact⟨by rw[show P.eq Q=true from by simp[Q6.eq,g0,g1,g2,g3,g4,g5]],S.E⟩
end Go.Proofs.YtfmkkemfhjkajaaGreatDoor
