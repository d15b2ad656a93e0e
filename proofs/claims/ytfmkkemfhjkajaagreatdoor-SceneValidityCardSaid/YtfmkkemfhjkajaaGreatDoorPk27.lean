/- Walks of reference 12 by value: coefficients, Valid, -/
import Derived.Test.YtfmkkemfhjkajaaGreatDoorAffG
import Derived.Test.YtfmkkemfhjkajaaGreatDoorPk26
import Derived.Test.YtfmkkemfhjkajaaGreatDoorR36b
set_option linter.unusedVariables false
namespace Go.Proofs.YtfmkkemfhjkajaaGreatDoor
section
set_option maxHeartbeats 1600000
set_option maxRecDepth 100000
open Go.RowKit
variable{α:Type}
theorem BM(t:aV)(w:World) :
  Calls Tryz.prog 146 #[t.v] w fun e w'=>∃b,e = .returned (.slice (some ⟨b,0,none⟩) 6 6)∧w.heap.size≤b∧Bx w' b t.cells.toArray∧Ext w w':=by
 skip
 refine aiK Tryz.func146 Tryz.ntmps146 fun ac S=>aiG fun _ aU=>aiJ S 1 t.cells fun ac u b2 E3 hb4 S=>adr S 1 [] [(2,.slice none 0 0)] fun ac S=>aiF<|aU _ _<|aiG fun _ bV=>adr S 12 [.mem 0 0,.mem 0 4,.mem 0 8,.mem 0 12,.mem 0 16,.mem 0 20] [(4,t.a.v),(6,t.b.v),(8,t.c.v),(10,t.d.v),(12,t.e.v),(14,t.f.v)] fun ac S=>Sx.news S 15 6 t.cells fun ac u b6 E7 hb8 S=>adr S 1 [] [(2,.slice (some ⟨b6,0,none⟩) 6 6)] fun ac S=>aiF<|bV _ _<|Vp.rt ?_
 refine aiH S Tryz.results146 ?_
 exact⟨b6,rfl,S.old 0,S.bx 0,S.E⟩
theorem yO(v:Value)(Q:Q6)(K:Nat)(w:World)(h:jk K w v Q)(hK1:1≤K)(hK:K≤100000) :
  Calls Tryz.prog 126 #[v] w fun e w'=>e = .returned (.bool Q.valid)∧Ext w w':=by
 have hq:=h
 obtain⟨nr0,nr1,nr2,nr3,nr4,nr5⟩:=h.nrm
 obtain⟨ln0,ln1,ln2,ln3,ln4,ln5⟩:=h.len hK1
 obtain⟨t,rfl,h0,h1,h2,h3,h4,h5⟩:=h.sQ
 refine aiK Tryz.func126 Tryz.ntmps126 fun ac S=>aiG fun _ aU=>aiJ S 1 t.cells fun ac u b2 E3 hb4 S=>adr S 1 [] [(2,.bool false)] fun ac S=>aiF<|aU _ _<|aiG fun _ bV=>adr S 1 [.mem 0 0] [(5,t.v)] (fun ac S=>?_)
 have hold:=fun p hp=>(S.own p hp).1.1
 have SN:=S.E.size
 refine aiQ S (some 6) (BM t _) ?_
 rintro e u ⟨b6,rfl,hb8,X7,E9⟩
 skip
 refine⟨_,rfl,E9,fun ac S=>?_⟩
 have S:=S.adopt (A:=t.cells) (X7) (by omega) (fun p hp=>by have:=hold p hp; omega) (fun m hm=>by cases hm)
 refine adr S 1 [] [(3,.slice (some ⟨b6,0,none⟩) 6 6)] fun ac S=>aiF<|bV _ _<|wp_seq_k fun _ dV=>aiG fun _ dB=>adr S 1 [] [(4,.int .i64 0)] fun ac S=>aiF<|dB _ _<|wp_block<|wp_loop_rounds 7 ?_
 rw[rounds_succ]
 refine wp_seq_k fun _ dw=>aiG fun _ fZ=>adr S 4 [] [(10,.bool true)] fun ac S=>aiF<|fZ _ _<|aiN S<|wp_skip<|dw _ _<|wp_seq_k fun _ fU=>wp_block<|aiG fun _ fH=>adr S 4 [.mem 0 0] [(16,t.a.v)] fun ac S=>aiM S 17 (mW _ Q.a K _ (h0.below S.E) hK1 (by omega)) fun ac u Pz S=>adr S 1 [] [(18,.bool (decide (256<(bF Q.a:Int))))] fun ac S=>aiF (fH _ _ ?_)
 refine aiI S (fun hc17=>?_) (fun hc17=>?_)
 ·refine aiG fun _ je=>adr S 1 [] [(2,.bool false)] fun ac S=>aiF<|je _ _<|Vp.rt ?_
  have g0:decide (bF Q.a≤256)=false:=vT hc17
  refine aiH S Tryz.results126 ?_
  exact⟨by rw[show Q.valid=false from by simp[Q6.valid,g0]],S.E⟩
 ·refine wp_skip<|fU _ _<|Vp.region<|adr S 3 [] [(4,.int .i64 1)] fun ac S=>aiF ?_
  show Code.rounds _ _ _ 6 _ _
  rw[rounds_succ]
  refine wp_seq_k fun _ jf=>aiG fun _ iU=>adr S 4 [] [(10,.bool true)] fun ac S=>aiF<|iU _ _<|aiN S<|wp_skip<|jf _ _<|wp_seq_k fun _ jo=>wp_block<|aiG fun _ jM=>adr S 4 [.mem 0 4] [(16,t.b.v)] fun ac S=>aiM S 17 (mW _ Q.b K _ (h1.below S.E) hK1 (by omega)) fun ac u JA S=>adr S 1 [] [(18,.bool (decide (256<(bF Q.b:Int))))] fun ac S=>aiF (jM _ _ ?_)
  refine aiI S (fun hc24=>?_) (fun hc24=>?_)
  ·refine aiG fun _ wB=>adr S 1 [] [(2,.bool false)] fun ac S=>aiF<|wB _ _<|Vp.rt ?_
   have g0:decide (bF Q.a≤256)=true:=dL hc17
   have g1:decide (bF Q.b≤256)=false:=vT hc24
   refine aiH S Tryz.results126 ?_
   exact⟨by rw[show Q.valid=false from by simp[Q6.valid,g0,g1]],S.E⟩
  ·refine wp_skip<|jo _ _<|Vp.region<|adr S 3 [] [(4,.int .i64 2)] fun ac S=>aiF ?_
   show Code.rounds _ _ _ 5 _ _
   rw[rounds_succ]
   refine wp_seq_k fun _ kH=>aiG fun _ lJ=>adr S 4 [] [(10,.bool true)] fun ac S=>aiF<|lJ _ _<|aiN S<|wp_skip<|kH _ _<|wp_seq_k fun _ lK=>wp_block<|aiG fun _ qm=>adr S 4 [.mem 0 8] [(16,t.c.v)] fun ac S=>aiM S 17 (mW _ Q.c K _ (h2.below S.E) hK1 (by omega)) fun ac u E30 S=>adr S 1 [] [(18,.bool (decide (256<(bF Q.c:Int))))] fun ac S=>aiF (qm _ _ ?_)
   refine aiI S (fun hc31=>?_) (fun hc31=>?_)
   ·refine aiG fun _ kM=>adr S 1 [] [(2,.bool false)] fun ac S=>aiF<|kM _ _<|Vp.rt ?_
    have g0:decide (bF Q.a≤256)=true:=dL hc17
    have g1:decide (bF Q.b≤256)=true:=dL hc24
    have g2:decide (bF Q.c≤256)=false:=vT hc31
    refine aiH S Tryz.results126 ?_
    exact⟨by rw[show Q.valid=false from by simp[Q6.valid,g0,g1,g2]],S.E⟩
   ·refine wp_skip<|lK _ _<|Vp.region<|adr S 3 [] [(4,.int .i64 3)] fun ac S=>aiF ?_
    show Code.rounds _ _ _ 4 _ _
    rw[rounds_succ]
    refine wp_seq_k fun _ lW=>aiG fun _ uQ=>adr S 4 [] [(10,.bool true)] fun ac S=>aiF<|uQ _ _<|aiN S<|wp_skip<|lW _ _<|wp_seq_k fun _ oK=>wp_block<|aiG fun _ nJ=>adr S 4 [.mem 0 12] [(16,t.d.v)] fun ac S=>aiM S 17 (mW _ Q.d K _ (h3.below S.E) hK1 (by omega)) fun ac u LP S=>adr S 1 [] [(18,.bool (decide (256<(bF Q.d:Int))))] fun ac S=>aiF (nJ _ _ ?_)
    refine aiI S (fun hc38=>?_) (fun hc38=>?_)
    ·refine aiG fun _ ug=>adr S 1 [] [(2,.bool false)] fun ac S=>aiF<|ug _ _<|Vp.rt ?_
     have g0:decide (bF Q.a≤256)=true:=dL hc17
     have g1:decide (bF Q.b≤256)=true:=dL hc24
     have g2:decide (bF Q.c≤256)=true:=dL hc31
     have g3:decide (bF Q.d≤256)=false:=vT hc38
     refine aiH S Tryz.results126 ?_
     exact⟨by rw[show Q.valid=false from by simp[Q6.valid,g0,g1,g2,g3]],S.E⟩
    ·refine wp_skip<|oK _ _<|Vp.region<|adr S 3 [] [(4,.int .i64 4)] fun ac S=>aiF ?_
     show Code.rounds _ _ _ 3 _ _
     rw[rounds_succ]
     refine wp_seq_k fun _ yY=>aiG fun _ qW=>adr S 4 [] [(10,.bool true)] fun ac S=>aiF<|qW _ _<|aiN S<|wp_skip<|yY _ _<|wp_seq_k fun _ qX=>wp_block<|aiG fun _ tH=>adr S 4 [.mem 0 16] [(16,t.e.v)] fun ac S=>aiM S 17 (mW _ Q.e K _ (h4.below S.E) hK1 (by omega)) fun ac u E44 S=>adr S 1 [] [(18,.bool (decide (256<(bF Q.e:Int))))] fun ac S=>aiF (tH _ _ ?_)
     refine aiI S (fun yZ=>?_) (fun yZ=>?_)
     ·refine aiG fun _ zU=>adr S 1 [] [(2,.bool false)] fun ac S=>aiF<|zU _ _<|Vp.rt ?_
      have g0:decide (bF Q.a≤256)=true:=dL hc17
      have g1:decide (bF Q.b≤256)=true:=dL hc24
      have g2:decide (bF Q.c≤256)=true:=dL hc31
      have g3:decide (bF Q.d≤256)=true:=dL hc38
      have g4:decide (bF Q.e≤256)=false:=vT yZ
      refine aiH S Tryz.results126 ?_
      exact⟨by rw[show Q.valid=false from by simp[Q6.valid,g0,g1,g2,g3,g4]],S.E⟩
     ·refine wp_skip<|qX _ _<|Vp.region<|adr S 3 [] [(4,.int .i64 5)] fun ac S=>aiF ?_
      show Code.rounds _ _ _ 2 _ _
      rw[rounds_succ]
      refine wp_seq_k fun _ zV=>aiG fun _ yx=>adr S 4 [] [(10,.bool true)] fun ac S=>aiF<|yx _ _<|aiN S<|wp_skip<|zV _ _<|wp_seq_k fun _ yA=>wp_block<|aiG fun _ zW=>adr S 4 [.mem 0 20] [(16,t.f.v)] fun ac S=>aiM S 17 (mW _ Q.f K _ (h5.below S.E) hK1 (by omega)) fun ac u E51 S=>adr S 1 [] [(18,.bool (decide (256<(bF Q.f:Int))))] fun ac S=>aiF (zW _ _ ?_)
      refine aiI S (fun y9=>?_) (fun y9=>?_)
      ·refine aiG fun _ XO=>adr S 1 [] [(2,.bool false)] fun ac S=>aiF<|XO _ _<|Vp.rt ?_
       have g0:decide (bF Q.a≤256)=true:=dL hc17
       have g1:decide (bF Q.b≤256)=true:=dL hc24
       have g2:decide (bF Q.c≤256)=true:=dL hc31
       have g3:decide (bF Q.d≤256)=true:=dL hc38
       have g4:decide (bF Q.e≤256)=true:=dL yZ
       have g5:decide (bF Q.f≤256)=false:=vT y9
       refine aiH S Tryz.results126 ?_
       exact⟨by rw[show Q.valid=false from by simp[Q6.valid,g0,g1,g2,g3,g4,g5]],S.E⟩
      ·refine wp_skip<|yA _ _<|Vp.region<|adr S 3 [] [(4,.int .i64 6)] fun ac S=>aiF ?_
       show Code.rounds _ _ _ 1 _ _
       rw[rounds_succ]
       refine wp_seq_k fun _ UR=>aiG fun _ D9=>adr S 4 [] [(10,.bool false)] fun ac S=>aiF<|D9 _ _<|aiY S<|wp_exit<|dV _ _<|aiG fun _ Ea=>adr S 1 [] [(2,.bool true)] fun ac S=>aiF<|Ea _ _<|Vp.rt ?_
       have g0:decide (bF Q.a≤256)=true:=dL hc17
       have g1:decide (bF Q.b≤256)=true:=dL hc24
       have g2:decide (bF Q.c≤256)=true:=dL hc31
       have g3:decide (bF Q.d≤256)=true:=dL hc38
       have g4:decide (bF Q.e≤256)=true:=dL yZ
       have g5:decide (bF Q.f≤256)=true:=dL y9
       refine aiH S Tryz.results126 ?_
       exact⟨by rw[show Q.valid=true from by simp[Q6.valid,g0,g1,g2,g3,g4,g5]],S.E⟩
theorem Oh(v:Value)(Q:Q6)(K:Nat)(w:World)(h:jk K w v Q)(hK1:1≤K)(hK:K≤10000) :
  Calls Tryz.prog 128 #[v] w fun e w'=>∃x,e = .returned x∧bH w.heap.size w' x Q.vU∧Ext w w':=by
 have hq:=h
 obtain⟨nr0,nr1,nr2,nr3,nr4,nr5⟩:=h.nrm
 obtain⟨ln0,ln1,ln2,ln3,ln4,ln5⟩:=h.len hK1
 obtain⟨t,rfl,h0,h1,h2,h3,h4,h5⟩:=h.sQ
 refine aiK Tryz.func128 Tryz.ntmps128 fun ac S=>aiG fun _ aU=>aiJ S 1 t.cells fun ac u b2 E3 hb4 S=>aiJ S 2 Sx.zr fun ac u b5 E6 hb7 S=>aiF<|aU _ _<|wp_seq_k fun _ dP=>aiV S 11 [(7,fun v w1=>bH w.heap.size w1 v (nK Q.a Q.d)),(12,fun v w1=>bH w.heap.size w1 v (nK Q.b Q.c)),(13,fun v w1=>bH w.heap.size w1 v Q.vU)] (fun r=>[.mem 1 0,.mem 1 12,.mem 1 4,.mem 1 8]) (fun x=>[x 7,x 12,x 13]) (fun x=>[(_,_,true,x 7,7),(_,_,true,x 12,12),(_,_,true,x 13,13)]) [[],[],[7,12]] (fun x=>[(13,x 13)]) ⟨fun _ _ _ k h=>h.ext k,fun _ _ _ k h=>h.ext k,fun _ _ _ k h=>h.ext k,trivial⟩ (fun x=>⟨by intro u hC g F; exact(Oe _ _ Q.a Q.d K K _ (h0.below (Ext.trans' S.E hC)) (h3.below (Ext.trans' S.E hC)) hK1 hK1 (by omega) (by omega)).mono fun e w2 h=>by obtain⟨y,rfl,hx,hb⟩:=h; exact⟨_,rfl,hx.mono ((Ext.trans' S.E hC)).size,hb⟩,by intro u hC g F; exact(Oe _ _ Q.b Q.c K K _ (h1.below (Ext.trans' S.E hC)) (h2.below (Ext.trans' S.E hC)) hK1 hK1 (by omega) (by omega)).mono fun e w2 h=>by obtain⟨y,rfl,hx,hb⟩:=h; exact⟨_,rfl,hx.mono ((Ext.trans' S.E hC)).size,hb⟩,by intro u hC g F; obtain⟨F7,LM,-⟩:=F; exact(Zf _ _ (nK Q.a Q.d) (nK Q.b Q.c) (K+K) (K+K) _ (aA.toQ F7 (Ec _ _) (uh hK1 ln0 ln3)) (aA.toQ LM (Ec _ _) (uh hK1 ln1 ln2)) (by omega) (by omega) (by omega) (by omega)).mono fun e w2 h=>by obtain⟨y,rfl,hx,hb⟩:=h; exact⟨_,rfl,hx.mono ((Ext.trans' S.E hC)).size,hb⟩,trivial⟩) (fun ac u x E9 F S=>?_)
 obtain⟨F7,LM,F13,-⟩:=F
 obtain⟨m,em⟩:=aA.gG F13
 rw[em]at S F13
 have SL:=S.bx 0
 refine aiL S 0 (off:=0) (cs:=m.cells) rfl (fun u C10 S=>?_)
 have LM:=aA.bT F13 C10 SL
 refine aiF<|dP _ _<|Vp.rt ?_
 refine aiS S 0 Tryz.results128 rfl (v:=m.v) ?_
 exact⟨_,rfl,LM,S.E⟩
end
section
set_option maxHeartbeats 1600000
set_option maxRecDepth 100000
open Go.RowKit
variable{α:Type}{K:Nat}
def bM.same(r s:bM):Bool:=(r.n1==s.n1&&r.l1==s.l1)&&(r.n2==s.n2&&r.l2==s.l2)
def aV.same(t u:aV):Bool:=t.a.same u.a&&(t.b.same u.b&&(t.c.same u.c&&(t.d.same u.d&&(t.e.same u.e&&t.f.same u.f))))
def bM.Is(r:bM)(q:Bool×Nat×Nat):Prop:=r.n1=q.1∧r.l1=Na.au q.2.1∧r.n2=false∧r.l2=Na.au q.2.2
def aV.Is(t:aV)(Q:Q6):Prop:=t.a.Is Q.a∧t.b.Is Q.b∧t.c.Is Q.c∧t.d.Is Q.d∧t.e.Is Q.e∧t.f.Is Q.f
theorem mX{r s:bM}{q1 q2:Bool×Nat×Nat}(h:r.Is q1)(k:s.Is q2):r.same s=decide (q1=q2):=by
 obtain⟨a,b,c⟩:=q1
 obtain⟨a',b',c'⟩:=q2
 obtain⟨e1,e2,e3,e4⟩:=h
 obtain⟨f1,f2,f3,f4⟩:=k
 have hd:∀m n:Nat,Na.au m=Na.au n↔m=n:=fun m n=>⟨fun h=>by rw[←Na.aI m,h,Na.aI],fun h=>by rw[h]⟩
 rw[Bool.eq_iff_iff]
 simp only[bM.same,e1,e2,e3,e4,f1,f2,f3,f4,Bool.and_eq_true,beq_iff_eq,decide_eq_true_eq,Prod.mk.injEq,hd,true_and]
 exact⟨fun h=>⟨h.1.1,h.1.2,h.2⟩,fun h=>⟨⟨h.1,h.2.1⟩,h.2.2⟩⟩
def Rh(w:World)(v:Value)(t:aV):Prop:=∃b,v = .slice (some ⟨b,0,none⟩) 6 6∧Bx w b t.cells.toArray
theorem Rh.ext{w w':World}{v:Value}{t:aV}(h:Rh w v t)(hE:Ext w w'):Rh w' v t:=by
 obtain⟨b,e,X⟩:=h; exact⟨b,e,X.ext hE⟩
def Oi(base:Nat)(w:World)(t:aV)(Q:Q6):Prop:=bH base w t.a.v Q.a∧bH base w t.b.v Q.b∧bH base w t.c.v Q.c∧bH base w t.d.v Q.d∧bH base w t.e.v Q.e∧bH base w t.f.v Q.f
theorem Oi.ext{base:Nat}{w w':World}{t:aV}{Q:Q6}(h:Oi base w t Q)(hE:Ext w w'):Oi base w' t Q:=⟨h.1.ext hE,h.2.1.ext hE,h.2.2.1.ext hE,h.2.2.2.1.ext hE,h.2.2.2.2.1.ext hE,h.2.2.2.2.2.ext hE⟩
def BN(base:Nat)(w:World)(v:Value)(Q:Q6):Prop:=∃t:aV,v=t.v∧Oi base w t Q
theorem BN.ext{base:Nat}{w w':World}{v:Value}{Q:Q6}(h:BN base w v Q)(hE:Ext w w'):BN base w' v Q:=by
 obtain⟨t,e,X⟩:=h; exact⟨t,e,X.ext hE⟩
def Q6.same(P Q:Q6):Bool:=decide (P.a=Q.a)&&(decide (P.b=Q.b)&&(decide (P.c=Q.c)&&(decide (P.d=Q.d)&&(decide (P.e=Q.e)&&decide (P.f=Q.f)))))
theorem BN.mono{b b':Nat}{w:World}{v:Value}{Q:Q6}(h:BN b w v Q)(hb:b'≤b):BN b' w v Q:=by
 obtain⟨t,e,h0,h1,h2,h3,h4,h5⟩:=h; exact⟨t,e,h0.mono hb,h1.mono hb,h2.mono hb,h3.mono hb,h4.mono hb,h5.mono hb⟩
theorem DW{t u:aV}{P Q:Q6}(h:t.Is P)(k:u.Is Q):t.same u=P.same Q:=by
 unfold aV.same Q6.same
 rw[mX h.1 k.1,mX h.2.1 k.2.1,mX h.2.2.1 k.2.2.1,mX h.2.2.2.1 k.2.2.2.1,mX h.2.2.2.2.1 k.2.2.2.2.1,mX h.2.2.2.2.2 k.2.2.2.2.2]
theorem Ri{base:Nat}{w:World}{t:aV}{Q:Q6}(h:Oi base w t Q):∃r:aV,t.v=r.v∧r.ok w∧r.Is Q:=by
 obtain⟨h0,h1,h2,h3,h4,h5⟩:=h
 obtain⟨r0,e0,a0,z0⟩:=aA.Bl h0
 obtain⟨r1,e1,a1,z1⟩:=aA.Bl h1
 obtain⟨r2,e2,a2,z2⟩:=aA.Bl h2
 obtain⟨r3,e3,a3,z3⟩:=aA.Bl h3
 obtain⟨r4,e4,a4,z4⟩:=aA.Bl h4
 obtain⟨r5,e5,a5,z5⟩:=aA.Bl h5
 refine⟨⟨r0,r1,r2,r3,r4,r5⟩,?_,⟨a0,a1,a2,a3,a4,a5⟩,z0,z1,z2,z3,z4,z5⟩
 have key:∀{x y:bM},x.v=y.v→x.cells=y.cells:=fun h=>by
  unfold bM.v at h
  simp only[Value.agg.injEq,Array.mk.injEq]at h
  exact h
 unfold aV.v aV.cells
 rw[key e0,key e1,key e2,key e3,key e4,key e5]
theorem mY{r s:bM}{w:World}(h:r.ok w)(k:s.ok w) :
  Calls Tryz.prog 185 #[r.v,s.v] w fun e w'=>e = .returned (.bool (r.same s))∧Ext w w':=by
 skip
 refine aiK Tryz.func185 Tryz.ntmps185 fun ac S=>aiG fun _ aU=>aiJ S 2 r.cells fun ac u b2 E3 hb4 S=>aiJ S 3 s.cells fun ac u b5 E6 hb7 S=>adr S 1 [] [(4,.bool false)] fun ac S=>aiF<|aU _ _<|aiG fun _ dP=>adr S 4 [.mem 1 0,.mem 0 0] [(6,.agg #[.bool r.n1,r.s1]),(8,.agg #[.bool s.n1,s.s1])] fun ac S=>aiM S 9 (CW r.n1 s.n1 r.s1 s.s1 r.l1 s.l1 _ (h.1.below S.E) (k.1.below S.E)) fun ac u E9 S=>aiT S 8 [.mem 1 2,.mem 0 2] [(_,_,(r.n1==s.n1&&r.l1==s.l1),.bool (r.n2==s.n2&&r.l2==s.l2))] [(4,.bool ((r.n1==s.n1&&r.l1==s.l1)&&(r.n2==s.n2&&r.l2==s.l2)))] ⟨fun u hC g=>CW r.n2 s.n2 r.s2 s.s2 r.l2 s.l2 _ (h.2.below (Ext.trans' S.E hC)) (k.2.below (Ext.trans' S.E hC)),trivial⟩ fun ac u Bj S=>aiF<|dP _ _<|Vp.rt ?_
 refine aiH S Tryz.results185 ?_
 exact⟨rfl,S.E⟩
theorem Ku{w:World}{v1 v2:Value}{t t2:aV}(h1:Rh w v1 t)(h2:Rh w v2 t2)(h:t.ok w)(k:t2.ok w) :
  Calls Tryz.prog 145 #[v1,v2] w fun e w'=>e = .returned (.bool (t.same t2))∧Ext w w':=by
 obtain⟨b1,rfl,X1⟩:=h1
 obtain⟨b2,rfl,X2⟩:=h2
 obtain⟨h0,h1,h2,h3,h4,h5⟩:=h
 obtain⟨k0,k1,k2,k3,k4,k5⟩:=k
 refine aiK Tryz.func145 Tryz.ntmps145 (fun ac S=>?_)
 have S:=S.view0 X1.1 (X1.range 0 24 rfl)
 have S:=S.view0 X2.1 (X2.range 0 24 rfl)
 refine aiG fun _ aU=>adr S 1 [] [(4,.bool false)] fun ac S=>aiF<|aU _ _<|wp_seq_k fun _ fE=>aiG fun _ gW=>adr S 5 [] [(10,.bool false)] fun ac S=>aiF<|gW _ _<|aiY S<|wp_skip<|fE _ _<|wp_seq_k fun _ lG=>aiG fun _ bV=>adr S 1 [] [(5,.int .i64 0)] fun ac S=>aiF<|bV _ _<|wp_block<|wp_loop_rounds 7 ?_
 rw[rounds_succ]
 refine wp_seq_k fun _ iK=>aiG fun _ kC=>adr S 4 [] [(14,.bool true)] fun ac S=>aiF<|kC _ _<|aiN S<|wp_skip<|iK _ _<|wp_seq_k fun _ dP=>wp_block<|wp_seq_k fun _ gB=>aiO S 10 [.mem 1 0,.mem 0 0] [(_,_,true,.bool (t.a.same t2.a))] [(26,.bool (!(t.a.same t2.a)))] ⟨fun u hC g=>mY (r:=t.a) (s:=t2.a) (h0.below (Ext.trans' S.E hC)) (k0.below (Ext.trans' S.E hC)),trivial⟩ fun ac u Bj S=>aiF (gB _ _ ?_)
 refine aiI S (fun gu=>?_) (fun gu=>?_)
 ·refine aiG fun _ dw=>adr S 1 [] [(4,.bool false)] fun ac S=>aiF<|dw _ _<|Vp.rt ?_
  have g0:t.a.same t2.a=false:=by simpa using gu
  refine aiH S Tryz.results145 ?_
  exact⟨aB (by simp only[aV.same,g0,Bool.false_and]),S.E⟩
 ·refine wp_skip<|dP _ _<|Vp.region<|adr S 3 [] [(5,.int .i64 1)] fun ac S=>aiF ?_
  show Code.rounds _ _ _ 6 _ _
  rw[rounds_succ]
  refine wp_seq_k fun _ fZ=>aiG fun _ fU=>adr S 4 [] [(14,.bool true)] fun ac S=>aiF<|fU _ _<|aiN S<|wp_skip<|fZ _ _<|wp_seq_k fun _ fH=>wp_block<|wp_seq_k fun _ iR=>aiO S 10 [.mem 1 4,.mem 0 4] [(_,_,true,.bool (t.b.same t2.b))] [(26,.bool (!(t.b.same t2.b)))] ⟨fun u hC g=>mY (r:=t.b) (s:=t2.b) (h1.below (Ext.trans' S.E hC)) (k1.below (Ext.trans' S.E hC)),trivial⟩ fun ac u LZ S=>aiF (iR _ _ ?_)
  refine aiI S (fun hc18=>?_) (fun hc18=>?_)
  ·refine aiG fun _ jf=>adr S 1 [] [(4,.bool false)] fun ac S=>aiF<|jf _ _<|Vp.rt ?_
   have g0:t.a.same t2.a=true:=by simpa using gu
   have g1:t.b.same t2.b=false:=by simpa using hc18
   refine aiH S Tryz.results145 ?_
   exact⟨aB (by simp only[aV.same,g0,g1,Bool.true_and,Bool.false_and]),S.E⟩
  ·refine wp_skip<|fH _ _<|Vp.region<|adr S 3 [] [(5,.int .i64 2)] fun ac S=>aiF ?_
   show Code.rounds _ _ _ 5 _ _
   rw[rounds_succ]
   refine wp_seq_k fun _ iU=>aiG fun _ jo=>adr S 4 [] [(14,.bool true)] fun ac S=>aiF<|jo _ _<|aiN S<|wp_skip<|iU _ _<|wp_seq_k fun _ jM=>wp_block<|wp_seq_k fun _ oJ=>aiO S 10 [.mem 1 8,.mem 0 8] [(_,_,true,.bool (t.c.same t2.c))] [(26,.bool (!(t.c.same t2.c)))] ⟨fun u hC g=>mY (r:=t.c) (s:=t2.c) (h2.below (Ext.trans' S.E hC)) (k2.below (Ext.trans' S.E hC)),trivial⟩ fun ac u Xn S=>aiF (oJ _ _ ?_)
   refine aiI S (fun hc25=>?_) (fun hc25=>?_)
   ·refine aiG fun _ kH=>adr S 1 [] [(4,.bool false)] fun ac S=>aiF<|kH _ _<|Vp.rt ?_
    have g0:t.a.same t2.a=true:=by simpa using gu
    have g1:t.b.same t2.b=true:=by simpa using hc18
    have g2:t.c.same t2.c=false:=by simpa using hc25
    refine aiH S Tryz.results145 ?_
    exact⟨aB (by simp only[aV.same,g0,g1,g2,Bool.true_and,Bool.false_and]),S.E⟩
   ·refine wp_skip<|jM _ _<|Vp.region<|adr S 3 [] [(5,.int .i64 3)] fun ac S=>aiF ?_
    show Code.rounds _ _ _ 4 _ _
    rw[rounds_succ]
    refine wp_seq_k fun _ lJ=>aiG fun _ lK=>adr S 4 [] [(14,.bool true)] fun ac S=>aiF<|lK _ _<|aiN S<|wp_skip<|lJ _ _<|wp_seq_k fun _ qm=>wp_block<|wp_seq_k fun _ nI=>aiO S 10 [.mem 1 12,.mem 0 12] [(_,_,true,.bool (t.d.same t2.d))] [(26,.bool (!(t.d.same t2.d)))] ⟨fun u hC g=>mY (r:=t.d) (s:=t2.d) (h3.below (Ext.trans' S.E hC)) (k3.below (Ext.trans' S.E hC)),trivial⟩ fun ac u JB S=>aiF (nI _ _ ?_)
    refine aiI S (fun hc32=>?_) (fun hc32=>?_)
    ·refine aiG fun _ lW=>adr S 1 [] [(4,.bool false)] fun ac S=>aiF<|lW _ _<|Vp.rt ?_
     have g0:t.a.same t2.a=true:=by simpa using gu
     have g1:t.b.same t2.b=true:=by simpa using hc18
     have g2:t.c.same t2.c=true:=by simpa using hc25
     have g3:t.d.same t2.d=false:=by simpa using hc32
     refine aiH S Tryz.results145 ?_
     exact⟨aB (by simp only[aV.same,g0,g1,g2,g3,Bool.true_and,Bool.false_and]),S.E⟩
    ·refine wp_skip<|qm _ _<|Vp.region<|adr S 3 [] [(5,.int .i64 4)] fun ac S=>aiF ?_
     show Code.rounds _ _ _ 3 _ _
     rw[rounds_succ]
     refine wp_seq_k fun _ uQ=>aiG fun _ oK=>adr S 4 [] [(14,.bool true)] fun ac S=>aiF<|oK _ _<|aiN S<|wp_skip<|uQ _ _<|wp_seq_k fun _ nJ=>wp_block<|wp_seq_k fun _ qo=>aiO S 10 [.mem 1 16,.mem 0 16] [(_,_,true,.bool (t.e.same t2.e))] [(26,.bool (!(t.e.same t2.e)))] ⟨fun u hC g=>mY (r:=t.e) (s:=t2.e) (h4.below (Ext.trans' S.E hC)) (k4.below (Ext.trans' S.E hC)),trivial⟩ fun ac u E38 S=>aiF (qo _ _ ?_)
     refine aiI S (fun hc39=>?_) (fun hc39=>?_)
     ·refine aiG fun _ yY=>adr S 1 [] [(4,.bool false)] fun ac S=>aiF<|yY _ _<|Vp.rt ?_
      have g0:t.a.same t2.a=true:=by simpa using gu
      have g1:t.b.same t2.b=true:=by simpa using hc18
      have g2:t.c.same t2.c=true:=by simpa using hc25
      have g3:t.d.same t2.d=true:=by simpa using hc32
      have g4:t.e.same t2.e=false:=by simpa using hc39
      refine aiH S Tryz.results145 ?_
      exact⟨aB (by simp only[aV.same,g0,g1,g2,g3,g4,Bool.true_and,Bool.false_and]),S.E⟩
     ·refine wp_skip<|nJ _ _<|Vp.region<|adr S 3 [] [(5,.int .i64 5)] fun ac S=>aiF ?_
      show Code.rounds _ _ _ 2 _ _
      rw[rounds_succ]
      refine wp_seq_k fun _ qW=>aiG fun _ qX=>adr S 4 [] [(14,.bool true)] fun ac S=>aiF<|qX _ _<|aiN S<|wp_skip<|qW _ _<|wp_seq_k fun _ tH=>wp_block<|wp_seq_k fun _ wE=>aiO S 10 [.mem 1 20,.mem 0 20] [(_,_,true,.bool (t.f.same t2.f))] [(26,.bool (!(t.f.same t2.f)))] ⟨fun u hC g=>mY (r:=t.f) (s:=t2.f) (h5.below (Ext.trans' S.E hC)) (k5.below (Ext.trans' S.E hC)),trivial⟩ fun ac u E45 S=>aiF (wE _ _ ?_)
      refine aiI S (fun DJ=>?_) (fun DJ=>?_)
      ·refine aiG fun _ zV=>adr S 1 [] [(4,.bool false)] fun ac S=>aiF<|zV _ _<|Vp.rt ?_
       have g0:t.a.same t2.a=true:=by simpa using gu
       have g1:t.b.same t2.b=true:=by simpa using hc18
       have g2:t.c.same t2.c=true:=by simpa using hc25
       have g3:t.d.same t2.d=true:=by simpa using hc32
       have g4:t.e.same t2.e=true:=by simpa using hc39
       have g5:t.f.same t2.f=false:=by simpa using DJ
       refine aiH S Tryz.results145 ?_
       exact⟨aB (by simp only[aV.same,g0,g1,g2,g3,g4,g5,Bool.true_and]),S.E⟩
      ·refine wp_skip<|tH _ _<|Vp.region<|adr S 3 [] [(5,.int .i64 6)] fun ac S=>aiF ?_
       show Code.rounds _ _ _ 1 _ _
       rw[rounds_succ]
       refine wp_seq_k fun _ yx=>aiG fun _ yA=>adr S 4 [] [(14,.bool false)] fun ac S=>aiF<|yA _ _<|aiY S<|wp_exit<|lG _ _<|aiG fun _ zW=>adr S 1 [] [(4,.bool true)] fun ac S=>aiF<|zW _ _<|Vp.rt ?_
       have g0:t.a.same t2.a=true:=by simpa using gu
       have g1:t.b.same t2.b=true:=by simpa using hc18
       have g2:t.c.same t2.c=true:=by simpa using hc25
       have g3:t.d.same t2.d=true:=by simpa using hc32
       have g4:t.e.same t2.e=true:=by simpa using hc39
       have g5:t.f.same t2.f=true:=by simpa using DJ
       refine aiH S Tryz.results145 ?_
       exact⟨aB (by simp only[aV.same,g0,g1,g2,g3,g4,g5,Bool.true_and]),S.E⟩
theorem CX(v:Value)(Q:Q6)(K:Nat)(w:World)(h:jk K w v Q)(hK1:1≤K)(hK:K≤10000) :
  Calls Tryz.prog 106 #[v] w fun e w'=>∃x,e = .returned x∧BN w.heap.size w' x Q∧Ext w w':=by
 have hq:=h
 obtain⟨nr0,nr1,nr2,nr3,nr4,nr5⟩:=h.nrm
 obtain⟨ln0,ln1,ln2,ln3,ln4,ln5⟩:=h.len hK1
 obtain⟨t,rfl,h0,h1,h2,h3,h4,h5⟩:=h.sQ
 refine aiK Tryz.func106 Tryz.ntmps106 fun ac S=>aiG fun _ aU=>aiJ S 1 t.cells fun ac u b2 E3 hb4 S=>aiJ S 2 Sx.za fun ac u b5 E6 hb7 S=>aiF<|aU _ _<|wp_seq_k fun _ dP=>aiV S 18 [(5,fun v w1=>bH w.heap.size w1 v Q.a),(8,fun v w1=>bH w.heap.size w1 v Q.b),(11,fun v w1=>bH w.heap.size w1 v Q.c),(14,fun v w1=>bH w.heap.size w1 v Q.d),(17,fun v w1=>bH w.heap.size w1 v Q.e),(20,fun v w1=>bH w.heap.size w1 v Q.f)] (fun r=>[.mem 1 0,.mem 1 4,.mem 1 8,.mem 1 12,.mem 1 16,.mem 1 20]) (fun x=>[x 5,x 8,x 11,x 14,x 17,x 20]) (fun x=>[(_,_,true,x 5,5),(_,_,true,x 8,8),(_,_,true,x 11,11),(_,_,true,x 14,14),(_,_,true,x 17,17),(_,_,true,x 20,20)]) [[],[],[],[],[],[]] (fun x=>[(5,x 5),(8,x 8),(11,x 11),(14,x 14),(17,x 17),(20,x 20)]) ⟨fun _ _ _ k h=>h.ext k,fun _ _ _ k h=>h.ext k,fun _ _ _ k h=>h.ext k,fun _ _ _ k h=>h.ext k,fun _ _ _ k h=>h.ext k,fun _ _ _ k h=>h.ext k,trivial⟩ (fun x=>⟨by intro u hC g F; exact(iD _ Q.a K _ (h0.below (Ext.trans' S.E hC)) (by omega)).mono fun e w2 h=>by obtain⟨y,rfl,hx,hb⟩:=h; exact⟨_,rfl,hx.mono ((Ext.trans' S.E hC)).size,hb⟩,by intro u hC g F; exact(iD _ Q.b K _ (h1.below (Ext.trans' S.E hC)) (by omega)).mono fun e w2 h=>by obtain⟨y,rfl,hx,hb⟩:=h; exact⟨_,rfl,hx.mono ((Ext.trans' S.E hC)).size,hb⟩,by intro u hC g F; exact(iD _ Q.c K _ (h2.below (Ext.trans' S.E hC)) (by omega)).mono fun e w2 h=>by obtain⟨y,rfl,hx,hb⟩:=h; exact⟨_,rfl,hx.mono ((Ext.trans' S.E hC)).size,hb⟩,by intro u hC g F; exact(iD _ Q.d K _ (h3.below (Ext.trans' S.E hC)) (by omega)).mono fun e w2 h=>by obtain⟨y,rfl,hx,hb⟩:=h; exact⟨_,rfl,hx.mono ((Ext.trans' S.E hC)).size,hb⟩,by intro u hC g F; exact(iD _ Q.e K _ (h4.below (Ext.trans' S.E hC)) (by omega)).mono fun e w2 h=>by obtain⟨y,rfl,hx,hb⟩:=h; exact⟨_,rfl,hx.mono ((Ext.trans' S.E hC)).size,hb⟩,by intro u hC g F; exact(iD _ Q.f K _ (h5.below (Ext.trans' S.E hC)) (by omega)).mono fun e w2 h=>by obtain⟨y,rfl,hx,hb⟩:=h; exact⟨_,rfl,hx.mono ((Ext.trans' S.E hC)).size,hb⟩,trivial⟩) (fun ac u x E9 F S=>?_)
 obtain⟨F5,F8,F11,Xp,Qc,F20,-⟩:=F
 obtain⟨ma,ema⟩:=aA.gG F5
 rw[ema]at S F5
 obtain⟨mb,emb⟩:=aA.gG F8
 rw[emb]at S F8
 obtain⟨mc,emc⟩:=aA.gG F11
 rw[emc]at S F11
 obtain⟨md,emd⟩:=aA.gG Xp
 rw[emd]at S Xp
 obtain⟨me,eme⟩:=aA.gG Qc
 rw[eme]at S Qc
 obtain⟨mf,emf⟩:=aA.gG F20
 rw[emf]at S F20
 refine adr S 1 [] [(21,.agg (ma.cells++mb.cells++mc.cells++md.cells++me.cells++mf.cells).toArray)] (fun ac S=>?_)
 have SL:=S.bx 0
 refine aiL S 0 (off:=0) (cs:=(ma.cells++mb.cells++mc.cells++md.cells++me.cells++mf.cells)) rfl (fun u C10 S=>?_)
 have acz:=aA.bT F5 C10 SL
 have ahf:=aA.bT F8 C10 SL
 have acn:=aA.bT F11 C10 SL
 have zi:=aA.bT Xp C10 SL
 have X4:=aA.bT Qc C10 SL
 have acR:=aA.bT F20 C10 SL
 refine aiF<|dP _ _<|Vp.rt ?_
 refine aiS S 0 Tryz.results106 rfl (v := .agg (ma.cells++mb.cells++mc.cells++md.cells++me.cells++mf.cells).toArray) ?_
 exact⟨_,rfl,⟨⟨ma,mb,mc,md,me,mf⟩,rfl,acz,ahf,acn,zi,X4,acR⟩,S.E⟩
theorem Ij{w:World}{t t2:aV}(h:t.ok w)(k:t2.ok w) :
  Calls Tryz.prog 105 #[t.v,t2.v] w fun e w'=>e = .returned (.bool (t.same t2))∧Ext w w':=by
 skip
 refine aiK Tryz.func105 Tryz.ntmps105 fun ac S=>aiG fun _ aU=>aiJ S 2 t.cells fun ac u b2 E3 hb4 S=>aiJ S 3 t2.cells fun ac u b5 E6 hb7 S=>adr S 1 [] [(4,.bool false)] fun ac S=>aiF<|aU _ _<|wp_seq_k fun _ dP=>aiV S 5 [(6,fun v w1=>Rh w1 v t),(8,fun v w1=>Rh w1 v t2)] (fun r=>[.mem 1 0,.mem 0 0]) (fun x=>[x 6,x 8,.bool (t.same t2)]) (fun x=>[(_,_,true,x 6,6),(_,_,true,x 8,8),(_,_,true,.bool (t.same t2),9)]) [[],[],[6,8]] (fun x=>[(9,.bool (t.same t2))]) ⟨fun _ _ _ k h=>h.ext k,fun _ _ _ k h=>h.ext k,trivial⟩ (fun x=>⟨by intro u hC g F; exact(BM t _).mono fun e w2 h=>by obtain⟨b,rfl,hb0,X,hb⟩:=h; exact⟨_,rfl,⟨b,rfl,X⟩,hb⟩,by intro u hC g F; exact(BM t2 _).mono fun e w2 h=>by obtain⟨b,rfl,hb0,X,hb⟩:=h; exact⟨_,rfl,⟨b,rfl,X⟩,hb⟩,by intro u hC g F; obtain⟨F6,F8,-⟩:=F; exact(Ku F6 F8 (h.below (Ext.trans' S.E hC)) (k.below (Ext.trans' S.E hC))).mono fun e w2 h=>⟨_,h.1,rfl,h.2⟩,trivial⟩) (fun ac u x E9 F S=>?_)
 obtain⟨F6,F8,-⟩:=F
 refine adr S 1 [] [(4,.bool (t.same t2))] fun ac S=>aiF<|dP _ _<|Vp.rt ?_
 refine aiH S Tryz.results105 ?_
 exact⟨rfl,S.E⟩
theorem Oj{w:World}{n1 n2:Nat}{v1 v2:Value}{P Q:Q6}(h:BN n1 w v1 P)(k:BN n2 w v2 Q) :
  Calls Tryz.prog 105 #[v1,v2] w fun e w'=>e = .returned (.bool (P.same Q))∧Ext w w':=by
 obtain⟨t,rfl,h⟩:=h
 obtain⟨t2,rfl,k⟩:=k
 obtain⟨r,e,ho,hi⟩:=Ri h
 obtain⟨s,e2,ko,ki⟩:=Ri k
 rw[e,e2]
 exact(Ij ho ko).mono fun _ _ h=>⟨h.1.trans (aB (DW hi ki)),h.2⟩
theorem uZ{w:World}{P Q:Q6}{t t2:aV}(h:jk K w t.v P)(k:jk K w t2.v Q)(hK1:1≤K)(hK:K≤10000) :
  Calls Tryz.prog 62 #[t.v,t2.v] w fun e w'=>e = .returned (.bool (P.same Q))∧Ext w w':=by
 skip
 refine aiK Tryz.func62 Tryz.ntmps62 fun ac S=>aiG fun _ aU=>aiJ S 2 t.cells fun ac u b2 E3 hb4 S=>aiJ S 3 t2.cells fun ac u b5 E6 hb7 S=>adr S 1 [] [(4,.bool false)] fun ac S=>aiF<|aU _ _<|wp_seq_k fun _ dP=>aiV S 5 [(6,fun v w1=>BN w.heap.size w1 v P),(8,fun v w1=>BN w.heap.size w1 v Q)] (fun r=>[.mem 1 0,.mem 0 0]) (fun x=>[x 6,x 8,.bool (P.same Q)]) (fun x=>[(_,_,true,x 6,6),(_,_,true,x 8,8),(_,_,true,.bool (P.same Q),9)]) [[],[],[6,8]] (fun x=>[(9,.bool (P.same Q))]) ⟨fun _ _ _ k h=>h.ext k,fun _ _ _ k h=>h.ext k,trivial⟩ (fun x=>⟨by intro u hC g F; exact(CX _ P K _ (h.eU (Ext.trans' S.E hC)) hK1 hK).mono fun e w2 h=>by obtain⟨y,rfl,hx,hb⟩:=h; exact⟨_,rfl,BN.mono hx ((Ext.trans' S.E hC)).size,hb⟩,by intro u hC g F; exact(CX _ Q K _ (k.eU (Ext.trans' S.E hC)) hK1 hK).mono fun e w2 h=>by obtain⟨y,rfl,hx,hb⟩:=h; exact⟨_,rfl,BN.mono hx ((Ext.trans' S.E hC)).size,hb⟩,by intro u hC g F; obtain⟨F6,F8,-⟩:=F; exact(Oj F6 F8).mono fun e w2 h=>⟨_,h.1,rfl,h.2⟩,trivial⟩) (fun ac u x E9 F S=>?_)
 obtain⟨F6,F8,-⟩:=F
 refine adr S 1 [] [(4,.bool (P.same Q))] fun ac S=>aiF<|dP _ _<|Vp.rt ?_
 refine aiH S Tryz.results62 ?_
 exact⟨rfl,S.E⟩
end
end Go.Proofs.YtfmkkemfhjkajaaGreatDoor
