/- References 03 and 12: the sameness of numbers and of transforms. -/
import Derived.Test.YtiafijffnejhoaaGreatDoorCheck
import Derived.Test.YtiafijffnejhoaaGreatDoorPk28
set_option maxHeartbeats 1600000
set_option maxRecDepth 100000
namespace Go.Proofs.YtiafijffnejhoaaGreatDoor
open Go.RowKit
variable{α:Type}{K:Nat}
set_option linter.unusedVariables false
def bD.same(r s:bD):Bool:=(r.n1==s.n1&&r.l1==s.l1)&&(r.n2==s.n2&&r.l2==s.l2)
def aU.same(t u:aU):Bool:=t.a.same u.a&&(t.b.same u.b&&(t.c.same u.c&&(t.d.same u.d&&(t.e.same u.e&&t.f.same u.f))))
def bD.Is(r:bD)(q:Bool×Nat×Nat):Prop:=r.n1=q.1∧r.l1=Na.aj q.2.1∧r.n2=false∧r.l2=Na.aj q.2.2
def aU.Is(t:aU)(Q:Q6):Prop:=t.a.Is Q.a∧t.b.Is Q.b∧t.c.Is Q.c∧t.d.Is Q.d∧t.e.Is Q.e∧t.f.Is Q.f
theorem kE{r s:bD}{q1 q2:Bool×Nat×Nat}(h:r.Is q1)(k:s.Is q2):r.same s=decide (q1=q2):=by
 obtain⟨a,b,c⟩:=q1;obtain⟨a',b',c'⟩:=q2;obtain⟨e1,e2,e3,e4⟩:=h;obtain⟨f1,f2,f3,f4⟩:=k;have hd:∀m n:Nat,Na.aj m=Na.aj n↔m=n:=fun m n=>⟨fun h=>by rw[←Na.aC m,h,Na.aC],fun h=>by rw[h]⟩;rw[aif];simp only[bD.same,e1,e2,e3,e4,f1,f2,f3,f4,ahD,ahu,ahK,ahg,hd,true_and];exact⟨fun h=>⟨h.1.1,h.1.2,h.2⟩,fun h=>⟨⟨h.1,h.2.1⟩,h.2.2⟩⟩
def Ll(w:World)(v:Value)(t:aU):Prop:=∃b,v = .slice (some ⟨b,0,none⟩) 6 6∧Bx w b t.cells.toArray
theorem Ll.ext{w w':World}{v:Value}{t:aU}(h:Ll w v t)(hE:Ext w w'):Ll w' v t:=by
 obtain⟨b,e,X⟩:=h; exact⟨b,e,X.ext hE⟩
def I4(base:Nat)(w:World)(t:aU)(Q:Q6):Prop:=bV base w t.a.v Q.a∧bV base w t.b.v Q.b∧bV base w t.c.v Q.c∧bV base w t.d.v Q.d∧bV base w t.e.v Q.e∧bV base w t.f.v Q.f
theorem I4.ext{base:Nat}{w w':World}{t:aU}{Q:Q6}(h:I4 base w t Q)(hE:Ext w w'):I4 base w' t Q:=⟨h.1.ext hE,h.2.1.ext hE,h.2.2.1.ext hE,h.2.2.2.1.ext hE,h.2.2.2.2.1.ext hE,h.2.2.2.2.2.ext hE⟩
def yx(base:Nat)(w:World)(v:Value)(Q:Q6):Prop:=∃t:aU,v=t.v∧I4 base w t Q
theorem yx.ext{base:Nat}{w w':World}{v:Value}{Q:Q6}(h:yx base w v Q)(hE:Ext w w'):yx base w' v Q:=by
 obtain⟨t,e,X⟩:=h; exact⟨t,e,X.ext hE⟩
def Q6.same(P Q:Q6):Bool:=decide (P.a=Q.a)&&(decide (P.b=Q.b)&&(decide (P.c=Q.c)&&(decide (P.d=Q.d)&&(decide (P.e=Q.e)&&decide (P.f=Q.f)))))
theorem yx.mono{b b':Nat}{w:World}{v:Value}{Q:Q6}(h:yx b w v Q)(hb:b'≤b):yx b' w v Q:=by
 obtain⟨t,e,h0,h1,h2,h3,h4,h5⟩:=h; exact⟨t,e,h0.mono hb,h1.mono hb,h2.mono hb,h3.mono hb,h4.mono hb,h5.mono hb⟩
theorem zq{t u:aU}{P Q:Q6}(h:t.Is P)(k:u.Is Q):t.same u=P.same Q:=by
 unfold aU.same Q6.same;rw[kE h.1 k.1,kE h.2.1 k.2.1,kE h.2.2.1 k.2.2.1,kE h.2.2.2.1 k.2.2.2.1,kE h.2.2.2.2.1 k.2.2.2.2.1,kE h.2.2.2.2.2 k.2.2.2.2.2]
theorem U0{base:Nat}{w:World}{t:aU}{Q:Q6}(h:I4 base w t Q):∃r:aU,t.v=r.v∧r.ok w∧r.Is Q:=by
 obtain⟨h0,h1,h2,h3,h4,h5⟩:=h;obtain⟨r0,e0,a0,z0⟩:=ak.xW h0;obtain⟨r1,e1,a1,z1⟩:=ak.xW h1;obtain⟨r2,e2,a2,z2⟩:=ak.xW h2;obtain⟨r3,e3,a3,z3⟩:=ak.xW h3;obtain⟨r4,e4,a4,z4⟩:=ak.xW h4;obtain⟨r5,e5,a5,z5⟩:=ak.xW h5;refine⟨⟨r0,r1,r2,r3,r4,r5⟩,?_,⟨a0,a1,a2,a3,a4,a5⟩,z0,z1,z2,z3,z4,z5⟩;have key:∀{x y:bD},x.v=y.v→x.cells=y.cells:=fun h=>by
  unfold bD.v at h;simp only[aiA,aiB]at h;exact h
 unfold aU.v aU.cells;rw[key e0,key e1,key e2,key e3,key e4,key e5]
theorem kF{r s:bD}{w:World}(h:r.ok w)(k:s.ok w) :
  Calls Tryz.prog 168 #[r.v,s.v] w fun e w'=>e = .returned (.bool (r.same s))∧Ext w w':=by
 skip;refine agX Tryz.func168 Tryz.ntmps168 fun ac S=>agS fun _ aX=>agT S 2 r.cells fun ac u b2 E3 hb4 S=>agT S 3 s.cells fun ac u b5 E6 hb7 S=>adr S 1 [] [(4,.bool false)] fun S=>agR<|aX _ _<|agS fun _ dU=>adr S 4 [.mem 1 0,.mem 0 0] [(6,.agg #[.bool r.n1,r.s1]),(8,.agg #[.bool s.n1,s.s1])] fun S=>ag0 S 9 (yN r.n1 s.n1 r.s1 s.s1 r.l1 s.l1 _ (h.1.below S.E) (k.1.below S.E)) fun ac u E9 S=>Sx.oQ S 8 [.mem 1 2,.mem 0 2] [(_,_,(r.n1==s.n1&&r.l1==s.l1),.bool (r.n2==s.n2&&r.l2==s.l2))] [(4,.bool ((r.n1==s.n1&&r.l1==s.l1)&&(r.n2==s.n2&&r.l2==s.l2)))] ⟨fun u hC g=>yN r.n2 s.n2 r.s2 s.s2 r.l2 s.l2 _ (h.2.below (Ext.trans' S.E hC)) (k.2.below (Ext.trans' S.E hC)),trivial⟩ fun ac u Vz S=>agR<|dU _ _<|agV S Tryz.results168 ?_;exact⟨rfl,S.E⟩
theorem FI{w:World}{v1 v2:Value}{t t2:aU}(h1:Ll w v1 t)(h2:Ll w v2 t2)(h:t.ok w)(k:t2.ok w) :
  Calls Tryz.prog 143 #[v1,v2] w fun e w'=>e = .returned (.bool (t.same t2))∧Ext w w':=by
 obtain⟨b1,rfl,X1⟩:=h1;obtain⟨b2,rfl,X2⟩:=h2;obtain⟨h0,h1,h2,h3,h4,h5⟩:=h;obtain⟨k0,k1,k2,k3,k4,k5⟩:=k;refine agX Tryz.func143 Tryz.ntmps143 (fun ac S=>?_);have S:=S.view0 X1.1 (X1.range 0 24 rfl);have S:=S.view0 X2.1 (X2.range 0 24 rfl);refine agS fun _ aX=>adr S 1 [] [(4,.bool false)] fun S=>agR<|aX _ _<|ag9 fun _ fH=>agS fun _ jK=>adr S 5 [] [(10,.bool false)] fun S=>agR<|jK _ _<|ag5 S<|aha<|fH _ _<|ag9 fun _ uQ=>agS fun _ dM=>adr S 1 [] [(5,.i 0)] fun S=>agR<|dM _ _<|ahc<|aiq 7 ?_;rw[ahr];refine ag9 fun _ iI=>agS fun _ jf=>adr S 4 [] [(14,.bool true)] fun S=>agR<|jf _ _<|ag4 S<|aha<|iI _ _<|ag9 fun _ dU=>ahc<|ag9 fun _ iP=>ag2 S 10 [.mem 1 0,.mem 0 0] [(_,_,true,.bool (t.a.same t2.a))] [(26,.bool (!(t.a.same t2.a)))] ⟨fun u hC g=>kF (r:=t.a) (s:=t2.a) (h0.below (Ext.trans' S.E hC)) (k0.below (Ext.trans' S.E hC)),trivial⟩ fun ac u Vz S=>agR (iP _ _ ?_);refine agU S (fun jc=>?_) (fun jc=>?_)
 ·refine agS fun _ dP=>adr S 1 [] [(4,.bool false)] fun S=>agR<|dP _ _<|ahj ?_;have g0:t.a.same t2.a=false:=by simpa using jc
  refine ag3 S Tryz.results143 ?_;exact⟨aI (by simp only[aU.same,g0,aiT]),S.E⟩
 refine aha<|dU _ _<|ahi<|adr S 3 [] [(5,.i 1)] fun S=>agR ?_;show Code.rounds _ _ _ 6 _ _;rw[ahr];refine ag9 fun _ gX=>agS fun _ fP=>adr S 4 [] [(14,.bool true)] fun S=>agR<|fP _ _<|ag4 S<|aha<|gX _ _<|ag9 fun _ jk=>ahc<|ag9 fun _ kG=>ag2 S 10 [.mem 1 4,.mem 0 4] [(_,_,true,.bool (t.b.same t2.b))] [(26,.bool (!(t.b.same t2.b)))] ⟨fun u hC g=>kF (r:=t.b) (s:=t2.b) (h1.below (Ext.trans' S.E hC)) (k1.below (Ext.trans' S.E hC)),trivial⟩ fun ac u yI S=>agR (kG _ _ ?_);refine agU S (fun hc18=>?_) (fun hc18=>?_)
 ·refine agS fun _ kX=>adr S 1 [] [(4,.bool false)] fun S=>agR<|kX _ _<|ahj ?_;have g0:t.a.same t2.a=true:=by simpa using jc
  have g1:t.b.same t2.b=false:=by simpa using hc18
  refine ag3 S Tryz.results143 ?_;exact⟨aI (by simp only[aU.same,g0,g1,aiC,aiT]),S.E⟩
 refine aha<|jk _ _<|ahi<|adr S 3 [] [(5,.i 2)] fun S=>agR ?_;show Code.rounds _ _ _ 5 _ _;rw[ahr];refine ag9 fun _ kH=>agS fun _ nV=>adr S 4 [] [(14,.bool true)] fun S=>agR<|nV _ _<|ag4 S<|aha<|kH _ _<|ag9 fun _ nX=>ahc<|ag9 fun _ uN=>ag2 S 10 [.mem 1 8,.mem 0 8] [(_,_,true,.bool (t.c.same t2.c))] [(26,.bool (!(t.c.same t2.c)))] ⟨fun u hC g=>kF (r:=t.c) (s:=t2.c) (h2.below (Ext.trans' S.E hC)) (k2.below (Ext.trans' S.E hC)),trivial⟩ fun ac u WI S=>agR (uN _ _ ?_);refine agU S (fun hc25=>?_) (fun hc25=>?_)
 ·refine agS fun _ oN=>adr S 1 [] [(4,.bool false)] fun S=>agR<|oN _ _<|ahj ?_;have g0:t.a.same t2.a=true:=by simpa using jc
  have g1:t.b.same t2.b=true:=by simpa using hc18
  have g2:t.c.same t2.c=false:=by simpa using hc25
  refine ag3 S Tryz.results143 ?_;exact⟨aI (by simp only[aU.same,g0,g1,g2,aiC,aiT]),S.E⟩
 refine aha<|nX _ _<|ahi<|adr S 3 [] [(5,.i 3)] fun S=>agR ?_;show Code.rounds _ _ _ 4 _ _;rw[ahr];refine ag9 fun _ qg=>agS fun _ rC=>adr S 4 [] [(14,.bool true)] fun S=>agR<|rC _ _<|ag4 S<|aha<|qg _ _<|ag9 fun _ yX=>ahc<|ag9 fun _ qX=>ag2 S 10 [.mem 1 12,.mem 0 12] [(_,_,true,.bool (t.d.same t2.d))] [(26,.bool (!(t.d.same t2.d)))] ⟨fun u hC g=>kF (r:=t.d) (s:=t2.d) (h3.below (Ext.trans' S.E hC)) (k3.below (Ext.trans' S.E hC)),trivial⟩ fun ac u Dl S=>agR (qX _ _ ?_);refine agU S (fun hc32=>?_) (fun hc32=>?_)
 ·refine agS fun _ kW=>adr S 1 [] [(4,.bool false)] fun S=>agR<|kW _ _<|ahj ?_;have g0:t.a.same t2.a=true:=by simpa using jc
  have g1:t.b.same t2.b=true:=by simpa using hc18
  have g2:t.c.same t2.c=true:=by simpa using hc25
  have g3:t.d.same t2.d=false:=by simpa using hc32
  refine ag3 S Tryz.results143 ?_;exact⟨aI (by simp only[aU.same,g0,g1,g2,g3,aiC,aiT]),S.E⟩
 refine aha<|yX _ _<|ahi<|adr S 3 [] [(5,.i 4)] fun S=>agR ?_;show Code.rounds _ _ _ 3 _ _;rw[ahr];refine ag9 fun _ vY=>agS fun _ uO=>adr S 4 [] [(14,.bool true)] fun S=>agR<|uO _ _<|ag4 S<|aha<|vY _ _<|ag9 fun _ mV=>ahc<|ag9 fun _ oO=>ag2 S 10 [.mem 1 16,.mem 0 16] [(_,_,true,.bool (t.e.same t2.e))] [(26,.bool (!(t.e.same t2.e)))] ⟨fun u hC g=>kF (r:=t.e) (s:=t2.e) (h4.below (Ext.trans' S.E hC)) (k4.below (Ext.trans' S.E hC)),trivial⟩ fun ac u E38 S=>agR (oO _ _ ?_);refine agU S (fun hc39=>?_) (fun hc39=>?_)
 ·refine agS fun _ uM=>adr S 1 [] [(4,.bool false)] fun S=>agR<|uM _ _<|ahj ?_;have g0:t.a.same t2.a=true:=by simpa using jc
  have g1:t.b.same t2.b=true:=by simpa using hc18
  have g2:t.c.same t2.c=true:=by simpa using hc25
  have g3:t.d.same t2.d=true:=by simpa using hc32
  have g4:t.e.same t2.e=false:=by simpa using hc39
  refine ag3 S Tryz.results143 ?_;exact⟨aI (by simp only[aU.same,g0,g1,g2,g3,g4,aiC,aiT]),S.E⟩
 refine aha<|mV _ _<|ahi<|adr S 3 [] [(5,.i 5)] fun S=>agR ?_;show Code.rounds _ _ _ 2 _ _;rw[ahr];refine ag9 fun _ D8=>agS fun _ rD=>adr S 4 [] [(14,.bool true)] fun S=>agR<|rD _ _<|ag4 S<|aha<|D8 _ _<|ag9 fun _ zD=>ahc<|ag9 fun _ EW=>ag2 S 10 [.mem 1 20,.mem 0 20] [(_,_,true,.bool (t.f.same t2.f))] [(26,.bool (!(t.f.same t2.f)))] ⟨fun u hC g=>kF (r:=t.f) (s:=t2.f) (h5.below (Ext.trans' S.E hC)) (k5.below (Ext.trans' S.E hC)),trivial⟩ fun ac u Yt S=>agR (EW _ _ ?_);refine agU S (fun Ia=>?_) (fun Ia=>?_)
 ·refine agS fun _ Ec=>adr S 1 [] [(4,.bool false)] fun S=>agR<|Ec _ _<|ahj ?_;have g0:t.a.same t2.a=true:=by simpa using jc
  have g1:t.b.same t2.b=true:=by simpa using hc18
  have g2:t.c.same t2.c=true:=by simpa using hc25
  have g3:t.d.same t2.d=true:=by simpa using hc32
  have g4:t.e.same t2.e=true:=by simpa using hc39
  have g5:t.f.same t2.f=false:=by simpa using Ia
  refine ag3 S Tryz.results143 ?_;exact⟨aI (by simp only[aU.same,g0,g1,g2,g3,g4,g5,aiC]),S.E⟩
 refine aha<|zD _ _<|ahi<|adr S 3 [] [(5,.i 6)] fun S=>agR ?_;show Code.rounds _ _ _ 1 _ _;rw[ahr];refine ag9 fun _ Gl=>agS fun _ Ed=>adr S 4 [] [(14,.bool false)] fun S=>agR<|Ed _ _<|ag5 S<|ahn<|uQ _ _<|agS fun _ Ce=>adr S 1 [] [(4,.bool true)] fun S=>agR<|Ce _ _<|ahj ?_;have g0:t.a.same t2.a=true:=by simpa using jc
 have g1:t.b.same t2.b=true:=by simpa using hc18
 have g2:t.c.same t2.c=true:=by simpa using hc25
 have g3:t.d.same t2.d=true:=by simpa using hc32
 have g4:t.e.same t2.e=true:=by simpa using hc39
 have g5:t.f.same t2.f=true:=by simpa using Ia
 refine ag3 S Tryz.results143 ?_;exact⟨aI (by simp only[aU.same,g0,g1,g2,g3,g4,g5,aiC]),S.E⟩
theorem yS(v:Value)(Q:Q6)(K:Nat)(w:World)(h:jD K w v Q)(hK1:1≤K)(hK:K≤10000) :
  Calls Tryz.prog 114 #[v] w fun e w'=>∃x,e = .returned x∧yx w.heap.size w' x Q∧Ext w w':=by
 have hq:=h;obtain⟨nr0,nr1,nr2,nr3,nr4,nr5⟩:=h.nrm;obtain⟨ln0,ln1,ln2,ln3,ln4,ln5⟩:=h.len hK1;obtain⟨t,rfl,h0,h1,h2,h3,h4,h5⟩:=h.sQ;refine agX Tryz.func114 Tryz.ntmps114 fun ac S=>agS fun _ aX=>agT S 1 t.cells fun ac u b2 E3 hb4 S=>agT S 2 Sx.za fun ac u b5 E6 hb7 S=>agR<|aX _ _<|ag9 fun _ dU=>Sx.pq S 18 [(5,fun v w1=>bV w.heap.size w1 v Q.a),(8,fun v w1=>bV w.heap.size w1 v Q.b),(11,fun v w1=>bV w.heap.size w1 v Q.c),(14,fun v w1=>bV w.heap.size w1 v Q.d),(17,fun v w1=>bV w.heap.size w1 v Q.e),(20,fun v w1=>bV w.heap.size w1 v Q.f)] (fun r=>[.mem 1 0,.mem 1 4,.mem 1 8,.mem 1 12,.mem 1 16,.mem 1 20]) (fun x=>[x 5,x 8,x 11,x 14,x 17,x 20]) (fun x=>[(_,_,true,x 5,5),(_,_,true,x 8,8),(_,_,true,x 11,11),(_,_,true,x 14,14),(_,_,true,x 17,17),(_,_,true,x 20,20)]) [[],[],[],[],[],[]] (fun x=>[(5,x 5),(8,x 8),(11,x 11),(14,x 14),(17,x 17),(20,x 20)]) ⟨fun _ _ _ k h=>h.ext k,fun _ _ _ k h=>h.ext k,fun _ _ _ k h=>h.ext k,fun _ _ _ k h=>h.ext k,fun _ _ _ k h=>h.ext k,fun _ _ _ k h=>h.ext k,trivial⟩ (fun x=>⟨by intro u hC g F; exact(mM _ Q.a K _ (h0.below (Ext.trans' S.E hC)) (by omega)).mono fun e w2 h=>by obtain⟨y,rfl,hx,hb⟩:=h; exact⟨_,rfl,hx.mono ((Ext.trans' S.E hC)).size,hb⟩,by intro u hC g F; exact(mM _ Q.b K _ (h1.below (Ext.trans' S.E hC)) (by omega)).mono fun e w2 h=>by obtain⟨y,rfl,hx,hb⟩:=h; exact⟨_,rfl,hx.mono ((Ext.trans' S.E hC)).size,hb⟩,by intro u hC g F; exact(mM _ Q.c K _ (h2.below (Ext.trans' S.E hC)) (by omega)).mono fun e w2 h=>by obtain⟨y,rfl,hx,hb⟩:=h; exact⟨_,rfl,hx.mono ((Ext.trans' S.E hC)).size,hb⟩,by intro u hC g F; exact(mM _ Q.d K _ (h3.below (Ext.trans' S.E hC)) (by omega)).mono fun e w2 h=>by obtain⟨y,rfl,hx,hb⟩:=h; exact⟨_,rfl,hx.mono ((Ext.trans' S.E hC)).size,hb⟩,by intro u hC g F; exact(mM _ Q.e K _ (h4.below (Ext.trans' S.E hC)) (by omega)).mono fun e w2 h=>by obtain⟨y,rfl,hx,hb⟩:=h; exact⟨_,rfl,hx.mono ((Ext.trans' S.E hC)).size,hb⟩,by intro u hC g F; exact(mM _ Q.f K _ (h5.below (Ext.trans' S.E hC)) (by omega)).mono fun e w2 h=>by obtain⟨y,rfl,hx,hb⟩:=h; exact⟨_,rfl,hx.mono ((Ext.trans' S.E hC)).size,hb⟩,trivial⟩) (fun ac u x E9 F S=>?_);obtain⟨F5,F8,F11,F14,F17,F20,-⟩:=F;obtain⟨ma,ema⟩:=ak.iE F5;rw[ema]at S F5;obtain⟨mb,emb⟩:=ak.iE F8;rw[emb]at S F8;obtain⟨mc,emc⟩:=ak.iE F11;rw[emc]at S F11;obtain⟨md,emd⟩:=ak.iE F14;rw[emd]at S F14;obtain⟨me,eme⟩:=ak.iE F17;rw[eme]at S F17;obtain⟨mf,emf⟩:=ak.iE F20;rw[emf]at S F20;refine adr S 1 [] [(21,.agg (ma.cells++mb.cells++mc.cells++md.cells++me.cells++mf.cells).toArray)] (fun S=>?_);have VA:=S.bx 0;refine agW S 0 (off:=0) (cs:=(ma.cells++mb.cells++mc.cells++md.cells++me.cells++mf.cells)) rfl (fun u C10 S=>?_);have Zu:=ak.bM F5 C10 VA;have UG:=ak.bM F8 C10 VA;have afI:=ak.bM F11 C10 VA;have EK:=ak.bM F14 C10 VA;have abg:=ak.bM F17 C10 VA;have afJ:=ak.bM F20 C10 VA;refine agR<|dU _ _<|Sx.Cc S 0 Tryz.results114 rfl (v := .agg (ma.cells++mb.cells++mc.cells++md.cells++me.cells++mf.cells).toArray) ?_;exact⟨_,rfl,⟨⟨ma,mb,mc,md,me,mf⟩,rfl,Zu,UG,afI,EK,abg,afJ⟩,S.E⟩
theorem Df{w:World}{t t2:aU}(h:t.ok w)(k:t2.ok w) :
  Calls Tryz.prog 113 #[t.v,t2.v] w fun e w'=>e = .returned (.bool (t.same t2))∧Ext w w':=by
 skip;refine agX Tryz.func113 Tryz.ntmps113 fun ac S=>agS fun _ aX=>agT S 2 t.cells fun ac u b2 E3 hb4 S=>agT S 3 t2.cells fun ac u b5 E6 hb7 S=>adr S 1 [] [(4,.bool false)] fun S=>agR<|aX _ _<|ag9 fun _ dU=>Sx.pq S 5 [(6,fun v w1=>Ll w1 v t),(8,fun v w1=>Ll w1 v t2)] (fun r=>[.mem 1 0,.mem 0 0]) (fun x=>[x 6,x 8,.bool (t.same t2)]) (fun x=>[(_,_,true,x 6,6),(_,_,true,x 8,8),(_,_,true,.bool (t.same t2),9)]) [[],[],[6,8]] (fun x=>[(9,.bool (t.same t2))]) ⟨fun _ _ _ k h=>h.ext k,fun _ _ _ k h=>h.ext k,trivial⟩ (fun x=>⟨by intro u hC g F; exact(DK t _).mono fun e w2 h=>by obtain⟨b,rfl,hb0,X,hb⟩:=h; exact⟨_,rfl,⟨b,rfl,X⟩,hb⟩,by intro u hC g F; exact(DK t2 _).mono fun e w2 h=>by obtain⟨b,rfl,hb0,X,hb⟩:=h; exact⟨_,rfl,⟨b,rfl,X⟩,hb⟩,by intro u hC g F; obtain⟨F6,F8,-⟩:=F; exact(FI F6 F8 (h.below (Ext.trans' S.E hC)) (k.below (Ext.trans' S.E hC))).mono fun e w2 h=>⟨_,h.1,rfl,h.2⟩,trivial⟩) (fun ac u x E9 F S=>?_);obtain⟨F6,F8,-⟩:=F;refine adr S 1 [] [(4,.bool (t.same t2))] fun S=>agR<|dU _ _<|agV S Tryz.results113 ?_;exact⟨rfl,S.E⟩
theorem I5{w:World}{n1 n2:Nat}{v1 v2:Value}{P Q:Q6}(h:yx n1 w v1 P)(k:yx n2 w v2 Q) :
  Calls Tryz.prog 113 #[v1,v2] w fun e w'=>e = .returned (.bool (P.same Q))∧Ext w w':=by
 obtain⟨t,rfl,h⟩:=h;obtain⟨t2,rfl,k⟩:=k;obtain⟨r,e,ho,hi⟩:=U0 h;obtain⟨s,e2,ko,ki⟩:=U0 k;rw[e,e2];exact(Df ho ko).mono fun _ _ h=>⟨h.1.trans (aI (zq hi ki)),h.2⟩
theorem wF{w:World}{P Q:Q6}{t t2:aU}(h:jD K w t.v P)(k:jD K w t2.v Q)(hK1:1≤K)(hK:K≤10000) :
  Calls Tryz.prog 80 #[t.v,t2.v] w fun e w'=>e = .returned (.bool (P.same Q))∧Ext w w':=by
 skip;refine agX Tryz.func80 Tryz.ntmps80 fun ac S=>agS fun _ aX=>agT S 2 t.cells fun ac u b2 E3 hb4 S=>agT S 3 t2.cells fun ac u b5 E6 hb7 S=>adr S 1 [] [(4,.bool false)] fun S=>agR<|aX _ _<|ag9 fun _ dU=>Sx.pq S 5 [(6,fun v w1=>yx w.heap.size w1 v P),(8,fun v w1=>yx w.heap.size w1 v Q)] (fun r=>[.mem 1 0,.mem 0 0]) (fun x=>[x 6,x 8,.bool (P.same Q)]) (fun x=>[(_,_,true,x 6,6),(_,_,true,x 8,8),(_,_,true,.bool (P.same Q),9)]) [[],[],[6,8]] (fun x=>[(9,.bool (P.same Q))]) ⟨fun _ _ _ k h=>h.ext k,fun _ _ _ k h=>h.ext k,trivial⟩ (fun x=>⟨by intro u hC g F; exact(yS _ P K _ (h.fF (Ext.trans' S.E hC)) hK1 hK).mono fun e w2 h=>by obtain⟨y,rfl,hx,hb⟩:=h; exact⟨_,rfl,yx.mono hx ((Ext.trans' S.E hC)).size,hb⟩,by intro u hC g F; exact(yS _ Q K _ (k.fF (Ext.trans' S.E hC)) hK1 hK).mono fun e w2 h=>by obtain⟨y,rfl,hx,hb⟩:=h; exact⟨_,rfl,yx.mono hx ((Ext.trans' S.E hC)).size,hb⟩,by intro u hC g F; obtain⟨F6,F8,-⟩:=F; exact(I5 F6 F8).mono fun e w2 h=>⟨_,h.1,rfl,h.2⟩,trivial⟩) (fun ac u x E9 F S=>?_);obtain⟨F6,F8,-⟩:=F;refine adr S 1 [] [(4,.bool (P.same Q))] fun S=>agR<|dU _ _<|agV S Tryz.results80 ?_;exact⟨rfl,S.E⟩
end Go.Proofs.YtiafijffnejhoaaGreatDoor
