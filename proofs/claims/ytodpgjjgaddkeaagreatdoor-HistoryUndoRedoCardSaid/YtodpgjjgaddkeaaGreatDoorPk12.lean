/- Walks of reference 12 by value -/
import Derived.Test.YtodpgjjgaddkeaaGreatDoorPk11
import Derived.Test.YtodpgjjgaddkeaaGreatDoorPk9
set_option maxHeartbeats 9999999
open Go renaming World->Á,Value->À,Calls->Ä
set_option maxRecDepth 100000
set_option linter.unusedVariables false
set_option linter.unusedSimpArgs false
namespace Go.Proofs.Pv
open _root_.Go.Proofs.Tryz
section
open Go.RowKit Na Go.Sx
variable{α:Type}
abbrev DW(t:aT)(w:Á) :
  Ä prog 153 #[t.v] w λe w'=>∃b,e = .R (.s (some ⟨b,0,none⟩) 6 6)∧w.heap.size<=b∧Bx w' b t.cells.toArray∧Ext w w':=by
 skip;refine Ë func153 ntmps153 λS=>Í S λu b2 E3 hb4 S=>Å S 13 [] [.M 0 0,.M 0 4,.M 0 8,.M 0 12,.M 0 16,.M 0 20] λS=>Í S λu b6 E7 hb8 S=>Æ S (.s (some ⟨b6,0,none⟩) 6 6) (λS=>?_);exact⟨b6,I,S.old 0,S.pV 0,S.E⟩
abbrev zQ(v:À)(Q:Q6)(K:Nat)(w:Á)(h:jI K w v Q)(hK1:1<=K)(hK:K<=100000) :
  Ä prog 155 #[v] w (RF w (.b Q.valid)):=by
 have hq:=h;obtain⟨nr0,nr1,nr2,nr3,nr4,nr5⟩:=h.nrm;obtain⟨ϴ,ϵ,Ϸ,ϸ,ln4,ln5⟩:=h.len hK1;obtain⟨t,rfl,h0,h1,h2,h3,h4,h5⟩:=h.sQ;refine Ë func155 ntmps155 λS=>Í S (λu b2 E3 hb4 S=>?_);have hold:=λp hp=>(S.own p hp).1.1;have lg:=S.E.size;refine Å S 2 [] [.M 0 0] λS=>î S (DW t _) ?_;rintro e u ⟨b6,rfl,hb8,X7,E9⟩;skip;refine⟨_,I,E9,λS=>?_⟩;have S:=S.adopt (A:=t.cells) (X7) Z (λp hp=>by have:=hold p hp; omega) (λm hm=>by cases hm);refine Qu S 6 λS=>â S λS=>Å S 4 [] [.M 0 0] λS=>Þ S (nG _ Q.a K _ (h0.below S.E) hK1 Z) λu LU S=>È S (decide (256<(bV Q.a:Int))) (λhc17 S=>?_) (λhc17 S=>?_)
 .have g0:decide (bV Q.a<=256)=false:=vW hc17;refine Æ S (.z) (λS=>?_);exact⟨by rw[show Q.valid=false from by simp[Q6.valid,g0]],S.E⟩
 refine â S λS=>Å S 4 [] [.M 0 4] λS=>Þ S (nG _ Q.b K _ (h1.below S.E) hK1 Z) λu Qv S=>È S (decide (256<(bV Q.b:Int))) (λhc24 S=>?_) (λhc24 S=>?_)
 .have g0:decide (bV Q.a<=256)=true:=dS hc17;have g1:decide (bV Q.b<=256)=false:=vW hc24;refine Æ S (.z) (λS=>?_);exact⟨by rw[show Q.valid=false from by simp[Q6.valid,g0,g1]],S.E⟩
 refine â S λS=>Å S 4 [] [.M 0 8] λS=>Þ S (nG _ Q.c K _ (h2.below S.E) hK1 Z) λu E30 S=>È S (decide (256<(bV Q.c:Int))) (λhc31 S=>?_) (λhc31 S=>?_)
 .have g0:decide (bV Q.a<=256)=true:=dS hc17;have g1:decide (bV Q.b<=256)=true:=dS hc24;have g2:decide (bV Q.c<=256)=false:=vW hc31;refine Æ S (.z) (λS=>?_);exact⟨by rw[show Q.valid=false from by simp[Q6.valid,g0,g1,g2]],S.E⟩
 refine â S λS=>Å S 4 [] [.M 0 12] λS=>Þ S (nG _ Q.d K _ (h3.below S.E) hK1 Z) λu H8 S=>È S (decide (256<(bV Q.d:Int))) (λhc38 S=>?_) (λhc38 S=>?_)
 .have g0:decide (bV Q.a<=256)=true:=dS hc17;have g1:decide (bV Q.b<=256)=true:=dS hc24;have g2:decide (bV Q.c<=256)=true:=dS hc31;have g3:decide (bV Q.d<=256)=false:=vW hc38;refine Æ S (.z) (λS=>?_);exact⟨by rw[show Q.valid=false from by simp[Q6.valid,g0,g1,g2,g3]],S.E⟩
 refine â S λS=>Å S 4 [] [.M 0 16] λS=>Þ S (nG _ Q.e K _ (h4.below S.E) hK1 Z) λu Ũ S=>È S (decide (256<(bV Q.e:Int))) (λAw S=>?_) (λAw S=>?_)
 .have g0:decide (bV Q.a<=256)=true:=dS hc17;have g1:decide (bV Q.b<=256)=true:=dS hc24;have g2:decide (bV Q.c<=256)=true:=dS hc31;have g3:decide (bV Q.d<=256)=true:=dS hc38;have g4:decide (bV Q.e<=256)=false:=vW Aw;refine Æ S (.z) (λS=>?_);exact⟨by rw[show Q.valid=false from by simp[Q6.valid,g0,g1,g2,g3,g4]],S.E⟩
 refine â S λS=>Å S 4 [] [.M 0 20] λS=>Þ S (nG _ Q.f K _ (h5.below S.E) hK1 Z) λu E51 S=>È S (decide (256<(bV Q.f:Int))) (λwC S=>?_) (λwC S=>?_)
 .have g0:decide (bV Q.a<=256)=true:=dS hc17;have g1:decide (bV Q.b<=256)=true:=dS hc24;have g2:decide (bV Q.c<=256)=true:=dS hc31;have g3:decide (bV Q.d<=256)=true:=dS hc38;have g4:decide (bV Q.e<=256)=true:=dS Aw;have g5:decide (bV Q.f<=256)=false:=vW wC;refine Æ S (.z) (λS=>?_);exact⟨by rw[show Q.valid=false from by simp[Q6.valid,g0,g1,g2,g3,g4,g5]],S.E⟩
 refine ú S (λS=>?_);have g0:decide (bV Q.a<=256)=true:=dS hc17;have g1:decide (bV Q.b<=256)=true:=dS hc24;have g2:decide (bV Q.c<=256)=true:=dS hc31;have g3:decide (bV Q.d<=256)=true:=dS hc38;have g4:decide (bV Q.e<=256)=true:=dS Aw;have g5:decide (bV Q.f<=256)=true:=dS wC;refine Æ S (.b true) (λS=>?_);exact⟨by rw[show Q.valid=true from by simp[Q6.valid,g0,g1,g2,g3,g4,g5]],S.E⟩
abbrev Rl(v:À)(Q:Q6)(K:Nat)(w:Á)(h:jI K w v Q)(hK1:1<=K)(hK:K<=10000) :
  Ä prog 157 #[v] w λe w'=>∃x,e = .R x∧bF w.heap.size w' x Q.wE∧Ext w w':=by
 have hq:=h;obtain⟨nr0,nr1,nr2,nr3,nr4,nr5⟩:=h.nrm;obtain⟨ϴ,ϵ,Ϸ,ϸ,ln4,ln5⟩:=h.len hK1;obtain⟨t,rfl,h0,h1,h2,h3,h4,h5⟩:=h.sQ;refine Ë func157 ntmps157 λS=>Ú S t.cells λu b2 E3 hb4 S=>Ú S Sx.zr λu b5 E6 hb7 S=>Į S 11 [(7,λv w1=>bF w.heap.size w1 v (oU Q.a Q.d)),(12,λv w1=>bF w.heap.size w1 v (oU Q.b Q.c)),(13,λv w1=>bF w.heap.size w1 v Q.wE)] (λr=>[.M 1 0,.M 1 12,.M 1 4,.M 1 8]) (λx=>[x 7,x 12,x 13]) (λx=>[(_,_,true,x 7,7),(_,_,true,x 12,12),(_,_,true,x 13,13)]) [[],[],[7,12]] (λx=>[(13,x 13)]) ⟨λ_ _ _ k h=>h.ext k,λ_ _ _ k h=>h.ext k,λ_ _ _ k h=>h.ext k,G⟩ (λx=>⟨by intro u hC g F; exact(Rh _ _ Q.a Q.d K K _ (h0.below (Ã S.E hC)) (h3.below (Ã S.E hC)) hK1 hK1 Z Z).mono λe w2 h=>by obtain⟨y,rfl,hx,hb⟩:=h; exact⟨_,I,hx.mono ((Ã S.E hC)).size,hb⟩,by intro u hC g F; exact(Rh _ _ Q.b Q.c K K _ (h1.below (Ã S.E hC)) (h2.below (Ã S.E hC)) hK1 hK1 Z Z).mono λe w2 h=>by obtain⟨y,rfl,hx,hb⟩:=h; exact⟨_,I,hx.mono ((Ã S.E hC)).size,hb⟩,by intro u hC g F; obtain⟨F7,KC,-⟩:=F; exact(ac9 _ _ (oU Q.a Q.d) (oU Q.b Q.c) (K+K) (K+K) _ (au.toQ F7 (Ib _ _) (uj hK1 ϴ ϸ)) (au.toQ KC (Ib _ _) (uj hK1 ϵ Ϸ)) Z Z Z Z).mono λe w2 h=>by obtain⟨y,rfl,hx,hb⟩:=h; exact⟨_,I,hx.mono ((Ã S.E hC)).size,hb⟩,G⟩) (λu x E9 F S=>?_);obtain⟨F7,KC,U0,-⟩:=F;obtain⟨m,em⟩:=au.iL U0;rw[em]at S U0;try rw[em]
 have Qs:=S.bx 0;refine è S 0 (off:=0) (cs:=m.cells) I (λu C10 S=>?_);have Az:=au.dG U0 C10 Qs;refine ă S 0 I (v:=m.v) (λS=>?_);exact⟨_,I,Az,S.E⟩
end
section
open Go.RowKit Na Go.Sx
variable{α:Type}{K:Nat}
def bn.same(r s:bn):Bool:=(r.n1==s.n1&&r.l1==s.l1)&&(r.n2==s.n2&&r.l2==s.l2)
def aT.same(t u:aT):Bool:=t.a.same u.a&&(t.b.same u.b&&(t.c.same u.c&&(t.d.same u.d&&(t.e.same u.e&&t.f.same u.f))))
def bn.Is(r:bn)(q:Bool×Nat×Nat):Prop:=r.n1=q.1∧r.l1=LZ q.2.1∧r.n2=false∧r.l2=LZ q.2.2
def aT.Is(t:aT)(Q:Q6):Prop:=t.a.Is Q.a∧t.b.Is Q.b∧t.c.Is Q.c∧t.d.Is Q.d∧t.e.Is Q.e∧t.f.Is Q.f
variable{w:Á}{t t2:aT}{r s:bn}{v1 v2:À}
abbrev nH{q1 q2:Bool×Nat×Nat}(h:r.Is q1)(k:s.Is q2):r.same s=decide (q1=q2):=by
 obtain⟨a,b,c⟩:=q1;obtain⟨a',b',c'⟩:=q2;obtain⟨e1,e2,e3,e4⟩:=h;obtain⟨f1,f2,f3,f4⟩:=k;have hd:∀m n:Nat,LZ m=LZ n↔m=n:=λm n=>⟨λh=>by rw[<-L6 m,h,L6],λh=>by rw[h]⟩;rw[ĩ];simp only[bn.same,e1,e2,e3,e4,f1,f2,f3,f4,æ,Û,Ý,Ô,hd,true_and];exact⟨λh=>⟨h.1.1,h.1.2,h.2⟩,λh=>⟨⟨h.1,h.2.1⟩,h.2.2⟩⟩
def VE(w:Á)(v:À)(t:aT):Prop:=∃b,v = .s (some ⟨b,0,none⟩) 6 6∧Bx w b t.cells.toArray
abbrev VE.ext{w w':Á}{v:À}{t:aT}(h:VE w v t)(hE:Ext w w'):VE w' v t:=by
 obtain⟨b,e,ý⟩:=h; exact⟨b,e,ý.ext hE⟩
def Rn(base:Nat)(w:Á)(t:aT)(Q:Q6):Prop:=bF base w t.a.v Q.a∧bF base w t.b.v Q.b∧bF base w t.c.v Q.c∧bF base w t.d.v Q.d∧bF base w t.e.v Q.e∧bF base w t.f.v Q.f
abbrev Rn.ext{base:Nat}{w w':Á}{t:aT}{Q:Q6}(h:Rn base w t Q)(hE:Ext w w'):Rn base w' t Q:=⟨h.1.ext hE,h.2.1.ext hE,h.2.2.1.ext hE,h.2.2.2.1.ext hE,h.2.2.2.2.1.ext hE,h.2.2.2.2.2.ext hE⟩
def BU(base:Nat)(w:Á)(v:À)(Q:Q6):Prop:=∃t:aT,v=t.v∧Rn base w t Q
abbrev BU.ext{base:Nat}{w w':Á}{v:À}{Q:Q6}(h:BU base w v Q)(hE:Ext w w'):BU base w' v Q:=by
 obtain⟨t,e,ý⟩:=h; exact⟨t,e,ý.ext hE⟩
def Q6.same(P Q:Q6):Bool:=decide (P.a=Q.a)&&(decide (P.b=Q.b)&&(decide (P.c=Q.c)&&(decide (P.d=Q.d)&&(decide (P.e=Q.e)&&decide (P.f=Q.f)))))
abbrev BU.mono{b b':Nat}{w:Á}{v:À}{Q:Q6}(h:BU b w v Q)(hb:b'<=b):BU b' w v Q:=by
 obtain⟨t,e,h0,h1,h2,h3,h4,h5⟩:=h; exact⟨t,e,h0.mono hb,h1.mono hb,h2.mono hb,h3.mono hb,h4.mono hb,h5.mono hb⟩
abbrev ag1{u:aT}{P Q:Q6}(h:t.Is P)(k:u.Is Q):t.same u=P.same Q:=by
 unfold aT.same Q6.same;rw[nH h.1 k.1,nH h.2.1 k.2.1,nH h.2.2.1 k.2.2.1,nH h.2.2.2.1 k.2.2.2.1,nH h.2.2.2.2.1 k.2.2.2.2.1,nH h.2.2.2.2.2 k.2.2.2.2.2]
abbrev VF{base:Nat}{Q:Q6}(h:Rn base w t Q):∃r:aT,t.v=r.v∧r.ok w∧r.Is Q:=by
 obtain⟨h0,h1,h2,h3,h4,h5⟩:=h;obtain⟨r0,e0,a0,z0⟩:=K04 h0;obtain⟨r1,e1,a1,z1⟩:=K04 h1;obtain⟨r2,e2,a2,z2⟩:=K04 h2;obtain⟨r3,e3,a3,z3⟩:=K04 h3;obtain⟨r4,e4,a4,z4⟩:=K04 h4;obtain⟨r5,e5,a5,z5⟩:=K04 h5;refine⟨⟨r0,r1,r2,r3,r4,r5⟩,?_,⟨a0,a1,a2,a3,a4,a5⟩,z0,z1,z2,z3,z4,z5⟩;have key:∀{x y:bn},x.v=y.v->x.cells=y.cells:=λh=>by
  unfold bn.v at h;simp only[Ŧ,ť]at h;exact h
 unfold aT.v aT.cells;rw[key e0,key e1,key e2,key e3,key e4,key e5]
abbrev nI(h:r.ok w)(k:s.ok w) :
  Ä prog 201 #[r.v,s.v] w (RF w (.b (r.same s))):=by
 skip;refine Ë func201 ntmps201 λS=>Í S λu b2 E3 hb4 S=>Í S λu b5 E6 hb7 S=>Å S 5 [] [.M 1 0,.M 0 0] λS=>Þ S (EL r.n1 s.n1 r.s1 s.s1 r.l1 s.l1 _ (h.1.below S.E) (k.1.below S.E)) λu E9 S=>ě S 8 [.M 1 2,.M 0 2] [(_,_,(r.n1==s.n1&&r.l1==s.l1),.b (r.n2==s.n2&&r.l2==s.l2))] [(4,.b ((r.n1==s.n1&&r.l1==s.l1)&&(r.n2==s.n2&&r.l2==s.l2)))] ⟨λu hC g=>EL r.n2 s.n2 r.s2 s.s2 r.l2 s.l2 _ (h.2.below (Ã S.E hC)) (k.2.below (Ã S.E hC)),G⟩ λu NQ S=>Æ S (.b ((r.n1==s.n1&&r.l1==s.l1)&&(r.n2==s.n2&&r.l2==s.l2))) (λS=>?_);exact⟨I,S.E⟩
abbrev N9(h1:VE w v1 t)(h2:VE w v2 t2)(h:t.ok w)(k:t2.ok w) :
  Ä prog 152 #[v1,v2] w (RF w (.b (t.same t2))):=by
 obtain⟨b1,rfl,X1⟩:=h1;obtain⟨b2,rfl,X2⟩:=h2;obtain⟨h0,h1,h2,h3,h4,h5⟩:=h;obtain⟨k0,k1,k2,k3,k4,k5⟩:=k;refine Ë func152 ntmps152 (λS=>?_);have S:=S.view0 X1.1 (X1.range 0 24 I);have S:=S.view0 X2.1 (X2.range 0 24 I);refine ú S λS=>Qu S 6 λS=>â S λS=>Ą S 10 [.M 1 0,.M 0 0] [(_,_,true,.b (t.a.same t2.a))] [(26,.b (!(t.a.same t2.a)))] ⟨λu hC g=>nI (r:=t.a) (s:=t2.a) (h0.below (Ã S.E hC)) (k0.below (Ã S.E hC)),G⟩ λu NQ S=>È S (!(t.a.same t2.a)) (λfV S=>?_) (λfV S=>?_)
 .have g0:t.a.same t2.a=false:=by simpa using fV
  refine Æ S (.z) (λS=>?_);exact⟨aC (by simp only[aT.same,g0,ļ,ŕ]),S.E⟩
 refine â S λS=>Ą S 10 [.M 1 4,.M 0 4] [(_,_,true,.b (t.b.same t2.b))] [(26,.b (!(t.b.same t2.b)))] ⟨λu hC g=>nI (r:=t.b) (s:=t2.b) (h1.below (Ã S.E hC)) (k1.below (Ã S.E hC)),G⟩ λu AA S=>È S (!(t.b.same t2.b)) (λhc18 S=>?_) (λhc18 S=>?_)
 .have g0:t.a.same t2.a=true:=by simpa using fV
  have g1:t.b.same t2.b=false:=by simpa using hc18
  refine Æ S (.z) (λS=>?_);exact⟨aC (by simp only[aT.same,g0,g1,ļ,ŕ]),S.E⟩
 refine â S λS=>Ą S 10 [.M 1 8,.M 0 8] [(_,_,true,.b (t.c.same t2.c))] [(26,.b (!(t.c.same t2.c)))] ⟨λu hC g=>nI (r:=t.c) (s:=t2.c) (h2.below (Ã S.E hC)) (k2.below (Ã S.E hC)),G⟩ λu EK S=>È S (!(t.c.same t2.c)) (λhc25 S=>?_) (λhc25 S=>?_)
 .have g0:t.a.same t2.a=true:=by simpa using fV
  have g1:t.b.same t2.b=true:=by simpa using hc18
  have g2:t.c.same t2.c=false:=by simpa using hc25
  refine Æ S (.z) (λS=>?_);exact⟨aC (by simp only[aT.same,g0,g1,g2,ļ,ŕ]),S.E⟩
 refine â S λS=>Ą S 10 [.M 1 12,.M 0 12] [(_,_,true,.b (t.d.same t2.d))] [(26,.b (!(t.d.same t2.d)))] ⟨λu hC g=>nI (r:=t.d) (s:=t2.d) (h3.below (Ã S.E hC)) (k3.below (Ã S.E hC)),G⟩ λu DJ S=>È S (!(t.d.same t2.d)) (λhc32 S=>?_) (λhc32 S=>?_)
 .have g0:t.a.same t2.a=true:=by simpa using fV
  have g1:t.b.same t2.b=true:=by simpa using hc18
  have g2:t.c.same t2.c=true:=by simpa using hc25
  have g3:t.d.same t2.d=false:=by simpa using hc32
  refine Æ S (.z) (λS=>?_);exact⟨aC (by simp only[aT.same,g0,g1,g2,g3,ļ,ŕ]),S.E⟩
 refine â S λS=>Ą S 10 [.M 1 16,.M 0 16] [(_,_,true,.b (t.e.same t2.e))] [(26,.b (!(t.e.same t2.e)))] ⟨λu hC g=>nI (r:=t.e) (s:=t2.e) (h4.below (Ã S.E hC)) (k4.below (Ã S.E hC)),G⟩ λu E38 S=>È S (!(t.e.same t2.e)) (λhc39 S=>?_) (λhc39 S=>?_)
 .have g0:t.a.same t2.a=true:=by simpa using fV
  have g1:t.b.same t2.b=true:=by simpa using hc18
  have g2:t.c.same t2.c=true:=by simpa using hc25
  have g3:t.d.same t2.d=true:=by simpa using hc32
  have g4:t.e.same t2.e=false:=by simpa using hc39
  refine Æ S (.z) (λS=>?_);exact⟨aC (by simp only[aT.same,g0,g1,g2,g3,g4,ļ,ŕ]),S.E⟩
 refine â S λS=>Ą S 10 [.M 1 20,.M 0 20] [(_,_,true,.b (t.f.same t2.f))] [(26,.b (!(t.f.same t2.f)))] ⟨λu hC g=>nI (r:=t.f) (s:=t2.f) (h5.below (Ã S.E hC)) (k5.below (Ã S.E hC)),G⟩ λu ϝ S=>È S (!(t.f.same t2.f)) (λFP S=>?_) (λFP S=>?_)
 .have g0:t.a.same t2.a=true:=by simpa using fV
  have g1:t.b.same t2.b=true:=by simpa using hc18
  have g2:t.c.same t2.c=true:=by simpa using hc25
  have g3:t.d.same t2.d=true:=by simpa using hc32
  have g4:t.e.same t2.e=true:=by simpa using hc39
  have g5:t.f.same t2.f=false:=by simpa using FP
  refine Æ S (.z) (λS=>?_);exact⟨aC (by simp only[aT.same,g0,g1,g2,g3,g4,g5,ļ,ŕ]),S.E⟩
 refine ú S (λS=>?_);have g0:t.a.same t2.a=true:=by simpa using fV
 have g1:t.b.same t2.b=true:=by simpa using hc18
 have g2:t.c.same t2.c=true:=by simpa using hc25
 have g3:t.d.same t2.d=true:=by simpa using hc32
 have g4:t.e.same t2.e=true:=by simpa using hc39
 have g5:t.f.same t2.f=true:=by simpa using FP
 refine Æ S (.b true) (λS=>?_);exact⟨aC (by simp only[aT.same,g0,g1,g2,g3,g4,g5,ļ,ŕ]),S.E⟩
abbrev EM(v:À)(Q:Q6)(K:Nat)(w:Á)(h:jI K w v Q)(hK1:1<=K)(hK:K<=10000) :
  Ä prog 106 #[v] w λe w'=>∃x,e = .R x∧BU w.heap.size w' x Q∧Ext w w':=by
 have hq:=h;obtain⟨nr0,nr1,nr2,nr3,nr4,nr5⟩:=h.nrm;obtain⟨ϴ,ϵ,Ϸ,ϸ,ln4,ln5⟩:=h.len hK1;obtain⟨t,rfl,h0,h1,h2,h3,h4,h5⟩:=h.sQ;refine Ë func106 ntmps106 λS=>Ú S t.cells λu b2 E3 hb4 S=>Ú S Sx.za λu b5 E6 hb7 S=>Į S 18 [(5,λv w1=>bF w.heap.size w1 v Q.a),(8,λv w1=>bF w.heap.size w1 v Q.b),(11,λv w1=>bF w.heap.size w1 v Q.c),(14,λv w1=>bF w.heap.size w1 v Q.d),(17,λv w1=>bF w.heap.size w1 v Q.e),(20,λv w1=>bF w.heap.size w1 v Q.f)] (λr=>[.M 1 0,.M 1 4,.M 1 8,.M 1 12,.M 1 16,.M 1 20]) (λx=>[x 5,x 8,x 11,x 14,x 17,x 20]) (λx=>[(_,_,true,x 5,5),(_,_,true,x 8,8),(_,_,true,x 11,11),(_,_,true,x 14,14),(_,_,true,x 17,17),(_,_,true,x 20,20)]) [[],[],[],[],[],[]] (λx=>[(5,x 5),(8,x 8),(11,x 11),(14,x 14),(17,x 17),(20,x 20)]) ⟨λ_ _ _ k h=>h.ext k,λ_ _ _ k h=>h.ext k,λ_ _ _ k h=>h.ext k,λ_ _ _ k h=>h.ext k,λ_ _ _ k h=>h.ext k,λ_ _ _ k h=>h.ext k,G⟩ (λx=>⟨by intro u hC g F; exact(gV _ Q.a K _ (h0.below (Ã S.E hC)) Z).mono λe w2 h=>by obtain⟨y,rfl,hx,hb⟩:=h; exact⟨_,I,hx.mono ((Ã S.E hC)).size,hb⟩,by intro u hC g F; exact(gV _ Q.b K _ (h1.below (Ã S.E hC)) Z).mono λe w2 h=>by obtain⟨y,rfl,hx,hb⟩:=h; exact⟨_,I,hx.mono ((Ã S.E hC)).size,hb⟩,by intro u hC g F; exact(gV _ Q.c K _ (h2.below (Ã S.E hC)) Z).mono λe w2 h=>by obtain⟨y,rfl,hx,hb⟩:=h; exact⟨_,I,hx.mono ((Ã S.E hC)).size,hb⟩,by intro u hC g F; exact(gV _ Q.d K _ (h3.below (Ã S.E hC)) Z).mono λe w2 h=>by obtain⟨y,rfl,hx,hb⟩:=h; exact⟨_,I,hx.mono ((Ã S.E hC)).size,hb⟩,by intro u hC g F; exact(gV _ Q.e K _ (h4.below (Ã S.E hC)) Z).mono λe w2 h=>by obtain⟨y,rfl,hx,hb⟩:=h; exact⟨_,I,hx.mono ((Ã S.E hC)).size,hb⟩,by intro u hC g F; exact(gV _ Q.f K _ (h5.below (Ã S.E hC)) Z).mono λe w2 h=>by obtain⟨y,rfl,hx,hb⟩:=h; exact⟨_,I,hx.mono ((Ã S.E hC)).size,hb⟩,G⟩) (λu x E9 F S=>?_);obtain⟨F5,F8,F11,UY,Ro,F20,-⟩:=F;obtain⟨ma,ema⟩:=au.iL F5;rw[ema]at S F5;try rw[ema]
 obtain⟨mb,emb⟩:=au.iL F8;rw[emb]at S F8;try rw[emb]
 obtain⟨mc,emc⟩:=au.iL F11;rw[emc]at S F11;try rw[emc]
 obtain⟨md,emd⟩:=au.iL UY;rw[emd]at S UY;try rw[emd]
 obtain⟨me,eme⟩:=au.iL Ro;rw[eme]at S Ro;try rw[eme]
 obtain⟨mf,emf⟩:=au.iL F20;rw[emf]at S F20;try rw[emf]
 have Qs:=S.bx 0;refine è S 0 (off:=0) (cs:=(ma.cells++mb.cells++mc.cells++md.cells++me.cells++mf.cells)) I (λu C10 S=>?_);have Az:=au.dG F5 C10 Qs;have Ic:=au.dG F8 C10 Qs;have ag2:=au.dG F11 C10 Qs;have sK:=au.dG UY C10 Qs;have Rq:=au.dG Ro C10 Qs;have VG:=au.dG F20 C10 Qs;refine ă S 0 I (v := .agg (ma.cells++mb.cells++mc.cells++md.cells++me.cells++mf.cells).toArray) (λS=>?_);exact⟨_,I,⟨⟨ma,mb,mc,md,me,mf⟩,I,Az,Ic,ag2,sK,Rq,VG⟩,S.E⟩
abbrev KJ(h:t.ok w)(k:t2.ok w) :
  Ä prog 105 #[t.v,t2.v] w (RF w (.b (t.same t2))):=by
 skip;refine Ë func105 ntmps105 λS=>Í S λu b2 E3 hb4 S=>Í S λu b5 E6 hb7 S=>Į S 5 [(6,λv w1=>VE w1 v t),(8,λv w1=>VE w1 v t2)] (λr=>[.M 1 0,.M 0 0]) (λx=>[x 6,x 8,.b (t.same t2)]) (λx=>[(_,_,true,x 6,6),(_,_,true,x 8,8),(_,_,true,.b (t.same t2),9)]) [[],[],[6,8]] (λx=>[(9,.b (t.same t2))]) ⟨λ_ _ _ k h=>h.ext k,λ_ _ _ k h=>h.ext k,G⟩ (λx=>⟨by intro u hC g F; exact(DW t _).mono λe w2 h=>by obtain⟨b,rfl,hb0,ý,hb⟩:=h; exact⟨_,I,⟨b,I,ý⟩,hb⟩,by intro u hC g F; exact(DW t2 _).mono λe w2 h=>by obtain⟨b,rfl,hb0,ý,hb⟩:=h; exact⟨_,I,⟨b,I,ý⟩,hb⟩,by intro u hC g F; obtain⟨F6,F8,-⟩:=F; exact(N9 F6 F8 (h.below (Ã S.E hC)) (k.below (Ã S.E hC))).mono λe w2 h=>⟨_,h.1,I,h.2⟩,G⟩) (λu x E9 F S=>?_);obtain⟨F6,F8,-⟩:=F;refine Æ S (.b (t.same t2)) (λS=>?_);exact⟨I,S.E⟩
abbrev Rt{n1 n2:Nat}{P Q:Q6}(h:BU n1 w v1 P)(k:BU n2 w v2 Q) :
  Ä prog 105 #[v1,v2] w (RF w (.b (P.same Q))):=by
 obtain⟨t,rfl,h⟩:=h;obtain⟨t2,rfl,k⟩:=k;obtain⟨r,e,ho,hi⟩:=VF h;obtain⟨s,e2,ko,ki⟩:=VF k;rw[e,e2];exact(KJ ho ko).mono λ_ _ h=>⟨h.1.trans (aC (ag1 hi ki)),h.2⟩
abbrev uV{P Q:Q6}(h:jI K w t.v P)(k:jI K w t2.v Q)(hK1:1<=K)(hK:K<=10000) :
  Ä prog 64 #[t.v,t2.v] w (RF w (.b (P.same Q))):=by
 skip;refine Ë func64 ntmps64 λS=>Í S λu b2 E3 hb4 S=>Í S λu b5 E6 hb7 S=>Į S 5 [(6,λv w1=>BU w.heap.size w1 v P),(8,λv w1=>BU w.heap.size w1 v Q)] (λr=>[.M 1 0,.M 0 0]) (λx=>[x 6,x 8,.b (P.same Q)]) (λx=>[(_,_,true,x 6,6),(_,_,true,x 8,8),(_,_,true,.b (P.same Q),9)]) [[],[],[6,8]] (λx=>[(9,.b (P.same Q))]) ⟨λ_ _ _ k h=>h.ext k,λ_ _ _ k h=>h.ext k,G⟩ (λx=>⟨by intro u hC g F; exact(EM _ P K _ (h.fB (Ã S.E hC)) hK1 hK).mono λe w2 h=>by obtain⟨y,rfl,hx,hb⟩:=h; exact⟨_,I,BU.mono hx ((Ã S.E hC)).size,hb⟩,by intro u hC g F; exact(EM _ Q K _ (k.fB (Ã S.E hC)) hK1 hK).mono λe w2 h=>by obtain⟨y,rfl,hx,hb⟩:=h; exact⟨_,I,BU.mono hx ((Ã S.E hC)).size,hb⟩,by intro u hC g F; obtain⟨F6,F8,-⟩:=F; exact(Rt F6 F8).mono λe w2 h=>⟨_,h.1,I,h.2⟩,G⟩) (λu x E9 F S=>?_);obtain⟨F6,F8,-⟩:=F;refine Æ S (.b (P.same Q)) (λS=>?_);exact⟨I,S.E⟩
end
section
abbrev Ie.facts{q:Bool×Nat×Nat}(h:Ie q):0<q.2.2∧Nat.Coprime q.2.1 q.2.2∧(q.1=true->0<q.2.1):=by
 obtain⟨n,a,b⟩:=q;unfold Ie nrm at h;simp only at h |-;split at h
 .rename_i hb;simp only[Ô]at h;omega
 rename_i hb;simp only[Ô]at h;obtain⟨h1,h2,h3⟩:=h;have hg:Nat.gcd a b=1:=by
  have hb':0<b:=Z
  have:=Nat.div_mul_cancel (ayM a b);rw[h3]at this;exact Nat.eq_of_mul_eq_mul_left hb' Z
 refine⟨Z,hg,λhn=>?_⟩;rw[hn]at h1;unfold kZ at h1;rw[æ]at h1;have:=h1.2;rw[hg,Nat.div_one]at this;simpa using this
abbrev um{p q:Bool×Nat×Nat}(hp:Ie p)(hq:Ie q):pW p q=decide (p=q):=by
 obtain⟨p1,p2,p3⟩:=hp.facts;obtain⟨q1,q2,q3⟩:=hq.facts;rw[ĩ];unfold pW jH;simp only[Û,Ý,Int.sign_eq_zero_iff_zero];constructor
 .intro h;obtain⟨n,a,b⟩:=p;obtain⟨m,c,d⟩:=q;simp only at *;have hz:qz (n,a,b)*(d:Int)=qz (m,c,d)*(b:Int):=by simpa using (by omega:qz (n,a,b)*(d:Int)-qz (m,c,d)*(b:Int)=0->qz (n,a,b)*(d:Int)=qz (m,c,d)*(b:Int)) h
  have habs:=Ñ Int.natAbs hz;have hzv:∀(s:Bool) (x:Nat),(zv s x).natAbs=x:=by intro s x; unfold zv; split<;>simp
  unfold qz at hz habs;simp only[Int.natAbs_mul,hzv,Ť]at habs;have hbd:b∣d:=p2.symm.dvd_of_dvd_mul_left ⟨c,by rw[habs,Ě]⟩;have hdb:d∣b:=q2.symm.dvd_of_dvd_mul_left ⟨a,by rw[<-habs,Ě]⟩;obtain rfl:b=d:=Nat.dvd_antisymm hbd hdb;obtain rfl:a=c:=Nat.eq_of_mul_eq_mul_right p1 habs;have hz2:zv n a=zv m a:=Int.eq_of_mul_eq_mul_right Z hz;obtain rfl:n=m:=by
   unfold zv at hz2;cases n<;>cases m<;>simp at * <;> omega
  rfl
 intro h; rw[h]; omega
abbrev K02{P Q:Q6}(hp:wW P)(hq:wW Q):P.same Q=P.eq Q:=by
 unfold Q6.same Q6.eq;rw[um hp.1 hq.1,um hp.2.1 hq.2.1,um hp.2.2.1 hq.2.2.1,um hp.2.2.2.1 hq.2.2.2.1,um hp.2.2.2.2.1 hq.2.2.2.2.1,um hp.2.2.2.2.2 hq.2.2.2.2.2]
end
section
open Go.RowKit Na Go.Sx
variable{α:Type}{K:Nat}
def aj.og(p:aj):Bool:=((((p.p0.x==0)&&(p.p0.y==0))&&((p.p1.x==0)&&(p.p1.y==0)))&&((p.bG)==0))&&(((p.stops.length:Int))==0)
variable{w:Á}
abbrev EN{p:aj}(h:p.ok w) :
  Ä prog 308 #[p.v] w (RF w (.b (p.og))):=by
 skip;refine Ë func308 ntmps308 λS=>Í S λu b2 E3 hb4 S=>Å S 23 [] [.M 0 5,.cmp .eql 130 (.tmp 4) (.tmp 5) (.agg #[.i p.p0.x,.i p.p0.y]) (.agg #[.i 0,.i 0]) (.b ((p.p0.x==0)&&(p.p0.y==0))),.M 0 7,.cmp .eql 130 (.tmp 9) (.tmp 10) (.agg #[.i p.p1.x,.i p.p1.y]) (.agg #[.i 0,.i 0]) (.b ((p.p1.x==0)&&(p.p1.y==0))),.M 0 9,.M 0 10] (hk:=⟨ħ (λ_=>eqPt ..) X,ħ (λ_=>eqPt ..) X,G⟩) λS=>Æ S (.b (((((p.p0.x==0)&&(p.p0.y==0))&&((p.p1.x==0)&&(p.p1.y==0)))&&((p.bG)==0))&&(((p.stops.length:Int))==0))) (λS=>?_);exact⟨I,S.E⟩
def aj.lq(p:aj):Bool:=((((p.img.w)==0)&&((p.img.h)==0))&&(((p.img.l.length:Int))==0))&&((p.dw)==0)
abbrev uX{p:aj}(h:p.ok w) :
  Ä prog 309 #[p.v] w (RF w (.b (p.lq))):=by
 skip;refine Ë func309 ntmps309 λS=>Í S λu b2 E3 hb4 S=>Å S 24 [] [.M 0 12,.M 0 13,.M 0 14,.M 0 15] λS=>Æ S (.b (((((p.img.w)==0)&&((p.img.h)==0))&&(((p.img.l.length:Int))==0))&&((p.dw)==0))) (λS=>?_);exact⟨I,S.E⟩
abbrev Ru{t:aT}(h:jI K w t.v t.q)(hK1:1<=K)(hK:K<=10000) :
  Ä prog 310 #[t.v] w (RF w (.b (t.q.same aT.none.q))):=by
 skip;refine Ë func310 ntmps310 λS=>Í S λu b2 E3 hb4 S=>Å S 3 [] [.M 0 0] λS=>Þ S (uV (t:=t) (t2:=aT.none) (h.fB S.E) ((aT.toQ (aT.fQ _) (aT.gQ K)).fB (ù _ _)) hK1 hK) λu E6 S=>Æ S (.b (t.q.same aT.none.q)) (λS=>?_);exact⟨I,S.E⟩
def aj.qR(p:aj):Bool:=cond ((p.kind)==1) (((p.og&&p.lq)&&((p.spread)==0))&&(p.t.q.same aT.none.q)) (cond ((p.kind)==2) ((((((p.lq&&(((p.color.r.toNat:Int)==0)&&(((p.color.g.toNat:Int)==0)&&(((p.color.b.toNat:Int)==0)&&((p.color.a.toNat:Int)==0)))))&&((p.bG)==0))&&(lQ p.p0.x p.p0.y))&&(lQ p.p1.x p.p1.y))&&(dR p.stops))&&(decide (1<=p.spread)&&decide (p.spread<=3))) (cond ((p.kind)==3) (((((((p.lq&&(((p.color.r.toNat:Int)==0)&&(((p.color.g.toNat:Int)==0)&&(((p.color.b.toNat:Int)==0)&&((p.color.a.toNat:Int)==0)))))&&((p.p1.x==0)&&(p.p1.y==0)))&&(lQ p.p0.x p.p0.y))&&(decide (1<=p.bG)))&&(decide (p.bG<=1048576)))&&(dR p.stops))&&(decide (1<=p.spread)&&decide (p.spread<=3))) (cond ((p.kind)==4) ((((p.og&&(((p.color.r.toNat:Int)==0)&&(((p.color.g.toNat:Int)==0)&&(((p.color.b.toNat:Int)==0)&&((p.color.a.toNat:Int)==0)))))&&(p.img.valid))&&(((p.spread)==0)||(decide (1<=p.spread)&&decide (p.spread<=3))))&&(((p.dw)==1)||((p.dw)==2))) (false))))
abbrev VH{p:aj}(h:p.ok w)(hq:jI K w p.t.v p.t.q)(hK1:1<=K)(hK:K<=10000) :
  Ä prog 283 #[p.v] w (RF w (.b p.qR)):=by
 skip;refine Ë func283 ntmps283 λS=>Í S λu b2 E3 hb4 S=>Å S 5 [] [.M 0 0] λS=>È S ((p.kind)==1) (λhc8 S=>?_) (λhc8 S=>?_)
 .refine Å S 1 [] [.M 0 0] λS=>Þ S (EN (h.below S.E)) λu NQ S=>ě S 15 [.M 0 0,.M 0 11,.M 0 16] [(_,_,p.og,.b p.lq),(_,_,((p.og&&p.lq)&&((p.spread)==0)),.b (p.t.q.same aT.none.q))] [(2,.b (((p.og&&p.lq)&&((p.spread)==0))&&(p.t.q.same aT.none.q)))] ⟨λu hC g=>uX (h.below (Ã S.E hC)),λu hC g=>Ru (K:=K) (t:=p.t) (hq.fB (Ã S.E hC)) hK1 hK,G⟩ (λu BH S=>?_);have p0:=hc8;refine Æ S (.b (((p.og&&p.lq)&&((p.spread)==0))&&(p.t.q.same aT.none.q))) (λS=>?_);exact⟨aC (by unfold aj.qR; simp only[p0,cond_true,cond_false]),S.E⟩
 refine È S ((p.kind)==2) (λhc13 S=>?_) (λhc13 S=>?_)
 .refine Å S 1 [] [.M 0 0] λS=>Þ S (uX (h.below S.E)) λu KA S=>ě S 32 [.M 0 1,.cmp .eql 40 (.tmp 29) (.tmp 30) (.agg #[.u (p.color.r.toNat:Int),.u (p.color.g.toNat:Int),.u (p.color.b.toNat:Int),.u (p.color.a.toNat:Int)]) (.agg #[.u 0,.u 0,.u 0,.u 0]) (.b (((p.color.r.toNat:Int)==0)&&(((p.color.g.toNat:Int)==0)&&(((p.color.b.toNat:Int)==0)&&((p.color.a.toNat:Int)==0))))),.M 0 9,.M 0 5,.M 0 7,.M 0 10,.M 0 11] [(_,_,((p.lq&&(((p.color.r.toNat:Int)==0)&&(((p.color.g.toNat:Int)==0)&&(((p.color.b.toNat:Int)==0)&&((p.color.a.toNat:Int)==0)))))&&((p.bG)==0)),.b (lQ p.p0.x p.p0.y)),(_,_,(((p.lq&&(((p.color.r.toNat:Int)==0)&&(((p.color.g.toNat:Int)==0)&&(((p.color.b.toNat:Int)==0)&&((p.color.a.toNat:Int)==0)))))&&((p.bG)==0))&&(lQ p.p0.x p.p0.y)),.b (lQ p.p1.x p.p1.y)),(_,_,((((p.lq&&(((p.color.r.toNat:Int)==0)&&(((p.color.g.toNat:Int)==0)&&(((p.color.b.toNat:Int)==0)&&((p.color.a.toNat:Int)==0)))))&&((p.bG)==0))&&(lQ p.p0.x p.p0.y))&&(lQ p.p1.x p.p1.y)),.b (dR p.stops)),(_,_,(((((p.lq&&(((p.color.r.toNat:Int)==0)&&(((p.color.g.toNat:Int)==0)&&(((p.color.b.toNat:Int)==0)&&((p.color.a.toNat:Int)==0)))))&&((p.bG)==0))&&(lQ p.p0.x p.p0.y))&&(lQ p.p1.x p.p1.y))&&(dR p.stops)),.b (decide (1<=p.spread)&&decide (p.spread<=3)))] [(2,.b ((((((p.lq&&(((p.color.r.toNat:Int)==0)&&(((p.color.g.toNat:Int)==0)&&(((p.color.b.toNat:Int)==0)&&((p.color.a.toNat:Int)==0)))))&&((p.bG)==0))&&(lQ p.p0.x p.p0.y))&&(lQ p.p1.x p.p1.y))&&(dR p.stops))&&(decide (1<=p.spread)&&decide (p.spread<=3))))] ⟨λu hC g=>lS p.p0.x p.p0.y _,λu hC g=>lS p.p1.x p.p1.y _,λu hC g=>BX (h.2.2.2.2.1.below (Ã S.E hC)),λu hC g=>Đ (sS p.spread _),G⟩ (λu LU S=>?_) (hk:=⟨ħ (λ_=>LW ..) X,G⟩);have p0:=hc8;have p1:=hc13;refine Æ S (.b ((((((p.lq&&(((p.color.r.toNat:Int)==0)&&(((p.color.g.toNat:Int)==0)&&(((p.color.b.toNat:Int)==0)&&((p.color.a.toNat:Int)==0)))))&&((p.bG)==0))&&(lQ p.p0.x p.p0.y))&&(lQ p.p1.x p.p1.y))&&(dR p.stops))&&(decide (1<=p.spread)&&decide (p.spread<=3)))) (λS=>?_);exact⟨aC (by unfold aj.qR; simp only[p0,p1,cond_true,cond_false]),S.E⟩
 refine È S ((p.kind)==3) (λhc18 S=>?_) (λhc18 S=>?_)
 .refine Å S 1 [] [.M 0 0] λS=>Þ S (uX (h.below S.E)) λu DK S=>ě S 38 [.M 0 1,.cmp .eql 40 (.tmp 64) (.tmp 65) (.agg #[.u (p.color.r.toNat:Int),.u (p.color.g.toNat:Int),.u (p.color.b.toNat:Int),.u (p.color.a.toNat:Int)]) (.agg #[.u 0,.u 0,.u 0,.u 0]) (.b (((p.color.r.toNat:Int)==0)&&(((p.color.g.toNat:Int)==0)&&(((p.color.b.toNat:Int)==0)&&((p.color.a.toNat:Int)==0))))),.M 0 7,.cmp .eql 130 (.tmp 70) (.tmp 71) (.agg #[.i p.p1.x,.i p.p1.y]) (.agg #[.i 0,.i 0]) (.b ((p.p1.x==0)&&(p.p1.y==0))),.M 0 5,.M 0 9,.M 0 9,.M 0 10,.M 0 11] [(_,_,((p.lq&&(((p.color.r.toNat:Int)==0)&&(((p.color.g.toNat:Int)==0)&&(((p.color.b.toNat:Int)==0)&&((p.color.a.toNat:Int)==0)))))&&((p.p1.x==0)&&(p.p1.y==0))),.b (lQ p.p0.x p.p0.y)),(_,_,(((((p.lq&&(((p.color.r.toNat:Int)==0)&&(((p.color.g.toNat:Int)==0)&&(((p.color.b.toNat:Int)==0)&&((p.color.a.toNat:Int)==0)))))&&((p.p1.x==0)&&(p.p1.y==0)))&&(lQ p.p0.x p.p0.y))&&(decide (1<=p.bG)))&&(decide (p.bG<=1048576))),.b (dR p.stops)),(_,_,((((((p.lq&&(((p.color.r.toNat:Int)==0)&&(((p.color.g.toNat:Int)==0)&&(((p.color.b.toNat:Int)==0)&&((p.color.a.toNat:Int)==0)))))&&((p.p1.x==0)&&(p.p1.y==0)))&&(lQ p.p0.x p.p0.y))&&(decide (1<=p.bG)))&&(decide (p.bG<=1048576)))&&(dR p.stops)),.b (decide (1<=p.spread)&&decide (p.spread<=3)))] [(2,.b (((((((p.lq&&(((p.color.r.toNat:Int)==0)&&(((p.color.g.toNat:Int)==0)&&(((p.color.b.toNat:Int)==0)&&((p.color.a.toNat:Int)==0)))))&&((p.p1.x==0)&&(p.p1.y==0)))&&(lQ p.p0.x p.p0.y))&&(decide (1<=p.bG)))&&(decide (p.bG<=1048576)))&&(dR p.stops))&&(decide (1<=p.spread)&&decide (p.spread<=3))))] ⟨λu hC g=>lS p.p0.x p.p0.y _,λu hC g=>BX (h.2.2.2.2.1.below (Ã S.E hC)),λu hC g=>Đ (sS p.spread _),G⟩ (λu FC S=>?_) (hk:=⟨ħ (λ_=>LW ..) X,ħ (λ_=>eqPt ..) X,G⟩);have p0:=hc8;have p1:=hc13;have p2:=hc18;refine Æ S (.b (((((((p.lq&&(((p.color.r.toNat:Int)==0)&&(((p.color.g.toNat:Int)==0)&&(((p.color.b.toNat:Int)==0)&&((p.color.a.toNat:Int)==0)))))&&((p.p1.x==0)&&(p.p1.y==0)))&&(lQ p.p0.x p.p0.y))&&(decide (1<=p.bG)))&&(decide (p.bG<=1048576)))&&(dR p.stops))&&(decide (1<=p.spread)&&decide (p.spread<=3)))) (λS=>?_);exact⟨aC (by unfold aj.qR; simp only[p0,p1,p2,cond_true,cond_false]),S.E⟩
 refine È S ((p.kind)==4) (λsN S=>?_) (λsN S=>?_)
 .refine Å S 1 [] [.M 0 0] λS=>Þ S (EN (h.below S.E)) λu FD S=>ě S 32 [.M 0 1,.cmp .eql 40 (.tmp 105) (.tmp 106) (.agg #[.u (p.color.r.toNat:Int),.u (p.color.g.toNat:Int),.u (p.color.b.toNat:Int),.u (p.color.a.toNat:Int)]) (.agg #[.u 0,.u 0,.u 0,.u 0]) (.b (((p.color.r.toNat:Int)==0)&&(((p.color.g.toNat:Int)==0)&&(((p.color.b.toNat:Int)==0)&&((p.color.a.toNat:Int)==0))))),.M 0 12,.M 0 11,.M 0 11,.M 0 15,.M 0 15] [(_,_,(p.og&&(((p.color.r.toNat:Int)==0)&&(((p.color.g.toNat:Int)==0)&&(((p.color.b.toNat:Int)==0)&&((p.color.a.toNat:Int)==0))))),.b (p.img.valid)),(_,_,(((p.og&&(((p.color.r.toNat:Int)==0)&&(((p.color.g.toNat:Int)==0)&&(((p.color.b.toNat:Int)==0)&&((p.color.a.toNat:Int)==0)))))&&(p.img.valid))&&(!((p.spread)==0))),.b (decide (1<=p.spread)&&decide (p.spread<=3)))] [(2,.b ((((p.og&&(((p.color.r.toNat:Int)==0)&&(((p.color.g.toNat:Int)==0)&&(((p.color.b.toNat:Int)==0)&&((p.color.a.toNat:Int)==0)))))&&(p.img.valid))&&(((p.spread)==0)||(decide (1<=p.spread)&&decide (p.spread<=3))))&&(((p.dw)==1)||((p.dw)==2))))] ⟨λu hC g=>BZ (m:=p.img) (h.2.2.2.2.2.2.2.1.below (Ã S.E hC)),λu hC g=>Đ (sS p.spread _),G⟩ (λu Qn S=>?_) (hk:=⟨ħ (λ_=>LW ..) X,G⟩);have p0:=hc8;have p1:=hc13;have p2:=hc18;have p3:=sN;refine Æ S (.b ((((p.og&&(((p.color.r.toNat:Int)==0)&&(((p.color.g.toNat:Int)==0)&&(((p.color.b.toNat:Int)==0)&&((p.color.a.toNat:Int)==0)))))&&(p.img.valid))&&(((p.spread)==0)||(decide (1<=p.spread)&&decide (p.spread<=3))))&&(((p.dw)==1)||((p.dw)==2)))) (λS=>?_);exact⟨aC (by unfold aj.qR; simp only[p0,p1,p2,p3,cond_true,cond_false]),S.E⟩
 have p0:=hc8;have p1:=hc13;have p2:=hc18;have p3:=sN;refine Æ S (.z) (λS=>?_);exact⟨aC (by unfold aj.qR; simp only[p0,p1,p2,p3,cond_true,cond_false]),S.E⟩
def aj.rO(p:aj):Bool:=(p.t.q.valid&&p.qR)&&((p.kind==1)||((jH p.t.q.wE q0) != 0))
abbrev ajT{p:aj}(h:((!(p.t.q.valid))||(!(p.qR)))=true):false=p.rO:=by
 unfold aj.rO;cases hv:p.t.q.valid<;>cases hh:p.qR<;>simp[hv,hh]at h |-
abbrev YA{p:aj}(h:((!(p.t.q.valid))||(!(p.qR)))=false):(p.t.q.valid&&p.qR)=true:=by
 cases hv:p.t.q.valid<;>cases hh:p.qR<;>simp[hv,hh]at h |-
abbrev Oa{p:aj}(h:p.ok w)(hq:jI K w p.t.v p.t.q)(hK1:1<=K)(hK:K<=10000) :
  Ä prog 251 #[p.v] w (RF w (.b p.rO)):=by
 skip;refine Ŗ func251 ntmps251 λac S=>Î λ_ ig=>ī S 1 p.cells λac u b2 E3 hb4 S=>Ç S 1 [] [(2,.z)] λS=>Ê<|ig _ _<|ß λ_ zy=>Î λ_ ū=>Ç S 2 [.M 0 16] [(4,p.t.v)] λS=>zJ S 5 (zQ p.t.v p.t.q K _ (hq.fB S.E) hK1 Z) λac u E7 S=>ac0 S 6 [.M 0 0] [(_,_,(!(!p.t.q.valid)),.b p.qR)] [(11,.b ((!p.t.q.valid)||(!p.qR)))] ⟨λu hC g=>VH (K:=K) (h.below (Ã S.E hC)) (hq.fB (Ã S.E hC)) hK1 hK,G⟩ λac u E8 S=>Ê (ū _ _ ?_);refine Č S (λzB=>?_) (λzB=>?_)
 .refine Î λ_ wX=>Ç S 1 [] [(2,.z)] λS=>Ê<|wX _ _<|Ġ ?_;have p0:=zB;refine rF S results251 ?_;exact⟨aC (ajT p0),S.E⟩
 refine ÿ<|zy _ _<|Î (λ_ KL=>?_);cases hk:(p.kind==1)
 .refine Ç S 6 [.M 0 0,.re 14 (.b ((p.kind)==1)) (.z),.M 0 16] [(15,.z),(17,p.t.v)] (hk:=⟨Ñ Value.b hk,G⟩) λS=>uY S (some 18) (Rl p.t.v p.t.q K _ (hq.fB S.E) hK1 hK) ?_;rintro e u ⟨y,rfl,hd,uM⟩;refine⟨_,I,uM,λac S=>?_⟩;refine uY S (some 19) (gJ 0 _ O) ?_;rintro e u ⟨z,rfl,hz,zu⟩;refine⟨_,I,zu,λac S=>?_⟩;refine uY S (some 20) (Rj _ _ p.t.q.wE q0 (K+K+(K+K)+1) 1 _ (au.toQ (hd.ext zu) (yJ _) (yK hK1 (K03 hq hK1))) (au.toQ (q:=q0) hz VI VJ) Z Z Z Z) ?_;rintro e u ⟨rfl,vV⟩;refine⟨_,I,vV,λac S=>?_⟩;refine Ç S 3 [] [(2,.b (((jH p.t.q.wE q0)) != 0))] λS=>Ê<|KL _ _<|Ġ ?_;have p0:=zB;refine rF S results251 ?_;exact⟨aC (by unfold aj.rO; rw[YA p0,hk]; rfl),S.E⟩
 refine Ç S 12 [.M 0 0,.re 14 (.b ((p.kind)==1)) (.b true),.dead 16 (.z),.dead 17 (.z),.dead 18 (.z),.dead 19 (.z),.dead 20 (.z),.dead 21 (.z)] [(2,.b true)] (hk:=⟨Ñ Value.b hk,G⟩) λS=>Ê<|KL _ _<|Ġ ?_;have p0:=zB;refine rF S results251 ?_;exact⟨aC (by unfold aj.rO; rw[YA p0,hk]; rfl),S.E⟩
end
section
abbrev len0{α:Type}(l:List α):((l.length:Int)==0)=l.isEmpty:=by cases l<;>simp<;>omega
abbrev nil0{α:Type}[DecidableEq α](l:List α):decide (l=[])=l.isEmpty:=by cases l<;>simp
abbrev Ig{p:aj}(hn:wW p.t.q)(h0:wW aT.none.q):p.rO=p.valid:=by
 have hs:p.t.q.same aT.none.q=p.t.q.eq aT.none.q:=K02 hn h0;have ha:aT.none.q.eq aT.none.q=true:=by rw[<-K02 h0 h0]; unfold Q6.same; simp
 have e1:lQ p.p0.x p.p0.y=jP.valid ⟨p.p0.x,p.p0.y⟩:=Oc ⟨p.p0.x,p.p0.y⟩;have e2:lQ p.p1.x p.p1.y=jP.valid ⟨p.p1.x,p.p1.y⟩:=Oc ⟨p.p1.x,p.p1.y⟩;unfold aj.rO aj.valid aj.qR;rw[hs,e1,e2];cases htv:p.t.q.valid
 .simp
 by_cases k1:p.kind=1
 .simp[k1,aj.without,aj.YB,aj.eq,aj.bare,aj.og,aj.lq,ha,bQ.none,jP.none,dA.eq,dA.bare,len0,nil0];cases p.t.q.eq aT.none.q<;>simp;ac_rfl
 by_cases k2:p.kind=2
 .simp[k2,aj.without,aj.only2,aj.eq,aj.bare,aj.lq,ha,bQ.none,jP.none,dA.eq,dA.bare,len0,fZ];ac_rfl
 by_cases k3:p.kind=3
 .simp[k3,aj.without,aj.YC,aj.eq,aj.bare,aj.lq,aj.og,ha,bQ.none,jP.none,dA.eq,dA.bare,len0,fZ,<-Int.not_lt];ac_rfl
 by_cases k4:p.kind=4
 .simp[k4,aj.without,aj.YD,bne,aj.eq,aj.bare,aj.lq,aj.og,ha,bQ.none,jP.none,dA.eq,dA.bare,len0,nil0,fZ];ac_rfl
 have j1:(p.kind==1)=false:=by simpa using k1
 have j2:(p.kind==2)=false:=by simpa using k2
 have j3:(p.kind==3)=false:=by simpa using k3
 have j4:(p.kind==4)=false:=by simpa using k4
 rw[j1,j2,j3,j4];simp
end
section
open Go.RowKit Na Go.Sx
variable{α:Type}{K:Nat}
variable{w:Á}{l m:List aj}{v u:À}{p q:dA}{k:Nat}
abbrev LX:wW aT.none.q:=(aT.toQ (w:=default) (aT.fQ _) (aT.gQ 1)).nrm
abbrev zS(h:iQ w v l)(hf:∀p∈l,p.t.fit K)(hK1:1<=K)(hK:K<=10000) :
  Ä prog 214 #[v] w (RF w (.b (l.all aj.valid))):=by
 obtain⟨a,cap,rfl⟩:=h.1.shape;have hmax:l.length<=9223372036854775807:=h.1.len;refine Ë func214 ntmps214 λS=>ĕ S (ι:=Nat) (λp a' w'=>p<=l.length∧((l.take p).all aj.valid=true)∧Sx.St w a' w' 16 [(0,.s a l.length cap),(2,.z),(3,.i p)] [] []) (λp=>l.length-p) (0) (λS=>⟨Õ _,I,S.oK⟩) ?_;rintro k ac u ig fC hI;try dsimp only at hI
 obtain⟨hk,hR,S⟩:=hI;refine Ė S λS=>È S (decide ((k:Int)<(l.length:Int))) (λhc6 S=>?_) (λhc6 S=>?_)
 .have ku:k<l.length:=by have:=å hc6; omega
  obtain⟨b9,o10,rfl,x15,pJ,hb16,Ih⟩:=û h.1 (λ_=>I) (k) ku;have hpo:=h.2 _ (pJ▸þ ku);have hpq:=aT.toQ hpo.2.2.2.2.2.2.2.2.2 (hf _ (pJ▸þ ku));have S:=S.view0 hb16 Ih;refine Å S 4 [] [.idx k l.length,.M 0 0] (hk:=⟨ku,G⟩) λS=>Þ S (Oa (p:=x15) (K:=K) (hpo.below S.E) (hpq.fB S.E) hK1 hK) λu AA S=>È S (!x15.rO) (λhc18 S=>?_) (λhc18 S=>?_)
  .refine Æ S (.z) (λS=>?_);exact⟨aC (rP ku (by rw[pJ,<-Ig hpq.nrm LX]; simpa using hc18)).symm,S.E⟩
  refine Å S 3 [] [.re 9 (.i (IntKind.i64.wrap ((k:Int)+1))) (.i (k+1:Nat))] (hk:=⟨ą Z,G⟩) λS=>ė S ig (λS=>?_);exact fC _ _ (k+1) ⟨Z,(jw ku hR (by rw[pJ,<-Ig hpq.nrm LX]; simpa using hc18)),S.oK⟩ (by show _-_<_-_; omega)
 refine Æ S (.b true) (λS=>?_);exact⟨aC (pK (by have:=ñ hc6; omega) hR).symm,S.E⟩
def ah.mJ(nd:ah):Int:=cond (!(iZ nd.path)) (10) (cond (!((nd.aW==1)||(nd.aW==2))) (2) (cond ((decide (1<(nd.fill.length:Int)))||(decide (1<(nd.stroke.length:Int)))) (5) (cond ((decide (0<(nd.stroke.length:Int)))&&(!nd.style.valid)) (13) (cond ((((nd.stroke.length:Int))==0)&&(!nd.jE)) (17) (cond ((!(nd.fill.all aj.valid))||(!(nd.stroke.all aj.valid))) (16) (0))))))
abbrev Oe{nd:ah}(h:dY K w nd) :
  Ä prog 160 #[nd.v] w (RF w (.i nd.mJ)):=by
 skip;refine Ë func160 ntmps160 λS=>Í S λu b2 E3 hb4 S=>Å S 3 [] [.M 0 33] λS=>Þ S (Cb (l:=nd.path) (h.1.2.2.2.2.2.2.2.1.below S.E)) λu E7 S=>È S (!(iZ nd.path)) (λhc8 S=>?_) (λhc8 S=>?_)
 .have p0:=hc8;refine Æ S (.i 10) (λS=>?_);exact⟨Ñ (λz:Int=>Ending.returned (.i z)) (by unfold ah.mJ; simp only[p0,cond_true,cond_false]),S.E⟩
 refine Å S 2 [] [.M 0 34] λS=>jc S (EO nd.aW _) λS=>È S (!((nd.aW==1)||(nd.aW==2))) (λfV S=>?_) (λfV S=>?_)
 .have p0:=hc8;have p1:=fV;refine Æ S (.i 2) (λS=>?_);exact⟨Ñ (λz:Int=>Ending.returned (.i z)) (by unfold ah.mJ; simp only[p0,p1,cond_true,cond_false]),S.E⟩
 refine Å S 11 [] [.M 0 35,.M 0 42] λS=>È S ((decide (1<(nd.fill.length:Int)))||(decide (1<(nd.stroke.length:Int)))) (λoh S=>?_) (λoh S=>?_)
 .have p0:=hc8;have p1:=fV;have p2:=oh;refine Æ S (.i 5) (λS=>?_);exact⟨Ñ (λz:Int=>Ending.returned (.i z)) (by unfold ah.mJ; simp only[p0,p1,p2,cond_true,cond_false]),S.E⟩
 refine ě S 11 [.M 0 42,.M 0 36] [(_,_,(decide (0<(nd.stroke.length:Int))),.b nd.style.valid)] [(24,.b ((decide (0<(nd.stroke.length:Int)))&&(!nd.style.valid)))] ⟨λu hC g=>Og (p:=nd.style) (h.1.2.2.2.2.2.2.2.2.2.2.1.below (Ã S.E hC)),G⟩ λu AA S=>È S ((decide (0<(nd.stroke.length:Int)))&&(!nd.style.valid)) (λhc18 S=>?_) (λhc18 S=>?_)
 .have p0:=hc8;have p1:=fV;have p2:=oh;have p3:=hc18;refine Æ S (.i 13) (λS=>?_);exact⟨Ñ (λz:Int=>Ending.returned (.i z)) (by unfold ah.mJ; simp only[p0,p1,p2,p3,cond_true,cond_false]),S.E⟩
 refine ě S 10 [.M 0 42,.M 0 0] [(_,_,(((nd.stroke.length:Int))==0),.b nd.jE)] [(35,.b ((((nd.stroke.length:Int))==0)&&(!nd.jE)))] ⟨λu hC g=>qU (h.1.below (Ã S.E hC)),G⟩ λu FC S=>È S ((((nd.stroke.length:Int))==0)&&(!nd.jE)) (λhc22 S=>?_) (λhc22 S=>?_)
 .have p0:=hc8;have p1:=fV;have p2:=oh;have p3:=hc18;have p4:=hc22;refine Æ S (.i 17) (λS=>?_);exact⟨Ñ (λz:Int=>Ending.returned (.i z)) (by unfold ah.mJ; simp only[p0,p1,p2,p3,p4,cond_true,cond_false]),S.E⟩
 refine Å S 2 [] [.M 0 35] λS=>Þ S (zS (l:=nd.fill) (K:=K) (h.1.2.2.2.2.2.2.2.2.2.1.below S.E) h.2.2.1 h.2.2.2.2.1 h.2.2.2.2.2) λu FD S=>ě S 8 [.M 0 42] [(_,_,(!(!(nd.fill.all aj.valid))),.b (nd.stroke.all aj.valid))] [(45,.b ((!(nd.fill.all aj.valid))||(!(nd.stroke.all aj.valid))))] ⟨λu hC g=>zS (l:=nd.stroke) (K:=K) (h.1.2.2.2.2.2.2.2.2.2.2.2.1.below (Ã S.E hC)) h.2.2.2.1 h.2.2.2.2.1 h.2.2.2.2.2,G⟩ λu Qn S=>È S ((!(nd.fill.all aj.valid))||(!(nd.stroke.all aj.valid))) (λhc27 S=>?_) (λhc27 S=>?_)
 .have p0:=hc8;have p1:=fV;have p2:=oh;have p3:=hc18;have p4:=hc22;have p5:=hc27;refine Æ S (.i 16) (λS=>?_);exact⟨Ñ (λz:Int=>Ending.returned (.i z)) (by unfold ah.mJ; simp only[p0,p1,p2,p3,p4,p5,cond_true,cond_false]),S.E⟩
 have p0:=hc8;have p1:=fV;have p2:=oh;have p3:=hc18;have p4:=hc22;have p5:=hc27;refine Æ S (.i 0) (λS=>?_);exact⟨Ñ (λz:Int=>Ending.returned (.i z)) (by unfold ah.mJ; simp only[p0,p1,p2,p3,p4,p5,cond_true,cond_false]),S.E⟩
def ah.jU(nd:ah):Int:=cond ((decide (nd.kind<1))||(decide (3<nd.kind))) (2) (cond ((((decide (nd.id<1))||(decide (1073741824<nd.id)))||(decide (nd.depth<0)))||(decide (8<=nd.depth))) (6) (cond (!nd.t.q.valid) (5) (cond (((jH nd.t.q.wE q0))==0) (9) (cond (!(iZ nd.clip)) (10) (cond (!nd.ql) (17) (cond ((nd.kind)==2) (nd.mJ) (cond ((nd.kind)==1) (cond (!(decide (1<=nd.blend)&&decide (nd.blend<=13))) (2) (0)) (cond (!nd.img.valid) (16) (cond (((nd.dw) != 1)&&((nd.dw) != 2)) (2) (0))))))))))
abbrev Oh{nd:ah}(h:dY K w nd) :
  Ä prog 108 #[nd.v] w (RF w (.i nd.jU)):=by
 skip;refine Ë func108 ntmps108 λS=>Í S λu b2 E3 hb4 S=>Å S 10 [] [.M 0 1,.M 0 1] λS=>È S ((decide (nd.kind<1))||(decide (3<nd.kind))) (λkP S=>?_) (λkP S=>?_)
 .have p0:=kP;refine Æ S (.i 2) (λS=>?_);exact⟨Ñ (λz:Int=>Ending.returned (.i z)) (by unfold ah.jU; simp only[p0,cond_true,cond_false]),S.E⟩
 refine Å S 19 [] [.M 0 0,.M 0 0,.M 0 2,.M 0 2] λS=>È S ((((decide (nd.id<1))||(decide (1073741824<nd.id)))||(decide (nd.depth<0)))||(decide (8<=nd.depth))) (λdZ S=>?_) (λdZ S=>?_)
 .have p0:=kP;have p1:=dZ;refine Æ S (.i 6) (λS=>?_);exact⟨Ñ (λz:Int=>Ending.returned (.i z)) (by unfold ah.jU; simp only[p0,p1,cond_true,cond_false]),S.E⟩
 refine Å S 2 [] [.M 0 3] λS=>Þ S (zQ nd.t.v nd.t.q K _ ((aT.toQ h.1.2.2.2.1 h.2.1).fB S.E) h.2.2.2.2.1 (by have:=h.2.2.2.2.2; omega)) λu zu S=>È S (!nd.t.q.valid) (λoh S=>?_) (λoh S=>?_)
 .have p0:=kP;have p1:=dZ;have p2:=oh;refine Æ S (.i 5) (λS=>?_);exact⟨Ñ (λz:Int=>Ending.returned (.i z)) (by unfold ah.jU; simp only[p0,p1,p2,cond_true,cond_false]),S.E⟩
 refine Å S 2 [] [.M 0 3] λS=>zq S (Rl nd.t.v nd.t.q K _ ((aT.toQ h.1.2.2.2.1 h.2.1).fB S.E) h.2.2.2.2.1 h.2.2.2.2.2) λx u hd AA S=>zq S (gJ 0 _ O) λz u hz BG S=>Þ S (Rj _ _ nd.t.q.wE q0 (K+K+(K+K)+1) 1 _ (au.toQ (hd.ext BG) (yJ _) (yK h.2.2.2.2.1 (K03 (aT.toQ h.1.2.2.2.1 h.2.1) h.2.2.2.2.1))) (au.toQ (q:=q0) hz VI VJ) (by have:=h.2.2.2.2.1; omega) Z (by have:=h.2.2.2.2.2; omega) Z) λu KN S=>È S (((jH nd.t.q.wE q0))==0) (λrG S=>?_) (λrG S=>?_)
 .have p0:=kP;have p1:=dZ;have p2:=oh;have p3:=rG;refine Æ S (.i 9) (λS=>?_);exact⟨Ñ (λz:Int=>Ending.returned (.i z)) (by unfold ah.jU; simp only[p0,p1,p2,p3,cond_true,cond_false]),S.E⟩
 refine Å S 2 [] [.M 0 27] λS=>Þ S (Cb (l:=nd.clip) (h.1.2.2.2.2.1.below S.E)) λu Qv S=>È S (!(iZ nd.clip)) (λhc24 S=>?_) (λhc24 S=>?_)
 .have p0:=kP;have p1:=dZ;have p2:=oh;have p3:=rG;have p4:=hc24;refine Æ S (.i 10) (λS=>?_);exact⟨Ñ (λz:Int=>Ending.returned (.i z)) (by unfold ah.jU; simp only[p0,p1,p2,p3,p4,cond_true,cond_false]),S.E⟩
 refine Å S 1 [] [.M 0 0] λS=>Þ S (VK (h.1.below S.E)) λu ϰ S=>È S (!nd.ql) (λhc28 S=>?_) (λhc28 S=>?_)
 .have p0:=kP;have p1:=dZ;have p2:=oh;have p3:=rG;have p4:=hc24;have p5:=hc28;refine Æ S (.i 17) (λS=>?_);exact⟨Ñ (λz:Int=>Ending.returned (.i z)) (by unfold ah.jU; simp only[p0,p1,p2,p3,p4,p5,cond_true,cond_false]),S.E⟩
 refine Å S 3 [] [.M 0 1] λS=>È S ((nd.kind)==2) (λhc32 S=>?_) (λhc32 S=>?_)
 .refine Å S 1 [] [.M 0 0] λS=>Þ S (Oe (h.below S.E)) (λu Yw S=>?_);have p0:=kP;have p1:=dZ;have p2:=oh;have p3:=rG;have p4:=hc24;have p5:=hc28;have p6:=hc32;refine Æ S (.i nd.mJ) (λS=>?_);exact⟨Ñ (λz:Int=>Ending.returned (.i z)) (by unfold ah.jU; simp only[p0,p1,p2,p3,p4,p5,p6,cond_true,cond_false]),S.E⟩
 refine Å S 3 [] [.M 0 1] λS=>È S ((nd.kind)==1) (λqV S=>?_) (λqV S=>?_)
 .refine Å S 2 [] [.M 0 30] λS=>jc S (Rx nd.blend _) λS=>È S (!(decide (1<=nd.blend)&&decide (nd.blend<=13))) (λzD S=>?_) (λzD S=>?_)
  .have p0:=kP;have p1:=dZ;have p2:=oh;have p3:=rG;have p4:=hc24;have p5:=hc28;have p6:=hc32;have p7:=qV;have p8:=zD;refine Æ S (.i 2) (λS=>?_);exact⟨Ñ (λz:Int=>Ending.returned (.i z)) (by unfold ah.jU; simp only[p0,p1,p2,p3,p4,p5,p6,p7,p8,cond_true,cond_false]),S.E⟩
  have p0:=kP;have p1:=dZ;have p2:=oh;have p3:=rG;have p4:=hc24;have p5:=hc28;have p6:=hc32;have p7:=qV;have p8:=zD;refine Æ S (.i 0) (λS=>?_);exact⟨Ñ (λz:Int=>Ending.returned (.i z)) (by unfold ah.jU; simp only[p0,p1,p2,p3,p4,p5,p6,p7,p8,cond_true,cond_false]),S.E⟩
 refine Å S 2 [] [.M 0 43] λS=>Þ S (BZ (m:=nd.img) (h.1.2.2.2.2.2.2.2.2.2.2.2.2.1.below S.E)) λu ϝ S=>È S (!nd.img.valid) (λFP S=>?_) (λFP S=>?_)
 .have p0:=kP;have p1:=dZ;have p2:=oh;have p3:=rG;have p4:=hc24;have p5:=hc28;have p6:=hc32;have p7:=qV;have p8:=FP;refine Æ S (.i 16) (λS=>?_);exact⟨Ñ (λz:Int=>Ending.returned (.i z)) (by unfold ah.jU; simp only[p0,p1,p2,p3,p4,p5,p6,p7,p8,cond_true,cond_false]),S.E⟩
 refine Å S 8 [] [.M 0 46,.M 0 46] λS=>È S (((nd.dw) != 1)&&((nd.dw) != 2)) (λVN S=>?_) (λVN S=>?_)
 .have p0:=kP;have p1:=dZ;have p2:=oh;have p3:=rG;have p4:=hc24;have p5:=hc28;have p6:=hc32;have p7:=qV;have p8:=FP;have p9:=VN;refine Æ S (.i 2) (λS=>?_);exact⟨Ñ (λz:Int=>Ending.returned (.i z)) (by unfold ah.jU; simp only[p0,p1,p2,p3,p4,p5,p6,p7,p8,p9,cond_true,cond_false]),S.E⟩
 have p0:=kP;have p1:=dZ;have p2:=oh;have p3:=rG;have p4:=hc24;have p5:=hc28;have p6:=hc32;have p7:=qV;have p8:=FP;have p9:=VN;refine Æ S (.i 0) (λS=>?_);exact⟨Ñ (λz:Int=>Ending.returned (.i z)) (by unfold ah.jU; simp only[p0,p1,p2,p3,p4,p5,p6,p7,p8,p9,cond_true,cond_false]),S.E⟩
def bW(l m:List aj):Bool:=decide (l.length=m.length)&&(l.zip m).all λp=>p.1.eq p.2
abbrev adf(h:((l.length:Int) != (m.length:Int))=true):false=bW l m:=by
 have:l.length≠m.length:=λe=>by rw[e]at h; simp at h
 simp[bW,this]
abbrev YE(hk:l.length<=k)(h:l.length=m.length)(hR:((l.zip m).take k).all (λp=>p.1.eq p.2)=true):true=bW l m:=by
 rw[Ĝ (by simp; omega)]at hR;simp only[bW,h,hR,decide_true,Bool.and_self]
abbrev Ry(h1:k<l.length)(h2:k<m.length)(hR:((l.zip m).take k).all (λp=>p.1.eq p.2)=true)(h:(!(l[k].eq m[k]))=false):((l.zip m).take (k+1)).all (λp=>p.1.eq p.2)=true:=by
 rw[ı (by simp; omega),List.all_append,hR];simp at h;simp[h]
abbrev adg(h1:k<l.length)(h2:k<m.length)(h:(!(l[k].eq m[k]))=true):false=bW l m:=by
 symm;rw[Bool.eq_false_iff];intro e;simp only[bW,æ,ø]at e;have:=e.2 (l[k],m[k]) (by rw[<-List.getElem_zip (h:=by simp; omega)]; exact þ _);simp[this]at h
abbrev zU{l m:List dQ}(h:aI 7 dQ.cells w v l)(h':aI 7 dQ.cells w u m) :
  Ä prog 137 #[v,u] w (RF w (.b (l=m))):=by
 skip;refine Ë func137 ntmps137 λS=>Þ S (aag (l:=l) (m:=m) (h.below S.E) (h'.below S.E)) λu E3 S=>Æ S (.b (l=m)) (λS=>?_);exact⟨I,S.E⟩
abbrev Cc(h:iQ w v l)(h':iQ w u m)(hf:∀p∈l,p.t.fit K)(hf':∀p∈m,p.t.fit K)(hK1:1<=K)(hK:K<=10000) :
  Ä prog 138 #[v,u,.func (.func 139) #[] #[]] w (RF w (.b (bW l m))):=by
 obtain⟨a,cap,rfl⟩:=h.1.shape;obtain⟨d,cap',rfl⟩:=h'.1.shape;have hmax:l.length<=9223372036854775807:=h.1.len;refine Ë func138 ntmps138 λS=>È S (((l.length:Int)) != (m.length:Int)) (λhc4 S=>?_) (λhc4 S=>?_)
 .refine Æ S (.z) (λS=>?_);exact⟨aC (adf hc4),S.E⟩
 refine ĕ S (ι:=Nat) (λp a' w'=>p<=l.length∧(((l.zip m).take p).all (λp=>p.1.eq p.2)=true)∧Sx.St w a' w' 32 [(0,.s a l.length cap),(1,.s d m.length cap'),(2,.func (.func 139) #[] #[]),(6,.z),(15,.s a l.length cap),(16,.i l.length),(17,.i p)] [] []) (λp=>l.length-p) (0) (λS=>⟨Õ _,I,S.oK⟩) ?_;rintro k ac u ig fC hI;try dsimp only at hI
 obtain⟨hk,hR,S⟩:=hI;refine Ė S λS=>È S (decide ((k:Int)<(l.length:Int))) (λdZ S=>?_) (λdZ S=>?_)
 .have aah:k<l.length:=by have:=å dZ; omega
  obtain⟨b13,o14,rfl,x19,ag3,ajU,apk⟩:=û h.1 (λ_=>I) (k) aah;have S:=S.view0 ajU apk;refine Å S 3 [] [.idx k l.length,.M 0 0] (hk:=⟨aah,G⟩) λS=>Í S λu b21 UZ NV S=>à S 0 I (λu LV S=>?_);have aai:k<m.length:=by have:=lZ hc4; have:=å dZ; omega
  obtain⟨b26,o27,rfl,y32,ag4,apl,apm⟩:=û h'.1 (λ_=>I) (k) aai;have S:=S.view0 apl apm;refine Å S 4 [] [.idx k m.length,.M 1 0] (hk:=⟨aai,G⟩) λS=>Í S λu b34 Qo ajV S=>à S 0 I λu C37 S=>Å S 3 [] [.M 1 0,.M 0 0] λS=>Þ S (wY (K:=K) (p:=x19) (q:=y32) ((h.2 _ (ag3▸þ aah)).below S.E) ((h'.2 _ (ag4▸þ aai)).below S.E) (hf _ (ag3▸þ aah)) (hf' _ (ag4▸þ aai)) hK1 hK) λu U1 S=>È S (!(x19.eq y32)) (λzD S=>?_) (λzD S=>?_)
  .refine Æ S (.z) (λS=>?_);exact⟨aC (adg aah aai (by rw[ag3,ag4]; exact zD)),S.E⟩
  refine Å S 2 [] [.re 31 (.i (IntKind.i64.wrap ((k:Int)+1))) (.i (k+1:Nat))] (hk:=⟨ą Z,G⟩) λS=>ė S ig (λS=>?_);exact fC _ _ (k+1) ⟨Z,(Ry aah aai hR (by rw[ag3,ag4]; exact zD)),(S.l9 2).oK⟩ (by show _-_<_-_; omega)
 refine Æ S (.b true) (λS=>?_);exact⟨aC (YE (by have:=ñ dZ; omega) (lZ hc4) hR),S.E⟩
def ah.eqP(a b:ah):Bool:=cond (((((((((((a.id) != b.id)||((a.kind) != b.kind))||((a.depth) != b.depth))||((a.aJ) != b.aJ))||(((a.dP.toNat:Int)) != (b.dP.toNat:Int)))||((a.blend) != b.blend))||(!(a.isolated==b.isolated)))||(!(a.cZ==b.cZ)))||((a.aW) != b.aW))||((a.dw) != b.dw)) (false) (((((((a.t.q.eq b.t.q)&&(decide (a.clip=b.clip)))&&(decide (a.path=b.path)))&&(bW a.fill b.fill))&&(bW a.stroke b.stroke))&&(a.style.eq b.style))&&(a.img.eq b.img))
abbrev KO{a b:ah}(h:dY K w a)(h':dY K w b) :
  Ä prog 95 #[a.v,b.v] w (RF w (.b (ah.eqP a b))):=by
 skip;refine Ë func95 ntmps95 λS=>Í S λu b2 E3 hb4 S=>Í S λu b5 E6 hb7 S=>Å S 69 [] [.M 1 0,.M 0 0,.M 1 1,.M 0 1,.M 1 2,.M 0 2,.M 1 28,.M 0 28,.M 1 29,.M 0 29,.M 1 30,.M 0 30,.M 1 31,.M 0 31,.M 1 32,.M 0 32,.M 1 34,.M 0 34,.M 1 46,.M 0 46] λS=>È S (((((((((((a.id) != b.id)||((a.kind) != b.kind))||((a.depth) != b.depth))||((a.aJ) != b.aJ))||(((a.dP.toNat:Int)) != (b.dP.toNat:Int)))||((a.blend) != b.blend))||(!(a.isolated==b.isolated)))||(!(a.cZ==b.cZ)))||((a.aW) != b.aW))||((a.dw) != b.dw)) (λdZ S=>?_) (λdZ S=>?_)
 .have p0:=dZ;refine Æ S (.z) (λS=>?_);exact⟨aC (by unfold ah.eqP; simp only[p0,cond_true,cond_false]),S.E⟩
 refine Å S 4 [] [.M 1 3,.M 0 3] λS=>Þ S (AB a.t.v b.t.v a.t.q b.t.q K _ ((aT.toQ h.1.2.2.2.1 h.2.1).fB S.E) ((aT.toQ h'.1.2.2.2.1 h'.2.1).fB S.E) h.2.2.2.2.1 h.2.2.2.2.2) λu zu S=>ě S 43 [.M 1 27,.M 0 27,.M 1 33,.M 0 33,.M 1 35,.M 0 35,.M 1 42,.M 0 42,.M 1 36,.M 0 36,.M 1 43,.M 0 43] [(_,_,(a.t.q.eq b.t.q),.b (a.clip=b.clip)),(_,_,((a.t.q.eq b.t.q)&&(decide (a.clip=b.clip))),.b (a.path=b.path)),(_,_,(((a.t.q.eq b.t.q)&&(decide (a.clip=b.clip)))&&(decide (a.path=b.path))),.b (bW a.fill b.fill)),(_,_,((((a.t.q.eq b.t.q)&&(decide (a.clip=b.clip)))&&(decide (a.path=b.path)))&&(bW a.fill b.fill)),.b (bW a.stroke b.stroke)),(_,_,(((((a.t.q.eq b.t.q)&&(decide (a.clip=b.clip)))&&(decide (a.path=b.path)))&&(bW a.fill b.fill))&&(bW a.stroke b.stroke)),.b (a.style.eq b.style)),(_,_,((((((a.t.q.eq b.t.q)&&(decide (a.clip=b.clip)))&&(decide (a.path=b.path)))&&(bW a.fill b.fill))&&(bW a.stroke b.stroke))&&(a.style.eq b.style)),.b (a.img.eq b.img))] [(4,.b (((((((a.t.q.eq b.t.q)&&(decide (a.clip=b.clip)))&&(decide (a.path=b.path)))&&(bW a.fill b.fill))&&(bW a.stroke b.stroke))&&(a.style.eq b.style))&&(a.img.eq b.img)))] ⟨λu hC g=>zU (l:=a.clip) (m:=b.clip) (h.1.2.2.2.2.1.1.below (Ã S.E hC)) (h'.1.2.2.2.2.1.1.below (Ã S.E hC)),λu hC g=>zU (l:=a.path) (m:=b.path) (h.1.2.2.2.2.2.2.2.1.1.below (Ã S.E hC)) (h'.1.2.2.2.2.2.2.2.1.1.below (Ã S.E hC)),λu hC g=>Cc (l:=a.fill) (m:=b.fill) (K:=K) (h.1.2.2.2.2.2.2.2.2.2.1.below (Ã S.E hC)) (h'.1.2.2.2.2.2.2.2.2.2.1.below (Ã S.E hC)) h.2.2.1 h'.2.2.1 h.2.2.2.2.1 h.2.2.2.2.2,λu hC g=>Cc (l:=a.stroke) (m:=b.stroke) (K:=K) (h.1.2.2.2.2.2.2.2.2.2.2.2.1.below (Ã S.E hC)) (h'.1.2.2.2.2.2.2.2.2.2.2.2.1.below (Ã S.E hC)) h.2.2.2.1 h'.2.2.2.1 h.2.2.2.2.1 h.2.2.2.2.2,λu hC g=>wZ (p:=a.style) (q:=b.style) (h.1.2.2.2.2.2.2.2.2.2.2.1.below (Ã S.E hC)) (h'.1.2.2.2.2.2.2.2.2.2.2.1.below (Ã S.E hC)),λu hC g=>uZ (m:=a.img) (n:=b.img) (h.1.2.2.2.2.2.2.2.2.2.2.2.2.1.below (Ã S.E hC)) (h'.1.2.2.2.2.2.2.2.2.2.2.2.2.1.below (Ã S.E hC)),G⟩ (λu vV S=>?_);have p0:=dZ;refine Æ S (.b (((((((a.t.q.eq b.t.q)&&(decide (a.clip=b.clip)))&&(decide (a.path=b.path)))&&(bW a.fill b.fill))&&(bW a.stroke b.stroke))&&(a.style.eq b.style))&&(a.img.eq b.img))) (λS=>?_);exact⟨aC (by unfold ah.eqP; simp only[p0,cond_true,cond_false]),S.E⟩
abbrev Ce{l m:List dQ}(h:aI 7 dQ.cells w v l)(h':aI 7 dQ.cells w u m) :
  Ä prog 65 #[v,u] w (RF w (.b (l=m))):=by
 obtain⟨a,cap,rfl⟩:=h.shape;obtain⟨d,cap',rfl⟩:=h'.shape;have hmax:l.length<=9223372036854775807:=h.len;refine Ë func65 ntmps65 λS=>È S (((l.length:Int)) != (m.length:Int)) (λhc4 S=>?_) (λhc4 S=>?_)
 .refine Æ S (.z) (λS=>?_);exact⟨aC (nJ hc4),S.E⟩
 refine ĕ S (ι:=Nat) (λp a' w'=>p<=l.length∧(l.take p=m.take p)∧Sx.St w a' w' 26 [(0,.s a l.length cap),(1,.s d m.length cap'),(4,.z),(5,.i p)] [] []) (λp=>l.length-p) (0) (λS=>⟨Õ _,I,S.oK⟩) ?_;rintro k ac u ig fC hI;try dsimp only at hI
 obtain⟨hk,hR,S⟩:=hI;refine Ė S λS=>È S (decide ((k:Int)<(l.length:Int))) (λdZ S=>?_) (λdZ S=>?_)
 .have mX:k<l.length:=by have:=å dZ; omega
  obtain⟨b14,o15,rfl,x20,sU,DX,Ii⟩:=û h (λ_=>I) (k) mX;have S:=S.view0 DX Ii;have l7:k<m.length:=by have:=(lZ hc4); have:=å dZ; omega
  obtain⟨b22,o23,rfl,y28,qW,KP,Oi⟩:=û h' (λ_=>I) (k) l7;have S:=S.view0 KP Oi;refine Ą S 9 [.idx k l.length,.M 1 0,.idx k m.length,.M 0 0,.cmp .neq 163 (.tmp 20) (.tmp 24) (.agg #[.i x20.verb,.i x20.a.x,.i x20.a.y,.i x20.b.x,.i x20.b.y,.i x20.c.x,.i x20.c.y]) (.agg #[.i y28.verb,.i y28.a.x,.i y28.a.y,.i y28.b.x,.i y28.b.y,.i y28.c.x,.i y28.c.y]) (.b (!((x20.verb==y28.verb)&&((x20.a.x==y28.a.x)&&((x20.a.y==y28.a.y)&&((x20.b.x==y28.b.x)&&((x20.b.y==y28.b.y)&&((x20.c.x==y28.c.x)&&(x20.c.y==y28.c.y)))))))))] [] [(25,.b (!((x20.verb==y28.verb)&&((x20.a.x==y28.a.x)&&((x20.a.y==y28.a.y)&&((x20.b.x==y28.b.x)&&((x20.b.y==y28.b.y)&&((x20.c.x==y28.c.x)&&(x20.c.y==y28.c.y)))))))))] trivial (hk:=⟨mX,l7,ħ (λ_=>aiX ..) X,G⟩) λu zu S=>È S (!((x20.verb==y28.verb)&&((x20.a.x==y28.a.x)&&((x20.a.y==y28.a.y)&&((x20.b.x==y28.b.x)&&((x20.b.y==y28.b.y)&&((x20.c.x==y28.c.x)&&(x20.c.y==y28.c.y)))))))) (λvg S=>?_) (λvg S=>?_)
  .refine Æ S (.z) (λS=>?_);exact⟨aC (rQ mX l7 (λe=>by have hq:=vg; rw[sU,qW]at e; subst e; simp at hq)),S.E⟩
  refine Å S 3 [] [.re 16 (.i (IntKind.i64.wrap ((k:Int)+1))) (.i (k+1:Nat))] (hk:=⟨ą Z,G⟩) λS=>ė S ig (λS=>?_);exact fC _ _ (k+1) ⟨Z,(nK mX l7 hR (by rw[sU,qW]; exact adh vg)),S.oK⟩ (by show _-_<_-_; omega)
 refine Æ S (.b true) (λS=>?_);exact⟨aC (rU (by have:=ñ dZ; omega) (lZ hc4) hR),S.E⟩
abbrev Rz{l m:List fH}(h:aI 5 fH.cells w v l)(h':aI 5 fH.cells w u m) :
  Ä prog 154 #[v,u] w (RF w (.b (l=m))):=by
 obtain⟨a,cap,rfl⟩:=h.shape;obtain⟨d,cap',rfl⟩:=h'.shape;have hmax:l.length<=9223372036854775807:=h.len;refine Ë func154 ntmps154 λS=>È S (((l.length:Int)) != (m.length:Int)) (λhc4 S=>?_) (λhc4 S=>?_)
 .refine Æ S (.z) (λS=>?_);exact⟨aC (nJ hc4),S.E⟩
 refine ĕ S (ι:=Nat) (λp a' w'=>p<=l.length∧(l.take p=m.take p)∧Sx.St w a' w' 26 [(0,.s a l.length cap),(1,.s d m.length cap'),(4,.z),(5,.i p)] [] []) (λp=>l.length-p) (0) (λS=>⟨Õ _,I,S.oK⟩) ?_;rintro k ac u ig fC hI;try dsimp only at hI
 obtain⟨hk,hR,S⟩:=hI;refine Ė S λS=>È S (decide ((k:Int)<(l.length:Int))) (λdZ S=>?_) (λdZ S=>?_)
 .have mX:k<l.length:=by have:=å dZ; omega
  obtain⟨b14,o15,rfl,x20,sU,DX,Ii⟩:=û h (λ_=>I) (k) mX;have S:=S.view0 DX Ii;have l7:k<m.length:=by have:=(lZ hc4); have:=å dZ; omega
  obtain⟨b22,o23,rfl,y28,qW,KP,Oi⟩:=û h' (λ_=>I) (k) l7;have S:=S.view0 KP Oi;refine Ą S 9 [.idx k l.length,.M 1 0,.idx k m.length,.M 0 0,.cmp .neq 202 (.tmp 20) (.tmp 24) (.agg #[.i x20.o,.u (x20.c.r.toNat:Int),.u (x20.c.g.toNat:Int),.u (x20.c.b.toNat:Int),.u (x20.c.a.toNat:Int)]) (.agg #[.i y28.o,.u (y28.c.r.toNat:Int),.u (y28.c.g.toNat:Int),.u (y28.c.b.toNat:Int),.u (y28.c.a.toNat:Int)]) (.b (!((x20.o==y28.o)&&(((x20.c.r.toNat:Int)==(y28.c.r.toNat:Int))&&(((x20.c.g.toNat:Int)==(y28.c.g.toNat:Int))&&(((x20.c.b.toNat:Int)==(y28.c.b.toNat:Int))&&((x20.c.a.toNat:Int)==(y28.c.a.toNat:Int))))))))] [] [(25,.b (!((x20.o==y28.o)&&(((x20.c.r.toNat:Int)==(y28.c.r.toNat:Int))&&(((x20.c.g.toNat:Int)==(y28.c.g.toNat:Int))&&(((x20.c.b.toNat:Int)==(y28.c.b.toNat:Int))&&((x20.c.a.toNat:Int)==(y28.c.a.toNat:Int))))))))] trivial (hk:=⟨mX,l7,ħ (λ_=>adi ..) X,G⟩) λu zu S=>È S (!((x20.o==y28.o)&&(((x20.c.r.toNat:Int)==(y28.c.r.toNat:Int))&&(((x20.c.g.toNat:Int)==(y28.c.g.toNat:Int))&&(((x20.c.b.toNat:Int)==(y28.c.b.toNat:Int))&&((x20.c.a.toNat:Int)==(y28.c.a.toNat:Int))))))) (λvg S=>?_) (λvg S=>?_)
  .refine Æ S (.z) (λS=>?_);exact⟨aC (rQ mX l7 (λe=>by have hq:=vg; rw[sU,qW]at e; subst e; simp at hq)),S.E⟩
  refine Å S 3 [] [.re 16 (.i (IntKind.i64.wrap ((k:Int)+1))) (.i (k+1:Nat))] (hk:=⟨ą Z,G⟩) λS=>ė S ig (λS=>?_);exact fC _ _ (k+1) ⟨Z,(nK mX l7 hR (by rw[sU,qW]; exact YF vg)),S.oK⟩ (by show _-_<_-_; omega)
 refine Æ S (.b true) (λS=>?_);exact⟨aC (rU (by have:=ñ dZ; omega) (lZ hc4) hR),S.E⟩
abbrev ajW(h:((((p.w) != q.w)||((p.h) != q.h))||((p.l.length:Int) != (q.l.length:Int)))=true):false=p.eq q:=by
 symm;rw[Bool.eq_false_iff];intro e;simp only[dA.eq,æ,Û]at e;rw[e.1,e.2.1,e.2.2]at h;simp at h
abbrev adk(h:((((p.w) != q.w)||((p.h) != q.h))||((p.l.length:Int) != (q.l.length:Int)))=false):p.l.length=q.l.length:=by
 simp at h; omega
abbrev ajX(h:((((p.w) != q.w)||((p.h) != q.h))||((p.l.length:Int) != (q.l.length:Int)))=false)(h2:true=decide (p.l=q.l)):true=p.eq q:=by
 simp at h h2;simp[dA.eq,h,h2]
abbrev ajY(h2:false=decide (p.l=q.l)):false=p.eq q:=by
 simp at h2;simp[dA.eq,h2]
abbrev Ci{y1 y2:dA}(h:y1.ok w)(h':y2.ok w) :
  Ä prog 68 #[y1.v,y2.v] w (RF w (.b (y1.eq y2))):=by
 obtain⟨a,cap,hs⟩:=h.2.2.shape;obtain⟨d,cap',hs'⟩:=h'.2.2.shape;unfold dA.v;have hq:=h.2.2;have hq':=h'.2.2;rw[hs,hs'];rw[hs]at hq;rw[hs']at hq';have hmax:y1.l.length<=9223372036854775807:=h.2.2.len;refine Ë func68 ntmps68 λS=>Í S λu b2 E3 hb4 S=>Í S λu b5 E6 hb7 S=>Å S 22 [] [.M 1 0,.M 0 0,.M 1 1,.M 0 1,.M 1 2,.M 0 2] λS=>È S ((((y1.w) != y2.w)||((y1.h) != y2.h))||(((y1.l.length:Int)) != (y2.l.length:Int))) (λdZ S=>?_) (λdZ S=>?_)
 .refine Æ S (.z) (λS=>?_);exact⟨aC (ajW dZ),S.E⟩
 refine ĕ S (ι:=Nat) (λp a' w'=>p<=y1.l.length∧(y1.l.take p=y2.l.take p)∧Sx.St w a' w' 45 [(0,.agg #[.i y1.w,.i y1.h,.s a y1.l.length cap]),(1,.agg #[.i y2.w,.i y2.h,.s d y2.l.length cap']),(2,.q b2 0),(3,.q b5 0),(4,.z),(5,.i p)] [(b5,[.i y2.w,.i y2.h,.s d y2.l.length cap']),(b2,[.i y1.w,.i y1.h,.s a y1.l.length cap])] []) (λp=>y1.l.length-p) (0) (λS=>⟨Õ _,I,S.oK⟩) ?_;rintro k ac u ig fC hI;try dsimp only at hI
 obtain⟨hk,hR,S⟩:=hI;refine Ė S λS=>Å S 5 [] [.M 1 2] λS=>È S (decide ((k:Int)<(y1.l.length:Int))) (λhc16 S=>?_) (λhc16 S=>?_)
 .have AL:k<y1.l.length:=by have:=å hc16; omega
  obtain⟨b20,o21,rfl,zV,hx24,Oj,adl⟩:=û hq (λ_=>I) (k) AL;have S:=S.view0 Oj adl;have AO:k<y2.l.length:=by have:=(adk dZ); have:=å hc16; omega
  obtain⟨b28,o29,rfl,y34,hx32,adn,ado⟩:=û hq' (λ_=>I) (k) AO;have S:=S.view0 adn ado;refine Ą S 11 [.M 1 2,.idx k y1.l.length,.M 3 0,.M 0 2,.idx k y2.l.length,.M 2 0,.cmp .neq 178 (.tmp 38) (.tmp 43) (.agg #[.u (zV.r.toNat:Int),.u (zV.g.toNat:Int),.u (zV.b.toNat:Int),.u (zV.a.toNat:Int)]) (.agg #[.u (y34.r.toNat:Int),.u (y34.g.toNat:Int),.u (y34.b.toNat:Int),.u (y34.a.toNat:Int)]) (.b (!(((zV.r.toNat:Int)==(y34.r.toNat:Int))&&(((zV.g.toNat:Int)==(y34.g.toNat:Int))&&(((zV.b.toNat:Int)==(y34.b.toNat:Int))&&((zV.a.toNat:Int)==(y34.a.toNat:Int)))))))] [] [(44,.b (!(((zV.r.toNat:Int)==(y34.r.toNat:Int))&&(((zV.g.toNat:Int)==(y34.g.toNat:Int))&&(((zV.b.toNat:Int)==(y34.b.toNat:Int))&&((zV.a.toNat:Int)==(y34.a.toNat:Int)))))))] trivial (hk:=⟨AL,AO,ħ (λ_=>aiY ..) X,G⟩) λu KN S=>È S (!(((zV.r.toNat:Int)==(y34.r.toNat:Int))&&(((zV.g.toNat:Int)==(y34.g.toNat:Int))&&(((zV.b.toNat:Int)==(y34.b.toNat:Int))&&((zV.a.toNat:Int)==(y34.a.toNat:Int)))))) (λvk S=>?_) (λvk S=>?_)
  .refine Æ S (.z) (λS=>?_);exact⟨aC (ajY (rQ AL AO (λe=>by have hq:=vk; rw[hx24,hx32]at e; subst e; simp at hq))),S.E⟩
  refine Å S 3 [] [.re 33 (.i (IntKind.i64.wrap ((k:Int)+1))) (.i (k+1:Nat))] (hk:=⟨ą Z,G⟩) λS=>ė S ig (λS=>?_);exact fC _ _ (k+1) ⟨Z,(nK AL AO hR (by rw[hx24,hx32]; exact VO vk)),S.oK⟩ (by show _-_<_-_; omega)
 refine Æ S (.b true) (λS=>?_);exact⟨aC (ajX dZ (rU (by have:=ñ hc16; omega) (adk dZ) hR)),S.E⟩
abbrev ajZ{p q:aY}(h:((((((((p.width) != q.width)||((p.join) != q.join))||((p.cap) != q.cap))||((p.eu) != q.eu))||((p.phase) != q.phase))||((p.dash.length:Int) != (q.dash.length:Int))))=true):false=p.eq q:=by
 symm;rw[Bool.eq_false_iff];intro e;simp only[aY.eq,æ,Û,Ý]at e;obtain⟨⟨⟨⟨⟨e1,e2⟩,e3⟩,e4⟩,e5⟩,e6⟩:=e;rw[e1,e2,e3,e4,e5,e6]at h;simp at h
abbrev adq{p q:aY}(h:((((((((p.width) != q.width)||((p.join) != q.join))||((p.cap) != q.cap))||((p.eu) != q.eu))||((p.phase) != q.phase))||((p.dash.length:Int) != (q.dash.length:Int))))=false):p.dash.length=q.dash.length:=by
 simp at h; omega
abbrev aj0{p q:aY}(h:((((((((p.width) != q.width)||((p.join) != q.join))||((p.cap) != q.cap))||((p.eu) != q.eu))||((p.phase) != q.phase))||((p.dash.length:Int) != (q.dash.length:Int))))=false)(h2:true=decide (p.dash=q.dash)):true=p.eq q:=by
 simp at h h2;simp[aY.eq,h,h2]
abbrev aj1{p q:aY}(h2:false=decide (p.dash=q.dash)):false=p.eq q:=by
 simp at h2;simp[aY.eq,h2]
abbrev Ij{y1 y2:aY}(h:y1.ok w)(h':y2.ok w) :
  Ä prog 67 #[y1.v,y2.v] w (RF w (.b (y1.eq y2))):=by
 obtain⟨a,cap,hs,hcap,hrow⟩:=h.2.2.2.2.1;obtain⟨d,cap',hs',hcap',hrow'⟩:=h'.2.2.2.2.1;unfold aY.v;have hq:=eF (f:=AQ) h.2.2.2.2.1;have hq':=eF (f:=AQ) h'.2.2.2.2.1;rw[hs,hs'];rw[hs]at hq;rw[hs']at hq';have hmax:y1.dash.length<=9223372036854775807:=hq.len;refine Ë func67 ntmps67 λS=>Í S λu b2 E3 hb4 S=>Í S λu b5 E6 hb7 S=>Å S 43 [] [.M 1 0,.M 0 0,.M 1 1,.M 0 1,.M 1 2,.M 0 2,.M 1 3,.M 0 3,.M 1 5,.M 0 5,.M 1 4,.M 0 4] λS=>È S (((((((y1.width) != y2.width)||((y1.join) != y2.join))||((y1.cap) != y2.cap))||((y1.eu) != y2.eu))||((y1.phase) != y2.phase))||(((y1.dash.length:Int)) != (y2.dash.length:Int))) (λdZ S=>?_) (λdZ S=>?_)
 .refine Æ S (.z) (λS=>?_);exact⟨aC (ajZ dZ),S.E⟩
 refine ĕ S (ι:=Nat) (λp a' w'=>p<=y1.dash.length∧(y1.dash.take p=y2.dash.take p)∧Sx.St w a' w' 66 [(0,.agg #[.i y1.width,.i y1.join,.i y1.cap,.i y1.eu,.s a y1.dash.length cap,.i y1.phase]),(1,.agg #[.i y2.width,.i y2.join,.i y2.cap,.i y2.eu,.s d y2.dash.length cap',.i y2.phase]),(2,.q b2 0),(3,.q b5 0),(4,.z),(5,.i p)] [(b5,[.i y2.width,.i y2.join,.i y2.cap,.i y2.eu,.s d y2.dash.length cap',.i y2.phase]),(b2,[.i y1.width,.i y1.join,.i y1.cap,.i y1.eu,.s a y1.dash.length cap,.i y1.phase])] []) (λp=>y1.dash.length-p) (0) (λS=>⟨Õ _,I,S.oK⟩) ?_;rintro k ac u ig fC hI;try dsimp only at hI
 obtain⟨hk,hR,S⟩:=hI;refine Ė S λS=>Å S 5 [] [.M 1 4] λS=>È S (decide ((k:Int)<(y1.dash.length:Int))) (λhc16 S=>?_) (λhc16 S=>?_)
 .have AL:k<y1.dash.length:=by have:=å hc16; omega
  obtain⟨b20,o21,rfl,zV,hx24,Oj,adl⟩:=û hq (λ_=>I) (k) AL;have S:=S.view0 Oj adl;have AO:k<y2.dash.length:=by have:=(adq dZ); have:=å hc16; omega
  obtain⟨b28,o29,rfl,y34,hx32,adn,ado⟩:=û hq' (λ_=>I) (k) AO;have S:=S.view0 adn ado;refine Ą S 11 [.M 1 4,.idx k y1.dash.length,.M 3 0,.M 0 4,.idx k y2.dash.length,.M 2 0] [] [(65,.b ((zV) != y34))] trivial (hk:=⟨AL,AO,G⟩) λu KN S=>È S ((zV) != y34) (λvk S=>?_) (λvk S=>?_)
  .refine Æ S (.z) (λS=>?_);exact⟨aC (aj1 (rQ AL AO (λe=>by have hq:=vk; rw[hx24,hx32]at e; subst e; simp at hq))),S.E⟩
  refine Å S 3 [] [.re 54 (.i (IntKind.i64.wrap ((k:Int)+1))) (.i (k+1:Nat))] (hk:=⟨ą Z,G⟩) λS=>ė S ig (λS=>?_);exact fC _ _ (k+1) ⟨Z,(nK AL AO hR (by rw[hx24,hx32]; exact ads vk)),S.oK⟩ (by show _-_<_-_; omega)
 refine Æ S (.b true) (λS=>?_);exact⟨aC (aj0 dZ (rU (by have:=ñ hc16; omega) (adq dZ) hR)),S.E⟩
abbrev apn{p q:aj}(h:wW p.t.q)(h':wW q.t.q):(((((((((((p.kind)==q.kind)&&(((p.color.r.toNat:Int)==(q.color.r.toNat:Int))&&(((p.color.g.toNat:Int)==(q.color.g.toNat:Int))&&(((p.color.b.toNat:Int)==(q.color.b.toNat:Int))&&((p.color.a.toNat:Int)==(q.color.a.toNat:Int))))))&&((p.p0.x==q.p0.x)&&(p.p0.y==q.p0.y)))&&((p.p1.x==q.p1.x)&&(p.p1.y==q.p1.y)))&&((p.bG)==q.bG))&&(decide (p.stops=q.stops)))&&((p.spread)==q.spread))&&(p.img.eq q.img))&&((p.dw)==q.dw))&&(p.t.q.same q.t.q))=p.eq q:=by
 unfold aj.eq;rw[K02 h h'];ac_rfl
abbrev Ol{p q:aj}{K:Nat}(h:p.ok w)(h':q.ok w)(hf:p.t.fit K)(hf':q.t.fit K)(hK1:1<=K)(hK:K<=10000) :
  Ä prog 107 #[p.v,q.v] w (RF w (.b (p.eq q))):=by
 have hq:=aT.toQ h.2.2.2.2.2.2.2.2.2 hf;have hq':=aT.toQ h'.2.2.2.2.2.2.2.2.2 hf';refine Ë func107 ntmps107 λS=>Í S λu b2 E3 hb4 S=>Í S λu b5 E6 hb7 S=>Å S 1 [] [] λS=>ě S 69 [.M 1 0,.M 0 0,.M 1 1,.M 0 1,.cmp .eql 40 (.tmp 12) (.tmp 14) (.agg #[.u (p.color.r.toNat:Int),.u (p.color.g.toNat:Int),.u (p.color.b.toNat:Int),.u (p.color.a.toNat:Int)]) (.agg #[.u (q.color.r.toNat:Int),.u (q.color.g.toNat:Int),.u (q.color.b.toNat:Int),.u (q.color.a.toNat:Int)]) (.b (((p.color.r.toNat:Int)==(q.color.r.toNat:Int))&&(((p.color.g.toNat:Int)==(q.color.g.toNat:Int))&&(((p.color.b.toNat:Int)==(q.color.b.toNat:Int))&&((p.color.a.toNat:Int)==(q.color.a.toNat:Int)))))),.M 1 5,.M 0 5,.cmp .eql 130 (.tmp 19) (.tmp 21) (.agg #[.i p.p0.x,.i p.p0.y]) (.agg #[.i q.p0.x,.i q.p0.y]) (.b ((p.p0.x==q.p0.x)&&(p.p0.y==q.p0.y))),.M 1 7,.M 0 7,.cmp .eql 130 (.tmp 26) (.tmp 28) (.agg #[.i p.p1.x,.i p.p1.y]) (.agg #[.i q.p1.x,.i q.p1.y]) (.b ((p.p1.x==q.p1.x)&&(p.p1.y==q.p1.y))),.M 1 9,.M 0 9,.M 1 10,.M 0 10,.M 1 11,.M 0 11,.M 1 12,.M 0 12,.M 1 15,.M 0 15,.M 1 16,.M 0 16] [(_,_,((((((p.kind)==q.kind)&&(((p.color.r.toNat:Int)==(q.color.r.toNat:Int))&&(((p.color.g.toNat:Int)==(q.color.g.toNat:Int))&&(((p.color.b.toNat:Int)==(q.color.b.toNat:Int))&&((p.color.a.toNat:Int)==(q.color.a.toNat:Int))))))&&((p.p0.x==q.p0.x)&&(p.p0.y==q.p0.y)))&&((p.p1.x==q.p1.x)&&(p.p1.y==q.p1.y)))&&((p.bG)==q.bG)),.b (p.stops=q.stops)),(_,_,((((((((p.kind)==q.kind)&&(((p.color.r.toNat:Int)==(q.color.r.toNat:Int))&&(((p.color.g.toNat:Int)==(q.color.g.toNat:Int))&&(((p.color.b.toNat:Int)==(q.color.b.toNat:Int))&&((p.color.a.toNat:Int)==(q.color.a.toNat:Int))))))&&((p.p0.x==q.p0.x)&&(p.p0.y==q.p0.y)))&&((p.p1.x==q.p1.x)&&(p.p1.y==q.p1.y)))&&((p.bG)==q.bG))&&(decide (p.stops=q.stops)))&&((p.spread)==q.spread)),.b (p.img.eq q.img)),(_,_,((((((((((p.kind)==q.kind)&&(((p.color.r.toNat:Int)==(q.color.r.toNat:Int))&&(((p.color.g.toNat:Int)==(q.color.g.toNat:Int))&&(((p.color.b.toNat:Int)==(q.color.b.toNat:Int))&&((p.color.a.toNat:Int)==(q.color.a.toNat:Int))))))&&((p.p0.x==q.p0.x)&&(p.p0.y==q.p0.y)))&&((p.p1.x==q.p1.x)&&(p.p1.y==q.p1.y)))&&((p.bG)==q.bG))&&(decide (p.stops=q.stops)))&&((p.spread)==q.spread))&&(p.img.eq q.img))&&((p.dw)==q.dw)),.b (p.t.q.same q.t.q))] [(4,.b (((((((((((p.kind)==q.kind)&&(((p.color.r.toNat:Int)==(q.color.r.toNat:Int))&&(((p.color.g.toNat:Int)==(q.color.g.toNat:Int))&&(((p.color.b.toNat:Int)==(q.color.b.toNat:Int))&&((p.color.a.toNat:Int)==(q.color.a.toNat:Int))))))&&((p.p0.x==q.p0.x)&&(p.p0.y==q.p0.y)))&&((p.p1.x==q.p1.x)&&(p.p1.y==q.p1.y)))&&((p.bG)==q.bG))&&(decide (p.stops=q.stops)))&&((p.spread)==q.spread))&&(p.img.eq q.img))&&((p.dw)==q.dw))&&(p.t.q.same q.t.q)))] ⟨λu hC g=>Rz (l:=p.stops) (m:=q.stops) (h.2.2.2.2.1.below (Ã S.E hC)) (h'.2.2.2.2.1.below (Ã S.E hC)),λu hC g=>Ci (y1:=p.img) (y2:=q.img) (h.2.2.2.2.2.2.2.1.below (Ã S.E hC)) (h'.2.2.2.2.2.2.2.1.below (Ã S.E hC)),λu hC g=>uV (t:=p.t) (t2:=q.t) (hq.fB (Ã S.E hC)) (hq'.fB (Ã S.E hC)) hK1 hK,G⟩ (hk:=⟨ħ (λ_=>LW ..) X,ħ (λ_=>eqPt ..) X,ħ (λ_=>eqPt ..) X,G⟩) λu E9 S=>Æ S (.b (((((((((((p.kind)==q.kind)&&(((p.color.r.toNat:Int)==(q.color.r.toNat:Int))&&(((p.color.g.toNat:Int)==(q.color.g.toNat:Int))&&(((p.color.b.toNat:Int)==(q.color.b.toNat:Int))&&((p.color.a.toNat:Int)==(q.color.a.toNat:Int))))))&&((p.p0.x==q.p0.x)&&(p.p0.y==q.p0.y)))&&((p.p1.x==q.p1.x)&&(p.p1.y==q.p1.y)))&&((p.bG)==q.bG))&&(decide (p.stops=q.stops)))&&((p.spread)==q.spread))&&(p.img.eq q.img))&&((p.dw)==q.dw))&&(p.t.q.same q.t.q))) (λS=>?_);exact⟨aC (apn hq.nrm hq'.nrm),S.E⟩
abbrev vX(h:iQ w v l)(h':iQ w u m)(hf:∀p∈l,p.t.fit K)(hf':∀p∈m,p.t.fit K)(hK1:1<=K)(hK:K<=10000) :
  Ä prog 66 #[v,u] w (RF w (.b (bW l m))):=by
 obtain⟨a,cap,rfl⟩:=h.1.shape;obtain⟨d,cap',rfl⟩:=h'.1.shape;have hmax:l.length<=9223372036854775807:=h.1.len;refine Ë func66 ntmps66 λS=>È S (((l.length:Int)) != (m.length:Int)) (λhc4 S=>?_) (λhc4 S=>?_)
 .refine Æ S (.z) (λS=>?_);exact⟨aC (adf hc4),S.E⟩
 refine ĕ S (ι:=Nat) (λp a' w'=>p<=l.length∧(((l.zip m).take p).all (λp=>p.1.eq p.2)=true)∧Sx.St w a' w' 27 [(0,.s a l.length cap),(1,.s d m.length cap'),(4,.z),(5,.i p)] [] []) (λp=>l.length-p) (0) (λS=>⟨Õ _,I,S.oK⟩) ?_;rintro k ac u ig fC hI;try dsimp only at hI
 obtain⟨hk,hR,S⟩:=hI;refine Ė S λS=>È S (decide ((k:Int)<(l.length:Int))) (λdZ S=>?_) (λdZ S=>?_)
 .have mX:k<l.length:=by have:=å dZ; omega
  obtain⟨b14,o15,rfl,x20,sU,DX,Ii⟩:=û h.1 (λ_=>I) (k) mX;have S:=S.view0 DX Ii;have l7:k<m.length:=by have:=lZ hc4; have:=å dZ; omega
  obtain⟨b22,o23,rfl,y28,qW,KP,Oi⟩:=û h'.1 (λ_=>I) (k) l7;have S:=S.view0 KP Oi;refine Ą S 10 [.idx k l.length,.M 1 0,.idx k m.length,.M 0 0] [(_,_,true,.b (x20.eq y28))] [(26,.b (!(x20.eq y28)))] ⟨λu hC g=>Ol (K:=K) (p:=x20) (q:=y28) ((h.2 _ (sU▸þ mX)).below (Ã S.E hC)) ((h'.2 _ (qW▸þ l7)).below (Ã S.E hC)) (hf _ (sU▸þ mX)) (hf' _ (qW▸þ l7)) hK1 hK,G⟩ (hk:=⟨mX,l7,G⟩) λu zu S=>È S (!(x20.eq y28)) (λvg S=>?_) (λvg S=>?_)
  .refine Æ S (.z) (λS=>?_);exact⟨aC (adg mX l7 (by rw[sU,qW]; exact vg)),S.E⟩
  refine Å S 3 [] [.re 16 (.i (IntKind.i64.wrap ((k:Int)+1))) (.i (k+1:Nat))] (hk:=⟨ą Z,G⟩) λS=>ė S ig (λS=>?_);exact fC _ _ (k+1) ⟨Z,(Ry mX l7 hR (by rw[sU,qW]; exact vg)),S.oK⟩ (by show _-_<_-_; omega)
 refine Æ S (.b true) (λS=>?_);exact⟨aC (YE (by have:=ñ dZ; omega) (lZ hc4) hR),S.E⟩
def ah.eqR(a b:ah):Bool:=cond ((((((((a.id) != b.id)||((a.kind) != b.kind))||((a.depth) != b.depth))||(!(a.t.q.same b.t.q)))||((a.aJ) != b.aJ))||((a.aW) != b.aW))||((a.dw) != b.dw)) (false) (cond ((((((a.dP.toNat:Int)) != (b.dP.toNat:Int))||((a.blend) != b.blend))||(!(a.isolated==b.isolated)))||(!(a.cZ==b.cZ))) (false) ((((((decide (a.clip=b.clip))&&(decide (a.path=b.path)))&&(bW a.fill b.fill))&&(bW a.stroke b.stroke))&&(a.style.eq b.style))&&(a.img.eq b.img)))
abbrev Om{a b:ah}(h:dY K w a)(h':dY K w b) :
  Ä prog 37 #[a.v,b.v] w (RF w (.b (ah.eqR a b))):=by
 skip;refine Ë func37 ntmps37 λS=>Í S λu b2 E3 hb4 S=>Í S λu b5 E6 hb7 S=>Å S 1 [] [] λS=>ě S 48 [.M 1 0,.M 0 0,.M 1 1,.M 0 1,.M 1 2,.M 0 2,.M 1 3,.M 0 3,.M 1 28,.M 0 28,.M 1 34,.M 0 34,.M 1 46,.M 0 46] [(_,_,(!((((a.id) != b.id)||((a.kind) != b.kind))||((a.depth) != b.depth))),.b (a.t.q.same b.t.q))] [(52,.b ((((((((a.id) != b.id)||((a.kind) != b.kind))||((a.depth) != b.depth))||(!(a.t.q.same b.t.q)))||((a.aJ) != b.aJ))||((a.aW) != b.aW))||((a.dw) != b.dw)))] ⟨λu hC g=>uV (t:=a.t) (t2:=b.t) ((aT.toQ h.1.2.2.2.1 h.2.1).fB (Ã S.E hC)) ((aT.toQ h'.1.2.2.2.1 h'.2.1).fB (Ã S.E hC)) h.2.2.2.2.1 h.2.2.2.2.2,G⟩ λu NQ S=>È S ((((((((a.id) != b.id)||((a.kind) != b.kind))||((a.depth) != b.depth))||(!(a.t.q.same b.t.q)))||((a.aJ) != b.aJ))||((a.aW) != b.aW))||((a.dw) != b.dw)) (λfV S=>?_) (λfV S=>?_)
 .have p0:=fV;refine Æ S (.z) (λS=>?_);exact⟨aC (by unfold ah.eqR; simp only[p0,cond_true,cond_false]),S.E⟩
 refine Å S 26 [] [.M 1 29,.M 0 29,.M 1 30,.M 0 30,.M 1 31,.M 0 31,.M 1 32,.M 0 32] λS=>È S ((((((a.dP.toNat:Int)) != (b.dP.toNat:Int))||((a.blend) != b.blend))||(!(a.isolated==b.isolated)))||(!(a.cZ==b.cZ))) (λkC S=>?_) (λkC S=>?_)
 .have p0:=fV;have p1:=kC;refine Æ S (.z) (λS=>?_);exact⟨aC (by unfold ah.eqR; simp only[p0,p1,cond_true,cond_false]),S.E⟩
 refine Å S 4 [] [.M 1 27,.M 0 27] λS=>Þ S (Ce (l:=a.clip) (m:=b.clip) (h.1.2.2.2.2.1.1.below S.E) (h'.1.2.2.2.2.1.1.below S.E)) λu BG S=>ě S 36 [.M 1 33,.M 0 33,.M 1 35,.M 0 35,.M 1 42,.M 0 42,.M 1 36,.M 0 36,.M 1 43,.M 0 43] [(_,_,(decide (a.clip=b.clip)),.b (a.path=b.path)),(_,_,((decide (a.clip=b.clip))&&(decide (a.path=b.path))),.b (bW a.fill b.fill)),(_,_,(((decide (a.clip=b.clip))&&(decide (a.path=b.path)))&&(bW a.fill b.fill)),.b (bW a.stroke b.stroke)),(_,_,((((decide (a.clip=b.clip))&&(decide (a.path=b.path)))&&(bW a.fill b.fill))&&(bW a.stroke b.stroke)),.b (a.style.eq b.style)),(_,_,(((((decide (a.clip=b.clip))&&(decide (a.path=b.path)))&&(bW a.fill b.fill))&&(bW a.stroke b.stroke))&&(a.style.eq b.style)),.b (a.img.eq b.img))] [(4,.b ((((((decide (a.clip=b.clip))&&(decide (a.path=b.path)))&&(bW a.fill b.fill))&&(bW a.stroke b.stroke))&&(a.style.eq b.style))&&(a.img.eq b.img)))] ⟨λu hC g=>Ce (l:=a.path) (m:=b.path) (h.1.2.2.2.2.2.2.2.1.1.below (Ã S.E hC)) (h'.1.2.2.2.2.2.2.2.1.1.below (Ã S.E hC)),λu hC g=>vX (l:=a.fill) (m:=b.fill) (K:=K) (h.1.2.2.2.2.2.2.2.2.2.1.below (Ã S.E hC)) (h'.1.2.2.2.2.2.2.2.2.2.1.below (Ã S.E hC)) h.2.2.1 h'.2.2.1 h.2.2.2.2.1 h.2.2.2.2.2,λu hC g=>vX (l:=a.stroke) (m:=b.stroke) (K:=K) (h.1.2.2.2.2.2.2.2.2.2.2.2.1.below (Ã S.E hC)) (h'.1.2.2.2.2.2.2.2.2.2.2.2.1.below (Ã S.E hC)) h.2.2.2.1 h'.2.2.2.1 h.2.2.2.2.1 h.2.2.2.2.2,λu hC g=>Ij (y1:=a.style) (y2:=b.style) (h.1.2.2.2.2.2.2.2.2.2.2.1.below (Ã S.E hC)) (h'.1.2.2.2.2.2.2.2.2.2.2.1.below (Ã S.E hC)),λu hC g=>Ci (y1:=a.img) (y2:=b.img) (h.1.2.2.2.2.2.2.2.2.2.2.2.2.1.below (Ã S.E hC)) (h'.1.2.2.2.2.2.2.2.2.2.2.2.2.1.below (Ã S.E hC)),G⟩ (λu KN S=>?_);have p0:=fV;have p1:=kC;refine Æ S (.b ((((((decide (a.clip=b.clip))&&(decide (a.path=b.path)))&&(bW a.fill b.fill))&&(bW a.stroke b.stroke))&&(a.style.eq b.style))&&(a.img.eq b.img))) (λS=>?_);exact⟨aC (by unfold ah.eqR; simp only[p0,p1,cond_true,cond_false]),S.E⟩
