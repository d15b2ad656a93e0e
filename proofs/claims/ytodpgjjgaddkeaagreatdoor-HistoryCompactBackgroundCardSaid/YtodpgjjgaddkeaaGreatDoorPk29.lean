/- Walk of binenc.Rational. A region that draws its order, -/
import Derived.Test.YtodpgjjgaddkeaaGreatDoorPk28
set_option maxHeartbeats 3200000
set_option maxRecDepth 100000
set_option linter.unusedVariables false
set_option linter.unusedSimpArgs false
section
namespace Go.Proofs.YtodpgjjgaddkeaaGreatDoor
open Go.RowKit En Na Go.Sx Go.Rel
abbrev rv (n1:Bool)(a b':Nat)(g1 g2:Option Addr)(d1 d2:Nat):Value := .agg #[.bool n1,.slice g1 (Ux a).length d1,.z,.slice g2 (Ux b').length d2]
theorem ahm{l:List UInt8}{p:Nat}(hp:p<=l.length)(h:((((l.length-p:Nat):Int))==0)=true):p=l.length:=by
 rw[az4]at h; omega
theorem akU{c:UInt8}(h:decide ((1:Int)<(c.toNat:Int))=true):1<c.toNat:=by
 have:=az9 h; omega
theorem aeG{nb:Bool}{a b:Nat}{c:UInt8}{t:List UInt8}(hc:(c.toNat==1)=nb) :
  ((FZ (nb&&decide (0<a)) a b&&(gK (nb&&decide (0<a),a,b)==c::t))=(FZ nb a b&&(gK (nb,a,b)==c::t))) ∧
  ((FZ (nb&&decide (0<a)) a b&&(gK (nb&&decide (0<a),a,b)==c::t))=true->(nb&&decide (0<a))=nb):=by
 cases nb
 .simp
 rcases aAC a with h | h
 .subst h;have e:(gK (true&&decide (0<0),0,b)==c::t)=false:=by
   rw[aAh];intro e;simp only[gK,Nat.lt_irrefl,decide_false,Bool.and_false]at e;have:=(List.cons.inj e).1;rw[<-this]at hc;simp at hc
  have e2:FZ true 0 b=false:=by unfold FZ; rw[jD]; rfl
  rw[e,e2,Bool.and_false,aBh];exact⟨I,λh=>by cases h⟩
 rw[aA6 h]; simp
set_option maxRecDepth 100000 in
set_option maxHeartbeats 3200000 in
theorem Py(v:Value)(l:List UInt8)(i:Int)(w:World)(hv:bK w v l)(hl:l.length<=60000000) :
  Calls Tryz.prog 217 #[v,.i i] w (Y1 w (I9 l i)):=by
 obtain⟨a0,c0,rfl⟩:=hv.shape;refine azp Tryz.func217 Tryz.ntmps217 λS=>azo S (λu b2 E3 hb4 S=>?_);have hlt0:=(S.bx 0).1;by_cases hbad:i<0∨(l.length:Int)<i
 .refine lQ S (IJ _ l i _ (hv.below S.E) hbad) λS=>azy S λS=>azq S 0 I λu C9 S=>zre S (λS=>?_);refine rM S 0 Tryz.results217 I (v:=nT) (u := .i 0) (z := .i 2) ?_;rw[Pj hbad];exact kZ S.E
 obtain⟨p,rfl⟩:∃p:Nat,i=p:=⟨i.toNat,Z⟩;have hp:p<=l.length:=Z
 have hsz0:=S.E.size;refine azz S (OL _ l p _ (hv.below S.E) hp) ?_;rintro e u ⟨b,rfl,hr,Qj,hb⟩;have hbw:w.heap.size<=b:=Z
 refine⟨_,I,Qj,λS=>?_⟩;refine azE S λS=>azB S ((SN _ l b p _ hr.row hr.c0 hr.c1 hr.hp).mono λe w' ⟨h,n,hn⟩=>⟨h,(show Ext _ w' from hn▸below_drewN (aAe _ _) n)⟩) λu E15 S=>azm S ((((l.length-p:Nat):Int))==0) (λhc16 S=>?_) (λhc16 S=>?_)
 .refine azq S 0 I λu C18 S=>zre S (λS=>?_);refine rM S 0 Tryz.results217 I (v:=nT) (u := .i 0) (z := .i 4) ?_;rw[Pm (p:=p) (ahm hp hc16)];exact kZ S.E
 have hpl:p<l.length:=Nat.lt_of_le_of_ne hp λe=>by rw[e,aBK]at hc16; cases hc16
 obtain⟨c,hc⟩:∃c,l[p]?=some c:=⟨_,List.getElem?_eq_getElem hpl⟩;have hdc:(l.drop p).take 1=[c]:=by rw[aAZ hpl]; rw[List.getElem?_eq_getElem hpl]at hc; rw[az1 hc]; rfl
 have hX:Bx _ b2 #[.z,.sn,.z,.sn]:=S.kK 0;refine azw S λS=>LD S (some 32) K01 S.E (λp hp=>by cases hp) (next_any l b p 1 _ _ ((Rd.ext hr E15)) Z Z) ?_;rintro e u ⟨v3,rfl,hr3,hch,hv3,-⟩;rw[hdc]at hv3;obtain⟨b3,o3,cp3,rfl,hb3,hl3,Xl,hc3⟩:=dO hv3 I Y;have hc4:=hc3 0 Y;have hXc:=hX.ch hch Z;refine⟨_,_,I,aBO S.E (hch.below hbw S.E.size),hXc,λac S=>?_⟩;refine U3 S (λS=>?_);have S:=S.view hb3 (akS hc4) (λp hp e=>by rw[aAn.1 hp]at e; subst e; exact ahl hXc hc4);refine adr S 5 [] [.idx 0 1,.mem 1 0] (hk:=⟨O,G⟩) λS=>azm S (decide (1<(c.toNat:Int))) (λhc22 S=>?_) (λhc22 S=>?_)
 .refine azq S 0 I λu NY S=>zre S (λS=>?_);refine rM S 0 Tryz.results217 I (v:=nT) (u := .i 0) (z := .i 3) ?_;rw[Ja hc (akU hc22)];exact kZ S.E
 have hs:¬1<c.toNat:=by have:=aAd hc22; omega
 have hE:(∃er,sW 4096 (l.drop (p+1)) = .error er)∨∃r,sW 4096 (l.drop (p+1)) = .ok r:=by cases sW 4096 (l.drop (p+1))with | error er=>exact .inl ⟨er,I⟩ | ok r=>exact .inr ⟨r,I⟩
 rcases hE with hE | hE
 .obtain⟨er,hu⟩:=hE;have he:=Po hu;have HN:=tZ l b (p+1) _ 4096 _ hr3 Z Z;rw[hu]at HN;have hX:Bx _ b2 #[.z,.sn,.z,.sn]:=S.kK 0;refine azw S λS=>LD S (some 40) K01 S.E (λp hp=>by cases hp) (HN) ?_;rintro e u ⟨q,hr4,hch,rfl⟩;have hXc:=hX.ch hch Z;refine⟨_,_,I,aBO S.E (hch.below hbw S.E.size),hXc,λac S=>?_⟩;refine U3 S λS=>adr S 7 [] [.re 44 (.bool ((er:Int) != 0)) (.bool true)] (hk:=⟨(az0 Value.bool he),G⟩) λS=>azy S λS=>azq S 0 I (λu C29 S=>?_);have S:=S.fl;refine zre S (λS=>?_);refine rM S 0 Tryz.results217 I (v:=nT) (u := .i 0) (z := .i er) ?_;rw[Xi hc hs hu];exact kZ S.E
 obtain⟨⟨s1,k1⟩,hu⟩:=hE;obtain⟨arT,axS,axT⟩:=Y2 hu;rw[aBT]at arT;have HN:=tZ l b (p+1) _ 4096 _ hr3 Z Z;rw[hu]at HN;have hX:Bx _ b2 #[.z,.sn,.z,.sn]:=S.kK 0;refine azw S λS=>LD S (some 40) K01 S.E (λp hp=>by cases hp) (HN) ?_;rintro e u ⟨q1,hr4,hch,hq1,x4,rfl,hx1⟩;have hXc:=hX.ch hch Z;refine⟨_,_,I,aBO S.E (hch.below hbw S.E.size),hXc,λac S=>?_⟩;refine U3 S (λS=>?_);subst hq1;refine azE S (λS=>?_);have hE:(∃er,sW 4096 (l.drop (p+1+k1)) = .error er)∨∃r,sW 4096 (l.drop (p+1+k1)) = .ok r:=by cases sW 4096 (l.drop (p+1+k1))with | error er=>exact .inl ⟨er,I⟩ | ok r=>exact .inr ⟨r,I⟩
 rcases hE with hE | hE
 .obtain⟨er,hu2⟩:=hE;have he:=Po hu2;have HN:=tZ l b (p+1+k1) _ 4096 _ hr4 Z Z;rw[hu2]at HN;have hX:Bx _ b2 #[.z,.sn,.z,.sn]:=S.kK 0;refine azw S λS=>LD S (some 49) K01 S.E (λp hp=>by cases hp) (HN) ?_;rintro e u ⟨q,hr4,hch,rfl⟩;have hXc:=hX.ch hch Z;refine⟨_,_,I,aBO S.E (hch.below hbw S.E.size),hXc,λac S=>?_⟩;refine U3 S λS=>adr S 7 [] [.re 53 (.bool ((er:Int) != 0)) (.bool true)] (hk:=⟨(az0 Value.bool he),G⟩) λS=>azy S λS=>azq S 0 I λu Dh S=>zre S (λS=>?_);refine rM S 0 Tryz.results217 I (v:=nT) (u := .i 0) (z := .i er) ?_;rw[Xj hc hs hu hu2];exact kZ S.E
 obtain⟨⟨s2,k2⟩,hu2⟩:=hE;obtain⟨arU,axU,axV⟩:=Y2 hu2;rw[aBT]at arU;have HN:=tZ l b (p+1+k1) _ 4096 _ hr4 Z Z;rw[hu2]at HN;have hX:Bx _ b2 #[.z,.sn,.z,.sn]:=S.kK 0;refine azw S λS=>LD S (some 49) K01 S.E (λp hp=>by cases hp) (HN) ?_;rintro e u ⟨q2,hr5,hch,hq2,x5,rfl,hx2⟩;have hx1:=aZ (acF hx1 hch hr3.lt);have hXc:=hX.ch hch Z;refine⟨_,_,I,aBO S.E (hch.below hbw S.E.size),hXc,λac S=>?_⟩;refine U3 S λS=>azE S (λS=>?_);obtain⟨nb,hnb⟩:∃nb,(c.toNat==1)=nb:=⟨_,I⟩;obtain⟨a,ha⟩:∃a,Nb.val s1=a:=⟨_,I⟩;obtain⟨b',hb'⟩:∃b',Nb.val s2=b':=⟨_,I⟩;obtain⟨n1,hn1⟩:∃n1,(nb&&decide (0<a))=n1:=⟨_,I⟩;have hsl:(l.take q2).drop p=c::((l.take q2).drop (p+1)):=by rw[aAZ (by simp; omega)]; rw[List.getElem?_eq_getElem hpl]at hc; rw[aCu,az1 hc]
 have hcond:=aeG (nb:=nb) (a:=a) (b:=b') (c:=c) (t:=(l.take q2).drop (p+1)) hnb;rw[<-hsl,hn1]at hcond;rw[Pn hc hs hu hu2,hnb,ha,hb',<-hq2,<-hcond.1];have hla:(Ux a).length<=4096:=by have:=yB s1; rw[ha]at this; omega
 have hlb:(Ux b').length<=4096:=by have:=yB s2; rw[hb']at this; omega
 have hn0:n1=true->0<a:=λh=>by rw[<-hn1]at h; simp only[az7,az6]at h; exact h.2
 have hz1:=S.E.size;have hl1:=(S.bx 0).1;refine adr S 3 [] [.re 57 (.bool ((c.toNat:Int)==1)) (.bool nb)] (hk:=⟨(az0 Value.bool (by rw[<-hnb,aA9,az4,az4]; omega)),G⟩) λS=>azz S (Y8 (hx1) Z ha hn1) ?_;rintro e u ⟨g1,d1,rfl,ht1,hf1,Yv⟩;refine⟨_,I,Yv,λS=>?_⟩;have hz2:=S.E.size;have hl2:=(S.bx 0).1;refine azz S (Y8 (n1:=false) ((((aZ hx2)).below Yv)) Z hb' (aBh _)) ?_;rintro e u ⟨g2,d2,rfl,ht2,hf2,Qn⟩;refine⟨_,I,Qn,λS=>?_⟩;refine azo S λu b42 E43 anG S=>azq S 0 I (λu C45 S=>?_);have E46:=azr (K00 Yv (K00 Qn E43)) C45 (by have:=(K00 Yv Qn).size; omega);have E47:=azr (K00 Qn E43) C45 (by have:=Qn.size; omega);have Rh:=azr E43 C45;have hR:=((Rd.ext hr5 E46));have hT1:=((ht1.below E47));have hT2:=((ht2.below Rh));have hV:=fH (hv.below S.E);have hcap:=iH hV;have hq5:q2<=l.length:=Z
 have hSL:=eH (oC hV (l:=p) (h':=q2) (m:=c0) Z hq5 Z (azS _));rw[<-List.drop_take]at hSL;obtain⟨qb,hqb⟩:∃z,FZ n1 a b'=z:=⟨_,I⟩;obtain⟨sm,hsm⟩:∃z,(gK (n1,a,b')==(l.take q2).drop p)=z:=⟨_,I⟩;cases qb
 .have S:=S.fl;refine Yp S Tryz.f217 16 (λS iz=>?_);have S:=S.sub [(0,.slice a0 l.length c0),(1,.i p),(4,.q b2 0),(7,.q b 0),(12,.q b42 0)];refine aeD S 17 [Rel.is (rv n1 a b' g1 g2 d1 d2),Rel.is (.z),Rel.is (.bool true),Rel.is (.bool true),Rel.top,Rel.top,Rel.top,Rel.top,Rel.top,Rel.top,Rel.top,Rel.top,Rel.top,Rel.top,Rel.top,Rel.top,Rel.is (.bool true)] 16 79 (.bool true) ⟨aG _,aG _,aG _,aG _,λ_ _ _ _ k=>k,λ_ _ _ _ k=>k,λ_ _ _ _ k=>k,λ_ _ _ _ k=>k,λ_ _ _ _ k=>k,λ_ _ _ _ k=>k,λ_ _ _ _ k=>k,λ_ _ _ _ k=>k,λ_ _ _ _ k=>k,λ_ _ _ _ k=>k,λ_ _ _ _ k=>k,λ_ _ _ _ k=>k,aG _,G⟩ ⟨λρ u1 hs ho hC hD=>dld ((ho 12 I).trans (S.s.ev I)) (((S.bx 0).ext hC).range 0 4 I),
   λρ u1 hs ho hC hD=>Sx.dc (T:=Rel.is (.z)) hs [(63,rv n1 a b' g1 g2 d1 d2)] ⟨hD.1 I,G⟩ ((((zH n1 _ _ a b' _ (hT1.below hC) (hT2.below hC) Z Z hn0).mono λe w2 h=>⟨h.1.trans (by rw[hqb]),h.2⟩:Calls _ _ _ _ λe w2=>e = .returned (.z)∧Ext _ w2)).mono λe w2 h=>⟨_,h.1,h.2,I⟩),
   λρ u1 hs ho hC hD=>azu hs [(64,.z)] ⟨hD.1 I,G⟩,
   λρ u1 hs ho hC hD=>azu hs [(65,.bool true)] ⟨hD.1 I,G⟩,
   λρ u1 hs ho hC hD=>⟨λhn=>absurd ((hD.1 I).symm.trans hn) Y,λ_=>trivial⟩,
   λρ u1 hs ho hC hD=>⟨λhn=>absurd ((hD.2.1 I).symm.trans hn) Y,λ_=>trivial⟩,
   λρ u1 hs ho hC hD=>⟨λhn=>absurd ((hD.1 I).symm.trans hn) Y,λ_=>trivial⟩,
   λρ u1 hs ho hC hD=>⟨λhn=>absurd ((hD.1 I).symm.trans hn) Y,λ_=>trivial⟩,
   λρ u1 hs ho hC hD=>⟨λhn=>absurd ((hD.1 I).symm.trans hn) Y,λ_=>trivial⟩,
   λρ u1 hs ho hC hD=>⟨λhn=>absurd ((hD.2.1 I).symm.trans hn) Y,λ_=>trivial⟩,
   λρ u1 hs ho hC hD=>⟨λhn=>absurd ((hD.2.1 I).symm.trans hn) Y,λ_=>trivial⟩,
   λρ u1 hs ho hC hD=>⟨λhn=>absurd ((hD.2.1 I).symm.trans hn) Y,λ_=>trivial⟩,
   λρ u1 hs ho hC hD=>⟨λhn=>absurd ((hD.2.1 I).symm.trans hn) Y,λ_=>trivial⟩,
   λρ u1 hs ho hC hD=>⟨λhn=>absurd ((hD.2.2.2.1 I).symm.trans hn) Y,λ_=>trivial⟩,
   λρ u1 hs ho hC hD=>⟨λhn=>absurd ((hD.2.2.2.1 I).symm.trans hn) Y,λ_=>trivial⟩,
   λρ u1 hs ho hC hD=>⟨λhn=>absurd ((hD.2.1 I).symm.trans hn) Y,λ_=>trivial⟩,
   λρ u1 hs ho hC hD=>azu hs [(66,.bool true),(78,ρ (.tmp 78))] ⟨hD.1 I,I,G⟩,G⟩ (λac u E51 S=>?_) I
  refine zdF S 17 λS=>azy S λS=>azq S 1 I λu C53 S=>zre S (λS=>?_);refine rM S 1 Tryz.results217 I (v:=nT) (u := .i 0) (z := .i 3) ?_;rw[hqb,aBh,azP O];exact kZ S.E
 have S:=S.fl;refine Yp S Tryz.f217 16 (λS iz=>?_);have S:=S.sub [(0,.slice a0 l.length c0),(1,.i p),(4,.q b2 0),(7,.q b 0),(12,.q b42 0)];refine aeD S 17 [Rel.is (rv n1 a b' g1 g2 d1 d2),Rel.is (.bool true),Rel.is (.z),Rel.is (.z),Rel.is (rv n1 a b' g1 g2 d1 d2),(λv w1=>bK w1 v (gK (n1,a,b'))),Rel.is (.slice a0 l.length c0),Rel.is (.i p),Rel.is (.q b 0),Rel.is (.q b 0),Rel.is (.q b 0),Rel.is (.q b 1),Rel.is (.i q2),(λv w1=>bK w1 v ((l.take q2).drop p)),Rel.is (.bool sm),Rel.is (.bool (!sm)),Rel.is (.bool (!sm))] 16 79 (.bool (!sm)) ⟨aG _,aG _,aG _,aG _,aG _,λ_ _ _ k h=>h.below k,aG _,aG _,aG _,aG _,aG _,aG _,aG _,λ_ _ _ k h=>h.below k,aG _,aG _,aG _,G⟩ ⟨λρ u1 hs ho hC hD=>dld ((ho 12 I).trans (S.s.ev I)) (((S.bx 0).ext hC).range 0 4 I),
  λρ u1 hs ho hC hD=>Sx.dc (T:=Rel.is (.bool true)) hs [(63,rv n1 a b' g1 g2 d1 d2)] ⟨hD.1 I,G⟩ ((((zH n1 _ _ a b' _ (hT1.below hC) (hT2.below hC) Z Z hn0).mono λe w2 h=>⟨h.1.trans (by rw[hqb]),h.2⟩:Calls _ _ _ _ λe w2=>e = .returned (.bool true)∧Ext _ w2)).mono λe w2 h=>⟨_,h.1,h.2,I⟩),
  λρ u1 hs ho hC hD=>azu hs [(64,.bool true)] ⟨hD.1 I,G⟩,
  λρ u1 hs ho hC hD=>azu hs [(65,.z)] ⟨hD.1 I,G⟩,
  λρ u1 hs ho hC hD=>⟨λ_=>dld ((ho 12 I).trans (S.s.ev I)) (((S.bx 0).ext hC).range 0 4 I),λhn=>absurd (hD.1 I) hn⟩,
  λρ u1 hs ho hC hD=>⟨λ_=>Sx.dc (T:=λv w1=>bK w1 v (gK (n1,a,b'))) hs [(67,rv n1 a b' g1 g2 d1 d2)] ⟨hD.1 I,G⟩ ((by have h:=vJ n1 false _ _ _ _ u1 (hT1.below hC) (hT2.below hC) Z Z; rw[PV,PV,Pq hqb]at h; exact h.mono λe w2 ⟨v,h1,h2,h3⟩=>⟨v,h1,h3,aZ h2⟩)),λhn=>absurd (hD.2.1 I) hn⟩,
  λρ u1 hs ho hC hD=>⟨λ_=>azu hs [(0,.slice a0 l.length c0)] ⟨(ho 0 I).trans (S.s.ev I),G⟩,λhn=>absurd (hD.1 I) hn⟩,
  λρ u1 hs ho hC hD=>⟨λ_=>azu hs [(1,.i p)] ⟨(ho 1 I).trans (S.s.ev I),G⟩,λhn=>absurd (hD.1 I) hn⟩,
  λρ u1 hs ho hC hD=>⟨λ_=>azu hs [(7,.q b 0)] ⟨(ho 7 I).trans (S.s.ev I),G⟩,λhn=>absurd (hD.1 I) hn⟩,
  λρ u1 hs ho hC hD=>⟨λ_=>azu hs [(71,.q b 0)] ⟨hD.1 I,G⟩,λhn=>absurd (hD.2.1 I) hn⟩,
  λρ u1 hs ho hC hD=>⟨λ_=>azu hs [(72,.q b 0)] ⟨hD.1 I,G⟩,λhn=>absurd (hD.2.1 I) hn⟩,
  λρ u1 hs ho hC hD=>⟨λ_=>azu hs [(73,.q b 0)] ⟨hD.1 I,G⟩,λhn=>absurd (hD.2.1 I) hn⟩,
  λρ u1 hs ho hC hD=>⟨λ_=>dld (hD.1 I) (akS ((hC.cell (p:=⟨b,1,none⟩) hR.lt).trans hR.c1)),λhn=>absurd (hD.2.1 I) hn⟩,
  λρ u1 hs ho hC hD=>⟨λ_=>aeF (T:=λv w1=>bK w1 v ((l.take q2).drop p)) (hD.1 I) (hD.2.1 I) (hD.2.2.1 I) Z Z (hSL.below hC),λhn=>absurd (hD.2.2.2.1 I) hn⟩,
  λρ u1 hs ho hC hD=>⟨λ_=>Sx.dc (T:=Rel.is (.bool sm)) hs [(68,ρ (.tmp 68)),(76,ρ (.tmp 76))] ⟨I,I,G⟩ ((((kY _ _ _ _ _ (hD.1 I) (hD.2.1 I)).mono λe w2 h=>⟨h.1.trans (by rw[hsm]),h.2▸K01⟩:Calls _ _ _ _ λe w2=>e = .returned (.bool sm)∧Ext _ w2)).mono λe w2 h=>⟨_,h.1,h.2,I⟩),λhn=>absurd (hD.2.2.2.1 I) hn⟩,
  λρ u1 hs ho hC hD=>⟨λ_=>azu hs [(77,.bool sm)] ⟨hD.1 I,G⟩,λhn=>absurd (hD.2.1 I) hn⟩,
  λρ u1 hs ho hC hD=>azu hs [(66,.z),(78,.bool (!sm))] ⟨hD.1 I,hD.2.1 I,G⟩,G⟩ (λac u E54 S=>?_) I
 refine zdF S 17 λS=>azm S (!sm) (λakV S=>?_) (λakV S=>?_)
 .refine azq S 1 I (λu C57 S=>?_);have S:=S.fl;refine zre S (λS=>?_);refine rM S 1 Tryz.results217 I (v:=nT) (u := .i 0) (z := .i 3) ?_;obtain rfl:sm=false:=by simpa using akV
  rw[hsm,Bool.and_false,azP O];exact kZ S.E
 have hRf:=((Rd.ext hr5 (K00 E46 E54)));have hgb:b42≠b2:=λe=>by have h:=S.apart; rw[aAE,aBZ]at h; exact h.1 (by simp[e])
 have hbb:b≠b2:=Z
 have S:=S.fl;refine Yp S Tryz.f217 18 (λS iz=>?_);have S:=S.sub [(4,.q b2 0),(7,.q b 0),(12,.q b42 0)];refine akT S 9 6 (kb:=1) I [Rel.is (rv n1 a b' g1 g2 d1 d2),Rel.is (.q b 0),Rel.is (.q b 0),Rel.is (.q b 0),Rel.is (.q b 1),Rel.is (.i q2),λ_ u=>Bx u b2 (List.toArray [.bool n1,.slice g1 ((Ux a).length) d1,.z,.slice g2 ((Ux b').length) d2]),Rel.is (.i q2),Rel.is (.i 0)] [(7,5,.i q2),(8,6,.i 0)] ⟨aG _,λ_=>aG _,aG _,λ_=>aG _,aG _,λ_=>aG _,aG _,λ_=>aG _,aG _,λ_=>aG _,aG _,λ_=>aG _,λ_ _ _ h x=>x.ext h,λh=>absurd I h,aG _,λ_=>aG _,aG _,λ_=>aG _,G⟩ ⟨λρ u1 hs ho hC hD=>dld ((ho 12 I).trans (S.s.ev I)) (((S.bx 0).ch hC.1 hgb).range 0 4 I),λρ u1 hs ho hC hD=>azu hs [(7,.q b 0)] ⟨((ho 7 I).trans (S.s.ev I)),G⟩,λρ u1 hs ho hC hD=>azu hs [(82,.q b 0)] ⟨(hD.1 I),G⟩,λρ u1 hs ho hC hD=>azu hs [(83,.q b 0)] ⟨(hD.1 I),G⟩,λρ u1 hs ho hC hD=>azu hs [(84,.q b 0)] ⟨(hD.1 I),G⟩,λρ u1 hs ho hC hD=>dld (hD.1 I) (akS ((hC.1.cell (p:=⟨b,1,none⟩) hRf.lt hbb).trans hRf.c1)),λρ u1 hs ho hC hD=>aeE ((ho 4 I).trans (S.s.ev I)) (hD.1 I) (hC.2 I) I,λρ u1 hs ho hC hD=>azu hs [(86,.i q2)] ⟨(hD.1 I),G⟩,λρ u1 hs ho hC hD=>azu hs [] trivial,G⟩ (λac u hCf S=>?_) Y I;refine zdF S 9 λS=>zre S (λS=>?_);refine rM S 1 Tryz.results217 I (v:=rv n1 a b' g1 g2 d1 d2) (u := .i q2) (z := .i 0) ?_;obtain rfl:sm=true:=by simpa using akV
 have hnn:=hcond.2 (by rw[hqb,hsm]; rfl);rw[hqb,hsm,Bool.and_self,azQ I,<-hnn];exact⟨_,I,⟨_,_,I,(((ht1.below (K00 E47 E54)))).ch hCf λ_=>hf1.off Z,(((ht2.below (K00 Rh E54)))).ch hCf λ_=>hf2.off Z,hf1.mono Z,hf2.mono Z⟩,S.E⟩
end Go.Proofs.YtodpgjjgaddkeaaGreatDoor
namespace Go.Sx
open Go.Proofs.YtodpgjjgaddkeaaGreatDoor Go.RowKit Go.Rel Na Go.Sx Go.Rel
theorem TD{P:Program}{ops ops':Array Oper}{Q:Exit->Act->World->Prop}{p q:Nat}{o:Oper}(ho':ops'[p]?=some o)
  (hK:∀(K:Act->World->Prop) a w,wpOp P ops (Fb Q) p K a w->∃v,Yields P ops' o v a∧K (a.put o.dst v) w) (hs:Region.noSelect ops'=true) (hpq:p≠q)
  (hap:∀j oj,ops'[j]?=some oj->j≠p->j≠q->(∀e∈oj.after,Region.binds .any e=true->e.on≠p)->o.apart ops' oj=true)
  (hop:∀i K a w,wpOp P ops (Fb Q) i K a w->wpOp P ops' (Fb Q) i K a w)
  (hA:∀f (L:Array Bool) a w,L.getD p false=true->wpAny P .any ops (Fb Q) f L a w->wpAny P .any ops' (Fb Q) f L a w)
  (hR:∀L:Array Bool,L.getD q true=false->Region.ready .any ops L=Region.ready .any ops' L∧p∉Region.ready .any ops' L)
  (hP:∀L:Array Bool,L.getD q false=true->L.getD p true=false->p∈Region.ready .any ops L∧p∈Region.ready .any ops' L) :
  ∀(f:Nat) (L:Array Bool) (a:Act) (w:World),L.getD q true=false->L.getD p true=false->wpAny P .any ops (Fb Q) f L a w->wpAny P .any ops' (Fb Q) f L a w
 | 0,L,a,w,hq,hp,h=>⟨(hR L hq).1▸h.1,h.2⟩
 | f+1,L,a,w,hq,hp,h=>by
  refine⟨λh0=>h.1 ((hR L hq).1.trans h0),λi hi=>?_⟩
  have h2:=hop i _ a w (h.2 i ((hR L hq).1▸hi))
  have hip:i≠p:=λe=>(hR L hq).2 (e▸hi)
  have hne:∀(j:Nat),j≠i->∀d,(L.setIfInBounds i true).getD j d=L.getD j d:=λj hj d=>by
   simp[Array.getD_eq_getD_getElem?,Array.getElem?_setIfInBounds_ne (Ne.symm hj)]
  by_cases hiq:i=q
  .subst hiq
   refine wpOp_mono (λa' w' h'=>?_) h2
   have hlt:i<L.size:=by
    by_cases h:i<L.size
    .exact h
    .rw[Array.getD_eq_getD_getElem?,Array.getElem?_eq_none Z]at hq; cases hq
   have hq':(L.setIfInBounds i true).getD i false=true:=by simp[Array.getD_eq_getD_getElem?,hlt]
   have hp':(L.setIfInBounds i true).getD p true=false:=by rw[hne p (Ne.symm hip)]; exact hp
   obtain⟨r1,r2⟩:=hP _ hq' hp'
   cases f with
   | zero=>rw[h'.1]at r1; cases r1
   | succ g =>
    obtain⟨v,hy,h3⟩:=hK _ a' w' (h'.2 p r1)
    have hltp:p<L.size:=by
     by_cases h:p<L.size
     .exact h
     .rw[Array.getD_eq_getD_getElem?,Array.getElem?_eq_none Z]at hp; cases hp
    refine wpAny_first ho' (Region.noSelect_spec hs) (λc a w h=>h.elim) g _ a' w' (λj oj hj hjp hun hno=>hap j oj hj hjp (λe=>?_) hno) r2 hy (hA _ _ _ _ (by simp[Array.getD_eq_getD_getElem?,hltp]) h3)
    subst e
    simp[Array.getD_eq_getD_getElem?,hlt]at hun
  .refine wpOp_mono (λa' w' h'=>TD ho' hK hs hpq hap hop hA hR hP f _ a' w' ?_ ?_ h') h2
   .rw[hne q (Ne.symm hiq)]; exact hq
   .rw[hne p (Ne.symm hip)]; exact hp
def Jf(p q t:Nat)(os:List Oper):Bool:=Region.noSelect os.toArray&&p != q&&p != t&&decide (q<os.length)&&(sG os.toArray p==[q])&&(sG os.toArray t).contains q &&
 (match os[p]? with | some o=>o.guard.isNone&&(match o.op with | .extract _ _=>true | _=>false)&&(List.range os.length).all (λj=>j==p||j==q||(sG os.toArray j).contains p||(match os[j]? with | some oj=>o.apart os.toArray oj | none=>true)) | none=>false)
variable{os:List Oper}{P:Program}{Q:Exit->Act->World->Prop}{a:Act}{w:World}{id:Nat}
theorem uf{p t:Nat}{j q:Nat}:q∈sG (kP [p] t os).toArray j↔q∈sG os.toArray j∨(j=t∧q=p∧j<os.length):=by
 unfold sG;rw[List.getElem?_toArray,List.getElem?_toArray,tq];by_cases h:j=t
 .subst h;rw[azQ I];cases ho:os[j]? with
  | none=>have:=List.getElem?_eq_none_iff.1 ho; simp; omega
  | some o =>
   have hl:=(List.getElem?_eq_some_iff.1 ho).1;simp only[aAF,Array.toList_append,List.filterMap_append,aAu,aAE,aA2];refine or_congr Iff.rfl ?_;simp[Region.binds,hl,eq_comm]
 rw[azP h]; simp[h]
theorem ahn{L:Array Bool}{q:Nat}(h:L.getD q true=false):L.getD q false=false:=by
 by_cases hl:q<L.size
 .rw[<-adF hl true false]; exact h
 rw[Array.getD_eq_getD_getElem?,Array.getElem?_eq_none Z]at h; cases h
theorem abh{ops ops':Array Oper}{L:Array Bool}(hsz:ops.size=ops'.size)(h:∀j,j∈Region.ready .any ops L↔j∈Region.ready .any ops' L):Region.ready .any ops L=Region.ready .any ops' L:=by
 unfold Region.ready at *;rw[hsz]at *;refine List.filter_congr λx hx=>?_;have:=h x;simp only[List.mem_filter,hx,true_and]at this;exact aA9.2 this
theorem TF{tt:Value}{ix:Nat}:(∃v,∀w,(Instr.extract tt ix).run P w = .ok v w)∨∀w,∃x,(Instr.extract tt ix).run P w = .halt x w:=by
 unfold Instr.extract;split
 .split
  .exact .inl ⟨_,λw=>rfl⟩
  exact .inr λw=>⟨_,I⟩
 exact .inr λw=>⟨_,I⟩
theorem Xm(p q t:Nat)(h:wpAny P .any (kP [p] t os).toArray (Fb Q) os.length (Array.replicate os.length false) a w)
  (hb:Jf p q t os=true:=by kernel_rfl):wpAny P .any os.toArray (Fb Q) os.length (Array.replicate os.length false) a w:=by
 unfold Jf at hb;simp only[az7,bne_iff_ne,ne_eq,az6,az4]at hb;obtain⟨⟨⟨⟨⟨⟨hs,hpq⟩,hpt⟩,hql⟩,hbp⟩,hbt⟩,hm⟩:=hb;have hbt:q∈sG os.toArray t:=by simpa using hbt
 split at hm
 .rename_i o ho;simp only[az7,aAr,List.mem_range,aBy,az4]at hm;obtain⟨⟨hg,hx⟩,hap⟩:=hm;have hg:o.guard=none:=by simpa using hg
  obtain⟨tt,ix,hop⟩:∃tt ix,o.op = .extract tt ix:=by split at hx; exact⟨_,_,by assumption⟩; cases hx
  have hpl:=(List.getElem?_eq_some_iff.1 ho).1;have ho':os.toArray[p]?=some o:=by simpa using ho
  have hop2:(kP [p] t os).toArray[p]?=some o:=by rw[List.getElem?_toArray,tq,azP hpt]; exact ho
  have hal:=VQ [p] t os;have hsz:(kP [p] t os).toArray.size=os.toArray.size:=hal.1;have hrep:∀j,j<os.length->∀d,(Array.replicate os.length false).getD j d=false:=λj hj d=>by simp[Array.getD_eq_getD_getElem?,hj]
  have key:=TD (P:=P) (Q:=Q) (ops:=(kP [p] t os).toArray) (ops':=os.toArray) (p:=p) (q:=q) ho' (λK a w h=>?_) hs hpq (λj oj hj h1 h2 h3=>?_) (λi K a w h=>hal.wpOp (λ_ _ h=>h) h) (λf L a w hL h=>?_) (λL hL=>?_) (λL hL hL2=>?_) os.length (Array.replicate os.length false) a w (hrep q hql _) (hrep p hpl _) h
  .simpa using key
  .unfold wpOp at h;rw[hop2]at h;simp only at h;rw[azQ (by simp[Region.wanted,hg])]at h;rcases h with h | ⟨_,h⟩
   .have he:∀w,(execOp a.eval o).run P w=match (Instr.extract (a.eval tt) ix).run P w with | .ok v w => .ok (.value v) w | .halt x w => .halt x w:=λw=>by unfold execOp; simp only[hop]; generalize Instr.extract (a.eval tt) ix=m; simp[go_sem]; cases Sem.run P m w<;>rfl
    rcases TF (P:=P) (tt:=a.eval tt) (ix:=ix)with ⟨v,hv⟩ | hb
    .have hrun:∀w,(execOp a.eval o).run P w = .ok (.value v) w:=λw=>by rw[he,hv]
     exact⟨v,.inl ⟨by simp[Region.wanted,hg],hrun⟩,by unfold Oper.wp at h; rw[hrun w]at h; exact h⟩
    obtain⟨x,hx⟩:=hb w;unfold Oper.wp at h;rw[he,hx]at h;cases x<;>simp only[Oper.upon]at h;exact h.elim
   exact(tu h).elim
  .have hj':os[j]?=some oj:=by simpa using hj
   have:=hap j (List.getElem?_eq_some_iff.1 hj').1;rw[hj']at this;rcases this with ((h4 | h4) | h4) | h4
   .exact absurd h4 h1
   .exact absurd h4 h2
   .obtain⟨e,he,hbe,h5⟩:=(mG hj).1 (by simpa using h4);exact absurd h5 (h3 e he hbe)
   exact h4
  .refine EG (F:=[p]) hal (λi o1 o2 h1 h2 e he hbe=>?_) (λi o1 o2 h1 h2 e he hbe=>?_) f L a w (λi hi=>by rw[aAn.1 hi]; exact hL) h
   .rcases uf.1 ((mG h1).2 ⟨e,he,hbe,rfl⟩)with h3 | h3
    .exact .inr ((mG h2).1 h3)
    exact .inl (by simp[h3.2.1])
   exact(mG h1).1 (uf.2 (.inl ((mG h2).2 ⟨e,he,hbe,I⟩)))
  .have hq:=ahn hL;have hnp:p∉Region.ready .any os.toArray L:=λh=>by
    have:=(sZ.1 h).2.2 q (by rw[hbp]; simp);rw[hq]at this; cases this
   refine⟨abh hsz λj=>?_,hnp⟩;rw[sZ,sZ,hsz];refine and_congr_right λ_=>and_congr_right λ_=>⟨λg r hr=>g r (uf.2 (.inl hr)),λg r hr=>?_⟩;rcases uf.1 hr with hr | ⟨rfl,-,-⟩
   .exact g r hr
   have:=g q hbt;rw[hq]at this; cases this
  refine⟨sZ.2 ⟨by rw[hsz]; simpa using hpl,hL2,λr hr=>?_⟩,sZ.2 ⟨by simpa using hpl,hL2,λr hr=>?_⟩⟩
  .rcases uf.1 hr with hr | ⟨h1,-,-⟩
   .rw[hbp]at hr; rw[aAn.1 hr]; exact hL
   exact absurd h1 hpt
  rw[hbp]at hr; rw[aAn.1 hr]; exact hL
 cases hm
theorem delay(p q t:Nat)(h:wpAny P .any (kP [p] t os).toArray (Fb Q) (kP [p] t os).toArray.size (Array.replicate (kP [p] t os).toArray.size false) a { w with drawn:=w.drawn+1 })
  (hb:Jf p q t os=true:=by kernel_rfl) (hmo:P.follows .mixedOrders=true:=by kernel_rfl):(Code.region id os.toArray true).wp P Q a w:=by
 rw[show(kP [p] t os).toArray.size=os.length by unfold kP; simp]at h;refine aBW hmo (yC _ _ _ _ ?_);have:=Xm p q t h hb;simpa using this
theorem akW(p p' q t:Nat)(h:wpAny P .any (kP [p'] t (kP [p] t os)).toArray (Fb Q) (kP [p'] t (kP [p] t os)).toArray.size (Array.replicate (kP [p'] t (kP [p] t os)).toArray.size false) a { w with drawn:=w.drawn+1 })
  (hb:Jf p q t os=true:=by kernel_rfl) (hb':Jf p' q t (kP [p] t os)=true:=by kernel_rfl) (hmo:P.follows .mixedOrders=true:=by kernel_rfl):(Code.region id os.toArray true).wp P Q a w:=by
 have hl:(kP [p] t os).length=os.length:=by unfold kP; simp
 rw[show(kP [p'] t (kP [p] t os)).toArray.size=(kP [p] t os).length by unfold kP; simp]at h;have h2:=Xm p' q t h hb';rw[hl]at h2;refine aBW hmo (yC _ _ _ _ ?_);have:=Xm p q t h2 hb;simpa using this
end Go.Sx
namespace Go.Proofs.YtodpgjjgaddkeaaGreatDoor
open Go.RowKit En Na Go.Sx Go.Rel
variable{α:Type}{K:Nat}
variable{w u w0:World}{b base p er cap:Nat}{l:List UInt8}{bad:Bool}{r:Q3}{a:Option Addr}
theorem Za{f:α->Value}{v:Value}{l:List α}(h:dG f w v l)(hf:From base v):Sx.aY base (λW=>dG f W v l) w:=λw' hs hb=>by
 obtain⟨a,cap,rfl,hm,hh⟩:=h;refine⟨a,cap,I,hm,hh.imp id ?_⟩;rintro⟨b,o,rfl,h1,h2,h3⟩;have hk:=hb b h1 (hf _ _ _ I);exact⟨b,o,I,aAk h1 hs,h2,λi hi=>(World.cell?_of_block (a:=⟨b,o+i,none⟩) hk).trans (h3 i hi)⟩
theorem aho{x:Value}{neg:Bool}{a:Nat}(h:aA base w x neg a b):∃t:bJ,x=t.v∧t.n1=neg∧t.n2=false∧t.l1=Ux a∧t.l2=Ux b∧t.ok w∧From base t.s1∧From base t.s2:=by
 obtain⟨s,t,rfl,h1,h2,f1,f2⟩:=h;obtain⟨a1,c1,rfl⟩:=h1.shape;obtain⟨a2,c2,rfl⟩:=h2.shape;exact⟨⟨neg,a1,c1,Ux a,false,a2,c2,Ux b⟩,I,I,I,I,I,⟨h1,h2⟩,f1,f2⟩
theorem xA{t:bJ}(h:t.ok w)(hf:From base t.s1∧From base t.s2)(c:Ch b w u)(hb:b<base):t.ok u:=⟨h.1.ch c (λ_=>hf.1.off hb),h.2.ch c (λ_=>hf.2.off hb)⟩
theorem aeH{g:Nat}{s:Value}{l:List UInt32}(h:Bx w g #[.z,.sn,.z,.sn])(hs:aC w s l):0<l.length->Off g s:=by
 intro h0 ad n cap e;obtain⟨b,o,c,hv,hb,_,_,hc⟩:=dO hs I h0;rw[hv]at e;simp only[aAq,azT]at e;obtain⟨rfl,-,-⟩:=e;intro hbg;simp only at hbg;subst hbg;have h1:=hc 0 h0;rw[h.2.1]at h1;rcases o with _ | _ | _ | _ | o
 .simp at h1
 .simp at h1
 .simp at h1
 .simp at h1
 simp at h1
theorem xB{t:bJ}(h:t.ok w)(hx:Bx w b #[.z,.sn,.z,.sn])(c:Ch b w u):t.ok u:=⟨h.1.ch c (aeH hx h.1),h.2.ch c (aeH hx h.2)⟩
theorem abj{base':Nat}{t:bJ}(h:t.ok w)(hf:From base t.s1∧From base t.s2)(hb:base'<=base):Sx.aY base' (λW=>t.ok W) w:=aAm (Za h.1 (hf.1.mono hb)) (Za h.2 (hf.2.mono hb))
def CU(r:Q3)(t:bJ):Prop:=t.n1=r.1∧t.n2=false∧t.l1=Ux r.2.1∧t.l2=Ux r.2.2
def bJ.least(t:bJ):Prop:=(t.n1=false∧t.n2=false∧t.l1=[]∧t.l2=[])∨∃r:Q3,CU r t∧FZ r.1 r.2.1 r.2.2=true
def bH.least(t:bH):Prop:=t.a.least∧t.b.least∧t.c.least∧t.d.least∧t.e.least∧t.f.least
theorem CU.q{r:Q3}{t:bJ}(h:CU r t)(hr:Qp r):t.q=r:=by
 unfold bJ.q;rw[h.1,h.2.1,h.2.2.1,h.2.2.2,PV,PV,Pq hr.2]
theorem CU.fit{l:List UInt8}{i:Int}{r:Q3}{q e:Nat}{t:bJ}(h:CU r t)(hu:I9 l i=(r,q,e)):t.fit 5000:=by
 have:=aez hu;exact⟨by rw[h.2.2.1]; omega,by rw[h.2.2.2]; omega⟩
theorem ahp{nx:Nat}{t:bJ}(hu:I9 l (p:Int)=(r,nx,er))(h:CU r t):Got gK Qp l p bad nx false t.q:=λy s hy hb e=>by
 have h2:=Y5 hy e;rw[hu]at h2;simp only[azW]at h2;obtain⟨rfl,rfl,rfl⟩:=h2;exact⟨h.q hy,I,CP e⟩
theorem Xn{nx p':Nat}{b':Bool}{x:Q3}(hu:I9 l (p:Int)=(r,nx,er))(h:bad=true∨er≠0):Got gK Qp l p bad p' b' x:=λy s hy hb e=>by
 have h2:=Y5 hy e;rw[hu]at h2;simp only[azW]at h2;exfalso;rcases h with h | h
 .rw[h]at hb; cases hb
 exact h h2.2.2
theorem Me{pk:Bool}(hE:Ext w0 w)(hx:Bx w b #[.slice a l.length cap,.i p,.bool bad,.bool pk])(hb:w0.heap.size<=b)(h:jv w0 (.slice a l.length cap) l)(hp:p<=l.length)(hll:l.length<=60000000) :
  Calls Tryz.prog 164 #[.q b 0] w λe w'=>∃(t:bJ) (p':Nat) (d':Bool),e = .returned t.v∧t.fit 5000∧t.least∧Sx.aY w.heap.size (λW=>t.ok W) w'∧Got gK Qp l p bad p' d' t.q∧KJ w0 w w' b a l cap pk p' d':=by
 skip;refine Dv Tryz.func164 Tryz.ntmps164 hE hx hb λac S=>azn λ_ gQ=>qO S 2 Sx.zr λac u b2 E3 hb4 S=>azl<|gQ _ _<|az8 (λ_ BN=>?_);obtain⟨rr,nx,er,hu⟩:∃rr nx er,I9 l (p:Int)=(rr,nx,er):=⟨_,_,_,I⟩;have hnx:er=0->nx<=l.length:=λe=>by subst e; obtain⟨p',-,-,h2,-⟩:=L6 hu; exact h2
 have hyy:=(((Ch.trans (Ch.refl b w) (Ch.aT E3)))).size;have zr0:=(S.bx 0).1;have dn:=(S.bx 1).1;have hold:=λp hp=>(S.own p hp).1.1;have jZ:=S.E.size;refine Sx.akW 11 12 9 14 ?_;refine qJ S 14 [(15,λv w1=>∃t:bJ,v = .tuple #[t.v,.i nx,.i er]∧CU rr t∧t.ok w1∧From u.heap.size t.s1∧From u.heap.size t.s2),(6,λv w1=>∃t:bJ,v = .tuple #[t.v,.i nx,.i er]∧CU rr t∧t.ok w1∧From u.heap.size t.s1∧From u.heap.size t.s2),(16,λv w1=>∃t:bJ,v=t.v∧CU rr t∧t.ok w1∧From u.heap.size t.s1∧From u.heap.size t.s2),(17,λv w1=>v = .i nx),(18,λv w1=>v = .i er),(3,iO u.heap.size Sx.zr none)] (λr=>[.mem 1 0,.mem 1 1,.hand 6 [],.hand 16 [],.hand 17 [],.hand 18 [],.new 3 Sx.zr none r]) (λx=>[x 15,x 6,x 16,x 17,x 18,x 3]) (λx=>[(_,_,true,x 15,15)]) [[]] (λx=>[(3,x 3),(16,x 16),(17,x 17),(18,x 18)]) ⟨λ_ _ _ k h=>by obtain⟨t,e,h1,h2⟩:=h; exact⟨t,e,h1,h2.1.below k,h2.2⟩,λ_ _ _ k h=>by obtain⟨t,e,h1,h2⟩:=h; exact⟨t,e,h1,h2.1.below k,h2.2⟩,λ_ _ _ k h=>by obtain⟨t,e,h1,h2⟩:=h; exact⟨t,e,h1,h2.1.below k,h2.2⟩,λ_ _ _ _ h=>h,λ_ _ _ _ h=>h,iO.mono,G⟩ (λx=>⟨by intro u hC g F; exact(Py (.slice a l.length cap) l (p:Int) _ (eH (aJ.below h (K00 S.E hC))) Z).mono λe w2 h=>by obtain⟨x,rfl,hx,hb⟩:=h; exact⟨_,I,(by rw[hu]at hx |-; obtain⟨t,rfl,h1,h2,h3,h4,h5,h6,h7⟩:=aho hx; exact⟨t,I,⟨h1,h2,h3,h4⟩,h5,h6.mono hC.size,h7.mono hC.size⟩),hb⟩,G⟩) (λac u x E6 F S=>?_) (hN:=λr=>⟨⟨I,I⟩,G⟩) (hk:=λr=>⟨G,G,G,G,G,G⟩) (hl:=[(9,[15]),(10,[6]),(11,[6]),(12,[6])]) (hH:=λx r=>⟨λo ho ρ u hs hE hρ hV F=>by obtain⟨F15,-⟩:=F; exact jA ho hs [(15,x 15)] (azV (hρ 15 O I)) (x 15) (aAT ho I I K01 F15),λo ho ρ u hs hE hρ hV F=>by obtain⟨F6,-⟩:=F; obtain⟨t,e,h2⟩:=F6; exact jA ho hs [(6,.tuple #[t.v,.i nx,.i er])] (azV ((hρ 6 O I).trans e)) (t.v) (aAT ho I I K01 ⟨t,I,h2⟩),λo ho ρ u hs hE hρ hV F=>by obtain⟨F6,-⟩:=F; obtain⟨t,e,h2⟩:=F6; exact jA ho hs [(6,.tuple #[t.v,.i nx,.i er])] (azV ((hρ 6 O I).trans e)) (.i nx) (aAT ho I I K01 I),λo ho ρ u hs hE hρ hV F=>by obtain⟨F6,-⟩:=F; obtain⟨t,e,h2⟩:=F6; exact jA ho hs [(6,.tuple #[t.v,.i nx,.i er])] (azV ((hρ 6 O I).trans e)) (.i er) (aAT ho I I K01 I),G⟩);obtain⟨F15,F6,F16,QZ,F18,F3,-⟩:=F;clear F15;clear F6;obtain⟨t,et,hto,htd,hfr⟩:=F16;rw[et]at S;rw[QZ]at S;rw[F18]at S;obtain⟨b7,F3,hb9,X8⟩:=F3;rw[F3]at S;have S:=S.adopt (A:=Sx.zr) X8 Z (λp hp=>by have:=hold p hp; omega) (λm hm=>by cases hm);refine azR S 0 (off:=0) (cs:=t.cells) I (λu C10 S=>?_);have JX:=(aI ((Ch.trans (Ch.refl b w) (Ch.aT (K00 E3 E6)))) C10 (by first | exact .inl I | exact .inr Z));have BM:=(by first | exact xB htd X8 C10 | exact xA htd hfr C10 Z);refine azk S 2 [] [(4,.i nx),(5,.i er)] λS=>azl<|BN _ _<|az8 λ_ Wq=>azn λ_ vP=>azk S 8 [.mem 2 2] [(26,.bool (bad||(((er:Int)) != 0)))] λS=>azl (vP _ _ ?_);refine azM S (λyI=>?_) (λyI=>?_)
 .refine azn λ_ Ai=>azk S 3 [] [(29,.q b 2)] λS=>azY S 2 (off:=2) (v := .bool true) I (λu J3 S=>?_);have BI:=(aI JX J3 (by first | exact .inl I | exact .inr Z));have nN:=(by first | exact xB BM X8 J3 | exact xA BM hfr J3 Z);refine azl<|Ai _ _<|azn λ_ aax=>azk S 1 [] [(30,.agg Sx.zr.toArray)] λS=>azR S 1 (off:=0) (cs:=Sx.zr) I (λu C21 S=>?_);have vO:=(aI BI C21 (by first | exact .inl I | exact .inr Z));have EW:=(by first | exact xB nN X8 C21 | exact xA nN hfr C21 Z);refine azl<|aax _ _<|rtc S 1 Tryz.results164 I (v := .agg Sx.zr.toArray) ?_;exact⟨.none,p,true,I,bJ.iF 5000,.inl ⟨I,I,I,I⟩,(λW _ _=>bJ.gy W),Xn hu (by cases bad; (right; intro e; rw[e]at yI; simp at yI); (left; rfl)),hp,S.E,vO,S.bx 2⟩
 refine aAs<|Wq _ _<|azn λ_ WE=>azk S 4 [] [(32,.i nx),(34,.q b 1)] λS=>azY S 2 (off:=1) (v := .i nx) I (λu ZO S=>?_);have ER:=(aI JX ZO (by first | exact .inl I | exact .inr Z));have yK:=(by first | exact xB BM X8 ZO | exact xA BM hfr ZO Z);refine azl<|WE _ _<|azn λ_ adL=>azk S 1 [.mem 0 0] [(35,t.v)] λS=>azR S 1 (off:=0) (cs:=t.cells) I (λu C29 S=>?_);have WG:=(aI ER C29 (by first | exact .inl I | exact .inr Z));have uM:=(by first | exact xB yK X8 C29 | exact xA yK hfr C29 Z);refine azl<|adL _ _<|Vp.rt ?_;have hq:bad=false∧er=0:=by cases bad<;>simp at yI |- <;> omega
 obtain⟨rfl,rfl⟩:=hq;refine akX S 1 Tryz.results164 I (v:=t.v) ?_;exact⟨t,nx,false,I,hto.fit hu,.inr ⟨rr,hto,by obtain⟨_,-,-,-,hq,-⟩:=L6 hu; exact hq⟩,abj uM hfr hyy,ahp hu hto,hnx I,S.E,WG,S.bx 2⟩
theorem aiH{pk:Bool}(hE:Ext w0 w)(hx:Bx w b #[.slice a l.length cap,.i p,.bool bad,.bool pk])(hb:w0.heap.size<=b)(h:jv w0 (.slice a l.length cap) l)(hp:p<=l.length)(hll:l.length<=60000000) :
  Calls Tryz.prog 117 #[.q b 0] w λe w'=>∃(t:bH) (p':Nat) (d':Bool),e = .returned t.v∧t.fit 5000∧t.least∧Sx.aY w.heap.size (λW=>t.ok W) w'∧Got sJ Tz l p bad p' d' t.q∧KJ w0 w w' b a l cap pk p' d':=by
 skip;refine azN Tryz.func117 Tryz.ntmps117 hE hx hb λS=>azo S (λu b2 E3 hb4 S=>?_);have hy1:=(((Ch.trans (Ch.refl b w) (Ch.aT E3)))).size;refine azo S λu b6 E7 hb8 S=>azo S λu b11 pW acY S=>zun S 6 λS=>azy S λS=>adr S 5 [] [.mem 0 0] (λS=>?_);have S:=S.fl;have y18:=(((Ch.trans (Ch.refl b w) (Ch.aT (K00 E3 (K00 E7 pW)))))).size;have avQ:=(S.bx 0).1;have avR:=(S.bx 1).1;have avS:=(S.bx 2).1;have avT:=(S.bx 3).1;refine azt S 3 I (Me (hll:=hll) S.E (S.bx 3) (S.old 3) h hp) ?_;rintro e u ⟨t18,p18,d18,rfl,arV,arW,arX,g18,O8,O9,vk,Ph⟩;refine⟨_,_,I,O9,vk,Ph,λS=>?_⟩;have ahb:=vk.size;have nN:=(aI ((Ch.trans (Ch.refl b w) (Ch.aT (K00 E3 (K00 E7 pW))))) vk);refine azq S 1 I (λu y8 S=>?_);have rZ:=(aI nN y8);have vO:=(aY.ch arX y8 Z);refine azy S λS=>adr S 5 [] [.mem 0 1] (λS=>?_);have S:=S.fl;have y27:=(rZ).size;have avU:=(S.bx 0).1;have avV:=(S.bx 1).1;have avW:=(S.bx 2).1;have avX:=(S.bx 3).1;refine azt S 3 I (Me (hll:=hll) S.E (S.bx 3) (S.old 3) h O8) ?_;rintro e u ⟨t27,p27,d27,rfl,arY,arZ,ar0,g27,ar1,ajV,aay,ajW⟩;refine⟨_,_,I,ajV,aay,ajW,λS=>?_⟩;have axW:=aay.size;have Dz:=(aI rZ aay);have qR:=(aY.ch vO aay Z);refine azq S 1 I (λu JO S=>?_);have uM:=(aI Dz JO);have wG:=(aY.ch qR JO Z);have Dq:=(aY.ch ar0 JO Z);refine azy S λS=>adr S 5 [] [.mem 0 2] (λS=>?_);have S:=S.fl;have y38:=(uM).size;have avY:=(S.bx 0).1;have avZ:=(S.bx 1).1;have av1:=(S.bx 2).1;have av2:=(S.bx 3).1;refine azt S 3 I (Me (hll:=hll) S.E (S.bx 3) (S.old 3) h ar1) ?_;rintro e u ⟨t38,p38,d38,rfl,ar2,ar4,ar5,g38,ar6,ar7,aeI,ar8⟩;refine⟨_,_,I,ar7,aeI,ar8,λS=>?_⟩;have axX:=aeI.size;have Ad:=(aI uM aeI);have Dt:=(aY.ch wG aeI Z);have wI:=(aY.ch Dq aeI Z);refine azq S 1 I (λu C42 S=>?_);have wJ:=(aI Ad C42);have OE:=(aY.ch Dt C42 Z);have qU:=(aY.ch wI C42 Z);have Kr:=(aY.ch ar5 C42 Z);refine azy S λS=>adr S 5 [] [.mem 0 3] (λS=>?_);have S:=S.fl;have y51:=(wJ).size;have av3:=(S.bx 0).1;have av4:=(S.bx 1).1;have av5:=(S.bx 2).1;have av6:=(S.bx 3).1;refine azt S 3 I (Me (hll:=hll) S.E (S.bx 3) (S.old 3) h ar6) ?_;rintro e u ⟨t51,p51,d51,rfl,ar9,asa,asb,g51,asc,ase,abk,asf⟩;refine⟨_,_,I,ase,abk,asf,λS=>?_⟩;have axY:=abk.size;have BK:=(aI wJ abk);have BL:=(aY.ch OE abk Z);have RP:=(aY.ch qU abk Z);have RQ:=(aY.ch Kr abk Z);refine azq S 1 I (λu C56 S=>?_);have SG:=(aI BK C56);have BR:=(aY.ch BL C56 Z);have Ik:=(aY.ch RP C56 Z);have IC:=(aY.ch RQ C56 Z);have Cm:=(aY.ch asb C56 Z);refine azy S λS=>adr S 5 [] [.mem 0 4] (λS=>?_);have S:=S.fl;have y66:=(SG).size;have av7:=(S.bx 0).1;have av8:=(S.bx 1).1;have av9:=(S.bx 2).1;have awc:=(S.bx 3).1;refine azt S 3 I (Me (hll:=hll) S.E (S.bx 3) (S.old 3) h asc) ?_;rintro e u ⟨t66,p66,d66,rfl,asg,ash,asi,g66,asj,asl,Xo,asn⟩;refine⟨_,_,I,asl,Xo,asn,λS=>?_⟩;have axZ:=Xo.size;have Ht:=(aI SG Xo);have N7:=(aY.ch BR Xo Z);have ac6:=(aY.ch Ik Xo Z);have ac7:=(aY.ch IC Xo Z);have aeJ:=(aY.ch Cm Xo Z);refine azq S 1 I (λu C72 S=>?_);have Xp:=(aI Ht C72);have WH:=(aY.ch N7 C72 Z);have adZ:=(aY.ch ac6 C72 Z);have Oz:=(aY.ch ac7 C72 Z);have OA:=(aY.ch aeJ C72 Z);have OB:=(aY.ch asi C72 Z);refine azy S λS=>adr S 5 [] [.mem 0 5] (λS=>?_);have S:=S.fl;have y83:=(Xp).size;have awd:=(S.bx 0).1;have awe:=(S.bx 1).1;have awf:=(S.bx 2).1;have awg:=(S.bx 3).1;refine azt S 3 I (Me (hll:=hll) S.E (S.bx 3) (S.old 3) h asj) ?_;rintro e u ⟨t83,p83,d83,rfl,aso,asq,asr,g83,asu,asv,TG,asw⟩;refine⟨_,_,I,asv,TG,asw,λS=>?_⟩;have ax0:=TG.size;have aeK:=(aI Xp TG);have ajN:=(aY.ch WH TG Z);have Ri:=(aY.ch adZ TG Z);have VB:=(aY.ch Oz TG Z);have VD:=(aY.ch OA TG Z);have ac8:=(aY.ch OB TG Z);refine azq S 1 I (λu C90 S=>?_);have akr:=(aI aeK C90);have akY:=(aY.ch ajN C90 Z);have akZ:=(aY.ch Ri C90 Z);have ak0:=(aY.ch VB C90 Z);have asx:=(aY.ch VD C90 Z);have ahq:=(aY.ch ac8 C90 Z);have ak1:=(aY.ch asr C90 Z);refine azE S λS=>adr S 1 [] [.mem 1 0] λS=>azq S 2 I (λu Xq S=>?_);have RS:=(aI akr Xq);have aeL:=(aY.ch akY Xq Z);have anH:=(aY.ch akZ Xq Z);have Rj:=(aY.ch ak0 Xq Z);have Rk:=(aY.ch asx Xq Z);have Rl:=(aY.ch ahq Xq Z);have ac9:=(aY.ch ak1 Xq Z);refine azC S 2 I (v := .agg (t18.cells++t27.cells++t38.cells++t51.cells++t66.cells++t83.cells).toArray) (λS=>?_);exact⟨⟨t18,t27,t38,t51,t66,t83⟩,_,_,I,⟨arV,arY,ar2,ar9,asg,aso⟩,⟨arW,arZ,ar4,asa,ash,asq⟩,(aAm (Sx.aY.le aeL Z) (aAm (Sx.aY.le anH Z) (aAm (Sx.aY.le Rj Z) (aAm (Sx.aY.le Rk Z) (aAm (Sx.aY.le Rl Z) (Sx.aY.le ac9 Z)))))),ahf g18 g27 g38 g51 g66 g83,asu,S.E,RS,S.kK 3⟩
