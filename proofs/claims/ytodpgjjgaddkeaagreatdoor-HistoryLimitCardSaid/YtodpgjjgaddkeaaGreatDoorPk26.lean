/- Walk of binenc.Rational. A region that draws its order, -/
import Derived.Test.YtodpgjjgaddkeaaGreatDoorPk25
set_option maxHeartbeats 3200000
set_option maxRecDepth 100000
set_option linter.unusedVariables false
set_option linter.unusedSimpArgs false
section
namespace Go.Proofs.YtodpgjjgaddkeaaGreatDoor
open Go.RowKit En
abbrev rv (n1:Bool)(a b':Nat)(g1 g2:Option Addr)(d1 d2:Nat):Value := .agg #[.bool n1,.slice g1 (Na.au a).length d1,.z,.slice g2 (Na.au b').length d2]
theorem ahi{l:List UInt8}{p:Nat}(hp:p≤l.length)(h:((((l.length-p:Nat):Int))==0)=true):p=l.length:=by
 rw[azU]at h; omega
theorem akN{c:UInt8}(h:decide ((1:Int)<(c.toNat:Int))=true):1<c.toNat:=by
 have:=azZ h; omega
theorem aez{nb:Bool}{a b:Nat}{c:UInt8}{t:List UInt8}(hc:(c.toNat==1)=nb) :
  ((FM (nb&&decide (0<a)) a b&&(gK (nb&&decide (0<a),a,b)==c::t))=(FM nb a b&&(gK (nb,a,b)==c::t))) ∧
  ((FM (nb&&decide (0<a)) a b&&(gK (nb&&decide (0<a),a,b)==c::t))=true→(nb&&decide (0<a))=nb):=by
 cases nb
 ·simp
 rcases aAt a with h | h
 ·subst h;have e:(gK (true&&decide (0<0),0,b)==c::t)=false:=by
   rw[az8];intro e;simp only[gK,Nat.lt_irrefl,decide_false,Bool.and_false]at e;have:=(List.cons.inj e).1;rw[←this]at hc;simp at hc
  have e2:FM true 0 b=false:=by unfold FM; rw[Na.jA]; rfl
  rw[e,e2,Bool.and_false,aA5];exact⟨rfl,fun h=>by cases h⟩
 rw[aAW h]; simp
set_option maxRecDepth 100000 in
set_option maxHeartbeats 3200000 in
theorem O6(v:Value)(l:List UInt8)(i:Int)(w:World)(hv:bJ w v l)(hl:l.length≤60000000) :
  Calls Tryz.prog 217 #[v,.i i] w (YM w (IU l i)):=by
 obtain⟨a0,c0,rfl⟩:=hv.shape;refine aze Tryz.func217 Tryz.ntmps217 fun S=>azd S (fun u b2 E3 hb4 S=>?_);have hlt0:=(S.bx 0).1;by_cases hbad:i<0∨(l.length:Int)<i
 ·refine Sx.lU S (Iu _ l i _ (hv.below S.E) hbad) fun S=>azn S fun S=>azf S 0 rfl fun u C9 S=>Sx.zre S (fun S=>?_);refine Sx.rJ S 0 Tryz.results217 rfl (v:=nU) (u := .i 0) (z := .i 2) ?_;rw[OW hbad];exact kS S.E
 obtain⟨p,rfl⟩:∃p:Nat,i=p:=⟨i.toNat,by omega⟩;have hp:p≤l.length:=by omega
 have hsz0:=S.E.size;refine azo S (Oz _ l p _ (hv.below S.E) hp) ?_;rintro e u ⟨b,rfl,hr,Uw,hb⟩;have hbw:w.heap.size≤b:=by omega
 refine⟨_,rfl,Uw,fun S=>?_⟩;refine azu S fun S=>azp S ((RY _ l b p _ hr.row hr.c0 hr.c1 hr.hp).mono fun e w' ⟨h,n,hn⟩=>⟨h,(show Ext _ w' from hn▸below_drewN (az5 _ _) n)⟩) fun u E15 S=>azb S ((((l.length-p:Nat):Int))==0) (fun hc16 S=>?_) (fun hc16 S=>?_)
 ·refine azf S 0 rfl fun u C18 S=>Sx.zre S (fun S=>?_);refine Sx.rJ S 0 Tryz.results217 rfl (v:=nU) (u := .i 0) (z := .i 4) ?_;rw[OX (p:=p) (ahi hp hc16)];exact kS S.E
 have hpl:p<l.length:=Nat.lt_of_le_of_ne hp fun e=>by rw[e,aBH]at hc16; cases hc16
 obtain⟨c,hc⟩:∃c,l[p]?=some c:=⟨_,List.getElem?_eq_getElem hpl⟩;have hdc:(l.drop p).take 1=[c]:=by rw[aAR hpl]; rw[List.getElem?_eq_getElem hpl]at hc; rw[azR hc]; rfl
 have hX:Bx _ b2 #[.z,.sn,.z,.sn]:=S.lu 0;refine azl S fun S=>Sx.KZ S (some 32) Ext.rfl' S.E (fun p hp=>by cases hp) (next_any l b p 1 _ _ ((Rd.ext hr E15)) (by omega) (by omega)) ?_;rintro e u ⟨v3,rfl,hr3,hch,hv3,-⟩;rw[hdc]at hv3;obtain⟨b3,o3,cp3,rfl,hb3,hl3,hm3,hc3⟩:=dN hv3 rfl (by simp);have hc4:=hc3 0 (by simp);have hXc:=hX.ch hch (by omega);refine⟨_,_,rfl,aBA S.E (hch.below hbw S.E.size),hXc,fun ac S=>?_⟩;refine Sx.UG S (fun S=>?_);have S:=S.view hb3 (akL hc4) (fun p hp e=>by rw[aAb.1 hp]at e; subst e; exact ahh hXc hc4);refine adr S 5 [] [.idx 0 1,.mem 1 0] (hk:=⟨(by decide),trivial⟩) fun S=>azb S (decide (1<(c.toNat:Int))) (fun hc22 S=>?_) (fun hc22 S=>?_)
 ·refine azf S 0 rfl fun u Ny S=>Sx.zre S (fun S=>?_);refine Sx.rJ S 0 Tryz.results217 rfl (v:=nU) (u := .i 0) (z := .i 3) ?_;rw[IV hc (akN hc22)];exact kS S.E
 have hs:¬1<c.toNat:=by have:=az4 hc22; omega
 have hE:(∃er,sZ 4096 (l.drop (p+1)) = .error er)∨∃r,sZ 4096 (l.drop (p+1)) = .ok r:=by cases sZ 4096 (l.drop (p+1))with | error er=>exact .inl ⟨er,rfl⟩ | ok r=>exact .inr ⟨r,rfl⟩
 rcases hE with hE | hE
 ·obtain⟨er,hu⟩:=hE;have he:=OZ hu;have HN:=ug l b (p+1) _ 4096 _ hr3 (by omega) (by omega);rw[hu]at HN;have hX:Bx _ b2 #[.z,.sn,.z,.sn]:=S.lu 0;refine azl S fun S=>Sx.KZ S (some 40) Ext.rfl' S.E (fun p hp=>by cases hp) (HN) ?_;rintro e u ⟨q,hr4,hch,rfl⟩;have hXc:=hX.ch hch (by omega);refine⟨_,_,rfl,aBA S.E (hch.below hbw S.E.size),hXc,fun ac S=>?_⟩;refine Sx.UG S fun S=>adr S 7 [] [.re 44 (.bool ((er:Int) != 0)) (.bool true)] (hk:=⟨(azT Value.bool he),trivial⟩) fun S=>azn S fun S=>azf S 0 rfl (fun u C29 S=>?_);have S:=S.fl;refine Sx.zre S (fun S=>?_);refine Sx.rJ S 0 Tryz.results217 rfl (v:=nU) (u := .i 0) (z := .i er) ?_;rw[WU hc hs hu];exact kS S.E
 obtain⟨⟨s1,k1⟩,hu⟩:=hE;obtain⟨arE,axG,axH⟩:=YN hu;rw[aBF]at arE;have HN:=ug l b (p+1) _ 4096 _ hr3 (by omega) (by omega);rw[hu]at HN;have hX:Bx _ b2 #[.z,.sn,.z,.sn]:=S.lu 0;refine azl S fun S=>Sx.KZ S (some 40) Ext.rfl' S.E (fun p hp=>by cases hp) (HN) ?_;rintro e u ⟨q1,hr4,hch,hq1,x4,rfl,hx1⟩;have hXc:=hX.ch hch (by omega);refine⟨_,_,rfl,aBA S.E (hch.below hbw S.E.size),hXc,fun ac S=>?_⟩;refine Sx.UG S (fun S=>?_);subst hq1;refine azu S (fun S=>?_);have hE:(∃er,sZ 4096 (l.drop (p+1+k1)) = .error er)∨∃r,sZ 4096 (l.drop (p+1+k1)) = .ok r:=by cases sZ 4096 (l.drop (p+1+k1))with | error er=>exact .inl ⟨er,rfl⟩ | ok r=>exact .inr ⟨r,rfl⟩
 rcases hE with hE | hE
 ·obtain⟨er,hu2⟩:=hE;have he:=OZ hu2;have HN:=ug l b (p+1+k1) _ 4096 _ hr4 (by omega) (by omega);rw[hu2]at HN;have hX:Bx _ b2 #[.z,.sn,.z,.sn]:=S.lu 0;refine azl S fun S=>Sx.KZ S (some 49) Ext.rfl' S.E (fun p hp=>by cases hp) (HN) ?_;rintro e u ⟨q,hr4,hch,rfl⟩;have hXc:=hX.ch hch (by omega);refine⟨_,_,rfl,aBA S.E (hch.below hbw S.E.size),hXc,fun ac S=>?_⟩;refine Sx.UG S fun S=>adr S 7 [] [.re 53 (.bool ((er:Int) != 0)) (.bool true)] (hk:=⟨(azT Value.bool he),trivial⟩) fun S=>azn S fun S=>azf S 0 rfl fun u JJ S=>Sx.zre S (fun S=>?_);refine Sx.rJ S 0 Tryz.results217 rfl (v:=nU) (u := .i 0) (z := .i er) ?_;rw[WV hc hs hu hu2];exact kS S.E
 obtain⟨⟨s2,k2⟩,hu2⟩:=hE;obtain⟨arF,axI,axJ⟩:=YN hu2;rw[aBF]at arF;have HN:=ug l b (p+1+k1) _ 4096 _ hr4 (by omega) (by omega);rw[hu2]at HN;have hX:Bx _ b2 #[.z,.sn,.z,.sn]:=S.lu 0;refine azl S fun S=>Sx.KZ S (some 49) Ext.rfl' S.E (fun p hp=>by cases hp) (HN) ?_;rintro e u ⟨q2,hr5,hch,hq2,x5,rfl,hx2⟩;have hx1:=aV (acn hx1 hch hr3.lt);have hXc:=hX.ch hch (by omega);refine⟨_,_,rfl,aBA S.E (hch.below hbw S.E.size),hXc,fun ac S=>?_⟩;refine Sx.UG S fun S=>azu S (fun S=>?_);obtain⟨nb,hnb⟩:∃nb,(c.toNat==1)=nb:=⟨_,rfl⟩;obtain⟨a,ha⟩:∃a,Nb.val s1=a:=⟨_,rfl⟩;obtain⟨b',hb'⟩:∃b',Nb.val s2=b':=⟨_,rfl⟩;obtain⟨n1,hn1⟩:∃n1,(nb&&decide (0<a))=n1:=⟨_,rfl⟩;have hsl:(l.take q2).drop p=c::((l.take q2).drop (p+1)):=by rw[aAR (by simp; omega)]; rw[List.getElem?_eq_getElem hpl]at hc; rw[aCi,azR hc]
 have hcond:=aez (nb:=nb) (a:=a) (b:=b') (c:=c) (t:=(l.take q2).drop (p+1)) hnb;rw[←hsl,hn1]at hcond;rw[OY hc hs hu hu2,hnb,ha,hb',←hq2,←hcond.1];have hla:(Na.au a).length≤4096:=by have:=xW s1; rw[ha]at this; omega
 have hlb:(Na.au b').length≤4096:=by have:=xW s2; rw[hb']at this; omega
 have hn0:n1=true→0<a:=fun h=>by rw[←hn1]at h; simp only[azY,azW]at h; exact h.2
 have hz1:=S.E.size;have hl1:=(S.bx 0).1;refine adr S 3 [] [.re 57 (.bool ((c.toNat:Int)==1)) (.bool nb)] (hk:=⟨(azT Value.bool (by rw[←hnb,aAV,azU,azU]; omega)),trivial⟩) fun S=>azo S (YS (hx1) (by omega) ha hn1) ?_;rintro e u ⟨g1,d1,rfl,ht1,hf1,E40⟩;refine⟨_,rfl,E40,fun S=>?_⟩;have hz2:=S.E.size;have hl2:=(S.bx 0).1;refine azo S (YS (n1:=false) ((((aV hx2)).below E40)) (by omega) hb' (aA5 _)) ?_;rintro e u ⟨g2,d2,rfl,ht2,hf2,KQ⟩;refine⟨_,rfl,KQ,fun S=>?_⟩;refine azd S fun u b42 E43 axK S=>azf S 0 rfl (fun u C45 S=>?_);have E46:=azg (Ext.trans' E40 (Ext.trans' KQ E43)) C45 (by have:=(Ext.trans' E40 KQ).size; omega);have E47:=azg (Ext.trans' KQ E43) C45 (by have:=KQ.size; omega);have QK:=azg E43 C45;have hR:=((Rd.ext hr5 E46));have hT1:=((ht1.below E47));have hT2:=((ht2.below QK));have hV:=fE (hv.below S.E);have hcap:=Sx.kN hV;have hq5:q2≤l.length:=by omega
 have hSL:=eF (Sx.qB hV (l:=p) (h':=q2) (m:=c0) (by omega) hq5 (by omega) (azJ _));rw[←List.drop_take]at hSL;obtain⟨qb,hqb⟩:∃z,FM n1 a b'=z:=⟨_,rfl⟩;obtain⟨sm,hsm⟩:∃z,(gK (n1,a,b')==(l.take q2).drop p)=z:=⟨_,rfl⟩;cases qb
 ·have S:=S.fl;refine Sx.zd2 S Tryz.f217 16 (fun S iz=>?_);have S:=S.sub [(0,.slice a0 l.length c0),(1,.i p),(4,.q b2 0),(7,.q b 0),(12,.q b42 0)];refine Sx.aew S 17 [Rel.is (rv n1 a b' g1 g2 d1 d2),Rel.is (.z),Rel.is (.bool true),Rel.is (.bool true),Rel.top,Rel.top,Rel.top,Rel.top,Rel.top,Rel.top,Rel.top,Rel.top,Rel.top,Rel.top,Rel.top,Rel.top,Rel.is (.bool true)] 16 79 (.bool true) ⟨Rel.aG _,Rel.aG _,Rel.aG _,Rel.aG _,fun _ _ _ _ k=>k,fun _ _ _ _ k=>k,fun _ _ _ _ k=>k,fun _ _ _ _ k=>k,fun _ _ _ _ k=>k,fun _ _ _ _ k=>k,fun _ _ _ _ k=>k,fun _ _ _ _ k=>k,fun _ _ _ _ k=>k,fun _ _ _ _ k=>k,fun _ _ _ _ k=>k,fun _ _ _ _ k=>k,Rel.aG _,trivial⟩ ⟨fun ρ u1 hs ho hC hD=>Sx.dld ((ho 12 rfl).trans (S.s.ev rfl)) (((S.bx 0).ext hC).range 0 4 rfl),
   fun ρ u1 hs ho hC hD=>Sx.dc (T:=Rel.is (.z)) hs [(63,rv n1 a b' g1 g2 d1 d2)] ⟨hD.1 rfl,trivial⟩ ((((yT n1 _ _ a b' _ (hT1.below hC) (hT2.below hC) (by omega) (by omega) hn0).mono fun e w2 h=>⟨h.1.trans (by rw[hqb]),h.2⟩:Calls _ _ _ _ fun e w2=>e = .returned (.z)∧Ext _ w2)).mono fun e w2 h=>⟨_,h.1,h.2,rfl⟩),
   fun ρ u1 hs ho hC hD=>azi hs [(64,.z)] ⟨hD.1 rfl,trivial⟩,
   fun ρ u1 hs ho hC hD=>azi hs [(65,.bool true)] ⟨hD.1 rfl,trivial⟩,
   fun ρ u1 hs ho hC hD=>⟨fun hn=>absurd ((hD.1 rfl).symm.trans hn) (by simp),fun _=>trivial⟩,
   fun ρ u1 hs ho hC hD=>⟨fun hn=>absurd ((hD.2.1 rfl).symm.trans hn) (by simp),fun _=>trivial⟩,
   fun ρ u1 hs ho hC hD=>⟨fun hn=>absurd ((hD.1 rfl).symm.trans hn) (by simp),fun _=>trivial⟩,
   fun ρ u1 hs ho hC hD=>⟨fun hn=>absurd ((hD.1 rfl).symm.trans hn) (by simp),fun _=>trivial⟩,
   fun ρ u1 hs ho hC hD=>⟨fun hn=>absurd ((hD.1 rfl).symm.trans hn) (by simp),fun _=>trivial⟩,
   fun ρ u1 hs ho hC hD=>⟨fun hn=>absurd ((hD.2.1 rfl).symm.trans hn) (by simp),fun _=>trivial⟩,
   fun ρ u1 hs ho hC hD=>⟨fun hn=>absurd ((hD.2.1 rfl).symm.trans hn) (by simp),fun _=>trivial⟩,
   fun ρ u1 hs ho hC hD=>⟨fun hn=>absurd ((hD.2.1 rfl).symm.trans hn) (by simp),fun _=>trivial⟩,
   fun ρ u1 hs ho hC hD=>⟨fun hn=>absurd ((hD.2.1 rfl).symm.trans hn) (by simp),fun _=>trivial⟩,
   fun ρ u1 hs ho hC hD=>⟨fun hn=>absurd ((hD.2.2.2.1 rfl).symm.trans hn) (by simp),fun _=>trivial⟩,
   fun ρ u1 hs ho hC hD=>⟨fun hn=>absurd ((hD.2.2.2.1 rfl).symm.trans hn) (by simp),fun _=>trivial⟩,
   fun ρ u1 hs ho hC hD=>⟨fun hn=>absurd ((hD.2.1 rfl).symm.trans hn) (by simp),fun _=>trivial⟩,
   fun ρ u1 hs ho hC hD=>azi hs [(66,.bool true),(78,ρ (.tmp 78))] ⟨hD.1 rfl,rfl,trivial⟩,trivial⟩ (fun ac u E51 S=>?_) rfl
  refine Sx.zdF S 17 fun S=>azn S fun S=>azf S 1 rfl fun u C53 S=>Sx.zre S (fun S=>?_);refine Sx.rJ S 1 Tryz.results217 rfl (v:=nU) (u := .i 0) (z := .i 3) ?_;rw[hqb,aA5,azG (by decide)];exact kS S.E
 have S:=S.fl;refine Sx.zd2 S Tryz.f217 16 (fun S iz=>?_);have S:=S.sub [(0,.slice a0 l.length c0),(1,.i p),(4,.q b2 0),(7,.q b 0),(12,.q b42 0)];refine Sx.aew S 17 [Rel.is (rv n1 a b' g1 g2 d1 d2),Rel.is (.bool true),Rel.is (.z),Rel.is (.z),Rel.is (rv n1 a b' g1 g2 d1 d2),(fun v w1=>bJ w1 v (gK (n1,a,b'))),Rel.is (.slice a0 l.length c0),Rel.is (.i p),Rel.is (.q b 0),Rel.is (.q b 0),Rel.is (.q b 0),Rel.is (.q b 1),Rel.is (.i q2),(fun v w1=>bJ w1 v ((l.take q2).drop p)),Rel.is (.bool sm),Rel.is (.bool (!sm)),Rel.is (.bool (!sm))] 16 79 (.bool (!sm)) ⟨Rel.aG _,Rel.aG _,Rel.aG _,Rel.aG _,Rel.aG _,fun _ _ _ k h=>h.below k,Rel.aG _,Rel.aG _,Rel.aG _,Rel.aG _,Rel.aG _,Rel.aG _,Rel.aG _,fun _ _ _ k h=>h.below k,Rel.aG _,Rel.aG _,Rel.aG _,trivial⟩ ⟨fun ρ u1 hs ho hC hD=>Sx.dld ((ho 12 rfl).trans (S.s.ev rfl)) (((S.bx 0).ext hC).range 0 4 rfl),
  fun ρ u1 hs ho hC hD=>Sx.dc (T:=Rel.is (.bool true)) hs [(63,rv n1 a b' g1 g2 d1 d2)] ⟨hD.1 rfl,trivial⟩ ((((yT n1 _ _ a b' _ (hT1.below hC) (hT2.below hC) (by omega) (by omega) hn0).mono fun e w2 h=>⟨h.1.trans (by rw[hqb]),h.2⟩:Calls _ _ _ _ fun e w2=>e = .returned (.bool true)∧Ext _ w2)).mono fun e w2 h=>⟨_,h.1,h.2,rfl⟩),
  fun ρ u1 hs ho hC hD=>azi hs [(64,.bool true)] ⟨hD.1 rfl,trivial⟩,
  fun ρ u1 hs ho hC hD=>azi hs [(65,.z)] ⟨hD.1 rfl,trivial⟩,
  fun ρ u1 hs ho hC hD=>⟨fun _=>Sx.dld ((ho 12 rfl).trans (S.s.ev rfl)) (((S.bx 0).ext hC).range 0 4 rfl),fun hn=>absurd (hD.1 rfl) hn⟩,
  fun ρ u1 hs ho hC hD=>⟨fun _=>Sx.dc (T:=fun v w1=>bJ w1 v (gK (n1,a,b'))) hs [(67,rv n1 a b' g1 g2 d1 d2)] ⟨hD.1 rfl,trivial⟩ ((by have h:=vI n1 false _ _ _ _ u1 (hT1.below hC) (hT2.below hC) (by omega) (by omega); rw[Na.aB,Na.aB,O4 hqb]at h; exact h.mono fun e w2 ⟨v,h1,h2,h3⟩=>⟨v,h1,h3,aV h2⟩)),fun hn=>absurd (hD.2.1 rfl) hn⟩,
  fun ρ u1 hs ho hC hD=>⟨fun _=>azi hs [(0,.slice a0 l.length c0)] ⟨(ho 0 rfl).trans (S.s.ev rfl),trivial⟩,fun hn=>absurd (hD.1 rfl) hn⟩,
  fun ρ u1 hs ho hC hD=>⟨fun _=>azi hs [(1,.i p)] ⟨(ho 1 rfl).trans (S.s.ev rfl),trivial⟩,fun hn=>absurd (hD.1 rfl) hn⟩,
  fun ρ u1 hs ho hC hD=>⟨fun _=>azi hs [(7,.q b 0)] ⟨(ho 7 rfl).trans (S.s.ev rfl),trivial⟩,fun hn=>absurd (hD.1 rfl) hn⟩,
  fun ρ u1 hs ho hC hD=>⟨fun _=>azi hs [(71,.q b 0)] ⟨hD.1 rfl,trivial⟩,fun hn=>absurd (hD.2.1 rfl) hn⟩,
  fun ρ u1 hs ho hC hD=>⟨fun _=>azi hs [(72,.q b 0)] ⟨hD.1 rfl,trivial⟩,fun hn=>absurd (hD.2.1 rfl) hn⟩,
  fun ρ u1 hs ho hC hD=>⟨fun _=>azi hs [(73,.q b 0)] ⟨hD.1 rfl,trivial⟩,fun hn=>absurd (hD.2.1 rfl) hn⟩,
  fun ρ u1 hs ho hC hD=>⟨fun _=>Sx.dld (hD.1 rfl) (akL ((hC.cell (p:=⟨b,1,none⟩) hR.lt).trans hR.c1)),fun hn=>absurd (hD.2.1 rfl) hn⟩,
  fun ρ u1 hs ho hC hD=>⟨fun _=>Sx.aey (T:=fun v w1=>bJ w1 v ((l.take q2).drop p)) (hD.1 rfl) (hD.2.1 rfl) (hD.2.2.1 rfl) (by omega) (by omega) (hSL.below hC),fun hn=>absurd (hD.2.2.2.1 rfl) hn⟩,
  fun ρ u1 hs ho hC hD=>⟨fun _=>Sx.dc (T:=Rel.is (.bool sm)) hs [(68,ρ (.tmp 68)),(76,ρ (.tmp 76))] ⟨rfl,rfl,trivial⟩ ((((kR _ _ _ _ _ (hD.1 rfl) (hD.2.1 rfl)).mono fun e w2 h=>⟨h.1.trans (by rw[hsm]),h.2▸Ext.rfl'⟩:Calls _ _ _ _ fun e w2=>e = .returned (.bool sm)∧Ext _ w2)).mono fun e w2 h=>⟨_,h.1,h.2,rfl⟩),fun hn=>absurd (hD.2.2.2.1 rfl) hn⟩,
  fun ρ u1 hs ho hC hD=>⟨fun _=>azi hs [(77,.bool sm)] ⟨hD.1 rfl,trivial⟩,fun hn=>absurd (hD.2.1 rfl) hn⟩,
  fun ρ u1 hs ho hC hD=>azi hs [(66,.z),(78,.bool (!sm))] ⟨hD.1 rfl,hD.2.1 rfl,trivial⟩,trivial⟩ (fun ac u E54 S=>?_) rfl
 refine Sx.zdF S 17 fun S=>azb S (!sm) (fun akO S=>?_) (fun akO S=>?_)
 ·refine azf S 1 rfl (fun u C57 S=>?_);have S:=S.fl;refine Sx.zre S (fun S=>?_);refine Sx.rJ S 1 Tryz.results217 rfl (v:=nU) (u := .i 0) (z := .i 3) ?_;obtain rfl:sm=false:=by simpa using akO
  rw[hsm,Bool.and_false,azG (by decide)];exact kS S.E
 have hRf:=((Rd.ext hr5 (Ext.trans' E46 E54)));have hgb:b42≠b2:=fun e=>by have h:=S.apart; rw[aAu,aBN]at h; exact h.1 (by simp[e])
 have hbb:b≠b2:=by omega
 have S:=S.fl;refine Sx.zd2 S Tryz.f217 18 (fun S iz=>?_);have S:=S.sub [(4,.q b2 0),(7,.q b 0),(12,.q b42 0)];refine Sx.akM S 9 6 (kb:=1) rfl [Rel.is (rv n1 a b' g1 g2 d1 d2),Rel.is (.q b 0),Rel.is (.q b 0),Rel.is (.q b 0),Rel.is (.q b 1),Rel.is (.i q2),fun _ u=>Bx u b2 (List.toArray [.bool n1,.slice g1 ((Na.au a).length) d1,.z,.slice g2 ((Na.au b').length) d2]),Rel.is (.i q2),Rel.is (.i 0)] [(7,5,.i q2),(8,6,.i 0)] ⟨Rel.aG _,fun _=>Rel.aG _,Rel.aG _,fun _=>Rel.aG _,Rel.aG _,fun _=>Rel.aG _,Rel.aG _,fun _=>Rel.aG _,Rel.aG _,fun _=>Rel.aG _,Rel.aG _,fun _=>Rel.aG _,fun _ _ _ h x=>x.ext h,fun h=>absurd rfl h,Rel.aG _,fun _=>Rel.aG _,Rel.aG _,fun _=>Rel.aG _,trivial⟩ ⟨fun ρ u1 hs ho hC hD=>Sx.dld ((ho 12 rfl).trans (S.s.ev rfl)) (((S.bx 0).ch hC.1 hgb).range 0 4 rfl),fun ρ u1 hs ho hC hD=>azi hs [(7,.q b 0)] ⟨((ho 7 rfl).trans (S.s.ev rfl)),trivial⟩,fun ρ u1 hs ho hC hD=>azi hs [(82,.q b 0)] ⟨(hD.1 rfl),trivial⟩,fun ρ u1 hs ho hC hD=>azi hs [(83,.q b 0)] ⟨(hD.1 rfl),trivial⟩,fun ρ u1 hs ho hC hD=>azi hs [(84,.q b 0)] ⟨(hD.1 rfl),trivial⟩,fun ρ u1 hs ho hC hD=>Sx.dld (hD.1 rfl) (akL ((hC.1.cell (p:=⟨b,1,none⟩) hRf.lt hbb).trans hRf.c1)),fun ρ u1 hs ho hC hD=>Sx.aex ((ho 4 rfl).trans (S.s.ev rfl)) (hD.1 rfl) (hC.2 rfl) rfl,fun ρ u1 hs ho hC hD=>azi hs [(86,.i q2)] ⟨(hD.1 rfl),trivial⟩,fun ρ u1 hs ho hC hD=>azi hs [] trivial,trivial⟩ (fun ac u hCf S=>?_) (by simp) rfl;refine Sx.zdF S 9 fun S=>Sx.zre S (fun S=>?_);refine Sx.rJ S 1 Tryz.results217 rfl (v:=rv n1 a b' g1 g2 d1 d2) (u := .i q2) (z := .i 0) ?_;obtain rfl:sm=true:=by simpa using akO
 have hnn:=hcond.2 (by rw[hqb,hsm]; rfl);rw[hqb,hsm,Bool.and_self,azI rfl,←hnn];exact⟨_,rfl,⟨_,_,rfl,(((ht1.below (Ext.trans' E47 E54)))).ch hCf fun _=>hf1.off (by omega),(((ht2.below (Ext.trans' QK E54)))).ch hCf fun _=>hf2.off (by omega),hf1.mono (by omega),hf2.mono (by omega)⟩,S.E⟩
end Go.Proofs.YtodpgjjgaddkeaaGreatDoor
namespace Go.Sx
open Go.Proofs.YtodpgjjgaddkeaaGreatDoor Go.RowKit Go.Rel
theorem SN{P:Program}{ops ops':Array Oper}{Q:Exit→Act→World→Prop}{p q:Nat}{o:Oper}(ho':ops'[p]?=some o)
  (hK:∀(K:Act→World→Prop) a w,wpOp P ops (ES Q) p K a w→∃v,Yields P ops' o v a∧K (a.put o.dst v) w) (hs:Region.noSelect ops'=true) (hpq:p≠q)
  (hap:∀j oj,ops'[j]?=some oj→j≠p→j≠q→(∀e∈oj.after,Region.binds .any e=true→e.on≠p)→o.apart ops' oj=true)
  (hop:∀i K a w,wpOp P ops (ES Q) i K a w→wpOp P ops' (ES Q) i K a w)
  (hA:∀f (L:Array Bool) a w,L.getD p false=true→wpAny P .any ops (ES Q) f L a w→wpAny P .any ops' (ES Q) f L a w)
  (hR:∀L:Array Bool,L.getD q true=false→Region.ready .any ops L=Region.ready .any ops' L∧p∉Region.ready .any ops' L)
  (hP:∀L:Array Bool,L.getD q false=true→L.getD p true=false→p∈Region.ready .any ops L∧p∈Region.ready .any ops' L) :
  ∀(f:Nat) (L:Array Bool) (a:Act) (w:World),L.getD q true=false→L.getD p true=false→wpAny P .any ops (ES Q) f L a w→wpAny P .any ops' (ES Q) f L a w
 | 0,L,a,w,hq,hp,h=>⟨(hR L hq).1▸h.1,h.2⟩
 | f+1,L,a,w,hq,hp,h=>by
  refine⟨fun h0=>h.1 ((hR L hq).1.trans h0),fun i hi=>?_⟩
  have h2:=hop i _ a w (h.2 i ((hR L hq).1▸hi))
  have hip:i≠p:=fun e=>(hR L hq).2 (e▸hi)
  have hne:∀(j:Nat),j≠i→∀d,(L.setIfInBounds i true).getD j d=L.getD j d:=fun j hj d=>by
   simp[Array.getD_eq_getD_getElem?,Array.getElem?_setIfInBounds_ne (Ne.symm hj)]
  by_cases hiq:i=q
  ·subst hiq
   refine wpOp_mono (fun a' w' h'=>?_) h2
   have hlt:i<L.size:=by
    by_cases h:i<L.size
    ·exact h
    ·rw[Array.getD_eq_getD_getElem?,Array.getElem?_eq_none (by omega)]at hq; cases hq
   have hq':(L.setIfInBounds i true).getD i false=true:=by simp[Array.getD_eq_getD_getElem?,hlt]
   have hp':(L.setIfInBounds i true).getD p true=false:=by rw[hne p (Ne.symm hip)]; exact hp
   obtain⟨r1,r2⟩:=hP _ hq' hp'
   cases f with
   | zero=>rw[h'.1]at r1; cases r1
   | succ g =>
    obtain⟨v,hy,h3⟩:=hK _ a' w' (h'.2 p r1)
    have hltp:p<L.size:=by
     by_cases h:p<L.size
     ·exact h
     ·rw[Array.getD_eq_getD_getElem?,Array.getElem?_eq_none (by omega)]at hp; cases hp
    refine wpAny_first ho' (Region.noSelect_spec hs) (fun c a w h=>h.elim) g _ a' w' (fun j oj hj hjp hun hno=>hap j oj hj hjp (fun e=>?_) hno) r2 hy (hA _ _ _ _ (by simp[Array.getD_eq_getD_getElem?,hltp]) h3)
    subst e
    simp[Array.getD_eq_getD_getElem?,hlt]at hun
  ·refine wpOp_mono (fun a' w' h'=>SN ho' hK hs hpq hap hop hA hR hP f _ a' w' ?_ ?_ h') h2
   ·rw[hne q (Ne.symm hiq)]; exact hq
   ·rw[hne p (Ne.symm hip)]; exact hp
def I4(p q t:Nat)(os:List Oper):Bool:=Region.noSelect os.toArray&&p != q&&p != t&&decide (q<os.length)&&(sD os.toArray p==[q])&&(sD os.toArray t).contains q &&
 (match os[p]? with | some o=>o.guard.isNone&&(match o.op with | .extract _ _=>true | _=>false)&&(List.range os.length).all (fun j=>j==p||j==q||(sD os.toArray j).contains p||(match os[j]? with | some oj=>o.apart os.toArray oj | none=>true)) | none=>false)
theorem uh{p t:Nat}{os:List Oper}{j q:Nat}:q∈sD (kG [p] t os).toArray j↔q∈sD os.toArray j∨(j=t∧q=p∧j<os.length):=by
 unfold sD;rw[List.getElem?_toArray,List.getElem?_toArray,tu];by_cases h:j=t
 ·subst h;rw[azI rfl];cases ho:os[j]? with
  | none=>have:=List.getElem?_eq_none_iff.1 ho; simp; omega
  | some o =>
   have hl:=(List.getElem?_eq_some_iff.1 ho).1;simp only[aAv,Array.toList_append,List.filterMap_append,aAl,aAu,aAQ];refine or_congr Iff.rfl ?_;simp[Region.binds,hl,eq_comm]
 rw[azG h]; simp[h]
theorem ahj{L:Array Bool}{q:Nat}(h:L.getD q true=false):L.getD q false=false:=by
 by_cases hl:q<L.size
 ·rw[←ado hl true false]; exact h
 rw[Array.getD_eq_getD_getElem?,Array.getElem?_eq_none (by omega)]at h; cases h
theorem aa6{ops ops':Array Oper}{L:Array Bool}(hsz:ops.size=ops'.size)(h:∀j,j∈Region.ready .any ops L↔j∈Region.ready .any ops' L):Region.ready .any ops L=Region.ready .any ops' L:=by
 unfold Region.ready at *;rw[hsz]at *;refine List.filter_congr fun x hx=>?_;have:=h x;simp only[List.mem_filter,hx,true_and]at this;exact aAV.2 this
theorem SQ{P:Program}{tt:Value}{ix:Nat}:(∃v,∀w,(Instr.extract tt ix).run P w = .ok v w)∨∀w,∃x,(Instr.extract tt ix).run P w = .halt x w:=by
 unfold Instr.extract;split
 ·split
  ·exact .inl ⟨_,fun w=>rfl⟩
  exact .inr fun w=>⟨_,rfl⟩
 exact .inr fun w=>⟨_,rfl⟩
theorem WX{P:Program}{Q:Exit→Act→World→Prop}{a:Act}{w:World}{os:List Oper}(p q t:Nat)(h:wpAny P .any (kG [p] t os).toArray (ES Q) os.length (Array.replicate os.length false) a w)
  (hb:I4 p q t os=true:=by kernel_rfl):wpAny P .any os.toArray (ES Q) os.length (Array.replicate os.length false) a w:=by
 unfold I4 at hb;simp only[azY,bne_iff_ne,ne_eq,azW,azU]at hb;obtain⟨⟨⟨⟨⟨⟨hs,hpq⟩,hpt⟩,hql⟩,hbp⟩,hbt⟩,hm⟩:=hb;have hbt:q∈sD os.toArray t:=by simpa using hbt
 split at hm
 ·rename_i o ho;simp only[azY,aAh,List.mem_range,aBu,azU]at hm;obtain⟨⟨hg,hx⟩,hap⟩:=hm;have hg:o.guard=none:=by simpa using hg
  obtain⟨tt,ix,hop⟩:∃tt ix,o.op = .extract tt ix:=by split at hx; exact⟨_,_,by assumption⟩; cases hx
  have hpl:=(List.getElem?_eq_some_iff.1 ho).1;have ho':os.toArray[p]?=some o:=by simpa using ho
  have hop2:(kG [p] t os).toArray[p]?=some o:=by rw[List.getElem?_toArray,tu,azG hpt]; exact ho
  have hal:=Vx [p] t os;have hsz:(kG [p] t os).toArray.size=os.toArray.size:=hal.1;have hrep:∀j,j<os.length→∀d,(Array.replicate os.length false).getD j d=false:=fun j hj d=>by simp[Array.getD_eq_getD_getElem?,hj]
  have key:=SN (P:=P) (Q:=Q) (ops:=(kG [p] t os).toArray) (ops':=os.toArray) (p:=p) (q:=q) ho' (fun K a w h=>?_) hs hpq (fun j oj hj h1 h2 h3=>?_) (fun i K a w h=>hal.wpOp (fun _ _ h=>h) h) (fun f L a w hL h=>?_) (fun L hL=>?_) (fun L hL hL2=>?_) os.length (Array.replicate os.length false) a w (hrep q hql _) (hrep p hpl _) h
  ·simpa using key
  ·unfold wpOp at h;rw[hop2]at h;simp only at h;rw[azI (by simp[Region.wanted,hg])]at h;rcases h with h | ⟨_,h⟩
   ·have he:∀w,(execOp a.eval o).run P w=match (Instr.extract (a.eval tt) ix).run P w with | .ok v w => .ok (.value v) w | .halt x w => .halt x w:=fun w=>by unfold execOp; simp only[hop]; generalize Instr.extract (a.eval tt) ix=m; simp[go_sem]; cases Sem.run P m w<;>rfl
    rcases SQ (P:=P) (tt:=a.eval tt) (ix:=ix)with ⟨v,hv⟩ | hb
    ·have hrun:∀w,(execOp a.eval o).run P w = .ok (.value v) w:=fun w=>by rw[he,hv]
     exact⟨v,.inl ⟨by simp[Region.wanted,hg],hrun⟩,by unfold Oper.wp at h; rw[hrun w]at h; exact h⟩
    obtain⟨x,hx⟩:=hb w;unfold Oper.wp at h;rw[he,hx]at h;cases x<;>simp only[Oper.upon]at h;exact h.elim
   exact(tC h).elim
  ·have hj':os[j]?=some oj:=by simpa using hj
   have:=hap j (List.getElem?_eq_some_iff.1 hj').1;rw[hj']at this;rcases this with ((h4 | h4) | h4) | h4
   ·exact absurd h4 h1
   ·exact absurd h4 h2
   ·obtain⟨e,he,hbe,h5⟩:=(l7 hj).1 (by simpa using h4);exact absurd h5 (h3 e he hbe)
   exact h4
  ·refine Et (F:=[p]) hal (fun i o1 o2 h1 h2 e he hbe=>?_) (fun i o1 o2 h1 h2 e he hbe=>?_) f L a w (fun i hi=>by rw[aAb.1 hi]; exact hL) h
   ·rcases uh.1 ((l7 h1).2 ⟨e,he,hbe,rfl⟩)with h3 | h3
    ·exact .inr ((l7 h2).1 h3)
    exact .inl (by simp[h3.2.1])
   exact(l7 h1).1 (uh.2 (.inl ((l7 h2).2 ⟨e,he,hbe,rfl⟩)))
  ·have hq:=ahj hL;have hnp:p∉Region.ready .any os.toArray L:=fun h=>by
    have:=(tq.1 h).2.2 q (by rw[hbp]; simp);rw[hq]at this; cases this
   refine⟨aa6 hsz fun j=>?_,hnp⟩;rw[tq,tq,hsz];refine and_congr_right fun _=>and_congr_right fun _=>⟨fun g r hr=>g r (uh.2 (.inl hr)),fun g r hr=>?_⟩;rcases uh.1 hr with hr | ⟨rfl,-,-⟩
   ·exact g r hr
   have:=g q hbt;rw[hq]at this; cases this
  refine⟨tq.2 ⟨by rw[hsz]; simpa using hpl,hL2,fun r hr=>?_⟩,tq.2 ⟨by simpa using hpl,hL2,fun r hr=>?_⟩⟩
  ·rcases uh.1 hr with hr | ⟨h1,-,-⟩
   ·rw[hbp]at hr; rw[aAb.1 hr]; exact hL
   exact absurd h1 hpt
  rw[hbp]at hr; rw[aAb.1 hr]; exact hL
 cases hm
theorem delay{P:Program}{Q:Exit→Act→World→Prop}{a:Act}{w:World}{os:List Oper}{id:Nat}(p q t:Nat)(h:wpAny P .any (kG [p] t os).toArray (ES Q) (kG [p] t os).toArray.size (Array.replicate (kG [p] t os).toArray.size false) a { w with drawn:=w.drawn+1 })
  (hb:I4 p q t os=true:=by kernel_rfl) (hmo:P.follows .mixedOrders=true:=by kernel_rfl):(Code.region id os.toArray true).wp P Q a w:=by
 rw[show(kG [p] t os).toArray.size=os.length by unfold kG; simp]at h;refine aBJ hmo (xX _ _ _ _ ?_);have:=WX p q t h hb;simpa using this
theorem akP{P:Program}{Q:Exit→Act→World→Prop}{a:Act}{w:World}{os:List Oper}{id:Nat}(p p' q t:Nat)(h:wpAny P .any (kG [p'] t (kG [p] t os)).toArray (ES Q) (kG [p'] t (kG [p] t os)).toArray.size (Array.replicate (kG [p'] t (kG [p] t os)).toArray.size false) a { w with drawn:=w.drawn+1 })
  (hb:I4 p q t os=true:=by kernel_rfl) (hb':I4 p' q t (kG [p] t os)=true:=by kernel_rfl) (hmo:P.follows .mixedOrders=true:=by kernel_rfl):(Code.region id os.toArray true).wp P Q a w:=by
 have hl:(kG [p] t os).length=os.length:=by unfold kG; simp
 rw[show(kG [p'] t (kG [p] t os)).toArray.size=(kG [p] t os).length by unfold kG; simp]at h;have h2:=WX p' q t h hb';rw[hl]at h2;refine aBJ hmo (xX _ _ _ _ ?_);have:=WX p q t h2 hb;simpa using this
end Go.Sx
namespace Go.Proofs.YtodpgjjgaddkeaaGreatDoor
open Go.RowKit En
variable{α:Type}{K:Nat}
theorem YU{f:α→Value}{base:Nat}{w:World}{v:Value}{l:List α}(h:dD f w v l)(hf:From base v):Sx.aU base (fun W=>dD f W v l) w:=fun w' hs hb=>by
 obtain⟨a,cap,rfl,hm,hh⟩:=h;refine⟨a,cap,rfl,hm,hh.imp id ?_⟩;rintro⟨b,o,rfl,h1,h2,h3⟩;have hk:=hb b h1 (hf _ _ _ rfl);exact⟨b,o,rfl,aAa h1 hs,h2,fun i hi=>(World.cell?_of_block (a:=⟨b,o+i,none⟩) hk).trans (h3 i hi)⟩
theorem ahk{base:Nat}{w:World}{x:Value}{neg:Bool}{a b:Nat}(h:aA base w x neg a b):∃t:bI,x=t.v∧t.n1=neg∧t.n2=false∧t.l1=Na.au a∧t.l2=Na.au b∧t.ok w∧From base t.s1∧From base t.s2:=by
 obtain⟨s,t,rfl,h1,h2,f1,f2⟩:=h;obtain⟨a1,c1,rfl⟩:=h1.shape;obtain⟨a2,c2,rfl⟩:=h2.shape;exact⟨⟨neg,a1,c1,Na.au a,false,a2,c2,Na.au b⟩,rfl,rfl,rfl,rfl,rfl,⟨h1,h2⟩,f1,f2⟩
theorem wX{base b:Nat}{w u:World}{t:bI}(h:t.ok w)(hf:From base t.s1∧From base t.s2)(c:Ch b w u)(hb:b<base):t.ok u:=⟨h.1.ch c (fun _=>hf.1.off hb),h.2.ch c (fun _=>hf.2.off hb)⟩
theorem aeA{w:World}{g:Nat}{s:Value}{l:List UInt32}(h:Bx w g #[.z,.sn,.z,.sn])(hs:aC w s l):0<l.length→Off g s:=by
 intro h0 ad n cap e;obtain⟨b,o,c,hv,hb,_,_,hc⟩:=dN hs rfl h0;rw[hv]at e;simp only[aAg,azK]at e;obtain⟨rfl,-,-⟩:=e;intro hbg;simp only at hbg;subst hbg;have h1:=hc 0 h0;rw[h.2.1]at h1;rcases o with _ | _ | _ | _ | o
 ·simp at h1
 ·simp at h1
 ·simp at h1
 ·simp at h1
 simp at h1
theorem wY{b:Nat}{w u:World}{t:bI}(h:t.ok w)(hx:Bx w b #[.z,.sn,.z,.sn])(c:Ch b w u):t.ok u:=⟨h.1.ch c (aeA hx h.1),h.2.ch c (aeA hx h.2)⟩
theorem aa7{base base':Nat}{w:World}{t:bI}(h:t.ok w)(hf:From base t.s1∧From base t.s2)(hb:base'≤base):Sx.aU base' (fun W=>t.ok W) w:=aAd (YU h.1 (hf.1.mono hb)) (YU h.2 (hf.2.mono hb))
def BZ(r:Q3)(t:bI):Prop:=t.n1=r.1∧t.n2=false∧t.l1=Na.au r.2.1∧t.l2=Na.au r.2.2
def bI.least(t:bI):Prop:=(t.n1=false∧t.n2=false∧t.l1=[]∧t.l2=[])∨∃r:Q3,BZ r t∧FM r.1 r.2.1 r.2.2=true
def bG.least(t:bG):Prop:=t.a.least∧t.b.least∧t.c.least∧t.d.least∧t.e.least∧t.f.least
theorem BZ.q{r:Q3}{t:bI}(h:BZ r t)(hr:P7 r):t.q=r:=by
 unfold bI.q;rw[h.1,h.2.1,h.2.2.1,h.2.2.2,Na.aB,Na.aB,O4 hr.2]
theorem BZ.fit{l:List UInt8}{i:Int}{r:Q3}{q e:Nat}{t:bI}(h:BZ r t)(hu:IU l i=(r,q,e)):t.fit 5000:=by
 have:=aer hu;exact⟨by rw[h.2.2.1]; omega,by rw[h.2.2.2]; omega⟩
theorem ahl{l:List UInt8}{p nx er:Nat}{bad:Bool}{r:Q3}{t:bI}(hu:IU l (p:Int)=(r,nx,er))(h:BZ r t):Got gK P7 l p bad nx false t.q:=fun y s hy hb e=>by
 have h2:=YQ hy e;rw[hu]at h2;simp only[azP]at h2;obtain⟨rfl,rfl,rfl⟩:=h2;exact⟨h.q hy,rfl,BR e⟩
theorem WY{l:List UInt8}{p nx er p':Nat}{bad b':Bool}{r:Q3}{x:Q3}(hu:IU l (p:Int)=(r,nx,er))(h:bad=true∨er≠0):Got gK P7 l p bad p' b' x:=fun y s hy hb e=>by
 have h2:=YQ hy e;rw[hu]at h2;simp only[azP]at h2;exfalso;rcases h with h | h
 ·rw[h]at hb; cases hb
 exact h h2.2.2
theorem LP{w0 w:World}{b p cap:Nat}{a:Option Addr}{bad pk:Bool}{l:List UInt8}(hE:Ext w0 w)(hx:Bx w b #[.slice a l.length cap,.i p,.bool bad,.bool pk])(hb:w0.heap.size≤b)(h:jr w0 (.slice a l.length cap) l)(hp:p≤l.length)(hll:l.length≤60000000) :
  Calls Tryz.prog 164 #[.q b 0] w fun e w'=>∃(t:bI) (p':Nat) (d':Bool),e = .returned t.v∧t.fit 5000∧t.least∧Sx.aU w.heap.size (fun W=>t.ok W) w'∧Got gK P7 l p bad p' d' t.q∧Kr w0 w w' b a l cap pk p' d':=by
 skip;refine Sx.Dc Tryz.func164 Tryz.ntmps164 hE hx hb fun ac S=>azc fun _ gW=>Sx.qO S 2 Sx.zr fun ac u b2 E3 hb4 S=>aza<|gW _ _<|azX (fun _ Bg=>?_);obtain⟨rr,nx,er,hu⟩:∃rr nx er,IU l (p:Int)=(rr,nx,er):=⟨_,_,_,rfl⟩;have hnx:er=0→nx≤l.length:=fun e=>by subst e; obtain⟨p',-,-,h2,-⟩:=LH hu; exact h2
 have hyy:=(((Ch.trans (Ch.refl b w) (Ch.aZ E3)))).size;have zr0:=(S.bx 0).1;have dn:=(S.bx 1).1;have hold:=fun p hp=>(S.own p hp).1.1;have lM:=S.E.size;refine Sx.akP 11 12 9 14 ?_;refine Sx.sF S 14 [(15,fun v w1=>∃t:bI,v = .tuple #[t.v,.i nx,.i er]∧BZ rr t∧t.ok w1∧From u.heap.size t.s1∧From u.heap.size t.s2),(6,fun v w1=>∃t:bI,v = .tuple #[t.v,.i nx,.i er]∧BZ rr t∧t.ok w1∧From u.heap.size t.s1∧From u.heap.size t.s2),(16,fun v w1=>∃t:bI,v=t.v∧BZ rr t∧t.ok w1∧From u.heap.size t.s1∧From u.heap.size t.s2),(17,fun v w1=>v = .i nx),(18,fun v w1=>v = .i er),(3,Sx.iP u.heap.size Sx.zr none)] (fun r=>[.mem 1 0,.mem 1 1,.hand 6 [],.hand 16 [],.hand 17 [],.hand 18 [],.new 3 Sx.zr none r]) (fun x=>[x 15,x 6,x 16,x 17,x 18,x 3]) (fun x=>[(_,_,true,x 15,15)]) [[]] (fun x=>[(3,x 3),(16,x 16),(17,x 17),(18,x 18)]) ⟨fun _ _ _ k h=>by obtain⟨t,e,h1,h2⟩:=h; exact⟨t,e,h1,h2.1.below k,h2.2⟩,fun _ _ _ k h=>by obtain⟨t,e,h1,h2⟩:=h; exact⟨t,e,h1,h2.1.below k,h2.2⟩,fun _ _ _ k h=>by obtain⟨t,e,h1,h2⟩:=h; exact⟨t,e,h1,h2.1.below k,h2.2⟩,fun _ _ _ _ h=>h,fun _ _ _ _ h=>h,Sx.iP.mono,trivial⟩ (fun x=>⟨by intro u hC g F; exact(O6 (.slice a l.length cap) l (p:Int) _ (eF (aI.below h (Ext.trans' S.E hC))) (by omega)).mono fun e w2 h=>by obtain⟨x,rfl,hx,hb⟩:=h; exact⟨_,rfl,(by rw[hu]at hx ⊢; obtain⟨t,rfl,h1,h2,h3,h4,h5,h6,h7⟩:=ahk hx; exact⟨t,rfl,⟨h1,h2,h3,h4⟩,h5,h6.mono hC.size,h7.mono hC.size⟩),hb⟩,trivial⟩) (fun ac u x E6 F S=>?_) (hN:=fun r=>⟨⟨rfl,rfl⟩,trivial⟩) (hk:=fun r=>⟨trivial,trivial,trivial,trivial,trivial,trivial⟩) (hl:=[(9,[15]),(10,[6]),(11,[6]),(12,[6])]) (hH:=fun x r=>⟨fun o ho ρ u hs hE hρ hV F=>by obtain⟨F15,-⟩:=F; exact Sx.kX ho hs [(15,x 15)] (azM (hρ 15 (by decide) rfl)) (x 15) (Sx.oh ho rfl rfl Ext.rfl' F15),fun o ho ρ u hs hE hρ hV F=>by obtain⟨F6,-⟩:=F; obtain⟨t,e,h2⟩:=F6; exact Sx.kX ho hs [(6,.tuple #[t.v,.i nx,.i er])] (azM ((hρ 6 (by decide) rfl).trans e)) (t.v) (Sx.oh ho rfl rfl Ext.rfl' ⟨t,rfl,h2⟩),fun o ho ρ u hs hE hρ hV F=>by obtain⟨F6,-⟩:=F; obtain⟨t,e,h2⟩:=F6; exact Sx.kX ho hs [(6,.tuple #[t.v,.i nx,.i er])] (azM ((hρ 6 (by decide) rfl).trans e)) (.i nx) (Sx.oh ho rfl rfl Ext.rfl' rfl),fun o ho ρ u hs hE hρ hV F=>by obtain⟨F6,-⟩:=F; obtain⟨t,e,h2⟩:=F6; exact Sx.kX ho hs [(6,.tuple #[t.v,.i nx,.i er])] (azM ((hρ 6 (by decide) rfl).trans e)) (.i er) (Sx.oh ho rfl rfl Ext.rfl' rfl),trivial⟩);obtain⟨F15,F6,F16,QF,F18,F3,-⟩:=F;clear F15;clear F6;obtain⟨t,et,hto,htd,hfr⟩:=F16;rw[et]at S;rw[QF]at S;rw[F18]at S;obtain⟨b7,F3,hb9,X8⟩:=F3;rw[F3]at S;have S:=S.adopt (A:=Sx.zr) X8 (by omega) (fun p hp=>by have:=hold p hp; omega) (fun m hm=>by cases hm);refine azH S 0 (off:=0) (cs:=t.cells) rfl (fun u C10 S=>?_);have JG:=(aH ((Ch.trans (Ch.refl b w) (Ch.aZ (Ext.trans' E3 E6)))) C10 (by first | exact .inl rfl | exact .inr (by omega)));have Bf:=(by first | exact wY htd X8 C10 | exact wX htd hfr C10 (by omega));refine apB S 2 [] [(4,.i nx),(5,.i er)] fun S=>aza<|Bg _ _<|azX fun _ VX=>azc fun _ vN=>apB S 8 [.mem 2 2] [(26,.bool (bad||(((er:Int)) != 0)))] fun S=>aza (vN _ _ ?_);refine azC S (fun yD=>?_) (fun yD=>?_)
 ·refine azc fun _ zG=>apB S 3 [] [(29,.q b 2)] fun S=>azO S 2 (off:=2) (v := .bool true) rfl (fun u Vh S=>?_);have EH:=(aH JG Vh (by first | exact .inl rfl | exact .inr (by omega)));have oO:=(by first | exact wY Bf X8 Vh | exact wX Bf hfr Vh (by omega));refine aza<|zG _ _<|azc fun _ aal=>apB S 1 [] [(30,.agg Sx.zr.toArray)] fun S=>azH S 1 (off:=0) (cs:=Sx.zr) rfl (fun u C21 S=>?_);have yw:=(aH EH C21 (by first | exact .inl rfl | exact .inr (by omega)));have G7:=(by first | exact wY oO X8 C21 | exact wX oO hfr C21 (by omega));refine aza<|aal _ _<|Sx.rtc S 1 Tryz.results164 rfl (v := .agg Sx.zr.toArray) ?_;exact⟨.none,p,true,rfl,bI.iD 5000,.inl ⟨rfl,rfl,rfl,rfl⟩,(fun W _ _=>bI.gy W),WY hu (by cases bad; (right; intro e; rw[e]at yD; simp at yD); (left; rfl)),hp,S.E,yw,S.bx 2⟩
 refine aAi<|VX _ _<|azc fun _ V9=>apB S 4 [] [(32,.i nx),(34,.q b 1)] fun S=>azO S 2 (off:=1) (v := .i nx) rfl (fun u Zw S=>?_);have CU:=(aH JG Zw (by first | exact .inl rfl | exact .inr (by omega)));have yu:=(by first | exact wY Bf X8 Zw | exact wX Bf hfr Zw (by omega));refine aza<|V9 _ _<|azc fun _ adw=>apB S 1 [.mem 0 0] [(35,t.v)] fun S=>azH S 1 (off:=0) (cs:=t.cells) rfl (fun u C29 S=>?_);have adQ:=(aH CU C29 (by first | exact .inl rfl | exact .inr (by omega)));have wB:=(by first | exact wY yu X8 C29 | exact wX yu hfr C29 (by omega));refine aza<|adw _ _<|Vp.rt ?_;have hq:bad=false∧er=0:=by cases bad<;>simp at yD ⊢ <;> omega
 obtain⟨rfl,rfl⟩:=hq;refine Sx.akQ S 1 Tryz.results164 rfl (v:=t.v) ?_;exact⟨t,nx,false,rfl,hto.fit hu,.inr ⟨rr,hto,by obtain⟨_,-,-,-,hq,-⟩:=LH hu; exact hq⟩,aa7 wB hfr hyy,ahl hu hto,hnx rfl,S.E,adQ,S.bx 2⟩
theorem aiD{w0 w:World}{b p cap:Nat}{a:Option Addr}{bad pk:Bool}{l:List UInt8}(hE:Ext w0 w)(hx:Bx w b #[.slice a l.length cap,.i p,.bool bad,.bool pk])(hb:w0.heap.size≤b)(h:jr w0 (.slice a l.length cap) l)(hp:p≤l.length)(hll:l.length≤60000000) :
  Calls Tryz.prog 117 #[.q b 0] w fun e w'=>∃(t:bG) (p':Nat) (d':Bool),e = .returned t.v∧t.fit 5000∧t.least∧Sx.aU w.heap.size (fun W=>t.ok W) w'∧Got sH SI l p bad p' d' t.q∧Kr w0 w w' b a l cap pk p' d':=by
 skip;refine azE Tryz.func117 Tryz.ntmps117 hE hx hb fun S=>azd S (fun u b2 E3 hb4 S=>?_);have hy1:=(((Ch.trans (Ch.refl b w) (Ch.aZ E3)))).size;refine azd S fun u b6 E7 hb8 S=>azd S fun u b11 qM acJ S=>Sx.Z5 S 6 fun S=>azn S fun S=>adr S 5 [] [.mem 0 0] (fun S=>?_);have S:=S.fl;have y18:=(((Ch.trans (Ch.refl b w) (Ch.aZ (Ext.trans' E3 (Ext.trans' E7 qM)))))).size;have avD:=(S.bx 0).1;have avE:=(S.bx 1).1;have avF:=(S.bx 2).1;have avG:=(S.bx 3).1;refine azj S 3 rfl (LP (hll:=hll) S.E (S.bx 3) (S.old 3) h hp) ?_;rintro e u ⟨t18,p18,d18,rfl,arG,arH,arI,g18,OT,OU,vg,OV⟩;refine⟨_,_,rfl,OU,vg,OV,fun S=>?_⟩;have ag7:=vg.size;have oO:=(aH ((Ch.trans (Ch.refl b w) (Ch.aZ (Ext.trans' E3 (Ext.trans' E7 qM))))) vg);refine azf S 1 rfl (fun u yL S=>?_);have uM:=(aH oO yL);have yw:=(aU.ch arI yL (by omega));refine azn S fun S=>adr S 5 [] [.mem 0 1] (fun S=>?_);have S:=S.fl;have y27:=(uM).size;have avH:=(S.bx 0).1;have avI:=(S.bx 1).1;have avJ:=(S.bx 2).1;have avK:=(S.bx 3).1;refine azj S 3 rfl (LP (hll:=hll) S.E (S.bx 3) (S.old 3) h OT) ?_;rintro e u ⟨t27,p27,d27,rfl,arJ,arK,arL,g27,arM,ajI,aam,ajJ⟩;refine⟨_,_,rfl,ajI,aam,ajJ,fun S=>?_⟩;have axL:=aam.size;have Di:=(aH uM aam);have tK:=(aU.ch yw aam (by omega));refine azf S 1 rfl (fun u JB S=>?_);have wB:=(aH Di JB);have A8:=(aU.ch tK JB (by omega));have GL:=(aU.ch arL JB (by omega));refine azn S fun S=>adr S 5 [] [.mem 0 2] (fun S=>?_);have S:=S.fl;have y38:=(wB).size;have avL:=(S.bx 0).1;have avM:=(S.bx 1).1;have avN:=(S.bx 2).1;have avO:=(S.bx 3).1;refine azj S 3 rfl (LP (hll:=hll) S.E (S.bx 3) (S.old 3) h arM) ?_;rintro e u ⟨t38,p38,d38,rfl,arN,arO,arP,g38,arQ,arR,aeB,arS⟩;refine⟨_,_,rfl,arR,aeB,arS,fun S=>?_⟩;have axM:=aeB.size;have CX:=(aH wB aeB);have GX:=(aU.ch A8 aeB (by omega));have zx:=(aU.ch GL aeB (by omega));refine azf S 1 rfl (fun u C42 S=>?_);have wC:=(aH CX C42);have Oq:=(aU.ch GX C42 (by omega));have qR:=(aU.ch zx C42 (by omega));have JU:=(aU.ch arP C42 (by omega));refine azn S fun S=>adr S 5 [] [.mem 0 3] (fun S=>?_);have S:=S.fl;have y51:=(wC).size;have avP:=(S.bx 0).1;have avQ:=(S.bx 1).1;have avR:=(S.bx 2).1;have avS:=(S.bx 3).1;refine azj S 3 rfl (LP (hll:=hll) S.E (S.bx 3) (S.old 3) h arQ) ?_;rintro e u ⟨t51,p51,d51,rfl,arT,arU,arV,g51,arW,arX,aa8,arY⟩;refine⟨_,_,rfl,arX,aa8,arY,fun S=>?_⟩;have axN:=aa8.size;have EK:=(aH wC aa8);have EL:=(aU.ch Oq aa8 (by omega));have Rh:=(aU.ch qR aa8 (by omega));have Ri:=(aU.ch JU aa8 (by omega));refine azf S 1 rfl (fun u C56 S=>?_);have RQ:=(aH EK C56);have Bq:=(aU.ch EL C56 (by omega));have NU:=(aU.ch Rh C56 (by omega));have Ot:=(aU.ch Ri C56 (by omega));have BL:=(aU.ch arV C56 (by omega));refine azn S fun S=>adr S 5 [] [.mem 0 4] (fun S=>?_);have S:=S.fl;have y66:=(RQ).size;have avT:=(S.bx 0).1;have avU:=(S.bx 1).1;have avV:=(S.bx 2).1;have avW:=(S.bx 3).1;refine azj S 3 rfl (LP (hll:=hll) S.E (S.bx 3) (S.old 3) h arW) ?_;rintro e u ⟨t66,p66,d66,rfl,arZ,ar0,ar1,g66,ar2,ar4,WZ,ar5⟩;refine⟨_,_,rfl,ar4,WZ,ar5,fun S=>?_⟩;have axO:=WZ.size;have G5:=(aH RQ WZ);have NC:=(aU.ch Bq WZ (by omega));have acS:=(aU.ch NU WZ (by omega));have acT:=(aU.ch Ot WZ (by omega));have aeC:=(aU.ch BL WZ (by omega));refine azf S 1 rfl (fun u C72 S=>?_);have W9:=(aH G5 C72);have Wh:=(aU.ch NC C72 (by omega));have adR:=(aU.ch acS C72 (by omega));have Oh:=(aU.ch acT C72 (by omega));have Oi:=(aU.ch aeC C72 (by omega));have Oj:=(aU.ch ar1 C72 (by omega));refine azn S fun S=>adr S 5 [] [.mem 0 5] (fun S=>?_);have S:=S.fl;have y83:=(W9).size;have avX:=(S.bx 0).1;have avY:=(S.bx 1).1;have avZ:=(S.bx 2).1;have av1:=(S.bx 3).1;refine azj S 3 rfl (LP (hll:=hll) S.E (S.bx 3) (S.old 3) h ar2) ?_;rintro e u ⟨t83,p83,d83,rfl,ar6,ar7,ar8,g83,ar9,asa,SS,asb⟩;refine⟨_,_,rfl,asa,SS,asb,fun S=>?_⟩;have axP:=SS.size;have aeD:=(aH W9 SS);have ajA:=(aU.ch Wh SS (by omega));have QL:=(aU.ch adR SS (by omega));have Vj:=(aU.ch Oh SS (by omega));have Vk:=(aU.ch Oi SS (by omega));have acU:=(aU.ch Oj SS (by omega));refine azf S 1 rfl (fun u C90 S=>?_);have akj:=(aH aeD C90);have akR:=(aU.ch ajA C90 (by omega));have akS:=(aU.ch QL C90 (by omega));have akT:=(aU.ch Vj C90 (by omega));have asc:=(aU.ch Vk C90 (by omega));have ahm:=(aU.ch acU C90 (by omega));have akU:=(aU.ch ar8 C90 (by omega));refine azu S fun S=>adr S 1 [] [.mem 1 0] fun S=>azf S 2 rfl (fun u Xa S=>?_);have Rj:=(aH akj Xa);have aeE:=(aU.ch akR Xa (by omega));have anr:=(aU.ch akS Xa (by omega));have QM:=(aU.ch akT Xa (by omega));have QN:=(aU.ch asc Xa (by omega));have QO:=(aU.ch ahm Xa (by omega));have acV:=(aU.ch akU Xa (by omega));refine azq S 2 rfl (v := .agg (t18.cells++t27.cells++t38.cells++t51.cells++t66.cells++t83.cells).toArray) (fun S=>?_);exact⟨⟨t18,t27,t38,t51,t66,t83⟩,_,_,rfl,⟨arG,arJ,arN,arT,arZ,ar6⟩,⟨arH,arK,arO,arU,ar0,ar7⟩,(aAd (Sx.aU.le aeE (by omega)) (aAd (Sx.aU.le anr (by omega)) (aAd (Sx.aU.le QM (by omega)) (aAd (Sx.aU.le QN (by omega)) (aAd (Sx.aU.le QO (by omega)) (Sx.aU.le acV (by omega))))))),ahb g18 g27 g38 g51 g66 g83,ar9,S.E,Rj,S.lu 3⟩
end Go.Proofs.YtodpgjjgaddkeaaGreatDoor
end
