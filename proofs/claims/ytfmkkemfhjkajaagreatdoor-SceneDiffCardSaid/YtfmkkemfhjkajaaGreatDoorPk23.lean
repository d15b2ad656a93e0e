/- Walks of reference 02: Neg, Add, Sub, Mul, Cmp, BitLen. -/
import Derived.Test.YtfmkkemfhjkajaaGreatDoorIntW
import Derived.Test.YtfmkkemfhjkajaaGreatDoorPk22
import Derived.Laws.IdiomCopy
set_option linter.unusedVariables false
section
set_option maxHeartbeats 1600000
set_option maxRecDepth 100000
namespace Go.Proofs.YtfmkkemfhjkajaaGreatDoor
open Go.RowKit
variable{α:Type}
theorem Ej(v u:Value)(l m:List UInt32)(w:World)(hv:aG w v l)(hu:aG w u m)(hl:l.length≤100000000) :
  Calls Tryz.prog 253 #[v,u] w fun e w'=>∃a n c,e = .returned (.tuple #[.slice a n c,.bool (Na.val m≤Na.val l)])∧(Na.val m≤Na.val l→aG w' (.slice a n c) (Na.au (Na.val l-Na.val m)))∧Ext w w':=by
 by_cases h:Na.val m≤Na.val l
 ·refine(A8 v u l m w hv hu hl h).mono ?_;rintro e w' ⟨v',rfl,h1,h2⟩;have h1:aG _ _ _:=aZ h1;obtain⟨a,c,rfl⟩:=h1.shape;exact⟨a,_,c,by simp only[aoi h],fun _=>h1,h2⟩
 refine(YR v u l m w hv hu (by omega)).mono ?_;rintro e w' ⟨rfl,h2⟩;exact⟨none,0,0,by simp only[aow h],fun h3=>absurd h3 h,h2⟩
theorem JI{w:World}{s:Value}{z:Int}(hs:aG w s (Na.au z.natAbs))(h:(Na.au z.natAbs).length≤100000000) :
  Calls Tryz.prog 186 #[.agg #[.bool (z<0),s]] w fun e w'=>e = .returned (.i z.sign)∧Ext w w':=by
 have hg:=qZ (decide (z<0)) _ _ w hs h;rw[Na.aI,aan,L6]at hg;exact hg
theorem EW{w:World}{s:Value}{l:List UInt32}(hs:aG w s l)(h:l.length≤1000000000) :
  Calls Tryz.prog 232 #[s] w fun e w'=>e = .returned (.i (bl (Na.val l):Nat))∧Ext w w':=by
 refine(Aa s l w hs h).mono ?_;exact fun e w' h=>h
theorem ku{v:Value}{a:Nat}{w:World}(neg:Bool)(hv:aG w v (Na.au a))(hlen:(Na.au a).length≤1000000000) :
  Calls Tryz.prog 204 #[.bool neg,v] w fun e w'=>∃x,e = .returned x∧aH w.heap.size w' x (neg&&decide (0<a)) a∧Ext w w':=by
 have h:=tZ neg v _ w hv hlen;rw[Na.aI]at h;exact h
theorem Em(v1:Value)(z1:Int)(K:Nat)(w:World)(h1:fG K w v1 z1)(hK:K≤10000000):
  Calls Tryz.prog 219 #[v1] w fun e w'=>∃x,e = .returned x∧pY w.heap.size w' x (-z1)∧Ext w w':=by
 obtain⟨n1,s1,l,rfl,h1,hl,rfl⟩:=h1;obtain⟨a1,c1,rfl⟩:=h1.shape;refine am0 Tryz.func219 Tryz.ntmps219 fun ac S=>amW fun _ aO=>amY S 1 [.bool n1,.slice a1 l.length c1] fun ac u b2 E3 hb4 S=>amY S 2 [.bool false,.slice none 0 0] fun ac u b5 E6 hb7 S=>amV<|aO _ _<|amW fun _ dJ=>adr S 5 [.mem 1 0,.mem 1 1] [(5,.bool (!n1)),(7,.slice a1 l.length c1)] fun S=>am4 S (some 8) (tZ (!n1) _ l _ (h1.below S.E) (by omega)) ?_;rintro e u ⟨x,rfl,hx,E9⟩;obtain⟨b1,d1,rfl⟩:=hx.shape;have hz:=S.E.size;have aaW:=(S.bx 0).1;have hb1':=(S.bx 1).1;refine⟨_,rfl,E9,fun ac S=>?_⟩;refine am1 S 0 (off:=0) (cs:=[.bool (!n1&&decide (0<Na.val l)),.slice b1 (Na.au (Na.val l)).length d1]) rfl (fun u C10 S=>?_);have FN:=hx.ch C10 (by omega);refine amV<|dJ _ _<|ana S 0 Tryz.results219 rfl (v := .agg #[.bool (!n1&&decide (0<Na.val l)),.slice b1 (Na.au (Na.val l)).length d1]) ?_;exact⟨_,rfl,SX n1 (Na.val l)▸vw (aH.mono FN (by omega)),S.E⟩
theorem lK(v1 v2:Value)(z1 z2:Int)(K L:Nat)(w:World)(h1:fG K w v1 z1)(h2:fG L w v2 z2)(hK:K≤10000000)(hL:L≤10000000):
  Calls Tryz.prog 166 #[v1,v2] w fun e w'=>∃x,e = .returned x∧pY w.heap.size w' x (z1*z2)∧Ext w w':=by
 obtain⟨n1,s1,l,rfl,h1,hl,rfl⟩:=h1;obtain⟨a1,c1,rfl⟩:=h1.shape;obtain⟨n2,s2,m,rfl,h2,hm,rfl⟩:=h2;obtain⟨a2,c2,rfl⟩:=h2.shape;refine am0 Tryz.func166 Tryz.ntmps166 fun ac S=>amW fun _ aO=>amY S 2 [.bool n1,.slice a1 l.length c1] fun ac u b2 E3 hb4 S=>amY S 3 [.bool n2,.slice a2 m.length c2] fun ac u b5 E6 hb7 S=>amY S 4 [.bool false,.slice none 0 0] fun ac u b8 E9 xY S=>amV<|aO _ _<|anj fun _ bW=>anf S 11 [(14,fun v w1=>aG w1 v (Na.au (Na.val l*Na.val m))),(15,fun v w1=>aH w.heap.size w1 v ((n1 != n2)&&decide (0<(Na.val l*Na.val m))) (Na.val l*Na.val m))] (fun r=>[.mem 2 0,.mem 1 0,.mem 2 1,.mem 1 1]) (fun x=>[x 14,x 15]) (fun x=>[(_,_,true,x 14,14),(_,_,true,x 15,15)]) [[],[14]] (fun x=>[(15,x 15)]) ⟨fun _ _ _ k h=>h.below k,fun _ _ _ k h=>h.ext k,trivial⟩ (fun x=>⟨by intro u hC g F; exact(Ux _ _ _ _ _ (h1.below (Ext.trans' S.E hC)) (h2.below (Ext.trans' S.E hC)) (by omega) (by omega)).mono fun e w2 h=>by obtain⟨a,rfl,hx,hb⟩:=h; exact⟨_,rfl,aZ hx,hb⟩,by intro u hC g F; obtain⟨RP,-⟩:=F; exact(ku (n1 != n2) RP (by have:=Po l m (by omega) (by omega); omega)).mono fun e w2 h=>by obtain⟨y,rfl,hx,hb⟩:=h; exact⟨_,rfl,hx.mono ((Ext.trans' S.E hC)).size,hb⟩,trivial⟩) (fun ac u x Ed F S=>?_);obtain⟨RP,Ku,-⟩:=F;obtain⟨b1,d1,em⟩:=aH.shape Ku;rw[em]at S Ku;have FX:=S.bx 0;refine am1 S 0 (off:=0) (cs:=[.bool ((n1 != n2)&&decide (0<(Na.val l*Na.val m))),.slice b1 (Na.au (Na.val l*Na.val m)).length d1]) rfl (fun u C13 S=>?_);have yc:=aH.bG Ku C13 FX;refine amV<|bW _ _<|ana S 0 Tryz.results166 rfl (v := .agg #[.bool ((n1 != n2)&&decide (0<(Na.val l*Na.val m))),.slice b1 (Na.au (Na.val l*Na.val m)).length d1]) ?_;exact⟨_,rfl,(aam n1 n2 (Na.val l) (Na.val m)).symm▸vw (aH.mono yc (by omega)),S.E⟩
theorem En(v1 v2:Value)(z1 z2:Int)(K L:Nat)(w:World)(h1:fG K w v1 z1)(h2:fG L w v2 z2)(hK:K≤10000000)(hL:L≤10000000):
  Calls Tryz.prog 233 #[v1,v2] w fun e w'=>∃x,e = .returned x∧pY w.heap.size w' x (z1+z2)∧Ext w w':=by
 obtain⟨n1,s1,l,rfl,h1,hl,rfl⟩:=h1;obtain⟨a1,c1,rfl⟩:=h1.shape;obtain⟨n2,s2,m,rfl,h2,hm,rfl⟩:=h2;obtain⟨a2,c2,rfl⟩:=h2.shape;refine am0 Tryz.func233 Tryz.ntmps233 fun ac S=>amW fun _ aO=>amY S 2 [.bool n1,.slice a1 l.length c1] fun ac u b2 E3 hb4 S=>amY S 3 [.bool n2,.slice a2 m.length c2] fun ac u b5 E6 hb7 S=>amY S 4 [.bool false,.slice none 0 0] fun ac u b8 E9 xY S=>amV<|aO _ _<|anj fun _ bW=>amW fun _ cZ=>adr S 5 [.mem 2 0,.mem 1 0] [(13,.bool (n1==n2))] fun S=>amV (cZ _ _ ?_);refine amX S (fun hc13=>?_) (fun hc13=>?_)
 ·refine anj fun _ gU=>anf S 8 [(20,fun v w1=>aG w1 v (Na.au (Na.val l+Na.val m))),(21,fun v w1=>aH w.heap.size w1 v (n1&&decide (0<(Na.val l+Na.val m))) (Na.val l+Na.val m))] (fun r=>[.mem 2 0,.mem 2 1,.mem 1 1]) (fun x=>[x 20,x 21]) (fun x=>[(_,_,true,x 20,20),(_,_,true,x 21,21)]) [[],[20]] (fun x=>[(21,x 21)]) ⟨fun _ _ _ k h=>h.below k,fun _ _ _ k h=>h.ext k,trivial⟩ (fun x=>⟨by intro u hC g F; exact(Uz _ _ _ _ _ (h1.below (Ext.trans' S.E hC)) (h2.below (Ext.trans' S.E hC)) (by omega) (by omega)).mono fun e w2 h=>by obtain⟨a,rfl,hx,hb⟩:=h; exact⟨_,rfl,aZ hx,hb⟩,by intro u hC g F; obtain⟨F20,-⟩:=F; exact(ku n1 F20 (by have:=Pq l m (by omega) (by omega); omega)).mono fun e w2 h=>by obtain⟨y,rfl,hx,hb⟩:=h; exact⟨_,rfl,hx.mono ((Ext.trans' S.E hC)).size,hb⟩,trivial⟩) (fun ac u x TU F S=>?_);obtain⟨F20,V5,-⟩:=F;obtain⟨b1,d1,em⟩:=aH.shape V5;rw[em]at S V5;have Yi:=S.bx 0;refine am1 S 0 (off:=0) (cs:=[.bool (n1&&decide (0<(Na.val l+Na.val m))),.slice b1 (Na.au (Na.val l+Na.val m)).length d1]) rfl (fun u VN S=>?_);have TV:=aH.bG V5 VN Yi;refine amV<|gU _ _<|ana S 0 Tryz.results233 rfl (v := .agg #[.bool (n1&&decide (0<(Na.val l+Na.val m))),.slice b1 (Na.au (Na.val l+Na.val m)).length d1]) ?_;obtain rfl:=eq_of_beq hc13;exact⟨_,rfl,(Ea n1 (Na.val l) (Na.val m)).symm▸vw (aH.mono TV (by omega)),S.E⟩
 refine ano<|bW _ _<|anj fun _ ji=>amW fun _ jo=>adr S 4 [.mem 2 1,.mem 1 1] [(24,.slice a1 l.length c1),(26,.slice a2 m.length c2)] fun S=>am4 S (some 27) (Ej _ _ _ _ _ (h1.below S.E) (h2.below S.E) (by omega)) ?_;rintro e u ⟨p,q,c3,rfl,hs,ES⟩;refine⟨_,rfl,ES,fun ac S=>?_⟩;refine adr S 5 [] [(5,.slice p q c3),(6,.bool (Na.val m≤Na.val l))] fun S=>amV<|jo _ _<|amW fun _ kE=>adr S 1 [] [(30,.bool (Na.val m≤Na.val l))] fun S=>amV (kE _ _ ?_);refine amX S (fun vJ=>?_) (fun vJ=>?_)
 ·refine amW fun _ lq=>adr S 3 [.mem 2 0] [(32,.bool n1),(33,.slice p q c3)] fun S=>am4 S (some 34) (ku (n1) (hs (anC vJ)) (by have:=BR l m (by omega); omega)) ?_;rintro e u ⟨x,rfl,hx,ZK⟩;obtain⟨b1,d1,rfl⟩:=hx.shape;have hz:=S.E.size;have aaW:=(S.bx 0).1;have hb1':=(S.bx 1).1;have hb2':=(S.bx 2).1;refine⟨_,rfl,ZK,fun ac S=>?_⟩;refine am1 S 0 (off:=0) (cs:=[.bool (n1&&decide (0<(Na.val l-Na.val m))),.slice b1 (Na.au (Na.val l-Na.val m)).length d1]) rfl (fun u C26 S=>?_);have LW:=hx.ch C26 (by omega);refine amV<|lq _ _<|ana S 0 Tryz.results233 rfl (v := .agg #[.bool (n1&&decide (0<(Na.val l-Na.val m))),.slice b1 (Na.au (Na.val l-Na.val m)).length d1]) ?_;exact⟨_,rfl,(yh (by simpa using hc13) (anC vJ)).symm▸vw (aH.mono LW (by omega)),S.E⟩
 refine ano<|ji _ _<|amW fun _ kR=>adr S 4 [.mem 1 1,.mem 2 1] [(37,.slice a2 m.length c2),(39,.slice a1 l.length c1)] fun S=>am4 S (some 40) (Ej _ _ _ _ _ (h2.below S.E) (h1.below S.E) (by omega)) ?_;rintro e u ⟨p2,q2,c2,rfl,hs2,Dt⟩;refine⟨_,rfl,Dt,fun ac S=>?_⟩;refine adr S 5 [] [(7,.slice p2 q2 c2)] fun S=>amV<|kR _ _<|amW fun _ mM=>adr S 3 [.mem 1 0] [(44,.bool n2),(45,.slice p2 q2 c2)] fun S=>am4 S (some 46) (ku (n2) (hs2 (by have:=anE vJ; omega)) (by have:=BR m l (by omega); omega)) ?_;rintro e u ⟨x,rfl,hx,Fe⟩;obtain⟨b1,d1,rfl⟩:=hx.shape;have hz:=S.E.size;have aaW:=(S.bx 0).1;have hb1':=(S.bx 1).1;have hb2':=(S.bx 2).1;refine⟨_,rfl,Fe,fun ac S=>?_⟩;refine am1 S 0 (off:=0) (cs:=[.bool (n2&&decide (0<(Na.val m-Na.val l))),.slice b1 (Na.au (Na.val m-Na.val l)).length d1]) rfl (fun u C32 S=>?_);have Dq:=hx.ch C32 (by omega);refine amV<|mM _ _<|ana S 0 Tryz.results233 rfl (v := .agg #[.bool (n2&&decide (0<(Na.val m-Na.val l))),.slice b1 (Na.au (Na.val m-Na.val l)).length d1]) ?_;exact⟨_,rfl,(BG (a:=Na.val l) (b:=Na.val m) (by simpa using hc13) (by have:=anE vJ; omega)).symm▸vw (aH.mono Dq (by omega)),S.E⟩
theorem Qk(v1 v2:Value)(z1 z2:Int)(K L:Nat)(w:World)(h1:fG K w v1 z1)(h2:fG L w v2 z2)(hK:K≤10000000)(hL:L≤10000000):
  Calls Tryz.prog 203 #[v1,v2] w fun e w'=>∃x,e = .returned x∧pY w.heap.size w' x (z1-z2)∧Ext w w':=by
 obtain⟨n1,s1,l,rfl,h1,hl,rfl⟩:=h1;obtain⟨a1,c1,rfl⟩:=h1.shape;obtain⟨n2,s2,m,rfl,h2,hm,rfl⟩:=h2;obtain⟨a2,c2,rfl⟩:=h2.shape;refine am0 Tryz.func203 Tryz.ntmps203 fun ac S=>amW fun _ aO=>amY S 2 [.bool n1,.slice a1 l.length c1] fun ac u b2 E3 hb4 S=>amY S 3 [.bool n2,.slice a2 m.length c2] fun ac u b5 E6 hb7 S=>amY S 4 [.bool false,.slice none 0 0] fun ac u b8 E9 xY S=>amV<|aO _ _<|anj fun _ bW=>anf S 4 [(7,fun v w1=>pY w.heap.size w1 v (-zv n2 (Na.val m))),(8,fun v w1=>pY w.heap.size w1 v (zv n1 (Na.val l) + -zv n2 (Na.val m)))] (fun r=>[.mem 2 0,.mem 1 0]) (fun x=>[x 7,x 8]) (fun x=>[(_,_,true,x 7,7),(_,_,true,x 8,8)]) [[],[7]] (fun x=>[(8,x 8)]) ⟨fun _ _ _ k h=>h.ext k,fun _ _ _ k h=>h.ext k,trivial⟩ (fun x=>⟨by intro u hC g F; exact(Em _ (zv n2 (Na.val m)) L _ ⟨n2,_,m,rfl,h2.below (Ext.trans' S.E hC),hm,rfl⟩ (by omega)).mono fun e w2 h=>by obtain⟨y,rfl,hx,hb⟩:=h; exact⟨_,rfl,hx.mono ((Ext.trans' S.E hC)).size,hb⟩,by intro u hC g F; obtain⟨F7,-⟩:=F; exact(En _ _ (zv n1 (Na.val l)) (-zv n2 (Na.val m)) K L _ ⟨n1,_,l,rfl,h1.below (Ext.trans' S.E hC),hl,rfl⟩ (pY.toQ F7 (by rw[Int.natAbs_neg,lC]; have:=bF m; omega)) (by omega) (by omega)).mono fun e w2 h=>by obtain⟨y,rfl,hx,hb⟩:=h; exact⟨_,rfl,hx.mono ((Ext.trans' S.E hC)).size,hb⟩,trivial⟩) (fun ac u x Ed F S=>?_);obtain⟨F7,F8,-⟩:=F;obtain⟨b1,d1,em⟩:=aH.shape F8;rw[em]at S F8;have FX:=S.bx 0;refine am1 S 0 (off:=0) (cs:=[.bool ((zv n1 (Na.val l) + -zv n2 (Na.val m))<0),.slice b1 (Na.au (zv n1 (Na.val l) + -zv n2 (Na.val m)).natAbs).length d1]) rfl (fun u C13 S=>?_);have yc:=aH.bG F8 C13 FX;refine amV<|bW _ _<|ana S 0 Tryz.results203 rfl (v := .agg #[.bool ((zv n1 (Na.val l) + -zv n2 (Na.val m))<0),.slice b1 (Na.au (zv n1 (Na.val l) + -zv n2 (Na.val m)).natAbs).length d1]) ?_;exact⟨_,rfl,yc,S.E⟩
theorem Ql(v1 v2:Value)(z1 z2:Int)(K L:Nat)(w:World)(h1:fG K w v1 z1)(h2:fG L w v2 z2)(hK:K≤10000000)(hL:L≤10000000):
  Calls Tryz.prog 165 #[v1,v2] w fun e w'=>e = .returned (.i (z1-z2).sign)∧Ext w w':=by
 obtain⟨n1,s1,l,rfl,h1,hl,rfl⟩:=h1;obtain⟨a1,c1,rfl⟩:=h1.shape;obtain⟨n2,s2,m,rfl,h2,hm,rfl⟩:=h2;obtain⟨a2,c2,rfl⟩:=h2.shape;refine am0 Tryz.func165 Tryz.ntmps165 fun ac S=>amW fun _ aO=>amY S 2 [.bool n1,.slice a1 l.length c1] fun ac u b2 E3 hb4 S=>amY S 3 [.bool n2,.slice a2 m.length c2] fun ac u b5 E6 hb7 S=>adr S 1 [] [(4,.i 0)] fun S=>amV<|aO _ _<|amW fun _ dJ=>adr S 2 [.mem 1 0,.mem 0 0] [(5,.agg #[.bool n1,.slice a1 l.length c1]),(6,.agg #[.bool n2,.slice a2 m.length c2])] fun S=>am4 S (some 7) (Qk _ _ (zv n1 (Na.val l)) (zv n2 (Na.val m)) K L _ ⟨n1,_,l,rfl,h1.below S.E,hl,rfl⟩ ⟨n2,_,m,rfl,h2.below S.E,hm,rfl⟩ (by omega) (by omega)) ?_;rintro e u ⟨x,rfl,⟨s,rfl,hs,-⟩,E9⟩;obtain⟨b1,d1,rfl⟩:=hs.shape;refine⟨_,rfl,E9,fun ac S=>?_⟩;refine am3 S 8 (JI hs (by have:=Fg (zv n1 (Na.val l)) (zv n2 (Na.val m)) (K:=K+L) (by rw[lC]; have:=bF l; omega) (by rw[lC]; have:=bF m; omega); omega)) fun ac u BF S=>adr S 1 [] [(4,.i (Int.sign (zv n1 (Na.val l)-zv n2 (Na.val m))))] fun S=>amV<|dJ _ _<|amZ S Tryz.results165 ?_;exact⟨rfl,S.E⟩
theorem yI(v1:Value)(z1:Int)(K:Nat)(w:World)(h1:fG K w v1 z1)(hK:K≤10000000):
  Calls Tryz.prog 202 #[v1] w fun e w'=>e = .returned (.i (bl z1.natAbs:Int))∧Ext w w':=by
 obtain⟨n1,s1,l,rfl,h1,hl,rfl⟩:=h1;obtain⟨a1,c1,rfl⟩:=h1.shape;refine am0 Tryz.func202 Tryz.ntmps202 fun ac S=>amW fun _ aO=>amY S 1 [.bool n1,.slice a1 l.length c1] fun ac u b2 E3 hb4 S=>adr S 1 [] [(2,.i 0)] fun S=>amV<|aO _ _<|amW fun _ dA=>adr S 2 [.mem 0 1] [(4,.slice a1 l.length c1)] fun S=>am3 S 5 (EW (h1.below S.E) (by omega)) fun ac u E6 S=>adr S 1 [] [(2,.i (bl (Na.val l):Nat))] fun S=>amV<|dA _ _<|amZ S Tryz.results202 ?_;exact⟨by rw[lC],S.E⟩
end Go.Proofs.YtfmkkemfhjkajaaGreatDoor
end
section
namespace Go.Sx
open Go.Proofs.YtfmkkemfhjkajaaGreatDoor Go.RowKit Go.Rel
section
variable{P:Program}{ops:Array Oper}{Q:Exit→Act→World→Prop}{w0:World}{a:Act}{w:World}{os:List Oper}{n:Nat}{l:List (Nat×Value)}{bl:List (Nat×List Value)}{vs:List iM}
theorem KC{ρ:Operand→Value}{o:Oper}{ty:TypeId}{x y:Operand}{b off:Nat}{A cs:List Value}(hop:o.op = .store ty x y)(hx:ρ x = .pointer (some ⟨b,off,none⟩))(hy:ρ y = .agg cs.toArray)(hbx:Bx w b A.toArray)
  (hi:(P.info? ty).map (·.size)=some cs.length) (hf:off+cs.length≤A.length) (h1:cs.all (·.oneCell')=true):(execOp ρ o).run P w = .ok .skip (w.setCells b off cs):=by
 have hth:w.there b off cs.toArray.size:=fun j hj=>by
  have h3:j<cs.length:=by simpa using hj
  rw[hbx.2.1,hbx.2.2,Array.getElem?_eq_getElem (by simp; omega)]; exact⟨rfl,rfl⟩
 have h:=run_storeVar_mid (P:=P) w b off ty cs.toArray hth (by rw[hi]; simp) (by rw[←h1]; simp);unfold execOp;simp only[hop,hx,hy,Instr.storeAt,Instr.sureAddr,aor,apq,ape,h]
theorem Ci{ms:List iM}:∀(os:List Oper) {e e':Env} {ks:List Key} {L:List Loc} {C:List UA} {T:List T3} {cs:List Value},exec P ms ops n os e ks cs=some (e',L,C,T)→T.length=os.length
 | [],e,e',ks,L,C,T,cs,hx=>by
  unfold exec at hx
  split at hx
  ·simp only[anx,anD]at hx
   obtain⟨-,-,-,rfl⟩:=hx; rfl
  ·cases hx
 | o::os,e,e',ks,L,C,T,cs,hx=>by
  unfold exec at hx
  split at hx
  ·cases hx
  ·split at hx
   ·split at hx
    ·rename_i h
     simp only[anx,anD]at hx
     obtain⟨-,-,-,rfl⟩:=hx
     rw[an1,Ci os h]; rfl
    ·cases hx
   ·split at hx
    ·split at hx
     ·rename_i h
      simp only[anx,anD]at hx
      obtain⟨-,-,-,rfl⟩:=hx
      rw[an1,Ci os h]; rfl
     ·cases hx
    ·cases hx
   ·split at hx
    ·split at hx
     ·rename_i h
      simp only[anx,anD]at hx
      obtain⟨-,-,-,rfl⟩:=hx
      rw[an1,Ci os h]; rfl
     ·cases hx
    ·cases hx
   ·cases hx
theorem WU{K:Act→Prop}{o:Oper}{T:Fact}:∀(os:List Oper) (Us:List Fact) (b:Act),Us.length=os.length→Rel.End (fun a'=>∀v,T v w→K (a'.put o.dst v)) w os Us b→Rel.End K w (os++[o]) (Us++[T]) b
 | [],[],b,_,h=>fun v hv=>by
  have:=h v hv
  exact this
 | o'::os,U::Us,b,hl,h=>fun v hv=>WU os Us _ (by simpa using hl) (h v hv)
theorem H6{hd:List Oper}{Ts:List Fact}{R:Nat→World→World→Prop}{C:Nat→World→Prop}{Ba:Operand→Value}:∀(os:List Oper) (Us:List Fact) (k:Nat),os.length≤Us.length→(∀(i:Nat) o,os[i]?=some o→Rel.uU P ops hd Ts (R (k+i)) (C (k+i)) Ba o (Us.getD i top))→agv.vM P ops hd Ts R C Ba k os Us
 | [],_,_,_,_=>trivial
 | o::os,[],_,hl,_=>by simp at hl
 | o::os,U::Us,k,hl,h=>⟨h 0 o rfl,H6 os Us (k+1) (by simpa using hl) fun i o' hi=>by
  have:=h (i+1) o' (by simpa using hi)
  rw[show k+(i+1)=k+1+i by omega]at this
  exact this⟩
theorem H7{Ts:List Fact}{ρ:Operand→Value}:∀{es:List Edge},Rel.H8 ops Ts ρ w es→∀g∈es,Region.binds .any g=true→Ts.getD g.on top (Rel.valOf ρ ((ops[g.on]?).bind (·.dst))) w
 | x::es,h,g,hg,hb=>by
  rcases anS.1 hg with rfl | hg
  ·exact h.1 hb
  ·exact H7 h.2 g hg hb
theorem St.akN{w':World}{b:Nat}(S:St w0 a w n l bl vs)(hc:Ch b w w')(hE:Ext w0 w')(h1:∀p∈bl,p.1≠b)(h2:∀m∈vs,m.1≠b):St w0 a w' n l bl vs:=
 ⟨S.s,hE,fun p hp=>⟨(S.own p hp).1.ch hc (h1 p hp),(S.own p hp).2⟩,S.apart,fun m hm=>⟨⟨an3 (S.mem m hm).1.1 hc.size,fun j v hj=>by
  rw[hc.cell (p:=⟨m.1,m.2.1+j,none⟩) (S.mem m hm).1.1 (h2 m hm)]
  exact(S.mem m hm).1.2 j v hj⟩,(S.mem m hm).2⟩⟩
def stD(P:Program)(os:List Oper)(m j:Nat)(l:List (Nat×Value)):Option (Nat×Nat×Nat):=
 match os[m]? with
 | some o=>(match o.guard,o.dst,o.op with
  | none,none,.store ty (.tmp s) (.tmp s')=>(match l.lookup s,P.info? ty,(os[j]?).bind (·.dst)with
   | some (.pointer (some ⟨b,off,none⟩)),some i,some d =>
    (match d==s'&&decide (j<m)&&(os.take m).all (fun o => !(o.dst==some s))&&o.after.toList.any (fun g=>g.on==j&&Region.binds .any g)with
    | true=>some (b,off,i.size)
    | false=>none)
   | _,_,_=>none)
  | _,_,_=>none)
 | none=>none
def aeT(P:Program)(ms:List iM)(os:List Oper)(n m:Nat)(l:List (Nat×Value))(ks:List Key)(j:Nat):Option (Bool×Value):=(exec P ms os.toArray n (os.take m) (lift l) ks []).bind fun r=>(r.2.2.2[j]?).map fun t=>(t.1,t.2.1)
theorem ahY(S:St w0 a w n l bl vs){id:Nat}(m j:Nat)(ks:List Key)(new:List (Nat×Value))(k:Nat){b off:Nat}{A cs:List Value}(hk:bl[k]?=some (b,A))
  (next:∀a' w',Ch b w w'→St w0 a' w' n (new++l) (bl.set k (b,spl A off cs)) vs→wpList P os.toArray Q (os.drop (m+1)) a' w') (hkk:Dl P ks:=by exact trivial)
  (hx:runs P (mO (bl.eraseIdx k) vs) os.toArray n (os.take m) l ks [] new=wants (mO (bl.eraseIdx k) vs) ks [] new:=by kernel_rfl)
  (hv:aeT P (mO (bl.eraseIdx k) vs) os n m l ks j=some (true,.agg cs.toArray):=by kernel_rfl)
  (hst:stD P os m j l=some (b,off,cs.length):=by kernel_rfl) (hf:decide (off+cs.length≤A.length)=true:=by kernel_rfl) (h1c:cs.all (·.oneCell')=true:=by kernel_rfl)
  (hs:xP (os.take m) l new=true:=by kernel_rfl)
  (hmo:P.follows .mixedOrders=true:=by kernel_rfl) (hB:okB os.toArray (m+1) n=true:=by kernel_rfl) (hD:wE os.toArray (os.take m)=true:=by kernel_rfl):(Code.region id os.toArray true).wp P Q a w:=by
 obtain⟨e',T,C,h1,hcl,h2⟩:=zx hx;have hC:C=[]:=by cases C<;>simp_all
 subst hC;have hf':off+cs.length≤A.length:=by simpa using hf
 have hlen:=Ci _ h1;have ok:=Rel.Qm hB;obtain⟨o,ho,hg,hd,ty,s,s',hop,hls,akO,hds,hjm,hout,g,hga,hgj,hgb⟩:∃o,os[m]?=some o∧o.guard=none∧o.dst=none∧∃ty s s',o.op = .store ty (.tmp s) (.tmp s')∧l.lookup s=some (.pointer (some ⟨b,off,none⟩))∧(P.info? ty).map (·.size)=some cs.length ∧
   (os[j]?).bind (·.dst)=some s'∧j<m∧(os.take m).all (fun o => !(o.dst==some s))=true∧∃g∈o.after.toList,g.on=j∧Region.binds .any g=true:=by
  unfold stD at hst
  split at hst
  ·rename_i o ho
   split at hst
   ·rename_i ty s s' hg hd hop
    split at hst
    ·rename_i b' off' i d hl hi hd'
     split at hst
     ·rename_i hc
      simp only[anx,anD]at hst
      obtain⟨rfl,rfl,hsz⟩:=hst
      simp only[anM,anO,anT,apQ]at hc
      obtain⟨⟨⟨rfl,h3⟩,h4⟩,g,hg1,hg2,hg3⟩:=hc
      exact⟨o,ho,hg,hd,ty,s,d,hop,hl,by rw[hi]; simp[hsz],hd',h3,h4,g,hg1,hg2,hg3⟩
     ·cases hst
    ·cases hst
   ·cases hst
  ·cases hst
 have hml:m<os.length:=(List.getElem?_eq_some_iff.1 ho).1;have htk:os.take (m+1)=os.take m++[o]:=by
  rw[List.take_add_one,ho]; rfl
 obtain⟨kk,hTj⟩:∃kk,T[j]?=some (true,.agg cs.toArray,kk):=by
  unfold aeT at hv;rw[h1]at hv;simp only[apx]at hv;cases hT:T[j]? with
  | none=>rw[hT]at hv; cases hv
  | some t=>rw[hT]at hv; obtain⟨x,y,z⟩:=t; simp only[aoa,anx,anD]at hv; exact⟨z,by rw[hv.1,hv.2]⟩
 have hmem:(b,A)∈bl:=List.mem_of_getElem? hk;have hbx:=(S.own _ hmem).1;have hbw:w0.heap.size≤b:=(S.own _ hmem).2;have hne:∀p∈bl.eraseIdx k,p.1≠b:=fun p hp=>by
  obtain⟨i,hik,hi⟩:=List.mem_eraseIdx_iff_getElem?.1 hp;exact S.ne hi hk hik
 have hnv:∀m∈vs,m.1≠b:=fun m hm e=>(S.mem m hm).2 _ hmem e.symm;have hops:∀(j:Nat) o,(os.take m)[j]?=some o→os.toArray[j]?=some o:=fun j o h=>by
  rw[List.getElem?_take]at h;split at h
  ·simpa using h
  cases h
 have agw:∀w',Ch b w w'→Ext w0 w'→Rel.vM P os.toArray (os.take m) (T.map Cj) Ext (fun u=>Ext w' u) a.eval (os.take m) (T.map Cj):=fun w' hc hE =>
  Cm (P:=P) (ops:=os.toArray) (hd:=os.take m) (Ta:=T) (n:=n) (e0:=lift l) (Ba:=a.eval) (w0:=w') hops hD (dL S.s) (fun s x hx=>by
   rw[lH]at hx
   cases hl:l.lookup s with
   | none=>simp[hl]at hx
   | some v=>simp only[hl,aoa,anx]at hx; rw[←hx]) ((S.drop k).akN hc hE hne hnv).DT (os.take m) 0 rfl rfl (fun s x hx => .inr ⟨fun j o hj=>by omega,hx⟩) h1 rfl hkk trivial
 have hTl:(T.map Cj++[fun _ u=>Bx u b (spl A off cs).toArray]).length=(os.take (m+1)).length:=by
  rw[htk]; simp[hlen]
 refine agv.wp_region (m+1) hmo (by rw[S.s.size]; exact hB) (fun i u u'=>if i=m then Ext w0 u'∧Ch b u u'∧Bx u' b (spl A off cs).toArray else Ext u u') (fun u=>Ch b w u∧Ext w0 u) m (fun u=>Bx u b A.toArray) (T.map Cj++[fun _ u=>Bx u b (spl A off cs).toArray])
  ⟨Ch.tH (below_drewN (anU _ _) 1),Ext.trans' S.E (below_drewN (anU _ _) 1)⟩ (hbx.ext (below_drewN (anU _ _) 1)) ?_ ?_ ?_ ?_ ?_
 ·intro i u u' hu hR;split at hR
  ·exact⟨Ch.trans hu.1 hR.2.1,hR.1⟩
  exact⟨Ch.trans hu.1 (Ch.tH hR),Ext.trans' hu.2 hR⟩
 ·intro i u u' hi hu hR;rw[anq hi]at hR;exact Bx.ext hu hR
 ·intro j' T' hT' i hij v u u' hR hv';rw[List.getElem?_append]at hT';split at hT'
  ·rw[List.getElem?_map]at hT';cases hT2:T[j']? with
   | none=>rw[hT2]at hT'; cases hT'
   | some t=>rw[hT2]at hT'; obtain rfl:=anG hT'; exact hv'
  rename_i hge;have hj0:j'-(T.map Cj).length=0:=by
   apply Classical.byContradiction;intro h;rw[List.getElem?_eq_none (by simp; simp at h hge; omega)]at hT';cases hT'
  rw[hj0]at hT';obtain rfl:=anG hT';have amv:j'=m:=by
   have:(os.take m).length=m:=by simp; omega
   simp at hj0 hge;omega
  rw[anq (by omega)]at hR;exact Bx.ext hv' hR
 ·refine H6 _ _ 0 (by rw[hTl]; exact anw _) fun i oi hi=>?_;rw[aok];have him:i<m+1:=by
   have:=(List.getElem?_eq_some_iff.1 hi).1;simp at this; omega
  have hoi:os[i]?=some oi:=by
   rw[List.getElem?_take,anv him]at hi;exact hi
  have aeU:∀{ρ:Operand→Value} {u:World},i≤m→Rel.H8 os.toArray (T.map Cj++[fun _ u=>Bx u b (spl A off cs).toArray]) ρ u oi.after.toList→Rel.H8 os.toArray (T.map Cj) ρ u oi.after.toList:=fun him hd =>
   WV _ fun e he hb=>by
    have h3:=H7 hd e he hb
    have h4:e.on<i:=ok.back i oi (by omega) (by simpa using hoi) e (by simpa using he) hb
    have h5:e.on<(T.map Cj).length:=by simp[hlen]; omega
    simp only[List.getD_eq_getElem?_getD]at h3 ⊢
    rwa [List.getElem?_append_left h5]at h3
  by_cases hi':i=m
  ·subst hi';have heq:some oi=some o:=by rw[←hoi,←ho]
   obtain rfl:=anG heq;intro ρ u hρ hO hC hd';rw[hg];have hval:ρ (.tmp s') = .agg cs.toArray:=by
    have h3:=H7 (aeU (anw _) hd') g hga hgb;rw[hgj]at h3;have h4:(os.toArray[j]?).bind (·.dst)=some s':=by simpa using hds
    rw[h4]at h3;have e1:(T.map Cj).getD j top=Cj (true,.agg cs.toArray,kk):=by simp[List.getD,List.getElem?_map,hTj]
    rw[e1]at h3;exact h3
   have akP:ρ (.tmp s) = .pointer (some ⟨b,off,none⟩):=by
    rw[hO s (by rw[htk,List.all_append,hout]; simp[hd])];exact S.s.has s _ hls
   have hrun:=KC (P:=P) hop akP hval (hC.2 rfl) akO hf' h1c;unfold Does;rw[hrun];refine⟨?_,?_⟩
   ·have h7:Ext w0 (u.setCells b off cs)∧Ch b u (u.setCells b off cs)∧Bx (u.setCells b off cs) b (spl A off cs).toArray:=⟨sD hC.1.2 hbw cs off,(Ch.refl b u).setCells cs off,MZ (hC.2 rfl) off cs hf'⟩;simpa using h7
   have:(T.map Cj++[fun _ u=>Bx u b (spl A off cs).toArray]).getD i top=fun _ u=>Bx u b (spl A off cs).toArray:=by
    have h5:(T.map Cj).length=i:=by simp[hlen]; omega
    rw[List.getD_eq_getElem?_getD,List.getElem?_append_right (by omega),h5,apJ]; rfl
   rw[this];exact MZ (hC.2 rfl) off cs hf'
  have akQ:i<m:=by omega
  intro ρ u hρ hO hC hd';have hget:=(Rel.qE _ _ (agw u hC.1.1 hC.1.2)).2 i oi (by rw[List.getElem?_take,anv akQ]; exact hoi);have hO':Rel.Out (os.take m) ρ a.eval:=fun t ht=>hO t (by rw[htk,List.all_append,ht]; simp[hd]);have h6:=hget ρ u hρ hO' Ext.rfl' (aeU (by omega) hd');have hT6:(T.map Cj++[fun _ u=>Bx u b (spl A off cs).toArray]).getD i top=(T.map Cj).getD i top:=by
   rw[List.getD_eq_getElem?_getD,List.getElem?_append_left (by simp[hlen]; omega),List.getD_eq_getElem?_getD]
  rw[hT6];simp only[anq hi'];exact h6
 intro w' hC;rw[htk];refine WU _ _ _ (by simp[hlen]) ?_;refine H9 _ h1 S.s.size (dL S.s) fun a' hsz hd' hh=>?_;intro v hv';rw[hd];have S2:=(S.ch hC.1 hk hv' hC.2).act (CB h1 h2 hs hsz (by rw[hd',S.s.defers]) hh);exact next a' w' hC.1 S2
def WW(P:Program)(ops:Array Oper)(os:List Oper)(l:List (Nat×Value)):Option (FuncId×Array Value×Option Nat):=
 match os with
 | o::_=>(match pathOf ops (lift l) o,yx o.op || !o.op.operands.all (fun x=>(rd (lift l) [] x).isSome),jI (ev0 P (execOp (Dk (lift l) []) o))with
  | some p,false,some (.enter f args)=>(match kL (lift l) p with | true=>some (f,args,o.dst) | false=>none)
  | _,_,_=>none)
 | []=>none
theorem Bc(S:St w0 a w n l bl vs){f:FuncId}{args:Array Value}(d:Option Nat){R:Ending→World→Prop}(hc:Calls P f args w R)
  (next:∀e w',R e w'→∃v,e = .returned v∧Ext w w'∧∀a',St w0 a' w' n (YS l d v) bl vs→wpList P ops Q (os.drop 1) a' w')
  (hx:WW P ops os l=some (f,args,d):=by kernel_rfl) (hd:KA n d=true:=by rfl):wpList P ops Q os a w:=by
 cases os with
 | nil=>cases hx
 | cons o os =>
  unfold WW at hx;simp only at hx;split at hx
  ·rename_i p f' args' hp hav hev;split at hx
   ·rename_i hg;simp only[anx,anD]at hx;obtain⟨rfl,rfl,rfl⟩:=hx;simp only[aom]at hav;have hrun:(execOp a.eval o).run P w = .ok (.enter f' args') w:=rF (Std.act a) (jX (dL S.s) o) (p:=[]) rfl hav.1 (by simpa using hav.2) hev;unfold wpList;rw[anv ((Eo (a:=a) hp (fun x _ i y _ hl=>dL S.s i y hl)).2 hg)];left;unfold Oper.wp;rw[hrun];simp only[Oper.upon];refine hc.mono fun e w' hR=>?_;obtain⟨v,rfl,hE,hn⟩:=next e w' hR;exact hn _ ((S.grow hE).act (ET S.s hd v))
   cases hx
  cases hx
end
end Go.Sx
end
