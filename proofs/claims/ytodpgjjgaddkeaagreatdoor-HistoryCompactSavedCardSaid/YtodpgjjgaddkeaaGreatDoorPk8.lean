/- Walks of package integer: Neg -/
import Derived.Test.YtodpgjjgaddkeaaGreatDoorPk6
import Derived.Test.YtodpgjjgaddkeaaGreatDoorPk7
set_option maxHeartbeats 9999999
open Go renaming World->VO,Value->aaT,Calls->abB
set_option maxRecDepth 100000
set_option linter.unusedVariables false
set_option linter.unusedSimpArgs false
namespace Go.Proofs.Vy
open _root_.Go.Proofs.Tryz
section
open Go.RowKit Na Go.Sx
variable{α:Type}
def CW:aaT->Bool
 | .int .u32 _=>false
 | _=>true
variable{w:VO}{A:Array aaT}{v s:aaT}{l:List UInt32}{b a:Nat}
abbrev Eb(h:A.toList.all CW=true)(i:Nat)(x:UInt32):A[i]?≠some (bC x):=by
 intro e;rw[aDF]at h;have D:bC x∈A.toList:=by
  rw[Array.mem_toList_iff];exact Array.mem_of_getElem? e
 exact absurd (h _ D) (by simp[CW])
abbrev NC{w':VO}(h:aG w v l)(D:Ch b w w')(J:Bx w b A)(hA:A.toList.all CW=true):aG w' v l:=h.ch D (J.off (Eb hA) h)
abbrev aQ.ch{base:Nat}{w w':VO}{v:aaT}{neg:Bool}{n c:Nat}(h:aQ base w v neg n)(hc:Ch c w w')(D:c<base):aQ base w' v neg n:=by
 obtain⟨s,J,S,fs⟩:=h;exact⟨s,J,S.ch hc (λ_=>fs.off D),fs⟩
abbrev aQ.eF{base:Nat}{w w':VO}{v:aaT}{neg:Bool}{n b:Nat}{A:Array aaT}(h:aQ base w v neg n)(S:Ch b w w')(hx:Bx w b A)(hA:A.toList.all CW=true:=by rfl):aQ base w' v neg n:=by
 obtain⟨s,J,D,fs⟩:=h;exact⟨s,J,D.ch S (hx.off (Eb hA) D),fs⟩
abbrev ahD(l m:List UInt32)(hl:l.length<=10000000)(D:m.length<=10000000):(Ro (TP l*TP m)).length<=20000000:=by
 have h:=kP (TP l) (TP m) (K:=l.length) (L:=m.length) (dA l) (dA m);rw[Int.natAbs_mul]at h;simp only[aFo]at h;omega
abbrev ahE(l m:List UInt32)(hl:l.length<=10000000)(D:m.length<=10000000):(Ro (TP l+TP m)).length<=20000001:=by
 have h:=aa6 (TP l) (TP m) (K:=l.length+m.length) (by simp only[aFo]; have:=dA l; omega) (by simp only[aFo]; have:=dA m; omega);rw[show((TP l:Int)+(TP m:Int))=((TP l+TP m:Nat):Int) by omega,aFo]at h;omega
abbrev V3(l m:List UInt32)(hl:l.length<=10000000):(Ro (TP l-TP m)).length<=10000000:=by
 have D:=fP (Nat.sub_le (TP l) (TP m));have D:=dA l;omega
abbrev KX(v u:aaT)(l m:List UInt32)(w:VO)(J:aG w v l)(S:aG w u m)(hl:l.length<=100000000) :
  abB prog 329 #[v,u] w λe w'=>∃a n c,e = .R (.tuple #[.s a n c,.b (TP m<=TP l)])∧(TP m<=TP l->aG w' (.s a n c) (Ro (TP l-TP m)))∧Ext w w':=by
 by_cases h:TP m<=TP l
 .refine(adC v u l m w J S hl h).mono ?_;rintro e w' ⟨a,rfl,h1,D⟩;exact⟨a,_,_,by simp only[aEy h],λ_=>h1,D⟩
 refine(adB v u l m w J S Z).mono ?_;rintro e w' ⟨rfl,D⟩;exact⟨none,0,0,by simp only[aER h],λJ=>absurd J h,D⟩
abbrev RN{z:Int}(J:aG w s (Ro z.natAbs))(h:(Ro z.natAbs).length<=100000000) :
  abB prog 257 #[.agg #[.b (z<0),s]] w (VH w (.i z.sign)):=by
 have D:=nX (decide (z<0)) _ _ w J h;rw[NP,aoL,aa1]at D;exact D
abbrev KY(D:aG w s l)(h:l.length<=1000000000) :
  abB prog 290 #[s] w (VH w (.i (bl (TP l):Nat))):=by
 refine(IB s l w D h).mono ?_;rintro e w' ⟨rfl,rfl⟩;exact⟨I,K01⟩
abbrev sN(neg:Bool)(J:aG w v (Ro a))(D:(Ro a).length<=1000000000) :
  abB prog 284 #[.b neg,v] w λe w'=>∃x,e = .R x∧aQ w.heap.size w' x (neg&&decide (0<a)) a∧Ext w w':=by
 have h:=nH neg v _ w J D;rw[NP]at h;exact h
abbrev Zv(v1:aaT)(J:Int)(K:Nat)(w:VO)(D:ku K w v1 J)(hK:K<=10000000):
  abB prog 300 #[v1] w λe w'=>∃x,e = .R x∧CB w.heap.size w' x (-J)∧Ext w w':=by
 obtain⟨n1,s1,l,rfl,D,hl,rfl⟩:=D;obtain⟨a1,c1,rfl⟩:=D.shape;refine aCG func300 ntmps300 λS=>aCF S λu b2 E3 J S=>aCF S λu b5 E6 J S=>adr S 5 [] [.M 1 0,.M 1 1] λS=>aCR S (nH (!n1) _ l _ (D.below S.E) Z) ?_;rintro e u ⟨x,rfl,J,E9⟩;obtain⟨b1,d1,rfl⟩:=J.shape;have D:=S.E.size;have D:=(S.bx 0).1;have D:=(S.bx 1).1;refine⟨_,I,E9,λS=>?_⟩;refine aCH S 0 I (λu D S=>?_);have MF:=J.ch D Z;refine aCU S 0 I (v := .agg #[.b (!n1&&decide (0<TP l)),.s b1 (Ro (TP l)).length d1]) (λS=>?_);exact⟨_,I,aoJ n1 (TP l)▸KO (aQ.mono MF Z),S.E⟩
abbrev rG(v1 v2:aaT)(J z2:Int)(K L:Nat)(w:VO)(D:ku K w v1 J)(h2:ku L w v2 z2)(hK:K<=10000000)(hL:L<=10000000):
  abB prog 264 #[v1,v2] w λe w'=>∃x,e = .R x∧CB w.heap.size w' x (J*z2)∧Ext w w':=by
 obtain⟨n1,s1,l,rfl,D,hl,rfl⟩:=D;obtain⟨a1,c1,rfl⟩:=D.shape;obtain⟨J,s2,m,rfl,h2,hm,rfl⟩:=h2;obtain⟨a2,c2,rfl⟩:=h2.shape;refine aCG func264 ntmps264 λS=>aCJ S [.b n1,.s a1 l.length c1] λu b2 E3 ab S=>aCJ S [.b J,.s a2 m.length c2] λu b5 E6 ac S=>aCJ S [.z,.sn] λu b8 E9 AL S=>jm S 11 [(14,λv w1=>aG w1 v (Ro (TP l*TP m))),(15,λv w1=>aQ w.heap.size w1 v ((n1 != J)&&decide (0<(TP l*TP m))) (TP l*TP m))] (λr=>[.M 2 0,.M 1 0,.M 2 1,.M 1 1]) (λx=>[x 14,x 15]) (λx=>[(_,_,true,x 14,14),(_,_,true,x 15,15)]) [[],[14]] (λx=>[(15,x 15)]) ⟨λ_ _ _ k h=>h.below k,λ_ _ _ k h=>h.ext k,G⟩ (λx=>⟨by intro u hC g F; exact(Zp _ _ _ _ _ (D.below (K00 S.E hC)) (h2.below (K00 S.E hC)) Z Z).mono λe w2 h=>by obtain⟨a,rfl,D,hb⟩:=h; exact⟨_,I,D,hb⟩,by intro u hC g F; obtain⟨WE,-⟩:=F; exact(sN (n1 != J) WE (by have:=ahD l m Z Z; omega)).mono λe w2 h=>by obtain⟨y,rfl,D,hb⟩:=h; exact⟨_,I,D.mono ((K00 S.E hC)).size,hb⟩,G⟩) (λu x qC F S=>?_);obtain⟨WE,D,-⟩:=F;obtain⟨b1,d1,em⟩:=aQ.shape D;rw[em]at S D;try rw[em]
 have LG:=S.bx 0;refine aCP S 0 (off:=0) (cs:=[.b ((n1 != J)&&decide (0<(TP l*TP m))),.s b1 (Ro (TP l*TP m)).length d1]) I (λu aa S=>?_);have pV:=aQ.eF D aa LG;refine aCU S 0 I (v := .agg #[.b ((n1 != J)&&decide (0<(TP l*TP m))),.s b1 (Ro (TP l*TP m)).length d1]) (λS=>?_);exact⟨_,I,(aoK n1 J (TP l) (TP m)).symm▸KO (aQ.mono pV Z),S.E⟩
abbrev Zw(v1 v2:aaT)(D J:Int)(K L:Nat)(w:VO)(h1:ku K w v1 D)(h2:ku L w v2 J)(hK:K<=10000000)(hL:L<=10000000):
  abB prog 299 #[v1,v2] w λe w'=>∃x,e = .R x∧CB w.heap.size w' x (D+J)∧Ext w w':=by
 obtain⟨n1,s1,l,rfl,h1,hl,rfl⟩:=h1;obtain⟨a1,c1,rfl⟩:=h1.shape;obtain⟨n2,s2,m,rfl,h2,D,rfl⟩:=h2;obtain⟨a2,c2,rfl⟩:=h2.shape;refine aCG func299 ntmps299 λS=>aCJ S [.b n1,.s a1 l.length c1] λu b2 J D S=>aCJ S [.b n2,.s a2 m.length c2] λu b5 J D S=>aCJ S [.z,.sn] λu b8 D J S=>adr S 5 [] [.M 2 0,.M 1 0] λS=>aCD S (n1==n2) (λD S=>?_) (λD S=>?_)
 .refine jm S 8 [(20,λv w1=>aG w1 v (Ro (TP l+TP m))),(21,λv w1=>aQ w.heap.size w1 v (n1&&decide (0<(TP l+TP m))) (TP l+TP m))] (λr=>[.M 2 0,.M 2 1,.M 1 1]) (λx=>[x 20,x 21]) (λx=>[(_,_,true,x 20,20),(_,_,true,x 21,21)]) [[],[20]] (λx=>[(21,x 21)]) ⟨λ_ _ _ k h=>h.below k,λ_ _ _ k h=>h.ext k,G⟩ (λx=>⟨by intro u hC g F; exact(Zq _ _ _ _ _ (h1.below (K00 S.E hC)) (h2.below (K00 S.E hC)) Z Z).mono λe w2 h=>by obtain⟨a,rfl,J,hb⟩:=h; exact⟨_,I,J,hb⟩,by intro u hC g F; obtain⟨ae,-⟩:=F; exact(sN n1 ae (by have:=ahE l m Z Z; omega)).mono λe w2 h=>by obtain⟨y,rfl,J,hb⟩:=h; exact⟨_,I,J.mono ((K00 S.E hC)).size,hb⟩,G⟩) (λu x an F S=>?_);obtain⟨ae,aa,-⟩:=F;obtain⟨b1,d1,em⟩:=aQ.shape aa;rw[em]at S aa;try rw[em]
  have ai:=S.bx 0;refine aCP S 0 (off:=0) (cs:=[.b (n1&&decide (0<(TP l+TP m))),.s b1 (Ro (TP l+TP m)).length d1]) I (λu af S=>?_);have DV:=aQ.eF aa af ai;refine aCU S 0 I (v := .agg #[.b (n1&&decide (0<(TP l+TP m))),.s b1 (Ro (TP l+TP m)).length d1]) (λS=>?_);obtain rfl:=eq_of_beq D;exact⟨_,I,(VQ n1 (TP l) (TP m)).symm▸KO (aQ.mono DV Z),S.E⟩
 refine adr S 4 [] [.M 2 1,.M 1 1] λS=>aCR S (KX _ _ _ _ _ (h1.below S.E) (h2.below S.E) Z) ?_;rintro e u ⟨p,q,c3,rfl,hs,xH⟩;refine⟨_,I,xH,λS=>?_⟩;refine aCD S (decide (TP m<=TP l)) (λKZ S=>?_) (λKZ S=>?_)
 .refine adr S 3 [] [.M 2 0] λS=>aCR S (sN (n1) (hs (aDw KZ)) (by have:=V3 l m Z; omega)) ?_;rintro e u ⟨x,rfl,J,Gq⟩;obtain⟨b1,d1,rfl⟩:=J.shape;have hz:=S.E.size;have al:=(S.bx 0).1;have ab:=(S.bx 1).1;have ac:=(S.bx 2).1;refine⟨_,I,Gq,λS=>?_⟩;refine aCP S 0 (off:=0) (cs:=[.b (n1&&decide (0<(TP l-TP m))),.s b1 (Ro (TP l-TP m)).length d1]) I (λu ag S=>?_);have zU:=J.ch ag Z;refine aCU S 0 I (v := .agg #[.b (n1&&decide (0<(TP l-TP m))),.s b1 (Ro (TP l-TP m)).length d1]) (λS=>?_);exact⟨_,I,(Gh (by simpa using D) (aDw KZ)).symm▸KO (aQ.mono zU Z),S.E⟩
 refine adr S 4 [] [.M 1 1,.M 2 1] λS=>aCR S (KX _ _ _ _ _ (h2.below S.E) (h1.below S.E) Z) ?_;rintro e u ⟨p2,q2,c2,rfl,am,zQ⟩;refine⟨_,I,zQ,λS=>?_⟩;refine adr S 8 [] [.M 1 0] λS=>aCR S (sN (n2) (am (by have:=aDA KZ; omega)) (by have:=V3 m l Z; omega)) ?_;rintro e u ⟨x,rfl,J,A8⟩;obtain⟨b1,d1,rfl⟩:=J.shape;have hz:=S.E.size;have al:=(S.bx 0).1;have ab:=(S.bx 1).1;have ac:=(S.bx 2).1;refine⟨_,I,A8,λS=>?_⟩;refine aCP S 0 (off:=0) (cs:=[.b (n2&&decide (0<(TP m-TP l))),.s b1 (Ro (TP m-TP l)).length d1]) I (λu ah S=>?_);have Eo:=J.ch ah Z;refine aCU S 0 I (v := .agg #[.b (n2&&decide (0<(TP m-TP l))),.s b1 (Ro (TP m-TP l)).length d1]) (λS=>?_);exact⟨_,I,(RD (a:=TP l) (b:=TP m) (by simpa using D) (by have:=aDA KZ; omega)).symm▸KO (aQ.mono Eo Z),S.E⟩
abbrev La(v1 v2:aaT)(D J:Int)(K L:Nat)(w:VO)(h1:ku K w v1 D)(h2:ku L w v2 J)(hK:K<=10000000)(hL:L<=10000000):
  abB prog 265 #[v1,v2] w λe w'=>∃x,e = .R x∧CB w.heap.size w' x (D-J)∧Ext w w':=by
 obtain⟨n1,s1,l,rfl,h1,hl,rfl⟩:=h1;obtain⟨a1,c1,rfl⟩:=h1.shape;obtain⟨D,s2,m,rfl,h2,hm,rfl⟩:=h2;obtain⟨a2,c2,rfl⟩:=h2.shape;refine aCG func265 ntmps265 λS=>aCJ S [.b n1,.s a1 l.length c1] λu b2 E3 J S=>aCJ S [.b D,.s a2 m.length c2] λu b5 E6 J S=>aCJ S [.z,.sn] λu b8 J AL S=>jm S 4 [(7,λv w1=>CB w.heap.size w1 v (-zv D (TP m))),(8,λv w1=>CB w.heap.size w1 v (zv n1 (TP l) + -zv D (TP m)))] (λr=>[.M 2 0,.M 1 0]) (λx=>[x 7,x 8]) (λx=>[(_,_,true,x 7,7),(_,_,true,x 8,8)]) [[],[7]] (λx=>[(8,x 8)]) ⟨λ_ _ _ k h=>h.ext k,λ_ _ _ k h=>h.ext k,G⟩ (λx=>⟨by intro u J g F; exact(Zv _ (zv D (TP m)) L _ ⟨D,_,m,I,h2.below (K00 S.E J),hm,I⟩ Z).mono λe w2 h=>by obtain⟨y,rfl,hx,hb⟩:=h; exact⟨_,I,hx.mono ((K00 S.E J)).size,hb⟩,by intro u J g F; obtain⟨F7,-⟩:=F; exact(Zw _ _ (zv n1 (TP l)) (-zv D (TP m)) K L _ ⟨n1,_,l,I,h1.below (K00 S.E J),hl,I⟩ (CB.toQ F7 (by rw[Int.natAbs_neg,tC]; have:=dA m; omega)) Z Z).mono λe w2 h=>by obtain⟨y,rfl,hx,hb⟩:=h; exact⟨_,I,hx.mono ((K00 S.E J)).size,hb⟩,G⟩) (λu x qC F S=>?_);obtain⟨F7,F8,-⟩:=F;obtain⟨b1,d1,J⟩:=aQ.shape F8;rw[J]at S F8;try rw[J]
 have LG:=S.bx 0;refine aCP S 0 (off:=0) (cs:=[.b ((zv n1 (TP l) + -zv D (TP m))<0),.s b1 (Ro (zv n1 (TP l) + -zv D (TP m)).natAbs).length d1]) I (λu J S=>?_);have pV:=aQ.eF F8 J LG;refine aCU S 0 I (v := .agg #[.b ((zv n1 (TP l) + -zv D (TP m))<0),.s b1 (Ro (zv n1 (TP l) + -zv D (TP m)).natAbs).length d1]) (λS=>?_);exact⟨_,I,pV,S.E⟩
abbrev Zx(v1 v2:aaT)(J z2:Int)(K L:Nat)(w:VO)(D:ku K w v1 J)(h2:ku L w v2 z2)(hK:K<=10000000)(hL:L<=10000000):
  abB prog 228 #[v1,v2] w (VH w (.i (J-z2).sign)):=by
 obtain⟨n1,s1,l,rfl,D,hl,rfl⟩:=D;obtain⟨a1,c1,rfl⟩:=D.shape;obtain⟨J,s2,m,rfl,h2,hm,rfl⟩:=h2;obtain⟨a2,c2,rfl⟩:=h2.shape;refine aCG func228 ntmps228 λS=>aCF S λu b2 E3 aa S=>aCF S λu b5 E6 ab S=>adr S 3 [] [.M 1 0,.M 0 0] λS=>aCR S (La _ _ (zv n1 (TP l)) (zv J (TP m)) K L _ ⟨n1,_,l,I,D.below S.E,hl,I⟩ ⟨J,_,m,I,h2.below S.E,hm,I⟩ Z Z) ?_;rintro e u ⟨x,rfl,⟨s,rfl,D,-⟩,E9⟩;obtain⟨b1,d1,rfl⟩:=D.shape;refine⟨_,I,E9,λS=>?_⟩;refine aCQ S (RN D (by have:=RJ (zv n1 (TP l)) (zv J (TP m)) (K:=K+L) (by rw[tC]; have:=dA l; omega) (by rw[tC]; have:=dA m; omega); omega)) λu D S=>aCB S (.i (Int.sign (zv n1 (TP l)-zv J (TP m)))) (λS=>?_);exact⟨I,S.E⟩
abbrev Ap(v1:aaT)(J:Int)(K:Nat)(w:VO)(D:ku K w v1 J)(hK:K<=10000000):
  abB prog 266 #[v1] w (VH w (.i (bl J.natAbs:Int))):=by
 obtain⟨n1,s1,l,rfl,D,hl,rfl⟩:=D;obtain⟨a1,c1,rfl⟩:=D.shape;refine aCG func266 ntmps266 λS=>aCF S λu b2 E3 J S=>adr S 3 [] [.M 0 1] λS=>aCQ S (KY (D.below S.E) Z) λu J S=>aCB S (.i (bl (TP l):Nat)) (λS=>?_);exact⟨by rw[tC],S.E⟩
abbrev aC.eF{base:Nat}{w w':VO}{v:aaT}{neg:Bool}{a b c:Nat}{A:Array aaT}(h:aC base w v neg a b)(S:Ch c w w')(hx:Bx w c A)(hA:A.toList.all CW=true:=by rfl):aC base w' v neg a b:=by
 obtain⟨s,t,rfl,D,J,fs,ft⟩:=h;exact⟨s,t,I,D.ch S (hx.off (Eb hA) D),J.ch S (hx.off (Eb hA) J),fs,ft⟩
abbrev _root_.Go.Sx.atD{P:Program}{w0 w:VO}{a:Act}{n:Nat}{l:List (Nat×aaT)}{bl:List (Nat×List aaT)}{vs:List fE}(S:Sx.St w0 a w n l bl vs){fn:Func}{R:Ending->VO->Prop}(i j k:Nat){r s t b c d:Nat}{ty:TypeId}{A B C:List aaT}{u v x:aaT}(hr:fn.results = #[.cell r ty,.cell s ty,.cell t ty])(hi:bl[i]?=some (b,A))(hj:bl[j]?=some (c,B))(hk:bl[k]?=some (d,C))(h:R (.R (.tuple #[u,v,x])) w)
  (J:Vp.ev l (.tmp r)=some (.q b 0):=by kernel_rfl) (h2:Vp.ev l (.tmp s)=some (.q c 0):=by kernel_rfl) (h3:Vp.ev l (.tmp t)=some (.q d 0):=by kernel_rfl) (l1:Sj P ty A=some u:=by kernel_rfl) (l2:Sj P ty B=some v:=by kernel_rfl) (l3:Sj P ty C=some x:=by kernel_rfl):bodyPost P fn R .ret a w:=by
 refine⟨S.s.defers,_,?_,h⟩;have D:=S.s.ev J;have J:=S.s.ev h2;have e3:=S.s.ev h3;unfold results;rw[hr];simp only[Act.eval,Array.getD_eq_getD_getElem?]at D J e3;simp[D,J,e3,asAddr,S.var hi l1,S.var hj l2,S.var hk l3]
abbrev V4{f:FuncId}{args:Array aaT}(h:abB prog f args w (VH w (.i (bl a:Nat))))(D:a=b):abB prog f args w (VH w (.i (bl b:Nat))):=D▸h
abbrev kC(v:aaT)(q:Bool×Nat×Nat)(K:Nat)(w:VO)(h:fA K w v q)(D:K<=1000000) :
  abB prog 175 #[v] w λe w'=>∃x,e = .R x∧dQ w.heap.size w' x q∧Ext w w':=by
 obtain⟨n1,s1,D,J,s2,S,rfl,h1,h2,h3,h4,rfl⟩:=h;exact pF n1 J s1 s2 D S w h1 h2 Z Z
abbrev V5(v1 v2:aaT)(z:Int)(d K:Nat)(w:VO)(D:ku K w v1 z)(J:ku K w v2 (d:Int))(hd:0<d)(S:K<=1000000) :
  abB prog 258 #[v1,v2] w λe w'=>∃x,e = .R x∧dQ w.heap.size w' x (nz z d)∧Ext w w':=by
 obtain⟨n1,s1,l,rfl,D,hl,rfl⟩:=D;obtain⟨n2,s2,m,rfl,J,hm,S⟩:=J;obtain⟨rfl,rfl⟩:n2=false∧TP m=d:=by
  unfold zv at S;cases n2
  .simp only[aFG,if_false]at S; exact⟨I,Z⟩
  simp only[if_true]at S; omega
 have h:=KJ n1 false s1 s2 l m w D J hd Z Z;rw[<-aoU];unfold nrm;rw[aC9 Z];exact h
abbrev Lc(v1 v2:aaT)(D J:Bool×Nat×Nat)(K1 K2:Nat)(w:VO)(h1:fA K1 w v1 D)(h2:fA K2 w v2 J)(a4:1<=K1)(a5:1<=K2)(bh:K1<=100000)(bj:K2<=100000) :
  abB prog 227 #[v1,v2] w λe w'=>∃x y d,e = .R (.tuple #[x,y,d])∧CB w.heap.size w' x (qz D*(J.2.2:Int))∧CB w.heap.size w' y (qz J*(D.2.2:Int))∧CB w.heap.size w' d ((D.2.2:Int)*(J.2.2:Int))∧Ext w w':=by
 obtain⟨n1,a1,m1,c1,o1,aq,k1,d1,rfl⟩:=h1.shape;have O4:=h1.len a4;have be:=h1.pos;obtain⟨n2,a2,m2,c2,o2,ar,k2,d2,rfl⟩:=h2.shape;have MK:=h2.len a5;have bg:=h2.pos;refine aCG func227 ntmps227 λS=>aCJ S [.b n1,.s a1 m1 c1,.b o1,.s aq k1 d1] λu b2 E3 a7 S=>aCJ S [.b n2,.s a2 m2 c2,.b o2,.s ar k2 d2] λu b5 E6 a8 S=>aCJ S [.z,.sn] λu b8 E9 AL S=>aCJ S [.z,.sn] λu a9 qC bb S=>aCJ S [.z,.sn] λu bc bd a6 S=>jm S 4 [(8,λv w1=>dQ w.heap.size w1 v D),(10,λv w1=>dQ w.heap.size w1 v J)] (λr=>[.M 4 0,.M 3 0]) (λx=>[x 8,x 10]) (λx=>[(_,_,true,x 8,8),(_,_,true,x 10,10)]) [[],[]] (λx=>[(8,x 8),(10,x 10)]) ⟨λ_ _ _ k h=>aC.ext h k,λ_ _ _ k h=>aC.ext h k,G⟩ (λx=>⟨by intro u hC g F; exact(kC _ D K1 _ (h1.below (K00 S.E hC)) Z).mono λe w2 h=>by obtain⟨x,rfl,hx,hb⟩:=h; exact⟨_,I,hx.mono ((K00 S.E hC)).size,hb⟩,by intro u hC g F; exact(kC _ J K2 _ (h2.below (K00 S.E hC)) Z).mono λe w2 h=>by obtain⟨x,rfl,hx,hb⟩:=h; exact⟨_,I,hx.mono ((K00 S.E hC)).size,hb⟩,G⟩) (λu x AZ F S=>?_);obtain⟨F8,ah,-⟩:=F;obtain⟨x1,e1,y1,f1,em⟩:=aC.shape F8;rw[em]at S F8;try rw[em]
 obtain⟨x2,e2,y2,f2,em⟩:=aC.shape ah;rw[em]at S ah;try rw[em]
 have YB:=S.bx 4;refine aCP S 4 (off:=0) (cs:=[.b D.1,.s x1 (Ro D.2.1).length e1,.z,.s y1 (Ro D.2.2).length f1]) I (λu an S=>?_);have sW:=aC.eF F8 an YB;have wS:=aC.eF ah an YB;have MP:=S.bx 3;refine aCP S 3 (off:=0) (cs:=[.b J.1,.s x2 (Ro J.2.1).length e2,.z,.s y2 (Ro J.2.2).length f2]) I (λu ao S=>?_);have ED:=aC.eF sW ao MP;have Gw:=aC.eF wS ao MP;refine jm S 15 [(15,λv w1=>CB w.heap.size w1 v (qz D*(J.2.2:Int))),(20,λv w1=>CB w.heap.size w1 v (qz J*(D.2.2:Int))),(25,λv w1=>CB w.heap.size w1 v ((D.2.2:Int)*(J.2.2:Int)))] (λr=>[.M 4 0,.M 3 2,.M 3 0,.M 4 2,.M 4 2,.M 3 2]) (λx=>[x 15,x 20,x 25]) (λx=>[(_,_,true,x 15,15),(_,_,true,x 20,20),(_,_,true,x 25,25)]) [[],[],[]] (λx=>[(15,x 15),(20,x 20),(25,x 25)]) ⟨λ_ _ _ k h=>aQ.ext h k,λ_ _ _ k h=>aQ.ext h k,λ_ _ _ k h=>aQ.ext h k,G⟩ (λx=>⟨by intro u hC g F; exact(rG _ _ _ _ _ _ _ (((ED.ext hC)).parts' O4).1 (((Gw.ext hC)).parts' MK).2 Z Z).mono λe w2 h=>by obtain⟨x,rfl,hx,hb⟩:=h; exact⟨_,I,hx.mono ((K00 S.E hC)).size,hb⟩,by intro u hC g F; exact(rG _ _ _ _ _ _ _ (((Gw.ext hC)).parts' MK).1 (((ED.ext hC)).parts' O4).2 Z Z).mono λe w2 h=>by obtain⟨x,rfl,hx,hb⟩:=h; exact⟨_,I,hx.mono ((K00 S.E hC)).size,hb⟩,by intro u hC g F; exact(rG _ _ _ _ _ _ _ (((ED.ext hC)).parts' O4).2 (((Gw.ext hC)).parts' MK).2 Z Z).mono λe w2 h=>by obtain⟨x,rfl,hx,hb⟩:=h; exact⟨_,I,hx.mono ((K00 S.E hC)).size,hb⟩,G⟩) (λu x Wy F S=>?_);obtain⟨ai,al,am,-⟩:=F;obtain⟨av,aw,em⟩:=aQ.shape ai;rw[em]at S ai;try rw[em]
 obtain⟨ax,ay,em⟩:=aQ.shape al;rw[em]at S al;try rw[em]
 obtain⟨az,a3,em⟩:=aQ.shape am;rw[em]at S am;try rw[em]
 have ae:=S.bx 2;refine aCP S 2 (off:=0) (cs:=[.b ((qz D*(J.2.2:Int))<0),.s av (Ro ((qz D*(J.2.2:Int))).natAbs).length aw]) I (λu aa S=>?_);have vI:=aQ.eF ai aa ae;have zV:=aQ.eF al aa ae;have Eo:=aQ.eF am aa ae;have af:=S.bx 1;refine aCP S 1 (off:=0) (cs:=[.b ((qz J*(D.2.2:Int))<0),.s ax (Ro ((qz J*(D.2.2:Int))).natAbs).length ay]) I (λu ab S=>?_);have S:=S.fl;have ap:=aQ.eF vI ab af;have zX:=aQ.eF zV ab af;have xU:=aQ.eF Eo ab af;have ag:=S.bx 0;refine aCP S 0 (off:=0) (cs:=[.b (((D.2.2:Int)*(J.2.2:Int))<0),.s az (Ro (((D.2.2:Int)*(J.2.2:Int))).natAbs).length a3]) I (λu ac S=>?_);have D:=aQ.eF ap ac ag;have J:=aQ.eF zX ac ag;have xX:=aQ.eF xU ac ag;refine zre S (λS=>?_);refine Sx.atD S 2 1 0 results227 I I I ⟨_,_,_,I,D,J,xX,S.E⟩
abbrev V6(v1 v2:aaT)(D J:Bool×Nat×Nat)(K1 K2:Nat)(w:VO)(h1:fA K1 w v1 D)(h2:fA K2 w v2 J)(am:1<=K1)(an:1<=K2)(aq:K1<=100000)(ar:K2<=100000) :
  abB prog 268 #[v1,v2] w λe w'=>∃x,e = .R x∧dQ w.heap.size w' x (Cb D J)∧Ext w w':=by
 obtain⟨n1,a1,m1,c1,o1,ai,k1,d1,rfl⟩:=h1.shape;have O4:=h1.len am;have ag:=h1.pos;obtain⟨n2,a2,m2,c2,o2,al,k2,d2,rfl⟩:=h2.shape;have MK:=h2.len an;have ah:=h2.pos;refine aCG func268 ntmps268 λS=>aCJ S [.b n1,.s a1 m1 c1,.b o1,.s ai k1 d1] λu b2 E3 ao S=>aCJ S [.b n2,.s a2 m2 c2,.b o2,.s al k2 d2] λu b5 E6 ap S=>aCJ S Sx.zr λu b8 E9 AL S=>jm S 4 [(6,λv w1=>dQ w.heap.size w1 v D),(8,λv w1=>dQ w.heap.size w1 v J)] (λr=>[.M 2 0,.M 1 0]) (λx=>[x 6,x 8]) (λx=>[(_,_,true,x 6,6),(_,_,true,x 8,8)]) [[],[]] (λx=>[(6,x 6),(8,x 8)]) ⟨λ_ _ _ k h=>aC.ext h k,λ_ _ _ k h=>aC.ext h k,G⟩ (λx=>⟨by intro u hC g F; exact(kC _ D K1 _ (h1.below (K00 S.E hC)) Z).mono λe w2 h=>by obtain⟨x,rfl,hx,hb⟩:=h; exact⟨_,I,hx.mono ((K00 S.E hC)).size,hb⟩,by intro u hC g F; exact(kC _ J K2 _ (h2.below (K00 S.E hC)) Z).mono λe w2 h=>by obtain⟨x,rfl,hx,hb⟩:=h; exact⟨_,I,hx.mono ((K00 S.E hC)).size,hb⟩,G⟩) (λu x qC F S=>?_);obtain⟨F6,F8,-⟩:=F;obtain⟨x1,e1,y1,f1,em⟩:=aC.shape F6;rw[em]at S F6;try rw[em]
 obtain⟨x2,e2,y2,f2,em⟩:=aC.shape F8;rw[em]at S F8;try rw[em]
 have LG:=S.bx 2;refine aCP S 2 (off:=0) (cs:=[.b D.1,.s x1 (Ro D.2.1).length e1,.z,.s y1 (Ro D.2.2).length f1]) I (λu ab S=>?_);have pV:=aC.eF F6 ab LG;have Gt:=aC.eF F8 ab LG;have ac:=S.bx 1;refine aCP S 1 (off:=0) (cs:=[.b J.1,.s x2 (Ro J.2.1).length e2,.z,.s y2 (Ro J.2.2).length f2]) I (λu LW S=>?_);have oG:=aC.eF pV LW ac;have Bv:=aC.eF Gt LW ac;refine jm S 11 [(13,λv w1=>CB w.heap.size w1 v (qz D*qz J)),(18,λv w1=>CB w.heap.size w1 v ((D.2.2:Int)*(J.2.2:Int))),(19,λv w1=>dQ w.heap.size w1 v (Cb D J))] (λr=>[.M 2 0,.M 1 0,.M 2 2,.M 1 2]) (λx=>[x 13,x 18,x 19]) (λx=>[(_,_,true,x 13,13),(_,_,true,x 18,18),(_,_,true,x 19,19)]) [[],[],[13,18]] (λx=>[(19,x 19)]) ⟨λ_ _ _ k h=>aQ.ext h k,λ_ _ _ k h=>aQ.ext h k,λ_ _ _ k h=>aC.ext h k,G⟩ (λx=>⟨by intro u hC g F; exact(rG _ _ _ _ _ _ _ (((oG.ext hC)).parts' O4).1 (((Bv.ext hC)).parts' MK).1 Z Z).mono λe w2 h=>by obtain⟨x,rfl,hx,hb⟩:=h; exact⟨_,I,hx.mono ((K00 S.E hC)).size,hb⟩,by intro u hC g F; exact(rG _ _ _ _ _ _ _ (((oG.ext hC)).parts' O4).2 (((Bv.ext hC)).parts' MK).2 Z Z).mono λe w2 h=>by obtain⟨x,rfl,hx,hb⟩:=h; exact⟨_,I,hx.mono ((K00 S.E hC)).size,hb⟩,by intro u hC g F; obtain⟨OI,ae,-⟩:=F; exact(V5 _ _ (qz D*qz J) (D.2.2*J.2.2) (K1+K2) _ (CB.toQ OI (kP _ _ (qw O4) (qw MK))) (CB.toQ (z:=((D.2.2*J.2.2:Nat):Int)) (by rw[Int.natCast_mul]; exact ae) (by rw[Int.natCast_mul]; exact kP _ _ (jT O4.2) (jT MK.2))) (aFF ag ah) Z).mono λe w2 h=>by obtain⟨x,rfl,hx,hb⟩:=h; exact⟨_,I,hx.mono ((K00 S.E hC)).size,hb⟩,G⟩) (λu x RZ F S=>?_);obtain⟨OI,ae,aa,-⟩:=F;obtain⟨x3,e3,y3,f3,em⟩:=aC.shape aa;rw[em]at S aa;try rw[em]
 have MP:=S.bx 0;refine aCP S 0 (off:=0) (cs:=[.b ((Cb D J).1),.s x3 (Ro (Cb D J).2.1).length e3,.z,.s y3 (Ro (Cb D J).2.2).length f3]) I (λu af S=>?_);have ED:=aC.eF aa af MP;refine aCU S 0 I (v := .agg #[.b ((Cb D J).1),.s x3 (Ro (Cb D J).2.1).length e3,.z,.s y3 (Ro (Cb D J).2.2).length f3]) (λS=>?_);exact⟨_,I,ED,S.E⟩
abbrev mP(v1 v2:aaT)(q1 q2:Bool×Nat×Nat)(K1 K2:Nat)(w:VO)(h1:fA K1 w v1 q1)(h2:fA K2 w v2 q2)(D:1<=K1)(J:1<=K2)(aa:K1<=100000)(ab:K2<=100000) :
  abB prog 181 #[v1,v2] w (VH w (.i (mZ q1 q2))):=by
 obtain⟨n1,a1,m1,c1,o1,am,k1,d1,rfl⟩:=h1.shape;have O4:=h1.len D;have ah:=h1.pos;obtain⟨n2,a2,m2,c2,o2,an,k2,d2,rfl⟩:=h2.shape;have MK:=h2.len J;have ai:=h2.pos;refine aCG func181 ntmps181 λS=>aCF S λu b2 E3 ac S=>aCF S λu b5 E6 ae S=>adr S 3 [] [.M 1 0,.M 0 0] λS=>aCR S (Lc _ _ q1 q2 K1 K2 _ (h1.below S.E) (h2.below S.E) D J aa ab) ?_;rintro e u ⟨x,y,d,rfl,hx,hy,hd,D⟩;obtain⟨p0,J,rfl⟩:=hx.shape;obtain⟨p1,J,rfl⟩:=hy.shape;obtain⟨p2,J,rfl⟩:=hd.shape;refine⟨_,I,D,λS=>?_⟩;refine aCF S λu b10 D J S=>aCF S λu J xw af S=>aCF S λu J yP ag S=>aCH S 2 I (λu J S=>?_);have zO:=aCI (K00 D (K00 xw yP)) J;have xH:=aCI (K00 D (K00 xw yP)) J;have RZ:=aCI (K00 D (K00 xw yP)) J;refine aCH S 1 I (λu J S=>?_);have zS:=aCI zO J (by have:=D.size; omega);have Gq:=aCI xH J (by have:=D.size; omega);have PS:=aCI RZ J (by have:=D.size; omega);refine aCH S 0 I (λu J S=>?_);have Wy:=aCI zS J (by have:=(K00 D xw).size; omega);have zQ:=aCI Gq J (by have:=(K00 D xw).size; omega);have al:=aCI PS J (by have:=(K00 D xw).size; omega);refine adr S 2 [] [.M 2 0,.M 1 0] λS=>aCQ S (Zx _ _ _ _ _ _ _ (CB.toQ (K:=K1+K2) ((hx.ext Wy)) (kP _ _ (qw O4) (jT MK.2))) (CB.toQ (K:=K1+K2) ((hy.ext zQ)) (by rw[aFl]; exact kP _ _ (qw MK) (jT O4.2))) Z Z) λu D S=>aCB S (.i (mZ q1 q2)) (λS=>?_);exact⟨I,S.E⟩
abbrev ahF(v1 v2:aaT)(D J:Bool×Nat×Nat)(K1 K2:Nat)(w:VO)(h1:fA K1 w v1 D)(h2:fA K2 w v2 J)(ag:1<=K1)(ah:1<=K2)(ap:K1<=100000)(aq:K2<=100000) :
  abB prog 267 #[v1,v2] w λe w'=>∃x,e = .R x∧dQ w.heap.size w' x (MW D J)∧Ext w w':=by
 obtain⟨n1,a1,m1,c1,o1,an,k1,d1,rfl⟩:=h1.shape;have O4:=h1.len ag;have ai:=h1.pos;obtain⟨n2,a2,m2,c2,o2,ao,k2,d2,rfl⟩:=h2.shape;have MK:=h2.len ah;have al:=h2.pos;refine aCG func267 ntmps267 λS=>aCJ S [.b n1,.s a1 m1 c1,.b o1,.s an k1 d1] λu b2 E3 ar S=>aCJ S [.b n2,.s a2 m2 c2,.b o2,.s ao k2 d2] λu b5 E6 av S=>aCJ S Sx.zr λu b8 E9 AL S=>adr S 2 [] [.M 2 0,.M 1 0] λS=>aCR S (Lc _ _ D J K1 K2 _ (h1.below S.E) (h2.below S.E) ag ah ap aq) ?_;rintro e u ⟨x,y,d,rfl,hx,hy,hd,qC⟩;obtain⟨p0,g0,rfl⟩:=hx.shape;obtain⟨p1,g1,rfl⟩:=hy.shape;obtain⟨p2,g2,rfl⟩:=hd.shape;refine⟨_,I,qC,λS=>?_⟩;refine aCJ S [.z,.sn] λu aw xw ax S=>aCJ S [.z,.sn] λu ay yP az S=>aCJ S [.z,.sn] λu a3 zO xJ S=>aCP S 2 (off:=0) (cs:=[.b ((qz D*(J.2.2:Int))<0),.s p0 (Ro ((qz D*(J.2.2:Int))).natAbs).length g0]) I (λu ab S=>?_);have WI:=aCI (K00 xw (K00 yP zO)) ab;have zS:=aCI (K00 xw (K00 yP zO)) ab;have Gq:=aCI (K00 xw (K00 yP zO)) ab;refine aCP S 1 (off:=0) (cs:=[.b ((qz J*(D.2.2:Int))<0),.s p1 (Ro ((qz J*(D.2.2:Int))).natAbs).length g1]) I (λu ac S=>?_);have am:=aCI WI ac (by have:=xw.size; omega);have Wy:=aCI zS ac (by have:=xw.size; omega);have zQ:=aCI Gq ac (by have:=xw.size; omega);refine aCP S 0 (off:=0) (cs:=[.b (((D.2.2:Int)*(J.2.2:Int))<0),.s p2 (Ro (((D.2.2:Int)*(J.2.2:Int))).natAbs).length g2]) I (λu LD S=>?_);have A8:=aCI am LD (by have:=(K00 xw yP).size; omega);have JB:=aCI Wy LD (by have:=(K00 xw yP).size; omega);have af:=aCI zQ LD (by have:=(K00 xw yP).size; omega);refine jm S 5 [(17,λv w1=>CB w.heap.size w1 v ((qz D*(J.2.2:Int))-(qz J*(D.2.2:Int)))),(19,λv w1=>dQ w.heap.size w1 v (MW D J))] (λr=>[.M 2 0,.M 1 0,.M 0 0]) (λx=>[x 17,x 19]) (λx=>[(_,_,true,x 17,17),(_,_,true,x 19,19)]) [[],[17]] (λx=>[(19,x 19)]) ⟨λ_ _ _ k h=>aQ.ext h k,λ_ _ _ k h=>aC.ext h k,G⟩ (λx=>⟨by intro u hC g F; exact(La _ _ _ _ _ _ _ (CB.toQ (K:=K1+K2) ((hx.ext (K00 A8 hC))) (kP _ _ (qw O4) (jT MK.2))) (CB.toQ (K:=K1+K2) ((hy.ext (K00 JB hC))) (by rw[aFl]; exact kP _ _ (qw MK) (jT O4.2))) Z Z).mono λe w2 h=>by obtain⟨x,rfl,hx,hb⟩:=h; exact⟨_,I,hx.mono ((K00 S.E hC)).size,hb⟩,by intro u hC g F; obtain⟨TG,-⟩:=F; exact(V5 _ _ ((qz D*(J.2.2:Int))-(qz J*(D.2.2:Int))) (D.2.2*J.2.2) (K1+K2+1) _ (CB.toQ TG (RJ _ _ (KW (K:=K1+K2) (CB.toQ (K:=K1+K2) ((hx.ext (K00 A8 hC))) (kP _ _ (qw O4) (jT MK.2)))) (KW (K:=K1+K2) (CB.toQ (K:=K1+K2) ((hy.ext (K00 JB hC))) (by rw[aFl]; exact kP _ _ (qw MK) (jT O4.2)))))) (by rw[Int.natCast_mul]; exact ku.mono (CB.toQ (K:=K1+K2) ((hd.ext (K00 af hC))) (kP _ _ (jT O4.2) (jT MK.2))) Z) (aFF ai al) Z).mono λe w2 h=>by obtain⟨x,rfl,hx,hb⟩:=h; exact⟨_,I,hx.mono ((K00 S.E hC)).size,hb⟩,G⟩) (λu x LK F S=>?_);obtain⟨TG,ae,-⟩:=F;obtain⟨x3,e3,y3,f3,em⟩:=aC.shape ae;rw[em]at S ae;try rw[em]
 have aa:=S.bx 3;refine aCP S 3 (off:=0) (cs:=[.b ((MW D J).1),.s x3 (Ro (MW D J).2.1).length e3,.z,.s y3 (Ro (MW D J).2.2).length f3]) I (λu Ed S=>?_);have S:=S.fl;have xU:=aQ.eF (hx.ext (K00 A8 LK)) Ed aa;have Bz:=aQ.eF (hy.ext (K00 JB LK)) Ed aa;have EC:=aQ.eF (hd.ext (K00 af LK)) Ed aa;have xW:=aC.eF ae Ed aa;refine aCU S 3 I (v := .agg #[.b ((MW D J).1),.s x3 (Ro (MW D J).2.1).length e3,.z,.s y3 (Ro (MW D J).2.2).length f3]) (λS=>?_);exact⟨_,I,xW,S.E⟩
abbrev nZ(v1:aaT)(D:Bool×Nat×Nat)(J:Nat)(w:VO)(h1:fA J w v1 D)(ab:1<=J)(hM:J<=100000) :
  abB prog 229 #[v1] w (VH w (.i (eU D:Int))):=by
 obtain⟨n1,a1,m1,c1,o1,aa,k1,d1,rfl⟩:=h1.shape;have O4:=h1.len ab;have ae:=h1.pos;refine aCG func229 ntmps229 λS=>aCJ S [.b n1,.s a1 m1 c1,.b o1,.s aa k1 d1] λu b2 E3 ac S=>adr S 2 [] [.M 0 0] λS=>aCR S (kC _ D J _ (h1.below S.E) Z) ?_;rintro e u ⟨x,rfl,hx,E6⟩;obtain⟨x1,J,y1,f1,rfl⟩:=aC.shape hx;refine⟨_,I,E6,λS=>?_⟩;have X8:=S.bx 0;refine aCP S 0 (off:=0) (cs:=[.b D.1,.s x1 (Ro D.2.1).length J,.z,.s y1 (Ro D.2.2).length f1]) I (λu C7 S=>?_);have J:=aC.eF hx C7 X8;refine aCV S 7 [.M 0 0,.M 0 2,.re 11 (.i (if ((bl (D.2.2):Nat):Int)>((bl (D.2.1):Nat):Int)then ((bl (D.2.2):Nat):Int)else ((bl (D.2.1):Nat):Int))) (.i (max ((bl (D.2.1):Nat):Int) ((bl (D.2.2):Nat):Int)))] [(_,_,true,.i (bl (D.2.1):Nat)),(_,_,true,.i (bl (D.2.2):Nat))] [(11,.i (max ((bl (D.2.1):Nat):Int) ((bl (D.2.2):Nat):Int)))] ⟨λu hC g=>V4 (Ap _ _ _ _ (((J.ext hC)).parts' O4).1 Z) (by first | (rw[show(qz D).natAbs=D.2.1 from tC ..]) | rw[aFo]),λu hC g=>V4 (Ap _ _ _ _ (((J.ext hC)).parts' O4).2 Z) (by first | (rw[show(qz D).natAbs=D.2.1 from tC ..]) | rw[aFo]),G⟩ (hk:=⟨aoV,G⟩) λu J S=>aCB S (.i (max ((bl (D.2.1):Nat):Int) ((bl (D.2.2):Nat):Int))) (λS=>?_);exact⟨by unfold eU; congr 2; omega,S.E⟩
structure Q6 where
 a:Bool×Nat×Nat
 b:Bool×Nat×Nat
 c:Bool×Nat×Nat
 d:Bool×Nat×Nat
 e:Bool×Nat×Nat
 f:Bool×Nat×Nat
def eG(R:VO->aaT->Bool×Nat×Nat->Prop)(w:VO)(v:aaT)(Q:Q6):Prop:=
 ∃c0 c1 c2 c3 c4 c5 c6 c7 c8 c9 c10 D J S aa ab ac ae af ag ah ai WH al:aaT,v = .agg #[c0,c1,c2,c3,c4,c5,c6,c7,c8,c9,c10,D,J,S,aa,ab,ac,ae,af,ag,ah,ai,WH,al]∧R w (.agg #[c0,c1,c2,c3]) Q.a∧R w (.agg #[c4,c5,c6,c7]) Q.b∧R w (.agg #[c8,c9,c10,D]) Q.c∧R w (.agg #[J,S,aa,ab]) Q.d∧R w (.agg #[ac,ae,af,ag]) Q.e∧R w (.agg #[ah,ai,WH,al]) Q.f
abbrev nG (K:Nat):VO->aaT->Q6->Prop:=eG (fA K)
abbrev tJ (base:Nat):VO->aaT->Q6->Prop:=eG (dQ base)
abbrev eG.mono{R J:VO->aaT->Bool×Nat×Nat->Prop}{w w':VO}{v:aaT}{Q:Q6}(h:eG R w v Q)(D:∀x q,R w x q->J w' x q):eG J w' v Q:=by
 obtain⟨c0,c1,c2,c3,c4,c5,c6,c7,c8,c9,c10,J,S,aa,ab,ac,ae,af,ag,ah,ai,al,WH,am,hv,h0,h1,h2,h3,h4,h5⟩:=h;exact⟨c0,c1,c2,c3,c4,c5,c6,c7,c8,c9,c10,J,S,aa,ab,ac,ae,af,ag,ah,ai,al,WH,am,hv,D _ _ h0,D _ _ h1,D _ _ h2,D _ _ h3,D _ _ h4,D _ _ h5⟩
abbrev eG.iU{K:Nat}{w w':VO}{v:aaT}{Q:Q6}(h:nG K w v Q)(D:Ext w w'):nG K w' v Q:=h.mono λ_ _ k=>k.below D
abbrev eG.uM{base:Nat}{w w':VO}{v:aaT}{Q:Q6}(h:tJ base w v Q)(D:Ext w w'):tJ base w' v Q:=h.mono λ_ _ k=>k.ext D
abbrev eG.alz{base D:Nat}{w:VO}{v:aaT}{Q:Q6}(h:tJ base w v Q)(J:D<=base):tJ D w v Q:=h.mono λ_ _ k=>aC.mono k J
def CU(Q:Q6):Prop:=Nw Q.a∧Nw Q.b∧Nw Q.c∧Nw Q.d∧Nw Q.e∧Nw Q.f
def Tf(K:Nat)(Q:Q6):Prop:=qlen K Q.a∧qlen K Q.b∧qlen K Q.c∧qlen K Q.d∧qlen K Q.e∧qlen K Q.f
abbrev eG.nrm{K:Nat}{w:VO}{v:aaT}{Q:Q6}(h:nG K w v Q):CU Q:=by
 obtain⟨c0,c1,c2,c3,c4,c5,c6,c7,c8,c9,c10,D,J,S,aa,ab,ac,ae,af,ag,ah,ai,WH,al,hv,h0,h1,h2,h3,h4,h5⟩:=h;exact⟨h0.nrm,h1.nrm,h2.nrm,h3.nrm,h4.nrm,h5.nrm⟩
abbrev eG.len{K:Nat}{w:VO}{v:aaT}{Q:Q6}(h:nG K w v Q)(D:1<=K):Tf K Q:=by
 obtain⟨c0,c1,c2,c3,c4,c5,c6,c7,c8,c9,c10,J,S,aa,ab,ac,ae,af,ag,ah,ai,al,WH,am,hv,h0,h1,h2,h3,h4,h5⟩:=h;exact⟨h0.len D,h1.len D,h2.len D,h3.len D,h4.len D,h5.len D⟩
def bG.q(t:bG):Q6:=⟨t.a.q,t.b.q,t.c.q,t.d.q,t.e.q,t.f.q⟩
abbrev bG.toQ{K:Nat}{w:VO}{t:bG}(h:t.ok w)(hf:t.fit K):nG K w t.v t.q:=by
 obtain⟨D,J,S,h3,h4,h5⟩:=h;obtain⟨f0,f1,f2,f3,f4,f5⟩:=hf;exact⟨_,_,_,_,_,_,_,_,_,_,_,_,_,_,_,_,_,_,_,_,_,_,_,_,I,bM.toQ D f0,bM.toQ J f1,bM.toQ S f2,bM.toQ h3 f3,bM.toQ h4 f4,bM.toQ h5 f5⟩
def Q6.valid(Q:Q6):Bool:=decide (eU Q.a<=256)&&(decide (eU Q.b<=256)&&(decide (eU Q.c<=256)&&(decide (eU Q.d<=256)&&(decide (eU Q.e<=256)&&(decide (eU Q.f<=256))))))
def Q6.Fp(Q:Q6):Bool×Nat×Nat:=MW (Cb Q.a Q.d) (Cb Q.b Q.c)
def Q6.eq(P Q:Q6):Bool:=qx P.a Q.a&&(qx P.b Q.b&&(qx P.c Q.c&&(qx P.d Q.d&&(qx P.e Q.e&&(qx P.f Q.f)))))
open Go.RowKit Na Go.Sx
variable{α:Type}
def qI:Q6:=⟨(false,1,1),(false,0,1),(false,0,1),(false,1,1),(false,0,1),(false,0,1)⟩
open Go.RowKit Na Go.Sx
variable{α:Type}
abbrev fA.iV{K:Nat}{w:VO}{v:aaT}{q:Bool×Nat×Nat}(h:fA K w v q):∃r:bM,v=r.v:=by
 obtain⟨n1,s1,D,J,s2,S,rfl,h1,h2,_⟩:=h;obtain⟨a1,c1,rfl,_⟩:=h1;obtain⟨a2,c2,rfl,_⟩:=h2;exact⟨⟨n1,a1,c1,D,J,a2,c2,S⟩,I⟩
abbrev aC.iV{base:Nat}{w:VO}{v:aaT}{neg:Bool}{a b:Nat}(h:aC base w v neg a b):∃r:bM,v=r.v:=by
 obtain⟨s,t,rfl,D,J,_⟩:=h;obtain⟨a1,c1,rfl,_⟩:=D;obtain⟨a2,c2,rfl,_⟩:=J;exact⟨⟨_,a1,c1,_,_,a2,c2,_⟩,I⟩
abbrev eG.ahG{R:VO->aaT->Bool×Nat×Nat->Prop}{w:VO}{v:aaT}{Q:Q6}(h:eG R w v Q)(D:∀x q,R w x q->∃r:bM,x=r.v):∃t:bG,v=t.v∧R w t.a.v Q.a∧R w t.b.v Q.b∧R w t.c.v Q.c∧R w t.d.v Q.d∧R w t.e.v Q.e∧R w t.f.v Q.f:=by
 obtain⟨c0,c1,c2,c3,c4,c5,c6,c7,c8,c9,c10,aa,ab,ac,ae,af,ag,ah,ai,al,am,an,WH,ao,rfl,J,S,h2,h3,h4,h5⟩:=h;obtain⟨r0,e0⟩:=D _ _ J;simp only[bM.v,aE6,aE7,aDP,and_true]at e0;obtain⟨rfl,rfl,rfl,rfl⟩:=e0;obtain⟨r1,e1⟩:=D _ _ S;simp only[bM.v,aE6,aE7,aDP,and_true]at e1;obtain⟨rfl,rfl,rfl,rfl⟩:=e1;obtain⟨r2,e2⟩:=D _ _ h2;simp only[bM.v,aE6,aE7,aDP,and_true]at e2;obtain⟨rfl,rfl,rfl,rfl⟩:=e2;obtain⟨r3,e3⟩:=D _ _ h3;simp only[bM.v,aE6,aE7,aDP,and_true]at e3;obtain⟨rfl,rfl,rfl,rfl⟩:=e3;obtain⟨r4,e4⟩:=D _ _ h4;simp only[bM.v,aE6,aE7,aDP,and_true]at e4;obtain⟨rfl,rfl,rfl,rfl⟩:=e4;obtain⟨r5,e5⟩:=D _ _ h5;simp only[bM.v,aE6,aE7,aDP,and_true]at e5;obtain⟨rfl,rfl,rfl,rfl⟩:=e5;exact⟨⟨r0,r1,r2,r3,r4,r5⟩,I,J,S,h2,h3,h4,h5⟩
abbrev eG.sQ{K:Nat}{w:VO}{v:aaT}{Q:Q6}(h:nG K w v Q):∃t:bG,v=t.v∧fA K w t.a.v Q.a∧fA K w t.b.v Q.b∧fA K w t.c.v Q.c∧fA K w t.d.v Q.d∧fA K w t.e.v Q.e∧fA K w t.f.v Q.f:=h.ahG λ_ _ k=>k.iV
abbrev eG.sT{base:Nat}{w:VO}{v:aaT}{Q:Q6}(h:tJ base w v Q):∃t:bG,v=t.v∧dQ base w t.a.v Q.a∧dQ base w t.b.v Q.b∧dQ base w t.c.v Q.c∧dQ base w t.d.v Q.d∧dQ base w t.e.v Q.e∧dQ base w t.f.v Q.f:=h.ahG λ_ _ k=>aC.iV k
abbrev eG.of{R:VO->aaT->Bool×Nat×Nat->Prop}{w:VO}{t:bG}{Q:Q6}(D:R w t.a.v Q.a)(J:R w t.b.v Q.b)(S:R w t.c.v Q.c)(h3:R w t.d.v Q.d)(h4:R w t.e.v Q.e)(h5:R w t.f.v Q.f):eG R w t.v Q:=
 ⟨_,_,_,_,_,_,_,_,_,_,_,_,_,_,_,_,_,_,_,_,_,_,_,_,I,D,J,S,h3,h4,h5⟩
abbrev eG.inv{R:VO->aaT->Bool×Nat×Nat->Prop}{w:VO}{t:bG}{Q:Q6}(h:eG R w t.v Q):R w t.a.v Q.a∧R w t.b.v Q.b∧R w t.c.v Q.c∧R w t.d.v Q.d∧R w t.e.v Q.e∧R w t.f.v Q.f:=by
 obtain⟨c0,c1,c2,c3,c4,c5,c6,c7,c8,c9,c10,D,J,S,aa,ab,ac,ae,af,ag,ah,ai,WH,al,e,h0,h1,h2,h3,h4,h5⟩:=h;simp only[bG.v,bG.cells,bM.cells,aEp,aD8,aE6,aE7,aDP,and_true]at e;obtain⟨rfl,rfl,rfl,rfl,rfl,rfl,rfl,rfl,rfl,rfl,rfl,rfl,rfl,rfl,rfl,rfl,rfl,rfl,rfl,rfl,rfl,rfl,rfl,rfl⟩:=e;exact⟨h0,h1,h2,h3,h4,h5⟩
abbrev eG.pa{R:VO->aaT->Bool×Nat×Nat->Prop}{w:VO}{t:bG}{Q:Q6}(h:eG R w t.v Q):R w t.a.v Q.a:=h.inv.1
abbrev eG.pb{R:VO->aaT->Bool×Nat×Nat->Prop}{w:VO}{t:bG}{Q:Q6}(h:eG R w t.v Q):R w t.b.v Q.b:=h.inv.2.1
abbrev eG.pc{R:VO->aaT->Bool×Nat×Nat->Prop}{w:VO}{t:bG}{Q:Q6}(h:eG R w t.v Q):R w t.c.v Q.c:=h.inv.2.2.1
abbrev eG.pd{R:VO->aaT->Bool×Nat×Nat->Prop}{w:VO}{t:bG}{Q:Q6}(h:eG R w t.v Q):R w t.d.v Q.d:=h.inv.2.2.2.1
abbrev eG.pe{R:VO->aaT->Bool×Nat×Nat->Prop}{w:VO}{t:bG}{Q:Q6}(h:eG R w t.v Q):R w t.e.v Q.e:=h.inv.2.2.2.2.1
abbrev eG.pf{R:VO->aaT->Bool×Nat×Nat->Prop}{w:VO}{t:bG}{Q:Q6}(h:eG R w t.v Q):R w t.f.v Q.f:=h.inv.2.2.2.2.2
abbrev eG.eF{base:Nat}{w w':VO}{v:aaT}{Q:Q6}{b:Nat}{A:Array aaT}(h:tJ base w v Q)(D:Ch b w w')(J:Bx w b A)(hA:A.toList.all CW=true:=by rfl):tJ base w' v Q:=h.mono λ_ _ k=>aC.eF k D J hA
end
section
open Go.RowKit Na Go.Sx
abbrev eqPt(x y p q:Int)(w:VO):(binOp .eql 130 (.agg #[.i x,.i y]) (.agg #[.i p,.i q])).run prog w = .ok (.b ((x==p)&&(y==q))) w:=by
 simp[go_sem];(repeat' split)<;>simp_all
abbrev aoW(x y p q:Int)(w:VO):(binOp .neq 130 (.agg #[.i x,.i y]) (.agg #[.i p,.i q])).run prog w = .ok (.b (!((x==p)&&(y==q)))) w:=by
 simp[go_sem];(repeat' split)<;>simp_all
abbrev akM(a b c d e f g h:Int)(w:VO):(binOp .eql 178 (.agg #[.u a,.u b,.u c,.u d]) (.agg #[.u e,.u f,.u g,.u h])).run prog w = .ok (.b ((a==e)&&((b==f)&&((c==g)&&(d==h))))) w:=by
 simp[go_sem];(repeat' split)<;>simp_all
abbrev akE(a b c d e f g h:Int)(w:VO):(binOp .neq 178 (.agg #[.u a,.u b,.u c,.u d]) (.agg #[.u e,.u f,.u g,.u h])).run prog w = .ok (.b (!((a==e)&&((b==f)&&((c==g)&&(d==h)))))) w:=by
 simp[go_sem];(repeat' split)<;>simp_all
abbrev ae0(a b c d e f g h:Int)(w:VO):(binOp .eql 40 (.agg #[.u a,.u b,.u c,.u d]) (.agg #[.u e,.u f,.u g,.u h])).run prog w = .ok (.b ((a==e)&&((b==f)&&((c==g)&&(d==h))))) w:=by
 simp[go_sem];(repeat' split)<;>simp_all
abbrev aeU(o a b c d p e f g h:Int)(w:VO):(binOp .neq 202 (.agg #[.i o,.u a,.u b,.u c,.u d]) (.agg #[.i p,.u e,.u f,.u g,.u h])).run prog w = .ok (.b (!((o==p)&&((a==e)&&((b==f)&&((c==g)&&(d==h))))))) w:=by
 simp[go_sem];(repeat' split)<;>simp_all
abbrev akD(v a b c d e f D J b' S d' e' f':Int)(w:VO):(binOp .neq 163 (.agg #[.i v,.i a,.i b,.i c,.i d,.i e,.i f]) (.agg #[.i D,.i J,.i b',.i S,.i d',.i e',.i f'])).run prog w =
  .ok (.b (!((v==D)&&((a==J)&&((b==b')&&((c==S)&&((d==d')&&((e==e')&&(f==f'))))))))) w:=by
 simp[go_sem];(repeat' split)<;>simp_all
end
section
open Go.RowKit Na Go.Sx
variable{α:Type}
def iE(n lo D:Int):Int:=if n<lo then lo else if D<n then D else n
abbrev V7(x y:Int):((iE x (-1048576) 1048576==x)&&(iE y (-1048576) 1048576==y))=kL.valid ⟨x,y⟩:=by
 have h:∀z:Int,(iE z (-1048576) 1048576==z)=cok z:=by
  intro z;rw[aEI];unfold iE cok;simp only[aDu,aDt,aDv];(repeat' split)<;>omega
 rw[h,h]; rfl
abbrev adD(n lo J:Int)(w:VO) :
  abB prog 335 #[.i n,.i lo,.i J] w λe w'=>e = .R (.i (iE n lo J))∧w=w':=by
 skip;refine aCG func335 ntmps335 λS=>aCD S (decide (n<lo)) (λD S=>?_) (λD S=>?_)
 .have p0:=D;try simp only[aDv,aDQ,aDu,aDH,ne_eq,bne_iff_ne,bne_eq_false_iff_eq]at p0
  refine aCB S (.i lo) (λS=>?_);exact⟨jS (by unfold iE; (repeat' split)<;>omega),I⟩
 refine aCD S (decide (J<n)) (λmJ S=>?_) (λmJ S=>?_)
 .have p0:=D;try simp only[aDv,aDQ,aDu,aDH,ne_eq,bne_iff_ne,bne_eq_false_iff_eq]at p0
  have p1:=mJ;try simp only[aDv,aDQ,aDu,aDH,ne_eq,bne_iff_ne,bne_eq_false_iff_eq]at p1
  refine aCB S (.i J) (λS=>?_);exact⟨jS (by unfold iE; (repeat' split)<;>omega),I⟩
 have p0:=D;try simp only[aDv,aDQ,aDu,aDH,ne_eq,bne_iff_ne,bne_eq_false_iff_eq]at p0
 have p1:=mJ;try simp only[aDv,aDQ,aDu,aDH,ne_eq,bne_iff_ne,bne_eq_false_iff_eq]at p1
 refine aCB S (.i n) (λS=>?_);exact⟨jS (by unfold iE; (repeat' split)<;>omega),I⟩
abbrev V8(n:Int)(w:VO) :
  abB prog 334 #[.i n] w λe w'=>e = .R (.i (iE n (-1048576) 1048576))∧w=w':=by
 skip;refine aCG func334 ntmps334 λS=>mD S (adD (n) (-1048576) (1048576) _) λS=>aCB S (.i (iE n (-1048576) (1048576))) (λS=>?_);exact⟨I,I⟩
abbrev ahH(x y:Int)(w:VO) :
  abB prog 330 #[.agg #[.i x,.i y]] w (VH w (.agg #[.i (iE x (-1048576) 1048576),.i (iE y (-1048576) 1048576)])):=by
 skip;refine aCG func330 ntmps330 λS=>aCF S λu b2 J D S=>aCF S λu b5 J D S=>aCV S 9 [.M 1 0,.M 1 1] [(_,_,true,.i (iE x (-1048576) 1048576)),(_,_,true,.i (iE y (-1048576) 1048576))] [(12,.agg #[.i (iE x (-1048576) 1048576),.i (iE y (-1048576) 1048576)])] ⟨λu D g=>aC3 (V8 x _),λu D g=>aC3 (V8 y _),G⟩ λu D S=>aCH S 0 I λu D S=>aCU S 0 I (v := .agg #[.i (iE x (-1048576) 1048576),.i (iE y (-1048576) 1048576)]) (λS=>?_);exact⟨I,S.E⟩
abbrev l7(x y:Int)(w:VO) :
  abB prog 301 #[.agg #[.i x,.i y]] w (VH w (.b (kL.valid ⟨x,y⟩))):=by
 skip;refine aCG func301 ntmps301 λS=>aCF S λu b2 J D S=>aCV S 4 [.M 0 0,.M 0 0,.cmp .eql 130 (.tmp 4) (.tmp 5) (.agg #[.i (iE x (-1048576) 1048576),.i (iE y (-1048576) 1048576)]) (.agg #[.i x,.i y]) (.b (((iE x (-1048576) 1048576)==x)&&((iE y (-1048576) 1048576)==y)))] [(_,_,true,.agg #[.i (iE x (-1048576) 1048576),.i (iE y (-1048576) 1048576)])] [(6,.b (((iE x (-1048576) 1048576)==x)&&((iE y (-1048576) 1048576)==y)))] ⟨λu D g=>ahH x y _,G⟩ (hk:=⟨aEg (λ_=>eqPt ..) X,G⟩) λu D S=>aCB S (.b (((iE x (-1048576) 1048576)==x)&&((iE y (-1048576) 1048576)==y))) (λS=>?_);exact⟨by rw[<-V7],S.E⟩
abbrev zB(v:Int)(w:VO) :
  abB prog 269 #[.i v] w λe w'=>e = .R (.i (named v))∧w=w':=by
 skip;refine aCG func269 ntmps269 λS=>aCD S ((v)==4) (λD S=>?_) (λD S=>?_)
 .have p0:=D;try simp only[aDv,aDQ,aDu,aDH,ne_eq,bne_iff_ne,bne_eq_false_iff_eq]at p0
  refine aCB S (.i 3) (λS=>?_);exact⟨jS (by unfold named; (repeat' split)<;>omega),I⟩
 refine aCD S ((v)==3) (λJ S=>?_) (λJ S=>?_)
 .have p0:=D;try simp only[aDv,aDQ,aDu,aDH,ne_eq,bne_iff_ne,bne_eq_false_iff_eq]at p0
  have p1:=J;try simp only[aDv,aDQ,aDu,aDH,ne_eq,bne_iff_ne,bne_eq_false_iff_eq]at p1
  refine aCB S (.i 2) (λS=>?_);exact⟨jS (by unfold named; (repeat' split)<;>omega),I⟩
 refine aCD S ((v)==1) (λaa S=>?_) (λaa S=>?_)
 .refine aCD S ((v)==1) (λac S=>?_) (λac S=>?_)
  .have p0:=D;try simp only[aDv,aDQ,aDu,aDH,ne_eq,bne_iff_ne,bne_eq_false_iff_eq]at p0
   have p1:=J;try simp only[aDv,aDQ,aDu,aDH,ne_eq,bne_iff_ne,bne_eq_false_iff_eq]at p1
   have p2:=aa;try simp only[aDv,aDQ,aDu,aDH,ne_eq,bne_iff_ne,bne_eq_false_iff_eq]at p2
   refine aCB S (.i 1) (λS=>?_);exact⟨jS (by unfold named; (repeat' split)<;>omega),I⟩
  rw[aa]at ac; cases ac
 refine aCD S ((v)==2) (λab S=>?_) (λab S=>?_)
 .have p0:=D;try simp only[aDv,aDQ,aDu,aDH,ne_eq,bne_iff_ne,bne_eq_false_iff_eq]at p0
  have p1:=J;try simp only[aDv,aDQ,aDu,aDH,ne_eq,bne_iff_ne,bne_eq_false_iff_eq]at p1
  have p2:=aa;try simp only[aDv,aDQ,aDu,aDH,ne_eq,bne_iff_ne,bne_eq_false_iff_eq]at p2
  have p3:=ab;try simp only[aDv,aDQ,aDu,aDH,ne_eq,bne_iff_ne,bne_eq_false_iff_eq]at p3
  refine aCB S (.i 1) (λS=>?_);exact⟨jS (by unfold named; (repeat' split)<;>omega),I⟩
 refine aCD S ((v)==5) (λae S=>?_) (λae S=>?_)
 .have p0:=D;try simp only[aDv,aDQ,aDu,aDH,ne_eq,bne_iff_ne,bne_eq_false_iff_eq]at p0
  have p1:=J;try simp only[aDv,aDQ,aDu,aDH,ne_eq,bne_iff_ne,bne_eq_false_iff_eq]at p1
  have p2:=aa;try simp only[aDv,aDQ,aDu,aDH,ne_eq,bne_iff_ne,bne_eq_false_iff_eq]at p2
  have p3:=ab;try simp only[aDv,aDQ,aDu,aDH,ne_eq,bne_iff_ne,bne_eq_false_iff_eq]at p3
  have p4:=ae;try simp only[aDv,aDQ,aDu,aDH,ne_eq,bne_iff_ne,bne_eq_false_iff_eq]at p4
  refine aCB S (.i 0) (λS=>?_);exact⟨jS (by unfold named; (repeat' split)<;>omega),I⟩
 have p0:=D;try simp only[aDv,aDQ,aDu,aDH,ne_eq,bne_iff_ne,bne_eq_false_iff_eq]at p0
 have p1:=J;try simp only[aDv,aDQ,aDu,aDH,ne_eq,bne_iff_ne,bne_eq_false_iff_eq]at p1
 have p2:=aa;try simp only[aDv,aDQ,aDu,aDH,ne_eq,bne_iff_ne,bne_eq_false_iff_eq]at p2
 have p3:=ab;try simp only[aDv,aDQ,aDu,aDH,ne_eq,bne_iff_ne,bne_eq_false_iff_eq]at p3
 have p4:=ae;try simp only[aDv,aDQ,aDu,aDH,ne_eq,bne_iff_ne,bne_eq_false_iff_eq]at p4
 refine aCB S (.i (-1)) (λS=>?_);exact⟨jS (by unfold named; (repeat' split)<;>omega),I⟩
abbrev fits_any(s:dM)(w:VO) :
  abB prog 270 #[.agg #[.i s.verb,.i s.a.x,.i s.a.y,.i s.b.x,.i s.b.y,.i s.c.x,.i s.c.y]] w (VH w (.b s.fits)):=by
 skip;refine aCG func270 ntmps270 λS=>aCF S λu b2 J D S=>adr S 7 [] [.M 0 1,.M 0 3,.M 0 5] λS=>aCF S λu b7 J D S=>ZV S 3 λS=>aCM S λS=>adr S 3 [] [.M 0 0] λS=>aCF S λu J ac D S=>aCH S 0 I λu D S=>adr S 1 [] [.M 0 0] λS=>aCQ S (l7 (s.a.x) (s.a.y) _) λu D S=>aC6 S 13 [.M 2 0,.M 0 0,.cmp .neq 130 (.tmp 28) (.tmp 29) (.agg #[.i s.a.x,.i s.a.y]) (.agg #[.i 0,.i 0]) (.b (!((s.a.x==0)&&(s.a.y==0))))] [(_,_,(!(!(kL.valid ⟨s.a.x,s.a.y⟩))),.i (named s.verb))] [(32,.b ((!(kL.valid ⟨s.a.x,s.a.y⟩))||((decide ((named s.verb)<=0))&&(!((s.a.x==0)&&(s.a.y==0))))))] ⟨λu hC g=>aC3 (zB (s.verb) _),G⟩ (hk:=⟨aEg (λ_=>aoW ..) X,G⟩) λu D S=>aCD S ((!(kL.valid ⟨s.a.x,s.a.y⟩))||((decide ((named s.verb)<=0))&&(!((s.a.x==0)&&(s.a.y==0))))) (λD S=>?_) (λD S=>?_)
 .have g0:wK s.verb 0 s.a=false:=by
   have J:=D;show(kL.valid ⟨s.a.x,s.a.y⟩ && !(decide (named s.verb<=0) && !((s.a.x==0)&&(s.a.y==0))))=_;revert J;cases kL.valid ⟨s.a.x,s.a.y⟩<;>cases decide (named s.verb<=0)<;>cases ((s.a.x==0)&&(s.a.y==0))<;>simp
  refine aCB S (.z) (λS=>?_);exact⟨by rw[show s.fits=false from by simp[dM.fits,g0]],S.E⟩
 refine aCM S λS=>adr S 3 [] [.M 1 2] λS=>aCF S λu ae Wy LZ S=>aCH S 0 I λu LD S=>adr S 1 [] [.M 0 0] λS=>aCQ S (l7 (s.b.x) (s.b.y) _) λu JB S=>aC6 S 13 [.M 3 0,.M 0 0,.cmp .neq 130 (.tmp 28) (.tmp 29) (.agg #[.i s.b.x,.i s.b.y]) (.agg #[.i 0,.i 0]) (.b (!((s.b.x==0)&&(s.b.y==0))))] [(_,_,(!(!(kL.valid ⟨s.b.x,s.b.y⟩))),.i (named s.verb))] [(32,.b ((!(kL.valid ⟨s.b.x,s.b.y⟩))||((decide ((named s.verb)<=1))&&(!((s.b.x==0)&&(s.b.y==0))))))] ⟨λu hC g=>aC3 (zB (s.verb) _),G⟩ (hk:=⟨aEg (λ_=>aoW ..) X,G⟩) λu af S=>aCD S ((!(kL.valid ⟨s.b.x,s.b.y⟩))||((decide ((named s.verb)<=1))&&(!((s.b.x==0)&&(s.b.y==0))))) (λaa S=>?_) (λaa S=>?_)
 .have g0:wK s.verb 0 s.a=true:=by
   have J:=D;show(kL.valid ⟨s.a.x,s.a.y⟩ && !(decide (named s.verb<=0) && !((s.a.x==0)&&(s.a.y==0))))=_;revert J;cases kL.valid ⟨s.a.x,s.a.y⟩<;>cases decide (named s.verb<=0)<;>cases ((s.a.x==0)&&(s.a.y==0))<;>simp
  have g1:wK s.verb 1 s.b=false:=by
   have J:=aa;show(kL.valid ⟨s.b.x,s.b.y⟩ && !(decide (named s.verb<=1) && !((s.b.x==0)&&(s.b.y==0))))=_;revert J;cases kL.valid ⟨s.b.x,s.b.y⟩<;>cases decide (named s.verb<=1)<;>cases ((s.b.x==0)&&(s.b.y==0))<;>simp
  refine aCB S (.z) (λS=>?_);exact⟨by rw[show s.fits=false from by simp[dM.fits,g0,g1]],S.E⟩
 refine aCM S λS=>adr S 3 [] [.M 2 4] λS=>aCF S λu ag Si ah S=>aCH S 0 I λu ai S=>adr S 1 [] [.M 0 0] λS=>aCQ S (l7 (s.c.x) (s.c.y) _) λu al S=>aC6 S 13 [.M 4 0,.M 0 0,.cmp .neq 130 (.tmp 28) (.tmp 29) (.agg #[.i s.c.x,.i s.c.y]) (.agg #[.i 0,.i 0]) (.b (!((s.c.x==0)&&(s.c.y==0))))] [(_,_,(!(!(kL.valid ⟨s.c.x,s.c.y⟩))),.i (named s.verb))] [(32,.b ((!(kL.valid ⟨s.c.x,s.c.y⟩))||((decide ((named s.verb)<=2))&&(!((s.c.x==0)&&(s.c.y==0))))))] ⟨λu hC g=>aC3 (zB (s.verb) _),G⟩ (hk:=⟨aEg (λ_=>aoW ..) X,G⟩) λu am S=>aCD S ((!(kL.valid ⟨s.c.x,s.c.y⟩))||((decide ((named s.verb)<=2))&&(!((s.c.x==0)&&(s.c.y==0))))) (λab S=>?_) (λab S=>?_)
 .have g0:wK s.verb 0 s.a=true:=by
   have J:=D;show(kL.valid ⟨s.a.x,s.a.y⟩ && !(decide (named s.verb<=0) && !((s.a.x==0)&&(s.a.y==0))))=_;revert J;cases kL.valid ⟨s.a.x,s.a.y⟩<;>cases decide (named s.verb<=0)<;>cases ((s.a.x==0)&&(s.a.y==0))<;>simp
  have g1:wK s.verb 1 s.b=true:=by
   have J:=aa;show(kL.valid ⟨s.b.x,s.b.y⟩ && !(decide (named s.verb<=1) && !((s.b.x==0)&&(s.b.y==0))))=_;revert J;cases kL.valid ⟨s.b.x,s.b.y⟩<;>cases decide (named s.verb<=1)<;>cases ((s.b.x==0)&&(s.b.y==0))<;>simp
  have g2:wK s.verb 2 s.c=false:=by
   have J:=ab;show(kL.valid ⟨s.c.x,s.c.y⟩ && !(decide (named s.verb<=2) && !((s.c.x==0)&&(s.c.y==0))))=_;revert J;cases kL.valid ⟨s.c.x,s.c.y⟩<;>cases decide (named s.verb<=2)<;>cases ((s.c.x==0)&&(s.c.y==0))<;>simp
  refine aCB S (.z) (λS=>?_);exact⟨by rw[show s.fits=false from by simp[dM.fits,g0,g1,g2]],S.E⟩
 refine aCT S (λS=>?_);have g0:wK s.verb 0 s.a=true:=by
  have J:=D;show(kL.valid ⟨s.a.x,s.a.y⟩ && !(decide (named s.verb<=0) && !((s.a.x==0)&&(s.a.y==0))))=_;revert J;cases kL.valid ⟨s.a.x,s.a.y⟩<;>cases decide (named s.verb<=0)<;>cases ((s.a.x==0)&&(s.a.y==0))<;>simp
 have g1:wK s.verb 1 s.b=true:=by
  have J:=aa;show(kL.valid ⟨s.b.x,s.b.y⟩ && !(decide (named s.verb<=1) && !((s.b.x==0)&&(s.b.y==0))))=_;revert J;cases kL.valid ⟨s.b.x,s.b.y⟩<;>cases decide (named s.verb<=1)<;>cases ((s.b.x==0)&&(s.b.y==0))<;>simp
 have g2:wK s.verb 2 s.c=true:=by
  have J:=ab;show(kL.valid ⟨s.c.x,s.c.y⟩ && !(decide (named s.verb<=2) && !((s.c.x==0)&&(s.c.y==0))))=_;revert J;cases kL.valid ⟨s.c.x,s.c.y⟩<;>cases decide (named s.verb<=2)<;>cases ((s.c.x==0)&&(s.c.y==0))<;>simp
 refine aCB S (.b true) (λS=>?_);exact⟨by rw[show s.fits=true from by simp[dM.fits,g0,g1,g2]],S.E⟩
open Go.RowKit Na Go.Sx
variable{α:Type}
variable{x:dM}{last:Int}{w:VO}{v:aaT}{l:List dM}
abbrev ahI(h:decide (named x.verb<0)=true):x.err last=2:=aDb (aDw h)
abbrev adE(h:decide (named x.verb<0)=false)(D:(!x.stands last)=true):x.err last=10:=by
 unfold dM.err; rw[aC9 (aDA h),aDb (by simpa using D)]
abbrev ahJ(h:decide (named x.verb<0)=false)(D:(!x.stands last)=false)(J:(!x.fits)=true):x.err last=6:=by
 unfold dM.err; rw[aC9 (aDA h),aC9 (by simpa using D),aDb (by simpa using J)]
abbrev ahK(h:decide (named x.verb<0)=false)(D:(!x.stands last)=false)(J:(!x.fits)=false):x.err last=0:=by
 unfold dM.err; rw[aC9 (aDA h),aC9 (by simpa using D),aC9 (by simpa using J)]
abbrev Nh(h:xB w v l) :
  abB prog 231 #[v] w (VH w (.tuple #[.i (iI l).1,.i (iI l).2])):=by
 obtain⟨a,cap,rfl⟩:=h.1.shape;have D:l.length<=9223372036854775807:=h.1.len;refine aCG func231 ntmps231 λS=>aCD S (decide (256<(l.length:Int))) (λae S=>?_) (λae S=>?_)
 .have p0:256<(l.length:Int):=aDw ae;refine MG S (.i 5) (.i 256) (λS=>?_);have e:iI l=(5,256):=by unfold iI; rw[aDb p0]
  exact⟨by rw[e],S.E⟩
 refine aCZ S (ι:=Nat×Int) (λp D w'=>p.1<=l.length∧(sH 5 0 l=sH p.2 (p.1:Int) (l.drop p.1))∧Sx.St w D w' 52 [(0,.s a l.length cap),(2,.i 0),(3,.i 0),(4,.i p.2),(11,.s a l.length cap),(12,.i l.length),(13,.i p.1)] [] []) (λp=>l.length-p.1) (0,5) (λS=>⟨aDl _,I,S.qc⟩) ?_;rintro⟨k,last⟩ ac u gJ dW hI;try dsimp only at hI
 obtain⟨hk,hR,S⟩:=hI;refine aC0 S λS=>aCD S (decide ((k:Int)<(l.length:Int))) (λfJ S=>?_) (λfJ S=>?_)
 .have oM:k<l.length:=by have:=aDw fJ; omega
  obtain⟨D,af,rfl,J,vw,xJ,PY⟩:=aDN h.1 (λ_=>I) (k) oM;have S:=S.view0 xJ PY;refine adr S 3 [] [.idx k l.length,.M 0 0] (hk:=⟨oM,G⟩) λS=>aCF S λu D WI Yh S=>aCH S 0 I λu D S=>adr S 19 [] [.M 0 0,.M 0 0,.M 0 0] λS=>mD S (zB (J.verb) _) λS=>aCD S (decide ((named J.verb)<0)) (λaa S=>?_) (λaa S=>?_)
  .have D:J.err last=2:=ahI aa;have p0:¬256<(l.length:Int):=aDA ae;refine MG S (.i 2) (.i k) (λS=>?_);have e:iI l=(2,(k:Int)):=by
    unfold iI;rw[aC9 Z,hR,aEu oM,vw,sH,D];rfl
   exact⟨by rw[e],S.E⟩
  refine aCD S (!(((J.verb)==1)||(((last) != 5)&&(((J.verb) != 5)||((last) != 1))))) (λab S=>?_) (λab S=>?_)
  .have D:J.err last=10:=adE aa ab;have p0:¬256<(l.length:Int):=aDA ae;refine MG S (.i 10) (.i k) (λS=>?_);have e:iI l=(10,(k:Int)):=by
    unfold iI;rw[aC9 Z,hR,aEu oM,vw,sH,D];rfl
   exact⟨by rw[e],S.E⟩
  refine adr S 1 [] [.M 0 0] λS=>aCQ S (fits_any J _) λu LK S=>aCD S (!J.fits) (λvC S=>?_) (λvC S=>?_)
  .have D:J.err last=6:=ahJ aa ab vC;have p0:¬256<(l.length:Int):=aDA ae;refine MG S (.i 6) (.i k) (λS=>?_);have e:iI l=(6,(k:Int)):=by
    unfold iI;rw[aC9 Z,hR,aEu oM,vw,sH,D];rfl
   exact⟨by rw[e],S.E⟩
  refine adr S 5 [] [.M 0 0,.re 51 (.i (IntKind.i64.wrap ((k:Int)+1))) (.i (k+1:Nat))] (hk:=⟨aCS Z,G⟩) λS=>aCY S gJ (λS=>?_);have D:J.err last=0:=ahK aa ab vC;rw[aEu oM,vw,sH,aDb D]at hR;exact dW _ _ ((k+1),J.verb) ⟨Z,hR,(S.gB 1).qc⟩ (by show _-_<_-_; omega)
 have p0:¬256<(l.length:Int):=aDA ae;have p1:¬(k:Int)<(l.length:Int):=aDA fJ;refine MG S (.i 0) (.i 0) (λS=>?_);have e:iI l=(0,0):=by
  unfold iI;rw[aC9 Z,hR,aEB Z];rfl
 exact⟨by rw[e],S.E⟩
abbrev zZ(h:xB w v l) :
  abB prog 191 #[v] w (VH w (.b (kK l))):=by
 skip;refine aCG func191 ntmps191 λS=>aCQ S (Nh (h.below S.E)) λu D S=>aCB S (.b (((iI l).1)==0)) (λS=>?_);exact⟨I,S.E⟩
