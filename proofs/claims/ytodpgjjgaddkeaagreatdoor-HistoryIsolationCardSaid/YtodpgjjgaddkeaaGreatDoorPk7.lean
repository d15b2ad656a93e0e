/- Walks of package integer: Neg -/
import Derived.Test.YtodpgjjgaddkeaaGreatDoorPk5
import Derived.Test.YtodpgjjgaddkeaaGreatDoorPk6
set_option maxHeartbeats 9999999
open Go renaming World->E5,Value->y9,Calls->Nq
set_option maxRecDepth 100000
set_option linter.unusedVariables false
set_option linter.unusedSimpArgs false
open Go.RowKit Go.Sx
namespace Go.Proofs.Õ
open _root_.Go.Proofs.Tryz
section
open Na
variable{α:Type}
def D8:y9->Bool
 | .int .u32 _=>false
 | _=>true
variable{w:E5}{A:Array y9}{v s:y9}{l:List UInt32}{b a:Nat}
abbrev Ei(h:A.toList.all D8=true)(i:Nat)(x:UInt32):A[i]?≠some (bn x):=by
 intro e;rw[ñ]at h;have D:bn x∈A.toList:=by
  rw[Array.mem_toList_iff];exact Array.mem_of_getElem? e
 exact absurd (h _ D) (by simp[D8])
abbrev PD{w':E5}(h:aH w v l)(D:Ch b w w')(J:Bx w b A)(hA:A.toList.all D8=true):aH w' v l:=h.ch D (J.off (Ei hA) h)
abbrev aS.ch{base:Nat}{w w':E5}{v:y9}{neg:Bool}{n c:Nat}(h:aS base w v neg n)(hc:Ch c w w')(D:c<base):aS base w' v neg n:=by
 obtain⟨s,J,S,fs⟩:=h;exact⟨s,J,S.ch hc (λ_=>fs.off D),fs⟩
abbrev aS.dZ{base:Nat}{w w':E5}{v:y9}{neg:Bool}{n b:Nat}{A:Array y9}(h:aS base w v neg n)(S:Ch b w w')(hx:Bx w b A)(hA:A.toList.all D8=true:=by rfl):aS base w' v neg n:=by
 obtain⟨s,J,D,fs⟩:=h;exact⟨s,J,D.ch S (hx.off (Ei hA) D),fs⟩
abbrev ahY(l m:List UInt32)(hl:l.length<=10000000)(D:m.length<=10000000):(RI (TR l*TR m)).length<=20000000:=by
 have h:=kM (TR l) (TR m) (K:=l.length) (L:=m.length) (dB l) (dB m);rw[Int.natAbs_mul]at h;simp only[ź]at h;omega
abbrev ahZ(l m:List UInt32)(hl:l.length<=10000000)(D:m.length<=10000000):(RI (TR l+TR m)).length<=20000001:=by
 have h:=abm (TR l) (TR m) (K:=l.length+m.length) (by simp only[ź]; have:=dB l; omega) (by simp only[ź]; have:=dB m; omega);rw[show((TR l:Int)+(TR m:Int))=((TR l+TR m:Nat):Int) by omega,ź]at h;omega
abbrev Wv(l m:List UInt32)(hl:l.length<=10000000):(RI (TR l-TR m)).length<=10000000:=by
 have D:=fO (Nat.sub_le (TR l) (TR m));have D:=dB l;omega
abbrev Lm(v u:y9)(l m:List UInt32)(w:E5)(J:aH w v l)(S:aH w u m)(hl:l.length<=100000000) :
  Nq prog 329 #[v,u] w λe w'=>∃a n c,e = .R (.tuple #[.s a n c,.b (TR m<=TR l)])∧(TR m<=TR l->aH w' (.s a n c) (RI (TR l-TR m)))∧Ext w w':=by
 by_cases h:TR m<=TR l
 .refine(adN v u l m w J S hl h).mono ?_;rintro e w' ⟨a,rfl,h1,D⟩;exact⟨a,_,_,by simp only[ņ h],λ_=>h1,D⟩
 refine(adM v u l m w J S Z).mono ?_;rintro e w' ⟨rfl,D⟩;exact⟨none,0,0,by simp only[Ŝ h],λJ=>absurd J h,D⟩
abbrev Sj{z:Int}(J:aH w s (RI z.natAbs))(h:(RI z.natAbs).length<=100000000) :
  Nq prog 257 #[.agg #[.b (z<0),s]] w (Ï w (.i z.sign)):=by
 have D:=nX (decide (z<0)) _ _ w J h;rw[RH,aos,aa2]at D;exact D
abbrev Lp(D:aH w s l)(h:l.length<=1000000000) :
  Nq prog 290 #[s] w (Ï w (.i (bl (TR l):Nat))):=by
 refine(II s l w D h).mono ?_;rintro e w' ⟨rfl,rfl⟩;exact⟨I,å⟩
abbrev tu(neg:Bool)(J:aH w v (RI a))(D:(RI a).length<=1000000000) :
  Nq prog 284 #[.b neg,v] w λe w'=>∃x,e = .R x∧aS w.heap.size w' x (neg&&decide (0<a)) a∧Ext w w':=by
 have h:=nG neg v _ w J D;rw[RH]at h;exact h
abbrev ZI(v1:y9)(J:Int)(K:Nat)(w:E5)(D:jX K w v1 J)(hK:K<=10000000):
  Nq prog 300 #[v1] w λe w'=>∃x,e = .R x∧CQ w.heap.size w' x (-J)∧Ext w w':=by
 obtain⟨n1,s1,l,rfl,D,hl,rfl⟩:=D;obtain⟨a1,c1,rfl⟩:=D.shape;refine Ä func300 ntmps300 λS=>Â S λu b2 E3 J S=>Â S λu b5 E6 J S=>O1 S 5 [] [.M 1 0,.M 1 1] λS=>ê S (nG (!n1) _ l _ (D.below S.E) Z) ?_;rintro e u ⟨x,rfl,J,E9⟩;obtain⟨b1,d1,rfl⟩:=J.shape;have D:=S.E.size;have D:=(S.bx 0).1;have D:=(S.bx 1).1;refine⟨_,I,E9,λS=>?_⟩;refine É S 0 I λu D S=>?_;have Dw:=J.ch D Z;refine ü S 0 I (v := .agg #[.b (!n1&&decide (0<TR l)),.s b1 (RI (TR l)).length d1]) λS=>?_;exact⟨_,I,aoq n1 (TR l)▸KH (aS.mono Dw Z),S.E⟩
abbrev rU(v1 v2:y9)(J z2:Int)(K L:Nat)(w:E5)(D:jX K w v1 J)(h2:jX L w v2 z2)(hK:K<=10000000)(hL:L<=10000000):
  Nq prog 264 #[v1,v2] w λe w'=>∃x,e = .R x∧CQ w.heap.size w' x (J*z2)∧Ext w w':=by
 obtain⟨n1,s1,l,rfl,D,hl,rfl⟩:=D;obtain⟨a1,c1,rfl⟩:=D.shape;obtain⟨J,s2,m,rfl,h2,hm,rfl⟩:=h2;obtain⟨a2,c2,rfl⟩:=h2.shape;refine Ä func264 ntmps264 λS=>Ú S [.b n1,.s a1 l.length c1] λu b2 E3 ab S=>Ú S [.b J,.s a2 m.length c2] λu b5 E6 ac S=>Ú S [.z,.sn] λu b8 E9 Bf S=>jm S 11 [(14,λv w1=>aH w1 v (RI (TR l*TR m))),(15,λv w1=>aS w.heap.size w1 v ((n1 != J)&&decide (0<(TR l*TR m))) (TR l*TR m))] (λr=>[.M 2 0,.M 1 0,.M 2 1,.M 1 1]) (λx=>[x 14,x 15]) (λx=>[(_,_,true,x 14,14),(_,_,true,x 15,15)]) [[],[14]] (λx=>[(15,x 15)]) ⟨λ_ _ _ k h=>h.below k,λ_ _ _ k h=>h.ext k,G⟩ (λx=>⟨by intro u hC g F; exact(ZF _ _ _ _ _ (D.below (Ip S.E hC)) (h2.below (Ip S.E hC)) Z Z).mono λe w2 h=>by obtain⟨a,rfl,D,hb⟩:=h; exact⟨_,I,D,hb⟩,by intro u hC g F; obtain⟨NW,-⟩:=F; exact(tu (n1 != J) NW (by have:=ahY l m Z Z; omega)).mono λe w2 h=>by obtain⟨y,rfl,D,hb⟩:=h; exact⟨_,I,D.mono ((Ip S.E hC)).size,hb⟩,G⟩) λu x rW F S=>?_;obtain⟨NW,D,-⟩:=F;obtain⟨b1,d1,em⟩:=aS.shape D;rw[em]at S D;try rw[em]
 have Me:=S.bx 0;refine í S 0 (off:=0) (cs:=[.b ((n1 != J)&&decide (0<(TR l*TR m))),.s b1 (RI (TR l*TR m)).length d1]) I λu aa S=>?_;have oU:=aS.dZ D aa Me;refine ü S 0 I (v := .agg #[.b ((n1 != J)&&decide (0<(TR l*TR m))),.s b1 (RI (TR l*TR m)).length d1]) λS=>?_;exact⟨_,I,(aor n1 J (TR l) (TR m)).symm▸KH (aS.mono oU Z),S.E⟩
abbrev ZJ(v1 v2:y9)(D J:Int)(K L:Nat)(w:E5)(h1:jX K w v1 D)(h2:jX L w v2 J)(hK:K<=10000000)(hL:L<=10000000):
  Nq prog 299 #[v1,v2] w λe w'=>∃x,e = .R x∧CQ w.heap.size w' x (D+J)∧Ext w w':=by
 obtain⟨n1,s1,l,rfl,h1,hl,rfl⟩:=h1;obtain⟨a1,c1,rfl⟩:=h1.shape;obtain⟨n2,s2,m,rfl,h2,D,rfl⟩:=h2;obtain⟨a2,c2,rfl⟩:=h2.shape;refine Ä func299 ntmps299 λS=>Ú S [.b n1,.s a1 l.length c1] λu b2 J D S=>Ú S [.b n2,.s a2 m.length c2] λu b5 J D S=>Ú S [.z,.sn] λu b8 D J S=>O1 S 5 [] [.M 2 0,.M 1 0] λS=>À S (n1==n2) (λD S=>?_) λD S=>?_
 .refine jm S 8 [(20,λv w1=>aH w1 v (RI (TR l+TR m))),(21,λv w1=>aS w.heap.size w1 v (n1&&decide (0<(TR l+TR m))) (TR l+TR m))] (λr=>[.M 2 0,.M 2 1,.M 1 1]) (λx=>[x 20,x 21]) (λx=>[(_,_,true,x 20,20),(_,_,true,x 21,21)]) [[],[20]] (λx=>[(21,x 21)]) ⟨λ_ _ _ k h=>h.below k,λ_ _ _ k h=>h.ext k,G⟩ (λx=>⟨by intro u hC g F; exact(ZG _ _ _ _ _ (h1.below (Ip S.E hC)) (h2.below (Ip S.E hC)) Z Z).mono λe w2 h=>by obtain⟨a,rfl,J,hb⟩:=h; exact⟨_,I,J,hb⟩,by intro u hC g F; obtain⟨ae,-⟩:=F; exact(tu n1 ae (by have:=ahZ l m Z Z; omega)).mono λe w2 h=>by obtain⟨y,rfl,J,hb⟩:=h; exact⟨_,I,J.mono ((Ip S.E hC)).size,hb⟩,G⟩) λu x an F S=>?_;obtain⟨ae,aa,-⟩:=F;obtain⟨b1,d1,em⟩:=aS.shape aa;rw[em]at S aa;try rw[em]
  have ai:=S.bx 0;refine í S 0 (off:=0) (cs:=[.b (n1&&decide (0<(TR l+TR m))),.s b1 (RI (TR l+TR m)).length d1]) I λu af S=>?_;have J5:=aS.dZ aa af ai;refine ü S 0 I (v := .agg #[.b (n1&&decide (0<(TR l+TR m))),.s b1 (RI (TR l+TR m)).length d1]) λS=>?_;obtain rfl:=eq_of_beq D;exact⟨_,I,(VH n1 (TR l) (TR m)).symm▸KH (aS.mono J5 Z),S.E⟩
 refine O1 S 4 [] [.M 2 1,.M 1 1] λS=>ê S (Lm _ _ _ _ _ (h1.below S.E) (h2.below S.E) Z) ?_;rintro e u ⟨p,q,c3,rfl,hs,xE⟩;refine⟨_,I,xE,λS=>?_⟩;refine À S (decide (TR m<=TR l)) (λLs S=>?_) λLs S=>?_
 .refine O1 S 3 [] [.M 2 0] λS=>ê S (tu (n1) (hs (Ý Ls)) (by have:=Wv l m Z; omega)) ?_;rintro e u ⟨x,rfl,J,GI⟩;obtain⟨b1,d1,rfl⟩:=J.shape;have hz:=S.E.size;have al:=(S.bx 0).1;have ab:=(S.bx 1).1;have ac:=(S.bx 2).1;refine⟨_,I,GI,λS=>?_⟩;refine í S 0 (off:=0) (cs:=[.b (n1&&decide (0<(TR l-TR m))),.s b1 (RI (TR l-TR m)).length d1]) I λu ag S=>?_;have zY:=J.ch ag Z;refine ü S 0 I (v := .agg #[.b (n1&&decide (0<(TR l-TR m))),.s b1 (RI (TR l-TR m)).length d1]) λS=>?_;exact⟨_,I,(Gq (by simpa using D) (Ý Ls)).symm▸KH (aS.mono zY Z),S.E⟩
 refine O1 S 4 [] [.M 1 1,.M 2 1] λS=>ê S (Lm _ _ _ _ _ (h2.below S.E) (h1.below S.E) Z) ?_;rintro e u ⟨p2,q2,c2,rfl,am,zW⟩;refine⟨_,I,zW,λS=>?_⟩;refine O1 S 8 [] [.M 1 0] λS=>ê S (tu (n2) (am (by have:=é Ls; omega)) (by have:=Wv m l Z; omega)) ?_;rintro e u ⟨x,rfl,J,Bg⟩;obtain⟨b1,d1,rfl⟩:=J.shape;have hz:=S.E.size;have al:=(S.bx 0).1;have ab:=(S.bx 1).1;have ac:=(S.bx 2).1;refine⟨_,I,Bg,λS=>?_⟩;refine í S 0 (off:=0) (cs:=[.b (n2&&decide (0<(TR m-TR l))),.s b1 (RI (TR m-TR l)).length d1]) I λu ah S=>?_;have IV:=J.ch ah Z;refine ü S 0 I (v := .agg #[.b (n2&&decide (0<(TR m-TR l))),.s b1 (RI (TR m-TR l)).length d1]) λS=>?_;exact⟨_,I,(RF (a:=TR l) (b:=TR m) (by simpa using D) (by have:=é Ls; omega)).symm▸KH (aS.mono IV Z),S.E⟩
abbrev Lu(v1 v2:y9)(D J:Int)(K L:Nat)(w:E5)(h1:jX K w v1 D)(h2:jX L w v2 J)(hK:K<=10000000)(hL:L<=10000000):
  Nq prog 265 #[v1,v2] w λe w'=>∃x,e = .R x∧CQ w.heap.size w' x (D-J)∧Ext w w':=by
 obtain⟨n1,s1,l,rfl,h1,hl,rfl⟩:=h1;obtain⟨a1,c1,rfl⟩:=h1.shape;obtain⟨D,s2,m,rfl,h2,hm,rfl⟩:=h2;obtain⟨a2,c2,rfl⟩:=h2.shape;refine Ä func265 ntmps265 λS=>Ú S [.b n1,.s a1 l.length c1] λu b2 E3 J S=>Ú S [.b D,.s a2 m.length c2] λu b5 E6 J S=>Ú S [.z,.sn] λu b8 J Bf S=>jm S 4 [(7,λv w1=>CQ w.heap.size w1 v (-zv D (TR m))),(8,λv w1=>CQ w.heap.size w1 v (zv n1 (TR l) + -zv D (TR m)))] (λr=>[.M 2 0,.M 1 0]) (λx=>[x 7,x 8]) (λx=>[(_,_,true,x 7,7),(_,_,true,x 8,8)]) [[],[7]] (λx=>[(8,x 8)]) ⟨λ_ _ _ k h=>h.ext k,λ_ _ _ k h=>h.ext k,G⟩ (λx=>⟨by intro u J g F; exact(ZI _ (zv D (TR m)) L _ ⟨D,_,m,I,h2.below (Ip S.E J),hm,I⟩ Z).mono λe w2 h=>by obtain⟨y,rfl,hx,hb⟩:=h; exact⟨_,I,hx.mono ((Ip S.E J)).size,hb⟩,by intro u J g F; obtain⟨F7,-⟩:=F; exact(ZJ _ _ (zv n1 (TR l)) (-zv D (TR m)) K L _ ⟨n1,_,l,I,h1.below (Ip S.E J),hl,I⟩ (CQ.toQ F7 (by rw[Int.natAbs_neg,ug]; have:=dB m; omega)) Z Z).mono λe w2 h=>by obtain⟨y,rfl,hx,hb⟩:=h; exact⟨_,I,hx.mono ((Ip S.E J)).size,hb⟩,G⟩) λu x rW F S=>?_;obtain⟨F7,F8,-⟩:=F;obtain⟨b1,d1,J⟩:=aS.shape F8;rw[J]at S F8;try rw[J]
 have Me:=S.bx 0;refine í S 0 (off:=0) (cs:=[.b ((zv n1 (TR l) + -zv D (TR m))<0),.s b1 (RI (zv n1 (TR l) + -zv D (TR m)).natAbs).length d1]) I λu J S=>?_;have oU:=aS.dZ F8 J Me;refine ü S 0 I (v := .agg #[.b ((zv n1 (TR l) + -zv D (TR m))<0),.s b1 (RI (zv n1 (TR l) + -zv D (TR m)).natAbs).length d1]) λS=>?_;exact⟨_,I,oU,S.E⟩
abbrev ZK(v1 v2:y9)(J z2:Int)(K L:Nat)(w:E5)(D:jX K w v1 J)(h2:jX L w v2 z2)(hK:K<=10000000)(hL:L<=10000000):
  Nq prog 228 #[v1,v2] w (Ï w (.i (J-z2).sign)):=by
 obtain⟨n1,s1,l,rfl,D,hl,rfl⟩:=D;obtain⟨a1,c1,rfl⟩:=D.shape;obtain⟨J,s2,m,rfl,h2,hm,rfl⟩:=h2;obtain⟨a2,c2,rfl⟩:=h2.shape;refine Ä func228 ntmps228 λS=>Â S λu b2 E3 aa S=>Â S λu b5 E6 ab S=>O1 S 3 [] [.M 1 0,.M 0 0] λS=>ê S (Lu _ _ (zv n1 (TR l)) (zv J (TR m)) K L _ ⟨n1,_,l,I,D.below S.E,hl,I⟩ ⟨J,_,m,I,h2.below S.E,hm,I⟩ Z Z) ?_;rintro e u ⟨x,rfl,⟨s,rfl,D,-⟩,E9⟩;obtain⟨b1,d1,rfl⟩:=D.shape;refine⟨_,I,E9,λS=>?_⟩;refine ð S (Sj D (by have:=Si (zv n1 (TR l)) (zv J (TR m)) (K:=K+L) (by rw[ug]; have:=dB l; omega) (by rw[ug]; have:=dB m; omega); omega)) λu D S=>Xe S (.i (Int.sign (zv n1 (TR l)-zv J (TR m)))) λS=>?_;exact⟨I,S.E⟩
abbrev AB(v1:y9)(J:Int)(K:Nat)(w:E5)(D:jX K w v1 J)(hK:K<=10000000):
  Nq prog 266 #[v1] w (Ï w (.i (bl J.natAbs:Int))):=by
 obtain⟨n1,s1,l,rfl,D,hl,rfl⟩:=D;obtain⟨a1,c1,rfl⟩:=D.shape;refine Ä func266 ntmps266 λS=>Â S λu b2 E3 J S=>O1 S 3 [] [.M 0 1] λS=>ð S (Lp (D.below S.E) Z) λu J S=>Xe S (.i (bl (TR l):Nat)) λS=>?_;exact⟨by rw[ug],S.E⟩
abbrev aC.dZ{base:Nat}{w w':E5}{v:y9}{neg:Bool}{a b c:Nat}{A:Array y9}(h:aC base w v neg a b)(S:Ch c w w')(hx:Bx w c A)(hA:A.toList.all D8=true:=by rfl):aC base w' v neg a b:=by
 obtain⟨s,t,rfl,D,J,fs,ft⟩:=h;exact⟨s,t,I,D.ch S (hx.off (Ei hA) D),J.ch S (hx.off (Ei hA) J),fs,ft⟩
abbrev _root_.Go.Sx.aui{P:Program}{w0 w:E5}{a:Act}{n:Nat}{l:List (Nat×y9)}{bl:List (Nat×List y9)}{vs:List eX}(S:Sx.St w0 a w n l bl vs){fn:Func}{R:Ending->E5->Prop}(i j k:Nat){r s t b c d:Nat}{ty:TypeId}{A B C:List y9}{u v x:y9}(hr:fn.results = #[.cell r ty,.cell s ty,.cell t ty])(hi:bl[i]?=some (b,A))(hj:bl[j]?=some (c,B))(hk:bl[k]?=some (d,C))(h:R (.R (.tuple #[u,v,x])) w)
  (J:Vp.ev l (.tmp r)=some (.q b 0):=by kernel_rfl) (h2:Vp.ev l (.tmp s)=some (.q c 0):=by kernel_rfl) (h3:Vp.ev l (.tmp t)=some (.q d 0):=by kernel_rfl) (l1:SB P ty A=some u:=by kernel_rfl) (l2:SB P ty B=some v:=by kernel_rfl) (l3:SB P ty C=some x:=by kernel_rfl):bodyPost P fn R .ret a w:=by
 refine⟨S.s.defers,_,?_,h⟩;have D:=S.s.ev J;have J:=S.s.ev h2;have e3:=S.s.ev h3;unfold results;rw[hr];simp only[Act.eval,Array.getD_eq_getD_getElem?]at D J e3;simp[D,J,e3,asAddr,S.var hi l1,S.var hj l2,S.var hk l3]
abbrev Wx{f:FuncId}{args:Array y9}(h:Nq prog f args w (Ï w (.i (bl a:Nat))))(D:a=b):Nq prog f args w (Ï w (.i (bl b:Nat))):=D▸h
abbrev jY(v:y9)(q:Bool×Nat×Nat)(K:Nat)(w:E5)(h:fB K w v q)(D:K<=1000000) :
  Nq prog 175 #[v] w λe w'=>∃x,e = .R x∧dR w.heap.size w' x q∧Ext w w':=by
 obtain⟨n1,s1,D,J,s2,S,rfl,h1,h2,h3,h4,rfl⟩:=h;exact pK n1 J s1 s2 D S w h1 h2 Z Z
abbrev Wy(v1 v2:y9)(z:Int)(d K:Nat)(w:E5)(D:jX K w v1 z)(J:jX K w v2 (d:Int))(hd:0<d)(S:K<=1000000) :
  Nq prog 258 #[v1,v2] w λe w'=>∃x,e = .R x∧dR w.heap.size w' x (nz z d)∧Ext w w':=by
 obtain⟨n1,s1,l,rfl,D,hl,rfl⟩:=D;obtain⟨n2,s2,m,rfl,J,hm,S⟩:=J;obtain⟨rfl,rfl⟩:n2=false∧TR m=d:=by
  unfold zv at S;cases n2
  .simp only[ϝ,if_false]at S; exact⟨I,Z⟩
  simp only[if_true]at S; omega
 have h:=KE n1 false s1 s2 l m w D J hd Z Z;rw[<-apd];unfold nrm;rw[UQ Z];exact h
abbrev LC(v1 v2:y9)(D J:Bool×Nat×Nat)(K1 K2:Nat)(w:E5)(h1:fB K1 w v1 D)(h2:fB K2 w v2 J)(a4:1<=K1)(a5:1<=K2)(bh:K1<=100000)(bj:K2<=100000) :
  Nq prog 227 #[v1,v2] w λe w'=>∃x y d,e = .R (.tuple #[x,y,d])∧CQ w.heap.size w' x (qz D*(J.2.2:Int))∧CQ w.heap.size w' y (qz J*(D.2.2:Int))∧CQ w.heap.size w' d ((D.2.2:Int)*(J.2.2:Int))∧Ext w w':=by
 obtain⟨n1,a1,m1,c1,o1,aq,k1,d1,rfl⟩:=h1.shape;have PE:=h1.len a4;have be:=h1.pos;obtain⟨n2,a2,m2,c2,o2,ar,k2,d2,rfl⟩:=h2.shape;have Nc:=h2.len a5;have bg:=h2.pos;refine Ä func227 ntmps227 λS=>Ú S [.b n1,.s a1 m1 c1,.b o1,.s aq k1 d1] λu b2 E3 a7 S=>Ú S [.b n2,.s a2 m2 c2,.b o2,.s ar k2 d2] λu b5 E6 a8 S=>Ú S [.z,.sn] λu b8 E9 Bf S=>Ú S [.z,.sn] λu a9 rW bb S=>Ú S [.z,.sn] λu bc bd a6 S=>jm S 4 [(8,λv w1=>dR w.heap.size w1 v D),(10,λv w1=>dR w.heap.size w1 v J)] (λr=>[.M 4 0,.M 3 0]) (λx=>[x 8,x 10]) (λx=>[(_,_,true,x 8,8),(_,_,true,x 10,10)]) [[],[]] (λx=>[(8,x 8),(10,x 10)]) ⟨λ_ _ _ k h=>aC.ext h k,λ_ _ _ k h=>aC.ext h k,G⟩ (λx=>⟨by intro u hC g F; exact(jY _ D K1 _ (h1.below (Ip S.E hC)) Z).mono λe w2 h=>by obtain⟨x,rfl,hx,hb⟩:=h; exact⟨_,I,hx.mono ((Ip S.E hC)).size,hb⟩,by intro u hC g F; exact(jY _ J K2 _ (h2.below (Ip S.E hC)) Z).mono λe w2 h=>by obtain⟨x,rfl,hx,hb⟩:=h; exact⟨_,I,hx.mono ((Ip S.E hC)).size,hb⟩,G⟩) λu x zU F S=>?_;obtain⟨F8,ah,-⟩:=F;obtain⟨x1,e1,y1,f1,em⟩:=aC.shape F8;rw[em]at S F8;try rw[em]
 obtain⟨x2,e2,y2,f2,em⟩:=aC.shape ah;rw[em]at S ah;try rw[em]
 have YD:=S.bx 4;refine í S 4 (off:=0) (cs:=[.b D.1,.s x1 (RI D.2.1).length e1,.z,.s y1 (RI D.2.2).length f1]) I λu an S=>?_;have vM:=aC.dZ F8 an YD;have Ag:=aC.dZ ah an YD;have Np:=S.bx 3;refine í S 3 (off:=0) (cs:=[.b J.1,.s x2 (RI J.2.1).length e2,.z,.s y2 (RI J.2.2).length f2]) I λu ao S=>?_;have BI:=aC.dZ vM ao Np;have Dz:=aC.dZ Ag ao Np;refine jm S 15 [(15,λv w1=>CQ w.heap.size w1 v (qz D*(J.2.2:Int))),(20,λv w1=>CQ w.heap.size w1 v (qz J*(D.2.2:Int))),(25,λv w1=>CQ w.heap.size w1 v ((D.2.2:Int)*(J.2.2:Int)))] (λr=>[.M 4 0,.M 3 2,.M 3 0,.M 4 2,.M 4 2,.M 3 2]) (λx=>[x 15,x 20,x 25]) (λx=>[(_,_,true,x 15,15),(_,_,true,x 20,20),(_,_,true,x 25,25)]) [[],[],[]] (λx=>[(15,x 15),(20,x 20),(25,x 25)]) ⟨λ_ _ _ k h=>aS.ext h k,λ_ _ _ k h=>aS.ext h k,λ_ _ _ k h=>aS.ext h k,G⟩ (λx=>⟨by intro u hC g F; exact(rU _ _ _ _ _ _ _ (((BI.ext hC)).parts' PE).1 (((Dz.ext hC)).parts' Nc).2 Z Z).mono λe w2 h=>by obtain⟨x,rfl,hx,hb⟩:=h; exact⟨_,I,hx.mono ((Ip S.E hC)).size,hb⟩,by intro u hC g F; exact(rU _ _ _ _ _ _ _ (((Dz.ext hC)).parts' Nc).1 (((BI.ext hC)).parts' PE).2 Z Z).mono λe w2 h=>by obtain⟨x,rfl,hx,hb⟩:=h; exact⟨_,I,hx.mono ((Ip S.E hC)).size,hb⟩,by intro u hC g F; exact(rU _ _ _ _ _ _ _ (((BI.ext hC)).parts' PE).2 (((Dz.ext hC)).parts' Nc).2 Z Z).mono λe w2 h=>by obtain⟨x,rfl,hx,hb⟩:=h; exact⟨_,I,hx.mono ((Ip S.E hC)).size,hb⟩,G⟩) λu x Ku F S=>?_;obtain⟨ai,al,am,-⟩:=F;obtain⟨av,aw,em⟩:=aS.shape ai;rw[em]at S ai;try rw[em]
 obtain⟨ax,ay,em⟩:=aS.shape al;rw[em]at S al;try rw[em]
 obtain⟨az,a3,em⟩:=aS.shape am;rw[em]at S am;try rw[em]
 have ae:=S.bx 2;refine í S 2 (off:=0) (cs:=[.b ((qz D*(J.2.2:Int))<0),.s av (RI ((qz D*(J.2.2:Int))).natAbs).length aw]) I λu aa S=>?_;have xX:=aS.dZ ai aa ae;have Dc:=aS.dZ al aa ae;have IV:=aS.dZ am aa ae;have af:=S.bx 1;refine í S 1 (off:=0) (cs:=[.b ((qz J*(D.2.2:Int))<0),.s ax (RI ((qz J*(D.2.2:Int))).natAbs).length ay]) I λu ab S=>?_;have S:=S.fl;have ap:=aS.dZ xX ab af;have Ah:=aS.dZ Dc ab af;have BH:=aS.dZ IV ab af;have ag:=S.bx 0;refine í S 0 (off:=0) (cs:=[.b (((D.2.2:Int)*(J.2.2:Int))<0),.s az (RI (((D.2.2:Int)*(J.2.2:Int))).natAbs).length a3]) I λu ac S=>?_;have D:=aS.dZ ap ac ag;have J:=aS.dZ Ah ac ag;have vN:=aS.dZ BH ac ag;refine ϐ S λS=>?_;refine Sx.aui S 2 1 0 results227 I I I ⟨_,_,_,I,D,J,vN,S.E⟩
abbrev WA(v1 v2:y9)(D J:Bool×Nat×Nat)(K1 K2:Nat)(w:E5)(h1:fB K1 w v1 D)(h2:fB K2 w v2 J)(am:1<=K1)(an:1<=K2)(aq:K1<=100000)(ar:K2<=100000) :
  Nq prog 268 #[v1,v2] w λe w'=>∃x,e = .R x∧dR w.heap.size w' x (Ci D J)∧Ext w w':=by
 obtain⟨n1,a1,m1,c1,o1,ai,k1,d1,rfl⟩:=h1.shape;have PE:=h1.len am;have ag:=h1.pos;obtain⟨n2,a2,m2,c2,o2,al,k2,d2,rfl⟩:=h2.shape;have Nc:=h2.len an;have ah:=h2.pos;refine Ä func268 ntmps268 λS=>Ú S [.b n1,.s a1 m1 c1,.b o1,.s ai k1 d1] λu b2 E3 ao S=>Ú S [.b n2,.s a2 m2 c2,.b o2,.s al k2 d2] λu b5 E6 ap S=>Ú S Sx.zr λu b8 E9 Bf S=>jm S 4 [(6,λv w1=>dR w.heap.size w1 v D),(8,λv w1=>dR w.heap.size w1 v J)] (λr=>[.M 2 0,.M 1 0]) (λx=>[x 6,x 8]) (λx=>[(_,_,true,x 6,6),(_,_,true,x 8,8)]) [[],[]] (λx=>[(6,x 6),(8,x 8)]) ⟨λ_ _ _ k h=>aC.ext h k,λ_ _ _ k h=>aC.ext h k,G⟩ (λx=>⟨by intro u hC g F; exact(jY _ D K1 _ (h1.below (Ip S.E hC)) Z).mono λe w2 h=>by obtain⟨x,rfl,hx,hb⟩:=h; exact⟨_,I,hx.mono ((Ip S.E hC)).size,hb⟩,by intro u hC g F; exact(jY _ J K2 _ (h2.below (Ip S.E hC)) Z).mono λe w2 h=>by obtain⟨x,rfl,hx,hb⟩:=h; exact⟨_,I,hx.mono ((Ip S.E hC)).size,hb⟩,G⟩) λu x rW F S=>?_;obtain⟨F6,F8,-⟩:=F;obtain⟨x1,e1,y1,f1,em⟩:=aC.shape F6;rw[em]at S F6;try rw[em]
 obtain⟨x2,e2,y2,f2,em⟩:=aC.shape F8;rw[em]at S F8;try rw[em]
 have Me:=S.bx 2;refine í S 2 (off:=0) (cs:=[.b D.1,.s x1 (RI D.2.1).length e1,.z,.s y1 (RI D.2.2).length f1]) I λu ab S=>?_;have oU:=aC.dZ F6 ab Me;have Aa:=aC.dZ F8 ab Me;have ac:=S.bx 1;refine í S 1 (off:=0) (cs:=[.b J.1,.s x2 (RI J.2.1).length e2,.z,.s y2 (RI J.2.2).length f2]) I λu Xu S=>?_;have pY:=aC.dZ oU Xu ac;have EM:=aC.dZ Aa Xu ac;refine jm S 11 [(13,λv w1=>CQ w.heap.size w1 v (qz D*qz J)),(18,λv w1=>CQ w.heap.size w1 v ((D.2.2:Int)*(J.2.2:Int))),(19,λv w1=>dR w.heap.size w1 v (Ci D J))] (λr=>[.M 2 0,.M 1 0,.M 2 2,.M 1 2]) (λx=>[x 13,x 18,x 19]) (λx=>[(_,_,true,x 13,13),(_,_,true,x 18,18),(_,_,true,x 19,19)]) [[],[],[13,18]] (λx=>[(19,x 19)]) ⟨λ_ _ _ k h=>aS.ext h k,λ_ _ _ k h=>aS.ext h k,λ_ _ _ k h=>aC.ext h k,G⟩ (λx=>⟨by intro u hC g F; exact(rU _ _ _ _ _ _ _ (((pY.ext hC)).parts' PE).1 (((EM.ext hC)).parts' Nc).1 Z Z).mono λe w2 h=>by obtain⟨x,rfl,hx,hb⟩:=h; exact⟨_,I,hx.mono ((Ip S.E hC)).size,hb⟩,by intro u hC g F; exact(rU _ _ _ _ _ _ _ (((pY.ext hC)).parts' PE).2 (((EM.ext hC)).parts' Nc).2 Z Z).mono λe w2 h=>by obtain⟨x,rfl,hx,hb⟩:=h; exact⟨_,I,hx.mono ((Ip S.E hC)).size,hb⟩,by intro u hC g F; obtain⟨Vg,ae,-⟩:=F; exact(Wy _ _ (qz D*qz J) (D.2.2*J.2.2) (K1+K2) _ (CQ.toQ Vg (kM _ _ (qA PE) (qA Nc))) (CQ.toQ (z:=((D.2.2*J.2.2:Nat):Int)) (by rw[Int.natCast_mul]; exact ae) (by rw[Int.natCast_mul]; exact kM _ _ (jQ PE.2) (jQ Nc.2))) (Ϡ ag ah) Z).mono λe w2 h=>by obtain⟨x,rfl,hx,hb⟩:=h; exact⟨_,I,hx.mono ((Ip S.E hC)).size,hb⟩,G⟩) λu x L6 F S=>?_;obtain⟨Vg,ae,aa,-⟩:=F;obtain⟨x3,e3,y3,f3,em⟩:=aC.shape aa;rw[em]at S aa;try rw[em]
 have Np:=S.bx 0;refine í S 0 (off:=0) (cs:=[.b ((Ci D J).1),.s x3 (RI (Ci D J).2.1).length e3,.z,.s y3 (RI (Ci D J).2.2).length f3]) I λu af S=>?_;have BI:=aC.dZ aa af Np;refine ü S 0 I (v := .agg #[.b ((Ci D J).1),.s x3 (RI (Ci D J).2.1).length e3,.z,.s y3 (RI (Ci D J).2.2).length f3]) λS=>?_;exact⟨_,I,BI,S.E⟩
abbrev mV(v1 v2:y9)(q1 q2:Bool×Nat×Nat)(K1 K2:Nat)(w:E5)(h1:fB K1 w v1 q1)(h2:fB K2 w v2 q2)(D:1<=K1)(J:1<=K2)(aa:K1<=100000)(ab:K2<=100000) :
  Nq prog 181 #[v1,v2] w (Ï w (.i (nD q1 q2))):=by
 obtain⟨n1,a1,m1,c1,o1,am,k1,d1,rfl⟩:=h1.shape;have PE:=h1.len D;have ah:=h1.pos;obtain⟨n2,a2,m2,c2,o2,an,k2,d2,rfl⟩:=h2.shape;have Nc:=h2.len J;have ai:=h2.pos;refine Ä func181 ntmps181 λS=>Â S λu b2 E3 ac S=>Â S λu b5 E6 ae S=>O1 S 3 [] [.M 1 0,.M 0 0] λS=>ê S (LC _ _ q1 q2 K1 K2 _ (h1.below S.E) (h2.below S.E) D J aa ab) ?_;rintro e u ⟨x,y,d,rfl,hx,hy,hd,D⟩;obtain⟨p0,J,rfl⟩:=hx.shape;obtain⟨p1,J,rfl⟩:=hy.shape;obtain⟨p2,J,rfl⟩:=hd.shape;refine⟨_,I,D,λS=>?_⟩;refine Â S λu b10 D J S=>Â S λu J wR af S=>Â S λu J Ak ag S=>É S 2 I λu J S=>?_;have zV:=È (Ip D (Ip wR Ak)) J;have xE:=È (Ip D (Ip wR Ak)) J;have L6:=È (Ip D (Ip wR Ak)) J;refine É S 1 I λu J S=>?_;have ED:=È zV J (by have:=D.size; omega);have GI:=È xE J (by have:=D.size; omega);have WV:=È L6 J (by have:=D.size; omega);refine É S 0 I λu J S=>?_;have Ku:=È ED J (by have:=(Ip D wR).size; omega);have zW:=È GI J (by have:=(Ip D wR).size; omega);have al:=È WV J (by have:=(Ip D wR).size; omega);refine O1 S 2 [] [.M 2 0,.M 1 0] λS=>ð S (ZK _ _ _ _ _ _ _ (CQ.toQ (K:=K1+K2) ((hx.ext Ku)) (kM _ _ (qA PE) (jQ Nc.2))) (CQ.toQ (K:=K1+K2) ((hy.ext zW)) (by rw[Ν]; exact kM _ _ (qA Nc) (jQ PE.2))) Z Z) λu D S=>Xe S (.i (nD q1 q2)) λS=>?_;exact⟨I,S.E⟩
abbrev ah0(v1 v2:y9)(D J:Bool×Nat×Nat)(K1 K2:Nat)(w:E5)(h1:fB K1 w v1 D)(h2:fB K2 w v2 J)(ag:1<=K1)(ah:1<=K2)(aq:K1<=100000)(ar:K2<=100000) :
  Nq prog 267 #[v1,v2] w λe w'=>∃x,e = .R x∧dR w.heap.size w' x (Nw D J)∧Ext w w':=by
 obtain⟨n1,a1,m1,c1,o1,ao,k1,d1,rfl⟩:=h1.shape;have PE:=h1.len ag;have ai:=h1.pos;obtain⟨n2,a2,m2,c2,o2,ap,k2,d2,rfl⟩:=h2.shape;have Nc:=h2.len ah;have al:=h2.pos;refine Ä func267 ntmps267 λS=>Ú S [.b n1,.s a1 m1 c1,.b o1,.s ao k1 d1] λu b2 E3 av S=>Ú S [.b n2,.s a2 m2 c2,.b o2,.s ap k2 d2] λu b5 E6 aw S=>Ú S Sx.zr λu b8 E9 Bf S=>O1 S 2 [] [.M 2 0,.M 1 0] λS=>ê S (LC _ _ D J K1 K2 _ (h1.below S.E) (h2.below S.E) ag ah aq ar) ?_;rintro e u ⟨x,y,d,rfl,hx,hy,hd,rW⟩;obtain⟨p0,g0,rfl⟩:=hx.shape;obtain⟨p1,g1,rfl⟩:=hy.shape;obtain⟨p2,g2,rfl⟩:=hd.shape;refine⟨_,I,rW,λS=>?_⟩;refine Ú S [.z,.sn] λu ax wR ay S=>Ú S [.z,.sn] λu az Ak a3 S=>Ú S [.z,.sn] λu a4 zV xJ S=>í S 2 (off:=0) (cs:=[.b ((qz D*(J.2.2:Int))<0),.s p0 (RI ((qz D*(J.2.2:Int))).natAbs).length g0]) I λu ab S=>?_;have am:=È (Ip wR (Ip Ak zV)) ab;have ED:=È (Ip wR (Ip Ak zV)) ab;have GI:=È (Ip wR (Ip Ak zV)) ab;refine í S 1 (off:=0) (cs:=[.b ((qz J*(D.2.2:Int))<0),.s p1 (RI ((qz J*(D.2.2:Int))).natAbs).length g1]) I λu ac S=>?_;have an:=È am ac (by have:=wR.size; omega);have Ku:=È ED ac (by have:=wR.size; omega);have zW:=È GI ac (by have:=wR.size; omega);refine í S 0 (off:=0) (cs:=[.b (((D.2.2:Int)*(J.2.2:Int))<0),.s p2 (RI (((D.2.2:Int)*(J.2.2:Int))).natAbs).length g2]) I λu L8 S=>?_;have Bg:=È an L8 (by have:=(Ip wR Ak).size; omega);have Oo:=È Ku L8 (by have:=(Ip wR Ak).size; omega);have af:=È zW L8 (by have:=(Ip wR Ak).size; omega);refine jm S 5 [(17,λv w1=>CQ w.heap.size w1 v ((qz D*(J.2.2:Int))-(qz J*(D.2.2:Int)))),(19,λv w1=>dR w.heap.size w1 v (Nw D J))] (λr=>[.M 2 0,.M 1 0,.M 0 0]) (λx=>[x 17,x 19]) (λx=>[(_,_,true,x 17,17),(_,_,true,x 19,19)]) [[],[17]] (λx=>[(19,x 19)]) ⟨λ_ _ _ k h=>aS.ext h k,λ_ _ _ k h=>aC.ext h k,G⟩ (λx=>⟨by intro u hC g F; exact(Lu _ _ _ _ _ _ _ (CQ.toQ (K:=K1+K2) ((hx.ext (Ip Bg hC))) (kM _ _ (qA PE) (jQ Nc.2))) (CQ.toQ (K:=K1+K2) ((hy.ext (Ip Oo hC))) (by rw[Ν]; exact kM _ _ (qA Nc) (jQ PE.2))) Z Z).mono λe w2 h=>by obtain⟨x,rfl,hx,hb⟩:=h; exact⟨_,I,hx.mono ((Ip S.E hC)).size,hb⟩,by intro u hC g F; obtain⟨MI,-⟩:=F; exact(Wy _ _ ((qz D*(J.2.2:Int))-(qz J*(D.2.2:Int))) (D.2.2*J.2.2) (K1+K2+1) _ (CQ.toQ MI (Si _ _ (Ll (K:=K1+K2) (CQ.toQ (K:=K1+K2) ((hx.ext (Ip Bg hC))) (kM _ _ (qA PE) (jQ Nc.2)))) (Ll (K:=K1+K2) (CQ.toQ (K:=K1+K2) ((hy.ext (Ip Oo hC))) (by rw[Ν]; exact kM _ _ (qA Nc) (jQ PE.2)))))) (by rw[Int.natCast_mul]; exact jX.mono (CQ.toQ (K:=K1+K2) ((hd.ext (Ip af hC))) (kM _ _ (jQ PE.2) (jQ Nc.2))) Z) (Ϡ ai al) Z).mono λe w2 h=>by obtain⟨x,rfl,hx,hb⟩:=h; exact⟨_,I,hx.mono ((Ip S.E hC)).size,hb⟩,G⟩) λu x MC F S=>?_;obtain⟨MI,ae,-⟩:=F;obtain⟨x3,e3,y3,f3,em⟩:=aC.shape ae;rw[em]at S ae;try rw[em]
 have aa:=S.bx 3;refine í S 3 (off:=0) (cs:=[.b ((Nw D J).1),.s x3 (RI (Nw D J).2.1).length e3,.z,.s y3 (RI (Nw D J).2.2).length f3]) I λu GZ S=>?_;have S:=S.fl;have BH:=aS.dZ (hx.ext (Ip Bg MC)) GZ aa;have EN:=aS.dZ (hy.ext (Ip Oo MC)) GZ aa;have Jk:=aS.dZ (hd.ext (Ip af MC)) GZ aa;have xW:=aC.dZ ae GZ aa;refine ü S 3 I (v := .agg #[.b ((Nw D J).1),.s x3 (RI (Nw D J).2.1).length e3,.z,.s y3 (RI (Nw D J).2.2).length f3]) λS=>?_;exact⟨_,I,xW,S.E⟩
abbrev nZ(v1:y9)(D:Bool×Nat×Nat)(J:Nat)(w:E5)(h1:fB J w v1 D)(ab:1<=J)(hM:J<=100000) :
  Nq prog 229 #[v1] w (Ï w (.i (eY D:Int))):=by
 obtain⟨n1,a1,m1,c1,o1,aa,k1,d1,rfl⟩:=h1.shape;have PE:=h1.len ab;have ae:=h1.pos;refine Ä func229 ntmps229 λS=>Ú S [.b n1,.s a1 m1 c1,.b o1,.s aa k1 d1] λu b2 E3 ac S=>O1 S 2 [] [.M 0 0] λS=>ê S (jY _ D J _ (h1.below S.E) Z) ?_;rintro e u ⟨x,rfl,hx,E6⟩;obtain⟨x1,J,y1,f1,rfl⟩:=aC.shape hx;refine⟨_,I,E6,λS=>?_⟩;have X8:=S.bx 0;refine í S 0 (off:=0) (cs:=[.b D.1,.s x1 (RI D.2.1).length J,.z,.s y1 (RI D.2.2).length f1]) I λu C7 S=>?_;have J:=aC.dZ hx C7 X8;refine ć S 7 [.M 0 0,.M 0 2,.re 11 (.i (if ((bl (D.2.2):Nat):Int)>((bl (D.2.1):Nat):Int)then ((bl (D.2.2):Nat):Int)else ((bl (D.2.1):Nat):Int))) (.i (max ((bl (D.2.1):Nat):Int) ((bl (D.2.2):Nat):Int)))] [(_,_,true,.i (bl (D.2.1):Nat)),(_,_,true,.i (bl (D.2.2):Nat))] [(11,.i (max ((bl (D.2.1):Nat):Int) ((bl (D.2.2):Nat):Int)))] ⟨λu hC g=>Wx (AB _ _ _ _ (((J.ext hC)).parts' PE).1 Z) (by first | (rw[show(qz D).natAbs=D.2.1 from ug ..]) | rw[ź]),λu hC g=>Wx (AB _ _ _ _ (((J.ext hC)).parts' PE).2 Z) (by first | (rw[show(qz D).natAbs=D.2.1 from ug ..]) | rw[ź]),G⟩ (hk:=⟨ape,G⟩) λu J S=>Xe S (.i (max ((bl (D.2.1):Nat):Int) ((bl (D.2.2):Nat):Int))) λS=>?_;exact⟨by unfold eY; congr 2; omega,S.E⟩
structure Q6 where
 a:Bool×Nat×Nat
 b:Bool×Nat×Nat
 c:Bool×Nat×Nat
 d:Bool×Nat×Nat
 e:Bool×Nat×Nat
 f:Bool×Nat×Nat
def eF(R:E5->y9->Bool×Nat×Nat->Prop)(w:E5)(v:y9)(Q:Q6):Prop:=
 ∃c0 c1 c2 c3 c4 c5 c6 c7 c8 c9 c10 D J S aa ab ac ae af ag ah ai WX al:y9,v = .agg #[c0,c1,c2,c3,c4,c5,c6,c7,c8,c9,c10,D,J,S,aa,ab,ac,ae,af,ag,ah,ai,WX,al]∧R w (.agg #[c0,c1,c2,c3]) Q.a∧R w (.agg #[c4,c5,c6,c7]) Q.b∧R w (.agg #[c8,c9,c10,D]) Q.c∧R w (.agg #[J,S,aa,ab]) Q.d∧R w (.agg #[ac,ae,af,ag]) Q.e∧R w (.agg #[ah,ai,WX,al]) Q.f
abbrev nC (K:Nat):E5->y9->Q6->Prop:=eF (fB K)
abbrev uj (base:Nat):E5->y9->Q6->Prop:=eF (dR base)
abbrev eF.mono{R J:E5->y9->Bool×Nat×Nat->Prop}{w w':E5}{v:y9}{Q:Q6}(h:eF R w v Q)(D:∀x q,R w x q->J w' x q):eF J w' v Q:=by
 obtain⟨c0,c1,c2,c3,c4,c5,c6,c7,c8,c9,c10,J,S,aa,ab,ac,ae,af,ag,ah,ai,al,WX,am,hv,h0,h1,h2,h3,h4,h5⟩:=h;exact⟨c0,c1,c2,c3,c4,c5,c6,c7,c8,c9,c10,J,S,aa,ab,ac,ae,af,ag,ah,ai,al,WX,am,hv,D _ _ h0,D _ _ h1,D _ _ h2,D _ _ h3,D _ _ h4,D _ _ h5⟩
abbrev eF.iT{K:Nat}{w w':E5}{v:y9}{Q:Q6}(h:nC K w v Q)(D:Ext w w'):nC K w' v Q:=h.mono λ_ _ k=>k.below D
abbrev eF.uX{base:Nat}{w w':E5}{v:y9}{Q:Q6}(h:uj base w v Q)(D:Ext w w'):uj base w' v Q:=h.mono λ_ _ k=>k.ext D
abbrev eF.alT{base D:Nat}{w:E5}{v:y9}{Q:Q6}(h:uj base w v Q)(J:D<=base):uj D w v Q:=h.mono λ_ _ k=>aC.mono k J
def Di(Q:Q6):Prop:=NY Q.a∧NY Q.b∧NY Q.c∧NY Q.d∧NY Q.e∧NY Q.f
def VU(K:Nat)(Q:Q6):Prop:=qlen K Q.a∧qlen K Q.b∧qlen K Q.c∧qlen K Q.d∧qlen K Q.e∧qlen K Q.f
abbrev eF.nrm{K:Nat}{w:E5}{v:y9}{Q:Q6}(h:nC K w v Q):Di Q:=by
 obtain⟨c0,c1,c2,c3,c4,c5,c6,c7,c8,c9,c10,D,J,S,aa,ab,ac,ae,af,ag,ah,ai,WX,al,hv,h0,h1,h2,h3,h4,h5⟩:=h;exact⟨h0.nrm,h1.nrm,h2.nrm,h3.nrm,h4.nrm,h5.nrm⟩
abbrev eF.len{K:Nat}{w:E5}{v:y9}{Q:Q6}(h:nC K w v Q)(D:1<=K):VU K Q:=by
 obtain⟨c0,c1,c2,c3,c4,c5,c6,c7,c8,c9,c10,J,S,aa,ab,ac,ae,af,ag,ah,ai,al,WX,am,hv,h0,h1,h2,h3,h4,h5⟩:=h;exact⟨h0.len D,h1.len D,h2.len D,h3.len D,h4.len D,h5.len D⟩
def bD.q(t:bD):Q6:=⟨t.a.q,t.b.q,t.c.q,t.d.q,t.e.q,t.f.q⟩
abbrev bD.toQ{K:Nat}{w:E5}{t:bD}(h:t.ok w)(hf:t.fit K):nC K w t.v t.q:=by
 obtain⟨D,J,S,h3,h4,h5⟩:=h;obtain⟨f0,f1,f2,f3,f4,f5⟩:=hf;exact⟨_,_,_,_,_,_,_,_,_,_,_,_,_,_,_,_,_,_,_,_,_,_,_,_,I,bH.toQ D f0,bH.toQ J f1,bH.toQ S f2,bH.toQ h3 f3,bH.toQ h4 f4,bH.toQ h5 f5⟩
def Q6.valid(Q:Q6):Bool:=decide (eY Q.a<=256)&&(decide (eY Q.b<=256)&&(decide (eY Q.c<=256)&&(decide (eY Q.d<=256)&&(decide (eY Q.e<=256)&&(decide (eY Q.f<=256))))))
def Q6.Gt(Q:Q6):Bool×Nat×Nat:=Nw (Ci Q.a Q.d) (Ci Q.b Q.c)
def Q6.eq(P Q:Q6):Bool:=qB P.a Q.a&&(qB P.b Q.b&&(qB P.c Q.c&&(qB P.d Q.d&&(qB P.e Q.e&&(qB P.f Q.f)))))
open Na
variable{α:Type}
def qI:Q6:=⟨(false,1,1),(false,0,1),(false,0,1),(false,1,1),(false,0,1),(false,0,1)⟩
open Na
variable{α:Type}
abbrev fB.iR{K:Nat}{w:E5}{v:y9}{q:Bool×Nat×Nat}(h:fB K w v q):∃r:bH,v=r.v:=by
 obtain⟨n1,s1,D,J,s2,S,rfl,h1,h2,_⟩:=h;obtain⟨a1,c1,rfl,_⟩:=h1;obtain⟨a2,c2,rfl,_⟩:=h2;exact⟨⟨n1,a1,c1,D,J,a2,c2,S⟩,I⟩
abbrev aC.iR{base:Nat}{w:E5}{v:y9}{neg:Bool}{a b:Nat}(h:aC base w v neg a b):∃r:bH,v=r.v:=by
 obtain⟨s,t,rfl,D,J,_⟩:=h;obtain⟨a1,c1,rfl,_⟩:=D;obtain⟨a2,c2,rfl,_⟩:=J;exact⟨⟨_,a1,c1,_,_,a2,c2,_⟩,I⟩
abbrev eF.ah1{R:E5->y9->Bool×Nat×Nat->Prop}{w:E5}{v:y9}{Q:Q6}(h:eF R w v Q)(D:∀x q,R w x q->∃r:bH,x=r.v):∃t:bD,v=t.v∧R w t.a.v Q.a∧R w t.b.v Q.b∧R w t.c.v Q.c∧R w t.d.v Q.d∧R w t.e.v Q.e∧R w t.f.v Q.f:=by
 obtain⟨c0,c1,c2,c3,c4,c5,c6,c7,c8,c9,c10,aa,ab,ac,ae,af,ag,ah,ai,al,am,an,WX,ao,rfl,J,S,h2,h3,h4,h5⟩:=h;obtain⟨r0,e0⟩:=D _ _ J;simp only[bH.v,ů,Ů,Ă,and_true]at e0;obtain⟨rfl,rfl,rfl,rfl⟩:=e0;obtain⟨r1,e1⟩:=D _ _ S;simp only[bH.v,ů,Ů,Ă,and_true]at e1;obtain⟨rfl,rfl,rfl,rfl⟩:=e1;obtain⟨r2,e2⟩:=D _ _ h2;simp only[bH.v,ů,Ů,Ă,and_true]at e2;obtain⟨rfl,rfl,rfl,rfl⟩:=e2;obtain⟨r3,e3⟩:=D _ _ h3;simp only[bH.v,ů,Ů,Ă,and_true]at e3;obtain⟨rfl,rfl,rfl,rfl⟩:=e3;obtain⟨r4,e4⟩:=D _ _ h4;simp only[bH.v,ů,Ů,Ă,and_true]at e4;obtain⟨rfl,rfl,rfl,rfl⟩:=e4;obtain⟨r5,e5⟩:=D _ _ h5;simp only[bH.v,ů,Ů,Ă,and_true]at e5;obtain⟨rfl,rfl,rfl,rfl⟩:=e5;exact⟨⟨r0,r1,r2,r3,r4,r5⟩,I,J,S,h2,h3,h4,h5⟩
abbrev eF.sQ{K:Nat}{w:E5}{v:y9}{Q:Q6}(h:nC K w v Q):∃t:bD,v=t.v∧fB K w t.a.v Q.a∧fB K w t.b.v Q.b∧fB K w t.c.v Q.c∧fB K w t.d.v Q.d∧fB K w t.e.v Q.e∧fB K w t.f.v Q.f:=h.ah1 λ_ _ k=>k.iR
abbrev eF.sT{base:Nat}{w:E5}{v:y9}{Q:Q6}(h:uj base w v Q):∃t:bD,v=t.v∧dR base w t.a.v Q.a∧dR base w t.b.v Q.b∧dR base w t.c.v Q.c∧dR base w t.d.v Q.d∧dR base w t.e.v Q.e∧dR base w t.f.v Q.f:=h.ah1 λ_ _ k=>aC.iR k
abbrev eF.of{R:E5->y9->Bool×Nat×Nat->Prop}{w:E5}{t:bD}{Q:Q6}(D:R w t.a.v Q.a)(J:R w t.b.v Q.b)(S:R w t.c.v Q.c)(h3:R w t.d.v Q.d)(h4:R w t.e.v Q.e)(h5:R w t.f.v Q.f):eF R w t.v Q:=
 ⟨_,_,_,_,_,_,_,_,_,_,_,_,_,_,_,_,_,_,_,_,_,_,_,_,I,D,J,S,h3,h4,h5⟩
abbrev eF.inv{R:E5->y9->Bool×Nat×Nat->Prop}{w:E5}{t:bD}{Q:Q6}(h:eF R w t.v Q):R w t.a.v Q.a∧R w t.b.v Q.b∧R w t.c.v Q.c∧R w t.d.v Q.d∧R w t.e.v Q.e∧R w t.f.v Q.f:=by
 obtain⟨c0,c1,c2,c3,c4,c5,c6,c7,c8,c9,c10,D,J,S,aa,ab,ac,ae,af,ag,ah,ai,WX,al,e,h0,h1,h2,h3,h4,h5⟩:=h;simp only[bD.v,bD.cells,bH.cells,Ĵ,Ģ,ů,Ů,Ă,and_true]at e;obtain⟨rfl,rfl,rfl,rfl,rfl,rfl,rfl,rfl,rfl,rfl,rfl,rfl,rfl,rfl,rfl,rfl,rfl,rfl,rfl,rfl,rfl,rfl,rfl,rfl⟩:=e;exact⟨h0,h1,h2,h3,h4,h5⟩
abbrev eF.pa{R:E5->y9->Bool×Nat×Nat->Prop}{w:E5}{t:bD}{Q:Q6}(h:eF R w t.v Q):R w t.a.v Q.a:=h.inv.1
abbrev eF.pb{R:E5->y9->Bool×Nat×Nat->Prop}{w:E5}{t:bD}{Q:Q6}(h:eF R w t.v Q):R w t.b.v Q.b:=h.inv.2.1
abbrev eF.pc{R:E5->y9->Bool×Nat×Nat->Prop}{w:E5}{t:bD}{Q:Q6}(h:eF R w t.v Q):R w t.c.v Q.c:=h.inv.D
abbrev eF.pd{R:E5->y9->Bool×Nat×Nat->Prop}{w:E5}{t:bD}{Q:Q6}(h:eF R w t.v Q):R w t.d.v Q.d:=h.inv.C
abbrev eF.pe{R:E5->y9->Bool×Nat×Nat->Prop}{w:E5}{t:bD}{Q:Q6}(h:eF R w t.v Q):R w t.e.v Q.e:=h.inv.A
abbrev eF.pf{R:E5->y9->Bool×Nat×Nat->Prop}{w:E5}{t:bD}{Q:Q6}(h:eF R w t.v Q):R w t.f.v Q.f:=h.inv.J
abbrev eF.dZ{base:Nat}{w w':E5}{v:y9}{Q:Q6}{b:Nat}{A:Array y9}(h:uj base w v Q)(D:Ch b w w')(J:Bx w b A)(hA:A.toList.all D8=true:=by rfl):uj base w' v Q:=h.mono λ_ _ k=>aC.dZ k D J hA
end
section
open Na
abbrev eqPt(x y p q:Int)(w:E5):(binOp .eql 130 (.agg #[.i x,.i y]) (.agg #[.i p,.i q])).run prog w = .ok (.b ((x==p)&&(y==q))) w:=by
 simp[go_sem];(repeat' split)<;>simp_all
abbrev apf(x y p q:Int)(w:E5):(binOp .neq 130 (.agg #[.i x,.i y]) (.agg #[.i p,.i q])).run prog w = .ok (.b (!((x==p)&&(y==q)))) w:=by
 simp[go_sem];(repeat' split)<;>simp_all
abbrev ak1(a b c d e f g h:Int)(w:E5):(binOp .eql 178 (.agg #[.u a,.u b,.u c,.u d]) (.agg #[.u e,.u f,.u g,.u h])).run prog w = .ok (.b ((a==e)&&((b==f)&&((c==g)&&(d==h))))) w:=by
 simp[go_sem];(repeat' split)<;>simp_all
abbrev akV(a b c d e f g h:Int)(w:E5):(binOp .neq 178 (.agg #[.u a,.u b,.u c,.u d]) (.agg #[.u e,.u f,.u g,.u h])).run prog w = .ok (.b (!((a==e)&&((b==f)&&((c==g)&&(d==h)))))) w:=by
 simp[go_sem];(repeat' split)<;>simp_all
abbrev aeY(a b c d e f g h:Int)(w:E5):(binOp .eql 40 (.agg #[.u a,.u b,.u c,.u d]) (.agg #[.u e,.u f,.u g,.u h])).run prog w = .ok (.b ((a==e)&&((b==f)&&((c==g)&&(d==h))))) w:=by
 simp[go_sem];(repeat' split)<;>simp_all
abbrev aeT(o a b c d p e f g h:Int)(w:E5):(binOp .neq 202 (.agg #[.i o,.u a,.u b,.u c,.u d]) (.agg #[.i p,.u e,.u f,.u g,.u h])).run prog w = .ok (.b (!((o==p)&&((a==e)&&((b==f)&&((c==g)&&(d==h))))))) w:=by
 simp[go_sem];(repeat' split)<;>simp_all
abbrev akU(v a b c d e f D J b' S d' e' f':Int)(w:E5):(binOp .neq 163 (.agg #[.i v,.i a,.i b,.i c,.i d,.i e,.i f]) (.agg #[.i D,.i J,.i b',.i S,.i d',.i e',.i f'])).run prog w =
  .ok (.b (!((v==D)&&((a==J)&&((b==b')&&((c==S)&&((d==d')&&((e==e')&&(f==f'))))))))) w:=by
 simp[go_sem];(repeat' split)<;>simp_all
end
section
open Na
variable{α:Type}
def iD(n lo D:Int):Int:=if n<lo then lo else if D<n then D else n
abbrev WB(x y:Int):((iD x (-1048576) 1048576==x)&&(iD y (-1048576) 1048576==y))=kG.valid ⟨x,y⟩:=by
 have h:∀z:Int,(iD z (-1048576) 1048576==z)=cok z:=by
  intro z;rw[ŉ];unfold iD cok;simp only[ß,Û,Þ];(repeat' split)<;>omega
 rw[h,h]; rfl
abbrev adO(n lo J:Int)(w:E5) :
  Nq prog 335 #[.i n,.i lo,.i J] w λe w'=>e = .R (.i (iD n lo J))∧w=w':=by
 skip;refine Ä func335 ntmps335 λS=>À S (decide (n<lo)) (λD S=>?_) λD S=>?_
 .have p0:=D;try simp only[Þ,Ą,ß,õ,ne_eq,bne_iff_ne,bne_eq_false_iff_eq]at p0
  refine Xe S (.i lo) λS=>?_;exact⟨jO (by unfold iD; (repeat' split)<;>omega),I⟩
 refine À S (decide (J<n)) (λmO S=>?_) λmO S=>?_
 .have p0:=D;try simp only[Þ,Ą,ß,õ,ne_eq,bne_iff_ne,bne_eq_false_iff_eq]at p0
  have p1:=mO;try simp only[Þ,Ą,ß,õ,ne_eq,bne_iff_ne,bne_eq_false_iff_eq]at p1
  refine Xe S (.i J) λS=>?_;exact⟨jO (by unfold iD; (repeat' split)<;>omega),I⟩
 have p0:=D;try simp only[Þ,Ą,ß,õ,ne_eq,bne_iff_ne,bne_eq_false_iff_eq]at p0
 have p1:=mO;try simp only[Þ,Ą,ß,õ,ne_eq,bne_iff_ne,bne_eq_false_iff_eq]at p1
 refine Xe S (.i n) λS=>?_;exact⟨jO (by unfold iD; (repeat' split)<;>omega),I⟩
abbrev WC(n:Int)(w:E5) :
  Nq prog 334 #[.i n] w λe w'=>e = .R (.i (iD n (-1048576) 1048576))∧w=w':=by
 skip;refine Ä func334 ntmps334 λS=>nH S (adO (n) (-1048576) (1048576) _) λS=>Xe S (.i (iD n (-1048576) (1048576))) λS=>?_;exact⟨I,I⟩
abbrev ah2(x y:Int)(w:E5) :
  Nq prog 330 #[.agg #[.i x,.i y]] w (Ï w (.agg #[.i (iD x (-1048576) 1048576),.i (iD y (-1048576) 1048576)])):=by
 skip;refine Ä func330 ntmps330 λS=>Â S λu b2 J D S=>Â S λu b5 J D S=>ć S 9 [.M 1 0,.M 1 1] [(_,_,true,.i (iD x (-1048576) 1048576)),(_,_,true,.i (iD y (-1048576) 1048576))] [(12,.agg #[.i (iD x (-1048576) 1048576),.i (iD y (-1048576) 1048576)])] ⟨λu D g=>Ġ (WC x _),λu D g=>Ġ (WC y _),G⟩ λu D S=>É S 0 I λu D S=>ü S 0 I (v := .agg #[.i (iD x (-1048576) 1048576),.i (iD y (-1048576) 1048576)]) λS=>?_;exact⟨I,S.E⟩
abbrev mg(x y:Int)(w:E5) :
  Nq prog 301 #[.agg #[.i x,.i y]] w (Ï w (.b (kG.valid ⟨x,y⟩))):=by
 skip;refine Ä func301 ntmps301 λS=>Â S λu b2 J D S=>ć S 4 [.M 0 0,.M 0 0,.cmp .eql 130 (.tmp 4) (.tmp 5) (.agg #[.i (iD x (-1048576) 1048576),.i (iD y (-1048576) 1048576)]) (.agg #[.i x,.i y]) (.b (((iD x (-1048576) 1048576)==x)&&((iD y (-1048576) 1048576)==y)))] [(_,_,true,.agg #[.i (iD x (-1048576) 1048576),.i (iD y (-1048576) 1048576)])] [(6,.b (((iD x (-1048576) 1048576)==x)&&((iD y (-1048576) 1048576)==y)))] ⟨λu D g=>ah2 x y _,G⟩ (hk:=⟨ı (λ_=>eqPt ..) X,G⟩) λu D S=>Xe S (.b (((iD x (-1048576) 1048576)==x)&&((iD y (-1048576) 1048576)==y))) λS=>?_;exact⟨by rw[<-WB],S.E⟩
abbrev zG(v:Int)(w:E5) :
  Nq prog 269 #[.i v] w λe w'=>e = .R (.i (named v))∧w=w':=by
 skip;refine Ä func269 ntmps269 λS=>À S ((v)==4) (λD S=>?_) λD S=>?_
 .have p0:=D;try simp only[Þ,Ą,ß,õ,ne_eq,bne_iff_ne,bne_eq_false_iff_eq]at p0
  refine Xe S (.i 3) λS=>?_;exact⟨jO (by unfold named; (repeat' split)<;>omega),I⟩
 refine À S ((v)==3) (λJ S=>?_) λJ S=>?_
 .have p0:=D;try simp only[Þ,Ą,ß,õ,ne_eq,bne_iff_ne,bne_eq_false_iff_eq]at p0
  have p1:=J;try simp only[Þ,Ą,ß,õ,ne_eq,bne_iff_ne,bne_eq_false_iff_eq]at p1
  refine Xe S (.i 2) λS=>?_;exact⟨jO (by unfold named; (repeat' split)<;>omega),I⟩
 refine À S ((v)==1) (λaa S=>?_) λaa S=>?_
 .refine À S ((v)==1) (λac S=>?_) (λac S=>?_)
  .have p0:=D;try simp only[Þ,Ą,ß,õ,ne_eq,bne_iff_ne,bne_eq_false_iff_eq]at p0
   have p1:=J;try simp only[Þ,Ą,ß,õ,ne_eq,bne_iff_ne,bne_eq_false_iff_eq]at p1
   have p2:=aa;try simp only[Þ,Ą,ß,õ,ne_eq,bne_iff_ne,bne_eq_false_iff_eq]at p2
   refine Xe S (.i 1) λS=>?_;exact⟨jO (by unfold named; (repeat' split)<;>omega),I⟩
  rw[aa]at ac; cases ac
 refine À S ((v)==2) (λab S=>?_) λab S=>?_
 .have p0:=D;try simp only[Þ,Ą,ß,õ,ne_eq,bne_iff_ne,bne_eq_false_iff_eq]at p0
  have p1:=J;try simp only[Þ,Ą,ß,õ,ne_eq,bne_iff_ne,bne_eq_false_iff_eq]at p1
  have p2:=aa;try simp only[Þ,Ą,ß,õ,ne_eq,bne_iff_ne,bne_eq_false_iff_eq]at p2
  have p3:=ab;try simp only[Þ,Ą,ß,õ,ne_eq,bne_iff_ne,bne_eq_false_iff_eq]at p3
  refine Xe S (.i 1) λS=>?_;exact⟨jO (by unfold named; (repeat' split)<;>omega),I⟩
 refine À S ((v)==5) (λae S=>?_) λae S=>?_
 .have p0:=D;try simp only[Þ,Ą,ß,õ,ne_eq,bne_iff_ne,bne_eq_false_iff_eq]at p0
  have p1:=J;try simp only[Þ,Ą,ß,õ,ne_eq,bne_iff_ne,bne_eq_false_iff_eq]at p1
  have p2:=aa;try simp only[Þ,Ą,ß,õ,ne_eq,bne_iff_ne,bne_eq_false_iff_eq]at p2
  have p3:=ab;try simp only[Þ,Ą,ß,õ,ne_eq,bne_iff_ne,bne_eq_false_iff_eq]at p3
  have p4:=ae;try simp only[Þ,Ą,ß,õ,ne_eq,bne_iff_ne,bne_eq_false_iff_eq]at p4
  refine Xe S (.i 0) λS=>?_;exact⟨jO (by unfold named; (repeat' split)<;>omega),I⟩
 have p0:=D;try simp only[Þ,Ą,ß,õ,ne_eq,bne_iff_ne,bne_eq_false_iff_eq]at p0
 have p1:=J;try simp only[Þ,Ą,ß,õ,ne_eq,bne_iff_ne,bne_eq_false_iff_eq]at p1
 have p2:=aa;try simp only[Þ,Ą,ß,õ,ne_eq,bne_iff_ne,bne_eq_false_iff_eq]at p2
 have p3:=ab;try simp only[Þ,Ą,ß,õ,ne_eq,bne_iff_ne,bne_eq_false_iff_eq]at p3
 have p4:=ae;try simp only[Þ,Ą,ß,õ,ne_eq,bne_iff_ne,bne_eq_false_iff_eq]at p4
 refine Xe S (.i (-1)) λS=>?_;exact⟨jO (by unfold named; (repeat' split)<;>omega),I⟩
abbrev fits_any(s:dL)(w:E5) :
  Nq prog 270 #[.agg #[.i s.verb,.i s.a.x,.i s.a.y,.i s.b.x,.i s.b.y,.i s.c.x,.i s.c.y]] w (Ï w (.b s.fits)):=by
 skip;refine Ä func270 ntmps270 λS=>Â S λu b2 J D S=>O1 S 7 [] [.M 0 1,.M 0 3,.M 0 5] λS=>Â S λu b7 J D S=>Š S 3 λS=>ã S λS=>O1 S 3 [] [.M 0 0] λS=>Â S λu J ac D S=>É S 0 I λu D S=>O1 S 1 [] [.M 0 0] λS=>ð S (mg (s.a.x) (s.a.y) _) λu D S=>ī S 13 [.M 2 0,.M 0 0,.cmp .neq 130 (.tmp 28) (.tmp 29) (.agg #[.i s.a.x,.i s.a.y]) (.agg #[.i 0,.i 0]) (.b (!((s.a.x==0)&&(s.a.y==0))))] [(_,_,(!(!(kG.valid ⟨s.a.x,s.a.y⟩))),.i (named s.verb))] [(32,.b ((!(kG.valid ⟨s.a.x,s.a.y⟩))||((decide ((named s.verb)<=0))&&(!((s.a.x==0)&&(s.a.y==0))))))] ⟨λu hC g=>Ġ (zG (s.verb) _),G⟩ (hk:=⟨ı (λ_=>apf ..) X,G⟩) λu D S=>À S ((!(kG.valid ⟨s.a.x,s.a.y⟩))||((decide ((named s.verb)<=0))&&(!((s.a.x==0)&&(s.a.y==0))))) (λD S=>?_) λD S=>?_
 .have g0:wW s.verb 0 s.a=false:=by
   have J:=D;show(kG.valid ⟨s.a.x,s.a.y⟩ && !(decide (named s.verb<=0) && !((s.a.x==0)&&(s.a.y==0))))=_;revert J;cases kG.valid ⟨s.a.x,s.a.y⟩<;>cases decide (named s.verb<=0)<;>cases ((s.a.x==0)&&(s.a.y==0))<;>simp
  refine Xe S (.z) λS=>?_;exact⟨by rw[show s.fits=false from by simp[dL.fits,g0]],S.E⟩
 refine ã S λS=>O1 S 3 [] [.M 1 2] λS=>Â S λu ae Ku ML S=>É S 0 I λu L8 S=>O1 S 1 [] [.M 0 0] λS=>ð S (mg (s.b.x) (s.b.y) _) λu Oo S=>ī S 13 [.M 3 0,.M 0 0,.cmp .neq 130 (.tmp 28) (.tmp 29) (.agg #[.i s.b.x,.i s.b.y]) (.agg #[.i 0,.i 0]) (.b (!((s.b.x==0)&&(s.b.y==0))))] [(_,_,(!(!(kG.valid ⟨s.b.x,s.b.y⟩))),.i (named s.verb))] [(32,.b ((!(kG.valid ⟨s.b.x,s.b.y⟩))||((decide ((named s.verb)<=1))&&(!((s.b.x==0)&&(s.b.y==0))))))] ⟨λu hC g=>Ġ (zG (s.verb) _),G⟩ (hk:=⟨ı (λ_=>apf ..) X,G⟩) λu af S=>À S ((!(kG.valid ⟨s.b.x,s.b.y⟩))||((decide ((named s.verb)<=1))&&(!((s.b.x==0)&&(s.b.y==0))))) (λaa S=>?_) λaa S=>?_
 .have g0:wW s.verb 0 s.a=true:=by
   have J:=D;show(kG.valid ⟨s.a.x,s.a.y⟩ && !(decide (named s.verb<=0) && !((s.a.x==0)&&(s.a.y==0))))=_;revert J;cases kG.valid ⟨s.a.x,s.a.y⟩<;>cases decide (named s.verb<=0)<;>cases ((s.a.x==0)&&(s.a.y==0))<;>simp
  have g1:wW s.verb 1 s.b=false:=by
   have J:=aa;show(kG.valid ⟨s.b.x,s.b.y⟩ && !(decide (named s.verb<=1) && !((s.b.x==0)&&(s.b.y==0))))=_;revert J;cases kG.valid ⟨s.b.x,s.b.y⟩<;>cases decide (named s.verb<=1)<;>cases ((s.b.x==0)&&(s.b.y==0))<;>simp
  refine Xe S (.z) λS=>?_;exact⟨by rw[show s.fits=false from by simp[dL.fits,g0,g1]],S.E⟩
 refine ã S λS=>O1 S 3 [] [.M 2 4] λS=>Â S λu ag SC ah S=>É S 0 I λu ai S=>O1 S 1 [] [.M 0 0] λS=>ð S (mg (s.c.x) (s.c.y) _) λu al S=>ī S 13 [.M 4 0,.M 0 0,.cmp .neq 130 (.tmp 28) (.tmp 29) (.agg #[.i s.c.x,.i s.c.y]) (.agg #[.i 0,.i 0]) (.b (!((s.c.x==0)&&(s.c.y==0))))] [(_,_,(!(!(kG.valid ⟨s.c.x,s.c.y⟩))),.i (named s.verb))] [(32,.b ((!(kG.valid ⟨s.c.x,s.c.y⟩))||((decide ((named s.verb)<=2))&&(!((s.c.x==0)&&(s.c.y==0))))))] ⟨λu hC g=>Ġ (zG (s.verb) _),G⟩ (hk:=⟨ı (λ_=>apf ..) X,G⟩) λu Xv S=>À S ((!(kG.valid ⟨s.c.x,s.c.y⟩))||((decide ((named s.verb)<=2))&&(!((s.c.x==0)&&(s.c.y==0))))) (λab S=>?_) λab S=>?_
 .have g0:wW s.verb 0 s.a=true:=by
   have J:=D;show(kG.valid ⟨s.a.x,s.a.y⟩ && !(decide (named s.verb<=0) && !((s.a.x==0)&&(s.a.y==0))))=_;revert J;cases kG.valid ⟨s.a.x,s.a.y⟩<;>cases decide (named s.verb<=0)<;>cases ((s.a.x==0)&&(s.a.y==0))<;>simp
  have g1:wW s.verb 1 s.b=true:=by
   have J:=aa;show(kG.valid ⟨s.b.x,s.b.y⟩ && !(decide (named s.verb<=1) && !((s.b.x==0)&&(s.b.y==0))))=_;revert J;cases kG.valid ⟨s.b.x,s.b.y⟩<;>cases decide (named s.verb<=1)<;>cases ((s.b.x==0)&&(s.b.y==0))<;>simp
  have g2:wW s.verb 2 s.c=false:=by
   have J:=ab;show(kG.valid ⟨s.c.x,s.c.y⟩ && !(decide (named s.verb<=2) && !((s.c.x==0)&&(s.c.y==0))))=_;revert J;cases kG.valid ⟨s.c.x,s.c.y⟩<;>cases decide (named s.verb<=2)<;>cases ((s.c.x==0)&&(s.c.y==0))<;>simp
  refine Xe S (.z) λS=>?_;exact⟨by rw[show s.fits=false from by simp[dL.fits,g0,g1,g2]],S.E⟩
 refine ă S λS=>?_;have g0:wW s.verb 0 s.a=true:=by
  have J:=D;show(kG.valid ⟨s.a.x,s.a.y⟩ && !(decide (named s.verb<=0) && !((s.a.x==0)&&(s.a.y==0))))=_;revert J;cases kG.valid ⟨s.a.x,s.a.y⟩<;>cases decide (named s.verb<=0)<;>cases ((s.a.x==0)&&(s.a.y==0))<;>simp
 have g1:wW s.verb 1 s.b=true:=by
  have J:=aa;show(kG.valid ⟨s.b.x,s.b.y⟩ && !(decide (named s.verb<=1) && !((s.b.x==0)&&(s.b.y==0))))=_;revert J;cases kG.valid ⟨s.b.x,s.b.y⟩<;>cases decide (named s.verb<=1)<;>cases ((s.b.x==0)&&(s.b.y==0))<;>simp
 have g2:wW s.verb 2 s.c=true:=by
  have J:=ab;show(kG.valid ⟨s.c.x,s.c.y⟩ && !(decide (named s.verb<=2) && !((s.c.x==0)&&(s.c.y==0))))=_;revert J;cases kG.valid ⟨s.c.x,s.c.y⟩<;>cases decide (named s.verb<=2)<;>cases ((s.c.x==0)&&(s.c.y==0))<;>simp
 refine Xe S (.b true) λS=>?_;exact⟨by rw[show s.fits=true from by simp[dL.fits,g0,g1,g2]],S.E⟩
open Na
variable{α:Type}
variable{x:dL}{last:Int}{w:E5}{v:y9}{l:List dL}
abbrev ah3(h:decide (named x.verb<0)=true):x.err last=2:=Á (Ý h)
abbrev adP(h:decide (named x.verb<0)=false)(D:(!x.stands last)=true):x.err last=10:=by
 unfold dL.err; rw[UQ (é h),Á (by simpa using D)]
abbrev ah4(h:decide (named x.verb<0)=false)(D:(!x.stands last)=false)(J:(!x.fits)=true):x.err last=6:=by
 unfold dL.err; rw[UQ (é h),UQ (by simpa using D),Á (by simpa using J)]
abbrev ah5(h:decide (named x.verb<0)=false)(D:(!x.stands last)=false)(J:(!x.fits)=false):x.err last=0:=by
 unfold dL.err; rw[UQ (é h),UQ (by simpa using D),UQ (by simpa using J)]
abbrev NH(h:yH w v l) :
  Nq prog 231 #[v] w (Ï w (.tuple #[.i (iF l).1,.i (iF l).2])):=by
 obtain⟨a,cap,rfl⟩:=h.1.shape;have D:l.length<=9223372036854775807:=h.1.len;refine Ä func231 ntmps231 λS=>À S (decide (256<(l.length:Int))) (λae S=>?_) λae S=>?_
 .have p0:256<(l.length:Int):=Ý ae;refine Ol S (.i 5) (.i 256) λS=>?_;have e:iF l=(5,256):=by unfold iF; rw[Á p0]
  exact⟨by rw[e],S.E⟩
 refine ĉ S (ι:=Nat×Int) (λp D w'=>p.1<=l.length∧(sU 5 0 l=sU p.2 (p.1:Int) (l.drop p.1))∧Sx.St w D w' 52 [(0,.s a l.length cap),(2,.i 0),(3,.i 0),(4,.i p.2),(11,.s a l.length cap),(12,.i l.length),(13,.i p.1)] [] []) (λp=>l.length-p.1) (0,5) (λS=>⟨Î _,I,S.qC⟩) ?_;rintro⟨k,last⟩ ac u fQ eu hI;try dsimp only at hI
 obtain⟨hk,hR,S⟩:=hI;refine Ċ S λS=>À S (decide ((k:Int)<(l.length:Int))) (λfJ S=>?_) λfJ S=>?_
 .have oV:k<l.length:=by have:=Ý fJ; omega
  obtain⟨D,ah,rfl,J,vH,xJ,Qd⟩:=ý h.1 (λ_=>I) (k) oV;have S:=S.view0 xJ Qd;refine O1 S 3 [] [.idx k l.length,.M 0 0] (hk:=⟨oV,G⟩) λS=>Â S λu D af ag S=>É S 0 I λu D S=>O1 S 19 [] [.M 0 0,.M 0 0,.M 0 0] λS=>nH S (zG (J.verb) _) λS=>À S (decide ((named J.verb)<0)) (λaa S=>?_) λaa S=>?_
  .have D:J.err last=2:=ah3 aa;have p0:¬256<(l.length:Int):=é ae;refine Ol S (.i 2) (.i k) λS=>?_;have e:iF l=(2,(k:Int)):=by
    unfold iF;rw[UQ Z,hR,ń oV,vH,sU,D];rfl
   exact⟨by rw[e],S.E⟩
  refine À S (!(((J.verb)==1)||(((last) != 5)&&(((J.verb) != 5)||((last) != 1))))) (λab S=>?_) λab S=>?_
  .have D:J.err last=10:=adP aa ab;have p0:¬256<(l.length:Int):=é ae;refine Ol S (.i 10) (.i k) λS=>?_;have e:iF l=(10,(k:Int)):=by
    unfold iF;rw[UQ Z,hR,ń oV,vH,sU,D];rfl
   exact⟨by rw[e],S.E⟩
  refine O1 S 1 [] [.M 0 0] λS=>ð S (fits_any J _) λu MC S=>À S (!J.fits) (λvI S=>?_) λvI S=>?_
  .have D:J.err last=6:=ah4 aa ab vI;have p0:¬256<(l.length:Int):=é ae;refine Ol S (.i 6) (.i k) λS=>?_;have e:iF l=(6,(k:Int)):=by
    unfold iF;rw[UQ Z,hR,ń oV,vH,sU,D];rfl
   exact⟨by rw[e],S.E⟩
  refine O1 S 5 [] [.M 0 0,kS 51 k] (hk:=⟨ù Z,G⟩) λS=>ċ S fQ λS=>?_;have D:J.err last=0:=ah5 aa ab vI;rw[ń oV,vH,sU,Á D]at hR;exact eu _ _ ((k+1),J.verb) ⟨Z,hR,(S.gK 1).qC⟩ (by show _-_<_-_; omega)
 have p0:¬256<(l.length:Int):=é ae;have p1:¬(k:Int)<(l.length:Int):=é fJ;refine Ol S (.i 0) (.i 0) λS=>?_;have e:iF l=(0,0):=by
  unfold iF;rw[UQ Z,hR,Ō Z];rfl
 exact⟨by rw[e],S.E⟩
abbrev AL(h:yH w v l) :
  Nq prog 191 #[v] w (Ï w (.b (kK l))):=by
 skip;refine Ä func191 ntmps191 λS=>ð S (NH (h.below S.E)) λu D S=>Xe S (.b (((iF l).1)==0)) λS=>?_;exact⟨I,S.E⟩
