/- Walks of package integer: Neg -/
import Derived.Test.YtodpgjjgaddkeaaGreatDoorPk5
import Derived.Test.YtodpgjjgaddkeaaGreatDoorPk6
set_option maxHeartbeats 9999999
open Go renaming World->Á,Value->À,Calls->Ä
set_option maxRecDepth 100000
set_option linter.unusedVariables false
set_option linter.unusedSimpArgs false
namespace Go.Proofs.Pv
open _root_.Go.Proofs.Tryz
section
open Go.RowKit Na Go.Sx
variable{α:Type}
def Dl:À->Bool
 | .int .u32 _=>false
 | _=>true
variable{w:Á}{A:Array À}{v s:À}{l:List UInt32}{b a:Nat}
abbrev Dy(h:A.toList.all Dl=true)(i:Nat)(x:UInt32):A[i]?≠some (aU x):=by
 intro e;rw[ø]at h;have hm:aU x∈A.toList:=by
  rw[Array.mem_toList_iff];exact Array.mem_of_getElem? e
 exact absurd (h _ hm) (by simp[Dl])
abbrev Nr{w':Á}(h:aF w v l)(hc:Ch b w w')(hx:Bx w b A)(hA:A.toList.all Dl=true):aF w' v l:=h.ch hc (hx.off (Dy hA) h)
abbrev aK.ch{base:Nat}{w w':Á}{v:À}{neg:Bool}{n c:Nat}(h:aK base w v neg n)(hc:Ch c w w')(hlt:c<base):aK base w' v neg n:=by
 obtain⟨s,hv,hs,fs⟩:=h;exact⟨s,hv,hs.ch hc (λ_=>fs.off hlt),fs⟩
abbrev aK.dG{base:Nat}{w w':Á}{v:À}{neg:Bool}{n b:Nat}{A:Array À}(h:aK base w v neg n)(hc:Ch b w w')(hx:Bx w b A)(hA:A.toList.all Dl=true:=by rfl):aK base w' v neg n:=by
 obtain⟨s,hv,hs,fs⟩:=h;exact⟨s,hv,hs.ch hc (hx.off (Dy hA) hs),fs⟩
abbrev QT(l m:List UInt32)(hl:l.length<=10000000)(hm:m.length<=10000000):(LZ (Pq l*Pq m)).length<=20000000:=by
 have h:=gy (Pq l) (Pq m) (K:=l.length) (L:=m.length) (bP l) (bP m);rw[Int.natAbs_mul]at h;simp only[Ť]at h;omega
abbrev QU(l m:List UInt32)(hl:l.length<=10000000)(hm:m.length<=10000000):(LZ (Pq l+Pq m)).length<=20000001:=by
 have h:=N8 (Pq l) (Pq m) (K:=l.length+m.length) (by simp only[Ť]; have:=bP l; omega) (by simp only[Ť]; have:=bP m; omega);rw[show((Pq l:Int)+(Pq m:Int))=((Pq l+Pq m:Nat):Int) by omega,Ť]at h;omega
abbrev BM(l m:List UInt32)(hl:l.length<=10000000):(LZ (Pq l-Pq m)).length<=10000000:=by
 have h1:=fF (Nat.sub_le (Pq l) (Pq m));have h2:=bP l;omega
abbrev JO(v u:À)(l m:List UInt32)(w:Á)(hv:aF w v l)(hu:aF w u m)(hl:l.length<=100000000) :
  Ä prog 329 #[v,u] w λe w'=>∃a n c,e = .R (.tuple #[.s a n c,.b (Pq m<=Pq l)])∧(Pq m<=Pq l->aF w' (.s a n c) (LZ (Pq l-Pq m)))∧Ext w w':=by
 by_cases h:Pq m<=Pq l
 .refine(abE v u l m w hv hu hl h).mono ?_;rintro e w' ⟨a,rfl,h1,h2⟩;exact⟨a,_,_,by simp only[İ h],λ_=>h1,h2⟩
 refine(abD v u l m w hv hu Z).mono ?_;rintro e w' ⟨rfl,h2⟩;exact⟨none,0,0,by simp only[ľ h],λh3=>absurd h3 h,h2⟩
abbrev P5{z:Int}(hs:aF w s (LZ z.natAbs))(h:(LZ z.natAbs).length<=100000000) :
  Ä prog 257 #[.agg #[.b (z<0),s]] w (RF w (.i z.sign)):=by
 have hg:=nN (decide (z<0)) _ _ w hs h;rw[L6,acK,NP]at hg;exact hg
abbrev JQ(hs:aF w s l)(h:l.length<=1000000000) :
  Ä prog 290 #[s] w (RF w (.i (bl (Pq l):Nat))):=by
 refine(Ht s l w hs h).mono ?_;rintro e w' ⟨rfl,rfl⟩;exact⟨I,ô⟩
abbrev sH(neg:Bool)(hv:aF w v (LZ a))(hlen:(LZ a).length<=1000000000) :
  Ä prog 284 #[.b neg,v] w λe w'=>∃x,e = .R x∧aK w.heap.size w' x (neg&&decide (0<a)) a∧Ext w w':=by
 have h:=mY neg v _ w hv hlen;rw[L6]at h;exact h
abbrev XK(v1:À)(z1:Int)(K:Nat)(w:Á)(h1:fK K w v1 z1)(hK:K<=10000000):
  Ä prog 300 #[v1] w λe w'=>∃x,e = .R x∧oL w.heap.size w' x (-z1)∧Ext w w':=by
 obtain⟨n1,s1,l,rfl,h1,hl,rfl⟩:=h1;obtain⟨a1,c1,rfl⟩:=h1.shape;refine Ë func300 ntmps300 λS=>Í S λu b2 E3 hb4 S=>Í S λu b5 E6 hb7 S=>Å S 5 [] [.M 1 0,.M 1 1] λS=>î S (mY (!n1) _ l _ (h1.below S.E) Z) ?_;rintro e u ⟨x,rfl,hx,E9⟩;obtain⟨b1,d1,rfl⟩:=hx.shape;have hz:=S.E.size;have acL:=(S.bx 0).1;have hb1':=(S.bx 1).1;refine⟨_,I,E9,λS=>?_⟩;refine à S 0 I (λu C10 S=>?_);have FB:=hx.ch C10 Z;refine ă S 0 I (v := .agg #[.b (!n1&&decide (0<Pq l)),.s b1 (LZ (Pq l)).length d1]) (λS=>?_);exact⟨_,I,Vf n1 (Pq l)▸sJ (aK.mono FB Z),S.E⟩
abbrev rC(v1 v2:À)(z1 z2:Int)(K L:Nat)(w:Á)(h1:fK K w v1 z1)(h2:fK L w v2 z2)(hK:K<=10000000)(hL:L<=10000000):
  Ä prog 264 #[v1,v2] w λe w'=>∃x,e = .R x∧oL w.heap.size w' x (z1*z2)∧Ext w w':=by
 obtain⟨n1,s1,l,rfl,h1,hl,rfl⟩:=h1;obtain⟨a1,c1,rfl⟩:=h1.shape;obtain⟨n2,s2,m,rfl,h2,hm,rfl⟩:=h2;obtain⟨a2,c2,rfl⟩:=h2.shape;refine Ë func264 ntmps264 λS=>Ú S [.b n1,.s a1 l.length c1] λu b2 E3 hb4 S=>Ú S [.b n2,.s a2 m.length c2] λu b5 E6 hb7 S=>Ú S [.z,.sn] λu b8 E9 tX S=>Į S 11 [(14,λv w1=>aF w1 v (LZ (Pq l*Pq m))),(15,λv w1=>aK w.heap.size w1 v ((n1 != n2)&&decide (0<(Pq l*Pq m))) (Pq l*Pq m))] (λr=>[.M 2 0,.M 1 0,.M 2 1,.M 1 1]) (λx=>[x 14,x 15]) (λx=>[(_,_,true,x 14,14),(_,_,true,x 15,15)]) [[],[14]] (λx=>[(15,x 15)]) ⟨λ_ _ _ k h=>h.below k,λ_ _ _ k h=>h.ext k,G⟩ (λx=>⟨by intro u hC g F; exact(XI _ _ _ _ _ (h1.below (Ã S.E hC)) (h2.below (Ã S.E hC)) Z Z).mono λe w2 h=>by obtain⟨a,rfl,hx,hb⟩:=h; exact⟨_,I,hx,hb⟩,by intro u hC g F; obtain⟨UY,-⟩:=F; exact(sH (n1 != n2) UY (by have:=QT l m Z Z; omega)).mono λe w2 h=>by obtain⟨y,rfl,hx,hb⟩:=h; exact⟨_,I,hx.mono ((Ã S.E hC)).size,hb⟩,G⟩) (λu x uM F S=>?_);obtain⟨UY,Gn,-⟩:=F;obtain⟨b1,d1,em⟩:=aK.shape Gn;rw[em]at S Gn;try rw[em]
 have BD:=S.bx 0;refine è S 0 (off:=0) (cs:=[.b ((n1 != n2)&&decide (0<(Pq l*Pq m))),.s b1 (LZ (Pq l*Pq m)).length d1]) I (λu C13 S=>?_);have sK:=aK.dG Gn C13 BD;refine ă S 0 I (v := .agg #[.b ((n1 != n2)&&decide (0<(Pq l*Pq m))),.s b1 (LZ (Pq l*Pq m)).length d1]) (λS=>?_);exact⟨_,I,(acM n1 n2 (Pq l) (Pq m)).symm▸sJ (aK.mono sK Z),S.E⟩
abbrev XL(v1 v2:À)(z1 z2:Int)(K L:Nat)(w:Á)(h1:fK K w v1 z1)(h2:fK L w v2 z2)(hK:K<=10000000)(hL:L<=10000000):
  Ä prog 299 #[v1,v2] w λe w'=>∃x,e = .R x∧oL w.heap.size w' x (z1+z2)∧Ext w w':=by
 obtain⟨n1,s1,l,rfl,h1,hl,rfl⟩:=h1;obtain⟨a1,c1,rfl⟩:=h1.shape;obtain⟨n2,s2,m,rfl,h2,hm,rfl⟩:=h2;obtain⟨a2,c2,rfl⟩:=h2.shape;refine Ë func299 ntmps299 λS=>Ú S [.b n1,.s a1 l.length c1] λu b2 E3 hb4 S=>Ú S [.b n2,.s a2 m.length c2] λu b5 E6 hb7 S=>Ú S [.z,.sn] λu b8 E9 tX S=>Å S 5 [] [.M 2 0,.M 1 0] λS=>È S (n1==n2) (λhc13 S=>?_) (λhc13 S=>?_)
 .refine Į S 8 [(20,λv w1=>aF w1 v (LZ (Pq l+Pq m))),(21,λv w1=>aK w.heap.size w1 v (n1&&decide (0<(Pq l+Pq m))) (Pq l+Pq m))] (λr=>[.M 2 0,.M 2 1,.M 1 1]) (λx=>[x 20,x 21]) (λx=>[(_,_,true,x 20,20),(_,_,true,x 21,21)]) [[],[20]] (λx=>[(21,x 21)]) ⟨λ_ _ _ k h=>h.below k,λ_ _ _ k h=>h.ext k,G⟩ (λx=>⟨by intro u hC g F; exact(XJ _ _ _ _ _ (h1.below (Ã S.E hC)) (h2.below (Ã S.E hC)) Z Z).mono λe w2 h=>by obtain⟨a,rfl,hx,hb⟩:=h; exact⟨_,I,hx,hb⟩,by intro u hC g F; obtain⟨F20,-⟩:=F; exact(sH n1 F20 (by have:=QU l m Z Z; omega)).mono λe w2 h=>by obtain⟨y,rfl,hx,hb⟩:=h; exact⟨_,I,hx.mono ((Ã S.E hC)).size,hb⟩,G⟩) (λu x KA F S=>?_);obtain⟨F20,Ym,-⟩:=F;obtain⟨b1,d1,em⟩:=aK.shape Ym;rw[em]at S Ym;try rw[em]
  have Yn:=S.bx 0;refine è S 0 (off:=0) (cs:=[.b (n1&&decide (0<(Pq l+Pq m))),.s b1 (LZ (Pq l+Pq m)).length d1]) I (λu Ź S=>?_);have Am:=aK.dG Ym Ź Yn;refine ă S 0 I (v := .agg #[.b (n1&&decide (0<(Pq l+Pq m))),.s b1 (LZ (Pq l+Pq m)).length d1]) (λS=>?_);obtain rfl:=eq_of_beq hc13;exact⟨_,I,(EJ n1 (Pq l) (Pq m)).symm▸sJ (aK.mono Am Z),S.E⟩
 refine Å S 4 [] [.M 2 1,.M 1 1] λS=>î S (JO _ _ _ _ _ (h1.below S.E) (h2.below S.E) Z) ?_;rintro e u ⟨p,q,c3,rfl,hs,FC⟩;refine⟨_,I,FC,λS=>?_⟩;refine È S (decide (Pq m<=Pq l)) (λsN S=>?_) (λsN S=>?_)
 .refine Å S 3 [] [.M 2 0] λS=>î S (sH (n1) (hs (å sN)) (by have:=BM l m Z; omega)) ?_;rintro e u ⟨x,rfl,hx,FD⟩;obtain⟨b1,d1,rfl⟩:=hx.shape;have hz:=S.E.size;have acL:=(S.bx 0).1;have hb1':=(S.bx 1).1;have hb2':=(S.bx 2).1;refine⟨_,I,FD,λS=>?_⟩;refine è S 0 (off:=0) (cs:=[.b (n1&&decide (0<(Pq l-Pq m))),.s b1 (LZ (Pq l-Pq m)).length d1]) I (λu C26 S=>?_);have BN:=hx.ch C26 Z;refine ă S 0 I (v := .agg #[.b (n1&&decide (0<(Pq l-Pq m))),.s b1 (LZ (Pq l-Pq m)).length d1]) (λS=>?_);exact⟨_,I,(wP (by simpa using hc13) (å sN)).symm▸sJ (aK.mono BN Z),S.E⟩
 refine Å S 4 [] [.M 1 1,.M 2 1] λS=>î S (JO _ _ _ _ _ (h2.below S.E) (h1.below S.E) Z) ?_;rintro e u ⟨p2,q2,c2,rfl,hs2,BF⟩;refine⟨_,I,BF,λS=>?_⟩;refine Å S 8 [] [.M 1 0] λS=>î S (sH (n2) (hs2 (by have:=ñ sN; omega)) (by have:=BM m l Z; omega)) ?_;rintro e u ⟨x,rfl,hx,DJ⟩;obtain⟨b1,d1,rfl⟩:=hx.shape;have hz:=S.E.size;have acL:=(S.bx 0).1;have hb1':=(S.bx 1).1;have hb2':=(S.bx 2).1;refine⟨_,I,DJ,λS=>?_⟩;refine è S 0 (off:=0) (cs:=[.b (n2&&decide (0<(Pq m-Pq l))),.s b1 (LZ (Pq m-Pq l)).length d1]) I (λu C32 S=>?_);have zf:=hx.ch C32 Z;refine ă S 0 I (v := .agg #[.b (n2&&decide (0<(Pq m-Pq l))),.s b1 (LZ (Pq m-Pq l)).length d1]) (λS=>?_);exact⟨_,I,(BO (a:=Pq l) (b:=Pq m) (by simpa using hc13) (by have:=ñ sN; omega)).symm▸sJ (aK.mono zf Z),S.E⟩
abbrev JR(v1 v2:À)(z1 z2:Int)(K L:Nat)(w:Á)(h1:fK K w v1 z1)(h2:fK L w v2 z2)(hK:K<=10000000)(hL:L<=10000000):
  Ä prog 265 #[v1,v2] w λe w'=>∃x,e = .R x∧oL w.heap.size w' x (z1-z2)∧Ext w w':=by
 obtain⟨n1,s1,l,rfl,h1,hl,rfl⟩:=h1;obtain⟨a1,c1,rfl⟩:=h1.shape;obtain⟨n2,s2,m,rfl,h2,hm,rfl⟩:=h2;obtain⟨a2,c2,rfl⟩:=h2.shape;refine Ë func265 ntmps265 λS=>Ú S [.b n1,.s a1 l.length c1] λu b2 E3 hb4 S=>Ú S [.b n2,.s a2 m.length c2] λu b5 E6 hb7 S=>Ú S [.z,.sn] λu b8 E9 tX S=>Į S 4 [(7,λv w1=>oL w.heap.size w1 v (-zv n2 (Pq m))),(8,λv w1=>oL w.heap.size w1 v (zv n1 (Pq l) + -zv n2 (Pq m)))] (λr=>[.M 2 0,.M 1 0]) (λx=>[x 7,x 8]) (λx=>[(_,_,true,x 7,7),(_,_,true,x 8,8)]) [[],[7]] (λx=>[(8,x 8)]) ⟨λ_ _ _ k h=>h.ext k,λ_ _ _ k h=>h.ext k,G⟩ (λx=>⟨by intro u hC g F; exact(XK _ (zv n2 (Pq m)) L _ ⟨n2,_,m,I,h2.below (Ã S.E hC),hm,I⟩ Z).mono λe w2 h=>by obtain⟨y,rfl,hx,hb⟩:=h; exact⟨_,I,hx.mono ((Ã S.E hC)).size,hb⟩,by intro u hC g F; obtain⟨F7,-⟩:=F; exact(XL _ _ (zv n1 (Pq l)) (-zv n2 (Pq m)) K L _ ⟨n1,_,l,I,h1.below (Ã S.E hC),hl,I⟩ (oL.toQ F7 (by rw[Int.natAbs_neg,kX]; have:=bP m; omega)) Z Z).mono λe w2 h=>by obtain⟨y,rfl,hx,hb⟩:=h; exact⟨_,I,hx.mono ((Ã S.E hC)).size,hb⟩,G⟩) (λu x uM F S=>?_);obtain⟨F7,F8,-⟩:=F;obtain⟨b1,d1,em⟩:=aK.shape F8;rw[em]at S F8;try rw[em]
 have BD:=S.bx 0;refine è S 0 (off:=0) (cs:=[.b ((zv n1 (Pq l) + -zv n2 (Pq m))<0),.s b1 (LZ (zv n1 (Pq l) + -zv n2 (Pq m)).natAbs).length d1]) I (λu C13 S=>?_);have sK:=aK.dG F8 C13 BD;refine ă S 0 I (v := .agg #[.b ((zv n1 (Pq l) + -zv n2 (Pq m))<0),.s b1 (LZ (zv n1 (Pq l) + -zv n2 (Pq m)).natAbs).length d1]) (λS=>?_);exact⟨_,I,sK,S.E⟩
abbrev XM(v1 v2:À)(z1 z2:Int)(K L:Nat)(w:Á)(h1:fK K w v1 z1)(h2:fK L w v2 z2)(hK:K<=10000000)(hL:L<=10000000):
  Ä prog 228 #[v1,v2] w (RF w (.i (z1-z2).sign)):=by
 obtain⟨n1,s1,l,rfl,h1,hl,rfl⟩:=h1;obtain⟨a1,c1,rfl⟩:=h1.shape;obtain⟨n2,s2,m,rfl,h2,hm,rfl⟩:=h2;obtain⟨a2,c2,rfl⟩:=h2.shape;refine Ë func228 ntmps228 λS=>Í S λu b2 E3 hb4 S=>Í S λu b5 E6 hb7 S=>Å S 3 [] [.M 1 0,.M 0 0] λS=>î S (JR _ _ (zv n1 (Pq l)) (zv n2 (Pq m)) K L _ ⟨n1,_,l,I,h1.below S.E,hl,I⟩ ⟨n2,_,m,I,h2.below S.E,hm,I⟩ Z Z) ?_;rintro e u ⟨x,rfl,⟨s,rfl,hs,-⟩,E9⟩;obtain⟨b1,d1,rfl⟩:=hs.shape;refine⟨_,I,E9,λS=>?_⟩;refine Þ S (P5 hs (by have:=Gp (zv n1 (Pq l)) (zv n2 (Pq m)) (K:=K+L) (by rw[kX]; have:=bP l; omega) (by rw[kX]; have:=bP m; omega); omega)) λu NQ S=>Æ S (.i (Int.sign (zv n1 (Pq l)-zv n2 (Pq m)))) (λS=>?_);exact⟨I,S.E⟩
abbrev Ac(v1:À)(z1:Int)(K:Nat)(w:Á)(h1:fK K w v1 z1)(hK:K<=10000000):
  Ä prog 266 #[v1] w (RF w (.i (bl z1.natAbs:Int))):=by
 obtain⟨n1,s1,l,rfl,h1,hl,rfl⟩:=h1;obtain⟨a1,c1,rfl⟩:=h1.shape;refine Ë func266 ntmps266 λS=>Í S λu b2 E3 hb4 S=>Å S 3 [] [.M 0 1] λS=>Þ S (JQ (h1.below S.E) Z) λu E6 S=>Æ S (.i (bl (Pq l):Nat)) (λS=>?_);exact⟨by rw[kX],S.E⟩
abbrev au.dG{base:Nat}{w w':Á}{v:À}{neg:Bool}{a b c:Nat}{A:Array À}(h:au base w v neg a b)(hc:Ch c w w')(hx:Bx w c A)(hA:A.toList.all Dl=true:=by rfl):au base w' v neg a b:=by
 obtain⟨s,t,rfl,hs,ht,fs,ft⟩:=h;exact⟨s,t,I,hs.ch hc (hx.off (Dy hA) hs),ht.ch hc (hx.off (Dy hA) ht),fs,ft⟩
abbrev _root_.Go.Sx.aot{P:Program}{w0 w:Á}{a:Act}{n:Nat}{l:List (Nat×À)}{bl:List (Nat×List À)}{vs:List eU}(S:Sx.St w0 a w n l bl vs){fn:Func}{R:Ending->Á->Prop}(i j k:Nat){r s t b c d:Nat}{ty:TypeId}{A B C:List À}{u v x:À}(hr:fn.results = #[.cell r ty,.cell s ty,.cell t ty])(hi:bl[i]?=some (b,A))(hj:bl[j]?=some (c,B))(hk:bl[k]?=some (d,C))(h:R (.R (.tuple #[u,v,x])) w)
  (h1:Vp.ev l (.tmp r)=some (.q b 0):=by kernel_rfl) (h2:Vp.ev l (.tmp s)=some (.q c 0):=by kernel_rfl) (h3:Vp.ev l (.tmp t)=some (.q d 0):=by kernel_rfl) (l1:Qm P ty A=some u:=by kernel_rfl) (l2:Qm P ty B=some v:=by kernel_rfl) (l3:Qm P ty C=some x:=by kernel_rfl):bodyPost P fn R .ret a w:=by
 refine⟨S.s.defers,_,?_,h⟩;have e1:=S.s.ev h1;have e2:=S.s.ev h2;have e3:=S.s.ev h3;unfold results;rw[hr];simp only[Act.eval,Array.getD_eq_getD_getElem?]at e1 e2 e3;simp[e1,e2,e3,asAddr,S.var hi l1,S.var hj l2,S.var hk l3]
abbrev BR{f:FuncId}{args:Array À}(h:Ä prog f args w (RF w (.i (bl a:Nat))))(hv:a=b):Ä prog f args w (RF w (.i (bl b:Nat))):=hv▸h
abbrev jM(v:À)(q:Bool×Nat×Nat)(K:Nat)(w:Á)(h:dL K w v q)(hK:K<=1000000) :
  Ä prog 175 #[v] w λe w'=>∃x,e = .R x∧bF w.heap.size w' x q∧Ext w w':=by
 obtain⟨n1,s1,l1,n2,s2,l2,rfl,h1,h2,h3,h4,rfl⟩:=h;exact pq n1 n2 s1 s2 l1 l2 w h1 h2 Z Z
abbrev Un(v1 v2:À)(z:Int)(d K:Nat)(w:Á)(h1:fK K w v1 z)(h2:fK K w v2 (d:Int))(hd:0<d)(hK:K<=1000000) :
  Ä prog 258 #[v1,v2] w λe w'=>∃x,e = .R x∧bF w.heap.size w' x (nz z d)∧Ext w w':=by
 obtain⟨n1,s1,l,rfl,h1,hl,rfl⟩:=h1;obtain⟨n2,s2,m,rfl,h2,hm,hz⟩:=h2;obtain⟨rfl,rfl⟩:n2=false∧Pq m=d:=by
  unfold zv at hz;cases n2
  .simp only[ayJ,if_false]at hz; exact⟨I,Z⟩
  simp only[if_true]at hz; omega
 have h:=Jv n1 false s1 s2 l m w h1 h2 hd Z Z;rw[<-ac5];unfold nrm;rw[É Z];exact h
abbrev JU(v1 v2:À)(q1 q2:Bool×Nat×Nat)(K1 K2:Nat)(w:Á)(h1:dL K1 w v1 q1)(h2:dL K2 w v2 q2)(hK1:1<=K1)(hK2:1<=K2)(hM1:K1<=100000)(hM2:K2<=100000) :
  Ä prog 227 #[v1,v2] w λe w'=>∃x y d,e = .R (.tuple #[x,y,d])∧oL w.heap.size w' x (qz q1*(q2.2.2:Int))∧oL w.heap.size w' y (qz q2*(q1.2.2:Int))∧oL w.heap.size w' d ((q1.2.2:Int)*(q2.2.2:Int))∧Ext w w':=by
 obtain⟨n1,a1,m1,c1,o1,NZ,k1,d1,rfl⟩:=h1.shape;have rE:=h1.len hK1;have Yx:=h1.pos;obtain⟨n2,a2,m2,c2,o2,Yy,k2,d2,rfl⟩:=h2.shape;have tH:=h2.len hK2;have HP2:=h2.pos;refine Ë func227 ntmps227 λS=>Ú S [.b n1,.s a1 m1 c1,.b o1,.s NZ k1 d1] λu b2 E3 hb4 S=>Ú S [.b n2,.s a2 m2 c2,.b o2,.s Yy k2 d2] λu b5 E6 hb7 S=>Ú S [.z,.sn] λu b8 E9 tX S=>Ú S [.z,.sn] λu b11 uM Z8 S=>Ú S [.z,.sn] λu b14 KA hb16 S=>Į S 4 [(8,λv w1=>bF w.heap.size w1 v q1),(10,λv w1=>bF w.heap.size w1 v q2)] (λr=>[.M 4 0,.M 3 0]) (λx=>[x 8,x 10]) (λx=>[(_,_,true,x 8,8),(_,_,true,x 10,10)]) [[],[]] (λx=>[(8,x 8),(10,x 10)]) ⟨λ_ _ _ k h=>au.ext h k,λ_ _ _ k h=>au.ext h k,G⟩ (λx=>⟨by intro u hC g F; exact(jM _ q1 K1 _ (h1.below (Ã S.E hC)) Z).mono λe w2 h=>by obtain⟨x,rfl,hx,hb⟩:=h; exact⟨_,I,hx.mono ((Ã S.E hC)).size,hb⟩,by intro u hC g F; exact(jM _ q2 K2 _ (h2.below (Ã S.E hC)) Z).mono λe w2 h=>by obtain⟨x,rfl,hx,hb⟩:=h; exact⟨_,I,hx.mono ((Ã S.E hC)).size,hb⟩,G⟩) (λu x BG F S=>?_);obtain⟨F8,F10,-⟩:=F;obtain⟨x1,e1,y1,f1,em⟩:=au.shape F8;rw[em]at S F8;try rw[em]
 obtain⟨x2,e2,y2,f2,em⟩:=au.shape F10;rw[em]at S F10;try rw[em]
 have X20:=S.bx 4;refine è S 4 (off:=0) (cs:=[.b q1.1,.s x1 (LZ q1.2.1).length e1,.z,.s y1 (LZ q1.2.2).length f1]) I (λu ũ S=>?_);have wu:=au.dG F8 ũ X20;have qQ:=au.dG F10 ũ X20;have ž:=S.bx 3;refine è S 3 (off:=0) (cs:=[.b q2.1,.s x2 (LZ q2.2.1).length e2,.z,.s y2 (LZ q2.2.2).length f2]) I (λu Yz S=>?_);have wz:=au.dG wu Yz ž;have wV:=au.dG qQ Yz ž;refine Į S 15 [(15,λv w1=>oL w.heap.size w1 v (qz q1*(q2.2.2:Int))),(20,λv w1=>oL w.heap.size w1 v (qz q2*(q1.2.2:Int))),(25,λv w1=>oL w.heap.size w1 v ((q1.2.2:Int)*(q2.2.2:Int)))] (λr=>[.M 4 0,.M 3 2,.M 3 0,.M 4 2,.M 4 2,.M 3 2]) (λx=>[x 15,x 20,x 25]) (λx=>[(_,_,true,x 15,15),(_,_,true,x 20,20),(_,_,true,x 25,25)]) [[],[],[]] (λx=>[(15,x 15),(20,x 20),(25,x 25)]) ⟨λ_ _ _ k h=>aK.ext h k,λ_ _ _ k h=>aK.ext h k,λ_ _ _ k h=>aK.ext h k,G⟩ (λx=>⟨by intro u hC g F; exact(rC _ _ _ _ _ _ _ (((wz.ext hC)).parts' rE).1 (((wV.ext hC)).parts' tH).2 Z Z).mono λe w2 h=>by obtain⟨x,rfl,hx,hb⟩:=h; exact⟨_,I,hx.mono ((Ã S.E hC)).size,hb⟩,by intro u hC g F; exact(rC _ _ _ _ _ _ _ (((wV.ext hC)).parts' tH).1 (((wz.ext hC)).parts' rE).2 Z Z).mono λe w2 h=>by obtain⟨x,rfl,hx,hb⟩:=h; exact⟨_,I,hx.mono ((Ã S.E hC)).size,hb⟩,by intro u hC g F; exact(rC _ _ _ _ _ _ _ (((wz.ext hC)).parts' rE).2 (((wV.ext hC)).parts' tH).2 Z Z).mono λe w2 h=>by obtain⟨x,rfl,hx,hb⟩:=h; exact⟨_,I,hx.mono ((Ã S.E hC)).size,hb⟩,G⟩) (λu x Qr F S=>?_);obtain⟨Gn,F20,F25,-⟩:=F;obtain⟨p15,g15,em⟩:=aK.shape Gn;rw[em]at S Gn;try rw[em]
 obtain⟨p20,g20,em⟩:=aK.shape F20;rw[em]at S F20;try rw[em]
 obtain⟨p25,g25,em⟩:=aK.shape F25;rw[em]at S F25;try rw[em]
 have X30:=S.bx 2;refine è S 2 (off:=0) (cs:=[.b ((qz q1*(q2.2.2:Int))<0),.s p15 (LZ ((qz q1*(q2.2.2:Int))).natAbs).length g15]) I (λu Ū S=>?_);have Au:=aK.dG Gn Ū X30;have BP:=aK.dG F20 Ū X30;have zf:=aK.dG F25 Ū X30;have X35:=S.bx 1;refine è S 1 (off:=0) (cs:=[.b ((qz q2*(q1.2.2:Int))<0),.s p20 (LZ ((qz q2*(q1.2.2:Int))).natAbs).length g20]) I (λu C34 S=>?_);have S:=S.fl;have al7:=aK.dG Au C34 X35;have Dk:=aK.dG BP C34 X35;have RV:=aK.dG zf C34 X35;have X40:=S.bx 0;refine è S 0 (off:=0) (cs:=[.b (((q1.2.2:Int)*(q2.2.2:Int))<0),.s p25 (LZ (((q1.2.2:Int)*(q2.2.2:Int))).natAbs).length g25]) I (λu C39 S=>?_);have IV:=aK.dG al7 C39 X40;have KW:=aK.dG Dk C39 X40;have FX:=aK.dG RV C39 X40;refine zre S (λS=>?_);refine Sx.aot S 2 1 0 results227 I I I ⟨_,_,_,I,IV,KW,FX,S.E⟩
abbrev Uo(v1 v2:À)(q1 q2:Bool×Nat×Nat)(K1 K2:Nat)(w:Á)(h1:dL K1 w v1 q1)(h2:dL K2 w v2 q2)(hK1:1<=K1)(hK2:1<=K2)(hM1:K1<=100000)(hM2:K2<=100000) :
  Ä prog 268 #[v1,v2] w λe w'=>∃x,e = .R x∧bF w.heap.size w' x (oU q1 q2)∧Ext w w':=by
 obtain⟨n1,a1,m1,c1,o1,NZ,k1,d1,rfl⟩:=h1.shape;have rE:=h1.len hK1;have Yx:=h1.pos;obtain⟨n2,a2,m2,c2,o2,Yy,k2,d2,rfl⟩:=h2.shape;have tH:=h2.len hK2;have HP2:=h2.pos;refine Ë func268 ntmps268 λS=>Ú S [.b n1,.s a1 m1 c1,.b o1,.s NZ k1 d1] λu b2 E3 hb4 S=>Ú S [.b n2,.s a2 m2 c2,.b o2,.s Yy k2 d2] λu b5 E6 hb7 S=>Ú S Sx.zr λu b8 E9 tX S=>Į S 4 [(6,λv w1=>bF w.heap.size w1 v q1),(8,λv w1=>bF w.heap.size w1 v q2)] (λr=>[.M 2 0,.M 1 0]) (λx=>[x 6,x 8]) (λx=>[(_,_,true,x 6,6),(_,_,true,x 8,8)]) [[],[]] (λx=>[(6,x 6),(8,x 8)]) ⟨λ_ _ _ k h=>au.ext h k,λ_ _ _ k h=>au.ext h k,G⟩ (λx=>⟨by intro u hC g F; exact(jM _ q1 K1 _ (h1.below (Ã S.E hC)) Z).mono λe w2 h=>by obtain⟨x,rfl,hx,hb⟩:=h; exact⟨_,I,hx.mono ((Ã S.E hC)).size,hb⟩,by intro u hC g F; exact(jM _ q2 K2 _ (h2.below (Ã S.E hC)) Z).mono λe w2 h=>by obtain⟨x,rfl,hx,hb⟩:=h; exact⟨_,I,hx.mono ((Ã S.E hC)).size,hb⟩,G⟩) (λu x uM F S=>?_);obtain⟨F6,F8,-⟩:=F;obtain⟨x1,e1,y1,f1,em⟩:=au.shape F6;rw[em]at S F6;try rw[em]
 obtain⟨x2,e2,y2,f2,em⟩:=au.shape F8;rw[em]at S F8;try rw[em]
 have BD:=S.bx 2;refine è S 2 (off:=0) (cs:=[.b q1.1,.s x1 (LZ q1.2.1).length e1,.z,.s y1 (LZ q1.2.2).length f1]) I (λu C13 S=>?_);have sK:=au.dG F6 C13 BD;have Rq:=au.dG F8 C13 BD;have X18:=S.bx 1;refine è S 1 (off:=0) (cs:=[.b q2.1,.s x2 (LZ q2.2.1).length e2,.z,.s y2 (LZ q2.2.2).length f2]) I (λu FK S=>?_);have pI:=au.dG sK FK X18;have FN:=au.dG Rq FK X18;refine Į S 11 [(13,λv w1=>oL w.heap.size w1 v (qz q1*qz q2)),(18,λv w1=>oL w.heap.size w1 v ((q1.2.2:Int)*(q2.2.2:Int))),(19,λv w1=>bF w.heap.size w1 v (oU q1 q2))] (λr=>[.M 2 0,.M 1 0,.M 2 2,.M 1 2]) (λx=>[x 13,x 18,x 19]) (λx=>[(_,_,true,x 13,13),(_,_,true,x 18,18),(_,_,true,x 19,19)]) [[],[],[13,18]] (λx=>[(19,x 19)]) ⟨λ_ _ _ k h=>aK.ext h k,λ_ _ _ k h=>aK.ext h k,λ_ _ _ k h=>au.ext h k,G⟩ (λx=>⟨by intro u hC g F; exact(rC _ _ _ _ _ _ _ (((pI.ext hC)).parts' rE).1 (((FN.ext hC)).parts' tH).1 Z Z).mono λe w2 h=>by obtain⟨x,rfl,hx,hb⟩:=h; exact⟨_,I,hx.mono ((Ã S.E hC)).size,hb⟩,by intro u hC g F; exact(rC _ _ _ _ _ _ _ (((pI.ext hC)).parts' rE).2 (((FN.ext hC)).parts' tH).2 Z Z).mono λe w2 h=>by obtain⟨x,rfl,hx,hb⟩:=h; exact⟨_,I,hx.mono ((Ã S.E hC)).size,hb⟩,by intro u hC g F; obtain⟨U0,Α,-⟩:=F; exact(Un _ _ (qz q1*qz q2) (q1.2.2*q2.2.2) (K1+K2) _ (oL.toQ U0 (gy _ _ (jG rE) (jG tH))) (oL.toQ (z:=((q1.2.2*q2.2.2:Nat):Int)) (by rw[ayO]; exact Α) (by rw[ayO]; exact gy _ _ (fG rE.2) (fG tH.2))) (ϕ Yx HP2) Z).mono λe w2 h=>by obtain⟨x,rfl,hx,hb⟩:=h; exact⟨_,I,hx.mono ((Ã S.E hC)).size,hb⟩,G⟩) (λu x UZ F S=>?_);obtain⟨U0,Α,F19,-⟩:=F;obtain⟨x3,e3,y3,f3,em⟩:=au.shape F19;rw[em]at S F19;try rw[em]
 have ž:=S.bx 0;refine è S 0 (off:=0) (cs:=[.b ((oU q1 q2).1),.s x3 (LZ (oU q1 q2).2.1).length e3,.z,.s y3 (LZ (oU q1 q2).2.2).length f3]) I (λu Yz S=>?_);have wz:=au.dG F19 Yz ž;refine ă S 0 I (v := .agg #[.b ((oU q1 q2).1),.s x3 (LZ (oU q1 q2).2.1).length e3,.z,.s y3 (LZ (oU q1 q2).2.2).length f3]) (λS=>?_);exact⟨_,I,wz,S.E⟩
abbrev mG(v1 v2:À)(q1 q2:Bool×Nat×Nat)(K1 K2:Nat)(w:Á)(h1:dL K1 w v1 q1)(h2:dL K2 w v2 q2)(hK1:1<=K1)(hK2:1<=K2)(hM1:K1<=100000)(hM2:K2<=100000) :
  Ä prog 181 #[v1,v2] w (RF w (.i (jH q1 q2))):=by
 obtain⟨n1,a1,m1,c1,o1,NZ,k1,d1,rfl⟩:=h1.shape;have rE:=h1.len hK1;have Yx:=h1.pos;obtain⟨n2,a2,m2,c2,o2,Yy,k2,d2,rfl⟩:=h2.shape;have tH:=h2.len hK2;have HP2:=h2.pos;refine Ë func181 ntmps181 λS=>Í S λu b2 E3 hb4 S=>Í S λu b5 E6 hb7 S=>Å S 3 [] [.M 1 0,.M 0 0] λS=>î S (JU _ _ q1 q2 K1 K2 _ (h1.below S.E) (h2.below S.E) hK1 hK2 hM1 hM2) ?_;rintro e u ⟨x,y,d,rfl,hx,hy,hd,E9⟩;obtain⟨p0,g0,rfl⟩:=hx.shape;obtain⟨p1,g1,rfl⟩:=hy.shape;obtain⟨p2,g2,rfl⟩:=hd.shape;refine⟨_,I,E9,λS=>?_⟩;refine Í S λu b10 BH BQ S=>Í S λu b13 vV ac6 S=>Í S λu b16 AA Ri S=>à S 2 I (λu ũ S=>?_);have DK:=Ö (Ã BH (Ã vV AA)) ũ;have FC:=Ö (Ã BH (Ã vV AA)) ũ;have UZ:=Ö (Ã BH (Ã vV AA)) ũ;refine à S 1 I (λu Yz S=>?_);have EK:=Ö DK Yz (by have:=BH.size; omega);have FD:=Ö FC Yz (by have:=BH.size; omega);have Qn:=Ö UZ Yz (by have:=BH.size; omega);refine à S 0 I (λu YL S=>?_);have Qr:=Ö EK YL (by have:=(Ã BH vV).size; omega);have BF:=Ö FD YL (by have:=(Ã BH vV).size; omega);have E30:=Ö Qn YL (by have:=(Ã BH vV).size; omega);refine Å S 2 [] [.M 2 0,.M 1 0] λS=>Þ S (XM _ _ _ _ _ _ _ (oL.toQ (K:=K1+K2) ((hx.ext Qr)) (gy _ _ (jG rE) (fG tH.2))) (oL.toQ (K:=K1+K2) ((hy.ext BF)) (by rw[ŧ]; exact gy _ _ (jG tH) (fG rE.2))) Z Z) λu E32 S=>Æ S (.i (jH q1 q2)) (λS=>?_);exact⟨I,S.E⟩
abbrev afV(v1 v2:À)(q1 q2:Bool×Nat×Nat)(K1 K2:Nat)(w:Á)(h1:dL K1 w v1 q1)(h2:dL K2 w v2 q2)(hK1:1<=K1)(hK2:1<=K2)(hM1:K1<=100000)(hM2:K2<=100000) :
  Ä prog 267 #[v1,v2] w λe w'=>∃x,e = .R x∧bF w.heap.size w' x (uh q1 q2)∧Ext w w':=by
 obtain⟨n1,a1,m1,c1,o1,NZ,k1,d1,rfl⟩:=h1.shape;have rE:=h1.len hK1;have Yx:=h1.pos;obtain⟨n2,a2,m2,c2,o2,Yy,k2,d2,rfl⟩:=h2.shape;have tH:=h2.len hK2;have HP2:=h2.pos;refine Ë func267 ntmps267 λS=>Ú S [.b n1,.s a1 m1 c1,.b o1,.s NZ k1 d1] λu b2 E3 hb4 S=>Ú S [.b n2,.s a2 m2 c2,.b o2,.s Yy k2 d2] λu b5 E6 hb7 S=>Ú S Sx.zr λu b8 E9 tX S=>Å S 2 [] [.M 2 0,.M 1 0] λS=>î S (JU _ _ q1 q2 K1 K2 _ (h1.below S.E) (h2.below S.E) hK1 hK2 hM1 hM2) ?_;rintro e u ⟨x,y,d,rfl,hx,hy,hd,uM⟩;obtain⟨p0,g0,rfl⟩:=hx.shape;obtain⟨p1,g1,rfl⟩:=hy.shape;obtain⟨p2,g2,rfl⟩:=hd.shape;refine⟨_,I,uM,λS=>?_⟩;refine Ú S [.z,.sn] λu b13 vV ac6 S=>Ú S [.z,.sn] λu b16 AA Ri S=>Ú S [.z,.sn] λu b19 DK DX S=>è S 2 (off:=0) (cs:=[.b ((qz q1*(q2.2.2:Int))<0),.s p0 (LZ ((qz q1*(q2.2.2:Int))).natAbs).length g0]) I (λu C22 S=>?_);have Qv:=Ö (Ã vV (Ã AA DK)) C22;have EK:=Ö (Ã vV (Ã AA DK)) C22;have FD:=Ö (Ã vV (Ã AA DK)) C22;refine è S 1 (off:=0) (cs:=[.b ((qz q2*(q1.2.2:Int))<0),.s p1 (LZ ((qz q2*(q1.2.2:Int))).natAbs).length g1]) I (λu C26 S=>?_);have ϰ:=Ö Qv C26 (by have:=vV.size; omega);have Qr:=Ö EK C26 (by have:=vV.size; omega);have BF:=Ö FD C26 (by have:=vV.size; omega);refine è S 0 (off:=0) (cs:=[.b (((q1.2.2:Int)*(q2.2.2:Int))<0),.s p2 (LZ (((q1.2.2:Int)*(q2.2.2:Int))).natAbs).length g2]) I (λu Qp S=>?_);have DJ:=Ö ϰ Qp (by have:=(Ã vV AA).size; omega);have E32:=Ö Qr Qp (by have:=(Ã vV AA).size; omega);have E33:=Ö BF Qp (by have:=(Ã vV AA).size; omega);refine Į S 5 [(17,λv w1=>oL w.heap.size w1 v ((qz q1*(q2.2.2:Int))-(qz q2*(q1.2.2:Int)))),(19,λv w1=>bF w.heap.size w1 v (uh q1 q2))] (λr=>[.M 2 0,.M 1 0,.M 0 0]) (λx=>[x 17,x 19]) (λx=>[(_,_,true,x 17,17),(_,_,true,x 19,19)]) [[],[17]] (λx=>[(19,x 19)]) ⟨λ_ _ _ k h=>aK.ext h k,λ_ _ _ k h=>au.ext h k,G⟩ (λx=>⟨by intro u hC g F; exact(JR _ _ _ _ _ _ _ (oL.toQ (K:=K1+K2) ((hx.ext (Ã DJ hC))) (gy _ _ (jG rE) (fG tH.2))) (oL.toQ (K:=K1+K2) ((hy.ext (Ã E32 hC))) (by rw[ŧ]; exact gy _ _ (jG tH) (fG rE.2))) Z Z).mono λe w2 h=>by obtain⟨x,rfl,hx,hb⟩:=h; exact⟨_,I,hx.mono ((Ã S.E hC)).size,hb⟩,by intro u hC g F; obtain⟨Ro,-⟩:=F; exact(Un _ _ ((qz q1*(q2.2.2:Int))-(qz q2*(q1.2.2:Int))) (q1.2.2*q2.2.2) (K1+K2+1) _ (oL.toQ Ro (Gp _ _ (JM (K:=K1+K2) (oL.toQ (K:=K1+K2) ((hx.ext (Ã DJ hC))) (gy _ _ (jG rE) (fG tH.2)))) (JM (K:=K1+K2) (oL.toQ (K:=K1+K2) ((hy.ext (Ã E32 hC))) (by rw[ŧ]; exact gy _ _ (jG tH) (fG rE.2)))))) (by rw[ayO]; exact fK.mono (oL.toQ (K:=K1+K2) ((hd.ext (Ã E33 hC))) (gy _ _ (fG rE.2) (fG tH.2))) Z) (ϕ Yx HP2) Z).mono λe w2 h=>by obtain⟨x,rfl,hx,hb⟩:=h; exact⟨_,I,hx.mono ((Ã S.E hC)).size,hb⟩,G⟩) (λu x Qo F S=>?_);obtain⟨Ro,F19,-⟩:=F;obtain⟨x3,e3,y3,f3,em⟩:=au.shape F19;rw[em]at S F19;try rw[em]
 have X37:=S.bx 3;refine è S 3 (off:=0) (cs:=[.b ((uh q1 q2).1),.s x3 (LZ (uh q1 q2).2.1).length e3,.z,.s y3 (LZ (uh q1 q2).2.2).length f3]) I (λu Ph S=>?_);have S:=S.fl;have RV:=aK.dG (hx.ext (Ã DJ Qo)) Ph X37;have KU:=aK.dG (hy.ext (Ã E32 Qo)) Ph X37;have Ea:=aK.dG (hd.ext (Ã E33 Qo)) Ph X37;have IV:=au.dG F19 Ph X37;refine ă S 3 I (v := .agg #[.b ((uh q1 q2).1),.s x3 (LZ (uh q1 q2).2.1).length e3,.z,.s y3 (LZ (uh q1 q2).2.2).length f3]) (λS=>?_);exact⟨_,I,IV,S.E⟩
abbrev nO(v1:À)(q1:Bool×Nat×Nat)(K1:Nat)(w:Á)(h1:dL K1 w v1 q1)(hK1:1<=K1)(hM:K1<=100000) :
  Ä prog 229 #[v1] w (RF w (.i (bV q1:Int))):=by
 obtain⟨n1,a1,m1,c1,o1,NZ,k1,d1,rfl⟩:=h1.shape;have rE:=h1.len hK1;have Yx:=h1.pos;refine Ë func229 ntmps229 λS=>Ú S [.b n1,.s a1 m1 c1,.b o1,.s NZ k1 d1] λu b2 E3 hb4 S=>Å S 2 [] [.M 0 0] λS=>î S (jM _ q1 K1 _ (h1.below S.E) Z) ?_;rintro e u ⟨x,rfl,hx,E6⟩;obtain⟨x1,e1,y1,f1,rfl⟩:=au.shape hx;refine⟨_,I,E6,λS=>?_⟩;have X8:=S.bx 0;refine è S 0 (off:=0) (cs:=[.b q1.1,.s x1 (LZ q1.2.1).length e1,.z,.s y1 (LZ q1.2.2).length f1]) I (λu C7 S=>?_);have Fs9:=au.dG hx C7 X8;refine Ą S 7 [.M 0 0,.M 0 2,.re 11 (.i (if ((bl (q1.2.2):Nat):Int)>((bl (q1.2.1):Nat):Int)then ((bl (q1.2.2):Nat):Int)else ((bl (q1.2.1):Nat):Int))) (.i (max ((bl (q1.2.1):Nat):Int) ((bl (q1.2.2):Nat):Int)))] [(_,_,true,.i (bl (q1.2.1):Nat)),(_,_,true,.i (bl (q1.2.2):Nat))] [(11,.i (max ((bl (q1.2.1):Nat):Int) ((bl (q1.2.2):Nat):Int)))] ⟨λu hC g=>BR (Ac _ _ _ _ (((Fs9.ext hC)).parts' rE).1 Z) (by first | (rw[show(qz q1).natAbs=q1.2.1 from kX ..]) | rw[Ť]),λu hC g=>BR (Ac _ _ _ _ (((Fs9.ext hC)).parts' rE).2 Z) (by first | (rw[show(qz q1).natAbs=q1.2.1 from kX ..]) | rw[Ť]),G⟩ (hk:=⟨ade,G⟩) λu BH S=>Æ S (.i (max ((bl (q1.2.1):Nat):Int) ((bl (q1.2.2):Nat):Int))) (λS=>?_);exact⟨by unfold bV; congr 2; omega,S.E⟩
structure Q6 where
 a:Bool×Nat×Nat
 b:Bool×Nat×Nat
 c:Bool×Nat×Nat
 d:Bool×Nat×Nat
 e:Bool×Nat×Nat
 f:Bool×Nat×Nat
def eG(R:Á->À->Bool×Nat×Nat->Prop)(w:Á)(v:À)(Q:Q6):Prop:=
 ∃c0 c1 c2 c3 c4 c5 c6 c7 c8 c9 c10 c11 c12 c13 c14 c15 c16 c17 c18 c19 c20 c21 U2 c23:À,v = .agg #[c0,c1,c2,c3,c4,c5,c6,c7,c8,c9,c10,c11,c12,c13,c14,c15,c16,c17,c18,c19,c20,c21,U2,c23]∧R w (.agg #[c0,c1,c2,c3]) Q.a∧R w (.agg #[c4,c5,c6,c7]) Q.b∧R w (.agg #[c8,c9,c10,c11]) Q.c∧R w (.agg #[c12,c13,c14,c15]) Q.d∧R w (.agg #[c16,c17,c18,c19]) Q.e∧R w (.agg #[c20,c21,U2,c23]) Q.f
abbrev jI (K:Nat):Á->À->Q6->Prop:=eG (dL K)
abbrev tC (base:Nat):Á->À->Q6->Prop:=eG (bF base)
abbrev eG.mono{R R':Á->À->Bool×Nat×Nat->Prop}{w w':Á}{v:À}{Q:Q6}(h:eG R w v Q)(hR:∀x q,R w x q->R' w' x q):eG R' w' v Q:=by
 obtain⟨c0,c1,c2,c3,c4,c5,c6,c7,c8,c9,c10,c11,c12,c13,c14,c15,c16,c17,c18,c19,c20,c21,U2,c23,hv,h0,h1,h2,h3,h4,h5⟩:=h;exact⟨c0,c1,c2,c3,c4,c5,c6,c7,c8,c9,c10,c11,c12,c13,c14,c15,c16,c17,c18,c19,c20,c21,U2,c23,hv,hR _ _ h0,hR _ _ h1,hR _ _ h2,hR _ _ h3,hR _ _ h4,hR _ _ h5⟩
abbrev eG.fB{K:Nat}{w w':Á}{v:À}{Q:Q6}(h:jI K w v Q)(hb:Ext w w'):jI K w' v Q:=h.mono λ_ _ k=>k.below hb
abbrev eG.uJ{base:Nat}{w w':Á}{v:À}{Q:Q6}(h:tC base w v Q)(hb:Ext w w'):tC base w' v Q:=h.mono λ_ _ k=>k.ext hb
abbrev eG.ajr{base base':Nat}{w:Á}{v:À}{Q:Q6}(h:tC base w v Q)(hb:base'<=base):tC base' w v Q:=h.mono λ_ _ k=>au.mono k hb
def wW(Q:Q6):Prop:=Ie Q.a∧Ie Q.b∧Ie Q.c∧Ie Q.d∧Ie Q.e∧Ie Q.f
def TP(K:Nat)(Q:Q6):Prop:=qlen K Q.a∧qlen K Q.b∧qlen K Q.c∧qlen K Q.d∧qlen K Q.e∧qlen K Q.f
abbrev eG.nrm{K:Nat}{w:Á}{v:À}{Q:Q6}(h:jI K w v Q):wW Q:=by
 obtain⟨c0,c1,c2,c3,c4,c5,c6,c7,c8,c9,c10,c11,c12,c13,c14,c15,c16,c17,c18,c19,c20,c21,U2,c23,hv,h0,h1,h2,h3,h4,h5⟩:=h;exact⟨h0.nrm,h1.nrm,h2.nrm,h3.nrm,h4.nrm,h5.nrm⟩
abbrev eG.len{K:Nat}{w:Á}{v:À}{Q:Q6}(h:jI K w v Q)(hK:1<=K):TP K Q:=by
 obtain⟨c0,c1,c2,c3,c4,c5,c6,c7,c8,c9,c10,c11,c12,c13,c14,c15,c16,c17,c18,c19,c20,c21,U2,c23,hv,h0,h1,h2,h3,h4,h5⟩:=h;exact⟨h0.len hK,h1.len hK,h2.len hK,h3.len hK,h4.len hK,h5.len hK⟩
def aT.q(t:aT):Q6:=⟨t.a.q,t.b.q,t.c.q,t.d.q,t.e.q,t.f.q⟩
abbrev aT.toQ{K:Nat}{w:Á}{t:aT}(h:t.ok w)(hf:t.fit K):jI K w t.v t.q:=by
 obtain⟨h0,h1,h2,h3,h4,h5⟩:=h;obtain⟨f0,f1,f2,f3,f4,f5⟩:=hf;exact⟨_,_,_,_,_,_,_,_,_,_,_,_,_,_,_,_,_,_,_,_,_,_,_,_,I,bn.toQ h0 f0,bn.toQ h1 f1,bn.toQ h2 f2,bn.toQ h3 f3,bn.toQ h4 f4,bn.toQ h5 f5⟩
def Q6.valid(Q:Q6):Bool:=decide (bV Q.a<=256)&&(decide (bV Q.b<=256)&&(decide (bV Q.c<=256)&&(decide (bV Q.d<=256)&&(decide (bV Q.e<=256)&&(decide (bV Q.f<=256))))))
def Q6.wE(Q:Q6):Bool×Nat×Nat:=uh (oU Q.a Q.d) (oU Q.b Q.c)
def Q6.eq(P Q:Q6):Bool:=pW P.a Q.a&&(pW P.b Q.b&&(pW P.c Q.c&&(pW P.d Q.d&&(pW P.e Q.e&&(pW P.f Q.f)))))
open Go.RowKit Na Go.Sx
variable{α:Type}
def qI:Q6:=⟨(false,1,1),(false,0,1),(false,0,1),(false,1,1),(false,0,1),(false,0,1)⟩
open Go.RowKit Na Go.Sx
variable{α:Type}
abbrev dL.iL{K:Nat}{w:Á}{v:À}{q:Bool×Nat×Nat}(h:dL K w v q):∃r:bn,v=r.v:=by
 obtain⟨n1,s1,l1,n2,s2,l2,rfl,h1,h2,_⟩:=h;obtain⟨a1,c1,rfl,_⟩:=h1;obtain⟨a2,c2,rfl,_⟩:=h2;exact⟨⟨n1,a1,c1,l1,n2,a2,c2,l2⟩,I⟩
abbrev au.iL{base:Nat}{w:Á}{v:À}{neg:Bool}{a b:Nat}(h:au base w v neg a b):∃r:bn,v=r.v:=by
 obtain⟨s,t,rfl,hs,ht,_⟩:=h;obtain⟨a1,c1,rfl,_⟩:=hs;obtain⟨a2,c2,rfl,_⟩:=ht;exact⟨⟨_,a1,c1,_,_,a2,c2,_⟩,I⟩
abbrev eG.afW{R:Á->À->Bool×Nat×Nat->Prop}{w:Á}{v:À}{Q:Q6}(h:eG R w v Q)(hR:∀x q,R w x q->∃r:bn,x=r.v):∃t:aT,v=t.v∧R w t.a.v Q.a∧R w t.b.v Q.b∧R w t.c.v Q.c∧R w t.d.v Q.d∧R w t.e.v Q.e∧R w t.f.v Q.f:=by
 obtain⟨c0,c1,c2,c3,c4,c5,c6,c7,c8,c9,c10,c11,c12,c13,c14,c15,c16,c17,c18,c19,c20,c21,U2,c23,rfl,h0,h1,h2,h3,h4,h5⟩:=h;obtain⟨r0,e0⟩:=hR _ _ h0;simp only[bn.v,Ŧ,ť,ģ,and_true]at e0;obtain⟨rfl,rfl,rfl,rfl⟩:=e0;obtain⟨r1,e1⟩:=hR _ _ h1;simp only[bn.v,Ŧ,ť,ģ,and_true]at e1;obtain⟨rfl,rfl,rfl,rfl⟩:=e1;obtain⟨r2,e2⟩:=hR _ _ h2;simp only[bn.v,Ŧ,ť,ģ,and_true]at e2;obtain⟨rfl,rfl,rfl,rfl⟩:=e2;obtain⟨r3,e3⟩:=hR _ _ h3;simp only[bn.v,Ŧ,ť,ģ,and_true]at e3;obtain⟨rfl,rfl,rfl,rfl⟩:=e3;obtain⟨r4,e4⟩:=hR _ _ h4;simp only[bn.v,Ŧ,ť,ģ,and_true]at e4;obtain⟨rfl,rfl,rfl,rfl⟩:=e4;obtain⟨r5,e5⟩:=hR _ _ h5;simp only[bn.v,Ŧ,ť,ģ,and_true]at e5;obtain⟨rfl,rfl,rfl,rfl⟩:=e5;exact⟨⟨r0,r1,r2,r3,r4,r5⟩,I,h0,h1,h2,h3,h4,h5⟩
abbrev eG.sQ{K:Nat}{w:Á}{v:À}{Q:Q6}(h:jI K w v Q):∃t:aT,v=t.v∧dL K w t.a.v Q.a∧dL K w t.b.v Q.b∧dL K w t.c.v Q.c∧dL K w t.d.v Q.d∧dL K w t.e.v Q.e∧dL K w t.f.v Q.f:=h.afW λ_ _ k=>k.iL
abbrev eG.sT{base:Nat}{w:Á}{v:À}{Q:Q6}(h:tC base w v Q):∃t:aT,v=t.v∧bF base w t.a.v Q.a∧bF base w t.b.v Q.b∧bF base w t.c.v Q.c∧bF base w t.d.v Q.d∧bF base w t.e.v Q.e∧bF base w t.f.v Q.f:=h.afW λ_ _ k=>au.iL k
abbrev eG.of{R:Á->À->Bool×Nat×Nat->Prop}{w:Á}{t:aT}{Q:Q6}(h0:R w t.a.v Q.a)(h1:R w t.b.v Q.b)(h2:R w t.c.v Q.c)(h3:R w t.d.v Q.d)(h4:R w t.e.v Q.e)(h5:R w t.f.v Q.f):eG R w t.v Q:=
 ⟨_,_,_,_,_,_,_,_,_,_,_,_,_,_,_,_,_,_,_,_,_,_,_,_,I,h0,h1,h2,h3,h4,h5⟩
abbrev eG.inv{R:Á->À->Bool×Nat×Nat->Prop}{w:Á}{t:aT}{Q:Q6}(h:eG R w t.v Q):R w t.a.v Q.a∧R w t.b.v Q.b∧R w t.c.v Q.c∧R w t.d.v Q.d∧R w t.e.v Q.e∧R w t.f.v Q.f:=by
 obtain⟨c0,c1,c2,c3,c4,c5,c6,c7,c8,c9,c10,c11,c12,c13,c14,c15,c16,c17,c18,c19,c20,c21,U2,c23,e,h0,h1,h2,h3,h4,h5⟩:=h;simp only[aT.v,aT.cells,bn.cells,ō,ĵ,Ŧ,ť,ģ,and_true]at e;obtain⟨rfl,rfl,rfl,rfl,rfl,rfl,rfl,rfl,rfl,rfl,rfl,rfl,rfl,rfl,rfl,rfl,rfl,rfl,rfl,rfl,rfl,rfl,rfl,rfl⟩:=e;exact⟨h0,h1,h2,h3,h4,h5⟩
abbrev eG.pa{R:Á->À->Bool×Nat×Nat->Prop}{w:Á}{t:aT}{Q:Q6}(h:eG R w t.v Q):R w t.a.v Q.a:=h.inv.1
abbrev eG.pb{R:Á->À->Bool×Nat×Nat->Prop}{w:Á}{t:aT}{Q:Q6}(h:eG R w t.v Q):R w t.b.v Q.b:=h.inv.2.1
abbrev eG.pc{R:Á->À->Bool×Nat×Nat->Prop}{w:Á}{t:aT}{Q:Q6}(h:eG R w t.v Q):R w t.c.v Q.c:=h.inv.2.2.1
abbrev eG.pd{R:Á->À->Bool×Nat×Nat->Prop}{w:Á}{t:aT}{Q:Q6}(h:eG R w t.v Q):R w t.d.v Q.d:=h.inv.2.2.2.1
abbrev eG.pe{R:Á->À->Bool×Nat×Nat->Prop}{w:Á}{t:aT}{Q:Q6}(h:eG R w t.v Q):R w t.e.v Q.e:=h.inv.2.2.2.2.1
abbrev eG.pf{R:Á->À->Bool×Nat×Nat->Prop}{w:Á}{t:aT}{Q:Q6}(h:eG R w t.v Q):R w t.f.v Q.f:=h.inv.2.2.2.2.2
abbrev eG.dG{base:Nat}{w w':Á}{v:À}{Q:Q6}{b:Nat}{A:Array À}(h:tC base w v Q)(hc:Ch b w w')(hx:Bx w b A)(hA:A.toList.all Dl=true:=by rfl):tC base w' v Q:=h.mono λ_ _ k=>au.dG k hc hx hA
end
section
open Go.RowKit Na Go.Sx
abbrev eqPt(x y p q:Int)(w:Á):(binOp .eql 130 (.agg #[.i x,.i y]) (.agg #[.i p,.i q])).run prog w = .ok (.b ((x==p)&&(y==q))) w:=by
 simp[go_sem];(repeat' split)<;>simp_all
abbrev abG(x y p q:Int)(w:Á):(binOp .neq 130 (.agg #[.i x,.i y]) (.agg #[.i p,.i q])).run prog w = .ok (.b (!((x==p)&&(y==q)))) w:=by
 simp[go_sem];(repeat' split)<;>simp_all
abbrev aou(a b c d e f g h:Int)(w:Á):(binOp .eql 178 (.agg #[.u a,.u b,.u c,.u d]) (.agg #[.u e,.u f,.u g,.u h])).run prog w = .ok (.b ((a==e)&&((b==f)&&((c==g)&&(d==h))))) w:=by
 simp[go_sem];(repeat' split)<;>simp_all
abbrev aiY(a b c d e f g h:Int)(w:Á):(binOp .neq 178 (.agg #[.u a,.u b,.u c,.u d]) (.agg #[.u e,.u f,.u g,.u h])).run prog w = .ok (.b (!((a==e)&&((b==f)&&((c==g)&&(d==h)))))) w:=by
 simp[go_sem];(repeat' split)<;>simp_all
abbrev LW(a b c d e f g h:Int)(w:Á):(binOp .eql 40 (.agg #[.u a,.u b,.u c,.u d]) (.agg #[.u e,.u f,.u g,.u h])).run prog w = .ok (.b ((a==e)&&((b==f)&&((c==g)&&(d==h))))) w:=by
 simp[go_sem];(repeat' split)<;>simp_all
abbrev adi(o a b c d p e f g h:Int)(w:Á):(binOp .neq 202 (.agg #[.i o,.u a,.u b,.u c,.u d]) (.agg #[.i p,.u e,.u f,.u g,.u h])).run prog w = .ok (.b (!((o==p)&&((a==e)&&((b==f)&&((c==g)&&(d==h))))))) w:=by
 simp[go_sem];(repeat' split)<;>simp_all
abbrev aiX(v a b c d e f v' a' b' c' d' e' f':Int)(w:Á):(binOp .neq 163 (.agg #[.i v,.i a,.i b,.i c,.i d,.i e,.i f]) (.agg #[.i v',.i a',.i b',.i c',.i d',.i e',.i f'])).run prog w =
  .ok (.b (!((v==v')&&((a==a')&&((b==b')&&((c==c')&&((d==d')&&((e==e')&&(f==f'))))))))) w:=by
 simp[go_sem];(repeat' split)<;>simp_all
end
section
open Go.RowKit Na Go.Sx
variable{α:Type}
def gY(n lo hi:Int):Int:=if n<lo then lo else if hi<n then hi else n
abbrev Ur(x y:Int):((gY x (-1048576) 1048576==x)&&(gY y (-1048576) 1048576==y))=jP.valid ⟨x,y⟩:=by
 have h:∀z:Int,(gY z (-1048576) 1048576==z)=cok z:=by
  intro z;rw[ĩ];unfold gY cok;simp only[Û,æ,Ý];(repeat' split)<;>omega
 rw[h,h]; rfl
abbrev abH(n lo hi:Int)(w:Á) :
  Ä prog 335 #[.i n,.i lo,.i hi] w λe w'=>e = .R (.i (gY n lo hi))∧w=w':=by
 skip;refine Ë func335 ntmps335 λS=>È S (decide (n<lo)) (λhc4 S=>?_) (λhc4 S=>?_)
 .have p0:=hc4;try simp only[Ý,ð,Û,ä,ne_eq,bne_iff_ne,bne_eq_false_iff_eq]at p0
  refine Æ S (.i lo) (λS=>?_);exact⟨eX (by unfold gY; (repeat' split)<;>omega),I⟩
 refine È S (decide (hi<n)) (λkP S=>?_) (λkP S=>?_)
 .have p0:=hc4;try simp only[Ý,ð,Û,ä,ne_eq,bne_iff_ne,bne_eq_false_iff_eq]at p0
  have p1:=kP;try simp only[Ý,ð,Û,ä,ne_eq,bne_iff_ne,bne_eq_false_iff_eq]at p1
  refine Æ S (.i hi) (λS=>?_);exact⟨eX (by unfold gY; (repeat' split)<;>omega),I⟩
 have p0:=hc4;try simp only[Ý,ð,Û,ä,ne_eq,bne_iff_ne,bne_eq_false_iff_eq]at p0
 have p1:=kP;try simp only[Ý,ð,Û,ä,ne_eq,bne_iff_ne,bne_eq_false_iff_eq]at p1
 refine Æ S (.i n) (λS=>?_);exact⟨eX (by unfold gY; (repeat' split)<;>omega),I⟩
abbrev Ut(n:Int)(w:Á) :
  Ä prog 334 #[.i n] w λe w'=>e = .R (.i (gY n (-1048576) 1048576))∧w=w':=by
 skip;refine Ë func334 ntmps334 λS=>jc S (abH (n) (-1048576) (1048576) _) λS=>Æ S (.i (gY n (-1048576) (1048576))) (λS=>?_);exact⟨I,I⟩
abbrev afX(x y:Int)(w:Á) :
  Ä prog 330 #[.agg #[.i x,.i y]] w (RF w (.agg #[.i (gY x (-1048576) 1048576),.i (gY y (-1048576) 1048576)])):=by
 skip;refine Ë func330 ntmps330 λS=>Í S λu b2 E3 hb4 S=>Í S λu b5 E6 hb7 S=>Ą S 9 [.M 1 0,.M 1 1] [(_,_,true,.i (gY x (-1048576) 1048576)),(_,_,true,.i (gY y (-1048576) 1048576))] [(12,.agg #[.i (gY x (-1048576) 1048576),.i (gY y (-1048576) 1048576)])] ⟨λu hC g=>Đ (Ut x _),λu hC g=>Đ (Ut y _),G⟩ λu NQ S=>à S 0 I λu C11 S=>ă S 0 I (v := .agg #[.i (gY x (-1048576) 1048576),.i (gY y (-1048576) 1048576)]) (λS=>?_);exact⟨I,S.E⟩
abbrev lV(x y:Int)(w:Á) :
  Ä prog 301 #[.agg #[.i x,.i y]] w (RF w (.b (jP.valid ⟨x,y⟩))):=by
 skip;refine Ë func301 ntmps301 λS=>Í S λu b2 E3 hb4 S=>Ą S 4 [.M 0 0,.M 0 0,.cmp .eql 130 (.tmp 4) (.tmp 5) (.agg #[.i (gY x (-1048576) 1048576),.i (gY y (-1048576) 1048576)]) (.agg #[.i x,.i y]) (.b (((gY x (-1048576) 1048576)==x)&&((gY y (-1048576) 1048576)==y)))] [(_,_,true,.agg #[.i (gY x (-1048576) 1048576),.i (gY y (-1048576) 1048576)])] [(6,.b (((gY x (-1048576) 1048576)==x)&&((gY y (-1048576) 1048576)==y)))] ⟨λu hC g=>afX x y _,G⟩ (hk:=⟨ħ (λ_=>eqPt ..) X,G⟩) λu E6 S=>Æ S (.b (((gY x (-1048576) 1048576)==x)&&((gY y (-1048576) 1048576)==y))) (λS=>?_);exact⟨by rw[<-Ur],S.E⟩
abbrev yV(v:Int)(w:Á) :
  Ä prog 269 #[.i v] w λe w'=>e = .R (.i (named v))∧w=w':=by
 skip;refine Ë func269 ntmps269 λS=>È S ((v)==4) (λhc13 S=>?_) (λhc13 S=>?_)
 .have p0:=hc13;try simp only[Ý,ð,Û,ä,ne_eq,bne_iff_ne,bne_eq_false_iff_eq]at p0
  refine Æ S (.i 3) (λS=>?_);exact⟨eX (by unfold named; (repeat' split)<;>omega),I⟩
 refine È S ((v)==3) (λhc18 S=>?_) (λhc18 S=>?_)
 .have p0:=hc13;try simp only[Ý,ð,Û,ä,ne_eq,bne_iff_ne,bne_eq_false_iff_eq]at p0
  have p1:=hc18;try simp only[Ý,ð,Û,ä,ne_eq,bne_iff_ne,bne_eq_false_iff_eq]at p1
  refine Æ S (.i 2) (λS=>?_);exact⟨eX (by unfold named; (repeat' split)<;>omega),I⟩
 refine È S ((v)==1) (λhc24 S=>?_) (λhc24 S=>?_)
 .refine È S ((v)==1) (λhc25 S=>?_) (λhc25 S=>?_)
  .have p0:=hc13;try simp only[Ý,ð,Û,ä,ne_eq,bne_iff_ne,bne_eq_false_iff_eq]at p0
   have p1:=hc18;try simp only[Ý,ð,Û,ä,ne_eq,bne_iff_ne,bne_eq_false_iff_eq]at p1
   have p2:=hc24;try simp only[Ý,ð,Û,ä,ne_eq,bne_iff_ne,bne_eq_false_iff_eq]at p2
   refine Æ S (.i 1) (λS=>?_);exact⟨eX (by unfold named; (repeat' split)<;>omega),I⟩
  rw[hc24]at hc25; cases hc25
 refine È S ((v)==2) (λhc28 S=>?_) (λhc28 S=>?_)
 .have p0:=hc13;try simp only[Ý,ð,Û,ä,ne_eq,bne_iff_ne,bne_eq_false_iff_eq]at p0
  have p1:=hc18;try simp only[Ý,ð,Û,ä,ne_eq,bne_iff_ne,bne_eq_false_iff_eq]at p1
  have p2:=hc24;try simp only[Ý,ð,Û,ä,ne_eq,bne_iff_ne,bne_eq_false_iff_eq]at p2
  have p3:=hc28;try simp only[Ý,ð,Û,ä,ne_eq,bne_iff_ne,bne_eq_false_iff_eq]at p3
  refine Æ S (.i 1) (λS=>?_);exact⟨eX (by unfold named; (repeat' split)<;>omega),I⟩
 refine È S ((v)==5) (λhc32 S=>?_) (λhc32 S=>?_)
 .have p0:=hc13;try simp only[Ý,ð,Û,ä,ne_eq,bne_iff_ne,bne_eq_false_iff_eq]at p0
  have p1:=hc18;try simp only[Ý,ð,Û,ä,ne_eq,bne_iff_ne,bne_eq_false_iff_eq]at p1
  have p2:=hc24;try simp only[Ý,ð,Û,ä,ne_eq,bne_iff_ne,bne_eq_false_iff_eq]at p2
  have p3:=hc28;try simp only[Ý,ð,Û,ä,ne_eq,bne_iff_ne,bne_eq_false_iff_eq]at p3
  have p4:=hc32;try simp only[Ý,ð,Û,ä,ne_eq,bne_iff_ne,bne_eq_false_iff_eq]at p4
  refine Æ S (.i 0) (λS=>?_);exact⟨eX (by unfold named; (repeat' split)<;>omega),I⟩
 have p0:=hc13;try simp only[Ý,ð,Û,ä,ne_eq,bne_iff_ne,bne_eq_false_iff_eq]at p0
 have p1:=hc18;try simp only[Ý,ð,Û,ä,ne_eq,bne_iff_ne,bne_eq_false_iff_eq]at p1
 have p2:=hc24;try simp only[Ý,ð,Û,ä,ne_eq,bne_iff_ne,bne_eq_false_iff_eq]at p2
 have p3:=hc28;try simp only[Ý,ð,Û,ä,ne_eq,bne_iff_ne,bne_eq_false_iff_eq]at p3
 have p4:=hc32;try simp only[Ý,ð,Û,ä,ne_eq,bne_iff_ne,bne_eq_false_iff_eq]at p4
 refine Æ S (.i (-1)) (λS=>?_);exact⟨eX (by unfold named; (repeat' split)<;>omega),I⟩
abbrev fits_any(s:dQ)(w:Á) :
  Ä prog 270 #[.agg #[.i s.verb,.i s.a.x,.i s.a.y,.i s.b.x,.i s.b.y,.i s.c.x,.i s.c.y]] w (RF w (.b s.fits)):=by
 skip;refine Ë func270 ntmps270 λS=>Í S λu b2 E3 hb4 S=>Å S 7 [] [.M 0 1,.M 0 3,.M 0 5] λS=>Í S λu b7 E8 hb9 S=>Qu S 3 λS=>â S λS=>Å S 3 [] [.M 0 0] λS=>Í S λu b14 KA hb16 S=>à S 0 I λu FK S=>Å S 1 [] [.M 0 0] λS=>Þ S (lV (s.a.x) (s.a.y) _) λu KN S=>ě S 13 [.M 2 0,.M 0 0,.cmp .neq 130 (.tmp 28) (.tmp 29) (.agg #[.i s.a.x,.i s.a.y]) (.agg #[.i 0,.i 0]) (.b (!((s.a.x==0)&&(s.a.y==0))))] [(_,_,(!(!(jP.valid ⟨s.a.x,s.a.y⟩))),.i (named s.verb))] [(32,.b ((!(jP.valid ⟨s.a.x,s.a.y⟩))||((decide ((named s.verb)<=0))&&(!((s.a.x==0)&&(s.a.y==0))))))] ⟨λu hC g=>Đ (yV (s.verb) _),G⟩ (hk:=⟨ħ (λ_=>abG ..) X,G⟩) λu DK S=>È S ((!(jP.valid ⟨s.a.x,s.a.y⟩))||((decide ((named s.verb)<=0))&&(!((s.a.x==0)&&(s.a.y==0))))) (λhc21 S=>?_) (λhc21 S=>?_)
 .have g0:lF s.verb 0 s.a=false:=by
   have hh:=hc21;show(jP.valid ⟨s.a.x,s.a.y⟩ && !(decide (named s.verb<=0) && !((s.a.x==0)&&(s.a.y==0))))=_;revert hh;cases jP.valid ⟨s.a.x,s.a.y⟩<;>cases decide (named s.verb<=0)<;>cases ((s.a.x==0)&&(s.a.y==0))<;>simp
  refine Æ S (.z) (λS=>?_);exact⟨by rw[show s.fits=false from by simp[dQ.fits,g0]],S.E⟩
 refine â S λS=>Å S 3 [] [.M 1 2] λS=>Í S λu b27 Qr KP S=>à S 0 I λu Qp S=>Å S 1 [] [.M 0 0] λS=>Þ S (lV (s.b.x) (s.b.y) _) λu E32 S=>ě S 13 [.M 3 0,.M 0 0,.cmp .neq 130 (.tmp 28) (.tmp 29) (.agg #[.i s.b.x,.i s.b.y]) (.agg #[.i 0,.i 0]) (.b (!((s.b.x==0)&&(s.b.y==0))))] [(_,_,(!(!(jP.valid ⟨s.b.x,s.b.y⟩))),.i (named s.verb))] [(32,.b ((!(jP.valid ⟨s.b.x,s.b.y⟩))||((decide ((named s.verb)<=1))&&(!((s.b.x==0)&&(s.b.y==0))))))] ⟨λu hC g=>Đ (yV (s.verb) _),G⟩ (hk:=⟨ħ (λ_=>abG ..) X,G⟩) λu E33 S=>È S ((!(jP.valid ⟨s.b.x,s.b.y⟩))||((decide ((named s.verb)<=1))&&(!((s.b.x==0)&&(s.b.y==0))))) (λhc34 S=>?_) (λhc34 S=>?_)
 .have g0:lF s.verb 0 s.a=true:=by
   have hh:=hc21;show(jP.valid ⟨s.a.x,s.a.y⟩ && !(decide (named s.verb<=0) && !((s.a.x==0)&&(s.a.y==0))))=_;revert hh;cases jP.valid ⟨s.a.x,s.a.y⟩<;>cases decide (named s.verb<=0)<;>cases ((s.a.x==0)&&(s.a.y==0))<;>simp
  have g1:lF s.verb 1 s.b=false:=by
   have hh:=hc34;show(jP.valid ⟨s.b.x,s.b.y⟩ && !(decide (named s.verb<=1) && !((s.b.x==0)&&(s.b.y==0))))=_;revert hh;cases jP.valid ⟨s.b.x,s.b.y⟩<;>cases decide (named s.verb<=1)<;>cases ((s.b.x==0)&&(s.b.y==0))<;>simp
  refine Æ S (.z) (λS=>?_);exact⟨by rw[show s.fits=false from by simp[dQ.fits,g0,g1]],S.E⟩
 refine â S λS=>Å S 3 [] [.M 2 4] λS=>Í S λu b40 Qq ajQ S=>à S 0 I λu C43 S=>Å S 1 [] [.M 0 0] λS=>Þ S (lV (s.c.x) (s.c.y) _) λu ϝ S=>ě S 13 [.M 4 0,.M 0 0,.cmp .neq 130 (.tmp 28) (.tmp 29) (.agg #[.i s.c.x,.i s.c.y]) (.agg #[.i 0,.i 0]) (.b (!((s.c.x==0)&&(s.c.y==0))))] [(_,_,(!(!(jP.valid ⟨s.c.x,s.c.y⟩))),.i (named s.verb))] [(32,.b ((!(jP.valid ⟨s.c.x,s.c.y⟩))||((decide ((named s.verb)<=2))&&(!((s.c.x==0)&&(s.c.y==0))))))] ⟨λu hC g=>Đ (yV (s.verb) _),G⟩ (hk:=⟨ħ (λ_=>abG ..) X,G⟩) λu Ρ S=>È S ((!(jP.valid ⟨s.c.x,s.c.y⟩))||((decide ((named s.verb)<=2))&&(!((s.c.x==0)&&(s.c.y==0))))) (λhc47 S=>?_) (λhc47 S=>?_)
 .have g0:lF s.verb 0 s.a=true:=by
   have hh:=hc21;show(jP.valid ⟨s.a.x,s.a.y⟩ && !(decide (named s.verb<=0) && !((s.a.x==0)&&(s.a.y==0))))=_;revert hh;cases jP.valid ⟨s.a.x,s.a.y⟩<;>cases decide (named s.verb<=0)<;>cases ((s.a.x==0)&&(s.a.y==0))<;>simp
  have g1:lF s.verb 1 s.b=true:=by
   have hh:=hc34;show(jP.valid ⟨s.b.x,s.b.y⟩ && !(decide (named s.verb<=1) && !((s.b.x==0)&&(s.b.y==0))))=_;revert hh;cases jP.valid ⟨s.b.x,s.b.y⟩<;>cases decide (named s.verb<=1)<;>cases ((s.b.x==0)&&(s.b.y==0))<;>simp
  have g2:lF s.verb 2 s.c=false:=by
   have hh:=hc47;show(jP.valid ⟨s.c.x,s.c.y⟩ && !(decide (named s.verb<=2) && !((s.c.x==0)&&(s.c.y==0))))=_;revert hh;cases jP.valid ⟨s.c.x,s.c.y⟩<;>cases decide (named s.verb<=2)<;>cases ((s.c.x==0)&&(s.c.y==0))<;>simp
  refine Æ S (.z) (λS=>?_);exact⟨by rw[show s.fits=false from by simp[dQ.fits,g0,g1,g2]],S.E⟩
 refine ú S (λS=>?_);have g0:lF s.verb 0 s.a=true:=by
  have hh:=hc21;show(jP.valid ⟨s.a.x,s.a.y⟩ && !(decide (named s.verb<=0) && !((s.a.x==0)&&(s.a.y==0))))=_;revert hh;cases jP.valid ⟨s.a.x,s.a.y⟩<;>cases decide (named s.verb<=0)<;>cases ((s.a.x==0)&&(s.a.y==0))<;>simp
 have g1:lF s.verb 1 s.b=true:=by
  have hh:=hc34;show(jP.valid ⟨s.b.x,s.b.y⟩ && !(decide (named s.verb<=1) && !((s.b.x==0)&&(s.b.y==0))))=_;revert hh;cases jP.valid ⟨s.b.x,s.b.y⟩<;>cases decide (named s.verb<=1)<;>cases ((s.b.x==0)&&(s.b.y==0))<;>simp
 have g2:lF s.verb 2 s.c=true:=by
  have hh:=hc47;show(jP.valid ⟨s.c.x,s.c.y⟩ && !(decide (named s.verb<=2) && !((s.c.x==0)&&(s.c.y==0))))=_;revert hh;cases jP.valid ⟨s.c.x,s.c.y⟩<;>cases decide (named s.verb<=2)<;>cases ((s.c.x==0)&&(s.c.y==0))<;>simp
 refine Æ S (.b true) (λS=>?_);exact⟨by rw[show s.fits=true from by simp[dQ.fits,g0,g1,g2]],S.E⟩
open Go.RowKit Na Go.Sx
variable{α:Type}
variable{x:dQ}{last:Int}{w:Á}{v:À}{l:List dQ}
abbrev Uu(h:decide (named x.verb<0)=true):x.err last=2:=Ï (å h)
abbrev Ns(h:decide (named x.verb<0)=false)(h1:(!x.stands last)=true):x.err last=10:=by
 unfold dQ.err; rw[É (ñ h),Ï (by simpa using h1)]
abbrev Dz(h:decide (named x.verb<0)=false)(h1:(!x.stands last)=false)(h2:(!x.fits)=true):x.err last=6:=by
 unfold dQ.err; rw[É (ñ h),É (by simpa using h1),Ï (by simpa using h2)]
abbrev Uw(h:decide (named x.verb<0)=false)(h1:(!x.stands last)=false)(h2:(!x.fits)=false):x.err last=0:=by
 unfold dQ.err; rw[É (ñ h),É (by simpa using h1),É (by simpa using h2)]
abbrev Lj(h:oH w v l) :
  Ä prog 231 #[v] w (RF w (.tuple #[.i (dW l).1,.i (dW l).2])):=by
 obtain⟨a,cap,rfl⟩:=h.1.shape;have hmax:l.length<=9223372036854775807:=h.1.len;refine Ë func231 ntmps231 λS=>È S (decide (256<(l.length:Int))) (λhc4 S=>?_) (λhc4 S=>?_)
 .have p0:256<(l.length:Int):=å hc4;refine Gt S (.i 5) (.i 256) (λS=>?_);have e:dW l=(5,256):=by unfold dW; rw[Ï p0]
  exact⟨by rw[e],S.E⟩
 refine ĕ S (ι:=Nat×Int) (λp a' w'=>p.1<=l.length∧(mP 5 0 l=mP p.2 (p.1:Int) (l.drop p.1))∧Sx.St w a' w' 52 [(0,.s a l.length cap),(2,.i 0),(3,.i 0),(4,.i p.2),(11,.s a l.length cap),(12,.i l.length),(13,.i p.1)] [] []) (λp=>l.length-p.1) (0,5) (λS=>⟨Õ _,I,S.oK⟩) ?_;rintro⟨k,last⟩ ac u ig fC hI;try dsimp only at hI
 obtain⟨hk,hR,S⟩:=hI;refine Ė S λS=>È S (decide ((k:Int)<(l.length:Int))) (λfV S=>?_) (λfV S=>?_)
 .have mX:k<l.length:=by have:=å fV; omega
  obtain⟨b14,o15,rfl,x20,sU,DX,Ii⟩:=û h.1 (λ_=>I) (k) mX;have S:=S.view0 DX Ii;refine Å S 3 [] [.idx k l.length,.M 0 0] (hk:=⟨mX,G⟩) λS=>Í S λu b22 Qv Xu S=>à S 0 I λu Ϝ S=>Å S 19 [] [.M 0 0,.M 0 0,.M 0 0] λS=>jc S (yV (x20.verb) _) λS=>È S (decide ((named x20.verb)<0)) (λhc29 S=>?_) (λhc29 S=>?_)
  .have herr:x20.err last=2:=Uu hc29;have p0:¬256<(l.length:Int):=ñ hc4;refine Gt S (.i 2) (.i k) (λS=>?_);have e:dW l=(2,(k:Int)):=by
    unfold dW;rw[É Z,hR,Ķ mX,sU,mP,herr];rfl
   exact⟨by rw[e],S.E⟩
  refine È S (!(((x20.verb)==1)||(((last) != 5)&&(((x20.verb) != 5)||((last) != 1))))) (λhc32 S=>?_) (λhc32 S=>?_)
  .have herr:x20.err last=10:=Ns hc29 hc32;have p0:¬256<(l.length:Int):=ñ hc4;refine Gt S (.i 10) (.i k) (λS=>?_);have e:dW l=(10,(k:Int)):=by
    unfold dW;rw[É Z,hR,Ķ mX,sU,mP,herr];rfl
   exact⟨by rw[e],S.E⟩
  refine Å S 1 [] [.M 0 0] λS=>Þ S (fits_any x20 _) λu Qo S=>È S (!x20.fits) (λvk S=>?_) (λvk S=>?_)
  .have herr:x20.err last=6:=Dz hc29 hc32 vk;have p0:¬256<(l.length:Int):=ñ hc4;refine Gt S (.i 6) (.i k) (λS=>?_);have e:dW l=(6,(k:Int)):=by
    unfold dW;rw[É Z,hR,Ķ mX,sU,mP,herr];rfl
   exact⟨by rw[e],S.E⟩
  refine Å S 5 [] [.M 0 0,.re 51 (.i (IntKind.i64.wrap ((k:Int)+1))) (.i (k+1:Nat))] (hk:=⟨ą Z,G⟩) λS=>ė S ig (λS=>?_);have herr:x20.err last=0:=Uw hc29 hc32 vk;rw[Ķ mX,sU,mP,Ï herr]at hR;exact fC _ _ ((k+1),x20.verb) ⟨Z,hR,(S.l9 1).oK⟩ (by show _-_<_-_; omega)
 have p0:¬256<(l.length:Int):=ñ hc4;have p1:¬(k:Int)<(l.length:Int):=ñ fV;refine Gt S (.i 0) (.i 0) (λS=>?_);have e:dW l=(0,0):=by
  unfold dW;rw[É Z,hR,Ń Z];rfl
 exact⟨by rw[e],S.E⟩
abbrev Ad(h:oH w v l) :
  Ä prog 191 #[v] w (RF w (.b (iZ l))):=by
 skip;refine Ë func191 ntmps191 λS=>Þ S (Lj (h.below S.E)) λu E3 S=>Æ S (.b (((dW l).1)==0)) (λS=>?_);exact⟨I,S.E⟩
