/- Walks of package integer: Neg, Add, Sub, Mul, Cmp, BitLen. -/
import Derived.Test.YtfmkkemfhjkajaaGreatDoorPk9
import Derived.Test.YtfmkkemfhjkajaaGreatDoorSy
set_option maxHeartbeats 1600000
set_option maxRecDepth 100000
namespace Go.Proofs.YtfmkkemfhjkajaaGreatDoor
open Go.RowKit
variable{α:Type}
set_option linter.unusedVariables false
def yG:Value→Bool
 | .int .u32 _=>false
 | _=>true
theorem Ak{A:Array Value}(h:A.toList.all yG=true)(i:Nat)(x:UInt32):A[i]?≠some (aW x):=by
 intro e
 rw[List.all_eq_true]at h
 have hm:aW x∈A.toList:=by
  rw[Array.mem_toList_iff]
  exact Array.mem_of_getElem? e
 exact absurd (h _ hm) (by simp[yG])
theorem II{w w':World}{v:Value}{l:List UInt32}{b:Nat}{A:Array Value}(h:aG w v l)(hc:Ch b w w')(hx:Bx w b A)(hA:A.toList.all yG=true):aG w' v l:=h.ch hc (hx.off (Ak hA) h)
theorem aQ.ch{base:Nat}{w w':World}{v:Value}{neg:Bool}{n c:Nat}(h:aQ base w v neg n)(hc:Ch c w w')(hlt:c<base):aQ base w' v neg n:=by
 obtain⟨s,hv,hs,fs⟩:=h
 exact⟨s,hv,hs.ch hc (fun _=>fs.off hlt),fs⟩
theorem aQ.bT{base:Nat}{w w':World}{v:Value}{neg:Bool}{n b:Nat}{A:Array Value}(h:aQ base w v neg n)(hc:Ch b w w')(hx:Bx w b A)(hA:A.toList.all yG=true:=by rfl):aQ base w' v neg n:=by
 obtain⟨s,hv,hs,fs⟩:=h
 exact⟨s,hv,hs.ch hc (hx.off (Ak hA) hs),fs⟩
theorem Nh(l m:List UInt32)(hl:l.length≤10000000)(hm:m.length≤10000000):(Na.au (Na.val l*Na.val m)).length≤20000000:=by
 have h:=fB (Na.val l) (Na.val m) (K:=l.length) (L:=m.length) (bD l) (bD m)
 rw[Int.natAbs_mul]at h
 simp only[Int.natAbs_natCast]at h
 omega
theorem Nj(l m:List UInt32)(hl:l.length≤10000000)(hm:m.length≤10000000):(Na.au (Na.val l+Na.val m)).length≤20000001:=by
 have h:=DT (Na.val l) (Na.val m) (K:=l.length+m.length) (by simp only[Int.natAbs_natCast]; have:=bD l; omega) (by simp only[Int.natAbs_natCast]; have:=bD m; omega)
 rw[show((Na.val l:Int)+(Na.val m:Int))=((Na.val l+Na.val m:Nat):Int) by omega,Int.natAbs_natCast]at h
 omega
theorem Am(l m:List UInt32)(hl:l.length≤10000000):(Na.au (Na.val l-Na.val m)).length≤10000000:=by
 have h1:=fF (Nat.sub_le (Na.val l) (Na.val m))
 have h2:=bD l
 omega
theorem EP(v u:Value)(l m:List UInt32)(w:World)(hv:aG w v l)(hu:aG w u m)(hl:l.length≤100000000) :
  Calls Tryz.prog 260 #[v,u] w fun e w'=>∃a n c,e = .returned (.tuple #[.slice a n c,.bool (decide (Na.val m≤Na.val l))])∧(Na.val m≤Na.val l→aG w' (.slice a n c) (Na.au (Na.val l-Na.val m)))∧Ext w w':=by
 by_cases h:Na.val m≤Na.val l
 ·refine(Vx v u l m w hv hu hl h).mono ?_
  rintro e w' ⟨a,rfl,h1,h2⟩
  exact⟨a,_,_,by simp only[decide_eq_true h],fun _=>h1,h2⟩
 ·refine(Vy v u l m w hv hu (by omega)).mono ?_
  rintro e w' ⟨rfl,h2⟩
  exact⟨none,0,0,by simp only[decide_eq_false h],fun h3=>absurd h3 h,h2⟩
theorem J5{w:World}{s:Value}{z:Int}(hs:aG w s (Na.au z.natAbs))(h:(Na.au z.natAbs).length≤100000000) :
  Calls Tryz.prog 215 #[.agg #[.bool (decide (z<0)),s]] w fun e w'=>e = .returned (.int .i64 z.sign)∧Ext w w':=by
 have hg:=pR (decide (z<0)) _ _ w hs h
 rw[Na.aI,Yb,JQ]at hg
 exact hg
theorem ER{w:World}{s:Value}{l:List UInt32}(hs:aG w s l)(h:l.length≤1000000000) :
  Calls Tryz.prog 221 #[s] w fun e w'=>e = .returned (.int .i64 ((bl (Na.val l):Nat):Int))∧Ext w w':=by
 refine(ES s l w hs h).mono ?_
 rintro e w' ⟨rfl,rfl⟩
 exact⟨rfl,Ext.rfl'⟩
theorem sS{v:Value}{a:Nat}{w:World}(neg:Bool)(hv:aG w v (Na.au a))(hlen:(Na.au a).length≤1000000000) :
  Calls Tryz.prog 223 #[.bool neg,v] w fun e w'=>∃x,e = .returned x∧aQ w.heap.size w' x (neg&&decide (0<a)) a∧Ext w w':=by
 have h:=oO neg v _ w hv hlen
 rw[Na.aI]at h
 exact h
theorem Qz(v1:Value)(z1:Int)(K:Nat)(w:World)(h1:eP K w v1 z1)(hK:K≤10000000):
  Calls Tryz.prog 242 #[v1] w fun e w'=>∃x,e = .returned x∧oI w.heap.size w' x (-z1)∧Ext w w':=by
 obtain⟨n1,s1,l,rfl,h1,hl,rfl⟩:=h1
 obtain⟨a1,c1,rfl⟩:=h1.shape
 refine aiK Tryz.func242 Tryz.ntmps242 fun ac S=>aiG fun _ aU=>aiJ S 1 [.bool n1,.slice a1 l.length c1] fun ac u b2 E3 hb4 S=>aiJ S 2 [.bool false,.slice none 0 0] fun ac u b5 E6 hb7 S=>aiF<|aU _ _<|aiG fun _ dP=>adr S 5 [.mem 1 0,.mem 1 1] [(5,.bool (!n1)),(7,.slice a1 l.length c1)] fun ac S=>aiQ S (some 8) (oO (!n1) _ l _ (h1.below S.E) (by omega)) ?_
 rintro e u ⟨x,rfl,hx,E9⟩
 obtain⟨b1,d1,rfl⟩:=hx.shape
 have hz:=S.E.size
 have YB:=(S.bx 0).1
 have hb1':=(S.bx 1).1
 refine⟨_,rfl,E9,fun ac S=>?_⟩
 refine aiL S 0 (off:=0) (cs:=[.bool (!n1&&decide (0<Na.val l)),.slice b1 (Na.au (Na.val l)).length d1]) rfl (fun u C10 S=>?_)
 have P7:=hx.ch C10 (by omega)
 refine aiF<|dP _ _<|Vp.rt ?_
 refine aiS S 0 Tryz.results242 rfl (v := .agg #[.bool (!n1&&decide (0<Na.val l)),.slice b1 (Na.au (Na.val l)).length d1]) ?_
 exact⟨_,rfl,Qg n1 (Na.val l)▸tJ (aQ.mono P7 (by omega)),S.E⟩
theorem rF(v1 v2:Value)(z1 z2:Int)(K L:Nat)(w:World)(h1:eP K w v1 z1)(h2:eP L w v2 z2)(hK:K≤10000000)(hL:L≤10000000):
  Calls Tryz.prog 214 #[v1,v2] w fun e w'=>∃x,e = .returned x∧oI w.heap.size w' x (z1*z2)∧Ext w w':=by
 obtain⟨n1,s1,l,rfl,h1,hl,rfl⟩:=h1
 obtain⟨a1,c1,rfl⟩:=h1.shape
 obtain⟨n2,s2,m,rfl,h2,hm,rfl⟩:=h2
 obtain⟨a2,c2,rfl⟩:=h2.shape
 refine aiK Tryz.func214 Tryz.ntmps214 fun ac S=>aiG fun _ aU=>aiJ S 2 [.bool n1,.slice a1 l.length c1] fun ac u b2 E3 hb4 S=>aiJ S 3 [.bool n2,.slice a2 m.length c2] fun ac u b5 E6 hb7 S=>aiJ S 4 [.bool false,.slice none 0 0] fun ac u b8 E9 yC S=>aiF<|aU _ _<|wp_seq_k fun _ dB=>aiV S 11 [(14,fun v w1=>aG w1 v (Na.au (Na.val l*Na.val m))),(15,fun v w1=>aQ w.heap.size w1 v ((n1 != n2)&&decide (0<(Na.val l*Na.val m))) (Na.val l*Na.val m))] (fun r=>[.mem 2 0,.mem 1 0,.mem 2 1,.mem 1 1]) (fun x=>[x 14,x 15]) (fun x=>[(_,_,true,x 14,14),(_,_,true,x 15,15)]) [[],[14]] (fun x=>[(15,x 15)]) ⟨fun _ _ _ k h=>h.below k,fun _ _ _ k h=>h.ext k,trivial⟩ (fun x=>⟨by intro u hC g F; exact(QA _ _ _ _ _ (h1.below (Ext.trans' S.E hC)) (h2.below (Ext.trans' S.E hC)) (by omega) (by omega)).mono fun e w2 h=>by obtain⟨a,rfl,hx,hb⟩:=h; exact⟨_,rfl,hx,hb⟩,by intro u hC g F; obtain⟨Xp,-⟩:=F; exact(sS (n1 != n2) Xp (by have:=Nh l m (by omega) (by omega); omega)).mono fun e w2 h=>by obtain⟨y,rfl,hx,hb⟩:=h; exact⟨_,rfl,hx.mono ((Ext.trans' S.E hC)).size,hb⟩,trivial⟩) (fun ac u x H6 F S=>?_)
 obtain⟨Xp,I4,-⟩:=F
 obtain⟨b1,d1,em⟩:=aQ.shape I4
 rw[em]at S I4
 have Ed:=S.bx 0
 refine aiL S 0 (off:=0) (cs:=[.bool ((n1 != n2)&&decide (0<(Na.val l*Na.val m))),.slice b1 (Na.au (Na.val l*Na.val m)).length d1]) rfl (fun u C13 S=>?_)
 have zi:=aQ.bT I4 C13 Ed
 refine aiF<|dB _ _<|Vp.rt ?_
 refine aiS S 0 Tryz.results214 rfl (v := .agg #[.bool ((n1 != n2)&&decide (0<(Na.val l*Na.val m))),.slice b1 (Na.au (Na.val l*Na.val m)).length d1]) ?_
 exact⟨_,rfl,(Ya n1 n2 (Na.val l) (Na.val m)).symm▸tJ (aQ.mono zi (by omega)),S.E⟩
theorem QB(v1 v2:Value)(z1 z2:Int)(K L:Nat)(w:World)(h1:eP K w v1 z1)(h2:eP L w v2 z2)(hK:K≤10000000)(hL:L≤10000000):
  Calls Tryz.prog 241 #[v1,v2] w fun e w'=>∃x,e = .returned x∧oI w.heap.size w' x (z1+z2)∧Ext w w':=by
 obtain⟨n1,s1,l,rfl,h1,hl,rfl⟩:=h1
 obtain⟨a1,c1,rfl⟩:=h1.shape
 obtain⟨n2,s2,m,rfl,h2,hm,rfl⟩:=h2
 obtain⟨a2,c2,rfl⟩:=h2.shape
 refine aiK Tryz.func241 Tryz.ntmps241 fun ac S=>aiG fun _ aU=>aiJ S 2 [.bool n1,.slice a1 l.length c1] fun ac u b2 E3 hb4 S=>aiJ S 3 [.bool n2,.slice a2 m.length c2] fun ac u b5 E6 hb7 S=>aiJ S 4 [.bool false,.slice none 0 0] fun ac u b8 E9 yC S=>aiF<|aU _ _<|wp_seq_k fun _ dB=>aiG fun _ dw=>adr S 5 [.mem 2 0,.mem 1 0] [(13,.bool (n1==n2))] fun ac S=>aiF (dw _ _ ?_)
 refine aiI S (fun hc13=>?_) (fun hc13=>?_)
 ·refine wp_seq_k fun _ fU=>aiV S 8 [(20,fun v w1=>aG w1 v (Na.au (Na.val l+Na.val m))),(21,fun v w1=>aQ w.heap.size w1 v (n1&&decide (0<(Na.val l+Na.val m))) (Na.val l+Na.val m))] (fun r=>[.mem 2 0,.mem 2 1,.mem 1 1]) (fun x=>[x 20,x 21]) (fun x=>[(_,_,true,x 20,20),(_,_,true,x 21,21)]) [[],[20]] (fun x=>[(21,x 21)]) ⟨fun _ _ _ k h=>h.below k,fun _ _ _ k h=>h.ext k,trivial⟩ (fun x=>⟨by intro u hC g F; exact(QC _ _ _ _ _ (h1.below (Ext.trans' S.E hC)) (h2.below (Ext.trans' S.E hC)) (by omega) (by omega)).mono fun e w2 h=>by obtain⟨a,rfl,hx,hb⟩:=h; exact⟨_,rfl,hx,hb⟩,by intro u hC g F; obtain⟨F20,-⟩:=F; exact(sS n1 F20 (by have:=Nj l m (by omega) (by omega); omega)).mono fun e w2 h=>by obtain⟨y,rfl,hx,hb⟩:=h; exact⟨_,rfl,hx.mono ((Ext.trans' S.E hC)).size,hb⟩,trivial⟩) (fun ac u x Vb F S=>?_)
  obtain⟨F20,Tv,-⟩:=F
  obtain⟨b1,d1,em⟩:=aQ.shape Tv
  rw[em]at S Tv
  have UZ:=S.bx 0
  refine aiL S 0 (off:=0) (cs:=[.bool (n1&&decide (0<(Na.val l+Na.val m))),.slice b1 (Na.au (Na.val l+Na.val m)).length d1]) rfl (fun u Xj S=>?_)
  have PN:=aQ.bT Tv Xj UZ
  refine aiF<|fU _ _<|Vp.rt ?_
  refine aiS S 0 Tryz.results241 rfl (v := .agg #[.bool (n1&&decide (0<(Na.val l+Na.val m))),.slice b1 (Na.au (Na.val l+Na.val m)).length d1]) ?_
  obtain rfl:=eq_of_beq hc13
  exact⟨_,rfl,(Cm n1 (Na.val l) (Na.val m)).symm▸tJ (aQ.mono PN (by omega)),S.E⟩
 ·refine wp_skip<|dB _ _<|wp_seq_k fun _ jf=>aiG fun _ iU=>adr S 4 [.mem 2 1,.mem 1 1] [(24,.slice a1 l.length c1),(26,.slice a2 m.length c2)] fun ac S=>aiQ S (some 27) (EP _ _ _ _ _ (h1.below S.E) (h2.below S.E) (by omega)) ?_
  rintro e u ⟨p,q,c3,rfl,hs,LD⟩
  refine⟨_,rfl,LD,fun ac S=>?_⟩
  refine adr S 5 [] [(5,.slice p q c3),(6,.bool (decide (Na.val m≤Na.val l)))] fun ac S=>aiF<|iU _ _<|aiG fun _ jM=>adr S 1 [] [(30,.bool (decide (Na.val m≤Na.val l)))] fun ac S=>aiF (jM _ _ ?_)
  refine aiI S (fun tV=>?_) (fun tV=>?_)
  ·refine aiG fun _ kK=>adr S 3 [.mem 2 0] [(32,.bool n1),(33,.slice p q c3)] fun ac S=>aiQ S (some 34) (sS (n1) (hs (of_decide_eq_true tV)) (by have:=Am l m (by omega); omega)) ?_
   rintro e u ⟨x,rfl,hx,E25⟩
   obtain⟨b1,d1,rfl⟩:=hx.shape
   have hz:=S.E.size
   have YB:=(S.bx 0).1
   have hb1':=(S.bx 1).1
   have hb2':=(S.bx 2).1
   refine⟨_,rfl,E25,fun ac S=>?_⟩
   refine aiL S 0 (off:=0) (cs:=[.bool (n1&&decide (0<(Na.val l-Na.val m))),.slice b1 (Na.au (Na.val l-Na.val m)).length d1]) rfl (fun u C26 S=>?_)
   have Qd:=hx.ch C26 (by omega)
   refine aiF<|kK _ _<|Vp.rt ?_
   refine aiS S 0 Tryz.results241 rfl (v := .agg #[.bool (n1&&decide (0<(Na.val l-Na.val m))),.slice b1 (Na.au (Na.val l-Na.val m)).length d1]) ?_
   exact⟨_,rfl,(wF (by simpa using hc13) (of_decide_eq_true tV)).symm▸tJ (aQ.mono Qd (by omega)),S.E⟩
  ·refine wp_skip<|jf _ _<|aiG fun _ lK=>adr S 4 [.mem 1 1,.mem 2 1] [(37,.slice a2 m.length c2),(39,.slice a1 l.length c1)] fun ac S=>aiQ S (some 40) (EP _ _ _ _ _ (h2.below S.E) (h1.below S.E) (by omega)) ?_
   rintro e u ⟨p2,q2,c2,rfl,hs2,XG⟩
   refine⟨_,rfl,XG,fun ac S=>?_⟩
   refine adr S 5 [] [(7,.slice p2 q2 c2)] fun ac S=>aiF<|lK _ _<|aiG fun _ nI=>adr S 3 [.mem 1 0] [(44,.bool n2),(45,.slice p2 q2 c2)] fun ac S=>aiQ S (some 46) (sS (n2) (hs2 (by have:=of_decide_eq_false tV; omega)) (by have:=Am m l (by omega); omega)) ?_
   rintro e u ⟨x,rfl,hx,JB⟩
   obtain⟨b1,d1,rfl⟩:=hx.shape
   have hz:=S.E.size
   have YB:=(S.bx 0).1
   have hb1':=(S.bx 1).1
   have hb2':=(S.bx 2).1
   refine⟨_,rfl,JB,fun ac S=>?_⟩
   refine aiL S 0 (off:=0) (cs:=[.bool (n2&&decide (0<(Na.val m-Na.val l))),.slice b1 (Na.au (Na.val m-Na.val l)).length d1]) rfl (fun u C32 S=>?_)
   have Ez:=hx.ch C32 (by omega)
   refine aiF<|nI _ _<|Vp.rt ?_
   refine aiS S 0 Tryz.results241 rfl (v := .agg #[.bool (n2&&decide (0<(Na.val m-Na.val l))),.slice b1 (Na.au (Na.val m-Na.val l)).length d1]) ?_
   exact⟨_,rfl,(zZ (a:=Na.val l) (b:=Na.val m) (by simpa using hc13) (by have:=of_decide_eq_false tV; omega)).symm▸tJ (aQ.mono Ez (by omega)),S.E⟩
theorem ET(v1 v2:Value)(z1 z2:Int)(K L:Nat)(w:World)(h1:eP K w v1 z1)(h2:eP L w v2 z2)(hK:K≤10000000)(hL:L≤10000000):
  Calls Tryz.prog 216 #[v1,v2] w fun e w'=>∃x,e = .returned x∧oI w.heap.size w' x (z1-z2)∧Ext w w':=by
 obtain⟨n1,s1,l,rfl,h1,hl,rfl⟩:=h1
 obtain⟨a1,c1,rfl⟩:=h1.shape
 obtain⟨n2,s2,m,rfl,h2,hm,rfl⟩:=h2
 obtain⟨a2,c2,rfl⟩:=h2.shape
 refine aiK Tryz.func216 Tryz.ntmps216 fun ac S=>aiG fun _ aU=>aiJ S 2 [.bool n1,.slice a1 l.length c1] fun ac u b2 E3 hb4 S=>aiJ S 3 [.bool n2,.slice a2 m.length c2] fun ac u b5 E6 hb7 S=>aiJ S 4 [.bool false,.slice none 0 0] fun ac u b8 E9 yC S=>aiF<|aU _ _<|wp_seq_k fun _ dB=>aiV S 4 [(7,fun v w1=>oI w.heap.size w1 v (-zv n2 (Na.val m))),(8,fun v w1=>oI w.heap.size w1 v (zv n1 (Na.val l) + -zv n2 (Na.val m)))] (fun r=>[.mem 2 0,.mem 1 0]) (fun x=>[x 7,x 8]) (fun x=>[(_,_,true,x 7,7),(_,_,true,x 8,8)]) [[],[7]] (fun x=>[(8,x 8)]) ⟨fun _ _ _ k h=>h.ext k,fun _ _ _ k h=>h.ext k,trivial⟩ (fun x=>⟨by intro u hC g F; exact(Qz _ (zv n2 (Na.val m)) L _ ⟨n2,_,m,rfl,h2.below (Ext.trans' S.E hC),hm,rfl⟩ (by omega)).mono fun e w2 h=>by obtain⟨y,rfl,hx,hb⟩:=h; exact⟨_,rfl,hx.mono ((Ext.trans' S.E hC)).size,hb⟩,by intro u hC g F; obtain⟨F7,-⟩:=F; exact(QB _ _ (zv n1 (Na.val l)) (-zv n2 (Na.val m)) K L _ ⟨n1,_,l,rfl,h1.below (Ext.trans' S.E hC),hl,rfl⟩ (oI.toQ F7 (by rw[Int.natAbs_neg,kQ]; have:=bD m; omega)) (by omega) (by omega)).mono fun e w2 h=>by obtain⟨y,rfl,hx,hb⟩:=h; exact⟨_,rfl,hx.mono ((Ext.trans' S.E hC)).size,hb⟩,trivial⟩) (fun ac u x H6 F S=>?_)
 obtain⟨F7,F8,-⟩:=F
 obtain⟨b1,d1,em⟩:=aQ.shape F8
 rw[em]at S F8
 have Ed:=S.bx 0
 refine aiL S 0 (off:=0) (cs:=[.bool (decide ((zv n1 (Na.val l) + -zv n2 (Na.val m))<0)),.slice b1 (Na.au (zv n1 (Na.val l) + -zv n2 (Na.val m)).natAbs).length d1]) rfl (fun u C13 S=>?_)
 have zi:=aQ.bT F8 C13 Ed
 refine aiF<|dB _ _<|Vp.rt ?_
 refine aiS S 0 Tryz.results216 rfl (v := .agg #[.bool (decide ((zv n1 (Na.val l) + -zv n2 (Na.val m))<0)),.slice b1 (Na.au (zv n1 (Na.val l) + -zv n2 (Na.val m)).natAbs).length d1]) ?_
 exact⟨_,rfl,zi,S.E⟩
theorem QD(v1 v2:Value)(z1 z2:Int)(K L:Nat)(w:World)(h1:eP K w v1 z1)(h2:eP L w v2 z2)(hK:K≤10000000)(hL:L≤10000000):
  Calls Tryz.prog 182 #[v1,v2] w fun e w'=>e = .returned (.int .i64 (z1-z2).sign)∧Ext w w':=by
 obtain⟨n1,s1,l,rfl,h1,hl,rfl⟩:=h1
 obtain⟨a1,c1,rfl⟩:=h1.shape
 obtain⟨n2,s2,m,rfl,h2,hm,rfl⟩:=h2
 obtain⟨a2,c2,rfl⟩:=h2.shape
 refine aiK Tryz.func182 Tryz.ntmps182 fun ac S=>aiG fun _ aU=>aiJ S 2 [.bool n1,.slice a1 l.length c1] fun ac u b2 E3 hb4 S=>aiJ S 3 [.bool n2,.slice a2 m.length c2] fun ac u b5 E6 hb7 S=>adr S 1 [] [(4,.int .i64 0)] fun ac S=>aiF<|aU _ _<|aiG fun _ dP=>adr S 2 [.mem 1 0,.mem 0 0] [(5,.agg #[.bool n1,.slice a1 l.length c1]),(6,.agg #[.bool n2,.slice a2 m.length c2])] fun ac S=>aiQ S (some 7) (ET _ _ (zv n1 (Na.val l)) (zv n2 (Na.val m)) K L _ ⟨n1,_,l,rfl,h1.below S.E,hl,rfl⟩ ⟨n2,_,m,rfl,h2.below S.E,hm,rfl⟩ (by omega) (by omega)) ?_
 rintro e u ⟨x,rfl,⟨s,rfl,hs,-⟩,E9⟩
 obtain⟨b1,d1,rfl⟩:=hs.shape
 refine⟨_,rfl,E9,fun ac S=>?_⟩
 refine aiM S 8 (J5 hs (by have:=DU (zv n1 (Na.val l)) (zv n2 (Na.val m)) (K:=K+L) (by rw[kQ]; have:=bD l; omega) (by rw[kQ]; have:=bD m; omega); omega)) fun ac u Bj S=>adr S 1 [] [(4,.int .i64 (Int.sign (zv n1 (Na.val l)-zv n2 (Na.val m))))] fun ac S=>aiF<|dP _ _<|Vp.rt ?_
 refine aiH S Tryz.results182 ?_
 exact⟨rfl,S.E⟩
theorem yJ(v1:Value)(z1:Int)(K:Nat)(w:World)(h1:eP K w v1 z1)(hK:K≤10000000):
  Calls Tryz.prog 189 #[v1] w fun e w'=>e = .returned (.int .i64 (bl z1.natAbs:Int))∧Ext w w':=by
 obtain⟨n1,s1,l,rfl,h1,hl,rfl⟩:=h1
 obtain⟨a1,c1,rfl⟩:=h1.shape
 refine aiK Tryz.func189 Tryz.ntmps189 fun ac S=>aiG fun _ aU=>aiJ S 1 [.bool n1,.slice a1 l.length c1] fun ac u b2 E3 hb4 S=>adr S 1 [] [(2,.int .i64 0)] fun ac S=>aiF<|aU _ _<|aiG fun _ bV=>adr S 2 [.mem 0 1] [(4,.slice a1 l.length c1)] fun ac S=>aiM S 5 (ER (h1.below S.E) (by omega)) fun ac u E6 S=>adr S 1 [] [(2,.int .i64 ((bl (Na.val l):Nat):Int))] fun ac S=>aiF<|bV _ _<|Vp.rt ?_
 refine aiH S Tryz.results189 ?_
 exact⟨by rw[kQ],S.E⟩
end Go.Proofs.YtfmkkemfhjkajaaGreatDoor
