/- Transforms by value: six rational numbers. No program in -/
import Derived.Test.YtodpgjjgaddkeaaGreatDoorPk11
set_option maxHeartbeats 1600000
set_option maxRecDepth 100000
set_option linter.unusedVariables false
set_option linter.unusedSimpArgs false
namespace Go.Proofs.YtodpgjjgaddkeaaGreatDoor
open _root_.Go.Proofs.Tryz
section
open Go.RowKit
variable{α:Type}
structure Q6 where
 a:Bool×Nat×Nat
 b:Bool×Nat×Nat
 c:Bool×Nat×Nat
 d:Bool×Nat×Nat
 e:Bool×Nat×Nat
 f:Bool×Nat×Nat
def dZ(R:World->Value->Bool×Nat×Nat->Prop)(w:World)(v:Value)(Q:Q6):Prop:=
 ∃c0 c1 c2 c3 c4 c5 c6 c7 c8 c9 c10 c11 c12 c13 c14 c15 c16 c17 c18 c19 c20 c21 UW c23:Value,v = .agg #[c0,c1,c2,c3,c4,c5,c6,c7,c8,c9,c10,c11,c12,c13,c14,c15,c16,c17,c18,c19,c20,c21,UW,c23]∧R w (.agg #[c0,c1,c2,c3]) Q.a∧R w (.agg #[c4,c5,c6,c7]) Q.b∧R w (.agg #[c8,c9,c10,c11]) Q.c∧R w (.agg #[c12,c13,c14,c15]) Q.d∧R w (.agg #[c16,c17,c18,c19]) Q.e∧R w (.agg #[c20,c21,UW,c23]) Q.f
abbrev mF (K:Nat):World->Value->Q6->Prop:=dZ (eX K)
abbrev su (base:Nat):World->Value->Q6->Prop:=dZ (dP base)
theorem dZ.mono{R R':World->Value->Bool×Nat×Nat->Prop}{w w':World}{v:Value}{Q:Q6}(h:dZ R w v Q)(hR:∀x q,R w x q->R' w' x q):dZ R' w' v Q:=by
 obtain⟨c0,c1,c2,c3,c4,c5,c6,c7,c8,c9,c10,c11,c12,c13,c14,c15,c16,c17,c18,c19,c20,c21,UW,c23,hv,h0,h1,h2,h3,h4,h5⟩:=h;exact⟨c0,c1,c2,c3,c4,c5,c6,c7,c8,c9,c10,c11,c12,c13,c14,c15,c16,c17,c18,c19,c20,c21,UW,c23,hv,hR _ _ h0,hR _ _ h1,hR _ _ h2,hR _ _ h3,hR _ _ h4,hR _ _ h5⟩
theorem dZ.iL{K:Nat}{w w':World}{v:Value}{Q:Q6}(h:mF K w v Q)(hb:Ext w w'):mF K w' v Q:=h.mono λ_ _ k=>k.below hb
theorem dZ.sV{base:Nat}{w w':World}{v:Value}{Q:Q6}(h:su base w v Q)(hb:Ext w w'):su base w' v Q:=h.mono λ_ _ k=>k.ext hb
theorem dZ.aiq{base base':Nat}{w:World}{v:Value}{Q:Q6}(h:su base w v Q)(hb:base'<=base):su base' w v Q:=h.mono λ_ _ k=>aA.mono k hb
def Bj(Q:Q6):Prop:=Le Q.a∧Le Q.b∧Le Q.c∧Le Q.d∧Le Q.e∧Le Q.f
def Q5(K:Nat)(Q:Q6):Prop:=qlen K Q.a∧qlen K Q.b∧qlen K Q.c∧qlen K Q.d∧qlen K Q.e∧qlen K Q.f
theorem dZ.nrm{K:Nat}{w:World}{v:Value}{Q:Q6}(h:mF K w v Q):Bj Q:=by
 obtain⟨c0,c1,c2,c3,c4,c5,c6,c7,c8,c9,c10,c11,c12,c13,c14,c15,c16,c17,c18,c19,c20,c21,UW,c23,hv,h0,h1,h2,h3,h4,h5⟩:=h;exact⟨h0.nrm,h1.nrm,h2.nrm,h3.nrm,h4.nrm,h5.nrm⟩
theorem dZ.len{K:Nat}{w:World}{v:Value}{Q:Q6}(h:mF K w v Q)(hK:1<=K):Q5 K Q:=by
 obtain⟨c0,c1,c2,c3,c4,c5,c6,c7,c8,c9,c10,c11,c12,c13,c14,c15,c16,c17,c18,c19,c20,c21,UW,c23,hv,h0,h1,h2,h3,h4,h5⟩:=h;exact⟨h0.len hK,h1.len hK,h2.len hK,h3.len hK,h4.len hK,h5.len hK⟩
def bH.q(t:bH):Q6:=⟨t.a.q,t.b.q,t.c.q,t.d.q,t.e.q,t.f.q⟩
theorem bH.toQ{K:Nat}{w:World}{t:bH}(h:t.ok w)(hf:t.fit K):mF K w t.v t.q:=by
 obtain⟨h0,h1,h2,h3,h4,h5⟩:=h;obtain⟨f0,f1,f2,f3,f4,f5⟩:=hf;exact⟨_,_,_,_,_,_,_,_,_,_,_,_,_,_,_,_,_,_,_,_,_,_,_,_,I,bJ.toQ h0 f0,bJ.toQ h1 f1,bJ.toQ h2 f2,bJ.toQ h3 f3,bJ.toQ h4 f4,bJ.toQ h5 f5⟩
def Q6.valid(Q:Q6):Bool:=decide (eF Q.a<=256)&&(decide (eF Q.b<=256)&&(decide (eF Q.c<=256)&&(decide (eF Q.d<=256)&&(decide (eF Q.e<=256)&&(decide (eF Q.f<=256))))))
def Q6.Ef(Q:Q6):Bool×Nat×Nat:=JW (zY Q.a Q.d) (zY Q.b Q.c)
def Q6.eq(P Q:Q6):Bool:=pI P.a Q.a&&(pI P.b Q.b&&(pI P.c Q.c&&(pI P.d Q.d&&(pI P.e Q.e&&(pI P.f Q.f)))))
open Go.RowKit
variable{α:Type}
def qI:Q6:=⟨(false,1,1),(false,0,1),(false,0,1),(false,1,1),(false,0,1),(false,0,1)⟩
open Go.RowKit
variable{α:Type}
theorem eX.iM{K:Nat}{w:World}{v:Value}{q:Bool×Nat×Nat}(h:eX K w v q):∃r:bJ,v=r.v:=by
 obtain⟨n1,s1,l1,n2,s2,l2,rfl,h1,h2,_⟩:=h;obtain⟨a1,c1,rfl,_⟩:=h1;obtain⟨a2,c2,rfl,_⟩:=h2;exact⟨⟨n1,a1,c1,l1,n2,a2,c2,l2⟩,I⟩
theorem aA.iM{base:Nat}{w:World}{v:Value}{neg:Bool}{a b:Nat}(h:aA base w v neg a b):∃r:bJ,v=r.v:=by
 obtain⟨s,t,rfl,hs,ht,_⟩:=h;obtain⟨a1,c1,rfl,_⟩:=hs;obtain⟨a2,c2,rfl,_⟩:=ht;exact⟨⟨_,a1,c1,_,_,a2,c2,_⟩,I⟩
theorem dZ.ac0{R:World->Value->Bool×Nat×Nat->Prop}{w:World}{v:Value}{Q:Q6}(h:dZ R w v Q)(hR:∀x q,R w x q->∃r:bJ,x=r.v):∃t:bH,v=t.v∧R w t.a.v Q.a∧R w t.b.v Q.b∧R w t.c.v Q.c∧R w t.d.v Q.d∧R w t.e.v Q.e∧R w t.f.v Q.f:=by
 obtain⟨c0,c1,c2,c3,c4,c5,c6,c7,c8,c9,c10,c11,c12,c13,c14,c15,c16,c17,c18,c19,c20,c21,UW,c23,rfl,h0,h1,h2,h3,h4,h5⟩:=h;obtain⟨r0,e0⟩:=hR _ _ h0;simp only[bJ.v,aBC,aBD,aAp,and_true]at e0;obtain⟨rfl,rfl,rfl,rfl⟩:=e0;obtain⟨r1,e1⟩:=hR _ _ h1;simp only[bJ.v,aBC,aBD,aAp,and_true]at e1;obtain⟨rfl,rfl,rfl,rfl⟩:=e1;obtain⟨r2,e2⟩:=hR _ _ h2;simp only[bJ.v,aBC,aBD,aAp,and_true]at e2;obtain⟨rfl,rfl,rfl,rfl⟩:=e2;obtain⟨r3,e3⟩:=hR _ _ h3;simp only[bJ.v,aBC,aBD,aAp,and_true]at e3;obtain⟨rfl,rfl,rfl,rfl⟩:=e3;obtain⟨r4,e4⟩:=hR _ _ h4;simp only[bJ.v,aBC,aBD,aAp,and_true]at e4;obtain⟨rfl,rfl,rfl,rfl⟩:=e4;obtain⟨r5,e5⟩:=hR _ _ h5;simp only[bJ.v,aBC,aBD,aAp,and_true]at e5;obtain⟨rfl,rfl,rfl,rfl⟩:=e5;exact⟨⟨r0,r1,r2,r3,r4,r5⟩,I,h0,h1,h2,h3,h4,h5⟩
theorem dZ.sQ{K:Nat}{w:World}{v:Value}{Q:Q6}(h:mF K w v Q):∃t:bH,v=t.v∧eX K w t.a.v Q.a∧eX K w t.b.v Q.b∧eX K w t.c.v Q.c∧eX K w t.d.v Q.d∧eX K w t.e.v Q.e∧eX K w t.f.v Q.f:=h.ac0 λ_ _ k=>k.iM
theorem dZ.sT{base:Nat}{w:World}{v:Value}{Q:Q6}(h:su base w v Q):∃t:bH,v=t.v∧dP base w t.a.v Q.a∧dP base w t.b.v Q.b∧dP base w t.c.v Q.c∧dP base w t.d.v Q.d∧dP base w t.e.v Q.e∧dP base w t.f.v Q.f:=h.ac0 λ_ _ k=>aA.iM k
theorem dZ.of{R:World->Value->Bool×Nat×Nat->Prop}{w:World}{t:bH}{Q:Q6}(h0:R w t.a.v Q.a)(h1:R w t.b.v Q.b)(h2:R w t.c.v Q.c)(h3:R w t.d.v Q.d)(h4:R w t.e.v Q.e)(h5:R w t.f.v Q.f):dZ R w t.v Q:=
 ⟨_,_,_,_,_,_,_,_,_,_,_,_,_,_,_,_,_,_,_,_,_,_,_,_,I,h0,h1,h2,h3,h4,h5⟩
theorem dZ.inv{R:World->Value->Bool×Nat×Nat->Prop}{w:World}{t:bH}{Q:Q6}(h:dZ R w t.v Q):R w t.a.v Q.a∧R w t.b.v Q.b∧R w t.c.v Q.c∧R w t.d.v Q.d∧R w t.e.v Q.e∧R w t.f.v Q.f:=by
 obtain⟨c0,c1,c2,c3,c4,c5,c6,c7,c8,c9,c10,c11,c12,c13,c14,c15,c16,c17,c18,c19,c20,c21,UW,c23,e,h0,h1,h2,h3,h4,h5⟩:=h;simp only[bH.v,bH.cells,bJ.cells,aBe,aAR,aBC,aBD,aAp,and_true]at e;obtain⟨rfl,rfl,rfl,rfl,rfl,rfl,rfl,rfl,rfl,rfl,rfl,rfl,rfl,rfl,rfl,rfl,rfl,rfl,rfl,rfl,rfl,rfl,rfl,rfl⟩:=e;exact⟨h0,h1,h2,h3,h4,h5⟩
theorem dZ.pa{R:World->Value->Bool×Nat×Nat->Prop}{w:World}{t:bH}{Q:Q6}(h:dZ R w t.v Q):R w t.a.v Q.a:=h.inv.1
theorem dZ.pb{R:World->Value->Bool×Nat×Nat->Prop}{w:World}{t:bH}{Q:Q6}(h:dZ R w t.v Q):R w t.b.v Q.b:=h.inv.2.1
theorem dZ.pc{R:World->Value->Bool×Nat×Nat->Prop}{w:World}{t:bH}{Q:Q6}(h:dZ R w t.v Q):R w t.c.v Q.c:=h.inv.2.2.1
theorem dZ.pd{R:World->Value->Bool×Nat×Nat->Prop}{w:World}{t:bH}{Q:Q6}(h:dZ R w t.v Q):R w t.d.v Q.d:=h.inv.2.2.2.1
theorem dZ.pe{R:World->Value->Bool×Nat×Nat->Prop}{w:World}{t:bH}{Q:Q6}(h:dZ R w t.v Q):R w t.e.v Q.e:=h.inv.2.2.2.2.1
theorem dZ.pf{R:World->Value->Bool×Nat×Nat->Prop}{w:World}{t:bH}{Q:Q6}(h:dZ R w t.v Q):R w t.f.v Q.f:=h.inv.2.2.2.2.2
theorem dZ.dY{base:Nat}{w w':World}{v:Value}{Q:Q6}{b:Nat}{A:Array Value}(h:su base w v Q)(hc:Ch b w w')(hx:Bx w b A)(hA:A.toList.all BG=true:=by rfl):su base w' v Q:=h.mono λ_ _ k=>aA.dY k hc hx hA
end
section
open Go.RowKit
theorem eqPt(x y p q:Int)(w:World):(binOp .eql 130 (.agg #[.i x,.i y]) (.agg #[.i p,.i q])).run prog w = .ok (.bool ((x==p)&&(y==q))) w:=by
 simp[go_sem];(repeat' split)<;>simp_all
theorem ajL(x y p q:Int)(w:World):(binOp .neq 130 (.agg #[.i x,.i y]) (.agg #[.i p,.i q])).run prog w = .ok (.bool (!((x==p)&&(y==q)))) w:=by
 simp[go_sem];(repeat' split)<;>simp_all
theorem aib(a b c d e f g h:Int)(w:World):(binOp .eql 178 (.agg #[.u a,.u b,.u c,.u d]) (.agg #[.u e,.u f,.u g,.u h])).run prog w = .ok (.bool ((a==e)&&((b==f)&&((c==g)&&(d==h))))) w:=by
 simp[go_sem];(repeat' split)<;>simp_all
theorem aia(a b c d e f g h:Int)(w:World):(binOp .neq 178 (.agg #[.u a,.u b,.u c,.u d]) (.agg #[.u e,.u f,.u g,.u h])).run prog w = .ok (.bool (!((a==e)&&((b==f)&&((c==g)&&(d==h)))))) w:=by
 simp[go_sem];(repeat' split)<;>simp_all
theorem ab6(a b c d e f g h:Int)(w:World):(binOp .eql 40 (.agg #[.u a,.u b,.u c,.u d]) (.agg #[.u e,.u f,.u g,.u h])).run prog w = .ok (.bool ((a==e)&&((b==f)&&((c==g)&&(d==h))))) w:=by
 simp[go_sem];(repeat' split)<;>simp_all
theorem abZ(o a b c d p e f g h:Int)(w:World):(binOp .neq 202 (.agg #[.i o,.u a,.u b,.u c,.u d]) (.agg #[.i p,.u e,.u f,.u g,.u h])).run prog w = .ok (.bool (!((o==p)&&((a==e)&&((b==f)&&((c==g)&&(d==h))))))) w:=by
 simp[go_sem];(repeat' split)<;>simp_all
theorem ah9(v a b c d e f v' a' b' c' d' e' f':Int)(w:World):(binOp .neq 163 (.agg #[.i v,.i a,.i b,.i c,.i d,.i e,.i f]) (.agg #[.i v',.i a',.i b',.i c',.i d',.i e',.i f'])).run prog w =
  .ok (.bool (!((v==v')&&((a==a')&&((b==b')&&((c==c')&&((d==d')&&((e==e')&&(f==f'))))))))) w:=by
 simp[go_sem];(repeat' split)<;>simp_all
end
section
open Go.RowKit
variable{α:Type}
def gU(n lo hi:Int):Int:=if n<lo then lo else if hi<n then hi else n
theorem Q7(x y:Int):((gU x (-1048576) 1048576==x)&&(gU y (-1048576) 1048576==y))=jW.valid ⟨x,y⟩:=by
 have h:∀z:Int,(gU z (-1048576) 1048576==z)=cok z:=by
  intro z;rw[aA9];unfold gU cok;simp only[az4,az7,az6];(repeat' split)<;>omega
 rw[h,h]; rfl
theorem aan(n lo hi:Int)(w:World) :
  Calls prog 335 #[.i n,.i lo,.i hi] w λe w'=>e = .returned (.i (gU n lo hi))∧w=w':=by
 skip;refine azp func335 ntmps335 λS=>azm S (decide (n<lo)) (λhc4 S=>?_) (λhc4 S=>?_)
 .have p0:=hc4;try simp only[az6,aAt,az4,aAh,ne_eq,bne_iff_ne,bne_eq_false_iff_eq]at p0
  refine apB S (.i lo) (λS=>?_);exact⟨jw (by unfold gU; (repeat' split)<;>omega),I⟩
 refine azm S (decide (hi<n)) (λnJ S=>?_) (λnJ S=>?_)
 .have p0:=hc4;try simp only[az6,aAt,az4,aAh,ne_eq,bne_iff_ne,bne_eq_false_iff_eq]at p0
  have p1:=nJ;try simp only[az6,aAt,az4,aAh,ne_eq,bne_iff_ne,bne_eq_false_iff_eq]at p1
  refine apB S (.i hi) (λS=>?_);exact⟨jw (by unfold gU; (repeat' split)<;>omega),I⟩
 have p0:=hc4;try simp only[az6,aAt,az4,aAh,ne_eq,bne_iff_ne,bne_eq_false_iff_eq]at p0
 have p1:=nJ;try simp only[az6,aAt,az4,aAh,ne_eq,bne_iff_ne,bne_eq_false_iff_eq]at p1
 refine apB S (.i n) (λS=>?_);exact⟨jw (by unfold gU; (repeat' split)<;>omega),I⟩
theorem Q8(n:Int)(w:World) :
  Calls prog 334 #[.i n] w λe w'=>e = .returned (.i (gU n (-1048576) 1048576))∧w=w':=by
 skip;refine azp func334 ntmps334 λS=>Sx.lQ S (aan (n) (-1048576) (1048576) _) λS=>apB S (.i (gU n (-1048576) (1048576))) (λS=>?_);exact⟨I,I⟩
theorem ac1(x y:Int)(w:World) :
  Calls prog 330 #[.agg #[.i x,.i y]] w λe w'=>e = .returned (.agg #[.i (gU x (-1048576) 1048576),.i (gU y (-1048576) 1048576)])∧Ext w w':=by
 skip;refine azp func330 ntmps330 λS=>azo S λu b2 E3 hb4 S=>azo S λu b5 E6 hb7 S=>azD S 9 [.mem 1 0,.mem 1 1] [(_,_,true,.i (gU x (-1048576) 1048576)),(_,_,true,.i (gU y (-1048576) 1048576))] [(12,.agg #[.i (gU x (-1048576) 1048576),.i (gU y (-1048576) 1048576)])] ⟨λu hC g=>azL (Q8 x _),λu hC g=>azL (Q8 y _),G⟩ λu Qj S=>azq S 0 I λu Yo S=>azC S 0 I (v := .agg #[.i (gU x (-1048576) 1048576),.i (gU y (-1048576) 1048576)]) (λS=>?_);exact⟨I,S.E⟩
theorem lC(x y:Int)(w:World) :
  Calls prog 301 #[.agg #[.i x,.i y]] w λe w'=>e = .returned (.bool (jW.valid ⟨x,y⟩))∧Ext w w':=by
 skip;refine azp func301 ntmps301 λS=>azo S λu b2 E3 hb4 S=>azD S 4 [.mem 0 0,.mem 0 0,.cmp .eql 130 (.tmp 4) (.tmp 5) (.agg #[.i (gU x (-1048576) 1048576),.i (gU y (-1048576) 1048576)]) (.agg #[.i x,.i y]) (.bool (((gU x (-1048576) 1048576)==x)&&((gU y (-1048576) 1048576)==y)))] [(_,_,true,.agg #[.i (gU x (-1048576) 1048576),.i (gU y (-1048576) 1048576)])] [(6,.bool (((gU x (-1048576) 1048576)==x)&&((gU y (-1048576) 1048576)==y)))] ⟨λu hC g=>ac1 x y _,G⟩ (hk:=⟨aAP (λ_=>eqPt ..) X,G⟩) λu E6 S=>apB S (.bool (((gU x (-1048576) 1048576)==x)&&((gU y (-1048576) 1048576)==y))) (λS=>?_);exact⟨by rw[<-Q7],S.E⟩
theorem xY(v:Int)(w:World) :
  Calls prog 269 #[.i v] w λe w'=>e = .returned (.i (named v))∧w=w':=by
 skip;refine azp func269 ntmps269 λS=>azm S ((v)==4) (λhc13 S=>?_) (λhc13 S=>?_)
 .have p0:=hc13;try simp only[az6,aAt,az4,aAh,ne_eq,bne_iff_ne,bne_eq_false_iff_eq]at p0
  refine apB S (.i 3) (λS=>?_);exact⟨jw (by unfold named; (repeat' split)<;>omega),I⟩
 refine azm S ((v)==3) (λhc18 S=>?_) (λhc18 S=>?_)
 .have p0:=hc13;try simp only[az6,aAt,az4,aAh,ne_eq,bne_iff_ne,bne_eq_false_iff_eq]at p0
  have p1:=hc18;try simp only[az6,aAt,az4,aAh,ne_eq,bne_iff_ne,bne_eq_false_iff_eq]at p1
  refine apB S (.i 2) (λS=>?_);exact⟨jw (by unfold named; (repeat' split)<;>omega),I⟩
 refine azm S ((v)==1) (λhc24 S=>?_) (λhc24 S=>?_)
 .refine azm S ((v)==1) (λhc25 S=>?_) (λhc25 S=>?_)
  .have p0:=hc13;try simp only[az6,aAt,az4,aAh,ne_eq,bne_iff_ne,bne_eq_false_iff_eq]at p0
   have p1:=hc18;try simp only[az6,aAt,az4,aAh,ne_eq,bne_iff_ne,bne_eq_false_iff_eq]at p1
   have p2:=hc24;try simp only[az6,aAt,az4,aAh,ne_eq,bne_iff_ne,bne_eq_false_iff_eq]at p2
   refine apB S (.i 1) (λS=>?_);exact⟨jw (by unfold named; (repeat' split)<;>omega),I⟩
  rw[hc24]at hc25; cases hc25
 refine azm S ((v)==2) (λhc28 S=>?_) (λhc28 S=>?_)
 .have p0:=hc13;try simp only[az6,aAt,az4,aAh,ne_eq,bne_iff_ne,bne_eq_false_iff_eq]at p0
  have p1:=hc18;try simp only[az6,aAt,az4,aAh,ne_eq,bne_iff_ne,bne_eq_false_iff_eq]at p1
  have p2:=hc24;try simp only[az6,aAt,az4,aAh,ne_eq,bne_iff_ne,bne_eq_false_iff_eq]at p2
  have p3:=hc28;try simp only[az6,aAt,az4,aAh,ne_eq,bne_iff_ne,bne_eq_false_iff_eq]at p3
  refine apB S (.i 1) (λS=>?_);exact⟨jw (by unfold named; (repeat' split)<;>omega),I⟩
 refine azm S ((v)==5) (λhc32 S=>?_) (λhc32 S=>?_)
 .have p0:=hc13;try simp only[az6,aAt,az4,aAh,ne_eq,bne_iff_ne,bne_eq_false_iff_eq]at p0
  have p1:=hc18;try simp only[az6,aAt,az4,aAh,ne_eq,bne_iff_ne,bne_eq_false_iff_eq]at p1
  have p2:=hc24;try simp only[az6,aAt,az4,aAh,ne_eq,bne_iff_ne,bne_eq_false_iff_eq]at p2
  have p3:=hc28;try simp only[az6,aAt,az4,aAh,ne_eq,bne_iff_ne,bne_eq_false_iff_eq]at p3
  have p4:=hc32;try simp only[az6,aAt,az4,aAh,ne_eq,bne_iff_ne,bne_eq_false_iff_eq]at p4
  refine apB S (.i 0) (λS=>?_);exact⟨jw (by unfold named; (repeat' split)<;>omega),I⟩
 have p0:=hc13;try simp only[az6,aAt,az4,aAh,ne_eq,bne_iff_ne,bne_eq_false_iff_eq]at p0
 have p1:=hc18;try simp only[az6,aAt,az4,aAh,ne_eq,bne_iff_ne,bne_eq_false_iff_eq]at p1
 have p2:=hc24;try simp only[az6,aAt,az4,aAh,ne_eq,bne_iff_ne,bne_eq_false_iff_eq]at p2
 have p3:=hc28;try simp only[az6,aAt,az4,aAh,ne_eq,bne_iff_ne,bne_eq_false_iff_eq]at p3
 have p4:=hc32;try simp only[az6,aAt,az4,aAh,ne_eq,bne_iff_ne,bne_eq_false_iff_eq]at p4
 refine apB S (.i (-1)) (λS=>?_);exact⟨jw (by unfold named; (repeat' split)<;>omega),I⟩
theorem fits_any(s:dN)(w:World) :
  Calls prog 270 #[.agg #[.i s.verb,.i s.a.x,.i s.a.y,.i s.b.x,.i s.b.y,.i s.c.x,.i s.c.y]] w λe w'=>e = .returned (.bool s.fits)∧Ext w w':=by
 skip;refine azp func270 ntmps270 λS=>azo S λu b2 E3 hb4 S=>adr S 7 [] [.mem 0 1,.mem 0 3,.mem 0 5] λS=>azo S λu b7 E8 hb9 S=>Sx.zun S 3 λS=>azy S λS=>adr S 3 [] [.mem 0 0] λS=>azo S λu b14 E15 hb16 S=>azq S 0 I λu J3 S=>adr S 1 [] [.mem 0 0] λS=>azB S (lC (s.a.x) (s.a.y) _) λu KU S=>aAQ S 13 [.mem 2 0,.mem 0 0,.cmp .neq 130 (.tmp 28) (.tmp 29) (.agg #[.i s.a.x,.i s.a.y]) (.agg #[.i 0,.i 0]) (.bool (!((s.a.x==0)&&(s.a.y==0))))] [(_,_,(!(!(jW.valid ⟨s.a.x,s.a.y⟩))),.i (named s.verb))] [(32,.bool ((!(jW.valid ⟨s.a.x,s.a.y⟩))||((decide ((named s.verb)<=0))&&(!((s.a.x==0)&&(s.a.y==0))))))] ⟨λu hC g=>azL (xY (s.verb) _),G⟩ (hk:=⟨aAP (λ_=>ajL ..) X,G⟩) λu yN S=>azm S ((!(jW.valid ⟨s.a.x,s.a.y⟩))||((decide ((named s.verb)<=0))&&(!((s.a.x==0)&&(s.a.y==0))))) (λhc21 S=>?_) (λhc21 S=>?_)
 .have g0:vH s.verb 0 s.a=false:=by
   have hh:=hc21;show(jW.valid ⟨s.a.x,s.a.y⟩ && !(decide (named s.verb<=0) && !((s.a.x==0)&&(s.a.y==0))))=_;revert hh;cases jW.valid ⟨s.a.x,s.a.y⟩<;>cases decide (named s.verb<=0)<;>cases ((s.a.x==0)&&(s.a.y==0))<;>simp
  refine apB S (.z) (λS=>?_);exact⟨by rw[show s.fits=false from by simp[dN.fits,g0]],S.E⟩
 refine azy S λS=>adr S 3 [] [.mem 1 2] λS=>azo S λu b27 E28 JQ S=>azq S 0 I λu JO S=>adr S 1 [] [.mem 0 0] λS=>azB S (lC (s.b.x) (s.b.y) _) λu NW S=>aAQ S 13 [.mem 3 0,.mem 0 0,.cmp .neq 130 (.tmp 28) (.tmp 29) (.agg #[.i s.b.x,.i s.b.y]) (.agg #[.i 0,.i 0]) (.bool (!((s.b.x==0)&&(s.b.y==0))))] [(_,_,(!(!(jW.valid ⟨s.b.x,s.b.y⟩))),.i (named s.verb))] [(32,.bool ((!(jW.valid ⟨s.b.x,s.b.y⟩))||((decide ((named s.verb)<=1))&&(!((s.b.x==0)&&(s.b.y==0))))))] ⟨λu hC g=>azL (xY (s.verb) _),G⟩ (hk:=⟨aAP (λ_=>ajL ..) X,G⟩) λu E33 S=>azm S ((!(jW.valid ⟨s.b.x,s.b.y⟩))||((decide ((named s.verb)<=1))&&(!((s.b.x==0)&&(s.b.y==0))))) (λhc34 S=>?_) (λhc34 S=>?_)
 .have g0:vH s.verb 0 s.a=true:=by
   have hh:=hc21;show(jW.valid ⟨s.a.x,s.a.y⟩ && !(decide (named s.verb<=0) && !((s.a.x==0)&&(s.a.y==0))))=_;revert hh;cases jW.valid ⟨s.a.x,s.a.y⟩<;>cases decide (named s.verb<=0)<;>cases ((s.a.x==0)&&(s.a.y==0))<;>simp
  have g1:vH s.verb 1 s.b=false:=by
   have hh:=hc34;show(jW.valid ⟨s.b.x,s.b.y⟩ && !(decide (named s.verb<=1) && !((s.b.x==0)&&(s.b.y==0))))=_;revert hh;cases jW.valid ⟨s.b.x,s.b.y⟩<;>cases decide (named s.verb<=1)<;>cases ((s.b.x==0)&&(s.b.y==0))<;>simp
  refine apB S (.z) (λS=>?_);exact⟨by rw[show s.fits=false from by simp[dN.fits,g0,g1]],S.E⟩
 refine azy S λS=>adr S 3 [] [.mem 2 4] λS=>azo S λu b40 Qn ajM S=>azq S 0 I λu C43 S=>adr S 1 [] [.mem 0 0] λS=>azB S (lC (s.c.x) (s.c.y) _) λu E45 S=>aAQ S 13 [.mem 4 0,.mem 0 0,.cmp .neq 130 (.tmp 28) (.tmp 29) (.agg #[.i s.c.x,.i s.c.y]) (.agg #[.i 0,.i 0]) (.bool (!((s.c.x==0)&&(s.c.y==0))))] [(_,_,(!(!(jW.valid ⟨s.c.x,s.c.y⟩))),.i (named s.verb))] [(32,.bool ((!(jW.valid ⟨s.c.x,s.c.y⟩))||((decide ((named s.verb)<=2))&&(!((s.c.x==0)&&(s.c.y==0))))))] ⟨λu hC g=>azL (xY (s.verb) _),G⟩ (hk:=⟨aAP (λ_=>ajL ..) X,G⟩) λu E46 S=>azm S ((!(jW.valid ⟨s.c.x,s.c.y⟩))||((decide ((named s.verb)<=2))&&(!((s.c.x==0)&&(s.c.y==0))))) (λhc47 S=>?_) (λhc47 S=>?_)
 .have g0:vH s.verb 0 s.a=true:=by
   have hh:=hc21;show(jW.valid ⟨s.a.x,s.a.y⟩ && !(decide (named s.verb<=0) && !((s.a.x==0)&&(s.a.y==0))))=_;revert hh;cases jW.valid ⟨s.a.x,s.a.y⟩<;>cases decide (named s.verb<=0)<;>cases ((s.a.x==0)&&(s.a.y==0))<;>simp
  have g1:vH s.verb 1 s.b=true:=by
   have hh:=hc34;show(jW.valid ⟨s.b.x,s.b.y⟩ && !(decide (named s.verb<=1) && !((s.b.x==0)&&(s.b.y==0))))=_;revert hh;cases jW.valid ⟨s.b.x,s.b.y⟩<;>cases decide (named s.verb<=1)<;>cases ((s.b.x==0)&&(s.b.y==0))<;>simp
  have g2:vH s.verb 2 s.c=false:=by
   have hh:=hc47;show(jW.valid ⟨s.c.x,s.c.y⟩ && !(decide (named s.verb<=2) && !((s.c.x==0)&&(s.c.y==0))))=_;revert hh;cases jW.valid ⟨s.c.x,s.c.y⟩<;>cases decide (named s.verb<=2)<;>cases ((s.c.x==0)&&(s.c.y==0))<;>simp
  refine apB S (.z) (λS=>?_);exact⟨by rw[show s.fits=false from by simp[dN.fits,g0,g1,g2]],S.E⟩
 refine azE S (λS=>?_);have g0:vH s.verb 0 s.a=true:=by
  have hh:=hc21;show(jW.valid ⟨s.a.x,s.a.y⟩ && !(decide (named s.verb<=0) && !((s.a.x==0)&&(s.a.y==0))))=_;revert hh;cases jW.valid ⟨s.a.x,s.a.y⟩<;>cases decide (named s.verb<=0)<;>cases ((s.a.x==0)&&(s.a.y==0))<;>simp
 have g1:vH s.verb 1 s.b=true:=by
  have hh:=hc34;show(jW.valid ⟨s.b.x,s.b.y⟩ && !(decide (named s.verb<=1) && !((s.b.x==0)&&(s.b.y==0))))=_;revert hh;cases jW.valid ⟨s.b.x,s.b.y⟩<;>cases decide (named s.verb<=1)<;>cases ((s.b.x==0)&&(s.b.y==0))<;>simp
 have g2:vH s.verb 2 s.c=true:=by
  have hh:=hc47;show(jW.valid ⟨s.c.x,s.c.y⟩ && !(decide (named s.verb<=2) && !((s.c.x==0)&&(s.c.y==0))))=_;revert hh;cases jW.valid ⟨s.c.x,s.c.y⟩<;>cases decide (named s.verb<=2)<;>cases ((s.c.x==0)&&(s.c.y==0))<;>simp
 refine apB S (.bool true) (λS=>?_);exact⟨by rw[show s.fits=true from by simp[dN.fits,g0,g1,g2]],S.E⟩
open Go.RowKit
variable{α:Type}
variable{x:dN}{last:Int}{w:World}{v:Value}{l:List dN}
theorem ac2(h:decide (named x.verb<0)=true):x.err last=2:=azQ (az9 h)
theorem aao(h:decide (named x.verb<0)=false)(h1:(!x.stands last)=true):x.err last=10:=by
 unfold dN.err; rw[azP (aAd h),azQ (by simpa using h1)]
theorem ac3(h:decide (named x.verb<0)=false)(h1:(!x.stands last)=false)(h2:(!x.fits)=true):x.err last=6:=by
 unfold dN.err; rw[azP (aAd h),azP (by simpa using h1),azQ (by simpa using h2)]
theorem ac4(h:decide (named x.verb<0)=false)(h1:(!x.stands last)=false)(h2:(!x.fits)=false):x.err last=0:=by
 unfold dN.err; rw[azP (aAd h),azP (by simpa using h1),azP (by simpa using h2)]
theorem J5(h:wK w v l) :
  Calls prog 231 #[v] w λe w'=>e = .returned (.tuple #[.i (ig l).1,.i (ig l).2])∧Ext w w':=by
 obtain⟨a,cap,rfl⟩:=h.1.shape;have hmax:l.length<=9223372036854775807:=h.1.len;refine azp func231 ntmps231 λS=>azm S (decide (256<(l.length:Int))) (λhc4 S=>?_) (λhc4 S=>?_)
 .have p0:256<(l.length:Int):=az9 hc4;refine Sx.Qo S (.i 5) (.i 256) (λS=>?_);have e:ig l=(5,256):=by unfold ig; rw[azQ p0]
  exact⟨by rw[e],S.E⟩
 refine azI S (ι:=Nat×Int) (λp a' w'=>p.1<=l.length∧(rE 5 0 l=rE p.2 (p.1:Int) (l.drop p.1))∧Sx.St w a' w' 52 [(0,.slice a l.length cap),(2,.i 0),(3,.i 0),(4,.i p.2),(11,.slice a l.length cap),(12,.i l.length),(13,.i p.1)] [] []) (λp=>l.length-p.1) (0,5) (λS=>⟨azZ _,I,S.qM⟩) ?_;rintro⟨k,last⟩ ac u gQ eu hI;try dsimp only at hI
 obtain⟨hk,hR,S⟩:=hI;refine azJ S λS=>azm S (decide ((k:Int)<(l.length:Int))) (λgV S=>?_) (λgV S=>?_)
 .have nX:k<l.length:=by have:=az9 gV; omega
  obtain⟨b14,o15,rfl,x20,uo,vY,Nv⟩:=aAo h.1 (λ_=>I) (k) nX;have S:=S.view0 vY Nv;refine adr S 3 [] [.idx k l.length,.mem 0 0] (hk:=⟨nX,G⟩) λS=>azo S λu b22 E23 ajl S=>azq S 0 I λu ZO S=>adr S 19 [] [.mem 0 0,.mem 0 0,.mem 0 0] λS=>Sx.lQ S (xY (x20.verb) _) λS=>azm S (decide ((named x20.verb)<0)) (λhc29 S=>?_) (λhc29 S=>?_)
  .have herr:x20.err last=2:=ac2 hc29;have p0:¬256<(l.length:Int):=aAd hc4;refine Sx.Qo S (.i 2) (.i k) (λS=>?_);have e:ig l=(2,(k:Int)):=by
    unfold ig;rw[azP Z,hR,aAZ nX,uo,rE,herr];rfl
   exact⟨by rw[e],S.E⟩
  refine azm S (!(((x20.verb)==1)||(((last) != 5)&&(((x20.verb) != 5)||((last) != 1))))) (λhc32 S=>?_) (λhc32 S=>?_)
  .have herr:x20.err last=10:=aao hc29 hc32;have p0:¬256<(l.length:Int):=aAd hc4;refine Sx.Qo S (.i 10) (.i k) (λS=>?_);have e:ig l=(10,(k:Int)):=by
    unfold ig;rw[azP Z,hR,aAZ nX,uo,rE,herr];rfl
   exact⟨by rw[e],S.E⟩
  refine adr S 1 [] [.mem 0 0] λS=>azB S (fits_any x20 _) λu J4 S=>azm S (!x20.fits) (λqp S=>?_) (λqp S=>?_)
  .have herr:x20.err last=6:=ac3 hc29 hc32 qp;have p0:¬256<(l.length:Int):=aAd hc4;refine Sx.Qo S (.i 6) (.i k) (λS=>?_);have e:ig l=(6,(k:Int)):=by
    unfold ig;rw[azP Z,hR,aAZ nX,uo,rE,herr];rfl
   exact⟨by rw[e],S.E⟩
  refine adr S 5 [] [.mem 0 0,.re 51 (.i (IntKind.i64.wrap ((k:Int)+1))) (.i (k+1:Nat))] (hk:=⟨azA Z,G⟩) λS=>azG S gQ (λS=>?_);have herr:x20.err last=0:=ac4 hc29 hc32 qp;rw[aAZ nX,uo,rE,azQ herr]at hR;exact eu _ _ ((k+1),x20.verb) ⟨Z,hR,(S.gW 1).qM⟩ (by show _-_<_-_; omega)
 have p0:¬256<(l.length:Int):=aAd hc4;have p1:¬(k:Int)<(l.length:Int):=aAd gV;refine Sx.Qo S (.i 0) (.i 0) (λS=>?_);have e:ig l=(0,0):=by
  unfold ig;rw[azP Z,hR,aA7 Z];rfl
 exact⟨by rw[e],S.E⟩
theorem y7(h:wK w v l) :
  Calls prog 191 #[v] w λe w'=>e = .returned (.bool (jS l))∧Ext w w':=by
 skip;refine azp func191 ntmps191 λS=>azB S (J5 (h.below S.E)) λu E3 S=>apB S (.bool (((ig l).1)==0)) (λS=>?_);exact⟨I,S.E⟩
