/- Transforms by value: six rational numbers. No program in -/
import Derived.Test.YtodpgjjgaddkeaaGreatDoorPk11
set_option maxHeartbeats 1600000
set_option maxRecDepth 100000
set_option linter.unusedVariables false
set_option linter.unusedSimpArgs false
namespace Go.Proofs.YtodpgjjgaddkeaaGreatDoor
open _root_.Go.Proofs.Tryz
section
open Go.RowKit
variable{α:Type}
structure Q6 where
 a:Bool×Nat×Nat
 b:Bool×Nat×Nat
 c:Bool×Nat×Nat
 d:Bool×Nat×Nat
 e:Bool×Nat×Nat
 f:Bool×Nat×Nat
def dY(R:World→Value→Bool×Nat×Nat→Prop)(w:World)(v:Value)(Q:Q6):Prop:=
 ∃c0 c1 c2 c3 c4 c5 c6 c7 c8 c9 c10 c11 c12 c13 c14 c15 c16 c17 c18 c19 c20 c21 Uy c23:Value,v = .agg #[c0,c1,c2,c3,c4,c5,c6,c7,c8,c9,c10,c11,c12,c13,c14,c15,c16,c17,c18,c19,c20,c21,Uy,c23]∧R w (.agg #[c0,c1,c2,c3]) Q.a∧R w (.agg #[c4,c5,c6,c7]) Q.b∧R w (.agg #[c8,c9,c10,c11]) Q.c∧R w (.agg #[c12,c13,c14,c15]) Q.d∧R w (.agg #[c16,c17,c18,c19]) Q.e∧R w (.agg #[c20,c21,Uy,c23]) Q.f
abbrev lZ (K:Nat):World→Value→Q6→Prop:=dY (eP K)
abbrev rY (base:Nat):World→Value→Q6→Prop:=dY (dO base)
theorem dY.mono{R R':World→Value→Bool×Nat×Nat→Prop}{w w':World}{v:Value}{Q:Q6}(h:dY R w v Q)(hR:∀x q,R w x q→R' w' x q):dY R' w' v Q:=by
 obtain⟨c0,c1,c2,c3,c4,c5,c6,c7,c8,c9,c10,c11,c12,c13,c14,c15,c16,c17,c18,c19,c20,c21,Uy,c23,hv,h0,h1,h2,h3,h4,h5⟩:=h;exact⟨c0,c1,c2,c3,c4,c5,c6,c7,c8,c9,c10,c11,c12,c13,c14,c15,c16,c17,c18,c19,c20,c21,Uy,c23,hv,hR _ _ h0,hR _ _ h1,hR _ _ h2,hR _ _ h3,hR _ _ h4,hR _ _ h5⟩
theorem dY.iJ{K:Nat}{w w':World}{v:Value}{Q:Q6}(h:lZ K w v Q)(hb:Ext w w'):lZ K w' v Q:=h.mono fun _ _ k=>k.below hb
theorem dY.sW{base:Nat}{w w':World}{v:Value}{Q:Q6}(h:rY base w v Q)(hb:Ext w w'):rY base w' v Q:=h.mono fun _ _ k=>k.ext hb
theorem dY.aij{base base':Nat}{w:World}{v:Value}{Q:Q6}(h:rY base w v Q)(hb:base'≤base):rY base' w v Q:=h.mono fun _ _ k=>aA.mono k hb
def Bc(Q:Q6):Prop:=KL Q.a∧KL Q.b∧KL Q.c∧KL Q.d∧KL Q.e∧KL Q.f
def QG(K:Nat)(Q:Q6):Prop:=qlen K Q.a∧qlen K Q.b∧qlen K Q.c∧qlen K Q.d∧qlen K Q.e∧qlen K Q.f
theorem dY.nrm{K:Nat}{w:World}{v:Value}{Q:Q6}(h:lZ K w v Q):Bc Q:=by
 obtain⟨c0,c1,c2,c3,c4,c5,c6,c7,c8,c9,c10,c11,c12,c13,c14,c15,c16,c17,c18,c19,c20,c21,Uy,c23,hv,h0,h1,h2,h3,h4,h5⟩:=h;exact⟨h0.nrm,h1.nrm,h2.nrm,h3.nrm,h4.nrm,h5.nrm⟩
theorem dY.len{K:Nat}{w:World}{v:Value}{Q:Q6}(h:lZ K w v Q)(hK:1≤K):QG K Q:=by
 obtain⟨c0,c1,c2,c3,c4,c5,c6,c7,c8,c9,c10,c11,c12,c13,c14,c15,c16,c17,c18,c19,c20,c21,Uy,c23,hv,h0,h1,h2,h3,h4,h5⟩:=h;exact⟨h0.len hK,h1.len hK,h2.len hK,h3.len hK,h4.len hK,h5.len hK⟩
def bG.q(t:bG):Q6:=⟨t.a.q,t.b.q,t.c.q,t.d.q,t.e.q,t.f.q⟩
theorem bG.toQ{K:Nat}{w:World}{t:bG}(h:t.ok w)(hf:t.fit K):lZ K w t.v t.q:=by
 obtain⟨h0,h1,h2,h3,h4,h5⟩:=h;obtain⟨f0,f1,f2,f3,f4,f5⟩:=hf;exact⟨_,_,_,_,_,_,_,_,_,_,_,_,_,_,_,_,_,_,_,_,_,_,_,_,rfl,bI.toQ h0 f0,bI.toQ h1 f1,bI.toQ h2 f2,bI.toQ h3 f3,bI.toQ h4 f4,bI.toQ h5 f5⟩
def Q6.valid(Q:Q6):Bool:=decide (dZ Q.a≤256)&&(decide (dZ Q.b≤256)&&(decide (dZ Q.c≤256)&&(decide (dZ Q.d≤256)&&(decide (dZ Q.e≤256)&&(decide (dZ Q.f≤256))))))
def Q6.D5(Q:Q6):Bool×Nat×Nat:=JF (zi Q.a Q.d) (zi Q.b Q.c)
def Q6.eq(P Q:Q6):Bool:=pG P.a Q.a&&(pG P.b Q.b&&(pG P.c Q.c&&(pG P.d Q.d&&(pG P.e Q.e&&(pG P.f Q.f)))))
open Go.RowKit
variable{α:Type}
def qI:Q6:=⟨(false,1,1),(false,0,1),(false,0,1),(false,1,1),(false,0,1),(false,0,1)⟩
open Go.RowKit
variable{α:Type}
theorem eP.iK{K:Nat}{w:World}{v:Value}{q:Bool×Nat×Nat}(h:eP K w v q):∃r:bI,v=r.v:=by
 obtain⟨n1,s1,l1,n2,s2,l2,rfl,h1,h2,_⟩:=h;obtain⟨a1,c1,rfl,_⟩:=h1;obtain⟨a2,c2,rfl,_⟩:=h2;exact⟨⟨n1,a1,c1,l1,n2,a2,c2,l2⟩,rfl⟩
theorem aA.iK{base:Nat}{w:World}{v:Value}{neg:Bool}{a b:Nat}(h:aA base w v neg a b):∃r:bI,v=r.v:=by
 obtain⟨s,t,rfl,hs,ht,_⟩:=h;obtain⟨a1,c1,rfl,_⟩:=hs;obtain⟨a2,c2,rfl,_⟩:=ht;exact⟨⟨_,a1,c1,_,_,a2,c2,_⟩,rfl⟩
theorem dY.acL{R:World→Value→Bool×Nat×Nat→Prop}{w:World}{v:Value}{Q:Q6}(h:dY R w v Q)(hR:∀x q,R w x q→∃r:bI,x=r.v):∃t:bG,v=t.v∧R w t.a.v Q.a∧R w t.b.v Q.b∧R w t.c.v Q.c∧R w t.d.v Q.d∧R w t.e.v Q.e∧R w t.f.v Q.f:=by
 obtain⟨c0,c1,c2,c3,c4,c5,c6,c7,c8,c9,c10,c11,c12,c13,c14,c15,c16,c17,c18,c19,c20,c21,Uy,c23,rfl,h0,h1,h2,h3,h4,h5⟩:=h;obtain⟨r0,e0⟩:=hR _ _ h0;simp only[bI.v,aBq,aBr,aAf,and_true]at e0;obtain⟨rfl,rfl,rfl,rfl⟩:=e0;obtain⟨r1,e1⟩:=hR _ _ h1;simp only[bI.v,aBq,aBr,aAf,and_true]at e1;obtain⟨rfl,rfl,rfl,rfl⟩:=e1;obtain⟨r2,e2⟩:=hR _ _ h2;simp only[bI.v,aBq,aBr,aAf,and_true]at e2;obtain⟨rfl,rfl,rfl,rfl⟩:=e2;obtain⟨r3,e3⟩:=hR _ _ h3;simp only[bI.v,aBq,aBr,aAf,and_true]at e3;obtain⟨rfl,rfl,rfl,rfl⟩:=e3;obtain⟨r4,e4⟩:=hR _ _ h4;simp only[bI.v,aBq,aBr,aAf,and_true]at e4;obtain⟨rfl,rfl,rfl,rfl⟩:=e4;obtain⟨r5,e5⟩:=hR _ _ h5;simp only[bI.v,aBq,aBr,aAf,and_true]at e5;obtain⟨rfl,rfl,rfl,rfl⟩:=e5;exact⟨⟨r0,r1,r2,r3,r4,r5⟩,rfl,h0,h1,h2,h3,h4,h5⟩
theorem dY.sQ{K:Nat}{w:World}{v:Value}{Q:Q6}(h:lZ K w v Q):∃t:bG,v=t.v∧eP K w t.a.v Q.a∧eP K w t.b.v Q.b∧eP K w t.c.v Q.c∧eP K w t.d.v Q.d∧eP K w t.e.v Q.e∧eP K w t.f.v Q.f:=h.acL fun _ _ k=>k.iK
theorem dY.sT{base:Nat}{w:World}{v:Value}{Q:Q6}(h:rY base w v Q):∃t:bG,v=t.v∧dO base w t.a.v Q.a∧dO base w t.b.v Q.b∧dO base w t.c.v Q.c∧dO base w t.d.v Q.d∧dO base w t.e.v Q.e∧dO base w t.f.v Q.f:=h.acL fun _ _ k=>aA.iK k
theorem dY.of{R:World→Value→Bool×Nat×Nat→Prop}{w:World}{t:bG}{Q:Q6}(h0:R w t.a.v Q.a)(h1:R w t.b.v Q.b)(h2:R w t.c.v Q.c)(h3:R w t.d.v Q.d)(h4:R w t.e.v Q.e)(h5:R w t.f.v Q.f):dY R w t.v Q:=
 ⟨_,_,_,_,_,_,_,_,_,_,_,_,_,_,_,_,_,_,_,_,_,_,_,_,rfl,h0,h1,h2,h3,h4,h5⟩
theorem dY.inv{R:World→Value→Bool×Nat×Nat→Prop}{w:World}{t:bG}{Q:Q6}(h:dY R w t.v Q):R w t.a.v Q.a∧R w t.b.v Q.b∧R w t.c.v Q.c∧R w t.d.v Q.d∧R w t.e.v Q.e∧R w t.f.v Q.f:=by
 obtain⟨c0,c1,c2,c3,c4,c5,c6,c7,c8,c9,c10,c11,c12,c13,c14,c15,c16,c17,c18,c19,c20,c21,Uy,c23,e,h0,h1,h2,h3,h4,h5⟩:=h;simp only[bG.v,bG.cells,bI.cells,aA0,aAH,aBq,aBr,aAf,and_true]at e;obtain⟨rfl,rfl,rfl,rfl,rfl,rfl,rfl,rfl,rfl,rfl,rfl,rfl,rfl,rfl,rfl,rfl,rfl,rfl,rfl,rfl,rfl,rfl,rfl,rfl⟩:=e;exact⟨h0,h1,h2,h3,h4,h5⟩
theorem dY.pa{R:World→Value→Bool×Nat×Nat→Prop}{w:World}{t:bG}{Q:Q6}(h:dY R w t.v Q):R w t.a.v Q.a:=h.inv.1
theorem dY.pb{R:World→Value→Bool×Nat×Nat→Prop}{w:World}{t:bG}{Q:Q6}(h:dY R w t.v Q):R w t.b.v Q.b:=h.inv.2.1
theorem dY.pc{R:World→Value→Bool×Nat×Nat→Prop}{w:World}{t:bG}{Q:Q6}(h:dY R w t.v Q):R w t.c.v Q.c:=h.inv.2.2.1
theorem dY.pd{R:World→Value→Bool×Nat×Nat→Prop}{w:World}{t:bG}{Q:Q6}(h:dY R w t.v Q):R w t.d.v Q.d:=h.inv.2.2.2.1
theorem dY.pe{R:World→Value→Bool×Nat×Nat→Prop}{w:World}{t:bG}{Q:Q6}(h:dY R w t.v Q):R w t.e.v Q.e:=h.inv.2.2.2.2.1
theorem dY.pf{R:World→Value→Bool×Nat×Nat→Prop}{w:World}{t:bG}{Q:Q6}(h:dY R w t.v Q):R w t.f.v Q.f:=h.inv.2.2.2.2.2
theorem dY.dX{base:Nat}{w w':World}{v:Value}{Q:Q6}{b:Nat}{A:Array Value}(h:rY base w v Q)(hc:Ch b w w')(hx:Bx w b A)(hA:A.toList.all AY=true:=by rfl):rY base w' v Q:=h.mono fun _ _ k=>aA.dX k hc hx hA
end
section
open Go.RowKit
theorem eqPt(x y p q:Int)(w:World):(binOp .eql 130 (.agg #[.i x,.i y]) (.agg #[.i p,.i q])).run prog w = .ok (.bool ((x==p)&&(y==q))) w:=by
 simp[go_sem];(repeat' split)<;>simp_all
theorem ajy(x y p q:Int)(w:World):(binOp .neq 130 (.agg #[.i x,.i y]) (.agg #[.i p,.i q])).run prog w = .ok (.bool (!((x==p)&&(y==q)))) w:=by
 simp[go_sem];(repeat' split)<;>simp_all
theorem ah5(a b c d e f g h:Int)(w:World):(binOp .eql 178 (.agg #[.u a,.u b,.u c,.u d]) (.agg #[.u e,.u f,.u g,.u h])).run prog w = .ok (.bool ((a==e)&&((b==f)&&((c==g)&&(d==h))))) w:=by
 simp[go_sem];(repeat' split)<;>simp_all
theorem ah4(a b c d e f g h:Int)(w:World):(binOp .neq 178 (.agg #[.u a,.u b,.u c,.u d]) (.agg #[.u e,.u f,.u g,.u h])).run prog w = .ok (.bool (!((a==e)&&((b==f)&&((c==g)&&(d==h)))))) w:=by
 simp[go_sem];(repeat' split)<;>simp_all
theorem acM(a b c d e f g h:Int)(w:World):(binOp .eql 40 (.agg #[.u a,.u b,.u c,.u d]) (.agg #[.u e,.u f,.u g,.u h])).run prog w = .ok (.bool ((a==e)&&((b==f)&&((c==g)&&(d==h))))) w:=by
 simp[go_sem];(repeat' split)<;>simp_all
theorem abT(o a b c d p e f g h:Int)(w:World):(binOp .neq 202 (.agg #[.i o,.u a,.u b,.u c,.u d]) (.agg #[.i p,.u e,.u f,.u g,.u h])).run prog w = .ok (.bool (!((o==p)&&((a==e)&&((b==f)&&((c==g)&&(d==h))))))) w:=by
 simp[go_sem];(repeat' split)<;>simp_all
theorem ah3(v a b c d e f v' a' b' c' d' e' f':Int)(w:World):(binOp .neq 163 (.agg #[.i v,.i a,.i b,.i c,.i d,.i e,.i f]) (.agg #[.i v',.i a',.i b',.i c',.i d',.i e',.i f'])).run prog w =
  .ok (.bool (!((v==v')&&((a==a')&&((b==b')&&((c==c')&&((d==d')&&((e==e')&&(f==f'))))))))) w:=by
 simp[go_sem];(repeat' split)<;>simp_all
end
section
open Go.RowKit
variable{α:Type}
def gQ(n lo hi:Int):Int:=if n<lo then lo else if hi<n then hi else n
theorem QH(x y:Int):((gQ x (-1048576) 1048576==x)&&(gQ y (-1048576) 1048576==y))=jS.valid ⟨x,y⟩:=by
 have h:∀z:Int,(gQ z (-1048576) 1048576==z)=cok z:=by
  intro z;rw[aAV];unfold gQ cok;simp only[azU,azY,azW];(repeat' split)<;>omega
 rw[h,h]; rfl
theorem Z4(n lo hi:Int)(w:World) :
  Calls prog 335 #[.i n,.i lo,.i hi] w fun e w'=>e = .returned (.i (gQ n lo hi))∧w=w':=by
 skip;refine aze func335 ntmps335 fun S=>azb S (decide (n<lo)) (fun hc4 S=>?_) (fun hc4 S=>?_)
 ·have p0:=hc4;try simp only[azW,aAk,azU,az8,ne_eq,bne_iff_ne,bne_eq_false_iff_eq]at p0
  refine ay9 S (.i lo) (fun S=>?_);exact⟨jv (by unfold gQ; (repeat' split)<;>omega),rfl⟩
 refine azb S (decide (hi<n)) (fun nJ S=>?_) (fun nJ S=>?_)
 ·have p0:=hc4;try simp only[azW,aAk,azU,az8,ne_eq,bne_iff_ne,bne_eq_false_iff_eq]at p0
  have p1:=nJ;try simp only[azW,aAk,azU,az8,ne_eq,bne_iff_ne,bne_eq_false_iff_eq]at p1
  refine ay9 S (.i hi) (fun S=>?_);exact⟨jv (by unfold gQ; (repeat' split)<;>omega),rfl⟩
 have p0:=hc4;try simp only[azW,aAk,azU,az8,ne_eq,bne_iff_ne,bne_eq_false_iff_eq]at p0
 have p1:=nJ;try simp only[azW,aAk,azU,az8,ne_eq,bne_iff_ne,bne_eq_false_iff_eq]at p1
 refine ay9 S (.i n) (fun S=>?_);exact⟨jv (by unfold gQ; (repeat' split)<;>omega),rfl⟩
theorem QI(n:Int)(w:World) :
  Calls prog 334 #[.i n] w fun e w'=>e = .returned (.i (gQ n (-1048576) 1048576))∧w=w':=by
 skip;refine aze func334 ntmps334 fun S=>Sx.lU S (Z4 (n) (-1048576) (1048576) _) fun S=>ay9 S (.i (gQ n (-1048576) (1048576))) (fun S=>?_);exact⟨rfl,rfl⟩
theorem acN(x y:Int)(w:World) :
  Calls prog 330 #[.agg #[.i x,.i y]] w fun e w'=>e = .returned (.agg #[.i (gQ x (-1048576) 1048576),.i (gQ y (-1048576) 1048576)])∧Ext w w':=by
 skip;refine aze func330 ntmps330 fun S=>azd S fun u b2 E3 hb4 S=>azd S fun u b5 E6 hb7 S=>azs S 9 [.mem 1 0,.mem 1 1] [(_,_,true,.i (gQ x (-1048576) 1048576)),(_,_,true,.i (gQ y (-1048576) 1048576))] [(12,.agg #[.i (gQ x (-1048576) 1048576),.i (gQ y (-1048576) 1048576)])] ⟨fun u hC g=>azB (QI x _),fun u hC g=>azB (QI y _),trivial⟩ fun u Uw S=>azf S 0 rfl fun u Ya S=>azq S 0 rfl (v := .agg #[.i (gQ x (-1048576) 1048576),.i (gQ y (-1048576) 1048576)]) (fun S=>?_);exact⟨rfl,S.E⟩
theorem kV(x y:Int)(w:World) :
  Calls prog 301 #[.agg #[.i x,.i y]] w fun e w'=>e = .returned (.bool (jS.valid ⟨x,y⟩))∧Ext w w':=by
 skip;refine aze func301 ntmps301 fun S=>azd S fun u b2 E3 hb4 S=>azs S 4 [.mem 0 0,.mem 0 0,.cmp .eql 130 (.tmp 4) (.tmp 5) (.agg #[.i (gQ x (-1048576) 1048576),.i (gQ y (-1048576) 1048576)]) (.agg #[.i x,.i y]) (.bool (((gQ x (-1048576) 1048576)==x)&&((gQ y (-1048576) 1048576)==y)))] [(_,_,true,.agg #[.i (gQ x (-1048576) 1048576),.i (gQ y (-1048576) 1048576)])] [(6,.bool (((gQ x (-1048576) 1048576)==x)&&((gQ y (-1048576) 1048576)==y)))] ⟨fun u hC g=>acN x y _,trivial⟩ (hk:=⟨azD (fun _=>eqPt ..) (by kernel_rfl),trivial⟩) fun u E6 S=>ay9 S (.bool (((gQ x (-1048576) 1048576)==x)&&((gQ y (-1048576) 1048576)==y))) (fun S=>?_);exact⟨by rw[←QH],S.E⟩
theorem xJ(v:Int)(w:World) :
  Calls prog 269 #[.i v] w fun e w'=>e = .returned (.i (named v))∧w=w':=by
 skip;refine aze func269 ntmps269 fun S=>azb S ((v)==4) (fun hc13 S=>?_) (fun hc13 S=>?_)
 ·have p0:=hc13;try simp only[azW,aAk,azU,az8,ne_eq,bne_iff_ne,bne_eq_false_iff_eq]at p0
  refine ay9 S (.i 3) (fun S=>?_);exact⟨jv (by unfold named; (repeat' split)<;>omega),rfl⟩
 refine azb S ((v)==3) (fun hc18 S=>?_) (fun hc18 S=>?_)
 ·have p0:=hc13;try simp only[azW,aAk,azU,az8,ne_eq,bne_iff_ne,bne_eq_false_iff_eq]at p0
  have p1:=hc18;try simp only[azW,aAk,azU,az8,ne_eq,bne_iff_ne,bne_eq_false_iff_eq]at p1
  refine ay9 S (.i 2) (fun S=>?_);exact⟨jv (by unfold named; (repeat' split)<;>omega),rfl⟩
 refine azb S ((v)==1) (fun hc24 S=>?_) (fun hc24 S=>?_)
 ·refine azb S ((v)==1) (fun hc25 S=>?_) (fun hc25 S=>?_)
  ·have p0:=hc13;try simp only[azW,aAk,azU,az8,ne_eq,bne_iff_ne,bne_eq_false_iff_eq]at p0
   have p1:=hc18;try simp only[azW,aAk,azU,az8,ne_eq,bne_iff_ne,bne_eq_false_iff_eq]at p1
   have p2:=hc24;try simp only[azW,aAk,azU,az8,ne_eq,bne_iff_ne,bne_eq_false_iff_eq]at p2
   refine ay9 S (.i 1) (fun S=>?_);exact⟨jv (by unfold named; (repeat' split)<;>omega),rfl⟩
  rw[hc24]at hc25; cases hc25
 refine azb S ((v)==2) (fun hc28 S=>?_) (fun hc28 S=>?_)
 ·have p0:=hc13;try simp only[azW,aAk,azU,az8,ne_eq,bne_iff_ne,bne_eq_false_iff_eq]at p0
  have p1:=hc18;try simp only[azW,aAk,azU,az8,ne_eq,bne_iff_ne,bne_eq_false_iff_eq]at p1
  have p2:=hc24;try simp only[azW,aAk,azU,az8,ne_eq,bne_iff_ne,bne_eq_false_iff_eq]at p2
  have p3:=hc28;try simp only[azW,aAk,azU,az8,ne_eq,bne_iff_ne,bne_eq_false_iff_eq]at p3
  refine ay9 S (.i 1) (fun S=>?_);exact⟨jv (by unfold named; (repeat' split)<;>omega),rfl⟩
 refine azb S ((v)==5) (fun hc32 S=>?_) (fun hc32 S=>?_)
 ·have p0:=hc13;try simp only[azW,aAk,azU,az8,ne_eq,bne_iff_ne,bne_eq_false_iff_eq]at p0
  have p1:=hc18;try simp only[azW,aAk,azU,az8,ne_eq,bne_iff_ne,bne_eq_false_iff_eq]at p1
  have p2:=hc24;try simp only[azW,aAk,azU,az8,ne_eq,bne_iff_ne,bne_eq_false_iff_eq]at p2
  have p3:=hc28;try simp only[azW,aAk,azU,az8,ne_eq,bne_iff_ne,bne_eq_false_iff_eq]at p3
  have p4:=hc32;try simp only[azW,aAk,azU,az8,ne_eq,bne_iff_ne,bne_eq_false_iff_eq]at p4
  refine ay9 S (.i 0) (fun S=>?_);exact⟨jv (by unfold named; (repeat' split)<;>omega),rfl⟩
 have p0:=hc13;try simp only[azW,aAk,azU,az8,ne_eq,bne_iff_ne,bne_eq_false_iff_eq]at p0
 have p1:=hc18;try simp only[azW,aAk,azU,az8,ne_eq,bne_iff_ne,bne_eq_false_iff_eq]at p1
 have p2:=hc24;try simp only[azW,aAk,azU,az8,ne_eq,bne_iff_ne,bne_eq_false_iff_eq]at p2
 have p3:=hc28;try simp only[azW,aAk,azU,az8,ne_eq,bne_iff_ne,bne_eq_false_iff_eq]at p3
 have p4:=hc32;try simp only[azW,aAk,azU,az8,ne_eq,bne_iff_ne,bne_eq_false_iff_eq]at p4
 refine ay9 S (.i (-1)) (fun S=>?_);exact⟨jv (by unfold named; (repeat' split)<;>omega),rfl⟩
theorem fits_any(s:dM)(w:World) :
  Calls prog 270 #[.agg #[.i s.verb,.i s.a.x,.i s.a.y,.i s.b.x,.i s.b.y,.i s.c.x,.i s.c.y]] w fun e w'=>e = .returned (.bool s.fits)∧Ext w w':=by
 skip;refine aze func270 ntmps270 fun S=>azd S fun u b2 E3 hb4 S=>adr S 7 [] [.mem 0 1,.mem 0 3,.mem 0 5] fun S=>azd S fun u b7 E8 hb9 S=>Sx.Z5 S 3 fun S=>azn S fun S=>adr S 3 [] [.mem 0 0] fun S=>azd S fun u b14 E15 hb16 S=>azf S 0 rfl fun u Vh S=>adr S 1 [] [.mem 0 0] fun S=>azp S (kV (s.a.x) (s.a.y) _) fun u KP S=>aAG S 13 [.mem 2 0,.mem 0 0,.cmp .neq 130 (.tmp 28) (.tmp 29) (.agg #[.i s.a.x,.i s.a.y]) (.agg #[.i 0,.i 0]) (.bool (!((s.a.x==0)&&(s.a.y==0))))] [(_,_,(!(!(jS.valid ⟨s.a.x,s.a.y⟩))),.i (named s.verb))] [(32,.bool ((!(jS.valid ⟨s.a.x,s.a.y⟩))||((decide ((named s.verb)≤0))&&(!((s.a.x==0)&&(s.a.y==0))))))] ⟨fun u hC g=>azB (xJ (s.verb) _),trivial⟩ (hk:=⟨azD (fun _=>ajy ..) (by kernel_rfl),trivial⟩) fun u yx S=>azb S ((!(jS.valid ⟨s.a.x,s.a.y⟩))||((decide ((named s.verb)≤0))&&(!((s.a.x==0)&&(s.a.y==0))))) (fun hc21 S=>?_) (fun hc21 S=>?_)
 ·have g0:vF s.verb 0 s.a=false:=by
   have hh:=hc21;show(jS.valid ⟨s.a.x,s.a.y⟩ && !(decide (named s.verb≤0) && !((s.a.x==0)&&(s.a.y==0))))=_;revert hh;cases jS.valid ⟨s.a.x,s.a.y⟩<;>cases decide (named s.verb≤0)<;>cases ((s.a.x==0)&&(s.a.y==0))<;>simp
  refine ay9 S (.z) (fun S=>?_);exact⟨by rw[show s.fits=false from by simp[dM.fits,g0]],S.E⟩
 refine azn S fun S=>adr S 3 [] [.mem 1 2] fun S=>azd S fun u b27 QC JK S=>azf S 0 rfl fun u JB S=>adr S 1 [] [.mem 0 0] fun S=>azp S (kV (s.b.x) (s.b.y) _) fun u E32 S=>aAG S 13 [.mem 3 0,.mem 0 0,.cmp .neq 130 (.tmp 28) (.tmp 29) (.agg #[.i s.b.x,.i s.b.y]) (.agg #[.i 0,.i 0]) (.bool (!((s.b.x==0)&&(s.b.y==0))))] [(_,_,(!(!(jS.valid ⟨s.b.x,s.b.y⟩))),.i (named s.verb))] [(32,.bool ((!(jS.valid ⟨s.b.x,s.b.y⟩))||((decide ((named s.verb)≤1))&&(!((s.b.x==0)&&(s.b.y==0))))))] ⟨fun u hC g=>azB (xJ (s.verb) _),trivial⟩ (hk:=⟨azD (fun _=>ajy ..) (by kernel_rfl),trivial⟩) fun u E33 S=>azb S ((!(jS.valid ⟨s.b.x,s.b.y⟩))||((decide ((named s.verb)≤1))&&(!((s.b.x==0)&&(s.b.y==0))))) (fun hc34 S=>?_) (fun hc34 S=>?_)
 ·have g0:vF s.verb 0 s.a=true:=by
   have hh:=hc21;show(jS.valid ⟨s.a.x,s.a.y⟩ && !(decide (named s.verb≤0) && !((s.a.x==0)&&(s.a.y==0))))=_;revert hh;cases jS.valid ⟨s.a.x,s.a.y⟩<;>cases decide (named s.verb≤0)<;>cases ((s.a.x==0)&&(s.a.y==0))<;>simp
  have g1:vF s.verb 1 s.b=false:=by
   have hh:=hc34;show(jS.valid ⟨s.b.x,s.b.y⟩ && !(decide (named s.verb≤1) && !((s.b.x==0)&&(s.b.y==0))))=_;revert hh;cases jS.valid ⟨s.b.x,s.b.y⟩<;>cases decide (named s.verb≤1)<;>cases ((s.b.x==0)&&(s.b.y==0))<;>simp
  refine ay9 S (.z) (fun S=>?_);exact⟨by rw[show s.fits=false from by simp[dM.fits,g0,g1]],S.E⟩
 refine azn S fun S=>adr S 3 [] [.mem 2 4] fun S=>azd S fun u b40 KQ ajz S=>azf S 0 rfl fun u C43 S=>adr S 1 [] [.mem 0 0] fun S=>azp S (kV (s.c.x) (s.c.y) _) fun u E45 S=>aAG S 13 [.mem 4 0,.mem 0 0,.cmp .neq 130 (.tmp 28) (.tmp 29) (.agg #[.i s.c.x,.i s.c.y]) (.agg #[.i 0,.i 0]) (.bool (!((s.c.x==0)&&(s.c.y==0))))] [(_,_,(!(!(jS.valid ⟨s.c.x,s.c.y⟩))),.i (named s.verb))] [(32,.bool ((!(jS.valid ⟨s.c.x,s.c.y⟩))||((decide ((named s.verb)≤2))&&(!((s.c.x==0)&&(s.c.y==0))))))] ⟨fun u hC g=>azB (xJ (s.verb) _),trivial⟩ (hk:=⟨azD (fun _=>ajy ..) (by kernel_rfl),trivial⟩) fun u E46 S=>azb S ((!(jS.valid ⟨s.c.x,s.c.y⟩))||((decide ((named s.verb)≤2))&&(!((s.c.x==0)&&(s.c.y==0))))) (fun hc47 S=>?_) (fun hc47 S=>?_)
 ·have g0:vF s.verb 0 s.a=true:=by
   have hh:=hc21;show(jS.valid ⟨s.a.x,s.a.y⟩ && !(decide (named s.verb≤0) && !((s.a.x==0)&&(s.a.y==0))))=_;revert hh;cases jS.valid ⟨s.a.x,s.a.y⟩<;>cases decide (named s.verb≤0)<;>cases ((s.a.x==0)&&(s.a.y==0))<;>simp
  have g1:vF s.verb 1 s.b=true:=by
   have hh:=hc34;show(jS.valid ⟨s.b.x,s.b.y⟩ && !(decide (named s.verb≤1) && !((s.b.x==0)&&(s.b.y==0))))=_;revert hh;cases jS.valid ⟨s.b.x,s.b.y⟩<;>cases decide (named s.verb≤1)<;>cases ((s.b.x==0)&&(s.b.y==0))<;>simp
  have g2:vF s.verb 2 s.c=false:=by
   have hh:=hc47;show(jS.valid ⟨s.c.x,s.c.y⟩ && !(decide (named s.verb≤2) && !((s.c.x==0)&&(s.c.y==0))))=_;revert hh;cases jS.valid ⟨s.c.x,s.c.y⟩<;>cases decide (named s.verb≤2)<;>cases ((s.c.x==0)&&(s.c.y==0))<;>simp
  refine ay9 S (.z) (fun S=>?_);exact⟨by rw[show s.fits=false from by simp[dM.fits,g0,g1,g2]],S.E⟩
 refine azu S (fun S=>?_);have g0:vF s.verb 0 s.a=true:=by
  have hh:=hc21;show(jS.valid ⟨s.a.x,s.a.y⟩ && !(decide (named s.verb≤0) && !((s.a.x==0)&&(s.a.y==0))))=_;revert hh;cases jS.valid ⟨s.a.x,s.a.y⟩<;>cases decide (named s.verb≤0)<;>cases ((s.a.x==0)&&(s.a.y==0))<;>simp
 have g1:vF s.verb 1 s.b=true:=by
  have hh:=hc34;show(jS.valid ⟨s.b.x,s.b.y⟩ && !(decide (named s.verb≤1) && !((s.b.x==0)&&(s.b.y==0))))=_;revert hh;cases jS.valid ⟨s.b.x,s.b.y⟩<;>cases decide (named s.verb≤1)<;>cases ((s.b.x==0)&&(s.b.y==0))<;>simp
 have g2:vF s.verb 2 s.c=true:=by
  have hh:=hc47;show(jS.valid ⟨s.c.x,s.c.y⟩ && !(decide (named s.verb≤2) && !((s.c.x==0)&&(s.c.y==0))))=_;revert hh;cases jS.valid ⟨s.c.x,s.c.y⟩<;>cases decide (named s.verb≤2)<;>cases ((s.c.x==0)&&(s.c.y==0))<;>simp
 refine ay9 S (.bool true) (fun S=>?_);exact⟨by rw[show s.fits=true from by simp[dM.fits,g0,g1,g2]],S.E⟩
open Go.RowKit
variable{α:Type}
theorem acO{x:dM}{last:Int}(h:decide (named x.verb<0)=true):x.err last=2:=azI (azZ h)
theorem Z7{x:dM}{last:Int}(h:decide (named x.verb<0)=false)(h1:(!x.stands last)=true):x.err last=10:=by
 unfold dM.err; rw[azG (az4 h),azI (by simpa using h1)]
theorem acP{x:dM}{last:Int}(h:decide (named x.verb<0)=false)(h1:(!x.stands last)=false)(h2:(!x.fits)=true):x.err last=6:=by
 unfold dM.err; rw[azG (az4 h),azG (by simpa using h1),azI (by simpa using h2)]
theorem acQ{x:dM}{last:Int}(h:decide (named x.verb<0)=false)(h1:(!x.stands last)=false)(h2:(!x.fits)=false):x.err last=0:=by
 unfold dM.err; rw[azG (az4 h),azG (by simpa using h1),azG (by simpa using h2)]
theorem JL{w:World}{v:Value}{l:List dM}(h:wE w v l) :
  Calls prog 231 #[v] w fun e w'=>e = .returned (.tuple #[.i (gZ l).1,.i (gZ l).2])∧Ext w w':=by
 obtain⟨a,cap,rfl⟩:=h.1.shape;have hmax:l.length≤9223372036854775807:=h.1.len;refine aze func231 ntmps231 fun S=>azb S (decide (256<(l.length:Int))) (fun hc4 S=>?_) (fun hc4 S=>?_)
 ·have p0:256<(l.length:Int):=azZ hc4;refine Sx.QJ S (.i 5) (.i 256) (fun S=>?_);have e:gZ l=(5,256):=by unfold gZ; rw[azI p0]
  exact⟨by rw[e],S.E⟩
 refine azw S (ι:=Nat×Int) (fun p a' w'=>p.1≤l.length∧(rD 5 0 l=rD p.2 (p.1:Int) (l.drop p.1))∧Sx.St w a' w' 52 [(0,.slice a l.length cap),(2,.i 0),(3,.i 0),(4,.i p.2),(11,.slice a l.length cap),(12,.i l.length),(13,.i p.1)] [] []) (fun p=>l.length-p.1) (0,5) (fun S=>⟨azQ _,rfl,S.sN⟩) ?_;rintro⟨k,last⟩ ac u gW eH hI;try dsimp only at hI
 obtain⟨hk,hR,S⟩:=hI;refine azx S fun S=>azb S (decide ((k:Int)<(l.length:Int))) (fun gU S=>?_) (fun gU S=>?_)
 ·have nY:k<l.length:=by have:=azZ gU; omega
  obtain⟨b14,o15,rfl,x20,uD,vU,Nj⟩:=aAe h.1 (fun _=>rfl) (k) nY;have S:=S.view0 vU Nj;refine adr S 3 [] [.idx k l.length,.mem 0 0] (hk:=⟨nY,trivial⟩) fun S=>azd S fun u b22 E23 ai8 S=>azf S 0 rfl fun u Zw S=>adr S 19 [] [.mem 0 0,.mem 0 0,.mem 0 0] fun S=>Sx.lU S (xJ (x20.verb) _) fun S=>azb S (decide ((named x20.verb)<0)) (fun hc29 S=>?_) (fun hc29 S=>?_)
  ·have herr:x20.err last=2:=acO hc29;have p0:¬256<(l.length:Int):=az4 hc4;refine Sx.QJ S (.i 2) (.i k) (fun S=>?_);have e:gZ l=(2,(k:Int)):=by
    unfold gZ;rw[azG (by omega),hR,aAR nY,uD,rD,herr];rfl
   exact⟨by rw[e],S.E⟩
  refine azb S (!(((x20.verb)==1)||(((last) != 5)&&(((x20.verb) != 5)||((last) != 1))))) (fun hc32 S=>?_) (fun hc32 S=>?_)
  ·have herr:x20.err last=10:=Z7 hc29 hc32;have p0:¬256<(l.length:Int):=az4 hc4;refine Sx.QJ S (.i 10) (.i k) (fun S=>?_);have e:gZ l=(10,(k:Int)):=by
    unfold gZ;rw[azG (by omega),hR,aAR nY,uD,rD,herr];rfl
   exact⟨by rw[e],S.E⟩
  refine adr S 1 [] [.mem 0 0] fun S=>azp S (fits_any x20 _) fun u Fq S=>azb S (!x20.fits) (fun qA S=>?_) (fun qA S=>?_)
  ·have herr:x20.err last=6:=acP hc29 hc32 qA;have p0:¬256<(l.length:Int):=az4 hc4;refine Sx.QJ S (.i 6) (.i k) (fun S=>?_);have e:gZ l=(6,(k:Int)):=by
    unfold gZ;rw[azG (by omega),hR,aAR nY,uD,rD,herr];rfl
   exact⟨by rw[e],S.E⟩
  refine adr S 5 [] [.mem 0 0,.re 51 (.i (IntKind.i64.wrap ((k:Int)+1))) (.i (k+1:Nat))] (hk:=⟨azt (by omega),trivial⟩) fun S=>azy S gW (fun S=>?_);have herr:x20.err last=0:=acQ hc29 hc32 qA;rw[aAR nY,uD,rD,azI herr]at hR;exact eH _ _ ((k+1),x20.verb) ⟨by omega,hR,(S.iH 1).sN⟩ (by show _-_<_-_; omega)
 have p0:¬256<(l.length:Int):=az4 hc4;have p1:¬(k:Int)<(l.length:Int):=az4 gU;refine Sx.QJ S (.i 0) (.i 0) (fun S=>?_);have e:gZ l=(0,0):=by
  unfold gZ;rw[azG (by omega),hR,aA4 (by omega)];rfl
 exact⟨by rw[e],S.E⟩
theorem yK{w:World}{v:Value}{l:List dM}(h:wE w v l) :
  Calls prog 191 #[v] w fun e w'=>e = .returned (.bool (jO l))∧Ext w w':=by
 skip;refine aze func191 ntmps191 fun S=>azp S (JL (h.below S.E)) fun u E3 S=>ay9 S (.bool (((gZ l).1)==0)) (fun S=>?_);exact⟨rfl,S.E⟩
end
end Go.Proofs.YtodpgjjgaddkeaaGreatDoor
