/- Transforms by value: six rational numbers. No program in -/
import Derived.Test.YtapmgonflgahbaaGreatDoorRatF
set_option linter.unusedVariables false
namespace Go.Proofs.YtapmgonflgahbaaGreatDoor
open _root_.Go.Proofs.Tryz
section
open Go.RowKit
variable{α:Type}
structure Q6 where
 a:Bool×Nat×Nat
 b:Bool×Nat×Nat
 c:Bool×Nat×Nat
 d:Bool×Nat×Nat
 e:Bool×Nat×Nat
 f:Bool×Nat×Nat
def dD(R:World→Value→Bool×Nat×Nat→Prop)(w:World)(v:Value)(Q:Q6):Prop:=
 ∃c0 c1 c2 c3 c4 c5 c6 c7 c8 c9 c10 c11 c12 c13 c14 c15 c16 c17 c18 c19 c20 c21 c22 c23:Value,v = .agg #[c0,c1,c2,c3,c4,c5,c6,c7,c8,c9,c10,c11,c12,c13,c14,c15,c16,c17,c18,c19,c20,c21,c22,c23]∧R w (.agg #[c0,c1,c2,c3]) Q.a∧R w (.agg #[c4,c5,c6,c7]) Q.b∧R w (.agg #[c8,c9,c10,c11]) Q.c∧R w (.agg #[c12,c13,c14,c15]) Q.d∧R w (.agg #[c16,c17,c18,c19]) Q.e∧R w (.agg #[c20,c21,c22,c23]) Q.f
abbrev kC (K:Nat):World→Value→Q6→Prop:=dD (dM K)
abbrev pK (base:Nat):World→Value→Q6→Prop:=dD (dB base)
theorem dD.mono{R R':World→Value→Bool×Nat×Nat→Prop}{w w':World}{v:Value}{Q:Q6}(h:dD R w v Q)(hR:∀x q,R w x q→R' w' x q):dD R' w' v Q:=by
 obtain⟨c0,c1,c2,c3,c4,c5,c6,c7,c8,c9,c10,c11,c12,c13,c14,c15,c16,c17,c18,c19,c20,c21,c22,c23,hv,h0,h1,h2,h3,h4,h5⟩:=h;exact⟨c0,c1,c2,c3,c4,c5,c6,c7,c8,c9,c10,c11,c12,c13,c14,c15,c16,c17,c18,c19,c20,c21,c22,c23,hv,hR _ _ h0,hR _ _ h1,hR _ _ h2,hR _ _ h3,hR _ _ h4,hR _ _ h5⟩
theorem dD.fV{K:Nat}{w w':World}{v:Value}{Q:Q6}(h:kC K w v Q)(hb:Ext w w'):kC K w' v Q:=h.mono fun _ _ k=>k.below hb
theorem dD.qg{base:Nat}{w w':World}{v:Value}{Q:Q6}(h:pK base w v Q)(hb:Ext w w'):pK base w' v Q:=h.mono fun _ _ k=>k.ext hb
theorem dD.ZY{base base':Nat}{w:World}{v:Value}{Q:Q6}(h:pK base w v Q)(hb:base'≤base):pK base' w v Q:=h.mono fun _ _ k=>aB.mono k hb
def Aw(Q:Q6):Prop:=Hr Q.a∧Hr Q.b∧Hr Q.c∧Hr Q.d∧Hr Q.e∧Hr Q.f
def Vo(K:Nat)(Q:Q6):Prop:=qlen K Q.a∧qlen K Q.b∧qlen K Q.c∧qlen K Q.d∧qlen K Q.e∧qlen K Q.f
theorem dD.nrm{K:Nat}{w:World}{v:Value}{Q:Q6}(h:kC K w v Q):Aw Q:=by
 obtain⟨c0,c1,c2,c3,c4,c5,c6,c7,c8,c9,c10,c11,c12,c13,c14,c15,c16,c17,c18,c19,c20,c21,c22,c23,hv,h0,h1,h2,h3,h4,h5⟩:=h;exact⟨h0.nrm,h1.nrm,h2.nrm,h3.nrm,h4.nrm,h5.nrm⟩
theorem dD.len{K:Nat}{w:World}{v:Value}{Q:Q6}(h:kC K w v Q)(hK:1≤K):Vo K Q:=by
 obtain⟨c0,c1,c2,c3,c4,c5,c6,c7,c8,c9,c10,c11,c12,c13,c14,c15,c16,c17,c18,c19,c20,c21,c22,c23,hv,h0,h1,h2,h3,h4,h5⟩:=h;exact⟨h0.len hK,h1.len hK,h2.len hK,h3.len hK,h4.len hK,h5.len hK⟩
def bn.q(t:bn):Q6:=⟨t.a.q,t.b.q,t.c.q,t.d.q,t.e.q,t.f.q⟩
theorem bn.toQ{K:Nat}{w:World}{t:bn}(h:t.ok w)(hf:t.fit K):kC K w t.v t.q:=by
 obtain⟨h0,h1,h2,h3,h4,h5⟩:=h;obtain⟨f0,f1,f2,f3,f4,f5⟩:=hf;exact⟨_,_,_,_,_,_,_,_,_,_,_,_,_,_,_,_,_,_,_,_,_,_,_,_,rfl,bP.toQ h0 f0,bP.toQ h1 f1,bP.toQ h2 f2,bP.toQ h3 f3,bP.toQ h4 f4,bP.toQ h5 f5⟩
def Q6.valid(Q:Q6):Bool:=decide (dP Q.a≤256)&&(decide (dP Q.b≤256)&&(decide (dP Q.c≤256)&&(decide (dP Q.d≤256)&&(decide (dP Q.e≤256)&&(decide (dP Q.f≤256))))))
def Q6.zK(Q:Q6):Bool×Nat×Nat:=Dy (vG Q.a Q.d) (vG Q.b Q.c)
def Q6.eq(P Q:Q6):Bool:=nJ P.a Q.a&&(nJ P.b Q.b&&(nJ P.c Q.c&&(nJ P.d Q.d&&(nJ P.e Q.e&&(nJ P.f Q.f)))))
open Go.RowKit
variable{α:Type}
open Go.RowKit
variable{α:Type}
theorem dM.jR{K:Nat}{w:World}{v:Value}{q:Bool×Nat×Nat}(h:dM K w v q):∃r:bP,v=r.v:=by
 obtain⟨n1,s1,l1,n2,s2,l2,rfl,h1,h2,_⟩:=h;obtain⟨a1,c1,rfl,_⟩:=h1;obtain⟨a2,c2,rfl,_⟩:=h2;exact⟨⟨n1,a1,c1,l1,n2,a2,c2,l2⟩,rfl⟩
theorem aB.jR{base:Nat}{w:World}{v:Value}{neg:Bool}{a b:Nat}(h:aB base w v neg a b):∃r:bP,v=r.v:=by
 obtain⟨s,t,rfl,hs,ht,_⟩:=h;obtain⟨a1,c1,rfl,_⟩:=hs;obtain⟨a2,c2,rfl,_⟩:=ht;exact⟨⟨_,a1,c1,_,_,a2,c2,_⟩,rfl⟩
theorem dD.VA{R:World→Value→Bool×Nat×Nat→Prop}{w:World}{v:Value}{Q:Q6}(h:dD R w v Q)(hR:∀x q,R w x q→∃r:bP,x=r.v):∃t:bn,v=t.v∧R w t.a.v Q.a∧R w t.b.v Q.b∧R w t.c.v Q.c∧R w t.d.v Q.d∧R w t.e.v Q.e∧R w t.f.v Q.f:=by
 obtain⟨c0,c1,c2,c3,c4,c5,c6,c7,c8,c9,c10,c11,c12,c13,c14,c15,c16,c17,c18,c19,c20,c21,c22,c23,rfl,h0,h1,h2,h3,h4,h5⟩:=h;obtain⟨r0,e0⟩:=hR _ _ h0;simp only[bP.v,ajE,ajF,aix,and_true]at e0;obtain⟨rfl,rfl,rfl,rfl⟩:=e0;obtain⟨r1,e1⟩:=hR _ _ h1;simp only[bP.v,ajE,ajF,aix,and_true]at e1;obtain⟨rfl,rfl,rfl,rfl⟩:=e1;obtain⟨r2,e2⟩:=hR _ _ h2;simp only[bP.v,ajE,ajF,aix,and_true]at e2;obtain⟨rfl,rfl,rfl,rfl⟩:=e2;obtain⟨r3,e3⟩:=hR _ _ h3;simp only[bP.v,ajE,ajF,aix,and_true]at e3;obtain⟨rfl,rfl,rfl,rfl⟩:=e3;obtain⟨r4,e4⟩:=hR _ _ h4;simp only[bP.v,ajE,ajF,aix,and_true]at e4;obtain⟨rfl,rfl,rfl,rfl⟩:=e4;obtain⟨r5,e5⟩:=hR _ _ h5;simp only[bP.v,ajE,ajF,aix,and_true]at e5;obtain⟨rfl,rfl,rfl,rfl⟩:=e5;exact⟨⟨r0,r1,r2,r3,r4,r5⟩,rfl,h0,h1,h2,h3,h4,h5⟩
theorem dD.sQ{K:Nat}{w:World}{v:Value}{Q:Q6}(h:kC K w v Q):∃t:bn,v=t.v∧dM K w t.a.v Q.a∧dM K w t.b.v Q.b∧dM K w t.c.v Q.c∧dM K w t.d.v Q.d∧dM K w t.e.v Q.e∧dM K w t.f.v Q.f:=h.VA fun _ _ k=>k.jR
theorem dD.sT{base:Nat}{w:World}{v:Value}{Q:Q6}(h:pK base w v Q):∃t:bn,v=t.v∧dB base w t.a.v Q.a∧dB base w t.b.v Q.b∧dB base w t.c.v Q.c∧dB base w t.d.v Q.d∧dB base w t.e.v Q.e∧dB base w t.f.v Q.f:=h.VA fun _ _ k=>aB.jR k
theorem dD.of{R:World→Value→Bool×Nat×Nat→Prop}{w:World}{t:bn}{Q:Q6}(h0:R w t.a.v Q.a)(h1:R w t.b.v Q.b)(h2:R w t.c.v Q.c)(h3:R w t.d.v Q.d)(h4:R w t.e.v Q.e)(h5:R w t.f.v Q.f):dD R w t.v Q:=
 ⟨_,_,_,_,_,_,_,_,_,_,_,_,_,_,_,_,_,_,_,_,_,_,_,_,rfl,h0,h1,h2,h3,h4,h5⟩
theorem dD.inv{R:World→Value→Bool×Nat×Nat→Prop}{w:World}{t:bn}{Q:Q6}(h:dD R w t.v Q):R w t.a.v Q.a∧R w t.b.v Q.b∧R w t.c.v Q.c∧R w t.d.v Q.d∧R w t.e.v Q.e∧R w t.f.v Q.f:=by
 obtain⟨c0,c1,c2,c3,c4,c5,c6,c7,c8,c9,c10,c11,c12,c13,c14,c15,c16,c17,c18,c19,c20,c21,c22,c23,e,h0,h1,h2,h3,h4,h5⟩:=h;simp only[bn.v,bn.cells,bP.cells,aje,ajl,ajE,ajF,aix,and_true]at e;obtain⟨rfl,rfl,rfl,rfl,rfl,rfl,rfl,rfl,rfl,rfl,rfl,rfl,rfl,rfl,rfl,rfl,rfl,rfl,rfl,rfl,rfl,rfl,rfl,rfl⟩:=e;exact⟨h0,h1,h2,h3,h4,h5⟩
theorem dD.pa{R:World→Value→Bool×Nat×Nat→Prop}{w:World}{t:bn}{Q:Q6}(h:dD R w t.v Q):R w t.a.v Q.a:=h.inv.1
theorem dD.pb{R:World→Value→Bool×Nat×Nat→Prop}{w:World}{t:bn}{Q:Q6}(h:dD R w t.v Q):R w t.b.v Q.b:=h.inv.2.1
theorem dD.pc{R:World→Value→Bool×Nat×Nat→Prop}{w:World}{t:bn}{Q:Q6}(h:dD R w t.v Q):R w t.c.v Q.c:=h.inv.2.2.1
theorem dD.pd{R:World→Value→Bool×Nat×Nat→Prop}{w:World}{t:bn}{Q:Q6}(h:dD R w t.v Q):R w t.d.v Q.d:=h.inv.2.2.2.1
theorem dD.pe{R:World→Value→Bool×Nat×Nat→Prop}{w:World}{t:bn}{Q:Q6}(h:dD R w t.v Q):R w t.e.v Q.e:=h.inv.2.2.2.2.1
theorem dD.pf{R:World→Value→Bool×Nat×Nat→Prop}{w:World}{t:bn}{Q:Q6}(h:dD R w t.v Q):R w t.f.v Q.f:=h.inv.2.2.2.2.2
theorem dD.dK{base:Nat}{w w':World}{v:Value}{Q:Q6}{b:Nat}{A:Array Value}(h:pK base w v Q)(hc:Ch b w w')(hx:Bx w b A)(hA:A.toList.all Es=true:=by rfl):pK base w' v Q:=h.mono fun _ _ k=>aB.dK k hc hx hA
end
section
open Go.RowKit
theorem eqPt(x y p q:Int)(w:World):(binOp .eql 123 (.agg #[.i x,.i y]) (.agg #[.i p,.i q])).run prog w = .ok (.bool ((x==p)&&(y==q))) w:=by
 simp[go_sem];(repeat' split)<;>simp_all
theorem abG(x y p q:Int)(w:World):(binOp .neq 123 (.agg #[.i x,.i y]) (.agg #[.i p,.i q])).run prog w = .ok (.bool (!((x==p)&&(y==q)))) w:=by
 simp[go_sem];(repeat' split)<;>simp_all
theorem aag(a b c d e f g h:Int)(w:World):(binOp .eql 192 (.agg #[.u a,.u b,.u c,.u d]) (.agg #[.u e,.u f,.u g,.u h])).run prog w = .ok (.bool ((a==e)&&((b==f)&&((c==g)&&(d==h))))) w:=by
 simp[go_sem];(repeat' split)<;>simp_all
theorem aad(a b c d e f g h:Int)(w:World):(binOp .neq 192 (.agg #[.u a,.u b,.u c,.u d]) (.agg #[.u e,.u f,.u g,.u h])).run prog w = .ok (.bool (!((a==e)&&((b==f)&&((c==g)&&(d==h)))))) w:=by
 simp[go_sem];(repeat' split)<;>simp_all
theorem aae(a b c d e f g h:Int)(w:World):(binOp .eql 23 (.agg #[.u a,.u b,.u c,.u d]) (.agg #[.u e,.u f,.u g,.u h])).run prog w = .ok (.bool ((a==e)&&((b==f)&&((c==g)&&(d==h))))) w:=by
 simp[go_sem];(repeat' split)<;>simp_all
theorem TS(o a b c d p e f g h:Int)(w:World):(binOp .neq 189 (.agg #[.i o,.u a,.u b,.u c,.u d]) (.agg #[.i p,.u e,.u f,.u g,.u h])).run prog w = .ok (.bool (!((o==p)&&((a==e)&&((b==f)&&((c==g)&&(d==h))))))) w:=by
 simp[go_sem];(repeat' split)<;>simp_all
theorem aac(v a b c d e f v' a' b' c' d' e' f':Int)(w:World):(binOp .neq 138 (.agg #[.i v,.i a,.i b,.i c,.i d,.i e,.i f]) (.agg #[.i v',.i a',.i b',.i c',.i d',.i e',.i f'])).run prog w =
  .ok (.bool (!((v==v')&&((a==a')&&((b==b')&&((c==c')&&((d==d')&&((e==e')&&(f==f'))))))))) w:=by
 simp[go_sem];(repeat' split)<;>simp_all
end
end Go.Proofs.YtapmgonflgahbaaGreatDoor
