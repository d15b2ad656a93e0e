/- Transforms by value: six rational numbers. No program in -/
import Derived.Test.YtiafijffnejhoaaGreatDoorRatF
import Derived.Test.YtiafijffnejhoaaGreatDoorPk9
import Derived.Test.YtiafijffnejhoaaGreatDoorProg
set_option linter.unusedVariables false
namespace Go.Proofs.YtiafijffnejhoaaGreatDoor
section
open Go.RowKit
variable{α:Type}
structure Q6 where
 a:Bool×Nat×Nat
 b:Bool×Nat×Nat
 c:Bool×Nat×Nat
 d:Bool×Nat×Nat
 e:Bool×Nat×Nat
 f:Bool×Nat×Nat
def bQ(R:World→Value→Bool×Nat×Nat→Prop)(w:World)(v:Value)(Q:Q6):Prop:=
 ∃c0 c1 c2 c3 c4 c5 c6 c7 c8 c9 c10 c11 c12 c13 c14 c15 c16 c17 c18 c19 c20 c21 VI c23:Value,v = .agg #[c0,c1,c2,c3,c4,c5,c6,c7,c8,c9,c10,c11,c12,c13,c14,c15,c16,c17,c18,c19,c20,c21,VI,c23]∧R w (.agg #[c0,c1,c2,c3]) Q.a∧R w (.agg #[c4,c5,c6,c7]) Q.b∧R w (.agg #[c8,c9,c10,c11]) Q.c∧R w (.agg #[c12,c13,c14,c15]) Q.d∧R w (.agg #[c16,c17,c18,c19]) Q.e∧R w (.agg #[c20,c21,VI,c23]) Q.f
abbrev jD (K:Nat):World→Value→Q6→Prop:=bQ (bY K)
abbrev kK (base:Nat):World→Value→Q6→Prop:=bQ (bV base)
theorem bQ.mono{R R':World→Value→Bool×Nat×Nat→Prop}{w w':World}{v:Value}{Q:Q6}(h:bQ R w v Q)(hR:∀x q,R w x q→R' w' x q):bQ R' w' v Q:=by
 obtain⟨c0,c1,c2,c3,c4,c5,c6,c7,c8,c9,c10,c11,c12,c13,c14,c15,c16,c17,c18,c19,c20,c21,VI,c23,hv,h0,h1,h2,h3,h4,h5⟩:=h;exact⟨c0,c1,c2,c3,c4,c5,c6,c7,c8,c9,c10,c11,c12,c13,c14,c15,c16,c17,c18,c19,c20,c21,VI,c23,hv,hR _ _ h0,hR _ _ h1,hR _ _ h2,hR _ _ h3,hR _ _ h4,hR _ _ h5⟩
theorem bQ.fF{K:Nat}{w w':World}{v:Value}{Q:Q6}(h:jD K w v Q)(hb:Ext w w'):jD K w' v Q:=h.mono fun _ _ k=>k.below hb
theorem bQ.oZ{base:Nat}{w w':World}{v:Value}{Q:Q6}(h:kK base w v Q)(hb:Ext w w'):kK base w' v Q:=h.mono fun _ _ k=>k.ext hb
theorem bQ.Yq{base base':Nat}{w:World}{v:Value}{Q:Q6}(h:kK base w v Q)(hb:base'≤base):kK base' w v Q:=h.mono fun _ _ k=>ak.mono k hb
def uS(Q:Q6):Prop:=Ei Q.a∧Ei Q.b∧Ei Q.c∧Ei Q.d∧Ei Q.e∧Ei Q.f
def zK(K:Nat)(Q:Q6):Prop:=qlen K Q.a∧qlen K Q.b∧qlen K Q.c∧qlen K Q.d∧qlen K Q.e∧qlen K Q.f
theorem bQ.toQ{base K:Nat}{w:World}{v:Value}{Q:Q6}(h:kK base w v Q)(hn:uS Q)(hl:zK K Q):jD K w v Q:=by
 obtain⟨c0,c1,c2,c3,c4,c5,c6,c7,c8,c9,c10,c11,c12,c13,c14,c15,c16,c17,c18,c19,c20,c21,VI,c23,hv,h0,h1,h2,h3,h4,h5⟩:=h;obtain⟨n0,n1,n2,n3,n4,n5⟩:=hn;obtain⟨l0,l1,l2,l3,l4,l5⟩:=hl;exact⟨c0,c1,c2,c3,c4,c5,c6,c7,c8,c9,c10,c11,c12,c13,c14,c15,c16,c17,c18,c19,c20,c21,VI,c23,hv,ak.toQ h0 n0 l0,ak.toQ h1 n1 l1,ak.toQ h2 n2 l2,ak.toQ h3 n3 l3,ak.toQ h4 n4 l4,ak.toQ h5 n5 l5⟩
theorem bQ.nrm{K:Nat}{w:World}{v:Value}{Q:Q6}(h:jD K w v Q):uS Q:=by
 obtain⟨c0,c1,c2,c3,c4,c5,c6,c7,c8,c9,c10,c11,c12,c13,c14,c15,c16,c17,c18,c19,c20,c21,VI,c23,hv,h0,h1,h2,h3,h4,h5⟩:=h;exact⟨h0.nrm,h1.nrm,h2.nrm,h3.nrm,h4.nrm,h5.nrm⟩
theorem bQ.len{K:Nat}{w:World}{v:Value}{Q:Q6}(h:jD K w v Q)(hK:1≤K):zK K Q:=by
 obtain⟨c0,c1,c2,c3,c4,c5,c6,c7,c8,c9,c10,c11,c12,c13,c14,c15,c16,c17,c18,c19,c20,c21,VI,c23,hv,h0,h1,h2,h3,h4,h5⟩:=h;exact⟨h0.len hK,h1.len hK,h2.len hK,h3.len hK,h4.len hK,h5.len hK⟩
def aU.q(t:aU):Q6:=⟨t.a.q,t.b.q,t.c.q,t.d.q,t.e.q,t.f.q⟩
theorem aU.toQ{K:Nat}{w:World}{t:aU}(h:t.ok w)(hf:t.fit K):jD K w t.v t.q:=by
 obtain⟨h0,h1,h2,h3,h4,h5⟩:=h;obtain⟨f0,f1,f2,f3,f4,f5⟩:=hf;exact⟨_,_,_,_,_,_,_,_,_,_,_,_,_,_,_,_,_,_,_,_,_,_,_,_,rfl,bD.toQ h0 f0,bD.toQ h1 f1,bD.toQ h2 f2,bD.toQ h3 f3,bD.toQ h4 f4,bD.toQ h5 f5⟩
def Q6.valid(Q:Q6):Bool:=decide (dD Q.a≤256)&&(decide (dD Q.b≤256)&&(decide (dD Q.c≤256)&&(decide (dD Q.d≤256)&&(decide (dD Q.e≤256)&&(decide (dD Q.f≤256))))))
def Q6.xQ(Q:Q6):Bool×Nat×Nat:=zM (rE Q.a Q.d) (rE Q.b Q.c)
def Q6.eq(P Q:Q6):Bool:=kT P.a Q.a&&(kT P.b Q.b&&(kT P.c Q.c&&(kT P.d Q.d&&(kT P.e Q.e&&(kT P.f Q.f)))))
theorem Bx.TW{w:World}{b:Nat}{A:Array Value}(h:Bx w b A)(o:Nat)(vs:List Value)(hn:o+vs.length≤A.size):Bx (w.setCells b o vs) b (A.toList.take o++vs++A.toList.drop (o+vs.length)).toArray:=by
 have hth:w.there b o vs.length:=fun j hj=>by
  rw[h.2.1,h.2.2,Array.getElem?_eq_getElem (by omega)]; exact⟨rfl,rfl⟩
 have hl:(A.toList.take o).length=o:=by simp; omega
 refine⟨by rw[size_setCells]; exact h.1,fun i=>?_,fun i=>by rw[jO]; exact h.2.2 i⟩;by_cases h1:i<o
 ·rw[fC b vs o w i (.inl h1),h.2.1];simp only[List.getElem?_toArray];rw[aik,List.getElem?_append_left (by omega),List.getElem?_take_of_lt h1]; simp
 by_cases h2:i<o+vs.length
 ·obtain⟨j,rfl⟩:∃j,i=o+j:=⟨i-o,by omega⟩;have:=World.rangeAt_setCells_same w b o vs hth j (vs[j]'(by omega)) (by simp);rw[this];simp only[List.getElem?_toArray];rw[List.getElem?_append_left (by simp; omega),List.getElem?_append_right (by omega),hl,Nat.add_sub_cancel_left,List.getElem?_eq_getElem]
 rw[fC b vs o w i (.inr (by omega)),h.2.1];simp only[List.getElem?_toArray];rw[List.getElem?_append_right (by simp; omega),List.getElem?_drop];simp;congr 1; omega
open Go.RowKit
variable{α:Type}
def qI:Q6:=⟨(false,1,1),(false,0,1),(false,0,1),(false,1,1),(false,0,1),(false,0,1)⟩
open Go.RowKit
variable{α:Type}
theorem bY.iE{K:Nat}{w:World}{v:Value}{q:Bool×Nat×Nat}(h:bY K w v q):∃r:bD,v=r.v:=by
 obtain⟨n1,s1,l1,n2,s2,l2,rfl,h1,h2,_⟩:=h;obtain⟨a1,c1,rfl,_⟩:=h1;obtain⟨a2,c2,rfl,_⟩:=h2;exact⟨⟨n1,a1,c1,l1,n2,a2,c2,l2⟩,rfl⟩
theorem ak.iE{base:Nat}{w:World}{v:Value}{neg:Bool}{a b:Nat}(h:ak base w v neg a b):∃r:bD,v=r.v:=by
 obtain⟨s,t,rfl,hs,ht,_⟩:=h;obtain⟨a1,c1,rfl,_⟩:=hs;obtain⟨a2,c2,rfl,_⟩:=ht;exact⟨⟨_,a1,c1,_,_,a2,c2,_⟩,rfl⟩
theorem bQ.TY{R:World→Value→Bool×Nat×Nat→Prop}{w:World}{v:Value}{Q:Q6}(h:bQ R w v Q)(hR:∀x q,R w x q→∃r:bD,x=r.v):∃t:aU,v=t.v∧R w t.a.v Q.a∧R w t.b.v Q.b∧R w t.c.v Q.c∧R w t.d.v Q.d∧R w t.e.v Q.e∧R w t.f.v Q.f:=by
 obtain⟨c0,c1,c2,c3,c4,c5,c6,c7,c8,c9,c10,c11,c12,c13,c14,c15,c16,c17,c18,c19,c20,c21,VI,c23,rfl,h0,h1,h2,h3,h4,h5⟩:=h;obtain⟨r0,e0⟩:=hR _ _ h0;simp only[bD.v,aiA,aiB,ahA,and_true]at e0;obtain⟨rfl,rfl,rfl,rfl⟩:=e0;obtain⟨r1,e1⟩:=hR _ _ h1;simp only[bD.v,aiA,aiB,ahA,and_true]at e1;obtain⟨rfl,rfl,rfl,rfl⟩:=e1;obtain⟨r2,e2⟩:=hR _ _ h2;simp only[bD.v,aiA,aiB,ahA,and_true]at e2;obtain⟨rfl,rfl,rfl,rfl⟩:=e2;obtain⟨r3,e3⟩:=hR _ _ h3;simp only[bD.v,aiA,aiB,ahA,and_true]at e3;obtain⟨rfl,rfl,rfl,rfl⟩:=e3;obtain⟨r4,e4⟩:=hR _ _ h4;simp only[bD.v,aiA,aiB,ahA,and_true]at e4;obtain⟨rfl,rfl,rfl,rfl⟩:=e4;obtain⟨r5,e5⟩:=hR _ _ h5;simp only[bD.v,aiA,aiB,ahA,and_true]at e5;obtain⟨rfl,rfl,rfl,rfl⟩:=e5;exact⟨⟨r0,r1,r2,r3,r4,r5⟩,rfl,h0,h1,h2,h3,h4,h5⟩
theorem bQ.sQ{K:Nat}{w:World}{v:Value}{Q:Q6}(h:jD K w v Q):∃t:aU,v=t.v∧bY K w t.a.v Q.a∧bY K w t.b.v Q.b∧bY K w t.c.v Q.c∧bY K w t.d.v Q.d∧bY K w t.e.v Q.e∧bY K w t.f.v Q.f:=h.TY fun _ _ k=>k.iE
theorem bQ.sT{base:Nat}{w:World}{v:Value}{Q:Q6}(h:kK base w v Q):∃t:aU,v=t.v∧bV base w t.a.v Q.a∧bV base w t.b.v Q.b∧bV base w t.c.v Q.c∧bV base w t.d.v Q.d∧bV base w t.e.v Q.e∧bV base w t.f.v Q.f:=h.TY fun _ _ k=>ak.iE k
theorem bQ.of{R:World→Value→Bool×Nat×Nat→Prop}{w:World}{t:aU}{Q:Q6}(h0:R w t.a.v Q.a)(h1:R w t.b.v Q.b)(h2:R w t.c.v Q.c)(h3:R w t.d.v Q.d)(h4:R w t.e.v Q.e)(h5:R w t.f.v Q.f):bQ R w t.v Q:=
 ⟨_,_,_,_,_,_,_,_,_,_,_,_,_,_,_,_,_,_,_,_,_,_,_,_,rfl,h0,h1,h2,h3,h4,h5⟩
theorem bQ.inv{R:World→Value→Bool×Nat×Nat→Prop}{w:World}{t:aU}{Q:Q6}(h:bQ R w t.v Q):R w t.a.v Q.a∧R w t.b.v Q.b∧R w t.c.v Q.c∧R w t.d.v Q.d∧R w t.e.v Q.e∧R w t.f.v Q.f:=by
 obtain⟨c0,c1,c2,c3,c4,c5,c6,c7,c8,c9,c10,c11,c12,c13,c14,c15,c16,c17,c18,c19,c20,c21,VI,c23,e,h0,h1,h2,h3,h4,h5⟩:=h;simp only[aU.v,aU.cells,bD.cells,ahO,aib,aiA,aiB,ahA,and_true]at e;obtain⟨rfl,rfl,rfl,rfl,rfl,rfl,rfl,rfl,rfl,rfl,rfl,rfl,rfl,rfl,rfl,rfl,rfl,rfl,rfl,rfl,rfl,rfl,rfl,rfl⟩:=e;exact⟨h0,h1,h2,h3,h4,h5⟩
theorem bQ.pa{R:World→Value→Bool×Nat×Nat→Prop}{w:World}{t:aU}{Q:Q6}(h:bQ R w t.v Q):R w t.a.v Q.a:=h.inv.1
theorem bQ.pb{R:World→Value→Bool×Nat×Nat→Prop}{w:World}{t:aU}{Q:Q6}(h:bQ R w t.v Q):R w t.b.v Q.b:=h.inv.2.1
theorem bQ.pc{R:World→Value→Bool×Nat×Nat→Prop}{w:World}{t:aU}{Q:Q6}(h:bQ R w t.v Q):R w t.c.v Q.c:=h.inv.2.2.1
theorem bQ.pd{R:World→Value→Bool×Nat×Nat→Prop}{w:World}{t:aU}{Q:Q6}(h:bQ R w t.v Q):R w t.d.v Q.d:=h.inv.2.2.2.1
theorem bQ.pe{R:World→Value→Bool×Nat×Nat→Prop}{w:World}{t:aU}{Q:Q6}(h:bQ R w t.v Q):R w t.e.v Q.e:=h.inv.2.2.2.2.1
theorem bQ.pf{R:World→Value→Bool×Nat×Nat→Prop}{w:World}{t:aU}{Q:Q6}(h:bQ R w t.v Q):R w t.f.v Q.f:=h.inv.2.2.2.2.2
theorem bQ.bM{base:Nat}{w w':World}{v:Value}{Q:Q6}{b:Nat}{A:Array Value}(h:kK base w v Q)(hc:Ch b w w')(hx:Bx w b A)(hA:A.toList.all uw=true:=by rfl):kK base w' v Q:=h.mono fun _ _ k=>ak.bM k hc hx hA
theorem bQ.ch{base b:Nat}{w w':World}{v:Value}{Q:Q6}(h:kK base w v Q)(hc:Ch b w w')(hlt:b<base):kK base w' v Q:=h.mono fun _ _ k=>ak.ch k hc hlt
end
section
open Go.RowKit
theorem eqPt(x y p q:Int)(w:World):(binOp .eql 127 (.agg #[.i x,.i y]) (.agg #[.i p,.i q])).run Tryz.prog w = .ok (.bool ((x==p)&&(y==q))) w:=by
 simp[go_sem];(repeat' split)<;>simp_all
theorem aas(x y p q:Int)(w:World):(binOp .neq 127 (.agg #[.i x,.i y]) (.agg #[.i p,.i q])).run Tryz.prog w = .ok (.bool (!((x==p)&&(y==q)))) w:=by
 simp[go_sem];(repeat' split)<;>simp_all
theorem YC(a b c d e f g h:Int)(w:World):(binOp .eql 74 (.agg #[.int .u8 a,.int .u8 b,.int .u8 c,.int .u8 d]) (.agg #[.int .u8 e,.int .u8 f,.int .u8 g,.int .u8 h])).run Tryz.prog w = .ok (.bool ((a==e)&&((b==f)&&((c==g)&&(d==h))))) w:=by
 simp[go_sem];(repeat' split)<;>simp_all
theorem Rj(a b c d e f g h:Int)(w:World):(binOp .neq 74 (.agg #[.int .u8 a,.int .u8 b,.int .u8 c,.int .u8 d]) (.agg #[.int .u8 e,.int .u8 f,.int .u8 g,.int .u8 h])).run Tryz.prog w = .ok (.bool (!((a==e)&&((b==f)&&((c==g)&&(d==h)))))) w:=by
 simp[go_sem];(repeat' split)<;>simp_all
theorem YB(a b c d e f g h:Int)(w:World):(binOp .eql 38 (.agg #[.int .u8 a,.int .u8 b,.int .u8 c,.int .u8 d]) (.agg #[.int .u8 e,.int .u8 f,.int .u8 g,.int .u8 h])).run Tryz.prog w = .ok (.bool ((a==e)&&((b==f)&&((c==g)&&(d==h))))) w:=by
 simp[go_sem];(repeat' split)<;>simp_all
theorem Q9(o a b c d p e f g h:Int)(w:World):(binOp .neq 166 (.agg #[.i o,.int .u8 a,.int .u8 b,.int .u8 c,.int .u8 d]) (.agg #[.i p,.int .u8 e,.int .u8 f,.int .u8 g,.int .u8 h])).run Tryz.prog w = .ok (.bool (!((o==p)&&((a==e)&&((b==f)&&((c==g)&&(d==h))))))) w:=by
 simp[go_sem];(repeat' split)<;>simp_all
theorem YA(v a b c d e f v' a' b' c' d' e' f':Int)(w:World):(binOp .neq 129 (.agg #[.i v,.i a,.i b,.i c,.i d,.i e,.i f]) (.agg #[.i v',.i a',.i b',.i c',.i d',.i e',.i f'])).run Tryz.prog w =
  .ok (.bool (!((v==v')&&((a==a')&&((b==b')&&((c==c')&&((d==d')&&((e==e')&&(f==f'))))))))) w:=by
 simp[go_sem];(repeat' split)<;>simp_all
end
end Go.Proofs.YtiafijffnejhoaaGreatDoor
