/- Transforms by value: six rational numbers. No program in sight. The walk by lemmas: rows that came in. '==' on the small structs. -/
import Derived.Test.YtfmkkemfhjkajaaGreatDoorPk10
import Derived.Test.YtfmkkemfhjkajaaGreatDoorData
import Derived.Test.YtfmkkemfhjkajaaGreatDoorProg
section
namespace Go.Proofs.YtfmkkemfhjkajaaGreatDoor
open Go.RowKit
variable{α:Type}
set_option linter.unusedVariables false
structure Q6 where
 a:Bool×Nat×Nat
 b:Bool×Nat×Nat
 c:Bool×Nat×Nat
 d:Bool×Nat×Nat
 e:Bool×Nat×Nat
 f:Bool×Nat×Nat
def IsAffR(R:World→Value→Bool×Nat×Nat→Prop)(w:World)(v:Value)(Q:Q6):Prop:=
 ∃c0 c1 c2 c3 c4 c5 c6 c7 c8 c9 c10 c11 c12 c13 c14 c15 c16 c17 c18 c19 c20 c21 c22 c23:Value,v = .agg #[c0,c1,c2,c3,c4,c5,c6,c7,c8,c9,c10,c11,c12,c13,c14,c15,c16,c17,c18,c19,c20,c21,c22,c23]∧R w (.agg #[c0,c1,c2,c3]) Q.a∧R w (.agg #[c4,c5,c6,c7]) Q.b∧R w (.agg #[c8,c9,c10,c11]) Q.c∧R w (.agg #[c12,c13,c14,c15]) Q.d∧R w (.agg #[c16,c17,c18,c19]) Q.e∧R w (.agg #[c20,c21,c22,c23]) Q.f
abbrev IsAffQ (K:Nat):World→Value→Q6→Prop:=IsAffR (IsRatQ K)
abbrev IsAffT (base:Nat):World→Value→Q6→Prop:=IsAffR (IsRatT base)
theorem IsAffR.mono{R R':World→Value→Bool×Nat×Nat→Prop}{w w':World}{v:Value}{Q:Q6}(h:IsAffR R w v Q)(hR:∀x q,R w x q→R' w' x q):IsAffR R' w' v Q:=by
 obtain⟨c0,c1,c2,c3,c4,c5,c6,c7,c8,c9,c10,c11,c12,c13,c14,c15,c16,c17,c18,c19,c20,c21,c22,c23,hv,h0,h1,h2,h3,h4,h5⟩:=h
 exact⟨c0,c1,c2,c3,c4,c5,c6,c7,c8,c9,c10,c11,c12,c13,c14,c15,c16,c17,c18,c19,c20,c21,c22,c23,hv,hR _ _ h0,hR _ _ h1,hR _ _ h2,hR _ _ h3,hR _ _ h4,hR _ _ h5⟩
theorem IsAffR.belowQ{K:Nat}{w w':World}{v:Value}{Q:Q6}(h:IsAffQ K w v Q)(hb:Ext w w'):IsAffQ K w' v Q:=h.mono fun _ _ k=>k.below hb
theorem IsAffR.extT{base:Nat}{w w':World}{v:Value}{Q:Q6}(h:IsAffT base w v Q)(hb:Ext w w'):IsAffT base w' v Q:=h.mono fun _ _ k=>k.ext hb
theorem IsAffR.monoT{base base':Nat}{w:World}{v:Value}{Q:Q6}(h:IsAffT base w v Q)(hb:base'≤base):IsAffT base' w v Q:=h.mono fun _ _ k=>IsRatN.mono k hb
def Nrm6(Q:Q6):Prop:=Nrm Q.a∧Nrm Q.b∧Nrm Q.c∧Nrm Q.d∧Nrm Q.e∧Nrm Q.f
def qlen6(K:Nat)(Q:Q6):Prop:=qlen K Q.a∧qlen K Q.b∧qlen K Q.c∧qlen K Q.d∧qlen K Q.e∧qlen K Q.f
theorem IsAffR.toQ{base K:Nat}{w:World}{v:Value}{Q:Q6}(h:IsAffT base w v Q)(hn:Nrm6 Q)(hl:qlen6 K Q):IsAffQ K w v Q:=by
 obtain⟨c0,c1,c2,c3,c4,c5,c6,c7,c8,c9,c10,c11,c12,c13,c14,c15,c16,c17,c18,c19,c20,c21,c22,c23,hv,h0,h1,h2,h3,h4,h5⟩:=h
 obtain⟨n0,n1,n2,n3,n4,n5⟩:=hn
 obtain⟨l0,l1,l2,l3,l4,l5⟩:=hl
 exact⟨c0,c1,c2,c3,c4,c5,c6,c7,c8,c9,c10,c11,c12,c13,c14,c15,c16,c17,c18,c19,c20,c21,c22,c23,hv,IsRatN.toQ h0 n0 l0,IsRatN.toQ h1 n1 l1,IsRatN.toQ h2 n2 l2,IsRatN.toQ h3 n3 l3,IsRatN.toQ h4 n4 l4,IsRatN.toQ h5 n5 l5⟩
theorem IsAffR.nrm{K:Nat}{w:World}{v:Value}{Q:Q6}(h:IsAffQ K w v Q):Nrm6 Q:=by
 obtain⟨c0,c1,c2,c3,c4,c5,c6,c7,c8,c9,c10,c11,c12,c13,c14,c15,c16,c17,c18,c19,c20,c21,c22,c23,hv,h0,h1,h2,h3,h4,h5⟩:=h
 exact⟨h0.nrm,h1.nrm,h2.nrm,h3.nrm,h4.nrm,h5.nrm⟩
theorem IsAffR.len{K:Nat}{w:World}{v:Value}{Q:Q6}(h:IsAffQ K w v Q)(hK:1≤K):qlen6 K Q:=by
 obtain⟨c0,c1,c2,c3,c4,c5,c6,c7,c8,c9,c10,c11,c12,c13,c14,c15,c16,c17,c18,c19,c20,c21,c22,c23,hv,h0,h1,h2,h3,h4,h5⟩:=h
 exact⟨h0.len hK,h1.len hK,h2.len hK,h3.len hK,h4.len hK,h5.len hK⟩
def AffD.q(t:AffD):Q6:=⟨t.a.q,t.b.q,t.c.q,t.d.q,t.e.q,t.f.q⟩
theorem AffD.toQ{K:Nat}{w:World}{t:AffD}(h:t.ok w)(hf:t.fit K):IsAffQ K w t.v t.q:=by
 obtain⟨h0,h1,h2,h3,h4,h5⟩:=h
 obtain⟨f0,f1,f2,f3,f4,f5⟩:=hf
 exact⟨_,_,_,_,_,_,_,_,_,_,_,_,_,_,_,_,_,_,_,_,_,_,_,_,rfl,RatD.toQ h0 f0,RatD.toQ h1 f1,RatD.toQ h2 f2,RatD.toQ h3 f3,RatD.toQ h4 f4,RatD.toQ h5 f5⟩
def Q6.valid(Q:Q6):Bool:=decide (qbits Q.a≤256)&&(decide (qbits Q.b≤256)&&(decide (qbits Q.c≤256)&&(decide (qbits Q.d≤256)&&(decide (qbits Q.e≤256)&&(decide (qbits Q.f≤256))))))
def Q6.det(Q:Q6):Bool×Nat×Nat:=qsub (qmul Q.a Q.d) (qmul Q.b Q.c)
def Q6.eq(P Q:Q6):Bool:=qeq P.a Q.a&&(qeq P.b Q.b&&(qeq P.c Q.c&&(qeq P.d Q.d&&(qeq P.e Q.e&&(qeq P.f Q.f)))))
/-- A block where some cells have been written. -/
theorem Bx.set_at{w:World}{b:Nat}{A:Array Value}(h:Bx w b A)(o:Nat)(vs:List Value)(hn:o+vs.length≤A.size):Bx (w.setCells b o vs) b (A.toList.take o++vs++A.toList.drop (o+vs.length)).toArray:=by
 have hth:w.there b o vs.length:=fun j hj=>by
  rw[h.2.1,h.2.2,Array.getElem?_eq_getElem (by omega)]; exact⟨rfl,rfl⟩
 have hl:(A.toList.take o).length=o:=by simp; omega
 refine⟨by rw[size_setCells]; exact h.1,fun i=>?_,fun i=>by rw[frozen_setCells]; exact h.2.2 i⟩
 by_cases h1:i<o
 ·rw[cell_setCells_beyond b vs o w i (.inl h1),h.2.1]
  simp only[List.getElem?_toArray]
  rw[List.append_assoc,List.getElem?_append_left (by omega),List.getElem?_take_of_lt h1]; simp
 ·by_cases h2:i<o+vs.length
  ·obtain⟨j,rfl⟩:∃j,i=o+j:=⟨i-o,by omega⟩
   have:=World.rangeAt_setCells_same w b o vs hth j (vs[j]'(by omega)) (by simp)
   rw[this]
   simp only[List.getElem?_toArray]
   rw[List.getElem?_append_left (by simp; omega),List.getElem?_append_right (by omega),hl,Nat.add_sub_cancel_left,List.getElem?_eq_getElem]
  ·rw[cell_setCells_beyond b vs o w i (.inr (by omega)),h.2.1]
   simp only[List.getElem?_toArray]
   rw[List.getElem?_append_right (by simp; omega),List.getElem?_drop]
   simp
   congr 1; omega
end Go.Proofs.YtfmkkemfhjkajaaGreatDoor
/- Small laws for the walk by lemmas: rows do not lie in variables that hold no digits. No program in sight. -/
namespace Go.Proofs.YtfmkkemfhjkajaaGreatDoor
open Go.RowKit
variable{α:Type}
def noU32:Value→Bool
 | .int .u32 _=>false
 | _=>true
theorem noU32_ne{A:Array Value}(h:A.toList.all noU32=true)(i:Nat)(x:UInt32):A[i]?≠some (u32v x):=by
 intro e
 rw[List.all_eq_true]at h
 have hm:u32v x∈A.toList:=by
  rw[Array.mem_toList_iff]
  exact Array.mem_of_getElem? e
 exact absurd (h _ hm) (by simp[noU32])
/-- The identity. -/
def qI:Q6:=⟨(false,1,1),(false,0,1),(false,0,1),(false,1,1),(false,0,1),(false,0,1)⟩
end Go.Proofs.YtfmkkemfhjkajaaGreatDoor
/- Transforms as records of cells. No program in sight. -/
namespace Go.Proofs.YtfmkkemfhjkajaaGreatDoor
open Go.RowKit
variable{α:Type}
set_option linter.unusedVariables false
theorem IsRatQ.shapeD{K:Nat}{w:World}{v:Value}{q:Bool×Nat×Nat}(h:IsRatQ K w v q):∃r:RatD,v=r.v:=by
 obtain⟨n1,s1,l1,n2,s2,l2,rfl,h1,h2,_⟩:=h
 obtain⟨a1,c1,rfl,_⟩:=h1
 obtain⟨a2,c2,rfl,_⟩:=h2
 exact⟨⟨n1,a1,c1,l1,n2,a2,c2,l2⟩,rfl⟩
theorem IsRatN.shapeD{base:Nat}{w:World}{v:Value}{neg:Bool}{a b:Nat}(h:IsRatN base w v neg a b):∃r:RatD,v=r.v:=by
 obtain⟨s,t,rfl,hs,ht,_⟩:=h
 obtain⟨a1,c1,rfl,_⟩:=hs
 obtain⟨a2,c2,rfl,_⟩:=ht
 exact⟨⟨_,a1,c1,_,_,a2,c2,_⟩,rfl⟩
theorem IsAffR.shape6{R:World→Value→Bool×Nat×Nat→Prop}{w:World}{v:Value}{Q:Q6}(h:IsAffR R w v Q)(hR:∀x q,R w x q→∃r:RatD,x=r.v):∃t:AffD,v=t.v∧R w t.a.v Q.a∧R w t.b.v Q.b∧R w t.c.v Q.c∧R w t.d.v Q.d∧R w t.e.v Q.e∧R w t.f.v Q.f:=by
 obtain⟨c0,c1,c2,c3,c4,c5,c6,c7,c8,c9,c10,c11,c12,c13,c14,c15,c16,c17,c18,c19,c20,c21,c22,c23,rfl,h0,h1,h2,h3,h4,h5⟩:=h
 obtain⟨r0,e0⟩:=hR _ _ h0
 simp only[RatD.v,Value.agg.injEq,Array.mk.injEq,List.cons.injEq,and_true]at e0
 obtain⟨rfl,rfl,rfl,rfl⟩:=e0
 obtain⟨r1,e1⟩:=hR _ _ h1
 simp only[RatD.v,Value.agg.injEq,Array.mk.injEq,List.cons.injEq,and_true]at e1
 obtain⟨rfl,rfl,rfl,rfl⟩:=e1
 obtain⟨r2,e2⟩:=hR _ _ h2
 simp only[RatD.v,Value.agg.injEq,Array.mk.injEq,List.cons.injEq,and_true]at e2
 obtain⟨rfl,rfl,rfl,rfl⟩:=e2
 obtain⟨r3,e3⟩:=hR _ _ h3
 simp only[RatD.v,Value.agg.injEq,Array.mk.injEq,List.cons.injEq,and_true]at e3
 obtain⟨rfl,rfl,rfl,rfl⟩:=e3
 obtain⟨r4,e4⟩:=hR _ _ h4
 simp only[RatD.v,Value.agg.injEq,Array.mk.injEq,List.cons.injEq,and_true]at e4
 obtain⟨rfl,rfl,rfl,rfl⟩:=e4
 obtain⟨r5,e5⟩:=hR _ _ h5
 simp only[RatD.v,Value.agg.injEq,Array.mk.injEq,List.cons.injEq,and_true]at e5
 obtain⟨rfl,rfl,rfl,rfl⟩:=e5
 exact⟨⟨r0,r1,r2,r3,r4,r5⟩,rfl,h0,h1,h2,h3,h4,h5⟩
theorem IsAffR.sQ{K:Nat}{w:World}{v:Value}{Q:Q6}(h:IsAffQ K w v Q):∃t:AffD,v=t.v∧IsRatQ K w t.a.v Q.a∧IsRatQ K w t.b.v Q.b∧IsRatQ K w t.c.v Q.c∧IsRatQ K w t.d.v Q.d∧IsRatQ K w t.e.v Q.e∧IsRatQ K w t.f.v Q.f:=h.shape6 fun _ _ k=>k.shapeD
theorem IsAffR.sT{base:Nat}{w:World}{v:Value}{Q:Q6}(h:IsAffT base w v Q):∃t:AffD,v=t.v∧IsRatT base w t.a.v Q.a∧IsRatT base w t.b.v Q.b∧IsRatT base w t.c.v Q.c∧IsRatT base w t.d.v Q.d∧IsRatT base w t.e.v Q.e∧IsRatT base w t.f.v Q.f:=h.shape6 fun _ _ k=>IsRatN.shapeD k
theorem IsAffR.of{R:World→Value→Bool×Nat×Nat→Prop}{w:World}{t:AffD}{Q:Q6}(h0:R w t.a.v Q.a)(h1:R w t.b.v Q.b)(h2:R w t.c.v Q.c)(h3:R w t.d.v Q.d)(h4:R w t.e.v Q.e)(h5:R w t.f.v Q.f):IsAffR R w t.v Q:=
 ⟨_,_,_,_,_,_,_,_,_,_,_,_,_,_,_,_,_,_,_,_,_,_,_,_,rfl,h0,h1,h2,h3,h4,h5⟩
theorem u32s_setc{w w':World}{v:Value}{l:List UInt32}{b:Nat}{A:Array Value}(h:IsU32s w v l)(hc:Ch b w w')(hx:Bx w b A)(hA:A.toList.all noU32=true):IsU32s w' v l:=h.ch hc (hx.off (noU32_ne hA) h)
theorem IsRatN.setc{base:Nat}{w w':World}{v:Value}{neg:Bool}{a c b:Nat}{A:Array Value}(h:IsRatN base w v neg a c)(hc:Ch b w w')(hx:Bx w b A)(hA:A.toList.all noU32=true:=by rfl):IsRatN base w' v neg a c:=by
 obtain⟨s,t,hv,hs,ht,fs,ft⟩:=h
 exact⟨s,t,hv,u32s_setc hs hc hx hA,u32s_setc ht hc hx hA,fs,ft⟩
theorem IsAffR.inv{R:World→Value→Bool×Nat×Nat→Prop}{w:World}{t:AffD}{Q:Q6}(h:IsAffR R w t.v Q):R w t.a.v Q.a∧R w t.b.v Q.b∧R w t.c.v Q.c∧R w t.d.v Q.d∧R w t.e.v Q.e∧R w t.f.v Q.f:=by
 obtain⟨c0,c1,c2,c3,c4,c5,c6,c7,c8,c9,c10,c11,c12,c13,c14,c15,c16,c17,c18,c19,c20,c21,c22,c23,e,h0,h1,h2,h3,h4,h5⟩:=h
 simp only[AffD.v,AffD.cells,RatD.cells,List.cons_append,List.nil_append,Value.agg.injEq,Array.mk.injEq,List.cons.injEq,and_true]at e
 obtain⟨rfl,rfl,rfl,rfl,rfl,rfl,rfl,rfl,rfl,rfl,rfl,rfl,rfl,rfl,rfl,rfl,rfl,rfl,rfl,rfl,rfl,rfl,rfl,rfl⟩:=e
 exact⟨h0,h1,h2,h3,h4,h5⟩
theorem IsAffR.pa{R:World→Value→Bool×Nat×Nat→Prop}{w:World}{t:AffD}{Q:Q6}(h:IsAffR R w t.v Q):R w t.a.v Q.a:=h.inv.1
theorem IsAffR.pb{R:World→Value→Bool×Nat×Nat→Prop}{w:World}{t:AffD}{Q:Q6}(h:IsAffR R w t.v Q):R w t.b.v Q.b:=h.inv.2.1
theorem IsAffR.pc{R:World→Value→Bool×Nat×Nat→Prop}{w:World}{t:AffD}{Q:Q6}(h:IsAffR R w t.v Q):R w t.c.v Q.c:=h.inv.2.2.1
theorem IsAffR.pd{R:World→Value→Bool×Nat×Nat→Prop}{w:World}{t:AffD}{Q:Q6}(h:IsAffR R w t.v Q):R w t.d.v Q.d:=h.inv.2.2.2.1
theorem IsAffR.pe{R:World→Value→Bool×Nat×Nat→Prop}{w:World}{t:AffD}{Q:Q6}(h:IsAffR R w t.v Q):R w t.e.v Q.e:=h.inv.2.2.2.2.1
theorem IsAffR.pf{R:World→Value→Bool×Nat×Nat→Prop}{w:World}{t:AffD}{Q:Q6}(h:IsAffR R w t.v Q):R w t.f.v Q.f:=h.inv.2.2.2.2.2
theorem IsAffR.setc{base:Nat}{w w':World}{v:Value}{Q:Q6}{b:Nat}{A:Array Value}(h:IsAffT base w v Q)(hc:Ch b w w')(hx:Bx w b A)(hA:A.toList.all noU32=true:=by rfl):IsAffT base w' v Q:=h.mono fun _ _ k=>IsRatN.setc k hc hx hA
theorem IsAffR.ch{base b:Nat}{w w':World}{v:Value}{Q:Q6}(h:IsAffT base w v Q)(hc:Ch b w w')(hlt:b<base):IsAffT base w' v Q:=h.mono fun _ _ k=>IsRatN.ch k hc hlt
end Go.Proofs.YtfmkkemfhjkajaaGreatDoor
end
section
namespace Go.Vp
open Go.Proofs.YtfmkkemfhjkajaaGreatDoor Go.RowKit Go.Rel
set_option linter.unusedVariables false
section
variable{P:Program}{ops:Array Oper}{Q:Exit→Act→World→Prop}{a:Act}{w:World}{rest:List Oper}{o:Oper}{n:Nat}{l:List (Nat×Value)}
theorem run_index{ρ:Operand→Value}{t e:TypeId}{x ix:Operand}{b off len cap k:Nat}{kd:IntKind}(i:Nat)(hop:o.op = .indexAddr t x ix)(hx:ρ x = .slice (some ⟨b,off,none⟩) len cap)(hi:ρ ix = .int kd (i:Int))(hlt:i<len)
  (hu:P.underlying t=some (.slice e)) (hsz:(P.info? e).map (·.size)=some k):(execOp ρ o).run P w = .ok (.value (.pointer (some ⟨b,off+i*k,none⟩))) w:=by
 have he:P.elem t=e:=by unfold Program.elem; rw[hu]
 have h1:=run_indexAt_slice (P:=P) w t ⟨b,off,none⟩ len cap kd (i:Int) (by rw[he]; exact hu)
 rw[if_pos ⟨by omega,by omega⟩,he]at h1
 have h2:(sizeOf e).run P w = .ok k w:=by
  cases hq:P.info? e with
  | none=>simp[hq]at hsz
  | some j =>
   have:j.size=k:=by simpa[hq]using hsz
   simp[sizeOf,typeInfo,hq,this]
 rw[h2]at h1
 simp only[Result.andThen,Int.toNat_natCast]at h1
 have e2:(⟨b,off,none⟩:Addr).add (i*k)=⟨b,off+i*k,none⟩:=Addr.add_mid _ _ _
 rw[e2]at h1
 unfold execOp
 simp only[hop,hx,hi,Sem.run_bind,h1]
 rfl
/-- An element of a row that came in. -/
theorem rowN_range{α:Type}{k:Nat}{f:α→List Value}{v:Value}{L:List α}(h:IsRowN k f w v L)(hf:∀x,(f x).length=k)(i:Nat)(hi:i<L.length) :
  ∃b off cap,v = .slice (some ⟨b,off,none⟩) L.length cap∧w.rangeAt b (off+i*k) (f L[i]):=by
 obtain⟨b,off,cap,hv,hb,hl,hm,hc⟩:=rowN_some h (by omega)
 refine⟨b,off,cap,hv,fun j u hj=>?_⟩
 have hjl:j<k:=by have:=(List.getElem?_eq_some_iff.1 hj).1; rw[hf]at this; exact this
 rw[hc i hi j hjl]; exact hj
theorem rowN_range2{α:Type}{k:Nat}{f:α→List Value}{v:Value}{L:List α}(h:IsRowN k f w v L)(hf:∀x,(f x).length=k)(i:Nat)(hi:i<L.length) :
  ∃b off cap,v = .slice (some ⟨b,off,none⟩) L.length cap∧b<w.heap.size∧w.rangeAt b (off+i*k) (f L[i]):=by
 obtain⟨b,off,cap,hv,hb,hl,hm,hc⟩:=rowN_some h (by omega)
 refine⟨b,off,cap,hv,hb,fun j u hj=>?_⟩
 have hjl:j<k:=by have:=(List.getElem?_eq_some_iff.1 hj).1; rw[hf]at this; exact this
 rw[hc i hi j hjl]; exact hj
theorem range_ext{w w':World}{b off:Nat}{cs:List Value}(h:w.rangeAt b off cs)(hb:b<w.heap.size)(he:Ext w w'):w'.rangeAt b off cs:=fun j v hv=>by
 rw[he.cell (p:=⟨b,off+j,none⟩) hb]; exact h j v hv
theorem oc_row{α:Type}{k:Nat}{f:α→List Value}{v:Value}{L:List α}(h:IsRowN k f w v L):v.oneCell'=true:=by obtain⟨a,cap,rfl⟩:=h.shape; rfl
theorem oc_u32s{v:Value}{L:List UInt32}(h:IsU32s w v L):v.oneCell'=true:=by obtain⟨a,cap,rfl,_⟩:=h; rfl
end
end Go.Vp
/- Part of a row's element. -/
namespace Go.Vp
open Go.Proofs.YtfmkkemfhjkajaaGreatDoor Go.RowKit Go.Rel
end Go.Vp
end
section
namespace Go.Proofs.YtfmkkemfhjkajaaGreatDoor
open Go.RowKit
set_option linter.unusedVariables false
theorem eqPt(x y p q:Int)(w:World):(binOp .eql 60 (.agg #[.int .i64 x,.int .i64 y]) (.agg #[.int .i64 p,.int .i64 q])).run Tryz.prog w = .ok (.bool ((x==p)&&(y==q))) w:=by
 simp[go_sem]
 (repeat' split)<;>simp_all
theorem nePt(x y p q:Int)(w:World):(binOp .neq 60 (.agg #[.int .i64 x,.int .i64 y]) (.agg #[.int .i64 p,.int .i64 q])).run Tryz.prog w = .ok (.bool (!((x==p)&&(y==q)))) w:=by
 simp[go_sem]
 (repeat' split)<;>simp_all
theorem eqPix(a b c d e f g h:Int)(w:World):(binOp .eql 122 (.agg #[.int .u8 a,.int .u8 b,.int .u8 c,.int .u8 d]) (.agg #[.int .u8 e,.int .u8 f,.int .u8 g,.int .u8 h])).run Tryz.prog w = .ok (.bool ((a==e)&&((b==f)&&((c==g)&&(d==h))))) w:=by
 simp[go_sem]
 (repeat' split)<;>simp_all
theorem nePix(a b c d e f g h:Int)(w:World):(binOp .neq 122 (.agg #[.int .u8 a,.int .u8 b,.int .u8 c,.int .u8 d]) (.agg #[.int .u8 e,.int .u8 f,.int .u8 g,.int .u8 h])).run Tryz.prog w = .ok (.bool (!((a==e)&&((b==f)&&((c==g)&&(d==h)))))) w:=by
 simp[go_sem]
 (repeat' split)<;>simp_all
theorem eqCol(a b c d e f g h:Int)(w:World):(binOp .eql 23 (.agg #[.int .u8 a,.int .u8 b,.int .u8 c,.int .u8 d]) (.agg #[.int .u8 e,.int .u8 f,.int .u8 g,.int .u8 h])).run Tryz.prog w = .ok (.bool ((a==e)&&((b==f)&&((c==g)&&(d==h))))) w:=by
 simp[go_sem]
 (repeat' split)<;>simp_all
theorem neStop(o a b c d p e f g h:Int)(w:World):(binOp .neq 155 (.agg #[.int .i64 o,.int .u8 a,.int .u8 b,.int .u8 c,.int .u8 d]) (.agg #[.int .i64 p,.int .u8 e,.int .u8 f,.int .u8 g,.int .u8 h])).run Tryz.prog w = .ok (.bool (!((o==p)&&((a==e)&&((b==f)&&((c==g)&&(d==h))))))) w:=by
 simp[go_sem]
 (repeat' split)<;>simp_all
theorem neSeg(v a b c d e f v' a' b' c' d' e' f':Int)(w:World):(binOp .neq 62 (.agg #[.int .i64 v,.int .i64 a,.int .i64 b,.int .i64 c,.int .i64 d,.int .i64 e,.int .i64 f]) (.agg #[.int .i64 v',.int .i64 a',.int .i64 b',.int .i64 c',.int .i64 d',.int .i64 e',.int .i64 f'])).run Tryz.prog w =
  .ok (.bool (!((v==v')&&((a==a')&&((b==b')&&((c==c')&&((d==d')&&((e==e')&&(f==f'))))))))) w:=by
 simp[go_sem]
 (repeat' split)<;>simp_all
end Go.Proofs.YtfmkkemfhjkajaaGreatDoor
end
