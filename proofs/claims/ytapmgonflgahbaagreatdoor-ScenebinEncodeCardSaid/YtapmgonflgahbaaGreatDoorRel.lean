/- A law for regions that draw their order: what each -/
import Derived.StillTail
import Derived.MapKept
import Derived.Tactics
import Derived.Test.YtapmgonflgahbaaGreatDoorBase
namespace Go.Rel
section
variable{P:Program}{md:Region.Mode}
def Upon(P:Program)(K:Value→World→Prop):Result Next→Prop
 | .ok (.value u) w'=>K u w'
 | .ok .skip w'=>K undef w'
 | .ok (.enter f args) w'=>Calls P f args w' (fun e w''=>∃v,e = .returned v∧K v w'')
 | _=>False
def Does(P:Program)(o:Oper)(ρ:Operand→Value)(w:World)(K:Value→World→Prop):Prop:=Upon P K ((execOp ρ o).run P w)
theorem Ai{o:Oper}{a:Act}{w:World}{K:Value→World→Prop}{next:Act→World→Prop}{Q:Exit→Act→World→Prop}
  (h:Does P o a.eval w K) (hn:∀v w',K v w'→next (a.put o.dst v) w'):o.wp P a w next Q:=by
 unfold Does at h;unfold Oper.wp;generalize (execOp a.eval o).run P w=r at *;cases r with
 | ok n w' =>
  cases n<;>simp only[Upon]at h<;>simp only[Oper.upon];case value u=>exact hn _ _ h
  case skip=>exact hn _ _ h
  case enter f args=>exact h.mono fun e w'' ⟨v,he,hk⟩=>by subst he; exact hn _ _ hk
 | halt x w'=>simp only[Upon]at h
def valOf(ρ:Operand→Value):Option Tmp→Value
 | none=>undef
 | some d=>ρ (.tmp d)
def kept(o:Oper)(v:Value):Value:=match o.dst with | none=>undef | some _=>v
abbrev Fact:=Value→World→Prop
def top:Fact:=fun _ _=>True
def Gp(ops:Array Oper)(Ts:List Fact)(ρ:Operand→Value)(w:World):List Edge→Prop
 | []=>True
 | e::es=>(Region.binds .any e=true→Ts.getD e.on top (valOf ρ ((ops[e.on]?).bind (·.dst))) w)∧Gp ops Ts ρ w es
theorem UG{ops:Array Oper}{Ts:List Fact}{ρ:Operand→Value}{w:World}(es:List Edge)(h:∀e∈es,Region.binds .any e=true→Ts.getD e.on top (valOf ρ ((ops[e.on]?).bind (·.dst))) w):Gp ops Ts ρ w es:=by
 induction es with
 | nil=>trivial
 | cons e es ih=>exact⟨h e (by simp),ih fun e' he'=>h e' (by simp[he'])⟩
structure Std (ρ:Operand→Value):Prop where
 const:∀v,ρ (.const v)=v
 global:∀g,ρ (.global g) = .q g 0
 func:∀f,ρ (.func f) = .func (.func f) #[] #[]
theorem Std.act(a:Act):Std a.eval:=⟨fun _=>rfl,fun _=>rfl,fun _=>rfl⟩
def Out(head:List Oper)(ρ zW:Operand→Value):Prop:=∀t,head.all (fun o => !(o.dst==some t))=true→ρ (.tmp t)=zW (.tmp t)
def tY(P:Program)(ops:Array Oper)(head:List Oper)(Ts:List Fact)(R:World→World→Prop)(C:World→Prop)(zW:Operand→Value)(o:Oper)(T:Fact):Prop:=
 ∀ρ w,Std ρ→Out head ρ zW→C w→Gp ops Ts ρ w o.after.toList →
  match o.guard with
  | none=>Does P o ρ w (fun v w'=>R w w'∧T (kept o v) w')
  | some (g,b)=>(valOf ρ ((ops[g]?).bind (·.dst)) = .bool b→Does P o ρ w (fun v w'=>R w w'∧T (kept o v) w'))∧(valOf ρ ((ops[g]?).bind (·.dst)) ≠ .bool b→T undef w)
def pG(P:Program)(ops:Array Oper)(head:List Oper)(Ts:List Fact)(R:World→World→Prop)(C:World→Prop)(zW:Operand→Value):List Oper→List Fact→Prop
 | [],_=>True
 | _::_,[]=>False
 | o::os,T::Us=>tY P ops head Ts R C zW o T∧pG P ops head Ts R C zW os Us
def End(K:Act→Prop)(w:World):List Oper→List Fact→Act→Prop
 | o::os,T::Us,a=>∀v,T v w→End K w os Us (a.put o.dst v)
 | _,_,a=>K a
theorem jZ{ops:Array Oper}{head:List Oper}{Ts:List Fact}{R:World→World→Prop}{C:World→Prop}{zW:Operand→Value} :
  ∀(os:List Oper) (Us:List Fact),pG P ops head Ts R C zW os Us→os.length≤Us.length∧∀(i:Nat) o,os[i]?=some o→tY P ops head Ts R C zW o (Us.getD i top)
 | [],_,_=>⟨by simp,fun i o h=>by simp at h⟩
 | _::_,[],h=>h.elim
 | o::os,T::Us,h=>by
  obtain⟨h1,h2⟩:=jZ os Us h.2
  refine⟨by simp; omega,fun i o' hi=>?_⟩
  cases i with
  | zero=>simp only[List.getElem?_cons_zero,an8]at hi; subst hi; exact h.1
  | succ i=>exact h2 i o' (by simpa using hi)
def okB(ops:Array Oper)(n:Nat)(sz:Nat):Bool:=
 decide (n≤ops.size) &&
 ((List.range n).all fun i=>match ops[i]? with | some o=>o.after.toList.all (fun e => !Region.binds .any e||decide (e.on<i)) | none=>false) &&
 ((List.range n).all fun i=>(List.range n).all fun j=>i==j||(match (ops[i]?).bind (·.dst),(ops[j]?).bind (·.dst)with | some d,some e=>d != e | _,_=>true)) &&
 ((List.range n).all fun i=>match (ops[i]?).bind (·.dst)with | some d=>decide (d<sz) | none=>true) &&
 (n==ops.size||(Region.sinkB .any ops n&&Region.chainB .any ops n)) &&
 Region.seqB .any ops (ops.size-n) n (List.replicate n true++List.replicate (ops.size-n) false).toArray
variable{ops:Array Oper}{Ts:List Fact}{C:World→Prop}{a0:Act}{n:Nat}
def Old(u:Value)(w:World):Prop:=∃b,u = .q b 0∧b<w.heap.size
theorem abd{u:Value}{w:World}(h:Old u w):u ≠ .q w.heap.size 0:=by
 obtain⟨b,rfl,hb⟩:=h;intro e;simp only[Value.pointer.injEq,an8,Addr.mk.injEq,and_true]at e;omega
def Als(ops:Array Oper)(Ts:List Fact)(A:List Nat):Prop:=∀i∈A,(∀o,ops[i]?=some o→∃t d,o.op = .alloc t∧o.dst=some d∧o.guard=none)∧∀u w,Ts.getD i top u w→Old u w
def JH(k:Nat)(C U:World→Prop)(i:Nat)(w:World):Prop:=C w∧(i=k→U w)
theorem tY.cls{head:List Oper}{R:World→World→Prop}{D:World→Prop}{zW:Operand→Value}{o:Oper}{T:Fact}(h:tY P ops head Ts R C zW o T)(hc:∀w,D w→C w):tY P ops head Ts R D zW o T:=fun ρ w a b c d=>h ρ w a b (hc w c) d
structure Inv (ops:Array Oper) (Ts:List Fact) (C:World→Prop) (a0:Act) (n:Nat) (A:List Nat) (k:Nat) (U:World→Prop) (listed:Array Bool) (a:Act) (w:World):Prop where
 defers:a.defers=a0.defers
 size:a.tmps.size=a0.tmps.size
 out:∀t,(∀j o,j<n→ops[j]?=some o→o.dst≠some t)→a.tmps[t]?=a0.tmps[t]?
 fact:∀j o,j<n→ops[j]?=some o→listed.getD j false=true→Ts.getD j top (valOf a.eval o.dst) w
 cls:C w
 apart:∀i∈A,∀j∈A,i≠j→i<n→j<n→∀o1 o2,ops[i]?=some o1→ops[j]?=some o2→listed.getD i false=true→listed.getD j false=true→valOf a.eval o1.dst≠valOf a.eval o2.dst
 unt:listed.getD k false=false→U w
theorem xP(a:Act)(d:Option Tmp)(v:Value):(a.put d v).tmps.size=a.tmps.size:=by cases d<;>simp[Act.put]
theorem put_defers(a:Act)(d:Option Tmp)(v:Value):(a.put d v).defers=a.defers:=by cases d<;>rfl
theorem sU(a:Act)(d:Option Tmp)(v:Value)(t:Tmp)(h:d≠some t):(a.put d v).tmps[t]?=a.tmps[t]?:=by
 cases d with
 | none=>rfl
 | some e =>
  have:e≠t:=fun h'=>h (by rw[h']);simp[Act.put,Array.getElem?_setIfInBounds_ne this]
theorem qH{a b:Act}{t:Tmp}(h:a.tmps[t]?=b.tmps[t]?):a.eval (.tmp t)=b.eval (.tmp t):=by
 simp only[Act.eval,Array.getD_eq_getD_getElem?,h]
theorem MF(a:Act)(d e:Option Tmp)(v:Value)(h:∀x y,d=some x→e=some y→x≠y):valOf (a.put d v).eval e=valOf a.eval e:=by
 cases e with
 | none=>rfl
 | some y =>
  apply qH;apply sU;intro hd;exact h y y hd rfl rfl
theorem Ia(a:Act)(o:Oper)(v:Value)(h:∀d,o.dst=some d→d<a.tmps.size):valOf (a.put o.dst v).eval o.dst=kept o v:=by
 unfold kept;cases hd:o.dst with
 | none=>rfl
 | some d =>
  have:=h d hd;simp[valOf,Act.eval,Act.put,this]
theorem Aj{ops:Array Oper}{a:Act}{o:Oper}{g:Nat}{b:Bool}(hg:o.guard=some (g,b)) :
  Region.wanted o (yielded ops a.tmps)=true↔valOf a.eval ((ops[g]?).bind (·.dst)) = .bool b:=by
 unfold Region.wanted yielded;rw[hg];simp only[aoo];cases hd:(ops[g]?).bind (·.dst)with
 | none=>simp[valOf,undef]
 | some d =>
  simp only[apX,valOf,Act.eval,Array.getD_eq_getD_getElem?];cases hv:a.tmps[d]? with
  | none=>simp[undef]
  | some v =>
   simp only[Option.getD_some];cases v<;>simp
structure Ok (ops:Array Oper) (n sz:Nat):Prop where
 le:n≤ops.size
 back:∀i o,i<n→ops[i]?=some o→∀e∈o.after,Region.binds .any e=true→e.on<i
 apart:∀i j,i<n→j<n→i≠j→∀d e,(ops[i]?).bind (·.dst)=some d→(ops[j]?).bind (·.dst)=some e→d≠e
 fits:∀i d,i<n→(ops[i]?).bind (·.dst)=some d→d<sz
 tail:n=ops.size∨(Region.sinkB .any ops n=true∧Region.chainB .any ops n=true)
 seq:Region.seqB .any ops (ops.size-n) n (List.replicate n true++List.replicate (ops.size-n) false).toArray=true
theorem Oy{sz:Nat}(h:okB ops n sz=true):Ok ops n sz:=by
 simp only[okB,aoq,aov,aoA,List.mem_range,apt,aoo]at h;obtain⟨⟨⟨⟨⟨h1,h2⟩,h3⟩,h4⟩,h5⟩,h6⟩:=h;refine⟨h1,fun i o hi ho e he hb=>?_,fun i j hi hj hij d e hd he=>?_,fun i d hi hd=>?_,h5,h6⟩
 ·have:=h2 i hi;rw[ho]at this;simp only[aoA,apt,apr,aov]at this;rcases this e (by simpa using he)with h | h
  ·rw[hb]at h; cases h
  exact h
 ·rcases h3 i hi j hj with h | h
  ·exact absurd h hij
  rw[hd,he]at h;simpa using h
 have:=h4 i hi;rw[hd]at this;simpa using this
theorem TI{o:Oper}{ρ:Operand→Value}{w:World}{K:Value→World→Prop}{t:TypeId}(ho:o.op = .alloc t)(h:Does P o ρ w K):Does P o ρ w (fun v w'=>K v w'∧v = .q w.heap.size 0):=by
 unfold Does at *;have e:(execOp ρ o).run P w=((Instr.alloc t true (.tuple #[])).run P w).andThen (fun v w' => .ok (.value v) w'):=by
  unfold execOp;rw[ho];simp only[aoV];rfl
 rw[e]at h ⊢;unfold Instr.alloc at *;simp only[aoV]at *;cases hz:(zeroValue t).run P w with
 | ok z w1 =>
  obtain rfl:=Go.MapKept.run_zeroValue_world hz;rw[hz]at h;simp[go_sem,Result.andThen,Upon]at h ⊢;exact h
 | halt x w1=>rw[hz]at h; exact h.elim
theorem Inv.step{sz k:Nat}{A:List Nat}{U:World→Prop}{R:Nat→World→World→Prop}(ok:Ok ops n sz)(hsz:a0.tmps.size=sz)(hm:∀(j:Nat) T,Ts[j]?=some T→∀i,i≠j→∀v w w',R i w w'→T v w→T v w')(hC:∀i w w',C w→R i w w'→C w')(hU:∀i w w',i≠k→U w→R i w w'→U w')(hA:Als ops Ts A)
  {listed:Array Bool} {a:Act} {w w':World} (hl0:listed.size=ops.size) (inv:Inv ops Ts C a0 n A k U listed a w) {i:Nat} {o:Oper} (hi:i<n) (ho:ops[i]?=some o) {v:Value} (hR:w'=w∨R i w w')
  (hT:Ts.getD i top (kept o v) w') (hF:i∈A→kept o v = .q w.heap.size 0):Inv ops Ts C a0 n A k U (listed.setIfInBounds i true) (a.put o.dst v) w':=by
 have same:=Ia a o v (fun d hd=>by rw[inv.size,hsz]; exact ok.fits i d hi (by rw[ho]; exact hd));have other:∀j oj,j<n→ops[j]?=some oj→i≠j→valOf (a.put o.dst v).eval oj.dst=valOf a.eval oj.dst:=fun j oj hj hoj hij =>
  MF a o.dst oj.dst v (fun x y hx hy=>ok.apart i j hi hj hij x y (by rw[ho]; exact hx) (by rw[hoj]; exact hy))
 refine⟨by rw[put_defers]; exact inv.defers,by rw[xP]; exact inv.size,fun t ht=>?_,fun j oj hj hoj hl=>?_,?_,fun i1 m1 i2 m2 hne k1 k2 o1 o2 h1 h2 l1 l2=>?_,fun hl=>?_⟩
 ·rw[sU _ _ _ _ (ht i o hi ho)]; exact inv.out t ht
 ·by_cases hij:i=j
  ·subst hij;obtain rfl:o=oj:=aof (ho.symm.trans hoj);rw[same]; exact hT
  rw[getD_set_ne false hij]at hl;have h1:=inv.fact j oj hj hoj hl;rw[other j oj hj hoj hij];rcases hR with rfl | hR
  ·exact h1
  by_cases hjl:j<Ts.length
  ·have e:Ts.getD j top=Ts[j]:=by simp[List.getD,List.getElem?_eq_getElem hjl]
   rw[e]at h1 ⊢;exact hm j _ (List.getElem?_eq_getElem hjl) i hij _ _ _ hR h1
  have e:Ts.getD j top=top:=by simp[List.getD,List.getElem?_eq_none (Nat.le_of_not_lt hjl)]
  rw[e]; trivial
 ·rcases hR with rfl | hR
  ·exact inv.cls
  exact hC i _ _ inv.cls hR
 ·by_cases e1:i=i1
  ·subst e1;obtain rfl:o=o1:=aof (ho.symm.trans h1);rw[same,other i2 o2 k2 h2 hne,hF m1];rw[getD_set_ne false hne]at l2;exact(abd ((hA i2 m2).2 _ _ (inv.fact i2 o2 k2 h2 l2))).symm
  rw[other i1 o1 k1 h1 e1];rw[getD_set_ne false e1]at l1;by_cases e2:i=i2
  ·subst e2;obtain rfl:o=o2:=aof (ho.symm.trans h2);rw[same,hF m2];exact abd ((hA i1 m1).2 _ _ (inv.fact i1 o1 k1 h1 l1))
  rw[other i2 o2 k2 h2 e2];rw[getD_set_ne false e2]at l2;exact inv.apart i1 m1 i2 m2 hne k1 k2 o1 o2 h1 h2 l1 l2
 by_cases hik:i=k
 ·subst hik;have hlt:i<listed.size:=by rw[hl0]; exact(Array.getElem?_eq_some_iff.1 ho).1
  simp[hlt]at hl
 rw[getD_set_ne false hik]at hl;rcases hR with rfl | hR
 ·exact inv.unt hl
 exact hU i _ _ hik (inv.unt hl) hR
def Ib(n:Nat)(listed:Array Bool):List Nat:=(List.range n).filter fun j => !listed.getD j true
theorem acZ{n i:Nat}{listed:Array Bool}(hi:i∈Ib n listed):(Ib n (listed.setIfInBounds i true)).length+1=(Ib n listed).length:=by
 have hnd:(Ib n listed).Nodup:=List.Nodup.sublist List.filter_sublist List.nodup_range;have e:Ib n (listed.setIfInBounds i true)=(Ib n listed).erase i:=by
  rw[hnd.erase_eq_filter];unfold Ib;rw[List.filter_filter];apply List.filter_congr;intro j hj;by_cases hij:i=j
  ·subst hij;have hm:=(List.mem_filter.1 hi).2;simp only[bne_self_eq_false,apN];have hlt:i<listed.size:=by
    rcases aoT i listed.size with h | h
    ·exact h
    simp[Array.getElem?_eq_none h]at hm
   simp[hlt]
  rw[getD_set_ne true hij];have:(j != i)=true:=by simp; exact fun h=>hij h.symm
  rw[this]; simp
 rw[e,List.length_erase_of_mem hi];have:0<(Ib n listed).length:=List.length_pos_of_mem hi;omega
theorem yF{n i:Nat}{listed:Array Bool}:i∈Ib n listed↔i<n∧listed.getD i true=false:=by
 unfold Ib; rw[List.mem_filter,List.mem_range]; simp
theorem Qh{sz:Nat}(ok:Ok ops n sz){listed:Array Bool}(inv:HeadInv .any ops n listed)(h:Ib n listed≠[]):∃i,i∈Region.ready .any ops listed:=by
 have key:∀m,(∃i,i∈Ib n listed∧i≤m)→∃i,i∈Region.ready .any ops listed:=by
  intro m;induction m with
  | zero =>
   rintro⟨i,hi,h0⟩;obtain rfl:i=0:=by omega
   obtain⟨h1,h2⟩:=yF.1 hi;have hlt:0<ops.size:=by have:=ok.le; omega
   have ho:ops[0]?=some ops[0]:=by simp[hlt]
   refine⟨0,mem_ready.2 ⟨h2,_,ho,fun e he hb=>?_⟩⟩;exact absurd (ok.back 0 _ h1 ho e he hb) (by omega)
  | succ m ih =>
   rintro⟨i,hi,h0⟩;by_cases hex:∃i,i∈Ib n listed∧i≤m
   ·exact ih hex
   obtain⟨h1,h2⟩:=yF.1 hi;have hlt:i<ops.size:=by have:=ok.le; omega
   have ho:ops[i]?=some ops[i]:=by simp[hlt]
   refine⟨i,mem_ready.2 ⟨h2,_,ho,fun e he hb=>?_⟩⟩;have hlt2:=ok.back i _ h1 ho e he hb;cases hl:listed.getD e.on true with
   | false=>exact absurd ⟨e.on,yF.2 ⟨by omega,hl⟩,by omega⟩ hex
   | true =>
    have hs:e.on<listed.size:=by rw[inv.size]; omega
    simp[hs]at hl ⊢; exact hl
 cases hu:Ib n listed with
 | nil=>exact absurd hu h
 | cons i _=>exact key i ⟨i,by simp[hu],an7 _⟩
theorem ac0{listed:Array Bool}(hn:n≤ops.size)(inv:HeadInv .any ops n listed)(h:Ib n listed=[]) :
  listed=(List.replicate n true++List.replicate (ops.size-n) false).toArray:=by
 apply Array.ext
 ·rw[inv.size]; simp; omega
 intro j h1 h2;have hj:j<ops.size:=by rw[←inv.size]; exact h1
 simp only[List.getElem_toArray,List.getElem_append,List.getElem_replicate,List.length_replicate];split
 ·rename_i hjn;cases hl:listed[j]with
  | true=>rfl
  | false =>
   have:j∈Ib n listed:=yF.2 ⟨hjn,by simp[h1,hl]⟩;rw[h]at this; cases this
 rename_i hjn;have:=inv.tail j (by omega) hj;simpa[h1]using this
theorem BP{sz k:Nat}{A:List Nat}{U:World→Prop}{R:Nat→World→World→Prop}{Q:Exit→Act→World→Prop}(ok:Ok ops n sz)(hsz:a0.tmps.size=sz)(hm:∀(j:Nat) T,Ts[j]?=some T→∀i,i≠j→∀v w w',R i w w'→T v w→T v w')(hC:∀i w w',C w→R i w w'→C w')(hU:∀i w w',i≠k→U w→R i w w'→U w')(hA:Als ops Ts A)
  (hob:∀(i:Nat) o,i<n→ops[i]?=some o→tY P ops (ops.toList.take n) Ts (R i) (JH k C U i) a0.eval o (Ts.getD i top)) (g:Nat) (hg:g=ops.size-n)
  (hend:∀a w,Inv ops Ts C a0 n A k U (List.replicate n true++List.replicate (ops.size-n) false).toArray a w→wpList P ops Q (ops.toList.drop n) a w) :
  ∀(f:Nat) (listed:Array Bool) (a:Act) (w:World),(Ib n listed).length=f→HeadInv .any ops n listed→Inv ops Ts C a0 n A k U listed a w→wpAny P .any ops Q (f+g) listed a w
 | 0,listed,a,w,hu,hh,inv=>by
  rw[aoY]
  have hu':Ib n listed=[]:=apc hu
  have hl:=ac0 ok.le hh hu'
  subst hl
  have hlen:(ops.toList.drop n).length=g:=by simp[hg]
  rw[←hlen]
  exact wpAny_of_seq (md := .any) (Q':=Q) (ops.toList.drop n) n _ a w (fun j=>by simp[List.getElem?_drop]) (by rw[hlen,hg]; exact ok.seq) (hend a w inv)
 | f+1,listed,a,w,hu,hh,inv=>by
  rw[show f+1+g=(f+g)+1 by omega]
  have hne:Ib n listed≠[]:=fun h=>by rw[h]at hu; simp at hu
  obtain⟨i0,hi0⟩:=Qh ok hh hne
  refine⟨fun h0=>(by rw[h0]at hi0; cases hi0),fun i hi=>?_⟩
  have hin:i<n:=by
   rcases aoT i n with h | h
   ·exact h
   ·rcases ok.tail with ht | ⟨hs,hc⟩
    ·obtain⟨_,o,ho,_⟩:=mem_ready.1 hi
     have:=(Array.getElem?_eq_some_iff.1 ho).1
     omega
    ·obtain⟨j,hj⟩:=List.exists_mem_of_ne_nil _ hne
     obtain⟨hjn,hjl⟩:=yF.1 hj
     have hns:n<ops.size:=by
      obtain⟨_,o,ho,_⟩:=mem_ready.1 hi
      have:=(Array.getElem?_eq_some_iff.1 ho).1
      omega
     exact absurd hi (tail_waits hs hc hns hh _ j rfl hjn hjl i h)
  obtain⟨hun,o,ho,hall⟩:=mem_ready.1 hi
  have hmem:i∈Ib n listed:=yF.2 ⟨hin,hun⟩
  have hcnt:=acZ hmem
  have hOut:Out (ops.toList.take n) a.eval a0.eval:=by
   intro t ht
   apply qH
   apply inv.out
   intro j oj hj hoj hd
   rw[aoA]at ht
   have hmem:oj∈ops.toList.take n:=by
    rw[List.mem_take_iff_getElem]
    have:=(Array.getElem?_eq_some_iff.1 hoj)
    obtain⟨h1,h2⟩:=this
    exact⟨j,by simp; omega,by simpa using h2⟩
   have:=ht oj hmem
   simp[hd]at this
  have Vk:Gp ops Ts a.eval w o.after.toList:=by
   apply UG
   intro e he hb
   have he':e∈o.after:=by simpa using he
   have hlt:=ok.back i o hin ho e he' hb
   have hl:=hall e he' hb
   have hlt2:e.on<ops.size:=by have:=ok.le; omega
   have ho2:ops[e.on]?=some ops[e.on]:=by simp[hlt2]
   have:=inv.fact e.on _ (by omega) ho2 hl
   rw[ho2]
   exact this
  have hO:=hob i o hin ho a.eval w (Std.act a) hOut ⟨inv.cls,fun e=>inv.unt (by rw[←e]; exact getD_both hun)⟩ Vk
  have next:∀v w',(w'=w∨R i w w')→Ts.getD i top (kept o v) w'→(i∈A→kept o v = .q w.heap.size 0)→wpAny P .any ops Q (f+g) (listed.setIfInBounds i true) (a.put o.dst v) w':=fun v w' hR hT hF =>
   BP ok hsz hm hC hU hA hob g hg hend f _ _ _ (by omega) (hh.set hi hin) (inv.step ok hsz hm hC hU hA hh.size hin ho hR hT hF)
  unfold wpOp
  rw[ho]
  simp only
  cases hgd:o.guard with
  | none =>
   have hw:Region.wanted o (yielded ops a.tmps)=true:=by unfold Region.wanted; rw[hgd]
   rw[hgd]at hO
   simp only at hO
   rw[an6 hw]
   by_cases hij:i∈A
   ·obtain⟨t,d,hop,hd,_⟩:=(hA i hij).1 o ho
    exact .inl (Ai (TI hop hO) fun v w' hk=>next v w' (.inr hk.1.1) hk.1.2 (fun _=>by unfold kept; rw[hd]; exact hk.2))
   ·exact .inl (Ai hO fun v w' hk=>next v w' (.inr hk.1) hk.2 (fun h=>absurd h hij))
  | some gb =>
   have hij:i∉A:=by
    intro hij
    obtain⟨t,d,hop,hd,hgn⟩:=(hA i hij).1 o ho
    rw[hgn]at hgd; cases hgd
   obtain⟨gi,b⟩:=gb
   rw[hgd]at hO
   simp only at hO
   by_cases hw:Region.wanted o (yielded ops a.tmps)=true
   ·rw[an6 hw]
    exact .inl (Ai (hO.1 ((Aj hgd).1 hw)) fun v w' hk=>next v w' (.inr hk.1) hk.2 (fun h=>absurd h hij))
   ·rw[an0 hw]
    have hT:=hO.2 (fun h=>hw ((Aj hgd).2 h))
    refine next undef w (.inl rfl) ?_ (fun h=>absurd h hij)
    unfold kept
    cases o.dst<;>exact hT
theorem JK{K:Act→Prop}{w:World}{ρ:Operand→Value}:∀(os:List Oper) (Us:List Fact) (b:Act),os.length≤Us.length→End K w os Us b→(∀(j:Nat) o,os[j]?=some o→Us.getD j top (valOf ρ o.dst) w) →
  K (os.foldl (fun a o=>a.put o.dst (valOf ρ o.dst)) b)
 | [],Us,b,_,h,_=>by cases Us<;>exact h
 | _::_,[],_,hl,_,_=>by simp at hl
 | o::os,T::Us,b,hl,h,hf=>by
  refine JK os Us _ (by simpa using hl) (h _ (hf 0 o rfl)) fun j o' hj=>?_
  exact hf (j+1) o' (by simpa using hj)
theorem Qi(a:Act):∀(os:List Oper) (b:Act),b.tmps.size=a.tmps.size→(∀o∈os,∀d,o.dst=some d→d<a.tmps.size) →
  (os.foldl (fun c o=>c.put o.dst (valOf a.eval o.dst)) b).defers=b.defers∧(os.foldl (fun c o=>c.put o.dst (valOf a.eval o.dst)) b).tmps.size=a.tmps.size ∧
  ∀t,(os.foldl (fun c o=>c.put o.dst (valOf a.eval o.dst)) b).tmps[t]?=if (∃o∈os,o.dst=some t)then a.tmps[t]? else b.tmps[t]?
 | [],b,hs,_=>⟨rfl,hs,fun t=>by simp⟩
 | o::os,b,hs,hd=>by
  obtain⟨h1,h2,h3⟩:=Qi a os (b.put o.dst (valOf a.eval o.dst)) (by rw[xP]; exact hs) (fun o' ho'=>hd o' (by simp[ho']))
  refine⟨by simp only[List.foldl_cons]; rw[h1,put_defers],by simpa using h2,fun t=>?_⟩
  simp only[List.foldl_cons]
  rw[h3 t]
  by_cases he:∃o'∈os,o'.dst=some t
  ·rw[an6 he]
   obtain⟨o',ho',hd'⟩:=he
   rw[an6 ⟨o',by simp[ho'],hd'⟩]
  ·rw[an0 he]
   by_cases ho:o.dst=some t
   ·rw[an6 ⟨o,by simp,ho⟩,ho]
    have hlt:t<a.tmps.size:=hd o (by simp) t ho
    have hlt':t<b.tmps.size:=hs▸hlt
    simp[Act.put,valOf,Act.eval,hlt',hlt]
   ·rw[an0,sU _ _ _ _ ho]
    rintro⟨o',ho',hd'⟩
    rcases aon.1 ho' with rfl | h
    ·exact ho hd'
    ·exact he ⟨o',h,hd'⟩
theorem Vl{l:List Oper}{a a':Act}{w:World}{K:Act→Prop}(ok:Ok l.toArray n a.tmps.size)(hlen:(l.take n).length≤Ts.length)(h:End K w (l.take n) Ts a)(hd:a'.defers=a.defers)(hs:a'.tmps.size=a.tmps.size)
  (hf:∀(j:Nat) o,(l.take n)[j]?=some o→Ts.getD j top (valOf a'.eval o.dst) w) (ho:∀t,(∀j o,j<n→l.toArray[j]?=some o→o.dst≠some t)→a'.tmps[t]?=a.tmps[t]?):K a':=by
 have hK:=JK (l.take n) Ts a hlen h hf;have hfit:∀o∈l.take n,∀d,o.dst=some d→d<a'.tmps.size:=by
  intro o ho d hd;rw[hs];obtain⟨j,hj⟩:=List.getElem?_of_mem ho;have hjn:j<n:=by
   have:=(List.getElem?_eq_some_iff.1 hj).1;simp at this; omega
  have ho':l.toArray[j]?=some o:=by rw[List.getElem?_take_of_lt hjn]at hj; simpa using hj
  exact ok.fits j d hjn (by rw[ho']; exact hd)
 obtain⟨f1,f2,f3⟩:=Qi a' (l.take n) a hs.symm hfit;have hfold:(l.take n).foldl (fun c o=>c.put o.dst (valOf a'.eval o.dst)) a=a':=by
  generalize (l.take n).foldl (fun c o=>c.put o.dst (valOf a'.eval o.dst)) a=b at f1 f2 f3;obtain⟨bt,bd⟩:=b;obtain⟨at',ad⟩:=a';simp only at f1 f2 f3 hd;have e1:bt=at':=by
   apply Array.ext_getElem?;intro t;rw[f3 t];split
   ·rfl
   rename_i hne;refine(ho t fun j o hj ho hd=>hne ⟨o,?_,hd⟩).symm;rw[List.mem_iff_getElem?];exact⟨j,by rw[List.getElem?_take_of_lt hj]; simpa using ho⟩
  rw[e1,f1,hd]
 rw[hfold]at hK;exact hK
theorem LV{Q:Exit→Act→World→Prop}{a:Act}{w:World}{l:List Oper}(n:Nat)(hB:okB l.toArray n a.tmps.size=true)
  (R:Nat→World→World→Prop) (C:World→Prop) (A:List Nat) (k:Nat) (U:World→Prop) (Ts:List Fact) (hA:Als l.toArray Ts A) (hC0:C { w with drawn:=w.drawn+1 }) (hU0:U { w with drawn:=w.drawn+1 }) (hC:∀i w w',C w→R i w w'→C w') (hU:∀i w w',i≠k→U w→R i w w'→U w') (hm:∀(j:Nat) T,Ts[j]?=some T→∀i,i≠j→∀v w w',R i w w'→T v w→T v w')
  (hob:∀(i:Nat) o,i<n→l[i]?=some o→tY P l.toArray (l.take n) Ts (R i) (JH k C U i) a.eval o (Ts.getD i top))
  (hend:∀a' w',C w'→a'.defers=a.defers→a'.tmps.size=a.tmps.size→(∀(j:Nat) o,(l.take n)[j]?=some o→Ts.getD j top (valOf a'.eval o.dst) w')→(∀t,(∀j o,j<n→l.toArray[j]?=some o→o.dst≠some t)→a'.tmps[t]?=a.tmps[t]?) →
   (∀i∈A,∀j∈A,i≠j→i<n→j<n→∀o1 o2,l.toArray[i]?=some o1→l.toArray[j]?=some o2→valOf a'.eval o1.dst≠valOf a'.eval o2.dst)→wpList P l.toArray Q (l.drop n) a' w') :
  wpAny P .any l.toArray Q l.toArray.size (Array.replicate l.toArray.size false) a { w with drawn:=w.drawn+1 }:=by
 have ok:=Oy hB;have hle:n≤l.length:=by have:=ok.le; simpa using this
 have inv0:HeadInv .any l.toArray n (Array.replicate l.toArray.size false):=
  ⟨by simp,fun j oj _ hl=>(by rw[getD_replicate_false]at hl; cases hl),fun t _ ht=>getD_in (by simpa using ht) (getD_replicate_false _ _)⟩
 have inv1:Inv l.toArray Ts C a n A k U (Array.replicate l.toArray.size false) a { w with drawn:=w.drawn+1 }:=
  ⟨rfl,rfl,fun _ _=>rfl,fun j o _ _ hl=>(by rw[getD_replicate_false]at hl; cases hl),hC0,fun _ _ _ _ _ _ _ _ _ _ _ hl=>(by rw[getD_replicate_false]at hl; cases hl),fun _=>hU0⟩
 have hun:(Ib n (Array.replicate l.toArray.size false)).length=n:=by
  have:Ib n (Array.replicate l.toArray.size false)=List.range n:=by
   unfold Ib;rw[List.filter_eq_self];intro j hj;have hj':j<l.length:=by have:=List.mem_range.1 hj; omega
   simp[hj']
  rw[this,List.length_range]
 have H:=BP (P:=P) (Q:=Q) ok rfl hm hC hU hA (fun i o hi ho=>hob i o hi (by simpa using ho)) (l.toArray.size-n) rfl (fun a' w' inv=>?_) n _ a _ hun inv0 inv1
 ·rw[show n+(l.toArray.size-n)=l.toArray.size by simp; omega]at H;exact H
 have hall:∀j,j<n→(List.replicate n true++List.replicate (l.length-n) false).toArray.getD j false=true:=fun j hj=>by
  have e:(List.replicate n true++List.replicate (l.length-n) false)[j]?=some true:=by
   rw[List.getElem?_append_left (by simpa using hj),List.getElem?_replicate,an6 hj]
  simp[e]
 refine hend a' w' inv.cls inv.defers inv.size (fun j o hj=>?_) inv.out fun i hi j hj hne k1 k2 o1 o2 h1 h2=>inv.apart i hi j hj hne k1 k2 o1 o2 h1 h2 (hall i k1) (hall j k2);have hjn:j<n:=by
  have:=(List.getElem?_eq_some_iff.1 hj).1;simp at this; omega
 exact inv.fact j o hjn (by rw[List.getElem?_take_of_lt hjn]at hj; simpa using hj) (hall j hjn)
theorem AQ{ops:Array Oper}{Ts:List Fact}:Als ops Ts []:=fun _ h=>by cases h
theorem wp_region{id:Nat}{Q:Exit→Act→World→Prop}{a:Act}{w:World}{l:List Oper}(n:Nat)(hmo:P.follows .mixedOrders=true)(hB:okB l.toArray n a.tmps.size=true)
  (R:World→World→Prop) (C:World→Prop) (Ts:List Fact) (hC0:C { w with drawn:=w.drawn+1 }) (hC:∀w w',C w→R w w'→C w') (hm:∀T∈Ts,∀v w w',R w w'→T v w→T v w')
  (hob:pG P l.toArray (l.take n) Ts R C a.eval (l.take n) Ts) (hend:∀w',C w'→End (fun a'=>wpList P l.toArray Q (l.drop n) a' w') w' (l.take n) Ts a) :
  (Code.region id l.toArray true).wp P Q a w:=by
 obtain⟨hlen,hget⟩:=jZ _ _ hob;exact apJ hmo (LV n hB (fun _=>R) C [] 0 (fun _=>True) Ts AQ hC0 trivial (fun _=>hC) (fun _ _ _ _ _ _=>trivial) (fun j T hT i _=>hm T (List.mem_of_getElem? hT))
  (fun i o hi ho=>(hget i o (by rw[List.getElem?_take_of_lt hi]; exact ho)).cls fun _ h=>h.1) fun a' w' hc hd hs hf ho _=>Vl (K:=fun a'=>wpList P l.toArray Q (l.drop n) a' w') (Oy hB) hlen (hend w' hc) hd hs hf ho)
def is(c:Value):Fact:=fun v _=>v=c
def VW(R:World→World→Prop)(T:Fact):Prop:=∀v w w',R w w'→T v w→T v w'
theorem aI{R:World→World→Prop}(c:Value):VW R (is c):=fun _ _ _ _ h=>h
def yV(R:World→World→Prop):List Fact→Prop
 | []=>True
 | T::Ts=>VW R T∧yV R Ts
theorem yV.mem{R:World→World→Prop}:∀{Ts:List Fact},yV R Ts→∀T∈Ts,∀v w w',R w w'→T v w→T v w'
 | _::_,h,T,hT=>by
  rcases aon.1 hT with rfl | hT
  ·exact h.1
  ·exact yV.mem h.2 T hT
end
end Go.Rel
namespace Go.IG
open Go.Rel
section
variable{P:Program}{md:Region.Mode}
abbrev tY (P:Program)(ops:Array Oper)(head:List Oper)(Ts:List Fact)(R:World→World→Prop)(C:World→Prop)(zW:Operand→Value)(o:Oper)(T:Fact):Prop:=Rel.tY P ops head Ts R C zW o T
abbrev JH:=@Rel.JH
def pG(P:Program)(ops:Array Oper)(head:List Oper)(Ts:List Fact)(R:Nat→World→World→Prop)(C:Nat→World→Prop)(zW:Operand→Value):Nat→List Oper→List Fact→Prop
 | _,[],_=>True
 | _,_::_,[]=>False
 | i,o::os,T::Us=>tY P ops head Ts (R i) (C i) zW o T∧pG P ops head Ts R C zW (i+1) os Us
theorem jZ{ops:Array Oper}{head:List Oper}{Ts:List Fact}{R:Nat→World→World→Prop}{C:Nat→World→Prop}{zW:Operand→Value} :
  ∀(os:List Oper) (Us:List Fact) (k:Nat),pG P ops head Ts R C zW k os Us→os.length≤Us.length∧∀(i:Nat) o,os[i]?=some o→tY P ops head Ts (R (k+i)) (C (k+i)) zW o (Us.getD i top)
 | [],_,_,_=>⟨by simp,fun i o h=>by simp at h⟩
 | _::_,[],_,h=>h.elim
 | o::os,T::Us,k,h=>by
  obtain⟨h1,h2⟩:=jZ os Us (k+1) h.2
  refine⟨by simp; omega,fun i o' hi=>?_⟩
  cases i with
  | zero=>simp only[List.getElem?_cons_zero,an8]at hi; subst hi; exact h.1
  | succ i =>
   have:=h2 i o' (by simpa using hi)
   rw[show k+(i+1)=k+1+i by omega]
   exact this
theorem wp_region{id:Nat}{Q:Exit→Act→World→Prop}{a:Act}{w:World}{l:List Oper}(n:Nat)(hmo:P.follows .mixedOrders=true)(hB:okB l.toArray n a.tmps.size=true)
  (R:Nat→World→World→Prop) (C:World→Prop) (k:Nat) (U:World→Prop) (Ts:List Fact) (hC0:C { w with drawn:=w.drawn+1 }) (hU0:U { w with drawn:=w.drawn+1 }) (hC:∀i w w',C w→R i w w'→C w') (hU:∀i w w',i≠k→U w→R i w w'→U w') (hm:∀(j:Nat) T,Ts[j]?=some T→∀i,i≠j→∀v w w',R i w w'→T v w→T v w')
  (hob:pG P l.toArray (l.take n) Ts R (JH k C U) a.eval 0 (l.take n) Ts) (hend:∀w',C w'→Go.Rel.End (fun a'=>wpList P l.toArray Q (l.drop n) a' w') w' (l.take n) Ts a) :
  (Code.region id l.toArray true).wp P Q a w:=by
 obtain⟨hlen,hget⟩:=jZ _ _ 0 hob;exact apJ hmo (LV n hB R C [] k U Ts AQ hC0 hU0 hC hU hm
  (fun i o hi ho=>by
   have:=hget i o (by rw[List.getElem?_take_of_lt hi]; exact ho)
   rw[aoY]at this; exact this) fun a' w' hc hd hs hf ho _=>Vl (K:=fun a'=>wpList P l.toArray Q (l.drop n) a' w') (Oy hB) hlen (hend w' hc) hd hs hf ho)
def But(k:Nat)(R S:World→World→Prop)(i:Nat):World→World→Prop:=if i=k then S else R
def qB(k:Nat)(R S:World→World→Prop):Nat→List Fact→Prop
 | _,[]=>True
 | j,T::Ts=>VW R T∧(j≠k→VW S T)∧qB k R S (j+1) Ts
theorem qB.get{k:Nat}{R S:World→World→Prop}:∀{Ts:List Fact} {m:Nat},qB k R S m Ts→∀(j:Nat) T,Ts[j]?=some T→∀i,i≠m+j→∀v w w',But k R S i w w'→T v w→T v w'
 | T0::Ts,m,h,j,T,hT,i,hij,v,w,w',hR,hv=>by
  cases j with
  | zero =>
   simp only[List.getElem?_cons_zero,an8]at hT
   subst hT
   unfold But at hR
   split at hR
   ·rename_i e; subst e; exact h.2.1 (fun e=>hij (by omega)) v w w' hR hv
   ·exact h.1 v w w' hR hv
  | succ j=>exact qB.get h.2.2 j T (by simpa using hT) i (by omega) v w w' hR hv
theorem qB.mem{k:Nat}{R S:World→World→Prop}{Ts:List Fact}(h:qB k R S 0 Ts):∀(j:Nat) T,Ts[j]?=some T→∀i,i≠j→∀v w w',But k R S i w w'→T v w→T v w':=
 fun j T hT i hij=>qB.get h j T hT i (by omega)
theorem afn{k i:Nat}{R S:World→World→Prop}(h:i≠k):But k R S i=R:=an0 h
end
end Go.IG
namespace Go.Proofs.YtapmgonflgahbaaGreatDoor
open Go.RowKit
end Go.Proofs.YtapmgonflgahbaaGreatDoor
