/- A law for regions that draw their order: what each operation's value is good for is said once, stable under all that the others do; no order is looked at. No program in sight. -/
import Derived.StillTail
import Derived.Tactics
import Derived.Test.YtfmkkemfhjkajaaGreatDoorBase
namespace Go.Rel
section
variable{P:Program}{md:Region.Mode}
/-- What an operation hands on: its value and the world behind it meet K. -/
def Upon(P:Program)(K:Value→World→Prop):Result Next→Prop
 | .ok (.value u) w'=>K u w'
 | .ok .skip w'=>K undef w'
 | .ok (.enter f args) w'=>Calls P f args w' (fun e w''=>∃v,e = .returned v∧K v w'')
 | _=>False
def Does(P:Program)(o:Oper)(ρ:Operand→Value)(w:World)(K:Value→World→Prop):Prop:=Upon P K ((execOp ρ o).run P w)
theorem wp_of_does{o:Oper}{a:Act}{w:World}{K:Value→World→Prop}{next:Act→World→Prop}{Q:Exit→Act→World→Prop}
  (h:Does P o a.eval w K) (hn:∀v w',K v w'→next (a.put o.dst v) w'):o.wp P a w next Q:=by
 unfold Does at h
 unfold Oper.wp
 generalize (execOp a.eval o).run P w=r at *
 cases r with
 | ok n w' =>
  cases n<;>simp only[Upon]at h<;>simp only[Oper.upon]
  case value u=>exact hn _ _ h
  case skip=>exact hn _ _ h
  case enter f args=>exact h.mono fun e w'' ⟨v,he,hk⟩=>by subst he; exact hn _ _ hk
 | halt x w'=>simp only[Upon]at h
/-- The value in a slot; nothing where there is none. -/
def valOf(ρ:Operand→Value):Option Tmp→Value
 | none=>undef
 | some d=>ρ (.tmp d)
/-- What is kept of an operation's value: nothing where it has no slot. -/
def kept(o:Oper)(v:Value):Value:=match o.dst with | none=>undef | some _=>v
abbrev Fact:=Value→World→Prop
def top:Fact:=fun _ _=>True
def Deps(ops:Array Oper)(Ts:List Fact)(ρ:Operand→Value)(w:World):List Edge→Prop
 | []=>True
 | e::es=>(Region.binds .any e=true→Ts.getD e.on top (valOf ρ ((ops[e.on]?).bind (·.dst))) w)∧Deps ops Ts ρ w es
theorem deps_of{ops:Array Oper}{Ts:List Fact}{ρ:Operand→Value}{w:World}(es:List Edge)(h:∀e∈es,Region.binds .any e=true→Ts.getD e.on top (valOf ρ ((ops[e.on]?).bind (·.dst))) w):Deps ops Ts ρ w es:=by
 induction es with
 | nil=>trivial
 | cons e es ih=>exact⟨h e (by simp),ih fun e' he'=>h e' (by simp[he'])⟩
structure Std (ρ:Operand→Value):Prop where
 const:∀v,ρ (.const v)=v
 global:∀g,ρ (.global g) = .pointer (some ⟨g,0,none⟩)
 func:∀f,ρ (.func f) = .func (.func f) #[] #[]
theorem Std.act(a:Act):Std a.eval:=⟨fun _=>rfl,fun _=>rfl,fun _=>rfl⟩
/-- The slots that the first operations do not write read as they did. -/
def Out(head:List Oper)(ρ ρ0:Operand→Value):Prop:=∀t,head.all (fun o => !(o.dst==some t))=true→ρ (.tmp t)=ρ0 (.tmp t)
def Oblig(P:Program)(ops:Array Oper)(head:List Oper)(Ts:List Fact)(R:World→World→Prop)(C:World→Prop)(ρ0:Operand→Value)(o:Oper)(T:Fact):Prop:=
 ∀ρ w,Std ρ→Out head ρ ρ0→C w→Deps ops Ts ρ w o.after.toList →
  match o.guard with
  | none=>Does P o ρ w (fun v w'=>R w w'∧T (kept o v) w')
  | some (g,b)=>(valOf ρ ((ops[g]?).bind (·.dst)) = .bool b→Does P o ρ w (fun v w'=>R w w'∧T (kept o v) w'))∧(valOf ρ ((ops[g]?).bind (·.dst)) ≠ .bool b→T undef w)
def Obligs(P:Program)(ops:Array Oper)(head:List Oper)(Ts:List Fact)(R:World→World→Prop)(C:World→Prop)(ρ0:Operand→Value):List Oper→List Fact→Prop
 | [],_=>True
 | _::_,[]=>False
 | o::os,T::Us=>Oblig P ops head Ts R C ρ0 o T∧Obligs P ops head Ts R C ρ0 os Us
/-- What follows, for all values that meet their facts. -/
def End(K:Act→Prop)(w:World):List Oper→List Fact→Act→Prop
 | o::os,T::Us,a=>∀v,T v w→End K w os Us (a.put o.dst v)
 | _,_,a=>K a
theorem obligs_get{ops:Array Oper}{head:List Oper}{Ts:List Fact}{R:World→World→Prop}{C:World→Prop}{ρ0:Operand→Value} :
  ∀(os:List Oper) (Us:List Fact),Obligs P ops head Ts R C ρ0 os Us→os.length≤Us.length∧∀(i:Nat) o,os[i]?=some o→Oblig P ops head Ts R C ρ0 o (Us.getD i top)
 | [],_,_=>⟨by simp,fun i o h=>by simp at h⟩
 | _::_,[],h=>h.elim
 | o::os,T::Us,h=>by
  obtain⟨h1,h2⟩:=obligs_get os Us h.2
  refine⟨by simp; omega,fun i o' hi=>?_⟩
  cases i with
  | zero=>simp only[List.getElem?_cons_zero,Option.some.injEq]at hi; subst hi; exact h.1
  | succ i=>exact h2 i o' (by simpa using hi)
/-- What the kernel asks of a region: edges go back; no slot is written twice; the tail waits for the rest. -/
def okB(ops:Array Oper)(n:Nat)(sz:Nat):Bool:=
 decide (n≤ops.size) &&
 ((List.range n).all fun i=>match ops[i]? with | some o=>o.after.toList.all (fun e => !Region.binds .any e||decide (e.on<i)) | none=>false) &&
 ((List.range n).all fun i=>(List.range n).all fun j=>i==j||(match (ops[i]?).bind (·.dst),(ops[j]?).bind (·.dst)with | some d,some e=>d != e | _,_=>true)) &&
 ((List.range n).all fun i=>match (ops[i]?).bind (·.dst)with | some d=>decide (d<sz) | none=>true) &&
 (n==ops.size||(Region.sinkB .any ops n&&Region.chainB .any ops n)) &&
 Region.seqB .any ops (ops.size-n) n (List.replicate n true++List.replicate (ops.size-n) false).toArray
variable{ops:Array Oper}{Ts:List Fact}{R:World→World→Prop}{C:World→Prop}{a0:Act}{n:Nat}
structure Inv (ops:Array Oper) (Ts:List Fact) (C:World→Prop) (a0:Act) (n:Nat) (listed:Array Bool) (a:Act) (w:World):Prop where
 defers:a.defers=a0.defers
 size:a.tmps.size=a0.tmps.size
 out:∀t,(∀j o,j<n→ops[j]?=some o→o.dst≠some t)→a.tmps[t]?=a0.tmps[t]?
 fact:∀j o,j<n→ops[j]?=some o→listed.getD j false=true→Ts.getD j top (valOf a.eval o.dst) w
 cls:C w
theorem put_size(a:Act)(d:Option Tmp)(v:Value):(a.put d v).tmps.size=a.tmps.size:=by cases d<;>simp[Act.put]
theorem put_defers(a:Act)(d:Option Tmp)(v:Value):(a.put d v).defers=a.defers:=by cases d<;>rfl
theorem put_get_ne(a:Act)(d:Option Tmp)(v:Value)(t:Tmp)(h:d≠some t):(a.put d v).tmps[t]?=a.tmps[t]?:=by
 cases d with
 | none=>rfl
 | some e =>
  have:e≠t:=fun h'=>h (by rw[h'])
  simp[Act.put,Array.getElem?_setIfInBounds_ne this]
theorem eval_of_get{a b:Act}{t:Tmp}(h:a.tmps[t]?=b.tmps[t]?):a.eval (.tmp t)=b.eval (.tmp t):=by
 simp only[Act.eval,Array.getD_eq_getD_getElem?,h]
theorem valOf_put_ne(a:Act)(d e:Option Tmp)(v:Value)(h:∀x y,d=some x→e=some y→x≠y):valOf (a.put d v).eval e=valOf a.eval e:=by
 cases e with
 | none=>rfl
 | some y =>
  apply eval_of_get
  apply put_get_ne
  intro hd
  exact h y y hd rfl rfl
theorem valOf_put_same(a:Act)(o:Oper)(v:Value)(h:∀d,o.dst=some d→d<a.tmps.size):valOf (a.put o.dst v).eval o.dst=kept o v:=by
 unfold kept
 cases hd:o.dst with
 | none=>rfl
 | some d =>
  have:=h d hd
  simp[valOf,Act.eval,Act.put,this]
theorem wanted_iff{ops:Array Oper}{a:Act}{o:Oper}{g:Nat}{b:Bool}(hg:o.guard=some (g,b)) :
  Region.wanted o (yielded ops a.tmps)=true↔valOf a.eval ((ops[g]?).bind (·.dst)) = .bool b:=by
 unfold Region.wanted yielded
 rw[hg]
 simp only[beq_iff_eq]
 cases hd:(ops[g]?).bind (·.dst)with
 | none=>simp[valOf,undef]
 | some d =>
  simp only[Option.bind_some,valOf,Act.eval,Array.getD_eq_getD_getElem?]
  cases hv:a.tmps[d]? with
  | none=>simp[undef]
  | some v =>
   simp only[Option.getD_some]
   cases v<;>simp
structure Ok (ops:Array Oper) (n sz:Nat):Prop where
 le:n≤ops.size
 back:∀i o,i<n→ops[i]?=some o→∀e∈o.after,Region.binds .any e=true→e.on<i
 apart:∀i j,i<n→j<n→i≠j→∀d e,(ops[i]?).bind (·.dst)=some d→(ops[j]?).bind (·.dst)=some e→d≠e
 fits:∀i d,i<n→(ops[i]?).bind (·.dst)=some d→d<sz
 tail:n=ops.size∨(Region.sinkB .any ops n=true∧Region.chainB .any ops n=true)
 seq:Region.seqB .any ops (ops.size-n) n (List.replicate n true++List.replicate (ops.size-n) false).toArray=true
theorem ok_of{sz:Nat}(h:okB ops n sz=true):Ok ops n sz:=by
 simp only[okB,Bool.and_eq_true,decide_eq_true_eq,List.all_eq_true,List.mem_range,Bool.or_eq_true,beq_iff_eq]at h
 obtain⟨⟨⟨⟨⟨h1,h2⟩,h3⟩,h4⟩,h5⟩,h6⟩:=h
 refine⟨h1,fun i o hi ho e he hb=>?_,fun i j hi hj hij d e hd he=>?_,fun i d hi hd=>?_,h5,h6⟩
 ·have:=h2 i hi
  rw[ho]at this
  simp only[List.all_eq_true,Bool.or_eq_true,Bool.not_eq_true',decide_eq_true_eq]at this
  rcases this e (by simpa using he)with h | h
  ·rw[hb]at h; cases h
  ·exact h
 ·rcases h3 i hi j hj with h | h
  ·exact absurd h hij
  ·rw[hd,he]at h
   simpa using h
 ·have:=h4 i hi
  rw[hd]at this
  simpa using this
theorem Inv.step{sz:Nat}(ok:Ok ops n sz)(hsz:a0.tmps.size=sz)(hm:∀T∈Ts,∀v w w',R w w'→T v w→T v w')(hC:∀w w',C w→R w w'→C w')
  {listed:Array Bool} {a:Act} {w w':World} (inv:Inv ops Ts C a0 n listed a w) {i:Nat} {o:Oper} (hi:i<n) (ho:ops[i]?=some o) {v:Value} (hR:w'=w∨R w w')
  (hT:Ts.getD i top (kept o v) w'):Inv ops Ts C a0 n (listed.setIfInBounds i true) (a.put o.dst v) w':=by
 refine⟨by rw[put_defers]; exact inv.defers,by rw[put_size]; exact inv.size,fun t ht=>?_,fun j oj hj hoj hl=>?_,?_⟩
 ·rw[put_get_ne _ _ _ _ (ht i o hi ho)]; exact inv.out t ht
 ·by_cases hij:i=j
  ·subst hij
   obtain rfl:o=oj:=Option.some.inj (ho.symm.trans hoj)
   rw[valOf_put_same a o v (fun d hd=>by rw[inv.size,hsz]; exact ok.fits i d hi (by rw[ho]; exact hd))]
   exact hT
  ·rw[getD_set_ne false hij]at hl
   have h1:=inv.fact j oj hj hoj hl
   rw[valOf_put_ne a o.dst oj.dst v (fun x y hx hy=>ok.apart i j hi hj hij x y (by rw[ho]; exact hx) (by rw[hoj]; exact hy))]
   rcases hR with rfl | hR
   ·exact h1
   ·by_cases hjl:j<Ts.length
    ·have e:Ts.getD j top=Ts[j]:=by simp[List.getD,List.getElem?_eq_getElem hjl]
     rw[e]at h1 ⊢
     exact hm _ (List.getElem_mem hjl) _ _ _ hR h1
    ·have e:Ts.getD j top=top:=by simp[List.getD,List.getElem?_eq_none (Nat.le_of_not_lt hjl)]
     rw[e]; trivial
 ·rcases hR with rfl | hR
  ·exact inv.cls
  ·exact hC _ _ inv.cls hR
def unl(n:Nat)(listed:Array Bool):List Nat:=(List.range n).filter fun j => !listed.getD j true
theorem unl_set{n i:Nat}{listed:Array Bool}(hi:i∈unl n listed):(unl n (listed.setIfInBounds i true)).length+1=(unl n listed).length:=by
 have hnd:(unl n listed).Nodup:=List.Nodup.sublist List.filter_sublist List.nodup_range
 have e:unl n (listed.setIfInBounds i true)=(unl n listed).erase i:=by
  rw[hnd.erase_eq_filter]
  unfold unl
  rw[List.filter_filter]
  apply List.filter_congr
  intro j hj
  by_cases hij:i=j
  ·subst hij
   have hm:=(List.mem_filter.1 hi).2
   simp only[bne_self_eq_false,Bool.false_and]
   have hlt:i<listed.size:=by
    rcases Nat.lt_or_ge i listed.size with h | h
    ·exact h
    ·simp[Array.getElem?_eq_none h]at hm
   simp[hlt]
  ·rw[getD_set_ne true hij]
   have:(j != i)=true:=by simp; exact fun h=>hij h.symm
   rw[this]; simp
 rw[e,List.length_erase_of_mem hi]
 have:0<(unl n listed).length:=List.length_pos_of_mem hi
 omega
theorem mem_unl{n i:Nat}{listed:Array Bool}:i∈unl n listed↔i<n∧listed.getD i true=false:=by
 unfold unl; rw[List.mem_filter,List.mem_range]; simp
/-- The least operation that has not come up may come up. -/
theorem ready_least{sz:Nat}(ok:Ok ops n sz){listed:Array Bool}(inv:HeadInv .any ops n listed)(h:unl n listed≠[]):∃i,i∈Region.ready .any ops listed:=by
 have key:∀m,(∃i,i∈unl n listed∧i≤m)→∃i,i∈Region.ready .any ops listed:=by
  intro m
  induction m with
  | zero =>
   rintro⟨i,hi,h0⟩
   obtain rfl:i=0:=by omega
   obtain⟨h1,h2⟩:=mem_unl.1 hi
   have hlt:0<ops.size:=by have:=ok.le; omega
   have ho:ops[0]?=some ops[0]:=by simp[hlt]
   refine⟨0,mem_ready.2 ⟨h2,_,ho,fun e he hb=>?_⟩⟩
   exact absurd (ok.back 0 _ h1 ho e he hb) (by omega)
  | succ m ih =>
   rintro⟨i,hi,h0⟩
   by_cases hex:∃i,i∈unl n listed∧i≤m
   ·exact ih hex
   ·obtain⟨h1,h2⟩:=mem_unl.1 hi
    have hlt:i<ops.size:=by have:=ok.le; omega
    have ho:ops[i]?=some ops[i]:=by simp[hlt]
    refine⟨i,mem_ready.2 ⟨h2,_,ho,fun e he hb=>?_⟩⟩
    have hlt2:=ok.back i _ h1 ho e he hb
    cases hl:listed.getD e.on true with
    | false=>exact absurd ⟨e.on,mem_unl.2 ⟨by omega,hl⟩,by omega⟩ hex
    | true =>
     have hs:e.on<listed.size:=by rw[inv.size]; omega
     simp[hs]at hl ⊢; exact hl
 cases hu:unl n listed with
 | nil=>exact absurd hu h
 | cons i _=>exact key i ⟨i,by simp[hu],Nat.le_refl _⟩
theorem done_eq{listed:Array Bool}(hn:n≤ops.size)(inv:HeadInv .any ops n listed)(h:unl n listed=[]) :
  listed=(List.replicate n true++List.replicate (ops.size-n) false).toArray:=by
 apply Array.ext
 ·rw[inv.size]; simp; omega
 ·intro j h1 h2
  have hj:j<ops.size:=by rw[←inv.size]; exact h1
  simp only[List.getElem_toArray,List.getElem_append,List.getElem_replicate,List.length_replicate]
  split
  ·rename_i hjn
   cases hl:listed[j]with
   | true=>rfl
   | false =>
    have:j∈unl n listed:=mem_unl.2 ⟨hjn,by simp[h1,hl]⟩
    rw[h]at this; cases this
  ·rename_i hjn
   have:=inv.tail j (by omega) hj
   simpa[h1]using this
theorem wpAny_of_rel{sz:Nat}{Q:Exit→Act→World→Prop}(ok:Ok ops n sz)(hsz:a0.tmps.size=sz)(hm:∀T∈Ts,∀v w w',R w w'→T v w→T v w')(hC:∀w w',C w→R w w'→C w')
  (hob:∀(i:Nat) o,i<n→ops[i]?=some o→Oblig P ops (ops.toList.take n) Ts R C a0.eval o (Ts.getD i top)) (g:Nat) (hg:g=ops.size-n)
  (hend:∀a w,Inv ops Ts C a0 n (List.replicate n true++List.replicate (ops.size-n) false).toArray a w→wpList P ops Q (ops.toList.drop n) a w) :
  ∀(f:Nat) (listed:Array Bool) (a:Act) (w:World),(unl n listed).length=f→HeadInv .any ops n listed→Inv ops Ts C a0 n listed a w→wpAny P .any ops Q (f+g) listed a w
 | 0,listed,a,w,hu,hh,inv=>by
  rw[Nat.zero_add]
  have hu':unl n listed=[]:=List.eq_nil_of_length_eq_zero hu
  have hl:=done_eq ok.le hh hu'
  subst hl
  have hlen:(ops.toList.drop n).length=g:=by simp[hg]
  rw[←hlen]
  exact wpAny_of_seq (md := .any) (Q':=Q) (ops.toList.drop n) n _ a w (fun j=>by simp[List.getElem?_drop]) (by rw[hlen,hg]; exact ok.seq) (hend a w inv)
 | f+1,listed,a,w,hu,hh,inv=>by
  rw[show f+1+g=(f+g)+1 by omega]
  have hne:unl n listed≠[]:=fun h=>by rw[h]at hu; simp at hu
  obtain⟨i0,hi0⟩:=ready_least ok hh hne
  refine⟨fun h0=>(by rw[h0]at hi0; cases hi0),fun i hi=>?_⟩
  have hin:i<n:=by
   rcases Nat.lt_or_ge i n with h | h
   ·exact h
   ·rcases ok.tail with ht | ⟨hs,hc⟩
    ·obtain⟨_,o,ho,_⟩:=mem_ready.1 hi
     have:=(Array.getElem?_eq_some_iff.1 ho).1
     omega
    ·obtain⟨j,hj⟩:=List.exists_mem_of_ne_nil _ hne
     obtain⟨hjn,hjl⟩:=mem_unl.1 hj
     have hns:n<ops.size:=by
      obtain⟨_,o,ho,_⟩:=mem_ready.1 hi
      have:=(Array.getElem?_eq_some_iff.1 ho).1
      omega
     exact absurd hi (tail_waits hs hc hns hh _ j rfl hjn hjl i h)
  obtain⟨hun,o,ho,hall⟩:=mem_ready.1 hi
  have hmem:i∈unl n listed:=mem_unl.2 ⟨hin,hun⟩
  have hcnt:=unl_set hmem
  have hOut:Out (ops.toList.take n) a.eval a0.eval:=by
   intro t ht
   apply eval_of_get
   apply inv.out
   intro j oj hj hoj hd
   rw[List.all_eq_true]at ht
   have hmem:oj∈ops.toList.take n:=by
    rw[List.mem_take_iff_getElem]
    have:=(Array.getElem?_eq_some_iff.1 hoj)
    obtain⟨h1,h2⟩:=this
    exact⟨j,by simp; omega,by simpa using h2⟩
   have:=ht oj hmem
   simp[hd]at this
  have hDeps:Deps ops Ts a.eval w o.after.toList:=by
   apply deps_of
   intro e he hb
   have he':e∈o.after:=by simpa using he
   have hlt:=ok.back i o hin ho e he' hb
   have hl:=hall e he' hb
   have hlt2:e.on<ops.size:=by have:=ok.le; omega
   have ho2:ops[e.on]?=some ops[e.on]:=by simp[hlt2]
   have:=inv.fact e.on _ (by omega) ho2 hl
   rw[ho2]
   exact this
  have hO:=hob i o hin ho a.eval w (Std.act a) hOut inv.cls hDeps
  have next:∀v w',(w'=w∨R w w')→Ts.getD i top (kept o v) w'→wpAny P .any ops Q (f+g) (listed.setIfInBounds i true) (a.put o.dst v) w':=by
   intro v w' hR hT
   exact wpAny_of_rel ok hsz hm hC hob g hg hend f _ _ _ (by omega) (hh.set hi hin) (inv.step ok hsz hm hC hin ho hR hT)
  unfold wpOp
  rw[ho]
  simp only
  cases hgd:o.guard with
  | none =>
   have hw:Region.wanted o (yielded ops a.tmps)=true:=by unfold Region.wanted; rw[hgd]
   rw[hgd]at hO
   simp only at hO
   rw[if_pos hw]
   exact .inl (wp_of_does hO fun v w' hk=>next v w' (.inr hk.1) hk.2)
  | some gb =>
   obtain⟨gi,b⟩:=gb
   rw[hgd]at hO
   simp only at hO
   by_cases hw:Region.wanted o (yielded ops a.tmps)=true
   ·rw[if_pos hw]
    exact .inl (wp_of_does (hO.1 ((wanted_iff hgd).1 hw)) fun v w' hk=>next v w' (.inr hk.1) hk.2)
   ·rw[if_neg hw]
    have hT:=hO.2 (fun h=>hw ((wanted_iff hgd).2 h))
    refine next undef w (.inl rfl) ?_
    unfold kept
    cases o.dst<;>exact hT
theorem end_apply{K:Act→Prop}{w:World}{ρ:Operand→Value}:∀(os:List Oper) (Us:List Fact) (b:Act),os.length≤Us.length→End K w os Us b→(∀(j:Nat) o,os[j]?=some o→Us.getD j top (valOf ρ o.dst) w) →
  K (os.foldl (fun a o=>a.put o.dst (valOf ρ o.dst)) b)
 | [],Us,b,_,h,_=>by cases Us<;>exact h
 | _::_,[],_,hl,_,_=>by simp at hl
 | o::os,T::Us,b,hl,h,hf=>by
  refine end_apply os Us _ (by simpa using hl) (h _ (hf 0 o rfl)) fun j o' hj=>?_
  exact hf (j+1) o' (by simpa using hj)
theorem fold_get(a:Act):∀(os:List Oper) (b:Act),b.tmps.size=a.tmps.size→(∀o∈os,∀d,o.dst=some d→d<a.tmps.size) →
  (os.foldl (fun c o=>c.put o.dst (valOf a.eval o.dst)) b).defers=b.defers∧(os.foldl (fun c o=>c.put o.dst (valOf a.eval o.dst)) b).tmps.size=a.tmps.size ∧
  ∀t,(os.foldl (fun c o=>c.put o.dst (valOf a.eval o.dst)) b).tmps[t]?=if (∃o∈os,o.dst=some t)then a.tmps[t]? else b.tmps[t]?
 | [],b,hs,_=>⟨rfl,hs,fun t=>by simp⟩
 | o::os,b,hs,hd=>by
  obtain⟨h1,h2,h3⟩:=fold_get a os (b.put o.dst (valOf a.eval o.dst)) (by rw[put_size]; exact hs) (fun o' ho'=>hd o' (by simp[ho']))
  refine⟨by simp only[List.foldl_cons]; rw[h1,put_defers],by simpa using h2,fun t=>?_⟩
  simp only[List.foldl_cons]
  rw[h3 t]
  by_cases he:∃o'∈os,o'.dst=some t
  ·rw[if_pos he]
   obtain⟨o',ho',hd'⟩:=he
   rw[if_pos ⟨o',by simp[ho'],hd'⟩]
  ·rw[if_neg he]
   by_cases ho:o.dst=some t
   ·rw[if_pos ⟨o,by simp,ho⟩,ho]
    have hlt:t<a.tmps.size:=hd o (by simp) t ho
    have hlt':t<b.tmps.size:=hs▸hlt
    simp[Act.put,valOf,Act.eval,hlt',hlt]
   ·rw[if_neg,put_get_ne _ _ _ _ ho]
    rintro⟨o',ho',hd'⟩
    rcases List.mem_cons.1 ho' with rfl | h
    ·exact ho hd'
    ·exact he ⟨o',h,hd'⟩
/-- **THE LAW.** n operations of the region, in whatever order, each with its fact; then the tail, one after the other. -/
theorem wp_region{id:Nat}{Q:Exit→Act→World→Prop}{a:Act}{w:World}{l:List Oper}(n:Nat)(hmo:P.follows .mixedOrders=true)(hB:okB l.toArray n a.tmps.size=true)
  (R:World→World→Prop) (C:World→Prop) (Ts:List Fact) (hC0:C { w with drawn:=w.drawn+1 }) (hC:∀w w',C w→R w w'→C w') (hm:∀T∈Ts,∀v w w',R w w'→T v w→T v w')
  (hob:Obligs P l.toArray (l.take n) Ts R C a.eval (l.take n) Ts) (hend:∀w',C w'→End (fun a'=>wpList P l.toArray Q (l.drop n) a' w') w' (l.take n) Ts a) :
  (Code.region id l.toArray true).wp P Q a w:=by
 have ok:=ok_of hB
 obtain⟨hlen,hget⟩:=obligs_get _ _ hob
 have hle:n≤l.length:=by have:=ok.le; simpa using this
 refine wp_region_any hmo ?_
 have inv0:HeadInv .any l.toArray n (Array.replicate l.toArray.size false):=
  ⟨by simp,fun j oj _ hl=>(by rw[getD_replicate_false]at hl; cases hl),fun t _ ht=>getD_in (by simpa using ht) (getD_replicate_false _ _)⟩
 have inv1:Inv l.toArray Ts C a n (Array.replicate l.toArray.size false) a { w with drawn:=w.drawn+1 }:=
  ⟨rfl,rfl,fun _ _=>rfl,fun j o _ _ hl=>(by rw[getD_replicate_false]at hl; cases hl),hC0⟩
 have hun:(unl n (Array.replicate l.toArray.size false)).length=n:=by
  have:unl n (Array.replicate l.toArray.size false)=List.range n:=by
   unfold unl
   rw[List.filter_eq_self]
   intro j hj
   have hj':j<l.length:=by have:=List.mem_range.1 hj; omega
   simp[hj']
  rw[this,List.length_range]
 have H:=wpAny_of_rel (P:=P) (Q:=Q) ok rfl hm hC (fun i o hi ho=>hget i o (by
   rw[List.getElem?_take_of_lt hi]; simpa using ho)) (l.toArray.size-n) rfl (fun a' w' inv=>?_) n _ a _ hun inv0 inv1
 ·rw[show n+(l.toArray.size-n)=l.toArray.size by simp; omega]at H
  exact H
 ·have hfacts:∀(j:Nat) o,(l.take n)[j]?=some o→Ts.getD j top (valOf a'.eval o.dst) w':=by
   intro j o hj
   have hjn:j<n:=by
    have:=(List.getElem?_eq_some_iff.1 hj).1
    simp at this; omega
   have ho:l.toArray[j]?=some o:=by rw[List.getElem?_take_of_lt hjn]at hj; simpa using hj
   refine inv.fact j o hjn ho ?_
   have e:(List.replicate n true++List.replicate (l.length-n) false)[j]?=some true:=by
    rw[List.getElem?_append_left (by simpa using hjn),List.getElem?_replicate,if_pos hjn]
   simp[e]
  have hK:=end_apply (l.take n) Ts a hlen (hend w' inv.cls) hfacts
  have hfit:∀o∈l.take n,∀d,o.dst=some d→d<a'.tmps.size:=by
   intro o ho d hd
   rw[inv.size]
   obtain⟨j,hj⟩:=List.getElem?_of_mem ho
   have hjn:j<n:=by
    have:=(List.getElem?_eq_some_iff.1 hj).1
    simp at this; omega
   have ho':l.toArray[j]?=some o:=by rw[List.getElem?_take_of_lt hjn]at hj; simpa using hj
   exact ok.fits j d hjn (by rw[ho']; exact hd)
  obtain⟨f1,f2,f3⟩:=fold_get a' (l.take n) a inv.size.symm hfit
  have hfold:(l.take n).foldl (fun c o=>c.put o.dst (valOf a'.eval o.dst)) a=a':=by
   generalize (l.take n).foldl (fun c o=>c.put o.dst (valOf a'.eval o.dst)) a=b at f1 f2 f3
   obtain⟨bt,bd⟩:=b
   obtain⟨at',ad⟩:=a'
   have hd:=inv.defers
   simp only at f1 f2 f3 hd
   have e1:bt=at':=by
    apply Array.ext_getElem?
    intro t
    rw[f3 t]
    split
    ·rfl
    ·rename_i hne
     refine(inv.out t fun j o hj ho hd=>hne ⟨o,?_,hd⟩).symm
     rw[List.mem_iff_getElem?]
     exact⟨j,by rw[List.getElem?_take_of_lt hj]; simpa using ho⟩
   rw[e1,f1,hd]
  rw[hfold]at hK
  exact hK
/-- A fact that says which value it is. -/
def is(c:Value):Fact:=fun v _=>v=c
def Mono(R:World→World→Prop)(T:Fact):Prop:=∀v w w',R w w'→T v w→T v w'
theorem mono_is{R:World→World→Prop}(c:Value):Mono R (is c):=fun _ _ _ _ h=>h
def Monos(R:World→World→Prop):List Fact→Prop
 | []=>True
 | T::Ts=>Mono R T∧Monos R Ts
theorem Monos.mem{R:World→World→Prop}:∀{Ts:List Fact},Monos R Ts→∀T∈Ts,∀v w w',R w w'→T v w→T v w'
 | _::_,h,T,hT=>by
  rcases List.mem_cons.1 hT with rfl | hT
  ·exact h.1
  ·exact Monos.mem h.2 T hT
end
end Go.Rel
/- The law for regions that draw their order, where one operation may write what the others leave alone: each operation has a relation of its own. No program in sight. -/
namespace Go.RelI
open Go.Rel
section
variable{P:Program}{md:Region.Mode}
abbrev Oblig (P:Program)(ops:Array Oper)(head:List Oper)(Ts:List Fact)(R:World→World→Prop)(C:World→Prop)(ρ0:Operand→Value)(o:Oper)(T:Fact):Prop:=Rel.Oblig P ops head Ts R C ρ0 o T
def Obligs(P:Program)(ops:Array Oper)(head:List Oper)(Ts:List Fact)(R:Nat→World→World→Prop)(C:Nat→World→Prop)(ρ0:Operand→Value):Nat→List Oper→List Fact→Prop
 | _,[],_=>True
 | _,_::_,[]=>False
 | i,o::os,T::Us=>Oblig P ops head Ts (R i) (C i) ρ0 o T∧Obligs P ops head Ts R C ρ0 (i+1) os Us
theorem obligs_get{ops:Array Oper}{head:List Oper}{Ts:List Fact}{R:Nat→World→World→Prop}{C:Nat→World→Prop}{ρ0:Operand→Value} :
  ∀(os:List Oper) (Us:List Fact) (k:Nat),Obligs P ops head Ts R C ρ0 k os Us→os.length≤Us.length∧∀(i:Nat) o,os[i]?=some o→Oblig P ops head Ts (R (k+i)) (C (k+i)) ρ0 o (Us.getD i top)
 | [],_,_,_=>⟨by simp,fun i o h=>by simp at h⟩
 | _::_,[],_,h=>h.elim
 | o::os,T::Us,k,h=>by
  obtain⟨h1,h2⟩:=obligs_get os Us (k+1) h.2
  refine⟨by simp; omega,fun i o' hi=>?_⟩
  cases i with
  | zero=>simp only[List.getElem?_cons_zero,Option.some.injEq]at hi; subst hi; exact h.1
  | succ i =>
   have:=h2 i o' (by simpa using hi)
   rw[show k+(i+1)=k+1+i by omega]
   exact this
variable{ops:Array Oper}{Ts:List Fact}{R:Nat→World→World→Prop}{C:World→Prop}{a0:Act}{n:Nat}{k:Nat}{U:World→Prop}
/-- What operation number k may lean on besides: U holds until it comes up. -/
def ClsAt(k:Nat)(C U:World→Prop)(i:Nat)(w:World):Prop:=C w∧(i=k→U w)
theorem inv_step{sz:Nat}(ok:Ok ops n sz)(hsz:a0.tmps.size=sz)(hm:∀(j:Nat) T,Ts[j]?=some T→∀i,i≠j→∀v w w',R i w w'→T v w→T v w')(hC:∀i w w',C w→R i w w'→C w')
  {listed:Array Bool} {a:Act} {w w':World} (inv:Inv ops Ts C a0 n listed a w) {i:Nat} {o:Oper} (hi:i<n) (ho:ops[i]?=some o) {v:Value} (hR:w'=w∨R i w w')
  (hT:Ts.getD i top (kept o v) w'):Inv ops Ts C a0 n (listed.setIfInBounds i true) (a.put o.dst v) w':=by
 refine⟨by rw[put_defers]; exact inv.defers,by rw[put_size]; exact inv.size,fun t ht=>?_,fun j oj hj hoj hl=>?_,?_⟩
 ·rw[put_get_ne _ _ _ _ (ht i o hi ho)]; exact inv.out t ht
 ·by_cases hij:i=j
  ·subst hij
   obtain rfl:o=oj:=Option.some.inj (ho.symm.trans hoj)
   rw[valOf_put_same a o v (fun d hd=>by rw[inv.size,hsz]; exact ok.fits i d hi (by rw[ho]; exact hd))]
   exact hT
  ·rw[getD_set_ne false hij]at hl
   have h1:=inv.fact j oj hj hoj hl
   rw[valOf_put_ne a o.dst oj.dst v (fun x y hx hy=>ok.apart i j hi hj hij x y (by rw[ho]; exact hx) (by rw[hoj]; exact hy))]
   rcases hR with rfl | hR
   ·exact h1
   ·by_cases hjl:j<Ts.length
    ·have e:Ts.getD j top=Ts[j]:=by simp[List.getD,List.getElem?_eq_getElem hjl]
     rw[e]at h1 ⊢
     exact hm j _ (List.getElem?_eq_getElem hjl) i hij _ _ _ hR h1
    ·have e:Ts.getD j top=top:=by simp[List.getD,List.getElem?_eq_none (Nat.le_of_not_lt hjl)]
     rw[e]; trivial
 ·rcases hR with rfl | hR
  ·exact inv.cls
  ·exact hC i _ _ inv.cls hR
theorem wpAny_of_rel{sz:Nat}{Q:Exit→Act→World→Prop}(ok:Ok ops n sz)(hsz:a0.tmps.size=sz)(hm:∀(j:Nat) T,Ts[j]?=some T→∀i,i≠j→∀v w w',R i w w'→T v w→T v w')(hC:∀i w w',C w→R i w w'→C w')(hU:∀i w w',i≠k→U w→R i w w'→U w')
  (hob:∀(i:Nat) o,i<n→ops[i]?=some o→Oblig P ops (ops.toList.take n) Ts (R i) (ClsAt k C U i) a0.eval o (Ts.getD i top)) (g:Nat) (hg:g=ops.size-n)
  (hend:∀a w,Inv ops Ts C a0 n (List.replicate n true++List.replicate (ops.size-n) false).toArray a w→wpList P ops Q (ops.toList.drop n) a w) :
  ∀(f:Nat) (listed:Array Bool) (a:Act) (w:World),(unl n listed).length=f→HeadInv .any ops n listed→Inv ops Ts C a0 n listed a w→(listed.getD k false=false→U w)→wpAny P .any ops Q (f+g) listed a w
 | 0,listed,a,w,hu,hh,inv,_=>by
  rw[Nat.zero_add]
  have hu':unl n listed=[]:=List.eq_nil_of_length_eq_zero hu
  have hl:=done_eq ok.le hh hu'
  subst hl
  have hlen:(ops.toList.drop n).length=g:=by simp[hg]
  rw[←hlen]
  exact wpAny_of_seq (md := .any) (Q':=Q) (ops.toList.drop n) n _ a w (fun j=>by simp[List.getElem?_drop]) (by rw[hlen,hg]; exact ok.seq) (hend a w inv)
 | f+1,listed,a,w,hu,hh,inv,hun0=>by
  rw[show f+1+g=(f+g)+1 by omega]
  have hne:unl n listed≠[]:=fun h=>by rw[h]at hu; simp at hu
  obtain⟨i0,hi0⟩:=ready_least ok hh hne
  refine⟨fun h0=>(by rw[h0]at hi0; cases hi0),fun i hi=>?_⟩
  have hin:i<n:=by
   rcases Nat.lt_or_ge i n with h | h
   ·exact h
   ·rcases ok.tail with ht | ⟨hs,hc⟩
    ·obtain⟨_,o,ho,_⟩:=mem_ready.1 hi
     have:=(Array.getElem?_eq_some_iff.1 ho).1
     omega
    ·obtain⟨j,hj⟩:=List.exists_mem_of_ne_nil _ hne
     obtain⟨hjn,hjl⟩:=mem_unl.1 hj
     have hns:n<ops.size:=by
      obtain⟨_,o,ho,_⟩:=mem_ready.1 hi
      have:=(Array.getElem?_eq_some_iff.1 ho).1
      omega
     exact absurd hi (tail_waits hs hc hns hh _ j rfl hjn hjl i h)
  obtain⟨hun,o,ho,hall⟩:=mem_ready.1 hi
  have hmem:i∈unl n listed:=mem_unl.2 ⟨hin,hun⟩
  have hcnt:=unl_set hmem
  have hOut:Out (ops.toList.take n) a.eval a0.eval:=by
   intro t ht
   apply eval_of_get
   apply inv.out
   intro j oj hj hoj hd
   rw[List.all_eq_true]at ht
   have hmem:oj∈ops.toList.take n:=by
    rw[List.mem_take_iff_getElem]
    have:=(Array.getElem?_eq_some_iff.1 hoj)
    obtain⟨h1,h2⟩:=this
    exact⟨j,by simp; omega,by simpa using h2⟩
   have:=ht oj hmem
   simp[hd]at this
  have hDeps:Deps ops Ts a.eval w o.after.toList:=by
   apply deps_of
   intro e he hb
   have he':e∈o.after:=by simpa using he
   have hlt:=ok.back i o hin ho e he' hb
   have hl:=hall e he' hb
   have hlt2:e.on<ops.size:=by have:=ok.le; omega
   have ho2:ops[e.on]?=some ops[e.on]:=by simp[hlt2]
   have:=inv.fact e.on _ (by omega) ho2 hl
   rw[ho2]
   exact this
  have hO:=hob i o hin ho a.eval w (Std.act a) hOut ⟨inv.cls,fun e=>hun0 (by rw[←e]; exact getD_both hun)⟩ hDeps
  have next:∀v w',(w'=w∨R i w w')→Ts.getD i top (kept o v) w'→wpAny P .any ops Q (f+g) (listed.setIfInBounds i true) (a.put o.dst v) w':=by
   intro v w' hR hT
   refine wpAny_of_rel ok hsz hm hC hU hob g hg hend f _ _ _ (by omega) (hh.set hi hin) (inv_step ok hsz hm hC inv hin ho hR hT) (fun hl=>?_)
   by_cases hik:i=k
   ·subst hik
    have hlt:i<listed.size:=by rw[hh.size]; exact(Array.getElem?_eq_some_iff.1 ho).1
    simp[hlt]at hl
   ·rw[getD_set_ne false hik]at hl
    rcases hR with rfl | hR
    ·exact hun0 hl
    ·exact hU i _ _ hik (hun0 hl) hR
  unfold wpOp
  rw[ho]
  simp only
  cases hgd:o.guard with
  | none =>
   have hw:Region.wanted o (yielded ops a.tmps)=true:=by unfold Region.wanted; rw[hgd]
   rw[hgd]at hO
   simp only at hO
   rw[if_pos hw]
   exact .inl (wp_of_does hO fun v w' hk=>next v w' (.inr hk.1) hk.2)
  | some gb =>
   obtain⟨gi,b⟩:=gb
   rw[hgd]at hO
   simp only at hO
   by_cases hw:Region.wanted o (yielded ops a.tmps)=true
   ·rw[if_pos hw]
    exact .inl (wp_of_does (hO.1 ((wanted_iff hgd).1 hw)) fun v w' hk=>next v w' (.inr hk.1) hk.2)
   ·rw[if_neg hw]
    have hT:=hO.2 (fun h=>hw ((wanted_iff hgd).2 h))
    refine next undef w (.inl rfl) ?_
    unfold kept
    cases o.dst<;>exact hT
/-- **THE LAW.** n operations of the region, in whatever order, each with its fact; then the tail, one after the other. -/
theorem wp_region{id:Nat}{Q:Exit→Act→World→Prop}{a:Act}{w:World}{l:List Oper}(n:Nat)(hmo:P.follows .mixedOrders=true)(hB:okB l.toArray n a.tmps.size=true)
  (R:Nat→World→World→Prop) (C:World→Prop) (k:Nat) (U:World→Prop) (Ts:List Fact) (hC0:C { w with drawn:=w.drawn+1 }) (hU0:U { w with drawn:=w.drawn+1 }) (hC:∀i w w',C w→R i w w'→C w') (hU:∀i w w',i≠k→U w→R i w w'→U w') (hm:∀(j:Nat) T,Ts[j]?=some T→∀i,i≠j→∀v w w',R i w w'→T v w→T v w')
  (hob:Obligs P l.toArray (l.take n) Ts R (ClsAt k C U) a.eval 0 (l.take n) Ts) (hend:∀w',C w'→Go.Rel.End (fun a'=>wpList P l.toArray Q (l.drop n) a' w') w' (l.take n) Ts a) :
  (Code.region id l.toArray true).wp P Q a w:=by
 have ok:=ok_of hB
 obtain⟨hlen,hget⟩:=obligs_get _ _ 0 hob
 have hle:n≤l.length:=by have:=ok.le; simpa using this
 refine wp_region_any hmo ?_
 have inv0:HeadInv .any l.toArray n (Array.replicate l.toArray.size false):=
  ⟨by simp,fun j oj _ hl=>(by rw[getD_replicate_false]at hl; cases hl),fun t _ ht=>getD_in (by simpa using ht) (getD_replicate_false _ _)⟩
 have inv1:Inv l.toArray Ts C a n (Array.replicate l.toArray.size false) a { w with drawn:=w.drawn+1 }:=
  ⟨rfl,rfl,fun _ _=>rfl,fun j o _ _ hl=>(by rw[getD_replicate_false]at hl; cases hl),hC0⟩
 have hun:(unl n (Array.replicate l.toArray.size false)).length=n:=by
  have:unl n (Array.replicate l.toArray.size false)=List.range n:=by
   unfold unl
   rw[List.filter_eq_self]
   intro j hj
   have hj':j<l.length:=by have:=List.mem_range.1 hj; omega
   simp[hj']
  rw[this,List.length_range]
 have H:=wpAny_of_rel (P:=P) (Q:=Q) (k:=k) (U:=U) ok rfl hm hC hU (fun i o hi ho=>by
   have:=hget i o (by rw[List.getElem?_take_of_lt hi]; simpa using ho)
   rw[Nat.zero_add]at this; exact this) (l.toArray.size-n) rfl (fun a' w' inv=>?_) n _ a _ hun inv0 inv1 (fun _=>hU0)
 ·rw[show n+(l.toArray.size-n)=l.toArray.size by simp; omega]at H
  exact H
 ·have hfacts:∀(j:Nat) o,(l.take n)[j]?=some o→Ts.getD j top (Rel.valOf a'.eval o.dst) w':=by
   intro j o hj
   have hjn:j<n:=by
    have:=(List.getElem?_eq_some_iff.1 hj).1
    simp at this; omega
   have ho:l.toArray[j]?=some o:=by rw[List.getElem?_take_of_lt hjn]at hj; simpa using hj
   refine inv.fact j o hjn ho ?_
   have e:(List.replicate n true++List.replicate (l.length-n) false)[j]?=some true:=by
    rw[List.getElem?_append_left (by simpa using hjn),List.getElem?_replicate,if_pos hjn]
   simp[e]
  have hK:=Go.Rel.end_apply (l.take n) Ts a hlen (hend w' inv.cls) hfacts
  have hfit:∀o∈l.take n,∀d,o.dst=some d→d<a'.tmps.size:=by
   intro o ho d hd
   rw[inv.size]
   obtain⟨j,hj⟩:=List.getElem?_of_mem ho
   have hjn:j<n:=by
    have:=(List.getElem?_eq_some_iff.1 hj).1
    simp at this; omega
   have ho':l.toArray[j]?=some o:=by rw[List.getElem?_take_of_lt hjn]at hj; simpa using hj
   exact ok.fits j d hjn (by rw[ho']; exact hd)
  obtain⟨f1,f2,f3⟩:=fold_get a' (l.take n) a inv.size.symm hfit
  have hfold:(l.take n).foldl (fun c o=>c.put o.dst (Rel.valOf a'.eval o.dst)) a=a':=by
   generalize (l.take n).foldl (fun c o=>c.put o.dst (Rel.valOf a'.eval o.dst)) a=b at f1 f2 f3
   obtain⟨bt,bd⟩:=b
   obtain⟨at',ad⟩:=a'
   have hd:=inv.defers
   simp only at f1 f2 f3 hd
   have e1:bt=at':=by
    apply Array.ext_getElem?
    intro t
    rw[f3 t]
    split
    ·rfl
    ·rename_i hne
     refine(inv.out t fun j o hj ho hd=>hne ⟨o,?_,hd⟩).symm
     rw[List.mem_iff_getElem?]
     exact⟨j,by rw[List.getElem?_take_of_lt hj]; simpa using ho⟩
   rw[e1,f1,hd]
  rw[hfold]at hK
  exact hK
/-- All operations but number k go by R, that one by S. -/
def But(k:Nat)(R S:World→World→Prop)(i:Nat):World→World→Prop:=if i=k then S else R
def MonosBut(k:Nat)(R S:World→World→Prop):Nat→List Fact→Prop
 | _,[]=>True
 | j,T::Ts=>Mono R T∧(j≠k→Mono S T)∧MonosBut k R S (j+1) Ts
theorem MonosBut.get{k:Nat}{R S:World→World→Prop}:∀{Ts:List Fact} {m:Nat},MonosBut k R S m Ts→∀(j:Nat) T,Ts[j]?=some T→∀i,i≠m+j→∀v w w',But k R S i w w'→T v w→T v w'
 | T0::Ts,m,h,j,T,hT,i,hij,v,w,w',hR,hv=>by
  cases j with
  | zero =>
   simp only[List.getElem?_cons_zero,Option.some.injEq]at hT
   subst hT
   unfold But at hR
   split at hR
   ·rename_i e; subst e; exact h.2.1 (fun e=>hij (by omega)) v w w' hR hv
   ·exact h.1 v w w' hR hv
  | succ j=>exact MonosBut.get h.2.2 j T (by simpa using hT) i (by omega) v w w' hR hv
theorem MonosBut.mem{k:Nat}{R S:World→World→Prop}{Ts:List Fact}(h:MonosBut k R S 0 Ts):∀(j:Nat) T,Ts[j]?=some T→∀i,i≠j→∀v w w',But k R S i w w'→T v w→T v w':=
 fun j T hT i hij=>MonosBut.get h j T hT i (by omega)
end
end Go.RelI
/- 'append' as an operation of a drawn region. No program in sight. -/
namespace Go.Proofs.YtfmkkemfhjkajaaGreatDoor
open Go.RowKit
end Go.Proofs.YtfmkkemfhjkajaaGreatDoor
