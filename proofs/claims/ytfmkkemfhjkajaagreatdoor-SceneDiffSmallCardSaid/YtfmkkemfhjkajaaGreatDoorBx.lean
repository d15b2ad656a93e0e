/- Small laws beside the law for regions that draw their order: one for each kind of operation; guarded operations by 'cond'. No program in sight. -/
import Derived.Test.YtfmkkemfhjkajaaGreatDoorRel
import Derived.MapKept
import Derived.Deep.MidRow
namespace Go.Rel
variable{P:Program}{o:Oper}{ρ:Operand→Value}{w:World}
theorem does_val{u:Value}{R:World→World→Prop}{T:Fact}(h:(execOp ρ o).run P w = .ok (.value u) w)(hR:R w w)(hT:T (kept o u) w):Does P o ρ w (fun v w'=>R w w'∧T (kept o v) w'):=by
 unfold Does; rw[h]; exact⟨hR,hT⟩
theorem does_to{u:Value}{w1:World}{R:World→World→Prop}{T:Fact}(h:(execOp ρ o).run P w = .ok (.value u) w1)(hR:R w w1)(hT:T (kept o u) w1):Does P o ρ w (fun v w'=>R w w'∧T (kept o v) w'):=by
 unfold Does; rw[h]; exact⟨hR,hT⟩
theorem does_call{f:Nat}{args:Array Value}{K:Value→World→Prop}(h:(execOp ρ o).run P w = .ok (.enter f args) w)(hc:Calls P f args w (fun e w'=>∃v,e = .returned v∧K v w')):Does P o ρ w K:=by
 unfold Does; rw[h]; exact hc
end Go.Rel
/- The law for regions that draw their order, where two operations each make a variable: the two lie apart. No program in sight. -/
namespace Go.Rel
section
variable{P:Program}
variable{ops:Array Oper}{Ts:List Fact}{R:World→World→Prop}{C:World→Prop}{a0:Act}{n:Nat}
theorem does_alloc{o:Oper}{ρ:Operand→Value}{w:World}{K:Value→World→Prop}{t:TypeId}(ho:o.op = .alloc t)(h:Does P o ρ w K):Does P o ρ w (fun v w'=>K v w'∧v = .pointer (some ⟨w.heap.size,0,none⟩)):=by
 unfold Does at *
 have e:(execOp ρ o).run P w=((Instr.alloc t true (.tuple #[])).run P w).andThen (fun v w' => .ok (.value v) w'):=by
  unfold execOp
  rw[ho]
  simp only[Sem.run_bind]
  rfl
 rw[e]at h ⊢
 unfold Instr.alloc at *
 simp only[Sem.run_bind]at *
 cases hz:(zeroValue t).run P w with
 | ok z w1 =>
  obtain rfl:=Go.MapKept.run_zeroValue_world hz
  rw[hz]at h
  simp[go_sem,Result.andThen,Upon]at h ⊢
  exact h
 | halt x w1=>rw[hz]at h; exact h.elim
/-- A pointer to something that is there. -/
def Old(u:Value)(w:World):Prop:=∃b,u = .pointer (some ⟨b,0,none⟩)∧b<w.heap.size
/-- Operations i0 and j0 make a variable each. -/
structure Pair (ops:Array Oper) (Ts:List Fact) (i0 j0:Nat):Prop where
 ne:i0≠j0
 alloc:∀i o,(i=i0∨i=j0)→ops[i]?=some o→∃t d,o.op = .alloc t∧o.dst=some d∧o.guard=none
 old:∀i,(i=i0∨i=j0)→∀u w,Ts.getD i top u w→Old u w
def Apart(ops:Array Oper)(n i0 j0:Nat)(a:Act):Prop:=∀o1 o2,ops[i0]?=some o1→ops[j0]?=some o2→i0<n→j0<n→valOf a.eval o1.dst≠valOf a.eval o2.dst
structure InvP (ops:Array Oper) (Ts:List Fact) (C:World→Prop) (a0:Act) (n i0 j0:Nat) (listed:Array Bool) (a:Act) (w:World):Prop where
 base:Inv ops Ts C a0 n listed a w
 pair:∀o1 o2,ops[i0]?=some o1→ops[j0]?=some o2→i0<n→j0<n→listed.getD i0 false=true→listed.getD j0 false=true→valOf a.eval o1.dst≠valOf a.eval o2.dst
theorem old_ne{u:Value}{w:World}(h:Old u w):u ≠ .pointer (some ⟨w.heap.size,0,none⟩):=by
 obtain⟨b,rfl,hb⟩:=h
 intro e
 simp only[Value.pointer.injEq,Option.some.injEq,Addr.mk.injEq,and_true]at e
 omega
theorem InvP.step{sz i0 j0:Nat}(pr:Pair ops Ts i0 j0)(ok:Ok ops n sz)(hsz:a0.tmps.size=sz)(hm:∀T∈Ts,∀v w w',R w w'→T v w→T v w')(hC:∀w w',C w→R w w'→C w')
  {listed:Array Bool} {a:Act} {w w':World} (inv:InvP ops Ts C a0 n i0 j0 listed a w) {i:Nat} {o:Oper} (hi:i<n) (ho:ops[i]?=some o) {v:Value} (hR:w'=w∨R w w')
  (hT:Ts.getD i top (kept o v) w') (hF:(i=i0∨i=j0)→kept o v = .pointer (some ⟨w.heap.size,0,none⟩)):InvP ops Ts C a0 n i0 j0 (listed.setIfInBounds i true) (a.put o.dst v) w':=by
 have same:=valOf_put_same a o v (fun d hd=>by rw[inv.base.size,hsz]; exact ok.fits i d hi (by rw[ho]; exact hd))
 have other:∀j oj,j<n→ops[j]?=some oj→i≠j→valOf (a.put o.dst v).eval oj.dst=valOf a.eval oj.dst:=fun j oj hj hoj hij =>
  valOf_put_ne a o.dst oj.dst v (fun x y hx hy=>ok.apart i j hi hj hij x y (by rw[ho]; exact hx) (by rw[hoj]; exact hy))
 refine⟨inv.base.step ok hsz hm hC hi ho hR hT,fun o1 o2 h1 h2 k1 k2 l1 l2=>?_⟩
 by_cases e1:i=i0
 ·subst e1
  obtain rfl:o=o1:=Option.some.inj (ho.symm.trans h1)
  rw[same,other j0 o2 k2 h2 pr.ne,hF (.inl rfl)]
  rw[getD_set_ne false pr.ne]at l2
  exact(old_ne (pr.old j0 (.inr rfl) _ _ (inv.base.fact j0 o2 k2 h2 l2))).symm
 ·by_cases e2:i=j0
  ·subst e2
   obtain rfl:o=o2:=Option.some.inj (ho.symm.trans h2)
   rw[same,other i0 o1 k1 h1 e1,hF (.inr rfl)]
   rw[getD_set_ne false e1]at l1
   exact old_ne (pr.old i0 (.inl rfl) _ _ (inv.base.fact i0 o1 k1 h1 l1))
  ·rw[other i0 o1 k1 h1 e1,other j0 o2 k2 h2 e2]
   rw[getD_set_ne false e1]at l1
   rw[getD_set_ne false e2]at l2
   exact inv.pair o1 o2 h1 h2 k1 k2 l1 l2
theorem wpAny_of_relP{sz i0 j0:Nat}(pr:Pair ops Ts i0 j0){Q:Exit→Act→World→Prop}(ok:Ok ops n sz)(hsz:a0.tmps.size=sz)(hm:∀T∈Ts,∀v w w',R w w'→T v w→T v w')(hC:∀w w',C w→R w w'→C w')
  (hob:∀(i:Nat) o,i<n→ops[i]?=some o→Oblig P ops (ops.toList.take n) Ts R C a0.eval o (Ts.getD i top)) (g:Nat) (hg:g=ops.size-n)
  (hend:∀a w,InvP ops Ts C a0 n i0 j0 (List.replicate n true++List.replicate (ops.size-n) false).toArray a w→wpList P ops Q (ops.toList.drop n) a w) :
  ∀(f:Nat) (listed:Array Bool) (a:Act) (w:World),(unl n listed).length=f→HeadInv .any ops n listed→InvP ops Ts C a0 n i0 j0 listed a w→wpAny P .any ops Q (f+g) listed a w
 | 0,listed,a,w,hu,hh,inv=>by
  rw[Nat.zero_add]
  have hu':unl n listed=[]:=List.eq_nil_of_length_eq_zero hu
  have hl:=done_eq ok.le hh hu'
  subst hl
  have hlen:(ops.toList.drop n).length=g:=by simp[hg]
  rw[←hlen]
  exact wpAny_of_seq (md := .any) (Q':=Q) (ops.toList.drop n) n _ a w (fun j=>by simp[List.getElem?_drop]) (by rw[hlen,hg]; exact ok.seq) (hend a w inv)
 | f+1,listed,a,w,hu,hh,inv=>by
  rw[show f+1+g=(f+g)+1 by omega]
  have hne:unl n listed≠[]:=fun h=>by rw[h]at hu; simp at hu
  obtain⟨iz,hiz⟩:=ready_least ok hh hne
  refine⟨fun h0=>(by rw[h0]at hiz; cases hiz),fun i hi=>?_⟩
  have hin:i<n:=by
   rcases Nat.lt_or_ge i n with h | h
   ·exact h
   ·rcases ok.tail with ht | ⟨hs,hc⟩
    ·obtain⟨_,o,ho,_⟩:=mem_ready.1 hi
     have:=(Array.getElem?_eq_some_iff.1 ho).1
     omega
    ·obtain⟨j,hj⟩:=List.exists_mem_of_ne_nil _ hne
     obtain⟨hjn,hjl⟩:=mem_unl.1 hj
     have hns:n<ops.size:=by
      obtain⟨_,o,ho,_⟩:=mem_ready.1 hi
      have:=(Array.getElem?_eq_some_iff.1 ho).1
      omega
     exact absurd hi (tail_waits hs hc hns hh _ j rfl hjn hjl i h)
  obtain⟨hun,o,ho,hall⟩:=mem_ready.1 hi
  have hmem:i∈unl n listed:=mem_unl.2 ⟨hin,hun⟩
  have hcnt:=unl_set hmem
  have hOut:Out (ops.toList.take n) a.eval a0.eval:=by
   intro t ht
   apply eval_of_get
   apply inv.base.out
   intro j oj hj hoj hd
   rw[List.all_eq_true]at ht
   have hmem:oj∈ops.toList.take n:=by
    rw[List.mem_take_iff_getElem]
    have:=(Array.getElem?_eq_some_iff.1 hoj)
    obtain⟨h1,h2⟩:=this
    exact⟨j,by simp; omega,by simpa using h2⟩
   have:=ht oj hmem
   simp[hd]at this
  have hDeps:Deps ops Ts a.eval w o.after.toList:=by
   apply deps_of
   intro e he hb
   have he':e∈o.after:=by simpa using he
   have hlt:=ok.back i o hin ho e he' hb
   have hl:=hall e he' hb
   have hlt2:e.on<ops.size:=by have:=ok.le; omega
   have ho2:ops[e.on]?=some ops[e.on]:=by simp[hlt2]
   have:=inv.base.fact e.on _ (by omega) ho2 hl
   rw[ho2]
   exact this
  have hO:=hob i o hin ho a.eval w (Std.act a) hOut inv.base.cls hDeps
  have next:∀v w',(w'=w∨R w w')→Ts.getD i top (kept o v) w'→((i=i0∨i=j0)→kept o v = .pointer (some ⟨w.heap.size,0,none⟩))→wpAny P .any ops Q (f+g) (listed.setIfInBounds i true) (a.put o.dst v) w':=by
   intro v w' hR hT hF
   exact wpAny_of_relP pr ok hsz hm hC hob g hg hend f _ _ _ (by omega) (hh.set hi hin) (inv.step pr ok hsz hm hC hin ho hR hT hF)
  unfold wpOp
  rw[ho]
  simp only
  cases hgd:o.guard with
  | none =>
   have hw:Region.wanted o (yielded ops a.tmps)=true:=by unfold Region.wanted; rw[hgd]
   rw[hgd]at hO
   simp only at hO
   rw[if_pos hw]
   by_cases hij:i=i0∨i=j0
   ·obtain⟨t,d,hop,hd,_⟩:=pr.alloc i o hij ho
    exact .inl (wp_of_does (does_alloc hop hO) fun v w' hk=>next v w' (.inr hk.1.1) hk.1.2 (fun _=>by unfold kept; rw[hd]; exact hk.2))
   ·exact .inl (wp_of_does hO fun v w' hk=>next v w' (.inr hk.1) hk.2 (fun h=>absurd h hij))
  | some gb =>
   have hij:¬(i=i0∨i=j0):=by
    intro hij
    obtain⟨t,d,hop,hd,hgn⟩:=pr.alloc i o hij ho
    rw[hgn]at hgd; cases hgd
   obtain⟨gi,b⟩:=gb
   rw[hgd]at hO
   simp only at hO
   by_cases hw:Region.wanted o (yielded ops a.tmps)=true
   ·rw[if_pos hw]
    exact .inl (wp_of_does (hO.1 ((wanted_iff hgd).1 hw)) fun v w' hk=>next v w' (.inr hk.1) hk.2 (fun h=>absurd h hij))
   ·rw[if_neg hw]
    have hT:=hO.2 (fun h=>hw ((wanted_iff hgd).2 h))
    refine next undef w (.inl rfl) ?_ (fun h=>absurd h hij)
    unfold kept
    cases o.dst<;>exact hT
/-- **THE LAW.** n operations of the region, in whatever order, each with its fact; then the tail, one after the other. -/
theorem wp_regionP{id:Nat}{Q:Exit→Act→World→Prop}{a:Act}{w:World}{l:List Oper}(n i0 j0:Nat)(hmo:P.follows .mixedOrders=true)(hB:okB l.toArray n a.tmps.size=true)
  (R:World→World→Prop) (C:World→Prop) (Ts:List Fact) (hC0:C { w with drawn:=w.drawn+1 }) (hC:∀w w',C w→R w w'→C w') (hm:∀T∈Ts,∀v w w',R w w'→T v w→T v w')
  (hpr:Pair l.toArray Ts i0 j0) (hob:Obligs P l.toArray (l.take n) Ts R C a.eval (l.take n) Ts) (hend:∀w',C w'→End (fun a'=>Apart l.toArray n i0 j0 a'→wpList P l.toArray Q (l.drop n) a' w') w' (l.take n) Ts a) :
  (Code.region id l.toArray true).wp P Q a w:=by
 have ok:=ok_of hB
 obtain⟨hlen,hget⟩:=obligs_get _ _ hob
 have hle:n≤l.length:=by have:=ok.le; simpa using this
 refine wp_region_any hmo ?_
 have inv0:HeadInv .any l.toArray n (Array.replicate l.toArray.size false):=
  ⟨by simp,fun j oj _ hl=>(by rw[getD_replicate_false]at hl; cases hl),fun t _ ht=>getD_in (by simpa using ht) (getD_replicate_false _ _)⟩
 have inv1:Inv l.toArray Ts C a n (Array.replicate l.toArray.size false) a { w with drawn:=w.drawn+1 }:=
  ⟨rfl,rfl,fun _ _=>rfl,fun j o _ _ hl=>(by rw[getD_replicate_false]at hl; cases hl),hC0⟩
 have inv1P:InvP l.toArray Ts C a n i0 j0 (Array.replicate l.toArray.size false) a { w with drawn:=w.drawn+1 }:=
  ⟨inv1,fun _ _ _ _ _ _ hl=>(by rw[getD_replicate_false]at hl; cases hl)⟩
 have hun:(unl n (Array.replicate l.toArray.size false)).length=n:=by
  have:unl n (Array.replicate l.toArray.size false)=List.range n:=by
   unfold unl
   rw[List.filter_eq_self]
   intro j hj
   have hj':j<l.length:=by have:=List.mem_range.1 hj; omega
   simp[hj']
  rw[this,List.length_range]
 have H:=wpAny_of_relP (P:=P) (Q:=Q) hpr ok rfl hm hC (fun i o hi ho=>hget i o (by
   rw[List.getElem?_take_of_lt hi]; simpa using ho)) (l.toArray.size-n) rfl (fun a' w' invP=>?_) n _ a _ hun inv0 inv1P
 ·rw[show n+(l.toArray.size-n)=l.toArray.size by simp; omega]at H
  exact H
 ·have inv:=invP.base
  have hfacts:∀(j:Nat) o,(l.take n)[j]?=some o→Ts.getD j top (valOf a'.eval o.dst) w':=by
   intro j o hj
   have hjn:j<n:=by
    have:=(List.getElem?_eq_some_iff.1 hj).1
    simp at this; omega
   have ho:l.toArray[j]?=some o:=by rw[List.getElem?_take_of_lt hjn]at hj; simpa using hj
   refine inv.fact j o hjn ho ?_
   have e:(List.replicate n true++List.replicate (l.length-n) false)[j]?=some true:=by
    rw[List.getElem?_append_left (by simpa using hjn),List.getElem?_replicate,if_pos hjn]
   simp[e]
  have hK:=end_apply (l.take n) Ts a hlen (hend w' inv.cls) hfacts
  have hfit:∀o∈l.take n,∀d,o.dst=some d→d<a'.tmps.size:=by
   intro o ho d hd
   rw[inv.size]
   obtain⟨j,hj⟩:=List.getElem?_of_mem ho
   have hjn:j<n:=by
    have:=(List.getElem?_eq_some_iff.1 hj).1
    simp at this; omega
   have ho':l.toArray[j]?=some o:=by rw[List.getElem?_take_of_lt hjn]at hj; simpa using hj
   exact ok.fits j d hjn (by rw[ho']; exact hd)
  obtain⟨f1,f2,f3⟩:=fold_get a' (l.take n) a inv.size.symm hfit
  have hfold:(l.take n).foldl (fun c o=>c.put o.dst (valOf a'.eval o.dst)) a=a':=by
   generalize (l.take n).foldl (fun c o=>c.put o.dst (valOf a'.eval o.dst)) a=b at f1 f2 f3
   obtain⟨bt,bd⟩:=b
   obtain⟨at',ad⟩:=a'
   have hd:=inv.defers
   simp only at f1 f2 f3 hd
   have e1:bt=at':=by
    apply Array.ext_getElem?
    intro t
    rw[f3 t]
    split
    ·rfl
    ·rename_i hne
     refine(inv.out t fun j o hj ho hd=>hne ⟨o,?_,hd⟩).symm
     rw[List.mem_iff_getElem?]
     exact⟨j,by rw[List.getElem?_take_of_lt hj]; simpa using ho⟩
   rw[e1,f1,hd]
  rw[hfold]at hK
  have hall:∀j,j<n→(List.replicate n true++List.replicate (l.length-n) false).toArray.getD j false=true:=fun j hj=>by
   have e:(List.replicate n true++List.replicate (l.length-n) false)[j]?=some true:=by
    rw[List.getElem?_append_left (by simpa using hj),List.getElem?_replicate,if_pos hj]
   simp[e]
  exact hK fun o1 o2 h1 h2 k1 k2=>invP.pair o1 o2 h1 h2 k1 k2 (hall i0 k1) (hall j0 k2)
end
end Go.Rel
namespace Go.Proofs.YtfmkkemfhjkajaaGreatDoor
open Go.RowKit
/-- A new variable, from block base on: what it holds. -/
def NewB(cs:Array Value)(base:Nat)(w:World)(v:Value):Prop:=
 ∃g,v = .pointer (some ⟨g,0,none⟩)∧base≤g∧g<w.heap.size∧(∀i,w.cell? ⟨g,i,none⟩=cs[i]?)∧(∀i,w.frozen? ⟨g,i,none⟩=false)
theorem NewB.ext{cs:Array Value}{base:Nat}{w w':World}{v:Value}(h:NewB cs base w v)(hb:Ext w w'):NewB cs base w' v:=by
 obtain⟨g,hv,h1,h2,h3,h4⟩:=h
 exact⟨g,hv,h1,by have:=hb.size; omega,fun i=>(hb.cell (p:=⟨g,i,none⟩) h2).trans (h3 i),fun i=>(hb.frozen (p:=⟨g,i,none⟩) h2).trans (h4 i)⟩
theorem newB_alloc(w:World)(cs:Array Value)(t:TypeId){base:Nat}(h:base≤w.heap.size):NewB cs base (w.alloc (.cells cs t)) (.pointer (some ⟨w.heap.size,0,none⟩)):=
 ⟨_,rfl,h,by simp,fun i=>by simp[go_sem],fun i=>by simp[go_sem]⟩
theorem NewB.old{cs:Array Value}{base:Nat}{w:World}{v:Value}(h:NewB cs base w v):Rel.Old v w:=by
 obtain⟨g,hv,_,h2,_⟩:=h; exact⟨g,hv,h2⟩
end Go.Proofs.YtfmkkemfhjkajaaGreatDoor
/- Variables of several cells (boxes), read and written whole. No program in sight. -/
namespace Go.Proofs.YtfmkkemfhjkajaaGreatDoor
open Go.RowKit
variable{α:Type}
/-- Block b holds the cells A, free to be written. -/
def Bx(w:World)(b:Nat)(A:Array Value):Prop:=b<w.heap.size∧(∀i,w.cell? ⟨b,i,none⟩=A[i]?)∧(∀i,w.frozen? ⟨b,i,none⟩=false)
theorem Bx.ext{w w':World}{b:Nat}{A:Array Value}(h:Bx w b A)(hb:Ext w w'):Bx w' b A:=
 ⟨by have:=hb.size; have:=h.1; omega,fun i=>(hb.cell (p:=⟨b,i,none⟩) h.1).trans (h.2.1 i),fun i=>(hb.frozen (p:=⟨b,i,none⟩) h.1).trans (h.2.2 i)⟩
theorem bx_new(w:World)(A:Array Value)(t:TypeId):Bx (w.alloc (.cells A t)) w.heap.size A:=⟨by simp,fun i=>by simp[go_sem],fun i=>by simp[go_sem]⟩
theorem Bx.al{w:World}{b:Nat}{A:Array Value}(h:Bx w b A)(o:Obj):Bx (w.alloc o) b A:=h.ext (below_alloc w o)
theorem Bx.ch{w w':World}{b c:Nat}{A:Array Value}(h:Bx w b A)(hc:Ch c w w')(hne:b≠c):Bx w' b A:=
 ⟨by have:=hc.size; have:=h.1; omega,fun i=>(hc.cell (p:=⟨b,i,none⟩) h.1 hne).trans (h.2.1 i),fun i=>(hc.frozen (p:=⟨b,i,none⟩) h.1 hne).trans (h.2.2 i)⟩
theorem Ch.setCells{b:Nat}{w w':World}(h:Ch b w w'):∀(vs:List Value) (o:Nat),Ch b w (w'.setCells b o vs)
 | [],_=>h
 | v::vs,o=>Ch.setCells (h.setCell o v) vs (o+1)
theorem ext_setCells{W w:World}(h:Ext W w){c:Nat}(hc:W.heap.size≤c)(vs:List Value)(o:Nat):Ext W (w.setCells c o vs):=
 (Ch.setCells (Ch.of_ext h) vs o).below hc (Nat.le_refl _)
theorem Bx.set_ne{w:World}{b c:Nat}{A:Array Value}(h:Bx w b A)(hne:b≠c)(vs:List Value)(o:Nat):Bx (w.setCells c o vs) b A:=h.ch ((Ch.refl c w).setCells vs o) hne
theorem Bx.there{w:World}{b n:Nat}{A:Array Value}(h:Bx w b A)(hn:A.size=n):w.there b 0 n:=fun j hj=>by
 rw[Nat.zero_add,h.2.1,h.2.2,Array.getElem?_eq_getElem (by omega)]; exact⟨rfl,rfl⟩
theorem size_setCells(b:Nat):∀(vs:List Value) (o:Nat) (w:World),(w.setCells b o vs).heap.size=w.heap.size
 | [],_,_=>rfl
 | v::vs,o,w=>by
  show((w.setCell ⟨b,o,none⟩ v).setCells b (o+1) vs).heap.size=_
  rw[size_setCells b vs (o+1)]; simp
theorem cell_setCells_beyond(b:Nat)(vs:List Value)(o:Nat)(w:World)(j:Nat)(h:j<o∨o+vs.length≤j):(w.setCells b o vs).cell? ⟨b,j,none⟩=w.cell? ⟨b,j,none⟩:=
 World.cell?_setCells_out b vs o w ⟨b,j,none⟩ (fun _ _=>h)
theorem frozen_setCells(b:Nat):∀(vs:List Value) (o:Nat) (w:World) (p:Addr),(w.setCells b o vs).frozen? p=w.frozen? p
 | [],_,_,_=>rfl
 | v::vs,o,w,p=>by
  show((w.setCell ⟨b,o,none⟩ v).setCells b (o+1) vs).frozen? _=_
  rw[frozen_setCells b vs (o+1)]; simp[go_sem]
theorem Bx.set{w:World}{b:Nat}{A:Array Value}(h:Bx w b A)(vs:List Value)(hn:A.size=vs.length):Bx (w.setCells b 0 vs) b vs.toArray:=by
 refine⟨by rw[size_setCells]; exact h.1,fun i=>?_,fun i=>by rw[frozen_setCells]; exact h.2.2 i⟩
 by_cases hi:i<vs.length
 ·have:=World.rangeAt_setCells_same w b 0 vs (h.there hn) i vs[i] (by simp[hi])
  rw[Nat.zero_add]at this
  rw[this]; simp[hi]
 ·rw[cell_setCells_beyond b vs 0 w i (.inr (by omega)),h.2.1,Array.getElem?_eq_none (by omega),Array.getElem?_eq_none (by simp; omega)]
theorem Bx.range{w:World}{b:Nat}{A:Array Value}(h:Bx w b A)(o n:Nat){cs:List Value}(hcs:(A.toList.drop o).take n=cs):w.rangeAt b o cs:=fun j v hv=>by
 subst hcs
 rw[h.2.1]
 rw[List.getElem?_take]at hv
 split at hv
 ·rw[List.getElem?_drop]at hv; simpa using hv
 ·cases hv
/-- A row of one-cell elements does not lie where something else than its elements is. -/
theorem Bx.off{f:α→Value}{w:World}{b:Nat}{A:Array Value}(h:Bx w b A)(hA:∀(i:Nat) (x:α),A[i]?≠some (f x)){s:Value}{l:List α}(hs:IsRowOf f w s l):0<l.length→Off b s:=by
 intro h0 ad n cap e
 obtain⟨b',o,c,hv,hb,_,_,hc⟩:=row_some hs rfl h0
 rw[hv]at e
 simp only[Value.slice.injEq,Option.some.injEq]at e
 obtain⟨rfl,-,-⟩:=e
 intro hbg
 simp only at hbg
 subst hbg
 have h1:=hc 0 h0
 rw[h.2.1]at h1
 exact hA _ _ h1
theorem NewB.bx{cs:Array Value}{base:Nat}{w:World}{v:Value}(h:NewB cs base w v):∃g,v = .pointer (some ⟨g,0,none⟩)∧base≤g∧Bx w g cs:=by
 obtain⟨g,hv,h1,h2,h3,h4⟩:=h; exact⟨g,hv,h1,h2,h3,h4⟩
end Go.Proofs.YtfmkkemfhjkajaaGreatDoor
namespace Go.Rel
open Go.Proofs.YtfmkkemfhjkajaaGreatDoor
variable{P:Program}{o:Oper}{ρ:Operand→Value}{w:World}
/-- A variable of several cells is read. -/
theorem does_load{ty:TypeId}{x:Operand}{b off n:Nat}{A:Array Value}{d:TypeDesc}{cs:List Value}{R:World→World→Prop}{T:Fact}(ho:o.op = .load ty x)(hx:ρ x = .pointer (some ⟨b,off,none⟩))(hb:Bx w b A)
  (hcs:(A.toList.drop off).take n=cs) (hn:cs.length=n) (hu:P.underlying ty=some d) (hd:d.isRow=true) (hi:(P.info? ty).map (·.size)=some n) (hR:R w w) (hT:T (kept o (.agg cs.toArray)) w):Does P o ρ w (fun v w'=>R w w'∧T (kept o v) w'):=by
 refine does_val (u := .agg cs.toArray) ?_ hR hT
 unfold execOp
 simp only[ho,hx,Sem.run_bind,run_loadAt_mid w b off ty cs d (hb.range off n hcs) hu hd (by rw[hn]; exact hi)]
 rfl
end Go.Rel
