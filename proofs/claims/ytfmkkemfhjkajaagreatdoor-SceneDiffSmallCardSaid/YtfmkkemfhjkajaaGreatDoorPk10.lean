/- Rational numbers by value: plain laws. No program in sight. A walk by lemmas: an act is known by the slots that it is said to hold. No program in sight. -/
import Derived.Test.YtfmkkemfhjkajaaGreatDoorInt
import Derived.Test.YtfmkkemfhjkajaaGreatDoorBx
import Derived.Test.YtfmkkemfhjkajaaGreatDoorData
section
namespace Go.Proofs.YtfmkkemfhjkajaaGreatDoor
open Go.RowKit
variable{α:Type}
set_option linter.unusedVariables false
theorem nrm_zv(n:Bool)(a d:Nat):nrm n false a d=nz (zv n a) d:=by
  unfold nz
  rw[zv_abs,zv_neg]
  unfold nrm
  split
  · rfl
  · congr 1
    unfold negOf
    rcases Nat.eq_zero_or_pos a with h | h
    · subst h; simp[sgn]
    · rw[decide_eq_true h,Bool.and_true]
abbrev Nrm (q:Bool×Nat×Nat):Prop:=nrm q.1 false q.2.1 q.2.2=q
theorem nrm_idem(n1 n2:Bool)(a b:Nat):Nrm (nrm n1 n2 a b):=by
  unfold Nrm
  rcases Nat.eq_zero_or_pos b with hb | hb
  · have e:nrm n1 n2 a b=(false,0,1):=by unfold nrm; rw[if_pos hb]
    rw[e]; decide
  · have hg:0<Nat.gcd a b:=Nat.gcd_pos_of_pos_right a hb
    have hb':0<b/Nat.gcd a b:=Nat.div_pos (Nat.le_of_dvd hb (Nat.gcd_dvd_right a b)) hg
    have hc:Nat.gcd (a/Nat.gcd a b) (b/Nat.gcd a b)=1:=Nat.coprime_div_gcd_div_gcd hg
    have e:nrm n1 n2 a b=(negOf n1 n2 a b,a/Nat.gcd a b,b/Nat.gcd a b):=by unfold nrm; rw[if_neg (by omega)]
    rw[e]
    have hneg:negOf n1 n2 a b=true→0<a/Nat.gcd a b:=by
      unfold negOf; rw[Bool.and_eq_true]; intro h; simpa using h.2
    generalize negOf n1 n2 a b=n at *
    generalize a/Nat.gcd a b=x at *
    generalize b/Nat.gcd a b=y at *
    unfold nrm
    rw[if_neg (by simp only; omega)]
    simp only[hc,Nat.div_one]
    congr 1
    unfold negOf
    rcases Nat.eq_zero_or_pos x with h | h
    · subst h
      have : n = false := by cases n
                             · rfl
                             · exact absurd (hneg rfl) (by omega)
      subst this; simp[sgn]
    · rw[hc,Nat.div_one,decide_eq_true h,Bool.and_true]
      unfold sgn
      have hx:x≠0:=by omega
      have hy:y≠0:=by omega
      rw[if_neg hx,if_neg hy]
      cases n<;>decide
theorem nz_nrm(z:Int)(d:Nat):Nrm (nz z d):=nrm_idem _ _ _ _
theorem nrm_pos(n1 n2:Bool)(a b:Nat):0<(nrm n1 n2 a b).2.2:=by
  unfold nrm
  split
  · exact Nat.one_pos
  · exact Nat.div_pos (Nat.le_of_dvd (by omega) (Nat.gcd_dvd_right a b)) (Nat.gcd_pos_of_pos_right a (by omega))
/-- At most K digits each. -/
def qlen(K:Nat)(q:Bool×Nat×Nat):Prop:=(Na.digs q.2.1).length≤K∧(Na.digs q.2.2).length≤K
theorem qlen.mono{K L:Nat}{q:Bool×Nat×Nat}(h:qlen K q)(hk:K≤L):qlen L q:=⟨Nat.le_trans h.1 hk,Nat.le_trans h.2 hk⟩
theorem digs_one:(Na.digs 1).length≤1:=Na.digs_length_le (by decide)
theorem nz_len{K:Nat}(z:Int)(d:Nat)(hK:1≤K)(h1:(Na.digs z.natAbs).length≤K)(h2:(Na.digs d).length≤K):qlen K (nz z d):=by
  unfold nz nrm
  split
  · exact⟨by rw[Na.digs_zero]; simp,Nat.le_trans digs_one hK⟩
  · exact⟨Nat.le_trans (digs_len_le (Nat.div_le_self _ _)) h1,Nat.le_trans (digs_len_le (Nat.div_le_self _ _)) h2⟩
theorem qz_len{K:Nat}{q:Bool×Nat×Nat}(h:qlen K q):(Na.digs (qz q).natAbs).length≤K:=by unfold qz; rw[zv_abs]; exact h.1
theorem nat_len{n K:Nat}(h:(Na.digs n).length≤K):(Na.digs (n:Int).natAbs).length≤K:=by rw[Int.natAbs_natCast]; exact h
theorem qmul_len{K L:Nat}{p q:Bool×Nat×Nat}(hK:1≤K)(h1:qlen K p)(h2:qlen L q):qlen (K+L) (qmul p q):=by
  refine nz_len _ _ (by omega) (len_mul _ _ (qz_len h1) (qz_len h2)) ?_
  have:=len_mul p.2.2 q.2.2 (nat_len h1.2) (nat_len h2.2)
  rwa [show((p.2.2:Int)*(q.2.2:Int))=((p.2.2*q.2.2:Nat):Int) by simp,Int.natAbs_natCast]at this
theorem qadd_len{K L:Nat}{p q:Bool×Nat×Nat}(hK:1≤K)(h1:qlen K p)(h2:qlen L q):qlen (K+L+1) (qadd p q):=by
  refine nz_len _ _ (by omega) (len_add _ _ (len_mul _ _ (qz_len h1) (nat_len h2.2)) (by rw[Nat.add_comm]; exact len_mul _ _ (qz_len h2) (nat_len h1.2))) ?_
  have:=len_mul p.2.2 q.2.2 (nat_len h1.2) (nat_len h2.2)
  rw[show((p.2.2:Int)*(q.2.2:Int))=((p.2.2*q.2.2:Nat):Int) by simp,Int.natAbs_natCast]at this
  omega
theorem qsub_len{K L:Nat}{p q:Bool×Nat×Nat}(hK:1≤K)(h1:qlen K p)(h2:qlen L q):qlen (K+L+1) (qsub p q):=by
  refine nz_len _ _ (by omega) (len_sub _ _ (len_mul _ _ (qz_len h1) (nat_len h2.2)) (by rw[Nat.add_comm]; exact len_mul _ _ (qz_len h2) (nat_len h1.2))) ?_
  have:=len_mul p.2.2 q.2.2 (nat_len h1.2) (nat_len h2.2)
  rw[show((p.2.2:Int)*(q.2.2:Int))=((p.2.2*q.2.2:Nat):Int) by simp,Int.natAbs_natCast]at this
  omega
/-- A rational number by value, at most K digits each. -/
def IsRatQ(K:Nat)(w:World)(v:Value)(q:Bool×Nat×Nat):Prop:=
  ∃n1 s1 l1 n2 s2 l2,v = .agg #[.bool n1,s1,.bool n2,s2]∧IsU32s w s1 l1∧IsU32s w s2 l2∧l1.length≤K∧l2.length≤K∧nrm n1 n2 (Na.val l1) (Na.val l2)=q
theorem IsRatQ.below{K:Nat}{w w':World}{v:Value}{q:Bool×Nat×Nat}(h:IsRatQ K w v q)(hb:Ext w w'):IsRatQ K w' v q:=by
  obtain⟨n1,s1,l1,n2,s2,l2,hv,h1,h2,h3,h4,h5⟩:=h; exact⟨n1,s1,l1,n2,s2,l2,hv,h1.below hb,h2.below hb,h3,h4,h5⟩
theorem IsRatQ.mono{K L:Nat}{w:World}{v:Value}{q:Bool×Nat×Nat}(h:IsRatQ K w v q)(hk:K≤L):IsRatQ L w v q:=by
  obtain⟨n1,s1,l1,n2,s2,l2,hv,h1,h2,h3,h4,h5⟩:=h; exact⟨n1,s1,l1,n2,s2,l2,hv,h1,h2,by omega,by omega,h5⟩
theorem IsRatQ.shape{K:Nat}{w:World}{v:Value}{q:Bool×Nat×Nat}(h:IsRatQ K w v q):∃n1 a1 m1 c1 n2 a2 m2 c2,v = .agg #[.bool n1,.slice a1 m1 c1,.bool n2,.slice a2 m2 c2]:=by
  obtain⟨n1,s1,l1,n2,s2,l2,rfl,h1,h2,_⟩:=h
  obtain⟨a1,c1,rfl⟩:=h1.shape
  obtain⟨a2,c2,rfl⟩:=h2.shape
  exact⟨_,_,_,_,_,_,_,_,rfl⟩
theorem IsRatQ.nrm{K:Nat}{w:World}{v:Value}{q:Bool×Nat×Nat}(h:IsRatQ K w v q):Nrm q:=by
  obtain⟨n1,s1,l1,n2,s2,l2,_,_,_,_,_,rfl⟩:=h; exact nrm_idem _ _ _ _
theorem IsRatQ.pos{K:Nat}{w:World}{v:Value}{q:Bool×Nat×Nat}(h:IsRatQ K w v q):0<q.2.2:=by
  obtain⟨n1,s1,l1,n2,s2,l2,_,_,_,_,_,rfl⟩:=h; exact nrm_pos _ _ _ _
theorem IsRatQ.len{K:Nat}{w:World}{v:Value}{q:Bool×Nat×Nat}(h:IsRatQ K w v q)(hK:1≤K):qlen K q:=by
  obtain⟨n1,s1,l1,n2,s2,l2,_,_,_,h3,h4,rfl⟩:=h
  have:=nrm_len n1 n2 l1 l2
  exact⟨by omega,by omega⟩
theorem RatD.toQ{w:World}{r:RatD}{K:Nat}(h:r.ok w)(hf:r.fit K):IsRatQ K w r.v r.q:=⟨r.n1,r.s1,r.l1,r.n2,r.s2,r.l2,rfl,h.1,h.2,hf.1,hf.2,rfl⟩
theorem IsRatN.toQ{base K:Nat}{w:World}{v:Value}{q:Bool×Nat×Nat}(h:IsRatT base w v q)(hn:Nrm q)(hl:qlen K q):IsRatQ K w v q:=by
  obtain⟨s,t,rfl,hs,ht,_,_⟩:=h
  exact⟨_,s,_,_,t,_,rfl,hs,ht,hl.1,hl.2,by rw[Na.val_digs,Na.val_digs]; exact hn⟩
theorem IsRatN.parts'{base K:Nat}{w:World}{n m:Bool}{s t:Value}{q:Bool×Nat×Nat}(h:IsRatT base w (.agg #[.bool n,s,.bool m,t]) q)(hl:qlen K q) :
    IsIntQ K w (.agg #[.bool n,s]) (qz q)∧IsIntQ K w (.agg #[.bool m,t]) (q.2.2:Int):=by
  obtain⟨s',t',e,hs,ht,_,_⟩:=h
  simp only[Value.agg.injEq,Array.mk.injEq,List.cons.injEq,Value.bool.injEq,and_true]at e
  obtain⟨rfl,rfl,rfl,rfl⟩:=e
  exact⟨⟨_,_,_,rfl,hs,hl.1,by rw[Na.val_digs]; rfl⟩,⟨_,_,_,rfl,ht,hl.2,by rw[Na.val_digs]; rfl⟩⟩
theorem IsRatN.set{base:Nat}{w:World}{v:Value}{neg:Bool}{a b c:Nat}(h:IsRatN base w v neg a b)(hlt:c<base)(vs:List Value)(o:Nat):IsRatN base (w.setCells c o vs) v neg a b:=h.ch ((Ch.refl c w).setCells vs o) hlt
theorem IsIntN.set{base:Nat}{w:World}{v:Value}{neg:Bool}{n c:Nat}(h:IsIntN base w v neg n)(hlt:c<base)(vs:List Value)(o:Nat):IsIntN base (w.setCells c o vs) v neg n:=by
  obtain⟨s,hv,hs,fs⟩:=h
  exact⟨s,hv,hs.ch ((Ch.refl c w).setCells vs o) (fun _=>fs.off hlt),fs⟩
end Go.Proofs.YtfmkkemfhjkajaaGreatDoor
end
section
namespace Go.Vp
open Go.Proofs.YtfmkkemfhjkajaaGreatDoor Go.RowKit Go.Rel
set_option linter.unusedVariables false
/-- The act has n slots, nothing is deferred, and its slots hold what l says (the first entry counts). -/
structure St (a:Act) (n:Nat) (l:List (Nat×Value)):Prop where
 size:a.tmps.size=n
 defers:a.defers=[]
 has:∀i v,l.lookup i=some v→a.eval (.tmp i)=v
def ev(l:List (Nat×Value)):Operand→Option Value
 | .tmp i=>l.lookup i
 | .const v=>some v
 | .global g=>some (.pointer (some ⟨g,0,none⟩))
 | .func f=>some (.func (.func f) #[] #[])
section
variable{P:Program}{ops:Array Oper}{Q:Exit→Act→World→Prop}{a:Act}{w:World}{rest:List Oper}{o:Oper}{n:Nat}{l:List (Nat×Value)}
theorem St.ev{x:Operand}{v:Value}(h:St a n l)(he:ev l x=some v):a.eval x=v:=by
 cases x with
 | tmp i=>exact h.has i v he
 | const c=>exact Option.some.inj he
 | global g=>exact Option.some.inj he
 | func f=>exact Option.some.inj he
theorem St.put(h:St a n l)(d:Nat)(hd:d<n)(v:Value):St (a.put (some d) v) n ((d,v)::l):=by
 refine⟨by rw[put_size]; exact h.size,by rw[put_defers]; exact h.defers,fun i u hu=>?_⟩
 rw[List.lookup_cons]at hu
 by_cases hi:i=d
 ·subst hi
  simp only[beq_self_eq_true]at hu
  obtain rfl:=Option.some.inj hu
  have hlt:i<a.tmps.size:=by rw[h.size]; exact hd
  simp[Act.eval,Act.put,hlt]
 ·have e:(i==d)=false:=by simpa using hi
  rw[e]at hu
  rw[eval_of_get (put_get_ne a (some d) v i (fun e=>hi (Option.some.inj e).symm))]
  exact h.has i u hu
def Sub(l:List (Nat×Value)):List (Nat×Value)→Prop
 | []=>True
 | p::ps=>l.lookup p.1=some p.2∧Sub l ps
theorem Sub.get{l:List (Nat×Value)}:∀{l':List (Nat×Value)},Sub l l'→∀i v,l'.lookup i=some v→l.lookup i=some v
 | [],_,i,v,h=>by simp at h
 | p::ps,hs,i,v,h=>by
  rw[List.lookup_cons]at h
  by_cases hi:i=p.1
  ·subst hi
   simp only[beq_self_eq_true]at h
   obtain rfl:=Option.some.inj h
   exact hs.1
  ·have e:(i==p.1)=false:=by simpa using hi
   rw[e]at h
   exact Sub.get hs.2 i v h
theorem St.sub{l':List (Nat×Value)}(h:St a n l)(hl:Sub l l'):St a n l':=⟨h.size,h.defers,fun i v hi=>h.has i v (hl.get i v hi)⟩
def ext(l:List (Nat×Value)):Option Tmp→Value→List (Nat×Value)
 | some d,v=>(d,v)::l
 | none,_=>l
theorem St.putO(h:St a n l)(d:Option Tmp)(hd:∀t,d=some t→t<n)(v:Value):St (a.put d v) n (Vp.ext l d v):=by
 cases d with
 | none=>exact h
 | some t=>exact h.put t (hd t rfl) v
/-- One operation of a plain region. -/
theorem step(hs:St a n l)(hg:o.guard=none)(hd:∀t,o.dst=some t→t<n){K:Value→World→Prop}(h:Does P o a.eval w K)
  (hn:∀v w',K v w'→∀a',St a' n (Vp.ext l o.dst v)→wpList P ops Q rest a' w'):wpList P ops Q (o::rest) a w:=
 wpList_plain hg fun _ hK=>wp_of_does h fun v w' hk=>hK _ _ (hn v w' hk _ (hs.putO o.dst hd v))
theorem lt_of{o:Oper}{n:Nat}(h:(match o.dst with | some d=>decide (d<n) | none=>true)=true):∀t,o.dst=some t→t<n:=by
 intro t ht; rw[ht]at h; simpa using h
theorem run_load1{ty:TypeId}{b off:Nat}{d:TypeDesc}{v:Value}(hv:w.cell? ⟨b,off,none⟩=some v)(hu:P.underlying ty=some d)(hrow:d.isRow=false) :
  (Instr.loadAt ty (.pointer (some ⟨b,off,none⟩))).run P w = .ok v w:=by
 have hagg:(isAgg ty).run P w = .ok false w:=by
  unfold isAgg
  rw[Sem.run_bind,run_underlying hu w]
  cases d<;>simp_all
 simp only[Sem.run_bind,Instr.loadAt,Instr.sureAddr,Sem.run_pure,Result.andThen_ok,loadVar,hagg]
 simp[hv]
/-! ### Control -/
theorem then_ret{K:Act→World→Prop}(h:Q .ret a w):Exit.then K Q .ret a w:=h
theorem inBlock_ret{id:Nat}(h:Q .ret a w):Exit.inBlock id Q .ret a w:=h
/-- A return passes through all that stands round it. -/
class Ret (Q:Exit→Act→World→Prop) (Q':outParam (Exit→Act→World→Prop)):Prop where
 out:∀a w,Q' .ret a w→Q .ret a w
instance ret_body {fn:Func}{R:Ending→World→Prop}:Ret (bodyPost P fn R) (bodyPost P fn R):=⟨fun _ _ h=>h⟩
instance ret_then {Q Q':Exit→Act→World→Prop}{K:Act→World→Prop}[r:Ret Q Q']:Ret (Exit.then K Q) Q':=⟨fun a w h=>r.out a w h⟩
instance ret_block {Q Q':Exit→Act→World→Prop}{id:Nat}[r:Ret Q Q']:Ret (Exit.inBlock id Q) Q':=⟨fun a w h=>r.out a w h⟩
theorem rt{Q Q':Exit→Act→World→Prop}[r:Ret Q Q'](h:Q' .ret a w):Code.ret.wp P Q a w:=wp_ret (r.out a w h)
theorem enter{f:FuncId}{fn:Func}{c:Code}{args:Array Value}{R:Ending→World→Prop}(hf:P.funcs[f]?=some fn)(hb:fn.body=some c)(hsz:decide (args.size≤fn.ntmps)=true)
  (h:∀a,St a fn.ntmps ((List.range args.size).zip args.toList)→c.wp P (bodyPost P fn R) a w):Calls P f args w R:=by
 refine calls_of_wp hf hb (h _ ⟨?_,rfl,fun i v hv=>?_⟩)
 ·have:args.size≤fn.ntmps:=by simpa using hsz
  simp; omega
 ·have key:∀(l:List Value) (k:Nat),((List.range' k l.length).zip l).lookup i=some v→k≤i∧l[i-k]?=some v:=by
   intro l
   induction l with
   | nil=>intro k h; simp at h
   | cons x l ih =>
    intro k h
    simp only[List.length_cons,List.range'_succ,List.zip_cons_cons,List.lookup_cons]at h
    by_cases hik:i=k
    ·subst hik; simp at h; simp[h]
    ·have e:(i==k)=false:=by simpa using hik
     rw[e]at h
     obtain⟨h1,h2⟩:=ih (k+1) h
     exact⟨by omega,by rw[show i-k=(i-(k+1))+1 by omega,List.getElem?_cons_succ]; exact h2⟩
  rw[List.range_eq_range',←Array.length_toList]at hv
  obtain⟨-,h2⟩:=key args.toList 0 hv
  simp only[Nat.sub_zero]at h2
  simp only[Act.eval,Array.getD_eq_getD_getElem?]
  have hlt:i<args.size:=by have:=(List.getElem?_eq_some_iff.1 h2).1; simpa using this
  rw[Array.getElem?_append_left hlt]
  have:args[i]?=some v:=by simpa using h2
  rw[this]; rfl
theorem region{id:Nat}{l':List Oper}(h:wpList P l'.toArray Q l' a w):(Code.region id l'.toArray false).wp P Q a w:=wp_region_lit h
theorem cond(hs:St a n l){c:Operand}{x y:Code}{t:Bool}(hc:ev l c=some (.bool t))(ht:t=true→x.wp P Q a w)(hf:t=false→y.wp P Q a w):(Code.cond c x y).wp P Q a w:=wp_cond_split (hs.ev hc) ht hf
/-- A loop: what holds at each round's head, by an index that falls. -/
theorem loop{ι:Type}{c:Code}(I:ι→Act→World→Prop)(μ:ι→Nat)(i0:ι)(h0:I i0 a w)
  (round:∀i a w,I i a w→c.wp P (Exit.then (fun a' w'=>∃i',I i' a' w'∧μ i'<μ i) Q) a w):(Code.loop c).wp P Q a w:=by
 intro b k cs
 have key:∀m i a w,μ i=m→I i a w→∃e a' w',Q e a' w'∧Arrives P (lone (b.at a (.code c :: .inLoop c::k)) cs w) b k cs e a' w':=by
  intro m
  induction m using Nat.strongRecOn with
  | _ m ih =>
   intro i a w hm hI
   obtain⟨e,a₁,w₁,hq,harr⟩:=round i a w hI b (.inLoop c::k) cs
   cases e with
   | normal =>
    obtain⟨i',hI₁,hlt⟩:=hq
    obtain⟨e₂,a₂,w₂,hq₂,harr₂⟩:=ih (μ i') (hm▸hlt) i' a₁ w₁ rfl hI₁
    exact⟨e₂,a₂,w₂,hq₂,.of_steps (Steps.trans harr (.one step_inLoop)) harr₂⟩
   | exit id=>exact⟨_,a₁,w₁,hq,.pass (x := .inLoop c) rfl (fun _ _ => .inl (by simp)) harr⟩
   | goto l=>exact⟨_,a₁,w₁,hq,.pass (x := .inLoop c) rfl (fun _ _ => .inl (by simp)) harr⟩
   | ret=>exact⟨_,a₁,w₁,hq,.pass (x := .inLoop c) rfl (fun _ _ => .inl (by simp)) harr⟩
   | panic ch=>exact⟨_,a₁,w₁,hq,.pass (x := .inLoop c) rfl (fun _ _ => .inl (by simp)) harr⟩
   | outgrown=>exact⟨_,a₁,w₁,hq,.pass (x := .inLoop c) rfl (fun _ _ => .inl (by simp)) harr⟩
 obtain⟨e,a',w',hq,harr⟩:=key _ i0 a w rfl h0
 exact⟨e,a',w',hq,.of_steps (.one step_loop) harr⟩
/-- The end: one result in a slot. -/
theorem end_tmp(hs:St a n l){fn:Func}{R:Ending→World→Prop}{r:Nat}{v:Value}(hr:fn.results = #[.tmp r])(hv:ev l (.tmp r)=some v)(h:R (.returned v) w):bodyPost P fn R .ret a w:=by
 refine⟨hs.defers,v,?_,h⟩
 have h1:=hs.ev hv
 unfold results
 rw[hr]
 simp only[Act.eval,Array.getD_eq_getD_getElem?]at h1
 simp[h1]
theorem end_tmp2(hs:St a n l){fn:Func}{R:Ending→World→Prop}{r s:Nat}{v u:Value}(hr:fn.results = #[.tmp r,.tmp s])(hv:ev l (.tmp r)=some v)(hu:ev l (.tmp s)=some u)(h:R (.returned (.tuple #[v,u])) w):bodyPost P fn R .ret a w:=by
 refine⟨hs.defers,_,?_,h⟩
 have h1:=hs.ev hv
 have h2:=hs.ev hu
 unfold results
 rw[hr]
 simp only[Act.eval,Array.getD_eq_getD_getElem?]at h1 h2
 simp[h1,h2]
/-- Behind the law for drawn regions: the slots. -/
def EndS(K:Act→Prop)(w:World)(n:Nat):List Oper→List Fact→List (Nat×Value)→Prop
 | o::os,T::Us,l=>∀v,T v w→EndS K w n os Us (Vp.ext l o.dst v)
 | _,_,l=>∀a,St a n l→K a
theorem end_of{K:Act→Prop}:∀(os:List Oper) (Us:List Fact) (a:Act) (l:List (Nat×Value)),St a n l→(os.all fun o=>match o.dst with | some d=>decide (d<n) | none=>true)=true→EndS K w n os Us l→Go.Rel.End K w os Us a
 | [],_,a,l,hs,_,h=>by cases ‹List Fact› <;> exact h a hs
 | _::_,[],a,l,hs,_,h=>h a hs
 | o::os,T::Us,a,l,hs,hd,h=>fun v hv=>by
  rw[List.all_cons,Bool.and_eq_true]at hd
  exact end_of os Us _ _ (hs.putO o.dst (lt_of hd.1) v) hd.2 (h v hv)
end
end Go.Vp
end
