/- A region that draws its order and ends with a store: `return n, f(n)`. No program in sight. Reference 13: paths. References 03 and 12: the sameness of numbers and of transforms. Numbers in lowest terms are equal by value exactly if they are the same. No program in sight. -/
import Derived.Test.YtfmkkemfhjkajaaGreatDoorSy
import Derived.Laws.IdiomCopy
import Derived.Test.YtfmkkemfhjkajaaGreatDoorPk22
import Derived.Test.YtfmkkemfhjkajaaGreatDoorAffG
import Derived.Test.YtfmkkemfhjkajaaGreatDoorRatF
import Derived.Test.YtfmkkemfhjkajaaGreatDoorInt
import Derived.Test.YtfmkkemfhjkajaaGreatDoorPk4
import Derived.IntWalk
import Derived.Test.YtfmkkemfhjkajaaGreatDoorRat
import Derived.Test.YtfmkkemfhjkajaaGreatDoorData
section
namespace Go.Sx
open Go.Proofs.YtfmkkemfhjkajaaGreatDoor Go.RowKit Go.Rel
set_option linter.unusedVariables false
section
variable{P:Program}{ops:Array Oper}{Q:Exit→Act→World→Prop}{w0:World}{a:Act}{w:World}{os:List Oper}{n:Nat}{l:List (Nat×Value)}{bl:List (Nat×List Value)}{vs:List Mem1}
theorem store_run{ρ:Operand→Value}{o:Oper}{ty:TypeId}{x y:Operand}{b off:Nat}{A cs:List Value}(hop:o.op = .store ty x y)(hx:ρ x = .pointer (some ⟨b,off,none⟩))(hy:ρ y = .agg cs.toArray)(hbx:Bx w b A.toArray)
  (hi:(P.info? ty).map (·.size)=some cs.length) (hf:off+cs.length≤A.length) (h1:cs.all (·.oneCell')=true):(execOp ρ o).run P w = .ok .skip (w.setCells b off cs):=by
 have hth:w.there b off cs.toArray.size:=fun j hj=>by
  have h3:j<cs.length:=by simpa using hj
  rw[hbx.2.1,hbx.2.2,Array.getElem?_eq_getElem (by simp; omega)]; exact⟨rfl,rfl⟩
 have h:=run_storeVar_mid (P:=P) w b off ty cs.toArray hth (by rw[hi]; simp) (by rw[←h1]; simp)
 unfold execOp
 simp only[hop,hx,hy,Instr.storeAt,Instr.sureAddr,Sem.run_bind,Sem.run_pure,Result.andThen_ok,h]
/-- The store behind m operations that ask: what it writes was found by operation j. -/
def stD(P:Program)(os:List Oper)(m j:Nat)(l:List (Nat×Value)):Option (Nat×Nat×Nat):=
 match os[m]? with
 | some o=>(match o.guard,o.dst,o.op with
  | none,none,.store ty (.tmp s) (.tmp s')=>(match l.lookup s,P.info? ty,(os[j]?).bind (·.dst)with
   | some (.pointer (some ⟨b,off,none⟩)),some i,some d =>
    (match d==s'&&decide (j<m)&&(os.take m).all (fun o => !(o.dst==some s))&&o.after.toList.any (fun g=>g.on==j&&Region.binds .any g)with
    | true=>some (b,off,i.size)
    | false=>none)
   | _,_,_=>none)
  | _,_,_=>none)
 | none=>none
/-- A call behind a guard that is known to hold. -/
def callOfG(P:Program)(ops:Array Oper)(os:List Oper)(l:List (Nat×Value)):Option (FuncId×Array Value×Option Nat):=
 match os with
 | o::_=>(match pathOf ops (lift l) o,isSel o.op || !o.op.operands.all (fun x=>(rd (lift l) [] x).isSome),ofNext (ev0 P (execOp (rdD (lift l) []) o))with
  | some p,false,some (.enter f args)=>(match gof (lift l) p with | true=>some (f,args,o.dst) | false=>none)
  | _,_,_=>none)
 | []=>none
theorem callGG(S:St w0 a w n l bl vs){f:FuncId}{args:Array Value}(d:Option Nat){R:Ending→World→Prop}(hc:Calls P f args w R)
  (next:∀e w',R e w'→∃v,e = .returned v∧Ext w w'∧∀a',St w0 a' w' n (extD l d v) bl vs→wpList P ops Q (os.drop 1) a' w')
  (hx:callOfG P ops os l=some (f,args,d):=by kernel_rfl) (hd:dOk n d=true:=by rfl):wpList P ops Q os a w:=by
 cases os with
 | nil=>cases hx
 | cons o os =>
  unfold callOfG at hx
  simp only at hx
  split at hx
  ·rename_i p f' args' hp hav hev
   split at hx
   ·rename_i hg
    simp only[Option.some.injEq,Prod.mk.injEq]at hx
    obtain⟨rfl,rfl,rfl⟩:=hx
    simp only[Bool.or_eq_false_iff]at hav
    have hrun:(execOp a.eval o).run P w = .ok (.enter f' args') w:=gen_ok (Std.act a) (rd_all (holds_lift S.s) o) (p:=[]) rfl hav.1 (by simpa using hav.2) hev
    unfold wpList
    rw[if_pos ((path_wanted (a:=a) hp (fun x _ i y _ hl=>holds_lift S.s i y hl)).2 hg)]
    left
    unfold Oper.wp
    rw[hrun]
    simp only[Oper.upon]
    refine hc.mono fun e w' hR=>?_
    obtain⟨v,rfl,hE,hn⟩:=next e w' hR
    exact hn _ ((S.grow hE).act (putD S.s hd v))
   ·cases hx
  ·cases hx
end
end Go.Sx
end
section
namespace Go.Proofs.YtfmkkemfhjkajaaGreatDoor
open Go.RowKit
variable{α:Type}{K:Nat}
set_option linter.unusedVariables false
theorem wrap_pred{j:Nat}(h:j≤9223372036854775807):Value.int .i64 (IntKind.i64.wrap (((j+1:Nat):Int)-1)) = .int .i64 ((j:Nat):Int):=by
 have:IntKind.i64.wrap (((j+1:Nat):Int)-1)=((j:Nat):Int):=by rw[IntKind.wrap_i64]; omega
 rw[this]
end Go.Proofs.YtfmkkemfhjkajaaGreatDoor
end
section
namespace Go.Proofs.YtfmkkemfhjkajaaGreatDoor
open Go.RowKit
variable{α:Type}{K:Nat}
set_option linter.unusedVariables false
/-- Two numbers are the same in all fields. -/
def RatD.same(r s:RatD):Bool:=(r.n1==s.n1&&r.l1==s.l1)&&(r.n2==s.n2&&r.l2==s.l2)
def AffD.same(t u:AffD):Bool:=t.a.same u.a&&(t.b.same u.b&&(t.c.same u.c&&(t.d.same u.d&&(t.e.same u.e&&t.f.same u.f))))
/-- A number in lowest terms, with the value q. -/
def RatD.Is(r:RatD)(q:Bool×Nat×Nat):Prop:=r.n1=q.1∧r.l1=Na.digs q.2.1∧r.n2=false∧r.l2=Na.digs q.2.2
def AffD.Is(t:AffD)(Q:Q6):Prop:=t.a.Is Q.a∧t.b.Is Q.b∧t.c.Is Q.c∧t.d.Is Q.d∧t.e.Is Q.e∧t.f.Is Q.f
theorem rat_same_is{r s:RatD}{q1 q2:Bool×Nat×Nat}(h:r.Is q1)(k:s.Is q2):r.same s=decide (q1=q2):=by
 obtain⟨a,b,c⟩:=q1
 obtain⟨a',b',c'⟩:=q2
 obtain⟨e1,e2,e3,e4⟩:=h
 obtain⟨f1,f2,f3,f4⟩:=k
 have hd:∀m n:Nat,Na.digs m=Na.digs n↔m=n:=fun m n=>⟨fun h=>by rw[←Na.val_digs m,h,Na.val_digs],fun h=>by rw[h]⟩
 rw[Bool.eq_iff_iff]
 simp only[RatD.same,e1,e2,e3,e4,f1,f2,f3,f4,Bool.and_eq_true,beq_iff_eq,decide_eq_true_eq,Prod.mk.injEq,hd,true_and]
 exact⟨fun h=>⟨h.1.1,h.1.2,h.2⟩,fun h=>⟨⟨h.1,h.2.1⟩,h.2.2⟩⟩
/-- Six numbers in one row. -/
def IsCo(w:World)(v:Value)(t:AffD):Prop:=∃b,v = .slice (some ⟨b,0,none⟩) 6 6∧Bx w b t.cells.toArray
theorem IsCo.ext{w w':World}{v:Value}{t:AffD}(h:IsCo w v t)(hE:Ext w w'):IsCo w' v t:=by
 obtain⟨b,e,X⟩:=h; exact⟨b,e,X.ext hE⟩
def AffT6(base:Nat)(w:World)(t:AffD)(Q:Q6):Prop:=IsRatT base w t.a.v Q.a∧IsRatT base w t.b.v Q.b∧IsRatT base w t.c.v Q.c∧IsRatT base w t.d.v Q.d∧IsRatT base w t.e.v Q.e∧IsRatT base w t.f.v Q.f
theorem AffT6.ext{base:Nat}{w w':World}{t:AffD}{Q:Q6}(h:AffT6 base w t Q)(hE:Ext w w'):AffT6 base w' t Q:=⟨h.1.ext hE,h.2.1.ext hE,h.2.2.1.ext hE,h.2.2.2.1.ext hE,h.2.2.2.2.1.ext hE,h.2.2.2.2.2.ext hE⟩
/-- A transform whose numbers are in lowest terms. -/
def IsNo(base:Nat)(w:World)(v:Value)(Q:Q6):Prop:=∃t:AffD,v=t.v∧AffT6 base w t Q
theorem IsNo.ext{base:Nat}{w w':World}{v:Value}{Q:Q6}(h:IsNo base w v Q)(hE:Ext w w'):IsNo base w' v Q:=by
 obtain⟨t,e,X⟩:=h; exact⟨t,e,X.ext hE⟩
def Q6.same(P Q:Q6):Bool:=decide (P.a=Q.a)&&(decide (P.b=Q.b)&&(decide (P.c=Q.c)&&(decide (P.d=Q.d)&&(decide (P.e=Q.e)&&decide (P.f=Q.f)))))
theorem IsNo.mono{b b':Nat}{w:World}{v:Value}{Q:Q6}(h:IsNo b w v Q)(hb:b'≤b):IsNo b' w v Q:=by
 obtain⟨t,e,h0,h1,h2,h3,h4,h5⟩:=h; exact⟨t,e,h0.mono hb,h1.mono hb,h2.mono hb,h3.mono hb,h4.mono hb,h5.mono hb⟩
theorem same_is{t u:AffD}{P Q:Q6}(h:t.Is P)(k:u.Is Q):t.same u=P.same Q:=by
 unfold AffD.same Q6.same
 rw[rat_same_is h.1 k.1,rat_same_is h.2.1 k.2.1,rat_same_is h.2.2.1 k.2.2.1,rat_same_is h.2.2.2.1 k.2.2.2.1,rat_same_is h.2.2.2.2.1 k.2.2.2.2.1,rat_same_is h.2.2.2.2.2 k.2.2.2.2.2]
theorem no_rec{base:Nat}{w:World}{t:AffD}{Q:Q6}(h:AffT6 base w t Q):∃r:AffD,t.v=r.v∧r.ok w∧r.Is Q:=by
 obtain⟨h0,h1,h2,h3,h4,h5⟩:=h
 obtain⟨r0,e0,a0,z0⟩:=IsRatN.recD h0
 obtain⟨r1,e1,a1,z1⟩:=IsRatN.recD h1
 obtain⟨r2,e2,a2,z2⟩:=IsRatN.recD h2
 obtain⟨r3,e3,a3,z3⟩:=IsRatN.recD h3
 obtain⟨r4,e4,a4,z4⟩:=IsRatN.recD h4
 obtain⟨r5,e5,a5,z5⟩:=IsRatN.recD h5
 refine⟨⟨r0,r1,r2,r3,r4,r5⟩,?_,⟨a0,a1,a2,a3,a4,a5⟩,z0,z1,z2,z3,z4,z5⟩
 have key:∀{x y:RatD},x.v=y.v→x.cells=y.cells:=fun h=>by
  unfold RatD.v at h
  simp only[Value.agg.injEq,Array.mk.injEq]at h
  exact h
 unfold AffD.v AffD.cells
 rw[key e0,key e1,key e2,key e3,key e4,key e5]
end Go.Proofs.YtfmkkemfhjkajaaGreatDoor
end
section
namespace Go.Proofs.YtfmkkemfhjkajaaGreatDoor
theorem Nrm.facts{q:Bool×Nat×Nat}(h:Nrm q):0<q.2.2∧Nat.Coprime q.2.1 q.2.2∧(q.1=true→0<q.2.1):=by
 obtain⟨n,a,b⟩:=q
 unfold Nrm nrm at h
 simp only at h ⊢
 split at h
 ·rename_i hb
  simp only[Prod.mk.injEq]at h
  omega
 ·rename_i hb
  simp only[Prod.mk.injEq]at h
  obtain⟨h1,h2,h3⟩:=h
  have hg:Nat.gcd a b=1:=by
   have hb':0<b:=by omega
   have:=Nat.div_mul_cancel (Nat.gcd_dvd_right a b)
   rw[h3]at this
   exact Nat.eq_of_mul_eq_mul_left hb' (by omega)
  refine⟨by omega,hg,fun hn=>?_⟩
  rw[hn]at h1
  unfold negOf at h1
  rw[Bool.and_eq_true]at h1
  have:=h1.2
  rw[hg,Nat.div_one]at this
  simpa using this
theorem qeq_same{p q:Bool×Nat×Nat}(hp:Nrm p)(hq:Nrm q):qeq p q=decide (p=q):=by
 obtain⟨p1,p2,p3⟩:=hp.facts
 obtain⟨q1,q2,q3⟩:=hq.facts
 rw[Bool.eq_iff_iff]
 unfold qeq qcmp
 simp only[beq_iff_eq,decide_eq_true_eq,Int.sign_eq_zero_iff_zero]
 constructor
 ·intro h
  obtain⟨n,a,b⟩:=p
  obtain⟨m,c,d⟩:=q
  simp only at *
  have hz:qz (n,a,b)*(d:Int)=qz (m,c,d)*(b:Int):=by simpa using (by omega:qz (n,a,b)*(d:Int)-qz (m,c,d)*(b:Int)=0→qz (n,a,b)*(d:Int)=qz (m,c,d)*(b:Int)) h
  have habs:=congrArg Int.natAbs hz
  have hzv:∀(s:Bool) (x:Nat),(zv s x).natAbs=x:=by intro s x; unfold zv; split<;>simp
  unfold qz at hz habs
  simp only[Int.natAbs_mul,hzv,Int.natAbs_natCast]at habs
  have hbd:b∣d:=p2.symm.dvd_of_dvd_mul_left ⟨c,by rw[habs,Nat.mul_comm]⟩
  have hdb:d∣b:=q2.symm.dvd_of_dvd_mul_left ⟨a,by rw[←habs,Nat.mul_comm]⟩
  obtain rfl:b=d:=Nat.dvd_antisymm hbd hdb
  obtain rfl:a=c:=Nat.eq_of_mul_eq_mul_right p1 habs
  have hz2:zv n a=zv m a:=Int.eq_of_mul_eq_mul_right (by omega) hz
  obtain rfl:n=m:=by
   unfold zv at hz2
   cases n<;>cases m<;>simp at * <;> omega
  rfl
 ·intro h; rw[h]; omega
theorem Q6.same_eq{P Q:Q6}(hp:Nrm6 P)(hq:Nrm6 Q):P.same Q=P.eq Q:=by
 unfold Q6.same Q6.eq
 rw[qeq_same hp.1 hq.1,qeq_same hp.2.1 hq.2.1,qeq_same hp.2.2.1 hq.2.2.1,qeq_same hp.2.2.2.1 hq.2.2.2.1,qeq_same hp.2.2.2.2.1 hq.2.2.2.2.1,qeq_same hp.2.2.2.2.2 hq.2.2.2.2.2]
end Go.Proofs.YtfmkkemfhjkajaaGreatDoor
end
