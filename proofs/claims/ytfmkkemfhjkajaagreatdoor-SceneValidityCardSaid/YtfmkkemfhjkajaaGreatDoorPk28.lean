/- Numbers in lowest terms are equal by value exactly if -/
import Derived.Test.YtfmkkemfhjkajaaGreatDoorPk27
import Derived.Test.YtfmkkemfhjkajaaGreatDoorSy
import Derived.Laws.IdiomCopy
set_option linter.unusedVariables false
section
namespace Go.Proofs.YtfmkkemfhjkajaaGreatDoor
theorem Hw.facts{q:Bool×Nat×Nat}(h:Hw q):0<q.2.2∧Nat.Coprime q.2.1 q.2.2∧(q.1=true→0<q.2.1):=by
 obtain⟨n,a,b⟩:=q
 unfold Hw nrm at h
 simp only at h ⊢
 split at h
 ·rename_i hb
  simp only[Prod.mk.injEq]at h
  omega
 ·rename_i hb
  simp only[Prod.mk.injEq]at h
  obtain⟨h1,h2,h3⟩:=h
  have hg:Nat.gcd a b=1:=by
   have hb':0<b:=by omega
   have:=Nat.div_mul_cancel (Nat.gcd_dvd_right a b)
   rw[h3]at this
   exact Nat.eq_of_mul_eq_mul_left hb' (by omega)
  refine⟨by omega,hg,fun hn=>?_⟩
  rw[hn]at h1
  unfold jy at h1
  rw[Bool.and_eq_true]at h1
  have:=h1.2
  rw[hg,Nat.div_one]at this
  simpa using this
theorem uH{p q:Bool×Nat×Nat}(hp:Hw p)(hq:Hw q):oC p q=decide (p=q):=by
 obtain⟨p1,p2,p3⟩:=hp.facts
 obtain⟨q1,q2,q3⟩:=hq.facts
 rw[Bool.eq_iff_iff]
 unfold oC kJ
 simp only[beq_iff_eq,decide_eq_true_eq,Int.sign_eq_zero_iff_zero]
 constructor
 ·intro h
  obtain⟨n,a,b⟩:=p
  obtain⟨m,c,d⟩:=q
  simp only at *
  have hz:qz (n,a,b)*(d:Int)=qz (m,c,d)*(b:Int):=by simpa using (by omega:qz (n,a,b)*(d:Int)-qz (m,c,d)*(b:Int)=0→qz (n,a,b)*(d:Int)=qz (m,c,d)*(b:Int)) h
  have habs:=congrArg Int.natAbs hz
  have hzv:∀(s:Bool) (x:Nat),(zv s x).natAbs=x:=by intro s x; unfold zv; split<;>simp
  unfold qz at hz habs
  simp only[Int.natAbs_mul,hzv,Int.natAbs_natCast]at habs
  have hbd:b∣d:=p2.symm.dvd_of_dvd_mul_left ⟨c,by rw[habs,Nat.mul_comm]⟩
  have hdb:d∣b:=q2.symm.dvd_of_dvd_mul_left ⟨a,by rw[←habs,Nat.mul_comm]⟩
  obtain rfl:b=d:=Nat.dvd_antisymm hbd hdb
  obtain rfl:a=c:=Nat.eq_of_mul_eq_mul_right p1 habs
  have hz2:zv n a=zv m a:=Int.eq_of_mul_eq_mul_right (by omega) hz
  obtain rfl:n=m:=by
   unfold zv at hz2
   cases n<;>cases m<;>simp at * <;> omega
  rfl
 ·intro h; rw[h]; omega
theorem Q6.same_eq{P Q:Q6}(hp:vY P)(hq:vY Q):P.same Q=P.eq Q:=by
 unfold Q6.same Q6.eq
 rw[uH hp.1 hq.1,uH hp.2.1 hq.2.1,uH hp.2.2.1 hq.2.2.1,uH hp.2.2.2.1 hq.2.2.2.1,uH hp.2.2.2.2.1 hq.2.2.2.2.1,uH hp.2.2.2.2.2 hq.2.2.2.2.2]
end Go.Proofs.YtfmkkemfhjkajaaGreatDoor
end
section
namespace Go.Sx
open Go.Proofs.YtfmkkemfhjkajaaGreatDoor Go.RowKit Go.Rel
section
variable{P:Program}{ops:Array Oper}{Q:Exit→Act→World→Prop}{w0:World}{a:Act}{w:World}{os:List Oper}{n:Nat}{l:List (Nat×Value)}{bl:List (Nat×List Value)}{vs:List iG}
theorem VY{ρ:Operand→Value}{o:Oper}{ty:TypeId}{x y:Operand}{b off:Nat}{A cs:List Value}(hop:o.op = .store ty x y)(hx:ρ x = .pointer (some ⟨b,off,none⟩))(hy:ρ y = .agg cs.toArray)(hbx:Bx w b A.toArray)
  (hi:(P.info? ty).map (·.size)=some cs.length) (hf:off+cs.length≤A.length) (h1:cs.all (·.oneCell')=true):(execOp ρ o).run P w = .ok .skip (w.setCells b off cs):=by
 have hth:w.there b off cs.toArray.size:=fun j hj=>by
  have h3:j<cs.length:=by simpa using hj
  rw[hbx.2.1,hbx.2.2,Array.getElem?_eq_getElem (by simp; omega)]; exact⟨rfl,rfl⟩
 have h:=run_storeVar_mid (P:=P) w b off ty cs.toArray hth (by rw[hi]; simp) (by rw[←h1]; simp)
 unfold execOp
 simp only[hop,hx,hy,Instr.storeAt,Instr.sureAddr,Sem.run_bind,Sem.run_pure,Result.andThen_ok,h]
def stD(P:Program)(os:List Oper)(m j:Nat)(l:List (Nat×Value)):Option (Nat×Nat×Nat):=
 match os[m]? with
 | some o=>(match o.guard,o.dst,o.op with
  | none,none,.store ty (.tmp s) (.tmp s')=>(match l.lookup s,P.info? ty,(os[j]?).bind (·.dst)with
   | some (.pointer (some ⟨b,off,none⟩)),some i,some d =>
    (match d==s'&&decide (j<m)&&(os.take m).all (fun o => !(o.dst==some s))&&o.after.toList.any (fun g=>g.on==j&&Region.binds .any g)with
    | true=>some (b,off,i.size)
    | false=>none)
   | _,_,_=>none)
  | _,_,_=>none)
 | none=>none
def Uf(P:Program)(ops:Array Oper)(os:List Oper)(l:List (Nat×Value)):Option (FuncId×Array Value×Option Nat):=
 match os with
 | o::_=>(match pathOf ops (lift l) o,wG o.op || !o.op.operands.all (fun x=>(rd (lift l) [] x).isSome),jv (ev0 P (execOp (Bg (lift l) []) o))with
  | some p,false,some (.enter f args)=>(match jS (lift l) p with | true=>some (f,args,o.dst) | false=>none)
  | _,_,_=>none)
 | []=>none
theorem BA(S:St w0 a w n l bl vs){f:FuncId}{args:Array Value}(d:Option Nat){R:Ending→World→Prop}(hc:Calls P f args w R)
  (next:∀e w',R e w'→∃v,e = .returned v∧Ext w w'∧∀a',St w0 a' w' n (V9 l d v) bl vs→wpList P ops Q (os.drop 1) a' w')
  (hx:Uf P ops os l=some (f,args,d):=by kernel_rfl) (hd:J7 n d=true:=by rfl):wpList P ops Q os a w:=by
 cases os with
 | nil=>cases hx
 | cons o os =>
  unfold Uf at hx
  simp only at hx
  split at hx
  ·rename_i p f' args' hp hav hev
   split at hx
   ·rename_i hg
    simp only[Option.some.injEq,Prod.mk.injEq]at hx
    obtain⟨rfl,rfl,rfl⟩:=hx
    simp only[Bool.or_eq_false_iff]at hav
    have hrun:(execOp a.eval o).run P w = .ok (.enter f' args') w:=qj (Std.act a) (jW (dR S.s) o) (p:=[]) rfl hav.1 (by simpa using hav.2) hev
    unfold wpList
    rw[if_pos ((CY (a:=a) hp (fun x _ i y _ hl=>dR S.s i y hl)).2 hg)]
    left
    unfold Oper.wp
    rw[hrun]
    simp only[Oper.upon]
    refine hc.mono fun e w' hR=>?_
    obtain⟨v,rfl,hE,hn⟩:=next e w' hR
    exact hn _ ((S.grow hE).act (EU S.s hd v))
   ·cases hx
  ·cases hx
end
end Go.Sx
end
namespace Go.Proofs.YtfmkkemfhjkajaaGreatDoor
section
set_option maxHeartbeats 3200000
set_option maxRecDepth 100000
open Go.RowKit
variable{α:Type}{K:Nat}
def ak.ql(p:ak):Bool:=((((p.p0.x==0)&&(p.p0.y==0))&&((p.p1.x==0)&&(p.p1.y==0)))&&((p.bG)==0))&&((((p.stops.length:Nat):Int))==0)
theorem CZ{w:World}{p:ak}(h:p.ok w) :
  Calls Tryz.prog 254 #[p.v] w fun e w'=>e = .returned (.bool (p.ql))∧Ext w w':=by
 skip
 refine aiK Tryz.func254 Tryz.ntmps254 fun ac S=>aiG fun _ aU=>aiJ S 1 p.cells fun ac u b2 E3 hb4 S=>adr S 1 [] [(2,.bool false)] fun ac S=>aiF<|aU _ _<|aiG fun _ bV=>adr S 22 [.mem 0 5,.cmp .eql 60 (.tmp 4) (.tmp 5) (.agg #[.int .i64 p.p0.x,.int .i64 p.p0.y]) (.agg #[.int .i64 0,.int .i64 0]) (.bool ((p.p0.x==0)&&(p.p0.y==0))),.mem 0 7,.cmp .eql 60 (.tmp 9) (.tmp 10) (.agg #[.int .i64 p.p1.x,.int .i64 p.p1.y]) (.agg #[.int .i64 0,.int .i64 0]) (.bool ((p.p1.x==0)&&(p.p1.y==0))),.mem 0 9,.mem 0 10] [(2,.bool (((((p.p0.x==0)&&(p.p0.y==0))&&((p.p1.x==0)&&(p.p1.y==0)))&&((p.bG)==0))&&((((p.stops.length:Nat):Int))==0)))] (hk:=⟨aiX (fun _=>eqPt ..) (by kernel_rfl),aiX (fun _=>eqPt ..) (by kernel_rfl),trivial⟩) fun ac S=>aiF<|bV _ _<|Vp.rt ?_
 refine aiH S Tryz.results254 ?_
 exact⟨rfl,S.E⟩
def ak.mZ(p:ak):Bool:=((((p.img.w)==0)&&((p.img.h)==0))&&((((p.img.l.length:Nat):Int))==0))&&((p.cZ)==0)
theorem vN{w:World}{p:ak}(h:p.ok w) :
  Calls Tryz.prog 255 #[p.v] w fun e w'=>e = .returned (.bool (p.mZ))∧Ext w w':=by
 skip
 refine aiK Tryz.func255 Tryz.ntmps255 fun ac S=>aiG fun _ aU=>aiJ S 1 p.cells fun ac u b2 E3 hb4 S=>adr S 1 [] [(2,.bool false)] fun ac S=>aiF<|aU _ _<|aiG fun _ bV=>adr S 23 [.mem 0 12,.mem 0 13,.mem 0 14,.mem 0 15] [(2,.bool (((((p.img.w)==0)&&((p.img.h)==0))&&((((p.img.l.length:Nat):Int))==0))&&((p.cZ)==0)))] fun ac S=>aiF<|bV _ _<|Vp.rt ?_
 refine aiH S Tryz.results255 ?_
 exact⟨rfl,S.E⟩
theorem Ol{w:World}{t:aV}(h:jk K w t.v t.q)(hK1:1≤K)(hK:K≤10000) :
  Calls Tryz.prog 256 #[t.v] w fun e w'=>e = .returned (.bool (t.q.same aV.none.q))∧Ext w w':=by
 skip
 refine aiK Tryz.func256 Tryz.ntmps256 fun ac S=>aiG fun _ aU=>aiJ S 1 t.cells fun ac u b2 E3 hb4 S=>adr S 1 [] [(2,.bool false)] fun ac S=>aiF<|aU _ _<|aiG fun _ bV=>adr S 2 [.mem 0 0] [(3,t.v),(4,.agg Sx.za.toArray)] fun ac S=>aiM S 5 (uZ (t:=t) (t2:=aV.none) (h.eU S.E) ((aV.toQ (aV.gK _) (aV.iI K)).eU (Below.refl _ _)) hK1 hK) fun ac u E6 S=>adr S 1 [] [(2,.bool (t.q.same aV.none.q))] fun ac S=>aiF<|bV _ _<|Vp.rt ?_
 refine aiH S Tryz.results256 ?_
 exact⟨rfl,S.E⟩
def ak.rM(p:ak):Bool:=cond ((p.kind)==1) (((p.ql&&p.mZ)&&((p.spread)==0))&&(p.t.q.same aV.none.q)) (cond ((p.kind)==2) ((((((p.mZ&&(((p.color.r.toNat:Int)==0)&&(((p.color.g.toNat:Int)==0)&&(((p.color.b.toNat:Int)==0)&&((p.color.a.toNat:Int)==0)))))&&((p.bG)==0))&&(oG p.p0.x p.p0.y))&&(oG p.p1.x p.p1.y))&&(dY p.stops))&&(decide (1≤p.spread)&&decide (p.spread≤3))) (cond ((p.kind)==3) (((((((p.mZ&&(((p.color.r.toNat:Int)==0)&&(((p.color.g.toNat:Int)==0)&&(((p.color.b.toNat:Int)==0)&&((p.color.a.toNat:Int)==0)))))&&((p.p1.x==0)&&(p.p1.y==0)))&&(oG p.p0.x p.p0.y))&&(decide (1≤p.bG)))&&(decide (p.bG≤1048576)))&&(dY p.stops))&&(decide (1≤p.spread)&&decide (p.spread≤3))) (cond ((p.kind)==4) ((((p.ql&&(((p.color.r.toNat:Int)==0)&&(((p.color.g.toNat:Int)==0)&&(((p.color.b.toNat:Int)==0)&&((p.color.a.toNat:Int)==0)))))&&(p.img.valid))&&(((p.spread)==0)||(decide (1≤p.spread)&&decide (p.spread≤3))))&&(((p.cZ)==1)||((p.cZ)==2))) (false))))
theorem Rj{w:World}{p:ak}(h:p.ok w)(hq:jk K w p.t.v p.t.q)(hK1:1≤K)(hK:K≤10000) :
  Calls Tryz.prog 239 #[p.v] w fun e w'=>e = .returned (.bool p.rM)∧Ext w w':=by
 skip
 refine aiK Tryz.func239 Tryz.ntmps239 fun ac S=>aiG fun _ aU=>aiJ S 1 p.cells fun ac u b2 E3 hb4 S=>adr S 1 [] [(2,.bool false)] fun ac S=>aiF<|aU _ _<|wp_seq_k fun _ bV=>aiG fun _ iK=>adr S 2 [.mem 0 0] [(4,.int .i64 p.kind)] fun ac S=>aiF<|iK _ _<|wp_block<|aiG fun _ kC=>adr S 2 [] [(5,.bool ((p.kind)==1))] fun ac S=>aiF (kC _ _ ?_)
 refine aiI S (fun hc8=>?_) (fun hc8=>?_)
 ·refine aiG fun _ gB=>adr S 1 [.mem 0 0] [(7,p.v)] fun ac S=>aiM S 8 (CZ (h.below S.E)) fun ac u Bj S=>aiT S 15 [.mem 0 0,.mem 0 11,.mem 0 16] [(_,_,p.ql,.bool p.mZ),(_,_,((p.ql&&p.mZ)&&((p.spread)==0)),.bool (p.t.q.same aV.none.q))] [(2,.bool (((p.ql&&p.mZ)&&((p.spread)==0))&&(p.t.q.same aV.none.q)))] ⟨fun u hC g=>vN (h.below (Ext.trans' S.E hC)),fun u hC g=>Ol (K:=K) (t:=p.t) (hq.eU (Ext.trans' S.E hC)) hK1 hK,trivial⟩ fun ac u sF S=>aiF<|gB _ _<|Vp.rt ?_
  have p0:=hc8
  refine aiH S Tryz.results239 ?_
  exact⟨aB (by unfold ak.rM; simp only[p0,cond_true]),S.E⟩
 ·refine aiG fun _ dw=>adr S 2 [] [(23,.bool ((p.kind)==2))] fun ac S=>aiF (dw _ _ ?_)
  refine aiI S (fun hc13=>?_) (fun hc13=>?_)
  ·refine aiG fun _ fU=>adr S 1 [.mem 0 0] [(25,p.v)] fun ac S=>aiM S 26 (vN (h.below S.E)) fun ac u Vb S=>aiT S 32 [.mem 0 1,.cmp .eql 23 (.tmp 29) (.tmp 30) (.agg #[.int .u8 (p.color.r.toNat:Int),.int .u8 (p.color.g.toNat:Int),.int .u8 (p.color.b.toNat:Int),.int .u8 (p.color.a.toNat:Int)]) (.agg #[.int .u8 0,.int .u8 0,.int .u8 0,.int .u8 0]) (.bool (((p.color.r.toNat:Int)==0)&&(((p.color.g.toNat:Int)==0)&&(((p.color.b.toNat:Int)==0)&&((p.color.a.toNat:Int)==0))))),.mem 0 9,.mem 0 5,.mem 0 7,.mem 0 10,.mem 0 11] [(_,_,((p.mZ&&(((p.color.r.toNat:Int)==0)&&(((p.color.g.toNat:Int)==0)&&(((p.color.b.toNat:Int)==0)&&((p.color.a.toNat:Int)==0)))))&&((p.bG)==0)),.bool (oG p.p0.x p.p0.y)),(_,_,(((p.mZ&&(((p.color.r.toNat:Int)==0)&&(((p.color.g.toNat:Int)==0)&&(((p.color.b.toNat:Int)==0)&&((p.color.a.toNat:Int)==0)))))&&((p.bG)==0))&&(oG p.p0.x p.p0.y)),.bool (oG p.p1.x p.p1.y)),(_,_,((((p.mZ&&(((p.color.r.toNat:Int)==0)&&(((p.color.g.toNat:Int)==0)&&(((p.color.b.toNat:Int)==0)&&((p.color.a.toNat:Int)==0)))))&&((p.bG)==0))&&(oG p.p0.x p.p0.y))&&(oG p.p1.x p.p1.y)),.bool (dY p.stops)),(_,_,(((((p.mZ&&(((p.color.r.toNat:Int)==0)&&(((p.color.g.toNat:Int)==0)&&(((p.color.b.toNat:Int)==0)&&((p.color.a.toNat:Int)==0)))))&&((p.bG)==0))&&(oG p.p0.x p.p0.y))&&(oG p.p1.x p.p1.y))&&(dY p.stops)),.bool (decide (1≤p.spread)&&decide (p.spread≤3)))] [(2,.bool ((((((p.mZ&&(((p.color.r.toNat:Int)==0)&&(((p.color.g.toNat:Int)==0)&&(((p.color.b.toNat:Int)==0)&&((p.color.a.toNat:Int)==0)))))&&((p.bG)==0))&&(oG p.p0.x p.p0.y))&&(oG p.p1.x p.p1.y))&&(dY p.stops))&&(decide (1≤p.spread)&&decide (p.spread≤3))))] ⟨fun u hC g=>lu p.p0.x p.p0.y _,fun u hC g=>lu p.p1.x p.p1.y _,fun u hC g=>AA (h.2.2.2.2.1.below (Ext.trans' S.E hC)),fun u hC g=>aiU (tX p.spread _),trivial⟩ (hk:=⟨aiX (fun _=>IQ ..) (by kernel_rfl),trivial⟩) fun ac u Pz S=>aiF<|fU _ _<|Vp.rt ?_
   have p0:=hc8
   have p1:=hc13
   refine aiH S Tryz.results239 ?_
   exact⟨aB (by unfold ak.rM; simp only[p0,p1,cond_true,cond_false]),S.E⟩
  ·refine aiG fun _ ig=>adr S 2 [] [(58,.bool ((p.kind)==3))] fun ac S=>aiF (ig _ _ ?_)
   refine aiI S (fun hc18=>?_) (fun hc18=>?_)
   ·refine aiG fun _ jf=>adr S 1 [.mem 0 0] [(60,p.v)] fun ac S=>aiM S 61 (vN (h.below S.E)) fun ac u Iz S=>aiT S 38 [.mem 0 1,.cmp .eql 23 (.tmp 64) (.tmp 65) (.agg #[.int .u8 (p.color.r.toNat:Int),.int .u8 (p.color.g.toNat:Int),.int .u8 (p.color.b.toNat:Int),.int .u8 (p.color.a.toNat:Int)]) (.agg #[.int .u8 0,.int .u8 0,.int .u8 0,.int .u8 0]) (.bool (((p.color.r.toNat:Int)==0)&&(((p.color.g.toNat:Int)==0)&&(((p.color.b.toNat:Int)==0)&&((p.color.a.toNat:Int)==0))))),.mem 0 7,.cmp .eql 60 (.tmp 70) (.tmp 71) (.agg #[.int .i64 p.p1.x,.int .i64 p.p1.y]) (.agg #[.int .i64 0,.int .i64 0]) (.bool ((p.p1.x==0)&&(p.p1.y==0))),.mem 0 5,.mem 0 9,.mem 0 9,.mem 0 10,.mem 0 11] [(_,_,((p.mZ&&(((p.color.r.toNat:Int)==0)&&(((p.color.g.toNat:Int)==0)&&(((p.color.b.toNat:Int)==0)&&((p.color.a.toNat:Int)==0)))))&&((p.p1.x==0)&&(p.p1.y==0))),.bool (oG p.p0.x p.p0.y)),(_,_,(((((p.mZ&&(((p.color.r.toNat:Int)==0)&&(((p.color.g.toNat:Int)==0)&&(((p.color.b.toNat:Int)==0)&&((p.color.a.toNat:Int)==0)))))&&((p.p1.x==0)&&(p.p1.y==0)))&&(oG p.p0.x p.p0.y))&&(decide (1≤p.bG)))&&(decide (p.bG≤1048576))),.bool (dY p.stops)),(_,_,((((((p.mZ&&(((p.color.r.toNat:Int)==0)&&(((p.color.g.toNat:Int)==0)&&(((p.color.b.toNat:Int)==0)&&((p.color.a.toNat:Int)==0)))))&&((p.p1.x==0)&&(p.p1.y==0)))&&(oG p.p0.x p.p0.y))&&(decide (1≤p.bG)))&&(decide (p.bG≤1048576)))&&(dY p.stops)),.bool (decide (1≤p.spread)&&decide (p.spread≤3)))] [(2,.bool (((((((p.mZ&&(((p.color.r.toNat:Int)==0)&&(((p.color.g.toNat:Int)==0)&&(((p.color.b.toNat:Int)==0)&&((p.color.a.toNat:Int)==0)))))&&((p.p1.x==0)&&(p.p1.y==0)))&&(oG p.p0.x p.p0.y))&&(decide (1≤p.bG)))&&(decide (p.bG≤1048576)))&&(dY p.stops))&&(decide (1≤p.spread)&&decide (p.spread≤3))))] ⟨fun u hC g=>lu p.p0.x p.p0.y _,fun u hC g=>AA (h.2.2.2.2.1.below (Ext.trans' S.E hC)),fun u hC g=>aiU (tX p.spread _),trivial⟩ (hk:=⟨aiX (fun _=>IQ ..) (by kernel_rfl),aiX (fun _=>eqPt ..) (by kernel_rfl),trivial⟩) fun ac u LD S=>aiF<|jf _ _<|Vp.rt ?_
    have p0:=hc8
    have p1:=hc13
    have p2:=hc18
    refine aiH S Tryz.results239 ?_
    exact⟨aB (by unfold ak.rM; simp only[p0,p1,p2,cond_true,cond_false]),S.E⟩
   ·refine aiG fun _ jM=>adr S 2 [] [(99,.bool ((p.kind)==4))] fun ac S=>aiF (jM _ _ ?_)
    refine aiI S (fun tV=>?_) (fun tV=>?_)
    ·refine aiG fun _ kK=>adr S 1 [.mem 0 0] [(101,p.v)] fun ac S=>aiM S 102 (CZ (h.below S.E)) fun ac u E25 S=>aiT S 32 [.mem 0 1,.cmp .eql 23 (.tmp 105) (.tmp 106) (.agg #[.int .u8 (p.color.r.toNat:Int),.int .u8 (p.color.g.toNat:Int),.int .u8 (p.color.b.toNat:Int),.int .u8 (p.color.a.toNat:Int)]) (.agg #[.int .u8 0,.int .u8 0,.int .u8 0,.int .u8 0]) (.bool (((p.color.r.toNat:Int)==0)&&(((p.color.g.toNat:Int)==0)&&(((p.color.b.toNat:Int)==0)&&((p.color.a.toNat:Int)==0))))),.mem 0 12,.mem 0 11,.mem 0 11,.mem 0 15,.mem 0 15] [(_,_,(p.ql&&(((p.color.r.toNat:Int)==0)&&(((p.color.g.toNat:Int)==0)&&(((p.color.b.toNat:Int)==0)&&((p.color.a.toNat:Int)==0))))),.bool (p.img.valid)),(_,_,(((p.ql&&(((p.color.r.toNat:Int)==0)&&(((p.color.g.toNat:Int)==0)&&(((p.color.b.toNat:Int)==0)&&((p.color.a.toNat:Int)==0)))))&&(p.img.valid))&&(!((p.spread)==0))),.bool (decide (1≤p.spread)&&decide (p.spread≤3)))] [(2,.bool ((((p.ql&&(((p.color.r.toNat:Int)==0)&&(((p.color.g.toNat:Int)==0)&&(((p.color.b.toNat:Int)==0)&&((p.color.a.toNat:Int)==0)))))&&(p.img.valid))&&(((p.spread)==0)||(decide (1≤p.spread)&&decide (p.spread≤3))))&&(((p.cZ)==1)||((p.cZ)==2))))] ⟨fun u hC g=>AB (m:=p.img) (h.2.2.2.2.2.2.2.1.below (Ext.trans' S.E hC)),fun u hC g=>aiU (tX p.spread _),trivial⟩ (hk:=⟨aiX (fun _=>IQ ..) (by kernel_rfl),trivial⟩) fun ac u E26 S=>aiF<|kK _ _<|Vp.rt ?_
     have p0:=hc8
     have p1:=hc13
     have p2:=hc18
     have p3:=tV
     refine aiH S Tryz.results239 ?_
     exact⟨aB (by unfold ak.rM; simp only[p0,p1,p2,p3,cond_true,cond_false]),S.E⟩
    ·refine wp_skip<|bV _ _<|aiG fun _ lJ=>adr S 1 [] [(2,.bool false)] fun ac S=>aiF<|lJ _ _<|Vp.rt ?_
     have p0:=hc8
     have p1:=hc13
     have p2:=hc18
     have p3:=tV
     refine aiH S Tryz.results239 ?_
     exact⟨aB (by unfold ak.rM; simp only[p0,p1,p2,p3,cond_false]),S.E⟩
def ak.sV(p:ak):Bool:=(p.t.q.valid&&p.rM)&&((p.kind==1)||((kJ p.t.q.vU q0) != 0))
theorem adz{p:ak}(h:((!(p.t.q.valid))||(!(p.rM)))=true):false=p.sV:=by
 unfold ak.sV
 cases hv:p.t.q.valid<;>cases hh:p.rM<;>simp[hv,hh]at h ⊢
theorem Ug{p:ak}(h:((!(p.t.q.valid))||(!(p.rM)))=false):(p.t.q.valid&&p.rM)=true:=by
 cases hv:p.t.q.valid<;>cases hh:p.rM<;>simp[hv,hh]at h ⊢
theorem Kv{w:World}{p:ak}(h:p.ok w)(hq:jk K w p.t.v p.t.q)(hK1:1≤K)(hK:K≤10000) :
  Calls Tryz.prog 212 #[p.v] w fun e w'=>e = .returned (.bool p.sV)∧Ext w w':=by
 skip
 refine aiK Tryz.func212 Tryz.ntmps212 fun ac S=>aiG fun _ aU=>aiJ S 1 p.cells fun ac u b2 E3 hb4 S=>adr S 1 [] [(2,.bool false)] fun ac S=>aiF<|aU _ _<|wp_seq_k fun _ bV=>aiG fun _ iK=>adr S 2 [.mem 0 16] [(4,p.t.v)] fun ac S=>aiM S 5 (yO p.t.v p.t.q K _ (hq.eU S.E) hK1 (by omega)) fun ac u E7 S=>aiT S 6 [.mem 0 0] [(_,_,(!(!p.t.q.valid)),.bool p.rM)] [(11,.bool ((!p.t.q.valid)||(!p.rM)))] ⟨fun u hC g=>Rj (K:=K) (h.below (Ext.trans' S.E hC)) (hq.eU (Ext.trans' S.E hC)) hK1 hK,trivial⟩ fun ac u E8 S=>aiF (iK _ _ ?_)
 refine aiI S (fun hc9=>?_) (fun hc9=>?_)
 ·refine aiG fun _ dV=>adr S 1 [] [(2,.bool false)] fun ac S=>aiF<|dV _ _<|Vp.rt ?_
  have p0:=hc9
  refine aiH S Tryz.results212 ?_
  exact⟨aB (adz p0),S.E⟩
 ·refine wp_skip<|bV _ _<|aiG (fun _ dB=>?_)
  cases hk:(p.kind==1)
  ·refine adr S 6 [.mem 0 0,.re 14 (.bool ((p.kind)==1)) (.bool false),.mem 0 16] [(15,.bool false),(17,p.t.v)] (hk:=⟨congrArg Value.bool hk,trivial⟩) fun ac S=>Sx.BA S (some 18) (Oh p.t.v p.t.q K _ (hq.eU S.E) hK1 hK) ?_
   rintro e u ⟨y,rfl,hd,H6⟩
   refine⟨_,rfl,H6,fun ac S=>?_⟩
   refine Sx.BA S (some 19) (nY 0 _ (by decide)) ?_
   rintro e u ⟨z,rfl,hz,H7⟩
   refine⟨_,rfl,H7,fun ac S=>?_⟩
   refine Sx.BA S (some 20) (Og _ _ p.t.q.vU q0 (K+K+(K+K)+1) 1 _ (aA.toQ (hd.ext H7) (xQ _) (xR hK1 (VO.VP hq hK1))) (aA.toQ (q:=q0) hz QS QT) (by omega) (by omega) (by omega) (by omega)) ?_
   rintro e u ⟨rfl,Ei⟩
   refine⟨_,rfl,Ei,fun ac S=>?_⟩
   refine adr S 3 [] [(2,.bool (((kJ p.t.q.vU q0)) != 0))] fun ac S=>aiF<|dB _ _<|Vp.rt ?_
   have p0:=hc9
   refine aiH S Tryz.results212 ?_
   exact⟨aB (by unfold ak.sV; rw[Ug p0,hk]; rfl),S.E⟩
  ·refine adr S 12 [.mem 0 0,.re 14 (.bool ((p.kind)==1)) (.bool true),.dead 16 (.bool false),.dead 17 (.bool false),.dead 18 (.bool false),.dead 19 (.bool false),.dead 20 (.bool false),.dead 21 (.bool false)] [(2,.bool true)] (hk:=⟨congrArg Value.bool hk,trivial⟩) fun ac S=>aiF<|dB _ _<|Vp.rt ?_
   have p0:=hc9
   refine aiH S Tryz.results212 ?_
   exact⟨aB (by unfold ak.sV; rw[Ug p0,hk]; rfl),S.E⟩
end
section
theorem len0{α:Type}(l:List α):(((l.length:Nat):Int)==0)=l.isEmpty:=by cases l<;>simp<;>omega
theorem nil0{α:Type}[DecidableEq α](l:List α):decide (l=[])=l.isEmpty:=by cases l<;>simp
theorem FQ{p:ak}(hn:vY p.t.q)(h0:vY aV.none.q):p.sV=p.valid:=by
 have hs:p.t.q.same aV.none.q=p.t.q.eq aV.none.q:=Q6.same_eq hn h0
 have ha:aV.none.q.eq aV.none.q=true:=by rw[←Q6.same_eq h0 h0]; unfold Q6.same; simp
 have e1:oG p.p0.x p.p0.y=kE.valid ⟨p.p0.x,p.p0.y⟩:=Kw ⟨p.p0.x,p.p0.y⟩
 have e2:oG p.p1.x p.p1.y=kE.valid ⟨p.p1.x,p.p1.y⟩:=Kw ⟨p.p1.x,p.p1.y⟩
 unfold ak.sV ak.valid ak.rM
 rw[hs,e1,e2]
 cases htv:p.t.q.valid
 ·simp
 ·by_cases k1:p.kind=1
  ·simp[k1,ak.without,ak.TU,ak.eq,ak.bare,ak.ql,ak.mZ,ha,dI.none,kE.none,bU.eq,bU.bare,len0,nil0]
   cases p.t.q.eq aV.none.q<;>simp
   ac_rfl
  ·by_cases k2:p.kind=2
   ·simp[k2,ak.without,ak.only2,ak.eq,ak.bare,ak.mZ,ha,dI.none,kE.none,bU.eq,bU.bare,len0,iJ]
    ac_rfl
   ·by_cases k3:p.kind=3
    ·simp[k3,ak.without,ak.TV,ak.eq,ak.bare,ak.mZ,ak.ql,ha,dI.none,kE.none,bU.eq,bU.bare,len0,iJ,←Int.not_lt]
     ac_rfl
    ·by_cases k4:p.kind=4
     ·simp[k4,ak.without,ak.TW,bne,ak.eq,ak.bare,ak.mZ,ak.ql,ha,dI.none,kE.none,bU.eq,bU.bare,len0,nil0,iJ]
      ac_rfl
     ·have j1:(p.kind==1)=false:=by simpa using k1
      have j2:(p.kind==2)=false:=by simpa using k2
      have j3:(p.kind==3)=false:=by simpa using k3
      have j4:(p.kind==4)=false:=by simpa using k4
      rw[j1,j2,j3,j4]
      simp
end
end Go.Proofs.YtfmkkemfhjkajaaGreatDoor
