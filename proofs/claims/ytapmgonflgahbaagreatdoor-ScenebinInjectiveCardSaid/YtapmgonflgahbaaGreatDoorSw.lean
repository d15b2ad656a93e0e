/- A region that draws its order and ends with a store: -/
import Derived.Test.YtapmgonflgahbaaGreatDoorSy
import Derived.Laws.IdiomCopy
namespace Go.Sx
open Go.Proofs.YtapmgonflgahbaaGreatDoor Go.RowKit Go.Rel
set_option linter.unusedVariables false
section
variable{P:Program}{ops:Array Oper}{Q:Exit→Act→World→Prop}{w0:World}{a:Act}{w:World}{os:List Oper}{n:Nat}{l:List (Nat×Value)}{bl:List (Nat×List Value)}{vs:List fG}
theorem SA{ρ:Operand→Value}{o:Oper}{ty:TypeId}{x y:Operand}{b off:Nat}{A cs:List Value}(hop:o.op = .store ty x y)(hx:ρ x = .q b off)(hy:ρ y = .agg cs.toArray)(hbx:Bx w b A.toArray)
  (hi:(P.info? ty).map (·.size)=some cs.length) (hf:off+cs.length≤A.length) (h1:cs.all (·.oneCell')=true):(execOp ρ o).run P w = .ok .skip (w.setCells b off cs):=by
 have hth:w.there b off cs.toArray.size:=fun j hj=>by
  have h3:j<cs.length:=by simpa using hj
  rw[hbx.2.1,hbx.2.2,Array.getElem?_eq_getElem (by simp; omega)]; exact⟨rfl,rfl⟩
 have h:=run_storeVar_mid (P:=P) w b off ty cs.toArray hth (by rw[hi]; simp) (by rw[←h1]; simp);unfold execOp;simp only[hop,hx,hy,Instr.storeAt,Instr.sureAddr,aiU,akd,aj0,h]
theorem xJ{ms:List fG}:∀(os:List Oper) {e e':Env} {ks:List Key} {L:List Loc} {C:List Ns} {T:List T3} {cs:List Value},exec P ms ops n os e ks cs=some (e',L,C,T)→T.length=os.length
 | [],e,e',ks,L,C,T,cs,hx=>by
  unfold exec at hx
  split at hx
  ·simp only[ah8,aie]at hx
   obtain⟨-,-,-,rfl⟩:=hx; rfl
  ·cases hx
 | o::os,e,e',ks,L,C,T,cs,hx=>by
  unfold exec at hx
  split at hx
  ·cases hx
  ·split at hx
   ·split at hx
    ·rename_i h
     simp only[ah8,aie]at hx
     obtain⟨-,-,-,rfl⟩:=hx
     rw[aiO,xJ os h]; rfl
    ·cases hx
   ·split at hx
    ·split at hx
     ·rename_i h
      simp only[ah8,aie]at hx
      obtain⟨-,-,-,rfl⟩:=hx
      rw[aiO,xJ os h]; rfl
     ·cases hx
    ·cases hx
   ·split at hx
    ·split at hx
     ·rename_i h
      simp only[ah8,aie]at hx
      obtain⟨-,-,-,rfl⟩:=hx
      rw[aiO,xJ os h]; rfl
     ·cases hx
    ·cases hx
   ·cases hx
theorem Pq{K:Act→Prop}{o:Oper}{T:Fact}:∀(os:List Oper) (Us:List Fact) (b:Act),Us.length=os.length→Rel.End (fun a'=>∀v,T v w→K (a'.put o.dst v)) w os Us b→Rel.End K w (os++[o]) (Us++[T]) b
 | [],[],b,_,h=>fun v hv=>by
  have:=h v hv
  exact this
 | o'::os,U::Us,b,hl,h=>fun v hv=>Pq os Us _ (by simpa using hl) (h v hv)
theorem Dh{hd:List Oper}{Ts:List Fact}{R:Nat→World→World→Prop}{C:Nat→World→Prop}{wF:Operand→Value}:∀(os:List Oper) (Us:List Fact) (k:Nat),os.length≤Us.length→(∀(i:Nat) o,os[i]?=some o→Rel.pJ P ops hd Ts (R (k+i)) (C (k+i)) wF o (Us.getD i top))→DY.mP P ops hd Ts R C wF k os Us
 | [],_,_,_,_=>trivial
 | o::os,[],_,hl,_=>by simp at hl
 | o::os,U::Us,k,hl,h=>⟨h 0 o rfl,Dh os Us (k+1) (by simpa using hl) fun i o' hi=>by
  have:=h (i+1) o' (by simpa using hi)
  rw[show k+(i+1)=k+1+i by omega]at this
  exact this⟩
theorem Di{Ts:List Fact}{ρ:Operand→Value}:∀{es:List Edge},Rel.CZ ops Ts ρ w es→∀g∈es,Region.binds .any g=true→Ts.getD g.on top (Rel.valOf ρ ((ops[g.on]?).bind (·.dst))) w
 | x::es,h,g,hg,hb=>by
  rcases aip.1 hg with rfl | hg
  ·exact h.1 hb
  ·exact Di h.2 g hg hb
theorem St.agV{w':World}{b:Nat}(S:St w0 a w n l bl vs)(hc:Ch b w w')(hE:Ext w0 w')(h1:∀p∈bl,p.1≠b)(h2:∀m∈vs,m.1≠b):St w0 a w' n l bl vs:=
 ⟨S.s,hE,fun p hp=>⟨(S.own p hp).1.ch hc (h1 p hp),(S.own p hp).2⟩,S.apart,fun m hm=>⟨⟨aiG (S.mem m hm).1.1 hc.size,fun j v hj=>by
  rw[hc.cell (p:=⟨m.1,m.2.1+j,none⟩) (S.mem m hm).1.1 (h2 m hm)]
  exact(S.mem m hm).1.2 j v hj⟩,(S.mem m hm).2⟩⟩
def stD(P:Program)(os:List Oper)(m j:Nat)(l:List (Nat×Value)):Option (Nat×Nat×Nat):=
 match os[m]? with
 | some o=>(match o.guard,o.dst,o.op with
  | none,none,.store ty (.tmp s) (.tmp s')=>(match l.lookup s,P.info? ty,(os[j]?).bind (·.dst)with
   | some (.q b off),some i,some d =>
    (match d==s'&&decide (j<m)&&(os.take m).all (fun o => !(o.dst==some s))&&o.after.toList.any (fun g=>g.on==j&&Region.binds .any g)with
    | true=>some (b,off,i.size)
    | false=>none)
   | _,_,_=>none)
  | _,_,_=>none)
 | none=>none
def aaB(P:Program)(ms:List fG)(os:List Oper)(n m:Nat)(l:List (Nat×Value))(ks:List Key)(j:Nat):Option (Bool×Value):=(exec P ms os.toArray n (os.take m) (lift l) ks []).bind fun r=>(r.2.2.2[j]?).map fun t=>(t.1,t.2.1)
theorem aeo(S:St w0 a w n l bl vs){id:Nat}(m j:Nat)(ks:List Key)(new:List (Nat×Value))(k:Nat){b off:Nat}{A cs:List Value}(hk:bl[k]?=some (b,A))
  (next:∀a' w',Ch b w w'→St w0 a' w' n (new++l) (bl.set k (b,spl A off cs)) vs→wpList P os.toArray Q (os.drop (m+1)) a' w') (hkk:xR P ks:=by exact trivial)
  (hx:runs P (jX (bl.eraseIdx k) vs) os.toArray n (os.take m) l ks [] new=wants (jX (bl.eraseIdx k) vs) ks [] new:=by kernel_rfl)
  (hv:aaB P (jX (bl.eraseIdx k) vs) os n m l ks j=some (true,.agg cs.toArray):=by kernel_rfl)
  (hst:stD P os m j l=some (b,off,cs.length):=by kernel_rfl) (hf:decide (off+cs.length≤A.length)=true:=by kernel_rfl) (h1c:cs.all (·.oneCell')=true:=by kernel_rfl)
  (hs:rV (os.take m) l new=true:=by kernel_rfl)
  (hmo:P.follows .mixedOrders=true:=by kernel_rfl) (hB:okB os.toArray (m+1) n=true:=by kernel_rfl) (hD:qB os.toArray (os.take m)=true:=by kernel_rfl):(Code.region id os.toArray true).wp P Q a w:=by
 obtain⟨e',T,C,h1,hcl,h2⟩:=uD hx;have hC:C=[]:=by cases C<;>simp_all
 subst hC;have hf':off+cs.length≤A.length:=by simpa using hf
 have hlen:=xJ _ h1;have ok:=Rel.Ko hB;obtain⟨o,ho,hg,hd,ty,s,s',hop,hls,agW,hds,hjm,hout,g,hga,hgj,hgb⟩:∃o,os[m]?=some o∧o.guard=none∧o.dst=none∧∃ty s s',o.op = .store ty (.tmp s) (.tmp s')∧l.lookup s=some (.q b off)∧(P.info? ty).map (·.size)=some cs.length ∧
   (os[j]?).bind (·.dst)=some s'∧j<m∧(os.take m).all (fun o => !(o.dst==some s))=true∧∃g∈o.after.toList,g.on=j∧Region.binds .any g=true:=by
  unfold stD at hst
  split at hst
  ·rename_i o ho
   split at hst
   ·rename_i ty s s' hg hd hop
    split at hst
    ·rename_i b' off' i d hl hi hd'
     split at hst
     ·rename_i hc
      simp only[ah8,aie]at hst
      obtain⟨rfl,rfl,hsz⟩:=hst
      simp only[aiq,aiv,aiz,ako]at hc
      obtain⟨⟨⟨rfl,h3⟩,h4⟩,g,hg1,hg2,hg3⟩:=hc
      exact⟨o,ho,hg,hd,ty,s,d,hop,hl,by rw[hi]; simp[hsz],hd',h3,h4,g,hg1,hg2,hg3⟩
     ·cases hst
    ·cases hst
   ·cases hst
  ·cases hst
 have hml:m<os.length:=(List.getElem?_eq_some_iff.1 ho).1;have htk:os.take (m+1)=os.take m++[o]:=by
  rw[List.take_add_one,ho]; rfl
 obtain⟨kk,hTj⟩:∃kk,T[j]?=some (true,.agg cs.toArray,kk):=by
  unfold aaB at hv;rw[h1]at hv;simp only[aj6]at hv;cases hT:T[j]? with
  | none=>rw[hT]at hv; cases hv
  | some t=>rw[hT]at hv; obtain⟨x,y,z⟩:=t; simp only[aiY,ah8,aie]at hv; exact⟨z,by rw[hv.1,hv.2]⟩
 have hmem:(b,A)∈bl:=List.mem_of_getElem? hk;have hbx:=(S.own _ hmem).1;have hbw:w0.heap.size≤b:=(S.own _ hmem).2;have hne:∀p∈bl.eraseIdx k,p.1≠b:=fun p hp=>by
  obtain⟨i,hik,hi⟩:=List.mem_eraseIdx_iff_getElem?.1 hp;exact S.ne hi hk hik
 have hnv:∀m∈vs,m.1≠b:=fun m hm e=>(S.mem m hm).2 _ hmem e.symm;have hops:∀(j:Nat) o,(os.take m)[j]?=some o→os.toArray[j]?=some o:=fun j o h=>by
  rw[List.getElem?_take]at h;split at h
  ·simpa using h
  cases h
 have acP:∀w',Ch b w w'→Ext w0 w'→Rel.mP P os.toArray (os.take m) (T.map xK) Ext (fun u=>Ext w' u) a.eval (os.take m) (T.map xK):=fun w' hc hE =>
  xM (P:=P) (ops:=os.toArray) (hd:=os.take m) (Ta:=T) (n:=n) (e0:=lift l) (wF:=a.eval) (w0:=w') hops hD (bU S.s) (fun s x hx=>by
   rw[iU]at hx
   cases hl:l.lookup s with
   | none=>simp[hl]at hx
   | some v=>simp only[hl,aiY,ah8]at hx; rw[←hx]) ((S.drop k).agV hc hE hne hnv).Dj (os.take m) 0 rfl rfl (fun s x hx => .inr ⟨fun j o hj=>by omega,hx⟩) h1 rfl hkk trivial
 have hTl:(T.map xK++[fun _ u=>Bx u b (spl A off cs).toArray]).length=(os.take (m+1)).length:=by
  rw[htk]; simp[hlen]
 refine DY.wp_region (m+1) hmo (by rw[S.s.size]; exact hB) (fun i u u'=>if i=m then Ext w0 u'∧Ch b u u'∧Bx u' b (spl A off cs).toArray else Ext u u') (fun u=>Ch b w u∧Ext w0 u) m (fun u=>Bx u b A.toArray) (T.map xK++[fun _ u=>Bx u b (spl A off cs).toArray])
  ⟨Ch.iE (below_drewN (ais _ _) 1),Ext.trans' S.E (below_drewN (ais _ _) 1)⟩ (hbx.ext (below_drewN (ais _ _) 1)) ?_ ?_ ?_ ?_ ?_
 ·intro i u u' hu hR;split at hR
  ·exact⟨Ch.trans hu.1 hR.2.1,hR.1⟩
  exact⟨Ch.trans hu.1 (Ch.iE hR),Ext.trans' hu.2 hR⟩
 ·intro i u u' hi hu hR;rw[ah7 hi]at hR;exact Bx.ext hu hR
 ·intro j' T' hT' i hij v u u' hR hv';rw[List.getElem?_append]at hT';split at hT'
  ·rw[List.getElem?_map]at hT';cases hT2:T[j']? with
   | none=>rw[hT2]at hT'; cases hT'
   | some t=>rw[hT2]at hT'; obtain rfl:=aik hT'; exact hv'
  rename_i hge;have hj0:j'-(T.map xK).length=0:=by
   apply Classical.byContradiction;intro h;rw[List.getElem?_eq_none (by simp; simp at h hge; omega)]at hT';cases hT'
  rw[hj0]at hT';obtain rfl:=aik hT';have ahI:j'=m:=by
   have:(os.take m).length=m:=by simp; omega
   simp at hj0 hge;omega
  rw[ah7 (by omega)]at hR;exact Bx.ext hv' hR
 ·refine Dh _ _ 0 (by rw[hTl]; exact ah9 _) fun i oi hi=>?_;rw[ai0];have him:i<m+1:=by
   have:=(List.getElem?_eq_some_iff.1 hi).1;simp at this; omega
  have hoi:os[i]?=some oi:=by
   rw[List.getElem?_take,aib him]at hi;exact hi
  have aaC:∀{ρ:Operand→Value} {u:World},i≤m→Rel.CZ os.toArray (T.map xK++[fun _ u=>Bx u b (spl A off cs).toArray]) ρ u oi.after.toList→Rel.CZ os.toArray (T.map xK) ρ u oi.after.toList:=fun him hd =>
   Pm _ fun e he hb=>by
    have h3:=Di hd e he hb
    have h4:e.on<i:=ok.back i oi (by omega) (by simpa using hoi) e (by simpa using he) hb
    have h5:e.on<(T.map xK).length:=by simp[hlen]; omega
    simp only[List.getD_eq_getElem?_getD]at h3 ⊢
    rwa [List.getElem?_append_left h5]at h3
  by_cases hi':i=m
  ·subst hi';have heq:some oi=some o:=by rw[←hoi,←ho]
   obtain rfl:=aik heq;intro ρ u hρ hO hC hd';rw[hg];have hval:ρ (.tmp s') = .agg cs.toArray:=by
    have h3:=Di (aaC (ah9 _) hd') g hga hgb;rw[hgj]at h3;have h4:(os.toArray[j]?).bind (·.dst)=some s':=by simpa using hds
    rw[h4]at h3;have e1:(T.map xK).getD j top=xK (true,.agg cs.toArray,kk):=by simp[List.getD,List.getElem?_map,hTj]
    rw[e1]at h3;exact h3
   have agX:ρ (.tmp s) = .q b off:=by
    rw[hO s (by rw[htk,List.all_append,hout]; simp[hd])];exact S.s.has s _ hls
   have hrun:=SA (P:=P) hop agX hval (hC.2 rfl) agW hf' h1c;unfold Does;rw[hrun];refine⟨?_,?_⟩
   ·have h7:Ext w0 (u.setCells b off cs)∧Ch b u (u.setCells b off cs)∧Bx (u.setCells b off cs) b (spl A off cs).toArray:=⟨ni hC.1.2 hbw cs off,(Ch.refl b u).setCells cs off,Hf (hC.2 rfl) off cs hf'⟩;simpa using h7
   have:(T.map xK++[fun _ u=>Bx u b (spl A off cs).toArray]).getD i top=fun _ u=>Bx u b (spl A off cs).toArray:=by
    have h5:(T.map xK).length=i:=by simp[hlen]; omega
    rw[List.getD_eq_getElem?_getD,List.getElem?_append_right (by omega),h5,aj2]; rfl
   rw[this];exact Hf (hC.2 rfl) off cs hf'
  have agY:i<m:=by omega
  intro ρ u hρ hO hC hd';have hget:=(Rel.jI _ _ (acP u hC.1.1 hC.1.2)).2 i oi (by rw[List.getElem?_take,aib agY]; exact hoi);have hO':Rel.Out (os.take m) ρ a.eval:=fun t ht=>hO t (by rw[htk,List.all_append,ht]; simp[hd]);have h6:=hget ρ u hρ hO' Ext.rfl' (aaC (by omega) hd');have hT6:(T.map xK++[fun _ u=>Bx u b (spl A off cs).toArray]).getD i top=(T.map xK).getD i top:=by
   rw[List.getD_eq_getElem?_getD,List.getElem?_append_left (by simp[hlen]; omega),List.getD_eq_getElem?_getD]
  rw[hT6];simp only[ah7 hi'];exact h6
 intro w' hC;rw[htk];refine Pq _ _ _ (by simp[hlen]) ?_;refine Dk _ h1 S.s.size (bU S.s) fun a' hsz hd' hh=>?_;intro v hv';rw[hd];have S2:=(S.ch hC.1 hk hv' hC.2).act (xO h1 h2 hs hsz (by rw[hd',S.s.defers]) hh);exact next a' w' hC.1 S2
def Pv(P:Program)(ops:Array Oper)(os:List Oper)(l:List (Nat×Value)):Option (FuncId×Array Value×Option Nat):=
 match os with
 | o::_=>(match pathOf ops (lift l) o,uU o.op || !o.op.operands.all (fun x=>(rd (lift l) [] x).isSome),gJ (ev0 P (execOp (vZ (lift l) []) o))with
  | some p,false,some (.enter f args)=>(match jl (lift l) p with | true=>some (f,args,o.dst) | false=>none)
  | _,_,_=>none)
 | []=>none
theorem yG(S:St w0 a w n l bl vs){f:FuncId}{args:Array Value}(d:Option Nat){R:Ending→World→Prop}(hc:Calls P f args w R)
  (next:∀e w',R e w'→∃v,e = .returned v∧Ext w w'∧∀a',St w0 a' w' n (JA l d v) bl vs→wpList P ops Q (os.drop 1) a' w')
  (hx:Pv P ops os l=some (f,args,d):=by kernel_rfl) (hd:zH n d=true:=by rfl):wpList P ops Q os a w:=by
 cases os with
 | nil=>cases hx
 | cons o os =>
  unfold Pv at hx;simp only at hx;split at hx
  ·rename_i p f' args' hp hav hev;split at hx
   ·rename_i hg;simp only[ah8,aie]at hx;obtain⟨rfl,rfl,rfl⟩:=hx;simp only[aiX]at hav;have hrun:(execOp a.eval o).run P w = .ok (.enter f' args') w:=mO (Std.act a) (iR (bU S.s) o) (p:=[]) rfl hav.1 (by simpa using hav.2) hev;unfold wpList;rw[aib ((zu (a:=a) hp (fun x _ i y _ hl=>bU S.s i y hl)).2 hg)];left;unfold Oper.wp;rw[hrun];simp only[Oper.upon];refine hc.mono fun e w' hR=>?_;obtain⟨v,rfl,hE,hn⟩:=next e w' hR;exact hn _ ((S.grow hE).act (vY S.s hd v))
   cases hx
  cases hx
end
end Go.Sx
