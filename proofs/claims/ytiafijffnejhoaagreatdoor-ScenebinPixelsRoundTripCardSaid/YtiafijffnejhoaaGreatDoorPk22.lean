/- Arguments that came in: transforms and nodes; the -/
import Derived.Test.YtiafijffnejhoaaGreatDoorRows
import Derived.Test.YtiafijffnejhoaaGreatDoorCheck
import Derived.Test.YtiafijffnejhoaaGreatDoorSy
import Derived.Laws.IdiomCopy
set_option linter.unusedVariables false
section
namespace Go.Proofs.YtiafijffnejhoaaGreatDoor
open Go.RowKit Go.ChangeShapes Go.WideShapes
variable{α:Type}
theorem Ig{β γ:Type}{f:β→Option γ}:∀{l:List β} {cs:List γ},l.mapM f=some cs→cs.length=l.length∧∀(j:Nat) (x:β),l[j]?=some x→f x=cs[j]?
 | [],cs,h=>by
  simp at h; subst h; exact⟨rfl,fun j x h=>by simp at h⟩
 | a::l,cs,h=>by
  simp only[List.mapM_cons,Option.bind_eq_bind,Option.bind_eq_some_iff,Option.pure_def,ahd]at h
  obtain⟨y,hy,ys,hys,rfl⟩:=h
  obtain⟨h1,h2⟩:=Ig hys
  refine⟨by simp[h1],fun j x hj=>?_⟩
  cases j with
  | zero=>simp only[List.getElem?_cons_zero,ahd]at hj; subst hj; simpa using hy
  | succ j=>simpa using h2 j x (by simpa using hj)
theorem Xk{w:World}{a:Addr}{k:Nat}{cs:List Value}(h:w.cells? 0 a k=some cs):cs.length=k∧∀j,j<k→w.cell? (a.add j)=cs[j]?:=by
 simp only[World.cells?,ahk,if_true]at h;obtain⟨h1,h2⟩:=Ig h;exact⟨by simpa using h1,fun j hj=>h2 j j (by simp[hj])⟩
theorem PN{β:Type}{xs:List β}{n i:Nat}(h:xs.length=n)(hi:i<n):∃y,xs[i]?=some y:=⟨xs[i]'(by omega),List.getElem?_eq_getElem (by omega)⟩
theorem AA{β:Type}(cs:List β)(o a o' b L:Nat)(h1:a+b=L)(h2:o+a=o'):(cs.drop o).take L=(cs.drop o).take a++(cs.drop o').take b:=by
 subst h1 h2;rw[List.take_add,aiQ]
section
variable{H:Type}{enc:TypeId×Value→H}{P:Program}{W:World}{sp:Nat→Bool}{held:Bool}{n:Nat}{cs:List Value}{y:DataW H×List MemPlace}
theorem acN{e:TypeId}{k:IntKind}(he:P.underlying e=some (.int k))(h:DataW.trod enc P W 0 sp held n e cs=some y):∃x,cs=[.int k x]∧(Lit.int k x).wf=true:=by
 cases n with
 | zero=>simp[DataW.trod]at h
 | succ n =>
  simp only[DataW.trod,he]at h;split at h<;>simp_all
theorem AB{e:TypeId}(he:P.underlying e=some (.int .u8))(h:DataW.trod enc P W 0 sp held n e cs=some y):∃x:UInt8,cs=[fO x]:=by
 obtain⟨x,h1,h2⟩:=acN he h;obtain⟨c,hc⟩:=ZC h2;exact⟨c,by rw[h1,hc]⟩
theorem aaC{t e:TypeId}(ht:P.underlying t=some (.slice e))(h:DataW.trod enc P W 0 sp held n t cs=some y):∃a len cap,cs=[.slice a len cap]:=by
 cases n with
 | zero=>simp[DataW.trod]at h
 | succ n =>
  simp only[DataW.trod,ht]at h;split at h<;>simp_all
theorem Nr{t e:TypeId}{k:Nat}(ht:P.underlying t=some (.slice e))(hk0:0<k)(hn:P.cellsOf e=k)(f:α→List Value)(ok:α→Prop)
  (hR:∀n cs y,DataW.trod enc P W 0 sp held n e cs=some y→∃m,cs=f m∧ok m) (h:DataW.trod enc P W 0 sp held n t cs=some y):∃a cap l,cs=[.slice a (List.length l) cap]∧aK k f W (.slice a l.length cap) l∧∀x∈l,ok x:=by
 obtain⟨a,len,cap,rfl⟩:=aaC ht h;rcases trod_slice (d:=y.1) (ps:=y.2) ht h with ⟨rfl,rfl,rfl,_⟩ | ⟨ad,_,_,rfl,hl,hm,_,_,fuel',hel⟩
 ·exact⟨none,0,[],rfl,jm _ _ _,fun x hx=>by cases hx⟩
 rw[hn]at hel;obtain⟨l,hlen,hq⟩:=Gt (Q:=fun i m=>ok m∧∀j,j<k→W.cell? ((ad.add (i*k)).add j)=(f m)[j]?∧(f m).length=k) len fun i hi=>by
  obtain⟨cs,d',p',hcs,ht'⟩:=hel i hi;obtain⟨h1,h2⟩:=Xk hcs;obtain⟨m,rfl,hm⟩:=hR _ _ _ ht';exact⟨m,hm,fun j hj=>⟨h2 j hj,h1⟩⟩
 refine⟨some ad,cap,l,by rw[hlen],⟨some ad,cap,rfl,hm,?_⟩,fun x hx=>?_⟩
 ·rcases ahI l.length with h0 | h0
  ·left; exact⟨aia h0,by simp⟩
  right;obtain⟨hc,hfl⟩:=(hq 0 h0).2 0 hk0;rw[List.getElem?_eq_getElem (by omega)]at hc;have hz:(ad.add (0*k)).add 0=ad:=by simp[Addr.add]
  rw[hz]at hc;have hs:=cell_spot hc;refine⟨ad.block,ad.off,?_,cell_lt hc,by omega,fun i hi j hj=>?_⟩
  ·obtain⟨b,o,s⟩:=ad; simp at hs; subst hs; rfl
  have:=((hq i hi).2 j hj).1;rw[QV hs,QV rfl]at this;exact this
 obtain⟨i,hi,rfl⟩:=List.getElem_of_mem hx;exact(hq i hi).1
end
theorem fld{H:Type}{enc:TypeId×Value→H}{P:Program}{W:World}{sp:Nat→Bool}{held:Bool}{n off k i m:Nat}{t:TypeId}{cs:List Value}{xs:List (DataW H×List MemPlace)}(hg:DataW.trod enc P W 0 sp held n t ((cs.drop off).take (P.cellsOf t))=xs[i]?)(hlen:xs.length=m)(hi:i<m)(hk:P.cellsOf t=k) :
  ∃y,DataW.trod enc P W 0 sp held n t ((cs.drop off).take k)=some y:=by
 obtain⟨y,e⟩:=PN hlen hi;rw[e,hk]at hg;exact⟨y,hg⟩
section
variable{H:Type}{enc:TypeId×Value→H}{W:World}{sp:Nat→Bool}{held:Bool}{n:Nat}{cs:List Value}{y:DataW H×List MemPlace}
set_option maxRecDepth 100000
theorem PO(h:DataW.trod enc Tryz.prog W 0 sp held n 74 cs=some y):∃m:aO,cs=m.cells:=by
 obtain⟨xs,n',rfl,hx,hl,hlen,hg⟩:=DataW.trod_struct Tryz.underlying74 h;have hl:cs.length=4:=hl.trans (by kernel_rfl);obtain⟨x0,c0⟩:=AB Tryz.underlying5 (fld (cs:=cs) (off:=0) (k:=1) (hg 0 _ rfl) hlen (by decide) (by kernel_rfl)).choose_spec;obtain⟨x1,c1⟩:=AB Tryz.underlying5 (fld (cs:=cs) (off:=1) (k:=1) (hg 1 _ rfl) hlen (by decide) (by kernel_rfl)).choose_spec;obtain⟨x2,c2⟩:=AB Tryz.underlying5 (fld (cs:=cs) (off:=2) (k:=1) (hg 2 _ rfl) hlen (by decide) (by kernel_rfl)).choose_spec;obtain⟨x3,c3⟩:=AB Tryz.underlying5 (fld (cs:=cs) (off:=3) (k:=1) (hg 3 _ rfl) hlen (by decide) (by kernel_rfl)).choose_spec;have hc:=(show cs=(cs.drop 0).take 4 by rw[List.drop_zero,ahV (by omega)]).trans ((AA cs 0 1 1 3 4 rfl rfl).trans (ahm _ ((AA cs 1 1 2 2 3 rfl rfl).trans (ahm _ (AA cs 2 1 3 1 2 rfl rfl)))));rw[c0,c1,c2,c3]at hc;exact⟨⟨x0,x1,x2,x3⟩,hc⟩
end
theorem Hu{W:World}(h2:handlesMet Tryz.prog [("errors.errorType",Rows.laid_errors_errorType)] W):dV W:=by
 have h3:=h2 _ (aiK.2 rfl);obtain⟨name,u,ty,e1,e2,hlt,hrow,hvar⟩:∃name u ty,Rows.laid_errors_errorType.handleName?=some name∧(Tryz.prog.cutTypes.find? (·.1 == "internal/reflectlite.rtype")).map (·.2)=some u∧ty<Tryz.prog.types.size∧Tryz.prog.rowNamed ty name=true ∧
  W.var? Tryz.prog "errors.errorType" = some #[.iface u (.agg #[typeHandle Tryz.prog ty])]:=h3
 have hu:u=245:=ahl (e2.symm.trans (by kernel_rfl));have hn:name=[101,114,114,111,114]:=ahl (e1.symm.trans (by kernel_rfl));have hall:((List.range Tryz.prog.types.size).all fun t => !Tryz.prog.rowNamed t [101,114,114,111,114]||t==182)=true:=by kernel_rfl
 rw[ahz]at hall;have h4:=hall ty (ajo.2 hlt);rw[hn]at hrow;rw[hrow]at h4;have ht:ty=182:=by simpa using h4
 subst hu ht;unfold World.var? at hvar;rw[show Tryz.prog.globalNamed "errors.errorType" = some 0 by kernel_rfl,ajg]at hvar;cases hh:W.heap[(0 : Nat)]? with
 | none=>rw[hh]at hvar; cases hvar
 | some o =>
  rw[hh]at hvar;have hlt2:0 < W.heap.size:=(Array.getElem?_eq_some_iff.1 hh).1;cases o with
  | cells c t fz =>
   simp only[ahd]at hvar;refine⟨hlt2,fun j v hj=>?_⟩;have:j=0:=by
    have:=(List.getElem?_eq_some_iff.1 hj).1;simp at this; exact this
   subst this;simp only[World.cell?,hh];rw[hvar];simpa[typeHandle]using hj
  | _=>cases hvar
end Go.Proofs.YtiafijffnejhoaaGreatDoor
end
section
namespace Go.Sx
open Go.Proofs.YtiafijffnejhoaaGreatDoor Go.RowKit Go.Rel
section
variable{P:Program}{ops:Array Oper}{Q:Exit→Act→World→Prop}{w0:World}{a:Act}{w:World}{os:List Oper}{n:Nat}{l:List (Nat×Value)}{bl:List (Nat×List Value)}{vs:List dY}
theorem PS{ρ:Operand→Value}{o:Oper}{ty:TypeId}{x y:Operand}{b off:Nat}{A cs:List Value}(hop:o.op = .store ty x y)(hx:ρ x = .pointer (some ⟨b,off,none⟩))(hy:ρ y = .agg cs.toArray)(hbx:Bx w b A.toArray)
  (hi:(P.info? ty).map (·.size)=some cs.length) (hf:off+cs.length≤A.length) (h1:cs.all (·.oneCell')=true):(execOp ρ o).run P w = .ok .skip (w.setCells b off cs):=by
 have hth:w.there b off cs.toArray.size:=fun j hj=>by
  have h3:j<cs.length:=by simpa using hj
  rw[hbx.2.1,hbx.2.2,Array.getElem?_eq_getElem (by simp; omega)]; exact⟨rfl,rfl⟩
 have h:=run_storeVar_mid (P:=P) w b off ty cs.toArray hth (by rw[hi]; simp) (by rw[←h1]; simp);unfold execOp;simp only[hop,hx,hy,Instr.storeAt,Instr.sureAddr,ahS,Sem.run_pure,ajd,h]
theorem wU{ms:List dY}:∀(os:List Oper) {e e':Env} {ks:List Key} {L:List Loc} {C:List Kz} {T:List T3} {cs:List Value},exec P ms ops n os e ks cs=some (e',L,C,T)→T.length=os.length
 | [],e,e',ks,L,C,T,cs,hx=>by
  unfold exec at hx
  split at hx
  ·simp only[ahd,ahg]at hx
   obtain⟨-,-,-,rfl⟩:=hx; rfl
  ·cases hx
 | o::os,e,e',ks,L,C,T,cs,hx=>by
  unfold exec at hx
  split at hx
  ·cases hx
  ·split at hx
   ·split at hx
    ·rename_i h
     simp only[ahd,ahg]at hx
     obtain⟨-,-,-,rfl⟩:=hx
     rw[ahL,wU os h]; rfl
    ·cases hx
   ·split at hx
    ·split at hx
     ·rename_i h
      simp only[ahd,ahg]at hx
      obtain⟨-,-,-,rfl⟩:=hx
      rw[ahL,wU os h]; rfl
     ·cases hx
    ·cases hx
   ·split at hx
    ·split at hx
     ·rename_i h
      simp only[ahd,ahg]at hx
      obtain⟨-,-,-,rfl⟩:=hx
      rw[ahL,wU os h]; rfl
     ·cases hx
    ·cases hx
   ·cases hx
theorem Ns{K:Act→Prop}{o:Oper}{T:Fact}:∀(os:List Oper) (Us:List Fact) (b:Act),Us.length=os.length→Rel.End (fun a'=>∀v,T v w→K (a'.put o.dst v)) w os Us b→Rel.End K w (os++[o]) (Us++[T]) b
 | [],[],b,_,h=>fun v hv=>by
  have:=h v hv
  exact this
 | o'::os,U::Us,b,hl,h=>fun v hv=>Ns os Us _ (by simpa using hl) (h v hv)
theorem AL{hd:List Oper}{Ts:List Fact}{R:Nat→World→World→Prop}{C:Nat→World→Prop}{vJ:Operand→Value}:∀(os:List Oper) (Us:List Fact) (k:Nat),os.length≤Us.length→(∀(i:Nat) o,os[i]?=some o→Rel.oK P ops hd Ts (R (k+i)) (C (k+i)) vJ o (Us.getD i top))→aaD.nM P ops hd Ts R C vJ k os Us
 | [],_,_,_,_=>trivial
 | o::os,[],_,hl,_=>by simp at hl
 | o::os,U::Us,k,hl,h=>⟨h 0 o rfl,AL os Us (k+1) (by simpa using hl) fun i o' hi=>by
  have:=h (i+1) o' (by simpa using hi)
  rw[show k+(i+1)=k+1+i by omega]at this
  exact this⟩
theorem AO{Ts:List Fact}{ρ:Operand→Value}:∀{es:List Edge},Rel.AQ ops Ts ρ w es→∀g∈es,Region.binds .any g=true→Ts.getD g.on top (Rel.valOf ρ ((ops[g.on]?).bind (·.dst))) w
 | x::es,h,g,hg,hb=>by
  rcases ahw.1 hg with rfl | hg
  ·exact h.1 hb
  ·exact AO h.2 g hg hb
theorem St.ae5{w':World}{b:Nat}(S:St w0 a w n l bl vs)(hc:Ch b w w')(hE:Ext w0 w')(h1:∀p∈bl,p.1≠b)(h2:∀m∈vs,m.1≠b):St w0 a w' n l bl vs:=
 ⟨S.s,hE,fun p hp=>⟨(S.own p hp).1.ch hc (h1 p hp),(S.own p hp).2⟩,S.apart,fun m hm=>⟨⟨ahG (S.mem m hm).1.1 hc.size,fun j v hj=>by
  rw[hc.cell (p:=⟨m.1,m.2.1+j,none⟩) (S.mem m hm).1.1 (h2 m hm)]
  exact(S.mem m hm).1.2 j v hj⟩,(S.mem m hm).2⟩⟩
def stD(P:Program)(os:List Oper)(m j:Nat)(l:List (Nat×Value)):Option (Nat×Nat×Nat):=
 match os[m]? with
 | some o=>(match o.guard,o.dst,o.op with
  | none,none,.store ty (.tmp s) (.tmp s')=>(match l.lookup s,P.info? ty,(os[j]?).bind (·.dst)with
   | some (.pointer (some ⟨b,off,none⟩)),some i,some d =>
    (match d==s'&&decide (j<m)&&(os.take m).all (fun o => !(o.dst==some s))&&o.after.toList.any (fun g=>g.on==j&&Region.binds .any g)with
    | true=>some (b,off,i.size)
    | false=>none)
   | _,_,_=>none)
  | _,_,_=>none)
 | none=>none
def YO(P:Program)(ms:List dY)(os:List Oper)(n m:Nat)(l:List (Nat×Value))(ks:List Key)(j:Nat):Option (Bool×Value):=(exec P ms os.toArray n (os.take m) (lift l) ks []).bind fun r=>(r.2.2.2[j]?).map fun t=>(t.1,t.2.1)
theorem acO(S:St w0 a w n l bl vs){id:Nat}(m j:Nat)(ks:List Key)(new:List (Nat×Value))(k:Nat){b off:Nat}{A cs:List Value}(hk:bl[k]?=some (b,A))
  (next:∀a' w',Ch b w w'→St w0 a' w' n (new++l) (bl.set k (b,spl A off cs)) vs→wpList P os.toArray Q (os.drop (m+1)) a' w') (hkk:xK P ks:=by exact trivial)
  (hx:runs P (jG (bl.eraseIdx k) vs) os.toArray n (os.take m) l ks [] new=wants (jG (bl.eraseIdx k) vs) ks [] new:=by kernel_rfl)
  (hv:YO P (jG (bl.eraseIdx k) vs) os n m l ks j=some (true,.agg cs.toArray):=by kernel_rfl)
  (hst:stD P os m j l=some (b,off,cs.length):=by kernel_rfl) (hf:decide (off+cs.length≤A.length)=true:=by kernel_rfl) (h1c:cs.all (·.oneCell')=true:=by kernel_rfl)
  (hs:qR (os.take m) l new=true:=by kernel_rfl)
  (hmo:P.follows .mixedOrders=true:=by kernel_rfl) (hB:okB os.toArray (m+1) n=true:=by kernel_rfl) (hD:pU os.toArray (os.take m)=true:=by kernel_rfl):(Code.region id os.toArray true).wp P Q a w:=by
 obtain⟨e',T,C,h1,hcl,h2⟩:=tN hx;have hC:C=[]:=by cases C<;>simp_all
 subst hC;have hf':off+cs.length≤A.length:=by simpa using hf
 have hlen:=wU _ h1;have ok:=Rel.Ih hB;obtain⟨o,ho,hg,hd,ty,s,s',hop,hls,ae6,hds,hjm,hout,g,hga,hgj,hgb⟩:∃o,os[m]?=some o∧o.guard=none∧o.dst=none∧∃ty s s',o.op = .store ty (.tmp s) (.tmp s')∧l.lookup s=some (.pointer (some ⟨b,off,none⟩))∧(P.info? ty).map (·.size)=some cs.length ∧
   (os[j]?).bind (·.dst)=some s'∧j<m∧(os.take m).all (fun o => !(o.dst==some s))=true∧∃g∈o.after.toList,g.on=j∧Region.binds .any g=true:=by
  unfold stD at hst
  split at hst
  ·rename_i o ho
   split at hst
   ·rename_i ty s s' hg hd hop
    split at hst
    ·rename_i b' off' i d hl hi hd'
     split at hst
     ·rename_i hc
      simp only[ahd,ahg]at hst
      obtain⟨rfl,rfl,hsz⟩:=hst
      simp only[ahD,ahu,ahK,ajp]at hc
      obtain⟨⟨⟨rfl,h3⟩,h4⟩,g,hg1,hg2,hg3⟩:=hc
      exact⟨o,ho,hg,hd,ty,s,d,hop,hl,by rw[hi]; simp[hsz],hd',h3,h4,g,hg1,hg2,hg3⟩
     ·cases hst
    ·cases hst
   ·cases hst
  ·cases hst
 have hml:m<os.length:=(List.getElem?_eq_some_iff.1 ho).1;have htk:os.take (m+1)=os.take m++[o]:=by
  rw[List.take_add_one,ho]; rfl
 obtain⟨kk,hTj⟩:∃kk,T[j]?=some (true,.agg cs.toArray,kk):=by
  unfold YO at hv;rw[h1]at hv;simp only[ajg]at hv;cases hT:T[j]? with
  | none=>rw[hT]at hv; cases hv
  | some t=>rw[hT]at hv; obtain⟨x,y,z⟩:=t; simp only[ahW,ahd,ahg]at hv; exact⟨z,by rw[hv.1,hv.2]⟩
 have hmem:(b,A)∈bl:=List.mem_of_getElem? hk;have hbx:=(S.own _ hmem).1;have hbw:w0.heap.size≤b:=(S.own _ hmem).2;have hne:∀p∈bl.eraseIdx k,p.1≠b:=fun p hp=>by
  obtain⟨i,hik,hi⟩:=List.mem_eraseIdx_iff_getElem?.1 hp;exact S.ne hi hk hik
 have hnv:∀m∈vs,m.1≠b:=fun m hm e=>(S.mem m hm).2 _ hmem e.symm;have hops:∀(j:Nat) o,(os.take m)[j]?=some o→os.toArray[j]?=some o:=fun j o h=>by
  rw[List.getElem?_take]at h;split at h
  ·simpa using h
  cases h
 have aaE:∀w',Ch b w w'→Ext w0 w'→Rel.nM P os.toArray (os.take m) (T.map wV) Ext (fun u=>Ext w' u) a.eval (os.take m) (T.map wV):=fun w' hc hE =>
  wW (P:=P) (ops:=os.toArray) (hd:=os.take m) (Ta:=T) (n:=n) (e0:=lift l) (vJ:=a.eval) (w0:=w') hops hD (bP S.s) (fun s x hx=>by
   rw[jy]at hx
   cases hl:l.lookup s with
   | none=>simp[hl]at hx
   | some v=>simp only[hl,ahW,ahd]at hx; rw[←hx]) ((S.drop k).ae5 hc hE hne hnv).yc (os.take m) 0 rfl rfl (fun s x hx => .inr ⟨fun j o hj=>by omega,hx⟩) h1 rfl hkk trivial
 have hTl:(T.map wV++[fun _ u=>Bx u b (spl A off cs).toArray]).length=(os.take (m+1)).length:=by
  rw[htk]; simp[hlen]
 refine aaD.wp_region (m+1) hmo (by rw[S.s.size]; exact hB) (fun i u u'=>if i=m then Ext w0 u'∧Ch b u u'∧Bx u' b (spl A off cs).toArray else Ext u u') (fun u=>Ch b w u∧Ext w0 u) m (fun u=>Bx u b A.toArray) (T.map wV++[fun _ u=>Bx u b (spl A off cs).toArray])
  ⟨Ch.fV (below_drewN (ahs _ _) 1),Ext.trans' S.E (below_drewN (ahs _ _) 1)⟩ (hbx.ext (below_drewN (ahs _ _) 1)) ?_ ?_ ?_ ?_ ?_
 ·intro i u u' hu hR;split at hR
  ·exact⟨Ch.trans hu.1 hR.2.1,hR.1⟩
  exact⟨Ch.trans hu.1 (Ch.fV hR),Ext.trans' hu.2 hR⟩
 ·intro i u u' hi hu hR;rw[ahe hi]at hR;exact Bx.ext hu hR
 ·intro j' T' hT' i hij v u u' hR hv';rw[List.getElem?_append]at hT';split at hT'
  ·rw[List.getElem?_map]at hT';cases hT2:T[j']? with
   | none=>rw[hT2]at hT'; cases hT'
   | some t=>rw[hT2]at hT'; obtain rfl:=ahl hT'; exact hv'
  rename_i hge;have hj0:j'-(T.map wV).length=0:=by
   apply Classical.byContradiction;intro h;rw[List.getElem?_eq_none (by simp; simp at h hge; omega)]at hT';cases hT'
  rw[hj0]at hT';obtain rfl:=ahl hT';have agE:j'=m:=by
   have:(os.take m).length=m:=by simp; omega
   simp at hj0 hge;omega
  rw[ahe (by omega)]at hR;exact Bx.ext hv' hR
 ·refine AL _ _ 0 (by rw[hTl]; exact ahh _) fun i oi hi=>?_;rw[ah4];have him:i<m+1:=by
   have:=(List.getElem?_eq_some_iff.1 hi).1;simp at this; omega
  have hoi:os[i]?=some oi:=by
   rw[List.getElem?_take,ahf him]at hi;exact hi
  have YP:∀{ρ:Operand→Value} {u:World},i≤m→Rel.AQ os.toArray (T.map wV++[fun _ u=>Bx u b (spl A off cs).toArray]) ρ u oi.after.toList→Rel.AQ os.toArray (T.map wV) ρ u oi.after.toList:=fun him hd =>
   Nu _ fun e he hb=>by
    have h3:=AO hd e he hb
    have h4:e.on<i:=ok.back i oi (by omega) (by simpa using hoi) e (by simpa using he) hb
    have h5:e.on<(T.map wV).length:=by simp[hlen]; omega
    simp only[List.getD_eq_getElem?_getD]at h3 ⊢
    rwa [List.getElem?_append_left h5]at h3
  by_cases hi':i=m
  ·subst hi';have heq:some oi=some o:=by rw[←hoi,←ho]
   obtain rfl:=ahl heq;intro ρ u hρ hO hC hd';rw[hg];have hval:ρ (.tmp s') = .agg cs.toArray:=by
    have h3:=AO (YP (ahh _) hd') g hga hgb;rw[hgj]at h3;have h4:(os.toArray[j]?).bind (·.dst)=some s':=by simpa using hds
    rw[h4]at h3;have e1:(T.map wV).getD j top=wV (true,.agg cs.toArray,kk):=by simp[List.getD,List.getElem?_map,hTj]
    rw[e1]at h3;exact h3
   have ae7:ρ (.tmp s) = .pointer (some ⟨b,off,none⟩):=by
    rw[hO s (by rw[htk,List.all_append,hout]; simp[hd])];exact S.s.has s _ hls
   have hrun:=PS (P:=P) hop ae7 hval (hC.2 rfl) ae6 hf' h1c;unfold Does;rw[hrun];refine⟨?_,?_⟩
   ·have h7:Ext w0 (u.setCells b off cs)∧Ch b u (u.setCells b off cs)∧Bx (u.setCells b off cs) b (spl A off cs).toArray:=⟨lU hC.1.2 hbw cs off,(Ch.refl b u).setCells cs off,EY (hC.2 rfl) off cs hf'⟩;simpa using h7
   have:(T.map wV++[fun _ u=>Bx u b (spl A off cs).toArray]).getD i top=fun _ u=>Bx u b (spl A off cs).toArray:=by
    have h5:(T.map wV).length=i:=by simp[hlen]; omega
    rw[List.getD_eq_getElem?_getD,List.getElem?_append_right (by omega),h5,ai4]; rfl
   rw[this];exact EY (hC.2 rfl) off cs hf'
  have ae8:i<m:=by omega
  intro ρ u hρ hO hC hd';have hget:=(Rel.jR _ _ (aaE u hC.1.1 hC.1.2)).2 i oi (by rw[List.getElem?_take,ahf ae8]; exact hoi);have hO':Rel.Out (os.take m) ρ a.eval:=fun t ht=>hO t (by rw[htk,List.all_append,ht]; simp[hd]);have h6:=hget ρ u hρ hO' Ext.rfl' (YP (by omega) hd');have hT6:(T.map wV++[fun _ u=>Bx u b (spl A off cs).toArray]).getD i top=(T.map wV).getD i top:=by
   rw[List.getD_eq_getElem?_getD,List.getElem?_append_left (by simp[hlen]; omega),List.getD_eq_getElem?_getD]
  rw[hT6];simp only[ahe hi'];exact h6
 intro w' hC;rw[htk];refine Ns _ _ _ (by simp[hlen]) ?_;refine AU _ h1 S.s.size (bP S.s) fun a' hsz hd' hh=>?_;intro v hv';rw[hd];have S2:=(S.ch hC.1 hk hv' hC.2).act (wX h1 h2 hs hsz (by rw[hd',S.s.defers]) hh);exact next a' w' hC.1 S2
def Nv(P:Program)(ops:Array Oper)(os:List Oper)(l:List (Nat×Value)):Option (FuncId×Array Value×Option Nat):=
 match os with
 | o::_=>(match pathOf ops (lift l) o,qQ o.op || !o.op.operands.all (fun x=>(rd (lift l) [] x).isSome),gJ (ev0 P (execOp (wQ (lift l) []) o))with
  | some p,false,some (.enter f args)=>(match iY (lift l) p with | true=>some (f,args,o.dst) | false=>none)
  | _,_,_=>none)
 | []=>none
theorem qA(S:St w0 a w n l bl vs){f:FuncId}{args:Array Value}(d:Option Nat){R:Ending→World→Prop}(hc:Calls P f args w R)
  (next:∀e w',R e w'→∃v,e = .returned v∧Ext w w'∧∀a',St w0 a' w' n (KA l d v) bl vs→wpList P ops Q (os.drop 1) a' w')
  (hx:Nv P ops os l=some (f,args,d):=by kernel_rfl) (hd:Aq n d=true:=by rfl):wpList P ops Q os a w:=by
 cases os with
 | nil=>cases hx
 | cons o os =>
  unfold Nv at hx;simp only at hx;split at hx
  ·rename_i p f' args' hp hav hev;split at hx
   ·rename_i hg;simp only[ahd,ahg]at hx;obtain⟨rfl,rfl,rfl⟩:=hx;simp only[ah5]at hav;have hrun:(execOp a.eval o).run P w = .ok (.enter f' args') w:=lQ (Std.act a) (jd (bP S.s) o) (p:=[]) rfl hav.1 (by simpa using hav.2) hev;unfold wpList;rw[ahf ((yM (a:=a) hp (fun x _ i y _ hl=>bP S.s i y hl)).2 hg)];left;unfold Oper.wp;rw[hrun];simp only[Oper.upon];refine hc.mono fun e w' hR=>?_;obtain⟨v,rfl,hE,hn⟩:=next e w' hR;exact hn _ ((S.grow hE).act (wP S.s hd v))
   cases hx
  cases hx
end
end Go.Sx
end
