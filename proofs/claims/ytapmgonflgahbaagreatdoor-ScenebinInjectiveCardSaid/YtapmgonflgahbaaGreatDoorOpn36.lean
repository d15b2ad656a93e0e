/- Arguments that came in: transforms and nodes; the variable that is laid. -/
import Derived.Test.YtapmgonflgahbaaGreatDoorRows
import Derived.Test.YtapmgonflgahbaaGreatDoorCheck
namespace Go.Proofs.YtapmgonflgahbaaGreatDoor
open _root_.Go.Proofs.Tryz
open Go.RowKit Go.ChangeShapes Go.WideShapes
variable{α:Type}
set_option linter.unusedVariables false
theorem I9{β γ:Type}{f:β→Option γ}:∀{l:List β} {cs:List γ},l.mapM f=some cs→cs.length=l.length∧∀(j:Nat) (x:β),l[j]?=some x→f x=cs[j]?
 | [],cs,h=>by
  simp at h; subst h; exact⟨rfl,fun j x h=>by simp at h⟩
 | a::l,cs,h=>by
  simp only[List.mapM_cons,Option.bind_eq_bind,Option.bind_eq_some_iff,Option.pure_def,ah8]at h
  obtain⟨y,hy,ys,hys,rfl⟩:=h
  obtain⟨h1,h2⟩:=I9 hys
  refine⟨by simp[h1],fun j x hj=>?_⟩
  cases j with
  | zero=>simp only[List.getElem?_cons_zero,ah8]at hj; subst hj; simpa using hy
  | succ j=>simpa using h2 j x (by simpa using hj)
theorem YL{w:World}{a:Addr}{k:Nat}{cs:List Value}(h:w.cells? 0 a k=some cs):cs.length=k∧∀j,j<k→w.cell? (a.add j)=cs[j]?:=by
 simp only[World.cells?,aij,if_true]at h;obtain⟨h1,h2⟩:=I9 h;exact⟨by simpa using h1,fun j hj=>h2 j j (by simp[hj])⟩
theorem QO{β:Type}{xs:List β}{n i:Nat}(h:xs.length=n)(hi:i<n):∃y,xs[i]?=some y:=⟨xs[i]'(by omega),List.getElem?_eq_getElem (by omega)⟩
theorem aP{β:Type}(cs:List β)(o a o' b L:Nat)(h1:a+b=L)(h2:o+a=o'):(cs.drop o).take L=(cs.drop o).take a++(cs.drop o').take b:=by
 subst h1 h2;rw[List.take_add,List.drop_drop]
theorem BF{f:α→Value}{w:World}{v:Value}{l:List α}(h:aN 1 (fun x=>[f x]) w v l):bV f w v l:=by
 obtain⟨a,cap,hv,hm,h⟩:=h;refine⟨a,cap,hv,hm,?_⟩;rcases h with h | ⟨b,o,ha,hlt,hl,hc⟩
 ·exact .inl h
 exact .inr ⟨b,o,ha,hlt,hl,fun i hi=>by simpa using hc i hi 0 (by omega)⟩
section
variable{H:Type}{enc:TypeId×Value→H}{P:Program}{W:World}{sp:Nat→Bool}{held:Bool}{n:Nat}{cs:List Value}{y:DataW H×List MemPlace}
theorem Va{e:TypeId}{k:IntKind}(he:P.underlying e=some (.int k))(h:DataW.trod enc P W 0 sp held n e cs=some y):∃x,cs=[.int k x]∧(Lit.int k x).wf=true:=by
 cases n with
 | zero=>simp[DataW.trod]at h
 | succ n =>
  simp only[DataW.trod,he]at h;split at h<;>simp_all
theorem dX{e:TypeId}(he:P.underlying e=some (.int .i64))(h:DataW.trod enc P W 0 sp held n e cs=some y):∃x,cs=[.i x]∧I64 x:=by
 obtain⟨x,h1,h2⟩:=Va he h;exact⟨x,h1,bounds_i64 h2⟩
theorem rD{e:TypeId}(he:P.underlying e=some (.int .u8))(h:DataW.trod enc P W 0 sp held n e cs=some y):∃x:UInt8,cs=[dQ x]:=by
 obtain⟨x,h1,h2⟩:=Va he h;obtain⟨c,hc⟩:=aa0 h2;exact⟨c,by rw[h1,hc]⟩
theorem BG{e:TypeId}(he:P.underlying e=some .bool)(h:DataW.trod enc P W 0 sp held n e cs=some y):∃b,cs=[.bool b]:=by
 cases n with
 | zero=>simp[DataW.trod]at h
 | succ n =>
  simp only[DataW.trod,he]at h;split at h<;>simp_all
theorem abD{t e:TypeId}(ht:P.underlying t=some (.slice e))(h:DataW.trod enc P W 0 sp held n t cs=some y):∃a len cap,cs=[.slice a len cap]:=by
 cases n with
 | zero=>simp[DataW.trod]at h
 | succ n =>
  simp only[DataW.trod,ht]at h;split at h<;>simp_all
theorem nH{t e:TypeId}{k:Nat}(ht:P.underlying t=some (.slice e))(hk0:0<k)(hn:P.cellsOf e=k)(f:α→List Value)(ok:α→Prop)
  (hR:∀n cs y,DataW.trod enc P W 0 sp held n e cs=some y→∃m,cs=f m∧ok m) (h:DataW.trod enc P W 0 sp held n t cs=some y):∃a cap l,cs=[.slice a (List.length l) cap]∧aN k f W (.slice a l.length cap) l∧∀x∈l,ok x:=by
 obtain⟨a,len,cap,rfl⟩:=abD ht h;rcases trod_slice (d:=y.1) (ps:=y.2) ht h with ⟨rfl,rfl,rfl,_⟩ | ⟨ad,_,_,rfl,hl,hm,_,_,fuel',hel⟩
 ·exact⟨none,0,[],rfl,jC _ _ _,fun x hx=>by cases hx⟩
 rw[hn]at hel;obtain⟨l,hlen,hq⟩:=H7 (Q:=fun i m=>ok m∧∀j,j<k→W.cell? ((ad.add (i*k)).add j)=(f m)[j]?∧(f m).length=k) len fun i hi=>by
  obtain⟨cs,d',p',hcs,ht'⟩:=hel i hi;obtain⟨h1,h2⟩:=YL hcs;obtain⟨m,rfl,hm⟩:=hR _ _ _ ht';exact⟨m,hm,fun j hj=>⟨h2 j hj,h1⟩⟩
 refine⟨some ad,cap,l,by rw[hlen],⟨some ad,cap,rfl,hm,?_⟩,fun x hx=>?_⟩
 ·rcases aiL l.length with h0 | h0
  ·left; exact⟨ajj h0,by simp⟩
  right;obtain⟨hc,hfl⟩:=(hq 0 h0).2 0 hk0;rw[List.getElem?_eq_getElem (by omega)]at hc;have hz:(ad.add (0*k)).add 0=ad:=by simp[Addr.add]
  rw[hz]at hc;have hs:=cell_spot hc;refine⟨ad.block,ad.off,?_,cell_lt hc,by omega,fun i hi j hj=>?_⟩
  ·obtain⟨b,o,s⟩:=ad; simp at hs; subst hs; rfl
  have:=((hq i hi).2 j hj).1;rw[TJ hs,TJ rfl]at this;exact this
 obtain⟨i,hi,rfl⟩:=List.getElem_of_mem hx;exact(hq i hi).1
end
theorem jT{H:Type}{enc:TypeId×Value→H}{P:Program}{W:World}{sp:Nat→Bool}{held:Bool}{n off k i m:Nat}{t:TypeId}{cs:List Value}{xs:List (DataW H×List MemPlace)}(hg:DataW.trod enc P W 0 sp held n t ((cs.drop off).take (P.cellsOf t))=xs[i]?)(hlen:xs.length=m)(hi:i<m)(hk:P.cellsOf t=k) :
  ∃y,DataW.trod enc P W 0 sp held n t ((cs.drop off).take k)=some y:=by
 obtain⟨y,e⟩:=QO hlen hi;rw[e,hk]at hg;exact⟨y,hg⟩
section
variable{H:Type}{enc:TypeId×Value→H}{W:World}{sp:Nat→Bool}{held:Bool}{n:Nat}{cs:List Value}{y:DataW H×List MemPlace}
set_option maxRecDepth 100000
theorem YM(h:DataW.trod enc prog W 0 sp held n 66 cs=some y):∃x:UInt32,cs=[aU x]:=by
 obtain⟨x,h1,h2⟩:=Va underlying66 h;obtain⟨c,hc⟩:=X7 h2;exact⟨c,by rw[h1,hc]⟩
theorem Ou(h:DataW.trod enc prog W 0 sp held n 29 cs=some y):∃b a k l,cs=[.bool b,.slice a (List.length l) k]∧aC W (.slice a l.length k) l:=by
 obtain⟨xs,n',rfl,hx,hl,hlen,hg⟩:=ajv underlying29 h;have hl:cs.length=2:=hl.trans (by kernel_rfl);obtain⟨x0,c0⟩:=BG underlying4 (jT (cs:=cs) (off:=0) (k:=1) (hg 0 _ rfl) hlen (by decide) (by kernel_rfl)).choose_spec;obtain⟨a1,k1,l1,c1,r1,w1⟩:=nH (k:=1) underlying27 (by decide) (by kernel_rfl) (fun x:UInt32=>[aU x]) (fun _=>True) (fun n cs y h=>(YM h).imp fun _ h=>⟨h,trivial⟩) (jT (cs:=cs) (off:=1) (k:=1) (hg 1 _ rfl) hlen (by decide) (by kernel_rfl)).choose_spec;have hc:=(show cs=(cs.drop 0).take 2 by rw[ai9,aiC (by omega)]).trans (aP cs 0 1 1 1 2 rfl rfl);rw[c0,c1]at hc;exact⟨x0,a1,k1,l1,hc,BF r1⟩
theorem uw(h:DataW.trod enc prog W 0 sp held n 31 cs=some y):∃m:bP,cs=m.cells∧m.ok W:=by
 obtain⟨xs,n',rfl,hx,hl,hlen,hg⟩:=ajv underlying31 h;have hl:cs.length=4:=hl.trans (by kernel_rfl);obtain⟨b0,a0,k0,l0,c0,w0⟩:=Ou (jT (cs:=cs) (off:=0) (k:=2) (hg 0 _ rfl) hlen (by decide) (by kernel_rfl)).choose_spec;obtain⟨b1,a1,k1,l1,c1,w1⟩:=Ou (jT (cs:=cs) (off:=2) (k:=2) (hg 1 _ rfl) hlen (by decide) (by kernel_rfl)).choose_spec;have hc:=(show cs=(cs.drop 0).take 4 by rw[ai9,aiC (by omega)]).trans (aP cs 0 2 2 2 4 rfl rfl);rw[c0,c1]at hc;exact⟨⟨b0,a0,k0,l0,b1,a1,k1,l1⟩,hc.trans (by kernel_rfl),w0,w1⟩
theorem Ov(h:DataW.trod enc prog W 0 sp held n 33 cs=some y):∃m:bn,cs=m.cells∧m.ok W:=by
 obtain⟨xs,n',rfl,hx,hl,hlen,hg⟩:=ajv underlying33 h;have hl:cs.length=24:=hl.trans (by kernel_rfl);obtain⟨m0,c0,w0⟩:=uw (jT (cs:=cs) (off:=0) (k:=4) (hg 0 _ rfl) hlen (by decide) (by kernel_rfl)).choose_spec;obtain⟨m1,c1,w1⟩:=uw (jT (cs:=cs) (off:=4) (k:=4) (hg 1 _ rfl) hlen (by decide) (by kernel_rfl)).choose_spec;obtain⟨m2,c2,w2⟩:=uw (jT (cs:=cs) (off:=8) (k:=4) (hg 2 _ rfl) hlen (by decide) (by kernel_rfl)).choose_spec;obtain⟨m3,c3,w3⟩:=uw (jT (cs:=cs) (off:=12) (k:=4) (hg 3 _ rfl) hlen (by decide) (by kernel_rfl)).choose_spec;obtain⟨m4,c4,w4⟩:=uw (jT (cs:=cs) (off:=16) (k:=4) (hg 4 _ rfl) hlen (by decide) (by kernel_rfl)).choose_spec;obtain⟨m5,c5,w5⟩:=uw (jT (cs:=cs) (off:=20) (k:=4) (hg 5 _ rfl) hlen (by decide) (by kernel_rfl)).choose_spec;have hc:=(show cs=(cs.drop 0).take 24 by rw[ai9,aiC (by omega)]).trans ((aP cs 0 4 4 20 24 rfl rfl).trans (aic _ ((aP cs 4 4 8 16 20 rfl rfl).trans (aic _ ((aP cs 8 4 12 12 16 rfl rfl).trans (aic _ ((aP cs 12 4 16 8 12 rfl rfl).trans (aic _ (aP cs 16 4 20 4 8 rfl rfl)))))))));rw[c0,c1,c2,c3,c4,c5]at hc;exact⟨⟨m0,m1,m2,m3,m4,m5⟩,hc.trans (by kernel_rfl),w0,w1,w2,w3,w4,w5⟩
theorem BH(h:DataW.trod enc prog W 0 sp held n 123 cs=some y):∃m:kH,cs=[.i m.x,.i m.y]∧m.ok:=by
 obtain⟨xs,n',rfl,hx,hl,hlen,hg⟩:=ajv underlying123 h;have hl:cs.length=2:=hl.trans (by kernel_rfl);obtain⟨x0,c0,w0⟩:=dX underlying3 (jT (cs:=cs) (off:=0) (k:=1) (hg 0 _ rfl) hlen (by decide) (by kernel_rfl)).choose_spec;obtain⟨x1,c1,w1⟩:=dX underlying3 (jT (cs:=cs) (off:=1) (k:=1) (hg 1 _ rfl) hlen (by decide) (by kernel_rfl)).choose_spec;have hc:=(show cs=(cs.drop 0).take 2 by rw[ai9,aiC (by omega)]).trans (aP cs 0 1 1 1 2 rfl rfl);rw[c0,c1]at hc;exact⟨⟨x0,x1⟩,hc,w0,w1⟩
theorem yB(h:DataW.trod enc prog W 0 sp held n 23 cs=some y):∃m:dA,cs=m.cells:=by
 obtain⟨xs,n',rfl,hx,hl,hlen,hg⟩:=ajv underlying23 h;have hl:cs.length=4:=hl.trans (by kernel_rfl);obtain⟨x0,c0⟩:=rD underlying5 (jT (cs:=cs) (off:=0) (k:=1) (hg 0 _ rfl) hlen (by decide) (by kernel_rfl)).choose_spec;obtain⟨x1,c1⟩:=rD underlying5 (jT (cs:=cs) (off:=1) (k:=1) (hg 1 _ rfl) hlen (by decide) (by kernel_rfl)).choose_spec;obtain⟨x2,c2⟩:=rD underlying5 (jT (cs:=cs) (off:=2) (k:=1) (hg 2 _ rfl) hlen (by decide) (by kernel_rfl)).choose_spec;obtain⟨x3,c3⟩:=rD underlying5 (jT (cs:=cs) (off:=3) (k:=1) (hg 3 _ rfl) hlen (by decide) (by kernel_rfl)).choose_spec;have hc:=(show cs=(cs.drop 0).take 4 by rw[ai9,aiC (by omega)]).trans ((aP cs 0 1 1 3 4 rfl rfl).trans (aic _ ((aP cs 1 1 2 2 3 rfl rfl).trans (aic _ (aP cs 2 1 3 1 2 rfl rfl)))));rw[c0,c1,c2,c3]at hc;exact⟨⟨x0,x1,x2,x3⟩,hc⟩
theorem QS(h:DataW.trod enc prog W 0 sp held n 192 cs=some y):∃m:dA,cs=m.cells:=by
 obtain⟨xs,n',rfl,hx,hl,hlen,hg⟩:=ajv underlying192 h;have hl:cs.length=4:=hl.trans (by kernel_rfl);obtain⟨x0,c0⟩:=rD underlying5 (jT (cs:=cs) (off:=0) (k:=1) (hg 0 _ rfl) hlen (by decide) (by kernel_rfl)).choose_spec;obtain⟨x1,c1⟩:=rD underlying5 (jT (cs:=cs) (off:=1) (k:=1) (hg 1 _ rfl) hlen (by decide) (by kernel_rfl)).choose_spec;obtain⟨x2,c2⟩:=rD underlying5 (jT (cs:=cs) (off:=2) (k:=1) (hg 2 _ rfl) hlen (by decide) (by kernel_rfl)).choose_spec;obtain⟨x3,c3⟩:=rD underlying5 (jT (cs:=cs) (off:=3) (k:=1) (hg 3 _ rfl) hlen (by decide) (by kernel_rfl)).choose_spec;have hc:=(show cs=(cs.drop 0).take 4 by rw[ai9,aiC (by omega)]).trans ((aP cs 0 1 1 3 4 rfl rfl).trans (aic _ ((aP cs 1 1 2 2 3 rfl rfl).trans (aic _ (aP cs 2 1 3 1 2 rfl rfl)))));rw[c0,c1,c2,c3]at hc;exact⟨⟨x0,x1,x2,x3⟩,hc⟩
theorem Vb(h:DataW.trod enc prog W 0 sp held n 189 cs=some y):∃m:eY,cs=m.cells∧m.ok:=by
 obtain⟨xs,n',rfl,hx,hl,hlen,hg⟩:=ajv underlying189 h;have hl:cs.length=5:=hl.trans (by kernel_rfl);obtain⟨x0,c0,w0⟩:=dX underlying3 (jT (cs:=cs) (off:=0) (k:=1) (hg 0 _ rfl) hlen (by decide) (by kernel_rfl)).choose_spec;obtain⟨m1,c1⟩:=yB (jT (cs:=cs) (off:=1) (k:=4) (hg 1 _ rfl) hlen (by decide) (by kernel_rfl)).choose_spec;have hc:=(show cs=(cs.drop 0).take 5 by rw[ai9,aiC (by omega)]).trans (aP cs 0 1 1 4 5 rfl rfl);rw[c0,c1]at hc;exact⟨⟨x0,m1⟩,hc.trans (by kernel_rfl),w0⟩
theorem Ox(h:DataW.trod enc prog W 0 sp held n 138 cs=some y):∃m:eG,cs=m.cells∧m.ok:=by
 obtain⟨xs,n',rfl,hx,hl,hlen,hg⟩:=ajv underlying138 h;have hl:cs.length=7:=hl.trans (by kernel_rfl);obtain⟨x0,c0,w0⟩:=dX underlying3 (jT (cs:=cs) (off:=0) (k:=1) (hg 0 _ rfl) hlen (by decide) (by kernel_rfl)).choose_spec;obtain⟨m1,c1,w1⟩:=BH (jT (cs:=cs) (off:=1) (k:=2) (hg 1 _ rfl) hlen (by decide) (by kernel_rfl)).choose_spec;obtain⟨m2,c2,w2⟩:=BH (jT (cs:=cs) (off:=3) (k:=2) (hg 2 _ rfl) hlen (by decide) (by kernel_rfl)).choose_spec;obtain⟨m3,c3,w3⟩:=BH (jT (cs:=cs) (off:=5) (k:=2) (hg 3 _ rfl) hlen (by decide) (by kernel_rfl)).choose_spec;have hc:=(show cs=(cs.drop 0).take 7 by rw[ai9,aiC (by omega)]).trans ((aP cs 0 1 1 6 7 rfl rfl).trans (aic _ ((aP cs 1 2 3 4 6 rfl rfl).trans (aic _ (aP cs 3 2 5 2 4 rfl rfl)))));rw[c0,c1,c2,c3]at hc;exact⟨⟨x0,m1,m2,m3⟩,hc.trans (by kernel_rfl),w0,w1,w2,w3⟩
theorem Oy(h:DataW.trod enc prog W 0 sp held n 41 cs=some y):∃m:cZ,cs=m.cells∧m.ok W:=by
 obtain⟨xs,n',rfl,hx,hl,hlen,hg⟩:=ajv underlying41 h;have hl:cs.length=3:=hl.trans (by kernel_rfl);obtain⟨x0,c0,w0⟩:=dX underlying3 (jT (cs:=cs) (off:=0) (k:=1) (hg 0 _ rfl) hlen (by decide) (by kernel_rfl)).choose_spec;obtain⟨x1,c1,w1⟩:=dX underlying3 (jT (cs:=cs) (off:=1) (k:=1) (hg 1 _ rfl) hlen (by decide) (by kernel_rfl)).choose_spec;obtain⟨a2,k2,l2,c2,r2,w2⟩:=nH (k:=4) underlying39 (by decide) (by kernel_rfl) dA.cells (fun _=>True) (fun n cs y h=>(QS h).imp fun _ h=>⟨h,trivial⟩) (jT (cs:=cs) (off:=2) (k:=1) (hg 2 _ rfl) hlen (by decide) (by kernel_rfl)).choose_spec;have hc:=(show cs=(cs.drop 0).take 3 by rw[ai9,aiC (by omega)]).trans ((aP cs 0 1 1 2 3 rfl rfl).trans (aic _ (aP cs 1 1 2 1 2 rfl rfl)));rw[c0,c1,c2]at hc;exact⟨⟨x0,x1,a2,k2,l2⟩,hc.trans (by kernel_rfl),w0,w1,r2⟩
theorem QT(h:DataW.trod enc prog W 0 sp held n 38 cs=some y):∃m:aZ,cs=m.cells∧m.ok W:=by
 obtain⟨xs,n',rfl,hx,hl,hlen,hg⟩:=ajv underlying38 h;have hl:cs.length=6:=hl.trans (by kernel_rfl);obtain⟨x0,c0,w0⟩:=dX underlying3 (jT (cs:=cs) (off:=0) (k:=1) (hg 0 _ rfl) hlen (by decide) (by kernel_rfl)).choose_spec;obtain⟨x1,c1,w1⟩:=dX underlying3 (jT (cs:=cs) (off:=1) (k:=1) (hg 1 _ rfl) hlen (by decide) (by kernel_rfl)).choose_spec;obtain⟨x2,c2,w2⟩:=dX underlying3 (jT (cs:=cs) (off:=2) (k:=1) (hg 2 _ rfl) hlen (by decide) (by kernel_rfl)).choose_spec;obtain⟨x3,c3,w3⟩:=dX underlying3 (jT (cs:=cs) (off:=3) (k:=1) (hg 3 _ rfl) hlen (by decide) (by kernel_rfl)).choose_spec;obtain⟨a4,k4,l4,c4,r4,w4⟩:=nH (k:=1) underlying36 (by decide) (by kernel_rfl) (fun x:Int=>[Ib x]) I64 (fun n cs y h=>dX underlying3 h) (jT (cs:=cs) (off:=4) (k:=1) (hg 4 _ rfl) hlen (by decide) (by kernel_rfl)).choose_spec;obtain⟨x5,c5,w5⟩:=dX underlying3 (jT (cs:=cs) (off:=5) (k:=1) (hg 5 _ rfl) hlen (by decide) (by kernel_rfl)).choose_spec;have hc:=(show cs=(cs.drop 0).take 6 by rw[ai9,aiC (by omega)]).trans ((aP cs 0 1 1 5 6 rfl rfl).trans (aic _ ((aP cs 1 1 2 4 5 rfl rfl).trans (aic _ ((aP cs 2 1 3 3 4 rfl rfl).trans (aic _ ((aP cs 3 1 4 2 3 rfl rfl).trans (aic _ (aP cs 4 1 5 1 2 rfl rfl)))))))));rw[c0,c1,c2,c3,c4,c5]at hc;exact⟨⟨x0,x1,x2,x3,a4,k4,l4,x5⟩,hc.trans (by kernel_rfl),w0,w1,w2,w3,BF r4,w4,w5⟩
theorem Ey(h:DataW.trod enc prog W 0 sp held n 126 cs=some y):∃m:au,cs=m.cells∧m.ok W:=by
 obtain⟨xs,n',rfl,hx,hl,hlen,hg⟩:=ajv underlying126 h;have hl:cs.length=40:=hl.trans (by kernel_rfl);obtain⟨x0,c0,w0⟩:=dX underlying3 (jT (cs:=cs) (off:=0) (k:=1) (hg 0 _ rfl) hlen (by decide) (by kernel_rfl)).choose_spec;obtain⟨m1,c1⟩:=yB (jT (cs:=cs) (off:=1) (k:=4) (hg 1 _ rfl) hlen (by decide) (by kernel_rfl)).choose_spec;obtain⟨m2,c2,w2⟩:=BH (jT (cs:=cs) (off:=5) (k:=2) (hg 2 _ rfl) hlen (by decide) (by kernel_rfl)).choose_spec;obtain⟨m3,c3,w3⟩:=BH (jT (cs:=cs) (off:=7) (k:=2) (hg 3 _ rfl) hlen (by decide) (by kernel_rfl)).choose_spec;obtain⟨x4,c4,w4⟩:=dX underlying3 (jT (cs:=cs) (off:=9) (k:=1) (hg 4 _ rfl) hlen (by decide) (by kernel_rfl)).choose_spec;obtain⟨a5,k5,l5,c5,r5,w5⟩:=nH (k:=5) underlying124 (by decide) (by kernel_rfl) eY.cells eY.ok (fun n cs y h=>Vb h) (jT (cs:=cs) (off:=10) (k:=1) (hg 5 _ rfl) hlen (by decide) (by kernel_rfl)).choose_spec;obtain⟨x6,c6,w6⟩:=dX underlying3 (jT (cs:=cs) (off:=11) (k:=1) (hg 6 _ rfl) hlen (by decide) (by kernel_rfl)).choose_spec;obtain⟨m7,c7,w7⟩:=Oy (jT (cs:=cs) (off:=12) (k:=3) (hg 7 _ rfl) hlen (by decide) (by kernel_rfl)).choose_spec;obtain⟨x8,c8,w8⟩:=dX underlying3 (jT (cs:=cs) (off:=15) (k:=1) (hg 8 _ rfl) hlen (by decide) (by kernel_rfl)).choose_spec;obtain⟨m9,c9,w9⟩:=Ov (jT (cs:=cs) (off:=16) (k:=24) (hg 9 _ rfl) hlen (by decide) (by kernel_rfl)).choose_spec;have hc:=(show cs=(cs.drop 0).take 40 by rw[ai9,aiC (by omega)]).trans ((aP cs 0 1 1 39 40 rfl rfl).trans (aic _ ((aP cs 1 4 5 35 39 rfl rfl).trans (aic _ ((aP cs 5 2 7 33 35 rfl rfl).trans (aic _ ((aP cs 7 2 9 31 33 rfl rfl).trans (aic _ ((aP cs 9 1 10 30 31 rfl rfl).trans (aic _ ((aP cs 10 1 11 29 30 rfl rfl).trans (aic _ ((aP cs 11 1 12 28 29 rfl rfl).trans (aic _ ((aP cs 12 3 15 25 28 rfl rfl).trans (aic _ (aP cs 15 1 16 24 25 rfl rfl)))))))))))))))));rw[c0,c1,c2,c3,c4,c5,c6,c7,c8,c9]at hc;exact⟨⟨x0,m1,m2,m3,x4,a5,k5,l5,x6,m7,x8,m9⟩,hc.trans (by kernel_rfl),w0,w2,w3,w4,r5,w5,w6,w7,w8,w9⟩
theorem Ja(h:DataW.trod enc prog W 0 sp held n 43 cs=some y):∃m:aA,cs=m.cells∧m.ok W:=by
 obtain⟨xs,n',rfl,hx,hl,hlen,hg⟩:=ajv underlying43 h;have hl:cs.length=47:=hl.trans (by kernel_rfl);obtain⟨x0,c0,w0⟩:=dX underlying3 (jT (cs:=cs) (off:=0) (k:=1) (hg 0 _ rfl) hlen (by decide) (by kernel_rfl)).choose_spec;obtain⟨x1,c1,w1⟩:=dX underlying3 (jT (cs:=cs) (off:=1) (k:=1) (hg 1 _ rfl) hlen (by decide) (by kernel_rfl)).choose_spec;obtain⟨x2,c2,w2⟩:=dX underlying3 (jT (cs:=cs) (off:=2) (k:=1) (hg 2 _ rfl) hlen (by decide) (by kernel_rfl)).choose_spec;obtain⟨m3,c3,w3⟩:=Ov (jT (cs:=cs) (off:=3) (k:=24) (hg 3 _ rfl) hlen (by decide) (by kernel_rfl)).choose_spec;obtain⟨a4,k4,l4,c4,r4,w4⟩:=nH (k:=7) underlying34 (by decide) (by kernel_rfl) eG.cells eG.ok (fun n cs y h=>Ox h) (jT (cs:=cs) (off:=27) (k:=1) (hg 4 _ rfl) hlen (by decide) (by kernel_rfl)).choose_spec;obtain⟨x5,c5,w5⟩:=dX underlying3 (jT (cs:=cs) (off:=28) (k:=1) (hg 5 _ rfl) hlen (by decide) (by kernel_rfl)).choose_spec;obtain⟨x6,c6⟩:=rD underlying5 (jT (cs:=cs) (off:=29) (k:=1) (hg 6 _ rfl) hlen (by decide) (by kernel_rfl)).choose_spec;obtain⟨x7,c7,w7⟩:=dX underlying3 (jT (cs:=cs) (off:=30) (k:=1) (hg 7 _ rfl) hlen (by decide) (by kernel_rfl)).choose_spec;obtain⟨x8,c8⟩:=BG underlying4 (jT (cs:=cs) (off:=31) (k:=1) (hg 8 _ rfl) hlen (by decide) (by kernel_rfl)).choose_spec;obtain⟨x9,c9⟩:=BG underlying4 (jT (cs:=cs) (off:=32) (k:=1) (hg 9 _ rfl) hlen (by decide) (by kernel_rfl)).choose_spec;obtain⟨a10,k10,l10,c10,r10,w10⟩:=nH (k:=7) underlying34 (by decide) (by kernel_rfl) eG.cells eG.ok (fun n cs y h=>Ox h) (jT (cs:=cs) (off:=33) (k:=1) (hg 10 _ rfl) hlen (by decide) (by kernel_rfl)).choose_spec;obtain⟨x11,c11,w11⟩:=dX underlying3 (jT (cs:=cs) (off:=34) (k:=1) (hg 11 _ rfl) hlen (by decide) (by kernel_rfl)).choose_spec;obtain⟨a12,k12,l12,c12,r12,w12⟩:=nH (k:=40) underlying35 (by decide) (by kernel_rfl) au.cells (au.ok W) (fun n cs y h=>Ey h) (jT (cs:=cs) (off:=35) (k:=1) (hg 12 _ rfl) hlen (by decide) (by kernel_rfl)).choose_spec;obtain⟨m13,c13,w13⟩:=QT (jT (cs:=cs) (off:=36) (k:=6) (hg 13 _ rfl) hlen (by decide) (by kernel_rfl)).choose_spec;obtain⟨a14,k14,l14,c14,r14,w14⟩:=nH (k:=40) underlying35 (by decide) (by kernel_rfl) au.cells (au.ok W) (fun n cs y h=>Ey h) (jT (cs:=cs) (off:=42) (k:=1) (hg 14 _ rfl) hlen (by decide) (by kernel_rfl)).choose_spec;obtain⟨m15,c15,w15⟩:=Oy (jT (cs:=cs) (off:=43) (k:=3) (hg 15 _ rfl) hlen (by decide) (by kernel_rfl)).choose_spec;obtain⟨x16,c16,w16⟩:=dX underlying3 (jT (cs:=cs) (off:=46) (k:=1) (hg 16 _ rfl) hlen (by decide) (by kernel_rfl)).choose_spec;have hc:=(show cs=(cs.drop 0).take 47 by rw[ai9,aiC (by omega)]).trans ((aP cs 0 1 1 46 47 rfl rfl).trans (aic _ ((aP cs 1 1 2 45 46 rfl rfl).trans (aic _ ((aP cs 2 1 3 44 45 rfl rfl).trans (aic _ ((aP cs 3 24 27 20 44 rfl rfl).trans (aic _ ((aP cs 27 1 28 19 20 rfl rfl).trans (aic _ ((aP cs 28 1 29 18 19 rfl rfl).trans (aic _ ((aP cs 29 1 30 17 18 rfl rfl).trans (aic _ ((aP cs 30 1 31 16 17 rfl rfl).trans (aic _ ((aP cs 31 1 32 15 16 rfl rfl).trans (aic _ ((aP cs 32 1 33 14 15 rfl rfl).trans (aic _ ((aP cs 33 1 34 13 14 rfl rfl).trans (aic _ ((aP cs 34 1 35 12 13 rfl rfl).trans (aic _ ((aP cs 35 1 36 11 12 rfl rfl).trans (aic _ ((aP cs 36 6 42 5 11 rfl rfl).trans (aic _ ((aP cs 42 1 43 4 5 rfl rfl).trans (aic _ (aP cs 43 3 46 1 4 rfl rfl)))))))))))))))))))))))))))))));rw[c0,c1,c2,c3,c4,c5,c6,c7,c8,c9,c10,c11,c12,c13,c14,c15,c16]at hc;exact⟨⟨x0,x1,x2,m3,a4,k4,l4,x5,x6,x7,x8,x9,a10,k10,l10,x11,a12,k12,l12,m13,a14,k14,l14,m15,x16⟩,hc.trans (by kernel_rfl),w0,w1,w2,w3,⟨r4,w4⟩,w5,w7,⟨r10,w10⟩,w11,⟨r12,w12⟩,w13,⟨r14,w14⟩,w15,w16⟩
theorem open_node{base:Nat}{v:Value}{d:DataW H}{p:List MemPlace}(hv:Value.okWide prog W .any base 43 v)(h:DataW.Trod enc prog W 0 sp held 43 v d p):∃m:aA,v=m.v∧m.ok W:=by
 obtain⟨cs,rfl,hsz⟩:=okWide_struct underlying43 hv;obtain⟨fuel,hf⟩:=h;obtain⟨l⟩:=cs;obtain⟨m,hm,ho⟩:=Ja (cs:=l) (y:=(d,p)) hf;exact⟨m,by rw[hm]; rfl,ho⟩
end
theorem Jb{W:World}(h2:handlesMet prog [("errors.errorType",Rows.laid_errors_errorType)] W):bW W:=by
 have h3:=h2 _ (akb.2 rfl);obtain⟨name,u,ty,e1,e2,hlt,hrow,hvar⟩:∃name u ty,Rows.laid_errors_errorType.handleName?=some name∧(Tryz.prog.cutTypes.find? (·.1 == "internal/reflectlite.rtype")).map (·.2)=some u∧ty<Tryz.prog.types.size∧Tryz.prog.rowNamed ty name=true ∧
  W.var? prog "errors.errorType" = some #[.iface u (.agg #[typeHandle prog ty])]:=h3
 have hu:u=292:=aik (e2.symm.trans (by kernel_rfl));have hn:name=[101,114,114,111,114]:=aik (e1.symm.trans (by kernel_rfl));have hall:((List.range Tryz.prog.types.size).all fun t => !Tryz.prog.rowNamed t [101,114,114,111,114]||t==177)=true:=by kernel_rfl
 rw[aiA]at hall;have h4:=hall ty (List.mem_range.2 hlt);rw[hn]at hrow;rw[hrow]at h4;have ht:ty=177:=by simpa using h4
 subst hu ht;unfold World.var? at hvar;rw[show Tryz.prog.globalNamed "errors.errorType" = some 0 by kernel_rfl,aj6]at hvar;cases hh:W.heap[(0 : Nat)]? with
 | none=>rw[hh]at hvar; cases hvar
 | some o =>
  rw[hh]at hvar;have hlt2:0 < W.heap.size:=(Array.getElem?_eq_some_iff.1 hh).1;cases o with
  | cells c t fz =>
   simp only[ah8]at hvar;refine⟨hlt2,fun j v hj=>?_⟩;have:j=0:=by
    have:=(List.getElem?_eq_some_iff.1 hj).1;simp at this; exact this
   subst this;simp only[World.cell?,hh];rw[hvar];simpa[typeHandle]using hj
  | _=>cases hvar
end Go.Proofs.YtapmgonflgahbaaGreatDoor
