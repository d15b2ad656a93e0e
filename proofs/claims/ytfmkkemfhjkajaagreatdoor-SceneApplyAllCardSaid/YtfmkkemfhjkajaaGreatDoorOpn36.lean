/- Arguments that came in: transforms and nodes; the variable that is laid. -/
import Derived.Test.YtfmkkemfhjkajaaGreatDoorRows
import Derived.Test.YtfmkkemfhjkajaaGreatDoorCheck
namespace Go.Proofs.YtfmkkemfhjkajaaGreatDoor
open Go.RowKit Go.ChangeShapes Go.WideShapes
variable{α:Type}
set_option linter.unusedVariables false
theorem OZ{β γ:Type}{f:β→Option γ}:∀{l:List β} {cs:List γ},l.mapM f=some cs→cs.length=l.length∧∀(j:Nat) (x:β),l[j]?=some x→f x=cs[j]?
 | [],cs,h=>by
  simp at h; subst h; exact⟨rfl,fun j x h=>by simp at h⟩
 | a::l,cs,h=>by
  simp only[List.mapM_cons,Option.bind_eq_bind,Option.bind_eq_some_iff,Option.pure_def,Option.some.injEq]at h
  obtain⟨y,hy,ys,hys,rfl⟩:=h
  obtain⟨h1,h2⟩:=OZ hys
  refine⟨by simp[h1],fun j x hj=>?_⟩
  cases j with
  | zero=>simp only[List.getElem?_cons_zero,Option.some.injEq]at hj; subst hj; simpa using hy
  | succ j=>simpa using h2 j x (by simpa using hj)
theorem acB{w:World}{a:Addr}{k:Nat}{cs:List Value}(h:w.cells? 0 a k=some cs):cs.length=k∧∀j,j<k→w.cell? (a.add j)=cs[j]?:=by
 simp only[World.cells?,Nat.zero_le,if_true]at h;obtain⟨h1,h2⟩:=OZ h;exact⟨by simpa using h1,fun j hj=>h2 j j (by simp[hj])⟩
theorem XE{β:Type}{xs:List β}{n i:Nat}(h:xs.length=n)(hi:i<n):∃y,xs[i]?=some y:=⟨xs[i]'(by omega),List.getElem?_eq_getElem (by omega)⟩
theorem aV{β:Type}(cs:List β)(o a o' b L:Nat)(h1:a+b=L)(h2:o+a=o'):(cs.drop o).take L=(cs.drop o).take a++(cs.drop o').take b:=by
 subst h1 h2;rw[List.take_add,List.drop_drop]
theorem Gt{f:α→Value}{w:World}{v:Value}{l:List α}(h:aN 1 (fun x=>[f x]) w v l):dW f w v l:=by
 obtain⟨a,cap,hv,hm,h⟩:=h;refine⟨a,cap,hv,hm,?_⟩;rcases h with h | ⟨b,o,ha,hlt,hl,hc⟩
 ·exact .inl h
 exact .inr ⟨b,o,ha,hlt,hl,fun i hi=>by simpa using hc i hi 0 (by omega)⟩
section
variable{H:Type}{enc:TypeId×Value→H}{P:Program}{W:World}{sp:Nat→Bool}{held:Bool}{n:Nat}{cs:List Value}{y:DataW H×List MemPlace}
theorem aao{e:TypeId}{k:IntKind}(he:P.underlying e=some (.int k))(h:DataW.trod enc P W 0 sp held n e cs=some y):∃x,cs=[.int k x]∧(Lit.int k x).wf=true:=by
 cases n with
 | zero=>simp[DataW.trod]at h
 | succ n =>
  simp only[DataW.trod,he]at h;split at h<;>simp_all
theorem eU{e:TypeId}(he:P.underlying e=some (.int .i64))(h:DataW.trod enc P W 0 sp held n e cs=some y):∃x,cs=[.i x]∧I64 x:=by
 obtain⟨x,h1,h2⟩:=aao he h;exact⟨x,h1,bounds_i64 h2⟩
theorem wG{e:TypeId}(he:P.underlying e=some (.int .u8))(h:DataW.trod enc P W 0 sp held n e cs=some y):∃x:UInt8,cs=[QS x]:=by
 obtain⟨x,h1,h2⟩:=aao he h;obtain⟨c,hc⟩:=adT h2;exact⟨c,by rw[h1,hc]⟩
theorem Gu{e:TypeId}(he:P.underlying e=some .bool)(h:DataW.trod enc P W 0 sp held n e cs=some y):∃b,cs=[.bool b]:=by
 cases n with
 | zero=>simp[DataW.trod]at h
 | succ n =>
  simp only[DataW.trod,he]at h;split at h<;>simp_all
theorem aeI{t e:TypeId}(ht:P.underlying t=some (.slice e))(h:DataW.trod enc P W 0 sp held n t cs=some y):∃a len cap,cs=[.slice a len cap]:=by
 cases n with
 | zero=>simp[DataW.trod]at h
 | succ n =>
  simp only[DataW.trod,ht]at h;split at h<;>simp_all
theorem qc{t e:TypeId}{k:Nat}(ht:P.underlying t=some (.slice e))(hk0:0<k)(hn:P.cellsOf e=k)(f:α→List Value)(ok:α→Prop)
  (hR:∀n cs y,DataW.trod enc P W 0 sp held n e cs=some y→∃m,cs=f m∧ok m) (h:DataW.trod enc P W 0 sp held n t cs=some y):∃a cap l,cs=[.slice a (List.length l) cap]∧aN k f W (.slice a l.length cap) l∧∀x∈l,ok x:=by
 obtain⟨a,len,cap,rfl⟩:=aeI ht h;rcases trod_slice (d:=y.1) (ps:=y.2) ht h with ⟨rfl,rfl,rfl,_⟩ | ⟨ad,_,_,rfl,hl,hm,_,_,fuel',hel⟩
 ·exact⟨none,0,[],rfl,lZ _ _ _,fun x hx=>by cases hx⟩
 rw[hn]at hel;obtain⟨l,hlen,hq⟩:=NH (Q:=fun i m=>ok m∧∀j,j<k→W.cell? ((ad.add (i*k)).add j)=(f m)[j]?∧(f m).length=k) len fun i hi=>by
  obtain⟨cs,d',p',hcs,ht'⟩:=hel i hi;obtain⟨h1,h2⟩:=acB hcs;obtain⟨m,rfl,hm⟩:=hR _ _ _ ht';exact⟨m,hm,fun j hj=>⟨h2 j hj,h1⟩⟩
 refine⟨some ad,cap,l,by rw[hlen],⟨some ad,cap,rfl,hm,?_⟩,fun x hx=>?_⟩
 ·rcases Nat.eq_zero_or_pos l.length with h0 | h0
  ·left; exact⟨List.eq_nil_of_length_eq_zero h0,by simp⟩
  right;obtain⟨hc,hfl⟩:=(hq 0 h0).2 0 hk0;rw[List.getElem?_eq_getElem (by omega)]at hc;have hz:(ad.add (0*k)).add 0=ad:=by simp[Addr.add]
  rw[hz]at hc;have hs:=cell_spot hc;refine⟨ad.block,ad.off,?_,cell_lt hc,by omega,fun i hi j hj=>?_⟩
  ·obtain⟨b,o,s⟩:=ad; simp at hs; subst hs; rfl
  have:=((hq i hi).2 j hj).1;rw[Y4 hs,Y4 rfl]at this;exact this
 obtain⟨i,hi,rfl⟩:=List.getElem_of_mem hx;exact(hq i hi).1
end
theorem kV{H:Type}{enc:TypeId×Value→H}{P:Program}{W:World}{sp:Nat→Bool}{held:Bool}{n off k i m:Nat}{t:TypeId}{cs:List Value}{xs:List (DataW H×List MemPlace)}(hg:DataW.trod enc P W 0 sp held n t ((cs.drop off).take (P.cellsOf t))=xs[i]?)(hlen:xs.length=m)(hi:i<m)(hk:P.cellsOf t=k) :
  ∃y,DataW.trod enc P W 0 sp held n t ((cs.drop off).take k)=some y:=by
 obtain⟨y,e⟩:=XE hlen hi;rw[e,hk]at hg;exact⟨y,hg⟩
section
variable{H:Type}{enc:TypeId×Value→H}{W:World}{sp:Nat→Bool}{held:Bool}{n:Nat}{cs:List Value}{y:DataW H×List MemPlace}
set_option maxRecDepth 100000
theorem acC(h:DataW.trod enc Tryz.prog W 0 sp held n 194 cs=some y):∃x:UInt32,cs=[aU x]:=by
 obtain⟨x,h1,h2⟩:=aao Tryz.underlying194 h;obtain⟨c,hc⟩:=ab5 h2;exact⟨c,by rw[h1,hc]⟩
theorem Vl(h:DataW.trod enc Tryz.prog W 0 sp held n 29 cs=some y):∃b a k l,cs=[.bool b,.slice a (List.length l) k]∧aC W (.slice a l.length k) l:=by
 obtain⟨xs,n',rfl,hx,hl,hlen,hg⟩:=DataW.trod_struct Tryz.underlying29 h;have hl:cs.length=2:=hl.trans (by kernel_rfl);obtain⟨x0,c0⟩:=Gu Tryz.underlying4 (kV (cs:=cs) (off:=0) (k:=1) (hg 0 _ rfl) hlen (by decide) (by kernel_rfl)).choose_spec;obtain⟨a1,k1,l1,c1,r1,w1⟩:=qc (k:=1) Tryz.underlying27 (by decide) (by kernel_rfl) (fun x:UInt32=>[aU x]) (fun _=>True) (fun n cs y h=>(acC h).imp fun _ h=>⟨h,trivial⟩) (kV (cs:=cs) (off:=1) (k:=1) (hg 1 _ rfl) hlen (by decide) (by kernel_rfl)).choose_spec;have hc:=(show cs=(cs.drop 0).take 2 by rw[List.drop_zero,List.take_of_length_le (by omega)]).trans (aV cs 0 1 1 1 2 rfl rfl);rw[c0,c1]at hc;exact⟨x0,a1,k1,l1,hc,Gt r1⟩
theorem yQ(h:DataW.trod enc Tryz.prog W 0 sp held n 31 cs=some y):∃m:bK,cs=m.cells∧m.ok W:=by
 obtain⟨xs,n',rfl,hx,hl,hlen,hg⟩:=DataW.trod_struct Tryz.underlying31 h;have hl:cs.length=4:=hl.trans (by kernel_rfl);obtain⟨b0,a0,k0,l0,c0,w0⟩:=Vl (kV (cs:=cs) (off:=0) (k:=2) (hg 0 _ rfl) hlen (by decide) (by kernel_rfl)).choose_spec;obtain⟨b1,a1,k1,l1,c1,w1⟩:=Vl (kV (cs:=cs) (off:=2) (k:=2) (hg 1 _ rfl) hlen (by decide) (by kernel_rfl)).choose_spec;have hc:=(show cs=(cs.drop 0).take 4 by rw[List.drop_zero,List.take_of_length_le (by omega)]).trans (aV cs 0 2 2 2 4 rfl rfl);rw[c0,c1]at hc;exact⟨⟨b0,a0,k0,l0,b1,a1,k1,l1⟩,hc.trans (by kernel_rfl),w0,w1⟩
theorem Vm(h:DataW.trod enc Tryz.prog W 0 sp held n 33 cs=some y):∃m:aS,cs=m.cells∧m.ok W:=by
 obtain⟨xs,n',rfl,hx,hl,hlen,hg⟩:=DataW.trod_struct Tryz.underlying33 h;have hl:cs.length=24:=hl.trans (by kernel_rfl);obtain⟨m0,c0,w0⟩:=yQ (kV (cs:=cs) (off:=0) (k:=4) (hg 0 _ rfl) hlen (by decide) (by kernel_rfl)).choose_spec;obtain⟨m1,c1,w1⟩:=yQ (kV (cs:=cs) (off:=4) (k:=4) (hg 1 _ rfl) hlen (by decide) (by kernel_rfl)).choose_spec;obtain⟨m2,c2,w2⟩:=yQ (kV (cs:=cs) (off:=8) (k:=4) (hg 2 _ rfl) hlen (by decide) (by kernel_rfl)).choose_spec;obtain⟨m3,c3,w3⟩:=yQ (kV (cs:=cs) (off:=12) (k:=4) (hg 3 _ rfl) hlen (by decide) (by kernel_rfl)).choose_spec;obtain⟨m4,c4,w4⟩:=yQ (kV (cs:=cs) (off:=16) (k:=4) (hg 4 _ rfl) hlen (by decide) (by kernel_rfl)).choose_spec;obtain⟨m5,c5,w5⟩:=yQ (kV (cs:=cs) (off:=20) (k:=4) (hg 5 _ rfl) hlen (by decide) (by kernel_rfl)).choose_spec;have hc:=(show cs=(cs.drop 0).take 24 by rw[List.drop_zero,List.take_of_length_le (by omega)]).trans ((aV cs 0 4 4 20 24 rfl rfl).trans (congrArg _ ((aV cs 4 4 8 16 20 rfl rfl).trans (congrArg _ ((aV cs 8 4 12 12 16 rfl rfl).trans (congrArg _ ((aV cs 12 4 16 8 12 rfl rfl).trans (congrArg _ (aV cs 16 4 20 4 8 rfl rfl)))))))));rw[c0,c1,c2,c3,c4,c5]at hc;exact⟨⟨m0,m1,m2,m3,m4,m5⟩,hc.trans (by kernel_rfl),w0,w1,w2,w3,w4,w5⟩
theorem Gv(h:DataW.trod enc Tryz.prog W 0 sp held n 60 cs=some y):∃m:kU,cs=[.i m.x,.i m.y]∧m.ok:=by
 obtain⟨xs,n',rfl,hx,hl,hlen,hg⟩:=DataW.trod_struct Tryz.underlying60 h;have hl:cs.length=2:=hl.trans (by kernel_rfl);obtain⟨x0,c0,w0⟩:=eU Tryz.underlying3 (kV (cs:=cs) (off:=0) (k:=1) (hg 0 _ rfl) hlen (by decide) (by kernel_rfl)).choose_spec;obtain⟨x1,c1,w1⟩:=eU Tryz.underlying3 (kV (cs:=cs) (off:=1) (k:=1) (hg 1 _ rfl) hlen (by decide) (by kernel_rfl)).choose_spec;have hc:=(show cs=(cs.drop 0).take 2 by rw[List.drop_zero,List.take_of_length_le (by omega)]).trans (aV cs 0 1 1 1 2 rfl rfl);rw[c0,c1]at hc;exact⟨⟨x0,x1⟩,hc,w0,w1⟩
theorem yR(h:DataW.trod enc Tryz.prog W 0 sp held n 23 cs=some y):∃m:bY,cs=m.cells:=by
 obtain⟨xs,n',rfl,hx,hl,hlen,hg⟩:=DataW.trod_struct Tryz.underlying23 h;have hl:cs.length=4:=hl.trans (by kernel_rfl);obtain⟨x0,c0⟩:=wG Tryz.underlying5 (kV (cs:=cs) (off:=0) (k:=1) (hg 0 _ rfl) hlen (by decide) (by kernel_rfl)).choose_spec;obtain⟨x1,c1⟩:=wG Tryz.underlying5 (kV (cs:=cs) (off:=1) (k:=1) (hg 1 _ rfl) hlen (by decide) (by kernel_rfl)).choose_spec;obtain⟨x2,c2⟩:=wG Tryz.underlying5 (kV (cs:=cs) (off:=2) (k:=1) (hg 2 _ rfl) hlen (by decide) (by kernel_rfl)).choose_spec;obtain⟨x3,c3⟩:=wG Tryz.underlying5 (kV (cs:=cs) (off:=3) (k:=1) (hg 3 _ rfl) hlen (by decide) (by kernel_rfl)).choose_spec;have hc:=(show cs=(cs.drop 0).take 4 by rw[List.drop_zero,List.take_of_length_le (by omega)]).trans ((aV cs 0 1 1 3 4 rfl rfl).trans (congrArg _ ((aV cs 1 1 2 2 3 rfl rfl).trans (congrArg _ (aV cs 2 1 3 1 2 rfl rfl)))));rw[c0,c1,c2,c3]at hc;exact⟨⟨x0,x1,x2,x3⟩,hc⟩
theorem XF(h:DataW.trod enc Tryz.prog W 0 sp held n 122 cs=some y):∃m:bY,cs=m.cells:=by
 obtain⟨xs,n',rfl,hx,hl,hlen,hg⟩:=DataW.trod_struct Tryz.underlying122 h;have hl:cs.length=4:=hl.trans (by kernel_rfl);obtain⟨x0,c0⟩:=wG Tryz.underlying5 (kV (cs:=cs) (off:=0) (k:=1) (hg 0 _ rfl) hlen (by decide) (by kernel_rfl)).choose_spec;obtain⟨x1,c1⟩:=wG Tryz.underlying5 (kV (cs:=cs) (off:=1) (k:=1) (hg 1 _ rfl) hlen (by decide) (by kernel_rfl)).choose_spec;obtain⟨x2,c2⟩:=wG Tryz.underlying5 (kV (cs:=cs) (off:=2) (k:=1) (hg 2 _ rfl) hlen (by decide) (by kernel_rfl)).choose_spec;obtain⟨x3,c3⟩:=wG Tryz.underlying5 (kV (cs:=cs) (off:=3) (k:=1) (hg 3 _ rfl) hlen (by decide) (by kernel_rfl)).choose_spec;have hc:=(show cs=(cs.drop 0).take 4 by rw[List.drop_zero,List.take_of_length_le (by omega)]).trans ((aV cs 0 1 1 3 4 rfl rfl).trans (congrArg _ ((aV cs 1 1 2 2 3 rfl rfl).trans (congrArg _ (aV cs 2 1 3 1 2 rfl rfl)))));rw[c0,c1,c2,c3]at hc;exact⟨⟨x0,x1,x2,x3⟩,hc⟩
theorem aap(h:DataW.trod enc Tryz.prog W 0 sp held n 155 cs=some y):∃m:fZ,cs=m.cells∧m.ok:=by
 obtain⟨xs,n',rfl,hx,hl,hlen,hg⟩:=DataW.trod_struct Tryz.underlying155 h;have hl:cs.length=5:=hl.trans (by kernel_rfl);obtain⟨x0,c0,w0⟩:=eU Tryz.underlying3 (kV (cs:=cs) (off:=0) (k:=1) (hg 0 _ rfl) hlen (by decide) (by kernel_rfl)).choose_spec;obtain⟨m1,c1⟩:=yR (kV (cs:=cs) (off:=1) (k:=4) (hg 1 _ rfl) hlen (by decide) (by kernel_rfl)).choose_spec;have hc:=(show cs=(cs.drop 0).take 5 by rw[List.drop_zero,List.take_of_length_le (by omega)]).trans (aV cs 0 1 1 4 5 rfl rfl);rw[c0,c1]at hc;exact⟨⟨x0,m1⟩,hc.trans (by kernel_rfl),w0⟩
theorem Vo(h:DataW.trod enc Tryz.prog W 0 sp held n 62 cs=some y):∃m:eG,cs=m.cells∧m.ok:=by
 obtain⟨xs,n',rfl,hx,hl,hlen,hg⟩:=DataW.trod_struct Tryz.underlying62 h;have hl:cs.length=7:=hl.trans (by kernel_rfl);obtain⟨x0,c0,w0⟩:=eU Tryz.underlying3 (kV (cs:=cs) (off:=0) (k:=1) (hg 0 _ rfl) hlen (by decide) (by kernel_rfl)).choose_spec;obtain⟨m1,c1,w1⟩:=Gv (kV (cs:=cs) (off:=1) (k:=2) (hg 1 _ rfl) hlen (by decide) (by kernel_rfl)).choose_spec;obtain⟨m2,c2,w2⟩:=Gv (kV (cs:=cs) (off:=3) (k:=2) (hg 2 _ rfl) hlen (by decide) (by kernel_rfl)).choose_spec;obtain⟨m3,c3,w3⟩:=Gv (kV (cs:=cs) (off:=5) (k:=2) (hg 3 _ rfl) hlen (by decide) (by kernel_rfl)).choose_spec;have hc:=(show cs=(cs.drop 0).take 7 by rw[List.drop_zero,List.take_of_length_le (by omega)]).trans ((aV cs 0 1 1 6 7 rfl rfl).trans (congrArg _ ((aV cs 1 2 3 4 6 rfl rfl).trans (congrArg _ (aV cs 3 2 5 2 4 rfl rfl)))));rw[c0,c1,c2,c3]at hc;exact⟨⟨x0,m1,m2,m3⟩,hc.trans (by kernel_rfl),w0,w1,w2,w3⟩
theorem Vq(h:DataW.trod enc Tryz.prog W 0 sp held n 41 cs=some y):∃m:bZ,cs=m.cells∧m.ok W:=by
 obtain⟨xs,n',rfl,hx,hl,hlen,hg⟩:=DataW.trod_struct Tryz.underlying41 h;have hl:cs.length=3:=hl.trans (by kernel_rfl);obtain⟨x0,c0,w0⟩:=eU Tryz.underlying3 (kV (cs:=cs) (off:=0) (k:=1) (hg 0 _ rfl) hlen (by decide) (by kernel_rfl)).choose_spec;obtain⟨x1,c1,w1⟩:=eU Tryz.underlying3 (kV (cs:=cs) (off:=1) (k:=1) (hg 1 _ rfl) hlen (by decide) (by kernel_rfl)).choose_spec;obtain⟨a2,k2,l2,c2,r2,w2⟩:=qc (k:=4) Tryz.underlying39 (by decide) (by kernel_rfl) bY.cells (fun _=>True) (fun n cs y h=>(XF h).imp fun _ h=>⟨h,trivial⟩) (kV (cs:=cs) (off:=2) (k:=1) (hg 2 _ rfl) hlen (by decide) (by kernel_rfl)).choose_spec;have hc:=(show cs=(cs.drop 0).take 3 by rw[List.drop_zero,List.take_of_length_le (by omega)]).trans ((aV cs 0 1 1 2 3 rfl rfl).trans (congrArg _ (aV cs 1 1 2 1 2 rfl rfl)));rw[c0,c1,c2]at hc;exact⟨⟨x0,x1,a2,k2,l2⟩,hc.trans (by kernel_rfl),w0,w1,r2⟩
theorem XG(h:DataW.trod enc Tryz.prog W 0 sp held n 38 cs=some y):∃m:aY,cs=m.cells∧m.ok W:=by
 obtain⟨xs,n',rfl,hx,hl,hlen,hg⟩:=DataW.trod_struct Tryz.underlying38 h;have hl:cs.length=6:=hl.trans (by kernel_rfl);obtain⟨x0,c0,w0⟩:=eU Tryz.underlying3 (kV (cs:=cs) (off:=0) (k:=1) (hg 0 _ rfl) hlen (by decide) (by kernel_rfl)).choose_spec;obtain⟨x1,c1,w1⟩:=eU Tryz.underlying3 (kV (cs:=cs) (off:=1) (k:=1) (hg 1 _ rfl) hlen (by decide) (by kernel_rfl)).choose_spec;obtain⟨x2,c2,w2⟩:=eU Tryz.underlying3 (kV (cs:=cs) (off:=2) (k:=1) (hg 2 _ rfl) hlen (by decide) (by kernel_rfl)).choose_spec;obtain⟨x3,c3,w3⟩:=eU Tryz.underlying3 (kV (cs:=cs) (off:=3) (k:=1) (hg 3 _ rfl) hlen (by decide) (by kernel_rfl)).choose_spec;obtain⟨a4,k4,l4,c4,r4,w4⟩:=qc (k:=1) Tryz.underlying36 (by decide) (by kernel_rfl) (fun x:Int=>[zn x]) I64 (fun n cs y h=>eU Tryz.underlying3 h) (kV (cs:=cs) (off:=4) (k:=1) (hg 4 _ rfl) hlen (by decide) (by kernel_rfl)).choose_spec;obtain⟨x5,c5,w5⟩:=eU Tryz.underlying3 (kV (cs:=cs) (off:=5) (k:=1) (hg 5 _ rfl) hlen (by decide) (by kernel_rfl)).choose_spec;have hc:=(show cs=(cs.drop 0).take 6 by rw[List.drop_zero,List.take_of_length_le (by omega)]).trans ((aV cs 0 1 1 5 6 rfl rfl).trans (congrArg _ ((aV cs 1 1 2 4 5 rfl rfl).trans (congrArg _ ((aV cs 2 1 3 3 4 rfl rfl).trans (congrArg _ ((aV cs 3 1 4 2 3 rfl rfl).trans (congrArg _ (aV cs 4 1 5 1 2 rfl rfl)))))))));rw[c0,c1,c2,c3,c4,c5]at hc;exact⟨⟨x0,x1,x2,x3,a4,k4,l4,x5⟩,hc.trans (by kernel_rfl),w0,w1,w2,w3,Gt r4,w4,w5⟩
theorem JG(h:DataW.trod enc Tryz.prog W 0 sp held n 99 cs=some y):∃m:ak,cs=m.cells∧m.ok W:=by
 obtain⟨xs,n',rfl,hx,hl,hlen,hg⟩:=DataW.trod_struct Tryz.underlying99 h;have hl:cs.length=40:=hl.trans (by kernel_rfl);obtain⟨x0,c0,w0⟩:=eU Tryz.underlying3 (kV (cs:=cs) (off:=0) (k:=1) (hg 0 _ rfl) hlen (by decide) (by kernel_rfl)).choose_spec;obtain⟨m1,c1⟩:=yR (kV (cs:=cs) (off:=1) (k:=4) (hg 1 _ rfl) hlen (by decide) (by kernel_rfl)).choose_spec;obtain⟨m2,c2,w2⟩:=Gv (kV (cs:=cs) (off:=5) (k:=2) (hg 2 _ rfl) hlen (by decide) (by kernel_rfl)).choose_spec;obtain⟨m3,c3,w3⟩:=Gv (kV (cs:=cs) (off:=7) (k:=2) (hg 3 _ rfl) hlen (by decide) (by kernel_rfl)).choose_spec;obtain⟨x4,c4,w4⟩:=eU Tryz.underlying3 (kV (cs:=cs) (off:=9) (k:=1) (hg 4 _ rfl) hlen (by decide) (by kernel_rfl)).choose_spec;obtain⟨a5,k5,l5,c5,r5,w5⟩:=qc (k:=5) Tryz.underlying97 (by decide) (by kernel_rfl) fZ.cells fZ.ok (fun n cs y h=>aap h) (kV (cs:=cs) (off:=10) (k:=1) (hg 5 _ rfl) hlen (by decide) (by kernel_rfl)).choose_spec;obtain⟨x6,c6,w6⟩:=eU Tryz.underlying3 (kV (cs:=cs) (off:=11) (k:=1) (hg 6 _ rfl) hlen (by decide) (by kernel_rfl)).choose_spec;obtain⟨m7,c7,w7⟩:=Vq (kV (cs:=cs) (off:=12) (k:=3) (hg 7 _ rfl) hlen (by decide) (by kernel_rfl)).choose_spec;obtain⟨x8,c8,w8⟩:=eU Tryz.underlying3 (kV (cs:=cs) (off:=15) (k:=1) (hg 8 _ rfl) hlen (by decide) (by kernel_rfl)).choose_spec;obtain⟨m9,c9,w9⟩:=Vm (kV (cs:=cs) (off:=16) (k:=24) (hg 9 _ rfl) hlen (by decide) (by kernel_rfl)).choose_spec;have hc:=(show cs=(cs.drop 0).take 40 by rw[List.drop_zero,List.take_of_length_le (by omega)]).trans ((aV cs 0 1 1 39 40 rfl rfl).trans (congrArg _ ((aV cs 1 4 5 35 39 rfl rfl).trans (congrArg _ ((aV cs 5 2 7 33 35 rfl rfl).trans (congrArg _ ((aV cs 7 2 9 31 33 rfl rfl).trans (congrArg _ ((aV cs 9 1 10 30 31 rfl rfl).trans (congrArg _ ((aV cs 10 1 11 29 30 rfl rfl).trans (congrArg _ ((aV cs 11 1 12 28 29 rfl rfl).trans (congrArg _ ((aV cs 12 3 15 25 28 rfl rfl).trans (congrArg _ (aV cs 15 1 16 24 25 rfl rfl)))))))))))))))));rw[c0,c1,c2,c3,c4,c5,c6,c7,c8,c9]at hc;exact⟨⟨x0,m1,m2,m3,x4,a5,k5,l5,x6,m7,x8,m9⟩,hc.trans (by kernel_rfl),w0,w2,w3,w4,r5,w5,w6,w7,w8,w9⟩
theorem O4(h:DataW.trod enc Tryz.prog W 0 sp held n 43 cs=some y):∃m:aj,cs=m.cells∧m.ok W:=by
 obtain⟨xs,n',rfl,hx,hl,hlen,hg⟩:=DataW.trod_struct Tryz.underlying43 h;have hl:cs.length=47:=hl.trans (by kernel_rfl);obtain⟨x0,c0,w0⟩:=eU Tryz.underlying3 (kV (cs:=cs) (off:=0) (k:=1) (hg 0 _ rfl) hlen (by decide) (by kernel_rfl)).choose_spec;obtain⟨x1,c1,w1⟩:=eU Tryz.underlying3 (kV (cs:=cs) (off:=1) (k:=1) (hg 1 _ rfl) hlen (by decide) (by kernel_rfl)).choose_spec;obtain⟨x2,c2,w2⟩:=eU Tryz.underlying3 (kV (cs:=cs) (off:=2) (k:=1) (hg 2 _ rfl) hlen (by decide) (by kernel_rfl)).choose_spec;obtain⟨m3,c3,w3⟩:=Vm (kV (cs:=cs) (off:=3) (k:=24) (hg 3 _ rfl) hlen (by decide) (by kernel_rfl)).choose_spec;obtain⟨a4,k4,l4,c4,r4,w4⟩:=qc (k:=7) Tryz.underlying34 (by decide) (by kernel_rfl) eG.cells eG.ok (fun n cs y h=>Vo h) (kV (cs:=cs) (off:=27) (k:=1) (hg 4 _ rfl) hlen (by decide) (by kernel_rfl)).choose_spec;obtain⟨x5,c5,w5⟩:=eU Tryz.underlying3 (kV (cs:=cs) (off:=28) (k:=1) (hg 5 _ rfl) hlen (by decide) (by kernel_rfl)).choose_spec;obtain⟨x6,c6⟩:=wG Tryz.underlying5 (kV (cs:=cs) (off:=29) (k:=1) (hg 6 _ rfl) hlen (by decide) (by kernel_rfl)).choose_spec;obtain⟨x7,c7,w7⟩:=eU Tryz.underlying3 (kV (cs:=cs) (off:=30) (k:=1) (hg 7 _ rfl) hlen (by decide) (by kernel_rfl)).choose_spec;obtain⟨x8,c8⟩:=Gu Tryz.underlying4 (kV (cs:=cs) (off:=31) (k:=1) (hg 8 _ rfl) hlen (by decide) (by kernel_rfl)).choose_spec;obtain⟨x9,c9⟩:=Gu Tryz.underlying4 (kV (cs:=cs) (off:=32) (k:=1) (hg 9 _ rfl) hlen (by decide) (by kernel_rfl)).choose_spec;obtain⟨a10,k10,l10,c10,r10,w10⟩:=qc (k:=7) Tryz.underlying34 (by decide) (by kernel_rfl) eG.cells eG.ok (fun n cs y h=>Vo h) (kV (cs:=cs) (off:=33) (k:=1) (hg 10 _ rfl) hlen (by decide) (by kernel_rfl)).choose_spec;obtain⟨x11,c11,w11⟩:=eU Tryz.underlying3 (kV (cs:=cs) (off:=34) (k:=1) (hg 11 _ rfl) hlen (by decide) (by kernel_rfl)).choose_spec;obtain⟨a12,k12,l12,c12,r12,w12⟩:=qc (k:=40) Tryz.underlying35 (by decide) (by kernel_rfl) ak.cells (ak.ok W) (fun n cs y h=>JG h) (kV (cs:=cs) (off:=35) (k:=1) (hg 12 _ rfl) hlen (by decide) (by kernel_rfl)).choose_spec;obtain⟨m13,c13,w13⟩:=XG (kV (cs:=cs) (off:=36) (k:=6) (hg 13 _ rfl) hlen (by decide) (by kernel_rfl)).choose_spec;obtain⟨a14,k14,l14,c14,r14,w14⟩:=qc (k:=40) Tryz.underlying35 (by decide) (by kernel_rfl) ak.cells (ak.ok W) (fun n cs y h=>JG h) (kV (cs:=cs) (off:=42) (k:=1) (hg 14 _ rfl) hlen (by decide) (by kernel_rfl)).choose_spec;obtain⟨m15,c15,w15⟩:=Vq (kV (cs:=cs) (off:=43) (k:=3) (hg 15 _ rfl) hlen (by decide) (by kernel_rfl)).choose_spec;obtain⟨x16,c16,w16⟩:=eU Tryz.underlying3 (kV (cs:=cs) (off:=46) (k:=1) (hg 16 _ rfl) hlen (by decide) (by kernel_rfl)).choose_spec;have hc:=(show cs=(cs.drop 0).take 47 by rw[List.drop_zero,List.take_of_length_le (by omega)]).trans ((aV cs 0 1 1 46 47 rfl rfl).trans (congrArg _ ((aV cs 1 1 2 45 46 rfl rfl).trans (congrArg _ ((aV cs 2 1 3 44 45 rfl rfl).trans (congrArg _ ((aV cs 3 24 27 20 44 rfl rfl).trans (congrArg _ ((aV cs 27 1 28 19 20 rfl rfl).trans (congrArg _ ((aV cs 28 1 29 18 19 rfl rfl).trans (congrArg _ ((aV cs 29 1 30 17 18 rfl rfl).trans (congrArg _ ((aV cs 30 1 31 16 17 rfl rfl).trans (congrArg _ ((aV cs 31 1 32 15 16 rfl rfl).trans (congrArg _ ((aV cs 32 1 33 14 15 rfl rfl).trans (congrArg _ ((aV cs 33 1 34 13 14 rfl rfl).trans (congrArg _ ((aV cs 34 1 35 12 13 rfl rfl).trans (congrArg _ ((aV cs 35 1 36 11 12 rfl rfl).trans (congrArg _ ((aV cs 36 6 42 5 11 rfl rfl).trans (congrArg _ ((aV cs 42 1 43 4 5 rfl rfl).trans (congrArg _ (aV cs 43 3 46 1 4 rfl rfl)))))))))))))))))))))))))))))));rw[c0,c1,c2,c3,c4,c5,c6,c7,c8,c9,c10,c11,c12,c13,c14,c15,c16]at hc;exact⟨⟨x0,x1,x2,m3,a4,k4,l4,x5,x6,x7,x8,x9,a10,k10,l10,x11,a12,k12,l12,m13,a14,k14,l14,m15,x16⟩,hc.trans (by kernel_rfl),w0,w1,w2,w3,⟨r4,w4⟩,w5,w7,⟨r10,w10⟩,w11,⟨r12,w12⟩,w13,⟨r14,w14⟩,w15,w16⟩
end
theorem Vr{W:World}(h:laidMetH Tryz.prog [("errors.errorType",Rows.laid_errors_errorType)] W):jX W:=by
 have h2:handlesMet Tryz.prog [("errors.errorType",Rows.laid_errors_errorType)] W:=h.2;have h3:=h2 _ (List.mem_singleton.2 rfl);obtain⟨name,u,ty,e1,e2,hlt,hrow,hvar⟩:∃name u ty,Rows.laid_errors_errorType.handleName?=some name∧(Tryz.prog.cutTypes.find? (·.1 == "internal/reflectlite.rtype")).map (·.2)=some u∧ty<Tryz.prog.types.size∧Tryz.prog.rowNamed ty name=true ∧
  W.var? Tryz.prog "errors.errorType" = some #[.iface u (.agg #[typeHandle Tryz.prog ty])]:=h3
 have hu:u=174:=Option.some.inj (e2.symm.trans (by kernel_rfl));have hn:name=[101,114,114,111,114]:=Option.some.inj (e1.symm.trans (by kernel_rfl));have hall:((List.range Tryz.prog.types.size).all fun t => !Tryz.prog.rowNamed t [101,114,114,111,114]||t==108)=true:=by kernel_rfl
 rw[List.all_eq_true]at hall;have h4:=hall ty (List.mem_range.2 hlt);rw[hn]at hrow;rw[hrow]at h4;have ht:ty=108:=by simpa using h4
 subst hu ht;unfold World.var? at hvar;rw[show Tryz.prog.globalNamed "errors.errorType" = some 0 by kernel_rfl,Option.bind_some]at hvar;cases hh:W.heap[(0 : Nat)]? with
 | none=>rw[hh]at hvar; cases hvar
 | some o =>
  rw[hh]at hvar;have hlt2:0 < W.heap.size:=(Array.getElem?_eq_some_iff.1 hh).1;cases o with
  | cells c t fz =>
   simp only[Option.some.injEq]at hvar;refine⟨hlt2,fun j v hj=>?_⟩;have:j=0:=by
    have:=(List.getElem?_eq_some_iff.1 hj).1;simp at this; exact this
   subst this;simp only[World.cell?,hh];rw[hvar];simpa[typeHandle]using hj
  | _=>cases hvar
end Go.Proofs.YtfmkkemfhjkajaaGreatDoor
