/- Arguments that came in: transforms and nodes; the -/
import Derived.Test.YtapmgonflgahbaaGreatDoorRows
import Derived.Test.YtapmgonflgahbaaGreatDoorPk17
import Derived.Laws.IdiomCopy
set_option linter.unusedVariables false
section
namespace Go.Proofs.YtapmgonflgahbaaGreatDoor
open Go.RowKit Go.ChangeShapes Go.WideShapes
variable{α:Type}
theorem Ox{β γ:Type}{f:β→Option γ}:∀{l:List β} {cs:List γ},l.mapM f=some cs→cs.length=l.length∧∀(j:Nat) (x:β),l[j]?=some x→f x=cs[j]?
 | [],cs,h=>by
  simp at h; subst h; exact⟨rfl,fun j x h=>by simp at h⟩
 | a::l,cs,h=>by
  simp only[List.mapM_cons,Option.bind_eq_bind,Option.bind_eq_some_iff,Option.pure_def,an8]at h
  obtain⟨y,hy,ys,hys,rfl⟩:=h
  obtain⟨h1,h2⟩:=Ox hys
  refine⟨by simp[h1],fun j x hj=>?_⟩
  cases j with
  | zero=>simp only[List.getElem?_cons_zero,an8]at hj; subst hj; simpa using hy
  | succ j=>simpa using h2 j x (by simpa using hj)
theorem aci{w:World}{a:Addr}{k:Nat}{cs:List Value}(h:w.cells? 0 a k=some cs):cs.length=k∧∀j,j<k→w.cell? (a.add j)=cs[j]?:=by
 simp only[World.cells?,aoa,if_true]at h;obtain⟨h1,h2⟩:=Ox h;exact⟨by simpa using h1,fun j hj=>h2 j j (by simp[hj])⟩
theorem WU{β:Type}{xs:List β}{n i:Nat}(h:xs.length=n)(hi:i<n):∃y,xs[i]?=some y:=⟨xs[i]'(by omega),List.getElem?_eq_getElem (by omega)⟩
theorem aX{β:Type}(cs:List β)(o a o' b L:Nat)(h1:a+b=L)(h2:o+a=o'):(cs.drop o).take L=(cs.drop o).take a++(cs.drop o').take b:=by
 subst h1 h2;rw[List.take_add,List.drop_drop]
theorem Gh{f:α→Value}{w:World}{v:Value}{l:List α}(h:aV 1 (fun x=>[f x]) w v l):dS f w v l:=by
 obtain⟨a,cap,hv,hm,h⟩:=h;refine⟨a,cap,hv,hm,?_⟩;rcases h with h | ⟨b,o,ha,hlt,hl,hc⟩
 ·exact .inl h
 exact .inr ⟨b,o,ha,hlt,hl,fun i hi=>by simpa using hc i hi 0 (by omega)⟩
section
variable{H:Type}{enc:TypeId×Value→H}{P:Program}{W:World}{sp:Nat→Bool}{held:Bool}{n:Nat}{cs:List Value}{y:DataW H×List MemPlace}
theorem ZY{e:TypeId}{k:IntKind}(he:P.underlying e=some (.int k))(h:DataW.trod enc P W 0 sp held n e cs=some y):∃x,cs=[.int k x]∧(Lit.int k x).wf=true:=by
 cases n with
 | zero=>simp[DataW.trod]at h
 | succ n =>
  simp only[DataW.trod,he]at h;split at h<;>simp_all
theorem fE{e:TypeId}(he:P.underlying e=some (.int .i64))(h:DataW.trod enc P W 0 sp held n e cs=some y):∃x,cs=[.i x]∧I64 x:=by
 obtain⟨x,h1,h2⟩:=ZY he h;exact⟨x,h1,bounds_i64 h2⟩
theorem vP{e:TypeId}(he:P.underlying e=some (.int .u8))(h:DataW.trod enc P W 0 sp held n e cs=some y):∃x:UInt8,cs=[dY x]:=by
 obtain⟨x,h1,h2⟩:=ZY he h;obtain⟨c,hc⟩:=adT h2;exact⟨c,by rw[h1,hc]⟩
theorem Gi{e:TypeId}(he:P.underlying e=some .bool)(h:DataW.trod enc P W 0 sp held n e cs=some y):∃b,cs=[.bool b]:=by
 cases n with
 | zero=>simp[DataW.trod]at h
 | succ n =>
  simp only[DataW.trod,he]at h;split at h<;>simp_all
theorem aeJ{t e:TypeId}(ht:P.underlying t=some (.slice e))(h:DataW.trod enc P W 0 sp held n t cs=some y):∃a len cap,cs=[.slice a len cap]:=by
 cases n with
 | zero=>simp[DataW.trod]at h
 | succ n =>
  simp only[DataW.trod,ht]at h;split at h<;>simp_all
theorem rD{t e:TypeId}{k:Nat}(ht:P.underlying t=some (.slice e))(hk0:0<k)(hn:P.cellsOf e=k)(f:α→List Value)(ok:α→Prop)
  (hR:∀n cs y,DataW.trod enc P W 0 sp held n e cs=some y→∃m,cs=f m∧ok m) (h:DataW.trod enc P W 0 sp held n t cs=some y):∃a cap l,cs=[.slice a (List.length l) cap]∧aV k f W (.slice a l.length cap) l∧∀x∈l,ok x:=by
 obtain⟨a,len,cap,rfl⟩:=aeJ ht h;rcases trod_slice (d:=y.1) (ps:=y.2) ht h with ⟨rfl,rfl,rfl,_⟩ | ⟨ad,_,_,rfl,hl,hm,_,_,fuel',hel⟩
 ·exact⟨none,0,[],rfl,jD _ _ _,fun x hx=>by cases hx⟩
 rw[hn]at hel;obtain⟨l,hlen,hq⟩:=MX (Q:=fun i m=>ok m∧∀j,j<k→W.cell? ((ad.add (i*k)).add j)=(f m)[j]?∧(f m).length=k) len fun i hi=>by
  obtain⟨cs,d',p',hcs,ht'⟩:=hel i hi;obtain⟨h1,h2⟩:=aci hcs;obtain⟨m,rfl,hm⟩:=hR _ _ _ ht';exact⟨m,hm,fun j hj=>⟨h2 j hj,h1⟩⟩
 refine⟨some ad,cap,l,by rw[hlen],⟨some ad,cap,rfl,hm,?_⟩,fun x hx=>?_⟩
 ·rcases aoJ l.length with h0 | h0
  ·left; exact⟨apc h0,by simp⟩
  right;obtain⟨hc,hfl⟩:=(hq 0 h0).2 0 hk0;rw[List.getElem?_eq_getElem (by omega)]at hc;have hz:(ad.add (0*k)).add 0=ad:=by simp[Addr.add]
  rw[hz]at hc;have hs:=cell_spot hc;refine⟨ad.block,ad.off,?_,cell_lt hc,by omega,fun i hi j hj=>?_⟩
  ·obtain⟨b,o,s⟩:=ad; simp at hs; subst hs; rfl
  have:=((hq i hi).2 j hj).1;rw[Yo hs,Yo rfl]at this;exact this
 obtain⟨i,hi,rfl⟩:=List.getElem_of_mem hx;exact(hq i hi).1
end
theorem kX{H:Type}{enc:TypeId×Value→H}{P:Program}{W:World}{sp:Nat→Bool}{held:Bool}{n off k i m:Nat}{t:TypeId}{cs:List Value}{xs:List (DataW H×List MemPlace)}(hg:DataW.trod enc P W 0 sp held n t ((cs.drop off).take (P.cellsOf t))=xs[i]?)(hlen:xs.length=m)(hi:i<m)(hk:P.cellsOf t=k) :
  ∃y,DataW.trod enc P W 0 sp held n t ((cs.drop off).take k)=some y:=by
 obtain⟨y,e⟩:=WU hlen hi;rw[e,hk]at hg;exact⟨y,hg⟩
section
variable{H:Type}{enc:TypeId×Value→H}{W:World}{sp:Nat→Bool}{held:Bool}{n:Nat}{cs:List Value}{y:DataW H×List MemPlace}
set_option maxRecDepth 100000
theorem acj(h:DataW.trod enc Tryz.prog W 0 sp held n 66 cs=some y):∃x:UInt32,cs=[aY x]:=by
 obtain⟨x,h1,h2⟩:=ZY Tryz.underlying66 h;obtain⟨c,hc⟩:=abC h2;exact⟨c,by rw[h1,hc]⟩
theorem UA(h:DataW.trod enc Tryz.prog W 0 sp held n 29 cs=some y):∃b a k l,cs=[.bool b,.slice a (List.length l) k]∧aF W (.slice a l.length k) l:=by
 obtain⟨xs,n',rfl,hx,hl,hlen,hg⟩:=apq Tryz.underlying29 h;have hl:cs.length=2:=hl.trans (by kernel_rfl);obtain⟨x0,c0⟩:=Gi Tryz.underlying4 (kX (cs:=cs) (off:=0) (k:=1) (hg 0 _ rfl) hlen (by decide) (by kernel_rfl)).choose_spec;obtain⟨a1,k1,l1,c1,r1,w1⟩:=rD (k:=1) Tryz.underlying27 (by decide) (by kernel_rfl) (fun x:UInt32=>[aY x]) (fun _=>True) (fun n cs y h=>(acj h).imp fun _ h=>⟨h,trivial⟩) (kX (cs:=cs) (off:=1) (k:=1) (hg 1 _ rfl) hlen (by decide) (by kernel_rfl)).choose_spec;have hc:=(show cs=(cs.drop 0).take 2 by rw[ao7,aou (by omega)]).trans (aX cs 0 1 1 1 2 rfl rfl);rw[c0,c1]at hc;exact⟨x0,a1,k1,l1,hc,Gh r1⟩
theorem yx(h:DataW.trod enc Tryz.prog W 0 sp held n 31 cs=some y):∃m:dH,cs=m.cells∧m.ok W:=by
 obtain⟨xs,n',rfl,hx,hl,hlen,hg⟩:=apq Tryz.underlying31 h;have hl:cs.length=4:=hl.trans (by kernel_rfl);obtain⟨b0,a0,k0,l0,c0,w0⟩:=UA (kX (cs:=cs) (off:=0) (k:=2) (hg 0 _ rfl) hlen (by decide) (by kernel_rfl)).choose_spec;obtain⟨b1,a1,k1,l1,c1,w1⟩:=UA (kX (cs:=cs) (off:=2) (k:=2) (hg 1 _ rfl) hlen (by decide) (by kernel_rfl)).choose_spec;have hc:=(show cs=(cs.drop 0).take 4 by rw[ao7,aou (by omega)]).trans (aX cs 0 2 2 2 4 rfl rfl);rw[c0,c1]at hc;exact⟨⟨b0,a0,k0,l0,b1,a1,k1,l1⟩,hc.trans (by kernel_rfl),w0,w1⟩
theorem UC(h:DataW.trod enc Tryz.prog W 0 sp held n 33 cs=some y):∃m:bD,cs=m.cells∧m.ok W:=by
 obtain⟨xs,n',rfl,hx,hl,hlen,hg⟩:=apq Tryz.underlying33 h;have hl:cs.length=24:=hl.trans (by kernel_rfl);obtain⟨m0,c0,w0⟩:=yx (kX (cs:=cs) (off:=0) (k:=4) (hg 0 _ rfl) hlen (by decide) (by kernel_rfl)).choose_spec;obtain⟨m1,c1,w1⟩:=yx (kX (cs:=cs) (off:=4) (k:=4) (hg 1 _ rfl) hlen (by decide) (by kernel_rfl)).choose_spec;obtain⟨m2,c2,w2⟩:=yx (kX (cs:=cs) (off:=8) (k:=4) (hg 2 _ rfl) hlen (by decide) (by kernel_rfl)).choose_spec;obtain⟨m3,c3,w3⟩:=yx (kX (cs:=cs) (off:=12) (k:=4) (hg 3 _ rfl) hlen (by decide) (by kernel_rfl)).choose_spec;obtain⟨m4,c4,w4⟩:=yx (kX (cs:=cs) (off:=16) (k:=4) (hg 4 _ rfl) hlen (by decide) (by kernel_rfl)).choose_spec;obtain⟨m5,c5,w5⟩:=yx (kX (cs:=cs) (off:=20) (k:=4) (hg 5 _ rfl) hlen (by decide) (by kernel_rfl)).choose_spec;have hc:=(show cs=(cs.drop 0).take 24 by rw[ao7,aou (by omega)]).trans ((aX cs 0 4 4 20 24 rfl rfl).trans (an9 _ ((aX cs 4 4 8 16 20 rfl rfl).trans (an9 _ ((aX cs 8 4 12 12 16 rfl rfl).trans (an9 _ ((aX cs 12 4 16 8 12 rfl rfl).trans (an9 _ (aX cs 16 4 20 4 8 rfl rfl)))))))));rw[c0,c1,c2,c3,c4,c5]at hc;exact⟨⟨m0,m1,m2,m3,m4,m5⟩,hc.trans (by kernel_rfl),w0,w1,w2,w3,w4,w5⟩
theorem Gj(h:DataW.trod enc Tryz.prog W 0 sp held n 123 cs=some y):∃m:kU,cs=[.i m.x,.i m.y]∧m.ok:=by
 obtain⟨xs,n',rfl,hx,hl,hlen,hg⟩:=apq Tryz.underlying123 h;have hl:cs.length=2:=hl.trans (by kernel_rfl);obtain⟨x0,c0,w0⟩:=fE Tryz.underlying3 (kX (cs:=cs) (off:=0) (k:=1) (hg 0 _ rfl) hlen (by decide) (by kernel_rfl)).choose_spec;obtain⟨x1,c1,w1⟩:=fE Tryz.underlying3 (kX (cs:=cs) (off:=1) (k:=1) (hg 1 _ rfl) hlen (by decide) (by kernel_rfl)).choose_spec;have hc:=(show cs=(cs.drop 0).take 2 by rw[ao7,aou (by omega)]).trans (aX cs 0 1 1 1 2 rfl rfl);rw[c0,c1]at hc;exact⟨⟨x0,x1⟩,hc,w0,w1⟩
theorem yA(h:DataW.trod enc Tryz.prog W 0 sp held n 23 cs=some y):∃m:bT,cs=m.cells:=by
 obtain⟨xs,n',rfl,hx,hl,hlen,hg⟩:=apq Tryz.underlying23 h;have hl:cs.length=4:=hl.trans (by kernel_rfl);obtain⟨x0,c0⟩:=vP Tryz.underlying5 (kX (cs:=cs) (off:=0) (k:=1) (hg 0 _ rfl) hlen (by decide) (by kernel_rfl)).choose_spec;obtain⟨x1,c1⟩:=vP Tryz.underlying5 (kX (cs:=cs) (off:=1) (k:=1) (hg 1 _ rfl) hlen (by decide) (by kernel_rfl)).choose_spec;obtain⟨x2,c2⟩:=vP Tryz.underlying5 (kX (cs:=cs) (off:=2) (k:=1) (hg 2 _ rfl) hlen (by decide) (by kernel_rfl)).choose_spec;obtain⟨x3,c3⟩:=vP Tryz.underlying5 (kX (cs:=cs) (off:=3) (k:=1) (hg 3 _ rfl) hlen (by decide) (by kernel_rfl)).choose_spec;have hc:=(show cs=(cs.drop 0).take 4 by rw[ao7,aou (by omega)]).trans ((aX cs 0 1 1 3 4 rfl rfl).trans (an9 _ ((aX cs 1 1 2 2 3 rfl rfl).trans (an9 _ (aX cs 2 1 3 1 2 rfl rfl)))));rw[c0,c1,c2,c3]at hc;exact⟨⟨x0,x1,x2,x3⟩,hc⟩
theorem WV(h:DataW.trod enc Tryz.prog W 0 sp held n 192 cs=some y):∃m:bT,cs=m.cells:=by
 obtain⟨xs,n',rfl,hx,hl,hlen,hg⟩:=apq Tryz.underlying192 h;have hl:cs.length=4:=hl.trans (by kernel_rfl);obtain⟨x0,c0⟩:=vP Tryz.underlying5 (kX (cs:=cs) (off:=0) (k:=1) (hg 0 _ rfl) hlen (by decide) (by kernel_rfl)).choose_spec;obtain⟨x1,c1⟩:=vP Tryz.underlying5 (kX (cs:=cs) (off:=1) (k:=1) (hg 1 _ rfl) hlen (by decide) (by kernel_rfl)).choose_spec;obtain⟨x2,c2⟩:=vP Tryz.underlying5 (kX (cs:=cs) (off:=2) (k:=1) (hg 2 _ rfl) hlen (by decide) (by kernel_rfl)).choose_spec;obtain⟨x3,c3⟩:=vP Tryz.underlying5 (kX (cs:=cs) (off:=3) (k:=1) (hg 3 _ rfl) hlen (by decide) (by kernel_rfl)).choose_spec;have hc:=(show cs=(cs.drop 0).take 4 by rw[ao7,aou (by omega)]).trans ((aX cs 0 1 1 3 4 rfl rfl).trans (an9 _ ((aX cs 1 1 2 2 3 rfl rfl).trans (an9 _ (aX cs 2 1 3 1 2 rfl rfl)))));rw[c0,c1,c2,c3]at hc;exact⟨⟨x0,x1,x2,x3⟩,hc⟩
theorem Z4(h:DataW.trod enc Tryz.prog W 0 sp held n 189 cs=some y):∃m:fH,cs=m.cells∧m.ok:=by
 obtain⟨xs,n',rfl,hx,hl,hlen,hg⟩:=apq Tryz.underlying189 h;have hl:cs.length=5:=hl.trans (by kernel_rfl);obtain⟨x0,c0,w0⟩:=fE Tryz.underlying3 (kX (cs:=cs) (off:=0) (k:=1) (hg 0 _ rfl) hlen (by decide) (by kernel_rfl)).choose_spec;obtain⟨m1,c1⟩:=yA (kX (cs:=cs) (off:=1) (k:=4) (hg 1 _ rfl) hlen (by decide) (by kernel_rfl)).choose_spec;have hc:=(show cs=(cs.drop 0).take 5 by rw[ao7,aou (by omega)]).trans (aX cs 0 1 1 4 5 rfl rfl);rw[c0,c1]at hc;exact⟨⟨x0,m1⟩,hc.trans (by kernel_rfl),w0⟩
theorem UD(h:DataW.trod enc Tryz.prog W 0 sp held n 138 cs=some y):∃m:eU,cs=m.cells∧m.ok:=by
 obtain⟨xs,n',rfl,hx,hl,hlen,hg⟩:=apq Tryz.underlying138 h;have hl:cs.length=7:=hl.trans (by kernel_rfl);obtain⟨x0,c0,w0⟩:=fE Tryz.underlying3 (kX (cs:=cs) (off:=0) (k:=1) (hg 0 _ rfl) hlen (by decide) (by kernel_rfl)).choose_spec;obtain⟨m1,c1,w1⟩:=Gj (kX (cs:=cs) (off:=1) (k:=2) (hg 1 _ rfl) hlen (by decide) (by kernel_rfl)).choose_spec;obtain⟨m2,c2,w2⟩:=Gj (kX (cs:=cs) (off:=3) (k:=2) (hg 2 _ rfl) hlen (by decide) (by kernel_rfl)).choose_spec;obtain⟨m3,c3,w3⟩:=Gj (kX (cs:=cs) (off:=5) (k:=2) (hg 3 _ rfl) hlen (by decide) (by kernel_rfl)).choose_spec;have hc:=(show cs=(cs.drop 0).take 7 by rw[ao7,aou (by omega)]).trans ((aX cs 0 1 1 6 7 rfl rfl).trans (an9 _ ((aX cs 1 2 3 4 6 rfl rfl).trans (an9 _ (aX cs 3 2 5 2 4 rfl rfl)))));rw[c0,c1,c2,c3]at hc;exact⟨⟨x0,m1,m2,m3⟩,hc.trans (by kernel_rfl),w0,w1,w2,w3⟩
theorem UE(h:DataW.trod enc Tryz.prog W 0 sp held n 41 cs=some y):∃m:dB,cs=m.cells∧m.ok W:=by
 obtain⟨xs,n',rfl,hx,hl,hlen,hg⟩:=apq Tryz.underlying41 h;have hl:cs.length=3:=hl.trans (by kernel_rfl);obtain⟨x0,c0,w0⟩:=fE Tryz.underlying3 (kX (cs:=cs) (off:=0) (k:=1) (hg 0 _ rfl) hlen (by decide) (by kernel_rfl)).choose_spec;obtain⟨x1,c1,w1⟩:=fE Tryz.underlying3 (kX (cs:=cs) (off:=1) (k:=1) (hg 1 _ rfl) hlen (by decide) (by kernel_rfl)).choose_spec;obtain⟨a2,k2,l2,c2,r2,w2⟩:=rD (k:=4) Tryz.underlying39 (by decide) (by kernel_rfl) bT.cells (fun _=>True) (fun n cs y h=>(WV h).imp fun _ h=>⟨h,trivial⟩) (kX (cs:=cs) (off:=2) (k:=1) (hg 2 _ rfl) hlen (by decide) (by kernel_rfl)).choose_spec;have hc:=(show cs=(cs.drop 0).take 3 by rw[ao7,aou (by omega)]).trans ((aX cs 0 1 1 2 3 rfl rfl).trans (an9 _ (aX cs 1 1 2 1 2 rfl rfl)));rw[c0,c1,c2]at hc;exact⟨⟨x0,x1,a2,k2,l2⟩,hc.trans (by kernel_rfl),w0,w1,r2⟩
theorem WW(h:DataW.trod enc Tryz.prog W 0 sp held n 38 cs=some y):∃m:bC,cs=m.cells∧m.ok W:=by
 obtain⟨xs,n',rfl,hx,hl,hlen,hg⟩:=apq Tryz.underlying38 h;have hl:cs.length=6:=hl.trans (by kernel_rfl);obtain⟨x0,c0,w0⟩:=fE Tryz.underlying3 (kX (cs:=cs) (off:=0) (k:=1) (hg 0 _ rfl) hlen (by decide) (by kernel_rfl)).choose_spec;obtain⟨x1,c1,w1⟩:=fE Tryz.underlying3 (kX (cs:=cs) (off:=1) (k:=1) (hg 1 _ rfl) hlen (by decide) (by kernel_rfl)).choose_spec;obtain⟨x2,c2,w2⟩:=fE Tryz.underlying3 (kX (cs:=cs) (off:=2) (k:=1) (hg 2 _ rfl) hlen (by decide) (by kernel_rfl)).choose_spec;obtain⟨x3,c3,w3⟩:=fE Tryz.underlying3 (kX (cs:=cs) (off:=3) (k:=1) (hg 3 _ rfl) hlen (by decide) (by kernel_rfl)).choose_spec;obtain⟨a4,k4,l4,c4,r4,w4⟩:=rD (k:=1) Tryz.underlying36 (by decide) (by kernel_rfl) (fun x:Int=>[JW x]) I64 (fun n cs y h=>fE Tryz.underlying3 h) (kX (cs:=cs) (off:=4) (k:=1) (hg 4 _ rfl) hlen (by decide) (by kernel_rfl)).choose_spec;obtain⟨x5,c5,w5⟩:=fE Tryz.underlying3 (kX (cs:=cs) (off:=5) (k:=1) (hg 5 _ rfl) hlen (by decide) (by kernel_rfl)).choose_spec;have hc:=(show cs=(cs.drop 0).take 6 by rw[ao7,aou (by omega)]).trans ((aX cs 0 1 1 5 6 rfl rfl).trans (an9 _ ((aX cs 1 1 2 4 5 rfl rfl).trans (an9 _ ((aX cs 2 1 3 3 4 rfl rfl).trans (an9 _ ((aX cs 3 1 4 2 3 rfl rfl).trans (an9 _ (aX cs 4 1 5 1 2 rfl rfl)))))))));rw[c0,c1,c2,c3,c4,c5]at hc;exact⟨⟨x0,x1,x2,x3,a4,k4,l4,x5⟩,hc.trans (by kernel_rfl),w0,w1,w2,w3,Gh r4,w4,w5⟩
theorem Jt(h:DataW.trod enc Tryz.prog W 0 sp held n 126 cs=some y):∃m:ak,cs=m.cells∧m.ok W:=by
 obtain⟨xs,n',rfl,hx,hl,hlen,hg⟩:=apq Tryz.underlying126 h;have hl:cs.length=40:=hl.trans (by kernel_rfl);obtain⟨x0,c0,w0⟩:=fE Tryz.underlying3 (kX (cs:=cs) (off:=0) (k:=1) (hg 0 _ rfl) hlen (by decide) (by kernel_rfl)).choose_spec;obtain⟨m1,c1⟩:=yA (kX (cs:=cs) (off:=1) (k:=4) (hg 1 _ rfl) hlen (by decide) (by kernel_rfl)).choose_spec;obtain⟨m2,c2,w2⟩:=Gj (kX (cs:=cs) (off:=5) (k:=2) (hg 2 _ rfl) hlen (by decide) (by kernel_rfl)).choose_spec;obtain⟨m3,c3,w3⟩:=Gj (kX (cs:=cs) (off:=7) (k:=2) (hg 3 _ rfl) hlen (by decide) (by kernel_rfl)).choose_spec;obtain⟨x4,c4,w4⟩:=fE Tryz.underlying3 (kX (cs:=cs) (off:=9) (k:=1) (hg 4 _ rfl) hlen (by decide) (by kernel_rfl)).choose_spec;obtain⟨a5,k5,l5,c5,r5,w5⟩:=rD (k:=5) Tryz.underlying124 (by decide) (by kernel_rfl) fH.cells fH.ok (fun n cs y h=>Z4 h) (kX (cs:=cs) (off:=10) (k:=1) (hg 5 _ rfl) hlen (by decide) (by kernel_rfl)).choose_spec;obtain⟨x6,c6,w6⟩:=fE Tryz.underlying3 (kX (cs:=cs) (off:=11) (k:=1) (hg 6 _ rfl) hlen (by decide) (by kernel_rfl)).choose_spec;obtain⟨m7,c7,w7⟩:=UE (kX (cs:=cs) (off:=12) (k:=3) (hg 7 _ rfl) hlen (by decide) (by kernel_rfl)).choose_spec;obtain⟨x8,c8,w8⟩:=fE Tryz.underlying3 (kX (cs:=cs) (off:=15) (k:=1) (hg 8 _ rfl) hlen (by decide) (by kernel_rfl)).choose_spec;obtain⟨m9,c9,w9⟩:=UC (kX (cs:=cs) (off:=16) (k:=24) (hg 9 _ rfl) hlen (by decide) (by kernel_rfl)).choose_spec;have hc:=(show cs=(cs.drop 0).take 40 by rw[ao7,aou (by omega)]).trans ((aX cs 0 1 1 39 40 rfl rfl).trans (an9 _ ((aX cs 1 4 5 35 39 rfl rfl).trans (an9 _ ((aX cs 5 2 7 33 35 rfl rfl).trans (an9 _ ((aX cs 7 2 9 31 33 rfl rfl).trans (an9 _ ((aX cs 9 1 10 30 31 rfl rfl).trans (an9 _ ((aX cs 10 1 11 29 30 rfl rfl).trans (an9 _ ((aX cs 11 1 12 28 29 rfl rfl).trans (an9 _ ((aX cs 12 3 15 25 28 rfl rfl).trans (an9 _ (aX cs 15 1 16 24 25 rfl rfl)))))))))))))))));rw[c0,c1,c2,c3,c4,c5,c6,c7,c8,c9]at hc;exact⟨⟨x0,m1,m2,m3,x4,a5,k5,l5,x6,m7,x8,m9⟩,hc.trans (by kernel_rfl),w0,w2,w3,w4,r5,w5,w6,w7,w8,w9⟩
theorem Gl(h:DataW.trod enc Tryz.prog W 0 sp held n 43 cs=some y):∃m:aA,cs=m.cells∧m.ok W:=by
 obtain⟨xs,n',rfl,hx,hl,hlen,hg⟩:=apq Tryz.underlying43 h;have hl:cs.length=47:=hl.trans (by kernel_rfl);obtain⟨x0,c0,w0⟩:=fE Tryz.underlying3 (kX (cs:=cs) (off:=0) (k:=1) (hg 0 _ rfl) hlen (by decide) (by kernel_rfl)).choose_spec;obtain⟨x1,c1,w1⟩:=fE Tryz.underlying3 (kX (cs:=cs) (off:=1) (k:=1) (hg 1 _ rfl) hlen (by decide) (by kernel_rfl)).choose_spec;obtain⟨x2,c2,w2⟩:=fE Tryz.underlying3 (kX (cs:=cs) (off:=2) (k:=1) (hg 2 _ rfl) hlen (by decide) (by kernel_rfl)).choose_spec;obtain⟨m3,c3,w3⟩:=UC (kX (cs:=cs) (off:=3) (k:=24) (hg 3 _ rfl) hlen (by decide) (by kernel_rfl)).choose_spec;obtain⟨a4,k4,l4,c4,r4,w4⟩:=rD (k:=7) Tryz.underlying34 (by decide) (by kernel_rfl) eU.cells eU.ok (fun n cs y h=>UD h) (kX (cs:=cs) (off:=27) (k:=1) (hg 4 _ rfl) hlen (by decide) (by kernel_rfl)).choose_spec;obtain⟨x5,c5,w5⟩:=fE Tryz.underlying3 (kX (cs:=cs) (off:=28) (k:=1) (hg 5 _ rfl) hlen (by decide) (by kernel_rfl)).choose_spec;obtain⟨x6,c6⟩:=vP Tryz.underlying5 (kX (cs:=cs) (off:=29) (k:=1) (hg 6 _ rfl) hlen (by decide) (by kernel_rfl)).choose_spec;obtain⟨x7,c7,w7⟩:=fE Tryz.underlying3 (kX (cs:=cs) (off:=30) (k:=1) (hg 7 _ rfl) hlen (by decide) (by kernel_rfl)).choose_spec;obtain⟨x8,c8⟩:=Gi Tryz.underlying4 (kX (cs:=cs) (off:=31) (k:=1) (hg 8 _ rfl) hlen (by decide) (by kernel_rfl)).choose_spec;obtain⟨x9,c9⟩:=Gi Tryz.underlying4 (kX (cs:=cs) (off:=32) (k:=1) (hg 9 _ rfl) hlen (by decide) (by kernel_rfl)).choose_spec;obtain⟨a10,k10,l10,c10,r10,w10⟩:=rD (k:=7) Tryz.underlying34 (by decide) (by kernel_rfl) eU.cells eU.ok (fun n cs y h=>UD h) (kX (cs:=cs) (off:=33) (k:=1) (hg 10 _ rfl) hlen (by decide) (by kernel_rfl)).choose_spec;obtain⟨x11,c11,w11⟩:=fE Tryz.underlying3 (kX (cs:=cs) (off:=34) (k:=1) (hg 11 _ rfl) hlen (by decide) (by kernel_rfl)).choose_spec;obtain⟨a12,k12,l12,c12,r12,w12⟩:=rD (k:=40) Tryz.underlying35 (by decide) (by kernel_rfl) ak.cells (ak.ok W) (fun n cs y h=>Jt h) (kX (cs:=cs) (off:=35) (k:=1) (hg 12 _ rfl) hlen (by decide) (by kernel_rfl)).choose_spec;obtain⟨m13,c13,w13⟩:=WW (kX (cs:=cs) (off:=36) (k:=6) (hg 13 _ rfl) hlen (by decide) (by kernel_rfl)).choose_spec;obtain⟨a14,k14,l14,c14,r14,w14⟩:=rD (k:=40) Tryz.underlying35 (by decide) (by kernel_rfl) ak.cells (ak.ok W) (fun n cs y h=>Jt h) (kX (cs:=cs) (off:=42) (k:=1) (hg 14 _ rfl) hlen (by decide) (by kernel_rfl)).choose_spec;obtain⟨m15,c15,w15⟩:=UE (kX (cs:=cs) (off:=43) (k:=3) (hg 15 _ rfl) hlen (by decide) (by kernel_rfl)).choose_spec;obtain⟨x16,c16,w16⟩:=fE Tryz.underlying3 (kX (cs:=cs) (off:=46) (k:=1) (hg 16 _ rfl) hlen (by decide) (by kernel_rfl)).choose_spec;have hc:=(show cs=(cs.drop 0).take 47 by rw[ao7,aou (by omega)]).trans ((aX cs 0 1 1 46 47 rfl rfl).trans (an9 _ ((aX cs 1 1 2 45 46 rfl rfl).trans (an9 _ ((aX cs 2 1 3 44 45 rfl rfl).trans (an9 _ ((aX cs 3 24 27 20 44 rfl rfl).trans (an9 _ ((aX cs 27 1 28 19 20 rfl rfl).trans (an9 _ ((aX cs 28 1 29 18 19 rfl rfl).trans (an9 _ ((aX cs 29 1 30 17 18 rfl rfl).trans (an9 _ ((aX cs 30 1 31 16 17 rfl rfl).trans (an9 _ ((aX cs 31 1 32 15 16 rfl rfl).trans (an9 _ ((aX cs 32 1 33 14 15 rfl rfl).trans (an9 _ ((aX cs 33 1 34 13 14 rfl rfl).trans (an9 _ ((aX cs 34 1 35 12 13 rfl rfl).trans (an9 _ ((aX cs 35 1 36 11 12 rfl rfl).trans (an9 _ ((aX cs 36 6 42 5 11 rfl rfl).trans (an9 _ ((aX cs 42 1 43 4 5 rfl rfl).trans (an9 _ (aX cs 43 3 46 1 4 rfl rfl)))))))))))))))))))))))))))))));rw[c0,c1,c2,c3,c4,c5,c6,c7,c8,c9,c10,c11,c12,c13,c14,c15,c16]at hc;exact⟨⟨x0,x1,x2,m3,a4,k4,l4,x5,x6,x7,x8,x9,a10,k10,l10,x11,a12,k12,l12,m13,a14,k14,l14,m15,x16⟩,hc.trans (by kernel_rfl),w0,w1,w2,w3,⟨r4,w4⟩,w5,w7,⟨r10,w10⟩,w11,⟨r12,w12⟩,w13,⟨r14,w14⟩,w15,w16⟩
theorem open_node{base:Nat}{v:Value}{d:DataW H}{p:List MemPlace}(hv:Value.okWide Tryz.prog W .any base 43 v)(h:DataW.Trod enc Tryz.prog W 0 sp held 43 v d p):∃m:aA,v=m.v∧m.ok W:=by
 obtain⟨cs,rfl,hsz⟩:=okWide_struct Tryz.underlying43 hv;obtain⟨fuel,hf⟩:=h;obtain⟨l⟩:=cs;obtain⟨m,hm,ho⟩:=Gl (cs:=l) (y:=(d,p)) hf;exact⟨m,by rw[hm]; rfl,ho⟩
end
theorem Zl{W:World}(h2:handlesMet Tryz.prog [("errors.errorType",Rows.laid_errors_errorType)] W):gI W:=by
 have h3:=h2 _ (ap9.2 rfl);obtain⟨name,u,ty,e1,e2,hlt,hrow,hvar⟩:∃name u ty,Rows.laid_errors_errorType.handleName?=some name∧(Tryz.prog.cutTypes.find? (·.1 == "internal/reflectlite.rtype")).map (·.2)=some u∧ty<Tryz.prog.types.size∧Tryz.prog.rowNamed ty name=true ∧
  W.var? Tryz.prog "errors.errorType" = some #[.iface u (.agg #[typeHandle Tryz.prog ty])]:=h3
 have hu:u=292:=aof (e2.symm.trans (by kernel_rfl));have hn:name=[101,114,114,111,114]:=aof (e1.symm.trans (by kernel_rfl));have hall:((List.range Tryz.prog.types.size).all fun t => !Tryz.prog.rowNamed t [101,114,114,111,114]||t==177)=true:=by kernel_rfl
 rw[aoA]at hall;have h4:=hall ty (List.mem_range.2 hlt);rw[hn]at hrow;rw[hrow]at h4;have ht:ty=177:=by simpa using h4
 subst hu ht;unfold World.var? at hvar;rw[show Tryz.prog.globalNamed "errors.errorType" = some 0 by kernel_rfl,apX]at hvar;cases hh:W.heap[(0 : Nat)]? with
 | none=>rw[hh]at hvar; cases hvar
 | some o =>
  rw[hh]at hvar;have hlt2:0 < W.heap.size:=(Array.getElem?_eq_some_iff.1 hh).1;cases o with
  | cells c t fz =>
   simp only[an8]at hvar;refine⟨hlt2,fun j v hj=>?_⟩;have:j=0:=by
    have:=(List.getElem?_eq_some_iff.1 hj).1;simp at this; exact this
   subst this;simp only[World.cell?,hh];rw[hvar];simpa[typeHandle]using hj
  | _=>cases hvar
end Go.Proofs.YtapmgonflgahbaaGreatDoor
end
section
namespace Go.Sx
open Go.Proofs.YtapmgonflgahbaaGreatDoor Go.RowKit Go.Rel
section
variable{P:Program}{ops:Array Oper}{Q:Exit→Act→World→Prop}{w0:World}{a:Act}{w:World}{os:List Oper}{n:Nat}{l:List (Nat×Value)}{bl:List (Nat×List Value)}{vs:List gX}
theorem WX{ρ:Operand→Value}{o:Oper}{ty:TypeId}{x y:Operand}{b off:Nat}{A cs:List Value}(hop:o.op = .store ty x y)(hx:ρ x = .q b off)(hy:ρ y = .agg cs.toArray)(hbx:Bx w b A.toArray)
  (hi:(P.info? ty).map (·.size)=some cs.length) (hf:off+cs.length≤A.length) (h1:cs.all (·.oneCell')=true):(execOp ρ o).run P w = .ok .skip (w.setCells b off cs):=by
 have hth:w.there b off cs.toArray.size:=fun j hj=>by
  have h3:j<cs.length:=by simpa using hj
  rw[hbx.2.1,hbx.2.2,Array.getElem?_eq_getElem (by simp; omega)]; exact⟨rfl,rfl⟩
 have h:=run_storeVar_mid (P:=P) w b off ty cs.toArray hth (by rw[hi]; simp) (by rw[←h1]; simp);unfold execOp;simp only[hop,hx,hy,Instr.storeAt,Instr.sureAddr,aoV,Sem.run_pure,ap2,h]
theorem Bc{ms:List gX}:∀(os:List Oper) {e e':Env} {ks:List Key} {L:List Loc} {C:List RF} {T:List T3} {cs:List Value},exec P ms ops n os e ks cs=some (e',L,C,T)→T.length=os.length
 | [],e,e',ks,L,C,T,cs,hx=>by
  unfold exec at hx
  split at hx
  ·simp only[an8,aob]at hx
   obtain⟨-,-,-,rfl⟩:=hx; rfl
  ·cases hx
 | o::os,e,e',ks,L,C,T,cs,hx=>by
  unfold exec at hx
  split at hx
  ·cases hx
  ·split at hx
   ·split at hx
    ·rename_i h
     simp only[an8,aob]at hx
     obtain⟨-,-,-,rfl⟩:=hx
     rw[aop,Bc os h]; rfl
    ·cases hx
   ·split at hx
    ·split at hx
     ·rename_i h
      simp only[an8,aob]at hx
      obtain⟨-,-,-,rfl⟩:=hx
      rw[aop,Bc os h]; rfl
     ·cases hx
    ·cases hx
   ·split at hx
    ·split at hx
     ·rename_i h
      simp only[an8,aob]at hx
      obtain⟨-,-,-,rfl⟩:=hx
      rw[aop,Bc os h]; rfl
     ·cases hx
    ·cases hx
   ·cases hx
theorem UF{K:Act→Prop}{o:Oper}{T:Fact}:∀(os:List Oper) (Us:List Fact) (b:Act),Us.length=os.length→Rel.End (fun a'=>∀v,T v w→K (a'.put o.dst v)) w os Us b→Rel.End K w (os++[o]) (Us++[T]) b
 | [],[],b,_,h=>fun v hv=>by
  have:=h v hv
  exact this
 | o'::os,U::Us,b,hl,h=>fun v hv=>UF os Us _ (by simpa using hl) (h v hv)
theorem Gm{hd:List Oper}{Ts:List Fact}{R:Nat→World→World→Prop}{C:Nat→World→Prop}{zW:Operand→Value}:∀(os:List Oper) (Us:List Fact) (k:Nat),os.length≤Us.length→(∀(i:Nat) o,os[i]?=some o→Rel.tY P ops hd Ts (R (k+i)) (C (k+i)) zW o (Us.getD i top))→IG.pG P ops hd Ts R C zW k os Us
 | [],_,_,_,_=>trivial
 | o::os,[],_,hl,_=>by simp at hl
 | o::os,U::Us,k,hl,h=>⟨h 0 o rfl,Gm os Us (k+1) (by simpa using hl) fun i o' hi=>by
  have:=h (i+1) o' (by simpa using hi)
  rw[show k+(i+1)=k+1+i by omega]at this
  exact this⟩
theorem Gn{Ts:List Fact}{ρ:Operand→Value}:∀{es:List Edge},Rel.Gp ops Ts ρ w es→∀g∈es,Region.binds .any g=true→Ts.getD g.on top (Rel.valOf ρ ((ops[g.on]?).bind (·.dst))) w
 | x::es,h,g,hg,hb=>by
  rcases aon.1 hg with rfl | hg
  ·exact h.1 hb
  ·exact Gn h.2 g hg hb
theorem St.ajo{w':World}{b:Nat}(S:St w0 a w n l bl vs)(hc:Ch b w w')(hE:Ext w0 w')(h1:∀p∈bl,p.1≠b)(h2:∀m∈vs,m.1≠b):St w0 a w' n l bl vs:=
 ⟨S.s,hE,fun p hp=>⟨(S.own p hp).1.ch hc (h1 p hp),(S.own p hp).2⟩,S.apart,fun m hm=>⟨⟨aoC (S.mem m hm).1.1 hc.size,fun j v hj=>by
  rw[hc.cell (p:=⟨m.1,m.2.1+j,none⟩) (S.mem m hm).1.1 (h2 m hm)]
  exact(S.mem m hm).1.2 j v hj⟩,(S.mem m hm).2⟩⟩
def stD(P:Program)(os:List Oper)(m j:Nat)(l:List (Nat×Value)):Option (Nat×Nat×Nat):=
 match os[m]? with
 | some o=>(match o.guard,o.dst,o.op with
  | none,none,.store ty (.tmp s) (.tmp s')=>(match l.lookup s,P.info? ty,(os[j]?).bind (·.dst)with
   | some (.q b off),some i,some d =>
    (match d==s'&&decide (j<m)&&(os.take m).all (fun o => !(o.dst==some s))&&o.after.toList.any (fun g=>g.on==j&&Region.binds .any g)with
    | true=>some (b,off,i.size)
    | false=>none)
   | _,_,_=>none)
  | _,_,_=>none)
 | none=>none
def adz(P:Program)(ms:List gX)(os:List Oper)(n m:Nat)(l:List (Nat×Value))(ks:List Key)(j:Nat):Option (Bool×Value):=(exec P ms os.toArray n (os.take m) (lift l) ks []).bind fun r=>(r.2.2.2[j]?).map fun t=>(t.1,t.2.1)
theorem agY(S:St w0 a w n l bl vs){id:Nat}(m j:Nat)(ks:List Key)(new:List (Nat×Value))(k:Nat){b off:Nat}{A cs:List Value}(hk:bl[k]?=some (b,A))
  (next:∀a' w',Ch b w w'→St w0 a' w' n (new++l) (bl.set k (b,spl A off cs)) vs→wpList P os.toArray Q (os.drop (m+1)) a' w') (hkk:Cc P ks:=by exact trivial)
  (hx:runs P (mD (bl.eraseIdx k) vs) os.toArray n (os.take m) l ks [] new=wants (mD (bl.eraseIdx k) vs) ks [] new:=by kernel_rfl)
  (hv:adz P (mD (bl.eraseIdx k) vs) os n m l ks j=some (true,.agg cs.toArray):=by kernel_rfl)
  (hst:stD P os m j l=some (b,off,cs.length):=by kernel_rfl) (hf:decide (off+cs.length≤A.length)=true:=by kernel_rfl) (h1c:cs.all (·.oneCell')=true:=by kernel_rfl)
  (hs:wB (os.take m) l new=true:=by kernel_rfl)
  (hmo:P.follows .mixedOrders=true:=by kernel_rfl) (hB:okB os.toArray (m+1) n=true:=by kernel_rfl) (hD:uO os.toArray (os.take m)=true:=by kernel_rfl):(Code.region id os.toArray true).wp P Q a w:=by
 obtain⟨e',T,C,h1,hcl,h2⟩:=yB hx;have hC:C=[]:=by cases C<;>simp_all
 subst hC;have hf':off+cs.length≤A.length:=by simpa using hf
 have hlen:=Bc _ h1;have ok:=Rel.Oy hB;obtain⟨o,ho,hg,hd,ty,s,s',hop,hls,ajp,hds,hjm,hout,g,hga,hgj,hgb⟩:∃o,os[m]?=some o∧o.guard=none∧o.dst=none∧∃ty s s',o.op = .store ty (.tmp s) (.tmp s')∧l.lookup s=some (.q b off)∧(P.info? ty).map (·.size)=some cs.length ∧
   (os[j]?).bind (·.dst)=some s'∧j<m∧(os.take m).all (fun o => !(o.dst==some s))=true∧∃g∈o.after.toList,g.on=j∧Region.binds .any g=true:=by
  unfold stD at hst
  split at hst
  ·rename_i o ho
   split at hst
   ·rename_i ty s s' hg hd hop
    split at hst
    ·rename_i b' off' i d hl hi hd'
     split at hst
     ·rename_i hc
      simp only[an8,aob]at hst
      obtain⟨rfl,rfl,hsz⟩:=hst
      simp only[aoq,aoo,aov,aqa]at hc
      obtain⟨⟨⟨rfl,h3⟩,h4⟩,g,hg1,hg2,hg3⟩:=hc
      exact⟨o,ho,hg,hd,ty,s,d,hop,hl,by rw[hi]; simp[hsz],hd',h3,h4,g,hg1,hg2,hg3⟩
     ·cases hst
    ·cases hst
   ·cases hst
  ·cases hst
 have hml:m<os.length:=(List.getElem?_eq_some_iff.1 ho).1;have htk:os.take (m+1)=os.take m++[o]:=by
  rw[List.take_add_one,ho]; rfl
 obtain⟨kk,hTj⟩:∃kk,T[j]?=some (true,.agg cs.toArray,kk):=by
  unfold adz at hv;rw[h1]at hv;simp only[apX]at hv;cases hT:T[j]? with
  | none=>rw[hT]at hv; cases hv
  | some t=>rw[hT]at hv; obtain⟨x,y,z⟩:=t; simp only[aoO,an8,aob]at hv; exact⟨z,by rw[hv.1,hv.2]⟩
 have hmem:(b,A)∈bl:=List.mem_of_getElem? hk;have hbx:=(S.own _ hmem).1;have hbw:w0.heap.size≤b:=(S.own _ hmem).2;have hne:∀p∈bl.eraseIdx k,p.1≠b:=fun p hp=>by
  obtain⟨i,hik,hi⟩:=List.mem_eraseIdx_iff_getElem?.1 hp;exact S.ne hi hk hik
 have hnv:∀m∈vs,m.1≠b:=fun m hm e=>(S.mem m hm).2 _ hmem e.symm;have hops:∀(j:Nat) o,(os.take m)[j]?=some o→os.toArray[j]?=some o:=fun j o h=>by
  rw[List.getElem?_take]at h;split at h
  ·simpa using h
  cases h
 have aeK:∀w',Ch b w w'→Ext w0 w'→Rel.pG P os.toArray (os.take m) (T.map Bd) Ext (fun u=>Ext w' u) a.eval (os.take m) (T.map Bd):=fun w' hc hE =>
  Bf (P:=P) (ops:=os.toArray) (hd:=os.take m) (Ta:=T) (n:=n) (e0:=lift l) (zW:=a.eval) (w0:=w') hops hD (dU S.s) (fun s x hx=>by
   rw[jW]at hx
   cases hl:l.lookup s with
   | none=>simp[hl]at hx
   | some v=>simp only[hl,aoO,an8]at hx; rw[←hx]) ((S.drop k).ajo hc hE hne hnv).CW (os.take m) 0 rfl rfl (fun s x hx => .inr ⟨fun j o hj=>by omega,hx⟩) h1 rfl hkk trivial
 have hTl:(T.map Bd++[fun _ u=>Bx u b (spl A off cs).toArray]).length=(os.take (m+1)).length:=by
  rw[htk]; simp[hlen]
 refine IG.wp_region (m+1) hmo (by rw[S.s.size]; exact hB) (fun i u u'=>if i=m then Ext w0 u'∧Ch b u u'∧Bx u' b (spl A off cs).toArray else Ext u u') (fun u=>Ch b w u∧Ext w0 u) m (fun u=>Bx u b A.toArray) (T.map Bd++[fun _ u=>Bx u b (spl A off cs).toArray])
  ⟨Ch.jG (below_drewN (aor _ _) 1),Ext.trans' S.E (below_drewN (aor _ _) 1)⟩ (hbx.ext (below_drewN (aor _ _) 1)) ?_ ?_ ?_ ?_ ?_
 ·intro i u u' hu hR;split at hR
  ·exact⟨Ch.trans hu.1 hR.2.1,hR.1⟩
  exact⟨Ch.trans hu.1 (Ch.jG hR),Ext.trans' hu.2 hR⟩
 ·intro i u u' hi hu hR;rw[an0 hi]at hR;exact Bx.ext hu hR
 ·intro j' T' hT' i hij v u u' hR hv';rw[List.getElem?_append]at hT';split at hT'
  ·rw[List.getElem?_map]at hT';cases hT2:T[j']? with
   | none=>rw[hT2]at hT'; cases hT'
   | some t=>rw[hT2]at hT'; obtain rfl:=aof hT'; exact hv'
  rename_i hge;have hj0:j'-(T.map Bd).length=0:=by
   apply Classical.byContradiction;intro h;rw[List.getElem?_eq_none (by simp; simp at h hge; omega)]at hT';cases hT'
  rw[hj0]at hT';obtain rfl:=aof hT';have am2:j'=m:=by
   have:(os.take m).length=m:=by simp; omega
   simp at hj0 hge;omega
  rw[an0 (by omega)]at hR;exact Bx.ext hv' hR
 ·refine Gm _ _ 0 (by rw[hTl]; exact an7 _) fun i oi hi=>?_;rw[aoY];have him:i<m+1:=by
   have:=(List.getElem?_eq_some_iff.1 hi).1;simp at this; omega
  have hoi:os[i]?=some oi:=by
   rw[List.getElem?_take,an6 him]at hi;exact hi
  have adA:∀{ρ:Operand→Value} {u:World},i≤m→Rel.Gp os.toArray (T.map Bd++[fun _ u=>Bx u b (spl A off cs).toArray]) ρ u oi.after.toList→Rel.Gp os.toArray (T.map Bd) ρ u oi.after.toList:=fun him hd =>
   UG _ fun e he hb=>by
    have h3:=Gn hd e he hb
    have h4:e.on<i:=ok.back i oi (by omega) (by simpa using hoi) e (by simpa using he) hb
    have h5:e.on<(T.map Bd).length:=by simp[hlen]; omega
    simp only[List.getD_eq_getElem?_getD]at h3 ⊢
    rwa [List.getElem?_append_left h5]at h3
  by_cases hi':i=m
  ·subst hi';have heq:some oi=some o:=by rw[←hoi,←ho]
   obtain rfl:=aof heq;intro ρ u hρ hO hC hd';rw[hg];have hval:ρ (.tmp s') = .agg cs.toArray:=by
    have h3:=Gn (adA (an7 _) hd') g hga hgb;rw[hgj]at h3;have h4:(os.toArray[j]?).bind (·.dst)=some s':=by simpa using hds
    rw[h4]at h3;have e1:(T.map Bd).getD j top=Bd (true,.agg cs.toArray,kk):=by simp[List.getD,List.getElem?_map,hTj]
    rw[e1]at h3;exact h3
   have ajq:ρ (.tmp s) = .q b off:=by
    rw[hO s (by rw[htk,List.all_append,hout]; simp[hd])];exact S.s.has s _ hls
   have hrun:=WX (P:=P) hop ajq hval (hC.2 rfl) ajp hf' h1c;unfold Does;rw[hrun];refine⟨?_,?_⟩
   ·have h7:Ext w0 (u.setCells b off cs)∧Ch b u (u.setCells b off cs)∧Bx (u.setCells b off cs) b (spl A off cs).toArray:=⟨rC hC.1.2 hbw cs off,(Ch.refl b u).setCells cs off,KL (hC.2 rfl) off cs hf'⟩;simpa using h7
   have:(T.map Bd++[fun _ u=>Bx u b (spl A off cs).toArray]).getD i top=fun _ u=>Bx u b (spl A off cs).toArray:=by
    have h5:(T.map Bd).length=i:=by simp[hlen]; omega
    rw[List.getD_eq_getElem?_getD,List.getElem?_append_right (by omega),h5,apY]; rfl
   rw[this];exact KL (hC.2 rfl) off cs hf'
  have ajr:i<m:=by omega
  intro ρ u hρ hO hC hd';have hget:=(Rel.jZ _ _ (aeK u hC.1.1 hC.1.2)).2 i oi (by rw[List.getElem?_take,an6 ajr]; exact hoi);have hO':Rel.Out (os.take m) ρ a.eval:=fun t ht=>hO t (by rw[htk,List.all_append,ht]; simp[hd]);have h6:=hget ρ u hρ hO' Ext.rfl' (adA (by omega) hd');have hT6:(T.map Bd++[fun _ u=>Bx u b (spl A off cs).toArray]).getD i top=(T.map Bd).getD i top:=by
   rw[List.getD_eq_getElem?_getD,List.getElem?_append_left (by simp[hlen]; omega),List.getD_eq_getElem?_getD]
  rw[hT6];simp only[an0 hi'];exact h6
 intro w' hC;rw[htk];refine UF _ _ _ (by simp[hlen]) ?_;refine Gq _ h1 S.s.size (dU S.s) fun a' hsz hd' hh=>?_;intro v hv';rw[hd];have S2:=(S.ch hC.1 hk hv' hC.2).act (Bg h1 h2 hs hsz (by rw[hd',S.s.defers]) hh);exact next a' w' hC.1 S2
def UH(P:Program)(ops:Array Oper)(os:List Oper)(l:List (Nat×Value)):Option (FuncId×Array Value×Option Nat):=
 match os with
 | o::_=>(match pathOf ops (lift l) o,yX o.op || !o.op.operands.all (fun x=>(rd (lift l) [] x).isSome),jh (ev0 P (execOp (yL (lift l) []) o))with
  | some p,false,some (.enter f args)=>(match kM (lift l) p with | true=>some (f,args,o.dst) | false=>none)
  | _,_,_=>none)
 | []=>none
theorem zX(S:St w0 a w n l bl vs){f:FuncId}{args:Array Value}(d:Option Nat){R:Ending→World→Prop}(hc:Calls P f args w R)
  (next:∀e w',R e w'→∃v,e = .returned v∧Ext w w'∧∀a',St w0 a' w' n (Iy l d v) bl vs→wpList P ops Q (os.drop 1) a' w')
  (hx:UH P ops os l=some (f,args,d):=by kernel_rfl) (hd:Cb n d=true:=by rfl):wpList P ops Q os a w:=by
 cases os with
 | nil=>cases hx
 | cons o os =>
  unfold UH at hx;simp only at hx;split at hx
  ·rename_i p f' args' hp hav hev;split at hx
   ·rename_i hg;simp only[an8,aob]at hx;obtain⟨rfl,rfl,rfl⟩:=hx;simp only[aoP]at hav;have hrun:(execOp a.eval o).run P w = .ok (.enter f' args') w:=qM (Std.act a) (jP (dU S.s) o) (p:=[]) rfl hav.1 (by simpa using hav.2) hev;unfold wpList;rw[an6 ((DL (a:=a) hp (fun x _ i y _ hl=>dU S.s i y hl)).2 hg)];left;unfold Oper.wp;rw[hrun];simp only[Oper.upon];refine hc.mono fun e w' hR=>?_;obtain⟨v,rfl,hE,hn⟩:=next e w' hR;exact hn _ ((S.grow hE).act (wP S.s hd v))
   cases hx
  cases hx
end
end Go.Sx
end
