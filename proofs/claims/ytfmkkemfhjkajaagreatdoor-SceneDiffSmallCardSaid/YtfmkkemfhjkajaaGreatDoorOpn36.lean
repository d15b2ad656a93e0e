/- Arguments that came in: transforms and nodes; the variable that is laid. -/
import Derived.Test.YtfmkkemfhjkajaaGreatDoorRows
import Derived.Test.YtfmkkemfhjkajaaGreatDoorPk22
namespace Go.Proofs.YtfmkkemfhjkajaaGreatDoor
open Go.RowKit Go.ChangeShapes Go.WideShapes
variable{α:Type}
set_option linter.unusedVariables false
theorem mapM_get{β γ:Type}{f:β→Option γ}:∀{l:List β} {cs:List γ},l.mapM f=some cs→cs.length=l.length∧∀(j:Nat) (x:β),l[j]?=some x→f x=cs[j]?
 | [],cs,h=>by
  simp at h; subst h; exact⟨rfl,fun j x h=>by simp at h⟩
 | a::l,cs,h=>by
  simp only[List.mapM_cons,Option.bind_eq_bind,Option.bind_eq_some_iff,Option.pure_def,Option.some.injEq]at h
  obtain⟨y,hy,ys,hys,rfl⟩:=h
  obtain⟨h1,h2⟩:=mapM_get hys
  refine⟨by simp[h1],fun j x hj=>?_⟩
  cases j with
  | zero=>simp only[List.getElem?_cons_zero,Option.some.injEq]at hj; subst hj; simpa using hy
  | succ j=>simpa using h2 j x (by simpa using hj)
theorem cells_k{w:World}{a:Addr}{k:Nat}{cs:List Value}(h:w.cells? 0 a k=some cs):cs.length=k∧∀j,j<k→w.cell? (a.add j)=cs[j]?:=by
 simp only[World.cells?,Nat.zero_le,if_true]at h
 obtain⟨h1,h2⟩:=mapM_get h
 exact⟨by simpa using h1,fun j hj=>h2 j j (by simp[hj])⟩
theorem get_some'{β:Type}{xs:List β}{n i:Nat}(h:xs.length=n)(hi:i<n):∃y,xs[i]?=some y:=⟨xs[i]'(by omega),List.getElem?_eq_getElem (by omega)⟩
theorem cut_step{β:Type}(cs:List β)(o a o' b L:Nat)(h1:a+b=L)(h2:o+a=o'):(cs.drop o).take L=(cs.drop o).take a++(cs.drop o').take b:=by
 subst h1 h2
 rw[List.take_add,List.drop_drop]
theorem rowOf_rowN{f:α→Value}{w:World}{v:Value}{l:List α}(h:IsRowN 1 (fun x=>[f x]) w v l):IsRowOf f w v l:=by
 obtain⟨a,cap,hv,hm,h⟩:=h
 refine⟨a,cap,hv,hm,?_⟩
 rcases h with h | ⟨b,o,ha,hlt,hl,hc⟩
 ·exact .inl h
 ·exact .inr ⟨b,o,ha,hlt,hl,fun i hi=>by simpa using hc i hi 0 (by omega)⟩
section
variable{H:Type}{enc:TypeId×Value→H}{P:Program}{W:World}{sp:Nat→Bool}{held:Bool}{n:Nat}{cs:List Value}{y:DataW H×List MemPlace}
theorem opn_k{e:TypeId}{k:IntKind}(he:P.underlying e=some (.int k))(h:DataW.trod enc P W 0 sp held n e cs=some y):∃x,cs=[.int k x]∧(Lit.int k x).wf=true:=by
 cases n with
 | zero=>simp[DataW.trod]at h
 | succ n =>
  simp only[DataW.trod,he]at h
  split at h<;>simp_all
theorem opn_i64{e:TypeId}(he:P.underlying e=some (.int .i64))(h:DataW.trod enc P W 0 sp held n e cs=some y):∃x,cs=[.int .i64 x]∧I64 x:=by
 obtain⟨x,h1,h2⟩:=opn_k he h
 exact⟨x,h1,bounds_i64 h2⟩
theorem opn_u8{e:TypeId}(he:P.underlying e=some (.int .u8))(h:DataW.trod enc P W 0 sp held n e cs=some y):∃x:UInt8,cs=[u8v x]:=by
 obtain⟨x,h1,h2⟩:=opn_k he h
 obtain⟨c,hc⟩:=int_u8 h2
 exact⟨c,by rw[h1,hc]⟩
theorem opn_bool{e:TypeId}(he:P.underlying e=some .bool)(h:DataW.trod enc P W 0 sp held n e cs=some y):∃b,cs=[.bool b]:=by
 cases n with
 | zero=>simp[DataW.trod]at h
 | succ n =>
  simp only[DataW.trod,he]at h
  split at h<;>simp_all
theorem opn_sl{t e:TypeId}(ht:P.underlying t=some (.slice e))(h:DataW.trod enc P W 0 sp held n t cs=some y):∃a len cap,cs=[.slice a len cap]:=by
 cases n with
 | zero=>simp[DataW.trod]at h
 | succ n =>
  simp only[DataW.trod,ht]at h
  split at h<;>simp_all
theorem opn_row{t e:TypeId}{k:Nat}(ht:P.underlying t=some (.slice e))(hk0:0<k)(hn:P.cellsOf e=k)(f:α→List Value)(ok:α→Prop)
  (hR:∀n cs y,DataW.trod enc P W 0 sp held n e cs=some y→∃m,cs=f m∧ok m) (h:DataW.trod enc P W 0 sp held n t cs=some y):∃a cap l,cs=[.slice a (List.length l) cap]∧IsRowN k f W (.slice a l.length cap) l∧∀x∈l,ok x:=by
 obtain⟨a,len,cap,rfl⟩:=opn_sl ht h
 rcases trod_slice (d:=y.1) (ps:=y.2) ht h with ⟨rfl,rfl,rfl,_⟩ | ⟨ad,_,_,rfl,hl,hm,_,_,fuel',hel⟩
 ·exact⟨none,0,[],rfl,rowN_nil _ _ _,fun x hx=>by cases hx⟩
 ·rw[hn]at hel
  obtain⟨l,hlen,hq⟩:=exists_list (Q:=fun i m=>ok m∧∀j,j<k→W.cell? ((ad.add (i*k)).add j)=(f m)[j]?∧(f m).length=k) len fun i hi=>by
   obtain⟨cs,d',p',hcs,ht'⟩:=hel i hi
   obtain⟨h1,h2⟩:=cells_k hcs
   obtain⟨m,rfl,hm⟩:=hR _ _ _ ht'
   exact⟨m,hm,fun j hj=>⟨h2 j hj,h1⟩⟩
  refine⟨some ad,cap,l,by rw[hlen],⟨some ad,cap,rfl,hm,?_⟩,fun x hx=>?_⟩
  ·rcases Nat.eq_zero_or_pos l.length with h0 | h0
   ·left; exact⟨List.eq_nil_of_length_eq_zero h0,by simp⟩
   ·right
    obtain⟨hc,hfl⟩:=(hq 0 h0).2 0 hk0
    rw[List.getElem?_eq_getElem (by omega)]at hc
    have hz:(ad.add (0*k)).add 0=ad:=by simp[Addr.add]
    rw[hz]at hc
    have hs:=cell_spot hc
    refine⟨ad.block,ad.off,?_,cell_lt hc,by omega,fun i hi j hj=>?_⟩
    ·obtain⟨b,o,s⟩:=ad; simp at hs; subst hs; rfl
    ·have:=((hq i hi).2 j hj).1
     rw[add_at hs,add_at rfl]at this
     exact this
  ·obtain⟨i,hi,rfl⟩:=List.getElem_of_mem hx
   exact(hq i hi).1
end
section
variable{H:Type}{enc:TypeId×Value→H}{W:World}{sp:Nat→Bool}{held:Bool}{n:Nat}{cs:List Value}{y:DataW H×List MemPlace}
set_option maxRecDepth 100000
theorem opn_u32(h:DataW.trod enc Tryz.prog W 0 sp held n 194 cs=some y):∃x:UInt32,cs=[u32v x]:=by
 obtain⟨x,h1,h2⟩:=opn_k Tryz.underlying194 h
 obtain⟨c,hc⟩:=int_u32 h2
 exact⟨c,by rw[h1,hc]⟩
theorem opn_int(h:DataW.trod enc Tryz.prog W 0 sp held n 29 cs=some y):∃b a k l,cs=[.bool b,.slice a (List.length l) k]∧IsU32s W (.slice a l.length k) l:=by
 obtain⟨xs,n',rfl,hx,hl,hlen,hg⟩:=DataW.trod_struct Tryz.underlying29 h
 have hl:cs.length=2:=hl.trans (by kernel_rfl)
 have g0:DataW.trod enc Tryz.prog W 0 sp held n' 4 ((cs.drop 0).take (Tryz.prog.cellsOf 4))=xs[0]?:=hg 0 _ rfl
 obtain⟨y0,e0⟩:=get_some' (i:=0) hlen (by decide)
 rw[e0]at g0
 rw[show Tryz.prog.cellsOf 4=1 by kernel_rfl]at g0
 obtain⟨x0,c0⟩:=opn_bool Tryz.underlying4 g0
 have g1:DataW.trod enc Tryz.prog W 0 sp held n' 27 ((cs.drop 1).take (Tryz.prog.cellsOf 27))=xs[1]?:=hg 1 _ rfl
 obtain⟨y1,e1⟩:=get_some' (i:=1) hlen (by decide)
 rw[e1]at g1
 rw[show Tryz.prog.cellsOf 27=1 by kernel_rfl]at g1
 obtain⟨a1,k1,l1,c1,r1,w1⟩:=opn_row (k:=1) Tryz.underlying27 (by decide) (by kernel_rfl) (fun x:UInt32=>[u32v x]) (fun _=>True) (fun n cs y h=>(opn_u32 h).imp fun _ h=>⟨h,trivial⟩) g1
 have hc:=(show cs=(cs.drop 0).take 2 by rw[List.drop_zero,List.take_of_length_le (by omega)]).trans (cut_step cs 0 1 1 1 2 rfl rfl)
 rw[c0,c1]at hc
 exact⟨x0,a1,k1,l1,hc,rowOf_rowN r1⟩
theorem opn_rat(h:DataW.trod enc Tryz.prog W 0 sp held n 31 cs=some y):∃m:RatD,cs=m.cells∧m.ok W:=by
 obtain⟨xs,n',rfl,hx,hl,hlen,hg⟩:=DataW.trod_struct Tryz.underlying31 h
 have hl:cs.length=4:=hl.trans (by kernel_rfl)
 have g0:DataW.trod enc Tryz.prog W 0 sp held n' 29 ((cs.drop 0).take (Tryz.prog.cellsOf 29))=xs[0]?:=hg 0 _ rfl
 obtain⟨y0,e0⟩:=get_some' (i:=0) hlen (by decide)
 rw[e0]at g0
 rw[show Tryz.prog.cellsOf 29=2 by kernel_rfl]at g0
 obtain⟨b0,a0,k0,l0,c0,w0⟩:=opn_int g0
 have g1:DataW.trod enc Tryz.prog W 0 sp held n' 29 ((cs.drop 2).take (Tryz.prog.cellsOf 29))=xs[1]?:=hg 1 _ rfl
 obtain⟨y1,e1⟩:=get_some' (i:=1) hlen (by decide)
 rw[e1]at g1
 rw[show Tryz.prog.cellsOf 29=2 by kernel_rfl]at g1
 obtain⟨b1,a1,k1,l1,c1,w1⟩:=opn_int g1
 have hc:=(show cs=(cs.drop 0).take 4 by rw[List.drop_zero,List.take_of_length_le (by omega)]).trans (cut_step cs 0 2 2 2 4 rfl rfl)
 rw[c0,c1]at hc
 exact⟨⟨b0,a0,k0,l0,b1,a1,k1,l1⟩,hc.trans (by kernel_rfl),w0,w1⟩
theorem opn_aff(h:DataW.trod enc Tryz.prog W 0 sp held n 33 cs=some y):∃m:AffD,cs=m.cells∧m.ok W:=by
 obtain⟨xs,n',rfl,hx,hl,hlen,hg⟩:=DataW.trod_struct Tryz.underlying33 h
 have hl:cs.length=24:=hl.trans (by kernel_rfl)
 have g0:DataW.trod enc Tryz.prog W 0 sp held n' 31 ((cs.drop 0).take (Tryz.prog.cellsOf 31))=xs[0]?:=hg 0 _ rfl
 obtain⟨y0,e0⟩:=get_some' (i:=0) hlen (by decide)
 rw[e0]at g0
 rw[show Tryz.prog.cellsOf 31=4 by kernel_rfl]at g0
 obtain⟨m0,c0,w0⟩:=opn_rat g0
 have g1:DataW.trod enc Tryz.prog W 0 sp held n' 31 ((cs.drop 4).take (Tryz.prog.cellsOf 31))=xs[1]?:=hg 1 _ rfl
 obtain⟨y1,e1⟩:=get_some' (i:=1) hlen (by decide)
 rw[e1]at g1
 rw[show Tryz.prog.cellsOf 31=4 by kernel_rfl]at g1
 obtain⟨m1,c1,w1⟩:=opn_rat g1
 have g2:DataW.trod enc Tryz.prog W 0 sp held n' 31 ((cs.drop 8).take (Tryz.prog.cellsOf 31))=xs[2]?:=hg 2 _ rfl
 obtain⟨y2,e2⟩:=get_some' (i:=2) hlen (by decide)
 rw[e2]at g2
 rw[show Tryz.prog.cellsOf 31=4 by kernel_rfl]at g2
 obtain⟨m2,c2,w2⟩:=opn_rat g2
 have g3:DataW.trod enc Tryz.prog W 0 sp held n' 31 ((cs.drop 12).take (Tryz.prog.cellsOf 31))=xs[3]?:=hg 3 _ rfl
 obtain⟨y3,e3⟩:=get_some' (i:=3) hlen (by decide)
 rw[e3]at g3
 rw[show Tryz.prog.cellsOf 31=4 by kernel_rfl]at g3
 obtain⟨m3,c3,w3⟩:=opn_rat g3
 have g4:DataW.trod enc Tryz.prog W 0 sp held n' 31 ((cs.drop 16).take (Tryz.prog.cellsOf 31))=xs[4]?:=hg 4 _ rfl
 obtain⟨y4,e4⟩:=get_some' (i:=4) hlen (by decide)
 rw[e4]at g4
 rw[show Tryz.prog.cellsOf 31=4 by kernel_rfl]at g4
 obtain⟨m4,c4,w4⟩:=opn_rat g4
 have g5:DataW.trod enc Tryz.prog W 0 sp held n' 31 ((cs.drop 20).take (Tryz.prog.cellsOf 31))=xs[5]?:=hg 5 _ rfl
 obtain⟨y5,e5⟩:=get_some' (i:=5) hlen (by decide)
 rw[e5]at g5
 rw[show Tryz.prog.cellsOf 31=4 by kernel_rfl]at g5
 obtain⟨m5,c5,w5⟩:=opn_rat g5
 have hc:=(show cs=(cs.drop 0).take 24 by rw[List.drop_zero,List.take_of_length_le (by omega)]).trans ((cut_step cs 0 4 4 20 24 rfl rfl).trans (congrArg _ ((cut_step cs 4 4 8 16 20 rfl rfl).trans (congrArg _ ((cut_step cs 8 4 12 12 16 rfl rfl).trans (congrArg _ ((cut_step cs 12 4 16 8 12 rfl rfl).trans (congrArg _ (cut_step cs 16 4 20 4 8 rfl rfl)))))))))
 rw[c0,c1,c2,c3,c4,c5]at hc
 exact⟨⟨m0,m1,m2,m3,m4,m5⟩,hc.trans (by kernel_rfl),w0,w1,w2,w3,w4,w5⟩
theorem opn_pt(h:DataW.trod enc Tryz.prog W 0 sp held n 60 cs=some y):∃m:PtD,cs=[.int .i64 m.x,.int .i64 m.y]∧m.ok:=by
 obtain⟨xs,n',rfl,hx,hl,hlen,hg⟩:=DataW.trod_struct Tryz.underlying60 h
 have hl:cs.length=2:=hl.trans (by kernel_rfl)
 have g0:DataW.trod enc Tryz.prog W 0 sp held n' 3 ((cs.drop 0).take (Tryz.prog.cellsOf 3))=xs[0]?:=hg 0 _ rfl
 obtain⟨y0,e0⟩:=get_some' (i:=0) hlen (by decide)
 rw[e0]at g0
 rw[show Tryz.prog.cellsOf 3=1 by kernel_rfl]at g0
 obtain⟨x0,c0,w0⟩:=opn_i64 Tryz.underlying3 g0
 have g1:DataW.trod enc Tryz.prog W 0 sp held n' 3 ((cs.drop 1).take (Tryz.prog.cellsOf 3))=xs[1]?:=hg 1 _ rfl
 obtain⟨y1,e1⟩:=get_some' (i:=1) hlen (by decide)
 rw[e1]at g1
 rw[show Tryz.prog.cellsOf 3=1 by kernel_rfl]at g1
 obtain⟨x1,c1,w1⟩:=opn_i64 Tryz.underlying3 g1
 have hc:=(show cs=(cs.drop 0).take 2 by rw[List.drop_zero,List.take_of_length_le (by omega)]).trans (cut_step cs 0 1 1 1 2 rfl rfl)
 rw[c0,c1]at hc
 exact⟨⟨x0,x1⟩,hc,w0,w1⟩
theorem opn_color(h:DataW.trod enc Tryz.prog W 0 sp held n 23 cs=some y):∃m:PixD,cs=m.cells:=by
 obtain⟨xs,n',rfl,hx,hl,hlen,hg⟩:=DataW.trod_struct Tryz.underlying23 h
 have hl:cs.length=4:=hl.trans (by kernel_rfl)
 have g0:DataW.trod enc Tryz.prog W 0 sp held n' 5 ((cs.drop 0).take (Tryz.prog.cellsOf 5))=xs[0]?:=hg 0 _ rfl
 obtain⟨y0,e0⟩:=get_some' (i:=0) hlen (by decide)
 rw[e0]at g0
 rw[show Tryz.prog.cellsOf 5=1 by kernel_rfl]at g0
 obtain⟨x0,c0⟩:=opn_u8 Tryz.underlying5 g0
 have g1:DataW.trod enc Tryz.prog W 0 sp held n' 5 ((cs.drop 1).take (Tryz.prog.cellsOf 5))=xs[1]?:=hg 1 _ rfl
 obtain⟨y1,e1⟩:=get_some' (i:=1) hlen (by decide)
 rw[e1]at g1
 rw[show Tryz.prog.cellsOf 5=1 by kernel_rfl]at g1
 obtain⟨x1,c1⟩:=opn_u8 Tryz.underlying5 g1
 have g2:DataW.trod enc Tryz.prog W 0 sp held n' 5 ((cs.drop 2).take (Tryz.prog.cellsOf 5))=xs[2]?:=hg 2 _ rfl
 obtain⟨y2,e2⟩:=get_some' (i:=2) hlen (by decide)
 rw[e2]at g2
 rw[show Tryz.prog.cellsOf 5=1 by kernel_rfl]at g2
 obtain⟨x2,c2⟩:=opn_u8 Tryz.underlying5 g2
 have g3:DataW.trod enc Tryz.prog W 0 sp held n' 5 ((cs.drop 3).take (Tryz.prog.cellsOf 5))=xs[3]?:=hg 3 _ rfl
 obtain⟨y3,e3⟩:=get_some' (i:=3) hlen (by decide)
 rw[e3]at g3
 rw[show Tryz.prog.cellsOf 5=1 by kernel_rfl]at g3
 obtain⟨x3,c3⟩:=opn_u8 Tryz.underlying5 g3
 have hc:=(show cs=(cs.drop 0).take 4 by rw[List.drop_zero,List.take_of_length_le (by omega)]).trans ((cut_step cs 0 1 1 3 4 rfl rfl).trans (congrArg _ ((cut_step cs 1 1 2 2 3 rfl rfl).trans (congrArg _ (cut_step cs 2 1 3 1 2 rfl rfl)))))
 rw[c0,c1,c2,c3]at hc
 exact⟨⟨x0,x1,x2,x3⟩,hc⟩
theorem opn_pixel(h:DataW.trod enc Tryz.prog W 0 sp held n 122 cs=some y):∃m:PixD,cs=m.cells:=by
 obtain⟨xs,n',rfl,hx,hl,hlen,hg⟩:=DataW.trod_struct Tryz.underlying122 h
 have hl:cs.length=4:=hl.trans (by kernel_rfl)
 have g0:DataW.trod enc Tryz.prog W 0 sp held n' 5 ((cs.drop 0).take (Tryz.prog.cellsOf 5))=xs[0]?:=hg 0 _ rfl
 obtain⟨y0,e0⟩:=get_some' (i:=0) hlen (by decide)
 rw[e0]at g0
 rw[show Tryz.prog.cellsOf 5=1 by kernel_rfl]at g0
 obtain⟨x0,c0⟩:=opn_u8 Tryz.underlying5 g0
 have g1:DataW.trod enc Tryz.prog W 0 sp held n' 5 ((cs.drop 1).take (Tryz.prog.cellsOf 5))=xs[1]?:=hg 1 _ rfl
 obtain⟨y1,e1⟩:=get_some' (i:=1) hlen (by decide)
 rw[e1]at g1
 rw[show Tryz.prog.cellsOf 5=1 by kernel_rfl]at g1
 obtain⟨x1,c1⟩:=opn_u8 Tryz.underlying5 g1
 have g2:DataW.trod enc Tryz.prog W 0 sp held n' 5 ((cs.drop 2).take (Tryz.prog.cellsOf 5))=xs[2]?:=hg 2 _ rfl
 obtain⟨y2,e2⟩:=get_some' (i:=2) hlen (by decide)
 rw[e2]at g2
 rw[show Tryz.prog.cellsOf 5=1 by kernel_rfl]at g2
 obtain⟨x2,c2⟩:=opn_u8 Tryz.underlying5 g2
 have g3:DataW.trod enc Tryz.prog W 0 sp held n' 5 ((cs.drop 3).take (Tryz.prog.cellsOf 5))=xs[3]?:=hg 3 _ rfl
 obtain⟨y3,e3⟩:=get_some' (i:=3) hlen (by decide)
 rw[e3]at g3
 rw[show Tryz.prog.cellsOf 5=1 by kernel_rfl]at g3
 obtain⟨x3,c3⟩:=opn_u8 Tryz.underlying5 g3
 have hc:=(show cs=(cs.drop 0).take 4 by rw[List.drop_zero,List.take_of_length_le (by omega)]).trans ((cut_step cs 0 1 1 3 4 rfl rfl).trans (congrArg _ ((cut_step cs 1 1 2 2 3 rfl rfl).trans (congrArg _ (cut_step cs 2 1 3 1 2 rfl rfl)))))
 rw[c0,c1,c2,c3]at hc
 exact⟨⟨x0,x1,x2,x3⟩,hc⟩
theorem opn_stop(h:DataW.trod enc Tryz.prog W 0 sp held n 155 cs=some y):∃m:StopD,cs=m.cells∧m.ok:=by
 obtain⟨xs,n',rfl,hx,hl,hlen,hg⟩:=DataW.trod_struct Tryz.underlying155 h
 have hl:cs.length=5:=hl.trans (by kernel_rfl)
 have g0:DataW.trod enc Tryz.prog W 0 sp held n' 3 ((cs.drop 0).take (Tryz.prog.cellsOf 3))=xs[0]?:=hg 0 _ rfl
 obtain⟨y0,e0⟩:=get_some' (i:=0) hlen (by decide)
 rw[e0]at g0
 rw[show Tryz.prog.cellsOf 3=1 by kernel_rfl]at g0
 obtain⟨x0,c0,w0⟩:=opn_i64 Tryz.underlying3 g0
 have g1:DataW.trod enc Tryz.prog W 0 sp held n' 23 ((cs.drop 1).take (Tryz.prog.cellsOf 23))=xs[1]?:=hg 1 _ rfl
 obtain⟨y1,e1⟩:=get_some' (i:=1) hlen (by decide)
 rw[e1]at g1
 rw[show Tryz.prog.cellsOf 23=4 by kernel_rfl]at g1
 obtain⟨m1,c1⟩:=opn_color g1
 have hc:=(show cs=(cs.drop 0).take 5 by rw[List.drop_zero,List.take_of_length_le (by omega)]).trans (cut_step cs 0 1 1 4 5 rfl rfl)
 rw[c0,c1]at hc
 exact⟨⟨x0,m1⟩,hc.trans (by kernel_rfl),w0⟩
theorem opn_seg(h:DataW.trod enc Tryz.prog W 0 sp held n 62 cs=some y):∃m:SegD,cs=m.cells∧m.ok:=by
 obtain⟨xs,n',rfl,hx,hl,hlen,hg⟩:=DataW.trod_struct Tryz.underlying62 h
 have hl:cs.length=7:=hl.trans (by kernel_rfl)
 have g0:DataW.trod enc Tryz.prog W 0 sp held n' 3 ((cs.drop 0).take (Tryz.prog.cellsOf 3))=xs[0]?:=hg 0 _ rfl
 obtain⟨y0,e0⟩:=get_some' (i:=0) hlen (by decide)
 rw[e0]at g0
 rw[show Tryz.prog.cellsOf 3=1 by kernel_rfl]at g0
 obtain⟨x0,c0,w0⟩:=opn_i64 Tryz.underlying3 g0
 have g1:DataW.trod enc Tryz.prog W 0 sp held n' 60 ((cs.drop 1).take (Tryz.prog.cellsOf 60))=xs[1]?:=hg 1 _ rfl
 obtain⟨y1,e1⟩:=get_some' (i:=1) hlen (by decide)
 rw[e1]at g1
 rw[show Tryz.prog.cellsOf 60=2 by kernel_rfl]at g1
 obtain⟨m1,c1,w1⟩:=opn_pt g1
 have g2:DataW.trod enc Tryz.prog W 0 sp held n' 60 ((cs.drop 3).take (Tryz.prog.cellsOf 60))=xs[2]?:=hg 2 _ rfl
 obtain⟨y2,e2⟩:=get_some' (i:=2) hlen (by decide)
 rw[e2]at g2
 rw[show Tryz.prog.cellsOf 60=2 by kernel_rfl]at g2
 obtain⟨m2,c2,w2⟩:=opn_pt g2
 have g3:DataW.trod enc Tryz.prog W 0 sp held n' 60 ((cs.drop 5).take (Tryz.prog.cellsOf 60))=xs[3]?:=hg 3 _ rfl
 obtain⟨y3,e3⟩:=get_some' (i:=3) hlen (by decide)
 rw[e3]at g3
 rw[show Tryz.prog.cellsOf 60=2 by kernel_rfl]at g3
 obtain⟨m3,c3,w3⟩:=opn_pt g3
 have hc:=(show cs=(cs.drop 0).take 7 by rw[List.drop_zero,List.take_of_length_le (by omega)]).trans ((cut_step cs 0 1 1 6 7 rfl rfl).trans (congrArg _ ((cut_step cs 1 2 3 4 6 rfl rfl).trans (congrArg _ (cut_step cs 3 2 5 2 4 rfl rfl)))))
 rw[c0,c1,c2,c3]at hc
 exact⟨⟨x0,m1,m2,m3⟩,hc.trans (by kernel_rfl),w0,w1,w2,w3⟩
theorem opn_img(h:DataW.trod enc Tryz.prog W 0 sp held n 41 cs=some y):∃m:ImgD,cs=m.cells∧m.ok W:=by
 obtain⟨xs,n',rfl,hx,hl,hlen,hg⟩:=DataW.trod_struct Tryz.underlying41 h
 have hl:cs.length=3:=hl.trans (by kernel_rfl)
 have g0:DataW.trod enc Tryz.prog W 0 sp held n' 3 ((cs.drop 0).take (Tryz.prog.cellsOf 3))=xs[0]?:=hg 0 _ rfl
 obtain⟨y0,e0⟩:=get_some' (i:=0) hlen (by decide)
 rw[e0]at g0
 rw[show Tryz.prog.cellsOf 3=1 by kernel_rfl]at g0
 obtain⟨x0,c0,w0⟩:=opn_i64 Tryz.underlying3 g0
 have g1:DataW.trod enc Tryz.prog W 0 sp held n' 3 ((cs.drop 1).take (Tryz.prog.cellsOf 3))=xs[1]?:=hg 1 _ rfl
 obtain⟨y1,e1⟩:=get_some' (i:=1) hlen (by decide)
 rw[e1]at g1
 rw[show Tryz.prog.cellsOf 3=1 by kernel_rfl]at g1
 obtain⟨x1,c1,w1⟩:=opn_i64 Tryz.underlying3 g1
 have g2:DataW.trod enc Tryz.prog W 0 sp held n' 39 ((cs.drop 2).take (Tryz.prog.cellsOf 39))=xs[2]?:=hg 2 _ rfl
 obtain⟨y2,e2⟩:=get_some' (i:=2) hlen (by decide)
 rw[e2]at g2
 rw[show Tryz.prog.cellsOf 39=1 by kernel_rfl]at g2
 obtain⟨a2,k2,l2,c2,r2,w2⟩:=opn_row (k:=4) Tryz.underlying39 (by decide) (by kernel_rfl) PixD.cells (fun _=>True) (fun n cs y h=>(opn_pixel h).imp fun _ h=>⟨h,trivial⟩) g2
 have hc:=(show cs=(cs.drop 0).take 3 by rw[List.drop_zero,List.take_of_length_le (by omega)]).trans ((cut_step cs 0 1 1 2 3 rfl rfl).trans (congrArg _ (cut_step cs 1 1 2 1 2 rfl rfl)))
 rw[c0,c1,c2]at hc
 exact⟨⟨x0,x1,a2,k2,l2⟩,hc.trans (by kernel_rfl),w0,w1,r2⟩
theorem opn_style(h:DataW.trod enc Tryz.prog W 0 sp held n 38 cs=some y):∃m:StyleD,cs=m.cells∧m.ok W:=by
 obtain⟨xs,n',rfl,hx,hl,hlen,hg⟩:=DataW.trod_struct Tryz.underlying38 h
 have hl:cs.length=6:=hl.trans (by kernel_rfl)
 have g0:DataW.trod enc Tryz.prog W 0 sp held n' 3 ((cs.drop 0).take (Tryz.prog.cellsOf 3))=xs[0]?:=hg 0 _ rfl
 obtain⟨y0,e0⟩:=get_some' (i:=0) hlen (by decide)
 rw[e0]at g0
 rw[show Tryz.prog.cellsOf 3=1 by kernel_rfl]at g0
 obtain⟨x0,c0,w0⟩:=opn_i64 Tryz.underlying3 g0
 have g1:DataW.trod enc Tryz.prog W 0 sp held n' 3 ((cs.drop 1).take (Tryz.prog.cellsOf 3))=xs[1]?:=hg 1 _ rfl
 obtain⟨y1,e1⟩:=get_some' (i:=1) hlen (by decide)
 rw[e1]at g1
 rw[show Tryz.prog.cellsOf 3=1 by kernel_rfl]at g1
 obtain⟨x1,c1,w1⟩:=opn_i64 Tryz.underlying3 g1
 have g2:DataW.trod enc Tryz.prog W 0 sp held n' 3 ((cs.drop 2).take (Tryz.prog.cellsOf 3))=xs[2]?:=hg 2 _ rfl
 obtain⟨y2,e2⟩:=get_some' (i:=2) hlen (by decide)
 rw[e2]at g2
 rw[show Tryz.prog.cellsOf 3=1 by kernel_rfl]at g2
 obtain⟨x2,c2,w2⟩:=opn_i64 Tryz.underlying3 g2
 have g3:DataW.trod enc Tryz.prog W 0 sp held n' 3 ((cs.drop 3).take (Tryz.prog.cellsOf 3))=xs[3]?:=hg 3 _ rfl
 obtain⟨y3,e3⟩:=get_some' (i:=3) hlen (by decide)
 rw[e3]at g3
 rw[show Tryz.prog.cellsOf 3=1 by kernel_rfl]at g3
 obtain⟨x3,c3,w3⟩:=opn_i64 Tryz.underlying3 g3
 have g4:DataW.trod enc Tryz.prog W 0 sp held n' 36 ((cs.drop 4).take (Tryz.prog.cellsOf 36))=xs[4]?:=hg 4 _ rfl
 obtain⟨y4,e4⟩:=get_some' (i:=4) hlen (by decide)
 rw[e4]at g4
 rw[show Tryz.prog.cellsOf 36=1 by kernel_rfl]at g4
 obtain⟨a4,k4,l4,c4,r4,w4⟩:=opn_row (k:=1) Tryz.underlying36 (by decide) (by kernel_rfl) (fun x:Int=>[i64v x]) I64 (fun n cs y h=>opn_i64 Tryz.underlying3 h) g4
 have g5:DataW.trod enc Tryz.prog W 0 sp held n' 3 ((cs.drop 5).take (Tryz.prog.cellsOf 3))=xs[5]?:=hg 5 _ rfl
 obtain⟨y5,e5⟩:=get_some' (i:=5) hlen (by decide)
 rw[e5]at g5
 rw[show Tryz.prog.cellsOf 3=1 by kernel_rfl]at g5
 obtain⟨x5,c5,w5⟩:=opn_i64 Tryz.underlying3 g5
 have hc:=(show cs=(cs.drop 0).take 6 by rw[List.drop_zero,List.take_of_length_le (by omega)]).trans ((cut_step cs 0 1 1 5 6 rfl rfl).trans (congrArg _ ((cut_step cs 1 1 2 4 5 rfl rfl).trans (congrArg _ ((cut_step cs 2 1 3 3 4 rfl rfl).trans (congrArg _ ((cut_step cs 3 1 4 2 3 rfl rfl).trans (congrArg _ (cut_step cs 4 1 5 1 2 rfl rfl)))))))))
 rw[c0,c1,c2,c3,c4,c5]at hc
 exact⟨⟨x0,x1,x2,x3,a4,k4,l4,x5⟩,hc.trans (by kernel_rfl),w0,w1,w2,w3,rowOf_rowN r4,w4,w5⟩
theorem opn_paint(h:DataW.trod enc Tryz.prog W 0 sp held n 99 cs=some y):∃m:PaintD,cs=m.cells∧m.ok W:=by
 obtain⟨xs,n',rfl,hx,hl,hlen,hg⟩:=DataW.trod_struct Tryz.underlying99 h
 have hl:cs.length=40:=hl.trans (by kernel_rfl)
 have g0:DataW.trod enc Tryz.prog W 0 sp held n' 3 ((cs.drop 0).take (Tryz.prog.cellsOf 3))=xs[0]?:=hg 0 _ rfl
 obtain⟨y0,e0⟩:=get_some' (i:=0) hlen (by decide)
 rw[e0]at g0
 rw[show Tryz.prog.cellsOf 3=1 by kernel_rfl]at g0
 obtain⟨x0,c0,w0⟩:=opn_i64 Tryz.underlying3 g0
 have g1:DataW.trod enc Tryz.prog W 0 sp held n' 23 ((cs.drop 1).take (Tryz.prog.cellsOf 23))=xs[1]?:=hg 1 _ rfl
 obtain⟨y1,e1⟩:=get_some' (i:=1) hlen (by decide)
 rw[e1]at g1
 rw[show Tryz.prog.cellsOf 23=4 by kernel_rfl]at g1
 obtain⟨m1,c1⟩:=opn_color g1
 have g2:DataW.trod enc Tryz.prog W 0 sp held n' 60 ((cs.drop 5).take (Tryz.prog.cellsOf 60))=xs[2]?:=hg 2 _ rfl
 obtain⟨y2,e2⟩:=get_some' (i:=2) hlen (by decide)
 rw[e2]at g2
 rw[show Tryz.prog.cellsOf 60=2 by kernel_rfl]at g2
 obtain⟨m2,c2,w2⟩:=opn_pt g2
 have g3:DataW.trod enc Tryz.prog W 0 sp held n' 60 ((cs.drop 7).take (Tryz.prog.cellsOf 60))=xs[3]?:=hg 3 _ rfl
 obtain⟨y3,e3⟩:=get_some' (i:=3) hlen (by decide)
 rw[e3]at g3
 rw[show Tryz.prog.cellsOf 60=2 by kernel_rfl]at g3
 obtain⟨m3,c3,w3⟩:=opn_pt g3
 have g4:DataW.trod enc Tryz.prog W 0 sp held n' 3 ((cs.drop 9).take (Tryz.prog.cellsOf 3))=xs[4]?:=hg 4 _ rfl
 obtain⟨y4,e4⟩:=get_some' (i:=4) hlen (by decide)
 rw[e4]at g4
 rw[show Tryz.prog.cellsOf 3=1 by kernel_rfl]at g4
 obtain⟨x4,c4,w4⟩:=opn_i64 Tryz.underlying3 g4
 have g5:DataW.trod enc Tryz.prog W 0 sp held n' 97 ((cs.drop 10).take (Tryz.prog.cellsOf 97))=xs[5]?:=hg 5 _ rfl
 obtain⟨y5,e5⟩:=get_some' (i:=5) hlen (by decide)
 rw[e5]at g5
 rw[show Tryz.prog.cellsOf 97=1 by kernel_rfl]at g5
 obtain⟨a5,k5,l5,c5,r5,w5⟩:=opn_row (k:=5) Tryz.underlying97 (by decide) (by kernel_rfl) StopD.cells StopD.ok (fun n cs y h=>opn_stop h) g5
 have g6:DataW.trod enc Tryz.prog W 0 sp held n' 3 ((cs.drop 11).take (Tryz.prog.cellsOf 3))=xs[6]?:=hg 6 _ rfl
 obtain⟨y6,e6⟩:=get_some' (i:=6) hlen (by decide)
 rw[e6]at g6
 rw[show Tryz.prog.cellsOf 3=1 by kernel_rfl]at g6
 obtain⟨x6,c6,w6⟩:=opn_i64 Tryz.underlying3 g6
 have g7:DataW.trod enc Tryz.prog W 0 sp held n' 41 ((cs.drop 12).take (Tryz.prog.cellsOf 41))=xs[7]?:=hg 7 _ rfl
 obtain⟨y7,e7⟩:=get_some' (i:=7) hlen (by decide)
 rw[e7]at g7
 rw[show Tryz.prog.cellsOf 41=3 by kernel_rfl]at g7
 obtain⟨m7,c7,w7⟩:=opn_img g7
 have g8:DataW.trod enc Tryz.prog W 0 sp held n' 3 ((cs.drop 15).take (Tryz.prog.cellsOf 3))=xs[8]?:=hg 8 _ rfl
 obtain⟨y8,e8⟩:=get_some' (i:=8) hlen (by decide)
 rw[e8]at g8
 rw[show Tryz.prog.cellsOf 3=1 by kernel_rfl]at g8
 obtain⟨x8,c8,w8⟩:=opn_i64 Tryz.underlying3 g8
 have g9:DataW.trod enc Tryz.prog W 0 sp held n' 33 ((cs.drop 16).take (Tryz.prog.cellsOf 33))=xs[9]?:=hg 9 _ rfl
 obtain⟨y9,e9⟩:=get_some' (i:=9) hlen (by decide)
 rw[e9]at g9
 rw[show Tryz.prog.cellsOf 33=24 by kernel_rfl]at g9
 obtain⟨m9,c9,w9⟩:=opn_aff g9
 have hc:=(show cs=(cs.drop 0).take 40 by rw[List.drop_zero,List.take_of_length_le (by omega)]).trans ((cut_step cs 0 1 1 39 40 rfl rfl).trans (congrArg _ ((cut_step cs 1 4 5 35 39 rfl rfl).trans (congrArg _ ((cut_step cs 5 2 7 33 35 rfl rfl).trans (congrArg _ ((cut_step cs 7 2 9 31 33 rfl rfl).trans (congrArg _ ((cut_step cs 9 1 10 30 31 rfl rfl).trans (congrArg _ ((cut_step cs 10 1 11 29 30 rfl rfl).trans (congrArg _ ((cut_step cs 11 1 12 28 29 rfl rfl).trans (congrArg _ ((cut_step cs 12 3 15 25 28 rfl rfl).trans (congrArg _ (cut_step cs 15 1 16 24 25 rfl rfl)))))))))))))))))
 rw[c0,c1,c2,c3,c4,c5,c6,c7,c8,c9]at hc
 exact⟨⟨x0,m1,m2,m3,x4,a5,k5,l5,x6,m7,x8,m9⟩,hc.trans (by kernel_rfl),w0,w2,w3,w4,r5,w5,w6,w7,w8,w9⟩
theorem opn_node(h:DataW.trod enc Tryz.prog W 0 sp held n 43 cs=some y):∃m:NodeD,cs=m.cells∧m.ok W:=by
 obtain⟨xs,n',rfl,hx,hl,hlen,hg⟩:=DataW.trod_struct Tryz.underlying43 h
 have hl:cs.length=47:=hl.trans (by kernel_rfl)
 have g0:DataW.trod enc Tryz.prog W 0 sp held n' 3 ((cs.drop 0).take (Tryz.prog.cellsOf 3))=xs[0]?:=hg 0 _ rfl
 obtain⟨y0,e0⟩:=get_some' (i:=0) hlen (by decide)
 rw[e0]at g0
 rw[show Tryz.prog.cellsOf 3=1 by kernel_rfl]at g0
 obtain⟨x0,c0,w0⟩:=opn_i64 Tryz.underlying3 g0
 have g1:DataW.trod enc Tryz.prog W 0 sp held n' 3 ((cs.drop 1).take (Tryz.prog.cellsOf 3))=xs[1]?:=hg 1 _ rfl
 obtain⟨y1,e1⟩:=get_some' (i:=1) hlen (by decide)
 rw[e1]at g1
 rw[show Tryz.prog.cellsOf 3=1 by kernel_rfl]at g1
 obtain⟨x1,c1,w1⟩:=opn_i64 Tryz.underlying3 g1
 have g2:DataW.trod enc Tryz.prog W 0 sp held n' 3 ((cs.drop 2).take (Tryz.prog.cellsOf 3))=xs[2]?:=hg 2 _ rfl
 obtain⟨y2,e2⟩:=get_some' (i:=2) hlen (by decide)
 rw[e2]at g2
 rw[show Tryz.prog.cellsOf 3=1 by kernel_rfl]at g2
 obtain⟨x2,c2,w2⟩:=opn_i64 Tryz.underlying3 g2
 have g3:DataW.trod enc Tryz.prog W 0 sp held n' 33 ((cs.drop 3).take (Tryz.prog.cellsOf 33))=xs[3]?:=hg 3 _ rfl
 obtain⟨y3,e3⟩:=get_some' (i:=3) hlen (by decide)
 rw[e3]at g3
 rw[show Tryz.prog.cellsOf 33=24 by kernel_rfl]at g3
 obtain⟨m3,c3,w3⟩:=opn_aff g3
 have g4:DataW.trod enc Tryz.prog W 0 sp held n' 34 ((cs.drop 27).take (Tryz.prog.cellsOf 34))=xs[4]?:=hg 4 _ rfl
 obtain⟨y4,e4⟩:=get_some' (i:=4) hlen (by decide)
 rw[e4]at g4
 rw[show Tryz.prog.cellsOf 34=1 by kernel_rfl]at g4
 obtain⟨a4,k4,l4,c4,r4,w4⟩:=opn_row (k:=7) Tryz.underlying34 (by decide) (by kernel_rfl) SegD.cells SegD.ok (fun n cs y h=>opn_seg h) g4
 have g5:DataW.trod enc Tryz.prog W 0 sp held n' 3 ((cs.drop 28).take (Tryz.prog.cellsOf 3))=xs[5]?:=hg 5 _ rfl
 obtain⟨y5,e5⟩:=get_some' (i:=5) hlen (by decide)
 rw[e5]at g5
 rw[show Tryz.prog.cellsOf 3=1 by kernel_rfl]at g5
 obtain⟨x5,c5,w5⟩:=opn_i64 Tryz.underlying3 g5
 have g6:DataW.trod enc Tryz.prog W 0 sp held n' 5 ((cs.drop 29).take (Tryz.prog.cellsOf 5))=xs[6]?:=hg 6 _ rfl
 obtain⟨y6,e6⟩:=get_some' (i:=6) hlen (by decide)
 rw[e6]at g6
 rw[show Tryz.prog.cellsOf 5=1 by kernel_rfl]at g6
 obtain⟨x6,c6⟩:=opn_u8 Tryz.underlying5 g6
 have g7:DataW.trod enc Tryz.prog W 0 sp held n' 3 ((cs.drop 30).take (Tryz.prog.cellsOf 3))=xs[7]?:=hg 7 _ rfl
 obtain⟨y7,e7⟩:=get_some' (i:=7) hlen (by decide)
 rw[e7]at g7
 rw[show Tryz.prog.cellsOf 3=1 by kernel_rfl]at g7
 obtain⟨x7,c7,w7⟩:=opn_i64 Tryz.underlying3 g7
 have g8:DataW.trod enc Tryz.prog W 0 sp held n' 4 ((cs.drop 31).take (Tryz.prog.cellsOf 4))=xs[8]?:=hg 8 _ rfl
 obtain⟨y8,e8⟩:=get_some' (i:=8) hlen (by decide)
 rw[e8]at g8
 rw[show Tryz.prog.cellsOf 4=1 by kernel_rfl]at g8
 obtain⟨x8,c8⟩:=opn_bool Tryz.underlying4 g8
 have g9:DataW.trod enc Tryz.prog W 0 sp held n' 4 ((cs.drop 32).take (Tryz.prog.cellsOf 4))=xs[9]?:=hg 9 _ rfl
 obtain⟨y9,e9⟩:=get_some' (i:=9) hlen (by decide)
 rw[e9]at g9
 rw[show Tryz.prog.cellsOf 4=1 by kernel_rfl]at g9
 obtain⟨x9,c9⟩:=opn_bool Tryz.underlying4 g9
 have g10:DataW.trod enc Tryz.prog W 0 sp held n' 34 ((cs.drop 33).take (Tryz.prog.cellsOf 34))=xs[10]?:=hg 10 _ rfl
 obtain⟨y10,e10⟩:=get_some' (i:=10) hlen (by decide)
 rw[e10]at g10
 rw[show Tryz.prog.cellsOf 34=1 by kernel_rfl]at g10
 obtain⟨a10,k10,l10,c10,r10,w10⟩:=opn_row (k:=7) Tryz.underlying34 (by decide) (by kernel_rfl) SegD.cells SegD.ok (fun n cs y h=>opn_seg h) g10
 have g11:DataW.trod enc Tryz.prog W 0 sp held n' 3 ((cs.drop 34).take (Tryz.prog.cellsOf 3))=xs[11]?:=hg 11 _ rfl
 obtain⟨y11,e11⟩:=get_some' (i:=11) hlen (by decide)
 rw[e11]at g11
 rw[show Tryz.prog.cellsOf 3=1 by kernel_rfl]at g11
 obtain⟨x11,c11,w11⟩:=opn_i64 Tryz.underlying3 g11
 have g12:DataW.trod enc Tryz.prog W 0 sp held n' 35 ((cs.drop 35).take (Tryz.prog.cellsOf 35))=xs[12]?:=hg 12 _ rfl
 obtain⟨y12,e12⟩:=get_some' (i:=12) hlen (by decide)
 rw[e12]at g12
 rw[show Tryz.prog.cellsOf 35=1 by kernel_rfl]at g12
 obtain⟨a12,k12,l12,c12,r12,w12⟩:=opn_row (k:=40) Tryz.underlying35 (by decide) (by kernel_rfl) PaintD.cells (PaintD.ok W) (fun n cs y h=>opn_paint h) g12
 have g13:DataW.trod enc Tryz.prog W 0 sp held n' 38 ((cs.drop 36).take (Tryz.prog.cellsOf 38))=xs[13]?:=hg 13 _ rfl
 obtain⟨y13,e13⟩:=get_some' (i:=13) hlen (by decide)
 rw[e13]at g13
 rw[show Tryz.prog.cellsOf 38=6 by kernel_rfl]at g13
 obtain⟨m13,c13,w13⟩:=opn_style g13
 have g14:DataW.trod enc Tryz.prog W 0 sp held n' 35 ((cs.drop 42).take (Tryz.prog.cellsOf 35))=xs[14]?:=hg 14 _ rfl
 obtain⟨y14,e14⟩:=get_some' (i:=14) hlen (by decide)
 rw[e14]at g14
 rw[show Tryz.prog.cellsOf 35=1 by kernel_rfl]at g14
 obtain⟨a14,k14,l14,c14,r14,w14⟩:=opn_row (k:=40) Tryz.underlying35 (by decide) (by kernel_rfl) PaintD.cells (PaintD.ok W) (fun n cs y h=>opn_paint h) g14
 have g15:DataW.trod enc Tryz.prog W 0 sp held n' 41 ((cs.drop 43).take (Tryz.prog.cellsOf 41))=xs[15]?:=hg 15 _ rfl
 obtain⟨y15,e15⟩:=get_some' (i:=15) hlen (by decide)
 rw[e15]at g15
 rw[show Tryz.prog.cellsOf 41=3 by kernel_rfl]at g15
 obtain⟨m15,c15,w15⟩:=opn_img g15
 have g16:DataW.trod enc Tryz.prog W 0 sp held n' 3 ((cs.drop 46).take (Tryz.prog.cellsOf 3))=xs[16]?:=hg 16 _ rfl
 obtain⟨y16,e16⟩:=get_some' (i:=16) hlen (by decide)
 rw[e16]at g16
 rw[show Tryz.prog.cellsOf 3=1 by kernel_rfl]at g16
 obtain⟨x16,c16,w16⟩:=opn_i64 Tryz.underlying3 g16
 have hc:=(show cs=(cs.drop 0).take 47 by rw[List.drop_zero,List.take_of_length_le (by omega)]).trans ((cut_step cs 0 1 1 46 47 rfl rfl).trans (congrArg _ ((cut_step cs 1 1 2 45 46 rfl rfl).trans (congrArg _ ((cut_step cs 2 1 3 44 45 rfl rfl).trans (congrArg _ ((cut_step cs 3 24 27 20 44 rfl rfl).trans (congrArg _ ((cut_step cs 27 1 28 19 20 rfl rfl).trans (congrArg _ ((cut_step cs 28 1 29 18 19 rfl rfl).trans (congrArg _ ((cut_step cs 29 1 30 17 18 rfl rfl).trans (congrArg _ ((cut_step cs 30 1 31 16 17 rfl rfl).trans (congrArg _ ((cut_step cs 31 1 32 15 16 rfl rfl).trans (congrArg _ ((cut_step cs 32 1 33 14 15 rfl rfl).trans (congrArg _ ((cut_step cs 33 1 34 13 14 rfl rfl).trans (congrArg _ ((cut_step cs 34 1 35 12 13 rfl rfl).trans (congrArg _ ((cut_step cs 35 1 36 11 12 rfl rfl).trans (congrArg _ ((cut_step cs 36 6 42 5 11 rfl rfl).trans (congrArg _ ((cut_step cs 42 1 43 4 5 rfl rfl).trans (congrArg _ (cut_step cs 43 3 46 1 4 rfl rfl)))))))))))))))))))))))))))))))
 rw[c0,c1,c2,c3,c4,c5,c6,c7,c8,c9,c10,c11,c12,c13,c14,c15,c16]at hc
 exact⟨⟨x0,x1,x2,m3,a4,k4,l4,x5,x6,x7,x8,x9,a10,k10,l10,x11,a12,k12,l12,m13,a14,k14,l14,m15,x16⟩,hc.trans (by kernel_rfl),w0,w1,w2,w3,⟨r4,w4⟩,w5,w7,⟨r10,w10⟩,w11,⟨r12,w12⟩,w13,⟨r14,w14⟩,w15,w16⟩
end
/-- What the laid variable holds. -/
theorem glob_of{W:World}(h:laidMetH Tryz.prog [("errors.errorType",Rows.laid_errors_errorType)] W):GlobOk W:=by
 have h2:handlesMet Tryz.prog [("errors.errorType",Rows.laid_errors_errorType)] W:=h.2
 have h3:=h2 _ (List.mem_singleton.2 rfl)
 obtain⟨name,u,ty,e1,e2,hlt,hrow,hvar⟩:∃name u ty,Rows.laid_errors_errorType.handleName?=some name∧(Tryz.prog.cutTypes.find? (·.1 == "internal/reflectlite.rtype")).map (·.2)=some u∧ty<Tryz.prog.types.size∧Tryz.prog.rowNamed ty name=true ∧
   W.var? Tryz.prog "errors.errorType" = some #[.iface u (.agg #[typeHandle Tryz.prog ty])]:=h3
 have hu:u=174:=Option.some.inj (e2.symm.trans (by kernel_rfl))
 have hn:name=[101,114,114,111,114]:=Option.some.inj (e1.symm.trans (by kernel_rfl))
 have hall:((List.range Tryz.prog.types.size).all fun t => !Tryz.prog.rowNamed t [101,114,114,111,114]||t==108)=true:=by kernel_rfl
 rw[List.all_eq_true]at hall
 have h4:=hall ty (List.mem_range.2 hlt)
 rw[hn]at hrow
 rw[hrow]at h4
 have ht:ty=108:=by simpa using h4
 subst hu ht
 unfold World.var? at hvar
 rw[show Tryz.prog.globalNamed "errors.errorType" = some 0 by kernel_rfl,Option.bind_some]at hvar
 cases hh:W.heap[(0 : Nat)]? with
 | none=>rw[hh]at hvar; cases hvar
 | some o =>
  rw[hh]at hvar
  have hlt2:0 < W.heap.size:=(Array.getElem?_eq_some_iff.1 hh).1
  cases o with
  | cells c t fz =>
   simp only[Option.some.injEq]at hvar
   refine⟨hlt2,fun j v hj=>?_⟩
   have:j=0:=by
    have:=(List.getElem?_eq_some_iff.1 hj).1
    simp at this; exact this
   subst this
   simp only[World.cell?,hh]
   rw[hvar]
   simpa[typeHandle]using hj
  | _=>cases hvar
end Go.Proofs.YtfmkkemfhjkajaaGreatDoor
