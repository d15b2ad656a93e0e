/- What the program's Apply does is what the reference's -/
import Derived.Test.YtfmkkemfhjkajaaGreatDoorPk31
import Derived.Test.YtfmkkemfhjkajaaGreatDoorOpn36
set_option linter.unusedVariables false
namespace Go.Proofs.YtfmkkemfhjkajaaGreatDoor
section
def Jg(p:aJ):Int:=if p.kind=1 then p.depth+1 else p.depth
def wW(r:Int)(a:List aJ):Int:=match a.getLast? with | none=>r | some p=>Jg p
def Steps(r:Int):List aJ→Prop
 | []=>True
 | x::t=>x.depth≤r∧Steps (Jg x) t
theorem tY(r:Int)(x:aJ)(a:List aJ):wW r (x::a)=wW (Jg x) a:=by
 unfold wW
 cases a with
 | nil=>rfl
 | cons y a=>rw[List.getLast?_cons_cons]; cases h:(y::a).getLast? with
  | none=>simp at h
  | some p=>rfl
theorem qM:∀{a b:List aJ} {r:Int},Steps r (a++b)↔Steps r a∧Steps (wW r a) b
 | [],b,r=>by simp only[List.nil_append,Steps,true_and]; rfl
 | x::a,b,r=>by
  rw[List.cons_append,tY]
  show x.depth≤r∧Steps (Jg x) (a++b)↔(x.depth≤r∧Steps (Jg x) a)∧_
  rw[qM,and_assoc]
theorem Steps.mono{r r':Int}(h:r≤r'):∀{l:List aJ},Steps r l→Steps r' l
 | [],_=>trivial
 | x::l,hl=>⟨by have:=hl.1; omega,hl.2⟩
theorem wX{l:List aJ}:VL l↔(∀x∈l,x.chk=0)∧(l.map aJ.id).Nodup∧Steps 0 l:=by
 rw[KF]
 refine and_congr_right fun _=>and_congr_right fun _=>?_
 have key:∀(l:List aJ) (r:Int),(∀a x b,l=a++x::b→x.depth≤wW r a)↔Steps r l:=by
  intro l
  induction l with
  | nil=>intro r; exact⟨fun _=>trivial,fun _ a x b h=>by simp at h⟩
  | cons y l ih =>
   intro r
   show _↔y.depth≤r∧Steps (Jg y) l
   rw[←ih]
   constructor
   ·intro h
    refine⟨h [] y l rfl,fun a x b e=>?_⟩
    rw[←tY r]
    exact h (y::a) x b (by rw[e]; rfl)
   ·rintro⟨h1,h2⟩ a x b e
    cases a with
    | nil =>
     simp only[List.nil_append,List.cons.injEq]at e
     rw[←e.1]; exact h1
    | cons z a =>
     simp only[List.cons_append,List.cons.injEq]at e
     rw[←e.1,tY]
     exact h2 a x b e.2
 exact key l 0
theorem VL.depth{l:List aJ}(h:VL l):∀x∈l,0≤x.depth∧x.depth<8:=fun x hx=>(aJ.BO ((KF.1 h).1 x hx)).2.2.2.2
theorem Steps.cut{A B S:List aJ}{x:aJ}{r:Int}(h:Steps r (A++x::(S++B)))(hB:∀y∈B.head?,y.depth≤x.depth):Steps r (A++B):=by
 rw[qM]at h ⊢
 refine⟨h.1,?_⟩
 cases B with
 | nil=>trivial
 | cons y B =>
  have h1:=hB y rfl
  have h2:=h.2.1
  have h3:=(qM.1 h.2.2).2
  exact⟨by omega,h3.2⟩
theorem VL.sub{l m:List aJ}(h:VL l)(hs:m.Sublist l)(hm:Steps 0 m):VL m:=by
 obtain⟨h1,h2,h3⟩:=wX.1 h
 exact wX.2 ⟨fun x hx=>h1 x (hs.subset hx),h2.sublist (hs.map _),hm⟩
theorem VL.take{l:List aJ}(h:VL l)(n:Nat):VL (l.take n):=by
 refine h.sub (List.take_sublist n l) ?_
 have:=(wX.1 h).2.2
 rw[←List.take_append_drop n l,qM]at this
 exact this.1
theorem drop_cons{l:List aJ}{i:Nat}(hi:i<l.length):l=l.take i++l[i]::l.drop (i+1):=by rw[List.getElem_cons_drop,List.take_append_drop]
theorem VL.uq{l:List aJ}{i:Nat}(h:VL l)(hi:i<l.length):VL (uq l i (eu l i)):=by
 obtain⟨e1,e2⟩:=qL hi
 refine h.sub ?_ ?_
 ·unfold Go.Proofs.YtfmkkemfhjkajaaGreatDoor.uq
  have:l=l.take i++l.drop i:=(List.take_append_drop _ _).symm
  have e3:l.drop (eu l i)=(l.drop i).drop (eu l i-i):=by rw[List.drop_drop]; congr 1; omega
  rw[e3]
  have h5:=List.Sublist.append_left (List.drop_sublist (eu l i-i) (l.drop i)) (l.take i)
  rw[List.take_append_drop]at h5
  exact h5
 ·have hs:=(wX.1 h).2.2
  have e:l=l.take i++l[i]::((l.drop (i+1)).take (eu l i-(i+1))++l.drop (eu l i)):=by
   conv=>lhs; rw[drop_cons hi]
   congr 2
   rw[show l.drop (eu l i)=(l.drop (i+1)).drop (eu l i-(i+1)) by rw[List.drop_drop]; congr 1; omega,List.take_append_drop]
  rw[e]at hs
  refine Steps.cut hs fun y hy=>?_
  rw[List.head?_drop]at hy
  have hl:eu l i<l.length:=by
   by_cases hx:eu l i<l.length
   ·exact hx
   ·rw[List.getElem?_eq_none (by omega)]at hy; cases hy
  rw[List.getElem?_eq_getElem hl]at hy
  cases hy
  have h4:=(oU (n:=l.length) (f:=bP l) hi).2.2.2
  rw[←rD hi,pq hi,pq hl]at h4
  exact h4 hl
theorem Wp{l:List aJ}{i:Nat}(hi:i<l.length):BP l i (eu l i)=l[i]::(l.drop (i+1)).take (eu l i-(i+1)):=by
 have:=qL hi
 unfold BP
 rw[←List.getElem_cons_drop hi,show eu l i-i=(eu l i-(i+1))+1 by omega,List.take_succ_cons]
theorem Zm{l:List aJ}{i j:Nat}{x:aJ}(h:x∈BP l i j):x∈l:=List.mem_of_mem_drop (List.mem_of_mem_take h)
theorem Ov{l m:List aJ}{k:Nat}(hk:k≤l.length):(Gi l k m).length=l.length+m.length:=by
 unfold Gi
 rw[List.length_append,List.length_append,List.length_take,List.length_drop]; omega
theorem Gj{l:List aJ}{i j:Nat}(h1:i≤j)(h2:j≤l.length):(uq l i j).length+(BP l i j).length=l.length:=by
 unfold uq BP
 rw[List.length_append,List.length_take,List.length_drop,List.length_take,List.length_drop]; omega
theorem yS:∀{a b pre:List aJ} {x:aJ},yR pre a→fA (pre++a) x≠0→iM pre (a++x::b)=(fA (pre++a) x,(((pre++a).length:Nat):Int))
 | [],b,pre,x,_,h=>by
  rw[List.append_nil]at h ⊢
  rw[List.nil_append]
  unfold iM
  rw[if_neg h]
 | y::a,b,pre,x,hv,h=>by
  rw[List.cons_append]
  unfold iM
  rw[if_pos hv.1,yS (a:=a) hv.2 (by rw[List.append_assoc]; exact h),List.append_assoc]
  rfl
theorem Gl{pre:List aJ}{x:aJ}(h:x.chk≠0):fA pre x=x.chk:=by unfold fA; rw[if_pos h]
def aJ.moved(n:aJ)(root to:Int):aJ:={n with depth:=IntKind.i64.wrap (n.depth+IntKind.i64.wrap (to-root))}
def fO(l:List aJ)(e:gQ):Except Int (List aJ):=
 if e.kind=3 then (match ji l e.id with
  | none => .error 8
  | some i=>if e.index<0∨((uq l i (eu l i)).length:Int)<e.index then .error 6
   else .ok (Gi (uq l i (eu l i)) e.index.toNat ((BP l i (eu l i)).map fun n=>n.moved (bP l i) e.depth)))
 else lY l e
noncomputable def KG(s:aP)(e:gQ):aP×Int:=
 if s.valid=false then (.zero,18)else if e.named=false then (.zero,2)else
 match fO s.ns e with
 | .error n=>(.zero,n)
 | .ok l=>if (s.with' e l).chk.1=0 then (s.with' e l,0)else (.zero,(s.with' e l).chk.1)
theorem Rz{n:aJ}{root to:Int}(h1:0≤n.depth∧n.depth<8)(h2:0≤root∧root<8)(h3:0≤to∧to≤8):n.moved root to=n.Zl root to:=by
 unfold aJ.moved aJ.Zl
 rw[if_neg (by omega)]
 have:IntKind.i64.wrap (n.depth+IntKind.i64.wrap (to-root))=n.depth-root+to:=by rw[IntKind.wrap_i64,IntKind.wrap_i64]; omega
 rw[this]
theorem Wq{root to:Int}(h2:0≤root∧root<8)(h3:I64 to):IntKind.i64.wrap (root+IntKind.i64.wrap (to-root))=to:=by
 have:=h3.1; have:=h3.2
 rw[IntKind.wrap_i64,IntKind.wrap_i64]; omega
theorem Jh{s:aP}{e:gQ}(hd:I64 e.depth):KG s e=jI s e:=by
 unfold KG jI
 cases hv:s.valid with
 | false=>rfl
 | true =>
  rw[if_neg (by decide),if_neg (show ¬true=false by decide)]
  obtain⟨hw,hlen,hV⟩:=aP.oL.1 hv
  cases hn:e.named with
  | false=>rfl
  | true =>
   rw[if_neg (show ¬true=false by decide),if_neg (show ¬true=false by decide)]
   unfold fO
   by_cases hk:e.kind=3
   ·rw[if_pos hk]
    unfold lY
    rw[if_neg (by omega),if_neg (by omega),if_pos hk]
    cases hf:ji s.ns e.id with
    | none=>rfl
    | some i =>
     simp only
     obtain⟨hi,hid⟩:=zI hf
     obtain⟨e1,e2⟩:=qL hi
     by_cases hx:e.index<0∨((uq s.ns i (eu s.ns i)).length:Int)<e.index
     ·simp only[if_pos hx]
     ·simp only[if_neg hx]
      have hr:=hV.depth _ (List.getElem_mem hi)
      have hc:=hV.uq hi
      rw[pq hi]
      by_cases ht:0≤e.depth∧e.depth≤8
      ·have:(BP s.ns i (eu s.ns i)).map (fun n=>n.moved s.ns[i].depth e.depth)=(BP s.ns i (eu s.ns i)).map (fun n=>n.Zl s.ns[i].depth e.depth):=
        List.map_congr_left fun n hn=>Rz (hV.depth n (Zm hn)) hr ht
       rw[this]
      ·
       have key:∀(f:aJ→aJ),(f s.ns[i]).chk=6→(s.with' e (Gi (uq s.ns i (eu s.ns i)) e.index.toNat ((BP s.ns i (eu s.ns i)).map f))).chk=(6,e.index):=by
        intro f hf6
        have hlen2:=Gj (l:=s.ns) (i:=i) (j:=eu s.ns i) (by omega) e2
        have hix:e.index.toNat≤(uq s.ns i (eu s.ns i)).length:=by omega
        show aP.chk ⟨s.w,s.h,_,_⟩=_
        unfold aP.chk
        simp only
        rw[if_neg (by omega),if_neg (by rw[Ov hix,List.length_map]; omega)]
        rw[Wp hi]
        unfold Gi
        rw[List.map_cons,List.append_assoc,List.cons_append]
        have h6:fA ([]++(uq s.ns i (eu s.ns i)).take e.index.toNat) (f s.ns[i])=6:=by rw[Gl (by rw[hf6]; decide),hf6]
        rw[yS (hc.take _) (by rw[h6]; decide),h6]
        congr 1
        rw[List.nil_append,List.length_take]; omega
       have hck:=(KF.1 hV).1 _ (List.getElem_mem hi)
       rw[key _ (by
        show({s.ns[i]with depth:=_}:aJ).chk=6
        rw[Wq hr hd,aJ.Je hck,if_neg (by omega)])]
       rw[key _ (by
        unfold aJ.Zl
        rw[if_pos (by omega),aJ.Je hck,if_neg (by omega)])]
       rfl
   ·simp only[if_neg hk]; rfl
end
section
def gQ.insert(i:Int)(n:aJ):gQ:=⟨1,0,i,0,n,.none⟩
def gQ.ah1(c:dI):gQ:=⟨5,0,0,0,.zero,c⟩
def zJ:Nat→List aJ→List (List aJ)
 | m+1,x::t=>(x::t.takeWhile fun κ=>decide (x.depth<κ.depth))::zJ m (t.dropWhile fun κ=>decide (x.depth<κ.depth))
 | _,_=>[]
def BQ(l:List aJ):List (List aJ):=zJ l.length l
def pK:List (List aJ)→List (List aJ)→Nat
 | x::a,y::b=>if x=y then pK a b+1 else 0
 | _,_=>0
def qK(x y:List (List aJ)):Nat:=pK (x.drop (pK x y)).reverse (y.drop (pK x y)).reverse
theorem VL.head{l:List aJ}(h:VL l):∀y∈l.head?,y.depth=0:=by
 intro y hy
 cases l with
 | nil=>cases hy
 | cons x t =>
  cases hy
  have h1:=(wX.1 h).2.2.1
  have h2:=h.depth _ List.mem_cons_self
  omega
def Runs(s:aP)(es:List gQ)(t:aP):Prop:=∀k,fD s es k=(t,((k+es.length:Nat):Int),0)
theorem Runs.nil(s:aP):Runs s [] s:=fun k=>rfl
theorem Runs.cons{s t u:aP}{e:gQ}{es:List gQ}(h:jI s e=(t,0))(h2:Runs t es u):Runs s (e::es) u:=fun k=>by
 unfold fD
 rw[h,if_pos rfl,h2 (k+1),List.length_cons]
 congr 2
 congr 1
 omega
theorem Runs.append:∀{es es2:List gQ} {s t u:aP},Runs s es t→Runs t es2 u→Runs s (es++es2) u
 | [],es2,s,t,u,h1,h2=>by
  have:=h1 0
  unfold fD at this
  cases this
  exact h2
 | e::es,es2,s,t,u,h1,h2=>by
  have h0:=h1 0
  unfold fD at h0
  split at h0
  ·rename_i he
   have h3:Runs (jI s e).1 es t:=fun k=>by
    have h4:=h1 k
    unfold fD at h4
    cases k with
    | zero =>
     rw[if_pos he]at h4
     have h5:∀(es:List gQ) (s t:aP) (k m:Nat),fD s es k=(t,((k+es.length:Nat):Int),0)→fD s es m=(t,((m+es.length:Nat):Int),0):=by
      intro es
      induction es with
      | nil=>intro s t k m h; unfold fD at h ⊢; cases h; rfl
      | cons e es ih =>
       intro s t k m h
       unfold fD at h ⊢
       split at h
       ·rename_i he; rw[if_pos he]
        have:=ih _ t (k+1) (m+1) (by rw[h,List.length_cons]; congr 2; congr 1; omega)
        rw[this,List.length_cons]; congr 2; congr 1; omega
       ·rename_i he; simp only[Prod.mk.injEq]at h; exact absurd h.2.2 he
     exact h5 es _ t 1 0 (by rw[show(0+1:Nat)=1 from rfl]at h4; rw[h4,List.length_cons]; congr 2; congr 1; omega)
    | succ k =>
     have h4:=h1 k
     unfold fD at h4
     rw[if_pos he]at h4
     rw[h4,List.length_cons]; congr 2; congr 1; omega
   rw[List.cons_append]
   exact Runs.cons (t:=(jI s e).1) (by rw[←he]) (Runs.append h3 h2)
  ·rename_i he
   simp only[Prod.mk.injEq]at h0
   exact absurd h0.2.2 he
def aP.put(s:aP)(l:List aJ):aP:=⟨s.w,s.h,s.bg,l⟩
end
section
theorem Di:∀{m k:Nat} {l:List aJ},l.length≤m→l.length≤k→zJ m l=zJ k l
 | 0,k,l,h,_=>by have:=List.eq_nil_of_length_eq_zero (by omega:l.length=0); subst this; cases k<;>rfl
 | m+1,0,l,_,h=>by have:=List.eq_nil_of_length_eq_zero (by omega:l.length=0); subst this; rfl
 | m+1,k+1,[],_,_=>rfl
 | m+1,k+1,x::t,h1,h2=>by
  unfold zJ
  have:=(List.dropWhile_sublist (l:=t) fun κ:aJ=>decide (x.depth<κ.depth)).length_le
  rw[List.length_cons]at h1 h2
  rw[Di (m:=m) (k:=k) (by omega) (by omega)]
theorem RD(x:aJ)(t:List aJ):BQ (x::t)=(x::t.takeWhile fun κ=>decide (x.depth<κ.depth))::BQ (t.dropWhile fun κ=>decide (x.depth<κ.depth)):=by
 show zJ (t.length+1) (x::t)=_
 have:=(List.dropWhile_sublist (l:=t) fun κ:aJ=>decide (x.depth<κ.depth)).length_le
 unfold zJ
 rw[Di this (Nat.le_refl _)]
 rfl
end
section
open Go.RowKit
variable{α:Type}{K:Nat}
structure aS where
 w:Int
 h:Int
 bg:dI
 nsa:Option Addr
 nsc:Nat
 ns:List aj
def aS.s(s:aS):Value := .slice s.nsa s.ns.length s.nsc
def aS.cells(s:aS):List Value:=[.int .i64 s.w,.int .i64 s.h]++s.bg.cells++[s.s]
def aS.v(s:aS):Value := .agg s.cells.toArray
def aS.key(s:aS):aP:=⟨s.w,s.h,s.bg,s.ns.map aj.key⟩
abbrev oq (K:Nat)(w:World)(v:Value)(l:List aj):Prop:=aT 47 aj.cells w v l∧∀n∈l,fJ K w n
def bW(K:Nat)(w:World)(s:aS):Prop:=I64 s.w∧I64 s.h∧oq K w s.s s.ns
structure bC where
 kind:Int
 id:Int
 index:Int
 depth:Int
 node:aj
 color:dI
def bC.cells(e:bC):List Value:=[.int .i64 e.kind,.int .i64 e.id,.int .i64 e.index,.int .i64 e.depth]++e.node.cells++e.color.cells
def bC.v(e:bC):Value := .agg e.cells.toArray
def bC.key(e:bC):gQ:=⟨e.kind,e.id,e.index,e.depth,e.node.key,e.color⟩
def zo(K:Nat)(w:World)(e:bC):Prop:=I64 e.kind∧I64 e.id∧I64 e.index∧I64 e.depth∧fJ K w e.node
theorem oq.below{w w':World}{v:Value}{l:List aj}(h:oq K w v l)(hb:Ext w w'):oq K w' v l:=⟨h.1.below hb,fun n hn=>(h.2 n hn).below hb⟩
theorem bW.below{w w':World}{s:aS}(h:bW K w s)(hb:Ext w w'):bW K w' s:=⟨h.1,h.2.1,h.2.2.below hb⟩
theorem zo.below{w w':World}{e:bC}(h:zo K w e)(hb:Ext w w'):zo K w' e:=⟨h.1,h.2.1,h.2.2.1,h.2.2.2.1,h.2.2.2.2.below hb⟩
def aS.zero:aS:=⟨0,0,.none,none,0,[]⟩
theorem Gm(w:World):bW K w .zero:=⟨by decide,by decide,⟨nR _ _ _,fun n hn=>by cases hn⟩⟩
theorem Gn(pre:List aJ)(x:aJ):nS (pre++[x])=if x.kind=1 then x.depth+1 else x.depth:=by
 unfold nS
 rw[List.getLast?_concat]
def sZ(pre:List aJ)(x:aJ):Bool:=match pre.getLast? with
 | none=>x.depth==0
 | some p=>(p.kind==1&&x.depth==p.depth+1)||decide (x.depth≤p.depth)
theorem Gp{pre:List aJ}{x:aJ}(h:x.chk=0):sZ pre x=decide (x.depth≤nS pre):=by
 have hd:=(aJ.BO h).2.2.2.2.1
 unfold sZ nS
 cases pre.getLast? with
 | none=>rw[Bool.eq_iff_iff]; simp only[beq_iff_eq,decide_eq_true_eq]; omega
 | some p =>
  rw[Bool.eq_iff_iff]
  simp only[Bool.or_eq_true,Bool.and_eq_true,beq_iff_eq,decide_eq_true_eq]
  split<;>omega
end
section
open Go.RowKit Go.ChangeShapes Go.WideShapes
variable{α:Type}
section
variable{H:Type}{enc:TypeId×Value→H}{W:World}{sp:Nat→Bool}{held:Bool}{n:Nat}{cs:List Value}{y:DataW H×List MemPlace}
set_option maxRecDepth 100000
def aS.ok(W:World)(s:aS):Prop:=I64 s.w∧I64 s.h∧aT 47 aj.cells W s.s s.ns∧∀n∈s.ns,n.ok W
def bC.ok(W:World)(e:bC):Prop:=I64 e.kind∧I64 e.id∧I64 e.index∧I64 e.depth∧e.node.ok W
theorem Ws(h:DataW.trod enc Tryz.prog W 0 sp held n 26 cs=some y):∃m:aS,cs=m.cells∧m.ok W:=by
 obtain⟨xs,n',rfl,hx,hl,hlen,hg⟩:=DataW.trod_struct Tryz.underlying26 h
 have hl:cs.length=7:=hl.trans (by kernel_rfl)
 obtain⟨x0,c0,w0⟩:=fP Tryz.underlying3 (lM (cs:=cs) (off:=0) (k:=1) (hg 0 _ rfl) hlen (by decide) (by kernel_rfl)).choose_spec
 obtain⟨x1,c1,w1⟩:=fP Tryz.underlying3 (lM (cs:=cs) (off:=1) (k:=1) (hg 1 _ rfl) hlen (by decide) (by kernel_rfl)).choose_spec
 obtain⟨m2,c2⟩:=BK (lM (cs:=cs) (off:=2) (k:=4) (hg 2 _ rfl) hlen (by decide) (by kernel_rfl)).choose_spec
 obtain⟨a3,k3,l3,c3,r3,w3⟩:=qB (k:=47) Tryz.underlying24 (by decide) (by kernel_rfl) aj.cells (fun n=>n.ok W) (fun n cs y h=>YX h) (lM (cs:=cs) (off:=6) (k:=1) (hg 3 _ rfl) hlen (by decide) (by kernel_rfl)).choose_spec
 have hc:=(show cs=(cs.drop 0).take 7 by rw[List.drop_zero,List.take_of_length_le (by omega)]).trans ((bf cs 0 1 1 6 7 rfl rfl).trans (congrArg _ ((bf cs 1 1 2 5 6 rfl rfl).trans (congrArg _ (bf cs 2 4 6 1 5 rfl rfl)))))
 rw[c0,c1,c2,c3]at hc
 exact⟨⟨x0,x1,m2,a3,k3,l3⟩,hc.trans (by kernel_rfl),w0,w1,r3,w3⟩
theorem zD{base:Nat}{v:Value}{d:DataW H}{p:List MemPlace}(hv:Value.okWide Tryz.prog W .any base 26 v)(h:DataW.Trod enc Tryz.prog W 0 sp held 26 v d p):∃m:aS,v=m.v∧m.ok W:=by
 obtain⟨cs,rfl,hsz⟩:=okWide_struct Tryz.underlying26 hv
 obtain⟨fuel,hf⟩:=h
 obtain⟨l⟩:=cs
 obtain⟨m,hm,ho⟩:=Ws (cs:=l) (y:=(d,p)) hf
 exact⟨m,by rw[hm]; rfl,ho⟩
structure KH where
 a:Option Addr
 c:Nat
 l:List bC
def KH.v(m:KH):Value := .slice m.a m.l.length m.c
def KH.ok(W:World)(m:KH):Prop:=aT 55 bC.cells W m.v m.l∧∀e∈m.l,e.ok W
end
end
end Go.Proofs.YtfmkkemfhjkajaaGreatDoor
