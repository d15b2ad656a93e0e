/- What the program's Apply does is what the reference's -/
import Derived.Test.YtiafijffnejhoaaGreatDoorPk32
import Derived.Test.YtiafijffnejhoaaGreatDoorOwn
set_option linter.unusedVariables false
namespace Go.Proofs.YtiafijffnejhoaaGreatDoor
section
def DR(p:aJ):Int:=if p.kind=1 then p.depth+1 else p.depth
def sN(r:Int)(a:List aJ):Int:=match a.getLast? with | none=>r | some p=>DR p
def Steps(r:Int):List aJ→Prop
 | []=>True
 | x::t=>x.depth≤r∧Steps (DR x) t
theorem oV(r:Int)(x:aJ)(a:List aJ):sN r (x::a)=sN (DR x) a:=by
 unfold sN;cases a with
 | nil=>rfl
 | cons y a=>rw[List.getLast?_cons_cons]; cases h:(y::a).getLast? with
  | none=>simp at h
  | some p=>rfl
theorem l9:∀{a b:List aJ} {r:Int},Steps r (a++b)↔Steps r a∧Steps (sN r a) b
 | [],b,r=>by simp only[aib,Steps,true_and]; rfl
 | x::a,b,r=>by
  rw[ahO,oV]
  show x.depth≤r∧Steps (DR x) (a++b)↔(x.depth≤r∧Steps (DR x) a)∧_
  rw[l9,and_assoc]
theorem Steps.mono{r r':Int}(h:r≤r'):∀{l:List aJ},Steps r l→Steps r' l
 | [],_=>trivial
 | x::l,hl=>⟨by have:=hl.1; omega,hl.2⟩
theorem sO{l:List aJ}:VL l↔(∀x∈l,x.chk=0)∧(l.map aJ.id).Nodup∧Steps 0 l:=by
 rw[KE];refine and_congr_right fun _=>and_congr_right fun _=>?_;have key:∀(l:List aJ) (r:Int),(∀a x b,l=a++x::b→x.depth≤sN r a)↔Steps r l:=by
  intro l;induction l with
  | nil=>intro r; exact⟨fun _=>trivial,fun _ a x b h=>by simp at h⟩
  | cons y l ih =>
   intro r;show _↔y.depth≤r∧Steps (DR y) l;rw[←ih];constructor
   ·intro h;refine⟨h [] y l rfl,fun a x b e=>?_⟩;rw[←oV r];exact h (y::a) x b (by rw[e]; rfl)
   rintro⟨h1,h2⟩ a x b e;cases a with
   | nil =>
    simp only[aib,ahA]at e;rw[←e.1]; exact h1
   | cons z a =>
    simp only[ahO,ahA]at e;rw[←e.1,oV];exact h2 a x b e.2
 exact key l 0
theorem VL.depth{l:List aJ}(h:VL l):∀x∈l,0≤x.depth∧x.depth<8:=fun x hx=>(aJ.DL ((KE.1 h).1 x hx)).2.2.2.2
theorem Steps.cut{A B S:List aJ}{x:aJ}{r:Int}(h:Steps r (A++x::(S++B)))(hB:∀y∈B.head?,y.depth≤x.depth):Steps r (A++B):=by
 rw[l9]at h ⊢;refine⟨h.1,?_⟩;cases B with
 | nil=>trivial
 | cons y B =>
  have h1:=hB y rfl;have h2:=h.2.1;have h3:=(l9.1 h.2.2).2;exact⟨by omega,h3.2⟩
theorem VL.sub{l m:List aJ}(h:VL l)(hs:m.Sublist l)(hm:Steps 0 m):VL m:=by
 obtain⟨h1,h2,h3⟩:=sO.1 h;exact sO.2 ⟨fun x hx=>h1 x (hs.subset hx),h2.sublist (hs.map _),hm⟩
theorem VL.take{l:List aJ}(h:VL l)(n:Nat):VL (l.take n):=by
 refine h.sub (List.take_sublist n l) ?_;have:=(sO.1 h).2.2;rw[←ait n l,l9]at this;exact this.1
theorem drop_cons{l:List aJ}{i:Nat}(hi:i<l.length):l=l.take i++l[i]::l.drop (i+1):=by rw[ajw,ait]
theorem VL.KF{l:List aJ}{i:Nat}(h:VL l)(hi:i<l.length):VL (KF l i (iW l i)):=by
 obtain⟨e1,e2⟩:=Fg hi;refine h.sub ?_ ?_
 ·unfold Go.Proofs.YtiafijffnejhoaaGreatDoor.KF;have:l=l.take i++l.drop i:=(ait _ _).symm;have e3:l.drop (iW l i)=(l.drop i).drop (iW l i-i):=by rw[aiQ]; congr 1; omega
  rw[e3];have h5:=List.Sublist.append_left (List.drop_sublist (iW l i-i) (l.drop i)) (l.take i);rw[ait]at h5;exact h5
 have hs:=(sO.1 h).2.2;have e:l=l.take i++l[i]::((l.drop (i+1)).take (iW l i-(i+1))++l.drop (iW l i)):=by
  conv=>lhs; rw[drop_cons hi]
  congr 2;rw[show l.drop (iW l i)=(l.drop (i+1)).drop (iW l i-(i+1)) by rw[aiQ]; congr 1; omega,ait]
 rw[e]at hs;refine Steps.cut hs fun y hy=>?_;rw[List.head?_drop]at hy;have hl:iW l i<l.length:=by
  by_cases hx:iW l i<l.length
  ·exact hx
  rw[List.getElem?_eq_none (by omega)]at hy; cases hy
 rw[List.getElem?_eq_getElem hl]at hy;cases hy;have h4:=(mO (n:=l.length) (f:=vN l) hi).2.2.2;rw[←Io hi,oM hi,oM hl]at h4;exact h4 hl
theorem KH{pre:List aJ}{x:aJ}(h:x.chk≠0):fJ pre x=x.chk:=by unfold fJ; rw[ahf h]
def aJ.moved(n:aJ)(root to:Int):aJ:={n with depth:=IntKind.i64.wrap (n.depth+IntKind.i64.wrap (to-root))}
end
section
def iV.agh(c:aO):iV:=⟨5,0,0,0,.zero,c⟩
def vO:Nat→List aJ→List (List aJ)
 | m+1,x::t=>(x::t.takeWhile fun κ=>decide (x.depth<κ.depth))::vO m (t.dropWhile fun κ=>decide (x.depth<κ.depth))
 | _,_=>[]
def yh(l:List aJ):List (List aJ):=vO l.length l
def pK:List (List aJ)→List (List aJ)→Nat
 | x::a,y::b=>if x=y then pK a b+1 else 0
 | _,_=>0
def qK(x y:List (List aJ)):Nat:=pK (x.drop (pK x y)).reverse (y.drop (pK x y)).reverse
theorem VL.head{l:List aJ}(h:VL l):∀y∈l.head?,y.depth=0:=by
 intro y hy;cases l with
 | nil=>cases hy
 | cons x t =>
  cases hy;have h1:=(sO.1 h).2.2.1;have h2:=h.depth _ ahZ;omega
def Runs(s:aY)(es:List iV)(t:aY):Prop:=∀k,dG s es k=(t,((k+es.length:Nat):Int),0)
theorem Runs.nil(s:aY):Runs s [] s:=fun k=>rfl
theorem Runs.cons{s t u:aY}{e:iV}{es:List iV}(h:oU s e=(t,0))(h2:Runs t es u):Runs s (e::es) u:=fun k=>by
 unfold dG;rw[h,ahf rfl,h2 (k+1),ahL];congr 2;congr 1;omega
theorem Runs.append:∀{es es2:List iV} {s t u:aY},Runs s es t→Runs t es2 u→Runs s (es++es2) u
 | [],es2,s,t,u,h1,h2=>by
  have:=h1 0
  unfold dG at this
  cases this
  exact h2
 | e::es,es2,s,t,u,h1,h2=>by
  have h0:=h1 0
  unfold dG at h0
  split at h0
  ·rename_i he
   have h3:Runs (oU s e).1 es t:=fun k=>by
    have h4:=h1 k
    unfold dG at h4
    cases k with
    | zero =>
     rw[ahf he]at h4
     have h5:∀(es:List iV) (s t:aY) (k m:Nat),dG s es k=(t,((k+es.length:Nat):Int),0)→dG s es m=(t,((m+es.length:Nat):Int),0):=by
      intro es
      induction es with
      | nil=>intro s t k m h; unfold dG at h ⊢; cases h; rfl
      | cons e es ih =>
       intro s t k m h
       unfold dG at h ⊢
       split at h
       ·rename_i he; rw[ahf he]
        have:=ih _ t (k+1) (m+1) (by rw[h,ahL]; congr 2; congr 1; omega)
        rw[this,ahL]; congr 2; congr 1; omega
       ·rename_i he; simp only[ahg]at h; exact absurd h.2.2 he
     exact h5 es _ t 1 0 (by rw[show(0+1:Nat)=1 from rfl]at h4; rw[h4,ahL]; congr 2; congr 1; omega)
    | succ k =>
     have h4:=h1 k
     unfold dG at h4
     rw[ahf he]at h4
     rw[h4,ahL]; congr 2; congr 1; omega
   rw[ahO]
   exact Runs.cons (t:=(oU s e).1) (by rw[←he]) (Runs.append h3 h2)
  ·rename_i he
   simp only[ahg]at h0
   exact absurd h0.2.2 he
def aY.put(s:aY)(l:List aJ):aY:=⟨s.w,s.h,s.bg,l⟩
end
section
theorem yP:∀{m k:Nat} {l:List aJ},l.length≤m→l.length≤k→vO m l=vO k l
 | 0,k,l,h,_=>by have:=aia (by omega:l.length=0); subst this; cases k<;>rfl
 | m+1,0,l,_,h=>by have:=aia (by omega:l.length=0); subst this; rfl
 | m+1,k+1,[],_,_=>rfl
 | m+1,k+1,x::t,h1,h2=>by
  unfold vO
  have:=(List.dropWhile_sublist (l:=t) fun κ:aJ=>decide (x.depth<κ.depth)).length_le
  rw[ahL]at h1 h2
  rw[yP (m:=m) (k:=k) (by omega) (by omega)]
theorem KI(x:aJ)(t:List aJ):yh (x::t)=(x::t.takeWhile fun κ=>decide (x.depth<κ.depth))::yh (t.dropWhile fun κ=>decide (x.depth<κ.depth)):=by
 show vO (t.length+1) (x::t)=_;have:=(List.dropWhile_sublist (l:=t) fun κ:aJ=>decide (x.depth<κ.depth)).length_le;unfold vO;rw[yP this (ahh _)];rfl
end
section
open Go.RowKit
variable{α:Type}{K:Nat}
structure dH where
 w:Int
 h:Int
 bg:aO
 nsa:Option Addr
 nsc:Nat
 ns:List aB
def dH.s(s:dH):Value := .slice s.nsa s.ns.length s.nsc
def dH.cells(s:dH):List Value:=[.i s.w,.i s.h]++s.bg.cells++[s.s]
def dH.v(s:dH):Value := .agg s.cells.toArray
def dH.key(s:dH):aY:=⟨s.w,s.h,s.bg,s.ns.map aB.key⟩
abbrev lF (K:Nat)(w:World)(v:Value)(l:List aB):Prop:=aK 47 aB.cells w v l∧∀n∈l,dZ K w n
def mg(K:Nat)(w:World)(s:dH):Prop:=I64 s.w∧I64 s.h∧lF K w s.s s.ns
structure ku where
 kind:Int
 id:Int
 index:Int
 depth:Int
 node:aB
 color:aO
def ku.cells(e:ku):List Value:=[.i e.kind,.i e.id,.i e.index,.i e.depth]++e.node.cells++e.color.cells
def ku.v(e:ku):Value := .agg e.cells.toArray
def ku.key(e:ku):iV:=⟨e.kind,e.id,e.index,e.depth,e.node.key,e.color⟩
def KJ(K:Nat)(w:World)(e:ku):Prop:=I64 e.kind∧I64 e.id∧I64 e.index∧I64 e.depth∧dZ K w e.node
theorem lF.below{w w':World}{v:Value}{l:List aB}(h:lF K w v l)(hb:Ext w w'):lF K w' v l:=⟨h.1.below hb,fun n hn=>(h.2 n hn).below hb⟩
theorem mg.below{w w':World}{s:dH}(h:mg K w s)(hb:Ext w w'):mg K w' s:=⟨h.1,h.2.1,h.2.2.below hb⟩
theorem KJ.below{w w':World}{e:ku}(h:KJ K w e)(hb:Ext w w'):KJ K w' e:=⟨h.1,h.2.1,h.2.2.1,h.2.2.2.1,h.2.2.2.2.below hb⟩
def dH.zero:dH:=⟨0,0,.none,none,0,[]⟩
theorem Bg(pre:List aJ)(x:aJ):lM (pre++[x])=if x.kind=1 then x.depth+1 else x.depth:=by
 unfold lM;rw[List.getLast?_concat]
end
end Go.Proofs.YtiafijffnejhoaaGreatDoor
section
namespace Go.Sx
open Go.Proofs.YtiafijffnejhoaaGreatDoor Go.RowKit Go.Rel
def Bot(Q:Exit→Act→World→Prop):Exit→Act→World→Prop
 | .normal,a,w=>Q .normal a w
 | _,_,_=>False
section
variable{P:Program}{ops ops':Array Oper}{Q:Exit→Act→World→Prop}{a:Act}{w:World}
theorem Ui:¬LetsOut (Bot Q):=fun⟨_,_,h⟩=>h
def Alike(ops ops':Array Oper):Prop:=ops.size=ops'.size∧∀i:Nat,(ops[i]?).map (fun o:Oper=>(o.op,o.dst,o.guard,o.type,o.pos))=(ops'[i]?).map (fun o:Oper=>(o.op,o.dst,o.guard,o.type,o.pos))
theorem Alike.get(h:Alike ops ops'){i:Nat}{o':Oper}(hi:ops'[i]?=some o'):∃af,ops[i]?=some { o' with after:=af }:=by
 have:=h.2 i;rw[hi]at this;cases ho:ops[i]? with
 | none=>rw[ho]at this; cases this
 | some o =>
  rw[ho]at this;obtain⟨dst,op,type,pos,after,guard⟩:=o;obtain⟨dst',op',type',pos',after',guard'⟩:=o';simp only[ahW,ahd,ahg]at this;obtain⟨rfl,rfl,rfl,rfl,rfl⟩:=this;exact⟨after,rfl⟩
theorem Alike.none(h:Alike ops ops'){i:Nat}(hi:ops'[i]?=none):ops[i]?=none:=by
 have:=h.2 i;rw[hi]at this;cases ho:ops[i]? with
 | none=>rfl
 | some o=>rw[ho]at this; cases this
theorem Alike.yielded(h:Alike ops ops')(ts:Array Value):Go.yielded ops ts=Go.yielded ops' ts:=by
 funext j;unfold Go.yielded;have:=h.2 j;cases h1:ops[j]?<;>cases h2:ops'[j]?<;>rw[h1,h2]at this
 ·cases this
 ·cases this
 simp only[ahW,ahd,ahg]at this;simp only[ajg,this.2.1]
theorem Alike.exec{ρ:Operand→Value}{o:Oper}{af:Array Edge}:execOp ρ { o with after:=af }=execOp ρ o:=by
 obtain⟨dst,op,type,pos,after,guard⟩:=o;rfl
theorem Alike.wpOp(h:Alike ops ops'){i:Nat}{K K':Act→World→Prop}(hK:∀a w,K a w→K' a w)(hh:Go.wpOp P ops Q i K a w):Go.wpOp P ops' Q i K' a w:=by
 refine wpOp_mono hK ?_;unfold Go.wpOp at *;cases hi:ops'[i]? with
 | none=>rw[h.none hi]at hh; exact hh
 | some o' =>
  obtain⟨af,ho⟩:=h.get hi;rw[ho]at hh;simp only at hh ⊢;rw[h.yielded]at hh;have e1:Region.wanted { o' with after:=af }=Region.wanted o':=rfl;rw[e1]at hh;unfold Oper.wp Oper.asks at *;simp only[Alike.exec]at hh;exact hh
end
end Go.Sx
end
section
namespace Go.Sx
open Go.Proofs.YtiafijffnejhoaaGreatDoor Go.RowKit Go.Rel
section
variable{P:Program}{ops ops':Array Oper}{Q:Exit→Act→World→Prop}{a:Act}{w:World}
def Pur(P:Program)(ops:Array Oper)(H:List Nat)(a:Act):Prop:=∀h∈H,∃o v d,ops[h]?=some o∧o.guard=none∧o.dst=some d∧(∀w,(execOp a.eval o).run P w = .ok (.value v) w)∧a.put (some d) v=a
theorem Pur.op{H:List Nat}{h:Nat}(hp:Pur P ops H a)(hh:h∈H){K:Act→World→Prop}(hk:wpOp P ops (Bot Q) h K a w):K a w:=by
 obtain⟨o,v,d,ho,hg,hd,hr,hput⟩:=hp h hh;unfold wpOp at hk;rw[ho]at hk;simp only[Region.wanted,hg,if_true]at hk;rcases hk with hk | ⟨_,hk⟩
 ·unfold Oper.wp at hk;rw[hr]at hk;simp only[Oper.upon]at hk;rw[hd,hput]at hk;exact hk
 exact(Ui hk).elim
def acS(ops:Array Oper)(H:List Nat):Bool:=(List.range ops.size).all fun i=>H.contains i||(match ops[i]? with
 | some o=>(match o.dst with
  | some d=>H.all fun h=>(match ops[h]? with | some q=>q.dst != some d&&q.op.operands.all (fun x=>match x with | .tmp s=>s != d | _=>true) && !qQ q.op | none=>false)
  | none=>true)
 | none=>true)
theorem Pur.keep{H:List Nat}(hp:Pur P ops H a)(hs:acS ops H=true){i:Nat}{o:Oper}(ho:ops[i]?=some o)(hi:i∉H)(u:Value):Pur P ops H (a.put o.dst u):=by
 cases hd:o.dst with
 | none=>exact hp
 | some d =>
  intro h hh;obtain⟨q,v,d',hq,hg,hdq,hr,hput⟩:=hp h hh;unfold acS at hs;rw[ahz]at hs;have h1:=hs i (ajo.2 (Array.getElem?_eq_some_iff.1 ho).1);have hc:H.contains i=false:=by simpa using hi
  rw[hc,ho]at h1;simp only[Bool.false_or,hd,ahz]at h1;have h2:=h1 h hh;rw[hq]at h2;simp only[ahD,bne_iff_ne,ne_eq,ajh]at h2;obtain⟨⟨h3,h4⟩,h5⟩:=h2;have hne:d'≠d:=fun e=>h3 (by rw[hdq,e]);refine⟨q,v,d',hq,hg,hdq,fun w=>?_,?_⟩
  ·rw[←hr w];congr 1;refine execOp_congr q (fun cs b e1=>by rw[e1]at h5; cases h5) fun x hx=>?_;cases x with
   | tmp s =>
    rw[aje]at h4;have h6:=h4 _ hx;simp only[bne_iff_ne,ne_eq]at h6;exact kC (lg a (some d) u s (fun e=>h6 (ahl e).symm))
   | const _=>rfl
   | global _=>rfl
   | func _=>rfl
  rw[Act.put_comm a u v (fun x hx hy=>by
   simp only[ahd]at hx hy;exact hne (hy.trans hx.symm)),hput]
structure Lst (n:Nat) (H:List Nat) (L L':Array Bool):Prop where
 s1:L.size=n
 s2:L'.size=n
 at':∀j,j<n→L'.getD j true=(L.getD j true||H.contains j)
theorem Lst.set{n i:Nat}{H:List Nat}{L L':Array Bool}(h:Lst n H L L'):Lst n H (L.setIfInBounds i true) (L'.setIfInBounds i true):=by
 refine⟨by simp[h.s1],by simp[h.s2],fun j hj=>?_⟩;by_cases hij:i=j
 ·subst hij;have h1:i<L.size:=by rw[h.s1]; exact hj
  have h2:i<L'.size:=by rw[h.s2]; exact hj
  simp[Array.getD_eq_getD_getElem?,h1,h2]
 rw[getD_set_ne true hij,getD_set_ne true hij]; exact h.at' j hj
def left(n:Nat)(H:List Nat)(L:Array Bool):Nat:=(List.range n).countP fun j => !L.getD j true && !H.contains j
def acT(P:Program)(ops:Array Oper)(l:List (Nat×Value))(h:Nat):Option (Nat×Value):=match ops[h]? with
 | some o=>(match o.guard,o.dst,qQ o.op || !o.op.operands.all (fun x=>(rd (lift l) [] x).isSome),gJ (ev0 P (execOp (wQ (lift l) []) o))with
  | none,some d,false,some (.val v)=>some (d,v)
  | _,_,_,_=>none)
 | none=>none
theorem abD{l:List (Nat×Value)}{h n d:Nat}{v:Value}(hp:acT P ops l h=some (d,v))(hs:Vp.St a n l):∃o,ops[h]?=some o∧o.guard=none∧o.dst=some d∧qQ o.op=false∧∀w,(execOp a.eval o).run P w = .ok (.value v) w:=by
 unfold acT at hp;cases ho:ops[h]? with
 | none=>rw[ho]at hp; cases hp
 | some o =>
  rw[ho]at hp;simp only at hp;split at hp
  ·rename_i d' v' hg hd hav hev;simp only[ahd,ahg]at hp;obtain⟨rfl,rfl⟩:=hp;simp only[ah5]at hav;exact⟨o,rfl,hg,hd,hav.1,fun w=>lQ (Std.act a) (jd (bP hs) o) (p:=[]) rfl hav.1 (by simpa using hav.2) hev⟩
  cases hp
end
theorem Alike.trans{x y z:Array Oper}(h:Alike x y)(k:Alike y z):Alike x z:=⟨h.1.trans k.1,fun i=>(h.2 i).trans (k.2 i)⟩
theorem Bh{α:Type}{k:Nat}{f:α→List Value}{w:World}{a:Option Addr}{L:List α}{c:Nat}(h:aK k f w (.slice a L.length c) L){l h' m:Nat}(h1:l≤h')(h2:h'≤L.length)(h3:h'≤m)(h4:m≤c):aK k f w (.slice (KL a l m k) (h'-l) (m-l)) ((L.drop l).take (h'-l)):=by
 have hlen:((L.drop l).take (h'-l)).length=h'-l:=by simp; omega
 obtain⟨a',cap,hv,hm,hh⟩:=h;simp only[ahE,true_and]at hv;obtain⟨rfl,rfl⟩:=hv;refine⟨KL a l m k,m-l,by rw[hlen],ahC (by omega) hm,?_⟩;rcases hh with ⟨rfl,hz⟩ | ⟨b,o,rfl,hb,hl,hc⟩
 ·refine .inl ⟨by simp,fun e=>?_⟩;have:c=0:=hz (by
   unfold KL at e;split at e
   ·exact e
   cases a with
   | none=>rfl
   | some _=>cases e)
  omega
 by_cases hlm:m=l
 ·refine .inl ⟨by rw[show h'-l=0 by omega]; rfl,fun e=>by
  unfold KL at e; rw[ahf hlm]at e; cases e⟩
 refine .inr ⟨b,o+l*k,by unfold KL; rw[ahe hlm]; simp[Addr.add],hb,by rw[hlen]; omega,fun i hi j hj=>?_⟩;rw[hlen]at hi;have h5:=hc (l+i) (by omega) j hj;have e1:o+l*k+i*k+j=o+(l+i)*k+j:=by rw[aio]; omega
 rw[e1,h5,List.getElem_take,ajj]
theorem Bj{α:Type}{k:Nat}{f:α→List Value}{w:World}{a:Option Addr}{L:List α}{c:Nat}(h:aK k f w (.slice a L.length c) L):L.length≤c:=by
 obtain⟨a',cap,hv,hm,hh⟩:=h;simp only[ahE,true_and]at hv;obtain⟨rfl,rfl⟩:=hv;rcases hh with ⟨rfl,_⟩ | ⟨b,o,_,_,hl,_⟩
 ·exact ahk _
 exact hl
theorem eY{w w':World}{B:Nat}{e:TypeId}{k n:Nat}{v:Value}{xs:List Value}(h:w.ownsRow B e k v n xs)(hE:Ext w w'):w'.ownsRow B e k v n xs:=nI h fun g hg=>hE.block g (jQ h hg).2
def evV(P:Program)(o:Oper)(l:List (Nat×Value)):Option Value:=match qQ o.op || !o.op.operands.all (fun x=>(rd (lift l) [] x).isSome),gJ (ev0 P (execOp (wQ (lift l) []) o))with
 | false,some (.val v)=>some v
 | _,_=>none
theorem Xr{P:Program}{w:World}{os:List Oper}{i:Nat}{o:Oper}{ρ:Operand→Value}(ho:os[i]?=some o)(hs:Std ρ)(l:List (Nat×Value))(hl:∀q v,l.lookup q=some v→ρ (.tmp q)=v){Post:Value→World→Prop}(v:Value)(hK:Post v w)
  (hx:(os[i]?).bind (fun o=>evV P o l)=some v:=by kernel_rfl):Does P o ρ w Post:=by
 rw[ho,ajg]at hx;unfold evV at hx;split at hx
 ·rename_i v' hav hev;obtain rfl:=ahl hx;simp only[ah5]at hav;have hH:Holds ρ (lift l):=fun q x hq=>by
   rw[jy]at hq;cases h2:l.lookup q with
   | none=>simp[h2]at hq
   | some u =>
    simp only[h2,ahW,ahd]at hq;subst hq;rw[hl q u h2]; rfl
  have hrun:(execOp ρ o).run P w = .ok (.value v') w:=lQ hs (jd hH o) (p:=[]) rfl hav.1 (by simpa using hav.2) hev;unfold Does;rw[hrun];exact hK
 cases hx
end Go.Sx
end
