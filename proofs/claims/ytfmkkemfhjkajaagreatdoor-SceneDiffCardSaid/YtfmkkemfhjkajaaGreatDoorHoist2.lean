/- A region that draws its order, where some operations are -/
import Derived.Test.YtfmkkemfhjkajaaGreatDoorHoist
namespace Go.Sx
open Go.Proofs.YtfmkkemfhjkajaaGreatDoor Go.RowKit Go.Rel
set_option linter.unusedVariables false
section
variable{P:Program}{ops ops':Array Oper}{Q:Exit→Act→World→Prop}{a:Act}{w:World}
theorem aaM{I:Act→Prop}{i:Nat}{K K':Act→World→Prop}(h0:I a)(hu:∀o,ops[i]?=some o→∀b,I b→∀u,I (b.put o.dst u))(hd:∀b d,I b→I { b with defers:=d })(hK:∀a w,I a→K a w→K' a w)(h:wpOp P ops (Ol Q) i K a w):wpOp P ops (Ol Q) i K' a w:=by
 unfold wpOp at *;cases ho:ops[i]? with
 | none=>rw[ho]at h; exact hK _ _ h0 h
 | some o =>
  have hu:=hu o ho;rw[ho]at h;simp only at h ⊢;split at h
  ·rename_i hw;rw[anv hw];rcases h with h | ⟨_,h⟩
   ·left;unfold Oper.wp at *;generalize (execOp a.eval o).run P w=r at *;cases r with
    | ok n w' =>
     cases n<;>simp only[Oper.upon]at h ⊢;case value u=>exact hK _ _ (hu a h0 u) h
     case skip=>exact hK _ _ (hu a h0 _) h
     case defer d=>exact hK _ _ (hu _ (hd a _ h0) _) h
     case enter f args =>
      refine Calls.mono h fun e w'' he=>?_;cases e with
      | returned u=>exact hK _ _ (hu a h0 u) he
      | panicked c=>exact he.elim
      | outgrown=>exact(vY he).elim
     case row row args=>exact Rows.mono h fun u w'' he=>hK _ _ (hu a h0 u) he
    | halt x w' =>
     cases x<;>simp only[Oper.upon]at h ⊢;case panic u=>exact h.elim
   exact(vY h).elim
  rename_i hw;rw[anq hw];exact hK _ _ (hu a h0 _) h
def XU(P:Program)(ops:Array Oper)(H:List Nat)(a:Act):Prop:=∀h∈H,∃o v d,ops[h]?=some o∧o.guard=none∧o.dst=some d∧(∀w,(execOp a.eval o).run P w = .ok (.value v) w)∧a.put (some d) v=a
theorem XU.op{H:List Nat}{h:Nat}(hp:XU P ops H a)(hh:h∈H){K:Act→World→Prop}(hk:wpOp P ops (Ol Q) h K a w):K a w:=by
 obtain⟨o,v,d,ho,hg,hd,hr,hput⟩:=hp h hh;unfold wpOp at hk;rw[ho]at hk;simp only[Region.wanted,hg,if_true]at hk;rcases hk with hk | ⟨_,hk⟩
 ·unfold Oper.wp at hk;rw[hr]at hk;simp only[Oper.upon]at hk;rw[hd,hput]at hk;exact hk
 exact(vY hk).elim
theorem XU.defer{H:List Nat}(hp:XU P ops H a)(ds:List Deferred):XU P ops H { a with defers:=ds }:=fun h hh=>by
 obtain⟨o,v,d,ho,hg,hd,hr,hput⟩:=hp h hh;refine⟨o,v,d,ho,hg,hd,hr,?_⟩;have h1:=anu Act.tmps hput;show({ tmps:=a.tmps.setIfInBounds d v,defers:=ds }:Act)=_;rw[show a.tmps.setIfInBounds d v=a.tmps from h1]
def adG(ops:Array Oper)(H:List Nat):Bool:=(List.range ops.size).all fun i=>H.contains i||(match ops[i]? with
 | some o=>(match o.dst with
  | some d=>H.all fun h=>(match ops[h]? with | some q=>q.dst != some d&&q.op.operands.all (fun x=>match x with | .tmp s=>s != d | _=>true) && !yx q.op | none=>false)
  | none=>true)
 | none=>true)
theorem XU.keep{H:List Nat}(hp:XU P ops H a)(hs:adG ops H=true){i:Nat}{o:Oper}(ho:ops[i]?=some o)(hi:i∉H)(u:Value):XU P ops H (a.put o.dst u):=by
 cases hd:o.dst with
 | none=>exact hp
 | some d =>
  intro h hh;obtain⟨q,v,d',hq,hg,hdq,hr,hput⟩:=hp h hh;unfold adG at hs;rw[anV]at hs;have h1:=hs i (apb.2 (Array.getElem?_eq_some_iff.1 ho).1);have hc:H.contains i=false:=by simpa using hi
  rw[hc,ho]at h1;simp only[apM,hd,anV]at h1;have h2:=h1 h hh;rw[hq]at h2;simp only[anM,bne_iff_ne,ne_eq,apc]at h2;obtain⟨⟨h3,h4⟩,h5⟩:=h2;have hne:d'≠d:=fun e=>h3 (by rw[hdq,e]);refine⟨q,v,d',hq,hg,hdq,fun w=>?_,?_⟩
  ·rw[←hr w];congr 1;refine execOp_congr q (fun cs b e1=>by rw[e1]at h5; cases h5) fun x hx=>?_;cases x with
   | tmp s =>
    rw[apG]at h4;have h6:=h4 _ hx;simp only[bne_iff_ne,ne_eq]at h6;exact nZ (qw a (some d) u s (fun e=>h6 (anG e).symm))
   | const _=>rfl
   | global _=>rfl
   | func _=>rfl
  rw[Act.put_comm a u v (fun x hx hy=>by
   simp only[anx]at hx hy;exact hne (hy.trans hx.symm)),hput]
def pq(ops:Array Oper)(i:Nat):List Nat:=match ops[i]? with | some o=>o.after.toList.filterMap (fun e=>match Region.binds .any e with | true=>some e.on | false=>none) | none=>[]
theorem Gq{i j:Nat}{o:Oper}(ho:ops[i]?=some o):j∈pq ops i↔∃e∈o.after,Region.binds .any e=true∧e.on=j:=by
 unfold pq;rw[ho];simp only[aoL,Array.mem_toList_iff];constructor
 ·rintro⟨e,he,h⟩;split at h
  ·rename_i hb; exact⟨e,he,hb,anG h⟩
  cases h
 rintro⟨e,he,hb,rfl⟩;exact⟨e,he,by rw[hb]⟩
theorem qx{L:Array Bool}{j:Nat}:j∈Region.ready .any ops L↔j<ops.size∧L.getD j true=false∧∀q∈pq ops j,L.getD q false=true:=by
 rw[mem_ready];constructor
 ·rintro⟨h0,o,ho,hall⟩;refine⟨(Array.getElem?_eq_some_iff.1 ho).1,h0,fun q hq=>?_⟩;obtain⟨e,he,hb,rfl⟩:=(Gq ho).1 hq;exact hall e he hb
 rintro⟨hlt,h0,h⟩;refine⟨h0,ops[j],Array.getElem?_eq_getElem hlt,fun e he hb=>h _ ((Gq (Array.getElem?_eq_getElem hlt)).2 ⟨e,he,hb,rfl⟩)⟩
def need(ops:Array Oper)(H:List Nat):Nat→Nat→List Nat
 | 0,_=>[]
 | f+1,h=>(pq ops h).flatMap fun q=>match H.contains q with | true=>need ops H f q | false=>[q]
def VY(ops plan:Array Oper)(H:List Nat):Bool:=
 ops.size==plan.size&&H.all (fun h=>decide (h<ops.size)&&(pq plan h).all fun q=>decide (q<h))&&(List.range ops.size).all fun i=>(pq ops i).all (fun q=>(pq plan i).contains q&&decide (q<ops.size))&&(H.contains i||(pq plan i).all fun q =>
  match H.contains q with | true=>(need plan H ops.size q).all fun r=>(pq ops i).contains r | false=>(pq ops i).contains q)
structure Lst (n:Nat) (H:List Nat) (L L':Array Bool):Prop where
 s1:L.size=n
 s2:L'.size=n
 at':∀j,j<n→L'.getD j true=(L.getD j true||H.contains j)
theorem vZ{L:Array Bool}{j:Nat}(h:j<L.size)(a b:Bool):L.getD j a=L.getD j b:=by simp[Array.getD_eq_getD_getElem?,Array.getElem?_eq_getElem h]
theorem Lst.set{n i:Nat}{H:List Nat}{L L':Array Bool}(h:Lst n H L L'):Lst n H (L.setIfInBounds i true) (L'.setIfInBounds i true):=by
 refine⟨by simp[h.s1],by simp[h.s2],fun j hj=>?_⟩;by_cases hij:i=j
 ·subst hij;have h1:i<L.size:=by rw[h.s1]; exact hj
  have h2:i<L'.size:=by rw[h.s2]; exact hj
  simp[Array.getD_eq_getD_getElem?,h1,h2]
 rw[getD_set_ne true hij,getD_set_ne true hij]; exact h.at' j hj
theorem Lst.setH{n i:Nat}{H:List Nat}{L L':Array Bool}(h:Lst n H L L')(hi:i∈H):Lst n H (L.setIfInBounds i true) L':=by
 refine⟨by simp[h.s1],h.s2,fun j hj=>?_⟩;rw[h.at' j hj];by_cases hij:i=j
 ·subst hij;have hc:H.contains i=true:=by simpa using hi
  rw[hc,Bool.or_true,Bool.or_true]
 rw[getD_set_ne true hij]
def left(n:Nat)(H:List Nat)(L:Array Bool):Nat:=(List.range n).countP fun j => !L.getD j true && !H.contains j
theorem aaN{n i:Nat}{H:List Nat}{L:Array Bool}(hs:L.size=n)(hi:i<n)(h0:L.getD i true=false)(hH:i∉H):left n H (L.setIfInBounds i true)<left n H L:=by
 unfold left;have hi':i∈List.range n:=apb.2 hi;obtain⟨s,t,hst⟩:=List.append_of_mem hi';have hnd:=List.nodup_range (n:=n);rw[hst]at hnd ⊢;have hd:=aoH.1 hnd;have hc:H.contains i=false:=by simpa using hH
 have hsame:∀l:List Nat,i∉l→l.countP (fun j => !(L.setIfInBounds i true).getD j true && !H.contains j)=l.countP fun j => !L.getD j true && !H.contains j:=by
  intro l hl;refine List.countP_congr fun j hj=>?_;rw[getD_set_ne true (fun e:i=j=>hl (e▸hj))]
 have h1:i∉s:=fun hm=>hd.2.2 i hm i (by simp) rfl;have h2:i∉t:=(apH.1 hd.2.1).1;have h3:i<L.size:=by omega
 rw[List.countP_append,List.countP_append,List.countP_cons,List.countP_cons,hsame s h1,hsame t h2];have e1:(L.setIfInBounds i true).getD i true=true:=by simp[Array.getD_eq_getD_getElem?,h3]
 rw[e1,h0,hc];simp
theorem XV{n i:Nat}{H:List Nat}{L:Array Bool}(hH:i∈H):left n H (L.setIfInBounds i true)=left n H L:=by
 unfold left;refine List.countP_congr fun j hj=>?_;by_cases hij:i=j
 ·subst hij;simp[hH]
 rw[getD_set_ne true hij]
theorem aaO{n i:Nat}{H:List Nat}{L:Array Bool}(hi:i<n)(h0:L.getD i true=false)(hH:i∉H):0<left n H L:=by
 unfold left;rw[List.countP_pos_iff];exact⟨i,apb.2 hi,by simp[h0,hH]⟩
theorem VZ{plan:Array Oper}{H:List Nat}{L:Array Bool}{n:Nat}(hsz:plan.size=n)(hL:L.size=n)(hb:∀h∈H,h<n∧∀q∈pq plan h,q<h)(hno:∀h∈H,h∉Region.ready .any plan L) :
  ∀(f h:Nat),h<f→h∈H→L.getD h true=false→∃q∈need plan H f h,q∉H∧q<n∧L.getD q false=false
 | 0,h,hf,_,_=>by omega
 | f+1,h,hf,hh,h0=>by
  have h1:=hno h hh
  rw[qx]at h1
  obtain⟨hlt,hq⟩:=hb h hh
  have h2:∃q∈pq plan h,L.getD q false=false:=by
   refine Classical.byContradiction fun hn=>h1 ⟨by omega,h0,fun q hqm=>?_⟩
   cases hc:L.getD q false with
   | true=>rfl
   | false=>exact(hn ⟨q,hqm,hc⟩).elim
  obtain⟨q,hqm,hqf⟩:=h2
  have hqh:=hq q hqm
  by_cases ZI:q∈H
  ·obtain⟨r,hr,hr2⟩:=VZ hsz hL hb hno f q (by omega) ZI (by rw[vZ (by omega) true false]; exact hqf)
   refine⟨r,List.mem_flatMap.2 ⟨q,hqm,?_⟩,hr2⟩
   have hc:H.contains q=true:=by simpa using ZI
   rw[hc]; exact hr
  ·refine⟨q,List.mem_flatMap.2 ⟨q,hqm,?_⟩,ZI,by omega,hqf⟩
   have hc:H.contains q=false:=by simpa using ZI
   rw[hc]; exact aoe.2 rfl
theorem TA{plan:Array Oper}{H:List Nat}(hal:Alike plan ops)(hpl:VY ops plan H=true)(hse:adG ops H=true) :
  ∀(g f:Nat) (L L':Array Bool) (a:Act) (w:World),Lst ops.size H L L'→left ops.size H L≤f→XU P ops H a→wpAny P .any plan (Ol Q) g L a w→wpAny P .any ops (Ol Q) f L' a w:=by
 unfold VY at hpl;simp only[anM,anO,anV,apb,anT,ao5,List.contains_iff_mem]at hpl;obtain⟨⟨hsz,hH⟩,hall⟩:=hpl;have hb:∀h∈H,h<ops.size∧∀q∈pq plan h,q<h:=hH;have key:∀{L L':Array Bool},Lst ops.size H L L'→(∀h∈H,h∉Region.ready .any plan L)→∀i,i∈Region.ready .any ops L'→i∉H∧i∈Region.ready .any plan L:=by
  intro L L' hl hno i hi;rw[qx]at hi;obtain⟨hlt,h0,hw⟩:=hi;have hat:=hl.at' i hlt;rw[h0]at hat;have hiH:i∉H:=fun hm=>by
   have hc:H.contains i=true:=by simpa using hm
   rw[hc,Bool.or_true]at hat; cases hat
  have hun:L.getD i true=false:=by
   cases h:L.getD i true with
   | false=>rfl
   | true=>rw[h]at hat; cases hat
  have hop:∀q∈pq ops i,q∉H→L.getD q false=true:=fun q hq ZI=>by
   have h1:=hw q hq;have XW:=((hall i hlt).1 q hq).2;have h2:=hl.at' q XW;rw[vZ (L:=L') (by rw[hl.s2]; exact XW) true false,h1]at h2;have hc:H.contains q=false:=by simpa using ZI
   rw[hc,Bool.or_false]at h2;rw[vZ (L:=L) (by rw[hl.s1]; exact XW) false true,←h2]
  refine⟨hiH,qx.2 ⟨by omega,hun,fun q hq=>?_⟩⟩;have h1:=((hall i hlt).2.resolve_left hiH) q hq;by_cases ZI:q∈H
  ·have hc:H.contains q=true:=by simpa using ZI
   rw[hc]at h1;simp only[anV,List.contains_iff_mem]at h1;have XW:=(hb q ZI).1;cases hv:L.getD q false with
   | true=>rfl
   | false =>
    obtain⟨r,hr,hrH,amb,hrf⟩:=VZ (n:=ops.size) (by omega) hl.s1 hb hno ops.size q XW ZI (by rw[vZ (by rw[hl.s1]; exact XW) true false]; exact hv);have:=hop r (h1 r hr) hrH;rw[hrf]at this; cases this
  have hc:H.contains q=false:=by simpa using ZI
  rw[hc]at h1;simp only[List.contains_iff_mem]at h1;exact hop q h1 ZI
 have back:∀{L L':Array Bool},Lst ops.size H L L'→∀i,i∉H→i∈Region.ready .any plan L→i∈Region.ready .any ops L':=by
  intro L L' hl i hiH hi;rw[qx]at hi ⊢;obtain⟨hlt,h0,hw⟩:=hi;have hlt':i<ops.size:=by omega
  refine⟨hlt',?_,fun q hq=>?_⟩
  ·have hc:H.contains i=false:=by simpa using hiH
   rw[hl.at' i hlt',h0,hc]; rfl
  have h1:=(hall i hlt').1 q hq;have h2:=hw q h1.1;rw[vZ (L:=L') (by rw[hl.s2]; exact h1.2) false true,hl.at' q h1.2,vZ (L:=L) (by rw[hl.s1]; exact h1.2) true false,h2]; rfl
 intro g;induction g with
 | zero =>
  intro f L L' a w hl hf hp hh;have hr:Region.ready .any ops L'=[]:=by
   rw[apZ];intro i hi;have:=(key hl (fun h _ hm=>by rw[hh.1]at hm; cases hm) i hi).2;rw[hh.1]at this; cases this
  cases f with
  | zero=>exact⟨hr,hh.2⟩
  | succ f=>exact⟨fun _=>hh.2,fun i hi=>by rw[hr]at hi; cases hi⟩
 | succ g ih =>
  intro f L L' a w hl hf hp hh;by_cases hex:∃h∈H,h∈Region.ready .any plan L
  ·obtain⟨h,hhH,hr⟩:=hex;have hpp:XU P plan H a:=fun h hh=>by
    obtain⟨o,v,d,ho,hg,hd,hrr,hput⟩:=hp h hh;obtain⟨af,ho2⟩:=hal.get ho;exact⟨_,v,d,ho2,hg,hd,fun w=>by rw[Alike.exec]; exact hrr w,hput⟩
   have h1:=hpp.op hhH (hh.2 h hr);exact ih f _ L' a w (hl.setH hhH) (by rw[XV hhH]; exact hf) hp h1
  have hno:∀h∈H,h∉Region.ready .any plan L:=fun h hm hr=>hex ⟨h,hm,hr⟩;have hK:=key hl hno;cases f with
  | zero =>
   have hr:∀i,i∉Region.ready .any plan L:=fun i hi=>by
    have hiH:i∉H:=fun hm=>hno i hm hi;rw[qx]at hi;have:=aaO (n:=ops.size) (by omega) hi.2.1 hiH;omega
   refine⟨?_,hh.1 (apZ.2 hr)⟩;rw[apZ];exact fun i hi=>hr i (hK i hi).2
  | succ f =>
   refine⟨fun h0=>hh.1 ?_,fun i hi=>?_⟩
   ·rw[apZ];intro i hi;have:=back hl i (fun hm=>hno i hm hi) hi;rw[h0]at this; cases this
   obtain⟨hiH,hr⟩:=hK i hi;have hst:=hh.2 i hr;have hilt:i<ops.size:=(qx.1 hi).1;have h2:=aaN hl.s1 hilt (qx.1 hr).2.1 hiH;refine Alike.wpOp hal (K:=fun a' w'=>XU P ops H a'∧wpAny P .any plan (Ol Q) g (L.setIfInBounds i true) a' w') (fun a' w' h3=>ih f _ _ a' w' hl.set (by omega) h3.1 h3.2) ?_;refine aaM (I:=XU P ops H) hp (fun o ho b hb u=>?_) (fun b d hb=>hb.defer d) (fun a w h1 h2=>⟨h1,h2⟩) hst;have ho':ops[i]?=some ops[i]:=Array.getElem?_eq_getElem hilt;obtain⟨af,ho2⟩:=hal.get ho';rw[ho2]at ho;obtain rfl:=anG ho;exact hb.keep hse ho' hiH u
def adH(P:Program)(ops:Array Oper)(l:List (Nat×Value))(h:Nat):Option (Nat×Value):=match ops[h]? with
 | some o=>(match o.guard,o.dst,yx o.op || !o.op.operands.all (fun x=>(rd (lift l) [] x).isSome),jI (ev0 P (execOp (Dk (lift l) []) o))with
  | none,some d,false,some (.val v)=>some (d,v)
  | _,_,_,_=>none)
 | none=>none
theorem Ko{l:List (Nat×Value)}{h n d:Nat}{v:Value}(hp:adH P ops l h=some (d,v))(hs:Vp.St a n l):∃o,ops[h]?=some o∧o.guard=none∧o.dst=some d∧yx o.op=false∧∀w,(execOp a.eval o).run P w = .ok (.value v) w:=by
 unfold adH at hp;cases ho:ops[h]? with
 | none=>rw[ho]at hp; cases hp
 | some o =>
  rw[ho]at hp;simp only at hp;split at hp
  ·rename_i d' v' hg hd hav hev;simp only[anx,anD]at hp;obtain⟨rfl,rfl⟩:=hp;simp only[aom]at hav;exact⟨o,rfl,hg,hd,hav.1,fun w=>rF (Std.act a) (jX (dL hs) o) (p:=[]) rfl hav.1 (by simpa using hav.2) hev⟩
  cases hp
def V3(P:Program)(ops:Array Oper):List (Nat×Value)→List Nat→Array Bool→Option (List (Nat×Value))
 | _,[],_=>some []
 | l,p::H,L=>match adH P ops l p,(Region.ready .any ops L).contains p&&Region.free .any ops L p with
  | some q,true=>(match V3 P ops (q::l) H (L.setIfInBounds p true)with | some r=>some (q::r) | none=>none)
  | _,_=>none
abbrev aaP (l vals:List (Nat×Value)):List (Nat×Value):=vals.foldl (fun l p=>p::l) l
abbrev AA (H:List Nat)(L:Array Bool):Array Bool:=H.foldl (fun L p=>L.setIfInBounds p true) L
theorem aaQ(hs:Region.noSelect ops=true){n f:Nat}:∀(H:List Nat) (vals l:List (Nat×Value)) (L:Array Bool) (a:Act) (w:World),Vp.St a n l→V3 P ops l H L=some vals→vals.all (fun p=>decide (p.1<n))=true →
  (∀a1,Vp.St a1 n (aaP l vals)→wpAny P .any ops (Ol Q) f (AA H L) a1 w)→wpAny P .any ops (Ol Q) (f+H.length) L a w
 | [],vals,l,L,a,w,hS,ht,hd,h=>by
  obtain rfl:[]=vals:=anG ht
  exact h a hS
 | p::H,vals,l,L,a,w,hS,ht,hd,h=>by
  unfold V3 at ht
  split at ht
  ·rename_i q hq hb
   split at ht
   ·rename_i r hr
    obtain rfl:=anG ht
    obtain⟨d,v⟩:=q
    obtain⟨o,ho,hg,hdst,hsel,hrun⟩:=Ko hq hS
    simp only[anM]at hb
    simp only[apN,anM,anT]at hd
    rw[an1,←apo]
    refine wpAny_take (v:=v) ho hs hb.2 hb.1 (fun c a w h=>h.elim) (.inl ⟨by simp[Region.wanted,hg],hrun⟩) ?_
    rw[hdst]
    exact aaQ hs H r _ _ _ w (hS.put d hd.1 v) hr hd.2 h
   ·cases ht
  ·cases ht
theorem OZ{l vals:List (Nat×Value)}(hl:vals.all (fun p=>(l.lookup p.1).isNone)=true){i:Nat}{v:Value}(hi:l.lookup i=some v):(aaP l vals).lookup i=some v:=by
 have:∀(vals:List (Nat×Value)) (m:List (Nat×Value)),vals.all (fun p=>(l.lookup p.1).isNone)=true→m.lookup i=some v→(aaP m vals).lookup i=some v:=by
  intro vals;induction vals with
  | nil=>intro m _ h; exact h
  | cons p vals ih =>
   intro m h1 h2;simp only[apN,anM,Option.isNone_iff_eq_none]at h1;refine ih (p::m) h1.2 ?_;rw[aox];have:(i==p.1)=false:=by
    by_cases e:i=p.1
    ·rw[e,h1.1]at hi; cases hi
    simpa using e
   rw[this]; exact h2
 exact this vals l hl hi
end
def TB(F:List Nat)(t:Nat)(G:List Nat)(os:List Oper):List Oper:=G.foldl (fun os g=>zM [g-1] g os) (zM F t os)
theorem Alike.trans{x y z:Array Oper}(h:Alike x y)(k:Alike y z):Alike x z:=⟨h.1.trans k.1,fun i=>(h.2 i).trans (k.2 i)⟩
theorem Gs(F:List Nat)(t:Nat)(os:List Oper):Alike (zM F t os).toArray os.toArray:=⟨by unfold zM; simp,fun i=>by
 rw[List.getElem?_toArray,List.getElem?_toArray,BO];split
 ·cases os[i]?<;>rfl
 rfl⟩
theorem TD(F:List Nat)(t:Nat):∀(G:List Nat) (os:List Oper),Alike (TB F t G os).toArray os.toArray:=by
 have key:∀(G:List Nat) (os:List Oper),Alike (G.foldl (fun os g=>zM [g-1] g os) os).toArray os.toArray:=by
  intro G;induction G with
  | nil=>exact fun os=>⟨rfl,fun i=>rfl⟩
  | cons g G ih=>exact fun os=>(ih _).trans (Gs _ _ _)
 exact fun G os=>(key G _).trans (Gs _ _ _)
theorem afR{P:Program}{Q:Exit→Act→World→Prop}{w0:World}{a:Act}{w:World}{os:List Oper}{n:Nat}{l:List (Nat×Value)}{bl:List (Nat×List Value)}{vs:List iM}{id:Nat}(S:St w0 a w n l bl vs)(F:List Nat)(t:Nat)(G:List Nat)(vals:List (Nat×Value))
  (next:∀a1,St w0 a1 w n l bl vs→wpAny P .any (TB F t G os).toArray (Ol Q) (TB F t G os).toArray.size (Array.replicate (TB F t G os).toArray.size false) a1 { w with drawn:=w.drawn+1 })
  (ht:V3 P os.toArray l (F++G) (Array.replicate os.length false)=some vals:=by kernel_rfl) (hv:(F++G).map (adH P os.toArray (aaP l vals))=vals.map some:=by kernel_rfl) (hl:vals.map (fun p=>(aaP l vals).lookup p.1)=vals.map (fun p=>some p.2):=by kernel_rfl)
  (hb:(vals.all (fun p=>decide (p.1<n)&&(l.lookup p.1).isNone)&&Region.noSelect os.toArray&&VY os.toArray (TB F t G os).toArray (F++G)&&adG os.toArray (F++G)&&decide ((F++G).length≤os.length)&&decide (F++G).Nodup)=true:=by kernel_rfl)
  (hmo:P.follows .mixedOrders=true:=by kernel_rfl):(Code.region id os.toArray true).wp P Q a w:=by
 simp only[anM,anT]at hb;obtain⟨⟨⟨⟨⟨h1,h2⟩,h3⟩,h4⟩,h5⟩,h6⟩:=hb;have hd:vals.all (fun p=>decide (p.1<n))=true:=by
  rw[anV]at h1 ⊢;exact fun p hp=>((anM _ _).mp (h1 p hp)).1
 have hn:vals.all (fun p=>(l.lookup p.1).isNone)=true:=by
  rw[anV]at h1 ⊢;exact fun p hp=>((anM _ _).mp (h1 p hp)).2
 refine apy hmo (Dz _ _ _ _ ?_);have hal:=TD F t G os;have key:=aaQ (P:=P) (Q:=Q) (ops:=os.toArray) h2 (n:=n) (f:=os.length-(F++G).length) (F++G) vals l (Array.replicate os.length false) a { w with drawn:=w.drawn+1 } S.s ht hd fun a1 hS=>?_
 ·rw[Nat.sub_add_cancel h5]at key;simpa using key
 have hS0:Vp.St a1 n l:=⟨hS.size,hS.defers,fun i v hi=>hS.has i v (OZ hn hi)⟩;have ajY:XU P os.toArray (F++G) a1:=fun h hh=>by
  obtain⟨j,hj⟩:=List.getElem?_of_mem hh;have e1:=anu (·[j]?) hv;simp only[List.getElem?_map,hj,aoa]at e1;cases hq:vals[j]? with
  | none=>rw[hq]at e1; cases e1
  | some q =>
   rw[hq]at e1;simp only[aoa,anx]at e1;obtain⟨d,v⟩:=q;obtain⟨o,ho,hg,hdst,hsel,hrun⟩:=Ko e1 hS;refine⟨o,v,d,ho,hg,hdst,hrun,?_⟩;have e2:=ap0.1 hl (d,v) (List.mem_of_getElem? hq);have e3:=hS.has d v e2;have hlt:d<a1.tmps.size:=by
    rw[hS.size];have:=anV.1 hd (d,v) (List.mem_of_getElem? hq);simpa using this
   have e4:a1.tmps[d]=v:=by simpa[Act.eval,Array.getD_eq_getD_getElem?,hlt]using e3
   show({ tmps:=a1.tmps.setIfInBounds d v,defers:=a1.defers }:Act)=a1;have e5:a1.tmps.setIfInBounds d v=a1.tmps:=by
    refine Array.ext (by simp) fun i h1 h2=>?_;rw[Array.getElem_setIfInBounds (by simpa using h1)];split
    ·rename_i e; subst e; exact e4.symm
    rfl
   rw[e5]
 refine TA hal h3 h4 _ _ _ _ a1 _ ?_ ?_ ajY (next a1 (S.act hS0))
 ·
  have hall:∀(H:List Nat) (L:Array Bool),(AA H L).size=L.size∧∀j,j<L.size→(AA H L).getD j true=(L.getD j true||H.contains j):=by
   intro H;induction H with
   | nil=>exact fun L=>⟨rfl,fun j hj=>by simp⟩
   | cons p H ih =>
    intro L;obtain⟨i1,i2⟩:=ih (L.setIfInBounds p true);refine⟨by rw[show AA (p::H) L=AA H (L.setIfInBounds p true)from rfl,i1]; simp,fun j hj=>?_⟩;rw[show AA (p::H) L=AA H (L.setIfInBounds p true)from rfl,i2 j (by simpa using hj)];by_cases hpj:p=j
    ·subst hpj;simp[Array.getD_eq_getD_getElem?,hj]
    rw[getD_set_ne true hpj];have:(j==p)=false:=by simpa using fun e:j=p=>hpj e.symm
    rw[List.contains_cons,this,apM]
  obtain⟨i1,i2⟩:=hall (F++G) (Array.replicate os.length false);have hsz:(TB F t G os).toArray.size=os.length:=by rw[hal.1]; simp
  exact⟨by rw[hsz]; simp,by rw[i1]; simp,fun j hj=>by rw[i2 j (by simpa using hj),hsz]⟩
 have hsz:(TB F t G os).toArray.size=os.length:=by rw[hal.1]; simp
 rw[hsz];unfold left;have hlen:∀(H:List Nat),H.Nodup→(∀h∈H,h<os.length)→((List.range os.length).countP fun j => !H.contains j)=os.length-H.length:=by
  intro H hnd hlt;have h7:(List.range os.length).countP (fun j=>H.contains j)=H.length:=by
   have e1:((List.range os.length).filter fun j=>H.contains j).Perm H:=by
    refine(List.perm_ext_iff_of_nodup (List.nodup_range.filter _) hnd).2 fun x=>?_;simp only[List.mem_filter,apb,List.contains_iff_mem];exact⟨fun h=>h.2,fun h=>⟨hlt x h,h⟩⟩
   rw[List.countP_eq_length_filter,e1.length_eq]
  have h8:=List.length_eq_countP_add_countP (fun j=>H.contains j) (l:=List.range os.length);rw[List.length_range,h7]at h8;have h9:(List.range os.length).countP (fun j => !H.contains j)=(List.range os.length).countP fun a=>decide ¬(H.contains a=true):=List.countP_congr fun j hj=>by simp
  rw[h9]; omega
 refine Nat.le_of_eq ((List.countP_congr fun j hj=>?_).trans (hlen (F++G) h6 fun h hh=>?_))
 ·have hj':=apb.1 hj;have e1:(Array.replicate os.length false).getD j true=false:=by rw[Array.getD_eq_getD_getElem?,Array.getElem?_replicate,anv (by simpa using hj')]; rfl
  rw[e1]; rfl
 unfold VY at h3;simp only[anM,anV,anT]at h3;have:=(h3.1.2 h hh).1;simpa using this
theorem O4{P:Program}{w:World}{os:List Oper}{i:Nat}{o:Oper}{ρ:Operand→Value}(ho:os[i]?=some o)(hs:Std ρ)(l:List (Nat×Value))(hl:∀q v,l.lookup q=some v→ρ (.tmp q)=v)(A:List Value)(sh:Option Nat){Post:Value→World→Prop}(hT:∀v w',pz w.heap.size A sh v w'→Ext w w'→Post v w')
  (hx:∀r,((os[i]?).bind fun o=>MH P r [o] l).map (fun q=>(q.1,q.2.2.1,q.2.2.2.isSome))=some (A,shV sh r,true):=by intro r; kernel_rfl):Does P o ρ w Post:=by
 have hx:=hx w.heap.size;rw[ho,apx]at hx;unfold MH at hx;simp only at hx;split at hx
 ·rename_i A' ty k' hg hav hev;split at hx
  ·rename_i v hv;simp only[aoa,anx,anD]at hx;obtain⟨rfl,rfl,hd⟩:=hx;simp only[aom]at hav;have hH:Holds ρ (lift l):=fun q x hq=>by
    rw[lH]at hq;cases h2:l.lookup q with
    | none=>simp[h2]at hq
    | some u =>
     simp only[h2,aoa,anx]at hq;subst hq;rw[hl q u h2]; rfl
   have hc:execOp ρ o=execOp (Dk (lift l) []) o:=by
    refine execOp_congr o (fun cs b e1=>by rw[e1]at hav; cases hav.1) fun x hx=>?_;have h2:=hav.2;simp only[ao6,apG]at h2;obtain⟨z,hz⟩:=apd.1 (h2 x hx);rw[iW hs (jX hH o x hx) (p:=[]) rfl hz];simp[Dk,hz]
   have hv':ev0 P k'=some (.value (shV sh w.heap.size)):=by
    unfold jI at hv;split at hv
    ·rename_i h; obtain h2:=anG hv; rw[h]; simp only[Jm.val.injEq]at h2; rw[h2]
    ·cases hv
    cases hv
   have hrun:(execOp ρ o).run P w = .ok (.value (shV sh w.heap.size)) (w.alloc (.cells A'.toArray ty)):=by rw[hc,sU hev,rW hv']
   unfold Does;rw[hrun];exact hT _ _ ⟨w.heap.size,rfl,anw _,MI _ _ _⟩ (aS _ _)
  simp at hx
 simp at hx
theorem nK{α:Type}{k:Nat}{f:α→List Value}{w:World}{a:Option Addr}{L:List α}{c:Nat}(h:aN k f w (.slice a L.length c) L){l h' m:Nat}(h1:l≤h')(h2:h'≤L.length)(h3:h'≤m)(h4:m≤c):aN k f w (.slice (uw a l m k) (h'-l) (m-l)) ((L.drop l).take (h'-l)):=by
 have hlen:((L.drop l).take (h'-l)).length=h'-l:=by simp; omega
 obtain⟨a',cap,hv,hm,hh⟩:=h;simp only[anY,true_and]at hv;obtain⟨rfl,rfl⟩:=hv;refine⟨uw a l m k,m-l,by rw[hlen],anN (by omega) hm,?_⟩;rcases hh with ⟨rfl,hz⟩ | ⟨b,o,rfl,hb,hl,hc⟩
 ·refine .inl ⟨by simp,fun e=>?_⟩;have:c=0:=hz (by
   unfold uw at e;split at e
   ·exact e
   cases a with
   | none=>rfl
   | some _=>cases e)
  omega
 by_cases hlm:m=l
 ·refine .inl ⟨by rw[show h'-l=0 by omega]; rfl,fun e=>by
  unfold uw at e; rw[anv hlm]at e; cases e⟩
 refine .inr ⟨b,o+l*k,by unfold uw; rw[anq hlm]; simp[Addr.add],hb,by rw[hlen]; omega,fun i hi j hj=>?_⟩;rw[hlen]at hi;have h5:=hc (l+i) (by omega) j hj;have e1:o+l*k+i*k+j=o+(l+i)*k+j:=by rw[aoR]; omega
 rw[e1,h5,List.getElem_take,List.getElem_drop]
theorem TF{α:Type}{e:TypeId}{k base:Nat}{f:α→List Value}{w:World}{a:Option Addr}{L:List α}{c:Nat}(h:jV e k f base (.slice a L.length c) L w){h' m:Nat}(h2:h'≤L.length)(h3:h'≤m)(h4:m≤c):jV e k f base (.slice a h' m) (L.take h') w:=by
 have h5:=nK h.1 (anz _) h2 h3 h4;have hlen:(L.take h').length=h':=by simp; omega
 have e0:((L.drop 0).take (h'-0))=L.take h':=by simp
 rw[e0,Nat.sub_zero,Nat.sub_zero]at h5;have ea:uw a 0 m k=a:=by unfold uw; split<;>cases a<;>simp[Addr.add]
 rw[ea]at h5;refine⟨h5,?_⟩;rcases h.2 with h6 | ⟨g,cap,cur,h6,h7,h8,h9⟩
 ·exact .inl (by omega)
 simp only[anY,true_and]at h6;obtain⟨rfl,rfl⟩:=h6;exact .inr ⟨g,m,cur,by rw[hlen],h7,h8,by rw[hlen]; exact anN (ao7 _ h2) h9⟩
theorem aaR(a:Option Addr)(m k:Nat):uw a 0 m k=a:=by unfold uw; split<;>cases a<;>simp[Addr.add]
theorem XY{α:Type}{k:Nat}{f:α→List Value}{w:World}{a:Option Addr}{L:List α}{c i:Nat}(h:aN k f w (.slice a L.length c) L)(hi:i≤L.length)(hc:i≤c):aN k f w (.slice (uw a 0 i k) i i) (L.take i):=by
 have:=nK h (anz i) hi (anw i) hc;simpa using this
theorem Kq{α:Type}{k:Nat}{f:α→List Value}{w:World}{a:Option Addr}{L:List α}{c i:Nat}(h:aN k f w (.slice a L.length c) L)(hi:i≤L.length)(hc:L.length≤c):aN k f w (.slice (uw a i c k) (L.length-i) (c-i)) (L.drop i):=by
 have:=nK h hi (anw _) hc (anw c);rwa [anW (by simp)]at this
theorem jO{α:Type}{k:Nat}{f:α→List Value}{w:World}{a:Option Addr}{L:List α}{c:Nat}(h:aN k f w (.slice a L.length c) L):L.length≤c:=by
 obtain⟨a',cap,hv,hm,hh⟩:=h;simp only[anY,true_and]at hv;obtain⟨rfl,rfl⟩:=hv;rcases hh with ⟨rfl,_⟩ | ⟨b,o,_,_,hl,_⟩
 ·exact anz _
 exact hl
theorem gQ{w w':World}{B:Nat}{e:TypeId}{k n:Nat}{v:Value}{xs:List Value}(h:w.ownsRow B e k v n xs)(hE:Ext w w'):w'.ownsRow B e k v n xs:=nM h fun g hg=>hE.block g (jc h hg).2
theorem aaS{P:Program}{w:World}{o:Oper}{ρ:Operand→Value}{s x:Operand}{t e:TypeId}(ho:o.op = .call { callee := .builtin .append,args := #[s,x],argTypes := #[t,t] }){z:Value}{k bytes:Nat}(T:iL P t e z k bytes)
  {A:Option Addr} {f:Nat} {xs:List Value} (hv:gI w k (.slice A f f) f xs) (hs:ρ s = .slice A f f) {y:Value} {c:Nat} {ys:List Value} (hy:gI w k y c ys) (hx:ρ x=y) (hc0:0<c) (h63:f+c≤maxLen) (hbytes:(f+c)*bytes≤140737488355328) :
  ∃v' w',(execOp ρ o).run P w = .ok (.value v') w'∧w'.ownsRow w.heap.size e k v' (f+c) (xs++ys)∧Ext w w':=by
 cases A with
 | some ad=>exact O5 ho T hv hs hy hx (by omega) hc0 h63 hbytes
 | none =>
  have hf:f=0:=by
   rcases hv.2.2 with ⟨h,_⟩ | ⟨_,_,_,h,_⟩
   ·exact h
   cases h
  subst hf;have hxs:xs=[]:=aoB (by simpa using hv.1);subst hxs;obtain⟨v',w',hr,h2,h3,-⟩:=V4 (P:=P) (B:=w.heap.size) ho T (v := .slice none 0 0) (m:=0) (xs:=[]) ⟨by simp,.inl ⟨rfl,rfl⟩⟩ hs hy hx h63 hbytes (anw _);exact⟨v',w',hr,h2,⟨h3.os,h3.tape,h3.output,h3.size,fun i hi=>h3.block i hi fun e=>by cases e⟩⟩
def O6(os:List Oper)(i:Nat):Option (Operand×Operand×TypeId×Bool):=match os[i]? with
 | some o=>(match o.op with
  | .call c=>(match c.callee,c.args.toList,c.argTypes.toList with
   | .builtin .append,[s,x],[t,t']=>(match t==t' with | true=>some (s,x,t,o.dst.isSome) | false=>none)
   | _,_,_=>none)
  | _=>none)
 | none=>none
theorem Gt{os:List Oper}{i:Nat}{s x:Operand}{t:TypeId}{b:Bool}(h:O6 os i=some (s,x,t,b)){o:Oper}(ho:os[i]?=some o):o.op = .call { callee := .builtin .append,args := #[s,x],argTypes := #[t,t] }∧o.dst.isSome=b:=by
 unfold O6 at h;rw[ho]at h;simp only at h;split at h
 ·rename_i c hop;split at h
  ·rename_i s' x' t1 t2 h1 h2 h3;split at h
   ·rename_i ht;simp only[anx,anD]at h;obtain⟨rfl,rfl,rfl,rfl⟩:=h;obtain rfl:t1=t2:=by simpa using ht
    refine⟨?_,rfl⟩;rw[hop];obtain⟨callee,args,argTypes⟩:=c;simp only at h1 h2 h3;rw[h1,←Array.toArray_toList (xs:=args),←Array.toArray_toList (xs:=argTypes),h2,h3]
   cases h
  cases h
 cases h
theorem O7{P:Program}{w:World}{os:List Oper}{i:Nat}{o:Oper}{ρ:Operand→Value}(ho:os[i]?=some o){t e:TypeId}{z:Value}{k bytes:Nat}(T:iL P t e z k bytes){sl sx:Nat}{A:Option Addr}{f:Nat}{xs:List Value}{y:Value}{c:Nat}{ys:List Value}
  (hs:ρ (.tmp sl) = .slice A f f) (hx:ρ (.tmp sx)=y) (hv:gI w k (.slice A f f) f xs) (hy:gI w k y c ys) (hc0:0<c) (h63:f+c≤maxLen) (hbytes:(f+c)*bytes≤140737488355328) {Post:Value→World→Prop} (hK:∀v' w',w'.ownsRow w.heap.size e k v' (f+c) (xs++ys)→Ext w w'→Post v' w')
  (hop:O6 os i=some (.tmp sl,.tmp sx,t,true):=by kernel_rfl):Does P o ρ w Post:=by
 obtain⟨h1,h2⟩:=Gt hop ho;obtain⟨v',w',hr,h3,h4⟩:=aaS (P:=P) h1 T hv hs hy hx hc0 h63 hbytes;unfold Does;rw[hr];exact hK v' w' h3 h4
theorem XZ{P:Program}{w:World}{os:List Oper}{i:Nat}{o:Oper}{ρ:Operand→Value}(ho:os[i]?=some o){t e:TypeId}{z:Value}{k bytes:Nat}(T:iL P t e z k bytes){sl sx:Nat}{A B:Option Addr}{f cf c:Nat}(hf:f≤cf)
  (hs:ρ (.tmp sl) = .slice A f cf) (hx:ρ (.tmp sx) = .slice B 0 c) {Post:Value→World→Prop} (hK:Post (.slice A f cf) w) (hop:O6 os i=some (.tmp sl,.tmp sx,t,true):=by kernel_rfl):Does P o ρ w Post:=by
 obtain⟨h1,h2⟩:=Gt hop ho;obtain⟨i',hi',-⟩:=T.info;have hr:=xK (P:=P) (w:=w) (ty:=o.type) T.und hi' A B f cf c hf;have hrun:(execOp ρ o).run P w = .ok (.value (.slice A f cf)) w:=by
  unfold execOp;simp only[h1,resolve,invoke,builtin,aor,apq,ape,apT,aoh,aoI,hs,hx,hr]
 unfold Does;rw[hrun];exact hK
theorem wu{os:List Oper}{i:Nat}{o:Oper}{U:Bz}{d:Nat}{K:Fact}{v:Value}{w w':World}(ho:os[i]?=some o)(hd:(os[i]?).bind (·.dst)=some d)(hU:U.lookup d=some K)(hE:Ext w w')(h:K v w'):Ext w w'∧hpost U o (kept o v) w':=by
 rw[ho,apx]at hd;refine⟨hE,?_⟩;unfold hpost;rw[hd];simp only[hU];unfold kept;rw[hd];exact h
def evV(P:Program)(o:Oper)(l:List (Nat×Value)):Option Value:=match yx o.op || !o.op.operands.all (fun x=>(rd (lift l) [] x).isSome),jI (ev0 P (execOp (Dk (lift l) []) o))with
 | false,some (.val v)=>some v
 | _,_=>none
theorem rX{P:Program}{w:World}{os:List Oper}{i:Nat}{o:Oper}{ρ:Operand→Value}(ho:os[i]?=some o)(hs:Std ρ)(l:List (Nat×Value))(hl:∀q v,l.lookup q=some v→ρ (.tmp q)=v){Post:Value→World→Prop}(v:Value)(hK:Post v w)
  (hx:(os[i]?).bind (fun o=>evV P o l)=some v:=by kernel_rfl):Does P o ρ w Post:=by
 rw[ho,apx]at hx;unfold evV at hx;split at hx
 ·rename_i v' hav hev;obtain rfl:=anG hx;simp only[aom]at hav;have hH:Holds ρ (lift l):=fun q x hq=>by
   rw[lH]at hq;cases h2:l.lookup q with
   | none=>simp[h2]at hq
   | some u =>
    simp only[h2,aoa,anx]at hq;subst hq;rw[hl q u h2]; rfl
  have hrun:(execOp ρ o).run P w = .ok (.value v') w:=rF hs (jX hH o) (p:=[]) rfl hav.1 (by simpa using hav.2) hev;unfold Does;rw[hrun];exact hK
 cases hx
theorem look1{ρ:Operand→Value}{s:Nat}{u:Value}(h:ρ (.tmp s)=u):∀q v,List.lookup q [(s,u)]=some v→ρ (.tmp q)=v:=fun q v hq=>by
 rw[aox]at hq;split at hq
 ·rename_i hq2;obtain rfl:q=s:=by simpa using hq2
  rw[←anG hq,h]
 cases hq
end Go.Sx
theorem aph:type_of% @Go.Sx.look1:=@Go.Sx.look1
