/- A region that draws its order -/
import Derived.Test.YtodpgjjgaddkeaaGreatDoorPk10
set_option maxHeartbeats 9999999
open Go renaming World->VO,Value->aaT,Calls->abB,Program->ahe,Oper->ahk,wpList->aiw,TypeId->aix,execOp->aGe,Operand->aGf,Act->aGh,Addr->aGk,wpAny->aGm
open Go.Proofs.Tryz
set_option maxRecDepth 100000
set_option linter.unusedVariables false
set_option linter.unusedSimpArgs false
section
namespace Go.Sx
open Go.Proofs.Vy Go.RowKit Go.Rel Na
section
variable{P:ahe}{ops ops':Array ahk}{Q:Exit->aGh->VO->Prop}{a:aGh}{w:VO}
variable{i j:Nat}{H:List Nat}{v:aaT}
abbrev aeB{A00:aGh->Prop}{K K':aGh->VO->Prop}(J:A00 a)(D:∀o,ops[i]?=some o->∀b,A00 b->∀u,A00 (b.put o.dst u))(hd:∀b d,A00 b->A00 { b with defers:=d })(S:∀a w,A00 a->K a w->K' a w)(h:wpOp P ops (yT Q) i K a w):wpOp P ops (yT Q) i K' a w:=by
 unfold wpOp at *;cases ho:ops[i]? with
 | none=>rw[ho]at h; exact S _ _ J h
 | some o =>
  have D:=D o ho;rw[ho]at h;simp only at h |-;split at h
  .rename_i hw;rw[aDb hw];rcases h with h | ⟨_,h⟩
   .left;unfold Oper.wp at *;generalize (aGe a.eval o).run P w=r at *;cases r with
    | ok n w' =>
     cases n<;>simp only[Oper.upon]at h |-;case value u=>exact S _ _ (D a J u) h
     case skip=>exact S _ _ (D a J _) h
     case defer d=>exact S _ _ (D _ (hd a _ J) _) h
     case enter f args =>
      refine Calls.mono h λe aa he=>?_;cases e with
      | returned u=>exact S _ _ (D a J u) he
      | panicked c=>exact he.elim
      | outgrown=>exact(oz he).elim
     case row row args=>exact Rows.mono h λu aa he=>S _ _ (D a J u) he
    | halt x w' =>
     cases x<;>simp only[Oper.upon]at h |-;case panic u=>exact h.elim
   exact(oz h).elim
  rename_i hw;rw[aC9 hw];exact S _ _ (D a J _) h
def Pur(P:ahe)(ops:Array ahk)(H:List Nat)(a:aGh):Prop:=∀h∈H,∃o v d,ops[h]?=some o∧o.guard=none∧o.dst=some d∧(∀w,(aGe a.eval o).run P w = .ok (.value v) w)∧a.put (some d) v=a
abbrev Pur.op{H:List Nat}{h:Nat}(hp:Pur P ops H a)(hh:h∈H){K:aGh->VO->Prop}(hk:wpOp P ops (yT Q) h K a w):K a w:=by
 obtain⟨o,v,d,J,S,hd,hr,D⟩:=hp h hh;unfold wpOp at hk;rw[J]at hk;simp only[Region.wanted,S,if_true]at hk;rcases hk with hk | ⟨_,hk⟩
 .unfold Oper.wp at hk;rw[hr]at hk;simp only[Oper.upon]at hk;rw[hd,D]at hk;exact hk
 exact(oz hk).elim
abbrev Pur.defer{H:List Nat}(hp:Pur P ops H a)(J:List Deferred):Pur P ops H { a with defers:=J }:=λh S=>by
 obtain⟨o,v,d,ho,hg,hd,hr,D⟩:=hp h S;refine⟨o,v,d,ho,hg,hd,hr,?_⟩;have S:=aDc Act.tmps D;show({ tmps:=a.tmps.setIfInBounds d v,defers:=J }:aGh)=_;rw[show a.tmps.setIfInBounds d v=a.tmps from S]
def aiC(ops:Array ahk)(H:List Nat):Bool:=(List.range ops.size).all λi=>H.contains i||(match ops[i]? with
 | some o=>(match o.dst with
  | some d=>H.all λh=>(match ops[h]? with | some q=>q.dst != some d&&q.op.operands.all (λx=>match x with | .tmp s=>s != d | _=>true) && !wF q.op | none=>false)
  | none=>true)
 | none=>true)
abbrev Pur.keep{H:List Nat}(S:Pur P ops H a)(hs:aiC ops H=true){i:Nat}{o:ahk}(ho:ops[i]?=some o)(hi:i∉H)(u:aaT):Pur P ops H (a.put o.dst u):=by
 cases hd:o.dst with
 | none=>exact S
 | some d =>
  intro h hh;obtain⟨q,v,d',hq,hg,D,hr,J⟩:=S h hh;unfold aiC at hs;rw[aDF]at hs;have S:=hs i (aFj.2 (Array.getElem?_eq_some_iff.1 ho).1);have hc:H.contains i=false:=by simpa using hi
  rw[hc,ho]at S;simp only[Bool.false_or,hd,aDF]at S;have h2:=S h hh;rw[hq]at h2;simp only[aDt,bne_iff_ne,ne_eq,aEG]at h2;obtain⟨⟨h3,h4⟩,h5⟩:=h2;have S:d'≠d:=λe=>h3 (by rw[D,e]);refine⟨q,v,d',hq,hg,D,λw=>?_,?_⟩
  .rw[<-hr w];congr 1;refine execOp_congr q (λcs b D=>by rw[D]at h5; cases h5) λx D=>?_;cases x with
   | tmp s =>
    rw[aFs]at h4;have h6:=h4 _ D;simp only[bne_iff_ne,ne_eq]at h6;exact lI (oP a (some d) u s (λe=>h6 (aDo e).symm))
   | const _=>rfl
   | global _=>rfl
   | func _=>rfl
  rw[Act.put_comm a u v (λx D hy=>by
   simp only[aDe]at D hy;exact S (hy.trans D.symm)),J]
def jL(ops:Array ahk)(i:Nat):List Nat:=match ops[i]? with | some o=>o.after.toList.filterMap (λe=>match Region.binds .any e with | true=>some e.on | false=>none) | none=>[]
abbrev ni{o:ahk}(D:ops[i]?=some o):j∈jL ops i↔∃e∈o.after,Region.binds .any e=true∧e.on=j:=by
 unfold jL;rw[D];simp only[aEQ,Array.mem_toList_iff];constructor
 .rintro⟨e,he,h⟩;split at h
  .rename_i hb; exact⟨e,he,hb,aDo h⟩
  cases h
 rintro⟨e,he,hb,rfl⟩;exact⟨e,he,by rw[hb]⟩
abbrev jB{L:Array Bool}:j∈Region.ready .any ops L↔j<ops.size∧L.getD j true=false∧∀q∈jL ops j,L.getD q false=true:=by
 rw[mem_ready];constructor
 .rintro⟨h0,o,ho,hall⟩;refine⟨(Array.getElem?_eq_some_iff.1 ho).1,h0,λq S=>?_⟩;obtain⟨e,D,J,rfl⟩:=(ni ho).1 S;exact hall e D J
 rintro⟨hlt,h0,h⟩;refine⟨h0,ops[j],Array.getElem?_eq_getElem hlt,λe D J=>h _ ((ni (Array.getElem?_eq_getElem hlt)).2 ⟨e,D,J,I⟩)⟩
def need(ops:Array ahk)(H:List Nat):Nat->Nat->List Nat
 | 0,_=>[]
 | f+1,h=>(jL ops h).flatMap λq=>match H.contains q with | true=>need ops H f q | false=>[q]
def Z5(ops D:Array ahk)(H:List Nat):Bool:=
 ops.size==D.size&&H.all (λh=>decide (h<ops.size)&&(jL D h).all λq=>decide (q<h))&&(List.range ops.size).all λi=>(jL ops i).all (λq=>(jL D i).contains q&&decide (q<ops.size))&&(H.contains i||(jL D i).all λq =>
  match H.contains q with | true=>(need D H ops.size q).all λr=>(jL ops i).contains r | false=>(jL ops i).contains q)
structure Lst (n:Nat) (H:List Nat) (L L':Array Bool):Prop where
 s1:L.size=n
 s2:L'.size=n
 at':∀j,j<n->L'.getD j true=(L.getD j true||H.contains j)
abbrev qU{L:Array Bool}(h:j<L.size)(a b:Bool):L.getD j a=L.getD j b:=by simp[Array.getD_eq_getD_getElem?,Array.getElem?_eq_getElem h]
abbrev Lst.set{n i:Nat}{H:List Nat}{L L':Array Bool}(h:Lst n H L L'):Lst n H (L.setIfInBounds i true) (L'.setIfInBounds i true):=by
 refine⟨by simp[h.s1],by simp[h.s2],λj D=>?_⟩;by_cases hij:i=j
 .subst hij;have J:i<L.size:=by rw[h.s1]; exact D
  have S:i<L'.size:=by rw[h.s2]; exact D
  simp[Array.getD_eq_getD_getElem?,J,S]
 rw[getD_set_ne true hij,getD_set_ne true hij]; exact h.at' j D
abbrev Lst.setH{n i:Nat}{H:List Nat}{L L':Array Bool}(h:Lst n H L L')(J:i∈H):Lst n H (L.setIfInBounds i true) L':=by
 refine⟨by simp[h.s1],h.s2,λj D=>?_⟩;rw[h.at' j D];by_cases hij:i=j
 .subst hij;have D:H.contains i=true:=by simpa using J
  rw[D,Bool.or_true,Bool.or_true]
 rw[getD_set_ne true hij]
def left(n:Nat)(H:List Nat)(L:Array Bool):Nat:=(List.range n).countP λj => !L.getD j true && !H.contains j
abbrev aeC{n:Nat}{L:Array Bool}(D:L.size=n)(J:i<n)(h0:L.getD i true=false)(hH:i∉H):left n H (L.setIfInBounds i true)<left n H L:=by
 unfold left;have D:i∈List.range n:=aFj.2 J;obtain⟨s,t,J⟩:=List.append_of_mem D;have D:=List.nodup_range (n:=n);rw[J]at D |-;have hd:=aEL.1 D;have S:H.contains i=false:=by simpa using hH
 have D:∀l:List Nat,i∉l->l.countP (λj => !(L.setIfInBounds i true).getD j true && !H.contains j)=l.countP λj => !L.getD j true && !H.contains j:=by
  intro l hl;refine List.countP_congr λj J=>?_;rw[getD_set_ne true (λe:i=j=>hl (e▸J))]
 have h1:i∉s:=λJ=>hd.2.2 i J i Y I;have J:i∉t:=(aFm.1 hd.2.1).1;have h3:i<L.size:=Z
 rw[List.countP_append,List.countP_append,List.countP_cons,List.countP_cons,D s h1,D t J];have D:(L.setIfInBounds i true).getD i true=true:=by simp[Array.getD_eq_getD_getElem?,h3]
 rw[D,h0,S];simp
abbrev abH{n:Nat}{L:Array Bool}(hH:i∈H):left n H (L.setIfInBounds i true)=left n H L:=by
 unfold left;refine List.countP_congr λj D=>?_;by_cases hij:i=j
 .subst hij;simp[hH]
 rw[getD_set_ne true hij]
abbrev aeD{n:Nat}{L:Array Bool}(D:i<n)(J:L.getD i true=false)(hH:i∉H):0<left n H L:=by
 unfold left;rw[List.countP_pos_iff];exact⟨i,aFj.2 D,by simp[J,hH]⟩
theorem Z7{D:Array ahk}{H:List Nat}{L:Array Bool}{n:Nat}(ab:D.size=n)(hL:L.size=n)(hb:∀h∈H,h<n∧∀q∈jL D h,q<h)(aa:∀h∈H,h∉Region.ready .any D L) :
  ∀(f h:Nat),h<f->h∈H->L.getD h true=false->∃q∈need D H f h,q∉H∧q<n∧L.getD q false=false
 | 0,h,hf,_,_=>by omega
 | f+1,h,hf,hh,h0=>by
  have J:=aa h hh
  rw[jB]at J
  obtain⟨S,hq⟩:=hb h hh
  have h2:∃q∈jL D h,L.getD q false=false:=by
   refine Classical.byContradiction λhn=>J ⟨Z,h0,λq D=>?_⟩
   cases J:L.getD q false with
   | true=>rfl
   | false=>exact(hn ⟨q,D,J⟩).elim
  obtain⟨q,D,S⟩:=h2
  have ac:=hq q D
  by_cases hqH:q∈H
  .obtain⟨r,hr,hr2⟩:=Z7 ab hL hb aa f q Z hqH (by rw[qU Z true false]; exact S)
   refine⟨r,List.mem_flatMap.2 ⟨q,D,?_⟩,hr2⟩
   have J:H.contains q=true:=by simpa using hqH
   rw[J]; exact hr
  .refine⟨q,List.mem_flatMap.2 ⟨q,D,?_⟩,hqH,Z,S⟩
   have J:H.contains q=false:=by simpa using hqH
   rw[J]; exact aDK.2 I
abbrev Xn{D:Array ahk}(an:Alike D ops)(J:Z5 ops D H=true)(az:aiC ops H=true) :
  ∀(g f:Nat) (L L':Array Bool) (a:aGh) (w:VO),Lst ops.size H L L'->left ops.size H L<=f->Pur P ops H a->aGm P .any D (yT Q) g L a w->aGm P .any ops (yT Q) f L' a w:=by
 unfold Z5 at J;simp only[aDt,aDu,aDF,aFj,aDv,aEV,aFZ]at J;obtain⟨⟨S,hH⟩,ah⟩:=J;have hb:∀h∈H,h<ops.size∧∀q∈jL D h,q<h:=hH;have key:∀{L L':Array Bool},Lst ops.size H L L'->(∀h∈H,h∉Region.ready .any D L)->∀i,i∈Region.ready .any ops L'->i∉H∧i∈Region.ready .any D L:=by
  intro L L' hl ag i J;rw[jB]at J;obtain⟨ai,h0,hw⟩:=J;have ac:=hl.at' i ai;rw[h0]at ac;have S:i∉H:=λhm=>by
   have hc:H.contains i=true:=by simpa using hm
   rw[hc,Bool.or_true]at ac; cases ac
  have aq:L.getD i true=false:=by
   cases h:L.getD i true with
   | false=>rfl
   | true=>rw[h]at ac; cases ac
  have ao:∀q∈jL ops i,q∉H->L.getD q false=true:=λq hq aa=>by
   have h1:=hw q hq;have ab:=((ah i ai).1 q hq).2;have h2:=hl.at' q ab;rw[qU (L:=L') (by rw[hl.s2]; exact ab) true false,h1]at h2;have hc:H.contains q=false:=by simpa using aa
   rw[hc,Bool.or_false]at h2;rw[qU (L:=L) (by rw[hl.s1]; exact ab) false true,<-h2]
  refine⟨S,jB.2 ⟨Z,aq,λq hq=>?_⟩⟩;have h1:=((ah i ai).2.resolve_left S) q hq;by_cases aa:q∈H
  .have hc:H.contains q=true:=by simpa using aa
   rw[hc]at h1;simp only[aDF,aFZ]at h1;have ab:=(hb q aa).1;cases hv:L.getD q false with
   | true=>rfl
   | false =>
    obtain⟨r,hr,aw,a3,ax⟩:=Z7 (n:=ops.size) Z hl.s1 hb ag ops.size q ab aa (by rw[qU (by rw[hl.s1]; exact ab) true false]; exact hv);have:=ao r (h1 r hr) aw;rw[ax]at this; cases this
  have hc:H.contains q=false:=by simpa using aa
  rw[hc]at h1;simp only[aFZ]at h1;exact ao q h1 aa
 have back:∀{L L':Array Bool},Lst ops.size H L L'->∀i,i∉H->i∈Region.ready .any D L->i∈Region.ready .any ops L':=by
  intro L L' hl i S J;rw[jB]at J |-;obtain⟨ai,h0,hw⟩:=J;have ae:i<ops.size:=Z
  refine⟨ae,?_,λq hq=>?_⟩
  .have hc:H.contains i=false:=by simpa using S
   rw[hl.at' i ae,h0,hc]; rfl
  have h1:=(ah i ae).1 q hq;have h2:=hw q h1.1;rw[qU (L:=L') (by rw[hl.s2]; exact h1.2) false true,hl.at' q h1.2,qU (L:=L) (by rw[hl.s1]; exact h1.2) true false,h2]; rfl
 intro g;induction g with
 | zero =>
  intro f L L' a w hl hf hp hh;have hr:Region.ready .any ops L'=[]:=by
   rw[aF7];intro i J;have:=(key hl (λh _ hm=>by rw[hh.1]at hm; cases hm) i J).2;rw[hh.1]at this; cases this
  cases f with
  | zero=>exact⟨hr,hh.2⟩
  | succ f=>exact⟨λ_=>hh.2,λi J=>by rw[hr]at J; cases J⟩
 | succ g ih =>
  intro f L L' a w hl hf hp hh;by_cases hex:∃h∈H,h∈Region.ready .any D L
  .obtain⟨h,hhH,hr⟩:=hex;have ar:Pur P D H a:=λh hh=>by
    obtain⟨o,v,d,ho,hg,hd,ay,ap⟩:=hp h hh;obtain⟨af,am⟩:=an.get ho;exact⟨_,v,d,am,hg,hd,λw=>by rw[K07]; exact ay w,ap⟩
   have h1:=ar.op hhH (hh.2 h hr);exact ih f _ L' a w (hl.setH hhH) (by rw[abH hhH]; exact hf) hp h1
  have ag:∀h∈H,h∉Region.ready .any D L:=λh hm hr=>hex ⟨h,hm,hr⟩;have hK:=key hl ag;cases f with
  | zero =>
   have hr:∀i,i∉Region.ready .any D L:=λi J=>by
    have S:i∉H:=λhm=>ag i hm J;rw[jB]at J;have:=aeD (n:=ops.size) Z J.2.1 S;omega
   refine⟨?_,hh.1 (aF7.2 hr)⟩;rw[aF7];exact λi J=>hr i (hK i J).2
  | succ f =>
   refine⟨λh0=>hh.1 ?_,λi J=>?_⟩
   .rw[aF7];intro i J;have:=back hl i (λhm=>ag i hm J) J;rw[h0]at this; cases this
   obtain⟨S,hr⟩:=hK i J;have av:=hh.2 i hr;have al:i<ops.size:=(jB.1 J).1;have h2:=aeC hl.s1 al (jB.1 hr).2.1 S;refine Alike.wpOp an (K:=λJ w'=>Pur P ops H J∧aGm P .any D (yT Q) g (L.setIfInBounds i true) J w') (λJ w' h3=>ih f _ _ J w' hl.set Z h3.1 h3.2) ?_;refine aeB (A00:=Pur P ops H) hp (λo ho b hb u=>?_) (λb d hb=>hb.defer d) (λa w h1 h2=>⟨h1,h2⟩) av;have D:ops[i]?=some ops[i]:=Array.getElem?_eq_getElem al;obtain⟨af,am⟩:=an.get D;rw[am]at ho;obtain rfl:=aDo ho;exact hb.keep az D S u
def aiD(P:ahe)(ops:Array ahk)(l:List (Nat×aaT))(h:Nat):Option (Nat×aaT):=match ops[h]? with
 | some o=>(match o.guard,o.dst,wF o.op || !o.op.operands.all (λx=>(rd (lift l) [] x).isSome),je (ev0 P (aGe (zJ (lift l) []) o))with
  | none,some d,false,some (.val v)=>some (d,v)
  | _,_,_,_=>none)
 | none=>none
abbrev NH{l:List (Nat×aaT)}{h n d:Nat}(D:aiD P ops l h=some (d,v))(J:Vp.St a n l):∃o,ops[h]?=some o∧o.guard=none∧o.dst=some d∧wF o.op=false∧∀w,(aGe a.eval o).run P w = .ok (.value v) w:=by
 unfold aiD at D;cases ho:ops[h]? with
 | none=>rw[ho]at D; cases D
 | some o =>
  rw[ho]at D;simp only at D;split at D
  .rename_i d' v' hg hd hav hev;simp only[aDe,aDm]at D;obtain⟨rfl,rfl⟩:=D;simp only[aDX]at hav;exact⟨o,I,hg,hd,hav.1,λw=>lM (Std.act a) (gX (bZ J) o) (p:=[]) I hav.1 (by simpa using hav.2) hev⟩
  cases D
def Z8(P:ahe)(ops:Array ahk):List (Nat×aaT)->List Nat->Array Bool->Option (List (Nat×aaT))
 | _,[],_=>some []
 | l,p::H,L=>match aiD P ops l p,(Region.ready .any ops L).contains p&&Region.free .any ops L p with
  | some q,true=>(match Z8 P ops (q::l) H (L.setIfInBounds p true)with | some r=>some (q::r) | none=>none)
  | _,_=>none
abbrev aeE (l D:List (Nat×aaT)):List (Nat×aaT):=D.foldl (λl p=>p::l) l
abbrev AV (H:List Nat)(L:Array Bool):Array Bool:=H.foldl (λL p=>L.setIfInBounds p true) L
theorem aeF(hs:Region.noSelect ops=true){n f:Nat}:∀(H:List Nat) (D l:List (Nat×aaT)) (L:Array Bool) (a:aGh) (w:VO),Vp.St a n l->Z8 P ops l H L=some D->D.all (λp=>decide (p.1<n))=true ->
  (∀a1,Vp.St a1 n (aeE l D)->aGm P .any ops (yT Q) f (AV H L) a1 w)->aGm P .any ops (yT Q) (f+H.length) L a w
 | [],D,l,L,a,w,hS,ht,hd,h=>by
  obtain rfl:[]=D:=aDo ht
  exact h a hS
 | p::H,D,l,L,a,w,hS,ht,hd,h=>by
  unfold Z8 at ht
  split at ht
  .rename_i q hq hb
   split at ht
   .rename_i r hr
    obtain rfl:=aDo ht
    obtain⟨d,v⟩:=q
    obtain⟨o,ho,hg,D,S,J⟩:=NH hq hS
    simp only[aDt]at hb
    simp only[List.all_cons,aDt,aDv]at hd
    rw[aDU,<-aE4]
    refine wpAny_take (v:=v) ho hs hb.2 hb.1 (λc a w h=>h.elim) (.inl ⟨by simp[Region.wanted,hg],J⟩) ?_
    rw[D]
    exact aeF hs H r _ _ _ w (hS.put d hd.1 v) hr hd.2 h
   .cases ht
  .cases ht
abbrev Tm{l D:List (Nat×aaT)}(hl:D.all (λp=>(l.lookup p.1).isNone)=true)(S:l.lookup i=some v):(aeE l D).lookup i=some v:=by
 have:∀(D:List (Nat×aaT)) (m:List (Nat×aaT)),D.all (λp=>(l.lookup p.1).isNone)=true->m.lookup i=some v->(aeE m D).lookup i=some v:=by
  intro D;induction D with
  | nil=>intro m _ h; exact h
  | cons p D ih =>
   intro m J h2;simp only[List.all_cons,aDt,Option.isNone_iff_eq_none]at J;refine ih (p::m) J.2 ?_;rw[aD5];have:(i==p.1)=false:=by
    by_cases e:i=p.1
    .rw[e,J.1]at S; cases S
    simpa using e
   rw[this]; exact h2
 exact this D l hl S
end
def Xo(F:List Nat)(t:Nat)(A02:List Nat)(os:List ahk):List ahk:=A02.foldl (λos g=>kM [g-1] g os) (kM F t os)
abbrev Alike.trans{x y z:Array ahk}(h:Alike x y)(k:Alike y z):Alike x z:=⟨h.1.trans k.1,λi=>(h.2 i).trans (k.2 i)⟩
variable{k i c f h' m sl sx:Nat}{o:ahk}{ρ:aGf->aaT}{e t:aix}{Post:aaT->VO->Prop}{xs ys:List aaT}{z v y:aaT}{A:Option aGk}{w':VO}{s x:aGf}
abbrev AX(F:List Nat)(t:Nat)(os:List ahk):Alike (kM F t os).toArray os.toArray:=⟨by unfold kM; simp,λi=>by
 rw[List.getElem?_toArray,List.getElem?_toArray,tZ];split
 .cases os[i]?<;>rfl
 rfl⟩
abbrev Xp(F:List Nat)(t:Nat):∀(A02:List Nat) (os:List ahk),Alike (Xo F t A02 os).toArray os.toArray:=by
 have key:∀(A02:List Nat) (os:List ahk),Alike (A02.foldl (λos g=>kM [g-1] g os) os).toArray os.toArray:=by
  intro A02;induction A02 with
  | nil=>exact λos=>⟨I,λi=>rfl⟩
  | cons g A02 ih=>exact λos=>(ih _).trans (AX _ _ _)
 exact λA02 os=>(key A02 _).trans (AX _ _ _)
abbrev al4{P:ahe}{Q:Exit->aGh->VO->Prop}{w0:VO}{a:aGh}{w:VO}{os:List ahk}{n:Nat}{l:List (Nat×aaT)}{bl:List (Nat×List aaT)}{vs:List fE}{id:Nat}(S:St w0 a w n l bl vs)(F:List Nat)(t:Nat)(A02:List Nat)(D:List (Nat×aaT))
  (next:∀a1,St w0 a1 w n l bl vs->aGm P .any (Xo F t A02 os).toArray (yT Q) (Xo F t A02 os).toArray.size (Array.replicate (Xo F t A02 os).toArray.size false) a1 { w with drawn:=w.drawn+1 })
  (ht:Z8 P os.toArray l (F++A02) (Array.replicate os.length false)=some D:=by kernel_rfl) (hv:(F++A02).map (aiD P os.toArray (aeE l D))=D.map some:=by kernel_rfl) (hl:D.map (λp=>(aeE l D).lookup p.1)=D.map (λp=>some p.2):=by kernel_rfl)
  (J:(D.all (λp=>decide (p.1<n)&&(l.lookup p.1).isNone)&&Region.noSelect os.toArray&&Z5 os.toArray (Xo F t A02 os).toArray (F++A02)&&aiC os.toArray (F++A02)&&decide ((F++A02).length<=os.length)&&decide (F++A02).Nodup)=true:=by kernel_rfl)
  (ah:P.follows .mixedOrders=true:=by kernel_rfl):(Code.region id os.toArray true).wp P Q a w:=by
 simp only[aDt,aDv]at J;obtain⟨⟨⟨⟨⟨h1,h2⟩,h3⟩,h4⟩,h5⟩,h6⟩:=J;have hd:D.all (λp=>decide (p.1<n))=true:=by
  rw[aDF]at h1 |-;exact λp J=>((aDt _ _).mp (h1 p J)).1
 have hn:D.all (λp=>(l.lookup p.1).isNone)=true:=by
  rw[aDF]at h1 |-;exact λp J=>((aDt _ _).mp (h1 p J)).2
 refine aFk ah (uf _ _ _ _ ?_);have aa:=Xp F t A02 os;have key:=aeF (P:=P) (Q:=Q) (ops:=os.toArray) h2 (n:=n) (f:=os.length-(F++A02).length) (F++A02) D l (Array.replicate os.length false) a { w with drawn:=w.drawn+1 } S.s ht hd λa1 hS=>?_
 .rw[Nat.sub_add_cancel h5]at key;simpa using key
 have ae:Vp.St a1 n l:=⟨hS.size,hS.defers,λi v J=>hS.has i v (Tm hn J)⟩;have af:Pur P os.toArray (F++A02) a1:=λh hh=>by
  obtain⟨j,J⟩:=List.getElem?_of_mem hh;have e1:=aDc (·[j]?) hv;simp only[List.getElem?_map,J,aD3]at e1;cases hq:D[j]? with
  | none=>rw[hq]at e1; cases e1
  | some q =>
   rw[hq]at e1;simp only[aD3,aDe]at e1;obtain⟨d,v⟩:=q;obtain⟨o,ho,hg,D,ai,ac⟩:=NH e1 hS;refine⟨o,v,d,ho,hg,D,ac,?_⟩;have D:=aF8.1 hl (d,v) (List.mem_of_getElem? hq);have e3:=hS.has d v D;have ab:d<a1.tmps.size:=by
    rw[hS.size];have:=aDF.1 hd (d,v) (List.mem_of_getElem? hq);simpa using this
   have D:a1.tmps[d]=v:=by simpa[Act.eval,Array.getD_eq_getD_getElem?,ab]using e3
   show({ tmps:=a1.tmps.setIfInBounds d v,defers:=a1.defers }:aGh)=a1;have e5:a1.tmps.setIfInBounds d v=a1.tmps:=by
    refine Array.ext Y λi h1 h2=>?_;rw[Array.getElem_setIfInBounds (by simpa using h1)];split
    .rename_i e; subst e; exact D.symm
    rfl
   rw[e5]
 refine Xn aa h3 h4 _ _ _ _ a1 _ ?_ ?_ af (next a1 (S.act ae))
 ·
  have D:∀(H:List Nat) (L:Array Bool),(AV H L).size=L.size∧∀j,j<L.size->(AV H L).getD j true=(L.getD j true||H.contains j):=by
   intro H;induction H with
   | nil=>exact λL=>⟨I,λj J=>by simp⟩
   | cons p H ih =>
    intro L;obtain⟨i1,i2⟩:=ih (L.setIfInBounds p true);refine⟨by rw[show AV (p::H) L=AV H (L.setIfInBounds p true)from rfl,i1]; simp,λj J=>?_⟩;rw[show AV (p::H) L=AV H (L.setIfInBounds p true)from rfl,i2 j (by simpa using J)];by_cases hpj:p=j
    .subst hpj;simp[Array.getD_eq_getD_getElem?,J]
    rw[getD_set_ne true hpj];have:(j==p)=false:=by simpa using λe:j=p=>hpj e.symm
    rw[List.contains_cons,this,Bool.false_or]
  obtain⟨i1,i2⟩:=D (F++A02) (Array.replicate os.length false);have D:(Xo F t A02 os).toArray.size=os.length:=by rw[aa.1]; simp
  exact⟨by rw[D]; simp,by rw[i1]; simp,λj J=>by rw[i2 j (by simpa using J),D]⟩
 have D:(Xo F t A02 os).toArray.size=os.length:=by rw[aa.1]; simp
 rw[D];unfold left;have D:∀(H:List Nat),H.Nodup->(∀h∈H,h<os.length)->((List.range os.length).countP λj => !H.contains j)=os.length-H.length:=by
  intro H ag ab;have h7:(List.range os.length).countP (λj=>H.contains j)=H.length:=by
   have e1:((List.range os.length).filter λj=>H.contains j).Perm H:=by
    refine(List.perm_ext_iff_of_nodup (List.nodup_range.filter _) ag).2 λx=>?_;simp only[List.mem_filter,aFj,aFZ];exact⟨λh=>h.2,λh=>⟨ab x h,h⟩⟩
   rw[List.countP_eq_length_filter,e1.length_eq]
  have h8:=List.length_eq_countP_add_countP (λj=>H.contains j) (l:=List.range os.length);rw[List.length_range,h7]at h8;have h9:(List.range os.length).countP (λj => !H.contains j)=(List.range os.length).countP λa=>decide ¬(H.contains a=true):=List.countP_congr λj J=>by simp
  rw[h9]; omega
 refine aFI ((List.countP_congr λj J=>?_).trans (D (F++A02) h6 λh hh=>?_))
 .have hj':=aFj.1 J;have e1:(Array.replicate os.length false).getD j true=false:=by rw[Array.getD_eq_getD_getElem?,Array.getElem?_replicate,aDb (by simpa using hj')]; rfl
  rw[e1]; rfl
 unfold Z5 at h3;simp only[aDt,aDF,aDv]at h3;have:=(h3.1.2 h hh).1;simpa using this
abbrev ug{P:ahe}{w:VO}{os:List ahk}(J:os[i]?=some o)(hs:Std ρ)(l:List (Nat×aaT))(hl:∀q v,l.lookup q=some v->ρ (.tmp q)=v)(A:List aaT)(sh:Option Nat)(hT:∀v w',iO w.heap.size A sh v w'->Ext w w'->Post v w')
  (D:∀r,((os[i]?).bind λo=>xE P r [o] l).map (λq=>(q.1,q.2.2.1,q.2.2.2.isSome))=some (A,shV sh r,true):=by intro r; kernel_rfl):Does P o ρ w Post:=by
 have D:=D w.heap.size;rw[J,aFi]at D;unfold xE at D;simp only at D;split at D
 .rename_i A' ty k' hg hav hev;split at D
  .rename_i v hv;simp only[aD3,aDe,aDm]at D;obtain⟨rfl,rfl,hd⟩:=D;simp only[aDX]at hav;have hH:Holds ρ (lift l):=λq x S=>by
    rw[kG]at S;cases J:l.lookup q with
    | none=>simp[J]at S
    | some u =>
     simp only[J,aD3,aDe]at S;subst S;rw[hl q u J]; rfl
   have hc:aGe ρ o=aGe (zJ (lift l) []) o:=by
    refine execOp_congr o (λcs b S=>by rw[S]at hav; cases hav.1) λx D=>?_;have J:=hav.2;simp only[aEC,aFs]at J;obtain⟨z,S⟩:=aEq.1 (J x D);rw[gY hs (gX hH o x D) (p:=[]) I S];simp[zJ,S]
   have S:ev0 P k'=some (.value (shV sh w.heap.size)):=by
    unfold je at hv;split at hv
    .rename_i h; obtain J:=aDo hv; rw[h]; simp only[Gp.val.injEq]at J; rw[J]
    .cases hv
    cases hv
   have J:(aGe ρ o).run P w = .ok (.value (shV sh w.heap.size)) (w.alloc (.cells A'.toArray ty)):=by rw[hc,nM hev,oC S]
   unfold Does;rw[J];exact hT _ _ ⟨w.heap.size,I,aDd _,Iu _ _ _⟩ (aH _ _)
  simp at D
 simp at D
abbrev oU{α:Type}{f:α->List aaT}{w:VO}{a:Option aGk}{L:List α}(h:aI k f w (.s a L.length c) L){l:Nat}(h1:l<=h')(h2:h'<=L.length)(h3:h'<=m)(h4:m<=c):aI k f w (.s (pY a l m k) (h'-l) (m-l)) ((L.drop l).take (h'-l)):=by
 have D:((L.drop l).take (h'-l)).length=h'-l:=by simp; omega
 obtain⟨a',cap,J,hm,hh⟩:=h;simp only[aDO,true_and]at J;obtain⟨rfl,rfl⟩:=J;refine⟨pY a l m k,m-l,by rw[D],aDy Z hm,?_⟩;rcases hh with ⟨rfl,hz⟩ | ⟨b,o,rfl,hb,hl,hc⟩
 .refine .inl ⟨by simp,λe=>?_⟩;have:c=0:=hz (by
   unfold pY at e;split at e
   .exact e
   cases a with
   | none=>rfl
   | some _=>cases e)
  omega
 by_cases hlm:m=l
 .refine .inl ⟨by rw[show h'-l=0 by omega]; rfl,λe=>by
  unfold pY at e; rw[aDb hlm]at e; cases e⟩
 refine .inr ⟨b,o+l*k,by unfold pY; rw[aC9 hlm]; simp[Addr.add],hb,by rw[D]; omega,λi S j hj=>?_⟩;rw[D]at S;have h5:=hc (l+i) Z j hj;have e1:o+l*k+i*k+j=o+(l+i)*k+j:=by rw[aEO]; omega
 rw[e1,h5,aFC,List.getElem_drop]
abbrev Xq{α:Type}{base:Nat}{f:α->List aaT}{w:VO}{a:Option aGk}{L:List α}(h:kR e k f base (.s a L.length c) L w)(h2:h'<=L.length)(D:h'<=m)(S:m<=c):kR e k f base (.s a h' m) (L.take h') w:=by
 have J:=oU h.1 (aDl _) h2 D S;have D:(L.take h').length=h':=by simp; omega
 have e0:((L.drop 0).take (h'-0))=L.take h':=by simp
 rw[e0,Nat.sub_zero,Nat.sub_zero]at J;have ea:pY a 0 m k=a:=by unfold pY; split<;>cases a<;>simp[Addr.add]
 rw[ea]at J;refine⟨J,?_⟩;rcases h.2 with J | ⟨g,cap,S,J,h7,h8,h9⟩
 .exact .inl Z
 simp only[aDO,true_and]at J;obtain⟨rfl,rfl⟩:=J;exact .inr ⟨g,m,S,by rw[D],h7,h8,by rw[D]; exact aDy (aEM _ h2) h9⟩
abbrev aeG(a:Option aGk)(m k:Nat):pY a 0 m k=a:=by unfold pY; split<;>cases a<;>simp[Addr.add]
abbrev Ej{α:Type}{f:α->List aaT}{w:VO}{a:Option aGk}{L:List α}(h:aI k f w (.s a L.length c) L)(D:i<=L.length)(J:i<=c):aI k f w (.s (pY a 0 i k) i i) (L.take i):=by
 have:=oU h (aDl i) D (aDd i) J;simpa using this
abbrev abJ{α:Type}{f:α->List aaT}{w:VO}{a:Option aGk}{L:List α}(h:aI k f w (.s a L.length c) L)(D:i<=L.length)(J:L.length<=c):aI k f w (.s (pY a i c k) (L.length-i) (c-i)) (L.drop i):=by
 have:=oU h D (aDd _) J (aDd c);rwa [aDG Y]at this
abbrev iG{α:Type}{f:α->List aaT}{w:VO}{a:Option aGk}{L:List α}(h:aI k f w (.s a L.length c) L):L.length<=c:=by
 obtain⟨S,cap,D,hm,J⟩:=h;simp only[aDO,true_and]at D;obtain⟨rfl,rfl⟩:=D;rcases J with ⟨rfl,_⟩ | ⟨b,o,_,_,hl,_⟩
 .exact aDl _
 exact hl
abbrev dB{w:VO}{B:Nat}{n:Nat}(h:w.ownsRow B e k v n xs)(J:Ext w w'):w'.ownsRow B e k v n xs:=nC h λg D=>J.block g (iW h D).2
abbrev aeH{P:ahe}{w:VO}(ho:o.op = .call { callee := .builtin .append,args := #[s,x],argTypes := #[t,t] }){bytes:Nat}(T:gI P t e z k bytes)
     (hv:dR w k (.s A f f) f xs) (hs:ρ s = .s A f f)    (hy:dR w k y c ys) (hx:ρ x=y) (J:0<c) (S:f+c<=maxLen) (D:(f+c)*bytes<=140737488355328) :
  ∃v' w',(aGe ρ o).run P w = .ok (.value v') w'∧w'.ownsRow w.heap.size e k v' (f+c) (xs++ys)∧Ext w w':=by
 cases A with
 | some ad=>exact IX ho T hv hs hy hx Z J S D
 | none =>
  have J:f=0:=by
   rcases hv.2.2 with ⟨h,_⟩ | ⟨_,_,_,h,_⟩
   .exact h
   cases h
  subst J;have J:xs=[]:=aEA (by simpa using hv.1);subst J;obtain⟨v',w',hr,h2,J,-⟩:=PK (P:=P) (B:=w.heap.size) ho T (v := .sn) (m:=0) (xs:=[]) ⟨by simp,.inl ⟨I,I⟩⟩ hs hy hx S D (aDd _);exact⟨v',w',hr,h2,⟨J.os,J.tape,J.output,J.size,λi D=>J.block i D λe=>by cases e⟩⟩
def NI(os:List ahk)(i:Nat):Option (aGf×aGf×aix×Bool):=match os[i]? with
 | some o=>(match o.op with
  | .call c=>(match c.callee,c.args.toList,c.argTypes.toList with
   | .builtin .append,[s,x],[t,t']=>(match t==t' with | true=>some (s,x,t,o.dst.isSome) | false=>none)
   | _,_,_=>none)
  | _=>none)
 | none=>none
abbrev IY{os:List ahk}{b:Bool}(h:NI os i=some (s,x,t,b))(D:os[i]?=some o):o.op = .call { callee := .builtin .append,args := #[s,x],argTypes := #[t,t] }∧o.dst.isSome=b:=by
 unfold NI at h;rw[D]at h;simp only at h;split at h
 .rename_i c hop;split at h
  .rename_i s' x' t1 t2 h1 h2 h3;split at h
   .rename_i ht;simp only[aDe,aDm]at h;obtain⟨rfl,rfl,rfl,rfl⟩:=h;obtain rfl:t1=t2:=by simpa using ht
    refine⟨?_,I⟩;rw[hop];obtain⟨callee,args,argTypes⟩:=c;simp only at h1 h2 h3;rw[h1,<-aFJ (xs:=args),<-aFJ (xs:=argTypes),h2,h3]
   cases h
  cases h
 cases h
abbrev qV{P:ahe}{w:VO}{os:List ahk}(ho:os[i]?=some o){bytes:Nat}(T:gI P t e z k bytes)
  (hs:ρ (.tmp sl) = .s A f f) (hx:ρ (.tmp sx)=y) (hv:dR w k (.s A f f) f xs) (hy:dR w k y c ys) (S:0<c) (aa:f+c<=maxLen) (D:(f+c)*bytes<=140737488355328)  (hK:∀J w',w'.ownsRow w.heap.size e k J (f+c) (xs++ys)->Ext w w'->Post J w')
  (ab:NI os i=some (.tmp sl,.tmp sx,t,true):=by kernel_rfl):Does P o ρ w Post:=by
 obtain⟨h1,h2⟩:=IY ab ho;obtain⟨J,w',hr,h3,h4⟩:=aeH (P:=P) h1 T hv hs hy hx S aa D;unfold Does;rw[hr];exact hK J w' h3 h4
abbrev NJ{P:ahe}{w:VO}{os:List ahk}(ho:os[i]?=some o){bytes:Nat}(T:gI P t e z k bytes){B:Option aGk}{J:Nat}(hf:f<=J)
  (hs:ρ (.tmp sl) = .s A f J) (hx:ρ (.tmp sx) = .s B 0 c)  (hK:Post (.s A f J) w) (aa:NI os i=some (.tmp sl,.tmp sx,t,true):=by kernel_rfl):Does P o ρ w Post:=by
 obtain⟨h1,h2⟩:=IY aa ho;obtain⟨i',S,-⟩:=T.info;have hr:=wG (P:=P) (w:=w) (ty:=o.type) T.und S A B f J c hf;have D:(aGe ρ o).run P w = .ok (.value (.s A f J)) w:=by
  unfold aGe;simp only[h1,resolve,invoke,builtin,aEe,aFy,aFq,aFO,aD1,aEr,hs,hx,hr]
 unfold Does;rw[D];exact hK
abbrev jg{os:List ahk}{U:AY}{d:Nat}{K:Fact}{w:VO}(D:os[i]?=some o)(hd:(os[i]?).bind (·.dst)=some d)(J:U.lookup d=some K)(S:Ext w w')(h:K v w'):Ext w w'∧hpost U o (kept o v) w':=by
 rw[D,aFi]at hd;refine⟨S,?_⟩;unfold hpost;rw[hd];simp only[J];unfold kept;rw[hd];exact h
def evV(P:ahe)(o:ahk)(l:List (Nat×aaT)):Option aaT:=match wF o.op || !o.op.operands.all (λx=>(rd (lift l) [] x).isSome),je (ev0 P (aGe (zJ (lift l) []) o))with
 | false,some (.val v)=>some v
 | _,_=>none
abbrev iT{P:ahe}{w:VO}{os:List ahk}(D:os[i]?=some o)(S:Std ρ)(l:List (Nat×aaT))(hl:∀q v,l.lookup q=some v->ρ (.tmp q)=v)(v:aaT)(hK:Post v w)
  (J:(os[i]?).bind (λo=>evV P o l)=some v:=by kernel_rfl):Does P o ρ w Post:=by
 rw[D,aFi]at J;unfold evV at J;split at J
 .rename_i v' hav hev;obtain rfl:=aDo J;simp only[aDX]at hav;have hH:Holds ρ (lift l):=λq x D=>by
   rw[kG]at D;cases h2:l.lookup q with
   | none=>simp[h2]at D
   | some u =>
    simp only[h2,aD3,aDe]at D;subst D;rw[hl q u h2]; rfl
  have D:(aGe ρ o).run P w = .ok (.value v') w:=lM S (gX hH o) (p:=[]) I hav.1 (by simpa using hav.2) hev;unfold Does;rw[D];exact hK
 cases J
abbrev look1{s:Nat}{u:aaT}(h:ρ (.tmp s)=u):∀q v,List.lookup q [(s,u)]=some v->ρ (.tmp q)=v:=λq v D=>by
 rw[aD5]at D;split at D
 .rename_i hq2;obtain rfl:q=s:=by simpa using hq2
  rw[<-aDo D,h]
 cases D
section
variable{P:ahe}{os:List ahk}{Q:Exit->aGh->VO->Prop}{w0:VO}{a:aGh}{w:VO}{n:Nat}{l:List (Nat×aaT)}{bl:List (Nat×List aaT)}{vs:List fE}
variable{f i b:Nat}{o:ahk}{A:List aaT}{R:Ending->VO->Prop}
abbrev aiE{ops:Array ahk}{K:aGh->VO->Prop}(D:ops[i]?=some o)(h:aiw P ops (yT λ_ a w=>K a w) [o] a w):wpOp P ops Q i K a w:=by
 unfold wpOp;rw[D];unfold aiw at h;simp only;split at h
 .rename_i S;rw[aDb S];rcases h with h | ⟨_,h⟩
  .left;unfold Oper.wp at *;generalize (aGe a.eval _).run P w=r at *;cases r with
   | ok n w' =>
    cases n<;>simp only[Oper.upon]at h |-;case value u=>exact h
    case skip=>exact h
    case defer d=>exact h
    case enter f args =>
     refine Calls.mono h λe J D=>?_;cases e with
     | returned u=>exact D
     | panicked c=>exact D.elim
     | outgrown=>exact(oz D).elim
    case row row args=>exact Rows.mono h λu J D=>D
   | halt x w' =>
    cases x<;>simp only[Oper.upon]at h |-;case panic u=>exact h.elim
  exact(oz h).elim
 rename_i S;rw[aC9 S];exact h
def one(os:List ahk)(i:Nat):List ahk:=(os.drop i).take 1
abbrev aeI(h:os[i]?=some o):one os i=[o]:=by
 have D:=(List.getElem?_eq_some_iff.1 h).1;unfold one;rw[aEu D,List.take_succ_cons,List.take_zero];rw[List.getElem?_eq_getElem D]at h;rw[aDo h]
abbrev aeJ (P:ahe)(Q:Exit->aGh->VO->Prop)(os:List ahk)(f:Nat)(L:Array Bool)(a:aGh)(w:VO)(i:Nat):Prop:=aiw P os.toArray (yT λ_ a w=>aGm P .any os.toArray Q f (L.setIfInBounds i true) a w) (one os i) a w
abbrev Z9{L:Array Bool}{rs:List Nat}(J:rs≠[])(h:∀i∈rs,aeJ P Q os f L a w i)(S:Region.ready .any os.toArray L=rs):aGm P .any os.toArray Q (f+1) L a w:=by
 refine⟨λh0=>absurd (S.symm.trans h0) J,λi D=>?_⟩;obtain⟨_,o,J,_⟩:=mem_ready.1 D;rw[S]at D;refine aiE J ?_;have:=h i D;unfold aeJ at this;rwa [aeI (by simpa using J)]at this
abbrev aiF{L:Array Bool}(i:Nat)(h:aeJ P Q os f L a w i)(J:Region.ready .any os.toArray L=[i]:=by kernel_rfl):aGm P .any os.toArray Q (f+1) L a w:=Z9 Y (λj D=>by obtain rfl:=aDK.1 D; exact h) J
abbrev apv{L:Array Bool}(i j:Nat)(h:aeJ P Q os f L a w i)(k:aeJ P Q os f L a w j)(J:Region.ready .any os.toArray L=[i,j]:=by kernel_rfl):aGm P .any os.toArray Q (f+1) L a w:=Z9 Y (λx D=>by
 rcases aDp.1 D with rfl | D
 .exact h
 obtain rfl:=aDK.1 D; exact k) J
abbrev Tn{Q':Exit->aGh->VO->Prop}{ops:Array ahk}{m:List ahk}(h:Q' .normal a w)(D:m.isEmpty=true:=by kernel_rfl):aiw P ops (yT Q') m a w:=by
 rw[List.isEmpty_iff.1 D]; exact h
abbrev Xr{L:Array Bool}(m:Nat)(h:aiw P os.toArray Q (os.drop m) a w)(D:(Region.seqB .any os.toArray f m L&&decide (os.length=m+f))=true:=by kernel_rfl):aGm P .any os.toArray Q f L a w:=by
 simp only[aDt,aDv]at D;have e:(os.drop m).length=f:=by rw[aE0]; omega
 subst e;exact wpAny_of_seq (os.drop m) m L a w (λj=>by simp[List.getElem?_drop]) D.1 h
abbrev ordered(S:St w0 a w n l bl vs){id:Nat}(f:Nat)(next:∀D w',Ext w w'->St w0 D w' n l bl vs->aGm P .any os.toArray Q f (Array.replicate f false) D w')(hf:(os.length==f)=true:=by kernel_rfl)(D:P.follows .mixedOrders=true:=by kernel_rfl):(Code.region id os.toArray true).wp P Q a w:=by
 have J:Ext w { w with drawn:=w.drawn+1 }:=below_drewN (aDC _ _) 1;have key:=next a _ J (S.grow J);obtain rfl:=eq_of_beq hf;exact aFk D (by simpa using key)
abbrev NK{ops:Array ahk}(S:St w0 a w n l ((b,A)::bl) vs){D:VO}{f:FuncId}{args:Array aaT}(d:Option Nat)(h0:Ext w0 D)(aa:Ext D w)(ab:∀p∈bl,p.1<D.heap.size)(hc:abB P f args w R)
  (next:∀e w',R e w'->∃v A',e = .R v∧Ext D w'∧Bx w' b (List.toArray A')∧∀J,St w0 J w' n (zL l d v) ((b,A')::bl) []->aiw P ops Q (os.drop 1) J w')
  (D:callOf P os l=some (f,args,d):=by kernel_rfl) (hd:uO n d=true:=by rfl):aiw P ops Q os a w:=by
 cases os with
 | nil=>cases D
 | cons o os =>
  unfold callOf at D;simp only at D;split at D
  .rename_i f' args' hg hav hev;simp only[aDe,aDm]at D;obtain⟨rfl,rfl,rfl⟩:=D;simp only[aDX]at hav;have J:(aGe a.eval o).run P w = .ok (.enter f' args') w:=lM (Std.act a) (gX (bZ S.s) o) (p:=[]) I hav.1 (by simpa using hav.2) hev;unfold aiw;rw[aDb (by simp[Region.wanted,hg])];left;unfold Oper.wp;rw[J];simp only[Oper.upon];refine hc.mono λe w' J=>?_;obtain⟨v,A',rfl,hE,hX,hn⟩:=next e w' J;refine hn _ ⟨uh S.s hd v,K00 h0 hE,λp J=>?_,S.apart,λm hm=>(by cases hm)⟩;rcases aDp.1 J with rfl | J
   .exact⟨hX,(S.own _ aDq).2⟩
   have h1:=S.own p (aEs _ J);have hl:=ab p J;exact⟨⟨aDL hl hE.size,λi=>(hE.cell (p:=⟨p.1,i,none⟩) hl).trans ((aa.cell (p:=⟨p.1,i,none⟩) hl).symm.trans (h1.1.2.1 i)),λi=>(hE.frozen (p:=⟨p.1,i,none⟩) hl).trans ((aa.frozen (p:=⟨p.1,i,none⟩) hl).symm.trans (h1.1.2.2 i))⟩,h1.2⟩
  cases D
abbrev al5(S:St w0 a w n l bl vs)(k:Nat){fn:Func}{r s t:Nat}{ty:aix}{v u z:aaT}(hr:fn.results = #[.cell r ty,.tmp s,.tmp t])(hk:bl[k]?=some (b,A))(h:R (.R (.tuple #[v,u,z])) w)
  (J:Vp.ev l (.tmp r)=some (.q b 0):=by kernel_rfl) (hu:Vp.ev l (.tmp s)=some u:=by rfl) (hz:Vp.ev l (.tmp t)=some z:=by rfl) (hl:Sj P ty A=some v:=by kernel_rfl):bodyPost P fn R .ret a w:=by
 refine⟨S.s.defers,_,?_,h⟩;have D:=S.s.ev J;have J:=S.s.ev hu;have h4:=S.s.ev hz;have h2:=S.var hk hl;unfold results;rw[hr];simp only[Act.eval,Array.getD_eq_getD_getElem?]at D J h4;simp[D,J,h4,asAddr,h2]
end
end Go.Sx
namespace Go.Proofs.Vy
open Go.RowKit Na
variable{α:Type}
abbrev _root_.Go.Sx.Xt{P:ahe}{w0 w:VO}{a:aGh}{n:Nat}{l:List (Nat×aaT)}{bl:List (Nat×List aaT)}{vs:List Sx.fE}(S:Sx.St w0 a w n l bl vs){fn:Func}{R:Ending->VO->Prop}(i j:Nat){r s t b c:Nat}{ty:aix}{A B:List aaT}{u v x:aaT}(hr:fn.results = #[.cell r ty,.cell s ty,.tmp t])(hi:bl[i]?=some (b,A))(hj:bl[j]?=some (c,B))(h:R (.R (.tuple #[u,v,x])) w)
  (J:Vp.ev l (.tmp r)=some (.q b 0):=by kernel_rfl) (h2:Vp.ev l (.tmp s)=some (.q c 0):=by kernel_rfl) (h3:Vp.ev l (.tmp t)=some x:=by kernel_rfl) (l1:Sx.Sj P ty A=some u:=by kernel_rfl) (l2:Sx.Sj P ty B=some v:=by kernel_rfl):bodyPost P fn R .ret a w:=by
 refine⟨S.s.defers,_,?_,h⟩;have D:=S.s.ev J;have J:=S.s.ev h2;have e3:=S.s.ev h3;unfold results;rw[hr];simp only[Act.eval,Array.getD_eq_getD_getElem?]at D J e3;simp[D,J,e3,asAddr,S.var hi l1,S.var hj l2]
variable{s:aaT}{b neg:Bool}{base:Nat}
abbrev Tq{m:List UInt32}{w:VO}(h:aG w s m)(D:0<TP m)(hl:m.length<=100000000) :
  abB prog 173 #[.agg #[.z,s]] w (VH w (.i 1)):=by
 have D:=rU false _ m w h hl;rw[show qE false (TP m)=1 from by unfold qE; rw[aC9 Z]; rfl]at D;exact D
abbrev PN{w:VO}(h:aG w s (Ro 0)) :
  abB prog 173 #[.agg #[.b b,s]] w (VH w (.i 0)):=by
 have D:=rU b _ _ w h (by simp[jU]);rw[NP,show qE b 0=0 from rfl]at D;exact D
abbrev nD{w:VO}{n:Nat}(h:aQ base w (.agg #[.b b,s]) neg n):aG w s (Ro n):=by
 obtain⟨t,e,D,_⟩:=h;simp only[aE6,aE7,aDP,and_true]at e;obtain⟨-,rfl⟩:=e;exact D
abbrev aQ.flag{base:Nat}{w:VO}{v:aaT}{n D:Bool}{a:Nat}(h:aQ base w v n a)(e:n=D):aQ base w v D a:=e▸h
abbrev Tt{w:VO}{c n1 D:Bool}{t:aaT}{x y:Nat}(h:aQ base w (.agg #[.b b,s]) n1 x)(k:aQ base w (.agg #[.b c,t]) D y)(e1:n1=neg)(e2:D=false):aC base w (.agg #[.b b,s,.b c,t]) neg x y:=by
 obtain⟨D,e,J,fs⟩:=h;obtain⟨t',D,S,ft⟩:=k;simp only[aE6,aE7,aDP,Value.bool.injEq,and_true]at e D;obtain⟨rfl,rfl⟩:=e;obtain⟨rfl,rfl⟩:=D;exact⟨_,_,by rw[e1,e2],J,S,fs,ft⟩
abbrev aeK{n:Bool}{b:Nat}(D:0<b):decide (qE n b<0)=n:=by
 unfold qE;rw[aC9 Z];cases n<;>simp
abbrev Tv(n1 D:Bool)(a b:Nat)(J:0<b):l9 n1 D a b=((if D then !n1&&decide (0<a)else n1)&&decide (0<a/Nat.gcd a b)):=by
 unfold l9;rcases aD0 a with h | h
 .subst h; simp
 congr 1;unfold qE;rw[aC9 (show ¬a=0 by omega),aC9 (show ¬b=0 by omega)];cases n1<;>cases D<;>simp[h]
abbrev lX(n1:Bool)(s t:aaT)(l m:List UInt32)(w:VO)(h1:aG w s l)(D:aG w t m)(hm:0<TP m)(J:TP l%TP m=0)(a9:l.length<=5000000)(bb:m.length<=5000000) :
  abB prog 222 #[.agg #[.b n1,s],.agg #[.z,t]] w λe w'=>∃x y,e = .R (.tuple #[x,y,.i 0]) ∧
   aQ w.heap.size w' x (n1&&decide (0<TP l/TP m)) (TP l/TP m)∧aQ w.heap.size w' y false 0∧Ext w w':=by
 obtain⟨a1,c1,rfl⟩:=h1.shape;obtain⟨a2,c2,rfl⟩:=D.shape;refine aDi func222 ntmps222 λac S=>aCE λ_ gJ=>aEl S 2 [.b n1,.s a1 l.length c1] λac u b2 E3 ax S=>aEl S 3 [.z,.s a2 m.length c2] λac u b5 E6 ay S=>aEl S 4 [.z,.sn] λac u b8 E9 AL S=>aEl S 5 [.z,.sn] λac u az qC a3 S=>apB S 1 [] [(6,.i 0)] λS=>aCC<|gJ _ _<|aDs λ_ wL=>aCE λ_ IL=>apB S 1 [.M 2 0] [(12,.agg #[.z,.s a2 m.length c2])] λS=>Sx.CQ S 13 (Tq (D.below S.E) hm Z) λac u Cm S=>apB S 1 [] [(14,.z)] λS=>aCC<|IL _ _<|Sx.Fq S<|aDM<|wL _ _<|aCE λ_ Pz=>apB S 4 [.M 3 1,.M 2 1] [(19,.s a1 l.length c1),(21,.s a2 m.length c2)] λS=>aEf S (some 22) (Ac _ _ l m _ (h1.below S.E) (D.below S.E) hm Z Z) ?_;rintro e u ⟨q,r,rfl,hq,D,AZ⟩;have hq:aG _ _ _:=bD hq;have D:aG _ _ _:=bD D;rw[J]at D;obtain⟨J,cq,rfl⟩:=hq.shape;obtain⟨ar,cr,rfl⟩:=D.shape;refine⟨_,I,AZ,λac S=>?_⟩;refine apB S 7 [] [(7,.s J (Ro (TP l/TP m)).length cq),(8,.s ar (Ro 0).length cr)] λS=>aCC<|Pz _ _<|aCE λ_ ap=>apB S 6 [.M 3 0,.M 2 0] [(30,.b (!(n1==false))),(31,.s J (Ro (TP l/TP m)).length cq)] λS=>aEf S (some 32) (vk (!(n1==false)) hq (by have:=fP (aFr (TP l) (TP m)); have:=dA l; omega)) ?_;rintro e u ⟨x,rfl,fx,J⟩;obtain⟨aa,ab,rfl⟩:=fx.shape;have a7:=S.E.size;refine⟨_,I,J,λac S=>?_⟩;refine aEl S 10 [.z,.sn] λac u a4 RZ Xk S=>aC7 S 0 (off:=0) (cs:=[.b ((!(n1==false))&&decide (0<(TP l/TP m))),.s aa (Ro (TP l/TP m)).length ab]) I (λu PO S=>?_);have Gq:=aCI (K00 J RZ) PO (by have:=J.size; omega);have PS:=aCI (K00 J RZ) PO (by have:=J.size; omega);have J:=aCI RZ PO Z;refine aCC<|ap _ _<|aCE λ_ av=>apB S 3 [.M 4 0] [(34,.b n1),(35,.s ar (Ro 0).length cr)] λS=>aEf S (some 36) (vk n1 (D.below PS) (by simp[jU])) ?_;rintro e u ⟨x,rfl,fy,D⟩;obtain⟨Xu,Xv,rfl⟩:=fy.shape;have a8:=S.E.size;refine⟨_,I,D,λac S=>?_⟩;refine aEl S 11 [.z,.sn] λac u a5 A8 a6 S=>aC7 S 0 (off:=0) (cs:=[.b (n1&&decide (0<0)),.s Xu (Ro 0).length Xv]) I (λu PU S=>?_);have WA:=aCI (K00 Gq (K00 D A8)) PU (by have:=(K00 Gq D).size; omega);have LK:=aCI (K00 PS (K00 D A8)) PU (by have:=(K00 PS D).size; omega);have G8:=aCI (K00 J (K00 D A8)) PU (by have:=(K00 J D).size; omega);have Gs:=aCI A8 PU Z;refine aCC<|av _ _<|aDs λ_ J=>aCE λ_ aw=>Sx.aer S 10 [.M 5 0,.M 4 0,.M 0 0] [(_,_,(!(n1==false)),.i 0)] [(46,.b ((!(n1==false))&&false))] ⟨λu hC g=>PN (b:=n1&&decide (0<0)) (nD (fy.ext (K00 Gs hC))),G⟩ λac u D S=>aCC (aw _ _ ?_);refine aCX S (λLP=>?_) (λLP=>?_)
 .simp at LP
 refine aDM<|J _ _<|aDs λ_ Xw=>Sx.ordered S 5 λac u J S=>Sx.apv 0 1 ?_ ?_
 .refine apB S 1 [.M 1 0] [(53,.agg #[.b ((!(n1==false))&&decide (0<(TP l/TP m))),.s aa (Ro (TP l/TP m)).length ab])] λS=>Sx.Tn<|Sx.apv 1 2 ?_ ?_
  .refine apB S 1 [.M 0 0] [(54,.agg #[.b (n1&&decide (0<0)),.s Xu (Ro 0).length Xv])] λS=>Sx.Tn<|Sx.aiF 2 ?_;have ai:=S.bx 3;refine aC7 S 3 (off:=0) (cs:=[.b ((!(n1==false))&&decide (0<(TP l/TP m))),.s aa (Ro (TP l/TP m)).length ab]) I (λu ae S=>?_);have LQ:=aQ.eF (fx.ext (K00 G8 (K00 D J))) ae ai;have LU:=aQ.eF (fy.ext (K00 Gs (K00 D J))) ae ai;refine Sx.Tn<|Sx.Xr 3 ?_;have al:=S.bx 2;refine aC7 S 2 (off:=0) (cs:=[.b (n1&&decide (0<0)),.s Xu (Ro 0).length Xv]) I (λu af S=>?_);have Xx:=aQ.eF LQ af al;have IZ:=aQ.eF LU af al;refine apB S 1 [] [(6,.i 0)] λS=>aCC<|Xw _ _<|aD6 ?_;refine Sx.Xt S 3 2 results222 I I ⟨_,_,I,(aQ.mono Xx Z).flag Y,(aQ.mono IZ Z).flag Y,S.E⟩
  have am:=S.bx 3;refine aC7 S 3 (off:=0) (cs:=[.b ((!(n1==false))&&decide (0<(TP l/TP m))),.s aa (Ro (TP l/TP m)).length ab]) I (λu ag S=>?_);have Tz:=aQ.eF (fx.ext (K00 G8 (K00 D J))) ag am;have TA:=aQ.eF (fy.ext (K00 Gs (K00 D J))) ag am;refine Sx.Tn<|Sx.aiF 1<|apB S 1 [.M 0 0] [(54,.agg #[.b (n1&&decide (0<0)),.s Xu (Ro 0).length Xv])] λS=>Sx.Tn<|Sx.Xr 3 ?_;have an:=S.bx 2;refine aC7 S 2 (off:=0) (cs:=[.b (n1&&decide (0<0)),.s Xu (Ro 0).length Xv]) I (λu ah S=>?_);have CX:=aQ.eF Tz ah an;have I4:=aQ.eF TA ah an;refine apB S 1 [] [(6,.i 0)] λS=>aCC<|Xw _ _<|aD6 ?_;refine Sx.Xt S 3 2 results222 I I ⟨_,_,I,(aQ.mono CX Z).flag Y,(aQ.mono I4 Z).flag Y,S.E⟩
 refine apB S 1 [.M 0 0] [(54,.agg #[.b (n1&&decide (0<0)),.s Xu (Ro 0).length Xv])] λS=>Sx.Tn<|Sx.aiF 0<|apB S 1 [.M 1 0] [(53,.agg #[.b ((!(n1==false))&&decide (0<(TP l/TP m))),.s aa (Ro (TP l/TP m)).length ab])] λS=>Sx.Tn<|Sx.aiF 2 ?_;have ao:=S.bx 3;refine aC7 S 3 (off:=0) (cs:=[.b ((!(n1==false))&&decide (0<(TP l/TP m))),.s aa (Ro (TP l/TP m)).length ab]) I (λu WB S=>?_);have CY:=aQ.eF (fx.ext (K00 G8 (K00 D J))) WB ao;have xG:=aQ.eF (fy.ext (K00 Gs (K00 D J))) WB ao;refine Sx.Tn<|Sx.Xr 3 ?_;have J:=S.bx 2;refine aC7 S 2 (off:=0) (cs:=[.b (n1&&decide (0<0)),.s Xu (Ro 0).length Xv]) I (λu D S=>?_);have Xy:=aQ.eF CY D J;have I5:=aQ.eF xG D J;refine apB S 1 [] [(6,.i 0)] λS=>aCC<|Xw _ _<|aD6 ?_;refine Sx.Xt S 3 2 results222 I I ⟨_,_,I,(aQ.mono Xy Z).flag Y,(aQ.mono I5 Z).flag Y,S.E⟩
abbrev LV(n1 D:Bool)(s1 s2:aaT)(l m:List UInt32)(w:VO)(h1:aG w s1 l)(h2:aG w s2 m)(hm:0<TP m)(a3:l.length<=5000000)(a4:m.length<=5000000) :
  abB prog 174 #[.agg #[.b n1,s1],.agg #[.b D,s2]] w λe w'=>∃x,e = .R x ∧
   aC w.heap.size w' x (l9 n1 D (TP l) (TP m)) (TP l/Nat.gcd (TP l) (TP m)) (TP m/Nat.gcd (TP l) (TP m))∧Ext w w':=by
 obtain⟨a1,c1,rfl⟩:=h1.shape;obtain⟨a2,c2,rfl⟩:=h2.shape;have hG:0<(Nat.gcd (TP l) (TP m)):=aF2 _ hm;have ai:(Ro (Nat.gcd (TP l) (TP m))).length<=5000000:=by have:=fP (Nat.le_of_dvd hm (aFK (TP l) (TP m))); have:=dA m; omega
 refine aCG func174 ntmps174 λS=>aCJ S [.b n1,.s a1 l.length c1] λu b2 E3 J S=>aCJ S [.b D,.s a2 m.length c2] λu b5 E6 J S=>aCJ S Sx.zr λu b8 J AL S=>adr S 4 [] [.M 2 1,.M 1 1] λS=>aCR S (Xm _ _ l m _ (h1.below S.E) (h2.below S.E) a3 a4) ?_;rintro e u ⟨g,rfl,J,qC⟩;obtain⟨ag,cg,rfl⟩:=J.shape;refine⟨_,I,qC,λS=>?_⟩;refine aCR S (vk false J Z) ?_;rintro e u ⟨x,rfl,fg,J⟩;obtain⟨bg,dg,rfl⟩:=fg.shape;refine⟨_,I,J,λS=>?_⟩;refine aCJ S [.z,.sn] λu cu J ct S=>aCP S 0 (off:=0) (cs:=[.z,.s bg (Ro (Nat.gcd (TP l) (TP m))).length dg]) I (λu LW S=>?_);have AZ:=aCI J LW;refine adr S 1 [] [.M 2 0] λS=>aCQ S (rU D _ m _ (h2.below S.E) Z) λu xH S=>aCD S (decide ((qE D (TP m))<0)) (λac S=>?_) (λac S=>?_)
 .have hn:D=true:=(aeK hm).symm.trans ac;refine adr S 1 [] [.M 3 0] λS=>aCR S (IW n1 _ l _ (h1.below S.E) Z) ?_;rintro e u ⟨x,rfl,nx,zS⟩;obtain⟨cm,cn,rfl⟩:=nx.shape;refine⟨_,I,zS,λS=>?_⟩;have J:=S.bx 3;refine aCP S 3 (off:=0) (cs:=[.b (!n1&&decide (0<TP l)),.s cm (Ro (TP l)).length cn]) I (λu WC S=>?_);have zU:=aQ.eF (fg.ext (K00 AZ (K00 xH zS))) WC J;have Em:=aQ.eF nx WC J;refine adr S 1 [] [.M 2 0] λS=>aCR S (IW D _ m _ (h2.below S.E) Z) ?_;rintro e u ⟨x,rfl,ny,zQ⟩;obtain⟨co,cq,rfl⟩:=ny.shape;refine⟨_,I,zQ,λS=>?_⟩;have J:=S.bx 2;refine aCP S 2 (off:=0) (cs:=[.b (!D&&decide (0<TP m)),.s co (Ro (TP m)).length cq]) I (λu LD S=>?_);have zV:=aQ.eF (zU.ext zQ) LD J;have Eo:=aQ.eF (Em.ext zQ) LD J;have Ba:=aQ.eF ny LD J;refine adr S 2 [] [.M 3 0,.M 0 0] λS=>aCR S (lX (!n1&&decide (0<TP l)) _ _ (Ro (TP l)) (Ro (Nat.gcd (TP l) (TP m))) _ (nD Eo) (nD zV) (by rw[NP]; exact hG) (by simp only[NP]; exact Nat.mod_eq_zero_of_dvd (Nat.gcd_dvd_left _ _)) (aDy (dA l) a3) ai) ?_;rintro e u ⟨x,y,rfl,fx,ay,G8⟩;simp only[NP]at fx;obtain⟨J,aa,rfl⟩:=fx.shape;obtain⟨ar,av,rfl⟩:=ay.shape;have bo:=S.E.size;refine⟨_,I,G8,λS=>?_⟩;refine aCJ S [.z,.sn] λu cv ab cw S=>aCJ S [.z,.sn] λu cx Si cy S=>aCP S 1 (off:=0) (cs:=[.b ((!n1&&decide (0<TP l))&&decide (0<(TP l/(Nat.gcd (TP l) (TP m))))),.s J (Ro (TP l/(Nat.gcd (TP l) (TP m)))).length aa]) I (λu ao S=>?_);have S:=S.fl;have bp:=aCI (K00 G8 (K00 ab Si)) ao (by have:=G8.size; omega);have bq:=aCI (K00 G8 (K00 ab Si)) ao (by have:=G8.size; omega);have br:=aCI (K00 ab Si) ao;refine aCP S 0 (off:=0) (cs:=[.z,.s ar (Ro 0).length av]) I (λu ap S=>?_);have TB:=aCI bp ap (by have:=(K00 G8 ab).size; omega);have bs:=aCI bq ap (by have:=(K00 G8 ab).size; omega);have Xz:=aCI br ap (by have:=ab.size; omega);refine adr S 3 [] [.M 4 0,.M 2 0] λS=>aCR S (lX (!D&&decide (0<TP m)) _ _ (Ro (TP m)) (Ro (Nat.gcd (TP l) (TP m))) _ (nD (Ba.ext bs)) (nD (zV.ext TB)) (by rw[NP]; exact hG) (by simp only[NP]; exact Nat.mod_eq_zero_of_dvd (aFK _ _)) (aDy (dA m) a4) ai) ?_;rintro e u ⟨x,y,rfl,fy,az,al⟩;simp only[NP]at fy;obtain⟨Xu,Xv,rfl⟩:=fy.shape;obtain⟨aw,ax,rfl⟩:=az.shape;have bt:=S.E.size;refine⟨_,I,al,λS=>?_⟩;refine aCJ S [.z,.sn] λu cz ae c0 S=>aCJ S [.z,.sn] λu da a5 db S=>aCP S 1 (off:=0) (cs:=[.b ((!D&&decide (0<TP m))&&decide (0<(TP m/(Nat.gcd (TP l) (TP m))))),.s Xu (Ro (TP m/(Nat.gcd (TP l) (TP m)))).length Xv]) I (λu a6 S=>?_);have bu:=aCI (K00 Xz (K00 al (K00 ae a5))) a6 (by have:=(K00 Xz al).size; omega);have bv:=aCI (K00 ae a5) a6;refine aCP S 0 (off:=0) (cs:=[.z,.s aw (Ro 0).length ax]) I (λu a7 S=>?_);have bw:=aCI bu a7 (by have:=(K00 Xz (K00 al ae)).size; omega);have bz:=aCI bv a7 (by have:=ae.size; omega);have bk:=S.bx 5;refine adr S 4 [] [.M 3 0,.M 1 0] λS=>aCP S 5 (off:=0) (cs:=[.b ((!n1&&decide (0<TP l))&&decide (0<(TP l/(Nat.gcd (TP l) (TP m))))),.s J (Ro (TP l/(Nat.gcd (TP l) (TP m)))).length aa,.b ((!D&&decide (0<TP m))&&decide (0<(TP m/(Nat.gcd (TP l) (TP m))))),.s Xu (Ro (TP m/(Nat.gcd (TP l) (TP m)))).length Xv]) I (λu a8 S=>?_);have S:=S.fl;have PV:=aQ.eF (fx.ext bw) a8 bk;have ca:=aQ.eF (fy.ext bz) a8 bk;refine aCU S 5 I (v := .agg #[.b ((!n1&&decide (0<TP l))&&decide (0<(TP l/(Nat.gcd (TP l) (TP m))))),.s J (Ro (TP l/(Nat.gcd (TP l) (TP m)))).length aa,.b ((!D&&decide (0<TP m))&&decide (0<(TP m/(Nat.gcd (TP l) (TP m))))),.s Xu (Ro (TP m/(Nat.gcd (TP l) (TP m)))).length Xv]) (λS=>?_);exact⟨_,I,Tt (aQ.mono PV Z) (aQ.mono ca Z) (by rw[Tv _ _ _ _ hm,hn]; rfl) (by rw[hn]; rfl),S.E⟩
 have hn:D=false:=(aeK hm).symm.trans ac;refine adr S 2 [] [.M 3 0,.M 0 0] λS=>aCR S (lX n1 _ _ l (Ro (Nat.gcd (TP l) (TP m))) _ (h1.below S.E) (nD (fg.ext (K00 AZ xH))) (by rw[NP]; exact hG) (by simp only[NP]; exact Nat.mod_eq_zero_of_dvd (Nat.gcd_dvd_left _ _)) a3 ai) ?_;rintro e u ⟨x,y,rfl,fx,ay,am⟩;simp only[NP]at fx;obtain⟨J,aa,rfl⟩:=fx.shape;obtain⟨ar,av,rfl⟩:=ay.shape;have bo:=S.E.size;refine⟨_,I,am,λS=>?_⟩;refine aCJ S [.z,.sn] λu dd af de S=>aCJ S [.z,.sn] λu df a9 dh S=>aCP S 1 (off:=0) (cs:=[.b (n1&&decide (0<(TP l/(Nat.gcd (TP l) (TP m))))),.s J (Ro (TP l/(Nat.gcd (TP l) (TP m)))).length aa]) I (λu bb S=>?_);have cb:=aCI (K00 AZ (K00 xH (K00 am (K00 af a9)))) bb (by have:=(K00 AZ (K00 xH am)).size; omega);have cc:=aCI (K00 af a9) bb;refine aCP S 0 (off:=0) (cs:=[.z,.s ar (Ro 0).length av]) I (λu bc S=>?_);have cd:=aCI cb bc (by have:=(K00 AZ (K00 xH (K00 am af))).size; omega);have aq:=aCI cc bc (by have:=af.size; omega);refine adr S 3 [] [.M 4 0,.M 2 0] λS=>aCR S (lX D _ _ m (Ro (Nat.gcd (TP l) (TP m))) _ (h2.below S.E) (nD (fg.ext cd)) (by rw[NP]; exact hG) (by simp only[NP]; exact Nat.mod_eq_zero_of_dvd (aFK _ _)) a4 ai) ?_;rintro e u ⟨x,y,rfl,fy,az,an⟩;simp only[NP]at fy;obtain⟨Xu,Xv,rfl⟩:=fy.shape;obtain⟨aw,ax,rfl⟩:=az.shape;have bt:=S.E.size;refine⟨_,I,an,λS=>?_⟩;refine aCJ S [.z,.sn] λu di ah dj S=>aCJ S [.z,.sn] λu dk bd dl S=>aCP S 1 (off:=0) (cs:=[.b (D&&decide (0<(TP m/(Nat.gcd (TP l) (TP m))))),.s Xu (Ro (TP m/(Nat.gcd (TP l) (TP m)))).length Xv]) I (λu be S=>?_);have ce:=aCI (K00 aq (K00 an (K00 ah bd))) be (by have:=(K00 aq an).size; omega);have cf:=aCI (K00 ah bd) be;refine aCP S 0 (off:=0) (cs:=[.z,.s aw (Ro 0).length ax]) I (λu bh S=>?_);have S:=S.fl;have ci:=aCI ce bh (by have:=(K00 aq (K00 an ah)).size; omega);have cj:=aCI cf bh (by have:=ah.size; omega);have bm:=S.bx 5;refine adr S 4 [] [.M 3 0,.M 1 0] λS=>aCP S 5 (off:=0) (cs:=[.b (n1&&decide (0<(TP l/(Nat.gcd (TP l) (TP m))))),.s J (Ro (TP l/(Nat.gcd (TP l) (TP m)))).length aa,.b (D&&decide (0<(TP m/(Nat.gcd (TP l) (TP m))))),.s Xu (Ro (TP m/(Nat.gcd (TP l) (TP m)))).length Xv]) I (λu bj S=>?_);have ck:=aQ.eF (fx.ext ci) bj bm;have TD:=aQ.eF (fy.ext cj) bj bm;refine aCU S 5 I (v := .agg #[.b (n1&&decide (0<(TP l/(Nat.gcd (TP l) (TP m))))),.s J (Ro (TP l/(Nat.gcd (TP l) (TP m)))).length aa,.b (D&&decide (0<(TP m/(Nat.gcd (TP l) (TP m))))),.s Xu (Ro (TP m/(Nat.gcd (TP l) (TP m)))).length Xv]) (λS=>?_);exact⟨_,I,Tt (aQ.mono ck Z) (aQ.mono TD Z) (by rw[Tv _ _ _ _ hm,hn]; rfl) (by rw[hn]; rfl),S.E⟩
end Go.Proofs.Vy
end
abbrev aC4:=@Go.Sx.jg
abbrev aDa:=@Go.Sx.look1
