/- A region that draws its order -/
import Derived.Test.YtodpgjjgaddkeaaGreatDoorPk9
set_option maxHeartbeats 9999999
open Go renaming World->E5,Value->y9,Calls->Nq,Program->Ë,Oper->YM,wpList->Ã,TypeId->Ð,execOp->Í,Operand->î,Act->á,Addr->Ć,wpAny->Đ
set_option maxRecDepth 100000
set_option linter.unusedVariables false
set_option linter.unusedSimpArgs false
open Go.Proofs.Tryz Go.Proofs.Õ Go.RowKit Go.Rel
section
namespace Go.Sx
open Na
section
variable{P:Ë}{ops ops':Array YM}{Q:Exit->á->E5->Prop}{a:á}{w:E5}
variable{i j:Nat}{H:List Nat}{v:y9}
abbrev aeB{Ő:á->Prop}{K K':á->E5->Prop}(J:Ő a)(D:∀o,ops[i]?=some o->∀b,Ő b->∀u,Ő (b.put o.dst u))(hd:∀b d,Ő b->Ő { b with defers:=d })(S:∀a w,Ő a->K a w->K' a w)(h:wpOp P ops (yV Q) i K a w):wpOp P ops (yV Q) i K' a w:=by
 unfold wpOp at *;cases ho:ops[i]? with
 | none=>rw[ho]at h; exact S _ _ J h
 | some o =>
  have D:=D o ho;rw[ho]at h;simp only at h |-;split at h
  .rename_i hw;rw[Á hw];rcases h with h | ⟨_,h⟩
   .left;unfold Oper.wp at *;generalize (Í a.eval o).run P w=r at *;cases r with
    | ok n w' =>
     cases n<;>simp only[Oper.upon]at h |-;case value u=>exact S _ _ (D a J u) h
     case skip=>exact S _ _ (D a J _) h
     case defer d=>exact S _ _ (D _ (hd a _ J) _) h
     case enter f args =>
      refine Calls.mono h λe aa he=>?_;cases e with
      | returned u=>exact S _ _ (D a J u) he
      | panicked c=>exact he.elim
      | outgrown=>exact(oH he).elim
     case row row args=>exact Rows.mono h λu aa he=>S _ _ (D a J u) he
    | halt x w' =>
     cases x<;>simp only[Oper.upon]at h |-;case panic u=>exact h.elim
   exact(oH h).elim
  rename_i hw;rw[UQ hw];exact S _ _ (D a J _) h
def ũ(P:Ë)(ops:Array YM)(H:List Nat)(a:á):Prop:=∀h∈H,∃o v d,ops[h]?=some o∧o.guard=none∧o.dst=some d∧(∀w,(Í a.eval o).run P w = .ok (.value v) w)∧a.put (some d) v=a
abbrev ũ.op{H:List Nat}{h:Nat}(hp:ũ P ops H a)(hh:h∈H){K:á->E5->Prop}(hk:wpOp P ops (yV Q) h K a w):K a w:=by
 obtain⟨o,v,d,J,S,hd,hr,D⟩:=hp h hh;unfold wpOp at hk;rw[J]at hk;simp only[Region.wanted,S,if_true]at hk;rcases hk with hk | ⟨_,hk⟩
 .unfold Oper.wp at hk;rw[hr]at hk;simp only[Oper.upon]at hk;rw[hd,D]at hk;exact hk
 exact(oH hk).elim
abbrev ũ.defer{H:List Nat}(hp:ũ P ops H a)(J:List Deferred):ũ P ops H { a with defers:=J }:=λh S=>by
 obtain⟨o,v,d,ho,hg,hd,hr,D⟩:=hp h S;refine⟨o,v,d,ho,hg,hd,hr,?_⟩;have S:=Ñ Act.tmps D;show({ tmps:=a.tmps.setIfInBounds d v,defers:=J }:á)=_;rw[show a.tmps.setIfInBounds d v=a.tmps from S]
def aiO(ops:Array YM)(H:List Nat):Bool:=(List.range ops.size).all λi=>H.contains i||(match ops[i]? with
 | some o=>(match o.dst with
  | some d=>H.all λh=>(match ops[h]? with | some q=>q.dst != some d&&q.op.operands.all (λx=>match x with | .tmp s=>s != d | _=>true) && !wP q.op | none=>false)
  | none=>true)
 | none=>true)
abbrev ũ.keep{H:List Nat}(S:ũ P ops H a)(hs:aiO ops H=true){i:Nat}{o:YM}(ho:ops[i]?=some o)(hi:i∉H)(u:y9):ũ P ops H (a.put o.dst u):=by
 cases hd:o.dst with
 | none=>exact S
 | some d =>
  intro h hh;obtain⟨q,v,d',hq,hg,D,hr,J⟩:=S h hh;unfold aiO at hs;rw[ñ]at hs;have S:=hs i (Ϣ.2 (Array.getElem?_eq_some_iff.1 ho).1);have hc:H.contains i=false:=by simpa using hi
  rw[hc,ho]at S;simp only[Bool.false_or,hd,ñ]at S;have h2:=S h hh;rw[hq]at h2;simp only[Û,bne_iff_ne,ne_eq,Ŏ]at h2;obtain⟨⟨h3,h4⟩,h5⟩:=h2;have S:d'≠d:=λe=>h3 (by rw[D,e]);refine⟨q,v,d',hq,hg,D,λw=>?_,?_⟩
  .rw[<-hr w];congr 1;refine execOp_congr q (λcs b D=>by rw[D]at h5; cases h5) λx D=>?_;cases x with
   | tmp s =>
    rw[Κ]at h4;have h6:=h4 _ D;simp only[bne_iff_ne,ne_eq]at h6;exact lH (pG a (some d) u s (λe=>h6 (Ò e).symm))
   | const _=>rfl
   | global _=>rfl
   | func _=>rfl
  rw[Act.put_comm a u v (λx D hy=>by
   simp only[Æ]at D hy;exact S (hy.trans D.symm)),J]
def jG(ops:Array YM)(i:Nat):List Nat:=match ops[i]? with | some o=>o.after.toList.filterMap (λe=>match Region.binds .any e with | true=>some e.on | false=>none) | none=>[]
abbrev mY{o:YM}(D:ops[i]?=some o):j∈jG ops i↔∃e∈o.after,Region.binds .any e=true∧e.on=j:=by
 unfold jG;rw[D];simp only[ő,Array.mem_toList_iff];constructor
 .rintro⟨e,he,h⟩;split at h
  .rename_i hb; exact⟨e,he,hb,Ò h⟩
  cases h
 rintro⟨e,he,hb,rfl⟩;exact⟨e,he,by rw[hb]⟩
abbrev jr{L:Array Bool}:j∈Region.ready .any ops L↔j<ops.size∧L.getD j true=false∧∀q∈jG ops j,L.getD q false=true:=by
 rw[mem_ready];constructor
 .rintro⟨h0,o,ho,hall⟩;refine⟨(Array.getElem?_eq_some_iff.1 ho).1,h0,λq S=>?_⟩;obtain⟨e,D,J,rfl⟩:=(mY ho).1 S;exact hall e D J
 rintro⟨hlt,h0,h⟩;refine⟨h0,ops[j],Array.getElem?_eq_getElem hlt,λe D J=>h _ ((mY (Array.getElem?_eq_getElem hlt)).2 ⟨e,D,J,I⟩)⟩
def need(ops:Array YM)(H:List Nat):Nat->Nat->List Nat
 | 0,_=>[]
 | f+1,h=>(jG ops h).flatMap λq=>match H.contains q with | true=>need ops H f q | false=>[q]
def aae(ops D:Array YM)(H:List Nat):Bool:=
 ops.size==D.size&&H.all (λh=>decide (h<ops.size)&&(jG D h).all λq=>decide (q<h))&&(List.range ops.size).all λi=>(jG ops i).all (λq=>(jG D i).contains q&&decide (q<ops.size))&&(H.contains i||(jG D i).all λq =>
  match H.contains q with | true=>(need D H ops.size q).all λr=>(jG ops i).contains r | false=>(jG ops i).contains q)
structure Ϗ (n:Nat) (H:List Nat) (L L':Array Bool):Prop where
 s1:L.size=n
 s2:L'.size=n
 at':∀j,j<n->L'.getD j true=(L.getD j true||H.contains j)
abbrev qZ{L:Array Bool}(h:j<L.size)(a b:Bool):L.getD j a=L.getD j b:=by simp[Array.getD_eq_getD_getElem?,Array.getElem?_eq_getElem h]
abbrev Ϗ.set{n i:Nat}{H:List Nat}{L L':Array Bool}(h:Ϗ n H L L'):Ϗ n H (L.setIfInBounds i true) (L'.setIfInBounds i true):=by
 refine⟨by simp[h.s1],by simp[h.s2],λj D=>?_⟩;by_cases hij:i=j
 .subst hij;have J:i<L.size:=by rw[h.s1]; exact D
  have S:i<L'.size:=by rw[h.s2]; exact D
  simp[Array.getD_eq_getD_getElem?,J,S]
 rw[getD_set_ne true hij,getD_set_ne true hij]; exact h.at' j D
abbrev Ϗ.setH{n i:Nat}{H:List Nat}{L L':Array Bool}(h:Ϗ n H L L')(J:i∈H):Ϗ n H (L.setIfInBounds i true) L':=by
 refine⟨by simp[h.s1],h.s2,λj D=>?_⟩;rw[h.at' j D];by_cases hij:i=j
 .subst hij;have D:H.contains i=true:=by simpa using J
  rw[D,Bool.or_true,Bool.or_true]
 rw[getD_set_ne true hij]
def left(n:Nat)(H:List Nat)(L:Array Bool):Nat:=(List.range n).countP λj => !L.getD j true && !H.contains j
abbrev aeC{n:Nat}{L:Array Bool}(D:L.size=n)(J:i<n)(h0:L.getD i true=false)(hH:i∉H):left n H (L.setIfInBounds i true)<left n H L:=by
 unfold left;have D:i∈List.range n:=Ϣ.2 J;obtain⟨s,t,J⟩:=List.append_of_mem D;have D:=List.nodup_range (n:=n);rw[J]at D |-;have hd:=ŋ.1 D;have S:H.contains i=false:=by simpa using hH
 have D:∀l:List Nat,i∉l->l.countP (λj => !(L.setIfInBounds i true).getD j true && !H.contains j)=l.countP λj => !L.getD j true && !H.contains j:=by
  intro l hl;refine List.countP_congr λj J=>?_;rw[getD_set_ne true (λe:i=j=>hl (e▸J))]
 have h1:i∉s:=λJ=>hd.F i J i Y I;have J:i∉t:=(Ż.1 hd.2.1).1;have h3:i<L.size:=Z
 rw[List.countP_append,List.countP_append,List.countP_cons,List.countP_cons,D s h1,D t J];have D:(L.setIfInBounds i true).getD i true=true:=by simp[Array.getD_eq_getD_getElem?,h3]
 rw[D,h0,S];simp
abbrev abE{n:Nat}{L:Array Bool}(hH:i∈H):left n H (L.setIfInBounds i true)=left n H L:=by
 unfold left;refine List.countP_congr λj D=>?_;by_cases hij:i=j
 .subst hij;simp[hH]
 rw[getD_set_ne true hij]
abbrev aeD{n:Nat}{L:Array Bool}(D:i<n)(J:L.getD i true=false)(hH:i∉H):0<left n H L:=by
 unfold left;rw[List.countP_pos_iff];exact⟨i,Ϣ.2 D,by simp[J,hH]⟩
theorem aaf{D:Array YM}{H:List Nat}{L:Array Bool}{n:Nat}(ab:D.size=n)(hL:L.size=n)(hb:∀h∈H,h<n∧∀q∈jG D h,q<h)(aa:∀h∈H,h∉Region.ready .any D L) :
  ∀(f h:Nat),h<f->h∈H->L.getD h true=false->∃q∈need D H f h,q∉H∧q<n∧L.getD q false=false
 | 0,h,hf,_,_=>by omega
 | f+1,h,hf,hh,h0=>by
  have J:=aa h hh
  rw[jr]at J
  obtain⟨S,hq⟩:=hb h hh
  have h2:∃q∈jG D h,L.getD q false=false:=by
   refine Classical.byContradiction λhn=>J ⟨Z,h0,λq D=>?_⟩
   cases J:L.getD q false with
   | true=>rfl
   | false=>exact(hn ⟨q,D,J⟩).elim
  obtain⟨q,D,S⟩:=h2
  have ac:=hq q D
  by_cases hqH:q∈H
  .obtain⟨r,hr,hr2⟩:=aaf ab hL hb aa f q Z hqH (by rw[qZ Z true false]; exact S)
   refine⟨r,List.mem_flatMap.2 ⟨q,D,?_⟩,hr2⟩
   have J:H.contains q=true:=by simpa using hqH
   rw[J]; exact hr
  .refine⟨q,List.mem_flatMap.2 ⟨q,D,?_⟩,hqH,Z,S⟩
   have J:H.contains q=false:=by simpa using hqH
   rw[J]; exact û.2 I
abbrev Xj{D:Array YM}(an:Alike D ops)(J:aae ops D H=true)(az:aiO ops H=true) :
  ∀(g f:Nat) (L L':Array Bool) (a:á) (w:E5),Ϗ ops.size H L L'->left ops.size H L<=f->ũ P ops H a->Đ P .any D (yV Q) g L a w->Đ P .any ops (yV Q) f L' a w:=by
 unfold aae at J;simp only[Û,ß,ñ,Ϣ,Þ,ų,Ϸ]at J;obtain⟨⟨S,hH⟩,ah⟩:=J;have hb:∀h∈H,h<ops.size∧∀q∈jG D h,q<h:=hH;have key:∀{L L':Array Bool},Ϗ ops.size H L L'->(∀h∈H,h∉Region.ready .any D L)->∀i,i∈Region.ready .any ops L'->i∉H∧i∈Region.ready .any D L:=by
  intro L L' hl ag i J;rw[jr]at J;obtain⟨ai,h0,hw⟩:=J;have ac:=hl.at' i ai;rw[h0]at ac;have S:i∉H:=λhm=>by
   have hc:H.contains i=true:=by simpa using hm
   rw[hc,Bool.or_true]at ac; cases ac
  have aq:L.getD i true=false:=by
   cases h:L.getD i true with
   | false=>rfl
   | true=>rw[h]at ac; cases ac
  have ao:∀q∈jG ops i,q∉H->L.getD q false=true:=λq hq aa=>by
   have h1:=hw q hq;have ab:=((ah i ai).1 q hq).2;have h2:=hl.at' q ab;rw[qZ (L:=L') (by rw[hl.s2]; exact ab) true false,h1]at h2;have hc:H.contains q=false:=by simpa using aa
   rw[hc,Bool.or_false]at h2;rw[qZ (L:=L) (by rw[hl.s1]; exact ab) false true,<-h2]
  refine⟨S,jr.2 ⟨Z,aq,λq hq=>?_⟩⟩;have h1:=((ah i ai).2.resolve_left S) q hq;by_cases aa:q∈H
  .have hc:H.contains q=true:=by simpa using aa
   rw[hc]at h1;simp only[ñ,Ϸ]at h1;have ab:=(hb q aa).1;cases hv:L.getD q false with
   | true=>rfl
   | false =>
    obtain⟨r,hr,aw,a3,ax⟩:=aaf (n:=ops.size) Z hl.s1 hb ag ops.size q ab aa (by rw[qZ (by rw[hl.s1]; exact ab) true false]; exact hv);have:=ao r (h1 r hr) aw;rw[ax]at this; cases this
  have hc:H.contains q=false:=by simpa using aa
  rw[hc]at h1;simp only[Ϸ]at h1;exact ao q h1 aa
 have back:∀{L L':Array Bool},Ϗ ops.size H L L'->∀i,i∉H->i∈Region.ready .any D L->i∈Region.ready .any ops L':=by
  intro L L' hl i S J;rw[jr]at J |-;obtain⟨ai,h0,hw⟩:=J;have ae:i<ops.size:=Z
  refine⟨ae,?_,λq hq=>?_⟩
  .have hc:H.contains i=false:=by simpa using S
   rw[hl.at' i ae,h0,hc]; rfl
  have h1:=(ah i ae).1 q hq;have h2:=hw q h1.1;rw[qZ (L:=L') (by rw[hl.s2]; exact h1.2) false true,hl.at' q h1.2,qZ (L:=L) (by rw[hl.s1]; exact h1.2) true false,h2]; rfl
 intro g;induction g with
 | zero =>
  intro f L L' a w hl hf hp hh;have hr:Region.ready .any ops L'=[]:=by
   rw[aG5];intro i J;have:=(key hl (λh _ hm=>by rw[hh.1]at hm; cases hm) i J).2;rw[hh.1]at this; cases this
  cases f with
  | zero=>exact⟨hr,hh.2⟩
  | succ f=>exact⟨λ_=>hh.2,λi J=>by rw[hr]at J; cases J⟩
 | succ g ih =>
  intro f L L' a w hl hf hp hh;by_cases hex:∃h∈H,h∈Region.ready .any D L
  .obtain⟨h,hhH,hr⟩:=hex;have ar:ũ P D H a:=λh hh=>by
    obtain⟨o,v,d,ho,hg,hd,ay,ap⟩:=hp h hh;obtain⟨af,am⟩:=an.get ho;exact⟨_,v,d,am,hg,hd,λw=>by rw[K07]; exact ay w,ap⟩
   have h1:=ar.op hhH (hh.2 h hr);exact ih f _ L' a w (hl.setH hhH) (by rw[abE hhH]; exact hf) hp h1
  have ag:∀h∈H,h∉Region.ready .any D L:=λh hm hr=>hex ⟨h,hm,hr⟩;have hK:=key hl ag;cases f with
  | zero =>
   have hr:∀i,i∉Region.ready .any D L:=λi J=>by
    have S:i∉H:=λhm=>ag i hm J;rw[jr]at J;have:=aeD (n:=ops.size) Z J.2.1 S;omega
   refine⟨?_,hh.1 (aG5.2 hr)⟩;rw[aG5];exact λi J=>hr i (hK i J).2
  | succ f =>
   refine⟨λh0=>hh.1 ?_,λi J=>?_⟩
   .rw[aG5];intro i J;have:=back hl i (λhm=>ag i hm J) J;rw[h0]at this; cases this
   obtain⟨S,hr⟩:=hK i J;have av:=hh.2 i hr;have al:i<ops.size:=(jr.1 J).1;have h2:=aeC hl.s1 al (jr.1 hr).2.1 S;refine Alike.wpOp an (K:=λJ w'=>ũ P ops H J∧Đ P .any D (yV Q) g (L.setIfInBounds i true) J w') (λJ w' h3=>ih f _ _ J w' hl.set Z h3.1 h3.2) ?_;refine aeB (Ő:=ũ P ops H) hp (λo ho b hb u=>?_) (λb d hb=>hb.defer d) (λa w h1 h2=>⟨h1,h2⟩) av;have D:ops[i]?=some ops[i]:=Array.getElem?_eq_getElem al;obtain⟨af,am⟩:=an.get D;rw[am]at ho;obtain rfl:=Ò ho;exact hb.keep az D S u
def aiP(P:Ë)(ops:Array YM)(l:List (Nat×y9))(h:Nat):Option (Nat×y9):=match ops[h]? with
 | some o=>(match o.guard,o.dst,wP o.op || !o.op.operands.all (λx=>(rd (lift l) [] x).isSome),jd (ev0 P (Í (zQ (lift l) []) o))with
  | none,some d,false,some (.val v)=>some (d,v)
  | _,_,_,_=>none)
 | none=>none
abbrev NS{l:List (Nat×y9)}{h n d:Nat}(D:aiP P ops l h=some (d,v))(J:Vp.St a n l):∃o,ops[h]?=some o∧o.guard=none∧o.dst=some d∧wP o.op=false∧∀w,(Í a.eval o).run P w = .ok (.value v) w:=by
 unfold aiP at D;cases ho:ops[h]? with
 | none=>rw[ho]at D; cases D
 | some o =>
  rw[ho]at D;simp only at D;split at D
  .rename_i d' v' hg hd hav hev;simp only[Æ,Ê]at D;obtain⟨rfl,rfl⟩:=D;simp only[Ĕ]at hav;exact⟨o,I,hg,hd,hav.1,λw=>lN (Std.act a) (gG (bT J) o) (p:=[]) I hav.1 (by simpa using hav.2) hev⟩
  cases D
def aag(P:Ë)(ops:Array YM):List (Nat×y9)->List Nat->Array Bool->Option (List (Nat×y9))
 | _,[],_=>some []
 | l,p::H,L=>match aiP P ops l p,(Region.ready .any ops L).contains p&&Region.free .any ops L p with
  | some q,true=>(match aag P ops (q::l) H (L.setIfInBounds p true)with | some r=>some (q::r) | none=>none)
  | _,_=>none
abbrev aeE (l D:List (Nat×y9)):List (Nat×y9):=D.foldl (λl p=>p::l) l
abbrev AZ (H:List Nat)(L:Array Bool):Array Bool:=H.foldl (λL p=>L.setIfInBounds p true) L
theorem aeF(hs:Region.noSelect ops=true){n f:Nat}:∀(H:List Nat) (D l:List (Nat×y9)) (L:Array Bool) (a:á) (w:E5),Vp.St a n l->aag P ops l H L=some D->D.all (λp=>decide (p.1<n))=true ->
  (∀a1,Vp.St a1 n (aeE l D)->Đ P .any ops (yV Q) f (AZ H L) a1 w)->Đ P .any ops (yV Q) (f+H.length) L a w
 | [],D,l,L,a,w,hS,ht,hd,h=>by
  obtain rfl:[]=D:=Ò ht
  exact h a hS
 | p::H,D,l,L,a,w,hS,ht,hd,h=>by
  unfold aag at ht
  split at ht
  .rename_i q hq hb
   split at ht
   .rename_i r hr
    obtain rfl:=Ò ht
    obtain⟨d,v⟩:=q
    obtain⟨o,ho,hg,D,S,J⟩:=NS hq hS
    simp only[Û]at hb
    simp only[ϯ,Û,Þ]at hd
    rw[Ē,<-Ο]
    refine wpAny_take (v:=v) ho hs hb.2 hb.1 (λc a w h=>h.elim) (.inl ⟨by simp[Region.wanted,hg],J⟩) ?_
    rw[D]
    exact aeF hs H r _ _ _ w (hS.put d hd.1 v) hr hd.2 h
   .cases ht
  .cases ht
abbrev Tf{l D:List (Nat×y9)}(hl:D.all (λp=>(l.lookup p.1).isNone)=true)(S:l.lookup i=some v):(aeE l D).lookup i=some v:=by
 have:∀(D:List (Nat×y9)) (m:List (Nat×y9)),D.all (λp=>(l.lookup p.1).isNone)=true->m.lookup i=some v->(aeE m D).lookup i=some v:=by
  intro D;induction D with
  | nil=>intro m _ h; exact h
  | cons p D ih =>
   intro m J h2;simp only[ϯ,Û,Option.isNone_iff_eq_none]at J;refine ih (p::m) J.2 ?_;rw[ĝ];have:(i==p.1)=false:=by
    by_cases e:i=p.1
    .rw[e,J.1]at S; cases S
    simpa using e
   rw[this]; exact h2
 exact this D l hl S
end
def Xk(F:List Nat)(t:Nat)(ì:List Nat)(os:List YM):List YM:=ì.foldl (λos g=>kE [g-1] g os) (kE F t os)
abbrev Alike.trans{x y z:Array YM}(h:Alike x y)(k:Alike y z):Alike x z:=⟨h.1.trans k.1,λi=>(h.2 i).trans (k.2 i)⟩
variable{k i c f h' m sl sx:Nat}{o:YM}{ρ:î->y9}{e t:Ð}{Post:y9->E5->Prop}{xs ys:List y9}{z v y:y9}{A:Option Ć}{w':E5}{s x:î}
abbrev A8(F:List Nat)(t:Nat)(os:List YM):Alike (kE F t os).toArray os.toArray:=⟨by unfold kE; simp,λi=>by
 rw[List.getElem?_toArray,List.getElem?_toArray,uz];split
 .cases os[i]?<;>rfl
 rfl⟩
abbrev Xl(F:List Nat)(t:Nat):∀(ì:List Nat) (os:List YM),Alike (Xk F t ì os).toArray os.toArray:=by
 have key:∀(ì:List Nat) (os:List YM),Alike (ì.foldl (λos g=>kE [g-1] g os) os).toArray os.toArray:=by
  intro ì;induction ì with
  | nil=>exact λos=>⟨I,λi=>rfl⟩
  | cons g ì ih=>exact λos=>(ih _).trans (A8 _ _ _)
 exact λì os=>(key ì _).trans (A8 _ _ _)
abbrev al3{P:Ë}{Q:Exit->á->E5->Prop}{w0:E5}{a:á}{w:E5}{os:List YM}{n:Nat}{l:List (Nat×y9)}{bl:List (Nat×List y9)}{vs:List eX}{id:Nat}(S:St w0 a w n l bl vs)(F:List Nat)(t:Nat)(ì:List Nat)(D:List (Nat×y9))
  (next:∀a1,St w0 a1 w n l bl vs->Đ P .any (Xk F t ì os).toArray (yV Q) (Xk F t ì os).toArray.size (Array.replicate (Xk F t ì os).toArray.size false) a1 { w with drawn:=w.drawn+1 })
  (ht:aag P os.toArray l (F++ì) (Array.replicate os.length false)=some D:=by kernel_rfl) (hv:(F++ì).map (aiP P os.toArray (aeE l D))=D.map some:=by kernel_rfl) (hl:D.map (λp=>(aeE l D).lookup p.1)=D.map (λp=>some p.2):=by kernel_rfl)
  (J:(D.all (λp=>decide (p.1<n)&&(l.lookup p.1).isNone)&&Region.noSelect os.toArray&&aae os.toArray (Xk F t ì os).toArray (F++ì)&&aiO os.toArray (F++ì)&&decide ((F++ì).length<=os.length)&&decide (F++ì).Nodup)=true:=by kernel_rfl)
  (ah:P.follows .mixedOrders=true:=by kernel_rfl):(Code.region id os.toArray true).wp P Q a w:=by
 simp only[Û,Þ]at J;obtain⟨⟨⟨⟨⟨h1,h2⟩,h3⟩,h4⟩,h5⟩,h6⟩:=J;have hd:D.all (λp=>decide (p.1<n))=true:=by
  rw[ñ]at h1 |-;exact λp J=>((Û _ _).mp (h1 p J)).1
 have hn:D.all (λp=>(l.lookup p.1).isNone)=true:=by
  rw[ñ]at h1 |-;exact λp J=>((Û _ _).mp (h1 p J)).2
 refine ſ ah (uD _ _ _ _ ?_);have aa:=Xl F t ì os;have key:=aeF (P:=P) (Q:=Q) (ops:=os.toArray) h2 (n:=n) (f:=os.length-(F++ì).length) (F++ì) D l (Array.replicate os.length false) a { w with drawn:=w.drawn+1 } S.s ht hd λa1 hS=>?_
 .rw[Nat.sub_add_cancel h5]at key;simpa using key
 have ae:Vp.St a1 n l:=⟨hS.size,hS.defers,λi v J=>hS.has i v (Tf hn J)⟩;have af:ũ P os.toArray (F++ì) a1:=λh hh=>by
  obtain⟨j,J⟩:=List.getElem?_of_mem hh;have e1:=Ñ (·[j]?) hv;simp only[List.getElem?_map,J,ě]at e1;cases hq:D[j]? with
  | none=>rw[hq]at e1; cases e1
  | some q =>
   rw[hq]at e1;simp only[ě,Æ]at e1;obtain⟨d,v⟩:=q;obtain⟨o,ho,hg,D,ai,ac⟩:=NS e1 hS;refine⟨o,v,d,ho,hg,D,ac,?_⟩;have D:=aG6.1 hl (d,v) (List.mem_of_getElem? hq);have e3:=hS.has d v D;have ab:d<a1.tmps.size:=by
    rw[hS.size];have:=ñ.1 hd (d,v) (List.mem_of_getElem? hq);simpa using this
   have D:a1.tmps[d]=v:=by simpa[Act.eval,Array.getD_eq_getD_getElem?,ab]using e3
   show({ tmps:=a1.tmps.setIfInBounds d v,defers:=a1.defers }:á)=a1;have e5:a1.tmps.setIfInBounds d v=a1.tmps:=by
    refine Array.ext Y λi h1 h2=>?_;rw[Array.getElem_setIfInBounds (by simpa using h1)];split
    .rename_i e; subst e; exact D.symm
    rfl
   rw[e5]
 refine Xj aa h3 h4 _ _ _ _ a1 _ ?_ ?_ af (next a1 (S.act ae))
 ·
  have D:∀(H:List Nat) (L:Array Bool),(AZ H L).size=L.size∧∀j,j<L.size->(AZ H L).getD j true=(L.getD j true||H.contains j):=by
   intro H;induction H with
   | nil=>exact λL=>⟨I,λj J=>by simp⟩
   | cons p H ih =>
    intro L;obtain⟨i1,i2⟩:=ih (L.setIfInBounds p true);refine⟨by rw[show AZ (p::H) L=AZ H (L.setIfInBounds p true)from rfl,i1]; simp,λj J=>?_⟩;rw[show AZ (p::H) L=AZ H (L.setIfInBounds p true)from rfl,i2 j (by simpa using J)];by_cases hpj:p=j
    .subst hpj;simp[Array.getD_eq_getD_getElem?,J]
    rw[getD_set_ne true hpj];have:(j==p)=false:=by simpa using λe:j=p=>hpj e.symm
    rw[List.contains_cons,this,Bool.false_or]
  obtain⟨i1,i2⟩:=D (F++ì) (Array.replicate os.length false);have D:(Xk F t ì os).toArray.size=os.length:=by rw[aa.1]; simp
  exact⟨by rw[D]; simp,by rw[i1]; simp,λj J=>by rw[i2 j (by simpa using J),D]⟩
 have D:(Xk F t ì os).toArray.size=os.length:=by rw[aa.1]; simp
 rw[D];unfold left;have D:∀(H:List Nat),H.Nodup->(∀h∈H,h<os.length)->((List.range os.length).countP λj => !H.contains j)=os.length-H.length:=by
  intro H ag ab;have h7:(List.range os.length).countP (λj=>H.contains j)=H.length:=by
   have e1:((List.range os.length).filter λj=>H.contains j).Perm H:=by
    refine(List.perm_ext_iff_of_nodup (List.nodup_range.filter _) ag).2 λx=>?_;simp only[List.mem_filter,Ϣ,Ϸ];exact⟨λh=>h.2,λh=>⟨ab x h,h⟩⟩
   rw[List.countP_eq_length_filter,e1.length_eq]
  have h8:=List.length_eq_countP_add_countP (λj=>H.contains j) (l:=List.range os.length);rw[List.length_range,h7]at h8;have h9:(List.range os.length).countP (λj => !H.contains j)=(List.range os.length).countP λa=>decide ¬(H.contains a=true):=List.countP_congr λj J=>by simp
  rw[h9]; omega
 refine ϛ ((List.countP_congr λj J=>?_).trans (D (F++ì) h6 λh hh=>?_))
 .have hj':=Ϣ.1 J;have e1:(Array.replicate os.length false).getD j true=false:=by rw[Array.getD_eq_getD_getElem?,Array.getElem?_replicate,Á (by simpa using hj')]; rfl
  rw[e1]; rfl
 unfold aae at h3;simp only[Û,ñ,Þ]at h3;have:=(h3.1.2 h hh).1;simpa using this
abbrev rC{P:Ë}{w:E5}{os:List YM}(J:os[i]?=some o)(hs:Std ρ)(l:List (Nat×y9))(hl:∀q v,l.lookup q=some v->ρ (.tmp q)=v)(A:List y9)(sh:Option Nat)(hT:∀v w',iC w.heap.size A sh v w'->Ext w w'->Post v w')
  (D:∀r,((os[i]?).bind λo=>xC P r [o] l).map (λq=>(q.1,q.2.2.1,q.2.2.2.isSome))=some (A,Ρ sh r,true):=by intro r; kernel_rfl):Does P o ρ w Post:=by
 have D:=D w.heap.size;rw[J,Α]at D;unfold xC at D;simp only at D;split at D
 .rename_i A' ty k' hg hav hev;split at D
  .rename_i v hv;simp only[ě,Æ,Ê]at D;obtain⟨rfl,rfl,hd⟩:=D;simp only[Ĕ]at hav;have hH:Holds ρ (lift l):=λq x S=>by
    rw[ku]at S;cases J:l.lookup q with
    | none=>simp[J]at S
    | some u =>
     simp only[J,ě,Æ]at S;subst S;rw[hl q u J]; rfl
   have hc:Í ρ o=Í (zQ (lift l) []) o:=by
    refine execOp_congr o (λcs b S=>by rw[S]at hav; cases hav.1) λx D=>?_;have J:=hav.2;simp only[Ň,Κ]at J;obtain⟨z,S⟩:=Į.1 (J x D);rw[gB hs (gG hH o x D) (p:=[]) I S];simp[zQ,S]
   have S:ev0 P k'=some (.value (Ρ sh w.heap.size)):=by
    unfold jd at hv;split at hv
    .rename_i h; obtain J:=Ò hv; rw[h]; simp only[GH.val.injEq]at J; rw[J]
    .cases hv
    cases hv
   have J:(Í ρ o).run P w = .ok (.value (Ρ sh w.heap.size)) (w.alloc (.cells A'.toArray ty)):=by rw[hc,nK hev,oI S]
   unfold Does;rw[J];exact hT _ _ ⟨w.heap.size,I,Ç _,Iz _ _ _⟩ (aI _ _)
  simp at D
 simp at D
abbrev rD{α:Type}{f:α->List y9}{w:E5}{a:Option Ć}{L:List α}(h:aG k f w (.s a L.length c) L){l:Nat}(h1:l<=h')(h2:h'<=L.length)(h3:h'<=m)(h4:m<=c):aG k f w (.s (um a l m k) (h'-l) (m-l)) ((L.drop l).take (h'-l)):=by
 have D:((L.drop l).take (h'-l)).length=h'-l:=by simp; omega
 obtain⟨a',cap,J,hm,hh⟩:=h;simp only[Ĉ,true_and]at J;obtain⟨rfl,rfl⟩:=J;refine⟨um a l m k,m-l,by rw[D],ä Z hm,?_⟩;rcases hh with ⟨rfl,hz⟩ | ⟨b,o,rfl,hb,hl,hc⟩
 .refine .inl ⟨by simp,λe=>?_⟩;have:c=0:=hz (by
   unfold um at e;split at e
   .exact e
   cases a with
   | none=>rfl
   | some _=>cases e)
  omega
 by_cases hlm:m=l
 .refine .inl ⟨by rw[show h'-l=0 by omega]; rfl,λe=>by
  unfold um at e; rw[Á hlm]at e; cases e⟩
 refine .inr ⟨b,o+l*k,by unfold um; rw[UQ hlm]; simp[Addr.add],hb,by rw[D]; omega,λi S j hj=>?_⟩;rw[D]at S;have h5:=hc (l+i) Z j hj;have e1:o+l*k+i*k+j=o+(l+i)*k+j:=by rw[Œ]; omega
 rw[e1,h5,ϟ,List.getElem_drop]
abbrev Xm{α:Type}{base:Nat}{f:α->List y9}{w:E5}{a:Option Ć}{L:List α}(h:kF e k f base (.s a L.length c) L w)(h2:h'<=L.length)(D:h'<=m)(S:m<=c):kF e k f base (.s a h' m) (L.take h') w:=by
 have J:=rD h.1 (Î _) h2 D S;have D:(L.take h').length=h':=by simp; omega
 have e0:((L.drop 0).take (h'-0))=L.take h':=by simp
 rw[e0,Nat.sub_zero,Nat.sub_zero]at J;have ea:um a 0 m k=a:=by unfold um; split<;>cases a<;>simp[Addr.add]
 rw[ea]at J;refine⟨J,?_⟩;rcases h.2 with J | ⟨g,cap,S,J,h7,h8,h9⟩
 .exact .inl Z
 simp only[Ĉ,true_and]at J;obtain⟨rfl,rfl⟩:=J;exact .inr ⟨g,m,S,by rw[D],h7,h8,by rw[D]; exact ä (ō _ h2) h9⟩
abbrev aeG(a:Option Ć)(m k:Nat):um a 0 m k=a:=by unfold um; split<;>cases a<;>simp[Addr.add]
abbrev NT{α:Type}{f:α->List y9}{w:E5}{a:Option Ć}{L:List α}(h:aG k f w (.s a L.length c) L)(D:i<=L.length)(J:i<=c):aG k f w (.s (um a 0 i k) i i) (L.take i):=by
 have:=rD h (Î i) D (Ç i) J;simpa using this
abbrev abH{α:Type}{f:α->List y9}{w:E5}{a:Option Ć}{L:List α}(h:aG k f w (.s a L.length c) L)(D:i<=L.length)(J:L.length<=c):aG k f w (.s (um a i c k) (L.length-i) (c-i)) (L.drop i):=by
 have:=rD h D (Ç _) J (Ç c);rwa [Ď Y]at this
abbrev kP{α:Type}{f:α->List y9}{w:E5}{a:Option Ć}{L:List α}(h:aG k f w (.s a L.length c) L):L.length<=c:=by
 obtain⟨S,cap,D,hm,J⟩:=h;simp only[Ĉ,true_and]at D;obtain⟨rfl,rfl⟩:=D;rcases J with ⟨rfl,_⟩ | ⟨b,o,_,_,hl,_⟩
 .exact Î _
 exact hl
abbrev dF{w:E5}{B:Nat}{n:Nat}(h:w.ownsRow B e k v n xs)(J:Ext w w'):w'.ownsRow B e k v n xs:=mZ h λg D=>J.block g (iQ h D).2
abbrev aeH{P:Ë}{w:E5}(ho:o.op = .call { callee := .builtin .append,args := #[s,x],argTypes := #[t,t] }){bytes:Nat}(T:fM P t e z k bytes)
     (hv:dQ w k (.s A f f) f xs) (hs:ρ s = .s A f f)    (hy:dQ w k y c ys) (hx:ρ x=y) (J:0<c) (S:f+c<=maxLen) (D:(f+c)*bytes<=140737488355328) :
  ∃v' w',(Í ρ o).run P w = .ok (.value v') w'∧w'.ownsRow w.heap.size e k v' (f+c) (xs++ys)∧Ext w w':=by
 cases A with
 | some ad=>exact IJ ho T hv hs hy hx Z J S D
 | none =>
  have J:f=0:=by
   rcases hv.F with ⟨h,_⟩ | ⟨_,_,_,h,_⟩
   .exact h
   cases h
  subst J;have J:xs=[]:=Ś (by simpa using hv.1);subst J;obtain⟨v',w',hr,h2,J,-⟩:=Hq (P:=P) (B:=w.heap.size) ho T (v := .sn) (m:=0) (xs:=[]) ⟨by simp,.inl ⟨I,I⟩⟩ hs hy hx S D (Ç _);exact⟨v',w',hr,h2,⟨J.os,J.tape,J.output,J.size,λi D=>J.block i D λe=>by cases e⟩⟩
def FD(os:List YM)(i:Nat):Option (î×î×Ð×Bool):=match os[i]? with
 | some o=>(match o.op with
  | .call c=>(match c.callee,c.args.toList,c.argTypes.toList with
   | .builtin .append,[s,x],[t,t']=>(match t==t' with | true=>some (s,x,t,o.dst.isSome) | false=>none)
   | _,_,_=>none)
  | _=>none)
 | none=>none
abbrev Ba{os:List YM}{b:Bool}(h:FD os i=some (s,x,t,b))(D:os[i]?=some o):o.op = .call { callee := .builtin .append,args := #[s,x],argTypes := #[t,t] }∧o.dst.isSome=b:=by
 unfold FD at h;rw[D]at h;simp only at h;split at h
 .rename_i c hop;split at h
  .rename_i s' x' t1 t2 h1 h2 h3;split at h
   .rename_i ht;simp only[Æ,Ê]at h;obtain⟨rfl,rfl,rfl,rfl⟩:=h;obtain rfl:t1=t2:=by simpa using ht
    refine⟨?_,I⟩;rw[hop];obtain⟨callee,args,argTypes⟩:=c;simp only at h1 h2 h3;rw[h1,<-Ϛ (xs:=args),<-Ϛ (xs:=argTypes),h2,h3]
   cases h
  cases h
 cases h
abbrev uF{P:Ë}{w:E5}{os:List YM}(ho:os[i]?=some o){bytes:Nat}(T:fM P t e z k bytes)
  (hs:ρ (.tmp sl) = .s A f f) (hx:ρ (.tmp sx)=y) (hv:dQ w k (.s A f f) f xs) (hy:dQ w k y c ys) (S:0<c) (aa:f+c<=maxLen) (D:(f+c)*bytes<=140737488355328)  (hK:∀J w',w'.ownsRow w.heap.size e k J (f+c) (xs++ys)->Ext w w'->Post J w')
  (ab:FD os i=some (.tmp sl,.tmp sx,t,true):=by kernel_rfl):Does P o ρ w Post:=by
 obtain⟨h1,h2⟩:=Ba ab ho;obtain⟨J,w',hr,h3,h4⟩:=aeH (P:=P) h1 T hv hs hy hx S aa D;unfold Does;rw[hr];exact hK J w' h3 h4
abbrev Ew{P:Ë}{w:E5}{os:List YM}(S:os[i]?=some o){bytes:Nat}(T:fM P t e z k bytes){B:Option Ć}{J:Nat}(hf:f<=J)
  (hs:ρ (.tmp sl) = .s A f J) (hx:ρ (.tmp sx) = .s B 0 c)  (hK:Post (.s A f J) w) (D:FD os i=some (.tmp sl,.tmp sx,t,true):=by kernel_rfl):Does P o ρ w Post:=by
 obtain⟨h1,h2⟩:=Ba D S;obtain⟨S,D,-⟩:=T.info;have S:=wQ (P:=P) (w:=w) (ty:=o.type) T.und D A B f J c hf;have D:(Í ρ o).run P w = .ok (.value (.s A f J)) w:=by
  unfold Í;simp only[h1,resolve,invoke,builtin,ġ,ž,ş,ϙ,đ,ĵ,hs,hx,S]
 unfold Does;rw[D];exact hK
abbrev kQ{os:List YM}{U:Bc}{d:Nat}{K:Fact}{w:E5}(D:os[i]?=some o)(hd:(os[i]?).bind (·.dst)=some d)(J:U.lookup d=some K)(S:Ext w w')(h:K v w'):Ext w w'∧hpost U o (kept o v) w':=by
 rw[D,Α]at hd;refine⟨S,?_⟩;unfold hpost;rw[hd];simp only[J];unfold kept;rw[hd];exact h
def evV(P:Ë)(o:YM)(l:List (Nat×y9)):Option y9:=match wP o.op || !o.op.operands.all (λx=>(rd (lift l) [] x).isSome),jd (ev0 P (Í (zQ (lift l) []) o))with
 | false,some (.val v)=>some v
 | _,_=>none
abbrev jw{P:Ë}{w:E5}{os:List YM}(D:os[i]?=some o)(S:Std ρ)(l:List (Nat×y9))(hl:∀q v,l.lookup q=some v->ρ (.tmp q)=v)(v:y9)(hK:Post v w)
  (J:(os[i]?).bind (λo=>evV P o l)=some v:=by kernel_rfl):Does P o ρ w Post:=by
 rw[D,Α]at J;unfold evV at J;split at J
 .rename_i v' hav hev;obtain rfl:=Ò J;simp only[Ĕ]at hav;have hH:Holds ρ (lift l):=λq x D=>by
   rw[ku]at D;cases h2:l.lookup q with
   | none=>simp[h2]at D
   | some u =>
    simp only[h2,ě,Æ]at D;subst D;rw[hl q u h2]; rfl
  have D:(Í ρ o).run P w = .ok (.value v') w:=lN S (gG hH o) (p:=[]) I hav.1 (by simpa using hav.2) hev;unfold Does;rw[D];exact hK
 cases J
abbrev look1{s:Nat}{u:y9}(h:ρ (.tmp s)=u):∀q v,List.lookup q [(s,u)]=some v->ρ (.tmp q)=v:=λq v D=>by
 rw[ĝ]at D;split at D
 .rename_i hq2;obtain rfl:q=s:=by simpa using hq2
  rw[<-Ò D,h]
 cases D
section
variable{P:Ë}{os:List YM}{Q:Exit->á->E5->Prop}{w0:E5}{a:á}{w:E5}{n:Nat}{l:List (Nat×y9)}{bl:List (Nat×List y9)}{vs:List eX}
variable{f i b:Nat}{o:YM}{A:List y9}{R:Ending->E5->Prop}
abbrev aiQ{ops:Array YM}{K:á->E5->Prop}(D:ops[i]?=some o)(h:Ã P ops (yV λ_ a w=>K a w) [o] a w):wpOp P ops Q i K a w:=by
 unfold wpOp;rw[D];unfold Ã at h;simp only;split at h
 .rename_i hw;rw[Á hw];rcases h with h | ⟨_,h⟩
  .left;unfold Oper.wp at *;generalize (Í a.eval _).run P w=r at *;cases r with
   | ok n w' =>
    cases n<;>simp only[Oper.upon]at h |-;case value u=>exact h
    case skip=>exact h
    case defer d=>exact h
    case enter f args =>
     refine Calls.mono h λe J D=>?_;cases e with
     | returned u=>exact D
     | panicked c=>exact D.elim
     | outgrown=>exact(oH D).elim
    case row row args=>exact Rows.mono h λu J D=>D
   | halt x w' =>
    cases x<;>simp only[Oper.upon]at h |-;case panic u=>exact h.elim
  exact(oH h).elim
 rename_i hw;rw[UQ hw];exact h
def one(os:List YM)(i:Nat):List YM:=(os.drop i).take 1
abbrev aeI(h:os[i]?=some o):one os i=[o]:=by
 have D:=(List.getElem?_eq_some_iff.1 h).1;unfold one;rw[ń D,List.take_succ_cons,List.take_zero];rw[List.getElem?_eq_getElem D]at h;rw[Ò h]
abbrev aeJ (P:Ë)(Q:Exit->á->E5->Prop)(os:List YM)(f:Nat)(L:Array Bool)(a:á)(w:E5)(i:Nat):Prop:=Ã P os.toArray (yV λ_ a w=>Đ P .any os.toArray Q f (L.setIfInBounds i true) a w) (one os i) a w
abbrev aah{L:Array Bool}{rs:List Nat}(J:rs≠[])(h:∀i∈rs,aeJ P Q os f L a w i)(S:Region.ready .any os.toArray L=rs):Đ P .any os.toArray Q (f+1) L a w:=by
 refine⟨λh0=>absurd (S.symm.trans h0) J,λi D=>?_⟩;obtain⟨_,o,J,_⟩:=mem_ready.1 D;rw[S]at D;refine aiQ J ?_;have:=h i D;unfold aeJ at this;rwa [aeI (by simpa using J)]at this
abbrev aiR{L:Array Bool}(i:Nat)(h:aeJ P Q os f L a w i)(J:Region.ready .any os.toArray L=[i]:=by kernel_rfl):Đ P .any os.toArray Q (f+1) L a w:=aah Y (λj D=>by obtain rfl:=û.1 D; exact h) J
abbrev apI{L:Array Bool}(i j:Nat)(h:aeJ P Q os f L a w i)(k:aeJ P Q os f L a w j)(J:Region.ready .any os.toArray L=[i,j]:=by kernel_rfl):Đ P .any os.toArray Q (f+1) L a w:=aah Y (λx D=>by
 rcases Ù.1 D with rfl | D
 .exact h
 obtain rfl:=û.1 D; exact k) J
abbrev Ti{Q':Exit->á->E5->Prop}{ops:Array YM}{m:List YM}(h:Q' .normal a w)(D:m.isEmpty=true:=by kernel_rfl):Ã P ops (yV Q') m a w:=by
 rw[List.isEmpty_iff.1 D]; exact h
abbrev Xn{L:Array Bool}(m:Nat)(h:Ã P os.toArray Q (os.drop m) a w)(D:(Region.seqB .any os.toArray f m L&&decide (os.length=m+f))=true:=by kernel_rfl):Đ P .any os.toArray Q f L a w:=by
 simp only[Û,Þ]at D;have e:(os.drop m).length=f:=by rw[Ş]; omega
 subst e;exact wpAny_of_seq (os.drop m) m L a w (λj=>by simp[List.getElem?_drop]) D.1 h
abbrev ordered(S:St w0 a w n l bl vs){id:Nat}(f:Nat)(next:∀D w',Ext w w'->St w0 D w' n l bl vs->Đ P .any os.toArray Q f (Array.replicate f false) D w')(hf:(os.length==f)=true:=by kernel_rfl)(D:P.follows .mixedOrders=true:=by kernel_rfl):(Code.region id os.toArray true).wp P Q a w:=by
 have J:Ext w { w with drawn:=w.drawn+1 }:=below_drewN (ø _ _) 1;have key:=next a _ J (S.grow J);obtain rfl:=eq_of_beq hf;exact ſ D (by simpa using key)
abbrev NU{ops:Array YM}(S:St w0 a w n l ((b,A)::bl) vs){D:E5}{f:FuncId}{args:Array y9}(d:Option Nat)(h0:Ext w0 D)(aa:Ext D w)(ab:∀p∈bl,p.1<D.heap.size)(hc:Nq P f args w R)
  (next:∀e w',R e w'->∃v A',e = .R v∧Ext D w'∧Bx w' b (List.toArray A')∧∀J,St w0 J w' n (zS l d v) ((b,A')::bl) []->Ã P ops Q (os.drop 1) J w')
  (D:callOf P os l=some (f,args,d):=by kernel_rfl) (hd:uG n d=true:=by rfl):Ã P ops Q os a w:=by
 cases os with
 | nil=>cases D
 | cons o os =>
  unfold callOf at D;simp only at D;split at D
  .rename_i f' args' hg hav hev;simp only[Æ,Ê]at D;obtain⟨rfl,rfl,rfl⟩:=D;simp only[Ĕ]at hav;have J:(Í a.eval o).run P w = .ok (.enter f' args') w:=lN (Std.act a) (gG (bT S.s) o) (p:=[]) I hav.1 (by simpa using hav.2) hev;unfold Ã;rw[Á (by simp[Region.wanted,hg])];left;unfold Oper.wp;rw[J];simp only[Oper.upon];refine hc.mono λe w' J=>?_;obtain⟨v,A',rfl,hE,hX,hn⟩:=next e w' J;refine hn _ ⟨tC S.s hd v,Ip h0 hE,λp J=>?_,S.apart,λm hm=>(by cases hm)⟩;rcases Ù.1 J with rfl | J
   .exact⟨hX,(S.own _ Ö).2⟩
   have h1:=S.own p (ļ _ J);have hl:=ab p J;exact⟨⟨ö hl hE.size,λi=>(hE.cell (p:=⟨p.1,i,none⟩) hl).trans ((aa.cell (p:=⟨p.1,i,none⟩) hl).symm.trans (h1.1.2.1 i)),λi=>(hE.frozen (p:=⟨p.1,i,none⟩) hl).trans ((aa.frozen (p:=⟨p.1,i,none⟩) hl).symm.trans (h1.1.F i))⟩,h1.2⟩
  cases D
abbrev al4(S:St w0 a w n l bl vs)(k:Nat){fn:Func}{r s t:Nat}{ty:Ð}{v u z:y9}(hr:fn.results = #[.cell r ty,.tmp s,.tmp t])(hk:bl[k]?=some (b,A))(h:R (.R (.tuple #[v,u,z])) w)
  (J:Vp.ev l (.tmp r)=some (.q b 0):=by kernel_rfl) (hu:Vp.ev l (.tmp s)=some u:=by rfl) (hz:Vp.ev l (.tmp t)=some z:=by rfl) (hl:SB P ty A=some v:=by kernel_rfl):bodyPost P fn R .ret a w:=by
 refine⟨S.s.defers,_,?_,h⟩;have D:=S.s.ev J;have J:=S.s.ev hu;have h4:=S.s.ev hz;have h2:=S.var hk hl;unfold results;rw[hr];simp only[Act.eval,Array.getD_eq_getD_getElem?]at D J h4;simp[D,J,h4,asAddr,h2]
end
end Go.Sx
namespace Go.Proofs.Õ
open Na
variable{α:Type}
abbrev _root_.Go.Sx.Xo{P:Ë}{w0 w:E5}{a:á}{n:Nat}{l:List (Nat×y9)}{bl:List (Nat×List y9)}{vs:List Sx.eX}(S:Sx.St w0 a w n l bl vs){fn:Func}{R:Ending->E5->Prop}(i j:Nat){r s t b c:Nat}{ty:Ð}{A B:List y9}{u v x:y9}(hr:fn.results = #[.cell r ty,.cell s ty,.tmp t])(hi:bl[i]?=some (b,A))(hj:bl[j]?=some (c,B))(h:R (.R (.tuple #[u,v,x])) w)
  (J:Vp.ev l (.tmp r)=some (.q b 0):=by kernel_rfl) (h2:Vp.ev l (.tmp s)=some (.q c 0):=by kernel_rfl) (h3:Vp.ev l (.tmp t)=some x:=by kernel_rfl) (l1:Sx.SB P ty A=some u:=by kernel_rfl) (l2:Sx.SB P ty B=some v:=by kernel_rfl):bodyPost P fn R .ret a w:=by
 refine⟨S.s.defers,_,?_,h⟩;have D:=S.s.ev J;have J:=S.s.ev h2;have e3:=S.s.ev h3;unfold results;rw[hr];simp only[Act.eval,Array.getD_eq_getD_getElem?]at D J e3;simp[D,J,e3,asAddr,S.var hi l1,S.var hj l2]
variable{s:y9}{b neg:Bool}{base:Nat}
abbrev Tm{m:List UInt32}{w:E5}(h:aH w s m)(D:0<TR m)(hl:m.length<=100000000) :
  Nq prog 173 #[.agg #[.z,s]] w (Ï w (.i 1)):=by
 have D:=sD false _ m w h hl;rw[show qF false (TR m)=1 from by unfold qF; rw[UQ Z]; rfl]at D;exact D
abbrev PZ{w:E5}(h:aH w s (RI 0)) :
  Nq prog 173 #[.agg #[.b b,s]] w (Ï w (.i 0)):=by
 have D:=sD b _ _ w h (by simp[jR]);rw[RH,show qF b 0=0 from rfl]at D;exact D
abbrev ni{w:E5}{n:Nat}(h:aS base w (.agg #[.b b,s]) neg n):aH w s (RI n):=by
 obtain⟨t,e,D,_⟩:=h;simp only[ů,Ů,Ă,and_true]at e;obtain⟨-,rfl⟩:=e;exact D
abbrev aS.flag{base:Nat}{w:E5}{v:y9}{n D:Bool}{a:Nat}(h:aS base w v n a)(e:n=D):aS base w v D a:=e▸h
abbrev Tn{w:E5}{c n1 D:Bool}{t:y9}{x y:Nat}(h:aS base w (.agg #[.b b,s]) n1 x)(k:aS base w (.agg #[.b c,t]) D y)(e1:n1=neg)(e2:D=false):aC base w (.agg #[.b b,s,.b c,t]) neg x y:=by
 obtain⟨D,e,J,fs⟩:=h;obtain⟨t',D,S,ft⟩:=k;simp only[ů,Ů,Ă,Value.bool.injEq,and_true]at e D;obtain⟨rfl,rfl⟩:=e;obtain⟨rfl,rfl⟩:=D;exact⟨_,_,by rw[e1,e2],J,S,fs,ft⟩
abbrev aeK{n:Bool}{b:Nat}(D:0<b):decide (qF n b<0)=n:=by
 unfold qF;rw[UQ Z];cases n<;>simp
abbrev Tq(n1 D:Bool)(a b:Nat)(J:0<b):mF n1 D a b=((if D then !n1&&decide (0<a)else n1)&&decide (0<a/Nat.gcd a b)):=by
 unfold mF;rcases ė a with h | h
 .subst h; simp
 congr 1;unfold qF;rw[UQ (show ¬a=0 by omega),UQ (show ¬b=0 by omega)];cases n1<;>cases D<;>simp[h]
abbrev lX(n1:Bool)(s t:y9)(l m:List UInt32)(w:E5)(h1:aH w s l)(D:aH w t m)(hm:0<TR m)(J:TR l%TR m=0)(a7:l.length<=5000000)(a8:m.length<=5000000) :
  Nq prog 222 #[.agg #[.b n1,s],.agg #[.z,t]] w λe w'=>∃x y,e = .R (.tuple #[x,y,.i 0]) ∧
   aS w.heap.size w' x (n1&&decide (0<TR l/TR m)) (TR l/TR m)∧aS w.heap.size w' y false 0∧Ext w w':=by
 obtain⟨a1,c1,rfl⟩:=h1.shape;obtain⟨a2,c2,rfl⟩:=D.shape;refine Ņ func222 ntmps222 λac S=>YJ λ_ fQ=>Ė S 2 [.b n1,.s a1 l.length c1] λac u b2 E3 av S=>Ė S 3 [.z,.s a2 m.length c2] λac u b5 E6 aw S=>Ė S 4 [.z,.sn] λac u b8 E9 Bf S=>Ė S 5 [.z,.sn] λac u ax rW ay S=>Rf S 1 [] [(6,.i 0)] λS=>Rh<|fQ _ _<|Ô λ_ uH=>YJ λ_ Ey=>Rf S 1 [.M 2 0] [(12,.agg #[.z,.s a2 m.length c2])] λS=>Sx.CY S 13 (Tm (D.below S.E) hm Z) λac u Em S=>Rf S 1 [] [(14,.z)] λS=>Rh<|Ey _ _<|Sx.FH S<|ú<|uH _ _<|YJ λ_ Ez=>Rf S 4 [.M 3 1,.M 2 1] [(19,.s a1 l.length c1),(21,.s a2 m.length c2)] λS=>ģ S (some 22) (Aj _ _ l m _ (h1.below S.E) (D.below S.E) hm Z Z) ?_;rintro e u ⟨q,r,rfl,hq,D,zU⟩;have hq:aH _ _ _:=bC hq;have D:aH _ _ _:=bC D;rw[J]at D;obtain⟨J,cq,rfl⟩:=hq.shape;obtain⟨ar,cr,rfl⟩:=D.shape;refine⟨_,I,zU,λac S=>?_⟩;refine Rf S 7 [] [(7,.s J (RI (TR l/TR m)).length cq),(8,.s ar (RI 0).length cr)] λS=>Rh<|Ez _ _<|YJ λ_ ao=>Rf S 6 [.M 3 0,.M 2 0] [(30,.b (!(n1==false))),(31,.s J (RI (TR l/TR m)).length cq)] λS=>ģ S (some 32) (vC (!(n1==false)) hq (by have:=fO (Μ (TR l) (TR m)); have:=dB l; omega)) ?_;rintro e u ⟨x,rfl,fx,J⟩;obtain⟨aa,ab,rfl⟩:=fx.shape;have a5:=S.E.size;refine⟨_,I,J,λac S=>?_⟩;refine Ė S 10 [.z,.sn] λac u az L6 P5 S=>Ğ S 0 (off:=0) (cs:=[.b ((!(n1==false))&&decide (0<(TR l/TR m))),.s aa (RI (TR l/TR m)).length ab]) I λu Hr S=>?_;have GI:=È (Ip J L6) Hr (by have:=J.size; omega);have WV:=È (Ip J L6) Hr (by have:=J.size; omega);have J:=È L6 Hr Z;refine Rh<|ao _ _<|YJ λ_ ap=>Rf S 3 [.M 4 0] [(34,.b n1),(35,.s ar (RI 0).length cr)] λS=>ģ S (some 36) (vC n1 (D.below WV) (by simp[jR])) ?_;rintro e u ⟨x,rfl,fy,D⟩;obtain⟨Xp,Xq,rfl⟩:=fy.shape;have a6:=S.E.size;refine⟨_,I,D,λac S=>?_⟩;refine Ė S 11 [.z,.sn] λac u a3 Bg a4 S=>Ğ S 0 (off:=0) (cs:=[.b (n1&&decide (0<0)),.s Xp (RI 0).length Xq]) I λu P6 S=>?_;have Tt:=È (Ip GI (Ip D Bg)) P6 (by have:=(Ip GI D).size; omega);have MC:=È (Ip WV (Ip D Bg)) P6 (by have:=(Ip WV D).size; omega);have WW:=È (Ip J (Ip D Bg)) P6 (by have:=(Ip J D).size; omega);have GK:=È Bg P6 Z;refine Rh<|ap _ _<|Ô λ_ IK=>YJ λ_ J=>Sx.aeN S 10 [.M 5 0,.M 4 0,.M 0 0] [(_,_,(!(n1==false)),.i 0)] [(46,.b ((!(n1==false))&&false))] ⟨λu hC g=>PZ (b:=n1&&decide (0<0)) (ni (fy.ext (Ip GK hC))),G⟩ λac u D S=>Rh (J _ _ ?_);refine Ā S (λJ=>?_) λJ=>?_
 .simp at J
 refine ú<|IK _ _<|Ô λ_ Xr=>Sx.ordered S 5 λac u J S=>Sx.apI 0 1 ?_ ?_
 .refine Rf S 1 [.M 1 0] [(53,.agg #[.b ((!(n1==false))&&decide (0<(TR l/TR m))),.s aa (RI (TR l/TR m)).length ab])] λS=>Sx.Ti<|Sx.apI 1 2 ?_ ?_
  .refine Rf S 1 [.M 0 0] [(54,.agg #[.b (n1&&decide (0<0)),.s Xp (RI 0).length Xq])] λS=>Sx.Ti<|Sx.aiR 2 ?_;have ah:=S.bx 3;refine Ğ S 3 (off:=0) (cs:=[.b ((!(n1==false))&&decide (0<(TR l/TR m))),.s aa (RI (TR l/TR m)).length ab]) I λu ae S=>?_;have MG:=aS.dZ (fx.ext (Ip WW (Ip D J))) ae ah;have Tv:=aS.dZ (fy.ext (Ip GK (Ip D J))) ae ah;refine Sx.Ti<|Sx.Xn 3 ?_;have ai:=S.bx 2;refine Ğ S 2 (off:=0) (cs:=[.b (n1&&decide (0<0)),.s Xp (RI 0).length Xq]) I λu af S=>?_;have P7:=aS.dZ MG af ai;have EC:=aS.dZ Tv af ai;refine Rf S 1 [] [(6,.i 0)] λS=>Rh<|Xr _ _<|ğ ?_;refine Sx.Xo S 3 2 results222 I I ⟨_,_,I,(aS.mono P7 Z).flag Y,(aS.mono EC Z).flag Y,S.E⟩
  have al:=S.bx 3;refine Ğ S 3 (off:=0) (cs:=[.b ((!(n1==false))&&decide (0<(TR l/TR m))),.s aa (RI (TR l/TR m)).length ab]) I λu ag S=>?_;have Tz:=aS.dZ (fx.ext (Ip WW (Ip D J))) ag al;have TA:=aS.dZ (fy.ext (Ip GK (Ip D J))) ag al;refine Sx.Ti<|Sx.aiR 1<|Rf S 1 [.M 0 0] [(54,.agg #[.b (n1&&decide (0<0)),.s Xp (RI 0).length Xq])] λS=>Sx.Ti<|Sx.Xn 3 ?_;have am:=S.bx 2;refine Ğ S 2 (off:=0) (cs:=[.b (n1&&decide (0<0)),.s Xp (RI 0).length Xq]) I λu TB S=>?_;have CZ:=aS.dZ Tz TB am;have P8:=aS.dZ TA TB am;refine Rf S 1 [] [(6,.i 0)] λS=>Rh<|Xr _ _<|ğ ?_;refine Sx.Xo S 3 2 results222 I I ⟨_,_,I,(aS.mono CZ Z).flag Y,(aS.mono P8 Z).flag Y,S.E⟩
 refine Rf S 1 [.M 0 0] [(54,.agg #[.b (n1&&decide (0<0)),.s Xp (RI 0).length Xq])] λS=>Sx.Ti<|Sx.aiR 0<|Rf S 1 [.M 1 0] [(53,.agg #[.b ((!(n1==false))&&decide (0<(TR l/TR m))),.s aa (RI (TR l/TR m)).length ab])] λS=>Sx.Ti<|Sx.aiR 2 ?_;have an:=S.bx 3;refine Ğ S 3 (off:=0) (cs:=[.b ((!(n1==false))&&decide (0<(TR l/TR m))),.s aa (RI (TR l/TR m)).length ab]) I λu IL S=>?_;have zX:=aS.dZ (fx.ext (Ip WW (Ip D J))) IL an;have vF:=aS.dZ (fy.ext (Ip GK (Ip D J))) IL an;refine Sx.Ti<|Sx.Xn 3 ?_;have J:=S.bx 2;refine Ğ S 2 (off:=0) (cs:=[.b (n1&&decide (0<0)),.s Xp (RI 0).length Xq]) I λu D S=>?_;have P9:=aS.dZ zX D J;have IQ:=aS.dZ vF D J;refine Rf S 1 [] [(6,.i 0)] λS=>Rh<|Xr _ _<|ğ ?_;refine Sx.Xo S 3 2 results222 I I ⟨_,_,I,(aS.mono P9 Z).flag Y,(aS.mono IQ Z).flag Y,S.E⟩
abbrev MH(n1 D:Bool)(s1 s2:y9)(l m:List UInt32)(w:E5)(h1:aH w s1 l)(h2:aH w s2 m)(hm:0<TR m)(az:l.length<=5000000)(a3:m.length<=5000000) :
  Nq prog 174 #[.agg #[.b n1,s1],.agg #[.b D,s2]] w λe w'=>∃x,e = .R x ∧
   aC w.heap.size w' x (mF n1 D (TR l) (TR m)) (TR l/Nat.gcd (TR l) (TR m)) (TR m/Nat.gcd (TR l) (TR m))∧Ext w w':=by
 obtain⟨a1,c1,rfl⟩:=h1.shape;obtain⟨a2,c2,rfl⟩:=h2.shape;have hG:0<(Nat.gcd (TR l) (TR m)):=ϻ _ hm;have ah:(RI (Nat.gcd (TR l) (TR m))).length<=5000000:=by have:=fO (Nat.le_of_dvd hm (Ϙ (TR l) (TR m))); have:=dB m; omega
 refine Ä func174 ntmps174 λS=>Ú S [.b n1,.s a1 l.length c1] λu b2 E3 J S=>Ú S [.b D,.s a2 m.length c2] λu b5 E6 J S=>Ú S Sx.zr λu b8 J Bf S=>O1 S 4 [] [.M 2 1,.M 1 1] λS=>ê S (Xt _ _ l m _ (h1.below S.E) (h2.below S.E) az a3) ?_;rintro e u ⟨g,rfl,J,rW⟩;obtain⟨ag,cg,rfl⟩:=J.shape;refine⟨_,I,rW,λS=>?_⟩;refine ê S (vC false J Z) ?_;rintro e u ⟨x,rfl,fg,J⟩;obtain⟨bg,dg,rfl⟩:=fg.shape;refine⟨_,I,J,λS=>?_⟩;refine Ú S [.z,.sn] λu ct J cq S=>í S 0 (off:=0) (cs:=[.z,.s bg (RI (Nat.gcd (TR l) (TR m))).length dg]) I λu Xu S=>?_;have zU:=È J Xu;refine O1 S 1 [] [.M 2 0] λS=>ð S (sD D _ m _ (h2.below S.E) Z) λu xE S=>À S (decide ((qF D (TR m))<0)) (λac S=>?_) λac S=>?_
 .have hn:D=true:=(aeK hm).symm.trans ac;refine O1 S 1 [] [.M 3 0] λS=>ê S (IU n1 _ l _ (h1.below S.E) Z) ?_;rintro e u ⟨x,rfl,nx,ED⟩;obtain⟨ck,cm,rfl⟩:=nx.shape;refine⟨_,I,ED,λS=>?_⟩;have bj:=S.bx 3;refine í S 3 (off:=0) (cs:=[.b (!n1&&decide (0<TR l)),.s ck (RI (TR l)).length cm]) I λu J S=>?_;have zY:=aS.dZ (fg.ext (Ip zU (Ip xE ED))) J bj;have EF:=aS.dZ nx J bj;refine O1 S 1 [] [.M 2 0] λS=>ê S (IU D _ m _ (h2.below S.E) Z) ?_;rintro e u ⟨x,rfl,ny,zW⟩;obtain⟨cn,co,rfl⟩:=ny.shape;refine⟨_,I,zW,λS=>?_⟩;have J:=S.bx 2;refine í S 2 (off:=0) (cs:=[.b (!D&&decide (0<TR m)),.s cn (RI (TR m)).length co]) I λu L8 S=>?_;have Dc:=aS.dZ (zY.ext zW) L8 J;have IV:=aS.dZ (EF.ext zW) L8 J;have EG:=aS.dZ ny L8 J;refine O1 S 2 [] [.M 3 0,.M 0 0] λS=>ê S (lX (!n1&&decide (0<TR l)) _ _ (RI (TR l)) (RI (Nat.gcd (TR l) (TR m))) _ (ni IV) (ni Dc) (by rw[RH]; exact hG) (by simp only[RH]; exact Nat.mod_eq_zero_of_dvd (Nat.gcd_dvd_left _ _)) (ä (dB l) az) ah) ?_;rintro e u ⟨x,y,rfl,fx,ax,WW⟩;simp only[RH]at fx;obtain⟨J,aa,rfl⟩:=fx.shape;obtain⟨aq,ar,rfl⟩:=ax.shape;have bo:=S.E.size;refine⟨_,I,WW,λS=>?_⟩;refine Ú S [.z,.sn] λu cu ab cv S=>Ú S [.z,.sn] λu cw SC cx S=>í S 1 (off:=0) (cs:=[.b ((!n1&&decide (0<TR l))&&decide (0<(TR l/(Nat.gcd (TR l) (TR m))))),.s J (RI (TR l/(Nat.gcd (TR l) (TR m)))).length aa]) I λu am S=>?_;have S:=S.fl;have bp:=È (Ip WW (Ip ab SC)) am (by have:=WW.size; omega);have bq:=È (Ip WW (Ip ab SC)) am (by have:=WW.size; omega);have Xv:=È (Ip ab SC) am;refine í S 0 (off:=0) (cs:=[.z,.s aq (RI 0).length ar]) I λu an S=>?_;have TD:=È bp an (by have:=(Ip WW ab).size; omega);have br:=È bq an (by have:=(Ip WW ab).size; omega);have ao:=È Xv an (by have:=ab.size; omega);refine O1 S 3 [] [.M 4 0,.M 2 0] λS=>ê S (lX (!D&&decide (0<TR m)) _ _ (RI (TR m)) (RI (Nat.gcd (TR l) (TR m))) _ (ni (EG.ext br)) (ni (Dc.ext TD)) (by rw[RH]; exact hG) (by simp only[RH]; exact Nat.mod_eq_zero_of_dvd (Ϙ _ _)) (ä (dB m) a3) ah) ?_;rintro e u ⟨x,y,rfl,fy,ay,Xw⟩;simp only[RH]at fy;obtain⟨Xp,Xq,rfl⟩:=fy.shape;obtain⟨av,aw,rfl⟩:=ay.shape;have bs:=S.E.size;refine⟨_,I,Xw,λS=>?_⟩;refine Ú S [.z,.sn] λu cy Xx cz S=>Ú S [.z,.sn] λu c0 a4 da S=>í S 1 (off:=0) (cs:=[.b ((!D&&decide (0<TR m))&&decide (0<(TR m/(Nat.gcd (TR l) (TR m))))),.s Xp (RI (TR m/(Nat.gcd (TR l) (TR m)))).length Xq]) I λu a5 S=>?_;have bt:=È (Ip ao (Ip Xw (Ip Xx a4))) a5 (by have:=(Ip ao Xw).size; omega);have bu:=È (Ip Xx a4) a5;refine í S 0 (off:=0) (cs:=[.z,.s av (RI 0).length aw]) I λu a6 S=>?_;have bv:=È bt a6 (by have:=(Ip ao (Ip Xw Xx)).size; omega);have bw:=È bu a6 (by have:=Xx.size; omega);have bk:=S.bx 5;refine O1 S 4 [] [.M 3 0,.M 1 0] λS=>í S 5 (off:=0) (cs:=[.b ((!n1&&decide (0<TR l))&&decide (0<(TR l/(Nat.gcd (TR l) (TR m))))),.s J (RI (TR l/(Nat.gcd (TR l) (TR m)))).length aa,.b ((!D&&decide (0<TR m))&&decide (0<(TR m/(Nat.gcd (TR l) (TR m))))),.s Xp (RI (TR m/(Nat.gcd (TR l) (TR m)))).length Xq]) I λu a7 S=>?_;have S:=S.fl;have Qa:=aS.dZ (fx.ext bv) a7 bk;have bz:=aS.dZ (fy.ext bw) a7 bk;refine ü S 5 I (v := .agg #[.b ((!n1&&decide (0<TR l))&&decide (0<(TR l/(Nat.gcd (TR l) (TR m))))),.s J (RI (TR l/(Nat.gcd (TR l) (TR m)))).length aa,.b ((!D&&decide (0<TR m))&&decide (0<(TR m/(Nat.gcd (TR l) (TR m))))),.s Xp (RI (TR m/(Nat.gcd (TR l) (TR m)))).length Xq]) λS=>?_;exact⟨_,I,Tn (aS.mono Qa Z) (aS.mono bz Z) (by rw[Tq _ _ _ _ hm,hn]; rfl) (by rw[hn]; rfl),S.E⟩
 have hn:D=false:=(aeK hm).symm.trans ac;refine O1 S 2 [] [.M 3 0,.M 0 0] λS=>ê S (lX n1 _ _ l (RI (Nat.gcd (TR l) (TR m))) _ (h1.below S.E) (ni (fg.ext (Ip zU xE))) (by rw[RH]; exact hG) (by simp only[RH]; exact Nat.mod_eq_zero_of_dvd (Nat.gcd_dvd_left _ _)) az ah) ?_;rintro e u ⟨x,y,rfl,fx,ax,ai⟩;simp only[RH]at fx;obtain⟨J,aa,rfl⟩:=fx.shape;obtain⟨aq,ar,rfl⟩:=ax.shape;have bo:=S.E.size;refine⟨_,I,ai,λS=>?_⟩;refine Ú S [.z,.sn] λu db ae dd S=>Ú S [.z,.sn] λu de a8 df S=>í S 1 (off:=0) (cs:=[.b (n1&&decide (0<(TR l/(Nat.gcd (TR l) (TR m))))),.s J (RI (TR l/(Nat.gcd (TR l) (TR m)))).length aa]) I λu a9 S=>?_;have ca:=È (Ip zU (Ip xE (Ip ai (Ip ae a8)))) a9 (by have:=(Ip zU (Ip xE ai)).size; omega);have cb:=È (Ip ae a8) a9;refine í S 0 (off:=0) (cs:=[.z,.s aq (RI 0).length ar]) I λu bb S=>?_;have cc:=È ca bb (by have:=(Ip zU (Ip xE (Ip ai ae))).size; omega);have ap:=È cb bb (by have:=ae.size; omega);refine O1 S 3 [] [.M 4 0,.M 2 0] λS=>ê S (lX D _ _ m (RI (Nat.gcd (TR l) (TR m))) _ (h2.below S.E) (ni (fg.ext cc)) (by rw[RH]; exact hG) (by simp only[RH]; exact Nat.mod_eq_zero_of_dvd (Ϙ _ _)) a3 ah) ?_;rintro e u ⟨x,y,rfl,fy,ay,al⟩;simp only[RH]at fy;obtain⟨Xp,Xq,rfl⟩:=fy.shape;obtain⟨av,aw,rfl⟩:=ay.shape;have bs:=S.E.size;refine⟨_,I,al,λS=>?_⟩;refine Ú S [.z,.sn] λu dh af di S=>Ú S [.z,.sn] λu dj bc dk S=>í S 1 (off:=0) (cs:=[.b (D&&decide (0<(TR m/(Nat.gcd (TR l) (TR m))))),.s Xp (RI (TR m/(Nat.gcd (TR l) (TR m)))).length Xq]) I λu bd S=>?_;have cd:=È (Ip ap (Ip al (Ip af bc))) bd (by have:=(Ip ap al).size; omega);have ce:=È (Ip af bc) bd;refine í S 0 (off:=0) (cs:=[.z,.s av (RI 0).length aw]) I λu be S=>?_;have S:=S.fl;have cf:=È cd be (by have:=(Ip ap (Ip al af)).size; omega);have ci:=È ce be (by have:=af.size; omega);have bm:=S.bx 5;refine O1 S 4 [] [.M 3 0,.M 1 0] λS=>í S 5 (off:=0) (cs:=[.b (n1&&decide (0<(TR l/(Nat.gcd (TR l) (TR m))))),.s J (RI (TR l/(Nat.gcd (TR l) (TR m)))).length aa,.b (D&&decide (0<(TR m/(Nat.gcd (TR l) (TR m))))),.s Xp (RI (TR m/(Nat.gcd (TR l) (TR m)))).length Xq]) I λu bh S=>?_;have cj:=aS.dZ (fx.ext cf) bh bm;have TF:=aS.dZ (fy.ext ci) bh bm;refine ü S 5 I (v := .agg #[.b (n1&&decide (0<(TR l/(Nat.gcd (TR l) (TR m))))),.s J (RI (TR l/(Nat.gcd (TR l) (TR m)))).length aa,.b (D&&decide (0<(TR m/(Nat.gcd (TR l) (TR m))))),.s Xp (RI (TR m/(Nat.gcd (TR l) (TR m)))).length Xq]) λS=>?_;exact⟨_,I,Tn (aS.mono cj Z) (aS.mono TF Z) (by rw[Tq _ _ _ _ hm,hn]; rfl) (by rw[hn]; rfl),S.E⟩
end Go.Proofs.Õ
end
abbrev Ľ:=@Go.Sx.look1
abbrev İ:=@Go.Sx.kQ
