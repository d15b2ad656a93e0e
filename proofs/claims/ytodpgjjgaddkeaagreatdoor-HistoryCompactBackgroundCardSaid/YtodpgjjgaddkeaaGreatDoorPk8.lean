/- A region that draws its order, where some operations -/
import Derived.Test.YtodpgjjgaddkeaaGreatDoorPk7
import Derived.LoopN
set_option linter.unusedVariables false
set_option linter.unusedSimpArgs false
section
namespace Go.Sx
open Go.Proofs.YtodpgjjgaddkeaaGreatDoor Go.RowKit Go.Rel
def Fb(Q:Exit->Act->World->Prop):Exit->Act->World->Prop
 | .normal,a,w=>Q .normal a w
 | _,_,_=>False
section
variable{P:Program}{ops ops':Array Oper}{Q:Exit->Act->World->Prop}{a:Act}{w:World}
theorem tu:¬LetsOut (Fb Q):=λ⟨_,_,h⟩=>h
theorem afE{i:Nat}{K K':Act->World->Prop}(hK:∀a w,K a w->K' a w)(h:wpOp P ops (Fb Q) i K a w):wpOp P ops Q i K' a w:=by
 unfold wpOp at *;split at h
 .exact hK _ _ h
 split at h
 .rename_i hw;rw[azQ hw];rcases h with h | ⟨_,h⟩
  .left;unfold Oper.wp at *;generalize (execOp a.eval _).run P w=r at *;cases r with
   | ok n w' =>
    cases n<;>simp only[Oper.upon]at h |-;case value u=>exact hK _ _ h
    case skip=>exact hK _ _ h
    case defer d=>exact hK _ _ h
    case enter f args =>
     refine Calls.mono h λe w'' he=>?_;cases e with
     | returned u=>exact hK _ _ he
     | panicked c=>exact he.elim
     | outgrown=>exact(tu he).elim
    case row row args=>exact Rows.mono h λu w'' he=>hK _ _ he
   | halt x w' =>
    cases x<;>simp only[Oper.upon]at h |-;case panic u=>exact h.elim
  exact(tu h).elim
 rename_i hw;rw[azP hw];exact hK _ _ h
theorem yC{md:Region.Mode}:∀(f:Nat) (listed:Array Bool) (a:Act) (w:World),wpAny P md ops (Fb Q) f listed a w->wpAny P md ops Q f listed a w
 | 0,_,_,_,h=>⟨h.1,h.2⟩
 | f+1,_,_,_,h=>⟨λh0=>h.1 h0,λi hi=>afE (λa w=>yC f _ a w) (h.2 i hi)⟩
def Alike(ops ops':Array Oper):Prop:=ops.size=ops'.size∧∀i:Nat,(ops[i]?).map (λo:Oper=>(o.op,o.dst,o.guard,o.type,o.pos))=(ops'[i]?).map (λo:Oper=>(o.op,o.dst,o.guard,o.type,o.pos))
theorem Alike.get(h:Alike ops ops'){i:Nat}{o':Oper}(hi:ops'[i]?=some o'):∃af,ops[i]?=some { o' with after:=af }:=by
 have:=h.2 i;rw[hi]at this;cases ho:ops[i]? with
 | none=>rw[ho]at this; cases this
 | some o =>
  rw[ho]at this;obtain⟨dst,op,type,pos,after,guard⟩:=o;obtain⟨dst',op',type',pos',after',guard'⟩:=o';simp only[aAF,azT,azW]at this;obtain⟨rfl,rfl,rfl,rfl,rfl⟩:=this;exact⟨after,I⟩
theorem Alike.none(h:Alike ops ops'){i:Nat}(hi:ops'[i]?=none):ops[i]?=none:=by
 have:=h.2 i;rw[hi]at this;cases ho:ops[i]? with
 | none=>rfl
 | some o=>rw[ho]at this; cases this
theorem Alike.yielded(h:Alike ops ops')(ts:Array Value):Go.yielded ops ts=Go.yielded ops' ts:=by
 funext j;unfold Go.yielded;have:=h.2 j;cases h1:ops[j]?<;>cases h2:ops'[j]?<;>rw[h1,h2]at this
 .cases this
 .cases this
 simp only[aAF,azT,azW]at this;simp only[aBP,this.2.1]
theorem Alike.exec{ρ:Operand->Value}{o:Oper}{af:Array Edge}:execOp ρ { o with after:=af }=execOp ρ o:=by
 obtain⟨dst,op,type,pos,after,guard⟩:=o;rfl
theorem Alike.wpOp(h:Alike ops ops'){i:Nat}{K K':Act->World->Prop}(hK:∀a w,K a w->K' a w)(hh:Go.wpOp P ops Q i K a w):Go.wpOp P ops' Q i K' a w:=by
 refine wpOp_mono hK ?_;unfold Go.wpOp at *;cases hi:ops'[i]? with
 | none=>rw[h.none hi]at hh; exact hh
 | some o' =>
  obtain⟨af,ho⟩:=h.get hi;rw[ho]at hh;simp only at hh |-;rw[h.yielded]at hh;have e1:Region.wanted { o' with after:=af }=Region.wanted o':=I;rw[e1]at hh;unfold Oper.wp Oper.asks at *;simp only[Alike.exec]at hh;exact hh
theorem EG{F:List Nat}(h:Alike ops ops')(hF:∀(i:Nat) (o o':Oper),ops[i]?=some o->ops'[i]?=some o'->∀e∈o.after,Region.binds .any e=true->e.on∈F∨∃e'∈o'.after,Region.binds .any e'=true∧e'.on=e.on)
  (hF':∀(i:Nat) (o o':Oper),ops[i]?=some o->ops'[i]?=some o'->∀e∈o'.after,Region.binds .any e=true->∃e'∈o.after,Region.binds .any e'=true∧e'.on=e.on) :
  ∀(f:Nat) (listed:Array Bool) (a:Act) (w:World),(∀i∈F,listed.getD i false=true)->wpAny P .any ops Q f listed a w->wpAny P .any ops' Q f listed a w:=by
 have hr:∀listed:Array Bool,(∀i∈F,listed.getD i false=true)->∀j,j∈Region.ready .any ops' listed↔j∈Region.ready .any ops listed:=by
  intro listed hl j;rw[mem_ready,mem_ready];constructor
  .rintro⟨h0,o',ho',hall⟩;obtain⟨af,ho⟩:=h.get ho';refine⟨h0,_,ho,λe he hb=>?_⟩;rcases hF j _ _ ho ho' e he hb with h1 | ⟨e',he',hb',heq⟩
   .exact hl _ h1
   rw[<-heq]; exact hall e' he' hb'
  rintro⟨h0,o,ho,hall⟩;cases ho':ops'[j]? with
  | none=>rw[h.none ho']at ho; cases ho
  | some o' =>
   refine⟨h0,o',I,λe he hb=>?_⟩;obtain⟨e',he',hb',heq⟩:=hF' j _ _ ho ho' e he hb;rw[<-heq]; exact hall e' he' hb'
 have hnil:∀listed:Array Bool,(∀i∈F,listed.getD i false=true)->(Region.ready .any ops' listed=[]↔Region.ready .any ops listed=[]):=λlisted hl=>by
  simp only[List.eq_nil_iff_forall_not_mem,hr listed hl]
 intro f;induction f with
 | zero=>exact λlisted a w hl hh=>⟨(hnil listed hl).2 hh.1,hh.2⟩
 | succ f ih =>
  exact λlisted a w hl hh=>⟨λh0=>hh.1 ((hnil listed hl).1 h0),λi hi=>h.wpOp (λa w=>ih _ a w λj hj=>getD_set_true (hl j hj)) (hh.2 i ((hr listed hl i).1 hi))⟩
def takeB(ops ops':Array Oper):List Nat->Array Bool->Bool
 | [],_=>true
 | p::F,listed=>(match ops[p]?,ops'[p]? with
  | some o,some o'=>(match o.op,o'.op,o.guard,o'.guard with | .move (.tmp x),.move (.tmp y),none,none=>x==y&&o.dst==o'.dst | _,_,_,_=>false)
  | _,_=>false)&&(Region.ready .any ops listed).contains p&&(Region.ready .any ops' listed).contains p&&Region.free .any ops' listed p&&takeB ops ops' F (listed.setIfInBounds p true)
theorem UH{ρ:Operand->Value}{o:Oper}{x:Operand}(h:o.op = .move x)(w:World):(execOp ρ o).run P w = .ok (.value (ρ x)) w:=by
 unfold execOp; simp only[h]; rfl
theorem UJ(hs:Region.noSelect ops'=true)(A02:∀(f:Nat) (listed:Array Bool) (a:Act) (w:World) (F:List Nat),(∀i∈F,listed.getD i false=true)->True){F0:List Nat}
  (hA:∀(f:Nat) (listed:Array Bool) (a:Act) (w:World),(∀i∈F0,listed.getD i false=true)->wpAny P .any ops (Fb Q) f listed a w->wpAny P .any ops' (Fb Q) f listed a w) :
  ∀(F:List Nat) (f:Nat) (listed:Array Bool) (a:Act) (w:World),takeB ops ops' F listed=true->(∀i∈F0,i∈F∨listed.getD i false=true)->wpAny P .any ops (Fb Q) (f+F.length) listed a w->wpAny P .any ops' (Fb Q) (f+F.length) listed a w
 | [],f,listed,a,w,_,hl,h=>hA _ _ _ _ (λi hi=>(hl i hi).resolve_left Y) h
 | p::F,f,listed,a,w,hb,hl,h=>by
  unfold takeB at hb
  simp only[az7]at hb
  obtain⟨⟨⟨⟨h1,h2⟩,h3⟩,h4⟩,h5⟩:=hb
  split at h1
  .rename_i o o' ho ho'
   split at h1
   .rename_i x y hx hy hg hg'
    simp only[az7,az4]at h1
    obtain⟨rfl,hd⟩:=h1
    rw[aAx,<-aBR]at h |-
    have hp:p∈Region.ready .any ops listed:=by simpa using h2
    have hstep:=h.2 p hp
    unfold Go.wpOp at hstep
    rw[ho]at hstep
    simp only[Region.wanted,hg,if_true]at hstep
    have hstep2:wpAny P .any ops (Fb Q) (f+F.length) (listed.setIfInBounds p true) (a.put o.dst (a.eval (.tmp x))) w:=by
     rcases hstep with hst | ⟨_,hst⟩
     .unfold Oper.wp at hst
      rw[UH hx]at hst
      exact hst
     .exact(tu hst).elim
    refine wpAny_take (v:=a.eval (.tmp x)) ho' hs h4 h3 (λc a w h=>h.elim) (.inl ⟨by simp[Region.wanted,hg'],λw=>UH hy w⟩) ?_
    rw[<-hd]
    refine UJ hs A02 hA F f _ _ w h5 (λi hi=>?_) hstep2
    rcases hl i hi with h6 | h6
    .rcases az2.1 h6 with rfl | h6
     .right
      have hlt:i<listed.size:=by
       have:=(mem_ready.1 hp).1
       by_cases h:i<listed.size
       .exact h
       .rw[Array.getD_eq_getD_getElem?,Array.getElem?_eq_none Z]at this; cases this
      simp[Array.getD_eq_getD_getElem?,hlt]
     .exact .inl h6
    .exact .inr (getD_set_true h6)
   .cases h1
  .cases h1
end
def kP(F:List Nat)(t:Nat)(os:List Oper):List Oper:=os.modify t λo=>{ o with after:=o.after++(F.map λi=>({ on:=i,ground := .data }:Edge)).toArray }
def afF(F:List Nat)(t:Nat)(os:List Oper):Bool:=Region.noSelect os.toArray&&takeB (kP F t os).toArray os.toArray F (Array.replicate os.length false)&&decide (F.length<=os.length)
variable{os:List Oper}
theorem tq{F:List Nat}{t:Nat}{i:Nat}:(kP F t os)[i]?=if i=t then (os[i]?).map (λo=>{ o with after:=o.after++(F.map λi=>({ on:=i,ground := .data }:Edge)).toArray })else os[i]?:=by
 unfold kP;rw[List.getElem?_modify];by_cases h:t=i
 .subst h; simp
 rw[azP (λe=>h e.symm)]; simp[h]
theorem hoist{P:Program}{Q:Exit->Act->World->Prop}{a:Act}{w:World}{id:Nat}(F:List Nat)(t:Nat)
  (h:wpAny P .any (kP F t os).toArray (Fb Q) (kP F t os).toArray.size (Array.replicate (kP F t os).toArray.size false) a { w with drawn:=w.drawn+1 }) (hmo:P.follows .mixedOrders=true:=by kernel_rfl) (hb:afF F t os=true:=by kernel_rfl):(Code.region id os.toArray true).wp P Q a w:=by
 unfold afF at hb;simp only[az7,az6]at hb;obtain⟨⟨h1,h2⟩,h3⟩:=hb;have hlen:(kP F t os).length=os.length:=by unfold kP; simp
 refine aBW hmo (yC _ _ _ _ ?_);have hsz:(kP F t os).toArray.size=os.toArray.size:=by simp[hlen]
 rw[hsz]at h;have hal:Alike (kP F t os).toArray os.toArray:=⟨hsz,λi=>by
  rw[List.getElem?_toArray,List.getElem?_toArray,tq];split
  .cases os[i]?<;>rfl
  rfl⟩
 have key:=UJ (P:=P) (Q:=Q) (ops:=(kP F t os).toArray) (ops':=os.toArray) h1 (λ_ _ _ _ _ _=>G) (F0:=F) (λf listed a w hl hh=>EG (F:=F) hal (λi o o' ho ho' e he hb=>?_) (λi o o' ho ho' e he hb=>?_) f listed a w hl hh) F (os.length-F.length) (Array.replicate os.length false) a { w with drawn:=w.drawn+1 } (by simpa using h2) (λi hi => .inl hi)
 .rw[Nat.sub_add_cancel h3]at key;simpa using key (by simpa using h)
 .rw[List.getElem?_toArray,tq]at ho;rw[List.getElem?_toArray]at ho';split at ho
  .rw[ho']at ho;simp only[aAF,azT]at ho;subst ho;simp only[Array.mem_append,List.mem_toArray,aAi]at he;rcases he with he | ⟨j,hj,rfl⟩
   .exact .inr ⟨e,he,hb,I⟩
   exact .inl hj
  rw[ho']at ho; obtain rfl:=az1 ho;exact .inr ⟨e,he,hb,I⟩
 rw[List.getElem?_toArray,tq]at ho;rw[List.getElem?_toArray]at ho';split at ho
 .rw[ho']at ho;simp only[aAF,azT]at ho;subst ho;exact⟨e,by simp[he],hb,I⟩
 rw[ho']at ho; obtain rfl:=az1 ho;exact⟨e,he,hb,I⟩
inductive KI where
  | code (c:Code)
  | blk (id:Nat)
  | rel (K:Act->World->Prop)
  | rd (n:Nat) (c:Code)
  | bot
def zp(P:Program)(B:Exit->Act->World->Prop):List KI->Exit->Act->World->Prop
  | []=>B
  | .code c::k=>Exit.then (c.wp P (zp P B k)) (zp P B k)
  | .blk id::k=>Exit.inBlock id (zp P B k)
  | .rel K::k=>Exit.then K (zp P B k)
  | .rd n c::k=>Exit.then (Code.rounds P c (zp P B k) n) (zp P B k)
  | .bot::k=>Fb (zp P B k)
inductive Pos where
  | cd (c:Code) (k:List KI)
  | op (A:Array Oper) (os:List Oper) (k:List KI)
  | nm (k:List KI)
  | ex (id:Nat) (k:List KI)
  | rt (k:List KI)
def A02(P:Program)(B:Exit->Act->World->Prop):Pos->Act->World->Prop
  | .cd c k=>c.wp P (zp P B k)
  | .op A os k=>wpList P A (zp P B k) os
  | .nm k=>zp P B k .normal
  | .ex id k=>zp P B k (.exit id)
  | .rt k=>zp P B k .ret
def nx1:Pos->Option Pos
  | .nm (.code c::k)=>some (.cd c k)
  | .nm (.blk _::k)=>some (.nm k)
  | .nm (.bot::k)=>some (.nm k)
  | .nm (.rd (n+1) c::k)=>some (.cd c (.rd n c::k))
  | .ex id (.code _::k)=>some (.ex id k)
  | .ex id (.rel _::k)=>some (.ex id k)
  | .ex id (.rd _ _::k)=>some (.ex id k)
  | .ex id (.blk j::k)=>(match Nat.beq id j with | true=>some (.nm k) | false=>some (.ex id k))
  | .rt (.code _::k)=>some (.rt k)
  | .rt (.blk _::k)=>some (.rt k)
  | .rt (.rel _::k)=>some (.rt k)
  | .rt (.rd _ _::k)=>some (.rt k)
  | .op _ [] k=>some (.nm k)
  | .cd .skip k=>some (.nm k)
  | .cd (.exit id) k=>some (.ex id k)
  | .cd .ret k=>some (.rt k)
  | .cd (.seq x y) k=>some (.cd x (.code y::k))
  | .cd (.block id c) k=>some (.cd c (.blk id::k))
  | .cd (.region _ ops false) k=>some (.op ops ops.toList k)
  | _=>none
def nx:Nat->Pos->Pos
  | 0,p=>p
  | f+1,p=>match nx1 p with | some q=>nx f q | none=>p
section
variable{P:Program}{B:Exit->Act->World->Prop}{a:Act}{w:World}
theorem amk{p q:Pos}(h:nx1 p=some q)(hG:A02 P B q a w):A02 P B p a w:=by
 unfold nx1 at h;split at h
 .obtain rfl:=az1 h; exact hG
 .obtain rfl:=az1 h; exact hG
 .obtain rfl:=az1 h; exact hG
 .obtain rfl:=az1 h; exact hG
 .obtain rfl:=az1 h; exact hG
 .obtain rfl:=az1 h; exact hG
 .obtain rfl:=az1 h; exact hG
 .rename_i id j k;split at h
  .rename_i hb;obtain rfl:=az1 h;have e:id=j:=Nat.eq_of_beq_eq_true hb;show(if id=j then zp P B k .normal a w else zp P B k (.exit id) a w);rw[azQ e]; exact hG
  rename_i hb;obtain rfl:=az1 h;show(if id=j then zp P B k .normal a w else zp P B k (.exit id) a w);rw[azP (Nat.ne_of_beq_eq_false hb)]; exact hG
 .obtain rfl:=az1 h; exact hG
 .obtain rfl:=az1 h; exact hG
 .obtain rfl:=az1 h; exact hG
 .obtain rfl:=az1 h; exact hG
 .obtain rfl:=az1 h; exact hG
 .obtain rfl:=az1 h; exact aAs hG
 .obtain rfl:=az1 h; exact aA8 hG
 .obtain rfl:=az1 h; exact wp_ret hG
 .obtain rfl:=az1 h; exact wp_seq hG
 .obtain rfl:=az1 h; exact aAM hG
 .rename_i id ops k;obtain rfl:=az1 h;have h2:wpList P ops.toList.toArray (zp P B k) ops.toList a w:=by rw[aCf]; exact hG
  have h3:=wp_region_lit (id:=id) h2;rw[aCf]at h3; exact h3
 cases h
theorem ai8:∀{f:Nat} {p:Pos},A02 P B (nx f p) a w->A02 P B p a w
  | 0,p,h=>h
  | f+1,p,h=>by
    unfold nx at h
    split at h
    · rename_i q hq; exact amk hq (ai8 h)
    · exact h
end
abbrev Chk:=Env×List Oper×List Loc×List Key
def plainO(e:Env)(p:qj)(o:Oper):Bool:=
  match o.op with
  | .move _ | .assign _ | .nilCheck _ | .fieldAddr _ _ _ | .unOp _ _ _ | .makeFunc _ _ _ | .extract _ _ | .makeInterface _ _ | .build _ _ | .binOp _ _ _ _ _ | .pick _ _ _ | .load _ _ | .indexAddr _ _ _ | .index _ _ _ | .field _ _ _ | .slice _ _ _ _ _=>true
  | .convert _ _ x=>(match rd e p x with | some (.int _ _)=>true | _=>false)
  | .call c=>(match c.callee with | .builtin .len=>true | .builtin .max=>true | .builtin .min=>true | _=>false)
  | _=>false
def chunk(P:Program)(ms:List fD)(A:Array Oper)(n:Nat):Nat->List Oper->Env->List Key->Chk
  | 0,os,e,ks=>(e,os,[],ks)
  | _+1,[],e,ks=>(e,[],[],ks)
  | m+1,o::os,e,ks =>
    match pathOf A e o with
    | none=>(e,o::os,[],ks)
    | some p =>
      match plainO e p o with
      | false=>(e,o::os,[],ks)
      | true =>
        match xM n e o.dst p,Zx P ms e p ks o with
        | true,some (.val v,ks',L)=>(match chunk P ms A n m os (put e o.dst p v) ks' with | (e',os',L',k')=>(e',os',L++L',k'))
        | _,_=>(e,o::os,[],ks)
def settle(e:Env)(li:List Nat):List Nat->Env->List (Nat×Value)
  | _,[]=>[]
  | sn,(i,q,v)::r =>
    match sn.contains i with
    | true=>settle e li sn r
    | false=>(match q with
      | []=>(i,v)::settle e li sn r
      | _=>(match li.contains i with
        | true=>(match jI e q with | true=>(i,v)::settle e li sn r | false=>settle e li (i::sn) r)
        | false=>settle e li (i::sn) r))
structure Zt where
  p:Pos
  l:List (Nat×Value)
structure Zr where
  z:Zt
  L:List Loc
  ks:List Key
def zgo(P:Program)(ms:List fD)(n:Nat)(li:List Nat):Nat->Nat->Pos->List (Nat×Value)->List Key->Zr
  | 0,_,p,l,ks=>⟨⟨p,l⟩,[],ks⟩
  | f+1,m,p,l,ks =>
    match nx 100 p with
    | .op A os k =>
      (match chunk P ms A n m os (lift l) ks with
      | (e',[],L,k')=>(match zgo P ms n li f (m-os.length) (.nm k) (settle e' li [] e') k' with | ⟨z,L2,k2⟩=>⟨z,L++L2,k2⟩)
      | (e',o::os',L,k')=>⟨⟨.op A (o::os') k,settle e' li [] e'⟩,L,k'⟩)
    | .cd c k=>⟨⟨.cd c k,l⟩,[],ks⟩
    | .nm k=>⟨⟨.nm k,l⟩,[],ks⟩
    | .ex i k=>⟨⟨.ex i k,l⟩,[],ks⟩
    | .rt k=>⟨⟨.rt k,l⟩,[],ks⟩
section
variable{P:Program}{A:Array Oper}{ms:List fD}{Q:Exit->Act->World->Prop}{B:Exit->Act->World->Prop}{n:Nat}{w0 w:World}{bl:List (Nat×List Value)}{vs:List fD}{li:List Nat}
theorem chunk_ok:∀{m:Nat} {os:List Oper} {e:Env} {ks:List Key} {a:Act} {L':List Loc},a.tmps.size=n->Holds a.eval e->Mem w ms->(chunk P ms A n m os e ks).2.2.1++L'=ks.map (vX ms)->yU P ks ->
    (∀a',a'.tmps.size=n->a'.defers=a.defers->Holds a'.eval (chunk P ms A n m os e ks).1->L'=(chunk P ms A n m os e ks).2.2.2.map (vX ms)->yU P (chunk P ms A n m os e ks).2.2.2->wpList P A Q (chunk P ms A n m os e ks).2.1 a' w)->wpList P A Q os a w
  | 0,os,e,ks,a,L',hsz,hh,hm,hL,hk,hn=>hn a hsz I hh (by simpa[chunk]using hL) hk
  | _+1,[],e,ks,a,L',hsz,hh,hm,hL,hk,hn=>hn a hsz I hh (by simpa[chunk]using hL) hk
  | m+1,o::os,e,ks,a,L',hsz,hh,hm,hL,hk,hn=>by
    have stop:chunk P ms A n (m+1) (o::os) e ks=(e,o::os,[],ks)->wpList P A Q (o::os) a w:=λh=>by
      rw[h]at hL hn; exact hn a hsz I hh (by simpa using hL) hk
    cases hp:pathOf A e o with
    | none=>exact stop (by simp[chunk,hp])
    | some p =>
     cases hpl:plainO e p o with
     | false=>exact stop (by simp[chunk,hp,hpl])
     | true =>
      cases hpo:xM n e o.dst p with
      | false=>exact stop (by simp[chunk,hp,hpl,hpo])
      | true =>
        cases h1:Zx P ms e p ks o with
        | none=>exact stop (by simp[chunk,hp,hpl,h1])
        | some r =>
          obtain⟨r,ks',L1⟩:=r
          cases r with
          | enter f args=>exact stop (by simp[chunk,hp,hpl,h1])
          | new=>exact stop (by simp[chunk,hp,hpl,h1])
          | val v =>
            have hc:chunk P ms A n (m+1) (o::os) e ks=((chunk P ms A n m os (put e o.dst p v) ks').1,(chunk P ms A n m os (put e o.dst p v) ks').2.1,L1++(chunk P ms A n m os (put e o.dst p v) ks').2.2.1,(chunk P ms A n m os (put e o.dst p v) ks').2.2.2):=by
              simp[chunk,hp,hpo,hpl,h1]
            rw[hc]at hL hn
            simp only[aAb]at hL hn
            have hw:=rQ (a:=a) hp (λx _ i y _ hl=>hh i y hl)
            obtain⟨hkl,hL2,hk2⟩:=vF h1 hL hk
            have go:∀u,u=den e (p,v)->wpList P A Q os (a.put o.dst u) w:=λu hu =>
              chunk_ok (m:=m) (by rw[sS]; exact hsz) (D7 hh hsz hpo hu) hm hL2 hk2 λa' h2 h3 h4 h5 h6=>hn a' h2 (by rw[h3,put_defers]) h4 h5 h6
            unfold wpList
            by_cases hG:jI e p=true
            · rw[azQ (hw.2 hG)]
              left
              exact UK (D8 h1 (Std.act a) (iq hh o) hG hm hkl) (go v (by simp[den,hG]))
            · rw[azP (λh=>hG (hw.1 h))]
              exact go undef (by simp[den,hG])
theorem xO{e:Env}:∀{r:Env} {sn:List Nat} {i:Nat} {v:Value},(settle e li sn r).lookup i=some v->sn.contains i=false∧∃q,r.lookup i=some (q,v)∧jI e q=true
  | [],sn,i,v,h=>by cases h
  | (j,q,u)::r,sn,i,v,h=>by
    unfold settle at h
    have skip:∀{sn':List Nat},(settle e li sn' r).lookup i=some v->(∀x,sn'.contains x=false->sn.contains x=false∧x≠j)->sn.contains i=false∧∃q',((j,q,u)::r:Env).lookup i=some (q',v)∧jI e q'=true:=λh hs=>by
      obtain⟨h1,q',h2,h3⟩:=xO h
      obtain⟨h4,h5⟩:=hs i h1
      refine⟨h4,q',?_,h3⟩
      rw[aAG]
      have:(i==j)=false:=by simpa using h5
      rw[this]; exact h2
    have keep:sn.contains j=false->jI e q=true->((j,u)::settle e li sn r).lookup i=some v->sn.contains i=false∧∃q',((j,q,u)::r:Env).lookup i=some (q',v)∧jI e q'=true:=λhj hq h=>by
      rw[aAG]at h
      rw[aAG]
      cases hij:i==j
      · rw[hij]at h
        obtain⟨h1,q',h2,h3⟩:=xO h
        exact⟨h1,q',h2,h3⟩
      · rw[hij]at h
        obtain rfl:=az1 h
        have:i=j:=by simpa using hij
        exact⟨this▸hj,q,I,hq⟩
    have Zy:∀x,(j::sn).contains x=false->sn.contains x=false∧x≠j:=λx hx=>by
      simp only[List.contains_cons,aAI,aAh]at hx
      exact⟨hx.2,hx.1⟩
    cases hj:sn.contains j with
    | true =>
      simp only[hj]at h
      refine skip h λx hx=>⟨hx,λe=>?_⟩
      rw[e,hj]at hx; cases hx
    | false =>
      simp only[hj]at h
      cases q with
      | nil=>exact keep hj I h
      | cons c q =>
        simp only at h
        cases hl:li.contains j with
        | false=>simp only[hl]at h; exact skip h Zy
        | true =>
          simp only[hl]at h
          cases hg:jI e (c::q)with
          | false=>simp only[hg]at h; exact skip h Zy
          | true=>simp only[hg]at h; exact keep hj hg h
theorem Nq{a:Act}{e:Env}(hsz:a.tmps.size=n)(hd:a.defers=[])(hh:Holds a.eval e):Vp.St a n (settle e li [] e):=
  ⟨hsz,hd,λi v h=>by
    obtain⟨-,q,h1,h2⟩:=xO h
    rw[hh i _ h1]
    unfold den
    simp only[h2,cond_true]⟩
theorem Qb(hm:Mem w ms):∀{f m:Nat} {p:Pos} {l:List (Nat×Value)} {ks:List Key} {a:Act} {L':List Loc},St w0 a w n l bl vs->(zgo P ms n li f m p l ks).L++L'=ks.map (vX ms)->yU P ks ->
    (∀a',St w0 a' w n (zgo P ms n li f m p l ks).z.l bl vs->A02 P B (zgo P ms n li f m p l ks).z.p a' w)->A02 P B p a w
  | 0,m,p,l,ks,a,L',S,hL,hk,hn=>hn a S
  | f+1,m,p,l,ks,a,L',S,hL,hk,hn=>by
    refine ai8 (f:=100) ?_
    unfold zgo at hL hn
    cases hp:nx 100 p with
    | op A os k =>
      simp only[hp]at hL hn
      refine chunk_ok (m:=m) (ms:=ms) (n:=n) (e:=lift l) (ks:=ks) (L':=(match chunk P ms A n m os (lift l) ks with | (e',[],L,k')=>(zgo P ms n li f (m-os.length) (.nm k) (settle e' li [] e') k').L | _=>[])++L') S.s.size (bZ S.s) hm ?_ hk ?_
      · revert hL
        rcases chunk P ms A n m os (lift l) ks with ⟨e',_ | ⟨o,os'⟩,L,k'⟩
        · intro hL; simpa[aAb]using hL
        · intro hL; simpa using hL
      · intro a' hsz hd hh
        have hd':a'.defers=[]:=by rw[hd,S.s.defers]
        revert hn hh
        rcases chunk P ms A n m os (lift l) ks with ⟨e',_ | ⟨o,os'⟩,L,k'⟩
        · intro hn hh hL2 hk2
          exact Qb hm (f:=f) (m:=m-os.length) (p := .nm k) (S.act (Nq hsz hd' hh)) hL2 hk2 hn
        · intro hn hh _ _
          exact hn a' (S.act (Nq hsz hd' hh))
    | cd c k=>simp only[hp]at hL hn; exact hn a S
    | nm k=>simp only[hp]at hL hn; exact hn a S
    | ex i k=>simp only[hp]at hL hn; exact hn a S
    | rt k=>simp only[hp]at hL hn; exact hn a S
end
theorem ahY{P:Program}{ms:List fD}{e:Env}{p:qj}{ks':List Key}{o:Oper}{r:EZ}{L:List Loc}(h:Zx P ms e p [] o=some (r,ks',L)):ks'=[]∧L=[]:=by
 rcases yD h with h | ⟨d,v,h,_⟩
 .unfold evR at h;cases h1:ev1 P ms e p [] o with
  | none=>simp[h1]at h
  | some r1 =>
   simp only[h1,azT]at h;obtain⟨r1,k1,L1⟩:=r1;obtain⟨kl,hkl,hl⟩:=XU h1;have hk1:k1=[]:=(List.append_eq_nil_iff.1 hkl.symm).2;have avy:kl=[]:=(List.append_eq_nil_iff.1 hkl.symm).1;subst hk1 avy;have hL1:L1=[]:=aBd (by simpa using hl);subst hL1;rcases yE o.dst (r1,[],[])with h2 | ⟨v,d',x,u,ks2,L2,h2,h3⟩
   .rw[h2]at h;simp only[azW]at h;exact⟨h.2.1.symm,h.2.2.symm⟩
   simp at h2
 cases h
section
variable{P:Program}{A:Array Oper}{ms:List fD}{n:Nat}{li:List Nat}
theorem Nr:∀{m:Nat} {os:List Oper} {e:Env},(chunk P ms A n m os e []).2.2=([],[])
  | 0,os,e=>rfl
  | _+1,[],e=>rfl
  | m+1,o::os,e=>by
    unfold chunk
    split
    · rfl
    · rename_i p _
      split
      · rfl
      split
      · rename_i v ks' L _ h
        obtain⟨rfl,rfl⟩:=ahY h
        have:=Nr (m:=m) (os:=os) (e:=put e o.dst p v)
        simp only[Prod.ext_iff]at this |-
        exact⟨by simpa using this.1,this.2⟩
      · rfl
theorem Qc:∀{f m:Nat} {p:Pos} {l:List (Nat×Value)},(zgo P ms n li f m p l []).L=[]∧(zgo P ms n li f m p l []).ks=[]
  | 0,m,p,l=>⟨I,I⟩
  | f+1,m,p,l=>by
    unfold zgo
    split
    · rename_i A os k _
      have h:=Nr (P:=P) (A:=A) (ms:=ms) (n:=n) (m:=m) (os:=os) (e:=lift l)
      revert h
      rcases chunk P ms A n m os (lift l) []with ⟨e',_ | ⟨o,os'⟩,L,k'⟩
      · intro h
        simp only[azW]at h
        obtain⟨rfl,rfl⟩:=h
        have:=Qc (f:=f) (m:=m-os.length) (p := .nm k) (l:=settle e' li [] e')
        exact⟨by simpa using this.1,this.2⟩
      · intro h
        simp only[azW]at h
        exact⟨h.1,h.2⟩
    all_goals exact⟨I,I⟩
end
def Gz(P:Program)(B:Exit->Act->World->Prop)(z:Zt)(a:Act)(w:World):Prop:=A02 P B z.p a w
def zR(P:Program)(n:Nat)(bl:List (Nat×List Value))(vs:List fD)(m:Nat)(li:List Nat)(ks:List Key)(z:Zt):Zr:=zgo P (jJ bl vs) n li 60 m z.p z.l ks
def zn(P:Program)(n:Nat)(bl:List (Nat×List Value))(vs:List fD)(m:Nat)(li:List Nat)(ks:List Key)(z:Zt):Zt:=(zR P n bl vs m li ks z).z
def zN(P:Program)(n:Nat)(z:Zt):Zt:=zn P n [] [] 999 [] [] z
def zM(P:Program)(n:Nat)(z:Zt):Zt:=zn P n [] [] 0 [] [] z
def oG(z:Zt):List Oper:=match z.p with | .op _ os _=>os | _=>[]
def zA(z:Zt):Array Oper:=match z.p with | .op A _ _=>A | _ => #[]
def zK(z:Zt):List KI:=match z.p with | .op _ _ k=>k | .cd _ k=>k | .nm k=>k | .ex _ k=>k | .rt k=>k
def zC(z:Zt):Code:=match z.p with | .cd c _=>c | _ => .skip
def tV(z:Zt):Bool:=match z.p with | .op _ _ _=>true | _=>false
def Eh(m:Nat):Pos->Pos
  | .op A os k => .op A (os.drop m) k
  | .cd (.region _ ops true) k => .op ops (ops.toList.drop m) k
  | p=>p
def ET(m:Nat)(new:List (Nat×Value))(z:Zt):Zt:=⟨Eh m z.p,new++z.l⟩
def zsk(z:Zt):Zt:=⟨Eh 1 z.p,z.l⟩
def lK(z:Zt):Option Nat:=match oG z with | o::_=>o.dst | []=>none
def vV(v:Value)(z:Zt):Zt:=⟨Eh 1 z.p,yQ z.l (lK z) v⟩
def z0(fn:Func)(args:List Value):Zt:=⟨.cd (fn.body.getD .skip) [],(List.range args.length).zip args⟩
section
variable{P:Program}{B:Exit->Act->World->Prop}{n:Nat}{w0 w:World}{a:Act}{bl:List (Nat×List Value)}{vs:List fD}{z:Zt}
variable{f:FuncId}{args:Array Value}{b off:Nat}{V:Value}
theorem zk(S:St w0 a w n z.l bl vs)(m:Nat)(li:List Nat)(ks:List Key)(next:∀{a'},St w0 a' w n (zn P n bl vs m li ks z).l bl vs->Gz P B (zn P n bl vs m li ks z) a' w)(hk:yU P ks:=by exact G)
    (hz:((zR P n bl vs m li ks z).L,(zR P n bl vs m li ks z).ks)=(ks.map (vX (jJ bl vs)),[]):=by kernel_rfl):Gz P B z a w:=by
 simp only[azW]at hz;refine Qb S.JB (B:=B) (li:=li) (f:=60) (m:=m) (ks:=ks) (L':=[]) S ?_ hk λa'=>next;rw[aAW]; exact hz.1
theorem tX(S:St w0 a w n z.l bl vs)(next:∀{a'},St w0 a' w n (zN P n z).l bl vs->Gz P B (zN P n z) a' w):Gz P B z a w:=
  Qb (ms:=jJ [] []) (λm h=>by cases h) (B:=B) (li:=[]) (f:=60) (m:=999) (ks:=[]) (L':=[]) S (by rw[Qc.1]; rfl) G λa'=>next
theorem aqm(S:St w0 a w n z.l bl vs)(next:∀{a'},St w0 a' w n (zM P n z).l bl vs->Gz P B (zM P n z) a' w):Gz P B z a w:=
  Qb (ms:=jJ [] []) (λm h=>by cases h) (B:=B) (li:=[]) (f:=60) (m:=0) (ks:=[]) (L':=[]) S (by rw[Qc.1]; rfl) G λa'=>next
theorem zop{z:Zt}(ho:tV z=true)(h:wpList P (zA z) (zp P B (zK z)) (oG z) a w):Gz P B z a w:=by
 obtain⟨p,l⟩:=z;cases p with
 | op A os k=>exact h
 | _=>cases ho
theorem IX{z:Zt}{m:Nat}{l:List (Nat×Value)}(ho:tV z=true)(h:A02 P B (Eh m z.p) a w):wpList P (zA z) (zp P B (zK z)) ((oG z).drop m) a w:=by
 obtain⟨p,l⟩:=z;cases p with
 | op A os k=>exact h
 | _=>cases ho
theorem ze{fn:Func}{args:List Value}{R:Ending->World->Prop}{n:Nat}(hf:P.funcs[f]?=some fn)(hn:fn.ntmps=n)(next:∀{a},St w a w n (z0 fn args).l [] []->Gz P (bodyPost P fn R) (z0 fn args) a w)
    (hb:fn.body.isSome=true:=by rfl) (hsz:decide (args.length<=n)=true:=by kernel_rfl):Calls P f args.toArray w R:=by
 obtain⟨c,hc⟩:=aAY.1 hb;refine enter hf hn (λa S=>?_) hc hsz;have:=next (a:=a) S;unfold Gz z0 at this;rw[hc]at this;exact this
theorem bV(S:St w0 a w n z.l bl vs){R:Ending->World->Prop}(hc:Calls P f args w R)
    (next:∀e w',R e w'->∃v,e = .returned v∧Ext w w'∧∀{a'},St w0 a' w' n (vV v (zN P n z)).l bl vs->Gz P B (vV v (zN P n z)) a' w')
    (hx:callOf P (oG (zN P n z)) (zN P n z).l=some (f,args,lK (zN P n z)):=by kernel_rfl) (ho:(tV (zN P n z)&&vI n (lK (zN P n z)))=true:=by kernel_rfl):Gz P B z a w:=by
 simp only[az7]at ho;refine tX S λS=>zop ho.1 (jL S _ hc (λe w' hR=>?_) hx ho.2);obtain⟨v,h1,h2,h3⟩:=next e w' hR;exact⟨v,h1,h2,λa' S'=>IX (m:=1) (l:=[]) ho.1 (h3 S')⟩
theorem zq(S:St w0 a w n z.l bl vs){F:Value->World->Prop}(hc:Calls P f args w λe w'=>∃v,e = .returned v∧F v w'∧Ext w w')
    (next:∀{a'} v w',F v w'->Ext w w'->St w0 a' w' n (vV v (zN P n z)).l bl vs->Gz P B (vV v (zN P n z)) a' w')
    (hx:callOf P (oG (zN P n z)) (zN P n z).l=some (f,args,lK (zN P n z)):=by kernel_rfl) (ho:(tV (zN P n z)&&vI n (lK (zN P n z)))=true:=by kernel_rfl):Gz P B z a w:=
  bV S hc (λe w' h=>by obtain⟨v,rfl,h1,h2⟩:=h; exact⟨v,I,h2,λ{_} S=>next v w' h1 h2 S⟩) hx ho
theorem dD(S:St w0 a w n z.l bl vs)(hc:Calls P f args w λe w'=>e = .returned V∧Ext w w')
    (next:∀{a'} w',Ext w w'->St w0 a' w' n (vV V (zN P n z)).l bl vs->Gz P B (vV V (zN P n z)) a' w')
    (hx:callOf P (oG (zN P n z)) (zN P n z).l=some (f,args,lK (zN P n z)):=by kernel_rfl) (ho:(tV (zN P n z)&&vI n (lK (zN P n z)))=true:=by kernel_rfl):Gz P B z a w:=
  bV S hc (λe w' h=>⟨V,h.1,h.2,λS=>next w' h.2 S⟩) hx ho
theorem lQ(S:St w0 a w n z.l bl vs)(hc:Calls P f args w λe w'=>e = .returned V∧w=w')
    (next:∀{a'},St w0 a' w n (vV V (zN P n z)).l bl vs->Gz P B (vV V (zN P n z)) a' w)
    (hx:callOf P (oG (zN P n z)) (zN P n z).l=some (f,args,lK (zN P n z)):=by kernel_rfl) (ho:(tV (zN P n z)&&vI n (lK (zN P n z)))=true:=by kernel_rfl):Gz P B z a w:=
  bV S hc (λe w' h=>by obtain⟨h1,rfl⟩:=h; exact⟨V,h1,K01,λS=>next S⟩) hx ho
theorem Aj(S:St w0 a w n z.l bl vs)(k:Nat){A:List Value}(A':List Value){R:Ending->World->Prop}(hkk:bl[k]?=some (b,A))(hc:Calls P f args w R)
    (next:∀e w',R e w'->∃v,e = .returned v∧Ext w0 w'∧Ch b w w'∧Bx w' b A'.toArray∧∀{a'},St w0 a' w' n (vV v (zN P n z)).l (bl.set k (b,A')) vs->Gz P B (vV v (zN P n z)) a' w')
    (hx:callOf P (oG (zN P n z)) (zN P n z).l=some (f,args,lK (zN P n z)):=by kernel_rfl) (ho:(tV (zN P n z)&&vI n (lK (zN P n z)))=true:=by kernel_rfl):Gz P B z a w:=by
 simp only[az7]at ho;refine tX S λS=>zop ho.1 (air S k A' _ hkk hc (λe w' hR=>?_) hx ho.2);obtain⟨v,h1,h2,h4,h5,h3⟩:=next e w' hR;exact⟨v,h1,h2,h4,h5,λa' S'=>IX (m:=1) (l:=[]) ho.1 (h3 S')⟩
def newV(P:Program)(r:Nat)(z:Zt):Value:=match EN P r (oG z) z.l with | some x=>x.2.1 | none=>undef
def aml(P:Program)(r:Nat)(z:Zt):Option (List Value×Option Nat):=match EN P r (oG z) z.l with | some x=>some (x.1,x.2.2) | none=>none
theorem dJ(S:St w0 a w n z.l bl vs)(A:List Value)(next:∀{a'} w' b,Ext w w'->b=w.heap.size->St w0 a' w' n (vV (newV P b (zN P n z)) (zN P n z)).l ((b,A)::bl) vs->Gz P B (vV (newV P b (zN P n z)) (zN P n z)) a' w')
    (hx:∀r,aml P r (zN P n z)=some (A,lK (zN P n z)):=by intro r; kernel_rfl) (ho:(tV (zN P n z)&&(vI n (lK (zN P n z))&&(lK (zN P n z)).isSome))=true:=by kernel_rfl):Gz P B z a w:=by
 simp only[az7]at ho;refine tX S λS=>zop ho.1 ?_;obtain⟨d,hd⟩:=aAY.1 ho.2.2;refine new S d A (λr=>newV P r (zN P n z)) (λa' w' b hE hb S'=>IX (m:=1) (l:=[]) ho.1 ?_) (λr=>?_) (by rw[<-hd]; exact ho.2.1)
 .refine next w' b hE hb ?_;show St w0 a' w' n (yQ _ (lK (zN P n z)) _) _ _;rw[hd]; exact S'
 have:=hx r;unfold aml at this;unfold newV;rw[<-hd];cases h:EN P r (oG (zN P n z)) (zN P n z).l with
 | none=>rw[h]at this; cases this
 | some x =>
  rw[h]at this;simp only[azT,azW]at this;simp only[azT];obtain⟨x1,x2,x3⟩:=x;simp only at this;rw[this.1,this.2]
theorem mg(S:St w0 a w n z.l bl vs)(k:Nat){A cs:List Value}(hkk:bl[k]?=some (b,A))(next:∀{a'} w',Ch b w w'->St w0 a' w' n (zsk (zN P n z)).l (bl.set k (b,spl A off cs)) vs->Gz P B (zsk (zN P n z)) a' w')
    (hx:lI P (oG (zN P n z)) (zN P n z).l=some (b,off,.agg cs.toArray,cs.length):=by kernel_rfl) (hf:decide (off+cs.length<=A.length)=true:=by kernel_rfl) (h1:cs.all (·.oneCell')=true:=by kernel_rfl) (ho:tV (zN P n z)=true:=by kernel_rfl):Gz P B z a w:=
  tX S λS=>zop ho (store S k hkk (λw' hc S'=>IX (m:=1) (l:=[]) ho (next w' hc S')) hx hf h1)
theorem SL(S:St w0 a w n z.l bl vs)(k:Nat){A:List Value}{v:Value}(hkk:bl[k]?=some (b,A))(next:∀{a'} w',Ch b w w'->St w0 a' w' n (zsk (zN P n z)).l (bl.set k (b,spl A off [v])) vs->Gz P B (zsk (zN P n z)) a' w')
    (hx:lI P (oG (zN P n z)) (zN P n z).l=some (b,off,v,1):=by kernel_rfl) (hf:decide (off<A.length)=true:=by kernel_rfl) (h1:v.cells = #[v]:=by kernel_rfl) (h1':v.oneCell'=true:=by kernel_rfl) (ho:tV (zN P n z)=true:=by kernel_rfl):Gz P B z a w:=
  tX S λS=>zop ho (store1 S k hkk (λw' hc S'=>IX (m:=1) (l:=[]) ho (next w' hc S')) hx hf h1 h1')
def Zz(z:Zt):Option Value:=match z.p with | .cd (.cond c _ _) _=>Vp.ev z.l c | _=>none
def zth(z:Zt):Zt:=match z.p with | .cd (.cond _ x _) k=>⟨.cd x k,z.l⟩ | _=>z
def zel(z:Zt):Zt:=match z.p with | .cd (.cond _ _ y) k=>⟨.cd y k,z.l⟩ | _=>z
theorem zc(S:St w0 a w n z.l bl vs)(t:Bool)(ht:∀{a'},t=true->St w0 a' w n (zth (zN P n z)).l bl vs->Gz P B (zth (zN P n z)) a' w)(hf:∀{a'},t=false->St w0 a' w n (zel (zN P n z)).l bl vs->Gz P B (zel (zN P n z)) a' w)
    (hc:Zz (zN P n z)=some (.bool t):=by kernel_rfl):Gz P B z a w:=by
 refine tX S λ{a'} S=>?_;revert ht hf hc S;generalize zN P n z=z1;intro ht hf hc S;obtain⟨p,l⟩:=z1;unfold Zz at hc;split at hc
 .rename_i c x y k hp;simp only at hp;subst hp;exact cond S (λh=>ht h S) (λh=>hf h S) hc
 cases hc
theorem zT(S:St w0 a w n z.l bl vs)(h:∀{a'},St w0 a' w n (zth (zN P n z)).l bl vs->Gz P B (zth (zN P n z)) a' w)(hc:Zz (zN P n z)=some (.bool true):=by kernel_rfl):Gz P B z a w:=zc S true (λ_ S=>h S) (λh=>by cases h) hc
theorem zF(S:St w0 a w n z.l bl vs)(h:∀{a'},St w0 a' w n (zel (zN P n z)).l bl vs->Gz P B (zel (zN P n z)) a' w)(hc:Zz (zN P n z)=some (.z):=by kernel_rfl):Gz P B z a w:=zc S false (λh=>by cases h) (λ_ S=>h S) hc
def XV(z:Zt):Bool:=match z.p with | .rt []=>true | _=>false
theorem zrt{z:Zt}{fn:Func}{R:Ending->World->Prop}(hr:XV z=true)(h:bodyPost P fn R .ret a w):Gz P (bodyPost P fn R) z a w:=by
 obtain⟨p,l⟩:=z;unfold XV at hr;split at hr
 .rename_i hp; simp only at hp; subst hp; exact h
 cases hr
section
variable{fn:Func}{R:Ending->World->Prop}
def resT(fn:Func)(i:Nat):Nat:=match fn.results[i]? with | some (.tmp t)=>t | some (.cell t _)=>t | none=>0
def resTy(fn:Func)(i:Nat):TypeId:=match fn.results[i]? with | some (.cell _ ty)=>ty | _=>0
theorem dn(S:St w0 a w n z.l bl vs)(v:Value)(h:∀{a'},St w0 a' w n (zN P n z).l bl vs->R (.returned v) w)(hr:fn.results = #[.tmp (resT fn 0)]:=by kernel_rfl)
    (hv:Vp.ev (zN P n z).l (.tmp (resT fn 0))=some v:=by kernel_rfl) (ho:XV (zN P n z)=true:=by kernel_rfl):Gz P (bodyPost P fn R) z a w:=
  tX S λS=>zrt ho (OV S hr (h S) hv)
theorem Qo(S:St w0 a w n z.l bl vs)(v u:Value)(h:∀{a'},St w0 a' w n (zN P n z).l bl vs->R (.returned (.tuple #[v,u])) w)(hr:fn.results = #[.tmp (resT fn 0),.tmp (resT fn 1)]:=by kernel_rfl)
    (hv:Vp.ev (zN P n z).l (.tmp (resT fn 0))=some v:=by kernel_rfl) (hu:Vp.ev (zN P n z).l (.tmp (resT fn 1))=some u:=by kernel_rfl) (ho:XV (zN P n z)=true:=by kernel_rfl):Gz P (bodyPost P fn R) z a w:=
  tX S λS=>zrt ho (KC S hr (h S) hv hu)
theorem zrc(S:St w0 a w n z.l bl vs)(k:Nat){b:Nat}{A:List Value}{v:Value}(hkk:bl[k]?=some (b,A))(h:∀{a'},St w0 a' w n (zN P n z).l bl vs->R (.returned v) w)(hr:fn.results = #[.cell (resT fn 0) (resTy fn 0)]:=by kernel_rfl)
    (hv:Vp.ev (zN P n z).l (.tmp (resT fn 0))=some (.q b 0):=by kernel_rfl) (hl:Ql P (resTy fn 0) A=some v:=by kernel_rfl) (ho:XV (zN P n z)=true:=by kernel_rfl):Gz P (bodyPost P fn R) z a w:=
  tX S λS=>zrt ho (akX S k hr hkk (h S) hv hl)
theorem Jm(S:St w0 a w n z.l bl vs)(k:Nat){b:Nat}{A:List Value}{v u:Value}(hkk:bl[k]?=some (b,A))(h:∀{a'},St w0 a' w n (zN P n z).l bl vs->R (.returned (.tuple #[v,u])) w)(hr:fn.results = #[.cell (resT fn 0) (resTy fn 0),.tmp (resT fn 1)]:=by kernel_rfl)
    (hv:Vp.ev (zN P n z).l (.tmp (resT fn 0))=some (.q b 0):=by kernel_rfl) (hu:Vp.ev (zN P n z).l (.tmp (resT fn 1))=some u:=by kernel_rfl) (hl:Ql P (resTy fn 0) A=some v:=by kernel_rfl) (ho:XV (zN P n z)=true:=by kernel_rfl):Gz P (bodyPost P fn R) z a w:=
  tX S λS=>zrt ho (aqn S k hr hkk (h S) hv hu hl)
theorem zre(S:St w0 a w n z.l bl vs)(h:∀{a'},St w0 a' w n (zN P n z).l bl vs->bodyPost P fn R .ret a' w)(ho:XV (zN P n z)=true:=by kernel_rfl):Gz P (bodyPost P fn R) z a w:=tX S λS=>zrt ho (h S)
end
def aqo(z:Zt):Code:=match z.p with | .cd (.loop c) _=>c | _ => .skip
def ahZ(z:Zt):Bool:=match z.p with | .cd (.loop _) _=>true | _=>false
variable{b m:Nat}{f:FuncId}{args:List Value}{v:Value}
theorem um{ι:Type}(S:St w0 a w n z.l bl vs)(A00:ι->Act->World->Prop)(μ:ι->Nat)(i0:ι)(h0:∀{a'},St w0 a' w n (zN P n z).l bl vs->A00 i0 a' w)
    (round:∀i a w (K:Act->World->Prop),(∀a' w' i',A00 i' a' w'->μ i'<μ i->K a' w')->A00 i a w->A02 P B (.cd (aqo (zN P n z)) (.rel K::zK (zN P n z))) a w) (ho:ahZ (zN P n z)=true:=by kernel_rfl):Gz P B z a w:=by
 refine tX S λ{a'} S=>?_;revert h0 round ho S;generalize zN P n z=z1;intro h0 round ho S;obtain⟨p,l⟩:=z1;unfold ahZ at ho;split at ho
 .rename_i c k hp;simp only at hp;subst hp;exact Vp.loop A00 μ i0 (h0 S) λi a w hI=>round i a w _ (λa' w' i' h1 h2=>⟨i',h1,h2⟩) hI
 cases ho
def zrd(m:Nat)(z:Zt):Zt:=match z.p with | .cd (.loop c) k=>⟨.cd c (.rd m c::k),z.l⟩ | _=>z
theorem zun(S:St w0 a w n z.l bl vs)(m:Nat)(h:∀{a'},St w0 a' w n (zrd m (zN P n z)).l bl vs->Gz P B (zrd m (zN P n z)) a' w)(ho:ahZ (zN P n z)=true:=by kernel_rfl):Gz P B z a w:=by
 refine tX S λ{a'} S=>?_;revert h ho S;generalize zN P n z=z1;intro h ho S;obtain⟨p,l⟩:=z1;unfold ahZ at ho;split at ho
 .rename_i c k hp;simp only at hp;subst hp;exact wp_loop_rounds (m+1) (h S)
 cases ho
theorem zs{p:Pos}{l:List (Nat×Value)}(S:St w0 a w n l bl vs)(h:St w0 a w n (⟨p,l⟩:Zt).l bl vs->Gz P B ⟨p,l⟩ a w):A02 P B p a w:=h S
def aqp(z:Zt):Option (Act->World->Prop):=match z.p with | .nm (.rel K::_)=>some K | _=>none
theorem jB(S:St w0 a w n z.l bl vs)(K:Act->World->Prop)(h:∀{a'},St w0 a' w n (zN P n z).l bl vs->K a' w)(ho:aqp (zN P n z)=some K:=by kernel_rfl):Gz P B z a w:=by
 refine tX S λ{a'} S=>?_;revert h ho S;generalize zN P n z=z1;intro h ho S;obtain⟨p,l⟩:=z1;unfold aqp at ho;split at ho
 .rename_i K' k hp;simp only at hp;subst hp;obtain rfl:=az1 ho;exact h S
 cases ho
theorem jX(S:St w0 a w n z.l bl vs)(k:Nat)(ks:List Key)(cl:List Cl)(new:List (Nat×Value))(hO:Obl P w cl)(next:∀{a'} w',Ext w w'->St w0 a' w' n (ET k new (zM P n z)).l bl vs->Gz P B (ET k new (zM P n z)) a' w')(hk:yU P ks:=by exact G)
    (hx:runs P (jJ bl vs) (zA (zM P n z)) n ((oG (zM P n z)).take k) (zM P n z).l ks (cl.map (·.2.2.2)) new=wants (jJ bl vs) ks cl new:=by kernel_rfl) (hs:rU ((oG (zM P n z)).take k) (zM P n z).l new=true:=by kernel_rfl) (ho:tV (zM P n z)=true:=by kernel_rfl):Gz P B z a w:=
  aqm S λS=>zop ho (adw S k ks cl new hO (λa' w' hE S'=>IX (m:=k) (l:=[]) ho (next w' hE S')) hk hx hs)
def Ae(z:Zt):List Oper:=match z.p with | .cd (.region _ ops true) _=>ops.toList | _=>[]
def Hq(z:Zt):Bool:=match z.p with | .cd (.region _ _ true) _=>true | _=>false
theorem zdr{z:Zt}(ho:Hq z=true)(h:∀id,(Code.region id (Ae z).toArray true).wp P (zp P B (zK z)) a w):Gz P B z a w:=by
 obtain⟨p,l⟩:=z;unfold Hq at ho;split at ho
 .rename_i id ops k hp;simp only at hp;subst hp;have:=h id;unfold Ae at this;rw[aCf]at this;exact this
 cases ho
theorem agr{z:Zt}(ho:Hq z=true)(h:A02 P B (Eh m z.p) a w):wpList P (Ae z).toArray (zp P B (zK z)) ((Ae z).drop m) a w:=by
 obtain⟨p,l⟩:=z;unfold Hq at ho;split at ho
 .rename_i id ops k hp;simp only at hp;subst hp;unfold Ae;rw[aCf];exact h
 cases ho
theorem eY(S:St w0 a w n z.l bl vs)(m:Nat)(ks:List Key)(cl:List Cl)(new:List (Nat×Value))(hO:Obl P w cl)(next:∀{a'} w',Ext w w'->St w0 a' w' n (ET m new (zN P n z)).l bl vs->Gz P B (ET m new (zN P n z)) a' w')(hk:yU P ks:=by exact G)
    (hx:runs P (jJ bl vs) (Ae (zN P n z)).toArray n ((Ae (zN P n z)).take m) (zN P n z).l ks (cl.map (·.2.2.2)) new=wants (jJ bl vs) ks cl new:=by kernel_rfl) (hs:rU ((Ae (zN P n z)).take m) (zN P n z).l new=true:=by kernel_rfl)
    (hmo:P.follows .mixedOrders=true:=by kernel_rfl) (hB:okB (Ae (zN P n z)).toArray m n=true:=by kernel_rfl) (hD:rV (Ae (zN P n z)).toArray ((Ae (zN P n z)).take m)=true:=by kernel_rfl) (ho:Hq (zN P n z)=true:=by kernel_rfl):Gz P B z a w:=
  tX S λS=>zdr ho λid=>draw S m ks cl new hO (λa' w' hE S'=>agr (m:=m) ho (next w' hE S')) hk hx hs hmo hB hD
theorem zeE{fn:Func}{R:Ending->World->Prop}{n:Nat}(hf:P.funcs[f]?=some fn)(hn:fn.ntmps=n)(hE:Ext w0 w)(next:∀{a},St w0 a w n (z0 fn args).l [] []->Gz P (bodyPost P fn R) (z0 fn args) a w)
    (hb:fn.body.isSome=true:=by rfl) (hsz:decide (args.length<=n)=true:=by kernel_rfl):Calls P f args.toArray w R:=by
 obtain⟨c,hc⟩:=aAY.1 hb;refine Vp.enter hf hc (by rw[hn]; simpa using hsz) λa s=>?_;have S:St w0 a w n ((List.range args.length).zip args) [] []:=⟨(by rw[hn]at s; simpa using s),hE,λp hp=>(by cases hp),List.nodup_nil,λm hm=>by cases hm⟩;have:=next (a:=a) S;unfold Gz z0 at this;rw[hc]at this;exact this
theorem Di{fn:Func}{R:Ending->World->Prop}{n:Nat}{A:List Value}(hf:P.funcs[f]?=some fn)(hn:fn.ntmps=n)(hE:Ext w0 w)(hx:Bx w b A.toArray)(hb0:w0.heap.size<=b)(next:∀{a},St w0 a w n (z0 fn args).l [(b,A)] []->Gz P (bodyPost P fn R) (z0 fn args) a w)
    (hb:fn.body.isSome=true:=by rfl) (hsz:decide (args.length<=n)=true:=by kernel_rfl):Calls P f args.toArray w R:=by
 obtain⟨c,hc⟩:=aAY.1 hb;refine Dv hf hn hE hx hb0 (λa S=>?_) hc hsz;have:=next (a:=a) S;unfold Gz z0 at this;rw[hc]at this;exact this
theorem zl(S:St w0 a w n z.l bl vs)(h:∀{a'},St w0 a' w n (zN P n z).l bl vs->wpList P (zA (zN P n z)) (zp P B (zK (zN P n z))) (oG (zN P n z)) a' w)(ho:tV (zN P n z)=true:=by kernel_rfl):Gz P B z a w:=tX S λS=>zop ho (h S)
theorem zo0(S:St w0 a w n z.l bl vs)(h:St w0 a w n (zsk z).l bl vs->Gz P B (zsk z) a w)(ho:tV z=true:=by kernel_rfl):wpList P (zA z) (zp P B (zK z)) ((oG z).drop 1) a w:=IX (l:=[]) ho (h S)
theorem qQ{d:Nat}(S:St w0 a w n ((d,v)::z.l) bl vs)(h:St w0 a w n (ET 1 [(d,v)] z).l bl vs->Gz P B (ET 1 [(d,v)] z) a w)(ho:tV z=true:=by kernel_rfl):wpList P (zA z) (zp P B (zK z)) ((oG z).drop 1) a w:=IX (l:=[]) ho (h S)
def aqr(d:Option Nat)(v:Value)(z:Zt):Zt:=⟨Eh 1 z.p,yQ z.l d v⟩
theorem U3{d:Option Nat}(S:St w0 a w n (yQ z.l d v) bl vs)(h:St w0 a w n (aqr d v z).l bl vs->Gz P B (aqr d v z) a w)(ho:tV z=true:=by kernel_rfl):wpList P (zA z) (zp P B (zK z)) ((oG z).drop 1) a w:=IX (l:=[]) ho (h S)
theorem zd(S:St w0 a w n z.l bl vs)(h:∀{a'},St w0 a' w n (zN P n z).l bl vs->∀id,(Code.region id (Ae (zN P n z)).toArray true).wp P (zp P B (zK (zN P n z))) a' w)(ho:Hq (zN P n z)=true:=by kernel_rfl):Gz P B z a w:=tX S λS=>zdr ho (h S)
theorem zdo{new:List (Nat×Value)}(S:St w0 a w n (new++z.l) bl vs)(h:St w0 a w n (ET m new z).l bl vs->Gz P B (ET m new z) a w)(ho:Hq z=true:=by kernel_rfl):wpList P (Ae z).toArray (zp P B (zK z)) ((Ae z).drop m) a w:=agr (m:=m) ho (h S)
def zbt(A:Array Oper)(os:List Oper)(new:List (Nat×Value))(z:Zt):Zt:=⟨.op A os (.bot::zK z),new++z.l⟩
theorem zdb{A:Array Oper}{os:List Oper}{new:List (Nat×Value)}(S:St w0 a w n (new++z.l) bl vs)(h:St w0 a w n (zbt A os new z).l bl vs->Gz P B (zbt A os new z) a w):wpList P A (Fb (zp P B (zK z))) os a w:=h S
theorem jd(S:St w0 a w n z.l bl vs)(m:Nat)(U:Ak)(ks:Nat->List Key)(cs:(Nat->Value)->List Value)(cl:(Nat->Value)->List ClX)(ns:List (List Nat))(new:(Nat->Value)->List (Nat×Value))
    (hU:CZ U) (hO:∀x,UL P w U x (cl x) ns)
    (next:∀{a'} w' x,Ext w w'->nV U x w' (U.map (·.1))->St w0 a' w' n (ET m (new x) (zN P n z)).l bl vs->Gz P B (ET m (new x) (zN P n z)) a' w')
    (hN:∀r,NOk U w.heap.size r (ks r):=by intro r; exact G) (hk:∀r,nI True P (ks r):=by intro r; exact G)
    (hD0:(U.map (·.1)).all (λd=>((Ae (zN P n z)).take m).any (λo=>o.dst==some d))=true:=by kernel_rfl)
    (hmo:P.follows .mixedOrders=true:=by kernel_rfl) (hB:okB (Ae (zN P n z)).toArray m n=true:=by kernel_rfl) (hD:rV (Ae (zN P n z)).toArray ((Ae (zN P n z)).take m)=true:=by kernel_rfl)
    (hl:Hnd:=[]) (hH:∀x r,pG P w U [] x (Ae (zN P n z)) hl (ks r):=by intro x r; exact G) (hHK:∀r,xP (Ae (zN P n z)) hl (ks r)=true:=by intro r; kernel_rfl) (hHB:JC (Ae (zN P n z)) m U hl=true:=by kernel_rfl)
    (hx:∀y r,(exec P (jJ bl vs) (Ae (zN P n z)).toArray n ((Ae (zN P n z)).take m) (lift (zN P n z).l) (ks r) (cs y)).map (XW ((Ae (zN P n z)).take m) U ns (new y))=some ((new y).map (λp=>some ([],p.2)),(ks r).map (vX (jJ bl vs)),(cl y).map clX,patch U y ((Ae (zN P n z)).take m) (tv (exec P (jJ bl vs) (Ae (zN P n z)).toArray n ((Ae (zN P n z)).take m) (lift (zN P n z).l) (ks 0) (cs λ_=>undef))),true):=by intro y r; kernel_rfl)
    (hs:∀y,rU ((Ae (zN P n z)).take m) (zN P n z).l (new y)=true:=by intro y; kernel_rfl) (hn:(decide (n<=1000)&&(U.map (·.1)).all λd=>decide (d<n))=true:=by kernel_rfl) (ho:Hq (zN P n z)=true:=by kernel_rfl):Gz P B z a w:=
  tX S λS=>zdr ho λid=>zB S m U ks cs cl ns new hU hO (λa' w' x hE hF S'=>agr (m:=m) ho (next w' x hE hF S')) hN hk hD0 hmo hB hD hl hH hHK hHB hx hs hn
def newC(P:Program)(z:Zt):List Value:=match EN P 0 (oG z) z.l with | some x=>x.1 | none=>[]
theorem eU(S:St w0 a w n z.l bl vs)(next:∀{a'} w' b,Ext w w'->b=w.heap.size->St w0 a' w' n (vV (newV P b (zN P n z)) (zN P n z)).l ((b,newC P (zN P n z))::bl) vs->Gz P B (vV (newV P b (zN P n z)) (zN P n z)) a' w')
    (hx:∀r,aml P r (zN P n z)=some (newC P (zN P n z),lK (zN P n z)):=by intro r; kernel_rfl) (ho:(tV (zN P n z)&&(vI n (lK (zN P n z))&&(lK (zN P n z)).isSome))=true:=by kernel_rfl):Gz P B z a w:=dJ S _ next hx ho
def stO(P:Program)(z:Zt):Nat:=match lI P (oG z) z.l with | some x=>x.2.1 | none=>0
def stC(P:Program)(z:Zt):List Value:=match lI P (oG z) z.l with | some x=>(match x.2.2.1 with | .agg c=>c.toList | v=>[v]) | none=>[]
theorem fU(S:St w0 a w n z.l bl vs)(k:Nat){A:List Value}(hkk:bl[k]?=some (b,A))(next:∀{a'} w',Ch b w w'->St w0 a' w' n (zsk (zN P n z)).l (bl.set k (b,spl A (stO P (zN P n z)) (stC P (zN P n z)))) vs->Gz P B (zsk (zN P n z)) a' w')
    (hx:lI P (oG (zN P n z)) (zN P n z).l=some (b,stO P (zN P n z),.agg (stC P (zN P n z)).toArray,(stC P (zN P n z)).length):=by kernel_rfl) (hf:decide (stO P (zN P n z)+(stC P (zN P n z)).length<=A.length)=true:=by kernel_rfl) (h1:(stC P (zN P n z)).all (·.oneCell')=true:=by kernel_rfl) (ho:tV (zN P n z)=true:=by kernel_rfl):Gz P B z a w:=mg S k hkk next hx hf h1 ho
def stV(P:Program)(z:Zt):Value:=match lI P (oG z) z.l with | some x=>x.2.2.1 | none=>undef
theorem fJ(S:St w0 a w n z.l bl vs)(k:Nat){A:List Value}(hkk:bl[k]?=some (b,A))(next:∀{a'} w',Ch b w w'->St w0 a' w' n (zsk (zN P n z)).l (bl.set k (b,spl A (stO P (zN P n z)) [stV P (zN P n z)])) vs->Gz P B (zsk (zN P n z)) a' w')
    (hx:lI P (oG (zN P n z)) (zN P n z).l=some (b,stO P (zN P n z),stV P (zN P n z),1):=by kernel_rfl) (hf:decide (stO P (zN P n z)<A.length)=true:=by kernel_rfl) (h1:(stV P (zN P n z)).cells = #[stV P (zN P n z)]:=by kernel_rfl) (h1':(stV P (zN P n z)).oneCell'=true:=by kernel_rfl) (ho:tV (zN P n z)=true:=by kernel_rfl):Gz P B z a w:=SL S k hkk next hx hf h1 h1' ho
theorem St.kK{l:List (Nat×Value)}(S:St w0 a w n l bl vs)(k:Nat){b:Nat}{A A':List Value}(hk:bl[k]?=some (b,A'):=by rfl)(hA:A'=A:=by kernel_rfl):Bx w b A.toArray:=hA▸S.bx k hk
theorem St.qM{l l':List (Nat×Value)}{IV:List (Nat×List Value)}(S:St w0 a w n l bl vs)(h:l'.map (λp=>l.lookup p.1)=l'.map (λp=>some p.2):=by kernel_rfl)(hb:bl=IV:=by kernel_rfl):St w0 a w n l' IV []:=hb▸S.sn h
theorem St.fl{l:List (Nat×Value)}{IV:List (Nat×List Value)}(S:St w0 a w n l bl vs)(h:bl=IV:=by first | (simp only[List.set_cons_zero,List.set_cons_succ]; exact I) | exact I):St w0 a w n l IV vs:=h▸S
end
end Go.Sx
end
theorem adr:type_of% @Go.Sx.zk:=@Go.Sx.zk
theorem apB:type_of% @Go.Sx.dn:=@Go.Sx.dn
theorem azm:type_of% @Go.Sx.zc:=@Go.Sx.zc
theorem azo:type_of% @Go.Sx.eU:=@Go.Sx.eU
theorem azp:type_of% @Go.Sx.ze:=@Go.Sx.ze
theorem azq:type_of% @Go.Sx.fU:=@Go.Sx.fU
theorem azs:type_of% @Go.Sx.dJ:=@Go.Sx.dJ
theorem azv:type_of% @Go.Sx.fJ:=@Go.Sx.fJ
theorem azw:type_of% @Go.Sx.zl:=@Go.Sx.zl
theorem azx:type_of% @Go.Sx.mg:=@Go.Sx.mg
theorem azy:type_of% @Go.Sx.zT:=@Go.Sx.zT
theorem azz:type_of% @Go.Sx.bV:=@Go.Sx.bV
theorem azB:type_of% @Go.Sx.dD:=@Go.Sx.dD
theorem azC:type_of% @Go.Sx.zrc:=@Go.Sx.zrc
theorem azD:type_of% @Go.Sx.eY:=@Go.Sx.eY
theorem azE:type_of% @Go.Sx.zF:=@Go.Sx.zF
theorem azF:type_of% @Go.Sx.qQ:=@Go.Sx.qQ
theorem azG:type_of% @Go.Sx.jB:=@Go.Sx.jB
theorem azH:type_of% @Go.Sx.zq:=@Go.Sx.zq
theorem azI:type_of% @Go.Sx.um:=@Go.Sx.um
theorem azJ:type_of% @Go.Sx.zs:=@Go.Sx.zs
theorem azN:type_of% @Go.Sx.Di:=@Go.Sx.Di
theorem aAQ:type_of% @Go.Sx.jX:=@Go.Sx.jX
