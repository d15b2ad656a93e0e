/- A region that draws its order, where some operations -/
import Derived.Test.YtodpgjjgaddkeaaGreatDoorPk7
import Derived.LoopN
set_option linter.unusedVariables false
set_option linter.unusedSimpArgs false
section
namespace Go.Sx
open Go.Proofs.YtodpgjjgaddkeaaGreatDoor Go.RowKit Go.Rel
def ES(Q:Exit→Act→World→Prop):Exit→Act→World→Prop
 | .normal,a,w=>Q .normal a w
 | _,_,_=>False
section
variable{P:Program}{ops ops':Array Oper}{Q:Exit→Act→World→Prop}{a:Act}{w:World}
theorem tC:¬LetsOut (ES Q):=fun⟨_,_,h⟩=>h
theorem afB{i:Nat}{K K':Act→World→Prop}(hK:∀a w,K a w→K' a w)(h:wpOp P ops (ES Q) i K a w):wpOp P ops Q i K' a w:=by
 unfold wpOp at *;split at h
 ·exact hK _ _ h
 split at h
 ·rename_i hw;rw[azI hw];rcases h with h | ⟨_,h⟩
  ·left;unfold Oper.wp at *;generalize (execOp a.eval _).run P w=r at *;cases r with
   | ok n w' =>
    cases n<;>simp only[Oper.upon]at h ⊢;case value u=>exact hK _ _ h
    case skip=>exact hK _ _ h
    case defer d=>exact hK _ _ h
    case enter f args =>
     refine Calls.mono h fun e w'' he=>?_;cases e with
     | returned u=>exact hK _ _ he
     | panicked c=>exact he.elim
     | outgrown=>exact(tC he).elim
    case row row args=>exact Rows.mono h fun u w'' he=>hK _ _ he
   | halt x w' =>
    cases x<;>simp only[Oper.upon]at h ⊢;case panic u=>exact h.elim
  exact(tC h).elim
 rename_i hw;rw[azG hw];exact hK _ _ h
theorem xX{md:Region.Mode}:∀(f:Nat) (listed:Array Bool) (a:Act) (w:World),wpAny P md ops (ES Q) f listed a w→wpAny P md ops Q f listed a w
 | 0,_,_,_,h=>⟨h.1,h.2⟩
 | f+1,_,_,_,h=>⟨fun h0=>h.1 h0,fun i hi=>afB (fun a w=>xX f _ a w) (h.2 i hi)⟩
def Alike(ops ops':Array Oper):Prop:=ops.size=ops'.size∧∀i:Nat,(ops[i]?).map (fun o:Oper=>(o.op,o.dst,o.guard,o.type,o.pos))=(ops'[i]?).map (fun o:Oper=>(o.op,o.dst,o.guard,o.type,o.pos))
theorem Alike.get(h:Alike ops ops'){i:Nat}{o':Oper}(hi:ops'[i]?=some o'):∃af,ops[i]?=some { o' with after:=af }:=by
 have:=h.2 i;rw[hi]at this;cases ho:ops[i]? with
 | none=>rw[ho]at this; cases this
 | some o =>
  rw[ho]at this;obtain⟨dst,op,type,pos,after,guard⟩:=o;obtain⟨dst',op',type',pos',after',guard'⟩:=o';simp only[aAv,azK,azP]at this;obtain⟨rfl,rfl,rfl,rfl,rfl⟩:=this;exact⟨after,rfl⟩
theorem Alike.none(h:Alike ops ops'){i:Nat}(hi:ops'[i]?=none):ops[i]?=none:=by
 have:=h.2 i;rw[hi]at this;cases ho:ops[i]? with
 | none=>rfl
 | some o=>rw[ho]at this; cases this
theorem Alike.yielded(h:Alike ops ops')(ts:Array Value):Go.yielded ops ts=Go.yielded ops' ts:=by
 funext j;unfold Go.yielded;have:=h.2 j;cases h1:ops[j]?<;>cases h2:ops'[j]?<;>rw[h1,h2]at this
 ·cases this
 ·cases this
 simp only[aAv,azK,azP]at this;simp only[aBB,this.2.1]
theorem Alike.exec{ρ:Operand→Value}{o:Oper}{af:Array Edge}:execOp ρ { o with after:=af }=execOp ρ o:=by
 obtain⟨dst,op,type,pos,after,guard⟩:=o;rfl
theorem Alike.wpOp(h:Alike ops ops'){i:Nat}{K K':Act→World→Prop}(hK:∀a w,K a w→K' a w)(hh:Go.wpOp P ops Q i K a w):Go.wpOp P ops' Q i K' a w:=by
 refine wpOp_mono hK ?_;unfold Go.wpOp at *;cases hi:ops'[i]? with
 | none=>rw[h.none hi]at hh; exact hh
 | some o' =>
  obtain⟨af,ho⟩:=h.get hi;rw[ho]at hh;simp only at hh ⊢;rw[h.yielded]at hh;have e1:Region.wanted { o' with after:=af }=Region.wanted o':=rfl;rw[e1]at hh;unfold Oper.wp Oper.asks at *;simp only[Alike.exec]at hh;exact hh
theorem Et{F:List Nat}(h:Alike ops ops')(hF:∀(i:Nat) (o o':Oper),ops[i]?=some o→ops'[i]?=some o'→∀e∈o.after,Region.binds .any e=true→e.on∈F∨∃e'∈o'.after,Region.binds .any e'=true∧e'.on=e.on)
  (hF':∀(i:Nat) (o o':Oper),ops[i]?=some o→ops'[i]?=some o'→∀e∈o'.after,Region.binds .any e=true→∃e'∈o.after,Region.binds .any e'=true∧e'.on=e.on) :
  ∀(f:Nat) (listed:Array Bool) (a:Act) (w:World),(∀i∈F,listed.getD i false=true)→wpAny P .any ops Q f listed a w→wpAny P .any ops' Q f listed a w:=by
 have hr:∀listed:Array Bool,(∀i∈F,listed.getD i false=true)→∀j,j∈Region.ready .any ops' listed↔j∈Region.ready .any ops listed:=by
  intro listed hl j;rw[mem_ready,mem_ready];constructor
  ·rintro⟨h0,o',ho',hall⟩;obtain⟨af,ho⟩:=h.get ho';refine⟨h0,_,ho,fun e he hb=>?_⟩;rcases hF j _ _ ho ho' e he hb with h1 | ⟨e',he',hb',heq⟩
   ·exact hl _ h1
   rw[←heq]; exact hall e' he' hb'
  rintro⟨h0,o,ho,hall⟩;cases ho':ops'[j]? with
  | none=>rw[h.none ho']at ho; cases ho
  | some o' =>
   refine⟨h0,o',rfl,fun e he hb=>?_⟩;obtain⟨e',he',hb',heq⟩:=hF' j _ _ ho ho' e he hb;rw[←heq]; exact hall e' he' hb'
 have hnil:∀listed:Array Bool,(∀i∈F,listed.getD i false=true)→(Region.ready .any ops' listed=[]↔Region.ready .any ops listed=[]):=fun listed hl=>by
  simp only[List.eq_nil_iff_forall_not_mem,hr listed hl]
 intro f;induction f with
 | zero=>exact fun listed a w hl hh=>⟨(hnil listed hl).2 hh.1,hh.2⟩
 | succ f ih =>
  exact fun listed a w hl hh=>⟨fun h0=>hh.1 ((hnil listed hl).1 h0),fun i hi=>h.wpOp (fun a w=>ih _ a w fun j hj=>getD_set_true (hl j hj)) (hh.2 i ((hr listed hl i).1 hi))⟩
def takeB(ops ops':Array Oper):List Nat→Array Bool→Bool
 | [],_=>true
 | p::F,listed=>(match ops[p]?,ops'[p]? with
  | some o,some o'=>(match o.op,o'.op,o.guard,o'.guard with | .move (.tmp x),.move (.tmp y),none,none=>x==y&&o.dst==o'.dst | _,_,_,_=>false)
  | _,_=>false)&&(Region.ready .any ops listed).contains p&&(Region.ready .any ops' listed).contains p&&Region.free .any ops' listed p&&takeB ops ops' F (listed.setIfInBounds p true)
theorem Uj{ρ:Operand→Value}{o:Oper}{x:Operand}(h:o.op = .move x)(w:World):(execOp ρ o).run P w = .ok (.value (ρ x)) w:=by
 unfold execOp; simp only[h]; rfl
theorem Uk(hs:Region.noSelect ops'=true)(G:∀(f:Nat) (listed:Array Bool) (a:Act) (w:World) (F:List Nat),(∀i∈F,listed.getD i false=true)→True){F0:List Nat}
  (hA:∀(f:Nat) (listed:Array Bool) (a:Act) (w:World),(∀i∈F0,listed.getD i false=true)→wpAny P .any ops (ES Q) f listed a w→wpAny P .any ops' (ES Q) f listed a w) :
  ∀(F:List Nat) (f:Nat) (listed:Array Bool) (a:Act) (w:World),takeB ops ops' F listed=true→(∀i∈F0,i∈F∨listed.getD i false=true)→wpAny P .any ops (ES Q) (f+F.length) listed a w→wpAny P .any ops' (ES Q) (f+F.length) listed a w
 | [],f,listed,a,w,_,hl,h=>hA _ _ _ _ (fun i hi=>(hl i hi).resolve_left (by simp)) h
 | p::F,f,listed,a,w,hb,hl,h=>by
  unfold takeB at hb
  simp only[azY]at hb
  obtain⟨⟨⟨⟨h1,h2⟩,h3⟩,h4⟩,h5⟩:=hb
  split at h1
  ·rename_i o o' ho ho'
   split at h1
   ·rename_i x y hx hy hg hg'
    simp only[azY,azU]at h1
    obtain⟨rfl,hd⟩:=h1
    rw[aAn,←aBD]at h ⊢
    have hp:p∈Region.ready .any ops listed:=by simpa using h2
    have hstep:=h.2 p hp
    unfold Go.wpOp at hstep
    rw[ho]at hstep
    simp only[Region.wanted,hg,if_true]at hstep
    have hstep2:wpAny P .any ops (ES Q) (f+F.length) (listed.setIfInBounds p true) (a.put o.dst (a.eval (.tmp x))) w:=by
     rcases hstep with hst | ⟨_,hst⟩
     ·unfold Oper.wp at hst
      rw[Uj hx]at hst
      exact hst
     ·exact(tC hst).elim
    refine wpAny_take (v:=a.eval (.tmp x)) ho' hs h4 h3 (fun c a w h=>h.elim) (.inl ⟨by simp[Region.wanted,hg'],fun w=>Uj hy w⟩) ?_
    rw[←hd]
    refine Uk hs G hA F f _ _ w h5 (fun i hi=>?_) hstep2
    rcases hl i hi with h6 | h6
    ·rcases azS.1 h6 with rfl | h6
     ·right
      have hlt:i<listed.size:=by
       have:=(mem_ready.1 hp).1
       by_cases h:i<listed.size
       ·exact h
       ·rw[Array.getD_eq_getD_getElem?,Array.getElem?_eq_none (by omega)]at this; cases this
      simp[Array.getD_eq_getD_getElem?,hlt]
     ·exact .inl h6
    ·exact .inr (getD_set_true h6)
   ·cases h1
  ·cases h1
end
def kG(F:List Nat)(t:Nat)(os:List Oper):List Oper:=os.modify t fun o=>{ o with after:=o.after++(F.map fun i=>({ on:=i,ground := .data }:Edge)).toArray }
def afC(F:List Nat)(t:Nat)(os:List Oper):Bool:=Region.noSelect os.toArray&&takeB (kG F t os).toArray os.toArray F (Array.replicate os.length false)&&decide (F.length≤os.length)
theorem tu{F:List Nat}{t:Nat}{os:List Oper}{i:Nat}:(kG F t os)[i]?=if i=t then (os[i]?).map (fun o=>{ o with after:=o.after++(F.map fun i=>({ on:=i,ground := .data }:Edge)).toArray })else os[i]?:=by
 unfold kG;rw[List.getElem?_modify];by_cases h:t=i
 ·subst h; simp
 rw[azG (fun e=>h e.symm)]; simp[h]
theorem hoist{P:Program}{Q:Exit→Act→World→Prop}{a:Act}{w:World}{os:List Oper}{id:Nat}(F:List Nat)(t:Nat)
  (h:wpAny P .any (kG F t os).toArray (ES Q) (kG F t os).toArray.size (Array.replicate (kG F t os).toArray.size false) a { w with drawn:=w.drawn+1 }) (hmo:P.follows .mixedOrders=true:=by kernel_rfl) (hb:afC F t os=true:=by kernel_rfl):(Code.region id os.toArray true).wp P Q a w:=by
 unfold afC at hb;simp only[azY,azW]at hb;obtain⟨⟨h1,h2⟩,h3⟩:=hb;have hlen:(kG F t os).length=os.length:=by unfold kG; simp
 refine aBJ hmo (xX _ _ _ _ ?_);have hsz:(kG F t os).toArray.size=os.toArray.size:=by simp[hlen]
 rw[hsz]at h;have hal:Alike (kG F t os).toArray os.toArray:=⟨hsz,fun i=>by
  rw[List.getElem?_toArray,List.getElem?_toArray,tu];split
  ·cases os[i]?<;>rfl
  rfl⟩
 have key:=Uk (P:=P) (Q:=Q) (ops:=(kG F t os).toArray) (ops':=os.toArray) h1 (fun _ _ _ _ _ _=>trivial) (F0:=F) (fun f listed a w hl hh=>Et (F:=F) hal (fun i o o' ho ho' e he hb=>?_) (fun i o o' ho ho' e he hb=>?_) f listed a w hl hh) F (os.length-F.length) (Array.replicate os.length false) a { w with drawn:=w.drawn+1 } (by simpa using h2) (fun i hi => .inl hi)
 ·rw[Nat.sub_add_cancel h3]at key;simpa using key (by simpa using h)
 ·rw[List.getElem?_toArray,tu]at ho;rw[List.getElem?_toArray]at ho';split at ho
  ·rw[ho']at ho;simp only[aAv,azK]at ho;subst ho;simp only[Array.mem_append,List.mem_toArray,az9]at he;rcases he with he | ⟨j,hj,rfl⟩
   ·exact .inr ⟨e,he,hb,rfl⟩
   exact .inl hj
  rw[ho']at ho; obtain rfl:=azR ho;exact .inr ⟨e,he,hb,rfl⟩
 rw[List.getElem?_toArray,tu]at ho;rw[List.getElem?_toArray]at ho';split at ho
 ·rw[ho']at ho;simp only[aAv,azK]at ho;subst ho;exact⟨e,by simp[he],hb,rfl⟩
 rw[ho']at ho; obtain rfl:=azR ho;exact⟨e,he,hb,rfl⟩
inductive KI where
  | code (c:Code)
  | blk (id:Nat)
  | rel (K:Act→World→Prop)
  | rd (n:Nat) (c:Code)
  | bot
def zp(P:Program)(B:Exit→Act→World→Prop):List KI→Exit→Act→World→Prop
  | []=>B
  | .code c::k=>Exit.then (c.wp P (zp P B k)) (zp P B k)
  | .blk id::k=>Exit.inBlock id (zp P B k)
  | .rel K::k=>Exit.then K (zp P B k)
  | .rd n c::k=>Exit.then (Code.rounds P c (zp P B k) n) (zp P B k)
  | .bot::k=>ES (zp P B k)
inductive Pos where
  | cd (c:Code) (k:List KI)
  | op (A:Array Oper) (os:List Oper) (k:List KI)
  | nm (k:List KI)
  | ex (id:Nat) (k:List KI)
  | rt (k:List KI)
def G(P:Program)(B:Exit→Act→World→Prop):Pos→Act→World→Prop
  | .cd c k=>c.wp P (zp P B k)
  | .op A os k=>wpList P A (zp P B k) os
  | .nm k=>zp P B k .normal
  | .ex id k=>zp P B k (.exit id)
  | .rt k=>zp P B k .ret
def nx1:Pos→Option Pos
  | .nm (.code c::k)=>some (.cd c k)
  | .nm (.blk _::k)=>some (.nm k)
  | .nm (.bot::k)=>some (.nm k)
  | .nm (.rd (n+1) c::k)=>some (.cd c (.rd n c::k))
  | .ex id (.code _::k)=>some (.ex id k)
  | .ex id (.rel _::k)=>some (.ex id k)
  | .ex id (.rd _ _::k)=>some (.ex id k)
  | .ex id (.blk j::k)=>(match Nat.beq id j with | true=>some (.nm k) | false=>some (.ex id k))
  | .rt (.code _::k)=>some (.rt k)
  | .rt (.blk _::k)=>some (.rt k)
  | .rt (.rel _::k)=>some (.rt k)
  | .rt (.rd _ _::k)=>some (.rt k)
  | .op _ [] k=>some (.nm k)
  | .cd .skip k=>some (.nm k)
  | .cd (.exit id) k=>some (.ex id k)
  | .cd .ret k=>some (.rt k)
  | .cd (.seq x y) k=>some (.cd x (.code y::k))
  | .cd (.block id c) k=>some (.cd c (.blk id::k))
  | .cd (.region _ ops false) k=>some (.op ops ops.toList k)
  | _=>none
def nx:Nat→Pos→Pos
  | 0,p=>p
  | f+1,p=>match nx1 p with | some q=>nx f q | none=>p
section
variable{P:Program}{B:Exit→Act→World→Prop}{a:Act}{w:World}
theorem al9{p q:Pos}(h:nx1 p=some q)(hG:G P B q a w):G P B p a w:=by
 unfold nx1 at h;split at h
 ·obtain rfl:=azR h; exact hG
 ·obtain rfl:=azR h; exact hG
 ·obtain rfl:=azR h; exact hG
 ·obtain rfl:=azR h; exact hG
 ·obtain rfl:=azR h; exact hG
 ·obtain rfl:=azR h; exact hG
 ·obtain rfl:=azR h; exact hG
 ·rename_i id j k;split at h
  ·rename_i hb;obtain rfl:=azR h;have e:id=j:=Nat.eq_of_beq_eq_true hb;show(if id=j then zp P B k .normal a w else zp P B k (.exit id) a w);rw[azI e]; exact hG
  rename_i hb;obtain rfl:=azR h;show(if id=j then zp P B k .normal a w else zp P B k (.exit id) a w);rw[azG (Nat.ne_of_beq_eq_false hb)]; exact hG
 ·obtain rfl:=azR h; exact hG
 ·obtain rfl:=azR h; exact hG
 ·obtain rfl:=azR h; exact hG
 ·obtain rfl:=azR h; exact hG
 ·obtain rfl:=azR h; exact hG
 ·obtain rfl:=azR h; exact aAi hG
 ·obtain rfl:=azR h; exact aAU hG
 ·obtain rfl:=azR h; exact wp_ret hG
 ·obtain rfl:=azR h; exact wp_seq hG
 ·obtain rfl:=azR h; exact aAC hG
 ·rename_i id ops k;obtain rfl:=azR h;have h2:wpList P ops.toList.toArray (zp P B k) ops.toList a w:=by rw[aB4]; exact hG
  have h3:=wp_region_lit (id:=id) h2;rw[aB4]at h3; exact h3
 cases h
theorem ai1:∀{f:Nat} {p:Pos},G P B (nx f p) a w→G P B p a w
  | 0,p,h=>h
  | f+1,p,h=>by
    unfold nx at h
    split at h
    · rename_i q hq; exact al9 hq (ai1 h)
    · exact h
end
abbrev Chk:=Env×List Oper×List Loc×List Key
def plainO(e:Env)(p:qg)(o:Oper):Bool:=
  match o.op with
  | .move _ | .assign _ | .nilCheck _ | .fieldAddr _ _ _ | .unOp _ _ _ | .makeFunc _ _ _ | .extract _ _ | .makeInterface _ _ | .build _ _ | .binOp _ _ _ _ _ | .pick _ _ _ | .load _ _ | .indexAddr _ _ _ | .index _ _ _ | .field _ _ _ | .slice _ _ _ _ _=>true
  | .convert _ _ x=>(match rd e p x with | some (.int _ _)=>true | _=>false)
  | .call c=>(match c.callee with | .builtin .len=>true | .builtin .max=>true | .builtin .min=>true | _=>false)
  | _=>false
def chunk(P:Program)(ms:List eX)(A:Array Oper)(n:Nat):Nat→List Oper→Env→List Key→Chk
  | 0,os,e,ks=>(e,os,[],ks)
  | _+1,[],e,ks=>(e,[],[],ks)
  | m+1,o::os,e,ks =>
    match pathOf A e o with
    | none=>(e,o::os,[],ks)
    | some p =>
      match plainO e p o with
      | false=>(e,o::os,[],ks)
      | true =>
        match xw n e o.dst p,Zd P ms e p ks o with
        | true,some (.val v,ks',L)=>(match chunk P ms A n m os (put e o.dst p v) ks' with | (e',os',L',k')=>(e',os',L++L',k'))
        | _,_=>(e,o::os,[],ks)
def settle(e:Env)(li:List Nat):List Nat→Env→List (Nat×Value)
  | _,[]=>[]
  | sn,(i,q,v)::r =>
    match sn.contains i with
    | true=>settle e li sn r
    | false=>(match q with
      | []=>(i,v)::settle e li sn r
      | _=>(match li.contains i with
        | true=>(match jF e q with | true=>(i,v)::settle e li sn r | false=>settle e li (i::sn) r)
        | false=>settle e li (i::sn) r))
structure Zt where
  p:Pos
  l:List (Nat×Value)
structure Zr where
  z:Zt
  L:List Loc
  ks:List Key
def zgo(P:Program)(ms:List eX)(n:Nat)(li:List Nat):Nat→Nat→Pos→List (Nat×Value)→List Key→Zr
  | 0,_,p,l,ks=>⟨⟨p,l⟩,[],ks⟩
  | f+1,m,p,l,ks =>
    match nx 100 p with
    | .op A os k =>
      (match chunk P ms A n m os (lift l) ks with
      | (e',[],L,k')=>(match zgo P ms n li f (m-os.length) (.nm k) (settle e' li [] e') k' with | ⟨z,L2,k2⟩=>⟨z,L++L2,k2⟩)
      | (e',o::os',L,k')=>⟨⟨.op A (o::os') k,settle e' li [] e'⟩,L,k'⟩)
    | .cd c k=>⟨⟨.cd c k,l⟩,[],ks⟩
    | .nm k=>⟨⟨.nm k,l⟩,[],ks⟩
    | .ex i k=>⟨⟨.ex i k,l⟩,[],ks⟩
    | .rt k=>⟨⟨.rt k,l⟩,[],ks⟩
section
variable{P:Program}{A:Array Oper}{ms:List eX}{Q:Exit→Act→World→Prop}{B:Exit→Act→World→Prop}{n:Nat}{w0 w:World}{bl:List (Nat×List Value)}{vs:List eX}{li:List Nat}
theorem chunk_ok:∀{m:Nat} {os:List Oper} {e:Env} {ks:List Key} {a:Act} {L':List Loc},a.tmps.size=n→Holds a.eval e→Mem w ms→(chunk P ms A n m os e ks).2.2.1++L'=ks.map (vT ms)→yF P ks →
    (∀a',a'.tmps.size=n→a'.defers=a.defers→Holds a'.eval (chunk P ms A n m os e ks).1→L'=(chunk P ms A n m os e ks).2.2.2.map (vT ms)→yF P (chunk P ms A n m os e ks).2.2.2→wpList P A Q (chunk P ms A n m os e ks).2.1 a' w)→wpList P A Q os a w
  | 0,os,e,ks,a,L',hsz,hh,hm,hL,hk,hn=>hn a hsz rfl hh (by simpa[chunk]using hL) hk
  | _+1,[],e,ks,a,L',hsz,hh,hm,hL,hk,hn=>hn a hsz rfl hh (by simpa[chunk]using hL) hk
  | m+1,o::os,e,ks,a,L',hsz,hh,hm,hL,hk,hn=>by
    have stop:chunk P ms A n (m+1) (o::os) e ks=(e,o::os,[],ks)→wpList P A Q (o::os) a w:=fun h=>by
      rw[h]at hL hn; exact hn a hsz rfl hh (by simpa using hL) hk
    cases hp:pathOf A e o with
    | none=>exact stop (by simp[chunk,hp])
    | some p =>
     cases hpl:plainO e p o with
     | false=>exact stop (by simp[chunk,hp,hpl])
     | true =>
      cases hpo:xw n e o.dst p with
      | false=>exact stop (by simp[chunk,hp,hpl,hpo])
      | true =>
        cases h1:Zd P ms e p ks o with
        | none=>exact stop (by simp[chunk,hp,hpl,h1])
        | some r =>
          obtain⟨r,ks',L1⟩:=r
          cases r with
          | enter f args=>exact stop (by simp[chunk,hp,hpl,h1])
          | new=>exact stop (by simp[chunk,hp,hpl,h1])
          | val v =>
            have hc:chunk P ms A n (m+1) (o::os) e ks=((chunk P ms A n m os (put e o.dst p v) ks').1,(chunk P ms A n m os (put e o.dst p v) ks').2.1,L1++(chunk P ms A n m os (put e o.dst p v) ks').2.2.1,(chunk P ms A n m os (put e o.dst p v) ks').2.2.2):=by
              simp[chunk,hp,hpo,hpl,h1]
            rw[hc]at hL hn
            simp only[az0]at hL hn
            have hw:=rP (a:=a) hp (fun x _ i y _ hl=>hh i y hl)
            obtain⟨hkl,hL2,hk2⟩:=vC h1 hL hk
            have go:∀u,u=den e (p,v)→wpList P A Q os (a.put o.dst u) w:=fun u hu =>
              chunk_ok (m:=m) (by rw[sU]; exact hsz) (DR hh hsz hpo hu) hm hL2 hk2 fun a' h2 h3 h4 h5 h6=>hn a' h2 (by rw[h3,put_defers]) h4 h5 h6
            unfold wpList
            by_cases hG:jF e p=true
            · rw[azI (hw.2 hG)]
              left
              exact Ul (DT h1 (Std.act a) (ig hh o) hG hm hkl) (go v (by simp[den,hG]))
            · rw[azG (fun h=>hG (hw.1 h))]
              exact go undef (by simp[den,hG])
theorem xA{e:Env}:∀{r:Env} {sn:List Nat} {i:Nat} {v:Value},(settle e li sn r).lookup i=some v→sn.contains i=false∧∃q,r.lookup i=some (q,v)∧jF e q=true
  | [],sn,i,v,h=>by cases h
  | (j,q,u)::r,sn,i,v,h=>by
    unfold settle at h
    have skip:∀{sn':List Nat},(settle e li sn' r).lookup i=some v→(∀x,sn'.contains x=false→sn.contains x=false∧x≠j)→sn.contains i=false∧∃q',((j,q,u)::r:Env).lookup i=some (q',v)∧jF e q'=true:=fun h hs=>by
      obtain⟨h1,q',h2,h3⟩:=xA h
      obtain⟨h4,h5⟩:=hs i h1
      refine⟨h4,q',?_,h3⟩
      rw[aAw]
      have:(i==j)=false:=by simpa using h5
      rw[this]; exact h2
    have keep:sn.contains j=false→jF e q=true→((j,u)::settle e li sn r).lookup i=some v→sn.contains i=false∧∃q',((j,q,u)::r:Env).lookup i=some (q',v)∧jF e q'=true:=fun hj hq h=>by
      rw[aAw]at h
      rw[aAw]
      cases hij:i==j
      · rw[hij]at h
        obtain⟨h1,q',h2,h3⟩:=xA h
        exact⟨h1,q',h2,h3⟩
      · rw[hij]at h
        obtain rfl:=azR h
        have:i=j:=by simpa using hij
        exact⟨this▸hj,q,rfl,hq⟩
    have Ze:∀x,(j::sn).contains x=false→sn.contains x=false∧x≠j:=fun x hx=>by
      simp only[List.contains_cons,aAz,az8]at hx
      exact⟨hx.2,hx.1⟩
    cases hj:sn.contains j with
    | true =>
      simp only[hj]at h
      refine skip h fun x hx=>⟨hx,fun e=>?_⟩
      rw[e,hj]at hx; cases hx
    | false =>
      simp only[hj]at h
      cases q with
      | nil=>exact keep hj rfl h
      | cons c q =>
        simp only at h
        cases hl:li.contains j with
        | false=>simp only[hl]at h; exact skip h Ze
        | true =>
          simp only[hl]at h
          cases hg:jF e (c::q)with
          | false=>simp only[hg]at h; exact skip h Ze
          | true=>simp only[hg]at h; exact keep hj hg h
theorem MQ{a:Act}{e:Env}(hsz:a.tmps.size=n)(hd:a.defers=[])(hh:Holds a.eval e):Vp.St a n (settle e li [] e):=
  ⟨hsz,hd,fun i v h=>by
    obtain⟨-,q,h1,h2⟩:=xA h
    rw[hh i _ h1]
    unfold den
    simp only[h2,cond_true]⟩
theorem PN(hm:Mem w ms):∀{f m:Nat} {p:Pos} {l:List (Nat×Value)} {ks:List Key} {a:Act} {L':List Loc},St w0 a w n l bl vs→(zgo P ms n li f m p l ks).L++L'=ks.map (vT ms)→yF P ks →
    (∀a',St w0 a' w n (zgo P ms n li f m p l ks).z.l bl vs→G P B (zgo P ms n li f m p l ks).z.p a' w)→G P B p a w
  | 0,m,p,l,ks,a,L',S,hL,hk,hn=>hn a S
  | f+1,m,p,l,ks,a,L',S,hL,hk,hn=>by
    refine ai1 (f:=100) ?_
    unfold zgo at hL hn
    cases hp:nx 100 p with
    | op A os k =>
      simp only[hp]at hL hn
      refine chunk_ok (m:=m) (ms:=ms) (n:=n) (e:=lift l) (ks:=ks) (L':=(match chunk P ms A n m os (lift l) ks with | (e',[],L,k')=>(zgo P ms n li f (m-os.length) (.nm k) (settle e' li [] e') k').L | _=>[])++L') S.s.size (bY S.s) hm ?_ hk ?_
      · revert hL
        rcases chunk P ms A n m os (lift l) ks with ⟨e',_ | ⟨o,os'⟩,L,k'⟩
        · intro hL; simpa[az0]using hL
        · intro hL; simpa using hL
      · intro a' hsz hd hh
        have hd':a'.defers=[]:=by rw[hd,S.s.defers]
        revert hn hh
        rcases chunk P ms A n m os (lift l) ks with ⟨e',_ | ⟨o,os'⟩,L,k'⟩
        · intro hn hh hL2 hk2
          exact PN hm (f:=f) (m:=m-os.length) (p := .nm k) (S.act (MQ hsz hd' hh)) hL2 hk2 hn
        · intro hn hh _ _
          exact hn a' (S.act (MQ hsz hd' hh))
    | cd c k=>simp only[hp]at hL hn; exact hn a S
    | nm k=>simp only[hp]at hL hn; exact hn a S
    | ex i k=>simp only[hp]at hL hn; exact hn a S
    | rt k=>simp only[hp]at hL hn; exact hn a S
end
theorem ahS{P:Program}{ms:List eX}{e:Env}{p:qg}{ks':List Key}{o:Oper}{r:EP}{L:List Loc}(h:Zd P ms e p [] o=some (r,ks',L)):ks'=[]∧L=[]:=by
 rcases xY h with h | ⟨d,v,h,_⟩
 ·unfold evR at h;cases h1:ev1 P ms e p [] o with
  | none=>simp[h1]at h
  | some r1 =>
   simp only[h1,azK]at h;obtain⟨r1,k1,L1⟩:=r1;obtain⟨kl,hkl,hl⟩:=XF h1;have hk1:k1=[]:=(List.append_eq_nil_iff.1 hkl.symm).2;have avl:kl=[]:=(List.append_eq_nil_iff.1 hkl.symm).1;subst hk1 avl;have hL1:L1=[]:=aAZ (by simpa using hl);subst hL1;rcases xZ o.dst (r1,[],[])with h2 | ⟨v,d',x,u,ks2,L2,h2,h3⟩
   ·rw[h2]at h;simp only[azP]at h;exact⟨h.2.1.symm,h.2.2.symm⟩
   simp at h2
 cases h
section
variable{P:Program}{A:Array Oper}{ms:List eX}{n:Nat}{li:List Nat}
theorem MR:∀{m:Nat} {os:List Oper} {e:Env},(chunk P ms A n m os e []).2.2=([],[])
  | 0,os,e=>rfl
  | _+1,[],e=>rfl
  | m+1,o::os,e=>by
    unfold chunk
    split
    · rfl
    · rename_i p _
      split
      · rfl
      split
      · rename_i v ks' L _ h
        obtain⟨rfl,rfl⟩:=ahS h
        have:=MR (m:=m) (os:=os) (e:=put e o.dst p v)
        simp only[Prod.ext_iff]at this ⊢
        exact⟨by simpa using this.1,this.2⟩
      · rfl
theorem PO:∀{f m:Nat} {p:Pos} {l:List (Nat×Value)},(zgo P ms n li f m p l []).L=[]∧(zgo P ms n li f m p l []).ks=[]
  | 0,m,p,l=>⟨rfl,rfl⟩
  | f+1,m,p,l=>by
    unfold zgo
    split
    · rename_i A os k _
      have h:=MR (P:=P) (A:=A) (ms:=ms) (n:=n) (m:=m) (os:=os) (e:=lift l)
      revert h
      rcases chunk P ms A n m os (lift l) []with ⟨e',_ | ⟨o,os'⟩,L,k'⟩
      · intro h
        simp only[azP]at h
        obtain⟨rfl,rfl⟩:=h
        have:=PO (f:=f) (m:=m-os.length) (p := .nm k) (l:=settle e' li [] e')
        exact⟨by simpa using this.1,this.2⟩
      · intro h
        simp only[azP]at h
        exact⟨h.1,h.2⟩
    all_goals exact⟨rfl,rfl⟩
end
def Gz(P:Program)(B:Exit→Act→World→Prop)(z:Zt)(a:Act)(w:World):Prop:=G P B z.p a w
def zR(P:Program)(n:Nat)(bl:List (Nat×List Value))(vs:List eX)(m:Nat)(li:List Nat)(ks:List Key)(z:Zt):Zr:=zgo P (jG bl vs) n li 60 m z.p z.l ks
def zn(P:Program)(n:Nat)(bl:List (Nat×List Value))(vs:List eX)(m:Nat)(li:List Nat)(ks:List Key)(z:Zt):Zt:=(zR P n bl vs m li ks z).z
def zN(P:Program)(n:Nat)(z:Zt):Zt:=zn P n [] [] 999 [] [] z
def zM(P:Program)(n:Nat)(z:Zt):Zt:=zn P n [] [] 0 [] [] z
def oH(z:Zt):List Oper:=match z.p with | .op _ os _=>os | _=>[]
def zA(z:Zt):Array Oper:=match z.p with | .op A _ _=>A | _ => #[]
def zK(z:Zt):List KI:=match z.p with | .op _ _ k=>k | .cd _ k=>k | .nm k=>k | .ex _ k=>k | .rt k=>k
def zC(z:Zt):Code:=match z.p with | .cd c _=>c | _ => .skip
def tY(z:Zt):Bool:=match z.p with | .op _ _ _=>true | _=>false
def D6(m:Nat):Pos→Pos
  | .op A os k => .op A (os.drop m) k
  | .cd (.region _ ops true) k => .op ops (ops.toList.drop m) k
  | p=>p
def EJ(m:Nat)(new:List (Nat×Value))(z:Zt):Zt:=⟨D6 m z.p,new++z.l⟩
def zsk(z:Zt):Zt:=⟨D6 1 z.p,z.l⟩
def lD(z:Zt):Option Nat:=match oH z with | o::_=>o.dst | []=>none
def vS(v:Value)(z:Zt):Zt:=⟨D6 1 z.p,yB z.l (lD z) v⟩
def z0(fn:Func)(args:List Value):Zt:=⟨.cd (fn.body.getD .skip) [],(List.range args.length).zip args⟩
section
variable{P:Program}{B:Exit→Act→World→Prop}{n:Nat}{w0 w:World}{a:Act}{bl:List (Nat×List Value)}{vs:List eX}{z:Zt}
theorem zk(S:St w0 a w n z.l bl vs)(m:Nat)(li:List Nat)(ks:List Key)(next:∀{a'},St w0 a' w n (zn P n bl vs m li ks z).l bl vs→Gz P B (zn P n bl vs m li ks z) a' w)(hk:yF P ks:=by exact trivial)
    (hz:((zR P n bl vs m li ks z).L,(zR P n bl vs m li ks z).ks)=(ks.map (vT (jG bl vs)),[]):=by kernel_rfl):Gz P B z a w:=by
 simp only[azP]at hz;refine PN S.Jo (B:=B) (li:=li) (f:=60) (m:=m) (ks:=ks) (L':=[]) S ?_ hk fun a'=>next;rw[aAL]; exact hz.1
theorem tZ(S:St w0 a w n z.l bl vs)(next:∀{a'},St w0 a' w n (zN P n z).l bl vs→Gz P B (zN P n z) a' w):Gz P B z a w:=
  PN (ms:=jG [] []) (fun m h=>by cases h) (B:=B) (li:=[]) (f:=60) (m:=999) (ks:=[]) (L':=[]) S (by rw[PO.1]; rfl) trivial fun a'=>next
theorem ap6(S:St w0 a w n z.l bl vs)(next:∀{a'},St w0 a' w n (zM P n z).l bl vs→Gz P B (zM P n z) a' w):Gz P B z a w:=
  PN (ms:=jG [] []) (fun m h=>by cases h) (B:=B) (li:=[]) (f:=60) (m:=0) (ks:=[]) (L':=[]) S (by rw[PO.1]; rfl) trivial fun a'=>next
theorem zop{z:Zt}(ho:tY z=true)(h:wpList P (zA z) (zp P B (zK z)) (oH z) a w):Gz P B z a w:=by
 obtain⟨p,l⟩:=z;cases p with
 | op A os k=>exact h
 | _=>cases ho
theorem IE{z:Zt}{m:Nat}{l:List (Nat×Value)}(ho:tY z=true)(h:G P B (D6 m z.p) a w):wpList P (zA z) (zp P B (zK z)) ((oH z).drop m) a w:=by
 obtain⟨p,l⟩:=z;cases p with
 | op A os k=>exact h
 | _=>cases ho
theorem ze{f:FuncId}{fn:Func}{args:List Value}{R:Ending→World→Prop}{n:Nat}(hf:P.funcs[f]?=some fn)(hn:fn.ntmps=n)(next:∀{a},St w a w n (z0 fn args).l [] []→Gz P (bodyPost P fn R) (z0 fn args) a w)
    (hb:fn.body.isSome=true:=by rfl) (hsz:decide (args.length≤n)=true:=by kernel_rfl):Calls P f args.toArray w R:=by
 obtain⟨c,hc⟩:=aAN.1 hb;refine enter hf hn (fun a S=>?_) hc hsz;have:=next (a:=a) S;unfold Gz z0 at this;rw[hc]at this;exact this
theorem bQ(S:St w0 a w n z.l bl vs){f:FuncId}{args:Array Value}{R:Ending→World→Prop}(hc:Calls P f args w R)
    (next:∀e w',R e w'→∃v,e = .returned v∧Ext w w'∧∀{a'},St w0 a' w' n (vS v (zN P n z)).l bl vs→Gz P B (vS v (zN P n z)) a' w')
    (hx:callOf P (oH (zN P n z)) (zN P n z).l=some (f,args,lD (zN P n z)):=by kernel_rfl) (ho:(tY (zN P n z)&&vG n (lD (zN P n z)))=true:=by kernel_rfl):Gz P B z a w:=by
 simp only[azY]at ho;refine tZ S fun S=>zop ho.1 (jI S _ hc (fun e w' hR=>?_) hx ho.2);obtain⟨v,h1,h2,h3⟩:=next e w' hR;exact⟨v,h1,h2,fun a' S'=>IE (m:=1) (l:=[]) ho.1 (h3 S')⟩
theorem zq(S:St w0 a w n z.l bl vs){f:FuncId}{args:Array Value}{F:Value→World→Prop}(hc:Calls P f args w fun e w'=>∃v,e = .returned v∧F v w'∧Ext w w')
    (next:∀{a'} v w',F v w'→Ext w w'→St w0 a' w' n (vS v (zN P n z)).l bl vs→Gz P B (vS v (zN P n z)) a' w')
    (hx:callOf P (oH (zN P n z)) (zN P n z).l=some (f,args,lD (zN P n z)):=by kernel_rfl) (ho:(tY (zN P n z)&&vG n (lD (zN P n z)))=true:=by kernel_rfl):Gz P B z a w:=
  bQ S hc (fun e w' h=>by obtain⟨v,rfl,h1,h2⟩:=h; exact⟨v,rfl,h2,fun{_} S=>next v w' h1 h2 S⟩) hx ho
theorem dA(S:St w0 a w n z.l bl vs){f:FuncId}{args:Array Value}{V:Value}(hc:Calls P f args w fun e w'=>e = .returned V∧Ext w w')
    (next:∀{a'} w',Ext w w'→St w0 a' w' n (vS V (zN P n z)).l bl vs→Gz P B (vS V (zN P n z)) a' w')
    (hx:callOf P (oH (zN P n z)) (zN P n z).l=some (f,args,lD (zN P n z)):=by kernel_rfl) (ho:(tY (zN P n z)&&vG n (lD (zN P n z)))=true:=by kernel_rfl):Gz P B z a w:=
  bQ S hc (fun e w' h=>⟨V,h.1,h.2,fun S=>next w' h.2 S⟩) hx ho
theorem lU(S:St w0 a w n z.l bl vs){f:FuncId}{args:Array Value}{V:Value}(hc:Calls P f args w fun e w'=>e = .returned V∧w=w')
    (next:∀{a'},St w0 a' w n (vS V (zN P n z)).l bl vs→Gz P B (vS V (zN P n z)) a' w)
    (hx:callOf P (oH (zN P n z)) (zN P n z).l=some (f,args,lD (zN P n z)):=by kernel_rfl) (ho:(tY (zN P n z)&&vG n (lD (zN P n z)))=true:=by kernel_rfl):Gz P B z a w:=
  bQ S hc (fun e w' h=>by obtain⟨h1,rfl⟩:=h; exact⟨V,h1,Ext.rfl',fun S=>next S⟩) hx ho
theorem zH(S:St w0 a w n z.l bl vs)(k:Nat){f:FuncId}{args:Array Value}{b:Nat}{A:List Value}(A':List Value){R:Ending→World→Prop}(hkk:bl[k]?=some (b,A))(hc:Calls P f args w R)
    (next:∀e w',R e w'→∃v,e = .returned v∧Ext w0 w'∧Ch b w w'∧Bx w' b A'.toArray∧∀{a'},St w0 a' w' n (vS v (zN P n z)).l (bl.set k (b,A')) vs→Gz P B (vS v (zN P n z)) a' w')
    (hx:callOf P (oH (zN P n z)) (zN P n z).l=some (f,args,lD (zN P n z)):=by kernel_rfl) (ho:(tY (zN P n z)&&vG n (lD (zN P n z)))=true:=by kernel_rfl):Gz P B z a w:=by
 simp only[azY]at ho;refine tZ S fun S=>zop ho.1 (aik S k A' _ hkk hc (fun e w' hR=>?_) hx ho.2);obtain⟨v,h1,h2,h4,h5,h3⟩:=next e w' hR;exact⟨v,h1,h2,h4,h5,fun a' S'=>IE (m:=1) (l:=[]) ho.1 (h3 S')⟩
def newV(P:Program)(r:Nat)(z:Zt):Value:=match EF P r (oH z) z.l with | some x=>x.2.1 | none=>undef
def ama(P:Program)(r:Nat)(z:Zt):Option (List Value×Option Nat):=match EF P r (oH z) z.l with | some x=>some (x.1,x.2.2) | none=>none
theorem dG(S:St w0 a w n z.l bl vs)(A:List Value)(next:∀{a'} w' b,Ext w w'→b=w.heap.size→St w0 a' w' n (vS (newV P b (zN P n z)) (zN P n z)).l ((b,A)::bl) vs→Gz P B (vS (newV P b (zN P n z)) (zN P n z)) a' w')
    (hx:∀r,ama P r (zN P n z)=some (A,lD (zN P n z)):=by intro r; kernel_rfl) (ho:(tY (zN P n z)&&(vG n (lD (zN P n z))&&(lD (zN P n z)).isSome))=true:=by kernel_rfl):Gz P B z a w:=by
 simp only[azY]at ho;refine tZ S fun S=>zop ho.1 ?_;obtain⟨d,hd⟩:=aAN.1 ho.2.2;refine new S d A (fun r=>newV P r (zN P n z)) (fun a' w' b hE hb S'=>IE (m:=1) (l:=[]) ho.1 ?_) (fun r=>?_) (by rw[←hd]; exact ho.2.1)
 ·refine next w' b hE hb ?_;show St w0 a' w' n (yB _ (lD (zN P n z)) _) _ _;rw[hd]; exact S'
 have:=hx r;unfold ama at this;unfold newV;rw[←hd];cases h:EF P r (oH (zN P n z)) (zN P n z).l with
 | none=>rw[h]at this; cases this
 | some x =>
  rw[h]at this;simp only[azK,azP]at this;simp only[azK];obtain⟨x1,x2,x3⟩:=x;simp only at this;rw[this.1,this.2]
theorem lX(S:St w0 a w n z.l bl vs)(k:Nat){b off:Nat}{A cs:List Value}(hkk:bl[k]?=some (b,A))(next:∀{a'} w',Ch b w w'→St w0 a' w' n (zsk (zN P n z)).l (bl.set k (b,spl A off cs)) vs→Gz P B (zsk (zN P n z)) a' w')
    (hx:lq P (oH (zN P n z)) (zN P n z).l=some (b,off,.agg cs.toArray,cs.length):=by kernel_rfl) (hf:decide (off+cs.length≤A.length)=true:=by kernel_rfl) (h1:cs.all (·.oneCell')=true:=by kernel_rfl) (ho:tY (zN P n z)=true:=by kernel_rfl):Gz P B z a w:=
  tZ S fun S=>zop ho (store S k hkk (fun w' hc S'=>IE (m:=1) (l:=[]) ho (next w' hc S')) hx hf h1)
theorem RX(S:St w0 a w n z.l bl vs)(k:Nat){b off:Nat}{A:List Value}{v:Value}(hkk:bl[k]?=some (b,A))(next:∀{a'} w',Ch b w w'→St w0 a' w' n (zsk (zN P n z)).l (bl.set k (b,spl A off [v])) vs→Gz P B (zsk (zN P n z)) a' w')
    (hx:lq P (oH (zN P n z)) (zN P n z).l=some (b,off,v,1):=by kernel_rfl) (hf:decide (off<A.length)=true:=by kernel_rfl) (h1:v.cells = #[v]:=by kernel_rfl) (h1':v.oneCell'=true:=by kernel_rfl) (ho:tY (zN P n z)=true:=by kernel_rfl):Gz P B z a w:=
  tZ S fun S=>zop ho (store1 S k hkk (fun w' hc S'=>IE (m:=1) (l:=[]) ho (next w' hc S')) hx hf h1 h1')
def Zf(z:Zt):Option Value:=match z.p with | .cd (.cond c _ _) _=>Vp.ev z.l c | _=>none
def zth(z:Zt):Zt:=match z.p with | .cd (.cond _ x _) k=>⟨.cd x k,z.l⟩ | _=>z
def zel(z:Zt):Zt:=match z.p with | .cd (.cond _ _ y) k=>⟨.cd y k,z.l⟩ | _=>z
theorem zc(S:St w0 a w n z.l bl vs)(t:Bool)(ht:∀{a'},t=true→St w0 a' w n (zth (zN P n z)).l bl vs→Gz P B (zth (zN P n z)) a' w)(hf:∀{a'},t=false→St w0 a' w n (zel (zN P n z)).l bl vs→Gz P B (zel (zN P n z)) a' w)
    (hc:Zf (zN P n z)=some (.bool t):=by kernel_rfl):Gz P B z a w:=by
 refine tZ S fun{a'} S=>?_;revert ht hf hc S;generalize zN P n z=z1;intro ht hf hc S;obtain⟨p,l⟩:=z1;unfold Zf at hc;split at hc
 ·rename_i c x y k hp;simp only at hp;subst hp;exact cond S (fun h=>ht h S) (fun h=>hf h S) hc
 cases hc
theorem zT(S:St w0 a w n z.l bl vs)(h:∀{a'},St w0 a' w n (zth (zN P n z)).l bl vs→Gz P B (zth (zN P n z)) a' w)(hc:Zf (zN P n z)=some (.bool true):=by kernel_rfl):Gz P B z a w:=zc S true (fun _ S=>h S) (fun h=>by cases h) hc
theorem zF(S:St w0 a w n z.l bl vs)(h:∀{a'},St w0 a' w n (zel (zN P n z)).l bl vs→Gz P B (zel (zN P n z)) a' w)(hc:Zf (zN P n z)=some (.z):=by kernel_rfl):Gz P B z a w:=zc S false (fun h=>by cases h) (fun _ S=>h S) hc
def XG(z:Zt):Bool:=match z.p with | .rt []=>true | _=>false
theorem zrt{z:Zt}{fn:Func}{R:Ending→World→Prop}(hr:XG z=true)(h:bodyPost P fn R .ret a w):Gz P (bodyPost P fn R) z a w:=by
 obtain⟨p,l⟩:=z;unfold XG at hr;split at hr
 ·rename_i hp; simp only at hp; subst hp; exact h
 cases hr
section
variable{fn:Func}{R:Ending→World→Prop}
def resT(fn:Func)(i:Nat):Nat:=match fn.results[i]? with | some (.tmp t)=>t | some (.cell t _)=>t | none=>0
def resTy(fn:Func)(i:Nat):TypeId:=match fn.results[i]? with | some (.cell _ ty)=>ty | _=>0
theorem dn(S:St w0 a w n z.l bl vs)(v:Value)(h:∀{a'},St w0 a' w n (zN P n z).l bl vs→R (.returned v) w)(hr:fn.results = #[.tmp (resT fn 0)]:=by kernel_rfl)
    (hv:Vp.ev (zN P n z).l (.tmp (resT fn 0))=some v:=by kernel_rfl) (ho:XG (zN P n z)=true:=by kernel_rfl):Gz P (bodyPost P fn R) z a w:=
  tZ S fun S=>zrt ho (OG S hr (h S) hv)
theorem QJ(S:St w0 a w n z.l bl vs)(v u:Value)(h:∀{a'},St w0 a' w n (zN P n z).l bl vs→R (.returned (.tuple #[v,u])) w)(hr:fn.results = #[.tmp (resT fn 0),.tmp (resT fn 1)]:=by kernel_rfl)
    (hv:Vp.ev (zN P n z).l (.tmp (resT fn 0))=some v:=by kernel_rfl) (hu:Vp.ev (zN P n z).l (.tmp (resT fn 1))=some u:=by kernel_rfl) (ho:XG (zN P n z)=true:=by kernel_rfl):Gz P (bodyPost P fn R) z a w:=
  tZ S fun S=>zrt ho (J5 S hr (h S) hv hu)
theorem zrc(S:St w0 a w n z.l bl vs)(k:Nat){b:Nat}{A:List Value}{v:Value}(hkk:bl[k]?=some (b,A))(h:∀{a'},St w0 a' w n (zN P n z).l bl vs→R (.returned v) w)(hr:fn.results = #[.cell (resT fn 0) (resTy fn 0)]:=by kernel_rfl)
    (hv:Vp.ev (zN P n z).l (.tmp (resT fn 0))=some (.q b 0):=by kernel_rfl) (hl:PZ P (resTy fn 0) A=some v:=by kernel_rfl) (ho:XG (zN P n z)=true:=by kernel_rfl):Gz P (bodyPost P fn R) z a w:=
  tZ S fun S=>zrt ho (akQ S k hr hkk (h S) hv hl)
theorem Jc(S:St w0 a w n z.l bl vs)(k:Nat){b:Nat}{A:List Value}{v u:Value}(hkk:bl[k]?=some (b,A))(h:∀{a'},St w0 a' w n (zN P n z).l bl vs→R (.returned (.tuple #[v,u])) w)(hr:fn.results = #[.cell (resT fn 0) (resTy fn 0),.tmp (resT fn 1)]:=by kernel_rfl)
    (hv:Vp.ev (zN P n z).l (.tmp (resT fn 0))=some (.q b 0):=by kernel_rfl) (hu:Vp.ev (zN P n z).l (.tmp (resT fn 1))=some u:=by kernel_rfl) (hl:PZ P (resTy fn 0) A=some v:=by kernel_rfl) (ho:XG (zN P n z)=true:=by kernel_rfl):Gz P (bodyPost P fn R) z a w:=
  tZ S fun S=>zrt ho (ap7 S k hr hkk (h S) hv hu hl)
theorem zre(S:St w0 a w n z.l bl vs)(h:∀{a'},St w0 a' w n (zN P n z).l bl vs→bodyPost P fn R .ret a' w)(ho:XG (zN P n z)=true:=by kernel_rfl):Gz P (bodyPost P fn R) z a w:=tZ S fun S=>zrt ho (h S)
end
def ap8(z:Zt):Code:=match z.p with | .cd (.loop c) _=>c | _ => .skip
def ahT(z:Zt):Bool:=match z.p with | .cd (.loop _) _=>true | _=>false
theorem vK{ι:Type}(S:St w0 a w n z.l bl vs)(I:ι→Act→World→Prop)(μ:ι→Nat)(i0:ι)(h0:∀{a'},St w0 a' w n (zN P n z).l bl vs→I i0 a' w)
    (round:∀i a w (K:Act→World→Prop),(∀a' w' i',I i' a' w'→μ i'<μ i→K a' w')→I i a w→G P B (.cd (ap8 (zN P n z)) (.rel K::zK (zN P n z))) a w) (ho:ahT (zN P n z)=true:=by kernel_rfl):Gz P B z a w:=by
 refine tZ S fun{a'} S=>?_;revert h0 round ho S;generalize zN P n z=z1;intro h0 round ho S;obtain⟨p,l⟩:=z1;unfold ahT at ho;split at ho
 ·rename_i c k hp;simp only at hp;subst hp;exact Vp.loop I μ i0 (h0 S) fun i a w hI=>round i a w _ (fun a' w' i' h1 h2=>⟨i',h1,h2⟩) hI
 cases ho
def zrd(m:Nat)(z:Zt):Zt:=match z.p with | .cd (.loop c) k=>⟨.cd c (.rd m c::k),z.l⟩ | _=>z
theorem Z5(S:St w0 a w n z.l bl vs)(m:Nat)(h:∀{a'},St w0 a' w n (zrd m (zN P n z)).l bl vs→Gz P B (zrd m (zN P n z)) a' w)(ho:ahT (zN P n z)=true:=by kernel_rfl):Gz P B z a w:=by
 refine tZ S fun{a'} S=>?_;revert h ho S;generalize zN P n z=z1;intro h ho S;obtain⟨p,l⟩:=z1;unfold ahT at ho;split at ho
 ·rename_i c k hp;simp only at hp;subst hp;exact wp_loop_rounds (m+1) (h S)
 cases ho
theorem zs{p:Pos}{l:List (Nat×Value)}(S:St w0 a w n l bl vs)(h:St w0 a w n (⟨p,l⟩:Zt).l bl vs→Gz P B ⟨p,l⟩ a w):G P B p a w:=h S
def ap9(z:Zt):Option (Act→World→Prop):=match z.p with | .nm (.rel K::_)=>some K | _=>none
theorem jZ(S:St w0 a w n z.l bl vs)(K:Act→World→Prop)(h:∀{a'},St w0 a' w n (zN P n z).l bl vs→K a' w)(ho:ap9 (zN P n z)=some K:=by kernel_rfl):Gz P B z a w:=by
 refine tZ S fun{a'} S=>?_;revert h ho S;generalize zN P n z=z1;intro h ho S;obtain⟨p,l⟩:=z1;unfold ap9 at ho;split at ho
 ·rename_i K' k hp;simp only at hp;subst hp;obtain rfl:=azR ho;exact h S
 cases ho
theorem jT(S:St w0 a w n z.l bl vs)(k:Nat)(ks:List Key)(cl:List Cl)(new:List (Nat×Value))(hO:Obl P w cl)(next:∀{a'} w',Ext w w'→St w0 a' w' n (EJ k new (zM P n z)).l bl vs→Gz P B (EJ k new (zM P n z)) a' w')(hk:yF P ks:=by exact trivial)
    (hx:runs P (jG bl vs) (zA (zM P n z)) n ((oH (zM P n z)).take k) (zM P n z).l ks (cl.map (·.2.2.2)) new=wants (jG bl vs) ks cl new:=by kernel_rfl) (hs:rQ ((oH (zM P n z)).take k) (zM P n z).l new=true:=by kernel_rfl) (ho:tY (zM P n z)=true:=by kernel_rfl):Gz P B z a w:=
  ap6 S fun S=>zop ho (ade S k ks cl new hO (fun a' w' hE S'=>IE (m:=k) (l:=[]) ho (next w' hE S')) hk hx hs)
def zy(z:Zt):List Oper:=match z.p with | .cd (.region _ ops true) _=>ops.toList | _=>[]
def GY(z:Zt):Bool:=match z.p with | .cd (.region _ _ true) _=>true | _=>false
theorem zdr{z:Zt}(ho:GY z=true)(h:∀id,(Code.region id (zy z).toArray true).wp P (zp P B (zK z)) a w):Gz P B z a w:=by
 obtain⟨p,l⟩:=z;unfold GY at ho;split at ho
 ·rename_i id ops k hp;simp only at hp;subst hp;have:=h id;unfold zy at this;rw[aB4]at this;exact this
 cases ho
theorem agn{z:Zt}{m:Nat}(ho:GY z=true)(h:G P B (D6 m z.p) a w):wpList P (zy z).toArray (zp P B (zK z)) ((zy z).drop m) a w:=by
 obtain⟨p,l⟩:=z;unfold GY at ho;split at ho
 ·rename_i id ops k hp;simp only at hp;subst hp;unfold zy;rw[aB4];exact h
 cases ho
theorem fF(S:St w0 a w n z.l bl vs)(m:Nat)(ks:List Key)(cl:List Cl)(new:List (Nat×Value))(hO:Obl P w cl)(next:∀{a'} w',Ext w w'→St w0 a' w' n (EJ m new (zN P n z)).l bl vs→Gz P B (EJ m new (zN P n z)) a' w')(hk:yF P ks:=by exact trivial)
    (hx:runs P (jG bl vs) (zy (zN P n z)).toArray n ((zy (zN P n z)).take m) (zN P n z).l ks (cl.map (·.2.2.2)) new=wants (jG bl vs) ks cl new:=by kernel_rfl) (hs:rQ ((zy (zN P n z)).take m) (zN P n z).l new=true:=by kernel_rfl)
    (hmo:P.follows .mixedOrders=true:=by kernel_rfl) (hB:okB (zy (zN P n z)).toArray m n=true:=by kernel_rfl) (hD:rU (zy (zN P n z)).toArray ((zy (zN P n z)).take m)=true:=by kernel_rfl) (ho:GY (zN P n z)=true:=by kernel_rfl):Gz P B z a w:=
  tZ S fun S=>zdr ho fun id=>draw S m ks cl new hO (fun a' w' hE S'=>agn (m:=m) ho (next w' hE S')) hk hx hs hmo hB hD
theorem zeE{f:FuncId}{fn:Func}{args:List Value}{R:Ending→World→Prop}{n:Nat}(hf:P.funcs[f]?=some fn)(hn:fn.ntmps=n)(hE:Ext w0 w)(next:∀{a},St w0 a w n (z0 fn args).l [] []→Gz P (bodyPost P fn R) (z0 fn args) a w)
    (hb:fn.body.isSome=true:=by rfl) (hsz:decide (args.length≤n)=true:=by kernel_rfl):Calls P f args.toArray w R:=by
 obtain⟨c,hc⟩:=aAN.1 hb;refine Vp.enter hf hc (by rw[hn]; simpa using hsz) fun a s=>?_;have S:St w0 a w n ((List.range args.length).zip args) [] []:=⟨(by rw[hn]at s; simpa using s),hE,fun p hp=>(by cases hp),List.nodup_nil,fun m hm=>by cases hm⟩;have:=next (a:=a) S;unfold Gz z0 at this;rw[hc]at this;exact this
theorem Ei{f:FuncId}{fn:Func}{args:List Value}{R:Ending→World→Prop}{n b:Nat}{A:List Value}(hf:P.funcs[f]?=some fn)(hn:fn.ntmps=n)(hE:Ext w0 w)(hx:Bx w b A.toArray)(hb0:w0.heap.size≤b)(next:∀{a},St w0 a w n (z0 fn args).l [(b,A)] []→Gz P (bodyPost P fn R) (z0 fn args) a w)
    (hb:fn.body.isSome=true:=by rfl) (hsz:decide (args.length≤n)=true:=by kernel_rfl):Calls P f args.toArray w R:=by
 obtain⟨c,hc⟩:=aAN.1 hb;refine Dc hf hn hE hx hb0 (fun a S=>?_) hc hsz;have:=next (a:=a) S;unfold Gz z0 at this;rw[hc]at this;exact this
theorem zl(S:St w0 a w n z.l bl vs)(h:∀{a'},St w0 a' w n (zN P n z).l bl vs→wpList P (zA (zN P n z)) (zp P B (zK (zN P n z))) (oH (zN P n z)) a' w)(ho:tY (zN P n z)=true:=by kernel_rfl):Gz P B z a w:=tZ S fun S=>zop ho (h S)
theorem zo0(S:St w0 a w n z.l bl vs)(h:St w0 a w n (zsk z).l bl vs→Gz P B (zsk z) a w)(ho:tY z=true:=by kernel_rfl):wpList P (zA z) (zp P B (zK z)) ((oH z).drop 1) a w:=IE (l:=[]) ho (h S)
theorem qQ{d:Nat}{v:Value}(S:St w0 a w n ((d,v)::z.l) bl vs)(h:St w0 a w n (EJ 1 [(d,v)] z).l bl vs→Gz P B (EJ 1 [(d,v)] z) a w)(ho:tY z=true:=by kernel_rfl):wpList P (zA z) (zp P B (zK z)) ((oH z).drop 1) a w:=IE (l:=[]) ho (h S)
def aqa(d:Option Nat)(v:Value)(z:Zt):Zt:=⟨D6 1 z.p,yB z.l d v⟩
theorem UG{d:Option Nat}{v:Value}(S:St w0 a w n (yB z.l d v) bl vs)(h:St w0 a w n (aqa d v z).l bl vs→Gz P B (aqa d v z) a w)(ho:tY z=true:=by kernel_rfl):wpList P (zA z) (zp P B (zK z)) ((oH z).drop 1) a w:=IE (l:=[]) ho (h S)
theorem zd(S:St w0 a w n z.l bl vs)(h:∀{a'},St w0 a' w n (zN P n z).l bl vs→∀id,(Code.region id (zy (zN P n z)).toArray true).wp P (zp P B (zK (zN P n z))) a' w)(ho:GY (zN P n z)=true:=by kernel_rfl):Gz P B z a w:=tZ S fun S=>zdr ho (h S)
theorem zdo{m:Nat}{new:List (Nat×Value)}(S:St w0 a w n (new++z.l) bl vs)(h:St w0 a w n (EJ m new z).l bl vs→Gz P B (EJ m new z) a w)(ho:GY z=true:=by kernel_rfl):wpList P (zy z).toArray (zp P B (zK z)) ((zy z).drop m) a w:=agn (m:=m) ho (h S)
def zbt(A:Array Oper)(os:List Oper)(new:List (Nat×Value))(z:Zt):Zt:=⟨.op A os (.bot::zK z),new++z.l⟩
theorem zdb{A:Array Oper}{os:List Oper}{new:List (Nat×Value)}(S:St w0 a w n (new++z.l) bl vs)(h:St w0 a w n (zbt A os new z).l bl vs→Gz P B (zbt A os new z) a w):wpList P A (ES (zp P B (zK z))) os a w:=h S
theorem iZ(S:St w0 a w n z.l bl vs)(m:Nat)(U:zI)(ks:Nat→List Key)(cs:(Nat→Value)→List Value)(cl:(Nat→Value)→List ClX)(ns:List (List Nat))(new:(Nat→Value)→List (Nat×Value))
    (hU:Cm U) (hO:∀x,Um P w U x (cl x) ns)
    (next:∀{a'} w' x,Ext w w'→nX U x w' (U.map (·.1))→St w0 a' w' n (EJ m (new x) (zN P n z)).l bl vs→Gz P B (EJ m (new x) (zN P n z)) a' w')
    (hN:∀r,NOk U w.heap.size r (ks r):=by intro r; exact trivial) (hk:∀r,nI True P (ks r):=by intro r; exact trivial)
    (hD0:(U.map (·.1)).all (fun d=>((zy (zN P n z)).take m).any (fun o=>o.dst==some d))=true:=by kernel_rfl)
    (hmo:P.follows .mixedOrders=true:=by kernel_rfl) (hB:okB (zy (zN P n z)).toArray m n=true:=by kernel_rfl) (hD:rU (zy (zN P n z)).toArray ((zy (zN P n z)).take m)=true:=by kernel_rfl)
    (hl:Hnd:=[]) (hH:∀x r,pF P w U [] x (zy (zN P n z)) hl (ks r):=by intro x r; exact trivial) (hHK:∀r,xB (zy (zN P n z)) hl (ks r)=true:=by intro r; kernel_rfl) (hHB:Jp (zy (zN P n z)) m U hl=true:=by kernel_rfl)
    (hx:∀y r,(exec P (jG bl vs) (zy (zN P n z)).toArray n ((zy (zN P n z)).take m) (lift (zN P n z).l) (ks r) (cs y)).map (XH ((zy (zN P n z)).take m) U ns (new y))=some ((new y).map (fun p=>some ([],p.2)),(ks r).map (vT (jG bl vs)),(cl y).map clX,patch U y ((zy (zN P n z)).take m) (tv (exec P (jG bl vs) (zy (zN P n z)).toArray n ((zy (zN P n z)).take m) (lift (zN P n z).l) (ks 0) (cs fun _=>undef))),true):=by intro y r; kernel_rfl)
    (hs:∀y,rQ ((zy (zN P n z)).take m) (zN P n z).l (new y)=true:=by intro y; kernel_rfl) (hn:(decide (n≤1000)&&(U.map (·.1)).all fun d=>decide (d<n))=true:=by kernel_rfl) (ho:GY (zN P n z)=true:=by kernel_rfl):Gz P B z a w:=
  tZ S fun S=>zdr ho fun id=>Eh S m U ks cs cl ns new hU hO (fun a' w' x hE hF S'=>agn (m:=m) ho (next w' x hE hF S')) hN hk hD0 hmo hB hD hl hH hHK hHB hx hs hn
def newC(P:Program)(z:Zt):List Value:=match EF P 0 (oH z) z.l with | some x=>x.1 | none=>[]
theorem fA(S:St w0 a w n z.l bl vs)(next:∀{a'} w' b,Ext w w'→b=w.heap.size→St w0 a' w' n (vS (newV P b (zN P n z)) (zN P n z)).l ((b,newC P (zN P n z))::bl) vs→Gz P B (vS (newV P b (zN P n z)) (zN P n z)) a' w')
    (hx:∀r,ama P r (zN P n z)=some (newC P (zN P n z),lD (zN P n z)):=by intro r; kernel_rfl) (ho:(tY (zN P n z)&&(vG n (lD (zN P n z))&&(lD (zN P n z)).isSome))=true:=by kernel_rfl):Gz P B z a w:=dG S _ next hx ho
def stO(P:Program)(z:Zt):Nat:=match lq P (oH z) z.l with | some x=>x.2.1 | none=>0
def stC(P:Program)(z:Zt):List Value:=match lq P (oH z) z.l with | some x=>(match x.2.2.1 with | .agg c=>c.toList | v=>[v]) | none=>[]
theorem fV(S:St w0 a w n z.l bl vs)(k:Nat){b:Nat}{A:List Value}(hkk:bl[k]?=some (b,A))(next:∀{a'} w',Ch b w w'→St w0 a' w' n (zsk (zN P n z)).l (bl.set k (b,spl A (stO P (zN P n z)) (stC P (zN P n z)))) vs→Gz P B (zsk (zN P n z)) a' w')
    (hx:lq P (oH (zN P n z)) (zN P n z).l=some (b,stO P (zN P n z),.agg (stC P (zN P n z)).toArray,(stC P (zN P n z)).length):=by kernel_rfl) (hf:decide (stO P (zN P n z)+(stC P (zN P n z)).length≤A.length)=true:=by kernel_rfl) (h1:(stC P (zN P n z)).all (·.oneCell')=true:=by kernel_rfl) (ho:tY (zN P n z)=true:=by kernel_rfl):Gz P B z a w:=lX S k hkk next hx hf h1 ho
def stV(P:Program)(z:Zt):Value:=match lq P (oH z) z.l with | some x=>x.2.2.1 | none=>undef
theorem fM(S:St w0 a w n z.l bl vs)(k:Nat){b:Nat}{A:List Value}(hkk:bl[k]?=some (b,A))(next:∀{a'} w',Ch b w w'→St w0 a' w' n (zsk (zN P n z)).l (bl.set k (b,spl A (stO P (zN P n z)) [stV P (zN P n z)])) vs→Gz P B (zsk (zN P n z)) a' w')
    (hx:lq P (oH (zN P n z)) (zN P n z).l=some (b,stO P (zN P n z),stV P (zN P n z),1):=by kernel_rfl) (hf:decide (stO P (zN P n z)<A.length)=true:=by kernel_rfl) (h1:(stV P (zN P n z)).cells = #[stV P (zN P n z)]:=by kernel_rfl) (h1':(stV P (zN P n z)).oneCell'=true:=by kernel_rfl) (ho:tY (zN P n z)=true:=by kernel_rfl):Gz P B z a w:=RX S k hkk next hx hf h1 h1' ho
theorem St.lu{l:List (Nat×Value)}(S:St w0 a w n l bl vs)(k:Nat){b:Nat}{A A':List Value}(hk:bl[k]?=some (b,A'):=by rfl)(hA:A'=A:=by kernel_rfl):Bx w b A.toArray:=hA▸S.bx k hk
theorem St.sN{l l':List (Nat×Value)}{Az:List (Nat×List Value)}(S:St w0 a w n l bl vs)(h:l'.map (fun p=>l.lookup p.1)=l'.map (fun p=>some p.2):=by kernel_rfl)(hb:bl=Az:=by kernel_rfl):St w0 a w n l' Az []:=hb▸S.sn h
theorem St.fl{l:List (Nat×Value)}{Az:List (Nat×List Value)}(S:St w0 a w n l bl vs)(h:bl=Az:=by first | (simp only[List.set_cons_zero,List.set_cons_succ]; exact rfl) | exact rfl):St w0 a w n l Az vs:=h▸S
end
end Go.Sx
end
theorem adr:type_of% @Go.Sx.zk:=@Go.Sx.zk
theorem ay9:type_of% @Go.Sx.dn:=@Go.Sx.dn
theorem azb:type_of% @Go.Sx.zc:=@Go.Sx.zc
theorem azd:type_of% @Go.Sx.fA:=@Go.Sx.fA
theorem aze:type_of% @Go.Sx.ze:=@Go.Sx.ze
theorem azf:type_of% @Go.Sx.fV:=@Go.Sx.fV
theorem azh:type_of% @Go.Sx.dG:=@Go.Sx.dG
theorem azk:type_of% @Go.Sx.fM:=@Go.Sx.fM
theorem azl:type_of% @Go.Sx.zl:=@Go.Sx.zl
theorem azm:type_of% @Go.Sx.lX:=@Go.Sx.lX
theorem azn:type_of% @Go.Sx.zT:=@Go.Sx.zT
theorem azo:type_of% @Go.Sx.bQ:=@Go.Sx.bQ
theorem azp:type_of% @Go.Sx.dA:=@Go.Sx.dA
theorem azq:type_of% @Go.Sx.zrc:=@Go.Sx.zrc
theorem azr:type_of% @Go.Sx.qQ:=@Go.Sx.qQ
theorem azs:type_of% @Go.Sx.fF:=@Go.Sx.fF
theorem azu:type_of% @Go.Sx.zF:=@Go.Sx.zF
theorem azv:type_of% @Go.Sx.zq:=@Go.Sx.zq
theorem azw:type_of% @Go.Sx.vK:=@Go.Sx.vK
theorem azx:type_of% @Go.Sx.zs:=@Go.Sx.zs
theorem azy:type_of% @Go.Sx.jZ:=@Go.Sx.jZ
theorem azE:type_of% @Go.Sx.Ei:=@Go.Sx.Ei
theorem aAG:type_of% @Go.Sx.jT:=@Go.Sx.jT
