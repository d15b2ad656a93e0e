/- A region that draws its order, where some operations -/
import Derived.Test.YtfmkkemfhjkajaaGreatDoorOwn
namespace Go.Sx
open Go.Proofs.YtfmkkemfhjkajaaGreatDoor Go.RowKit Go.Rel
set_option linter.unusedVariables false
def Ol(Q:Exit→Act→World→Prop):Exit→Act→World→Prop
 | .normal,a,w=>Q .normal a w
 | _,_,_=>False
section
variable{P:Program}{ops ops':Array Oper}{Q:Exit→Act→World→Prop}{a:Act}{w:World}
theorem vY:¬LetsOut (Ol Q):=fun⟨_,_,h⟩=>h
theorem aaK{i:Nat}{K K':Act→World→Prop}(hK:∀a w,K a w→K' a w)(h:wpOp P ops (Ol Q) i K a w):wpOp P ops Q i K' a w:=by
 unfold wpOp at *;split at h
 ·exact hK _ _ h
 split at h
 ·rename_i hw;rw[anv hw];rcases h with h | ⟨_,h⟩
  ·left;unfold Oper.wp at *;generalize (execOp a.eval _).run P w=r at *;cases r with
   | ok n w' =>
    cases n<;>simp only[Oper.upon]at h ⊢;case value u=>exact hK _ _ h
    case skip=>exact hK _ _ h
    case defer d=>exact hK _ _ h
    case enter f args =>
     refine Calls.mono h fun e w'' he=>?_;cases e with
     | returned u=>exact hK _ _ he
     | panicked c=>exact he.elim
     | outgrown=>exact(vY he).elim
    case row row args=>exact Rows.mono h fun u w'' he=>hK _ _ he
   | halt x w' =>
    cases x<;>simp only[Oper.upon]at h ⊢;case panic u=>exact h.elim
  exact(vY h).elim
 rename_i hw;rw[anq hw];exact hK _ _ h
theorem Dz{md:Region.Mode}:∀(f:Nat) (listed:Array Bool) (a:Act) (w:World),wpAny P md ops (Ol Q) f listed a w→wpAny P md ops Q f listed a w
 | 0,_,_,_,h=>⟨h.1,h.2⟩
 | f+1,_,_,_,h=>⟨fun h0=>h.1 h0,fun i hi=>aaK (fun a w=>Dz f _ a w) (h.2 i hi)⟩
def Alike(ops ops':Array Oper):Prop:=ops.size=ops'.size∧∀i:Nat,(ops[i]?).map (fun o:Oper=>(o.op,o.dst,o.guard,o.type,o.pos))=(ops'[i]?).map (fun o:Oper=>(o.op,o.dst,o.guard,o.type,o.pos))
theorem Alike.get(h:Alike ops ops'){i:Nat}{o':Oper}(hi:ops'[i]?=some o'):∃af,ops[i]?=some { o' with after:=af }:=by
 have:=h.2 i;rw[hi]at this;cases ho:ops[i]? with
 | none=>rw[ho]at this; cases this
 | some o =>
  rw[ho]at this;obtain⟨dst,op,type,pos,after,guard⟩:=o;obtain⟨dst',op',type',pos',after',guard'⟩:=o';simp only[aoa,anx,anD]at this;obtain⟨rfl,rfl,rfl,rfl,rfl⟩:=this;exact⟨after,rfl⟩
theorem Alike.none(h:Alike ops ops'){i:Nat}(hi:ops'[i]?=none):ops[i]?=none:=by
 have:=h.2 i;rw[hi]at this;cases ho:ops[i]? with
 | none=>rfl
 | some o=>rw[ho]at this; cases this
theorem Alike.yielded(h:Alike ops ops')(ts:Array Value):Go.yielded ops ts=Go.yielded ops' ts:=by
 funext j;unfold Go.yielded;have:=h.2 j;cases h1:ops[j]?<;>cases h2:ops'[j]?<;>rw[h1,h2]at this
 ·cases this
 ·cases this
 simp only[aoa,anx,anD]at this;simp only[apx,this.2.1]
theorem Alike.exec{ρ:Operand→Value}{o:Oper}{af:Array Edge}:execOp ρ { o with after:=af }=execOp ρ o:=by
 obtain⟨dst,op,type,pos,after,guard⟩:=o;rfl
theorem Alike.wpOp(h:Alike ops ops'){i:Nat}{K K':Act→World→Prop}(hK:∀a w,K a w→K' a w)(hh:Go.wpOp P ops Q i K a w):Go.wpOp P ops' Q i K' a w:=by
 refine wpOp_mono hK ?_;unfold Go.wpOp at *;cases hi:ops'[i]? with
 | none=>rw[h.none hi]at hh; exact hh
 | some o' =>
  obtain⟨af,ho⟩:=h.get hi;rw[ho]at hh;simp only at hh ⊢;rw[h.yielded]at hh;have e1:Region.wanted { o' with after:=af }=Region.wanted o':=rfl;rw[e1]at hh;unfold Oper.wp Oper.asks at *;simp only[Alike.exec]at hh;exact hh
theorem OW{F:List Nat}(h:Alike ops ops')(hF:∀(i:Nat) (o o':Oper),ops[i]?=some o→ops'[i]?=some o'→∀e∈o.after,Region.binds .any e=true→e.on∈F∨∃e'∈o'.after,Region.binds .any e'=true∧e'.on=e.on)
  (hF':∀(i:Nat) (o o':Oper),ops[i]?=some o→ops'[i]?=some o'→∀e∈o'.after,Region.binds .any e=true→∃e'∈o.after,Region.binds .any e'=true∧e'.on=e.on) :
  ∀(f:Nat) (listed:Array Bool) (a:Act) (w:World),(∀i∈F,listed.getD i false=true)→wpAny P .any ops Q f listed a w→wpAny P .any ops' Q f listed a w:=by
 have hr:∀listed:Array Bool,(∀i∈F,listed.getD i false=true)→∀j,j∈Region.ready .any ops' listed↔j∈Region.ready .any ops listed:=by
  intro listed hl j;rw[mem_ready,mem_ready];constructor
  ·rintro⟨h0,o',ho',hall⟩;obtain⟨af,ho⟩:=h.get ho';refine⟨h0,_,ho,fun e he hb=>?_⟩;rcases hF j _ _ ho ho' e he hb with h1 | ⟨e',he',hb',heq⟩
   ·exact hl _ h1
   rw[←heq]; exact hall e' he' hb'
  rintro⟨h0,o,ho,hall⟩;cases ho':ops'[j]? with
  | none=>rw[h.none ho']at ho; cases ho
  | some o' =>
   refine⟨h0,o',rfl,fun e he hb=>?_⟩;obtain⟨e',he',hb',heq⟩:=hF' j _ _ ho ho' e he hb;rw[←heq]; exact hall e' he' hb'
 have hnil:∀listed:Array Bool,(∀i∈F,listed.getD i false=true)→(Region.ready .any ops' listed=[]↔Region.ready .any ops listed=[]):=fun listed hl=>by
  simp only[apZ,hr listed hl]
 intro f;induction f with
 | zero=>exact fun listed a w hl hh=>⟨(hnil listed hl).2 hh.1,hh.2⟩
 | succ f ih =>
  exact fun listed a w hl hh=>⟨fun h0=>hh.1 ((hnil listed hl).1 h0),fun i hi=>h.wpOp (fun a w=>ih _ a w fun j hj=>getD_set_true (hl j hj)) (hh.2 i ((hr listed hl i).1 hi))⟩
def takeB(ops ops':Array Oper):List Nat→Array Bool→Bool
 | [],_=>true
 | p::F,listed=>(match ops[p]?,ops'[p]? with
  | some o,some o'=>(match o.op,o'.op,o.guard,o'.guard with | .move (.tmp x),.move (.tmp y),none,none=>x==y&&o.dst==o'.dst | _,_,_,_=>false)
  | _,_=>false)&&(Region.ready .any ops listed).contains p&&(Region.ready .any ops' listed).contains p&&Region.free .any ops' listed p&&takeB ops ops' F (listed.setIfInBounds p true)
theorem OX{ρ:Operand→Value}{o:Oper}{x:Operand}(h:o.op = .move x)(w:World):(execOp ρ o).run P w = .ok (.value (ρ x)) w:=by
 unfold execOp; simp only[h]; rfl
theorem OY(hs:Region.noSelect ops'=true)(G:∀(f:Nat) (listed:Array Bool) (a:Act) (w:World) (F:List Nat),(∀i∈F,listed.getD i false=true)→True){F0:List Nat}
  (hA:∀(f:Nat) (listed:Array Bool) (a:Act) (w:World),(∀i∈F0,listed.getD i false=true)→wpAny P .any ops (Ol Q) f listed a w→wpAny P .any ops' (Ol Q) f listed a w) :
  ∀(F:List Nat) (f:Nat) (listed:Array Bool) (a:Act) (w:World),takeB ops ops' F listed=true→(∀i∈F0,i∈F∨listed.getD i false=true)→wpAny P .any ops (Ol Q) (f+F.length) listed a w→wpAny P .any ops' (Ol Q) (f+F.length) listed a w
 | [],f,listed,a,w,_,hl,h=>hA _ _ _ _ (fun i hi=>(hl i hi).resolve_left (by simp)) h
 | p::F,f,listed,a,w,hb,hl,h=>by
  unfold takeB at hb
  simp only[anM]at hb
  obtain⟨⟨⟨⟨h1,h2⟩,h3⟩,h4⟩,h5⟩:=hb
  split at h1
  ·rename_i o o' ho ho'
   split at h1
   ·rename_i x y hx hy hg hg'
    simp only[anM,anO]at h1
    obtain⟨rfl,hd⟩:=h1
    rw[an1,←apo]at h ⊢
    have hp:p∈Region.ready .any ops listed:=by simpa using h2
    have hstep:=h.2 p hp
    unfold Go.wpOp at hstep
    rw[ho]at hstep
    simp only[Region.wanted,hg,if_true]at hstep
    have hstep2:wpAny P .any ops (Ol Q) (f+F.length) (listed.setIfInBounds p true) (a.put o.dst (a.eval (.tmp x))) w:=by
     rcases hstep with hst | ⟨_,hst⟩
     ·unfold Oper.wp at hst
      rw[OX hx]at hst
      exact hst
     ·exact(vY hst).elim
    refine wpAny_take (v:=a.eval (.tmp x)) ho' hs h4 h3 (fun c a w h=>h.elim) (.inl ⟨by simp[Region.wanted,hg'],fun w=>OX hy w⟩) ?_
    rw[←hd]
    refine OY hs G hA F f _ _ w h5 (fun i hi=>?_) hstep2
    rcases hl i hi with h6 | h6
    ·rcases anS.1 h6 with rfl | h6
     ·right
      have hlt:i<listed.size:=by
       have:=(mem_ready.1 hp).1
       by_cases h:i<listed.size
       ·exact h
       ·rw[Array.getD_eq_getD_getElem?,Array.getElem?_eq_none (by omega)]at this; cases this
      simp[Array.getD_eq_getD_getElem?,hlt]
     ·exact .inl h6
    ·exact .inr (getD_set_true h6)
   ·cases h1
  ·cases h1
end
def zM(F:List Nat)(t:Nat)(os:List Oper):List Oper:=os.modify t fun o=>{ o with after:=o.after++(F.map fun i=>({ on:=i,ground := .data }:Edge)).toArray }
def aaL(F:List Nat)(t:Nat)(os:List Oper):Bool:=Region.noSelect os.toArray&&takeB (zM F t os).toArray os.toArray F (Array.replicate os.length false)&&decide (F.length≤os.length)
theorem BO{F:List Nat}{t:Nat}{os:List Oper}{i:Nat}:(zM F t os)[i]?=if i=t then (os[i]?).map (fun o=>{ o with after:=o.after++(F.map fun i=>({ on:=i,ground := .data }:Edge)).toArray })else os[i]?:=by
 unfold zM;rw[List.getElem?_modify];by_cases h:t=i
 ·subst h; simp
 rw[anq (fun e=>h e.symm)]; simp[h]
theorem hoist{P:Program}{Q:Exit→Act→World→Prop}{a:Act}{w:World}{os:List Oper}{id:Nat}(F:List Nat)(t:Nat)
  (h:wpAny P .any (zM F t os).toArray (Ol Q) (zM F t os).toArray.size (Array.replicate (zM F t os).toArray.size false) a { w with drawn:=w.drawn+1 }) (hmo:P.follows .mixedOrders=true:=by kernel_rfl) (hb:aaL F t os=true:=by kernel_rfl):(Code.region id os.toArray true).wp P Q a w:=by
 unfold aaL at hb;simp only[anM,anT]at hb;obtain⟨⟨h1,h2⟩,h3⟩:=hb;have hlen:(zM F t os).length=os.length:=by unfold zM; simp
 refine apy hmo (Dz _ _ _ _ ?_);have hsz:(zM F t os).toArray.size=os.toArray.size:=by simp[hlen]
 rw[hsz]at h;have hal:Alike (zM F t os).toArray os.toArray:=⟨hsz,fun i=>by
  rw[List.getElem?_toArray,List.getElem?_toArray,BO];split
  ·cases os[i]?<;>rfl
  rfl⟩
 have key:=OY (P:=P) (Q:=Q) (ops:=(zM F t os).toArray) (ops':=os.toArray) h1 (fun _ _ _ _ _ _=>trivial) (F0:=F) (fun f listed a w hl hh=>OW (F:=F) hal (fun i o o' ho ho' e he hb=>?_) (fun i o o' ho ho' e he hb=>?_) f listed a w hl hh) F (os.length-F.length) (Array.replicate os.length false) a { w with drawn:=w.drawn+1 } (by simpa using h2) (fun i hi => .inl hi)
 ·rw[Nat.sub_add_cancel h3]at key;simpa using key (by simpa using h)
 ·rw[List.getElem?_toArray,BO]at ho;rw[List.getElem?_toArray]at ho';split at ho
  ·rw[ho']at ho;simp only[aoa,anx]at ho;subst ho;simp only[Array.mem_append,List.mem_toArray,an4]at he;rcases he with he | ⟨j,hj,rfl⟩
   ·exact .inr ⟨e,he,hb,rfl⟩
   exact .inl hj
  rw[ho']at ho; obtain rfl:=anG ho;exact .inr ⟨e,he,hb,rfl⟩
 rw[List.getElem?_toArray,BO]at ho;rw[List.getElem?_toArray]at ho';split at ho
 ·rw[ho']at ho;simp only[aoa,anx]at ho;subst ho;exact⟨e,by simp[he],hb,rfl⟩
 rw[ho']at ho; obtain rfl:=anG ho;exact⟨e,he,hb,rfl⟩
end Go.Sx
