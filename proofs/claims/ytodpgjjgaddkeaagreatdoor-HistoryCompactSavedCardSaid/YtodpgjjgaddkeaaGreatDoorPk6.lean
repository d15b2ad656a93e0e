/- A region that draws its order -/
import Derived.Test.YtodpgjjgaddkeaaGreatDoorSy
import Derived.Laws.IdiomCopy
import Derived.Maps.AppendAt
import Derived.ArgAppend
import Derived.LoopN
set_option linter.unusedVariables false
set_option linter.unusedSimpArgs false
set_option maxHeartbeats 9999999
open Go renaming World->VO,Value->aaT,Calls->abB,Program->ahe,Oper->ahk,wpList->aiw,TypeId->aix,execOp->aGe,Operand->aGf,Exit->aGg,Act->aGh,Ending->aGi,FuncId->aGl,wpAny->aGm,bodyPost->aGn
section
namespace Go.Sx
open Go.Proofs.Vy Go.RowKit Go.Rel
section
variable{P:ahe}{ops:Array ahk}{Q:aGg->aGh->VO->Prop}{w0:VO}{a:aGh}{w:VO}{os:List ahk}{n:Nat}{l:List (Nat×aaT)}{bl:List (Nat×List aaT)}{vs:List fE}
abbrev Om{ρ:aGf->aaT}{o:ahk}{ty:aix}{x y:aGf}{b off:Nat}{A cs:List aaT}(S:o.op = .store ty x y)(hx:ρ x = .q b off)(hy:ρ y = .agg cs.toArray)(D:Bx w b A.toArray)
  (hi:(P.info? ty).map (·.size)=some cs.length) (J:off+cs.length<=A.length) (h1:cs.all (·.oneCell')=true):(aGe ρ o).run P w = .ok .skip (w.setCells b off cs):=by
 have J:w.there b off cs.toArray.size:=λj hj=>by
  have h3:j<cs.length:=by simpa using hj
  rw[D.2.1,D.2.2,Array.getElem?_eq_getElem (by simp; omega)]; exact⟨I,I⟩
 have h:=run_storeVar_mid (P:=P) w b off ty cs.toArray J (by rw[hi]; simp) (by rw[<-h1]; simp);unfold aGe;simp only[S,hx,hy,Instr.storeAt,Instr.sureAddr,aEe,aFy,aFq,h]
def stD(P:ahe)(os:List ahk)(m j:Nat)(l:List (Nat×aaT)):Option (Nat×Nat×Nat):=
 match os[m]? with
 | some o=>(match o.guard,o.dst,o.op with
  | none,none,.store ty (.tmp s) (.tmp s')=>(match l.lookup s,P.info? ty,(os[j]?).bind (·.dst)with
   | some (.q b off),some i,some d =>
    (match d==s'&&decide (j<m)&&(os.take m).all (λo => !(o.dst==some s))&&o.after.toList.any (λg=>g.on==j&&Region.binds .any g)with
    | true=>some (b,off,i.size)
    | false=>none)
   | _,_,_=>none)
  | _,_,_=>none)
 | none=>none
def Hz(P:ahe)(ops:Array ahk)(os:List ahk)(l:List (Nat×aaT)):Option (aGl×Array aaT×Option Nat):=
 match os with
 | o::_=>(match pathOf ops (lift l) o,wF o.op || !o.op.operands.all (λx=>(rd (lift l) [] x).isSome),je (ev0 P (aGe (zJ (lift l) []) o))with
  | some p,false,some (.enter f args)=>(match jZ (lift l) p with | true=>some (f,args,o.dst) | false=>none)
  | _,_,_=>none)
 | []=>none
abbrev Yq(S:St w0 a w n l bl vs){f:aGl}{args:Array aaT}(d:Option Nat){R:aGi->VO->Prop}(hc:abB P f args w R)
  (next:∀e w',R e w'->∃v,e = .R v∧Ext w w'∧∀D,St w0 D w' n (zL l d v) bl vs->aiw P ops Q (os.drop 1) D w')
  (D:Hz P ops os l=some (f,args,d):=by kernel_rfl) (hd:uO n d=true:=by rfl):aiw P ops Q os a w:=by
 cases os with
 | nil=>cases D
 | cons o os =>
  unfold Hz at D;simp only at D;split at D
  .rename_i p f' args' hp hav hev;split at D
   .rename_i hg;simp only[aDe,aDm]at D;obtain⟨rfl,rfl,rfl⟩:=D;simp only[aDX]at hav;have J:(aGe a.eval o).run P w = .ok (.enter f' args') w:=lM (Std.act a) (gX (bZ S.s) o) (p:=[]) I hav.1 (by simpa using hav.2) hev;unfold aiw;rw[aDb ((sG (a:=a) hp (λx _ i y _ hl=>bZ S.s i y hl)).2 hg)];left;unfold Oper.wp;rw[J];simp only[Oper.upon];refine hc.mono λe w' J=>?_;obtain⟨v,rfl,hE,hn⟩:=next e w' J;exact hn _ ((S.grow hE).act (uh S.s hd v))
   cases D
  cases D
end
structure Fr (A05:List Nat) (w w':VO):Prop where
 os:w'.os=w.os
 tape:w'.tape=w.tape
 output:w'.output=w.output
 size:w.heap.size<=w'.heap.size
 block:∀k,k<w.heap.size->k∉A05->w'.heap[k]?=w.heap[k]?
def On(B:Nat->Prop)(F:VO->Prop)(w:VO):Prop:=∀w',w.heap.size<=w'.heap.size->(∀k,k<w.heap.size->B k->w'.heap[k]?=w.heap[k]?)->F w'
abbrev On.self{B:Nat->Prop}{F:VO->Prop}{w:VO}(h:On B F w):F w:=h w (aDd _) λ_ _ _=>rfl
abbrev On.mono{B D:Nat->Prop}{F:VO->Prop}{w:VO}(h:On B F w)(hB:∀k,B k->D k):On D F w:=λw' J S=>h w' J λk hk D=>S k hk (hB k D)
abbrev On.imp{B:Nat->Prop}{F A02:VO->Prop}{w:VO}(h:On B F w)(S:∀w,F w->A02 w):On B A02 w:=λw' D J=>S _ (h w' D J)
abbrev On.and{B:Nat->Prop}{F A02:VO->Prop}{w:VO}(h:On B F w)(k:On B A02 w):On B (λw=>F w∧A02 w) w:=λw' D J=>⟨h w' D J,k w' D J⟩
abbrev On.pure{B:Nat->Prop}{p:Prop}{w:VO}(h:p):On B (λ_=>p) w:=λ_ _ _=>h
abbrev On.ext{B:Nat->Prop}{F:VO->Prop}{w w':VO}(h:On B F w)(J:Ext w w'):On B F w':=λS hs hb=>h S (aDy J.size hs) λk hk D=>(hb k (aDL hk J.size) D).trans (J.block k hk)
abbrev bn (base:Nat)(F:VO->Prop)(w:VO):Prop:=On (base <= ·) F w
abbrev Ow (base:Nat)(A05:List Nat)(F:VO->Prop)(w:VO):Prop:=On (λk=>base<=k∧k∉A05) F w
structure Stp (A05:List Nat) (w:VO) (O':List Nat) (w':VO):Prop where
 fr:Fr A05 w w'
 new:∀b∈O',b∈A05∨w.heap.size<=b
abbrev Fr.aT{A05:List Nat}{w w':VO}(h:Ext w w'):Fr A05 w w':=⟨h.os,h.tape,h.output,h.size,λk hk _=>h.block k hk⟩
abbrev Stp.ext{A05:List Nat}{w w':VO}(h:Ext w w'):Stp A05 w A05 w':=⟨Fr.aT h,λ_ h => .inl h⟩
abbrev Stp.trans{A05 D J:List Nat}{w w1 S:VO}(h:Stp A05 w D w1)(k:Stp D w1 J S):Stp A05 w J S:=
 ⟨⟨k.fr.os.trans h.fr.os,k.fr.tape.trans h.fr.tape,k.fr.output.trans h.fr.output,aDy h.fr.size k.fr.size,λi D hn=>by
  refine(k.fr.block i (aDL D h.fr.size) λJ=>?_).trans (h.fr.block i D hn)
  rcases h.new i J with D | D
  .exact hn D
  .omega⟩,λb J=>by
  rcases k.new b J with D | D
  .exact h.new b D
  .exact .inr (aDy h.fr.size D)⟩
abbrev Stp.sub{A05 D:List Nat}{w:VO}(h:∀b∈D,b∈A05):Stp A05 w D w:=⟨⟨I,I,I,aDd _,λ_ _ _=>rfl⟩,λb D => .inl (h b D)⟩
abbrev On.step{base:Nat}{A05 D:List Nat}{F:VO->Prop}{w w':VO}(h:Ow base A05 F w)(k:Stp A05 w D w'):Ow base D F w':=λJ S hb =>
 h J (aDy k.fr.size S) λi D hB=>by
  refine(hb i (aDL D k.fr.size) ⟨hB.1,λJ=>?_⟩).trans (k.fr.block i D hB.2)
  rcases k.new i J with D | D
  .exact hB.2 D
  .omega
abbrev bn.ow{base b0:Nat}{A05:List Nat}{F:VO->Prop}{w:VO}(h:bn base F w)(J:b0<=base)(S:∀k∈A05,k<base):Ow b0 A05 F w:=h.mono λk hk=>⟨aDy J hk,λD=>by have:=S k D; omega⟩
abbrev Ow.dep{base:Nat}{A05:List Nat}{F:VO->Prop}{w:VO}(h:Ow base A05 F w):bn base F w:=h.mono λ_ h=>h.1
abbrev bn.le{base b0:Nat}{F:VO->Prop}{w:VO}(h:bn base F w)(D:b0<=base):bn b0 F w:=h.mono λ_ hk=>aDy D hk
abbrev Fr.below{A05:List Nat}{w0 w w':VO}(h:Fr A05 w w')(D:Ext w0 w)(S:∀b∈A05,w0.heap.size<=b):Ext w0 w':=
 ⟨h.os.trans D.os,h.tape.trans D.tape,h.output.trans D.output,aDy D.size h.size,λk hk=>(h.block k (aDL hk D.size) λJ=>by have:=S k J; omega).trans (D.block k hk)⟩
structure Row where
 e:aix
 k:Nat
 v:aaT
 n:Nat
 xs:List aaT
def Ob(bl:List (Nat×List aaT))(rs:List Row):List Nat:=bl.map (·.1)++rs.filterMap λr=>r.v.ownBlock
structure Rw (w0 w:VO) (bl:List (Nat×List aaT)) (rs:List Row):Prop where
 own:∀r∈rs,w.ownsRow w0.heap.size r.e r.k r.v r.n r.xs
 lt:∀b∈Ob bl rs,b<w.heap.size
 apart:(Ob bl rs).Nodup
variable{e:aix}{k:Nat}{v:aaT}{xs:List aaT}
abbrev nC{w w':VO}{B:Nat}{n:Nat}(h:w.ownsRow B e k v n xs)(hb:∀g,v.ownBlock=some g->w'.heap[g]?=w.heap[g]?):w'.ownsRow B e k v n xs:=by
 obtain⟨J,h | ⟨g,cap,D,rfl,S,h3,h4⟩⟩:=h
 .exact⟨J,.inl h⟩
 exact⟨J,.inr ⟨g,cap,D,I,S,(hb g I).trans h3,h4⟩⟩
abbrev iW{w:VO}{B:Nat}{n:Nat}(h:w.ownsRow B e k v n xs){g:Nat}(D:v.ownBlock=some g):B<=g∧g<w.heap.size:=by
 obtain⟨h1,⟨rfl,_⟩ | ⟨g,cap,S,rfl,h2,J,h4⟩⟩:=h
 .cases D
 simp only[Value.ownBlock,aDe]at D;subst D;exact⟨h2,by
  by_cases hlt:g<w.heap.size
  .exact hlt
  rw[Array.getElem?_eq_none Z]at J; cases J⟩
abbrev ownsRow_base{w:VO}{B D:Nat}{n:Nat}(h:w.ownsRow B e k v n xs)(hB:D<=B):w.ownsRow D e k v n xs:=by
 obtain⟨J,h | ⟨g,cap,D,rfl,S,h3⟩⟩:=h
 .exact⟨J,.inl h⟩
 exact⟨J,.inr ⟨g,cap,D,I,aDy hB S,h3⟩⟩
section
variable{P:ahe}{ops:Array ahk}{Q:aGg->aGh->VO->Prop}{w0:VO}{a:aGh}{w w':VO}{os:List ahk}{n:Nat}{l:List (Nat×aaT)}{bl:List (Nat×List aaT)}{vs:List fE}{rs:List Row}
variable{e t ty:aix}{k m cap g c b off:Nat}{v y:aaT}{xs ys cs:List aaT}{α:Type}{f:α->List aaT}{r:Row}{o:ahk}{ρ:aGf->aaT}{x s:aGf}{ad:Addr}
abbrev jM(h:r∈rs)(D:r.v.ownBlock=some g):g∈Ob bl rs:=aFb _ (aEQ.2 ⟨r,h,D⟩)
abbrev Rw.nil(S:St w0 a w n l bl vs):Rw w0 w bl []:=by
 have e:Ob bl []=bl.map (·.1):=by simp[Ob]
 refine⟨λr h=>(by cases h),λb h=>?_,e▸S.apart⟩;rw[e]at h;obtain⟨p,D,rfl⟩:=aDJ.1 h;exact(S.own p D).1.1
abbrev Rw.ext(R:Rw w0 w bl rs)(J:Ext w w'):Rw w0 w' bl rs:=
 ⟨λr D=>nC (R.own r D) λg S=>J.block g (R.lt g (jM D S)),λb hb=>aDL (R.lt b hb) J.size,R.apart⟩
abbrev Rw.add{r:Row}{base:Nat}(R:Rw w0 w bl rs)(ho:w.ownsRow base r.e r.k r.v r.n r.xs)(hb:∀b∈Ob bl rs,b<base)(h0:w0.heap.size<=base):Rw w0 w bl (r::rs):=by
 have S:∀c,c∈Ob bl (r::rs)->c∈Ob bl rs∨r.v.ownBlock=some c:=λc hc=>by
  rcases aDT.1 hc with h | h
  .exact .inl (aFu _ h)
  obtain⟨s,D,J⟩:=aEQ.1 h;rcases aDp.1 D with rfl | D
  .exact .inr J
  exact .inl (jM D J)
 refine⟨λs D=>?_,λc hc=>?_,?_⟩
 .rcases aDp.1 D with rfl | D
  .exact ownsRow_base ho h0
  exact R.own s D
 .rcases S c hc with h | h
  .exact R.lt c h
  exact(iW ho h).2
 cases J:r.v.ownBlock with
 | none=>unfold Ob; rw[aFL,J]; exact R.apart
 | some g =>
  unfold Ob;rw[aFL,J];have hn:g∉Ob bl rs:=λD=>by have:=hb g D; have:=(iW ho J).1; omega
  have hd:=aEL.1 R.apart;refine aEL.2 ⟨hd.1,aFm.2 ⟨λD=>hn (aFb _ D),hd.2.1⟩,λx S y J e=>?_⟩;subst e;rcases aDp.1 J with rfl | J
  .exact hn (aFu _ S)
  exact hd.2.2 x S x J I
abbrev Stp.add{r:Row}{base:Nat}(J:Ext w w')(S:w'.ownsRow base r.e r.k r.v r.n r.xs)(hb:w.heap.size<=base):Stp (Ob bl rs) w (Ob bl (r::rs)) w':=⟨Fr.aT J,λc D=>by
 rcases aDT.1 D with h | h
 .exact .inl (aFu _ h)
 obtain⟨s,D,J⟩:=aEQ.1 h;rcases aDp.1 D with rfl | D
 .exact .inr (aDy hb (iW S J).1)
 exact .inl (jM D J)⟩
abbrev Rw.sub{J:List (Nat×List aaT)}{D:List Row}(R:Rw w0 w bl rs)(S:(Ob J D).Sublist (Ob bl rs))(h2:∀r∈D,r∈rs):Rw w0 w J D:=⟨λr D=>R.own r (h2 r D),λb J=>R.lt b (S.subset J),R.apart.sublist S⟩
abbrev Rw.pop{r:Row}(R:Rw w0 w bl (r::rs)):Rw w0 w bl rs:=R.sub ((List.Sublist.refl _).append (List.Sublist.filterMap _ (List.sublist_cons_self r rs))) λ_ h=>aEs _ h
abbrev Rw.old(R:Rw w0 w bl rs)(S:St w0 a w n l bl vs):∀b∈Ob bl rs,w0.heap.size<=b:=λb D=>by
 rcases aDT.1 D with h | h
 .obtain⟨p,hp,rfl⟩:=aDJ.1 h; exact(S.own p hp).2
 obtain⟨s,D,J⟩:=aEQ.1 h; exact(iW (R.own s D) J).1
abbrev Rw.set{j:Nat}{r r':Row}(R:Rw w0 w bl rs)(S:rs[j]?=some r)(D:w.grownBy w' r.v.ownBlock)(ho:w'.ownsRow w0.heap.size r'.e r'.k r'.v r'.n r'.xs)(hb:r'.v.ownBlock=r.v.ownBlock∨r'.v.ownBlock=some w.heap.size) :
  Rw w0 w' bl (rs.set j r')∧Stp (Ob bl rs) w (Ob bl (rs.set j r')) w':=by
 have J:j<rs.length:=by
  by_cases h:j<rs.length
  .exact h
  rw[List.getElem?_eq_none Z]at S; cases S
 have hr:r∈rs:=List.mem_of_getElem? S;have ah:rs=rs.take j++r::rs.drop (j+1):=by
  have e:rs[j]=r:=by rw[List.getElem?_eq_getElem J]at S; exact aDo S
  rw[<-e,<-aEu J,aEH]
 have aa:rs.set j r'=rs.take j++r'::rs.drop (j+1):=by rw[List.set_eq_take_append_cons_drop,aDb J]
 have hO:Ob bl rs=bl.map (·.1)++((rs.take j).filterMap (λr=>r.v.ownBlock)++(r.v.ownBlock.toList++(rs.drop (j+1)).filterMap λr=>r.v.ownBlock)):=by
  conv=>lhs; unfold Ob; rw[ah]
  rw[List.filterMap_append,aFL]; cases r.v.ownBlock<;>rfl
 have ae:Ob bl (rs.set j r')=bl.map (·.1)++((rs.take j).filterMap (λr=>r.v.ownBlock)++(r'.v.ownBlock.toList++(rs.drop (j+1)).filterMap λr=>r.v.ownBlock)):=by
  unfold Ob; rw[aa,List.filterMap_append,aFL]; cases r'.v.ownBlock<;>rfl
 have ag:∀c,r'.v.ownBlock=some c->c<w'.heap.size:=λc J=>(iW ho J).2;have S:=R.apart;rw[hO]at S;have ab:∀c∈Ob bl (rs.set j r'),c∈Ob bl rs∨w.heap.size<=c:=λc J=>by
  rw[ae]at J;rw[hO];simp only[aDT,Option.mem_toList]at J |-;rcases J with h | h | h | h
  .exact .inl (.inl h)
  .exact .inl (.inr (.inl h))
  .rcases hb with e | e
   .exact .inl (.inr (.inr (.inl (e▸h))))
   rw[e]at h;simp only[aDe]at h;exact .inr Z
  exact .inl (.inr (.inr (.inr h)))
 refine⟨⟨λs hs=>?_,λc J=>?_,?_⟩,⟨⟨D.os,D.tape,D.output,D.size,λi hi hn=>D.block i hi λe=>hn (jM hr e.symm)⟩,ab⟩⟩
 .by_cases aoM:s=r'
  .rw[aoM]; exact ho
  have h:s∈rs:=(List.mem_or_eq_of_mem_set hs).resolve_right aoM;by_cases hsr:s.v.ownBlock=r.v.ownBlock∧s.v.ownBlock≠none
  .obtain⟨h1,h2⟩:=hsr;exfalso;rw[aa]at hs;obtain⟨g,af⟩:=Option.ne_none_iff_exists'.1 h2;have ai:r.v.ownBlock=some g:=h1▸af;rw[ai]at S;have e1:=(aEL.1 S).2.1;have e2:=aEL.1 e1;rcases aDT.1 hs with hs | hs
   .exact e2.2.2 g (aEQ.2 ⟨s,hs,af⟩) g Y I
   have hs:=(aDp.1 hs).resolve_left aoM;have:=(aFm.1 (show(g::(rs.drop (j+1)).filterMap λr=>r.v.ownBlock).Nodup from e2.2.1)).1;exact this (aEQ.2 ⟨s,hs,af⟩)
  refine nC (R.own s h) λg ac=>D.block g (R.lt g (jM h ac)) λe=>hsr ⟨ac.trans e,by rw[ac]; simp⟩
 .rcases ab c J with h | h
  .exact aDL (R.lt c h) D.size
  rw[ae]at J;simp only[aDT,Option.mem_toList]at J;rcases J with h | h | h | h
  .exact aDL (R.lt c (by rw[hO]; simp[h])) D.size
  .exact aDL (R.lt c (by rw[hO]; simp only[aDT]; exact .inr (.inl h))) D.size
  .exact ag c h
  exact aDL (R.lt c (by rw[hO]; simp only[aDT]; exact .inr (.inr (.inr h)))) D.size
 rw[ae];rcases hb with e | e
 .rw[e]; exact S
 rw[e];have D:∀c∈Ob bl rs,c≠w.heap.size:=λc J=>by have:=R.lt c J; omega
 rw[hO]at D;obtain⟨h1,h2,h3⟩:=aEL.1 S;obtain⟨h4,J,h6⟩:=aEL.1 h2;obtain⟨S,h8,h9⟩:=aEL.1 J;refine aEL.2 ⟨h1,aEL.2 ⟨h4,?_,λx S y J=>?_⟩,λx S y J=>?_⟩
 .exact aFm.2 ⟨λhm=>D _ (by simp only[aDT]; exact .inr (.inr (.inr hm))) I,h8⟩
 .rcases aDp.1 (show y∈w.heap.size::_ from J)with rfl | J
  .exact D x (by simp only[aDT]; exact .inr (.inl S))
  exact h6 x S y (aFb _ J)
 rcases aDT.1 J with J | J
 .exact h3 x S y (aFu _ J)
 rcases aDp.1 (show y∈w.heap.size::_ from J)with rfl | J
 .exact D x (by simp only[aDT]; exact .inl S)
 exact h3 x S y (aFb _ (aFb _ J))
def JG(os:List ahk)(l:List (Nat×aaT)):Option (aix×aaT×aaT×Option Nat):=
 match os with
 | o::_=>(match o.guard,o.op with
  | none,.call c=>(match c.callee,c.args.toList,c.argTypes.toList with
   | .builtin .append,[s,x],[t,t']=>(match rd (lift l) [] s,rd (lift l) [] x,t==t' with
    | some v,some y,true=>some (t,v,y,o.dst)
    | _,_,_=>none)
   | _,_,_=>none)
  | _,_=>none)
 | []=>none
abbrev Cc{os:List ahk}{d:Option Nat}(h:JG os l=some (t,v,y,d)):∃o os' s x,os=o::os'∧o.guard=none∧o.dst=d∧o.op = .call { callee := .builtin .append,args := #[s,x],argTypes := #[t,t] }∧rd (lift l) [] s=some v∧rd (lift l) [] x=some y:=by
 cases os with
 | nil=>cases h
 | cons o os =>
  unfold JG at h;simp only at h;split at h
  .rename_i c hg hop;split at h
   .rename_i s x t1 t2 h1 h2 h3;split at h
    .rename_i v' y' hv hy ht;simp only[aDe,aDm]at h;obtain⟨rfl,rfl,rfl,rfl⟩:=h;obtain rfl:t1=t2:=by simpa using ht
     refine⟨o,os,s,x,I,hg,I,?_,hv,hy⟩;rw[hop];obtain⟨callee,args,argTypes⟩:=c;simp only at h1 h2 h3;rw[h1,<-aFJ (xs:=args),<-aFJ (xs:=argTypes),h2,h3]
    cases h
   cases h
  cases h
abbrev PK(ho:o.op = .call { callee := .builtin .append,args := #[s,x],argTypes := #[t,t] }){z:aaT}{bytes:Nat}(T:gI P t e z k bytes){B:Nat}
     (D:w.ownsRow B e k v m xs) (hs:ρ s=v)    (hy:dR w k y c ys) (hx:ρ x=y) (af:m+c<=maxLen) (J:(m+c)*bytes<=140737488355328) (hB:B<=w.heap.size) :
  ∃S w',(aGe ρ o).run P w = .ok (.value S) w'∧w'.ownsRow B e k S (m+c) (xs++ys)∧w.grownBy w' v.ownBlock∧(S.ownBlock=v.ownBlock∨S.ownBlock=some w.heap.size):=by
 obtain⟨i,hi,ab,ac,ae⟩:=T.info;obtain⟨hl,h1,hy⟩:=hy;rcases hy with ⟨rfl,ad,cap,rfl,hz⟩ | ⟨b,off,cap,rfl,hb,hn,hm,hc⟩
 .have:ys=[]:=aEA (by simpa using hl);subst this;rcases ad with _ | ad;case some =>
   obtain⟨S,w',hr,h2,h3,_,h5⟩:=run_append_own_at (P:=P) w B t o.type e i z k bytes T.und hi ab ac ae T.zc T.pos v m xs D ad 0 cap [] Y Y Y af J hB;refine⟨S,w',?_,h2,h3,h5⟩;unfold aGe;simp only[ho,resolve,invoke,builtin,aEe,aFy,aFq,aFO,aD1,aEr,hs,hx,hr]
  obtain rfl:=hz I;have hr:=run_append_owned_none (P:=P) (w:=w) B t o.type e i k T.und hi v m xs D;refine⟨v,w,?_,by simpa using D,⟨I,I,I,aDd _,λ_ _ _=>rfl⟩,.inl I⟩;unfold aGe;simp only[ho,resolve,invoke,builtin,aEe,aFy,aFq,aFO,aD1,aEr,hs,hx,hr]
 have aa:∀(j:Nat) u,ys[j]?=some u->w.cell? ((⟨b,off,none⟩:Addr).add j)=some u:=by
  intro j u hj;have e1:(⟨b,off,none⟩:Addr).add j=⟨b,off+j,none⟩:=by unfold Addr.add; split<;>simp_all
  rw[e1]; exact hc j u hj
 obtain⟨S,w',hr,h2,h3,_,h5⟩:=run_append_own_at (P:=P) w B t o.type e i z k bytes T.und hi ab ac ae T.zc T.pos v m xs D ⟨b,off,none⟩ c cap ys hl aa h1 af J hB;refine⟨S,w',?_,h2,h3,h5⟩;unfold aGe;simp only[ho,resolve,invoke,builtin,aEe,aFy,aFq,aFO,aD1,aEr,hs,hx,hr]
abbrev St.grown{w':VO}{r:Row}(S:St w0 a w n l bl vs)(R:Rw w0 w bl rs)(hr:r∈rs)(J:w.grownBy w' r.v.ownBlock):St w0 a w' n l bl []:=by
 have hO:∀b∈Ob bl rs,w0.heap.size<=b:=R.old S;refine⟨S.s,?_,λp D=>⟨?_,(S.own p D).2⟩,S.apart,λm hm=>by cases hm⟩
 .refine Fr.below (A05:=Ob bl rs) ⟨J.os,J.tape,J.output,J.size,λi hi hn=>J.block i hi λe=>hn (jM hr e.symm)⟩ S.E hO
 have aa:some p.1≠r.v.ownBlock:=λe=>by
  have hd:=aEL.1 R.apart;exact hd.2.2 p.1 (aDJ.2 ⟨p,D,I⟩) p.1 (aEQ.2 ⟨r,hr,e.symm⟩) I
 have hb:=(S.own p D).1;have D:=J.block p.1 hb.1 aa;exact⟨aDL hb.1 J.size,λi=>(World.cell?_of_block (a:=⟨p.1,i,none⟩) D).trans (hb.2.1 i),λi=>(World.frozen?_of_block (a:=⟨p.1,i,none⟩) D).trans (hb.2.2 i)⟩
abbrev app(S:St w0 a w n l bl vs)(R:Rw w0 w bl rs)(j:Nat){z:aaT}{bytes:Nat}(d:Nat)(hj:rs[j]?=some r)(T:gI P t r.e z r.k bytes)(hy:dR w r.k y m ys)
  (af:r.n+m<=maxLen) (D:(r.n+m)*bytes<=140737488355328)
  (next:∀J w' v',Stp (Ob bl rs) w (Ob bl (rs.set j ⟨r.e,r.k,v',r.n+m,r.xs++ys⟩)) w'->Rw w0 w' bl (rs.set j ⟨r.e,r.k,v',r.n+m,r.xs++ys⟩)->St w0 J w' n ((d,v')::l) bl []->aiw P ops Q (os.drop 1) J w')
  (hx:JG os l=some (t,r.v,y,some d):=by kernel_rfl) (hd:uO n (some d)=true:=by rfl):aiw P ops Q os a w:=by
 obtain⟨o,os',s,x,rfl,hg,ab,J,hs,ae⟩:=Cc hx;have hr:r∈rs:=List.mem_of_getElem? hj;have aa:=gX (bZ S.s) o;have es:a.eval s=r.v:=gY (Std.act a) (aa s (by rw[J]; simp[Op.operands,Call.operands])) (p:=[]) I hs;have ex:a.eval x=y:=gY (Std.act a) (aa x (by rw[J]; simp[Op.operands,Call.operands])) (p:=[]) I ae;obtain⟨v',w',ac,h2,h3,h4⟩:=PK (P:=P) J T (R.own r hr) es hy ex af D S.E.size;obtain⟨D,A03⟩:=R.set (r':=⟨r.e,r.k,v',r.n+m,r.xs++ys⟩) hj h3 h2 h4;unfold aiw;rw[aDb (by simp[Region.wanted,hg])];left;unfold Oper.wp;rw[ac];simp only[Oper.upon];rw[ab];exact next _ _ v' A03 D ((S.grown R hr h3).act (uh S.s hd v'))
def xE(P:ahe)(r:Nat)(os:List ahk)(l:List (Nat×aaT)):Option (List aaT×aix×aaT×Option Nat):=
 match os with
 | o::_=>(match o.guard,wF o.op || !o.op.operands.all (λx=>(rd (lift l) [] x).isSome),Gi P r (aGe (zJ (lift l) []) o)with
  | none,false,some (A,ty,k)=>(match je (ev0 P k)with | some (.val v)=>some (A,ty,v,o.dst) | _=>none)
  | _,_,_=>none)
 | []=>none
abbrev newRow(S:St w0 a w n l bl vs)(R:Rw w0 w bl rs)(d m:Nat)(e:aix)(k:Nat)(A:List aaT)(next:∀D w' v,Ext w w'->Stp (Ob bl rs) w (Ob bl (⟨e,k,v,m,A⟩::rs)) w'->Rw w0 w' bl (⟨e,k,v,m,A⟩::rs)->St w0 D w' n ((d,v)::l) bl vs->aiw P ops Q (os.drop 1) D w')
  (D:∀r,xE P r os l=some (A,e,.s (some ⟨r,0,none⟩) m m,some d):=by intro r; kernel_rfl) (hA:A.length=m*k:=by rfl) (hm:m<=maxLen:=by decide) (hd:uO n (some d)=true:=by rfl):aiw P ops Q os a w:=by
 have D:=D w.heap.size;cases os with
 | nil=>cases D
 | cons o os =>
  unfold xE at D;simp only at D;split at D
  .rename_i A' ty k' hg hav hev;split at D
   .rename_i v J;simp only[aDe,aDm]at D;obtain⟨rfl,rfl,rfl,aa⟩:=D;simp only[aDX]at hav;have hc:aGe a.eval o=aGe (zJ (lift l) []) o:=by
     refine execOp_congr o (λcs b e1=>by rw[e1]at hav; cases hav.1) λx D=>?_;have h2:=hav.2;simp only[aEC,aFs]at h2;obtain⟨v,J⟩:=aEq.1 (h2 x D);rw[gY (Std.act a) (gX (bZ S.s) o x D) (p:=[]) I J];simp[zJ,J]
    have ab:ev0 P k'=some (.value (.s (some ⟨w.heap.size,0,none⟩) m m)):=by
     unfold je at J;split at J
     .rename_i h; obtain h2:=aDo J; rw[h]; simp only[Gp.val.injEq]at h2; rw[h2]
     .cases J
     cases J
    have J:(aGe a.eval o).run P w = .ok (.value (.s (some ⟨w.heap.size,0,none⟩) m m)) (w.alloc (.cells A'.toArray ty)):=by rw[hc,nM hev,oC ab]
    unfold aiw;rw[aDb (by simp[Region.wanted,hg])];left;unfold Oper.wp;rw[J];simp only[Oper.upon];have J:Ext w (w.alloc (.cells A'.toArray ty)):=aH _ _;have ho:(w.alloc (.cells A'.toArray ty)).ownsRow w.heap.size ty k (.s (some ⟨w.heap.size,0,none⟩) m m) m A':=
     ⟨hA,.inr ⟨w.heap.size,m,A'.toArray,I,aDd _,Array.getElem?_push_size,aDd _,hm,by simpa using hA,by rw[<-hA]; simp⟩⟩
    rw[aa];exact next _ _ _ J (Stp.add (r:=⟨ty,k,_,m,A'⟩) J ho (aDd _)) ((R.ext J).add (r:=⟨ty,k,_,m,A'⟩) ho (λb hb=>R.lt b hb) S.E.size) ((S.grow J).act (uh S.s hd _))
   cases D
  cases D
theorem D8(b:Nat)(e:aix)(J:Nat×Nat):∀(S:List aaT) (o:Nat) (w:VO) (D:Array aaT),w.heap[b]?=some (.cells D e J)->o+S.length<=D.size->(w.setCells b o S).heap[b]?=some (.cells (spl D.toList o S).toArray e J)
 | [],o,w,D,h,hl=>by simp[World.setCells,h,spl]
 | v::r,o,w,D,h,hl=>by
  have S:(w.setCell ⟨b,o,none⟩ v).heap[b]?=some (.cells (D.setIfInBounds o v) e J):=by simp[World.setCell,Array.getElem?_modify,h]
  have aa:o+(r.length+1)<=D.size:=by simpa using hl
  rw[World.setCells,D8 b e J r (o+1) _ _ S (by simp; omega)]
  have:spl (D.setIfInBounds o v).toList (o+1) r=spl D.toList o (v::r):=by
   rw[Array.toList_setIfInBounds]
   have J:o<D.toList.length:=by simp; omega
   generalize D.toList=c at J
   obtain⟨p,x,q,rfl,rfl⟩:∃p x q,c=p++x::q∧p.length=o:=⟨c.take o,c[o],c.drop (o+1),by rw[<-aEu J,aEH],by simp; omega⟩
   unfold spl
   have D:List.take (p.length+1) p=p:=aDG Z
   simp[List.take_append,List.drop_append,Nat.add_assoc,Nat.add_comm 1,D]
  rw[this]
abbrev BX{D:Array aaT}(h:w.heap[b]?=some (.cells D e (0,0))):Bx w b D:=by
 refine⟨?_,λi=>?_,λi=>?_⟩
 .by_cases hlt:b<w.heap.size
  .exact hlt
  rw[Array.getElem?_eq_none Z]at h; cases h
 .simp[World.cell?,h]
 simp[World.frozen?,h]
abbrev ahq{A:List aaT}{o q:Nat}(h:o+cs.length<=q):(spl A o cs).take q=spl (A.take q) o cs:=by
 unfold spl;refine List.ext_getElem? λi=>?_;simp only[List.getElem?_append,List.getElem?_take,List.getElem?_drop,aDg,aD4];by_cases hA:o<=A.length
 .simp only[aEW hA,aEW (show o<=min q A.length by omega)];by_cases h1:i<o
  .simp[h1,show i<q by omega,show i<o+cs.length by omega]
  by_cases h2:i<o+cs.length
  .simp[h1,h2,show i<q by omega]
  by_cases h3:i<q
  .simp[h2,h3,show o+cs.length+(i-(o+cs.length))<q by omega]
  simp[h2,h3,show ¬o+cs.length+(i-(o+cs.length))<q by omega]
 simp only[Nat.min_eq_right (show A.length<=o by omega),Nat.min_eq_right (show A.length<=q by omega)];by_cases h1:i<A.length
 .simp[h1,show i<q by omega,show i<o by omega,show i<A.length+cs.length by omega]
 by_cases h2:i<A.length+cs.length
 .simp[h1,h2,show i<q by omega]
 have D:∀x,A[o+cs.length+x]?=none:=λx=>List.getElem?_eq_none Z;simp[h2,D]
abbrev Rw.store{j:Nat}{r:Row}{g off cap:Nat}{cs:List aaT}(R:Rw w0 w bl rs)(D:rs[j]?=some r)(S:r.v = .s (some ⟨g,0,none⟩) r.n cap)(J:off+cs.length<=r.xs.length) :
  ∃A:List aaT,Bx w g A.toArray∧off+cs.length<=A.length∧w.grownBy (w.setCells g off cs) r.v.ownBlock∧(w.setCells g off cs).ownsRow w0.heap.size r.e r.k r.v r.n (spl r.xs off cs):=by
 have ho:=R.own r (List.mem_of_getElem? D);obtain⟨h1,⟨hn,-⟩ | ⟨g',cap',D,J,h2,h3,h4,h5,h6,h7⟩⟩:=ho
 .rw[S]at hn; cases hn
 rw[S]at J;simp only[aDO,aDe,aEZ,and_true,true_and]at J;obtain⟨rfl,rfl⟩:=J;have J:r.n*r.k<=D.toList.length:=by
  rw[Array.length_toList,h6]; exact aEM _ h4
 refine⟨D.toList,by simpa using BX h3,Z,?_,?_⟩
 .rw[S]; exact(Ch.refl g w).setCells ..
 refine⟨?_,.inr ⟨g,cap,(spl D.toList off cs).toArray,S,h2,D8 g r.e (0,0) cs off w D h3 (by simp at J |-; omega),h4,h5,?_,?_⟩⟩
 .unfold spl; simp; omega
 .unfold spl; simp at J |-; omega
 rw[show(spl D.toList off cs).toArray.toList=spl D.toList off cs from rfl,ahq Z,h7]
abbrev Uf(S:St w0 a w n l bl vs)(R:Rw w0 w bl rs)(j:Nat)(hj:rs[j]?=some r)(J:r.v = .s (some ⟨g,0,none⟩) r.n cap)(hf:off+cs.length<=r.xs.length)
  (next:∀w',Stp (Ob bl rs) w (Ob bl (rs.set j ⟨r.e,r.k,r.v,r.n,spl r.xs off cs⟩)) w'->Rw w0 w' bl (rs.set j ⟨r.e,r.k,r.v,r.n,spl r.xs off cs⟩)->St w0 a w' n l bl []->aiw P ops Q (os.drop 1) a w')
  (hx:lZ P os l=some (g,off,.agg cs.toArray,cs.length):=by kernel_rfl) (h1:cs.all (·.oneCell')=true:=by kernel_rfl):aiw P ops Q os a w:=by
 obtain⟨o,os',ty,x,y,rfl,hg,aa,D,ac,ae,hi⟩:=qJ hx;obtain⟨A,af,ag,ab,ho⟩:=R.store hj J hf;have J:=gX (bZ S.s) o;have ex:a.eval x = .q g off:=gY (Std.act a) (J x (by rw[D]; simp[Op.operands])) (p:=[]) I ac;have ey:a.eval y = .agg cs.toArray:=gY (Std.act a) (J y (by rw[D]; simp[Op.operands])) (p:=[]) I ae;have J:=Om (P:=P) D ex ey af hi ag h1;obtain⟨D,A03⟩:=R.set (r':=⟨r.e,r.k,r.v,r.n,spl r.xs off cs⟩) hj ab ho (.inl I);unfold aiw;rw[aDb (by simp[Region.wanted,hg])];left;unfold Oper.wp;rw[J];simp only[Oper.upon];rw[aa];exact next _ A03 D (S.grown R (List.mem_of_getElem? hj) ab)
abbrev Zk{y:aGf}{A:List aaT}(ab:o.op = .store ty x y)(hx:ρ x = .q b off)(hy:ρ y=v)(S:Bx w b A.toArray)
  (hi:(P.info? ty).map (·.size)=some 1) (J:off<A.length) (h1:v.cells = #[v]) (ac:v.oneCell'=true):(aGe ρ o).run P w = .ok .skip (w.setCells b off [v]):=by
 have D:=S.2.1 off;rw[Array.getElem?_eq_getElem (by simpa using J)]at D;have J:(Instr.storeAt ty (.q b off) v).run P w = .ok () (w.setCells b off [v]):=by
  cases hq:P.info? ty with
  | none=>simp[hq]at hi
  | some i =>
   have aa:i.size=1:=by simpa[hq]using hi
   have:=run_storeCells_cells (P:=P) b off [v] 0 w (λj hj=>by
    have:j=0:=by simpa using hj
    subst this; simp[D]) (λj hj=>by simpa using S.2.2 (off+j)) (λu D=>by simp at D; subst D; exact ac)
   simp only[aFe]at this;simp[Instr.storeAt,Instr.sureAddr,storeVar,sizeOf,typeInfo,hq,h1,aa,this]
 unfold aGe;simp only[ab,hx,hy,aEe,J,aFq,aFy]
abbrev NW(S:St w0 a w n l bl vs)(R:Rw w0 w bl rs)(j:Nat)(hj:rs[j]?=some r)(J:r.v = .s (some ⟨g,0,none⟩) r.n cap)(hf:off+1<=r.xs.length)
  (next:∀w',Stp (Ob bl rs) w (Ob bl (rs.set j ⟨r.e,r.k,r.v,r.n,spl r.xs off [v]⟩)) w'->Rw w0 w' bl (rs.set j ⟨r.e,r.k,r.v,r.n,spl r.xs off [v]⟩)->St w0 a w' n l bl []->aiw P ops Q (os.drop 1) a w')
  (hx:lZ P os l=some (g,off,v,1):=by kernel_rfl) (h1:v.cells = #[v]:=by kernel_rfl) (ah:v.oneCell'=true:=by kernel_rfl):aiw P ops Q os a w:=by
 obtain⟨o,os',ty,x,y,rfl,hg,aa,D,ac,ae,hi⟩:=qJ hx;obtain⟨A,af,ag,ab,ho⟩:=R.store (cs:=[v]) hj J hf;have J:=gX (bZ S.s) o;have ex:a.eval x = .q g off:=gY (Std.act a) (J x (by rw[D]; simp[Op.operands])) (p:=[]) I ac;have ey:a.eval y=v:=gY (Std.act a) (J y (by rw[D]; simp[Op.operands])) (p:=[]) I ae;have J:=Zk (P:=P) D ex ey af hi (by simp at ag; omega) h1 ah;obtain⟨D,A03⟩:=R.set (r':=⟨r.e,r.k,r.v,r.n,spl r.xs off [v]⟩) hj ab ho (.inl I);unfold aiw;rw[aDb (by simp[Region.wanted,hg])];left;unfold Oper.wp;rw[J];simp only[Oper.upon];rw[aa];exact next _ A03 D (S.grown R (List.mem_of_getElem? hj) ab)
abbrev Rw.range{r:Row}{g cap:Nat}(R:Rw w0 w bl rs)(hr:r∈rs)(J:r.v = .s (some ⟨g,0,none⟩) r.n cap)(o:Nat){cs:List aaT}(h:(r.xs.drop o).take cs.length=cs):w.rangeAt g o cs∧g<w.heap.size∧∀p∈bl,p.1≠g:=by
 have S:=R.own r hr;have hb:r.v.ownBlock=some g:=by rw[J]; rfl
 refine⟨λj u D=>?_,(iW S hb).2,λp hp e=>?_⟩
 .obtain⟨h1,⟨hn,-⟩ | ⟨g',cap',cur,hv',h2,h3,h4,h5,h6,h7⟩⟩:=S
  .rw[J]at hn; cases hn
  rw[J]at hv';simp only[aDO,aDe,aEZ,and_true,true_and]at hv';obtain⟨rfl,rfl⟩:=hv';rw[(BX h3).2.1];have J:r.xs[o+j]?=some u:=by
   rw[<-h,List.getElem?_take]at D;split at D
   .rwa [List.getElem?_drop]at D
   cases D
  rw[<-h7,List.getElem?_take]at J;split at J
  .simpa using J
  cases J
 have hd:=aEL.1 R.apart;subst e;exact hd.2.2 p.1 (aDJ.2 ⟨p,hp,I⟩) p.1 (aEQ.2 ⟨r,hr,hb⟩) I
theorem rZ{α β:Type}{f:α->List β}{k:Nat}(D:∀x,(f x).length=k):∀(l:List α) (i:Nat) (h:i<l.length) (j:Nat),j<k->(l.flatMap f)[i*k+j]?=(f l[i])[j]?
 | x::l,0,_,j,hj=>by
  rw[aEn,List.getElem?_append_left (by rw[D]; omega)]; simp
 | x::l,i+1,h,j,hj=>by
  rw[aEn,List.getElem?_append_right (by rw[D,aEO]; omega),D,show(i+1)*k+j-k=i*k+j by rw[aEO]; omega]
  exact rZ D l i (by simpa using h) j hj
theorem jF{α β:Type}{f:α->List β}{k:Nat}(D:∀x,(f x).length=k):∀l:List α,(l.flatMap f).length=l.length*k
 | []=>by simp
 | x::l=>by rw[aEn,aDg,D,jF D l,aDU,aEO]; omega
abbrev jq{B:Nat}{L:List α}(hf:∀x,(f x).length=k)(S:w.ownsRow B e k v m xs)(D:m=L.length)(J:xs=L.flatMap f):bn B (λw=>aI k f w v L) w:=by
 intro w' hs hb;subst D J;obtain⟨h1,⟨rfl,D⟩ | ⟨g,cap,J,rfl,h2,h3,h4,h5,h6,h7⟩⟩:=S
 .obtain rfl:=aEA D;exact dJ k f w'
 have D:=(BX h3).1;refine⟨_,cap,I,h5,.inr ⟨g,0,I,aDL D hs,h4,λi S j hj=>?_⟩⟩;have J:=hb g D h2;rw[World.cell?_of_block (a:=⟨g,0+i*k+j,none⟩) J,(BX h3).2.1,aEa,<-rZ hf L i S j hj,<-h7,List.getElem?_take_of_lt]
 .simp
 calc i*k+j<i*k+k:=by omega
  _=(i+1)*k:=by rw[aEO]; omega
  _<=L.length*k:=aEM _ S
def Ty(e:aix)(k base:Nat)(v:aaT)(n:Nat)(w:VO):Prop:=n=0∨∃g cap D,v = .s (some ⟨g,0,none⟩) n cap∧base<=g∧w.heap[g]?=some (.cells D e (0,0))∧n*k<=D.size
abbrev Ty.le{e:aix}{k base b0 n:Nat}{v:aaT}(h:Ty e k base v n w)(hb:b0<=base):Ty e k b0 v n w:=by
 rcases h with h | ⟨g,cap,D,J,S,h3⟩
 .exact .inl h
 exact .inr ⟨g,cap,D,J,aDy hb S,h3⟩
abbrev Ty.aoN{B k:Nat}{e:aix}{v:aaT}{m:Nat}{xs:List aaT}(ho:w.ownsRow B e k v m xs):bn B (Ty e k B v m) w:=by
 intro w' D hb;obtain⟨h1,⟨rfl,h0⟩ | ⟨g,cap,D,rfl,J,S,h4,h5,h6,h7⟩⟩:=ho
 .exact .inl h0
 exact .inr ⟨g,cap,D,I,J,(hb g (BX S).1 J).trans S,by rw[h6]; exact aEM _ h4⟩
def kR{α:Type}(e:aix)(k:Nat)(f:α->List aaT)(base:Nat)(v:aaT)(L:List α)(w:VO):Prop:=aI k f w v L∧Ty e k base v L.length w
abbrev kR.le{α:Type}{e:aix}{k base b0:Nat}{f:α->List aaT}{v:aaT}{L:List α}(h:kR e k f base v L w)(D:b0<=base):kR e k f b0 v L w:=⟨h.1,h.2.le D⟩
abbrev fV{B:Nat}{L:List α}(S:∀x,(f x).length=k)(D:w.ownsRow B e k v m xs)(J:m=L.length)(hx:xs=L.flatMap f):bn B (kR e k f B v L) w:=
 On.and (jq S D J hx) (J▸Ty.aoN D)
abbrev kS{L:List α}(h:aI k f w v L)(S:∀x,(f x).length=k)(J:∀x,(f x).all (·.oneCell')=true):dR w k v L.length (L.flatMap f):=by
 refine⟨jF S L,λu D=>?_,?_⟩
 .obtain⟨x,_,hx⟩:=List.mem_flatMap.1 D;exact aDF.1 (J x) u hx
 obtain⟨a,cap,rfl,D,⟨rfl,h⟩ | ⟨b,o,rfl,hb,hl,hc⟩⟩:=h
 .exact .inl ⟨I,a,cap,I,h⟩
 refine .inr ⟨b,o,cap,I,hb,hl,D,λj u J=>?_⟩;have D:j<L.length*k:=by
  rw[<-jF S L];by_cases h:j<(L.flatMap f).length
  .exact h
  rw[List.getElem?_eq_none Z]at J; cases J
 have hk:0<k:=by
  rcases aD0 k with rfl | h
  .simp at D
  exact h
 have hi:j/k<L.length:=(aF4 hk).2 D;have D:=hc (j/k) hi (j%k) (aEF _ hk);have e:j/k*k+j%k=j:=by rw[aDW]; exact Nat.div_add_mod j k
 rw[<-rZ S L (j/k) hi (j%k) (aEF _ hk),e,aE4,e,J]at D;exact D
abbrev vb (bl:List (Nat×List aaT)):List Nat:=bl.map (·.1)
abbrev Stp.aiW{A05 D:List Nat}{b:Nat}(h:Stp A05 w D w')(J:w.heap.size<=b):Stp A05 w (b::D) w':=⟨h.fr,λc D=>by
 rcases aDp.1 D with rfl | D
 .exact .inr J
 exact h.new c D⟩
abbrev Stp.ql{A05:List Nat}{b:Nat}(D:Ext w w')(J:b=w.heap.size):Stp A05 w (b::A05) w':=(Stp.ext D).aiW (aFI J.symm)
abbrev Stp.Jp{A05:List Nat}{b:Nat}(D:Ch b w w')(J:b∈A05:=by simp[Go.Sx.vb]):Stp A05 w A05 w':=
 ⟨⟨D.os,D.tape,D.output,D.size,λi J hn=>D.block i J λe=>hn (by simp only[aDe]at e; rwa [e])⟩,λc h => .inl h⟩
abbrev Stp.jX(k:Nat):Stp (vb bl) w (vb (bl.drop k)) w:=Stp.sub λ_ h=>(List.Sublist.map _ (List.drop_sublist k bl)).subset h
abbrev Stp.full{D:List (Nat×List aaT)}(h:Stp (vb bl) w (vb D) w'):Stp (Ob bl rs) w (Ob D rs) w':=
 ⟨⟨h.fr.os,h.fr.tape,h.fr.output,h.fr.size,λi D hn=>h.fr.block i D λJ=>hn (aFu _ J)⟩,λb D=>by
  rcases aDT.1 D with D | D
  .exact(h.new b D).imp (aFu _) id
  .exact .inl (aFb _ D)⟩
abbrev Rw.sync{J:List (Nat×List aaT)}{aa:List fE}{l':List (Nat×aaT)}{a':aGh}(R:Rw w0 w bl rs)(D:Stp (vb bl) w (vb J) w')(S:St w0 a' w' n l' J aa):Rw w0 w' J rs:=by
 have hd:=aEL.1 R.apart;refine⟨λr J=>nC (R.own r J) λg hg=>D.fr.block g (R.lt g (jM J hg)) λhm=>hd.2.2 g hm g (aEQ.2 ⟨r,J,hg⟩) I,λb hb=>?_,aEL.2 ⟨S.apart,hd.2.1,λx hx y J e=>?_⟩⟩
 .rcases aDT.1 hb with h | h
  .obtain⟨p,hp,rfl⟩:=aDJ.1 h; exact(S.own p hp).1.1
  exact aDL (R.lt b (aFb _ h)) D.fr.size
 subst e;rcases D.new x hx with h | h
 .exact hd.2.2 x h x J I
 have:=R.lt x (aFb _ J); omega
abbrev Rw.bH{J:List (Nat×List aaT)}{aa:List fE}{l':List (Nat×aaT)}{a':aGh}(R:Rw w0 w bl rs)(S:St w0 a' w' n l' J aa)(D:Stp (vb bl) w (vb J) w'):Rw w0 w' J rs∧Stp (Ob bl rs) w (Ob J rs) w':=⟨R.sync D S,D.full⟩
abbrev Rw.as{D:List Row}(R:Rw w0 w bl rs)(h:rs=D):Rw w0 w bl D:=h▸R
abbrev jh{B:Nat}(h:w.ownsRow B e k v m xs):∃a c,v = .s a m c:=by
 obtain⟨J,⟨rfl,rfl⟩ | ⟨g,cap,D,rfl,_⟩⟩:=h
 .exact⟨none,0,I⟩
 exact⟨_,cap,I⟩
abbrev oH{A:List aaT}(D:Bx w b A.toArray)(hA:A.length=m*k:=by rfl)(hm:m<=maxLen:=by decide)(h1:A.all (·.oneCell')=true:=by kernel_rfl):dR w k (.s (some ⟨b,0,none⟩) m m) m A:=
 ⟨hA,λu J=>aDF.1 h1 u J,.inr ⟨b,0,m,I,D.1,aDd _,hm,λj u S=>by rw[aEa,D.2.1]; simpa using S⟩⟩
abbrev wG{i:TypeInfo}(D:P.underlying t=some (.slice e))(J:P.info? e=some i)(ad y:Option Addr)(n cap c:Nat)(hn:n<=cap):(Builtin.append_ #[t,t] ty #[.s ad n cap,.s y 0 c]).run P w = .ok (.s ad n cap) w:=by
 cases ad<;>cases y<;>simp[Builtin.append_,run_underlying D,sizeOf,typeInfo,J,Builtin.lenOf,Builtin.firstCells,hn,storeCells,loadCells,loadCellsFrom]
abbrev IX(ho:o.op = .call { callee := .builtin .append,args := #[s,x],argTypes := #[t,t] }){z:aaT}{bytes:Nat}(T:gI P t e z k bytes)
     (hv:dR w k (.s (some ad) m cap) m xs) (hs:ρ s = .s (some ad) m cap)    (J:dR w k y c ys) (hx:ρ x=y) (hc:cap<m+c) (aa:0<c) (ah:m+c<=maxLen) (D:(m+c)*bytes<=140737488355328) :
  ∃v' w',(aGe ρ o).run P w = .ok (.value v') w'∧w'.ownsRow w.heap.size e k v' (m+c) (xs++ys)∧Ext w w':=by
 obtain⟨i,hi,ab,ac,ae⟩:=T.info;obtain⟨hl,S,J⟩:=J;rcases J with ⟨rfl,_⟩ | ⟨b,off,cap',rfl,S,hn,hm,ag⟩
 .omega
 have cells:∀(b off:Nat) (J:List aaT),(∀(j:Nat) u,J[j]?=some u->w.cell? ⟨b,off+j,none⟩=some u)->∀(j:Nat) u,J[j]?=some u->w.cell? ((⟨b,off,none⟩:Addr).add j)=some u:=λb off J h j u hj=>by
  have J:(⟨b,off,none⟩:Addr).add j=⟨b,off+j,none⟩:=by unfold Addr.add; split<;>simp_all
  rw[J]; exact h j u hj
 have J:∀(j:Nat) u,xs[j]?=some u->w.cell? (ad.add j)=some u:=by
  obtain⟨af,_,hv⟩:=hv;rcases hv with ⟨rfl,_⟩ | ⟨b0,o0,ai,S,_,_,_,aa⟩
  .obtain rfl:xs=[]:=aEA (by simpa using af);intro j u hj; simp at hj
  simp only[aDO,aDe]at S;obtain⟨rfl,-,-⟩:=S;exact cells b0 o0 xs aa
 obtain⟨v',w',S,h2,h3⟩:=run_append_arg_grows (P:=P) w t o.type e i z k bytes T.und hi ab ac ae T.zc T.pos ad m cap xs hv.1 J ⟨b,off,none⟩ c cap' ys hl (cells b off ys ag) hc ah D;refine⟨v',w',?_,h2,gU (aDC _ _) h3 (aDd _)⟩;unfold aGe;simp only[ho,resolve,invoke,builtin,aEe,aFy,aFq,aFO,aD1,aEr,hs,hx,S]
abbrev adw(ho:o.op = .call { callee := .builtin .append,args := #[s,x],argTypes := #[t,t] }){z:aaT}{bytes:Nat}(T:gI P t e z k bytes)
   (hs:ρ s = .s (some ad) 0 0)  {L:List α} (hy:aI k f w y L) (hx:ρ x=y) (hf:∀x,(f x).length=k) (h1:∀x,(f x).all (·.oneCell')=true) (D:L.length*bytes<=140737488355328) :
  ∃S w',(aGe ρ o).run P w = .ok (.value S) w'∧bn w.heap.size (kR e k f w.heap.size S L) w'∧Ext w w':=by
 rcases List.eq_nil_or_concat L with rfl | aa
 .obtain⟨a,c,rfl⟩:=hy.shape;obtain⟨i,J,-⟩:=T.info;refine⟨.s (some ad) 0 0,w,?_,λw' _ _=>⟨⟨_,0,I,aDl _,.inl ⟨I,λe=>(by cases e)⟩⟩,.inl I⟩,K01⟩;unfold aGe;have hr:=wG (P:=P) (w:=w) (ty:=o.type) T.und J (some ad) a 0 0 c (aDd _);simp only[ho,resolve,invoke,builtin,aEe,aFy,aFq,aFO,aD1,aEr,hs,hx,aEt,hr]
 have J:0<L.length:=by obtain⟨M,z,rfl⟩:=aa; simp
 obtain⟨S,w',hr,h2,h3⟩:=IX (P:=P) ho T (m:=0) (cap:=0) (xs:=[]) (ad:=ad) ⟨by simp,λu hu=>(by cases hu),.inl ⟨I,some ad,0,I,λe=>(by cases e)⟩⟩ hs (kS hy hf h1) hx Z J (by have:=hy.len; omega) (by rw[aEa]; exact D);exact⟨S,w',hr,fV hf h2 (aEa _) (aD8 _),h3⟩
abbrev ayL(S:St w0 a w n l bl vs){z:aaT}{bytes:Nat}(d:Nat)(T:gI P t e z k bytes){L:List α}(hy:aI k f w y L)(D:L.length*bytes<=140737488355328)
  (next:∀J w' v',Ext w w'->bn w.heap.size (kR e k f w.heap.size v' L) w'->St w0 J w' n ((d,v')::l) bl vs->aiw P ops Q (os.drop 1) J w')
  (hx:JG os l=some (t,.s (some ad) 0 0,y,some d):=by kernel_rfl) (hf:∀x,(f x).length=k:=by intro x; rfl) (h1:∀x,(f x).all (·.oneCell')=true:=by intro x; rfl) (hd:uO n (some d)=true:=by rfl):aiw P ops Q os a w:=by
 obtain⟨o,os',s,x,rfl,hg,ab,J,hs,ae⟩:=Cc hx;have aa:=gX (bZ S.s) o;have es:a.eval s = .s (some ad) 0 0:=gY (Std.act a) (aa s (by rw[J]; simp[Op.operands,Call.operands])) (p:=[]) I hs;have ex:a.eval x=y:=gY (Std.act a) (aa x (by rw[J]; simp[Op.operands,Call.operands])) (p:=[]) I ae;obtain⟨v',w',ac,h2,h3⟩:=adw (P:=P) J T es hy ex hf h1 D;unfold aiw;rw[aDb (by simp[Region.wanted,hg])];left;unfold Oper.wp;rw[ac];simp only[Oper.upon];rw[ab];exact next _ _ v' h3 h2 ((S.grow h3).act (uh S.s hd v'))
abbrev asF(S:St w0 a w n l bl vs)(R:Rw w0 w bl rs){z:aaT}{bytes:Nat}(d:Nat)(T:gI P t e z k bytes)(hv:dR w k (.s (some ad) m cap) m xs)(hy:dR w k y c ys)(hc:cap<m+c)(ag:0<c)(ah:m+c<=maxLen)(D:(m+c)*bytes<=140737488355328)
  (next:∀a' w' J,Ext w w'->Stp (Ob bl rs) w (Ob bl (⟨e,k,J,m+c,xs++ys⟩::rs)) w'->Rw w0 w' bl (⟨e,k,J,m+c,xs++ys⟩::rs)->St w0 a' w' n ((d,J)::l) bl vs->aiw P ops Q (os.drop 1) a' w')
  (hx:JG os l=some (t,.s (some ad) m cap,y,some d):=by kernel_rfl) (hd:uO n (some d)=true:=by rfl):aiw P ops Q os a w:=by
 obtain⟨o,os',s,x,rfl,hg,ac,aa,hs,af⟩:=Cc hx;have ab:=gX (bZ S.s) o;have es:a.eval s = .s (some ad) m cap:=gY (Std.act a) (ab s (by rw[aa]; simp[Op.operands,Call.operands])) (p:=[]) I hs;have ex:a.eval x=y:=gY (Std.act a) (ab x (by rw[aa]; simp[Op.operands,Call.operands])) (p:=[]) I af;obtain⟨J,w',ae,h2,h3⟩:=IX (P:=P) aa T hv es hy ex hc ag ah D;unfold aiw;rw[aDb (by simp[Region.wanted,hg])];left;unfold Oper.wp;rw[ae];simp only[Oper.upon];rw[ac];exact next _ _ J h3 (Stp.add (r:=⟨e,k,J,m+c,xs++ys⟩) h3 h2 (aDd _)) ((R.ext h3).add (r:=⟨e,k,J,m+c,xs++ys⟩) h2 R.lt S.E.size) ((S.grow h3).act (uh S.s hd J))
end
def yT(Q:aGg->aGh->VO->Prop):aGg->aGh->VO->Prop
 | .normal,a,w=>Q .normal a w
 | _,_,_=>False
section
variable{P:ahe}{ops ops':Array ahk}{Q:aGg->aGh->VO->Prop}{a:aGh}{w:VO}
abbrev oz:¬LetsOut (yT Q):=λ⟨_,_,h⟩=>h
abbrev ahr{i:Nat}{K J:aGh->VO->Prop}(D:∀a w,K a w->J a w)(h:wpOp P ops (yT Q) i K a w):wpOp P ops Q i J a w:=by
 unfold wpOp at *;split at h
 .exact D _ _ h
 split at h
 .rename_i hw;rw[aDb hw];rcases h with h | ⟨_,h⟩
  .left;unfold Oper.wp at *;generalize (aGe a.eval _).run P w=r at *;cases r with
   | ok n w' =>
    cases n<;>simp only[Oper.upon]at h |-;case value u=>exact D _ _ h
    case skip=>exact D _ _ h
    case defer d=>exact D _ _ h
    case enter f args =>
     refine Calls.mono h λe S J=>?_;cases e with
     | returned u=>exact D _ _ J
     | panicked c=>exact J.elim
     | outgrown=>exact(oz J).elim
    case row row args=>exact Rows.mono h λu S J=>D _ _ J
   | halt x w' =>
    cases x<;>simp only[Oper.upon]at h |-;case panic u=>exact h.elim
  exact(oz h).elim
 rename_i hw;rw[aC9 hw];exact D _ _ h
theorem uf{md:Region.Mode}:∀(f:Nat) (D:Array Bool) (a:aGh) (w:VO),aGm P md ops (yT Q) f D a w->aGm P md ops Q f D a w
 | 0,_,_,_,h=>⟨h.1,h.2⟩
 | f+1,_,_,_,h=>⟨λD=>h.1 D,λi J=>ahr (λa w=>uf f _ a w) (h.2 i J)⟩
def Alike(ops ops':Array ahk):Prop:=ops.size=ops'.size∧∀i:Nat,(ops[i]?).map (λo:ahk=>(o.op,o.dst,o.guard,o.type,o.pos))=(ops'[i]?).map (λo:ahk=>(o.op,o.dst,o.guard,o.type,o.pos))
abbrev Alike.get(h:Alike ops ops'){i:Nat}{o':ahk}(J:ops'[i]?=some o'):∃D,ops[i]?=some { o' with after:=D }:=by
 have:=h.2 i;rw[J]at this;cases ho:ops[i]? with
 | none=>rw[ho]at this; cases this
 | some o =>
  rw[ho]at this;obtain⟨dst,op,J,pos,after,D⟩:=o;obtain⟨aa,ac,S,ab,D,J⟩:=o';simp only[aD3,aDe,aDm]at this;obtain⟨rfl,rfl,rfl,rfl,rfl⟩:=this;exact⟨after,I⟩
theorem Alike.none(h:Alike ops ops'){i:Nat}(D:ops'[i]?=none):ops[i]?=none:=by
 have:=h.2 i;rw[D]at this;cases ho:ops[i]? with
 | none=>rfl
 | some o=>rw[ho]at this; cases this
abbrev Alike.yielded(h:Alike ops ops')(ts:Array aaT):Go.yielded ops ts=Go.yielded ops' ts:=by
 funext j;unfold Go.yielded;have:=h.2 j;cases h1:ops[j]?<;>cases h2:ops'[j]?<;>rw[h1,h2]at this
 .cases this
 .cases this
 simp only[aD3,aDe,aDm]at this;simp only[aFi,this.2.1]
abbrev K07{ρ:aGf->aaT}{o:ahk}{D:Array Edge}:aGe ρ { o with after:=D }=aGe ρ o:=by
 obtain⟨dst,op,J,pos,after,D⟩:=o;rfl
abbrev Alike.wpOp(h:Alike ops ops'){i:Nat}{K J:aGh->VO->Prop}(S:∀a w,K a w->J a w)(D:Go.wpOp P ops Q i K a w):Go.wpOp P ops' Q i J a w:=by
 refine wpOp_mono S ?_;unfold Go.wpOp at *;cases hi:ops'[i]? with
 | none=>rw[h.none hi]at D; exact D
 | some o' =>
  obtain⟨S,J⟩:=h.get hi;rw[J]at D;simp only at D |-;rw[h.yielded]at D;have J:Region.wanted { o' with after:=S }=Region.wanted o':=I;rw[J]at D;unfold Oper.wp Oper.asks at *;simp only[K07]at D;exact D
abbrev FT{F:List Nat}(h:Alike ops ops')(hF:∀(i:Nat) (o S:ahk),ops[i]?=some o->ops'[i]?=some S->∀e∈o.after,Region.binds .any e=true->e.on∈F∨∃J∈S.after,Region.binds .any J=true∧J.on=e.on)
  (ae:∀(i:Nat) (o S:ahk),ops[i]?=some o->ops'[i]?=some S->∀e∈S.after,Region.binds .any e=true->∃J∈o.after,Region.binds .any J=true∧J.on=e.on) :
  ∀(f:Nat) (D:Array Bool) (a:aGh) (w:VO),(∀i∈F,D.getD i false=true)->aGm P .any ops Q f D a w->aGm P .any ops' Q f D a w:=by
 have hr:∀D:Array Bool,(∀i∈F,D.getD i false=true)->∀j,j∈Region.ready .any ops' D↔j∈Region.ready .any ops D:=by
  intro D hl j;rw[mem_ready,mem_ready];constructor
  .rintro⟨h0,S,ho',hall⟩;obtain⟨af,ho⟩:=h.get ho';refine⟨h0,_,ho,λe he hb=>?_⟩;rcases hF j _ _ ho ho' e he hb with h1 | ⟨J,aa,ab,ac⟩
   .exact hl _ h1
   rw[<-ac]; exact hall J aa ab
  rintro⟨h0,o,ho,hall⟩;cases ho':ops'[j]? with
  | none=>rw[h.none ho']at ho; cases ho
  | some S =>
   refine⟨h0,S,I,λe he hb=>?_⟩;obtain⟨J,aa,ab,ac⟩:=ae j _ _ ho ho' e he hb;rw[<-ac]; exact hall J aa ab
 have J:∀D:Array Bool,(∀i∈F,D.getD i false=true)->(Region.ready .any ops' D=[]↔Region.ready .any ops D=[]):=λD hl=>by
  simp only[aF7,hr D hl]
 intro f;induction f with
 | zero=>exact λD a w hl S=>⟨(J D hl).2 S.1,S.2⟩
 | succ f ih =>
  exact λD a w hl S=>⟨λh0=>S.1 ((J D hl).1 h0),λi hi=>h.wpOp (λa w=>ih _ a w λj J=>getD_set_true (hl j J)) (S.2 i ((hr D hl i).1 hi))⟩
def takeB(ops ops':Array ahk):List Nat->Array Bool->Bool
 | [],_=>true
 | p::F,listed=>(match ops[p]?,ops'[p]? with
  | some o,some o'=>(match o.op,o'.op,o.guard,o'.guard with | .move (.tmp x),.move (.tmp y),none,none=>x==y&&o.dst==o'.dst | _,_,_,_=>false)
  | _,_=>false)&&(Region.ready .any ops listed).contains p&&(Region.ready .any ops' listed).contains p&&Region.free .any ops' listed p&&takeB ops ops' F (listed.setIfInBounds p true)
abbrev VR{ρ:aGf->aaT}{o:ahk}{x:aGf}(h:o.op = .move x)(w:VO):(aGe ρ o).run P w = .ok (.value (ρ x)) w:=by
 unfold aGe; simp only[h]; rfl
theorem VT(hs:Region.noSelect ops'=true)(A02:∀(f:Nat) (D:Array Bool) (a:aGh) (w:VO) (F:List Nat),(∀i∈F,D.getD i false=true)->True){F0:List Nat}
  (hA:∀(f:Nat) (D:Array Bool) (a:aGh) (w:VO),(∀i∈F0,D.getD i false=true)->aGm P .any ops (yT Q) f D a w->aGm P .any ops' (yT Q) f D a w) :
  ∀(F:List Nat) (f:Nat) (D:Array Bool) (a:aGh) (w:VO),takeB ops ops' F D=true->(∀i∈F0,i∈F∨D.getD i false=true)->aGm P .any ops (yT Q) (f+F.length) D a w->aGm P .any ops' (yT Q) (f+F.length) D a w
 | [],f,D,a,w,_,hl,h=>hA _ _ _ _ (λi hi=>(hl i hi).resolve_left Y) h
 | p::F,f,D,a,w,hb,hl,h=>by
  unfold takeB at hb
  simp only[aDt]at hb
  obtain⟨⟨⟨⟨h1,J⟩,h3⟩,h4⟩,h5⟩:=hb
  split at h1
  .rename_i o o' ho ho'
   split at h1
   .rename_i x y hx hy hg hg'
    simp only[aDt,aDu]at h1
    obtain⟨rfl,hd⟩:=h1
    rw[aDU,<-aE4]at h |-
    have hp:p∈Region.ready .any ops D:=by simpa using J
    have J:=h.2 p hp
    unfold Go.wpOp at J
    rw[ho]at J
    simp only[Region.wanted,hg,if_true]at J
    have aa:aGm P .any ops (yT Q) (f+F.length) (D.setIfInBounds p true) (a.put o.dst (a.eval (.tmp x))) w:=by
     rcases J with S | ⟨_,S⟩
     .unfold Oper.wp at S
      rw[VR hx]at S
      exact S
     .exact(oz S).elim
    refine wpAny_take (v:=a.eval (.tmp x)) ho' hs h4 h3 (λc a w h=>h.elim) (.inl ⟨by simp[Region.wanted,hg'],λw=>VR hy w⟩) ?_
    rw[<-hd]
    refine VT hs A02 hA F f _ _ w h5 (λi hi=>?_) aa
    rcases hl i hi with J | J
    .rcases aDp.1 J with rfl | J
     .right
      have S:i<D.size:=by
       have:=(mem_ready.1 hp).1
       by_cases h:i<D.size
       .exact h
       .rw[Array.getD_eq_getD_getElem?,Array.getElem?_eq_none Z]at this; cases this
      simp[Array.getD_eq_getD_getElem?,S]
     .exact .inl J
    .exact .inr (getD_set_true J)
   .cases h1
  .cases h1
end
def kM(F:List Nat)(t:Nat)(os:List ahk):List ahk:=os.modify t λo=>{ o with after:=o.after++(F.map λi=>({ on:=i,ground := .data }:Edge)).toArray }
def ahs(F:List Nat)(t:Nat)(os:List ahk):Bool:=Region.noSelect os.toArray&&takeB (kM F t os).toArray os.toArray F (Array.replicate os.length false)&&decide (F.length<=os.length)
abbrev tZ{F:List Nat}{t:Nat}{os:List ahk}{i:Nat}:(kM F t os)[i]?=if i=t then (os[i]?).map (λo=>{ o with after:=o.after++(F.map λi=>({ on:=i,ground := .data }:Edge)).toArray })else os[i]?:=by
 unfold kM;rw[List.getElem?_modify];by_cases h:t=i
 .subst h; simp
 rw[aC9 (λe=>h e.symm)]; simp[h]
abbrev hoist{P:ahe}{Q:aGg->aGh->VO->Prop}{a:aGh}{w:VO}{os:List ahk}{id:Nat}(F:List Nat)(t:Nat)
  (h:aGm P .any (kM F t os).toArray (yT Q) (kM F t os).toArray.size (Array.replicate (kM F t os).toArray.size false) a { w with drawn:=w.drawn+1 }) (J:P.follows .mixedOrders=true:=by kernel_rfl) (hb:ahs F t os=true:=by kernel_rfl):(Code.region id os.toArray true).wp P Q a w:=by
 unfold ahs at hb;simp only[aDt,aDv]at hb;obtain⟨⟨S,h2⟩,h3⟩:=hb;have D:(kM F t os).length=os.length:=by unfold kM; simp
 refine aFk J (uf _ _ _ _ ?_);have J:(kM F t os).toArray.size=os.toArray.size:=by simp[D]
 rw[J]at h;have aa:Alike (kM F t os).toArray os.toArray:=⟨J,λi=>by
  rw[List.getElem?_toArray,List.getElem?_toArray,tZ];split
  .cases os[i]?<;>rfl
  rfl⟩
 have key:=VT (P:=P) (Q:=Q) (ops:=(kM F t os).toArray) (ops':=os.toArray) S (λ_ _ _ _ _ _=>G) (F0:=F) (λf S a w hl hh=>FT (F:=F) aa (λi o o' D J e he hb=>?_) (λi o o' D J e he hb=>?_) f S a w hl hh) F (os.length-F.length) (Array.replicate os.length false) a { w with drawn:=w.drawn+1 } (by simpa using h2) (λi S => .inl S)
 .rw[Nat.sub_add_cancel h3]at key;simpa using key (by simpa using h)
 .rw[List.getElem?_toArray,tZ]at D;rw[List.getElem?_toArray]at J;split at D
  .rw[J]at D;simp only[aD3,aDe]at D;subst D;simp only[Array.mem_append,List.mem_toArray,aDJ]at he;rcases he with he | ⟨j,S,rfl⟩
   .exact .inr ⟨e,he,hb,I⟩
   exact .inl S
  rw[J]at D; obtain rfl:=aDo D;exact .inr ⟨e,he,hb,I⟩
 rw[List.getElem?_toArray,tZ]at D;rw[List.getElem?_toArray]at J;split at D
 .rw[J]at D;simp only[aD3,aDe]at D;subst D;exact⟨e,by simp[he],hb,I⟩
 rw[J]at D; obtain rfl:=aDo D;exact⟨e,he,hb,I⟩
inductive KI where
  | code (c:Code)
  | blk (id:Nat)
  | rel (K:aGh->VO->Prop)
  | rd (n:Nat) (c:Code)
  | bot
def zp(P:ahe)(B:aGg->aGh->VO->Prop):List KI->aGg->aGh->VO->Prop
  | []=>B
  | .code c::k=>Exit.then (c.wp P (zp P B k)) (zp P B k)
  | .blk id::k=>Exit.inBlock id (zp P B k)
  | .rel K::k=>Exit.then K (zp P B k)
  | .rd n c::k=>Exit.then (Code.rounds P c (zp P B k) n) (zp P B k)
  | .bot::k=>yT (zp P B k)
inductive Pos where
  | cd (c:Code) (k:List KI)
  | op (A:Array ahk) (os:List ahk) (k:List KI)
  | nm (k:List KI)
  | ex (id:Nat) (k:List KI)
  | rt (k:List KI)
def A02(P:ahe)(B:aGg->aGh->VO->Prop):Pos->aGh->VO->Prop
  | .cd c k=>c.wp P (zp P B k)
  | .op A os k=>aiw P A (zp P B k) os
  | .nm k=>zp P B k .normal
  | .ex id k=>zp P B k (.exit id)
  | .rt k=>zp P B k .ret
def nx1:Pos->Option Pos
  | .nm (.code c::k)=>some (.cd c k)
  | .nm (.blk _::k)=>some (.nm k)
  | .nm (.bot::k)=>some (.nm k)
  | .nm (.rd (n+1) c::k)=>some (.cd c (.rd n c::k))
  | .ex id (.code _::k)=>some (.ex id k)
  | .ex id (.rel _::k)=>some (.ex id k)
  | .ex id (.rd _ _::k)=>some (.ex id k)
  | .ex id (.blk j::k)=>(match Nat.beq id j with | true=>some (.nm k) | false=>some (.ex id k))
  | .rt (.code _::k)=>some (.rt k)
  | .rt (.blk _::k)=>some (.rt k)
  | .rt (.rel _::k)=>some (.rt k)
  | .rt (.rd _ _::k)=>some (.rt k)
  | .op _ [] k=>some (.nm k)
  | .cd .skip k=>some (.nm k)
  | .cd (.exit id) k=>some (.ex id k)
  | .cd .ret k=>some (.rt k)
  | .cd (.seq x y) k=>some (.cd x (.code y::k))
  | .cd (.block id c) k=>some (.cd c (.blk id::k))
  | .cd (.region _ ops false) k=>some (.op ops ops.toList k)
  | _=>none
def nx:Nat->Pos->Pos
  | 0,p=>p
  | f+1,p=>match nx1 p with | some q=>nx f q | none=>p
section
variable{P:ahe}{B:aGg->aGh->VO->Prop}{a:aGh}{w:VO}
abbrev aoO{p q:Pos}(h:nx1 p=some q)(D:A02 P B q a w):A02 P B p a w:=by
 unfold nx1 at h;split at h
 .obtain rfl:=aDo h; exact D
 .obtain rfl:=aDo h; exact D
 .obtain rfl:=aDo h; exact D
 .obtain rfl:=aDo h; exact D
 .obtain rfl:=aDo h; exact D
 .obtain rfl:=aDo h; exact D
 .obtain rfl:=aDo h; exact D
 .rename_i id j k;split at h
  .rename_i J;obtain rfl:=aDo h;have e:id=j:=Nat.eq_of_beq_eq_true J;show(if id=j then zp P B k .normal a w else zp P B k (.exit id) a w);rw[aDb e]; exact D
  rename_i J;obtain rfl:=aDo h;show(if id=j then zp P B k .normal a w else zp P B k (.exit id) a w);rw[aC9 (Nat.ne_of_beq_eq_false J)]; exact D
 .obtain rfl:=aDo h; exact D
 .obtain rfl:=aDo h; exact D
 .obtain rfl:=aDo h; exact D
 .obtain rfl:=aDo h; exact D
 .obtain rfl:=aDo h; exact D
 .obtain rfl:=aDo h; exact aDM D
 .obtain rfl:=aDo h; exact aEz D
 .obtain rfl:=aDo h; exact wp_ret D
 .obtain rfl:=aDo h; exact wp_seq D
 .obtain rfl:=aDo h; exact aD9 D
 .rename_i id ops k;obtain rfl:=aDo h;have J:aiw P ops.toList.toArray (zp P B k) ops.toList a w:=by rw[aFJ]; exact D
  have D:=wp_region_lit (id:=id) J;rw[aFJ]at D; exact D
 cases h
theorem alr:∀{f:Nat} {p:Pos},A02 P B (nx f p) a w->A02 P B p a w
  | 0,p,h=>h
  | f+1,p,h=>by
    unfold nx at h
    split at h
    · rename_i q D; exact aoO D (alr h)
    · exact h
end
abbrev Chk:=Env×List ahk×List Loc×List Key
def plainO(e:Env)(p:qO)(o:ahk):Bool:=
  match o.op with
  | .move _ | .assign _ | .nilCheck _ | .fieldAddr _ _ _ | .unOp _ _ _ | .makeFunc _ _ _ | .extract _ _ | .makeInterface _ _ | .build _ _ | .binOp _ _ _ _ _ | .pick _ _ _ | .load _ _ | .indexAddr _ _ _ | .index _ _ _ | .field _ _ _ | .slice _ _ _ _ _=>true
  | .convert _ _ x=>(match rd e p x with | some (.int _ _)=>true | _=>false)
  | .call c=>(match c.callee with | .builtin .len=>true | .builtin .max=>true | .builtin .min=>true | _=>false)
  | _=>false
def chunk(P:ahe)(ms:List fE)(A:Array ahk)(n:Nat):Nat->List ahk->Env->List Key->Chk
  | 0,os,e,ks=>(e,os,[],ks)
  | _+1,[],e,ks=>(e,[],[],ks)
  | m+1,o::os,e,ks =>
    match pathOf A e o with
    | none=>(e,o::os,[],ks)
    | some p =>
      match plainO e p o with
      | false=>(e,o::os,[],ks)
      | true =>
        match yF n e o.dst p,ev2 P ms e p ks o with
        | true,some (.val v,ks',L)=>(match chunk P ms A n m os (put e o.dst p v) ks' with | (e',os',L',k')=>(e',os',L++L',k'))
        | _,_=>(e,o::os,[],ks)
def settle(e:Env)(li:List Nat):List Nat->Env->List (Nat×aaT)
  | _,[]=>[]
  | sn,(i,q,v)::r =>
    match sn.contains i with
    | true=>settle e li sn r
    | false=>(match q with
      | []=>(i,v)::settle e li sn r
      | _=>(match li.contains i with
        | true=>(match jZ e q with | true=>(i,v)::settle e li sn r | false=>settle e li (i::sn) r)
        | false=>settle e li (i::sn) r))
structure Zt where
  p:Pos
  l:List (Nat×aaT)
structure Zr where
  z:Zt
  L:List Loc
  ks:List Key
def zgo(P:ahe)(ms:List fE)(n:Nat)(li:List Nat):Nat->Nat->Pos->List (Nat×aaT)->List Key->Zr
  | 0,_,p,l,ks=>⟨⟨p,l⟩,[],ks⟩
  | f+1,m,p,l,ks =>
    match nx 100 p with
    | .op A os k =>
      (match chunk P ms A n m os (lift l) ks with
      | (e',[],L,k')=>(match zgo P ms n li f (m-os.length) (.nm k) (settle e' li [] e') k' with | ⟨z,L2,k2⟩=>⟨z,L++L2,k2⟩)
      | (e',o::os',L,k')=>⟨⟨.op A (o::os') k,settle e' li [] e'⟩,L,k'⟩)
    | .cd c k=>⟨⟨.cd c k,l⟩,[],ks⟩
    | .nm k=>⟨⟨.nm k,l⟩,[],ks⟩
    | .ex i k=>⟨⟨.ex i k,l⟩,[],ks⟩
    | .rt k=>⟨⟨.rt k,l⟩,[],ks⟩
section
variable{P:ahe}{A:Array ahk}{ms:List fE}{Q:aGg->aGh->VO->Prop}{B:aGg->aGh->VO->Prop}{n:Nat}{w0 w:VO}{bl:List (Nat×List aaT)}{vs:List fE}{li:List Nat}
theorem chunk_ok:∀{m:Nat} {os:List ahk} {e:Env} {ks:List Key} {a:aGh} {L':List Loc},a.tmps.size=n->Holds a.eval e->Mem w ms->(chunk P ms A n m os e ks).2.2.1++L'=ks.map (wU ms)->zY P ks ->
    (∀J,J.tmps.size=n->J.defers=a.defers->Holds J.eval (chunk P ms A n m os e ks).1->L'=(chunk P ms A n m os e ks).2.2.2.map (wU ms)->zY P (chunk P ms A n m os e ks).2.2.2->aiw P A Q (chunk P ms A n m os e ks).2.1 J w)->aiw P A Q os a w
  | 0,os,e,ks,a,L',hsz,hh,hm,hL,hk,hn=>hn a hsz I hh (by simpa[chunk]using hL) hk
  | _+1,[],e,ks,a,L',hsz,hh,hm,hL,hk,hn=>hn a hsz I hh (by simpa[chunk]using hL) hk
  | m+1,o::os,e,ks,a,L',hsz,hh,hm,hL,hk,hn=>by
    have D:chunk P ms A n (m+1) (o::os) e ks=(e,o::os,[],ks)->aiw P A Q (o::os) a w:=λh=>by
      rw[h]at hL hn; exact hn a hsz I hh (by simpa using hL) hk
    cases hp:pathOf A e o with
    | none=>exact D (by simp[chunk,hp])
    | some p =>
     cases hpl:plainO e p o with
     | false=>exact D (by simp[chunk,hp,hpl])
     | true =>
      cases hpo:yF n e o.dst p with
      | false=>exact D (by simp[chunk,hp,hpl,hpo])
      | true =>
        cases h1:ev2 P ms e p ks o with
        | none=>exact D (by simp[chunk,hp,hpl,h1])
        | some r =>
          obtain⟨r,ks',S⟩:=r
          cases r with
          | enter f args=>exact D (by simp[chunk,hp,hpl,h1])
          | new=>exact D (by simp[chunk,hp,hpl,h1])
          | val v =>
            have D:chunk P ms A n (m+1) (o::os) e ks=((chunk P ms A n m os (put e o.dst p v) ks').1,(chunk P ms A n m os (put e o.dst p v) ks').2.1,S++(chunk P ms A n m os (put e o.dst p v) ks').2.2.1,(chunk P ms A n m os (put e o.dst p v) ks').2.2.2):=by
              simp[chunk,hp,hpo,hpl,h1]
            rw[D]at hL hn
            simp only[aDz]at hL hn
            have hw:=sG (a:=a) hp (λx _ i y _ hl=>hh i y hl)
            obtain⟨D,S,aa⟩:=wz h1 hL hk
            have go:∀u,u=den e (p,v)->aiw P A Q os (a.put o.dst u) w:=λu hu =>
              chunk_ok (m:=m) (by rw[tX]; exact hsz) (EZ hh hsz hpo hu) hm S aa λJ h2 h3 h4 h5 h6=>hn J h2 (by rw[h3,put_defers]) h4 h5 h6
            unfold aiw
            by_cases hG:jZ e p=true
            · rw[aDb (hw.2 hG)]
              left
              exact VU (Fa h1 (Std.act a) (gX hh o) hG hm D) (go v (by simp[den,hG]))
            · rw[aC9 (λh=>hG (hw.1 h))]
              exact go undef (by simp[den,hG])
theorem yG{e:Env}:∀{r:Env} {sn:List Nat} {i:Nat} {v:aaT},(settle e li sn r).lookup i=some v->sn.contains i=false∧∃q,r.lookup i=some (q,v)∧jZ e q=true
  | [],sn,i,v,h=>by cases h
  | (j,q,u)::r,sn,i,v,h=>by
    unfold settle at h
    have skip:∀{sn':List Nat},(settle e li sn' r).lookup i=some v->(∀x,sn'.contains x=false->sn.contains x=false∧x≠j)->sn.contains i=false∧∃D,((j,q,u)::r:Env).lookup i=some (D,v)∧jZ e D=true:=λh J=>by
      obtain⟨S,D,h2,h3⟩:=yG h
      obtain⟨h4,h5⟩:=J i S
      refine⟨h4,D,?_,h3⟩
      rw[aD5]
      have:(i==j)=false:=by simpa using h5
      rw[this]; exact h2
    have keep:sn.contains j=false->jZ e q=true->((j,u)::settle e li sn r).lookup i=some v->sn.contains i=false∧∃D,((j,q,u)::r:Env).lookup i=some (D,v)∧jZ e D=true:=λJ hq h=>by
      rw[aD5]at h
      rw[aD5]
      cases hij:i==j
      · rw[hij]at h
        obtain⟨S,D,h2,h3⟩:=yG h
        exact⟨S,D,h2,h3⟩
      · rw[hij]at h
        obtain rfl:=aDo h
        have:i=j:=by simpa using hij
        exact⟨this▸J,q,I,hq⟩
    have S:∀x,(j::sn).contains x=false->sn.contains x=false∧x≠j:=λx D=>by
      simp only[List.contains_cons,aDX,aDH]at D
      exact⟨D.2,D.1⟩
    cases J:sn.contains j with
    | true =>
      simp only[J]at h
      refine skip h λx D=>⟨D,λe=>?_⟩
      rw[e,J]at D; cases D
    | false =>
      simp only[J]at h
      cases q with
      | nil=>exact keep J I h
      | cons c q =>
        simp only at h
        cases hl:li.contains j with
        | false=>simp only[hl]at h; exact skip h S
        | true =>
          simp only[hl]at h
          cases hg:jZ e (c::q)with
          | false=>simp only[hg]at h; exact skip h S
          | true=>simp only[hg]at h; exact keep J hg h
abbrev OX{a:aGh}{e:Env}(D:a.tmps.size=n)(hd:a.defers=[])(S:Holds a.eval e):Vp.St a n (settle e li [] e):=
  ⟨D,hd,λi v h=>by
    obtain⟨-,q,D,J⟩:=yG h
    rw[S i _ D]
    unfold den
    simp only[J,cond_true]⟩
theorem RF(hm:Mem w ms):∀{f m:Nat} {p:Pos} {l:List (Nat×aaT)} {ks:List Key} {a:aGh} {L':List Loc},St w0 a w n l bl vs->(zgo P ms n li f m p l ks).L++L'=ks.map (wU ms)->zY P ks ->
    (∀a',St w0 a' w n (zgo P ms n li f m p l ks).z.l bl vs->A02 P B (zgo P ms n li f m p l ks).z.p a' w)->A02 P B p a w
  | 0,m,p,l,ks,a,L',S,D,hk,hn=>hn a S
  | f+1,m,p,l,ks,a,L',S,D,hk,hn=>by
    refine alr (f:=100) ?_
    unfold zgo at D hn
    cases hp:nx 100 p with
    | op A os k =>
      simp only[hp]at D hn
      refine chunk_ok (m:=m) (ms:=ms) (n:=n) (e:=lift l) (ks:=ks) (L':=(match chunk P ms A n m os (lift l) ks with | (e',[],L,k')=>(zgo P ms n li f (m-os.length) (.nm k) (settle e' li [] e') k').L | _=>[])++L') S.s.size (bZ S.s) hm ?_ hk ?_
      · revert D
        rcases chunk P ms A n m os (lift l) ks with ⟨e',_ | ⟨o,os'⟩,L,k'⟩
        · intro D; simpa[aDz]using D
        · intro D; simpa using D
      · intro a' aa hd hh
        have J:a'.defers=[]:=by rw[hd,S.s.defers]
        revert hn hh
        rcases chunk P ms A n m os (lift l) ks with ⟨e',_ | ⟨o,os'⟩,L,k'⟩
        · intro hn hh ab ac
          exact RF hm (f:=f) (m:=m-os.length) (p := .nm k) (S.act (OX aa J hh)) ab ac hn
        · intro hn hh _ _
          exact hn a' (S.act (OX aa J hh))
    | cd c k=>simp only[hp]at D hn; exact hn a S
    | nm k=>simp only[hp]at D hn; exact hn a S
    | ex i k=>simp only[hp]at D hn; exact hn a S
    | rt k=>simp only[hp]at D hn; exact hn a S
end
abbrev akb{P:ahe}{ms:List fE}{e:Env}{p:qO}{ks':List Key}{o:ahk}{r:Gp}{L:List Loc}(h:ev2 P ms e p [] o=some (r,ks',L)):ks'=[]∧L=[]:=by
 rcases zx h with h | ⟨d,v,h,_⟩
 .unfold evR at h;cases h1:ev1 P ms e p [] o with
  | none=>simp[h1]at h
  | some r1 =>
   simp only[h1,aDe]at h;obtain⟨r1,k1,L1⟩:=r1;obtain⟨kl,D,hl⟩:=Zl h1;have J:k1=[]:=(List.append_eq_nil_iff.1 D.symm).2;have S:kl=[]:=(List.append_eq_nil_iff.1 D.symm).1;subst J S;have D:L1=[]:=aEA (by simpa using hl);subst D;rcases zy o.dst (r1,[],[])with D | ⟨v,S,x,u,J,L2,D,h3⟩
   .rw[D]at h;simp only[aDm]at h;exact⟨h.2.1.symm,h.2.2.symm⟩
   simp at D
 cases h
section
variable{P:ahe}{A:Array ahk}{ms:List fE}{n:Nat}{li:List Nat}
theorem OY:∀{m:Nat} {os:List ahk} {e:Env},(chunk P ms A n m os e []).2.2=([],[])
  | 0,os,e=>rfl
  | _+1,[],e=>rfl
  | m+1,o::os,e=>by
    unfold chunk
    split
    · rfl
    · rename_i p _
      split
      · rfl
      split
      · rename_i v ks' L _ h
        obtain⟨rfl,rfl⟩:=akb h
        have:=OY (m:=m) (os:=os) (e:=put e o.dst p v)
        simp only[Prod.ext_iff]at this |-
        exact⟨by simpa using this.1,this.2⟩
      · rfl
theorem RG:∀{f m:Nat} {p:Pos} {l:List (Nat×aaT)},(zgo P ms n li f m p l []).L=[]∧(zgo P ms n li f m p l []).ks=[]
  | 0,m,p,l=>⟨I,I⟩
  | f+1,m,p,l=>by
    unfold zgo
    split
    · rename_i A os k _
      have h:=OY (P:=P) (A:=A) (ms:=ms) (n:=n) (m:=m) (os:=os) (e:=lift l)
      revert h
      rcases chunk P ms A n m os (lift l) []with ⟨D,_ | ⟨o,os'⟩,L,J⟩
      · intro h
        simp only[aDm]at h
        obtain⟨rfl,rfl⟩:=h
        have:=RG (f:=f) (m:=m-os.length) (p := .nm k) (l:=settle D li [] D)
        exact⟨by simpa using this.1,this.2⟩
      · intro h
        simp only[aDm]at h
        exact⟨h.1,h.2⟩
    all_goals exact⟨I,I⟩
end
def Gz(P:ahe)(B:aGg->aGh->VO->Prop)(z:Zt)(a:aGh)(w:VO):Prop:=A02 P B z.p a w
def zR(P:ahe)(n:Nat)(bl:List (Nat×List aaT))(vs:List fE)(m:Nat)(li:List Nat)(ks:List Key)(z:Zt):Zr:=zgo P (kE bl vs) n li 60 m z.p z.l ks
def zn(P:ahe)(n:Nat)(bl:List (Nat×List aaT))(vs:List fE)(m:Nat)(li:List Nat)(ks:List Key)(z:Zt):Zt:=(zR P n bl vs m li ks z).z
def zN(P:ahe)(n:Nat)(z:Zt):Zt:=zn P n [] [] 999 [] [] z
def zM(P:ahe)(n:Nat)(z:Zt):Zt:=zn P n [] [] 0 [] [] z
def pG(z:Zt):List ahk:=match z.p with | .op _ os _=>os | _=>[]
def zA(z:Zt):Array ahk:=match z.p with | .op A _ _=>A | _ => #[]
def zK(z:Zt):List KI:=match z.p with | .op _ _ k=>k | .cd _ k=>k | .nm k=>k | .ex _ k=>k | .rt k=>k
def zC(z:Zt):Code:=match z.p with | .cd c _=>c | _ => .skip
def uF(z:Zt):Bool:=match z.p with | .op _ _ _=>true | _=>false
def Gj(m:Nat):Pos->Pos
  | .op A os k => .op A (os.drop m) k
  | .cd (.region _ ops true) k => .op ops (ops.toList.drop m) k
  | p=>p
def GN(m:Nat)(new:List (Nat×aaT))(z:Zt):Zt:=⟨Gj m z.p,new++z.l⟩
def zsk(z:Zt):Zt:=⟨Gj 1 z.p,z.l⟩
def mg(z:Zt):Option Nat:=match pG z with | o::_=>o.dst | []=>none
def wR(v:aaT)(z:Zt):Zt:=⟨Gj 1 z.p,zL z.l (mg z) v⟩
def z0(fn:Func)(args:List aaT):Zt:=⟨.cd (fn.body.getD .skip) [],(List.range args.length).zip args⟩
section
variable{P:ahe}{B:aGg->aGh->VO->Prop}{n:Nat}{w0 w:VO}{a:aGh}{bl:List (Nat×List aaT)}{vs:List fE}{z:Zt}
variable{f:aGl}{args:Array aaT}{b off:Nat}{V:aaT}
abbrev zk(S:St w0 a w n z.l bl vs)(m:Nat)(li:List Nat)(ks:List Key)(next:∀{D},St w0 D w n (zn P n bl vs m li ks z).l bl vs->Gz P B (zn P n bl vs m li ks z) D w)(hk:zY P ks:=by exact G)
    (J:((zR P n bl vs m li ks z).L,(zR P n bl vs m li ks z).ks)=(ks.map (wU (kE bl vs)),[]):=by kernel_rfl):Gz P B z a w:=by
 simp only[aDm]at J;refine RF S.KP (B:=B) (li:=li) (f:=60) (m:=m) (ks:=ks) (L':=[]) S ?_ hk λD=>next;rw[aEk]; exact J.1
abbrev uG(S:St w0 a w n z.l bl vs)(next:∀{D},St w0 D w n (zN P n z).l bl vs->Gz P B (zN P n z) D w):Gz P B z a w:=
  RF (ms:=kE [] []) (λm h=>by cases h) (B:=B) (li:=[]) (f:=60) (m:=999) (ks:=[]) (L':=[]) S (by rw[RG.1]; rfl) G λD=>next
abbrev atq(S:St w0 a w n z.l bl vs)(next:∀{D},St w0 D w n (zM P n z).l bl vs->Gz P B (zM P n z) D w):Gz P B z a w:=
  RF (ms:=kE [] []) (λm h=>by cases h) (B:=B) (li:=[]) (f:=60) (m:=0) (ks:=[]) (L':=[]) S (by rw[RG.1]; rfl) G λD=>next
abbrev zop{z:Zt}(D:uF z=true)(h:aiw P (zA z) (zp P B (zK z)) (pG z) a w):Gz P B z a w:=by
 obtain⟨p,l⟩:=z;cases p with
 | op A os k=>exact h
 | _=>cases D
abbrev JJ{z:Zt}{m:Nat}{l:List (Nat×aaT)}(D:uF z=true)(h:A02 P B (Gj m z.p) a w):aiw P (zA z) (zp P B (zK z)) ((pG z).drop m) a w:=by
 obtain⟨p,l⟩:=z;cases p with
 | op A os k=>exact h
 | _=>cases D
abbrev ze{fn:Func}{args:List aaT}{R:aGi->VO->Prop}{n:Nat}(hf:P.funcs[f]?=some fn)(hn:fn.ntmps=n)(next:∀{a},St w a w n (z0 fn args).l [] []->Gz P (aGn P fn R) (z0 fn args) a w)
    (hb:fn.body.isSome=true:=by rfl) (D:decide (args.length<=n)=true:=by kernel_rfl):abB P f args.toArray w R:=by
 obtain⟨c,J⟩:=aEq.1 hb;refine enter hf hn (λa S=>?_) J D;have:=next (a:=a) S;unfold Gz z0 at this;rw[J]at this;exact this
abbrev bU(S:St w0 a w n z.l bl vs){R:aGi->VO->Prop}(hc:abB P f args w R)
    (next:∀e w',R e w'->∃v,e = .R v∧Ext w w'∧∀{J},St w0 J w' n (wR v (zN P n z)).l bl vs->Gz P B (wR v (zN P n z)) J w')
    (hx:callOf P (pG (zN P n z)) (zN P n z).l=some (f,args,mg (zN P n z)):=by kernel_rfl) (D:(uF (zN P n z)&&uO n (mg (zN P n z)))=true:=by kernel_rfl):Gz P B z a w:=by
 simp only[aDt]at D;refine uG S λS=>zop D.1 (jR S _ hc (λe w' hR=>?_) hx D.2);obtain⟨v,h1,h2,h3⟩:=next e w' hR;exact⟨v,h1,h2,λJ S'=>JJ (m:=1) (l:=[]) D.1 (h3 S')⟩
abbrev zq(S:St w0 a w n z.l bl vs){F:aaT->VO->Prop}(D:abB P f args w λe w'=>∃v,e = .R v∧F v w'∧Ext w w')
    (next:∀{a'} v w',F v w'->Ext w w'->St w0 a' w' n (wR v (zN P n z)).l bl vs->Gz P B (wR v (zN P n z)) a' w')
    (hx:callOf P (pG (zN P n z)) (zN P n z).l=some (f,args,mg (zN P n z)):=by kernel_rfl) (ho:(uF (zN P n z)&&uO n (mg (zN P n z)))=true:=by kernel_rfl):Gz P B z a w:=
  bU S D (λe w' h=>by obtain⟨v,rfl,J,D⟩:=h; exact⟨v,I,D,λ{_} S=>next v w' J D S⟩) hx ho
abbrev bW(S:St w0 a w n z.l bl vs)(D:abB P f args w (VH w V))
    (next:∀{a'} w',Ext w w'->St w0 a' w' n (wR V (zN P n z)).l bl vs->Gz P B (wR V (zN P n z)) a' w')
    (J:callOf P (pG (zN P n z)) (zN P n z).l=some (f,args,mg (zN P n z)):=by kernel_rfl) (ho:(uF (zN P n z)&&uO n (mg (zN P n z)))=true:=by kernel_rfl):Gz P B z a w:=
  bU S D (λe w' h=>⟨V,h.1,h.2,λS=>next w' h.2 S⟩) J ho
abbrev mD(S:St w0 a w n z.l bl vs)(D:abB P f args w λe w'=>e = .R V∧w=w')
    (next:∀{a'},St w0 a' w n (wR V (zN P n z)).l bl vs->Gz P B (wR V (zN P n z)) a' w)
    (J:callOf P (pG (zN P n z)) (zN P n z).l=some (f,args,mg (zN P n z)):=by kernel_rfl) (ho:(uF (zN P n z)&&uO n (mg (zN P n z)))=true:=by kernel_rfl):Gz P B z a w:=
  bU S D (λe w' h=>by obtain⟨D,rfl⟩:=h; exact⟨V,D,K01,λS=>next S⟩) J ho
abbrev AQ(S:St w0 a w n z.l bl vs)(k:Nat){A:List aaT}(A':List aaT){R:aGi->VO->Prop}(aa:bl[k]?=some (b,A))(hc:abB P f args w R)
    (next:∀e w',R e w'->∃v,e = .R v∧Ext w0 w'∧Ch b w w'∧Bx w' b A'.toArray∧∀{J},St w0 J w' n (wR v (zN P n z)).l (bl.set k (b,A')) vs->Gz P B (wR v (zN P n z)) J w')
    (hx:callOf P (pG (zN P n z)) (zN P n z).l=some (f,args,mg (zN P n z)):=by kernel_rfl) (D:(uF (zN P n z)&&uO n (mg (zN P n z)))=true:=by kernel_rfl):Gz P B z a w:=by
 simp only[aDt]at D;refine uG S λS=>zop D.1 (akC S k A' _ aa hc (λe w' hR=>?_) hx D.2);obtain⟨v,h1,h2,h4,h5,h3⟩:=next e w' hR;exact⟨v,h1,h2,h4,h5,λJ S'=>JJ (m:=1) (l:=[]) D.1 (h3 S')⟩
def newV(P:ahe)(r:Nat)(z:Zt):aaT:=match Gl P r (pG z) z.l with | some x=>x.2.1 | none=>undef
def aoP(P:ahe)(r:Nat)(z:Zt):Option (List aaT×Option Nat):=match Gl P r (pG z) z.l with | some x=>some (x.1,x.2.2) | none=>none
abbrev dN(S:St w0 a w n z.l bl vs)(A:List aaT)(next:∀{J} w' b,Ext w w'->b=w.heap.size->St w0 J w' n (wR (newV P b (zN P n z)) (zN P n z)).l ((b,A)::bl) vs->Gz P B (wR (newV P b (zN P n z)) (zN P n z)) J w')
    (hx:∀r,aoP P r (zN P n z)=some (A,mg (zN P n z)):=by intro r; kernel_rfl) (D:(uF (zN P n z)&&(uO n (mg (zN P n z))&&(mg (zN P n z)).isSome))=true:=by kernel_rfl):Gz P B z a w:=by
 simp only[aDt]at D;refine uG S λS=>zop D.1 ?_;obtain⟨d,hd⟩:=aEq.1 D.2.2;refine new S d A (λr=>newV P r (zN P n z)) (λJ w' b hE hb S'=>JJ (m:=1) (l:=[]) D.1 ?_) (λr=>?_) (by rw[<-hd]; exact D.2.1)
 .refine next w' b hE hb ?_;show St w0 J w' n (zL _ (mg (zN P n z)) _) _ _;rw[hd]; exact S'
 have:=hx r;unfold aoP at this;unfold newV;rw[<-hd];cases h:Gl P r (pG (zN P n z)) (zN P n z).l with
 | none=>rw[h]at this; cases this
 | some x =>
  rw[h]at this;simp only[aDe,aDm]at this;simp only[aDe];obtain⟨x1,D,J⟩:=x;simp only at this;rw[this.1,this.2]
abbrev nN(S:St w0 a w n z.l bl vs)(k:Nat){A cs:List aaT}(D:bl[k]?=some (b,A))(next:∀{a'} w',Ch b w w'->St w0 a' w' n (zsk (zN P n z)).l (bl.set k (b,spl A off cs)) vs->Gz P B (zsk (zN P n z)) a' w')
    (hx:lZ P (pG (zN P n z)) (zN P n z).l=some (b,off,.agg cs.toArray,cs.length):=by kernel_rfl) (hf:decide (off+cs.length<=A.length)=true:=by kernel_rfl) (h1:cs.all (·.oneCell')=true:=by kernel_rfl) (J:uF (zN P n z)=true:=by kernel_rfl):Gz P B z a w:=
  uG S λS=>zop J (store S k D (λw' hc S'=>JJ (m:=1) (l:=[]) J (next w' hc S')) hx hf h1)
abbrev X5(S:St w0 a w n z.l bl vs)(k:Nat){A:List aaT}{v:aaT}(D:bl[k]?=some (b,A))(next:∀{a'} w',Ch b w w'->St w0 a' w' n (zsk (zN P n z)).l (bl.set k (b,spl A off [v])) vs->Gz P B (zsk (zN P n z)) a' w')
    (hx:lZ P (pG (zN P n z)) (zN P n z).l=some (b,off,v,1):=by kernel_rfl) (hf:decide (off<A.length)=true:=by kernel_rfl) (h1:v.cells = #[v]:=by kernel_rfl) (J:v.oneCell'=true:=by kernel_rfl) (ho:uF (zN P n z)=true:=by kernel_rfl):Gz P B z a w:=
  uG S λS=>zop ho (store1 S k D (λw' hc S'=>JJ (m:=1) (l:=[]) ho (next w' hc S')) hx hf h1 J)
def aa3(z:Zt):Option aaT:=match z.p with | .cd (.cond c _ _) _=>Vp.ev z.l c | _=>none
def zth(z:Zt):Zt:=match z.p with | .cd (.cond _ x _) k=>⟨.cd x k,z.l⟩ | _=>z
def zel(z:Zt):Zt:=match z.p with | .cd (.cond _ _ y) k=>⟨.cd y k,z.l⟩ | _=>z
abbrev zc(S:St w0 a w n z.l bl vs)(t:Bool)(J:∀{a'},t=true->St w0 a' w n (zth (zN P n z)).l bl vs->Gz P B (zth (zN P n z)) a' w)(hf:∀{a'},t=false->St w0 a' w n (zel (zN P n z)).l bl vs->Gz P B (zel (zN P n z)) a' w)
    (D:aa3 (zN P n z)=some (.b t):=by kernel_rfl):Gz P B z a w:=by
 refine uG S λ{a'} S=>?_;revert J hf D S;generalize zN P n z=z1;intro J hf D S;obtain⟨p,l⟩:=z1;unfold aa3 at D;split at D
 .rename_i c x y k hp;simp only at hp;subst hp;exact cond S (λh=>J h S) (λh=>hf h S) D
 cases D
abbrev zT(S:St w0 a w n z.l bl vs)(h:∀{a'},St w0 a' w n (zth (zN P n z)).l bl vs->Gz P B (zth (zN P n z)) a' w)(D:aa3 (zN P n z)=some (.b true):=by kernel_rfl):Gz P B z a w:=zc S true (λ_ S=>h S) (λh=>by cases h) D
abbrev zF(S:St w0 a w n z.l bl vs)(h:∀{a'},St w0 a' w n (zel (zN P n z)).l bl vs->Gz P B (zel (zN P n z)) a' w)(D:aa3 (zN P n z)=some (.z):=by kernel_rfl):Gz P B z a w:=zc S false (λh=>by cases h) (λ_ S=>h S) D
def Zm(z:Zt):Bool:=match z.p with | .rt []=>true | _=>false
abbrev zrt{z:Zt}{fn:Func}{R:aGi->VO->Prop}(D:Zm z=true)(h:aGn P fn R .ret a w):Gz P (aGn P fn R) z a w:=by
 obtain⟨p,l⟩:=z;unfold Zm at D;split at D
 .rename_i hp; simp only at hp; subst hp; exact h
 cases D
section
variable{fn:Func}{R:aGi->VO->Prop}
def resT(fn:Func)(i:Nat):Nat:=match fn.results[i]? with | some (.tmp t)=>t | some (.cell t _)=>t | none=>0
def resTy(fn:Func)(i:Nat):aix:=match fn.results[i]? with | some (.cell _ ty)=>ty | _=>0
abbrev cZ(S:St w0 a w n z.l bl vs)(v:aaT)(h:∀{a'},St w0 a' w n (zN P n z).l bl vs->R (.R v) w)(D:fn.results = #[.tmp (resT fn 0)]:=by kernel_rfl)
    (J:Vp.ev (zN P n z).l (.tmp (resT fn 0))=some v:=by kernel_rfl) (ho:Zm (zN P n z)=true:=by kernel_rfl):Gz P (aGn P fn R) z a w:=
  uG S λS=>zrt ho (vN S D (h S) J)
abbrev MG(S:St w0 a w n z.l bl vs)(v u:aaT)(h:∀{a'},St w0 a' w n (zN P n z).l bl vs->R (.R (.tuple #[v,u])) w)(D:fn.results = #[.tmp (resT fn 0),.tmp (resT fn 1)]:=by kernel_rfl)
    (J:Vp.ev (zN P n z).l (.tmp (resT fn 0))=some v:=by kernel_rfl) (hu:Vp.ev (zN P n z).l (.tmp (resT fn 1))=some u:=by kernel_rfl) (ho:Zm (zN P n z)=true:=by kernel_rfl):Gz P (aGn P fn R) z a w:=
  uG S λS=>zrt ho (Me S D (h S) J hu)
abbrev zrc(S:St w0 a w n z.l bl vs)(k:Nat){b:Nat}{A:List aaT}{v:aaT}(D:bl[k]?=some (b,A))(h:∀{a'},St w0 a' w n (zN P n z).l bl vs->R (.R v) w)(J:fn.results = #[.cell (resT fn 0) (resTy fn 0)]:=by kernel_rfl)
    (hv:Vp.ev (zN P n z).l (.tmp (resT fn 0))=some (.q b 0):=by kernel_rfl) (hl:Sj P (resTy fn 0) A=some v:=by kernel_rfl) (ho:Zm (zN P n z)=true:=by kernel_rfl):Gz P (aGn P fn R) z a w:=
  uG S λS=>zrt ho (am7 S k J D (h S) hv hl)
abbrev Kr(S:St w0 a w n z.l bl vs)(k:Nat){b:Nat}{A:List aaT}{v u:aaT}(D:bl[k]?=some (b,A))(h:∀{a'},St w0 a' w n (zN P n z).l bl vs->R (.R (.tuple #[v,u])) w)(J:fn.results = #[.cell (resT fn 0) (resTy fn 0),.tmp (resT fn 1)]:=by kernel_rfl)
    (hv:Vp.ev (zN P n z).l (.tmp (resT fn 0))=some (.q b 0):=by kernel_rfl) (hu:Vp.ev (zN P n z).l (.tmp (resT fn 1))=some u:=by kernel_rfl) (hl:Sj P (resTy fn 0) A=some v:=by kernel_rfl) (ho:Zm (zN P n z)=true:=by kernel_rfl):Gz P (aGn P fn R) z a w:=
  uG S λS=>zrt ho (atr S k J D (h S) hv hu hl)
abbrev zre(S:St w0 a w n z.l bl vs)(h:∀{a'},St w0 a' w n (zN P n z).l bl vs->aGn P fn R .ret a' w)(D:Zm (zN P n z)=true:=by kernel_rfl):Gz P (aGn P fn R) z a w:=uG S λS=>zrt D (h S)
end
def att(z:Zt):Code:=match z.p with | .cd (.loop c) _=>c | _ => .skip
def akc(z:Zt):Bool:=match z.p with | .cd (.loop _) _=>true | _=>false
variable{b m:Nat}{f:aGl}{args:List aaT}{v:aaT}
abbrev tK{ι:Type}(S:St w0 a w n z.l bl vs)(A00:ι->aGh->VO->Prop)(μ:ι->Nat)(i0:ι)(h0:∀{J},St w0 J w n (zN P n z).l bl vs->A00 i0 J w)
    (D:∀i a w (K:aGh->VO->Prop),(∀J w' i',A00 i' J w'->μ i'<μ i->K J w')->A00 i a w->A02 P B (.cd (att (zN P n z)) (.rel K::zK (zN P n z))) a w) (ho:akc (zN P n z)=true:=by kernel_rfl):Gz P B z a w:=by
 refine uG S λ{J} S=>?_;revert h0 D ho S;generalize zN P n z=z1;intro h0 D ho S;obtain⟨p,l⟩:=z1;unfold akc at ho;split at ho
 .rename_i c k hp;simp only at hp;subst hp;exact Vp.loop A00 μ i0 (h0 S) λi a w hI=>D i a w _ (λJ w' i' h1 h2=>⟨i',h1,h2⟩) hI
 cases ho
def zrd(m:Nat)(z:Zt):Zt:=match z.p with | .cd (.loop c) k=>⟨.cd c (.rd m c::k),z.l⟩ | _=>z
abbrev ZV(S:St w0 a w n z.l bl vs)(m:Nat)(h:∀{a'},St w0 a' w n (zrd m (zN P n z)).l bl vs->Gz P B (zrd m (zN P n z)) a' w)(D:akc (zN P n z)=true:=by kernel_rfl):Gz P B z a w:=by
 refine uG S λ{a'} S=>?_;revert h D S;generalize zN P n z=z1;intro h D S;obtain⟨p,l⟩:=z1;unfold akc at D;split at D
 .rename_i c k hp;simp only at hp;subst hp;exact wp_loop_rounds (m+1) (h S)
 cases D
abbrev zs{p:Pos}{l:List (Nat×aaT)}(S:St w0 a w n l bl vs)(h:St w0 a w n (⟨p,l⟩:Zt).l bl vs->Gz P B ⟨p,l⟩ a w):A02 P B p a w:=h S
def atu(z:Zt):Option (aGh->VO->Prop):=match z.p with | .nm (.rel K::_)=>some K | _=>none
abbrev jE(S:St w0 a w n z.l bl vs)(K:aGh->VO->Prop)(h:∀{a'},St w0 a' w n (zN P n z).l bl vs->K a' w)(D:atu (zN P n z)=some K:=by kernel_rfl):Gz P B z a w:=by
 refine uG S λ{a'} S=>?_;revert h D S;generalize zN P n z=z1;intro h D S;obtain⟨p,l⟩:=z1;unfold atu at D;split at D
 .rename_i K' k hp;simp only at hp;subst hp;obtain rfl:=aDo D;exact h S
 cases D
abbrev kF(S:St w0 a w n z.l bl vs)(k:Nat)(ks:List Key)(cl:List Cl)(new:List (Nat×aaT))(hO:Obl P w cl)(next:∀{D} w',Ext w w'->St w0 D w' n (GN k new (zM P n z)).l bl vs->Gz P B (GN k new (zM P n z)) D w')(hk:zY P ks:=by exact G)
    (hx:runs P (kE bl vs) (zA (zM P n z)) n ((pG (zM P n z)).take k) (zM P n z).l ks (cl.map (·.2.2.2)) new=wants (kE bl vs) ks cl new:=by kernel_rfl) (hs:sJ ((pG (zM P n z)).take k) (zM P n z).l new=true:=by kernel_rfl) (J:uF (zM P n z)=true:=by kernel_rfl):Gz P B z a w:=
  atq S λS=>zop J (aer S k ks cl new hO (λD w' hE S'=>JJ (m:=k) (l:=[]) J (next w' hE S')) hk hx hs)
def Ce(z:Zt):List ahk:=match z.p with | .cd (.region _ ops true) _=>ops.toList | _=>[]
def KQ(z:Zt):Bool:=match z.p with | .cd (.region _ _ true) _=>true | _=>false
abbrev zdr{z:Zt}(D:KQ z=true)(h:∀id,(Code.region id (Ce z).toArray true).wp P (zp P B (zK z)) a w):Gz P B z a w:=by
 obtain⟨p,l⟩:=z;unfold KQ at D;split at D
 .rename_i id ops k hp;simp only at hp;subst hp;have:=h id;unfold Ce at this;rw[aFJ]at this;exact this
 cases D
abbrev akd{z:Zt}(D:KQ z=true)(h:A02 P B (Gj m z.p) a w):aiw P (Ce z).toArray (zp P B (zK z)) ((Ce z).drop m) a w:=by
 obtain⟨p,l⟩:=z;unfold KQ at D;split at D
 .rename_i id ops k hp;simp only at hp;subst hp;unfold Ce;rw[aFJ];exact h
 cases D
abbrev fD(S:St w0 a w n z.l bl vs)(m:Nat)(ks:List Key)(cl:List Cl)(new:List (Nat×aaT))(hO:Obl P w cl)(next:∀{D} w',Ext w w'->St w0 D w' n (GN m new (zN P n z)).l bl vs->Gz P B (GN m new (zN P n z)) D w')(hk:zY P ks:=by exact G)
    (hx:runs P (kE bl vs) (Ce (zN P n z)).toArray n ((Ce (zN P n z)).take m) (zN P n z).l ks (cl.map (·.2.2.2)) new=wants (kE bl vs) ks cl new:=by kernel_rfl) (hs:sJ ((Ce (zN P n z)).take m) (zN P n z).l new=true:=by kernel_rfl)
    (J:P.follows .mixedOrders=true:=by kernel_rfl) (hB:okB (Ce (zN P n z)).toArray m n=true:=by kernel_rfl) (hD:sK (Ce (zN P n z)).toArray ((Ce (zN P n z)).take m)=true:=by kernel_rfl) (ho:KQ (zN P n z)=true:=by kernel_rfl):Gz P B z a w:=
  uG S λS=>zdr ho λid=>draw S m ks cl new hO (λD w' hE S'=>akd (m:=m) ho (next w' hE S')) hk hx hs J hB hD
abbrev zeE{fn:Func}{R:aGi->VO->Prop}{n:Nat}(hf:P.funcs[f]?=some fn)(hn:fn.ntmps=n)(hE:Ext w0 w)(next:∀{a},St w0 a w n (z0 fn args).l [] []->Gz P (aGn P fn R) (z0 fn args) a w)
    (hb:fn.body.isSome=true:=by rfl) (D:decide (args.length<=n)=true:=by kernel_rfl):abB P f args.toArray w R:=by
 obtain⟨c,J⟩:=aEq.1 hb;refine Vp.enter hf J (by rw[hn]; simpa using D) λa s=>?_;have S:St w0 a w n ((List.range args.length).zip args) [] []:=⟨(by rw[hn]at s; simpa using s),hE,λp D=>(by cases D),List.nodup_nil,λm hm=>by cases hm⟩;have:=next (a:=a) S;unfold Gz z0 at this;rw[J]at this;exact this
abbrev Ec{fn:Func}{R:aGi->VO->Prop}{n:Nat}{A:List aaT}(hf:P.funcs[f]?=some fn)(hn:fn.ntmps=n)(hE:Ext w0 w)(hx:Bx w b A.toArray)(D:w0.heap.size<=b)(next:∀{a},St w0 a w n (z0 fn args).l [(b,A)] []->Gz P (aGn P fn R) (z0 fn args) a w)
    (hb:fn.body.isSome=true:=by rfl) (J:decide (args.length<=n)=true:=by kernel_rfl):abB P f args.toArray w R:=by
 obtain⟨c,hc⟩:=aEq.1 hb;refine AO hf hn hE hx D (λa S=>?_) hc J;have:=next (a:=a) S;unfold Gz z0 at this;rw[hc]at this;exact this
abbrev zl(S:St w0 a w n z.l bl vs)(h:∀{a'},St w0 a' w n (zN P n z).l bl vs->aiw P (zA (zN P n z)) (zp P B (zK (zN P n z))) (pG (zN P n z)) a' w)(D:uF (zN P n z)=true:=by kernel_rfl):Gz P B z a w:=uG S λS=>zop D (h S)
abbrev zo0(S:St w0 a w n z.l bl vs)(h:St w0 a w n (zsk z).l bl vs->Gz P B (zsk z) a w)(D:uF z=true:=by kernel_rfl):aiw P (zA z) (zp P B (zK z)) ((pG z).drop 1) a w:=JJ (l:=[]) D (h S)
abbrev rC{d:Nat}(S:St w0 a w n ((d,v)::z.l) bl vs)(h:St w0 a w n (GN 1 [(d,v)] z).l bl vs->Gz P B (GN 1 [(d,v)] z) a w)(D:uF z=true:=by kernel_rfl):aiw P (zA z) (zp P B (zK z)) ((pG z).drop 1) a w:=JJ (l:=[]) D (h S)
def atv(d:Option Nat)(v:aaT)(z:Zt):Zt:=⟨Gj 1 z.p,zL z.l d v⟩
abbrev WM{d:Option Nat}(S:St w0 a w n (zL z.l d v) bl vs)(h:St w0 a w n (atv d v z).l bl vs->Gz P B (atv d v z) a w)(D:uF z=true:=by kernel_rfl):aiw P (zA z) (zp P B (zK z)) ((pG z).drop 1) a w:=JJ (l:=[]) D (h S)
abbrev zd(S:St w0 a w n z.l bl vs)(h:∀{a'},St w0 a' w n (zN P n z).l bl vs->∀id,(Code.region id (Ce (zN P n z)).toArray true).wp P (zp P B (zK (zN P n z))) a' w)(D:KQ (zN P n z)=true:=by kernel_rfl):Gz P B z a w:=uG S λS=>zdr D (h S)
abbrev zdo{new:List (Nat×aaT)}(S:St w0 a w n (new++z.l) bl vs)(h:St w0 a w n (GN m new z).l bl vs->Gz P B (GN m new z) a w)(D:KQ z=true:=by kernel_rfl):aiw P (Ce z).toArray (zp P B (zK z)) ((Ce z).drop m) a w:=akd (m:=m) D (h S)
def zbt(A:Array ahk)(os:List ahk)(new:List (Nat×aaT))(z:Zt):Zt:=⟨.op A os (.bot::zK z),new++z.l⟩
abbrev zdb{A:Array ahk}{os:List ahk}{new:List (Nat×aaT)}(S:St w0 a w n (new++z.l) bl vs)(h:St w0 a w n (zbt A os new z).l bl vs->Gz P B (zbt A os new z) a w):aiw P A (yT (zp P B (zK z))) os a w:=h S
abbrev jm(S:St w0 a w n z.l bl vs)(m:Nat)(U:AY)(ks:Nat->List Key)(cs:(Nat->aaT)->List aaT)(cl:(Nat->aaT)->List ClX)(J:List (List Nat))(new:(Nat->aaT)->List (Nat×aaT))
    (hU:D9 U) (hO:∀x,VW P w U x (cl x) J)
    (next:∀{D} w' x,Ext w w'->oL U x w' (U.map (·.1))->St w0 D w' n (GN m (new x) (zN P n z)).l bl vs->Gz P B (GN m (new x) (zN P n z)) D w')
    (hN:∀r,NOk U w.heap.size r (ks r):=by intro r; exact G) (hk:∀r,og True P (ks r):=by intro r; exact G)
    (aa:(U.map (·.1)).all (λd=>((Ce (zN P n z)).take m).any (λo=>o.dst==some d))=true:=by kernel_rfl)
    (ab:P.follows .mixedOrders=true:=by kernel_rfl) (hB:okB (Ce (zN P n z)).toArray m n=true:=by kernel_rfl) (hD:sK (Ce (zN P n z)).toArray ((Ce (zN P n z)).take m)=true:=by kernel_rfl)
    (hl:Hnd:=[]) (hH:∀x r,qp P w U [] x (Ce (zN P n z)) hl (ks r):=by intro x r; exact G) (ac:∀r,yH (Ce (zN P n z)) hl (ks r)=true:=by intro r; kernel_rfl) (ae:KR (Ce (zN P n z)) m U hl=true:=by kernel_rfl)
    (hx:∀y r,(exec P (kE bl vs) (Ce (zN P n z)).toArray n ((Ce (zN P n z)).take m) (lift (zN P n z).l) (ks r) (cs y)).map (Zn ((Ce (zN P n z)).take m) U J (new y))=some ((new y).map (λp=>some ([],p.2)),(ks r).map (wU (kE bl vs)),(cl y).map clX,patch U y ((Ce (zN P n z)).take m) (tv (exec P (kE bl vs) (Ce (zN P n z)).toArray n ((Ce (zN P n z)).take m) (lift (zN P n z).l) (ks 0) (cs λ_=>undef))),true):=by intro y r; kernel_rfl)
    (hs:∀y,sJ ((Ce (zN P n z)).take m) (zN P n z).l (new y)=true:=by intro y; kernel_rfl) (hn:(decide (n<=1000)&&(U.map (·.1)).all λd=>decide (d<n))=true:=by kernel_rfl) (ho:KQ (zN P n z)=true:=by kernel_rfl):Gz P B z a w:=
  uG S λS=>zdr ho λid=>rX S m U ks cs cl J new hU hO (λD w' x hE hF S'=>akd (m:=m) ho (next w' x hE hF S')) hN hk aa ab hB hD hl hH ac ae hx hs hn
def newC(P:ahe)(z:Zt):List aaT:=match Gl P 0 (pG z) z.l with | some x=>x.1 | none=>[]
abbrev eu(S:St w0 a w n z.l bl vs)(next:∀{a'} w' b,Ext w w'->b=w.heap.size->St w0 a' w' n (wR (newV P b (zN P n z)) (zN P n z)).l ((b,newC P (zN P n z))::bl) vs->Gz P B (wR (newV P b (zN P n z)) (zN P n z)) a' w')
    (D:∀r,aoP P r (zN P n z)=some (newC P (zN P n z),mg (zN P n z)):=by intro r; kernel_rfl) (J:(uF (zN P n z)&&(uO n (mg (zN P n z))&&(mg (zN P n z)).isSome))=true:=by kernel_rfl):Gz P B z a w:=dN S _ next D J
def stO(P:ahe)(z:Zt):Nat:=match lZ P (pG z) z.l with | some x=>x.2.1 | none=>0
def stC(P:ahe)(z:Zt):List aaT:=match lZ P (pG z) z.l with | some x=>(match x.2.2.1 with | .agg c=>c.toList | v=>[v]) | none=>[]
abbrev gu(S:St w0 a w n z.l bl vs)(k:Nat){A:List aaT}(D:bl[k]?=some (b,A))(next:∀{a'} w',Ch b w w'->St w0 a' w' n (zsk (zN P n z)).l (bl.set k (b,spl A (stO P (zN P n z)) (stC P (zN P n z)))) vs->Gz P B (zsk (zN P n z)) a' w')
    (J:lZ P (pG (zN P n z)) (zN P n z).l=some (b,stO P (zN P n z),.agg (stC P (zN P n z)).toArray,(stC P (zN P n z)).length):=by kernel_rfl) (hf:decide (stO P (zN P n z)+(stC P (zN P n z)).length<=A.length)=true:=by kernel_rfl) (h1:(stC P (zN P n z)).all (·.oneCell')=true:=by kernel_rfl) (ho:uF (zN P n z)=true:=by kernel_rfl):Gz P B z a w:=nN S k D next J hf h1 ho
def stV(P:ahe)(z:Zt):aaT:=match lZ P (pG z) z.l with | some x=>x.2.2.1 | none=>undef
abbrev fO(S:St w0 a w n z.l bl vs)(k:Nat){A:List aaT}(D:bl[k]?=some (b,A))(next:∀{a'} w',Ch b w w'->St w0 a' w' n (zsk (zN P n z)).l (bl.set k (b,spl A (stO P (zN P n z)) [stV P (zN P n z)])) vs->Gz P B (zsk (zN P n z)) a' w')
    (hx:lZ P (pG (zN P n z)) (zN P n z).l=some (b,stO P (zN P n z),stV P (zN P n z),1):=by kernel_rfl) (hf:decide (stO P (zN P n z)<A.length)=true:=by kernel_rfl) (h1:(stV P (zN P n z)).cells = #[stV P (zN P n z)]:=by kernel_rfl) (J:(stV P (zN P n z)).oneCell'=true:=by kernel_rfl) (ho:uF (zN P n z)=true:=by kernel_rfl):Gz P B z a w:=X5 S k D next hx hf h1 J ho
abbrev St.kD{l:List (Nat×aaT)}(S:St w0 a w n l bl vs)(k:Nat){b:Nat}{A D:List aaT}(hk:bl[k]?=some (b,D):=by rfl)(hA:D=A:=by kernel_rfl):Bx w b A.toArray:=hA▸S.bx k hk
abbrev St.qc{l D:List (Nat×aaT)}{J:List (Nat×List aaT)}(S:St w0 a w n l bl vs)(h:D.map (λp=>l.lookup p.1)=D.map (λp=>some p.2):=by kernel_rfl)(hb:bl=J:=by kernel_rfl):St w0 a w n D J []:=hb▸S.sn h
abbrev St.fl{l:List (Nat×aaT)}{D:List (Nat×List aaT)}(S:St w0 a w n l bl vs)(h:bl=D:=by first | (simp only[List.set_cons_zero,List.set_cons_succ]; exact I) | exact I):St w0 a w n l D vs:=h▸S
end
end Go.Sx
end
abbrev adr:=@Go.Sx.zk
abbrev aCB:=@Go.Sx.cZ
abbrev aCD:=@Go.Sx.zc
abbrev aCF:=@Go.Sx.eu
abbrev aCG:=@Go.Sx.ze
abbrev aCH:=@Go.Sx.gu
abbrev aCJ:=@Go.Sx.dN
abbrev aCM:=@Go.Sx.zT
abbrev aCN:=@Go.Sx.fO
abbrev aCO:=@Go.Sx.zl
abbrev aCP:=@Go.Sx.nN
abbrev aCQ:=@Go.Sx.bW
abbrev aCR:=@Go.Sx.bU
abbrev aCT:=@Go.Sx.zF
abbrev aCU:=@Go.Sx.zrc
abbrev aCV:=@Go.Sx.fD
abbrev aCW:=@Go.Sx.rC
abbrev aCY:=@Go.Sx.jE
abbrev aCZ:=@Go.Sx.tK
abbrev aC0:=@Go.Sx.zs
abbrev aC1:=@Go.Sx.zq
abbrev aC5:=@Go.Sx.Ec
abbrev aC6:=@Go.Sx.kF
abbrev aDf:=@Go.Sx.app
abbrev aDk:=@Go.Sx.ownsRow_base
abbrev aDn:=@Go.Sx.On.ext
abbrev aDr:=@Go.Sx.Stp.trans
abbrev aDx:=@Go.Sx.Stp.ext
abbrev aDB:=@Go.Sx.On.self
abbrev aDD:=@Go.Sx.On.and
abbrev aDR:=@Go.Sx.On.step
abbrev aDS:=@Go.Sx.On.imp
abbrev aDV:=@Go.Sx.Rw.nil
abbrev aEd:=@Go.Sx.Stp.jX
abbrev aEi:=@Go.Sx.Stp.ql
abbrev aEx:=@Go.Sx.Ow.dep
abbrev aEY:=@Go.Sx.On.mono
