/- A region that draws its order -/
import Derived.Test.YtodpgjjgaddkeaaGreatDoorSy
import Derived.Laws.IdiomCopy
import Derived.Maps.AppendAt
import Derived.ArgAppend
import Derived.LoopN
set_option linter.unusedVariables false
set_option linter.unusedSimpArgs false
set_option maxHeartbeats 9999999
open Go renaming World->E5,Value->y9,Calls->Nq,Program->Ë,Oper->YM,wpList->Ã,TypeId->Ð,execOp->Í,Operand->î,Exit->Ŗ,Act->á,Ending->ĺ,FuncId->aHn,wpAny->Đ,bodyPost->Ĩ
open Go.Proofs.Õ Go.RowKit Go.Rel
section
namespace Go.Sx
section
variable{P:Ë}{ops:Array YM}{Q:Ŗ->á->E5->Prop}{w0:E5}{a:á}{w:E5}{os:List YM}{n:Nat}{l:List (Nat×y9)}{bl:List (Nat×List y9)}{vs:List eX}
abbrev OE{ρ:î->y9}{o:YM}{ty:Ð}{x y:î}{b off:Nat}{A cs:List y9}(S:o.op = .store ty x y)(hx:ρ x = .q b off)(hy:ρ y = .agg cs.toArray)(D:Bx w b A.toArray)
  (hi:(P.info? ty).map (·.size)=some cs.length) (J:off+cs.length<=A.length) (h1:cs.all (·.oneCell')=true):(Í ρ o).run P w = .ok .skip (w.setCells b off cs):=by
 have J:w.there b off cs.toArray.size:=λj hj=>by
  have h3:j<cs.length:=by simpa using hj
  rw[D.2.1,D.F,Array.getElem?_eq_getElem (by simp; omega)]; exact⟨I,I⟩
 have h:=run_storeVar_mid (P:=P) w b off ty cs.toArray J (by rw[hi]; simp) (by rw[<-h1]; simp);unfold Í;simp only[S,hx,hy,Instr.storeAt,Instr.sureAddr,ġ,ž,ş,h]
def stD(P:Ë)(os:List YM)(m j:Nat)(l:List (Nat×y9)):Option (Nat×Nat×Nat):=
 match os[m]? with
 | some o=>(match o.guard,o.dst,o.op with
  | none,none,.store ty (.tmp s) (.tmp s')=>(match l.lookup s,P.info? ty,(os[j]?).bind (·.dst)with
   | some (.q b off),some i,some d =>
    (match d==s'&&decide (j<m)&&(os.take m).all (λo => !(o.dst==some s))&&o.after.toList.any (λg=>g.on==j&&Region.binds .any g)with
    | true=>some (b,off,i.size)
    | false=>none)
   | _,_,_=>none)
  | _,_,_=>none)
 | none=>none
def Ic(P:Ë)(ops:Array YM)(os:List YM)(l:List (Nat×y9)):Option (aHn×Array y9×Option Nat):=
 match os with
 | o::_=>(match pathOf ops (lift l) o,wP o.op || !o.op.operands.all (λx=>(rd (lift l) [] x).isSome),jd (ev0 P (Í (zQ (lift l) []) o))with
  | some p,false,some (.enter f args)=>(match jP (lift l) p with | true=>some (f,args,o.dst) | false=>none)
  | _,_,_=>none)
 | []=>none
abbrev afA(S:St w0 a w n l bl vs){f:aHn}{args:Array y9}(d:Option Nat){R:ĺ->E5->Prop}(hc:Nq P f args w R)
  (next:∀e w',R e w'->∃v,e = .R v∧Ext w w'∧∀D,St w0 D w' n (zS l d v) bl vs->Ã P ops Q (os.drop 1) D w')
  (D:Ic P ops os l=some (f,args,d):=by kernel_rfl) (hd:uG n d=true:=by rfl):Ã P ops Q os a w:=by
 cases os with
 | nil=>cases D
 | cons o os =>
  unfold Ic at D;simp only at D;split at D
  .rename_i p f' args' hp hav hev;split at D
   .rename_i hg;simp only[Æ,Ê]at D;obtain⟨rfl,rfl,rfl⟩:=D;simp only[Ĕ]at hav;have J:(Í a.eval o).run P w = .ok (.enter f' args') w:=lN (Std.act a) (gG (bT S.s) o) (p:=[]) I hav.1 (by simpa using hav.2) hev;unfold Ã;rw[Á ((qh (a:=a) hp (λx _ i y _ hl=>bT S.s i y hl)).2 hg)];left;unfold Oper.wp;rw[J];simp only[Oper.upon];refine hc.mono λe w' J=>?_;obtain⟨v,rfl,hE,hn⟩:=next e w' J;exact hn _ ((S.grow hE).act (tC S.s hd v))
   cases D
  cases D
end
structure Fr (ą:List Nat) (w w':E5):Prop where
 os:w'.os=w.os
 tape:w'.tape=w.tape
 output:w'.output=w.output
 size:w.heap.size<=w'.heap.size
 block:∀k,k<w.heap.size->k∉ą->w'.heap[k]?=w.heap[k]?
def On(B:Nat->Prop)(F:E5->Prop)(w:E5):Prop:=∀w',w.heap.size<=w'.heap.size->(∀k,k<w.heap.size->B k->w'.heap[k]?=w.heap[k]?)->F w'
abbrev On.self{B:Nat->Prop}{F:E5->Prop}{w:E5}(h:On B F w):F w:=h w (Ç _) λ_ _ _=>rfl
abbrev On.mono{B D:Nat->Prop}{F:E5->Prop}{w:E5}(h:On B F w)(hB:∀k,B k->D k):On D F w:=λw' J S=>h w' J λk hk D=>S k hk (hB k D)
abbrev On.imp{B:Nat->Prop}{F ì:E5->Prop}{w:E5}(h:On B F w)(S:∀w,F w->ì w):On B ì w:=λw' D J=>S _ (h w' D J)
abbrev On.and{B:Nat->Prop}{F ì:E5->Prop}{w:E5}(h:On B F w)(k:On B ì w):On B (λw=>F w∧ì w) w:=λw' D J=>⟨h w' D J,k w' D J⟩
abbrev On.pure{B:Nat->Prop}{p:Prop}{w:E5}(h:p):On B (λ_=>p) w:=λ_ _ _=>h
abbrev On.ext{B:Nat->Prop}{F:E5->Prop}{w w':E5}(h:On B F w)(J:Ext w w'):On B F w':=λw2 S hb=>h w2 (ä J.size S) λk hk D=>(hb k (ö hk J.size) D).trans (J.block k hk)
abbrev aU (base:Nat)(F:E5->Prop)(w:E5):Prop:=On (base <= ·) F w
abbrev Ow (base:Nat)(ą:List Nat)(F:E5->Prop)(w:E5):Prop:=On (λk=>base<=k∧k∉ą) F w
structure Stp (ą:List Nat) (w:E5) (O':List Nat) (w':E5):Prop where
 fr:Fr ą w w'
 new:∀b∈O',b∈ą∨w.heap.size<=b
abbrev Fr.aY{ą:List Nat}{w w':E5}(h:Ext w w'):Fr ą w w':=⟨h.os,h.tape,h.output,h.size,λk hk _=>h.block k hk⟩
abbrev Stp.ext{ą:List Nat}{w w':E5}(h:Ext w w'):Stp ą w ą w':=⟨Fr.aY h,λ_ h => .inl h⟩
abbrev Stp.trans{ą D J:List Nat}{w w1 w2:E5}(h:Stp ą w D w1)(k:Stp D w1 J w2):Stp ą w J w2:=
 ⟨⟨k.fr.os.trans h.fr.os,k.fr.tape.trans h.fr.tape,k.fr.output.trans h.fr.output,ä h.fr.size k.fr.size,λi D hn=>by
  refine(k.fr.block i (ö D h.fr.size) λJ=>?_).trans (h.fr.block i D hn)
  rcases h.new i J with D | D
  .exact hn D
  .omega⟩,λb J=>by
  rcases k.new b J with D | D
  .exact h.new b D
  .exact .inr (ä h.fr.size D)⟩
abbrev Stp.sub{ą D:List Nat}{w:E5}(h:∀b∈D,b∈ą):Stp ą w D w:=⟨⟨I,I,I,Ç _,λ_ _ _=>rfl⟩,λb D => .inl (h b D)⟩
abbrev On.step{base:Nat}{ą D:List Nat}{F:E5->Prop}{w w':E5}(h:Ow base ą F w)(k:Stp ą w D w'):Ow base D F w':=λw2 J S =>
 h w2 (ä k.fr.size J) λi D hB=>by
  refine(S i (ö D k.fr.size) ⟨hB.1,λJ=>?_⟩).trans (k.fr.block i D hB.2)
  rcases k.new i J with D | D
  .exact hB.2 D
  .omega
abbrev aU.ow{base b0:Nat}{ą:List Nat}{F:E5->Prop}{w:E5}(h:aU base F w)(J:b0<=base)(S:∀k∈ą,k<base):Ow b0 ą F w:=h.mono λk hk=>⟨ä J hk,λD=>by have:=S k D; omega⟩
abbrev Ow.dep{base:Nat}{ą:List Nat}{F:E5->Prop}{w:E5}(h:Ow base ą F w):aU base F w:=h.mono λ_ h=>h.1
abbrev aU.le{base b0:Nat}{F:E5->Prop}{w:E5}(h:aU base F w)(D:b0<=base):aU b0 F w:=h.mono λ_ hk=>ä D hk
abbrev Fr.below{ą:List Nat}{w0 w w':E5}(h:Fr ą w w')(D:Ext w0 w)(S:∀b∈ą,w0.heap.size<=b):Ext w0 w':=
 ⟨h.os.trans D.os,h.tape.trans D.tape,h.output.trans D.output,ä D.size h.size,λk hk=>(h.block k (ö hk D.size) λJ=>by have:=S k J; omega).trans (D.block k hk)⟩
structure Row where
 e:Ð
 k:Nat
 v:y9
 n:Nat
 xs:List y9
def Ob(bl:List (Nat×List y9))(rs:List Row):List Nat:=bl.map (·.1)++rs.filterMap λr=>r.v.ownBlock
structure Rw (w0 w:E5) (bl:List (Nat×List y9)) (rs:List Row):Prop where
 own:∀r∈rs,w.ownsRow w0.heap.size r.e r.k r.v r.n r.xs
 lt:∀b∈Ob bl rs,b<w.heap.size
 apart:(Ob bl rs).Nodup
variable{e:Ð}{k:Nat}{v:y9}{xs:List y9}
abbrev mZ{w w':E5}{B:Nat}{n:Nat}(h:w.ownsRow B e k v n xs)(hb:∀g,v.ownBlock=some g->w'.heap[g]?=w.heap[g]?):w'.ownsRow B e k v n xs:=by
 obtain⟨J,h | ⟨g,cap,D,rfl,S,h3,h4⟩⟩:=h
 .exact⟨J,.inl h⟩
 exact⟨J,.inr ⟨g,cap,D,I,S,(hb g I).trans h3,h4⟩⟩
abbrev iQ{w:E5}{B:Nat}{n:Nat}(h:w.ownsRow B e k v n xs){g:Nat}(D:v.ownBlock=some g):B<=g∧g<w.heap.size:=by
 obtain⟨h1,⟨rfl,_⟩ | ⟨g,cap,S,rfl,h2,J,h4⟩⟩:=h
 .cases D
 simp only[Value.ownBlock,Æ]at D;subst D;exact⟨h2,by
  by_cases hlt:g<w.heap.size
  .exact hlt
  rw[Array.getElem?_eq_none Z]at J; cases J⟩
abbrev ownsRow_base{w:E5}{B D:Nat}{n:Nat}(h:w.ownsRow B e k v n xs)(hB:D<=B):w.ownsRow D e k v n xs:=by
 obtain⟨J,h | ⟨g,cap,D,rfl,S,h3⟩⟩:=h
 .exact⟨J,.inl h⟩
 exact⟨J,.inr ⟨g,cap,D,I,ä hB S,h3⟩⟩
section
variable{P:Ë}{ops:Array YM}{Q:Ŗ->á->E5->Prop}{w0:E5}{a:á}{w w':E5}{os:List YM}{n:Nat}{l:List (Nat×y9)}{bl:List (Nat×List y9)}{vs:List eX}{rs:List Row}
variable{e t ty:Ð}{k m cap g c b off:Nat}{v y:y9}{xs ys cs:List y9}{o:YM}{ρ:î->y9}{x s:î}{ad:Addr}{r:Row}
abbrev jh(h:r∈rs)(D:r.v.ownBlock=some g):g∈Ob bl rs:=ś _ (ő.2 ⟨r,h,D⟩)
abbrev Rw.nil(S:St w0 a w n l bl vs):Rw w0 w bl []:=by
 have e:Ob bl []=bl.map (·.1):=by simp[Ob]
 refine⟨λr h=>(by cases h),λb h=>?_,e▸S.apart⟩;rw[e]at h;obtain⟨p,D,rfl⟩:=ô.1 h;exact(S.own p D).1.1
abbrev Rw.ext(R:Rw w0 w bl rs)(J:Ext w w'):Rw w0 w' bl rs:=
 ⟨λr D=>mZ (R.own r D) λg S=>J.block g (R.lt g (jh D S)),λb hb=>ö (R.lt b hb) J.size,R.apart⟩
abbrev Rw.add{r:Row}{base:Nat}(R:Rw w0 w bl rs)(ho:w.ownsRow base r.e r.k r.v r.n r.xs)(hb:∀b∈Ob bl rs,b<base)(h0:w0.heap.size<=base):Rw w0 w bl (r::rs):=by
 have S:∀c,c∈Ob bl (r::rs)->c∈Ob bl rs∨r.v.ownBlock=some c:=λc hc=>by
  rcases ā.1 hc with h | h
  .exact .inl (ū _ h)
  obtain⟨s,D,J⟩:=ő.1 h;rcases Ù.1 D with rfl | D
  .exact .inr J
  exact .inl (jh D J)
 refine⟨λs D=>?_,λc hc=>?_,?_⟩
 .rcases Ù.1 D with rfl | D
  .exact ownsRow_base ho h0
  exact R.own s D
 .rcases S c hc with h | h
  .exact R.lt c h
  exact(iQ ho h).2
 cases J:r.v.ownBlock with
 | none=>unfold Ob; rw[ϕ,J]; exact R.apart
 | some g =>
  unfold Ob;rw[ϕ,J];have hn:g∉Ob bl rs:=λD=>by have:=hb g D; have:=(iQ ho J).1; omega
  have hd:=ŋ.1 R.apart;refine ŋ.2 ⟨hd.1,Ż.2 ⟨λD=>hn (ś _ D),hd.2.1⟩,λx S y J e=>?_⟩;subst e;rcases Ù.1 J with rfl | J
  .exact hn (ū _ S)
  exact hd.F x S x J I
abbrev Stp.add{r:Row}{base:Nat}(J:Ext w w')(S:w'.ownsRow base r.e r.k r.v r.n r.xs)(hb:w.heap.size<=base):Stp (Ob bl rs) w (Ob bl (r::rs)) w':=⟨Fr.aY J,λc D=>by
 rcases ā.1 D with h | h
 .exact .inl (ū _ h)
 obtain⟨s,D,J⟩:=ő.1 h;rcases Ù.1 D with rfl | D
 .exact .inr (ä hb (iQ S J).1)
 exact .inl (jh D J)⟩
abbrev Rw.sub{J:List (Nat×List y9)}{D:List Row}(R:Rw w0 w bl rs)(S:(Ob J D).Sublist (Ob bl rs))(h2:∀r∈D,r∈rs):Rw w0 w J D:=⟨λr D=>R.own r (h2 r D),λb J=>R.lt b (S.subset J),R.apart.sublist S⟩
abbrev Rw.pop{r:Row}(R:Rw w0 w bl (r::rs)):Rw w0 w bl rs:=R.sub ((List.Sublist.refl _).append (List.Sublist.filterMap _ (List.sublist_cons_self r rs))) λ_ h=>ļ _ h
abbrev Rw.old(R:Rw w0 w bl rs)(S:St w0 a w n l bl vs):∀b∈Ob bl rs,w0.heap.size<=b:=λb D=>by
 rcases ā.1 D with h | h
 .obtain⟨p,hp,rfl⟩:=ô.1 h; exact(S.own p hp).2
 obtain⟨s,D,J⟩:=ő.1 h; exact(iQ (R.own s D) J).1
abbrev Rw.set{j:Nat}{r r':Row}(R:Rw w0 w bl rs)(S:rs[j]?=some r)(D:w.grownBy w' r.v.ownBlock)(ho:w'.ownsRow w0.heap.size r'.e r'.k r'.v r'.n r'.xs)(hb:r'.v.ownBlock=r.v.ownBlock∨r'.v.ownBlock=some w.heap.size) :
  Rw w0 w' bl (rs.set j r')∧Stp (Ob bl rs) w (Ob bl (rs.set j r')) w':=by
 have J:j<rs.length:=by
  by_cases h:j<rs.length
  .exact h
  rw[List.getElem?_eq_none Z]at S; cases S
 have hr:r∈rs:=List.mem_of_getElem? S;have ah:rs=rs.take j++r::rs.drop (j+1):=by
  have e:rs[j]=r:=by rw[List.getElem?_eq_getElem J]at S; exact Ò S
  rw[<-e,<-ń J,ň]
 have aa:rs.set j r'=rs.take j++r'::rs.drop (j+1):=by rw[List.set_eq_take_append_cons_drop,Á J]
 have hO:Ob bl rs=bl.map (·.1)++((rs.take j).filterMap (λr=>r.v.ownBlock)++(r.v.ownBlock.toList++(rs.drop (j+1)).filterMap λr=>r.v.ownBlock)):=by
  conv=>lhs; unfold Ob; rw[ah]
  rw[List.filterMap_append,ϕ]; cases r.v.ownBlock<;>rfl
 have ae:Ob bl (rs.set j r')=bl.map (·.1)++((rs.take j).filterMap (λr=>r.v.ownBlock)++(r'.v.ownBlock.toList++(rs.drop (j+1)).filterMap λr=>r.v.ownBlock)):=by
  unfold Ob; rw[aa,List.filterMap_append,ϕ]; cases r'.v.ownBlock<;>rfl
 have ag:∀c,r'.v.ownBlock=some c->c<w'.heap.size:=λc J=>(iQ ho J).2;have S:=R.apart;rw[hO]at S;have ab:∀c∈Ob bl (rs.set j r'),c∈Ob bl rs∨w.heap.size<=c:=λc J=>by
  rw[ae]at J;rw[hO];simp only[ā,Option.mem_toList]at J |-;rcases J with h | h | h | h
  .exact .inl (.inl h)
  .exact .inl (.inr (.inl h))
  .rcases hb with e | e
   .exact .inl (.inr (.inr (.inl (e▸h))))
   rw[e]at h;simp only[Æ]at h;exact .inr Z
  exact .inl (.inr (.inr (.inr h)))
 refine⟨⟨λs hs=>?_,λc J=>?_,?_⟩,⟨⟨D.os,D.tape,D.output,D.size,λi hi hn=>D.block i hi λe=>hn (jh hr e.symm)⟩,ab⟩⟩
 .by_cases ao4:s=r'
  .rw[ao4]; exact ho
  have h:s∈rs:=(List.mem_or_eq_of_mem_set hs).resolve_right ao4;by_cases hsr:s.v.ownBlock=r.v.ownBlock∧s.v.ownBlock≠none
  .obtain⟨h1,h2⟩:=hsr;exfalso;rw[aa]at hs;obtain⟨g,af⟩:=Option.ne_none_iff_exists'.1 h2;have ai:r.v.ownBlock=some g:=h1▸af;rw[ai]at S;have e1:=(ŋ.1 S).2.1;have e2:=ŋ.1 e1;rcases ā.1 hs with hs | hs
   .exact e2.F g (ő.2 ⟨s,hs,af⟩) g Y I
   have hs:=(Ù.1 hs).resolve_left ao4;have:=(Ż.1 (show(g::(rs.drop (j+1)).filterMap λr=>r.v.ownBlock).Nodup from e2.2.1)).1;exact this (ő.2 ⟨s,hs,af⟩)
  refine mZ (R.own s h) λg ac=>D.block g (R.lt g (jh h ac)) λe=>hsr ⟨ac.trans e,by rw[ac]; simp⟩
 .rcases ab c J with h | h
  .exact ö (R.lt c h) D.size
  rw[ae]at J;simp only[ā,Option.mem_toList]at J;rcases J with h | h | h | h
  .exact ö (R.lt c (by rw[hO]; simp[h])) D.size
  .exact ö (R.lt c (by rw[hO]; simp only[ā]; exact .inr (.inl h))) D.size
  .exact ag c h
  exact ö (R.lt c (by rw[hO]; simp only[ā]; exact .inr (.inr (.inr h)))) D.size
 rw[ae];rcases hb with e | e
 .rw[e]; exact S
 rw[e];have D:∀c∈Ob bl rs,c≠w.heap.size:=λc J=>by have:=R.lt c J; omega
 rw[hO]at D;obtain⟨h1,h2,h3⟩:=ŋ.1 S;obtain⟨h4,J,h6⟩:=ŋ.1 h2;obtain⟨S,h8,h9⟩:=ŋ.1 J;refine ŋ.2 ⟨h1,ŋ.2 ⟨h4,?_,λx S y J=>?_⟩,λx S y J=>?_⟩
 .exact Ż.2 ⟨λhm=>D _ (by simp only[ā]; exact .inr (.inr (.inr hm))) I,h8⟩
 .rcases Ù.1 (show y∈w.heap.size::_ from J)with rfl | J
  .exact D x (by simp only[ā]; exact .inr (.inl S))
  exact h6 x S y (ś _ J)
 rcases ā.1 J with J | J
 .exact h3 x S y (ū _ J)
 rcases Ù.1 (show y∈w.heap.size::_ from J)with rfl | J
 .exact D x (by simp only[ā]; exact .inl S)
 exact h3 x S y (ś _ (ś _ J))
def JE(os:List YM)(l:List (Nat×y9)):Option (Ð×y9×y9×Option Nat):=
 match os with
 | o::_=>(match o.guard,o.op with
  | none,.call c=>(match c.callee,c.args.toList,c.argTypes.toList with
   | .builtin .append,[s,x],[t,t']=>(match rd (lift l) [] s,rd (lift l) [] x,t==t' with
    | some v,some y,true=>some (t,v,y,o.dst)
    | _,_,_=>none)
   | _,_,_=>none)
  | _,_=>none)
 | []=>none
abbrev CJ{os:List YM}{d:Option Nat}(h:JE os l=some (t,v,y,d)):∃o os' s x,os=o::os'∧o.guard=none∧o.dst=d∧o.op = .call { callee := .builtin .append,args := #[s,x],argTypes := #[t,t] }∧rd (lift l) [] s=some v∧rd (lift l) [] x=some y:=by
 cases os with
 | nil=>cases h
 | cons o os =>
  unfold JE at h;simp only at h;split at h
  .rename_i c hg hop;split at h
   .rename_i s x t1 t2 h1 h2 h3;split at h
    .rename_i v' y' hv hy ht;simp only[Æ,Ê]at h;obtain⟨rfl,rfl,rfl,rfl⟩:=h;obtain rfl:t1=t2:=by simpa using ht
     refine⟨o,os,s,x,I,hg,I,?_,hv,hy⟩;rw[hop];obtain⟨callee,args,argTypes⟩:=c;simp only at h1 h2 h3;rw[h1,<-Ϛ (xs:=args),<-Ϛ (xs:=argTypes),h2,h3]
    cases h
   cases h
  cases h
abbrev Hq(ho:o.op = .call { callee := .builtin .append,args := #[s,x],argTypes := #[t,t] }){z:y9}{bytes:Nat}(T:fM P t e z k bytes){B:Nat}
     (D:w.ownsRow B e k v m xs) (hs:ρ s=v)    (hy:dQ w k y c ys) (hx:ρ x=y) (af:m+c<=maxLen) (J:(m+c)*bytes<=140737488355328) (hB:B<=w.heap.size) :
  ∃S w',(Í ρ o).run P w = .ok (.value S) w'∧w'.ownsRow B e k S (m+c) (xs++ys)∧w.grownBy w' v.ownBlock∧(S.ownBlock=v.ownBlock∨S.ownBlock=some w.heap.size):=by
 obtain⟨i,hi,ab,ac,ae⟩:=T.info;obtain⟨hl,h1,hy⟩:=hy;rcases hy with ⟨rfl,ad,cap,rfl,hz⟩ | ⟨b,off,cap,rfl,hb,hn,hm,hc⟩
 .have:ys=[]:=Ś (by simpa using hl);subst this;rcases ad with _ | ad;case some =>
   obtain⟨S,w',hr,h2,h3,_,h5⟩:=run_append_own_at (P:=P) w B t o.type e i z k bytes T.und hi ab ac ae T.zc T.pos v m xs D ad 0 cap [] Y Y Y af J hB;refine⟨S,w',?_,h2,h3,h5⟩;unfold Í;simp only[ho,resolve,invoke,builtin,ġ,ž,ş,ϙ,đ,ĵ,hs,hx,hr]
  obtain rfl:=hz I;have hr:=run_append_owned_none (P:=P) (w:=w) B t o.type e i k T.und hi v m xs D;refine⟨v,w,?_,by simpa using D,⟨I,I,I,Ç _,λ_ _ _=>rfl⟩,.inl I⟩;unfold Í;simp only[ho,resolve,invoke,builtin,ġ,ž,ş,ϙ,đ,ĵ,hs,hx,hr]
 have aa:∀(j:Nat) u,ys[j]?=some u->w.cell? ((⟨b,off,none⟩:Addr).add j)=some u:=by
  intro j u hj;have e1:(⟨b,off,none⟩:Addr).add j=⟨b,off+j,none⟩:=by unfold Addr.add; split<;>simp_all
  rw[e1]; exact hc j u hj
 obtain⟨S,w',hr,h2,h3,_,h5⟩:=run_append_own_at (P:=P) w B t o.type e i z k bytes T.und hi ab ac ae T.zc T.pos v m xs D ⟨b,off,none⟩ c cap ys hl aa h1 af J hB;refine⟨S,w',?_,h2,h3,h5⟩;unfold Í;simp only[ho,resolve,invoke,builtin,ġ,ž,ş,ϙ,đ,ĵ,hs,hx,hr]
abbrev St.grown{w':E5}{r:Row}(S:St w0 a w n l bl vs)(R:Rw w0 w bl rs)(hr:r∈rs)(J:w.grownBy w' r.v.ownBlock):St w0 a w' n l bl []:=by
 have hO:∀b∈Ob bl rs,w0.heap.size<=b:=R.old S;refine⟨S.s,?_,λp D=>⟨?_,(S.own p D).2⟩,S.apart,λm hm=>by cases hm⟩
 .refine Fr.below (ą:=Ob bl rs) ⟨J.os,J.tape,J.output,J.size,λi hi hn=>J.block i hi λe=>hn (jh hr e.symm)⟩ S.E hO
 have aa:some p.1≠r.v.ownBlock:=λe=>by
  have hd:=ŋ.1 R.apart;exact hd.F p.1 (ô.2 ⟨p,D,I⟩) p.1 (ő.2 ⟨r,hr,e.symm⟩) I
 have hb:=(S.own p D).1;have D:=J.block p.1 hb.1 aa;exact⟨ö hb.1 J.size,λi=>(World.cell?_of_block (a:=⟨p.1,i,none⟩) D).trans (hb.2.1 i),λi=>(World.frozen?_of_block (a:=⟨p.1,i,none⟩) D).trans (hb.F i)⟩
abbrev app(S:St w0 a w n l bl vs)(R:Rw w0 w bl rs)(j:Nat){z:y9}{bytes:Nat}(d:Nat)(hj:rs[j]?=some r)(T:fM P t r.e z r.k bytes)(hy:dQ w r.k y m ys)
  (af:r.n+m<=maxLen) (D:(r.n+m)*bytes<=140737488355328)
  (next:∀J w' v',Stp (Ob bl rs) w (Ob bl (rs.set j ⟨r.e,r.k,v',r.n+m,r.xs++ys⟩)) w'->Rw w0 w' bl (rs.set j ⟨r.e,r.k,v',r.n+m,r.xs++ys⟩)->St w0 J w' n ((d,v')::l) bl []->Ã P ops Q (os.drop 1) J w')
  (hx:JE os l=some (t,r.v,y,some d):=by kernel_rfl) (hd:uG n (some d)=true:=by rfl):Ã P ops Q os a w:=by
 obtain⟨o,os',s,x,rfl,hg,ab,J,hs,ae⟩:=CJ hx;have hr:r∈rs:=List.mem_of_getElem? hj;have aa:=gG (bT S.s) o;have es:a.eval s=r.v:=gB (Std.act a) (aa s (by rw[J]; simp[Op.operands,Call.operands])) (p:=[]) I hs;have ex:a.eval x=y:=gB (Std.act a) (aa x (by rw[J]; simp[Op.operands,Call.operands])) (p:=[]) I ae;obtain⟨v',w',ac,h2,h3,h4⟩:=Hq (P:=P) J T (R.own r hr) es hy ex af D S.E.size;obtain⟨D,Ó⟩:=R.set (r':=⟨r.e,r.k,v',r.n+m,r.xs++ys⟩) hj h3 h2 h4;unfold Ã;rw[Á (by simp[Region.wanted,hg])];left;unfold Oper.wp;rw[ac];simp only[Oper.upon];rw[ab];exact next _ _ v' Ó D ((S.grown R hr h3).act (tC S.s hd v'))
def xC(P:Ë)(r:Nat)(os:List YM)(l:List (Nat×y9)):Option (List y9×Ð×y9×Option Nat):=
 match os with
 | o::_=>(match o.guard,wP o.op || !o.op.operands.all (λx=>(rd (lift l) [] x).isSome),Gv P r (Í (zQ (lift l) []) o)with
  | none,false,some (A,ty,k)=>(match jd (ev0 P k)with | some (.val v)=>some (A,ty,v,o.dst) | _=>none)
  | _,_,_=>none)
 | []=>none
abbrev newRow(S:St w0 a w n l bl vs)(R:Rw w0 w bl rs)(d m:Nat)(e:Ð)(k:Nat)(A:List y9)(next:∀D w' v,Ext w w'->Stp (Ob bl rs) w (Ob bl (⟨e,k,v,m,A⟩::rs)) w'->Rw w0 w' bl (⟨e,k,v,m,A⟩::rs)->St w0 D w' n ((d,v)::l) bl vs->Ã P ops Q (os.drop 1) D w')
  (D:∀r,xC P r os l=some (A,e,.s (some ⟨r,0,none⟩) m m,some d):=by intro r; kernel_rfl) (hA:A.length=m*k:=by rfl) (hm:m<=maxLen:=by decide) (hd:uG n (some d)=true:=by rfl):Ã P ops Q os a w:=by
 have D:=D w.heap.size;cases os with
 | nil=>cases D
 | cons o os =>
  unfold xC at D;simp only at D;split at D
  .rename_i A' ty k' hg hav hev;split at D
   .rename_i v J;simp only[Æ,Ê]at D;obtain⟨rfl,rfl,rfl,aa⟩:=D;simp only[Ĕ]at hav;have hc:Í a.eval o=Í (zQ (lift l) []) o:=by
     refine execOp_congr o (λcs b e1=>by rw[e1]at hav; cases hav.1) λx D=>?_;have h2:=hav.2;simp only[Ň,Κ]at h2;obtain⟨v,J⟩:=Į.1 (h2 x D);rw[gB (Std.act a) (gG (bT S.s) o x D) (p:=[]) I J];simp[zQ,J]
    have ab:ev0 P k'=some (.value (.s (some ⟨w.heap.size,0,none⟩) m m)):=by
     unfold jd at J;split at J
     .rename_i h; obtain h2:=Ò J; rw[h]; simp only[GH.val.injEq]at h2; rw[h2]
     .cases J
     cases J
    have J:(Í a.eval o).run P w = .ok (.value (.s (some ⟨w.heap.size,0,none⟩) m m)) (w.alloc (.cells A'.toArray ty)):=by rw[hc,nK hev,oI ab]
    unfold Ã;rw[Á (by simp[Region.wanted,hg])];left;unfold Oper.wp;rw[J];simp only[Oper.upon];have J:Ext w (w.alloc (.cells A'.toArray ty)):=aI _ _;have ho:(w.alloc (.cells A'.toArray ty)).ownsRow w.heap.size ty k (.s (some ⟨w.heap.size,0,none⟩) m m) m A':=
     ⟨hA,.inr ⟨w.heap.size,m,A'.toArray,I,Ç _,Array.getElem?_push_size,Ç _,hm,by simpa using hA,by rw[<-hA]; simp⟩⟩
    rw[aa];exact next _ _ _ J (Stp.add (r:=⟨ty,k,_,m,A'⟩) J ho (Ç _)) ((R.ext J).add (r:=⟨ty,k,_,m,A'⟩) ho (λb hb=>R.lt b hb) S.E.size) ((S.grow J).act (tC S.s hd _))
   cases D
  cases D
theorem vX(b:Nat)(e:Ð)(J:Nat×Nat):∀(S:List y9) (o:Nat) (w:E5) (D:Array y9),w.heap[b]?=some (.cells D e J)->o+S.length<=D.size->(w.setCells b o S).heap[b]?=some (.cells (spl D.toList o S).toArray e J)
 | [],o,w,D,h,hl=>by simp[World.setCells,h,spl]
 | v::r,o,w,D,h,hl=>by
  have S:(w.setCell ⟨b,o,none⟩ v).heap[b]?=some (.cells (D.setIfInBounds o v) e J):=by simp[World.setCell,Array.getElem?_modify,h]
  have aa:o+(r.length+1)<=D.size:=by simpa using hl
  rw[World.setCells,vX b e J r (o+1) _ _ S (by simp; omega)]
  have:spl (D.setIfInBounds o v).toList (o+1) r=spl D.toList o (v::r):=by
   rw[Array.toList_setIfInBounds]
   have J:o<D.toList.length:=by simp; omega
   generalize D.toList=c at J
   obtain⟨p,x,q,rfl,rfl⟩:∃p x q,c=p++x::q∧p.length=o:=⟨c.take o,c[o],c.drop (o+1),by rw[<-ń J,ň],by simp; omega⟩
   unfold spl
   have D:List.take (p.length+1) p=p:=Ď Z
   simp[List.take_append,List.drop_append,Nat.add_assoc,Nat.add_comm 1,D]
  rw[this]
abbrev oM{D:Array y9}(h:w.heap[b]?=some (.cells D e (0,0))):Bx w b D:=by
 refine⟨?_,λi=>?_,λi=>?_⟩
 .by_cases hlt:b<w.heap.size
  .exact hlt
  rw[Array.getElem?_eq_none Z]at h; cases h
 .simp[World.cell?,h]
 simp[World.frozen?,h]
abbrev ahJ{A:List y9}{o q:Nat}(h:o+cs.length<=q):(spl A o cs).take q=spl (A.take q) o cs:=by
 unfold spl;refine List.ext_getElem? λi=>?_;simp only[List.getElem?_append,List.getElem?_take,List.getElem?_drop,Å,Ĳ];by_cases hA:o<=A.length
 .simp only[Ε hA,Ε (show o<=min q A.length by omega)];by_cases h1:i<o
  .simp[h1,show i<q by omega,show i<o+cs.length by omega]
  by_cases h2:i<o+cs.length
  .simp[h1,h2,show i<q by omega]
  by_cases h3:i<q
  .simp[h2,h3,show o+cs.length+(i-(o+cs.length))<q by omega]
  simp[h2,h3,show ¬o+cs.length+(i-(o+cs.length))<q by omega]
 simp only[Nat.min_eq_right (show A.length<=o by omega),Nat.min_eq_right (show A.length<=q by omega)];by_cases h1:i<A.length
 .simp[h1,show i<q by omega,show i<o by omega,show i<A.length+cs.length by omega]
 by_cases h2:i<A.length+cs.length
 .simp[h1,h2,show i<q by omega]
 have D:∀x,A[o+cs.length+x]?=none:=λx=>List.getElem?_eq_none Z;simp[h2,D]
abbrev Rw.store{j:Nat}{r:Row}{g off cap:Nat}{cs:List y9}(R:Rw w0 w bl rs)(D:rs[j]?=some r)(S:r.v = .s (some ⟨g,0,none⟩) r.n cap)(J:off+cs.length<=r.xs.length) :
  ∃A:List y9,Bx w g A.toArray∧off+cs.length<=A.length∧w.grownBy (w.setCells g off cs) r.v.ownBlock∧(w.setCells g off cs).ownsRow w0.heap.size r.e r.k r.v r.n (spl r.xs off cs):=by
 have ho:=R.own r (List.mem_of_getElem? D);obtain⟨h1,⟨hn,-⟩ | ⟨g',cap',D,J,h2,h3,h4,h5,h6,h7⟩⟩:=ho
 .rw[S]at hn; cases hn
 rw[S]at J;simp only[Ĉ,Æ,Ŵ,and_true,true_and]at J;obtain⟨rfl,rfl⟩:=J;have J:r.n*r.k<=D.toList.length:=by
  rw[Array.length_toList,h6]; exact ō _ h4
 refine⟨D.toList,by simpa using oM h3,Z,?_,?_⟩
 .rw[S]; exact(Ch.refl g w).setCells ..
 refine⟨?_,.inr ⟨g,cap,(spl D.toList off cs).toArray,S,h2,vX g r.e (0,0) cs off w D h3 (by simp at J |-; omega),h4,h5,?_,?_⟩⟩
 .unfold spl; simp; omega
 .unfold spl; simp at J |-; omega
 rw[show(spl D.toList off cs).toArray.toList=spl D.toList off cs from rfl,ahJ Z,h7]
abbrev Uh(S:St w0 a w n l bl vs)(R:Rw w0 w bl rs)(j:Nat)(hj:rs[j]?=some r)(J:r.v = .s (some ⟨g,0,none⟩) r.n cap)(hf:off+cs.length<=r.xs.length)
  (next:∀w',Stp (Ob bl rs) w (Ob bl (rs.set j ⟨r.e,r.k,r.v,r.n,spl r.xs off cs⟩)) w'->Rw w0 w' bl (rs.set j ⟨r.e,r.k,r.v,r.n,spl r.xs off cs⟩)->St w0 a w' n l bl []->Ã P ops Q (os.drop 1) a w')
  (hx:lC P os l=some (g,off,.agg cs.toArray,cs.length):=by kernel_rfl) (h1:cs.all (·.oneCell')=true:=by kernel_rfl):Ã P ops Q os a w:=by
 obtain⟨o,os',ty,x,y,rfl,hg,aa,D,ac,ae,hi⟩:=oP hx;obtain⟨A,af,ag,ab,ho⟩:=R.store hj J hf;have J:=gG (bT S.s) o;have ex:a.eval x = .q g off:=gB (Std.act a) (J x (by rw[D]; simp[Op.operands])) (p:=[]) I ac;have ey:a.eval y = .agg cs.toArray:=gB (Std.act a) (J y (by rw[D]; simp[Op.operands])) (p:=[]) I ae;have J:=OE (P:=P) D ex ey af hi ag h1;obtain⟨D,Ó⟩:=R.set (r':=⟨r.e,r.k,r.v,r.n,spl r.xs off cs⟩) hj ab ho (.inl I);unfold Ã;rw[Á (by simp[Region.wanted,hg])];left;unfold Oper.wp;rw[J];simp only[Oper.upon];rw[aa];exact next _ Ó D (S.grown R (List.mem_of_getElem? hj) ab)
abbrev KZ{y:î}{A:List y9}(ab:o.op = .store ty x y)(hx:ρ x = .q b off)(hy:ρ y=v)(S:Bx w b A.toArray)
  (hi:(P.info? ty).map (·.size)=some 1) (J:off<A.length) (h1:v.cells = #[v]) (ac:v.oneCell'=true):(Í ρ o).run P w = .ok .skip (w.setCells b off [v]):=by
 have D:=S.2.1 off;rw[Array.getElem?_eq_getElem (by simpa using J)]at D;have J:(Instr.storeAt ty (.q b off) v).run P w = .ok () (w.setCells b off [v]):=by
  cases hq:P.info? ty with
  | none=>simp[hq]at hi
  | some i =>
   have aa:i.size=1:=by simpa[hq]using hi
   have:=run_storeCells_cells (P:=P) b off [v] 0 w (λj hj=>by
    have:j=0:=by simpa using hj
    subst this; simp[D]) (λj hj=>by simpa using S.F (off+j)) (λu D=>by simp at D; subst D; exact ac)
   simp only[ż]at this;simp[Instr.storeAt,Instr.sureAddr,storeVar,sizeOf,typeInfo,hq,h1,aa,this]
 unfold Í;simp only[ab,hx,hy,ġ,J,ş,ž]
abbrev Oh(S:St w0 a w n l bl vs)(R:Rw w0 w bl rs)(j:Nat)(hj:rs[j]?=some r)(J:r.v = .s (some ⟨g,0,none⟩) r.n cap)(hf:off+1<=r.xs.length)
  (next:∀w',Stp (Ob bl rs) w (Ob bl (rs.set j ⟨r.e,r.k,r.v,r.n,spl r.xs off [v]⟩)) w'->Rw w0 w' bl (rs.set j ⟨r.e,r.k,r.v,r.n,spl r.xs off [v]⟩)->St w0 a w' n l bl []->Ã P ops Q (os.drop 1) a w')
  (hx:lC P os l=some (g,off,v,1):=by kernel_rfl) (h1:v.cells = #[v]:=by kernel_rfl) (ah:v.oneCell'=true:=by kernel_rfl):Ã P ops Q os a w:=by
 obtain⟨o,os',ty,x,y,rfl,hg,aa,D,ac,ae,hi⟩:=oP hx;obtain⟨A,af,ag,ab,ho⟩:=R.store (cs:=[v]) hj J hf;have J:=gG (bT S.s) o;have ex:a.eval x = .q g off:=gB (Std.act a) (J x (by rw[D]; simp[Op.operands])) (p:=[]) I ac;have ey:a.eval y=v:=gB (Std.act a) (J y (by rw[D]; simp[Op.operands])) (p:=[]) I ae;have J:=KZ (P:=P) D ex ey af hi (by simp at ag; omega) h1 ah;obtain⟨D,Ó⟩:=R.set (r':=⟨r.e,r.k,r.v,r.n,spl r.xs off [v]⟩) hj ab ho (.inl I);unfold Ã;rw[Á (by simp[Region.wanted,hg])];left;unfold Oper.wp;rw[J];simp only[Oper.upon];rw[aa];exact next _ Ó D (S.grown R (List.mem_of_getElem? hj) ab)
abbrev Rw.range{r:Row}{g cap:Nat}(R:Rw w0 w bl rs)(hr:r∈rs)(J:r.v = .s (some ⟨g,0,none⟩) r.n cap)(o:Nat){cs:List y9}(h:(r.xs.drop o).take cs.length=cs):w.rangeAt g o cs∧g<w.heap.size∧∀p∈bl,p.1≠g:=by
 have S:=R.own r hr;have hb:r.v.ownBlock=some g:=by rw[J]; rfl
 refine⟨λj u D=>?_,(iQ S hb).2,λp hp e=>?_⟩
 .obtain⟨h1,⟨hn,-⟩ | ⟨g',cap',cur,hv',h2,h3,h4,h5,h6,h7⟩⟩:=S
  .rw[J]at hn; cases hn
  rw[J]at hv';simp only[Ĉ,Æ,Ŵ,and_true,true_and]at hv';obtain⟨rfl,rfl⟩:=hv';rw[(oM h3).2.1];have J:r.xs[o+j]?=some u:=by
   rw[<-h,List.getElem?_take]at D;split at D
   .rwa [List.getElem?_drop]at D
   cases D
  rw[<-h7,List.getElem?_take]at J;split at J
  .simpa using J
  cases J
 have hd:=ŋ.1 R.apart;subst e;exact hd.F p.1 (ô.2 ⟨p,hp,I⟩) p.1 (ő.2 ⟨r,hr,hb⟩) I
theorem sK{α β:Type}{f:α->List β}{k:Nat}(D:∀x,(f x).length=k):∀(l:List α) (i:Nat) (h:i<l.length) (j:Nat),j<k->(l.flatMap f)[i*k+j]?=(f l[i])[j]?
 | x::l,0,_,j,hj=>by
  rw[Ķ,List.getElem?_append_left (by rw[D]; omega)]; simp
 | x::l,i+1,h,j,hj=>by
  rw[Ķ,List.getElem?_append_right (by rw[D,Œ]; omega),D,show(i+1)*k+j-k=i*k+j by rw[Œ]; omega]
  exact sK D l i (by simpa using h) j hj
theorem jB{α β:Type}{f:α->List β}{k:Nat}(D:∀x,(f x).length=k):∀l:List α,(l.flatMap f).length=l.length*k
 | []=>by simp
 | x::l=>by rw[Ķ,Å,D,jB D l,Ē,Œ]; omega
abbrev iZ{α:Type}{f:α->List y9}{B:Nat}{L:List α}(hf:∀x,(f x).length=k)(S:w.ownsRow B e k v m xs)(D:m=L.length)(J:xs=L.flatMap f):aU B (λw=>aG k f w v L) w:=by
 intro w' hs hb;subst D J;obtain⟨h1,⟨rfl,D⟩ | ⟨g,cap,J,rfl,h2,h3,h4,h5,h6,h7⟩⟩:=S
 .obtain rfl:=Ś D;exact dK k f w'
 have D:=(oM h3).1;refine⟨_,cap,I,h5,.inr ⟨g,0,I,ö D hs,h4,λi S j hj=>?_⟩⟩;have J:=hb g D h2;rw[World.cell?_of_block (a:=⟨g,0+i*k+j,none⟩) J,(oM h3).2.1,Ī,<-sK hf L i S j hj,<-h7,List.getElem?_take_of_lt]
 .simp
 calc i*k+j<i*k+k:=by omega
  _=(i+1)*k:=by rw[Œ]; omega
  _<=L.length*k:=ō _ S
def Ty(e:Ð)(k base:Nat)(v:y9)(n:Nat)(w:E5):Prop:=n=0∨∃g cap D,v = .s (some ⟨g,0,none⟩) n cap∧base<=g∧w.heap[g]?=some (.cells D e (0,0))∧n*k<=D.size
abbrev Ty.le{e:Ð}{k base b0 n:Nat}{v:y9}(h:Ty e k base v n w)(hb:b0<=base):Ty e k b0 v n w:=by
 rcases h with h | ⟨g,cap,D,J,S,h3⟩
 .exact .inl h
 exact .inr ⟨g,cap,D,J,ä hb S,h3⟩
abbrev Ty.ao5{B k:Nat}{e:Ð}{v:y9}{m:Nat}{xs:List y9}(ho:w.ownsRow B e k v m xs):aU B (Ty e k B v m) w:=by
 intro w' D hb;obtain⟨h1,⟨rfl,h0⟩ | ⟨g,cap,D,rfl,J,S,h4,h5,h6,h7⟩⟩:=ho
 .exact .inl h0
 exact .inr ⟨g,cap,D,I,J,(hb g (oM S).1 J).trans S,by rw[h6]; exact ō _ h4⟩
def kF{α:Type}(e:Ð)(k:Nat)(f:α->List y9)(base:Nat)(v:y9)(L:List α)(w:E5):Prop:=aG k f w v L∧Ty e k base v L.length w
abbrev kF.le{α:Type}{e:Ð}{k base b0:Nat}{f:α->List y9}{v:y9}{L:List α}(h:kF e k f base v L w)(D:b0<=base):kF e k f b0 v L w:=⟨h.1,h.2.le D⟩
abbrev fK{α:Type}{f:α->List y9}{B:Nat}{L:List α}(S:∀x,(f x).length=k)(D:w.ownsRow B e k v m xs)(J:m=L.length)(hx:xs=L.flatMap f):aU B (kF e k f B v L) w:=
 On.and (iZ S D J hx) (J▸Ty.ao5 D)
abbrev jV{α:Type}{f:α->List y9}{L:List α}(h:aG k f w v L)(S:∀x,(f x).length=k)(J:∀x,(f x).all (·.oneCell')=true):dQ w k v L.length (L.flatMap f):=by
 refine⟨jB S L,λu D=>?_,?_⟩
 .obtain⟨x,_,hx⟩:=List.mem_flatMap.1 D;exact ñ.1 (J x) u hx
 obtain⟨a,cap,rfl,D,⟨rfl,h⟩ | ⟨b,o,rfl,hb,hl,hc⟩⟩:=h
 .exact .inl ⟨I,a,cap,I,h⟩
 refine .inr ⟨b,o,cap,I,hb,hl,D,λj u J=>?_⟩;have D:j<L.length*k:=by
  rw[<-jB S L];by_cases h:j<(L.flatMap f).length
  .exact h
  rw[List.getElem?_eq_none Z]at J; cases J
 have hk:0<k:=by
  rcases ė k with rfl | h
  .simp at D
  exact h
 have hi:j/k<L.length:=(aG3 hk).2 D;have D:=hc (j/k) hi (j%k) (Ŋ _ hk);have e:j/k*k+j%k=j:=by rw[ĕ]; exact Nat.div_add_mod j k
 rw[<-sK S L (j/k) hi (j%k) (Ŋ _ hk),e,Ο,e,J]at D;exact D
abbrev vb (bl:List (Nat×List y9)):List Nat:=bl.map (·.1)
abbrev Stp.aiZ{ą D:List Nat}{b:Nat}(h:Stp ą w D w')(J:w.heap.size<=b):Stp ą w (b::D) w':=⟨h.fr,λc D=>by
 rcases Ù.1 D with rfl | D
 .exact .inr J
 exact h.new c D⟩
abbrev Stp.og{ą:List Nat}{b:Nat}(D:Ext w w')(J:b=w.heap.size):Stp ą w (b::ą) w':=(Stp.ext D).aiZ (ϛ J.symm)
abbrev Stp.Eo{ą:List Nat}{b:Nat}(D:Ch b w w')(J:b∈ą:=by simp[Go.Sx.vb]):Stp ą w ą w':=
 ⟨⟨D.os,D.tape,D.output,D.size,λi J hn=>D.block i J λe=>hn (by simp only[Æ]at e; rwa [e])⟩,λc h => .inl h⟩
abbrev Stp.jA(k:Nat):Stp (vb bl) w (vb (bl.drop k)) w:=Stp.sub λ_ h=>(List.Sublist.map _ (List.drop_sublist k bl)).subset h
abbrev Stp.full{D:List (Nat×List y9)}(h:Stp (vb bl) w (vb D) w'):Stp (Ob bl rs) w (Ob D rs) w':=
 ⟨⟨h.fr.os,h.fr.tape,h.fr.output,h.fr.size,λi D hn=>h.fr.block i D λJ=>hn (ū _ J)⟩,λb D=>by
  rcases ā.1 D with D | D
  .exact(h.new b D).imp (ū _) id
  .exact .inl (ś _ D)⟩
abbrev Rw.sync{J:List (Nat×List y9)}{aa:List eX}{l':List (Nat×y9)}{a':á}(R:Rw w0 w bl rs)(D:Stp (vb bl) w (vb J) w')(S:St w0 a' w' n l' J aa):Rw w0 w' J rs:=by
 have hd:=ŋ.1 R.apart;refine⟨λr J=>mZ (R.own r J) λg hg=>D.fr.block g (R.lt g (jh J hg)) λhm=>hd.F g hm g (ő.2 ⟨r,J,hg⟩) I,λb hb=>?_,ŋ.2 ⟨S.apart,hd.2.1,λx hx y J e=>?_⟩⟩
 .rcases ā.1 hb with h | h
  .obtain⟨p,hp,rfl⟩:=ô.1 h; exact(S.own p hp).1.1
  exact ö (R.lt b (ś _ h)) D.fr.size
 subst e;rcases D.new x hx with h | h
 .exact hd.F x h x J I
 have:=R.lt x (ś _ J); omega
abbrev Rw.aZ{J:List (Nat×List y9)}{aa:List eX}{l':List (Nat×y9)}{a':á}(R:Rw w0 w bl rs)(S:St w0 a' w' n l' J aa)(D:Stp (vb bl) w (vb J) w'):Rw w0 w' J rs∧Stp (Ob bl rs) w (Ob J rs) w':=⟨R.sync D S,D.full⟩
abbrev Rw.as{D:List Row}(R:Rw w0 w bl rs)(h:rs=D):Rw w0 w bl D:=h▸R
abbrev jf{B:Nat}(h:w.ownsRow B e k v m xs):∃a c,v = .s a m c:=by
 obtain⟨J,⟨rfl,rfl⟩ | ⟨g,cap,D,rfl,_⟩⟩:=h
 .exact⟨none,0,I⟩
 exact⟨_,cap,I⟩
abbrev oK{A:List y9}(D:Bx w b A.toArray)(hA:A.length=m*k:=by rfl)(hm:m<=maxLen:=by decide)(h1:A.all (·.oneCell')=true:=by kernel_rfl):dQ w k (.s (some ⟨b,0,none⟩) m m) m A:=
 ⟨hA,λu J=>ñ.1 h1 u J,.inr ⟨b,0,m,I,D.1,Ç _,hm,λj u S=>by rw[Ī,D.2.1]; simpa using S⟩⟩
abbrev wQ{i:TypeInfo}(D:P.underlying t=some (.slice e))(J:P.info? e=some i)(ad y:Option Addr)(n cap c:Nat)(hn:n<=cap):(Builtin.append_ #[t,t] ty #[.s ad n cap,.s y 0 c]).run P w = .ok (.s ad n cap) w:=by
 cases ad<;>cases y<;>simp[Builtin.append_,run_underlying D,sizeOf,typeInfo,J,Builtin.lenOf,Builtin.firstCells,hn,storeCells,loadCells,loadCellsFrom]
abbrev IJ(ho:o.op = .call { callee := .builtin .append,args := #[s,x],argTypes := #[t,t] }){z:y9}{bytes:Nat}(T:fM P t e z k bytes)
     (hv:dQ w k (.s (some ad) m cap) m xs) (hs:ρ s = .s (some ad) m cap)    (J:dQ w k y c ys) (hx:ρ x=y) (hc:cap<m+c) (aa:0<c) (ah:m+c<=maxLen) (D:(m+c)*bytes<=140737488355328) :
  ∃v' w',(Í ρ o).run P w = .ok (.value v') w'∧w'.ownsRow w.heap.size e k v' (m+c) (xs++ys)∧Ext w w':=by
 obtain⟨i,hi,ab,ac,ae⟩:=T.info;obtain⟨hl,S,J⟩:=J;rcases J with ⟨rfl,_⟩ | ⟨b,off,cap',rfl,S,hn,hm,ag⟩
 .omega
 have cells:∀(b off:Nat) (J:List y9),(∀(j:Nat) u,J[j]?=some u->w.cell? ⟨b,off+j,none⟩=some u)->∀(j:Nat) u,J[j]?=some u->w.cell? ((⟨b,off,none⟩:Addr).add j)=some u:=λb off J h j u hj=>by
  have J:(⟨b,off,none⟩:Addr).add j=⟨b,off+j,none⟩:=by unfold Addr.add; split<;>simp_all
  rw[J]; exact h j u hj
 have J:∀(j:Nat) u,xs[j]?=some u->w.cell? (ad.add j)=some u:=by
  obtain⟨af,_,hv⟩:=hv;rcases hv with ⟨rfl,_⟩ | ⟨b0,o0,ai,S,_,_,_,aa⟩
  .obtain rfl:xs=[]:=Ś (by simpa using af);intro j u hj; simp at hj
  simp only[Ĉ,Æ]at S;obtain⟨rfl,-,-⟩:=S;exact cells b0 o0 xs aa
 obtain⟨v',w',S,h2,h3⟩:=run_append_arg_grows (P:=P) w t o.type e i z k bytes T.und hi ab ac ae T.zc T.pos ad m cap xs hv.1 J ⟨b,off,none⟩ c cap' ys hl (cells b off ys ag) hc ah D;refine⟨v',w',?_,h2,gQ (ø _ _) h3 (Ç _)⟩;unfold Í;simp only[ho,resolve,invoke,builtin,ġ,ž,ş,ϙ,đ,ĵ,hs,hx,S]
abbrev Po{α:Type}{f:α->List y9}(ho:o.op = .call { callee := .builtin .append,args := #[s,x],argTypes := #[t,t] }){z:y9}{bytes:Nat}(T:fM P t e z k bytes)
   (hs:ρ s = .s (some ad) 0 0)  {L:List α} (hy:aG k f w y L) (hx:ρ x=y) (hf:∀x,(f x).length=k) (h1:∀x,(f x).all (·.oneCell')=true) (D:L.length*bytes<=140737488355328) :
  ∃S w',(Í ρ o).run P w = .ok (.value S) w'∧aU w.heap.size (kF e k f w.heap.size S L) w'∧Ext w w':=by
 rcases List.eq_nil_or_concat L with rfl | aa
 .obtain⟨a,c,rfl⟩:=hy.shape;obtain⟨i,J,-⟩:=T.info;refine⟨.s (some ad) 0 0,w,?_,λw' _ _=>⟨⟨_,0,I,Î _,.inl ⟨I,λe=>(by cases e)⟩⟩,.inl I⟩,å⟩;unfold Í;have hr:=wQ (P:=P) (w:=w) (ty:=o.type) T.und J (some ad) a 0 0 c (Ç _);simp only[ho,resolve,invoke,builtin,ġ,ž,ş,ϙ,đ,ĵ,hs,hx,ł,hr]
 have J:0<L.length:=by obtain⟨M,z,rfl⟩:=aa; simp
 obtain⟨S,w',hr,h2,h3⟩:=IJ (P:=P) ho T (m:=0) (cap:=0) (xs:=[]) (ad:=ad) ⟨by simp,λu hu=>(by cases hu),.inl ⟨I,some ad,0,I,λe=>(by cases e)⟩⟩ hs (jV hy hf h1) hx Z J (by have:=hy.len; omega) (by rw[Ī]; exact D);exact⟨S,w',hr,fK hf h2 (Ī _) (Ģ _),h3⟩
abbrev adE{α:Type}{f:α->List y9}{F:Fact}(ho:o.op = .call { callee := .builtin .append,args := #[s,x],argTypes := #[t,t] }){z:y9}{bytes:Nat}(T:fM P t e z k bytes)
   (hs:ρ s = .s (some ad) 0 0)  {L:List α} (hy:aG k f w y L) (hx:ρ x=y) (hf:∀x,(f x).length=k) (h1:∀x,(f x).all (·.oneCell')=true) (D:L.length*bytes<=140737488355328)
  (h:∀J w',aU w.heap.size (kF e k f w.heap.size J L) w'->Ext w w'->F (kept o J) w'):Does P o ρ w (λv w'=>Ext w w'∧F (kept o v) w'):=by
 obtain⟨J,w',hr,h2,S⟩:=Po (P:=P) ho T hs hy hx hf h1 D;exact Hl hr S (h J w' h2 S)
abbrev Zv(S:St w0 a w n l bl vs){α:Type}{f:α->List y9}{z:y9}{bytes:Nat}(d:Nat)(T:fM P t e z k bytes){L:List α}(hy:aG k f w y L)(D:L.length*bytes<=140737488355328)
  (next:∀J w' v',Ext w w'->aU w.heap.size (kF e k f w.heap.size v' L) w'->St w0 J w' n ((d,v')::l) bl vs->Ã P ops Q (os.drop 1) J w')
  (hx:JE os l=some (t,.s (some ad) 0 0,y,some d):=by kernel_rfl) (hf:∀x,(f x).length=k:=by intro x; rfl) (h1:∀x,(f x).all (·.oneCell')=true:=by intro x; rfl) (hd:uG n (some d)=true:=by rfl):Ã P ops Q os a w:=by
 obtain⟨o,os',s,x,rfl,hg,ab,J,hs,ae⟩:=CJ hx;have aa:=gG (bT S.s) o;have es:a.eval s = .s (some ad) 0 0:=gB (Std.act a) (aa s (by rw[J]; simp[Op.operands,Call.operands])) (p:=[]) I hs;have ex:a.eval x=y:=gB (Std.act a) (aa x (by rw[J]; simp[Op.operands,Call.operands])) (p:=[]) I ae;obtain⟨v',w',ac,h2,h3⟩:=Po (P:=P) J T es hy ex hf h1 D;unfold Ã;rw[Á (by simp[Region.wanted,hg])];left;unfold Oper.wp;rw[ac];simp only[Oper.upon];rw[ab];exact next _ _ v' h3 h2 ((S.grow h3).act (tC S.s hd v'))
abbrev asR(S:St w0 a w n l bl vs)(R:Rw w0 w bl rs){z:y9}{bytes:Nat}(d:Nat)(T:fM P t e z k bytes)(hv:dQ w k (.s (some ad) m cap) m xs)(hy:dQ w k y c ys)(hc:cap<m+c)(ag:0<c)(ah:m+c<=maxLen)(D:(m+c)*bytes<=140737488355328)
  (next:∀a' w' J,Ext w w'->Stp (Ob bl rs) w (Ob bl (⟨e,k,J,m+c,xs++ys⟩::rs)) w'->Rw w0 w' bl (⟨e,k,J,m+c,xs++ys⟩::rs)->St w0 a' w' n ((d,J)::l) bl vs->Ã P ops Q (os.drop 1) a' w')
  (hx:JE os l=some (t,.s (some ad) m cap,y,some d):=by kernel_rfl) (hd:uG n (some d)=true:=by rfl):Ã P ops Q os a w:=by
 obtain⟨o,os',s,x,rfl,hg,ac,aa,hs,af⟩:=CJ hx;have ab:=gG (bT S.s) o;have es:a.eval s = .s (some ad) m cap:=gB (Std.act a) (ab s (by rw[aa]; simp[Op.operands,Call.operands])) (p:=[]) I hs;have ex:a.eval x=y:=gB (Std.act a) (ab x (by rw[aa]; simp[Op.operands,Call.operands])) (p:=[]) I af;obtain⟨J,w',ae,h2,h3⟩:=IJ (P:=P) aa T hv es hy ex hc ag ah D;unfold Ã;rw[Á (by simp[Region.wanted,hg])];left;unfold Oper.wp;rw[ae];simp only[Oper.upon];rw[ac];exact next _ _ J h3 (Stp.add (r:=⟨e,k,J,m+c,xs++ys⟩) h3 h2 (Ç _)) ((R.ext h3).add (r:=⟨e,k,J,m+c,xs++ys⟩) h2 R.lt S.E.size) ((S.grow h3).act (tC S.s hd J))
end
def yV(Q:Ŗ->á->E5->Prop):Ŗ->á->E5->Prop
 | .normal,a,w=>Q .normal a w
 | _,_,_=>False
section
variable{P:Ë}{ops ops':Array YM}{Q:Ŗ->á->E5->Prop}{a:á}{w:E5}
abbrev oH:¬LetsOut (yV Q):=λ⟨_,_,h⟩=>h
abbrev ahK{i:Nat}{K J:á->E5->Prop}(D:∀a w,K a w->J a w)(h:wpOp P ops (yV Q) i K a w):wpOp P ops Q i J a w:=by
 unfold wpOp at *;split at h
 .exact D _ _ h
 split at h
 .rename_i hw;rw[Á hw];rcases h with h | ⟨_,h⟩
  .left;unfold Oper.wp at *;generalize (Í a.eval _).run P w=r at *;cases r with
   | ok n w' =>
    cases n<;>simp only[Oper.upon]at h |-;case value u=>exact D _ _ h
    case skip=>exact D _ _ h
    case defer d=>exact D _ _ h
    case enter f args =>
     refine Calls.mono h λe S J=>?_;cases e with
     | returned u=>exact D _ _ J
     | panicked c=>exact J.elim
     | outgrown=>exact(oH J).elim
    case row row args=>exact Rows.mono h λu S J=>D _ _ J
   | halt x w' =>
    cases x<;>simp only[Oper.upon]at h |-;case panic u=>exact h.elim
  exact(oH h).elim
 rename_i hw;rw[UQ hw];exact D _ _ h
theorem uD{md:Region.Mode}:∀(f:Nat) (D:Array Bool) (a:á) (w:E5),Đ P md ops (yV Q) f D a w->Đ P md ops Q f D a w
 | 0,_,_,_,h=>⟨h.1,h.2⟩
 | f+1,_,_,_,h=>⟨λD=>h.1 D,λi J=>ahK (λa w=>uD f _ a w) (h.2 i J)⟩
def Alike(ops ops':Array YM):Prop:=ops.size=ops'.size∧∀i:Nat,(ops[i]?).map (λo:YM=>(o.op,o.dst,o.guard,o.type,o.pos))=(ops'[i]?).map (λo:YM=>(o.op,o.dst,o.guard,o.type,o.pos))
abbrev Alike.get(h:Alike ops ops'){i:Nat}{o':YM}(J:ops'[i]?=some o'):∃D,ops[i]?=some { o' with after:=D }:=by
 have:=h.2 i;rw[J]at this;cases ho:ops[i]? with
 | none=>rw[ho]at this; cases this
 | some o =>
  rw[ho]at this;obtain⟨dst,op,J,pos,after,D⟩:=o;obtain⟨aa,ac,S,ab,D,J⟩:=o';simp only[ě,Æ,Ê]at this;obtain⟨rfl,rfl,rfl,rfl,rfl⟩:=this;exact⟨after,I⟩
theorem Alike.none(h:Alike ops ops'){i:Nat}(D:ops'[i]?=none):ops[i]?=none:=by
 have:=h.2 i;rw[D]at this;cases ho:ops[i]? with
 | none=>rfl
 | some o=>rw[ho]at this; cases this
abbrev Alike.yielded(h:Alike ops ops')(ts:Array y9):Go.yielded ops ts=Go.yielded ops' ts:=by
 funext j;unfold Go.yielded;have:=h.2 j;cases h1:ops[j]?<;>cases h2:ops'[j]?<;>rw[h1,h2]at this
 .cases this
 .cases this
 simp only[ě,Æ,Ê]at this;simp only[Α,this.2.1]
abbrev K07{ρ:î->y9}{o:YM}{D:Array Edge}:Í ρ { o with after:=D }=Í ρ o:=by
 obtain⟨dst,op,J,pos,after,D⟩:=o;rfl
abbrev Alike.wpOp(h:Alike ops ops'){i:Nat}{K J:á->E5->Prop}(S:∀a w,K a w->J a w)(D:Go.wpOp P ops Q i K a w):Go.wpOp P ops' Q i J a w:=by
 refine wpOp_mono S ?_;unfold Go.wpOp at *;cases hi:ops'[i]? with
 | none=>rw[h.none hi]at D; exact D
 | some o' =>
  obtain⟨S,J⟩:=h.get hi;rw[J]at D;simp only at D |-;rw[h.yielded]at D;have J:Region.wanted { o' with after:=S }=Region.wanted o':=I;rw[J]at D;unfold Oper.wp Oper.asks at *;simp only[K07]at D;exact D
abbrev Gh{F:List Nat}(h:Alike ops ops')(hF:∀(i:Nat) (o S:YM),ops[i]?=some o->ops'[i]?=some S->∀e∈o.after,Region.binds .any e=true->e.on∈F∨∃J∈S.after,Region.binds .any J=true∧J.on=e.on)
  (ae:∀(i:Nat) (o S:YM),ops[i]?=some o->ops'[i]?=some S->∀e∈S.after,Region.binds .any e=true->∃J∈o.after,Region.binds .any J=true∧J.on=e.on) :
  ∀(f:Nat) (D:Array Bool) (a:á) (w:E5),(∀i∈F,D.getD i false=true)->Đ P .any ops Q f D a w->Đ P .any ops' Q f D a w:=by
 have hr:∀D:Array Bool,(∀i∈F,D.getD i false=true)->∀j,j∈Region.ready .any ops' D↔j∈Region.ready .any ops D:=by
  intro D hl j;rw[mem_ready,mem_ready];constructor
  .rintro⟨h0,S,ho',hall⟩;obtain⟨af,ho⟩:=h.get ho';refine⟨h0,_,ho,λe he hb=>?_⟩;rcases hF j _ _ ho ho' e he hb with h1 | ⟨J,aa,ab,ac⟩
   .exact hl _ h1
   rw[<-ac]; exact hall J aa ab
  rintro⟨h0,o,ho,hall⟩;cases ho':ops'[j]? with
  | none=>rw[h.none ho']at ho; cases ho
  | some S =>
   refine⟨h0,S,I,λe he hb=>?_⟩;obtain⟨J,aa,ab,ac⟩:=ae j _ _ ho ho' e he hb;rw[<-ac]; exact hall J aa ab
 have J:∀D:Array Bool,(∀i∈F,D.getD i false=true)->(Region.ready .any ops' D=[]↔Region.ready .any ops D=[]):=λD hl=>by
  simp only[aG5,hr D hl]
 intro f;induction f with
 | zero=>exact λD a w hl S=>⟨(J D hl).2 S.1,S.2⟩
 | succ f ih =>
  exact λD a w hl S=>⟨λh0=>S.1 ((J D hl).1 h0),λi hi=>h.wpOp (λa w=>ih _ a w λj J=>getD_set_true (hl j J)) (S.2 i ((hr D hl i).1 hi))⟩
def takeB(ops ops':Array YM):List Nat->Array Bool->Bool
 | [],_=>true
 | p::F,listed=>(match ops[p]?,ops'[p]? with
  | some o,some o'=>(match o.op,o'.op,o.guard,o'.guard with | .move (.tmp x),.move (.tmp y),none,none=>x==y&&o.dst==o'.dst | _,_,_,_=>false)
  | _,_=>false)&&(Region.ready .any ops listed).contains p&&(Region.ready .any ops' listed).contains p&&Region.free .any ops' listed p&&takeB ops ops' F (listed.setIfInBounds p true)
abbrev V9{ρ:î->y9}{o:YM}{x:î}(h:o.op = .move x)(w:E5):(Í ρ o).run P w = .ok (.value (ρ x)) w:=by
 unfold Í; simp only[h]; rfl
theorem Wh(hs:Region.noSelect ops'=true)(ì:∀(f:Nat) (D:Array Bool) (a:á) (w:E5) (F:List Nat),(∀i∈F,D.getD i false=true)->True){F0:List Nat}
  (hA:∀(f:Nat) (D:Array Bool) (a:á) (w:E5),(∀i∈F0,D.getD i false=true)->Đ P .any ops (yV Q) f D a w->Đ P .any ops' (yV Q) f D a w) :
  ∀(F:List Nat) (f:Nat) (D:Array Bool) (a:á) (w:E5),takeB ops ops' F D=true->(∀i∈F0,i∈F∨D.getD i false=true)->Đ P .any ops (yV Q) (f+F.length) D a w->Đ P .any ops' (yV Q) (f+F.length) D a w
 | [],f,D,a,w,_,hl,h=>hA _ _ _ _ (λi hi=>(hl i hi).resolve_left Y) h
 | p::F,f,D,a,w,hb,hl,h=>by
  unfold takeB at hb
  simp only[Û]at hb
  obtain⟨⟨⟨⟨h1,J⟩,h3⟩,h4⟩,h5⟩:=hb
  split at h1
  .rename_i o o' ho ho'
   split at h1
   .rename_i x y hx hy hg hg'
    simp only[Û,ß]at h1
    obtain⟨rfl,hd⟩:=h1
    rw[Ē,<-Ο]at h |-
    have hp:p∈Region.ready .any ops D:=by simpa using J
    have J:=h.2 p hp
    unfold Go.wpOp at J
    rw[ho]at J
    simp only[Region.wanted,hg,if_true]at J
    have aa:Đ P .any ops (yV Q) (f+F.length) (D.setIfInBounds p true) (a.put o.dst (a.eval (.tmp x))) w:=by
     rcases J with S | ⟨_,S⟩
     .unfold Oper.wp at S
      rw[V9 hx]at S
      exact S
     .exact(oH S).elim
    refine wpAny_take (v:=a.eval (.tmp x)) ho' hs h4 h3 (λc a w h=>h.elim) (.inl ⟨by simp[Region.wanted,hg'],λw=>V9 hy w⟩) ?_
    rw[<-hd]
    refine Wh hs ì hA F f _ _ w h5 (λi hi=>?_) aa
    rcases hl i hi with J | J
    .rcases Ù.1 J with rfl | J
     .right
      have S:i<D.size:=by
       have:=(mem_ready.1 hp).1
       by_cases h:i<D.size
       .exact h
       .rw[Array.getD_eq_getD_getElem?,Array.getElem?_eq_none Z]at this; cases this
      simp[Array.getD_eq_getD_getElem?,S]
     .exact .inl J
    .exact .inr (getD_set_true J)
   .cases h1
  .cases h1
end
def kE(F:List Nat)(t:Nat)(os:List YM):List YM:=os.modify t λo=>{ o with after:=o.after++(F.map λi=>({ on:=i,ground := .data }:Edge)).toArray }
def ahL(F:List Nat)(t:Nat)(os:List YM):Bool:=Region.noSelect os.toArray&&takeB (kE F t os).toArray os.toArray F (Array.replicate os.length false)&&decide (F.length<=os.length)
abbrev uz{F:List Nat}{t:Nat}{os:List YM}{i:Nat}:(kE F t os)[i]?=if i=t then (os[i]?).map (λo=>{ o with after:=o.after++(F.map λi=>({ on:=i,ground := .data }:Edge)).toArray })else os[i]?:=by
 unfold kE;rw[List.getElem?_modify];by_cases h:t=i
 .subst h; simp
 rw[UQ (λe=>h e.symm)]; simp[h]
abbrev hoist{P:Ë}{Q:Ŗ->á->E5->Prop}{a:á}{w:E5}{os:List YM}{id:Nat}(F:List Nat)(t:Nat)
  (h:Đ P .any (kE F t os).toArray (yV Q) (kE F t os).toArray.size (Array.replicate (kE F t os).toArray.size false) a { w with drawn:=w.drawn+1 }) (J:P.follows .mixedOrders=true:=by kernel_rfl) (hb:ahL F t os=true:=by kernel_rfl):(Code.region id os.toArray true).wp P Q a w:=by
 unfold ahL at hb;simp only[Û,Þ]at hb;obtain⟨⟨S,h2⟩,h3⟩:=hb;have D:(kE F t os).length=os.length:=by unfold kE; simp
 refine ſ J (uD _ _ _ _ ?_);have J:(kE F t os).toArray.size=os.toArray.size:=by simp[D]
 rw[J]at h;have aa:Alike (kE F t os).toArray os.toArray:=⟨J,λi=>by
  rw[List.getElem?_toArray,List.getElem?_toArray,uz];split
  .cases os[i]?<;>rfl
  rfl⟩
 have key:=Wh (P:=P) (Q:=Q) (ops:=(kE F t os).toArray) (ops':=os.toArray) S (λ_ _ _ _ _ _=>G) (F0:=F) (λf S a w hl hh=>Gh (F:=F) aa (λi o o' D J e he hb=>?_) (λi o o' D J e he hb=>?_) f S a w hl hh) F (os.length-F.length) (Array.replicate os.length false) a { w with drawn:=w.drawn+1 } (by simpa using h2) (λi S => .inl S)
 .rw[Nat.sub_add_cancel h3]at key;simpa using key (by simpa using h)
 .rw[List.getElem?_toArray,uz]at D;rw[List.getElem?_toArray]at J;split at D
  .rw[J]at D;simp only[ě,Æ]at D;subst D;simp only[Array.mem_append,List.mem_toArray,ô]at he;rcases he with he | ⟨j,S,rfl⟩
   .exact .inr ⟨e,he,hb,I⟩
   exact .inl S
  rw[J]at D; obtain rfl:=Ò D;exact .inr ⟨e,he,hb,I⟩
 rw[List.getElem?_toArray,uz]at D;rw[List.getElem?_toArray]at J;split at D
 .rw[J]at D;simp only[ě,Æ]at D;subst D;exact⟨e,by simp[he],hb,I⟩
 rw[J]at D; obtain rfl:=Ò D;exact⟨e,he,hb,I⟩
inductive KI where
  | code (c:Code)
  | blk (id:Nat)
  | rel (K:á->E5->Prop)
  | rd (n:Nat) (c:Code)
  | bot
def zp(P:Ë)(B:Ŗ->á->E5->Prop):List KI->Ŗ->á->E5->Prop
  | []=>B
  | .code c::k=>Exit.then (c.wp P (zp P B k)) (zp P B k)
  | .blk id::k=>Exit.inBlock id (zp P B k)
  | .rel K::k=>Exit.then K (zp P B k)
  | .rd n c::k=>Exit.then (Code.rounds P c (zp P B k) n) (zp P B k)
  | .bot::k=>yV (zp P B k)
inductive Pos where
  | cd (c:Code) (k:List KI)
  | op (A:Array YM) (os:List YM) (k:List KI)
  | nm (k:List KI)
  | ex (id:Nat) (k:List KI)
  | rt (k:List KI)
def ì(P:Ë)(B:Ŗ->á->E5->Prop):Pos->á->E5->Prop
  | .cd c k=>c.wp P (zp P B k)
  | .op A os k=>Ã P A (zp P B k) os
  | .nm k=>zp P B k .normal
  | .ex id k=>zp P B k (.exit id)
  | .rt k=>zp P B k .ret
def nx1:Pos->Option Pos
  | .nm (.code c::k)=>some (.cd c k)
  | .nm (.blk _::k)=>some (.nm k)
  | .nm (.bot::k)=>some (.nm k)
  | .nm (.rd (n+1) c::k)=>some (.cd c (.rd n c::k))
  | .ex id (.code _::k)=>some (.ex id k)
  | .ex id (.rel _::k)=>some (.ex id k)
  | .ex id (.rd _ _::k)=>some (.ex id k)
  | .ex id (.blk j::k)=>(match Nat.beq id j with | true=>some (.nm k) | false=>some (.ex id k))
  | .rt (.code _::k)=>some (.rt k)
  | .rt (.blk _::k)=>some (.rt k)
  | .rt (.rel _::k)=>some (.rt k)
  | .rt (.rd _ _::k)=>some (.rt k)
  | .op _ [] k=>some (.nm k)
  | .cd .skip k=>some (.nm k)
  | .cd (.exit id) k=>some (.ex id k)
  | .cd .ret k=>some (.rt k)
  | .cd (.seq x y) k=>some (.cd x (.code y::k))
  | .cd (.block id c) k=>some (.cd c (.blk id::k))
  | .cd (.region _ ops false) k=>some (.op ops ops.toList k)
  | _=>none
def nx:Nat->Pos->Pos
  | 0,p=>p
  | f+1,p=>match nx1 p with | some q=>nx f q | none=>p
section
variable{P:Ë}{B:Ŗ->á->E5->Prop}{a:á}{w:E5}
abbrev ao6{p q:Pos}(h:nx1 p=some q)(D:ì P B q a w):ì P B p a w:=by
 unfold nx1 at h;split at h
 .obtain rfl:=Ò h; exact D
 .obtain rfl:=Ò h; exact D
 .obtain rfl:=Ò h; exact D
 .obtain rfl:=Ò h; exact D
 .obtain rfl:=Ò h; exact D
 .obtain rfl:=Ò h; exact D
 .obtain rfl:=Ò h; exact D
 .rename_i id j k;split at h
  .rename_i J;obtain rfl:=Ò h;have e:id=j:=Nat.eq_of_beq_eq_true J;show(if id=j then zp P B k .normal a w else zp P B k (.exit id) a w);rw[Á e]; exact D
  rename_i J;obtain rfl:=Ò h;show(if id=j then zp P B k .normal a w else zp P B k (.exit id) a w);rw[UQ (Nat.ne_of_beq_eq_false J)]; exact D
 .obtain rfl:=Ò h; exact D
 .obtain rfl:=Ò h; exact D
 .obtain rfl:=Ò h; exact D
 .obtain rfl:=Ò h; exact D
 .obtain rfl:=Ò h; exact D
 .obtain rfl:=Ò h; exact ú D
 .obtain rfl:=Ò h; exact Ļ D
 .obtain rfl:=Ò h; exact wp_ret D
 .obtain rfl:=Ò h; exact wp_seq D
 .obtain rfl:=Ò h; exact Ě D
 .rename_i id ops k;obtain rfl:=Ò h;have J:Ã P ops.toList.toArray (zp P B k) ops.toList a w:=by rw[Ϛ]; exact D
  have D:=wp_region_lit (id:=id) J;rw[Ϛ]at D; exact D
 cases h
theorem alM:∀{f:Nat} {p:Pos},ì P B (nx f p) a w->ì P B p a w
  | 0,p,h=>h
  | f+1,p,h=>by
    unfold nx at h
    split at h
    · rename_i q D; exact ao6 D (alM h)
    · exact h
end
abbrev Chk:=Env×List YM×List Loc×List Key
def plainO(e:Env)(p:qU)(o:YM):Bool:=
  match o.op with
  | .move _ | .assign _ | .nilCheck _ | .fieldAddr _ _ _ | .unOp _ _ _ | .makeFunc _ _ _ | .extract _ _ | .makeInterface _ _ | .build _ _ | .binOp _ _ _ _ _ | .pick _ _ _ | .load _ _ | .indexAddr _ _ _ | .index _ _ _ | .field _ _ _ | .slice _ _ _ _ _=>true
  | .convert _ _ x=>(match rd e p x with | some (.int _ _)=>true | _=>false)
  | .call c=>(match c.callee with | .builtin .len=>true | .builtin .max=>true | .builtin .min=>true | _=>false)
  | _=>false
def chunk(P:Ë)(ms:List eX)(A:Array YM)(n:Nat):Nat->List YM->Env->List Key->Chk
  | 0,os,e,ks=>(e,os,[],ks)
  | _+1,[],e,ks=>(e,[],[],ks)
  | m+1,o::os,e,ks =>
    match pathOf A e o with
    | none=>(e,o::os,[],ks)
    | some p =>
      match plainO e p o with
      | false=>(e,o::os,[],ks)
      | true =>
        match yL n e o.dst p,Ŧ P ms e p ks o with
        | true,some (.val v,ks',L)=>(match chunk P ms A n m os (put e o.dst p v) ks' with | (e',os',L',k')=>(e',os',L++L',k'))
        | _,_=>(e,o::os,[],ks)
def settle(e:Env)(li:List Nat):List Nat->Env->List (Nat×y9)
  | _,[]=>[]
  | sn,(i,q,v)::r =>
    match sn.contains i with
    | true=>settle e li sn r
    | false=>(match q with
      | []=>(i,v)::settle e li sn r
      | _=>(match li.contains i with
        | true=>(match jP e q with | true=>(i,v)::settle e li sn r | false=>settle e li (i::sn) r)
        | false=>settle e li (i::sn) r))
structure Zt where
  p:Pos
  l:List (Nat×y9)
structure Zr where
  z:Zt
  L:List Loc
  ks:List Key
def ξ(P:Ë)(ms:List eX)(n:Nat)(li:List Nat):Nat->Nat->Pos->List (Nat×y9)->List Key->Zr
  | 0,_,p,l,ks=>⟨⟨p,l⟩,[],ks⟩
  | f+1,m,p,l,ks =>
    match nx 100 p with
    | .op A os k =>
      (match chunk P ms A n m os (lift l) ks with
      | (e',[],L,k')=>(match ξ P ms n li f (m-os.length) (.nm k) (settle e' li [] e') k' with | ⟨z,L2,k2⟩=>⟨z,L++L2,k2⟩)
      | (e',o::os',L,k')=>⟨⟨.op A (o::os') k,settle e' li [] e'⟩,L,k'⟩)
    | .cd c k=>⟨⟨.cd c k,l⟩,[],ks⟩
    | .nm k=>⟨⟨.nm k,l⟩,[],ks⟩
    | .ex i k=>⟨⟨.ex i k,l⟩,[],ks⟩
    | .rt k=>⟨⟨.rt k,l⟩,[],ks⟩
section
variable{P:Ë}{A:Array YM}{ms:List eX}{Q:Ŗ->á->E5->Prop}{B:Ŗ->á->E5->Prop}{n:Nat}{w0 w:E5}{bl:List (Nat×List y9)}{vs:List eX}{li:List Nat}
theorem chunk_ok:∀{m:Nat} {os:List YM} {e:Env} {ks:List Key} {a:á} {L':List Loc},a.tmps.size=n->Holds a.eval e->Mem w ms->(chunk P ms A n m os e ks).2.2.1++L'=ks.map (xq ms)->Ai P ks ->
    (∀J,J.tmps.size=n->J.defers=a.defers->Holds J.eval (chunk P ms A n m os e ks).1->L'=(chunk P ms A n m os e ks).2.2.2.map (xq ms)->Ai P (chunk P ms A n m os e ks).2.2.2->Ã P A Q (chunk P ms A n m os e ks).2.1 J w)->Ã P A Q os a w
  | 0,os,e,ks,a,L',hsz,hh,hm,hL,hk,hn=>hn a hsz I hh (by simpa[chunk]using hL) hk
  | _+1,[],e,ks,a,L',hsz,hh,hm,hL,hk,hn=>hn a hsz I hh (by simpa[chunk]using hL) hk
  | m+1,o::os,e,ks,a,L',hsz,hh,hm,hL,hk,hn=>by
    have D:chunk P ms A n (m+1) (o::os) e ks=(e,o::os,[],ks)->Ã P A Q (o::os) a w:=λh=>by
      rw[h]at hL hn; exact hn a hsz I hh (by simpa using hL) hk
    cases hp:pathOf A e o with
    | none=>exact D (by simp[chunk,hp])
    | some p =>
     cases hpl:plainO e p o with
     | false=>exact D (by simp[chunk,hp,hpl])
     | true =>
      cases hpo:yL n e o.dst p with
      | false=>exact D (by simp[chunk,hp,hpl,hpo])
      | true =>
        cases h1:Ŧ P ms e p ks o with
        | none=>exact D (by simp[chunk,hp,hpl,h1])
        | some r =>
          obtain⟨r,ks',S⟩:=r
          cases r with
          | enter f args=>exact D (by simp[chunk,hp,hpl,h1])
          | new=>exact D (by simp[chunk,hp,hpl,h1])
          | val v =>
            have D:chunk P ms A n (m+1) (o::os) e ks=((chunk P ms A n m os (put e o.dst p v) ks').1,(chunk P ms A n m os (put e o.dst p v) ks').2.1,S++(chunk P ms A n m os (put e o.dst p v) ks').2.2.1,(chunk P ms A n m os (put e o.dst p v) ks').2.2.2):=by
              simp[chunk,hp,hpo,hpl,h1]
            rw[D]at hL hn
            simp only[ç]at hL hn
            have hw:=qh (a:=a) hp (λx _ i y _ hl=>hh i y hl)
            obtain⟨D,S,aa⟩:=wI h1 hL hk
            have go:∀u,u=den e (p,v)->Ã P A Q os (a.put o.dst u) w:=λu hu =>
              chunk_ok (m:=m) (by rw[uw]; exact hsz) (Fq hh hsz hpo hu) hm S aa λJ h2 h3 h4 h5 h6=>hn J h2 (by rw[h3,put_defers]) h4 h5 h6
            unfold Ã
            by_cases hG:jP e p=true
            · rw[Á (hw.2 hG)]
              left
              exact Wi (Fv h1 (Std.act a) (gG hh o) hG hm D) (go v (by simp[den,hG]))
            · rw[UQ (λh=>hG (hw.1 h))]
              exact go undef (by simp[den,hG])
theorem yM{e:Env}:∀{r:Env} {sn:List Nat} {i:Nat} {v:y9},(settle e li sn r).lookup i=some v->sn.contains i=false∧∃q,r.lookup i=some (q,v)∧jP e q=true
  | [],sn,i,v,h=>by cases h
  | (j,q,u)::r,sn,i,v,h=>by
    unfold settle at h
    have D:∀{sn':List Nat},(settle e li sn' r).lookup i=some v->(∀x,sn'.contains x=false->sn.contains x=false∧x≠j)->sn.contains i=false∧∃J,((j,q,u)::r:Env).lookup i=some (J,v)∧jP e J=true:=λh S=>by
      obtain⟨h1,J,h2,h3⟩:=yM h
      obtain⟨h4,h5⟩:=S i h1
      refine⟨h4,J,?_,h3⟩
      rw[ĝ]
      have:(i==j)=false:=by simpa using h5
      rw[this]; exact h2
    have keep:sn.contains j=false->jP e q=true->((j,u)::settle e li sn r).lookup i=some v->sn.contains i=false∧∃J,((j,q,u)::r:Env).lookup i=some (J,v)∧jP e J=true:=λS hq h=>by
      rw[ĝ]at h
      rw[ĝ]
      cases hij:i==j
      · rw[hij]at h
        obtain⟨h1,J,h2,h3⟩:=yM h
        exact⟨h1,J,h2,h3⟩
      · rw[hij]at h
        obtain rfl:=Ò h
        have:i=j:=by simpa using hij
        exact⟨this▸S,q,I,hq⟩
    have aa:∀x,(j::sn).contains x=false->sn.contains x=false∧x≠j:=λx J=>by
      simp only[List.contains_cons,Ĕ,õ]at J
      exact⟨J.2,J.1⟩
    cases S:sn.contains j with
    | true =>
      simp only[S]at h
      refine D h λx J=>⟨J,λe=>?_⟩
      rw[e,S]at J; cases J
    | false =>
      simp only[S]at h
      cases q with
      | nil=>exact keep S I h
      | cons c q =>
        simp only at h
        cases hl:li.contains j with
        | false=>simp only[hl]at h; exact D h aa
        | true =>
          simp only[hl]at h
          cases hg:jP e (c::q)with
          | false=>simp only[hg]at h; exact D h aa
          | true=>simp only[hg]at h; exact keep S hg h
abbrev Pq{a:á}{e:Env}(D:a.tmps.size=n)(hd:a.defers=[])(S:Holds a.eval e):Vp.St a n (settle e li [] e):=
  ⟨D,hd,λi v h=>by
    obtain⟨-,q,D,J⟩:=yM h
    rw[S i _ D]
    unfold den
    simp only[J,cond_true]⟩
theorem RV(hm:Mem w ms):∀{f m:Nat} {p:Pos} {l:List (Nat×y9)} {ks:List Key} {a:á} {L':List Loc},St w0 a w n l bl vs->(ξ P ms n li f m p l ks).L++L'=ks.map (xq ms)->Ai P ks ->
    (∀a',St w0 a' w n (ξ P ms n li f m p l ks).z.l bl vs->ì P B (ξ P ms n li f m p l ks).z.p a' w)->ì P B p a w
  | 0,m,p,l,ks,a,L',S,D,hk,hn=>hn a S
  | f+1,m,p,l,ks,a,L',S,D,hk,hn=>by
    refine alM (f:=100) ?_
    unfold ξ at D hn
    cases hp:nx 100 p with
    | op A os k =>
      simp only[hp]at D hn
      refine chunk_ok (m:=m) (ms:=ms) (n:=n) (e:=lift l) (ks:=ks) (L':=(match chunk P ms A n m os (lift l) ks with | (e',[],L,k')=>(ξ P ms n li f (m-os.length) (.nm k) (settle e' li [] e') k').L | _=>[])++L') S.s.size (bT S.s) hm ?_ hk ?_
      · revert D
        rcases chunk P ms A n m os (lift l) ks with ⟨e',_ | ⟨o,os'⟩,L,k'⟩
        · intro D; simpa[ç]using D
        · intro D; simpa using D
      · intro a' aa hd hh
        have J:a'.defers=[]:=by rw[hd,S.s.defers]
        revert hn hh
        rcases chunk P ms A n m os (lift l) ks with ⟨e',_ | ⟨o,os'⟩,L,k'⟩
        · intro hn hh ab ac
          exact RV hm (f:=f) (m:=m-os.length) (p := .nm k) (S.act (Pq aa J hh)) ab ac hn
        · intro hn hh _ _
          exact hn a' (S.act (Pq aa J hh))
    | cd c k=>simp only[hp]at D hn; exact hn a S
    | nm k=>simp only[hp]at D hn; exact hn a S
    | ex i k=>simp only[hp]at D hn; exact hn a S
    | rt k=>simp only[hp]at D hn; exact hn a S
end
abbrev akt{P:Ë}{ms:List eX}{e:Env}{p:qU}{ks':List Key}{o:YM}{r:GH}{L:List Loc}(h:Ŧ P ms e p [] o=some (r,ks',L)):ks'=[]∧L=[]:=by
 rcases zB h with h | ⟨d,v,h,_⟩
 .unfold ο at h;cases h1:ev1 P ms e p [] o with
  | none=>simp[h1]at h
  | some r1 =>
   simp only[h1,Æ]at h;obtain⟨r1,k1,L1⟩:=r1;obtain⟨kl,D,hl⟩:=Zz h1;have J:k1=[]:=(List.append_eq_nil_iff.1 D.symm).2;have S:kl=[]:=(List.append_eq_nil_iff.1 D.symm).1;subst J S;have D:L1=[]:=Ś (by simpa using hl);subst D;rcases zD o.dst (r1,[],[])with D | ⟨v,S,x,u,J,L2,D,h3⟩
   .rw[D]at h;simp only[Ê]at h;exact⟨h.2.1.symm,h.F.symm⟩
   simp at D
 cases h
section
variable{P:Ë}{A:Array YM}{ms:List eX}{n:Nat}{li:List Nat}
theorem Pv:∀{m:Nat} {os:List YM} {e:Env},(chunk P ms A n m os e []).2.2=([],[])
  | 0,os,e=>rfl
  | _+1,[],e=>rfl
  | m+1,o::os,e=>by
    unfold chunk
    split
    · rfl
    · rename_i p _
      split
      · rfl
      split
      · rename_i v ks' L _ h
        obtain⟨rfl,rfl⟩:=akt h
        have:=Pv (m:=m) (os:=os) (e:=put e o.dst p v)
        simp only[Prod.ext_iff]at this |-
        exact⟨by simpa using this.1,this.2⟩
      · rfl
theorem RX:∀{f m:Nat} {p:Pos} {l:List (Nat×y9)},(ξ P ms n li f m p l []).L=[]∧(ξ P ms n li f m p l []).ks=[]
  | 0,m,p,l=>⟨I,I⟩
  | f+1,m,p,l=>by
    unfold ξ
    split
    · rename_i A os k _
      have h:=Pv (P:=P) (A:=A) (ms:=ms) (n:=n) (m:=m) (os:=os) (e:=lift l)
      revert h
      rcases chunk P ms A n m os (lift l) []with ⟨D,_ | ⟨o,os'⟩,L,J⟩
      · intro h
        simp only[Ê]at h
        obtain⟨rfl,rfl⟩:=h
        have:=RX (f:=f) (m:=m-os.length) (p := .nm k) (l:=settle D li [] D)
        exact⟨by simpa using this.1,this.2⟩
      · intro h
        simp only[Ê]at h
        exact⟨h.1,h.2⟩
    all_goals exact⟨I,I⟩
end
def Gz(P:Ë)(B:Ŗ->á->E5->Prop)(z:Zt)(a:á)(w:E5):Prop:=ì P B z.p a w
def zR(P:Ë)(n:Nat)(bl:List (Nat×List y9))(vs:List eX)(m:Nat)(li:List Nat)(ks:List Key)(z:Zt):Zr:=ξ P (jZ bl vs) n li 60 m z.p z.l ks
def zn(P:Ë)(n:Nat)(bl:List (Nat×List y9))(vs:List eX)(m:Nat)(li:List Nat)(ks:List Key)(z:Zt):Zt:=(zR P n bl vs m li ks z).z
def zN(P:Ë)(n:Nat)(z:Zt):Zt:=zn P n [] [] 999 [] [] z
def zM(P:Ë)(n:Nat)(z:Zt):Zt:=zn P n [] [] 0 [] [] z
def pz(z:Zt):List YM:=match z.p with | .op _ os _=>os | _=>[]
def zA(z:Zt):Array YM:=match z.p with | .op A _ _=>A | _ => #[]
def zK(z:Zt):List KI:=match z.p with | .op _ _ k=>k | .cd _ k=>k | .nm k=>k | .ex _ k=>k | .rt k=>k
def zC(z:Zt):Code:=match z.p with | .cd c _=>c | _ => .skip
def uf(z:Zt):Bool:=match z.p with | .op _ _ _=>true | _=>false
def Gw(m:Nat):Pos->Pos
  | .op A os k => .op A (os.drop m) k
  | .cd (.region _ ops true) k => .op ops (ops.toList.drop m) k
  | p=>p
def G8(m:Nat)(new:List (Nat×y9))(z:Zt):Zt:=⟨Gw m z.p,new++z.l⟩
def ς(z:Zt):Zt:=⟨Gw 1 z.p,z.l⟩
def mG(z:Zt):Option Nat:=match pz z with | o::_=>o.dst | []=>none
def xk(v:y9)(z:Zt):Zt:=⟨Gw 1 z.p,zS z.l (mG z) v⟩
def z0(fn:Func)(args:List y9):Zt:=⟨.cd (fn.body.getD .skip) [],(List.range args.length).zip args⟩
section
variable{P:Ë}{B:Ŗ->á->E5->Prop}{n:Nat}{w0 w:E5}{a:á}{bl:List (Nat×List y9)}{vs:List eX}{z:Zt}
variable{f:aHn}{args:Array y9}{b off:Nat}{V:y9}
abbrev zk(S:St w0 a w n z.l bl vs)(m:Nat)(li:List Nat)(ks:List Key)(next:∀{D},St w0 D w n (zn P n bl vs m li ks z).l bl vs->Gz P B (zn P n bl vs m li ks z) D w)(hk:Ai P ks:=by exact G)
    (J:((zR P n bl vs m li ks z).L,(zR P n bl vs m li ks z).ks)=(ks.map (xq (jZ bl vs)),[]):=by kernel_rfl):Gz P B z a w:=by
 simp only[Ê]at J;refine RV S.La (B:=B) (li:=li) (f:=60) (m:=m) (ks:=ks) (L':=[]) S ?_ hk λD=>next;rw[ĳ]; exact J.1
abbrev uQ(S:St w0 a w n z.l bl vs)(next:∀{D},St w0 D w n (zN P n z).l bl vs->Gz P B (zN P n z) D w):Gz P B z a w:=
  RV (ms:=jZ [] []) (λm h=>by cases h) (B:=B) (li:=[]) (f:=60) (m:=999) (ks:=[]) (L':=[]) S (by rw[RX.1]; rfl) G λD=>next
abbrev alL(S:St w0 a w n z.l bl vs)(next:∀{D},St w0 D w n (zM P n z).l bl vs->Gz P B (zM P n z) D w):Gz P B z a w:=
  RV (ms:=jZ [] []) (λm h=>by cases h) (B:=B) (li:=[]) (f:=60) (m:=0) (ks:=[]) (L':=[]) S (by rw[RX.1]; rfl) G λD=>next
abbrev Ω{z:Zt}(D:uf z=true)(h:Ã P (zA z) (zp P B (zK z)) (pz z) a w):Gz P B z a w:=by
 obtain⟨p,l⟩:=z;cases p with
 | op A os k=>exact h
 | _=>cases D
abbrev JH{z:Zt}{m:Nat}{l:List (Nat×y9)}(D:uf z=true)(h:ì P B (Gw m z.p) a w):Ã P (zA z) (zp P B (zK z)) ((pz z).drop m) a w:=by
 obtain⟨p,l⟩:=z;cases p with
 | op A os k=>exact h
 | _=>cases D
abbrev ze{fn:Func}{args:List y9}{R:ĺ->E5->Prop}{n:Nat}(hf:P.funcs[f]?=some fn)(hn:fn.ntmps=n)(next:∀{a},St w a w n (z0 fn args).l [] []->Gz P (Ĩ P fn R) (z0 fn args) a w)
    (hb:fn.body.isSome=true:=by rfl) (D:decide (args.length<=n)=true:=by kernel_rfl):Nq P f args.toArray w R:=by
 obtain⟨c,J⟩:=Į.1 hb;refine enter hf hn (λa S=>?_) J D;have:=next (a:=a) S;unfold Gz z0 at this;rw[J]at this;exact this
abbrev bM(S:St w0 a w n z.l bl vs){R:ĺ->E5->Prop}(hc:Nq P f args w R)
    (next:∀e w',R e w'->∃v,e = .R v∧Ext w w'∧∀{J},St w0 J w' n (xk v (zN P n z)).l bl vs->Gz P B (xk v (zN P n z)) J w')
    (hx:callOf P (pz (zN P n z)) (zN P n z).l=some (f,args,mG (zN P n z)):=by kernel_rfl) (D:(uf (zN P n z)&&uG n (mG (zN P n z)))=true:=by kernel_rfl):Gz P B z a w:=by
 simp only[Û]at D;refine uQ S λS=>Ω D.1 (iW S _ hc (λe w' hR=>?_) hx D.2);obtain⟨v,h1,h2,h3⟩:=next e w' hR;exact⟨v,h1,h2,λJ S'=>JH (m:=1) (l:=[]) D.1 (h3 S')⟩
abbrev zq(S:St w0 a w n z.l bl vs){F:y9->E5->Prop}(D:Nq P f args w λe w'=>∃v,e = .R v∧F v w'∧Ext w w')
    (next:∀{a'} v w',F v w'->Ext w w'->St w0 a' w' n (xk v (zN P n z)).l bl vs->Gz P B (xk v (zN P n z)) a' w')
    (hx:callOf P (pz (zN P n z)) (zN P n z).l=some (f,args,mG (zN P n z)):=by kernel_rfl) (ho:(uf (zN P n z)&&uG n (mG (zN P n z)))=true:=by kernel_rfl):Gz P B z a w:=
  bM S D (λe w' h=>by obtain⟨v,rfl,J,D⟩:=h; exact⟨v,I,D,λ{_} S=>next v w' J D S⟩) hx ho
abbrev cO(S:St w0 a w n z.l bl vs)(D:Nq P f args w (Ï w V))
    (next:∀{a'} w',Ext w w'->St w0 a' w' n (xk V (zN P n z)).l bl vs->Gz P B (xk V (zN P n z)) a' w')
    (J:callOf P (pz (zN P n z)) (zN P n z).l=some (f,args,mG (zN P n z)):=by kernel_rfl) (ho:(uf (zN P n z)&&uG n (mG (zN P n z)))=true:=by kernel_rfl):Gz P B z a w:=
  bM S D (λe w' h=>⟨V,h.1,h.2,λS=>next w' h.2 S⟩) J ho
abbrev nH(S:St w0 a w n z.l bl vs)(D:Nq P f args w λe w'=>e = .R V∧w=w')
    (next:∀{a'},St w0 a' w n (xk V (zN P n z)).l bl vs->Gz P B (xk V (zN P n z)) a' w)
    (J:callOf P (pz (zN P n z)) (zN P n z).l=some (f,args,mG (zN P n z)):=by kernel_rfl) (ho:(uf (zN P n z)&&uG n (mG (zN P n z)))=true:=by kernel_rfl):Gz P B z a w:=
  bM S D (λe w' h=>by obtain⟨D,rfl⟩:=h; exact⟨V,D,å,λS=>next S⟩) J ho
abbrev BN(S:St w0 a w n z.l bl vs)(k:Nat){A:List y9}(A':List y9){R:ĺ->E5->Prop}(aa:bl[k]?=some (b,A))(hc:Nq P f args w R)
    (next:∀e w',R e w'->∃v,e = .R v∧Ext w0 w'∧Ch b w w'∧Bx w' b A'.toArray∧∀{J},St w0 J w' n (xk v (zN P n z)).l (bl.set k (b,A')) vs->Gz P B (xk v (zN P n z)) J w')
    (hx:callOf P (pz (zN P n z)) (zN P n z).l=some (f,args,mG (zN P n z)):=by kernel_rfl) (D:(uf (zN P n z)&&uG n (mG (zN P n z)))=true:=by kernel_rfl):Gz P B z a w:=by
 simp only[Û]at D;refine uQ S λS=>Ω D.1 (alN S k A' _ aa hc (λe w' hR=>?_) hx D.2);obtain⟨v,h1,h2,h4,h5,h3⟩:=next e w' hR;exact⟨v,h1,h2,h4,h5,λJ S'=>JH (m:=1) (l:=[]) D.1 (h3 S')⟩
def newV(P:Ë)(r:Nat)(z:Zt):y9:=match Gx P r (pz z) z.l with | some x=>x.2.1 | none=>undef
def ao7(P:Ë)(r:Nat)(z:Zt):Option (List y9×Option Nat):=match Gx P r (pz z) z.l with | some x=>some (x.1,x.2.2) | none=>none
abbrev dM(S:St w0 a w n z.l bl vs)(A:List y9)(next:∀{J} w' b,Ext w w'->b=w.heap.size->St w0 J w' n (xk (newV P b (zN P n z)) (zN P n z)).l ((b,A)::bl) vs->Gz P B (xk (newV P b (zN P n z)) (zN P n z)) J w')
    (hx:∀r,ao7 P r (zN P n z)=some (A,mG (zN P n z)):=by intro r; kernel_rfl) (D:(uf (zN P n z)&&(uG n (mG (zN P n z))&&(mG (zN P n z)).isSome))=true:=by kernel_rfl):Gz P B z a w:=by
 simp only[Û]at D;refine uQ S λS=>Ω D.1 ?_;obtain⟨d,hd⟩:=Į.1 D.F;refine new S d A (λr=>newV P r (zN P n z)) (λJ w' b hE hb S'=>JH (m:=1) (l:=[]) D.1 ?_) (λr=>?_) (by rw[<-hd]; exact D.2.1)
 .refine next w' b hE hb ?_;show St w0 J w' n (zS _ (mG (zN P n z)) _) _ _;rw[hd]; exact S'
 have:=hx r;unfold ao7 at this;unfold newV;rw[<-hd];cases h:Gx P r (pz (zN P n z)) (zN P n z).l with
 | none=>rw[h]at this; cases this
 | some x =>
  rw[h]at this;simp only[Æ,Ê]at this;simp only[Æ];obtain⟨x1,D,J⟩:=x;simp only at this;rw[this.1,this.2]
abbrev nM(S:St w0 a w n z.l bl vs)(k:Nat){A cs:List y9}(D:bl[k]?=some (b,A))(next:∀{a'} w',Ch b w w'->St w0 a' w' n (ς (zN P n z)).l (bl.set k (b,spl A off cs)) vs->Gz P B (ς (zN P n z)) a' w')
    (hx:lC P (pz (zN P n z)) (zN P n z).l=some (b,off,.agg cs.toArray,cs.length):=by kernel_rfl) (hf:decide (off+cs.length<=A.length)=true:=by kernel_rfl) (h1:cs.all (·.oneCell')=true:=by kernel_rfl) (J:uf (zN P n z)=true:=by kernel_rfl):Gz P B z a w:=
  uQ S λS=>Ω J (store S k D (λw' hc S'=>JH (m:=1) (l:=[]) J (next w' hc S')) hx hf h1)
abbrev Ye(S:St w0 a w n z.l bl vs)(k:Nat){A:List y9}{v:y9}(D:bl[k]?=some (b,A))(next:∀{a'} w',Ch b w w'->St w0 a' w' n (ς (zN P n z)).l (bl.set k (b,spl A off [v])) vs->Gz P B (ς (zN P n z)) a' w')
    (hx:lC P (pz (zN P n z)) (zN P n z).l=some (b,off,v,1):=by kernel_rfl) (hf:decide (off<A.length)=true:=by kernel_rfl) (h1:v.cells = #[v]:=by kernel_rfl) (J:v.oneCell'=true:=by kernel_rfl) (ho:uf (zN P n z)=true:=by kernel_rfl):Gz P B z a w:=
  uQ S λS=>Ω ho (store1 S k D (λw' hc S'=>JH (m:=1) (l:=[]) ho (next w' hc S')) hx hf h1 J)
def abh(z:Zt):Option y9:=match z.p with | .cd (.cond c _ _) _=>Vp.ev z.l c | _=>none
def zth(z:Zt):Zt:=match z.p with | .cd (.cond _ x _) k=>⟨.cd x k,z.l⟩ | _=>z
def zel(z:Zt):Zt:=match z.p with | .cd (.cond _ _ y) k=>⟨.cd y k,z.l⟩ | _=>z
abbrev zc(S:St w0 a w n z.l bl vs)(t:Bool)(J:∀{a'},t=true->St w0 a' w n (zth (zN P n z)).l bl vs->Gz P B (zth (zN P n z)) a' w)(hf:∀{a'},t=false->St w0 a' w n (zel (zN P n z)).l bl vs->Gz P B (zel (zN P n z)) a' w)
    (D:abh (zN P n z)=some (.b t):=by kernel_rfl):Gz P B z a w:=by
 refine uQ S λ{a'} S=>?_;revert J hf D S;generalize zN P n z=z1;intro J hf D S;obtain⟨p,l⟩:=z1;unfold abh at D;split at D
 .rename_i c x y k hp;simp only at hp;subst hp;exact cond S (λh=>J h S) (λh=>hf h S) D
 cases D
abbrev zT(S:St w0 a w n z.l bl vs)(h:∀{a'},St w0 a' w n (zth (zN P n z)).l bl vs->Gz P B (zth (zN P n z)) a' w)(D:abh (zN P n z)=some (.b true):=by kernel_rfl):Gz P B z a w:=zc S true (λ_ S=>h S) (λh=>by cases h) D
abbrev zF(S:St w0 a w n z.l bl vs)(h:∀{a'},St w0 a' w n (zel (zN P n z)).l bl vs->Gz P B (zel (zN P n z)) a' w)(D:abh (zN P n z)=some (.z):=by kernel_rfl):Gz P B z a w:=zc S false (λh=>by cases h) (λ_ S=>h S) D
def ZA(z:Zt):Bool:=match z.p with | .rt []=>true | _=>false
abbrev zrt{z:Zt}{fn:Func}{R:ĺ->E5->Prop}(D:ZA z=true)(h:Ĩ P fn R .ret a w):Gz P (Ĩ P fn R) z a w:=by
 obtain⟨p,l⟩:=z;unfold ZA at D;split at D
 .rename_i hp; simp only at hp; subst hp; exact h
 cases D
section
variable{fn:Func}{R:ĺ->E5->Prop}
def resT(fn:Func)(i:Nat):Nat:=match fn.results[i]? with | some (.tmp t)=>t | some (.cell t _)=>t | none=>0
def resTy(fn:Func)(i:Nat):Ð:=match fn.results[i]? with | some (.cell _ ty)=>ty | _=>0
abbrev dw(S:St w0 a w n z.l bl vs)(v:y9)(h:∀{a'},St w0 a' w n (zN P n z).l bl vs->R (.R v) w)(D:fn.results = #[.tmp (resT fn 0)]:=by kernel_rfl)
    (J:Vp.ev (zN P n z).l (.tmp (resT fn 0))=some v:=by kernel_rfl) (ho:ZA (zN P n z)=true:=by kernel_rfl):Gz P (Ĩ P fn R) z a w:=
  uQ S λS=>zrt ho (vV S D (h S) J)
abbrev Ol(S:St w0 a w n z.l bl vs)(v u:y9)(h:∀{a'},St w0 a' w n (zN P n z).l bl vs->R (.R (.tuple #[v,u])) w)(D:fn.results = #[.tmp (resT fn 0),.tmp (resT fn 1)]:=by kernel_rfl)
    (J:Vp.ev (zN P n z).l (.tmp (resT fn 0))=some v:=by kernel_rfl) (hu:Vp.ev (zN P n z).l (.tmp (resT fn 1))=some u:=by kernel_rfl) (ho:ZA (zN P n z)=true:=by kernel_rfl):Gz P (Ĩ P fn R) z a w:=
  uQ S λS=>zrt ho (MP S D (h S) J hu)
abbrev zrc(S:St w0 a w n z.l bl vs)(k:Nat){b:Nat}{A:List y9}{v:y9}(D:bl[k]?=some (b,A))(h:∀{a'},St w0 a' w n (zN P n z).l bl vs->R (.R v) w)(J:fn.results = #[.cell (resT fn 0) (resTy fn 0)]:=by kernel_rfl)
    (hv:Vp.ev (zN P n z).l (.tmp (resT fn 0))=some (.q b 0):=by kernel_rfl) (hl:SB P (resTy fn 0) A=some v:=by kernel_rfl) (ho:ZA (zN P n z)=true:=by kernel_rfl):Gz P (Ĩ P fn R) z a w:=
  uQ S λS=>zrt ho (ajB S k J D (h S) hv hl)
abbrev Kt(S:St w0 a w n z.l bl vs)(k:Nat){b:Nat}{A:List y9}{v u:y9}(D:bl[k]?=some (b,A))(h:∀{a'},St w0 a' w n (zN P n z).l bl vs->R (.R (.tuple #[v,u])) w)(J:fn.results = #[.cell (resT fn 0) (resTy fn 0),.tmp (resT fn 1)]:=by kernel_rfl)
    (hv:Vp.ev (zN P n z).l (.tmp (resT fn 0))=some (.q b 0):=by kernel_rfl) (hu:Vp.ev (zN P n z).l (.tmp (resT fn 1))=some u:=by kernel_rfl) (hl:SB P (resTy fn 0) A=some v:=by kernel_rfl) (ho:ZA (zN P n z)=true:=by kernel_rfl):Gz P (Ĩ P fn R) z a w:=
  uQ S λS=>zrt ho (atZ S k J D (h S) hv hu hl)
abbrev ϐ(S:St w0 a w n z.l bl vs)(h:∀{a'},St w0 a' w n (zN P n z).l bl vs->Ĩ P fn R .ret a' w)(D:ZA (zN P n z)=true:=by kernel_rfl):Gz P (Ĩ P fn R) z a w:=uQ S λS=>zrt D (h S)
end
def at1(z:Zt):Code:=match z.p with | .cd (.loop c) _=>c | _ => .skip
def aku(z:Zt):Bool:=match z.p with | .cd (.loop _) _=>true | _=>false
variable{b m:Nat}{f:aHn}{args:List y9}{v:y9}
abbrev uo{ι:Type}(S:St w0 a w n z.l bl vs)(Ő:ι->á->E5->Prop)(μ:ι->Nat)(i0:ι)(h0:∀{J},St w0 J w n (zN P n z).l bl vs->Ő i0 J w)
    (D:∀i a w (K:á->E5->Prop),(∀J w' i',Ő i' J w'->μ i'<μ i->K J w')->Ő i a w->ì P B (.cd (at1 (zN P n z)) (.rel K::zK (zN P n z))) a w) (ho:aku (zN P n z)=true:=by kernel_rfl):Gz P B z a w:=by
 refine uQ S λ{J} S=>?_;revert h0 D ho S;generalize zN P n z=z1;intro h0 D ho S;obtain⟨p,l⟩:=z1;unfold aku at ho;split at ho
 .rename_i c k hp;simp only at hp;subst hp;exact Vp.loop Ő μ i0 (h0 S) λi a w hI=>D i a w _ (λJ w' i' h1 h2=>⟨i',h1,h2⟩) hI
 cases ho
def zrd(m:Nat)(z:Zt):Zt:=match z.p with | .cd (.loop c) k=>⟨.cd c (.rd m c::k),z.l⟩ | _=>z
abbrev Š(S:St w0 a w n z.l bl vs)(m:Nat)(h:∀{a'},St w0 a' w n (zrd m (zN P n z)).l bl vs->Gz P B (zrd m (zN P n z)) a' w)(D:aku (zN P n z)=true:=by kernel_rfl):Gz P B z a w:=by
 refine uQ S λ{a'} S=>?_;revert h D S;generalize zN P n z=z1;intro h D S;obtain⟨p,l⟩:=z1;unfold aku at D;split at D
 .rename_i c k hp;simp only at hp;subst hp;exact wp_loop_rounds (m+1) (h S)
 cases D
abbrev zs{p:Pos}{l:List (Nat×y9)}(S:St w0 a w n l bl vs)(h:St w0 a w n (⟨p,l⟩:Zt).l bl vs->Gz P B ⟨p,l⟩ a w):ì P B p a w:=h S
def at6(z:Zt):Option (á->E5->Prop):=match z.p with | .nm (.rel K::_)=>some K | _=>none
abbrev jM(S:St w0 a w n z.l bl vs)(K:á->E5->Prop)(h:∀{a'},St w0 a' w n (zN P n z).l bl vs->K a' w)(D:at6 (zN P n z)=some K:=by kernel_rfl):Gz P B z a w:=by
 refine uQ S λ{a'} S=>?_;revert h D S;generalize zN P n z=z1;intro h D S;obtain⟨p,l⟩:=z1;unfold at6 at D;split at D
 .rename_i K' k hp;simp only at hp;subst hp;obtain rfl:=Ò D;exact h S
 cases D
abbrev kC(S:St w0 a w n z.l bl vs)(k:Nat)(ks:List Key)(cl:List Cl)(new:List (Nat×y9))(hO:Ŷ P w cl)(next:∀{D} w',Ext w w'->St w0 D w' n (G8 k new (zM P n z)).l bl vs->Gz P B (G8 k new (zM P n z)) D w')(hk:Ai P ks:=by exact G)
    (hx:runs P (jZ bl vs) (zA (zM P n z)) n ((pz (zM P n z)).take k) (zM P n z).l ks (cl.map (·.2.2.2)) new=wants (jZ bl vs) ks cl new:=by kernel_rfl) (hs:sZ ((pz (zM P n z)).take k) (zM P n z).l new=true:=by kernel_rfl) (J:uf (zM P n z)=true:=by kernel_rfl):Gz P B z a w:=
  alL S λS=>Ω J (aeN S k ks cl new hO (λD w' hE S'=>JH (m:=k) (l:=[]) J (next w' hE S')) hk hx hs)
def CO(z:Zt):List YM:=match z.p with | .cd (.region _ ops true) _=>ops.toList | _=>[]
def Lc(z:Zt):Bool:=match z.p with | .cd (.region _ _ true) _=>true | _=>false
abbrev zdr{z:Zt}(D:Lc z=true)(h:∀id,(Code.region id (CO z).toArray true).wp P (zp P B (zK z)) a w):Gz P B z a w:=by
 obtain⟨p,l⟩:=z;unfold Lc at D;split at D
 .rename_i id ops k hp;simp only at hp;subst hp;have:=h id;unfold CO at this;rw[Ϛ]at this;exact this
 cases D
abbrev akv{z:Zt}(D:Lc z=true)(h:ì P B (Gw m z.p) a w):Ã P (CO z).toArray (zp P B (zK z)) ((CO z).drop m) a w:=by
 obtain⟨p,l⟩:=z;unfold Lc at D;split at D
 .rename_i id ops k hp;simp only at hp;subst hp;unfold CO;rw[Ϛ];exact h
 cases D
abbrev fU(S:St w0 a w n z.l bl vs)(m:Nat)(ks:List Key)(cl:List Cl)(new:List (Nat×y9))(hO:Ŷ P w cl)(next:∀{D} w',Ext w w'->St w0 D w' n (G8 m new (zN P n z)).l bl vs->Gz P B (G8 m new (zN P n z)) D w')(hk:Ai P ks:=by exact G)
    (hx:runs P (jZ bl vs) (CO (zN P n z)).toArray n ((CO (zN P n z)).take m) (zN P n z).l ks (cl.map (·.2.2.2)) new=wants (jZ bl vs) ks cl new:=by kernel_rfl) (hs:sZ ((CO (zN P n z)).take m) (zN P n z).l new=true:=by kernel_rfl)
    (J:P.follows .mixedOrders=true:=by kernel_rfl) (hB:okB (CO (zN P n z)).toArray m n=true:=by kernel_rfl) (hD:tq (CO (zN P n z)).toArray ((CO (zN P n z)).take m)=true:=by kernel_rfl) (ho:Lc (zN P n z)=true:=by kernel_rfl):Gz P B z a w:=
  uQ S λS=>zdr ho λid=>draw S m ks cl new hO (λD w' hE S'=>akv (m:=m) ho (next w' hE S')) hk hx hs J hB hD
abbrev ϲ{fn:Func}{R:ĺ->E5->Prop}{n:Nat}(hf:P.funcs[f]?=some fn)(hn:fn.ntmps=n)(hE:Ext w0 w)(next:∀{a},St w0 a w n (z0 fn args).l [] []->Gz P (Ĩ P fn R) (z0 fn args) a w)
    (hb:fn.body.isSome=true:=by rfl) (D:decide (args.length<=n)=true:=by kernel_rfl):Nq P f args.toArray w R:=by
 obtain⟨c,J⟩:=Į.1 hb;refine Vp.enter hf J (by rw[hn]; simpa using D) λa s=>?_;have S:St w0 a w n ((List.range args.length).zip args) [] []:=⟨(by rw[hn]at s; simpa using s),hE,λp D=>(by cases D),List.nodup_nil,λm hm=>by cases hm⟩;have:=next (a:=a) S;unfold Gz z0 at this;rw[J]at this;exact this
abbrev FW{fn:Func}{R:ĺ->E5->Prop}{n:Nat}{A:List y9}(hf:P.funcs[f]?=some fn)(hn:fn.ntmps=n)(hE:Ext w0 w)(hx:Bx w b A.toArray)(D:w0.heap.size<=b)(next:∀{a},St w0 a w n (z0 fn args).l [(b,A)] []->Gz P (Ĩ P fn R) (z0 fn args) a w)
    (hb:fn.body.isSome=true:=by rfl) (J:decide (args.length<=n)=true:=by kernel_rfl):Nq P f args.toArray w R:=by
 obtain⟨c,hc⟩:=Į.1 hb;refine BP hf hn hE hx D (λa S=>?_) hc J;have:=next (a:=a) S;unfold Gz z0 at this;rw[hc]at this;exact this
abbrev zl(S:St w0 a w n z.l bl vs)(h:∀{a'},St w0 a' w n (zN P n z).l bl vs->Ã P (zA (zN P n z)) (zp P B (zK (zN P n z))) (pz (zN P n z)) a' w)(D:uf (zN P n z)=true:=by kernel_rfl):Gz P B z a w:=uQ S λS=>Ω D (h S)
abbrev zo0(S:St w0 a w n z.l bl vs)(h:St w0 a w n (ς z).l bl vs->Gz P B (ς z) a w)(D:uf z=true:=by kernel_rfl):Ã P (zA z) (zp P B (zK z)) ((pz z).drop 1) a w:=JH (l:=[]) D (h S)
abbrev qJ{d:Nat}(S:St w0 a w n ((d,v)::z.l) bl vs)(h:St w0 a w n (G8 1 [(d,v)] z).l bl vs->Gz P B (G8 1 [(d,v)] z) a w)(D:uf z=true:=by kernel_rfl):Ã P (zA z) (zp P B (zK z)) ((pz z).drop 1) a w:=JH (l:=[]) D (h S)
def at7(d:Option Nat)(v:y9)(z:Zt):Zt:=⟨Gw 1 z.p,zS z.l d v⟩
abbrev ť{d:Option Nat}(S:St w0 a w n (zS z.l d v) bl vs)(h:St w0 a w n (at7 d v z).l bl vs->Gz P B (at7 d v z) a w)(D:uf z=true:=by kernel_rfl):Ã P (zA z) (zp P B (zK z)) ((pz z).drop 1) a w:=JH (l:=[]) D (h S)
abbrev zd(S:St w0 a w n z.l bl vs)(h:∀{a'},St w0 a' w n (zN P n z).l bl vs->∀id,(Code.region id (CO (zN P n z)).toArray true).wp P (zp P B (zK (zN P n z))) a' w)(D:Lc (zN P n z)=true:=by kernel_rfl):Gz P B z a w:=uQ S λS=>zdr D (h S)
abbrev zdo{new:List (Nat×y9)}(S:St w0 a w n (new++z.l) bl vs)(h:St w0 a w n (G8 m new z).l bl vs->Gz P B (G8 m new z) a w)(D:Lc z=true:=by kernel_rfl):Ã P (CO z).toArray (zp P B (zK z)) ((CO z).drop m) a w:=akv (m:=m) D (h S)
def zbt(A:Array YM)(os:List YM)(new:List (Nat×y9))(z:Zt):Zt:=⟨.op A os (.bot::zK z),new++z.l⟩
abbrev zdb{A:Array YM}{os:List YM}{new:List (Nat×y9)}(S:St w0 a w n (new++z.l) bl vs)(h:St w0 a w n (zbt A os new z).l bl vs->Gz P B (zbt A os new z) a w):Ã P A (yV (zp P B (zK z))) os a w:=h S
abbrev jm(S:St w0 a w n z.l bl vs)(m:Nat)(U:Bc)(ks:Nat->List Key)(cs:(Nat->y9)->List y9)(cl:(Nat->y9)->List ϒ)(J:List (List Nat))(new:(Nat->y9)->List (Nat×y9))
    (hU:Ee U) (hO:∀x,Wj P w U x (cl x) J)
    (next:∀{D} w' x,Ext w w'->oQ U x w' (U.map (·.1))->St w0 D w' n (G8 m (new x) (zN P n z)).l bl vs->Gz P B (G8 m (new x) (zN P n z)) D w')
    (hN:∀r,Ū U w.heap.size r (ks r):=by intro r; exact G) (hk:∀r,oz True P (ks r):=by intro r; exact G)
    (aa:(U.map (·.1)).all (λd=>((CO (zN P n z)).take m).any (λo=>o.dst==some d))=true:=by kernel_rfl)
    (ab:P.follows .mixedOrders=true:=by kernel_rfl) (hB:okB (CO (zN P n z)).toArray m n=true:=by kernel_rfl) (hD:tq (CO (zN P n z)).toArray ((CO (zN P n z)).take m)=true:=by kernel_rfl)
    (hl:Hnd:=[]) (hH:∀x r,qx P w U [] x (CO (zN P n z)) hl (ks r):=by intro x r; exact G) (ac:∀r,yN (CO (zN P n z)) hl (ks r)=true:=by intro r; kernel_rfl) (ae:Ld (CO (zN P n z)) m U hl=true:=by kernel_rfl)
    (hx:∀y r,(exec P (jZ bl vs) (CO (zN P n z)).toArray n ((CO (zN P n z)).take m) (lift (zN P n z).l) (ks r) (cs y)).map (ZB ((CO (zN P n z)).take m) U J (new y))=some ((new y).map (λp=>some ([],p.2)),(ks r).map (xq (jZ bl vs)),(cl y).map ϓ,patch U y ((CO (zN P n z)).take m) (tv (exec P (jZ bl vs) (CO (zN P n z)).toArray n ((CO (zN P n z)).take m) (lift (zN P n z).l) (ks 0) (cs λ_=>undef))),true):=by intro y r; kernel_rfl)
    (hs:∀y,sZ ((CO (zN P n z)).take m) (zN P n z).l (new y)=true:=by intro y; kernel_rfl) (hn:(decide (n<=1000)&&(U.map (·.1)).all λd=>decide (d<n))=true:=by kernel_rfl) (ho:Lc (zN P n z)=true:=by kernel_rfl):Gz P B z a w:=
  uQ S λS=>zdr ho λid=>sH S m U ks cs cl J new hU hO (λD w' x hE hF S'=>akv (m:=m) ho (next w' x hE hF S')) hN hk aa ab hB hD hl hH ac ae hx hs hn
def newC(P:Ë)(z:Zt):List y9:=match Gx P 0 (pz z) z.l with | some x=>x.1 | none=>[]
abbrev eG(S:St w0 a w n z.l bl vs)(next:∀{a'} w' b,Ext w w'->b=w.heap.size->St w0 a' w' n (xk (newV P b (zN P n z)) (zN P n z)).l ((b,newC P (zN P n z))::bl) vs->Gz P B (xk (newV P b (zN P n z)) (zN P n z)) a' w')
    (D:∀r,ao7 P r (zN P n z)=some (newC P (zN P n z),mG (zN P n z)):=by intro r; kernel_rfl) (J:(uf (zN P n z)&&(uG n (mG (zN P n z))&&(mG (zN P n z)).isSome))=true:=by kernel_rfl):Gz P B z a w:=dM S _ next D J
def stO(P:Ë)(z:Zt):Nat:=match lC P (pz z) z.l with | some x=>x.2.1 | none=>0
def stC(P:Ë)(z:Zt):List y9:=match lC P (pz z) z.l with | some x=>(match x.2.2.1 with | .agg c=>c.toList | v=>[v]) | none=>[]
abbrev gI(S:St w0 a w n z.l bl vs)(k:Nat){A:List y9}(D:bl[k]?=some (b,A))(next:∀{a'} w',Ch b w w'->St w0 a' w' n (ς (zN P n z)).l (bl.set k (b,spl A (stO P (zN P n z)) (stC P (zN P n z)))) vs->Gz P B (ς (zN P n z)) a' w')
    (J:lC P (pz (zN P n z)) (zN P n z).l=some (b,stO P (zN P n z),.agg (stC P (zN P n z)).toArray,(stC P (zN P n z)).length):=by kernel_rfl) (hf:decide (stO P (zN P n z)+(stC P (zN P n z)).length<=A.length)=true:=by kernel_rfl) (h1:(stC P (zN P n z)).all (·.oneCell')=true:=by kernel_rfl) (ho:uf (zN P n z)=true:=by kernel_rfl):Gz P B z a w:=nM S k D next J hf h1 ho
def stV(P:Ë)(z:Zt):y9:=match lC P (pz z) z.l with | some x=>x.2.2.1 | none=>undef
abbrev fZ(S:St w0 a w n z.l bl vs)(k:Nat){A:List y9}(D:bl[k]?=some (b,A))(next:∀{a'} w',Ch b w w'->St w0 a' w' n (ς (zN P n z)).l (bl.set k (b,spl A (stO P (zN P n z)) [stV P (zN P n z)])) vs->Gz P B (ς (zN P n z)) a' w')
    (hx:lC P (pz (zN P n z)) (zN P n z).l=some (b,stO P (zN P n z),stV P (zN P n z),1):=by kernel_rfl) (hf:decide (stO P (zN P n z)<A.length)=true:=by kernel_rfl) (h1:(stV P (zN P n z)).cells = #[stV P (zN P n z)]:=by kernel_rfl) (J:(stV P (zN P n z)).oneCell'=true:=by kernel_rfl) (ho:uf (zN P n z)=true:=by kernel_rfl):Gz P B z a w:=Ye S k D next hx hf h1 J ho
abbrev St.kV{l:List (Nat×y9)}(S:St w0 a w n l bl vs)(k:Nat){b:Nat}{A D:List y9}(hk:bl[k]?=some (b,D):=by rfl)(hA:D=A:=by kernel_rfl):Bx w b A.toArray:=hA▸S.bx k hk
abbrev St.qC{l D:List (Nat×y9)}{J:List (Nat×List y9)}(S:St w0 a w n l bl vs)(h:D.map (λp=>l.lookup p.1)=D.map (λp=>some p.2):=by kernel_rfl)(hb:bl=J:=by kernel_rfl):St w0 a w n D J []:=hb▸S.sn h
abbrev St.fl{l:List (Nat×y9)}{D:List (Nat×List y9)}(S:St w0 a w n l bl vs)(h:bl=D:=by first | (simp only[List.set_cons_zero,List.set_cons_succ]; exact I) | exact I):St w0 a w n l D vs:=h▸S
end
end Go.Sx
namespace Go.Sx
variable{P:Ë}{ops:Array YM}{Q:Ŗ->á->E5->Prop}{w0 w:E5}{a:á}{os:List YM}{n:Nat}{l:List (Nat×y9)}{bl:List (Nat×List y9)}{vs:List eX}
abbrev qp{x y:Int}(h:x=y)(D : -9223372036854775808<=y∧y<=9223372036854775807):Value.i (IntKind.i64.wrap x) = .i y:=by subst h; exact akY D
abbrev ap4(S:St w0 a w n l bl vs)(d:Nat)(V:y9){w1:E5}{o:YM}{os':List YM}(aa:os=o::os')(hg:o.guard=none)(D:o.dst=some d)(J:(Í a.eval o).run P w = .ok (.value V) w1)(hE:Ext w w1)
  (next:∀{a'},St w0 a' w1 n ((d,V)::l) bl vs->Ã P ops Q (os.drop 1) a' w1) (hd:uG n (some d)=true:=by rfl):Ã P ops Q os a w:=by
 subst aa;unfold Ã;rw[Á (by simp[Region.wanted,hg])];left;unfold Oper.wp;rw[J];simp only[Oper.upon];rw[D];exact next ((S.grow hE).act (tC (d:=some d) S.s hd V))
end Go.Sx
namespace En
def dX:Nat->Nat->List UInt8
 | 0,_=>[]
 | f+1,n=>if n<128 then [UInt8.ofNat n]else UInt8.ofNat (n%128+128)::dX f (n/128)
def comb(k a:Nat):Except Nat (Nat×Nat)->Except Nat (Nat×Nat)
 | .ok (n,j) => .ok (a+128^k*n,k+j)
 | .error e => .error e
def mW:Nat->List UInt8->Except Nat (Nat×Nat)
 | _,[] => .error 4
 | 0,c::_=>if c.toNat=1 then .ok (1,1)else .error 3
 | f+1,c::l=>if c.toNat<128 then (if c.toNat=0∧f≠8 then .error 3 else .ok (c.toNat,1))else comb 1 (c.toNat%128) (mW f l)
abbrev ab5(r:Except Nat (Nat×Nat)):comb 0 0 r=r:=by
 rcases r with e | ⟨n,j⟩<;>simp[comb]
abbrev ab6(k a c:Nat)(r:Except Nat (Nat×Nat)):comb k a (comb 1 c r)=comb (k+1) (a+128^k*c) r:=by
 rcases r with e | ⟨n,j⟩
 .rfl
 simp only[comb,Nat.pow_one];congr 2
 .rw[ó,ę]; rw[Ĝ]; omega
 omega
abbrev ai1(f:Nat):mW f [] = .error 4:=by cases f<;>rfl
abbrev afp(f:Nat)(c:UInt8)(l:List UInt8)(h:¬c.toNat<128):mW (f+1) (c::l)=comb 1 (c.toNat%128) (mW f l):=by
 rw[mW,UQ h]
abbrev Jw{n:Nat}(h:n<256):(UInt8.ofNat n).toNat=n:=by simp; omega
abbrev aua(f:Nat):2^(7*(f+1)+1)=128*2^(7*f+1):=by
 rw[show 7*(f+1)+1=(7*f+1)+7 by omega,Ž,ĕ]
abbrev ao8(f:Nat):∀(l:List UInt8) (n k:Nat),mW f l = .ok (n,k) ->
  n<2^(7*f+1)∧1<=k∧k<=l.length∧k<=f+1∧(9<=f∨f<9∧0<n)∧(f<=9->dX (f+1) n=l.take k):=by
 induction f with
 | zero =>
  intro l n k h;cases l with
  | nil=>simp[mW]at h
  | cons c l =>
   simp only[mW]at h;split at h
   .rename_i D;simp only[ϖ,Ê]at h;obtain⟨rfl,rfl⟩:=h;refine⟨by decide,Z,by simp,Z,.inr ⟨Z,Z⟩,λ_=>?_⟩;simp only[dX];have:c=1:=ϋ.1 (by simpa using D);rw[this]; rfl
   cases h
 | succ f ih =>
  intro l n k h;cases l with
  | nil=>simp[mW]at h
  | cons c l =>
   rw[aua];have J:0<2^(7*f+1):=Ϯ Z;simp only[mW]at h;split at h
   .rename_i D;split at h
    .cases h
    rename_i J;simp only[ϖ,Ê]at h;obtain⟨rfl,rfl⟩:=h;refine⟨Z,Z,by simp,Z,?_,λ_=>?_⟩
    .by_cases e:c.toNat=0
     .left; have:¬f≠8:=λh=>J ⟨e,h⟩; omega
     by_cases e9:f+1<9
     .right; omega
     left; omega
    rw[dX,Á D]; simp
   rename_i D;cases hr:mW f l with
   | error e=>rw[hr]at h; simp[comb]at h
   | ok p =>
    obtain⟨D,S⟩:=p;rw[hr]at h;simp only[comb,Nat.pow_one,ϖ,Ê]at h;obtain⟨rfl,rfl⟩:=h;obtain⟨h1,h2,h3,h4,J,h6⟩:=ih l D S hr;refine⟨Z,Z,by simp; omega,Z,?_,λhf=>?_⟩
    .by_cases e9:f+1<9
     .right; omega
     left; omega
    have hn:0<D:=by rcases J with J | J<;>omega
    rw[dX,UQ Z];have J:(c.toNat%128+128*D)/128=D:=Z
    have e2:UInt8.ofNat ((c.toNat%128+128*D)%128+128)=c:=by
     apply ϋ.1;rw[Jw Z];have:=c.toNat_lt;omega
    rw[J,e2,h6 Z];rw[Ν 1 S]; rfl
abbrev ahM(f:Nat):∀(n:Nat) (r:List UInt8),n<2^(7*f+1)->(f=9∨f<9∧0<n)->mW f (dX (f+1) n++r) = .ok (n,(dX (f+1) n).length):=by
 induction f with
 | zero =>
  intro n r h D;have:n=1:=by have:2^(7*0+1)=2:=I; omega
  subst this;rfl
 | succ f ih =>
  intro n r h D;rw[aua]at h;rw[dX];split
  .rename_i hn;simp only[Ĵ,Ģ,mW,Ē,ł];rw[Jw Z,Á hn,UQ Z]
  rename_i hn;simp only[Ĵ,mW,Ē];rw[Jw Z,UQ Z,ih (n/128) r Z (.inr ⟨Z,Z⟩)];simp only[comb,Nat.pow_one];congr 2
  .omega
  omega
abbrev iL(f:Nat):∀n,(dX f n).length<=f:=by
 induction f with
 | zero=>intro n; simp[dX]
 | succ f ih =>
  intro n;rw[dX]; split
  .simp
  have:=ih (n/128); simp; omega
abbrev DT(f n:Nat):0<(dX (f+1) n).length:=by rw[dX]; split<;>simp
abbrev pO(n:Nat)(r:List UInt8)(h:n<18446744073709551616):mW 9 (dX 10 n++r) = .ok (n,(dX 10 n).length):=
 ahM 9 n r (by simpa using h) (.inl I)
abbrev Hy{l:List UInt8}{n k:Nat}(h:mW 9 l = .ok (n,k)):n<18446744073709551616∧1<=k∧k<=l.length∧k<=10∧dX 10 n=l.take k:=by
 obtain⟨D,J,S,h4,_,h6⟩:=ao8 9 l n k h;exact⟨by simpa using D,J,S,h4,h6 (Ç _)⟩
def zig(x:Int):Nat:=if x<0 then (-2*x-1).toNat else (2*x).toNat
def FV(n:Nat):Int:=if n%2=1 then -1-((n/2:Nat):Int)else ((n/2:Nat):Int)
abbrev Qz{x:Int}(h : -9223372036854775808<=x)(D:x<=9223372036854775807):zig x<18446744073709551616:=by unfold zig; split<;>omega
abbrev ET(x:Int):FV (zig x)=x:=by unfold FV zig; split<;>split<;>omega
abbrev afz{n:Nat}(h:n<18446744073709551616) : -9223372036854775808<=FV n∧FV n<=9223372036854775807:=by unfold FV; split<;>omega
def y8(l:List UInt8)(D:Int):Nat×Nat×Nat:=
 if D<0∨(l.length:Int)<D then (0,0,2)
 else match mW 9 (l.drop D.toNat)with
  | .ok (n,k)=>(n,D.toNat+k,0)
  | .error e=>(0,0,e)
def Η(l:List UInt8)(D:Int):Int×Nat×Nat:=(FV (y8 l D).1,(y8 l D).2)
abbrev Hw(f:Nat):∀(l:List UInt8) (e:Nat),mW f l = .error e->e=3∨e=4:=by
 induction f with
 | zero =>
  intro l e h;cases l with
  | nil=>simp only[mW,ŭ]at h; omega
  | cons c l =>
   simp only[mW]at h;split at h<;>simp only[reduceCtorEq,ŭ]at h;omega
 | succ f ih =>
  intro l e h;cases l with
  | nil=>simp only[mW,ŭ]at h; omega
  | cons c l =>
   simp only[mW]at h;split at h
   .split at h<;>simp only[reduceCtorEq,ŭ]at h;omega
   cases hr:mW f l with
   | error e'=>rw[hr]at h; simp only[comb,ŭ]at h; subst h; exact ih l _ hr
   | ok p=>obtain⟨D,J⟩:=p; rw[hr]at h; simp[comb]at h
end En
namespace En
variable{α:Type}
def uT(most:Int)(l:List UInt8):Except Nat (List UInt8×Nat):=
 match mW 9 l with
 | .error e => .error e
 | .ok (n,k)=>if most<0∨most<(n:Int)then .error 5 else if l.length-k<n then .error 4 else .ok ((l.drop k).take n,k+n)
def Ť(l:List UInt8)(D most:Int):List UInt8×Nat×Nat:=
 if D<0∨(l.length:Int)<D then ([],0,2)
 else match uT most (l.drop D.toNat)with
  | .ok (s,k)=>(s,D.toNat+k,0)
  | .error e=>([],0,e)
def gJ(s:List UInt8):List UInt8:=dX 10 s.length++s
abbrev JV{most:Int}{l s:List UInt8}{k:Nat}(h:uT most l = .ok (s,k)):gJ s=l.take k∧k<=l.length∧1<=k∧(s.length:Int)<=most:=by
 unfold uT at h;cases hu:mW 9 l with
 | error e=>rw[hu]at h; simp at h
 | ok p =>
  obtain⟨n,j⟩:=p;rw[hu]at h;simp only at h;obtain⟨J,S,h3,h4,D⟩:=Hy hu;split at h
  .cases h
  split at h
  .cases h
  rename_i J S;simp only[ϖ,Ê]at h;obtain⟨rfl,rfl⟩:=h;have hl:((l.drop j).take n).length=n:=by simp; omega
  refine⟨?_,Z,Z,Z⟩;unfold gJ;rw[hl,D,<-List.take_add]
abbrev JX(s r:List UInt8)(most:Int)(h:(s.length:Int)<=most)(D:s.length<18446744073709551616):uT most (gJ s++r) = .ok (s,(gJ s).length):=by
 unfold uT gJ;rw[ç,pO _ _ D];simp only;rw[UQ Z,UQ Y];simp
end En
namespace En
abbrev am1{l:List UInt8}{e:Nat}(h:mW 9 l = .error e):e≠0:=by
 rcases Hw 9 l e h with rfl | rfl<;>decide
end En
namespace Go.Proofs.Õ
namespace Px
set_option linter.unusedSectionVars false
open En
variable{β:Type}[DecidableEq β]
def runs:List β->List (Nat×β)
  | []=>[]
  | c::l=>match runs l with
    | []=>[(1,c)]
    | (n,d)::r=>if d=c then (n+1,d)::r else (1,c)::(n,d)::r
def flat:List (Nat×β)->List β
  | []=>[]
  | (n,c)::r=>List.replicate n c++flat r
def good:Option β->List (Nat×β)->Prop
  | _,[]=>True
  | last,(n,c)::r=>0<n∧last≠some c∧good (some c) r
variable{p q:bI}{x y:List UInt8}
abbrev Py(s:List β):(∀last,(∀c,s.head?=some c->last≠some c)->good last (runs s))∧flat (runs s)=s∧(∀c n r,runs s=(n,c)::r->s.head?=some c):=by
 induction s with
 | nil=>simp[runs,good,flat]
 | cons c l ih =>
  obtain⟨h1,J,S⟩:=ih;cases hr:runs l with
  | nil =>
   rw[hr]at J;simp only[runs,hr,good,flat]at J |-;subst J;refine⟨λlast h=>⟨Z,h c I,G⟩,I,?_⟩;intro c' n' r' D; simp only[Ă,Ê]at D; simp[D.1.2]
  | cons x r =>
   obtain⟨n,d⟩:=x;have hd:=S d n r hr;rw[hr]at J;simp only[runs,hr];simp only[flat]at J;split
   .rename_i e;subst e;refine⟨λlast h=>?_,?_,?_⟩
    .have:=h1 none Y;rw[hr]at this;simp only[good]at this |-;exact⟨Z,h d I,this.F⟩
    .simp only[flat,ϡ,Ĵ,J]
    intro c' n' r' D; simp only[Ă,Ê]at D; simp[D.1.2]
   rename_i e;refine⟨λlast h=>?_,?_,?_⟩
   .have:=h1 (some c) (by intro c' S; rw[hd]at S; simp only[Æ]at S |-; exact λe'=>e (S.trans (Ò e').symm));rw[hr]at this;simp only[good]at this |-;exact⟨Z,h c I,this⟩
   .simp only[flat,ϡ,Ϝ,Ĵ,Ģ,J]
   intro c' n' r' D; simp only[Ă,Ê]at D; simp[D.1.2]
abbrev adF(r:List (Nat×β)):∀last,good last r->runs (flat r)=r:=by
 induction r with
 | nil=>intro _ _; rfl
 | cons x r ih =>
  obtain⟨n,c⟩:=x;intro last h;simp only[good]at h;obtain⟨hn,_,D⟩:=h;have J:=ih _ D;simp only[flat];have key:∀k,runs (List.replicate (k+1) c++flat r)=(k+1,c)::r:=by
   intro k;induction k with
   | zero =>
    simp only[ϡ,Ϝ,Ĵ,Ģ,runs,J];cases r with
    | nil=>rfl
    | cons y r' =>
     obtain⟨m,d⟩:=y;simp only[good]at D;simp only;rw[UQ (λe=>D.2.1 (by rw[e]))]
   | succ k ihk =>
    rw[ϡ,Ĵ,runs,ihk];simp
  obtain⟨m,rfl⟩:∃m,n=m+1:=⟨n-1,Z⟩;exact key m
def Le(last:Option β):List (Nat×β)->Option β
  | []=>last
  | (_,c)::r=>Le (some c) r
abbrev adG(R:List (Nat×β))(n:Nat)(c:β):∀last,good last (R++[(n,c)])↔good last R∧0<n∧Le last R≠some c:=by
  induction R with
  | nil=>intro last; simp[good,Le]
  | cons x R ih => intro last; obtain ⟨m, d⟩ := x; simp only [Ĵ, good, Le, ih]; constructor
                   · rintro⟨h1,h2,h3,h4,h5⟩; exact⟨⟨h1,h2,h3⟩,h4,h5⟩
                   · rintro⟨⟨h1,h2,h3⟩,h4,h5⟩; exact⟨h1,h2,h3,h4,h5⟩
abbrev Wn(R S:List (Nat×β)):flat (R++S)=flat R++flat S:=by
 induction R with
 | nil=>rfl
 | cons x R ih=>obtain⟨m,d⟩:=x; simp[flat,ih]
abbrev ZC(R:List (Nat×β))(n:Nat)(c:β):∀last,Le last (R++[(n,c)])=some c:=by
 induction R with
 | nil=>intro last; rfl
 | cons x R ih=>intro last; obtain⟨m,d⟩:=x; simp[Le,ih]
abbrev akw{s:List β}{R:List (Nat×β)}(D:good none R)(J:flat R=s):runs s=R:=by rw[<-J]; exact adF R none D
abbrev ER(s:List β):good none (runs s)∧flat (runs s)=s:=⟨(Py s).1 none Y,(Py s).2.1⟩
abbrev akx{R:List (Nat×β)}:∀x∈R,x.1<=(flat R).length:=by
 induction R with
 | nil=>intro x D; simp at D
 | cons y R ih =>
  intro x D;obtain⟨m,d⟩:=y;rcases Ù.1 D with rfl | D
  .simp[flat]
  have:=ih x D; simp[flat]; omega
def pb(p:bI):List UInt8:=[p.r,p.g,p.b,p.a]
def rb:List (Nat×bI)->List UInt8
  | []=>[]
  | (n,p)::r=>dX 10 n++pb p++rb r
def enc(l:List bI):List UInt8:=rb (runs l)
abbrev adH(R S:List (Nat×bI)):rb (R++S)=rb R++rb S:=by
 induction R with
 | nil=>rfl
 | cons x R ih=>obtain⟨m,d⟩:=x; simp[rb,ih]
abbrev ai4(R:List (Nat×bI))(n:Nat)(p:bI):rb (R++[(n,p)])=rb R++(dX 10 n++pb p):=by rw[adH]; simp[rb]
abbrev amJ{R:List (Nat×bI)}:∀{last:Option bI},Px.good last R->(rb R).length<=14*(flat R).length:=by
 induction R with
 | nil=>intro _ _; exact Î _
 | cons z R ih =>
  intro last h;obtain⟨n,p⟩:=z;simp only[Px.good]at h;have:=ih h.F;have:=iL 10 n;simp only[rb,pb,flat,Å,Ē,ł,List.length_replicate];omega
abbrev Yz(h:pb p++x=pb q++y):p=q∧x=y:=by
 simp only[pb,Ĵ,Ģ,Ă]at h;obtain⟨J,S,h3,h4,D⟩:=h;exact⟨by cases p; cases q; simp_all,D⟩
abbrev aky{n m:Nat}(hn:n<18446744073709551616)(S:m<18446744073709551616)(h:dX 10 n++pb p++x=dX 10 m++pb q++y):n=m∧p=q∧x=y:=by
 have D:=pO n (pb p++x) hn;have J:=pO m (pb q++y) S;rw[<-ç]at D J;rw[h,J]at D;simp only[ϖ,Ê]at D;obtain⟨rfl,-⟩:=D;rw[ç,ç]at h;obtain⟨D,J⟩:=Yz (List.append_cancel_left h);exact⟨I,D,J⟩
def Bd(R:List (Nat×bI)):Prop:=∀x∈R,x.1<18446744073709551616
theorem ahN:∀{R S:List (Nat×bI)} {x:List UInt8},Bd R->Bd S->rb R++x=rb S->∃T,S=R++T∧rb T=x
  | [],S,x,_,_,h=>⟨S,I,h.symm⟩
  | (n,p)::R,[],x,_,_,h=>by
    have:=Ñ List.length h
    simp[rb,pb]at this
  | (n,p)::R,(m,q)::S,x,hR,hS,h=>by
    simp only[rb,ç]at h
    obtain⟨rfl,rfl,J⟩:=aky (hR _ Ö) (hS _ Ö) (by simpa only[ç]using h)
    obtain⟨T,rfl,hT⟩:=ahN (λz D=>hR z (ļ _ D)) (λz D=>hS z (ļ _ D)) J
    exact⟨T,I,hT⟩
abbrev abj{R:List (Nat×bI)}(h:(flat R).length<18446744073709551616):Bd R:=λx D=>Ϟ (akx x D) h
abbrev aje{l m:List bI}(hl:l.length<18446744073709551616)(D:m.length<18446744073709551616)(h:enc l=enc m):l=m:=by
 have J:=ER l;have h2:=ER m;obtain⟨T,hT,hx⟩:=ahN (R:=runs l) (S:=runs m) (x:=[]) (abj (by rw[J.2]; exact hl)) (abj (by rw[h2.2]; exact D)) (by rw[ĳ]; exact h);have D:T=[]:=by
  cases T with
  | nil=>rfl
  | cons z T=>obtain⟨n,p⟩:=z; have:=Ñ List.length hx; simp[rb,pb]at this
 rw[<-J.2,<-h2.2,hT,D,ĳ]
structure DI (L:List bI) (i:Nat) (R:List (Nat×bI)):Prop where
  good:good none R
  flat:flat R=L.take i
  le:i<=L.length
  nxt:∀h:i<L.length,Le none R≠some L[i]
abbrev DI.zero(L:List bI):DI L 0 []:=⟨G,I,Î _,λ_ h=>by cases h⟩
abbrev DI.step{L:List bI}{i k:Nat}{R:List (Nat×bI)}{p:bI}(h:DI L i R)(hi:i<L.length)(S:L[i]=p)(hk:i<k)(aa:k<=L.length)(D:∀(j:Nat) (hj:j<L.length),i<=j->j<k->L[j]=p)(J:∀h:k<L.length,L[k]≠p):DI L k (R++[(k-i,p)]):=by
 subst S;refine⟨(adG R _ _ none).2 ⟨h.good,Z,h.nxt hi⟩,?_,aa,λS=>?_⟩
 .rw[Wn,h.flat];have e:L.take k=L.take i++(L.drop i).take (k-i):=by rw[<-List.take_add]; congr 1; omega
  rw[e];congr 1;simp only[Px.flat,ĳ];symm;refine List.eq_replicate_iff.2 ⟨by simp; omega,λx hx=>?_⟩;obtain⟨j,hj,rfl⟩:=List.getElem_of_mem hx;simp only[Ĳ,Ş]at hj;rw[ϟ,List.getElem_drop];exact D (i+j) Z Z Z
 rw[ZC];exact λe=>J S (Ò e).symm
abbrev DI.done{L:List bI}{i:Nat}{R:List (Nat×bI)}(h:DI L i R)(J:L.length<=i):rb R=enc L:=by
 have D:=h.flat;rw[Ď J]at D;unfold enc;rw[akw h.good D]
end Px
end Go.Proofs.Õ
namespace Go.Sx
section
variable{P:Ë}{B:Ŗ->á->E5->Prop}{n:Nat}{w0 w:E5}{a:á}{bl:List (Nat×List y9)}{vs:List eX}{z:Zt}
def ϴ(r:Nat):Code->List YM
 | .region id ops _=>if id==r then ops.toList else []
 | .seq a b=>match ϴ r a with | []=>ϴ r b | l=>l
 | .cond _ a b=>match ϴ r a with | []=>ϴ r b | l=>l
 | .block _ c=>ϴ r c
 | .loop c=>ϴ r c
 | _=>[]
def Wp(fn:Func)(r:Nat):List YM:=ϴ r (fn.body.getD .skip)
abbrev WZ(S:St w0 a w n z.l bl vs)(fn:Func)(r:Nat)(h:∀{a'},St w0 a' w n (zN P n z).l bl vs->∀id,(Code.region id (Wp fn r).toArray true).wp P (zp P B (zK (zN P n z))) a' w)(D:CO (zN P n z)=Wp fn r:=by kernel_rfl)(J:Lc (zN P n z)=true:=by kernel_rfl):Gz P B z a w:=
 zd S (λS id=>D▸h S id) J
abbrev Um{m:Nat}{new:List (Nat×y9)}{fn:Func}{r:Nat}(S:St w0 a w n (new++z.l) bl vs)(h:St w0 a w n (G8 m new z).l bl vs->Gz P B (G8 m new z) a w)(D:CO z=Wp fn r:=by kernel_rfl)(J:Lc z=true:=by kernel_rfl):Ã P (Wp fn r).toArray (zp P B (zK z)) ((Wp fn r).drop m) a w:=
 D▸zdo S h J
abbrev ϱ{D:List (Nat×y9)}{fn:Func}{r:Nat}(S:St w0 a w n D bl vs)(m:Nat)(h:St w0 a w n (⟨Gw m z.p,D⟩:Zt).l bl vs->Gz P B ⟨Gw m z.p,D⟩ a w)(J:CO z=Wp fn r:=by kernel_rfl)(D:Lc z=true:=by kernel_rfl)(hm:((Wp fn r).drop m).isEmpty=true:=by kernel_rfl):Ã P (Wp fn r).toArray (zp P B (zK z)) [] a w:=by
 have:=akv (P:=P) (B:=B) (a:=a) (w:=w) (m:=m) D (h S);rw[J,List.isEmpty_iff.1 hm]at this;exact this
end
end Go.Sx
end
abbrev O1:=@Go.Sx.zk
abbrev Xe:=@Go.Sx.dw
abbrev À:=@Go.Sx.zc
abbrev Â:=@Go.Sx.eG
abbrev Ä:=@Go.Sx.ze
abbrev É:=@Go.Sx.gI
abbrev Ú:=@Go.Sx.dM
abbrev ã:=@Go.Sx.zT
abbrev è:=@Go.Sx.zl
abbrev ê:=@Go.Sx.bM
abbrev ë:=@Go.Sx.fZ
abbrev í:=@Go.Sx.nM
abbrev ð:=@Go.Sx.cO
abbrev ü:=@Go.Sx.zrc
abbrev ÿ:=@Go.Sx.qJ
abbrev ă:=@Go.Sx.zF
abbrev ć:=@Go.Sx.fU
abbrev ĉ:=@Go.Sx.uo
abbrev Ċ:=@Go.Sx.zs
abbrev ċ:=@Go.Sx.jM
abbrev č:=@Go.Sx.zq
abbrev ī:=@Go.Sx.kC
abbrev Ĭ:=@Go.Sx.FW
abbrev Ń:=@Go.Sx.app
abbrev Υ:=@Go.Sx.newRow
abbrev Ì:=@Go.Sx.Stp.trans
abbrev Ü:=@Go.Sx.On.ext
abbrev à:=@Go.Sx.Stp.ext
abbrev æ:=@Go.Sx.On.self
abbrev ï:=@Go.Sx.On.and
abbrev þ:=@Go.Sx.On.step
abbrev Č:=@Go.Sx.Rw.nil
abbrev ď:=@Go.Sx.On.imp
abbrev Ĥ:=@Go.Sx.Stp.og
abbrev ĥ:=@Go.Sx.Stp.jA
abbrev ľ:=@Go.Sx.Ow.dep
abbrev Τ:=@Go.Sx.On.mono
