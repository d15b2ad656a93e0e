/- A region that draws its order -/
import Derived.Test.YtodpgjjgaddkeaaGreatDoorSy
import Derived.Laws.IdiomCopy
import Derived.Maps.AppendAt
import Derived.ArgAppend
import Derived.LoopN
set_option linter.unusedVariables false
set_option linter.unusedSimpArgs false
set_option maxHeartbeats 9999999
open Go renaming World->Á,Value->À,Calls->Ä,Program->Ø,Oper->Ì,wpList->Ð,TypeId->á,execOp->Ù,Operand->ö,Exit->ŗ,Act->í,Ending->Ļ,FuncId->azy,wpAny->ď,bodyPost->Ī
section
namespace Go.Sx
open Go.Proofs.Pv Go.RowKit Go.Rel
section
variable{P:Ø}{ops:Array Ì}{Q:ŗ->í->Á->Prop}{w0:Á}{a:í}{w:Á}{os:List Ì}{n:Nat}{l:List (Nat×À)}{bl:List (Nat×List À)}{vs:List eU}
abbrev MO{ρ:ö->À}{o:Ì}{ty:á}{x y:ö}{b off:Nat}{A cs:List À}(hop:o.op = .store ty x y)(hx:ρ x = .q b off)(hy:ρ y = .agg cs.toArray)(hbx:Bx w b A.toArray)
  (hi:(P.info? ty).map (·.size)=some cs.length) (hf:off+cs.length<=A.length) (h1:cs.all (·.oneCell')=true):(Ù ρ o).run P w = .ok .skip (w.setCells b off cs):=by
 have hth:w.there b off cs.toArray.size:=λj hj=>by
  have h3:j<cs.length:=by simpa using hj
  rw[hbx.2.1,hbx.2.2,Array.getElem?_eq_getElem (by simp; omega)]; exact⟨I,I⟩
 have h:=run_storeVar_mid (P:=P) w b off ty cs.toArray hth (by rw[hi]; simp) (by rw[<-h1]; simp);unfold Ù;simp only[hop,hx,hy,Instr.storeAt,Instr.sureAddr,ķ,ϫ,ϖ,h]
def stD(P:Ø)(os:List Ì)(m j:Nat)(l:List (Nat×À)):Option (Nat×Nat×Nat):=
 match os[m]? with
 | some o=>(match o.guard,o.dst,o.op with
  | none,none,.store ty (.tmp s) (.tmp s')=>(match l.lookup s,P.info? ty,(os[j]?).bind (·.dst)with
   | some (.q b off),some i,some d =>
    (match d==s'&&decide (j<m)&&(os.take m).all (λo => !(o.dst==some s))&&o.after.toList.any (λg=>g.on==j&&Region.binds .any g)with
    | true=>some (b,off,i.size)
    | false=>none)
   | _,_,_=>none)
  | _,_,_=>none)
 | none=>none
def GK(P:Ø)(ops:Array Ì)(os:List Ì)(l:List (Nat×À)):Option (azy×Array À×Option Nat):=
 match os with
 | o::_=>(match pathOf ops (lift l) o,vT o.op || !o.op.operands.all (λx=>(rd (lift l) [] x).isSome),iT (ev0 P (Ù (zi (lift l) []) o))with
  | some p,false,some (.enter f args)=>(match jL (lift l) p with | true=>some (f,args,o.dst) | false=>none)
  | _,_,_=>none)
 | []=>none
abbrev uY(S:St w0 a w n l bl vs){f:azy}{args:Array À}(d:Option Nat){R:Ļ->Á->Prop}(hc:Ä P f args w R)
  (next:∀e w',R e w'->∃v,e = .R v∧Ext w w'∧∀a',St w0 a' w' n (zo l d v) bl vs->Ð P ops Q (os.drop 1) a' w')
  (hx:GK P ops os l=some (f,args,d):=by kernel_rfl) (hd:uN n d=true:=by rfl):Ð P ops Q os a w:=by
 cases os with
 | nil=>cases hx
 | cons o os =>
  unfold GK at hx;simp only at hx;split at hx
  .rename_i p f' args' hp hav hev;split at hx
   .rename_i hg;simp only[Ò,Ô]at hx;obtain⟨rfl,rfl,rfl⟩:=hx;simp only[Ĕ]at hav;have hrun:(Ù a.eval o).run P w = .ok (.enter f' args') w:=kH (Std.act a) (gG (bU S.s) o) (p:=[]) I hav.1 (by simpa using hav.2) hev;unfold Ð;rw[Ï ((sD (a:=a) hp (λx _ i y _ hl=>bU S.s i y hl)).2 hg)];left;unfold Oper.wp;rw[hrun];simp only[Oper.upon];refine hc.mono λe w' hR=>?_;obtain⟨v,rfl,hE,hn⟩:=next e w' hR;exact hn _ ((S.grow hE).act (uf S.s hd v))
   cases hx
  cases hx
end
structure Fr (ĉ:List Nat) (w w':Á):Prop where
 os:w'.os=w.os
 tape:w'.tape=w.tape
 output:w'.output=w.output
 size:w.heap.size<=w'.heap.size
 block:∀k,k<w.heap.size->k∉ĉ->w'.heap[k]?=w.heap[k]?
def On(B:Nat->Prop)(F:Á->Prop)(w:Á):Prop:=∀w',w.heap.size<=w'.heap.size->(∀k,k<w.heap.size->B k->w'.heap[k]?=w.heap[k]?)->F w'
abbrev On.self{B:Nat->Prop}{F:Á->Prop}{w:Á}(h:On B F w):F w:=h w (Ó _) λ_ _ _=>rfl
abbrev On.mono{B B':Nat->Prop}{F:Á->Prop}{w:Á}(h:On B F w)(hB:∀k,B k->B' k):On B' F w:=λw' hs hb=>h w' hs λk hk hBk=>hb k hk (hB k hBk)
abbrev On.imp{B:Nat->Prop}{F ã:Á->Prop}{w:Á}(h:On B F w)(hi:∀w,F w->ã w):On B ã w:=λw' hs hb=>hi _ (h w' hs hb)
abbrev On.and{B:Nat->Prop}{F ã:Á->Prop}{w:Á}(h:On B F w)(k:On B ã w):On B (λw=>F w∧ã w) w:=λw' hs hb=>⟨h w' hs hb,k w' hs hb⟩
abbrev On.ext{B:Nat->Prop}{F:Á->Prop}{w w':Á}(h:On B F w)(hE:Ext w w'):On B F w':=λw2 hs hb=>h w2 (ï hE.size hs) λk hk hBk=>(hb k (ā hk hE.size) hBk).trans (hE.block k hk)
abbrev dD (base:Nat)(F:Á->Prop)(w:Á):Prop:=On (base <= ·) F w
abbrev Ow (base:Nat)(ĉ:List Nat)(F:Á->Prop)(w:Á):Prop:=On (λk=>base<=k∧k∉ĉ) F w
structure Stp (ĉ:List Nat) (w:Á) (O':List Nat) (w':Á):Prop where
 fr:Fr ĉ w w'
 new:∀b∈O',b∈ĉ∨w.heap.size<=b
abbrev Fr.bY{ĉ:List Nat}{w w':Á}(h:Ext w w'):Fr ĉ w w':=⟨h.os,h.tape,h.output,h.size,λk hk _=>h.block k hk⟩
abbrev Stp.ext{ĉ:List Nat}{w w':Á}(h:Ext w w'):Stp ĉ w ĉ w':=⟨Fr.bY h,λ_ h => .inl h⟩
abbrev Stp.trans{ĉ O1 O2:List Nat}{w w1 w2:Á}(h:Stp ĉ w O1 w1)(k:Stp O1 w1 O2 w2):Stp ĉ w O2 w2:=
 ⟨⟨k.fr.os.trans h.fr.os,k.fr.tape.trans h.fr.tape,k.fr.output.trans h.fr.output,ï h.fr.size k.fr.size,λi hi hn=>by
  refine(k.fr.block i (ā hi h.fr.size) λhm=>?_).trans (h.fr.block i hi hn)
  rcases h.new i hm with h1 | h1
  .exact hn h1
  .omega⟩,λb hb=>by
  rcases k.new b hb with h1 | h1
  .exact h.new b h1
  .exact .inr (ï h.fr.size h1)⟩
abbrev Stp.sub{ĉ O':List Nat}{w:Á}(h:∀b∈O',b∈ĉ):Stp ĉ w O' w:=⟨⟨I,I,I,Ó _,λ_ _ _=>rfl⟩,λb hb => .inl (h b hb)⟩
abbrev On.step{base:Nat}{ĉ O':List Nat}{F:Á->Prop}{w w':Á}(h:Ow base ĉ F w)(k:Stp ĉ w O' w'):Ow base O' F w':=λw2 hs hb =>
 h w2 (ï k.fr.size hs) λi hi hB=>by
  refine(hb i (ā hi k.fr.size) ⟨hB.1,λhm=>?_⟩).trans (k.fr.block i hi hB.2)
  rcases k.new i hm with h1 | h1
  .exact hB.2 h1
  .omega
abbrev dD.ow{base b0:Nat}{ĉ:List Nat}{F:Á->Prop}{w:Á}(h:dD base F w)(hb:b0<=base)(hO:∀k∈ĉ,k<base):Ow b0 ĉ F w:=h.mono λk hk=>⟨ï hb hk,λhm=>by have:=hO k hm; omega⟩
abbrev Ow.dep{base:Nat}{ĉ:List Nat}{F:Á->Prop}{w:Á}(h:Ow base ĉ F w):dD base F w:=h.mono λ_ h=>h.1
abbrev dD.le{base b0:Nat}{F:Á->Prop}{w:Á}(h:dD base F w)(hb:b0<=base):dD b0 F w:=h.mono λ_ hk=>ï hb hk
abbrev Fr.below{ĉ:List Nat}{w0 w w':Á}(h:Fr ĉ w w')(hE:Ext w0 w)(hO:∀b∈ĉ,w0.heap.size<=b):Ext w0 w':=
 ⟨h.os.trans hE.os,h.tape.trans hE.tape,h.output.trans hE.output,ï hE.size h.size,λk hk=>(h.block k (ā hk hE.size) λhm=>by have:=hO k hm; omega).trans (hE.block k hk)⟩
structure Row where
 e:á
 k:Nat
 v:À
 n:Nat
 xs:List À
def Ob(bl:List (Nat×List À))(rs:List Row):List Nat:=bl.map (·.1)++rs.filterMap λr=>r.v.ownBlock
structure Rw (w0 w:Á) (bl:List (Nat×List À)) (rs:List Row):Prop where
 own:∀r∈rs,w.ownsRow w0.heap.size r.e r.k r.v r.n r.xs
 lt:∀b∈Ob bl rs,b<w.heap.size
 apart:(Ob bl rs).Nodup
variable{e:á}{k:Nat}{v:À}{xs:List À}
abbrev kY{w w':Á}{B:Nat}{n:Nat}(h:w.ownsRow B e k v n xs)(hb:∀g,v.ownBlock=some g->w'.heap[g]?=w.heap[g]?):w'.ownsRow B e k v n xs:=by
 obtain⟨h1,h | ⟨g,cap,cur,rfl,h2,h3,h4⟩⟩:=h
 .exact⟨h1,.inl h⟩
 exact⟨h1,.inr ⟨g,cap,cur,I,h2,(hb g I).trans h3,h4⟩⟩
abbrev iq{w:Á}{B:Nat}{n:Nat}(h:w.ownsRow B e k v n xs){g:Nat}(hg:v.ownBlock=some g):B<=g∧g<w.heap.size:=by
 obtain⟨h1,⟨rfl,_⟩ | ⟨g,cap,cur,rfl,h2,h3,h4⟩⟩:=h
 .cases hg
 simp only[Value.ownBlock,Ò]at hg;subst hg;exact⟨h2,by
  by_cases hlt:g<w.heap.size
  .exact hlt
  rw[Array.getElem?_eq_none Z]at h3; cases h3⟩
abbrev ownsRow_base{w:Á}{B B':Nat}{n:Nat}(h:w.ownsRow B e k v n xs)(hB:B'<=B):w.ownsRow B' e k v n xs:=by
 obtain⟨h1,h | ⟨g,cap,cur,rfl,h2,h3⟩⟩:=h
 .exact⟨h1,.inl h⟩
 exact⟨h1,.inr ⟨g,cap,cur,I,ï hB h2,h3⟩⟩
section
variable{P:Ø}{ops:Array Ì}{Q:ŗ->í->Á->Prop}{w0:Á}{a:í}{w w':Á}{os:List Ì}{n:Nat}{l:List (Nat×À)}{bl:List (Nat×List À)}{vs:List eU}{rs:List Row}
variable{e t ty:á}{k m cap g c b off:Nat}{v y:À}{xs ys cs:List À}{r:Row}{o:Ì}{ρ:ö->À}{x s:ö}{ad:Addr}
abbrev jA(h:r∈rs)(hg:r.v.ownBlock=some g):g∈Ob bl rs:=Ş _ (Ō.2 ⟨r,h,hg⟩)
abbrev Rw.nil(S:St w0 a w n l bl vs):Rw w0 w bl []:=by
 have e:Ob bl []=bl.map (·.1):=by simp[Ob]
 refine⟨λr h=>(by cases h),λb h=>?_,e▸S.apart⟩;rw[e]at h;obtain⟨p,hp,rfl⟩:=Ć.1 h;exact(S.own p hp).1.1
abbrev Rw.ext(R:Rw w0 w bl rs)(hE:Ext w w'):Rw w0 w' bl rs:=
 ⟨λr hr=>kY (R.own r hr) λg hg=>hE.block g (R.lt g (jA hr hg)),λb hb=>ā (R.lt b hb) hE.size,R.apart⟩
abbrev Rw.add{r:Row}{base:Nat}(R:Rw w0 w bl rs)(ho:w.ownsRow base r.e r.k r.v r.n r.xs)(hb:∀b∈Ob bl rs,b<base)(h0:w0.heap.size<=base):Rw w0 w bl (r::rs):=by
 have hmem:∀c,c∈Ob bl (r::rs)->c∈Ob bl rs∨r.v.ownBlock=some c:=λc hc=>by
  rcases đ.1 hc with h | h
  .exact .inl (ϐ _ h)
  obtain⟨s,hs,he⟩:=Ō.1 h;rcases ç.1 hs with rfl | hs
  .exact .inr he
  exact .inl (jA hs he)
 refine⟨λs hs=>?_,λc hc=>?_,?_⟩
 .rcases ç.1 hs with rfl | hs
  .exact ownsRow_base ho h0
  exact R.own s hs
 .rcases hmem c hc with h | h
  .exact R.lt c h
  exact(iq ho h).2
 cases he:r.v.ownBlock with
 | none=>unfold Ob; rw[Ϧ,he]; exact R.apart
 | some g =>
  unfold Ob;rw[Ϧ,he];have hn:g∉Ob bl rs:=λhm=>by have:=hb g hm; have:=(iq ho he).1; omega
  have hd:=ŋ.1 R.apart;refine ŋ.2 ⟨hd.1,ŵ.2 ⟨λhm=>hn (Ş _ hm),hd.2.1⟩,λx hx y hy e=>?_⟩;subst e;rcases ç.1 hy with rfl | hy
  .exact hn (ϐ _ hx)
  exact hd.2.2 x hx x hy I
abbrev Stp.add{r:Row}{base:Nat}(hE:Ext w w')(ho:w'.ownsRow base r.e r.k r.v r.n r.xs)(hb:w.heap.size<=base):Stp (Ob bl rs) w (Ob bl (r::rs)) w':=⟨Fr.bY hE,λc hc=>by
 rcases đ.1 hc with h | h
 .exact .inl (ϐ _ h)
 obtain⟨s,hs,he⟩:=Ō.1 h;rcases ç.1 hs with rfl | hs
 .exact .inr (ï hb (iq ho he).1)
 exact .inl (jA hs he)⟩
abbrev Rw.sub{Nk:List (Nat×List À)}{rs':List Row}(R:Rw w0 w bl rs)(h1:(Ob Nk rs').Sublist (Ob bl rs))(h2:∀r∈rs',r∈rs):Rw w0 w Nk rs':=⟨λr hr=>R.own r (h2 r hr),λb hb=>R.lt b (h1.subset hb),R.apart.sublist h1⟩
abbrev Rw.pop{r:Row}(R:Rw w0 w bl (r::rs)):Rw w0 w bl rs:=R.sub ((List.Sublist.refl _).append (List.Sublist.filterMap _ (List.sublist_cons_self r rs))) λ_ h=>Ŋ _ h
abbrev Rw.old(R:Rw w0 w bl rs)(S:St w0 a w n l bl vs):∀b∈Ob bl rs,w0.heap.size<=b:=λb hb=>by
 rcases đ.1 hb with h | h
 .obtain⟨p,hp,rfl⟩:=Ć.1 h; exact(S.own p hp).2
 obtain⟨s,hs,he⟩:=Ō.1 h; exact(iq (R.own s hs) he).1
abbrev Rw.set{j:Nat}{r r':Row}(R:Rw w0 w bl rs)(hj:rs[j]?=some r)(hg:w.grownBy w' r.v.ownBlock)(ho:w'.ownsRow w0.heap.size r'.e r'.k r'.v r'.n r'.xs)(hb:r'.v.ownBlock=r.v.ownBlock∨r'.v.ownBlock=some w.heap.size) :
  Rw w0 w' bl (rs.set j r')∧Stp (Ob bl rs) w (Ob bl (rs.set j r')) w':=by
 have hjl:j<rs.length:=by
  by_cases h:j<rs.length
  .exact h
  rw[List.getElem?_eq_none Z]at hj; cases hj
 have hr:r∈rs:=List.mem_of_getElem? hj;have hsp:rs=rs.take j++r::rs.drop (j+1):=by
  have e:rs[j]=r:=by rw[List.getElem?_eq_getElem hjl]at hj; exact Ü hj
  rw[<-e,<-Ķ hjl,ň]
 have hset:rs.set j r'=rs.take j++r'::rs.drop (j+1):=by rw[List.set_eq_take_append_cons_drop,Ï hjl]
 have hO:Ob bl rs=bl.map (·.1)++((rs.take j).filterMap (λr=>r.v.ownBlock)++(r.v.ownBlock.toList++(rs.drop (j+1)).filterMap λr=>r.v.ownBlock)):=by
  conv=>lhs; unfold Ob; rw[hsp]
  rw[List.filterMap_append,Ϧ]; cases r.v.ownBlock<;>rfl
 have hO':Ob bl (rs.set j r')=bl.map (·.1)++((rs.take j).filterMap (λr=>r.v.ownBlock)++(r'.v.ownBlock.toList++(rs.drop (j+1)).filterMap λr=>r.v.ownBlock)):=by
  unfold Ob; rw[hset,List.filterMap_append,Ϧ]; cases r'.v.ownBlock<;>rfl
 have hlt':∀c,r'.v.ownBlock=some c->c<w'.heap.size:=λc hc=>(iq ho hc).2;have hap:=R.apart;rw[hO]at hap;have hnew:∀c∈Ob bl (rs.set j r'),c∈Ob bl rs∨w.heap.size<=c:=λc hc=>by
  rw[hO']at hc;rw[hO];simp only[đ,Option.mem_toList]at hc |-;rcases hc with h | h | h | h
  .exact .inl (.inl h)
  .exact .inl (.inr (.inl h))
  .rcases hb with e | e
   .exact .inl (.inr (.inr (.inl (e▸h))))
   rw[e]at h;simp only[Ò]at h;exact .inr Z
  exact .inl (.inr (.inr (.inr h)))
 refine⟨⟨λs hs=>?_,λc hc=>?_,?_⟩,⟨⟨hg.os,hg.tape,hg.output,hg.size,λi hi hn=>hg.block i hi λe=>hn (jA hr e.symm)⟩,hnew⟩⟩
 .by_cases amf:s=r'
  .rw[amf]; exact ho
  have h:s∈rs:=(List.mem_or_eq_of_mem_set hs).resolve_right amf;by_cases hsr:s.v.ownBlock=r.v.ownBlock∧s.v.ownBlock≠none
  .obtain⟨h1,h2⟩:=hsr;exfalso;rw[hset]at hs;obtain⟨g,hgr⟩:=Option.ne_none_iff_exists'.1 h2;have asn:r.v.ownBlock=some g:=h1▸hgr;rw[asn]at hap;have e1:=(ŋ.1 hap).2.1;have e2:=ŋ.1 e1;rcases đ.1 hs with hs | hs
   .exact e2.2.2 g (Ō.2 ⟨s,hs,hgr⟩) g Y I
   have hs:=(ç.1 hs).resolve_left amf;have:=(ŵ.1 (show(g::(rs.drop (j+1)).filterMap λr=>r.v.ownBlock).Nodup from e2.2.1)).1;exact this (Ō.2 ⟨s,hs,hgr⟩)
  refine kY (R.own s h) λg hsg=>hg.block g (R.lt g (jA h hsg)) λe=>hsr ⟨hsg.trans e,by rw[hsg]; simp⟩
 .rcases hnew c hc with h | h
  .exact ā (R.lt c h) hg.size
  rw[hO']at hc;simp only[đ,Option.mem_toList]at hc;rcases hc with h | h | h | h
  .exact ā (R.lt c (by rw[hO]; simp[h])) hg.size
  .exact ā (R.lt c (by rw[hO]; simp only[đ]; exact .inr (.inl h))) hg.size
  .exact hlt' c h
  exact ā (R.lt c (by rw[hO]; simp only[đ]; exact .inr (.inr (.inr h)))) hg.size
 rw[hO'];rcases hb with e | e
 .rw[e]; exact hap
 rw[e];have hfresh:∀c∈Ob bl rs,c≠w.heap.size:=λc hc=>by have:=R.lt c hc; omega
 rw[hO]at hfresh;obtain⟨h1,h2,h3⟩:=ŋ.1 hap;obtain⟨h4,h5,h6⟩:=ŋ.1 h2;obtain⟨h7,h8,h9⟩:=ŋ.1 h5;refine ŋ.2 ⟨h1,ŋ.2 ⟨h4,?_,λx hx y hy=>?_⟩,λx hx y hy=>?_⟩
 .exact ŵ.2 ⟨λhm=>hfresh _ (by simp only[đ]; exact .inr (.inr (.inr hm))) I,h8⟩
 .rcases ç.1 (show y∈w.heap.size::_ from hy)with rfl | hy
  .exact hfresh x (by simp only[đ]; exact .inr (.inl hx))
  exact h6 x hx y (Ş _ hy)
 rcases đ.1 hy with hy | hy
 .exact h3 x hx y (ϐ _ hy)
 rcases ç.1 (show y∈w.heap.size::_ from hy)with rfl | hy
 .exact hfresh x (by simp only[đ]; exact .inl hx)
 exact h3 x hx y (Ş _ (Ş _ hy))
def Jc(os:List Ì)(l:List (Nat×À)):Option (á×À×À×Option Nat):=
 match os with
 | o::_=>(match o.guard,o.op with
  | none,.call c=>(match c.callee,c.args.toList,c.argTypes.toList with
   | .builtin .append,[s,x],[t,t']=>(match rd (lift l) [] s,rd (lift l) [] x,t==t' with
    | some v,some y,true=>some (t,v,y,o.dst)
    | _,_,_=>none)
   | _,_,_=>none)
  | _,_=>none)
 | []=>none
abbrev Bo{os:List Ì}{d:Option Nat}(h:Jc os l=some (t,v,y,d)):∃o os' s x,os=o::os'∧o.guard=none∧o.dst=d∧o.op = .call { callee := .builtin .append,args := #[s,x],argTypes := #[t,t] }∧rd (lift l) [] s=some v∧rd (lift l) [] x=some y:=by
 cases os with
 | nil=>cases h
 | cons o os =>
  unfold Jc at h;simp only at h;split at h
  .rename_i c hg hop;split at h
   .rename_i s x t1 t2 h1 h2 h3;split at h
    .rename_i v' y' hv hy ht;simp only[Ò,Ô]at h;obtain⟨rfl,rfl,rfl,rfl⟩:=h;obtain rfl:t1=t2:=by simpa using ht
     refine⟨o,os,s,x,I,hg,I,?_,hv,hy⟩;rw[hop];obtain⟨callee,args,argTypes⟩:=c;simp only at h1 h2 h3;rw[h1,<-ayL (xs:=args),<-ayL (xs:=argTypes),h2,h3]
    cases h
   cases h
  cases h
abbrev NR(ho:o.op = .call { callee := .builtin .append,args := #[s,x],argTypes := #[t,t] }){z:À}{bytes:Nat}(T:gu P t e z k bytes){B:Nat}
     (hown:w.ownsRow B e k v m xs) (hs:ρ s=v)    (hy:dN w k y c ys) (hx:ρ x=y) (h63:m+c<=maxLen) (hbytes:(m+c)*bytes<=140737488355328) (hB:B<=w.heap.size) :
  ∃v' w',(Ù ρ o).run P w = .ok (.value v') w'∧w'.ownsRow B e k v' (m+c) (xs++ys)∧w.grownBy w' v.ownBlock∧(v'.ownBlock=v.ownBlock∨v'.ownBlock=some w.heap.size):=by
 obtain⟨i,hi,hz',hsz,hby⟩:=T.info;obtain⟨hl,h1,hy⟩:=hy;rcases hy with ⟨rfl,ad,cap,rfl,hz⟩ | ⟨b,off,cap,rfl,hb,hn,hm,hc⟩
 .have:ys=[]:=Ŝ (by simpa using hl);subst this;rcases ad with _ | ad;case some =>
   obtain⟨v',w',hr,h2,h3,_,h5⟩:=run_append_own_at (P:=P) w B t o.type e i z k bytes T.und hi hz' hsz hby T.zc T.pos v m xs hown ad 0 cap [] Y Y Y h63 hbytes hB;refine⟨v',w',?_,h2,h3,h5⟩;unfold Ù;simp only[ho,resolve,invoke,builtin,ķ,ϫ,ϖ,ayU,Ē,ŀ,hs,hx,hr]
  obtain rfl:=hz I;have hr:=run_append_owned_none (P:=P) (w:=w) B t o.type e i k T.und hi v m xs hown;refine⟨v,w,?_,by simpa using hown,⟨I,I,I,Ó _,λ_ _ _=>rfl⟩,.inl I⟩;unfold Ù;simp only[ho,resolve,invoke,builtin,ķ,ϫ,ϖ,ayU,Ē,ŀ,hs,hx,hr]
 have hnews:∀(j:Nat) u,ys[j]?=some u->w.cell? ((⟨b,off,none⟩:Addr).add j)=some u:=by
  intro j u hj;have e1:(⟨b,off,none⟩:Addr).add j=⟨b,off+j,none⟩:=by unfold Addr.add; split<;>simp_all
  rw[e1]; exact hc j u hj
 obtain⟨v',w',hr,h2,h3,_,h5⟩:=run_append_own_at (P:=P) w B t o.type e i z k bytes T.und hi hz' hsz hby T.zc T.pos v m xs hown ⟨b,off,none⟩ c cap ys hl hnews h1 h63 hbytes hB;refine⟨v',w',?_,h2,h3,h5⟩;unfold Ù;simp only[ho,resolve,invoke,builtin,ķ,ϫ,ϖ,ayU,Ē,ŀ,hs,hx,hr]
abbrev St.grown{w':Á}{r:Row}(S:St w0 a w n l bl vs)(R:Rw w0 w bl rs)(hr:r∈rs)(hg:w.grownBy w' r.v.ownBlock):St w0 a w' n l bl []:=by
 have hO:∀b∈Ob bl rs,w0.heap.size<=b:=R.old S;refine⟨S.s,?_,λp hp=>⟨?_,(S.own p hp).2⟩,S.apart,λm hm=>by cases hm⟩
 .refine Fr.below (ĉ:=Ob bl rs) ⟨hg.os,hg.tape,hg.output,hg.size,λi hi hn=>hg.block i hi λe=>hn (jA hr e.symm)⟩ S.E hO
 have hne:some p.1≠r.v.ownBlock:=λe=>by
  have hd:=ŋ.1 R.apart;exact hd.2.2 p.1 (Ć.2 ⟨p,hp,I⟩) p.1 (Ō.2 ⟨r,hr,e.symm⟩) I
 have hb:=(S.own p hp).1;have hblk:=hg.block p.1 hb.1 hne;exact⟨ā hb.1 hg.size,λi=>(World.cell?_of_block (a:=⟨p.1,i,none⟩) hblk).trans (hb.2.1 i),λi=>(World.frozen?_of_block (a:=⟨p.1,i,none⟩) hblk).trans (hb.2.2 i)⟩
abbrev app(S:St w0 a w n l bl vs)(R:Rw w0 w bl rs)(j:Nat){z:À}{bytes:Nat}(d:Nat)(hj:rs[j]?=some r)(T:gu P t r.e z r.k bytes)(hy:dN w r.k y m ys)
  (h63:r.n+m<=maxLen) (hbytes:(r.n+m)*bytes<=140737488355328)
  (next:∀a' w' v',Stp (Ob bl rs) w (Ob bl (rs.set j ⟨r.e,r.k,v',r.n+m,r.xs++ys⟩)) w'->Rw w0 w' bl (rs.set j ⟨r.e,r.k,v',r.n+m,r.xs++ys⟩)->St w0 a' w' n ((d,v')::l) bl []->Ð P ops Q (os.drop 1) a' w')
  (hx:Jc os l=some (t,r.v,y,some d):=by kernel_rfl) (hd:uN n (some d)=true:=by rfl):Ð P ops Q os a w:=by
 obtain⟨o,os',s,x,rfl,hg,hdst,hop,hs,hxx⟩:=Bo hx;have hr:r∈rs:=List.mem_of_getElem? hj;have hst:=gG (bU S.s) o;have es:a.eval s=r.v:=gK (Std.act a) (hst s (by rw[hop]; simp[Op.operands,Call.operands])) (p:=[]) I hs;have ex:a.eval x=y:=gK (Std.act a) (hst x (by rw[hop]; simp[Op.operands,Call.operands])) (p:=[]) I hxx;obtain⟨v',w',hrun,h2,h3,h4⟩:=NR (P:=P) hop T (R.own r hr) es hy ex h63 hbytes S.E.size;obtain⟨R',ý⟩:=R.set (r':=⟨r.e,r.k,v',r.n+m,r.xs++ys⟩) hj h3 h2 h4;unfold Ð;rw[Ï (by simp[Region.wanted,hg])];left;unfold Oper.wp;rw[hrun];simp only[Oper.upon];rw[hdst];exact next _ _ v' ý R' ((S.grown R hr h3).act (uf S.s hd v'))
def wS(P:Ø)(r:Nat)(os:List Ì)(l:List (Nat×À)):Option (List À×á×À×Option Nat):=
 match os with
 | o::_=>(match o.guard,vT o.op || !o.op.operands.all (λx=>(rd (lift l) [] x).isSome),Fh P r (Ù (zi (lift l) []) o)with
  | none,false,some (A,ty,k)=>(match iT (ev0 P k)with | some (.val v)=>some (A,ty,v,o.dst) | _=>none)
  | _,_,_=>none)
 | []=>none
abbrev newRow(S:St w0 a w n l bl vs)(R:Rw w0 w bl rs)(d m:Nat)(e:á)(k:Nat)(A:List À)(next:∀a' w' v,Ext w w'->Stp (Ob bl rs) w (Ob bl (⟨e,k,v,m,A⟩::rs)) w'->Rw w0 w' bl (⟨e,k,v,m,A⟩::rs)->St w0 a' w' n ((d,v)::l) bl vs->Ð P ops Q (os.drop 1) a' w')
  (hx:∀r,wS P r os l=some (A,e,.s (some ⟨r,0,none⟩) m m,some d):=by intro r; kernel_rfl) (hA:A.length=m*k:=by rfl) (hm:m<=maxLen:=by decide) (hd:uN n (some d)=true:=by rfl):Ð P ops Q os a w:=by
 have hx:=hx w.heap.size;cases os with
 | nil=>cases hx
 | cons o os =>
  unfold wS at hx;simp only at hx;split at hx
  .rename_i A' ty k' hg hav hev;split at hx
   .rename_i v hv;simp only[Ò,Ô]at hx;obtain⟨rfl,rfl,rfl,hdst⟩:=hx;simp only[Ĕ]at hav;have hc:Ù a.eval o=Ù (zi (lift l) []) o:=by
     refine execOp_congr o (λcs b e1=>by rw[e1]at hav; cases hav.1) λx hx=>?_;have h2:=hav.2;simp only[Ő,ϑ]at h2;obtain⟨v,hv⟩:=į.1 (h2 x hx);rw[gK (Std.act a) (gG (bU S.s) o x hx) (p:=[]) I hv];simp[zi,hv]
    have hv':ev0 P k'=some (.value (.s (some ⟨w.heap.size,0,none⟩) m m)):=by
     unfold iT at hv;split at hv
     .rename_i h; obtain h2:=Ü hv; rw[h]; simp only[FH.val.injEq]at h2; rw[h2]
     .cases hv
     cases hv
    have hrun:(Ù a.eval o).run P w = .ok (.value (.s (some ⟨w.heap.size,0,none⟩) m m)) (w.alloc (.cells A'.toArray ty)):=by rw[hc,nD hev,nY hv']
    unfold Ð;rw[Ï (by simp[Region.wanted,hg])];left;unfold Oper.wp;rw[hrun];simp only[Oper.upon];have hE:Ext w (w.alloc (.cells A'.toArray ty)):=aH _ _;have ho:(w.alloc (.cells A'.toArray ty)).ownsRow w.heap.size ty k (.s (some ⟨w.heap.size,0,none⟩) m m) m A':=
     ⟨hA,.inr ⟨w.heap.size,m,A'.toArray,I,Ó _,Array.getElem?_push_size,Ó _,hm,by simpa using hA,by rw[<-hA]; simp⟩⟩
    rw[hdst];exact next _ _ _ hE (Stp.add (r:=⟨ty,k,_,m,A'⟩) hE ho (Ó _)) ((R.ext hE).add (r:=⟨ty,k,_,m,A'⟩) ho (λb hb=>R.lt b hb) S.E.size) ((S.grow hE).act (uf S.s hd _))
   cases hx
  cases hx
theorem Dv(b:Nat)(e:á)(fr:Nat×Nat):∀(us:List À) (o:Nat) (w:Á) (cur:Array À),w.heap[b]?=some (.cells cur e fr)->o+us.length<=cur.size->(w.setCells b o us).heap[b]?=some (.cells (spl cur.toList o us).toArray e fr)
 | [],o,w,cur,h,hl=>by simp[World.setCells,h,spl]
 | v::r,o,w,cur,h,hl=>by
  have h1:(w.setCell ⟨b,o,none⟩ v).heap[b]?=some (.cells (cur.setIfInBounds o v) e fr):=by simp[World.setCell,Array.getElem?_modify,h]
  have hl':o+(r.length+1)<=cur.size:=by simpa using hl
  rw[World.setCells,Dv b e fr r (o+1) _ _ h1 (by simp; omega)]
  have:spl (cur.setIfInBounds o v).toList (o+1) r=spl cur.toList o (v::r):=by
   rw[Array.toList_setIfInBounds]
   have hol:o<cur.toList.length:=by simp; omega
   generalize cur.toList=c at hol
   obtain⟨p,x,q,rfl,rfl⟩:∃p x q,c=p++x::q∧p.length=o:=⟨c.take o,c[o],c.drop (o+1),by rw[<-Ķ hol,ň],by simp; omega⟩
   unfold spl
   have hp:List.take (p.length+1) p=p:=Ĝ Z
   simp[List.take_append,List.drop_append,Nat.add_assoc,Nat.add_comm 1,hp]
  rw[this]
abbrev Eo{cur:Array À}(h:w.heap[b]?=some (.cells cur e (0,0))):Bx w b cur:=by
 refine⟨?_,λi=>?_,λi=>?_⟩
 .by_cases hlt:b<w.heap.size
  .exact hlt
  rw[Array.getElem?_eq_none Z]at h; cases h
 .simp[World.cell?,h]
 simp[World.frozen?,h]
abbrev afN{A:List À}{o q:Nat}(h:o+cs.length<=q):(spl A o cs).take q=spl (A.take q) o cs:=by
 unfold spl;refine List.ext_getElem? λi=>?_;simp only[List.getElem?_append,List.getElem?_take,List.getElem?_drop,ì,Ľ];by_cases hA:o<=A.length
 .simp only[Ϭ hA,Ϭ (show o<=min q A.length by omega)];by_cases h1:i<o
  .simp[h1,show i<q by omega,show i<o+cs.length by omega]
  by_cases h2:i<o+cs.length
  .simp[h1,h2,show i<q by omega]
  by_cases h3:i<q
  .simp[h2,h3,show o+cs.length+(i-(o+cs.length))<q by omega]
  simp[h2,h3,show ¬o+cs.length+(i-(o+cs.length))<q by omega]
 simp only[Nat.min_eq_right (show A.length<=o by omega),Nat.min_eq_right (show A.length<=q by omega)];by_cases h1:i<A.length
 .simp[h1,show i<q by omega,show i<o by omega,show i<A.length+cs.length by omega]
 by_cases h2:i<A.length+cs.length
 .simp[h1,h2,show i<q by omega]
 have h4:∀x,A[o+cs.length+x]?=none:=λx=>List.getElem?_eq_none Z;simp[h2,h4]
abbrev Rw.store{j:Nat}{r:Row}{g off cap:Nat}{cs:List À}(R:Rw w0 w bl rs)(hj:rs[j]?=some r)(hv:r.v = .s (some ⟨g,0,none⟩) r.n cap)(hf:off+cs.length<=r.xs.length) :
  ∃A:List À,Bx w g A.toArray∧off+cs.length<=A.length∧w.grownBy (w.setCells g off cs) r.v.ownBlock∧(w.setCells g off cs).ownsRow w0.heap.size r.e r.k r.v r.n (spl r.xs off cs):=by
 have ho:=R.own r (List.mem_of_getElem? hj);obtain⟨h1,⟨hn,-⟩ | ⟨g',cap',cur,hv',h2,h3,h4,h5,h6,h7⟩⟩:=ho
 .rw[hv]at hn; cases hn
 rw[hv]at hv';simp only[Ĉ,Ò,Ÿ,and_true,true_and]at hv';obtain⟨rfl,rfl⟩:=hv';have hlen:r.n*r.k<=cur.toList.length:=by
  rw[Array.length_toList,h6]; exact ő _ h4
 refine⟨cur.toList,by simpa using Eo h3,Z,?_,?_⟩
 .rw[hv]; exact(Ch.refl g w).setCells ..
 refine⟨?_,.inr ⟨g,cap,(spl cur.toList off cs).toArray,hv,h2,Dv g r.e (0,0) cs off w cur h3 (by simp at hlen |-; omega),h4,h5,?_,?_⟩⟩
 .unfold spl; simp; omega
 .unfold spl; simp at hlen |-; omega
 rw[show(spl cur.toList off cs).toArray.toList=spl cur.toList off cs from rfl,afN Z,h7]
abbrev RY(S:St w0 a w n l bl vs)(R:Rw w0 w bl rs)(j:Nat)(hj:rs[j]?=some r)(hv:r.v = .s (some ⟨g,0,none⟩) r.n cap)(hf:off+cs.length<=r.xs.length)
  (next:∀w',Stp (Ob bl rs) w (Ob bl (rs.set j ⟨r.e,r.k,r.v,r.n,spl r.xs off cs⟩)) w'->Rw w0 w' bl (rs.set j ⟨r.e,r.k,r.v,r.n,spl r.xs off cs⟩)->St w0 a w' n l bl []->Ð P ops Q (os.drop 1) a w')
  (hx:lU P os l=some (g,off,.agg cs.toArray,cs.length):=by kernel_rfl) (h1:cs.all (·.oneCell')=true:=by kernel_rfl):Ð P ops Q os a w:=by
 obtain⟨o,os',ty,x,y,rfl,hg,hdst,hop,hxx,hyy,hi⟩:=qC hx;obtain⟨A,hbx,hfA,hgr,ho⟩:=R.store hj hv hf;have hst:=gG (bU S.s) o;have ex:a.eval x = .q g off:=gK (Std.act a) (hst x (by rw[hop]; simp[Op.operands])) (p:=[]) I hxx;have ey:a.eval y = .agg cs.toArray:=gK (Std.act a) (hst y (by rw[hop]; simp[Op.operands])) (p:=[]) I hyy;have hrun:=MO (P:=P) hop ex ey hbx hi hfA h1;obtain⟨R',ý⟩:=R.set (r':=⟨r.e,r.k,r.v,r.n,spl r.xs off cs⟩) hj hgr ho (.inl I);unfold Ð;rw[Ï (by simp[Region.wanted,hg])];left;unfold Oper.wp;rw[hrun];simp only[Oper.upon];rw[hdst];exact next _ ý R' (S.grown R (List.mem_of_getElem? hj) hgr)
abbrev XD{y:ö}{A:List À}(hop:o.op = .store ty x y)(hx:ρ x = .q b off)(hy:ρ y=v)(hbx:Bx w b A.toArray)
  (hi:(P.info? ty).map (·.size)=some 1) (hf:off<A.length) (h1:v.cells = #[v]) (h1':v.oneCell'=true):(Ù ρ o).run P w = .ok .skip (w.setCells b off [v]):=by
 have hcell:=hbx.2.1 off;rw[Array.getElem?_eq_getElem (by simpa using hf)]at hcell;have hrun:(Instr.storeAt ty (.q b off) v).run P w = .ok () (w.setCells b off [v]):=by
  cases hq:P.info? ty with
  | none=>simp[hq]at hi
  | some i =>
   have hsz:i.size=1:=by simpa[hq]using hi
   have:=run_storeCells_cells (P:=P) b off [v] 0 w (λj hj=>by
    have:j=0:=by simpa using hj
    subst this; simp[hcell]) (λj hj=>by simpa using hbx.2.2 (off+j)) (λu hu=>by simp at hu; subst hu; exact h1')
   simp only[Λ]at this;simp[Instr.storeAt,Instr.sureAddr,storeVar,sizeOf,typeInfo,hq,h1,hsz,this]
 unfold Ù;simp only[hop,hx,hy,ķ,hrun,ϖ,ϫ]
abbrev MH(S:St w0 a w n l bl vs)(R:Rw w0 w bl rs)(j:Nat)(hj:rs[j]?=some r)(hv:r.v = .s (some ⟨g,0,none⟩) r.n cap)(hf:off+1<=r.xs.length)
  (next:∀w',Stp (Ob bl rs) w (Ob bl (rs.set j ⟨r.e,r.k,r.v,r.n,spl r.xs off [v]⟩)) w'->Rw w0 w' bl (rs.set j ⟨r.e,r.k,r.v,r.n,spl r.xs off [v]⟩)->St w0 a w' n l bl []->Ð P ops Q (os.drop 1) a w')
  (hx:lU P os l=some (g,off,v,1):=by kernel_rfl) (h1:v.cells = #[v]:=by kernel_rfl) (h1':v.oneCell'=true:=by kernel_rfl):Ð P ops Q os a w:=by
 obtain⟨o,os',ty,x,y,rfl,hg,hdst,hop,hxx,hyy,hi⟩:=qC hx;obtain⟨A,hbx,hfA,hgr,ho⟩:=R.store (cs:=[v]) hj hv hf;have hst:=gG (bU S.s) o;have ex:a.eval x = .q g off:=gK (Std.act a) (hst x (by rw[hop]; simp[Op.operands])) (p:=[]) I hxx;have ey:a.eval y=v:=gK (Std.act a) (hst y (by rw[hop]; simp[Op.operands])) (p:=[]) I hyy;have hrun:=XD (P:=P) hop ex ey hbx hi (by simp at hfA; omega) h1 h1';obtain⟨R',ý⟩:=R.set (r':=⟨r.e,r.k,r.v,r.n,spl r.xs off [v]⟩) hj hgr ho (.inl I);unfold Ð;rw[Ï (by simp[Region.wanted,hg])];left;unfold Oper.wp;rw[hrun];simp only[Oper.upon];rw[hdst];exact next _ ý R' (S.grown R (List.mem_of_getElem? hj) hgr)
abbrev Rw.range{r:Row}{g cap:Nat}(R:Rw w0 w bl rs)(hr:r∈rs)(hv:r.v = .s (some ⟨g,0,none⟩) r.n cap)(o:Nat){cs:List À}(h:(r.xs.drop o).take cs.length=cs):w.rangeAt g o cs∧g<w.heap.size∧∀p∈bl,p.1≠g:=by
 have ho:=R.own r hr;have hb:r.v.ownBlock=some g:=by rw[hv]; rfl
 refine⟨λj u hj=>?_,(iq ho hb).2,λp hp e=>?_⟩
 .obtain⟨h1,⟨hn,-⟩ | ⟨g',cap',cur,hv',h2,h3,h4,h5,h6,h7⟩⟩:=ho
  .rw[hv]at hn; cases hn
  rw[hv]at hv';simp only[Ĉ,Ò,Ÿ,and_true,true_and]at hv';obtain⟨rfl,rfl⟩:=hv';rw[(Eo h3).2.1];have hx:r.xs[o+j]?=some u:=by
   rw[<-h,List.getElem?_take]at hj;split at hj
   .rwa [List.getElem?_drop]at hj
   cases hj
  rw[<-h7,List.getElem?_take]at hx;split at hx
  .simpa using hx
  cases hx
 have hd:=ŋ.1 R.apart;subst e;exact hd.2.2 p.1 (Ć.2 ⟨p,hp,I⟩) p.1 (Ō.2 ⟨r,hr,hb⟩) I
theorem rX{α β:Type}{f:α->List β}{k:Nat}(hf:∀x,(f x).length=k):∀(l:List α) (i:Nat) (h:i<l.length) (j:Nat),j<k->(l.flatMap f)[i*k+j]?=(f l[i])[j]?
 | x::l,0,_,j,hj=>by
  rw[ł,List.getElem?_append_left (by rw[hf]; omega)]; simp
 | x::l,i+1,h,j,hj=>by
  rw[ł,List.getElem?_append_right (by rw[hf,Œ]; omega),hf,show(i+1)*k+j-k=i*k+j by rw[Œ]; omega]
  exact rX hf l i (by simpa using h) j hj
theorem jq{α β:Type}{f:α->List β}{k:Nat}(hf:∀x,(f x).length=k):∀l:List α,(l.flatMap f).length=l.length*k
 | []=>by simp
 | x::l=>by rw[ł,ì,hf,jq hf l,Ĺ,Œ]; omega
abbrev lu{α:Type}{f:α->List À}{B:Nat}{L:List α}(hf:∀x,(f x).length=k)(ho:w.ownsRow B e k v m xs)(hm:m=L.length)(hx:xs=L.flatMap f):dD B (λw=>aI k f w v L) w:=by
 intro w' hs hb;subst hm hx;obtain⟨h1,⟨rfl,h0⟩ | ⟨g,cap,cur,rfl,h2,h3,h4,h5,h6,h7⟩⟩:=ho
 .obtain rfl:=Ŝ h0;exact iR k f w'
 have hlt:=(Eo h3).1;refine⟨_,cap,I,h5,.inr ⟨g,0,I,ā hlt hs,h4,λi hi j hj=>?_⟩⟩;have hb':=hb g hlt h2;rw[World.cell?_of_block (a:=⟨g,0+i*k+j,none⟩) hb',(Eo h3).2.1,Ĳ,<-rX hf L i hi j hj,<-h7,List.getElem?_take_of_lt]
 .simp
 calc i*k+j<i*k+k:=by omega
  _=(i+1)*k:=by rw[Œ]; omega
  _<=L.length*k:=ő _ hi
def Ty(e:á)(k base:Nat)(v:À)(n:Nat)(w:Á):Prop:=n=0∨∃g cap cur,v = .s (some ⟨g,0,none⟩) n cap∧base<=g∧w.heap[g]?=some (.cells cur e (0,0))∧n*k<=cur.size
abbrev Ty.le{e:á}{k base b0 n:Nat}{v:À}(h:Ty e k base v n w)(hb:b0<=base):Ty e k b0 v n w:=by
 rcases h with h | ⟨g,cap,cur,h1,h2,h3⟩
 .exact .inl h
 exact .inr ⟨g,cap,cur,h1,ï hb h2,h3⟩
abbrev Ty.amg{B k:Nat}{e:á}{v:À}{m:Nat}{xs:List À}(ho:w.ownsRow B e k v m xs):dD B (Ty e k B v m) w:=by
 intro w' hs hb;obtain⟨h1,⟨rfl,h0⟩ | ⟨g,cap,cur,rfl,h2,h3,h4,h5,h6,h7⟩⟩:=ho
 .exact .inl h0
 exact .inr ⟨g,cap,cur,I,h2,(hb g (Eo h3).1 h2).trans h3,by rw[h6]; exact ő _ h4⟩
def jY{α:Type}(e:á)(k:Nat)(f:α->List À)(base:Nat)(v:À)(L:List α)(w:Á):Prop:=aI k f w v L∧Ty e k base v L.length w
abbrev jY.le{α:Type}{e:á}{k base b0:Nat}{f:α->List À}{v:À}{L:List α}(h:jY e k f base v L w)(hb:b0<=base):jY e k f b0 v L w:=⟨h.1,h.2.le hb⟩
abbrev fP{α:Type}{f:α->List À}{B:Nat}{L:List α}(hf:∀x,(f x).length=k)(ho:w.ownsRow B e k v m xs)(hm:m=L.length)(hx:xs=L.flatMap f):dD B (jY e k f B v L) w:=
 On.and (lu hf ho hm hx) (hm▸Ty.amg ho)
abbrev kD{α:Type}{f:α->List À}{L:List α}(h:aI k f w v L)(hf:∀x,(f x).length=k)(h1:∀x,(f x).all (·.oneCell')=true):dN w k v L.length (L.flatMap f):=by
 refine⟨jq hf L,λu hu=>?_,?_⟩
 .obtain⟨x,_,hx⟩:=List.mem_flatMap.1 hu;exact ø.1 (h1 x) u hx
 obtain⟨a,cap,rfl,hm,⟨rfl,h⟩ | ⟨b,o,rfl,hb,hl,hc⟩⟩:=h
 .exact .inl ⟨I,a,cap,I,h⟩
 refine .inr ⟨b,o,cap,I,hb,hl,hm,λj u hj=>?_⟩;have hjl:j<L.length*k:=by
  rw[<-jq hf L];by_cases h:j<(L.flatMap f).length
  .exact h
  rw[List.getElem?_eq_none Z]at hj; cases hj
 have hk:0<k:=by
  rcases ę k with rfl | h
  .simp at hjl
  exact h
 have hi:j/k<L.length:=(azf hk).2 hjl;have hq:=hc (j/k) hi (j%k) (Ň _ hk);have e:j/k*k+j%k=j:=by rw[Ě]; exact Nat.div_add_mod j k
 rw[<-rX hf L (j/k) hi (j%k) (Ň _ hk),e,Ξ,e,hj]at hq;exact hq
abbrev vb (bl:List (Nat×List À)):List Nat:=bl.map (·.1)
abbrev Stp.ahd{ĉ O':List Nat}{b:Nat}(h:Stp ĉ w O' w')(hb:w.heap.size<=b):Stp ĉ w (b::O') w':=⟨h.fr,λc hc=>by
 rcases ç.1 hc with rfl | hc
 .exact .inr hb
 exact h.new c hc⟩
abbrev Stp.FT{ĉ:List Nat}{b:Nat}(hE:Ext w w')(hb:b=w.heap.size):Stp ĉ w (b::ĉ) w':=(Stp.ext hE).ahd (ayK hb.symm)
abbrev Stp.V3{ĉ:List Nat}{b:Nat}(hc:Ch b w w')(hb:b∈ĉ:=by simp[Go.Sx.vb]):Stp ĉ w ĉ w':=
 ⟨⟨hc.os,hc.tape,hc.output,hc.size,λi hi hn=>hc.block i hi λe=>hn (by simp only[Ò]at e; rwa [e])⟩,λc h => .inl h⟩
abbrev Stp.xw(k:Nat):Stp (vb bl) w (vb (bl.drop k)) w:=Stp.sub λ_ h=>(List.Sublist.map _ (List.drop_sublist k bl)).subset h
abbrev Stp.full{Nk:List (Nat×List À)}(h:Stp (vb bl) w (vb Nk) w'):Stp (Ob bl rs) w (Ob Nk rs) w':=
 ⟨⟨h.fr.os,h.fr.tape,h.fr.output,h.fr.size,λi hi hn=>h.fr.block i hi λhm=>hn (ϐ _ hm)⟩,λb hb=>by
  rcases đ.1 hb with hb | hb
  .exact(h.new b hb).imp (ϐ _) id
  .exact .inl (Ş _ hb)⟩
abbrev Rw.sync{Nk:List (Nat×List À)}{vs':List eU}{l':List (Nat×À)}{a':í}(R:Rw w0 w bl rs)(ê:Stp (vb bl) w (vb Nk) w')(S:St w0 a' w' n l' Nk vs'):Rw w0 w' Nk rs:=by
 have hd:=ŋ.1 R.apart;refine⟨λr hr=>kY (R.own r hr) λg hg=>ê.fr.block g (R.lt g (jA hr hg)) λhm=>hd.2.2 g hm g (Ō.2 ⟨r,hr,hg⟩) I,λb hb=>?_,ŋ.2 ⟨S.apart,hd.2.1,λx hx y hy e=>?_⟩⟩
 .rcases đ.1 hb with h | h
  .obtain⟨p,hp,rfl⟩:=Ć.1 h; exact(S.own p hp).1.1
  exact ā (R.lt b (Ş _ h)) ê.fr.size
 subst e;rcases ê.new x hx with h | h
 .exact hd.2.2 x h x hy I
 have:=R.lt x (Ş _ hy); omega
abbrev Rw.dM{Nk:List (Nat×List À)}{vs':List eU}{l':List (Nat×À)}{a':í}(R:Rw w0 w bl rs)(S:St w0 a' w' n l' Nk vs')(ê:Stp (vb bl) w (vb Nk) w'):Rw w0 w' Nk rs∧Stp (Ob bl rs) w (Ob Nk rs) w':=⟨R.sync ê S,ê.full⟩
abbrev Rw.as{rs':List Row}(R:Rw w0 w bl rs)(h:rs=rs'):Rw w0 w bl rs':=h▸R
abbrev jk{B:Nat}(h:w.ownsRow B e k v m xs):∃a c,v = .s a m c:=by
 obtain⟨h1,⟨rfl,rfl⟩ | ⟨g,cap,cur,rfl,_⟩⟩:=h
 .exact⟨none,0,I⟩
 exact⟨_,cap,I⟩
abbrev xH{A:List À}(hx:Bx w b A.toArray)(hA:A.length=m*k:=by rfl)(hm:m<=maxLen:=by decide)(h1:A.all (·.oneCell')=true:=by kernel_rfl):dN w k (.s (some ⟨b,0,none⟩) m m) m A:=
 ⟨hA,λu hu=>ø.1 h1 u hu,.inr ⟨b,0,m,I,hx.1,Ó _,hm,λj u hj=>by rw[Ĳ,hx.2.1]; simpa using hj⟩⟩
abbrev vU{i:TypeInfo}(ht:P.underlying t=some (.slice e))(hi:P.info? e=some i)(ad y:Option Addr)(n cap c:Nat)(hn:n<=cap):(Builtin.append_ #[t,t] ty #[.s ad n cap,.s y 0 c]).run P w = .ok (.s ad n cap) w:=by
 cases ad<;>cases y<;>simp[Builtin.append_,run_underlying ht,sizeOf,typeInfo,hi,Builtin.lenOf,Builtin.firstCells,hn,storeCells,loadCells,loadCellsFrom]
abbrev Hy(ho:o.op = .call { callee := .builtin .append,args := #[s,x],argTypes := #[t,t] }){z:À}{bytes:Nat}(T:gu P t e z k bytes)
     (hv:dN w k (.s (some ad) m cap) m xs) (hs:ρ s = .s (some ad) m cap)    (hy:dN w k y c ys) (hx:ρ x=y) (hc:cap<m+c) (hc0:0<c) (h63:m+c<=maxLen) (hbytes:(m+c)*bytes<=140737488355328) :
  ∃v' w',(Ù ρ o).run P w = .ok (.value v') w'∧w'.ownsRow w.heap.size e k v' (m+c) (xs++ys)∧Ext w w':=by
 obtain⟨i,hi,hz',hsz,hby⟩:=T.info;obtain⟨hl,h1,hy⟩:=hy;rcases hy with ⟨rfl,_⟩ | ⟨b,off,cap',rfl,hb,hn,hm,hcc⟩
 .omega
 have cells:∀(b off:Nat) (us:List À),(∀(j:Nat) u,us[j]?=some u->w.cell? ⟨b,off+j,none⟩=some u)->∀(j:Nat) u,us[j]?=some u->w.cell? ((⟨b,off,none⟩:Addr).add j)=some u:=λb off us h j u hj=>by
  have e1:(⟨b,off,none⟩:Addr).add j=⟨b,off+j,none⟩:=by unfold Addr.add; split<;>simp_all
  rw[e1]; exact h j u hj
 have hold:∀(j:Nat) u,xs[j]?=some u->w.cell? (ad.add j)=some u:=by
  obtain⟨hl1,_,hv⟩:=hv;rcases hv with ⟨rfl,_⟩ | ⟨b0,o0,cap0,hv',_,_,_,hc0⟩
  .obtain rfl:xs=[]:=Ŝ (by simpa using hl1);intro j u hj; simp at hj
  simp only[Ĉ,Ò]at hv';obtain⟨rfl,-,-⟩:=hv';exact cells b0 o0 xs hc0
 obtain⟨v',w',hr,h2,h3⟩:=run_append_arg_grows (P:=P) w t o.type e i z k bytes T.und hi hz' hsz hby T.zc T.pos ad m cap xs hv.1 hold ⟨b,off,none⟩ c cap' ys hl (cells b off ys hcc) hc h63 hbytes;refine⟨v',w',?_,h2,fU (ù _ _) h3 (Ó _)⟩;unfold Ù;simp only[ho,resolve,invoke,builtin,ķ,ϫ,ϖ,ayU,Ē,ŀ,hs,hx,hr]
abbrev aby{α:Type}{f:α->List À}(ho:o.op = .call { callee := .builtin .append,args := #[s,x],argTypes := #[t,t] }){z:À}{bytes:Nat}(T:gu P t e z k bytes)
   (hs:ρ s = .s (some ad) 0 0)  {L:List α} (hy:aI k f w y L) (hx:ρ x=y) (hf:∀x,(f x).length=k) (h1:∀x,(f x).all (·.oneCell')=true) (hbytes:L.length*bytes<=140737488355328) :
  ∃v' w',(Ù ρ o).run P w = .ok (.value v') w'∧dD w.heap.size (jY e k f w.heap.size v' L) w'∧Ext w w':=by
 rcases List.eq_nil_or_concat L with rfl | hne
 .obtain⟨a,c,rfl⟩:=hy.shape;obtain⟨i,hi,-⟩:=T.info;refine⟨.s (some ad) 0 0,w,?_,λw' _ _=>⟨⟨_,0,I,Õ _,.inl ⟨I,λe=>(by cases e)⟩⟩,.inl I⟩,ô⟩;unfold Ù;have hr:=vU (P:=P) (w:=w) (ty:=o.type) T.und hi (some ad) a 0 0 c (Ó _);simp only[ho,resolve,invoke,builtin,ķ,ϫ,ϖ,ayU,Ē,ŀ,hs,hx,Ϫ,hr]
 have hpos:0<L.length:=by obtain⟨M,z,rfl⟩:=hne; simp
 obtain⟨v',w',hr,h2,h3⟩:=Hy (P:=P) ho T (m:=0) (cap:=0) (xs:=[]) (ad:=ad) ⟨by simp,λu hu=>(by cases hu),.inl ⟨I,some ad,0,I,λe=>(by cases e)⟩⟩ hs (kD hy hf h1) hx Z hpos (by have:=hy.len; omega) (by rw[Ĳ]; exact hbytes);exact⟨v',w',hr,fP hf h2 (Ĳ _) (ĵ _),h3⟩
abbrev aqL(S:St w0 a w n l bl vs){α:Type}{f:α->List À}{z:À}{bytes:Nat}(d:Nat)(T:gu P t e z k bytes){L:List α}(hy:aI k f w y L)(hbytes:L.length*bytes<=140737488355328)
  (next:∀a' w' v',Ext w w'->dD w.heap.size (jY e k f w.heap.size v' L) w'->St w0 a' w' n ((d,v')::l) bl vs->Ð P ops Q (os.drop 1) a' w')
  (hx:Jc os l=some (t,.s (some ad) 0 0,y,some d):=by kernel_rfl) (hf:∀x,(f x).length=k:=by intro x; rfl) (h1:∀x,(f x).all (·.oneCell')=true:=by intro x; rfl) (hd:uN n (some d)=true:=by rfl):Ð P ops Q os a w:=by
 obtain⟨o,os',s,x,rfl,hg,hdst,hop,hs,hxx⟩:=Bo hx;have hst:=gG (bU S.s) o;have es:a.eval s = .s (some ad) 0 0:=gK (Std.act a) (hst s (by rw[hop]; simp[Op.operands,Call.operands])) (p:=[]) I hs;have ex:a.eval x=y:=gK (Std.act a) (hst x (by rw[hop]; simp[Op.operands,Call.operands])) (p:=[]) I hxx;obtain⟨v',w',hrun,h2,h3⟩:=aby (P:=P) hop T es hy ex hf h1 hbytes;unfold Ð;rw[Ï (by simp[Region.wanted,hg])];left;unfold Oper.wp;rw[hrun];simp only[Oper.upon];rw[hdst];exact next _ _ v' h3 h2 ((S.grow h3).act (uf S.s hd v'))
abbrev an8(S:St w0 a w n l bl vs)(R:Rw w0 w bl rs){z:À}{bytes:Nat}(d:Nat)(T:gu P t e z k bytes)(hv:dN w k (.s (some ad) m cap) m xs)(hy:dN w k y c ys)(hc:cap<m+c)(hc0:0<c)(h63:m+c<=maxLen)(hbytes:(m+c)*bytes<=140737488355328)
  (next:∀a' w' v',Ext w w'->Stp (Ob bl rs) w (Ob bl (⟨e,k,v',m+c,xs++ys⟩::rs)) w'->Rw w0 w' bl (⟨e,k,v',m+c,xs++ys⟩::rs)->St w0 a' w' n ((d,v')::l) bl vs->Ð P ops Q (os.drop 1) a' w')
  (hx:Jc os l=some (t,.s (some ad) m cap,y,some d):=by kernel_rfl) (hd:uN n (some d)=true:=by rfl):Ð P ops Q os a w:=by
 obtain⟨o,os',s,x,rfl,hg,hdst,hop,hs,hxx⟩:=Bo hx;have hst:=gG (bU S.s) o;have es:a.eval s = .s (some ad) m cap:=gK (Std.act a) (hst s (by rw[hop]; simp[Op.operands,Call.operands])) (p:=[]) I hs;have ex:a.eval x=y:=gK (Std.act a) (hst x (by rw[hop]; simp[Op.operands,Call.operands])) (p:=[]) I hxx;obtain⟨v',w',hrun,h2,h3⟩:=Hy (P:=P) hop T hv es hy ex hc hc0 h63 hbytes;unfold Ð;rw[Ï (by simp[Region.wanted,hg])];left;unfold Oper.wp;rw[hrun];simp only[Oper.upon];rw[hdst];exact next _ _ v' h3 (Stp.add (r:=⟨e,k,v',m+c,xs++ys⟩) h3 h2 (Ó _)) ((R.ext h3).add (r:=⟨e,k,v',m+c,xs++ys⟩) h2 R.lt S.E.size) ((S.grow h3).act (uf S.s hd v'))
end
def yI(Q:ŗ->í->Á->Prop):ŗ->í->Á->Prop
 | .normal,a,w=>Q .normal a w
 | _,_,_=>False
section
variable{P:Ø}{ops ops':Array Ì}{Q:ŗ->í->Á->Prop}{a:í}{w:Á}
abbrev nX:¬LetsOut (yI Q):=λ⟨_,_,h⟩=>h
abbrev afO{i:Nat}{K K':í->Á->Prop}(hK:∀a w,K a w->K' a w)(h:wpOp P ops (yI Q) i K a w):wpOp P ops Q i K' a w:=by
 unfold wpOp at *;split at h
 .exact hK _ _ h
 split at h
 .rename_i hw;rw[Ï hw];rcases h with h | ⟨_,h⟩
  .left;unfold Oper.wp at *;generalize (Ù a.eval _).run P w=r at *;cases r with
   | ok n w' =>
    cases n<;>simp only[Oper.upon]at h |-;case value u=>exact hK _ _ h
    case skip=>exact hK _ _ h
    case defer d=>exact hK _ _ h
    case enter f args =>
     refine Calls.mono h λe w'' he=>?_;cases e with
     | returned u=>exact hK _ _ he
     | panicked c=>exact he.elim
     | outgrown=>exact(nX he).elim
    case row row args=>exact Rows.mono h λu w'' he=>hK _ _ he
   | halt x w' =>
    cases x<;>simp only[Oper.upon]at h |-;case panic u=>exact h.elim
  exact(nX h).elim
 rename_i hw;rw[É hw];exact hK _ _ h
theorem tZ{md:Region.Mode}:∀(f:Nat) (listed:Array Bool) (a:í) (w:Á),ď P md ops (yI Q) f listed a w->ď P md ops Q f listed a w
 | 0,_,_,_,h=>⟨h.1,h.2⟩
 | f+1,_,_,_,h=>⟨λh0=>h.1 h0,λi hi=>afO (λa w=>tZ f _ a w) (h.2 i hi)⟩
def Alike(ops ops':Array Ì):Prop:=ops.size=ops'.size∧∀i:Nat,(ops[i]?).map (λo:Ì=>(o.op,o.dst,o.guard,o.type,o.pos))=(ops'[i]?).map (λo:Ì=>(o.op,o.dst,o.guard,o.type,o.pos))
abbrev Alike.get(h:Alike ops ops'){i:Nat}{o':Ì}(hi:ops'[i]?=some o'):∃af,ops[i]?=some { o' with after:=af }:=by
 have:=h.2 i;rw[hi]at this;cases ho:ops[i]? with
 | none=>rw[ho]at this; cases this
 | some o =>
  rw[ho]at this;obtain⟨dst,op,type,pos,after,guard⟩:=o;obtain⟨dst',op',type',pos',after',guard'⟩:=o';simp only[Ę,Ò,Ô]at this;obtain⟨rfl,rfl,rfl,rfl,rfl⟩:=this;exact⟨after,I⟩
theorem Alike.none(h:Alike ops ops'){i:Nat}(hi:ops'[i]?=none):ops[i]?=none:=by
 have:=h.2 i;rw[hi]at this;cases ho:ops[i]? with
 | none=>rfl
 | some o=>rw[ho]at this; cases this
abbrev Alike.yielded(h:Alike ops ops')(ts:Array À):Go.yielded ops ts=Go.yielded ops' ts:=by
 funext j;unfold Go.yielded;have:=h.2 j;cases h1:ops[j]?<;>cases h2:ops'[j]?<;>rw[h1,h2]at this
 .cases this
 .cases this
 simp only[Ę,Ò,Ô]at this;simp only[Ο,this.2.1]
abbrev K05{ρ:ö->À}{o:Ì}{af:Array Edge}:Ù ρ { o with after:=af }=Ù ρ o:=by
 obtain⟨dst,op,type,pos,after,guard⟩:=o;rfl
abbrev Alike.wpOp(h:Alike ops ops'){i:Nat}{K K':í->Á->Prop}(hK:∀a w,K a w->K' a w)(hh:Go.wpOp P ops Q i K a w):Go.wpOp P ops' Q i K' a w:=by
 refine wpOp_mono hK ?_;unfold Go.wpOp at *;cases hi:ops'[i]? with
 | none=>rw[h.none hi]at hh; exact hh
 | some o' =>
  obtain⟨af,ho⟩:=h.get hi;rw[ho]at hh;simp only at hh |-;rw[h.yielded]at hh;have e1:Region.wanted { o' with after:=af }=Region.wanted o':=I;rw[e1]at hh;unfold Oper.wp Oper.asks at *;simp only[K05]at hh;exact hh
abbrev EX{F:List Nat}(h:Alike ops ops')(hF:∀(i:Nat) (o o':Ì),ops[i]?=some o->ops'[i]?=some o'->∀e∈o.after,Region.binds .any e=true->e.on∈F∨∃e'∈o'.after,Region.binds .any e'=true∧e'.on=e.on)
  (hF':∀(i:Nat) (o o':Ì),ops[i]?=some o->ops'[i]?=some o'->∀e∈o'.after,Region.binds .any e=true->∃e'∈o.after,Region.binds .any e'=true∧e'.on=e.on) :
  ∀(f:Nat) (listed:Array Bool) (a:í) (w:Á),(∀i∈F,listed.getD i false=true)->ď P .any ops Q f listed a w->ď P .any ops' Q f listed a w:=by
 have hr:∀listed:Array Bool,(∀i∈F,listed.getD i false=true)->∀j,j∈Region.ready .any ops' listed↔j∈Region.ready .any ops listed:=by
  intro listed hl j;rw[mem_ready,mem_ready];constructor
  .rintro⟨h0,o',ho',hall⟩;obtain⟨af,ho⟩:=h.get ho';refine⟨h0,_,ho,λe he hb=>?_⟩;rcases hF j _ _ ho ho' e he hb with h1 | ⟨e',he',hb',heq⟩
   .exact hl _ h1
   rw[<-heq]; exact hall e' he' hb'
  rintro⟨h0,o,ho,hall⟩;cases ho':ops'[j]? with
  | none=>rw[h.none ho']at ho; cases ho
  | some o' =>
   refine⟨h0,o',I,λe he hb=>?_⟩;obtain⟨e',he',hb',heq⟩:=hF' j _ _ ho ho' e he hb;rw[<-heq]; exact hall e' he' hb'
 have hnil:∀listed:Array Bool,(∀i∈F,listed.getD i false=true)->(Region.ready .any ops' listed=[]↔Region.ready .any ops listed=[]):=λlisted hl=>by
  simp only[azi,hr listed hl]
 intro f;induction f with
 | zero=>exact λlisted a w hl hh=>⟨(hnil listed hl).2 hh.1,hh.2⟩
 | succ f ih =>
  exact λlisted a w hl hh=>⟨λh0=>hh.1 ((hnil listed hl).1 h0),λi hi=>h.wpOp (λa w=>ih _ a w λj hj=>getD_set_true (hl j hj)) (hh.2 i ((hr listed hl i).1 hi))⟩
def takeB(ops ops':Array Ì):List Nat->Array Bool->Bool
 | [],_=>true
 | p::F,listed=>(match ops[p]?,ops'[p]? with
  | some o,some o'=>(match o.op,o'.op,o.guard,o'.guard with | .move (.tmp x),.move (.tmp y),none,none=>x==y&&o.dst==o'.dst | _,_,_,_=>false)
  | _,_=>false)&&(Region.ready .any ops listed).contains p&&(Region.ready .any ops' listed).contains p&&Region.free .any ops' listed p&&takeB ops ops' F (listed.setIfInBounds p true)
abbrev Uf{ρ:ö->À}{o:Ì}{x:ö}(h:o.op = .move x)(w:Á):(Ù ρ o).run P w = .ok (.value (ρ x)) w:=by
 unfold Ù; simp only[h]; rfl
theorem Ug(hs:Region.noSelect ops'=true)(ã:∀(f:Nat) (listed:Array Bool) (a:í) (w:Á) (F:List Nat),(∀i∈F,listed.getD i false=true)->True){F0:List Nat}
  (hA:∀(f:Nat) (listed:Array Bool) (a:í) (w:Á),(∀i∈F0,listed.getD i false=true)->ď P .any ops (yI Q) f listed a w->ď P .any ops' (yI Q) f listed a w) :
  ∀(F:List Nat) (f:Nat) (listed:Array Bool) (a:í) (w:Á),takeB ops ops' F listed=true->(∀i∈F0,i∈F∨listed.getD i false=true)->ď P .any ops (yI Q) (f+F.length) listed a w->ď P .any ops' (yI Q) (f+F.length) listed a w
 | [],f,listed,a,w,_,hl,h=>hA _ _ _ _ (λi hi=>(hl i hi).resolve_left Y) h
 | p::F,f,listed,a,w,hb,hl,h=>by
  unfold takeB at hb
  simp only[æ]at hb
  obtain⟨⟨⟨⟨h1,h2⟩,h3⟩,h4⟩,h5⟩:=hb
  split at h1
  .rename_i o o' ho ho'
   split at h1
   .rename_i x y hx hy hg hg'
    simp only[æ,Û]at h1
    obtain⟨rfl,hd⟩:=h1
    rw[Ĺ,<-Ξ]at h |-
    have hp:p∈Region.ready .any ops listed:=by simpa using h2
    have hstep:=h.2 p hp
    unfold Go.wpOp at hstep
    rw[ho]at hstep
    simp only[Region.wanted,hg,if_true]at hstep
    have hstep2:ď P .any ops (yI Q) (f+F.length) (listed.setIfInBounds p true) (a.put o.dst (a.eval (.tmp x))) w:=by
     rcases hstep with hst | ⟨_,hst⟩
     .unfold Oper.wp at hst
      rw[Uf hx]at hst
      exact hst
     .exact(nX hst).elim
    refine wpAny_take (v:=a.eval (.tmp x)) ho' hs h4 h3 (λc a w h=>h.elim) (.inl ⟨by simp[Region.wanted,hg'],λw=>Uf hy w⟩) ?_
    rw[<-hd]
    refine Ug hs ã hA F f _ _ w h5 (λi hi=>?_) hstep2
    rcases hl i hi with h6 | h6
    .rcases ç.1 h6 with rfl | h6
     .right
      have hlt:i<listed.size:=by
       have:=(mem_ready.1 hp).1
       by_cases h:i<listed.size
       .exact h
       .rw[Array.getD_eq_getD_getElem?,Array.getElem?_eq_none Z]at this; cases this
      simp[Array.getD_eq_getD_getElem?,hlt]
     .exact .inl h6
    .exact .inr (getD_set_true h6)
   .cases h1
  .cases h1
end
def jT(F:List Nat)(t:Nat)(os:List Ì):List Ì:=os.modify t λo=>{ o with after:=o.after++(F.map λi=>({ on:=i,ground := .data }:Edge)).toArray }
def afP(F:List Nat)(t:Nat)(os:List Ì):Bool:=Region.noSelect os.toArray&&takeB (jT F t os).toArray os.toArray F (Array.replicate os.length false)&&decide (F.length<=os.length)
abbrev tY{F:List Nat}{t:Nat}{os:List Ì}{i:Nat}:(jT F t os)[i]?=if i=t then (os[i]?).map (λo=>{ o with after:=o.after++(F.map λi=>({ on:=i,ground := .data }:Edge)).toArray })else os[i]?:=by
 unfold jT;rw[List.getElem?_modify];by_cases h:t=i
 .subst h; simp
 rw[É (λe=>h e.symm)]; simp[h]
abbrev hoist{P:Ø}{Q:ŗ->í->Á->Prop}{a:í}{w:Á}{os:List Ì}{id:Nat}(F:List Nat)(t:Nat)
  (h:ď P .any (jT F t os).toArray (yI Q) (jT F t os).toArray.size (Array.replicate (jT F t os).toArray.size false) a { w with drawn:=w.drawn+1 }) (hmo:P.follows .mixedOrders=true:=by kernel_rfl) (hb:afP F t os=true:=by kernel_rfl):(Code.region id os.toArray true).wp P Q a w:=by
 unfold afP at hb;simp only[æ,Ý]at hb;obtain⟨⟨h1,h2⟩,h3⟩:=hb;have hlen:(jT F t os).length=os.length:=by unfold jT; simp
 refine š hmo (tZ _ _ _ _ ?_);have hsz:(jT F t os).toArray.size=os.toArray.size:=by simp[hlen]
 rw[hsz]at h;have hal:Alike (jT F t os).toArray os.toArray:=⟨hsz,λi=>by
  rw[List.getElem?_toArray,List.getElem?_toArray,tY];split
  .cases os[i]?<;>rfl
  rfl⟩
 have key:=Ug (P:=P) (Q:=Q) (ops:=(jT F t os).toArray) (ops':=os.toArray) h1 (λ_ _ _ _ _ _=>G) (F0:=F) (λf listed a w hl hh=>EX (F:=F) hal (λi o o' ho ho' e he hb=>?_) (λi o o' ho ho' e he hb=>?_) f listed a w hl hh) F (os.length-F.length) (Array.replicate os.length false) a { w with drawn:=w.drawn+1 } (by simpa using h2) (λi hi => .inl hi)
 .rw[Nat.sub_add_cancel h3]at key;simpa using key (by simpa using h)
 .rw[List.getElem?_toArray,tY]at ho;rw[List.getElem?_toArray]at ho';split at ho
  .rw[ho']at ho;simp only[Ę,Ò]at ho;subst ho;simp only[Array.mem_append,List.mem_toArray,Ć]at he;rcases he with he | ⟨j,hj,rfl⟩
   .exact .inr ⟨e,he,hb,I⟩
   exact .inl hj
  rw[ho']at ho; obtain rfl:=Ü ho;exact .inr ⟨e,he,hb,I⟩
 rw[List.getElem?_toArray,tY]at ho;rw[List.getElem?_toArray]at ho';split at ho
 .rw[ho']at ho;simp only[Ę,Ò]at ho;subst ho;exact⟨e,by simp[he],hb,I⟩
 rw[ho']at ho; obtain rfl:=Ü ho;exact⟨e,he,hb,I⟩
inductive KI where
  | code (c:Code)
  | blk (id:Nat)
  | rel (K:í->Á->Prop)
  | rd (n:Nat) (c:Code)
  | bot
def zp(P:Ø)(B:ŗ->í->Á->Prop):List KI->ŗ->í->Á->Prop
  | []=>B
  | .code c::k=>Exit.then (c.wp P (zp P B k)) (zp P B k)
  | .blk id::k=>Exit.inBlock id (zp P B k)
  | .rel K::k=>Exit.then K (zp P B k)
  | .rd n c::k=>Exit.then (Code.rounds P c (zp P B k) n) (zp P B k)
  | .bot::k=>yI (zp P B k)
inductive Pos where
  | cd (c:Code) (k:List KI)
  | op (A:Array Ì) (os:List Ì) (k:List KI)
  | nm (k:List KI)
  | ex (id:Nat) (k:List KI)
  | rt (k:List KI)
def ã(P:Ø)(B:ŗ->í->Á->Prop):Pos->í->Á->Prop
  | .cd c k=>c.wp P (zp P B k)
  | .op A os k=>Ð P A (zp P B k) os
  | .nm k=>zp P B k .normal
  | .ex id k=>zp P B k (.exit id)
  | .rt k=>zp P B k .ret
def nx1:Pos->Option Pos
  | .nm (.code c::k)=>some (.cd c k)
  | .nm (.blk _::k)=>some (.nm k)
  | .nm (.bot::k)=>some (.nm k)
  | .nm (.rd (n+1) c::k)=>some (.cd c (.rd n c::k))
  | .ex id (.code _::k)=>some (.ex id k)
  | .ex id (.rel _::k)=>some (.ex id k)
  | .ex id (.rd _ _::k)=>some (.ex id k)
  | .ex id (.blk j::k)=>(match Nat.beq id j with | true=>some (.nm k) | false=>some (.ex id k))
  | .rt (.code _::k)=>some (.rt k)
  | .rt (.blk _::k)=>some (.rt k)
  | .rt (.rel _::k)=>some (.rt k)
  | .rt (.rd _ _::k)=>some (.rt k)
  | .op _ [] k=>some (.nm k)
  | .cd .skip k=>some (.nm k)
  | .cd (.exit id) k=>some (.ex id k)
  | .cd .ret k=>some (.rt k)
  | .cd (.seq x y) k=>some (.cd x (.code y::k))
  | .cd (.block id c) k=>some (.cd c (.blk id::k))
  | .cd (.region _ ops false) k=>some (.op ops ops.toList k)
  | _=>none
def nx:Nat->Pos->Pos
  | 0,p=>p
  | f+1,p=>match nx1 p with | some q=>nx f q | none=>p
section
variable{P:Ø}{B:ŗ->í->Á->Prop}{a:í}{w:Á}
abbrev amh{p q:Pos}(h:nx1 p=some q)(hG:ã P B q a w):ã P B p a w:=by
 unfold nx1 at h;split at h
 .obtain rfl:=Ü h; exact hG
 .obtain rfl:=Ü h; exact hG
 .obtain rfl:=Ü h; exact hG
 .obtain rfl:=Ü h; exact hG
 .obtain rfl:=Ü h; exact hG
 .obtain rfl:=Ü h; exact hG
 .obtain rfl:=Ü h; exact hG
 .rename_i id j k;split at h
  .rename_i hb;obtain rfl:=Ü h;have e:id=j:=Nat.eq_of_beq_eq_true hb;show(if id=j then zp P B k .normal a w else zp P B k (.exit id) a w);rw[Ï e]; exact hG
  rename_i hb;obtain rfl:=Ü h;show(if id=j then zp P B k .normal a w else zp P B k (.exit id) a w);rw[É (Nat.ne_of_beq_eq_false hb)]; exact hG
 .obtain rfl:=Ü h; exact hG
 .obtain rfl:=Ü h; exact hG
 .obtain rfl:=Ü h; exact hG
 .obtain rfl:=Ü h; exact hG
 .obtain rfl:=Ü h; exact hG
 .obtain rfl:=Ü h; exact ÿ hG
 .obtain rfl:=Ü h; exact Ņ hG
 .obtain rfl:=Ü h; exact wp_ret hG
 .obtain rfl:=Ü h; exact wp_seq hG
 .obtain rfl:=Ü h; exact Ĩ hG
 .rename_i id ops k;obtain rfl:=Ü h;have h2:Ð P ops.toList.toArray (zp P B k) ops.toList a w:=by rw[ayL]; exact hG
  have h3:=wp_region_lit (id:=id) h2;rw[ayL]at h3; exact h3
 cases h
theorem ajn:∀{f:Nat} {p:Pos},ã P B (nx f p) a w->ã P B p a w
  | 0,p,h=>h
  | f+1,p,h=>by
    unfold nx at h
    split at h
    · rename_i q hq; exact amh hq (ajn h)
    · exact h
end
abbrev Chk:=Env×List Ì×List Loc×List Key
def plainO(e:Env)(p:qJ)(o:Ì):Bool:=
  match o.op with
  | .move _ | .assign _ | .nilCheck _ | .fieldAddr _ _ _ | .unOp _ _ _ | .makeFunc _ _ _ | .extract _ _ | .makeInterface _ _ | .build _ _ | .binOp _ _ _ _ _ | .pick _ _ _ | .load _ _ | .indexAddr _ _ _ | .index _ _ _ | .field _ _ _ | .slice _ _ _ _ _=>true
  | .convert _ _ x=>(match rd e p x with | some (.int _ _)=>true | _=>false)
  | .call c=>(match c.callee with | .builtin .len=>true | .builtin .max=>true | .builtin .min=>true | _=>false)
  | _=>false
def chunk(P:Ø)(ms:List eU)(A:Array Ì)(n:Nat):Nat->List Ì->Env->List Key->Chk
  | 0,os,e,ks=>(e,os,[],ks)
  | _+1,[],e,ks=>(e,[],[],ks)
  | m+1,o::os,e,ks =>
    match pathOf A e o with
    | none=>(e,o::os,[],ks)
    | some p =>
      match plainO e p o with
      | false=>(e,o::os,[],ks)
      | true =>
        match yg n e o.dst p,Zu P ms e p ks o with
        | true,some (.val v,ks',L)=>(match chunk P ms A n m os (put e o.dst p v) ks' with | (e',os',L',k')=>(e',os',L++L',k'))
        | _,_=>(e,o::os,[],ks)
def settle(e:Env)(li:List Nat):List Nat->Env->List (Nat×À)
  | _,[]=>[]
  | sn,(i,q,v)::r =>
    match sn.contains i with
    | true=>settle e li sn r
    | false=>(match q with
      | []=>(i,v)::settle e li sn r
      | _=>(match li.contains i with
        | true=>(match jL e q with | true=>(i,v)::settle e li sn r | false=>settle e li (i::sn) r)
        | false=>settle e li (i::sn) r))
structure Zt where
  p:Pos
  l:List (Nat×À)
structure Zr where
  z:Zt
  L:List Loc
  ks:List Key
def Ϣ(P:Ø)(ms:List eU)(n:Nat)(li:List Nat):Nat->Nat->Pos->List (Nat×À)->List Key->Zr
  | 0,_,p,l,ks=>⟨⟨p,l⟩,[],ks⟩
  | f+1,m,p,l,ks =>
    match nx 100 p with
    | .op A os k =>
      (match chunk P ms A n m os (lift l) ks with
      | (e',[],L,k')=>(match Ϣ P ms n li f (m-os.length) (.nm k) (settle e' li [] e') k' with | ⟨z,L2,k2⟩=>⟨z,L++L2,k2⟩)
      | (e',o::os',L,k')=>⟨⟨.op A (o::os') k,settle e' li [] e'⟩,L,k'⟩)
    | .cd c k=>⟨⟨.cd c k,l⟩,[],ks⟩
    | .nm k=>⟨⟨.nm k,l⟩,[],ks⟩
    | .ex i k=>⟨⟨.ex i k,l⟩,[],ks⟩
    | .rt k=>⟨⟨.rt k,l⟩,[],ks⟩
section
variable{P:Ø}{A:Array Ì}{ms:List eU}{Q:ŗ->í->Á->Prop}{B:ŗ->í->Á->Prop}{n:Nat}{w0 w:Á}{bl:List (Nat×List À)}{vs:List eU}{li:List Nat}
theorem chunk_ok:∀{m:Nat} {os:List Ì} {e:Env} {ks:List Key} {a:í} {L':List Loc},a.tmps.size=n->Holds a.eval e->Mem w ms->(chunk P ms A n m os e ks).2.2.1++L'=ks.map (wJ ms)->zG P ks ->
    (∀a',a'.tmps.size=n->a'.defers=a.defers->Holds a'.eval (chunk P ms A n m os e ks).1->L'=(chunk P ms A n m os e ks).2.2.2.map (wJ ms)->zG P (chunk P ms A n m os e ks).2.2.2->Ð P A Q (chunk P ms A n m os e ks).2.1 a' w)->Ð P A Q os a w
  | 0,os,e,ks,a,L',hsz,hh,hm,hL,hk,hn=>hn a hsz I hh (by simpa[chunk]using hL) hk
  | _+1,[],e,ks,a,L',hsz,hh,hm,hL,hk,hn=>hn a hsz I hh (by simpa[chunk]using hL) hk
  | m+1,o::os,e,ks,a,L',hsz,hh,hm,hL,hk,hn=>by
    have stop:chunk P ms A n (m+1) (o::os) e ks=(e,o::os,[],ks)->Ð P A Q (o::os) a w:=λh=>by
      rw[h]at hL hn; exact hn a hsz I hh (by simpa using hL) hk
    cases hp:pathOf A e o with
    | none=>exact stop (by simp[chunk,hp])
    | some p =>
     cases hpl:plainO e p o with
     | false=>exact stop (by simp[chunk,hp,hpl])
     | true =>
      cases hpo:yg n e o.dst p with
      | false=>exact stop (by simp[chunk,hp,hpl,hpo])
      | true =>
        cases h1:Zu P ms e p ks o with
        | none=>exact stop (by simp[chunk,hp,hpl,h1])
        | some r =>
          obtain⟨r,ks',L1⟩:=r
          cases r with
          | enter f args=>exact stop (by simp[chunk,hp,hpl,h1])
          | new=>exact stop (by simp[chunk,hp,hpl,h1])
          | val v =>
            have hc:chunk P ms A n (m+1) (o::os) e ks=((chunk P ms A n m os (put e o.dst p v) ks').1,(chunk P ms A n m os (put e o.dst p v) ks').2.1,L1++(chunk P ms A n m os (put e o.dst p v) ks').2.2.1,(chunk P ms A n m os (put e o.dst p v) ks').2.2.2):=by
              simp[chunk,hp,hpo,hpl,h1]
            rw[hc]at hL hn
            simp only[ĭ]at hL hn
            have hw:=sD (a:=a) hp (λx _ i y _ hl=>hh i y hl)
            obtain⟨hkl,hL2,hk2⟩:=vN h1 hL hk
            have go:∀u,u=den e (p,v)->Ð P A Q os (a.put o.dst u) w:=λu hu =>
              chunk_ok (m:=m) (by rw[tN]; exact hsz) (Et hh hsz hpo hu) hm hL2 hk2 λa' h2 h3 h4 h5 h6=>hn a' h2 (by rw[h3,put_defers]) h4 h5 h6
            unfold Ð
            by_cases hG:jL e p=true
            · rw[Ï (hw.2 hG)]
              left
              exact Uh (Eu h1 (Std.act a) (gG hh o) hG hm hkl) (go v (by simp[den,hG]))
            · rw[É (λh=>hG (hw.1 h))]
              exact go undef (by simp[den,hG])
theorem yh{e:Env}:∀{r:Env} {sn:List Nat} {i:Nat} {v:À},(settle e li sn r).lookup i=some v->sn.contains i=false∧∃q,r.lookup i=some (q,v)∧jL e q=true
  | [],sn,i,v,h=>by cases h
  | (j,q,u)::r,sn,i,v,h=>by
    unfold settle at h
    have skip:∀{sn':List Nat},(settle e li sn' r).lookup i=some v->(∀x,sn'.contains x=false->sn.contains x=false∧x≠j)->sn.contains i=false∧∃q',((j,q,u)::r:Env).lookup i=some (q',v)∧jL e q'=true:=λh hs=>by
      obtain⟨h1,q',h2,h3⟩:=yh h
      obtain⟨h4,h5⟩:=hs i h1
      refine⟨h4,q',?_,h3⟩
      rw[ġ]
      have:(i==j)=false:=by simpa using h5
      rw[this]; exact h2
    have keep:sn.contains j=false->jL e q=true->((j,u)::settle e li sn r).lookup i=some v->sn.contains i=false∧∃q',((j,q,u)::r:Env).lookup i=some (q',v)∧jL e q'=true:=λhj hq h=>by
      rw[ġ]at h
      rw[ġ]
      cases hij:i==j
      · rw[hij]at h
        obtain⟨h1,q',h2,h3⟩:=yh h
        exact⟨h1,q',h2,h3⟩
      · rw[hij]at h
        obtain rfl:=Ü h
        have:i=j:=by simpa using hij
        exact⟨this▸hj,q,I,hq⟩
    have Zv:∀x,(j::sn).contains x=false->sn.contains x=false∧x≠j:=λx hx=>by
      simp only[List.contains_cons,Ĕ,ä]at hx
      exact⟨hx.2,hx.1⟩
    cases hj:sn.contains j with
    | true =>
      simp only[hj]at h
      refine skip h λx hx=>⟨hx,λe=>?_⟩
      rw[e,hj]at hx; cases hx
    | false =>
      simp only[hj]at h
      cases q with
      | nil=>exact keep hj I h
      | cons c q =>
        simp only at h
        cases hl:li.contains j with
        | false=>simp only[hl]at h; exact skip h Zv
        | true =>
          simp only[hl]at h
          cases hg:jL e (c::q)with
          | false=>simp only[hg]at h; exact skip h Zv
          | true=>simp only[hg]at h; exact keep hj hg h
abbrev Nl{a:í}{e:Env}(hsz:a.tmps.size=n)(hd:a.defers=[])(hh:Holds a.eval e):Vp.St a n (settle e li [] e):=
  ⟨hsz,hd,λi v h=>by
    obtain⟨-,q,h1,h2⟩:=yh h
    rw[hh i _ h1]
    unfold den
    simp only[h2,cond_true]⟩
theorem PW(hm:Mem w ms):∀{f m:Nat} {p:Pos} {l:List (Nat×À)} {ks:List Key} {a:í} {L':List Loc},St w0 a w n l bl vs->(Ϣ P ms n li f m p l ks).L++L'=ks.map (wJ ms)->zG P ks ->
    (∀a',St w0 a' w n (Ϣ P ms n li f m p l ks).z.l bl vs->ã P B (Ϣ P ms n li f m p l ks).z.p a' w)->ã P B p a w
  | 0,m,p,l,ks,a,L',S,hL,hk,hn=>hn a S
  | f+1,m,p,l,ks,a,L',S,hL,hk,hn=>by
    refine ajn (f:=100) ?_
    unfold Ϣ at hL hn
    cases hp:nx 100 p with
    | op A os k =>
      simp only[hp]at hL hn
      refine chunk_ok (m:=m) (ms:=ms) (n:=n) (e:=lift l) (ks:=ks) (L':=(match chunk P ms A n m os (lift l) ks with | (e',[],L,k')=>(Ϣ P ms n li f (m-os.length) (.nm k) (settle e' li [] e') k').L | _=>[])++L') S.s.size (bU S.s) hm ?_ hk ?_
      · revert hL
        rcases chunk P ms A n m os (lift l) ks with ⟨e',_ | ⟨o,os'⟩,L,k'⟩
        · intro hL; simpa[ĭ]using hL
        · intro hL; simpa using hL
      · intro a' hsz hd hh
        have hd':a'.defers=[]:=by rw[hd,S.s.defers]
        revert hn hh
        rcases chunk P ms A n m os (lift l) ks with ⟨e',_ | ⟨o,os'⟩,L,k'⟩
        · intro hn hh hL2 hk2
          exact PW hm (f:=f) (m:=m-os.length) (p := .nm k) (S.act (Nl hsz hd' hh)) hL2 hk2 hn
        · intro hn hh _ _
          exact hn a' (S.act (Nl hsz hd' hh))
    | cd c k=>simp only[hp]at hL hn; exact hn a S
    | nm k=>simp only[hp]at hL hn; exact hn a S
    | ex i k=>simp only[hp]at hL hn; exact hn a S
    | rt k=>simp only[hp]at hL hn; exact hn a S
end
abbrev aix{P:Ø}{ms:List eU}{e:Env}{p:qJ}{ks':List Key}{o:Ì}{r:FH}{L:List Loc}(h:Zu P ms e p [] o=some (r,ks',L)):ks'=[]∧L=[]:=by
 rcases yT h with h | ⟨d,v,h,_⟩
 .unfold ϣ at h;cases h1:ev1 P ms e p [] o with
  | none=>simp[h1]at h
  | some r1 =>
   simp only[h1,Ò]at h;obtain⟨r1,k1,L1⟩:=r1;obtain⟨kl,hkl,hl⟩:=XE h1;have hk1:k1=[]:=(List.append_eq_nil_iff.1 hkl.symm).2;have aso:kl=[]:=(List.append_eq_nil_iff.1 hkl.symm).1;subst hk1 aso;have hL1:L1=[]:=Ŝ (by simpa using hl);subst hL1;rcases yU o.dst (r1,[],[])with h2 | ⟨v,d',x,u,ϋ,L2,h2,h3⟩
   .rw[h2]at h;simp only[Ô]at h;exact⟨h.2.1.symm,h.2.2.symm⟩
   simp at h2
 cases h
section
variable{P:Ø}{A:Array Ì}{ms:List eU}{n:Nat}{li:List Nat}
theorem Np:∀{m:Nat} {os:List Ì} {e:Env},(chunk P ms A n m os e []).2.2=([],[])
  | 0,os,e=>rfl
  | _+1,[],e=>rfl
  | m+1,o::os,e=>by
    unfold chunk
    split
    · rfl
    · rename_i p _
      split
      · rfl
      split
      · rename_i v ks' L _ h
        obtain⟨rfl,rfl⟩:=aix h
        have:=Np (m:=m) (os:=os) (e:=put e o.dst p v)
        simp only[Prod.ext_iff]at this |-
        exact⟨by simpa using this.1,this.2⟩
      · rfl
theorem PX:∀{f m:Nat} {p:Pos} {l:List (Nat×À)},(Ϣ P ms n li f m p l []).L=[]∧(Ϣ P ms n li f m p l []).ks=[]
  | 0,m,p,l=>⟨I,I⟩
  | f+1,m,p,l=>by
    unfold Ϣ
    split
    · rename_i A os k _
      have h:=Np (P:=P) (A:=A) (ms:=ms) (n:=n) (m:=m) (os:=os) (e:=lift l)
      revert h
      rcases chunk P ms A n m os (lift l) []with ⟨e',_ | ⟨o,os'⟩,L,k'⟩
      · intro h
        simp only[Ô]at h
        obtain⟨rfl,rfl⟩:=h
        have:=PX (f:=f) (m:=m-os.length) (p := .nm k) (l:=settle e' li [] e')
        exact⟨by simpa using this.1,this.2⟩
      · intro h
        simp only[Ô]at h
        exact⟨h.1,h.2⟩
    all_goals exact⟨I,I⟩
end
def Gz(P:Ø)(B:ŗ->í->Á->Prop)(z:Zt)(a:í)(w:Á):Prop:=ã P B z.p a w
def zR(P:Ø)(n:Nat)(bl:List (Nat×List À))(vs:List eU)(m:Nat)(li:List Nat)(ks:List Key)(z:Zt):Zr:=Ϣ P (jO bl vs) n li 60 m z.p z.l ks
def zn(P:Ø)(n:Nat)(bl:List (Nat×List À))(vs:List eU)(m:Nat)(li:List Nat)(ks:List Key)(z:Zt):Zt:=(zR P n bl vs m li ks z).z
def zN(P:Ø)(n:Nat)(z:Zt):Zt:=zn P n [] [] 999 [] [] z
def zM(P:Ø)(n:Nat)(z:Zt):Zt:=zn P n [] [] 0 [] [] z
def pz(z:Zt):List Ì:=match z.p with | .op _ os _=>os | _=>[]
def zA(z:Zt):Array Ì:=match z.p with | .op A _ _=>A | _ => #[]
def zK(z:Zt):List KI:=match z.p with | .op _ _ k=>k | .cd _ k=>k | .nm k=>k | .ex _ k=>k | .rt k=>k
def zC(z:Zt):Code:=match z.p with | .cd c _=>c | _ => .skip
def uw(z:Zt):Bool:=match z.p with | .op _ _ _=>true | _=>false
def Fj(m:Nat):Pos->Pos
  | .op A os k => .op A (os.drop m) k
  | .cd (.region _ ops true) k => .op ops (ops.toList.drop m) k
  | p=>p
def Gg(m:Nat)(new:List (Nat×À))(z:Zt):Zt:=⟨Fj m z.p,new++z.l⟩
def Ϥ(z:Zt):Zt:=⟨Fj 1 z.p,z.l⟩
def lX(z:Zt):Option Nat:=match pz z with | o::_=>o.dst | []=>none
def wI(v:À)(z:Zt):Zt:=⟨Fj 1 z.p,zo z.l (lX z) v⟩
def z0(fn:Func)(args:List À):Zt:=⟨.cd (fn.body.getD .skip) [],(List.range args.length).zip args⟩
section
variable{P:Ø}{B:ŗ->í->Á->Prop}{n:Nat}{w0 w:Á}{a:í}{bl:List (Nat×List À)}{vs:List eU}{z:Zt}
variable{f:azy}{args:Array À}{b off:Nat}{V:À}
abbrev zk(S:St w0 a w n z.l bl vs)(m:Nat)(li:List Nat)(ks:List Key)(next:∀{a'},St w0 a' w n (zn P n bl vs m li ks z).l bl vs->Gz P B (zn P n bl vs m li ks z) a' w)(hk:zG P ks:=by exact G)
    (hz:((zR P n bl vs m li ks z).L,(zR P n bl vs m li ks z).ks)=(ks.map (wJ (jO bl vs)),[]):=by kernel_rfl):Gz P B z a w:=by
 simp only[Ô]at hz;refine PW S.JJ (B:=B) (li:=li) (f:=60) (m:=m) (ks:=ks) (L':=[]) S ?_ hk λa'=>next;rw[ņ]; exact hz.1
abbrev uy(S:St w0 a w n z.l bl vs)(next:∀{a'},St w0 a' w n (zN P n z).l bl vs->Gz P B (zN P n z) a' w):Gz P B z a w:=
  PW (ms:=jO [] []) (λm h=>by cases h) (B:=B) (li:=[]) (f:=60) (m:=999) (ks:=[]) (L':=[]) S (by rw[PX.1]; rfl) G λa'=>next
abbrev aoj(S:St w0 a w n z.l bl vs)(next:∀{a'},St w0 a' w n (zM P n z).l bl vs->Gz P B (zM P n z) a' w):Gz P B z a w:=
  PW (ms:=jO [] []) (λm h=>by cases h) (B:=B) (li:=[]) (f:=60) (m:=0) (ks:=[]) (L':=[]) S (by rw[PX.1]; rfl) G λa'=>next
abbrev zop{z:Zt}(ho:uw z=true)(h:Ð P (zA z) (zp P B (zK z)) (pz z) a w):Gz P B z a w:=by
 obtain⟨p,l⟩:=z;cases p with
 | op A os k=>exact h
 | _=>cases ho
abbrev Jd{z:Zt}{m:Nat}{l:List (Nat×À)}(ho:uw z=true)(h:ã P B (Fj m z.p) a w):Ð P (zA z) (zp P B (zK z)) ((pz z).drop m) a w:=by
 obtain⟨p,l⟩:=z;cases p with
 | op A os k=>exact h
 | _=>cases ho
abbrev ze{fn:Func}{args:List À}{R:Ļ->Á->Prop}{n:Nat}(hf:P.funcs[f]?=some fn)(hn:fn.ntmps=n)(next:∀{a},St w a w n (z0 fn args).l [] []->Gz P (Ī P fn R) (z0 fn args) a w)
    (hb:fn.body.isSome=true:=by rfl) (hsz:decide (args.length<=n)=true:=by kernel_rfl):Ä P f args.toArray w R:=by
 obtain⟨c,hc⟩:=į.1 hb;refine enter hf hn (λa S=>?_) hc hsz;have:=next (a:=a) S;unfold Gz z0 at this;rw[hc]at this;exact this
abbrev bC(S:St w0 a w n z.l bl vs){R:Ļ->Á->Prop}(hc:Ä P f args w R)
    (next:∀e w',R e w'->∃v,e = .R v∧Ext w w'∧∀{a'},St w0 a' w' n (wI v (zN P n z)).l bl vs->Gz P B (wI v (zN P n z)) a' w')
    (hx:callOf P (pz (zN P n z)) (zN P n z).l=some (f,args,lX (zN P n z)):=by kernel_rfl) (ho:(uw (zN P n z)&&uN n (lX (zN P n z)))=true:=by kernel_rfl):Gz P B z a w:=by
 simp only[æ]at ho;refine uy S λS=>zop ho.1 (nZ S _ hc (λe w' hR=>?_) hx ho.2);obtain⟨v,h1,h2,h3⟩:=next e w' hR;exact⟨v,h1,h2,λa' S'=>Jd (m:=1) (l:=[]) ho.1 (h3 S')⟩
abbrev zq(S:St w0 a w n z.l bl vs){F:À->Á->Prop}(hc:Ä P f args w λe w'=>∃v,e = .R v∧F v w'∧Ext w w')
    (next:∀{a'} v w',F v w'->Ext w w'->St w0 a' w' n (wI v (zN P n z)).l bl vs->Gz P B (wI v (zN P n z)) a' w')
    (hx:callOf P (pz (zN P n z)) (zN P n z).l=some (f,args,lX (zN P n z)):=by kernel_rfl) (ho:(uw (zN P n z)&&uN n (lX (zN P n z)))=true:=by kernel_rfl):Gz P B z a w:=
  bC S hc (λe w' h=>by obtain⟨v,rfl,h1,h2⟩:=h; exact⟨v,I,h2,λ{_} S=>next v w' h1 h2 S⟩) hx ho
abbrev aQ(S:St w0 a w n z.l bl vs)(hc:Ä P f args w (RF w V))
    (next:∀{a'} w',Ext w w'->St w0 a' w' n (wI V (zN P n z)).l bl vs->Gz P B (wI V (zN P n z)) a' w')
    (hx:callOf P (pz (zN P n z)) (zN P n z).l=some (f,args,lX (zN P n z)):=by kernel_rfl) (ho:(uw (zN P n z)&&uN n (lX (zN P n z)))=true:=by kernel_rfl):Gz P B z a w:=
  bC S hc (λe w' h=>⟨V,h.1,h.2,λS=>next w' h.2 S⟩) hx ho
abbrev jc(S:St w0 a w n z.l bl vs)(hc:Ä P f args w λe w'=>e = .R V∧w=w')
    (next:∀{a'},St w0 a' w n (wI V (zN P n z)).l bl vs->Gz P B (wI V (zN P n z)) a' w)
    (hx:callOf P (pz (zN P n z)) (zN P n z).l=some (f,args,lX (zN P n z)):=by kernel_rfl) (ho:(uw (zN P n z)&&uN n (lX (zN P n z)))=true:=by kernel_rfl):Gz P B z a w:=
  bC S hc (λe w' h=>by obtain⟨h1,rfl⟩:=h; exact⟨V,h1,ô,λS=>next S⟩) hx ho
abbrev Ee(S:St w0 a w n z.l bl vs)(k:Nat){A:List À}(A':List À){R:Ļ->Á->Prop}(hkk:bl[k]?=some (b,A))(hc:Ä P f args w R)
    (next:∀e w',R e w'->∃v,e = .R v∧Ext w0 w'∧Ch b w w'∧Bx w' b A'.toArray∧∀{a'},St w0 a' w' n (wI v (zN P n z)).l (bl.set k (b,A')) vs->Gz P B (wI v (zN P n z)) a' w')
    (hx:callOf P (pz (zN P n z)) (zN P n z).l=some (f,args,lX (zN P n z)):=by kernel_rfl) (ho:(uw (zN P n z)&&uN n (lX (zN P n z)))=true:=by kernel_rfl):Gz P B z a w:=by
 simp only[æ]at ho;refine uy S λS=>zop ho.1 (ajo S k A' _ hkk hc (λe w' hR=>?_) hx ho.2);obtain⟨v,h1,h2,h4,h5,h3⟩:=next e w' hR;exact⟨v,h1,h2,h4,h5,λa' S'=>Jd (m:=1) (l:=[]) ho.1 (h3 S')⟩
def newV(P:Ø)(r:Nat)(z:Zt):À:=match Fp P r (pz z) z.l with | some x=>x.2.1 | none=>undef
def ami(P:Ø)(r:Nat)(z:Zt):Option (List À×Option Nat):=match Fp P r (pz z) z.l with | some x=>some (x.1,x.2.2) | none=>none
abbrev dB(S:St w0 a w n z.l bl vs)(A:List À)(next:∀{a'} w' b,Ext w w'->b=w.heap.size->St w0 a' w' n (wI (newV P b (zN P n z)) (zN P n z)).l ((b,A)::bl) vs->Gz P B (wI (newV P b (zN P n z)) (zN P n z)) a' w')
    (hx:∀r,ami P r (zN P n z)=some (A,lX (zN P n z)):=by intro r; kernel_rfl) (ho:(uw (zN P n z)&&(uN n (lX (zN P n z))&&(lX (zN P n z)).isSome))=true:=by kernel_rfl):Gz P B z a w:=by
 simp only[æ]at ho;refine uy S λS=>zop ho.1 ?_;obtain⟨d,hd⟩:=į.1 ho.2.2;refine new S d A (λr=>newV P r (zN P n z)) (λa' w' b hE hb S'=>Jd (m:=1) (l:=[]) ho.1 ?_) (λr=>?_) (by rw[<-hd]; exact ho.2.1)
 .refine next w' b hE hb ?_;show St w0 a' w' n (zo _ (lX (zN P n z)) _) _ _;rw[hd]; exact S'
 have:=hx r;unfold ami at this;unfold newV;rw[<-hd];cases h:Fp P r (pz (zN P n z)) (zN P n z).l with
 | none=>rw[h]at this; cases this
 | some x =>
  rw[h]at this;simp only[Ò,Ô]at this;simp only[Ò];obtain⟨x1,x2,x3⟩:=x;simp only at this;rw[this.1,this.2]
abbrev kN(S:St w0 a w n z.l bl vs)(k:Nat){A cs:List À}(hkk:bl[k]?=some (b,A))(next:∀{a'} w',Ch b w w'->St w0 a' w' n (Ϥ (zN P n z)).l (bl.set k (b,spl A off cs)) vs->Gz P B (Ϥ (zN P n z)) a' w')
    (hx:lU P (pz (zN P n z)) (zN P n z).l=some (b,off,.agg cs.toArray,cs.length):=by kernel_rfl) (hf:decide (off+cs.length<=A.length)=true:=by kernel_rfl) (h1:cs.all (·.oneCell')=true:=by kernel_rfl) (ho:uw (zN P n z)=true:=by kernel_rfl):Gz P B z a w:=
  uy S λS=>zop ho (store S k hkk (λw' hc S'=>Jd (m:=1) (l:=[]) ho (next w' hc S')) hx hf h1)
abbrev Wx(S:St w0 a w n z.l bl vs)(k:Nat){A:List À}{v:À}(hkk:bl[k]?=some (b,A))(next:∀{a'} w',Ch b w w'->St w0 a' w' n (Ϥ (zN P n z)).l (bl.set k (b,spl A off [v])) vs->Gz P B (Ϥ (zN P n z)) a' w')
    (hx:lU P (pz (zN P n z)) (zN P n z).l=some (b,off,v,1):=by kernel_rfl) (hf:decide (off<A.length)=true:=by kernel_rfl) (h1:v.cells = #[v]:=by kernel_rfl) (h1':v.oneCell'=true:=by kernel_rfl) (ho:uw (zN P n z)=true:=by kernel_rfl):Gz P B z a w:=
  uy S λS=>zop ho (store1 S k hkk (λw' hc S'=>Jd (m:=1) (l:=[]) ho (next w' hc S')) hx hf h1 h1')
def Zw(z:Zt):Option À:=match z.p with | .cd (.cond c _ _) _=>Vp.ev z.l c | _=>none
def zth(z:Zt):Zt:=match z.p with | .cd (.cond _ x _) k=>⟨.cd x k,z.l⟩ | _=>z
def zel(z:Zt):Zt:=match z.p with | .cd (.cond _ _ y) k=>⟨.cd y k,z.l⟩ | _=>z
abbrev zc(S:St w0 a w n z.l bl vs)(t:Bool)(ht:∀{a'},t=true->St w0 a' w n (zth (zN P n z)).l bl vs->Gz P B (zth (zN P n z)) a' w)(hf:∀{a'},t=false->St w0 a' w n (zel (zN P n z)).l bl vs->Gz P B (zel (zN P n z)) a' w)
    (hc:Zw (zN P n z)=some (.b t):=by kernel_rfl):Gz P B z a w:=by
 refine uy S λ{a'} S=>?_;revert ht hf hc S;generalize zN P n z=z1;intro ht hf hc S;obtain⟨p,l⟩:=z1;unfold Zw at hc;split at hc
 .rename_i c x y k hp;simp only at hp;subst hp;exact cond S (λh=>ht h S) (λh=>hf h S) hc
 cases hc
abbrev zT(S:St w0 a w n z.l bl vs)(h:∀{a'},St w0 a' w n (zth (zN P n z)).l bl vs->Gz P B (zth (zN P n z)) a' w)(hc:Zw (zN P n z)=some (.b true):=by kernel_rfl):Gz P B z a w:=zc S true (λ_ S=>h S) (λh=>by cases h) hc
abbrev zF(S:St w0 a w n z.l bl vs)(h:∀{a'},St w0 a' w n (zel (zN P n z)).l bl vs->Gz P B (zel (zN P n z)) a' w)(hc:Zw (zN P n z)=some (.z):=by kernel_rfl):Gz P B z a w:=zc S false (λh=>by cases h) (λ_ S=>h S) hc
def XF(z:Zt):Bool:=match z.p with | .rt []=>true | _=>false
abbrev zrt{z:Zt}{fn:Func}{R:Ļ->Á->Prop}(hr:XF z=true)(h:Ī P fn R .ret a w):Gz P (Ī P fn R) z a w:=by
 obtain⟨p,l⟩:=z;unfold XF at hr;split at hr
 .rename_i hp; simp only at hp; subst hp; exact h
 cases hr
section
variable{fn:Func}{R:Ļ->Á->Prop}
def resT(fn:Func)(i:Nat):Nat:=match fn.results[i]? with | some (.tmp t)=>t | some (.cell t _)=>t | none=>0
def resTy(fn:Func)(i:Nat):á:=match fn.results[i]? with | some (.cell _ ty)=>ty | _=>0
abbrev aZ(S:St w0 a w n z.l bl vs)(v:À)(h:∀{a'},St w0 a' w n (zN P n z).l bl vs->R (.R v) w)(hr:fn.results = #[.tmp (resT fn 0)]:=by kernel_rfl)
    (hv:Vp.ev (zN P n z).l (.tmp (resT fn 0))=some v:=by kernel_rfl) (ho:XF (zN P n z)=true:=by kernel_rfl):Gz P (Ī P fn R) z a w:=
  uy S λS=>zrt ho (rF S hr (h S) hv)
abbrev Gt(S:St w0 a w n z.l bl vs)(v u:À)(h:∀{a'},St w0 a' w n (zN P n z).l bl vs->R (.R (.tuple #[v,u])) w)(hr:fn.results = #[.tmp (resT fn 0),.tmp (resT fn 1)]:=by kernel_rfl)
    (hv:Vp.ev (zN P n z).l (.tmp (resT fn 0))=some v:=by kernel_rfl) (hu:Vp.ev (zN P n z).l (.tmp (resT fn 1))=some u:=by kernel_rfl) (ho:XF (zN P n z)=true:=by kernel_rfl):Gz P (Ī P fn R) z a w:=
  uy S λS=>zrt ho (Oy S hr (h S) hv hu)
abbrev zrc(S:St w0 a w n z.l bl vs)(k:Nat){b:Nat}{A:List À}{v:À}(hkk:bl[k]?=some (b,A))(h:∀{a'},St w0 a' w n (zN P n z).l bl vs->R (.R v) w)(hr:fn.results = #[.cell (resT fn 0) (resTy fn 0)]:=by kernel_rfl)
    (hv:Vp.ev (zN P n z).l (.tmp (resT fn 0))=some (.q b 0):=by kernel_rfl) (hl:Qm P (resTy fn 0) A=some v:=by kernel_rfl) (ho:XF (zN P n z)=true:=by kernel_rfl):Gz P (Ī P fn R) z a w:=
  uy S λS=>zrt ho (akK S k hr hkk (h S) hv hl)
abbrev Xj(S:St w0 a w n z.l bl vs)(k:Nat){b:Nat}{A:List À}{v u:À}(hkk:bl[k]?=some (b,A))(h:∀{a'},St w0 a' w n (zN P n z).l bl vs->R (.R (.tuple #[v,u])) w)(hr:fn.results = #[.cell (resT fn 0) (resTy fn 0),.tmp (resT fn 1)]:=by kernel_rfl)
    (hv:Vp.ev (zN P n z).l (.tmp (resT fn 0))=some (.q b 0):=by kernel_rfl) (hu:Vp.ev (zN P n z).l (.tmp (resT fn 1))=some u:=by kernel_rfl) (hl:Qm P (resTy fn 0) A=some v:=by kernel_rfl) (ho:XF (zN P n z)=true:=by kernel_rfl):Gz P (Ī P fn R) z a w:=
  uy S λS=>zrt ho (aok S k hr hkk (h S) hv hu hl)
abbrev zre(S:St w0 a w n z.l bl vs)(h:∀{a'},St w0 a' w n (zN P n z).l bl vs->Ī P fn R .ret a' w)(ho:XF (zN P n z)=true:=by kernel_rfl):Gz P (Ī P fn R) z a w:=uy S λS=>zrt ho (h S)
end
def aol(z:Zt):Code:=match z.p with | .cd (.loop c) _=>c | _ => .skip
def aiy(z:Zt):Bool:=match z.p with | .cd (.loop _) _=>true | _=>false
variable{b m:Nat}{f:azy}{args:List À}{v:À}
abbrev wF{ι:Type}(S:St w0 a w n z.l bl vs)(ŏ:ι->í->Á->Prop)(μ:ι->Nat)(i0:ι)(h0:∀{a'},St w0 a' w n (zN P n z).l bl vs->ŏ i0 a' w)
    (round:∀i a w (K:í->Á->Prop),(∀a' w' i',ŏ i' a' w'->μ i'<μ i->K a' w')->ŏ i a w->ã P B (.cd (aol (zN P n z)) (.rel K::zK (zN P n z))) a w) (ho:aiy (zN P n z)=true:=by kernel_rfl):Gz P B z a w:=by
 refine uy S λ{a'} S=>?_;revert h0 round ho S;generalize zN P n z=z1;intro h0 round ho S;obtain⟨p,l⟩:=z1;unfold aiy at ho;split at ho
 .rename_i c k hp;simp only at hp;subst hp;exact Vp.loop ŏ μ i0 (h0 S) λi a w hI=>round i a w _ (λa' w' i' h1 h2=>⟨i',h1,h2⟩) hI
 cases ho
def zrd(m:Nat)(z:Zt):Zt:=match z.p with | .cd (.loop c) k=>⟨.cd c (.rd m c::k),z.l⟩ | _=>z
abbrev Qu(S:St w0 a w n z.l bl vs)(m:Nat)(h:∀{a'},St w0 a' w n (zrd m (zN P n z)).l bl vs->Gz P B (zrd m (zN P n z)) a' w)(ho:aiy (zN P n z)=true:=by kernel_rfl):Gz P B z a w:=by
 refine uy S λ{a'} S=>?_;revert h ho S;generalize zN P n z=z1;intro h ho S;obtain⟨p,l⟩:=z1;unfold aiy at ho;split at ho
 .rename_i c k hp;simp only at hp;subst hp;exact wp_loop_rounds (m+1) (h S)
 cases ho
abbrev zs{p:Pos}{l:List (Nat×À)}(S:St w0 a w n l bl vs)(h:St w0 a w n (⟨p,l⟩:Zt).l bl vs->Gz P B ⟨p,l⟩ a w):ã P B p a w:=h S
def aom(z:Zt):Option (í->Á->Prop):=match z.p with | .nm (.rel K::_)=>some K | _=>none
abbrev kJ(S:St w0 a w n z.l bl vs)(K:í->Á->Prop)(h:∀{a'},St w0 a' w n (zN P n z).l bl vs->K a' w)(ho:aom (zN P n z)=some K:=by kernel_rfl):Gz P B z a w:=by
 refine uy S λ{a'} S=>?_;revert h ho S;generalize zN P n z=z1;intro h ho S;obtain⟨p,l⟩:=z1;unfold aom at ho;split at ho
 .rename_i K' k hp;simp only at hp;subst hp;obtain rfl:=Ü ho;exact h S
 cases ho
abbrev iE(S:St w0 a w n z.l bl vs)(k:Nat)(ks:List Key)(cl:List Cl)(new:List (Nat×À))(hO:Ζ P w cl)(next:∀{a'} w',Ext w w'->St w0 a' w' n (Gg k new (zM P n z)).l bl vs->Gz P B (Gg k new (zM P n z)) a' w')(hk:zG P ks:=by exact G)
    (hx:runs P (jO bl vs) (zA (zM P n z)) n ((pz (zM P n z)).take k) (zM P n z).l ks (cl.map (·.2.2.2)) new=wants (jO bl vs) ks cl new:=by kernel_rfl) (hs:sF ((pz (zM P n z)).take k) (zM P n z).l new=true:=by kernel_rfl) (ho:uw (zM P n z)=true:=by kernel_rfl):Gz P B z a w:=
  aoj S λS=>zop ho (ac0 S k ks cl new hO (λa' w' hE S'=>Jd (m:=k) (l:=[]) ho (next w' hE S')) hk hx hs)
def Bq(z:Zt):List Ì:=match z.p with | .cd (.region _ ops true) _=>ops.toList | _=>[]
def JK(z:Zt):Bool:=match z.p with | .cd (.region _ _ true) _=>true | _=>false
abbrev zdr{z:Zt}(ho:JK z=true)(h:∀id,(Code.region id (Bq z).toArray true).wp P (zp P B (zK z)) a w):Gz P B z a w:=by
 obtain⟨p,l⟩:=z;unfold JK at ho;split at ho
 .rename_i id ops k hp;simp only at hp;subst hp;have:=h id;unfold Bq at this;rw[ayL]at this;exact this
 cases ho
abbrev aiz{z:Zt}(ho:JK z=true)(h:ã P B (Fj m z.p) a w):Ð P (Bq z).toArray (zp P B (zK z)) ((Bq z).drop m) a w:=by
 obtain⟨p,l⟩:=z;unfold JK at ho;split at ho
 .rename_i id ops k hp;simp only at hp;subst hp;unfold Bq;rw[ayL];exact h
 cases ho
abbrev eY(S:St w0 a w n z.l bl vs)(m:Nat)(ks:List Key)(cl:List Cl)(new:List (Nat×À))(hO:Ζ P w cl)(next:∀{a'} w',Ext w w'->St w0 a' w' n (Gg m new (zN P n z)).l bl vs->Gz P B (Gg m new (zN P n z)) a' w')(hk:zG P ks:=by exact G)
    (hx:runs P (jO bl vs) (Bq (zN P n z)).toArray n ((Bq (zN P n z)).take m) (zN P n z).l ks (cl.map (·.2.2.2)) new=wants (jO bl vs) ks cl new:=by kernel_rfl) (hs:sF ((Bq (zN P n z)).take m) (zN P n z).l new=true:=by kernel_rfl)
    (hmo:P.follows .mixedOrders=true:=by kernel_rfl) (hB:okB (Bq (zN P n z)).toArray m n=true:=by kernel_rfl) (hD:sG (Bq (zN P n z)).toArray ((Bq (zN P n z)).take m)=true:=by kernel_rfl) (ho:JK (zN P n z)=true:=by kernel_rfl):Gz P B z a w:=
  uy S λS=>zdr ho λid=>draw S m ks cl new hO (λa' w' hE S'=>aiz (m:=m) ho (next w' hE S')) hk hx hs hmo hB hD
abbrev zeE{fn:Func}{R:Ļ->Á->Prop}{n:Nat}(hf:P.funcs[f]?=some fn)(hn:fn.ntmps=n)(hE:Ext w0 w)(next:∀{a},St w0 a w n (z0 fn args).l [] []->Gz P (Ī P fn R) (z0 fn args) a w)
    (hb:fn.body.isSome=true:=by rfl) (hsz:decide (args.length<=n)=true:=by kernel_rfl):Ä P f args.toArray w R:=by
 obtain⟨c,hc⟩:=į.1 hb;refine Vp.enter hf hc (by rw[hn]; simpa using hsz) λa s=>?_;have S:St w0 a w n ((List.range args.length).zip args) [] []:=⟨(by rw[hn]at s; simpa using s),hE,λp hp=>(by cases hp),List.nodup_nil,λm hm=>by cases hm⟩;have:=next (a:=a) S;unfold Gz z0 at this;rw[hc]at this;exact this
abbrev YP{fn:Func}{R:Ļ->Á->Prop}{n:Nat}{A:List À}(hf:P.funcs[f]?=some fn)(hn:fn.ntmps=n)(hE:Ext w0 w)(hx:Bx w b A.toArray)(hb0:w0.heap.size<=b)(next:∀{a},St w0 a w n (z0 fn args).l [(b,A)] []->Gz P (Ī P fn R) (z0 fn args) a w)
    (hb:fn.body.isSome=true:=by rfl) (hsz:decide (args.length<=n)=true:=by kernel_rfl):Ä P f args.toArray w R:=by
 obtain⟨c,hc⟩:=į.1 hb;refine Bd hf hn hE hx hb0 (λa S=>?_) hc hsz;have:=next (a:=a) S;unfold Gz z0 at this;rw[hc]at this;exact this
abbrev zl(S:St w0 a w n z.l bl vs)(h:∀{a'},St w0 a' w n (zN P n z).l bl vs->Ð P (zA (zN P n z)) (zp P B (zK (zN P n z))) (pz (zN P n z)) a' w)(ho:uw (zN P n z)=true:=by kernel_rfl):Gz P B z a w:=uy S λS=>zop ho (h S)
abbrev zo0(S:St w0 a w n z.l bl vs)(h:St w0 a w n (Ϥ z).l bl vs->Gz P B (Ϥ z) a w)(ho:uw z=true:=by kernel_rfl):Ð P (zA z) (zp P B (zK z)) ((pz z).drop 1) a w:=Jd (l:=[]) ho (h S)
abbrev FV{d:Nat}(S:St w0 a w n ((d,v)::z.l) bl vs)(h:St w0 a w n (Gg 1 [(d,v)] z).l bl vs->Gz P B (Gg 1 [(d,v)] z) a w)(ho:uw z=true:=by kernel_rfl):Ð P (zA z) (zp P B (zK z)) ((pz z).drop 1) a w:=Jd (l:=[]) ho (h S)
def aon(d:Option Nat)(v:À)(z:Zt):Zt:=⟨Fj 1 z.p,zo z.l d v⟩
abbrev Y9{d:Option Nat}(S:St w0 a w n (zo z.l d v) bl vs)(h:St w0 a w n (aon d v z).l bl vs->Gz P B (aon d v z) a w)(ho:uw z=true:=by kernel_rfl):Ð P (zA z) (zp P B (zK z)) ((pz z).drop 1) a w:=Jd (l:=[]) ho (h S)
abbrev zd(S:St w0 a w n z.l bl vs)(h:∀{a'},St w0 a' w n (zN P n z).l bl vs->∀id,(Code.region id (Bq (zN P n z)).toArray true).wp P (zp P B (zK (zN P n z))) a' w)(ho:JK (zN P n z)=true:=by kernel_rfl):Gz P B z a w:=uy S λS=>zdr ho (h S)
abbrev zdo{new:List (Nat×À)}(S:St w0 a w n (new++z.l) bl vs)(h:St w0 a w n (Gg m new z).l bl vs->Gz P B (Gg m new z) a w)(ho:JK z=true:=by kernel_rfl):Ð P (Bq z).toArray (zp P B (zK z)) ((Bq z).drop m) a w:=aiz (m:=m) ho (h S)
def zbt(A:Array Ì)(os:List Ì)(new:List (Nat×À))(z:Zt):Zt:=⟨.op A os (.bot::zK z),new++z.l⟩
abbrev zdb{A:Array Ì}{os:List Ì}{new:List (Nat×À)}(S:St w0 a w n (new++z.l) bl vs)(h:St w0 a w n (zbt A os new z).l bl vs->Gz P B (zbt A os new z) a w):Ð P A (yI (zp P B (zK z))) os a w:=h S
abbrev iJ(S:St w0 a w n z.l bl vs)(m:Nat)(U:Ar)(ks:Nat->List Key)(cs:(Nat->À)->List À)(cl:(Nat->À)->List ClX)(ns:List (List Nat))(new:(Nat->À)->List (Nat×À))
    (hU:Dw U) (hO:∀x,Ui P w U x (cl x) ns)
    (next:∀{a'} w' x,Ext w w'->oI U x w' (U.map (·.1))->St w0 a' w' n (Gg m (new x) (zN P n z)).l bl vs->Gz P B (Gg m (new x) (zN P n z)) a' w')
    (hN:∀r,Ų U w.heap.size r (ks r):=by intro r; exact G) (hk:∀r,nT True P (ks r):=by intro r; exact G)
    (hD0:(U.map (·.1)).all (λd=>((Bq (zN P n z)).take m).any (λo=>o.dst==some d))=true:=by kernel_rfl)
    (hmo:P.follows .mixedOrders=true:=by kernel_rfl) (hB:okB (Bq (zN P n z)).toArray m n=true:=by kernel_rfl) (hD:sG (Bq (zN P n z)).toArray ((Bq (zN P n z)).take m)=true:=by kernel_rfl)
    (hl:Hnd:=[]) (hH:∀x r,pY P w U [] x (Bq (zN P n z)) hl (ks r):=by intro x r; exact G) (ό:∀r,yj (Bq (zN P n z)) hl (ks r)=true:=by intro r; kernel_rfl) (hHB:JL (Bq (zN P n z)) m U hl=true:=by kernel_rfl)
    (hx:∀y r,(exec P (jO bl vs) (Bq (zN P n z)).toArray n ((Bq (zN P n z)).take m) (lift (zN P n z).l) (ks r) (cs y)).map (XG ((Bq (zN P n z)).take m) U ns (new y))=some ((new y).map (λp=>some ([],p.2)),(ks r).map (wJ (jO bl vs)),(cl y).map clX,patch U y ((Bq (zN P n z)).take m) (tv (exec P (jO bl vs) (Bq (zN P n z)).toArray n ((Bq (zN P n z)).take m) (lift (zN P n z).l) (ks 0) (cs λ_=>undef))),true):=by intro y r; kernel_rfl)
    (hs:∀y,sF ((Bq (zN P n z)).take m) (zN P n z).l (new y)=true:=by intro y; kernel_rfl) (hn:(decide (n<=1000)&&(U.map (·.1)).all λd=>decide (d<n))=true:=by kernel_rfl) (ho:JK (zN P n z)=true:=by kernel_rfl):Gz P B z a w:=
  uy S λS=>zdr ho λid=>ug S m U ks cs cl ns new hU hO (λa' w' x hE hF S'=>aiz (m:=m) ho (next w' x hE hF S')) hN hk hD0 hmo hB hD hl hH ό hHB hx hs hn
def newC(P:Ø)(z:Zt):List À:=match Fp P 0 (pz z) z.l with | some x=>x.1 | none=>[]
abbrev dU(S:St w0 a w n z.l bl vs)(next:∀{a'} w' b,Ext w w'->b=w.heap.size->St w0 a' w' n (wI (newV P b (zN P n z)) (zN P n z)).l ((b,newC P (zN P n z))::bl) vs->Gz P B (wI (newV P b (zN P n z)) (zN P n z)) a' w')
    (hx:∀r,ami P r (zN P n z)=some (newC P (zN P n z),lX (zN P n z)):=by intro r; kernel_rfl) (ho:(uw (zN P n z)&&(uN n (lX (zN P n z))&&(lX (zN P n z)).isSome))=true:=by kernel_rfl):Gz P B z a w:=dB S _ next hx ho
def stO(P:Ø)(z:Zt):Nat:=match lU P (pz z) z.l with | some x=>x.2.1 | none=>0
def stC(P:Ø)(z:Zt):List À:=match lU P (pz z) z.l with | some x=>(match x.2.2.1 with | .agg c=>c.toList | v=>[v]) | none=>[]
abbrev jh(S:St w0 a w n z.l bl vs)(k:Nat){A:List À}(hkk:bl[k]?=some (b,A))(next:∀{a'} w',Ch b w w'->St w0 a' w' n (Ϥ (zN P n z)).l (bl.set k (b,spl A (stO P (zN P n z)) (stC P (zN P n z)))) vs->Gz P B (Ϥ (zN P n z)) a' w')
    (hx:lU P (pz (zN P n z)) (zN P n z).l=some (b,stO P (zN P n z),.agg (stC P (zN P n z)).toArray,(stC P (zN P n z)).length):=by kernel_rfl) (hf:decide (stO P (zN P n z)+(stC P (zN P n z)).length<=A.length)=true:=by kernel_rfl) (h1:(stC P (zN P n z)).all (·.oneCell')=true:=by kernel_rfl) (ho:uw (zN P n z)=true:=by kernel_rfl):Gz P B z a w:=kN S k hkk next hx hf h1 ho
def stV(P:Ø)(z:Zt):À:=match lU P (pz z) z.l with | some x=>x.2.2.1 | none=>undef
abbrev jJ(S:St w0 a w n z.l bl vs)(k:Nat){A:List À}(hkk:bl[k]?=some (b,A))(next:∀{a'} w',Ch b w w'->St w0 a' w' n (Ϥ (zN P n z)).l (bl.set k (b,spl A (stO P (zN P n z)) [stV P (zN P n z)])) vs->Gz P B (Ϥ (zN P n z)) a' w')
    (hx:lU P (pz (zN P n z)) (zN P n z).l=some (b,stO P (zN P n z),stV P (zN P n z),1):=by kernel_rfl) (hf:decide (stO P (zN P n z)<A.length)=true:=by kernel_rfl) (h1:(stV P (zN P n z)).cells = #[stV P (zN P n z)]:=by kernel_rfl) (h1':(stV P (zN P n z)).oneCell'=true:=by kernel_rfl) (ho:uw (zN P n z)=true:=by kernel_rfl):Gz P B z a w:=Wx S k hkk next hx hf h1 h1' ho
abbrev St.pV{l:List (Nat×À)}(S:St w0 a w n l bl vs)(k:Nat){b:Nat}{A A':List À}(hk:bl[k]?=some (b,A'):=by rfl)(hA:A'=A:=by kernel_rfl):Bx w b A.toArray:=hA▸S.bx k hk
abbrev St.oK{l l':List (Nat×À)}{Nk:List (Nat×List À)}(S:St w0 a w n l bl vs)(h:l'.map (λp=>l.lookup p.1)=l'.map (λp=>some p.2):=by kernel_rfl)(hb:bl=Nk:=by kernel_rfl):St w0 a w n l' Nk []:=hb▸S.sn h
abbrev St.fl{l:List (Nat×À)}{Nk:List (Nat×List À)}(S:St w0 a w n l bl vs)(h:bl=Nk:=by first | (simp only[List.set_cons_zero,List.set_cons_succ]; exact I) | exact I):St w0 a w n l Nk vs:=h▸S
end
end Go.Sx
namespace Go.Sx
open Go.Proofs.Pv Go.RowKit Go.Rel
variable{P:Ø}{ops:Array Ì}{Q:ŗ->í->Á->Prop}{w0 w:Á}{a:í}{os:List Ì}{n:Nat}{l:List (Nat×À)}{bl:List (Nat×List À)}{vs:List eU}
abbrev xK{x y:Int}(h:x=y)(hb : -9223372036854775808<=y∧y<=9223372036854775807):Value.i (IntKind.i64.wrap x) = .i y:=by subst h; exact adC hb
abbrev ane(S:St w0 a w n l bl vs)(d:Nat)(V:À){w1:Á}{o:Ì}{os':List Ì}(hos:os=o::os')(hg:o.guard=none)(hdst:o.dst=some d)(hrun:(Ù a.eval o).run P w = .ok (.value V) w1)(hE:Ext w w1)
  (next:∀{a'},St w0 a' w1 n ((d,V)::l) bl vs->Ð P ops Q (os.drop 1) a' w1) (hd:uN n (some d)=true:=by rfl):Ð P ops Q os a w:=by
 subst hos;unfold Ð;rw[Ï (by simp[Region.wanted,hg])];left;unfold Oper.wp;rw[hrun];simp only[Oper.upon];rw[hdst];exact next ((S.grow hE).act (uf (d:=some d) S.s hd V))
end Go.Sx
namespace En
def fE:Nat->Nat->List UInt8
 | 0,_=>[]
 | f+1,n=>if n<128 then [UInt8.ofNat n]else UInt8.ofNat (n%128+128)::fE f (n/128)
def comb(k a:Nat):Except Nat (Nat×Nat)->Except Nat (Nat×Nat)
 | .ok (n,j) => .ok (a+128^k*n,k+j)
 | .error e => .error e
def mO:Nat->List UInt8->Except Nat (Nat×Nat)
 | _,[] => .error 4
 | 0,c::_=>if c.toNat=1 then .ok (1,1)else .error 3
 | f+1,c::l=>if c.toNat<128 then (if c.toNat=0∧f≠8 then .error 3 else .ok (c.toNat,1))else comb 1 (c.toNat%128) (mO f l)
abbrev aay(r:Except Nat (Nat×Nat)):comb 0 0 r=r:=by
 rcases r with e | ⟨n,j⟩<;>simp[comb]
abbrev aaz(k a c:Nat)(r:Except Nat (Nat×Nat)):comb k a (comb 1 c r)=comb (k+1) (a+128^k*c) r:=by
 rcases r with e | ⟨n,j⟩
 .rfl
 simp only[comb,Nat.pow_one];congr 2
 .rw[õ,Ğ]; rw[ğ]; omega
 omega
abbrev ahf(f:Nat):mO f [] = .error 4:=by cases f<;>rfl
abbrev adX(f:Nat)(c:UInt8)(l:List UInt8)(h:¬c.toNat<128):mO (f+1) (c::l)=comb 1 (c.toNat%128) (mO f l):=by
 rw[mO,É h]
abbrev I5{n:Nat}(h:n<256):(UInt8.ofNat n).toNat=n:=by simp; omega
abbrev aoo(f:Nat):2^(7*(f+1)+1)=128*2^(7*f+1):=by
 rw[show 7*(f+1)+1=(7*f+1)+7 by omega,Ν,Ě]
abbrev amj(f:Nat):∀(l:List UInt8) (n k:Nat),mO f l = .ok (n,k) ->
  n<2^(7*f+1)∧1<=k∧k<=l.length∧k<=f+1∧(9<=f∨f<9∧0<n)∧(f<=9->fE (f+1) n=l.take k):=by
 induction f with
 | zero =>
  intro l n k h;cases l with
  | nil=>simp[mO]at h
  | cons c l =>
   simp only[mO]at h;split at h
   .rename_i hc;simp only[azc,Ô]at h;obtain⟨rfl,rfl⟩:=h;refine⟨by decide,Z,by simp,Z,.inr ⟨Z,Z⟩,λ_=>?_⟩;simp only[fE];have:c=1:=Ϩ.1 (by simpa using hc);rw[this]; rfl
   cases h
 | succ f ih =>
  intro l n k h;cases l with
  | nil=>simp[mO]at h
  | cons c l =>
   rw[aoo];have hp:0<2^(7*f+1):=ayR Z;simp only[mO]at h;split at h
   .rename_i hc;split at h
    .cases h
    rename_i h0;simp only[azc,Ô]at h;obtain⟨rfl,rfl⟩:=h;refine⟨Z,Z,by simp,Z,?_,λ_=>?_⟩
    .by_cases e:c.toNat=0
     .left; have:¬f≠8:=λh=>h0 ⟨e,h⟩; omega
     by_cases e9:f+1<9
     .right; omega
     left; omega
    rw[fE,Ï hc]; simp
   rename_i hc;cases hr:mO f l with
   | error e=>rw[hr]at h; simp[comb]at h
   | ok p =>
    obtain⟨n',k'⟩:=p;rw[hr]at h;simp only[comb,Nat.pow_one,azc,Ô]at h;obtain⟨rfl,rfl⟩:=h;obtain⟨h1,h2,h3,h4,h5,h6⟩:=ih l n' k' hr;refine⟨Z,Z,by simp; omega,Z,?_,λhf=>?_⟩
    .by_cases e9:f+1<9
     .right; omega
     left; omega
    have hn:0<n':=by rcases h5 with h5 | h5<;>omega
    rw[fE,É Z];have e1:(c.toNat%128+128*n')/128=n':=Z
    have e2:UInt8.ofNat ((c.toNat%128+128*n')%128+128)=c:=by
     apply Ϩ.1;rw[I5 Z];have:=c.toNat_lt;omega
    rw[e1,e2,h6 Z];rw[ŧ 1 k']; rfl
abbrev afQ(f:Nat):∀(n:Nat) (r:List UInt8),n<2^(7*f+1)->(f=9∨f<9∧0<n)->mO f (fE (f+1) n++r) = .ok (n,(fE (f+1) n).length):=by
 induction f with
 | zero =>
  intro n r h h9;have:n=1:=by have:2^(7*0+1)=2:=I; omega
  subst this;rfl
 | succ f ih =>
  intro n r h h9;rw[aoo]at h;rw[fE];split
  .rename_i hn;simp only[ō,ĵ,mO,Ĺ,Ϫ];rw[I5 Z,Ï hn,É Z]
  rename_i hn;simp only[ō,mO,Ĺ];rw[I5 Z,É Z,ih (n/128) r Z (.inr ⟨Z,Z⟩)];simp only[comb,Nat.pow_one];congr 2
  .omega
  omega
abbrev mF(f:Nat):∀n,(fE f n).length<=f:=by
 induction f with
 | zero=>intro n; simp[fE]
 | succ f ih =>
  intro n;rw[fE]; split
  .simp
  have:=ih (n/128); simp; omega
abbrev CY(f n:Nat):0<(fE (f+1) n).length:=by rw[fE]; split<;>simp
abbrev Ef(n:Nat)(r:List UInt8)(h:n<18446744073709551616):mO 9 (fE 10 n++r) = .ok (n,(fE 10 n).length):=
 afQ 9 n r (by simpa using h) (.inl I)
abbrev Gw{l:List UInt8}{n k:Nat}(h:mO 9 l = .ok (n,k)):n<18446744073709551616∧1<=k∧k<=l.length∧k<=10∧fE 10 n=l.take k:=by
 obtain⟨h1,h2,h3,h4,_,h6⟩:=amj 9 l n k h;exact⟨by simpa using h1,h2,h3,h4,h6 (Ó _)⟩
def zig(x:Int):Nat:=if x<0 then (-2*x-1).toNat else (2*x).toNat
def EU(n:Nat):Int:=if n%2=1 then -1-((n/2:Nat):Int)else ((n/2:Nat):Int)
abbrev adU{x:Int}(h : -9223372036854775808<=x)(h2:x<=9223372036854775807):zig x<18446744073709551616:=by unfold zig; split<;>omega
abbrev aaG(x:Int):EU (zig x)=x:=by unfold EU zig; split<;>split<;>omega
abbrev ad9{n:Nat}(h:n<18446744073709551616) : -9223372036854775808<=EU n∧EU n<=9223372036854775807:=by unfold EU; split<;>omega
def yO(l:List UInt8)(at_:Int):Nat×Nat×Nat:=
 if at_<0∨(l.length:Int)<at_ then (0,0,2)
 else match mO 9 (l.drop at_.toNat)with
  | .ok (n,k)=>(n,at_.toNat+k,0)
  | .error e=>(0,0,e)
def ν(l:List UInt8)(at_:Int):Int×Nat×Nat:=(EU (yO l at_).1,(yO l at_).2)
abbrev Gv(f:Nat):∀(l:List UInt8) (e:Nat),mO f l = .error e->e=3∨e=4:=by
 induction f with
 | zero =>
  intro l e h;cases l with
  | nil=>simp only[mO,ų]at h; omega
  | cons c l =>
   simp only[mO]at h;split at h<;>simp only[reduceCtorEq,ų]at h;omega
 | succ f ih =>
  intro l e h;cases l with
  | nil=>simp only[mO,ų]at h; omega
  | cons c l =>
   simp only[mO]at h;split at h
   .split at h<;>simp only[reduceCtorEq,ų]at h;omega
   cases hr:mO f l with
   | error e'=>rw[hr]at h; simp only[comb,ų]at h; subst h; exact ih l _ hr
   | ok p=>obtain⟨n',k'⟩:=p; rw[hr]at h; simp[comb]at h
end En
namespace En
variable{α:Type}
def uD(most:Int)(l:List UInt8):Except Nat (List UInt8×Nat):=
 match mO 9 l with
 | .error e => .error e
 | .ok (n,k)=>if most<0∨most<(n:Int)then .error 5 else if l.length-k<n then .error 4 else .ok ((l.drop k).take n,k+n)
def Y3(l:List UInt8)(at_ most:Int):List UInt8×Nat×Nat:=
 if at_<0∨(l.length:Int)<at_ then ([],0,2)
 else match uD most (l.drop at_.toNat)with
  | .ok (s,k)=>(s,at_.toNat+k,0)
  | .error e=>([],0,e)
def iy(s:List UInt8):List UInt8:=fE 10 s.length++s
abbrev Jg{most:Int}{l s:List UInt8}{k:Nat}(h:uD most l = .ok (s,k)):iy s=l.take k∧k<=l.length∧1<=k∧(s.length:Int)<=most:=by
 unfold uD at h;cases hu:mO 9 l with
 | error e=>rw[hu]at h; simp at h
 | ok p =>
  obtain⟨n,j⟩:=p;rw[hu]at h;simp only at h;obtain⟨h1,h2,h3,h4,h5⟩:=Gw hu;split at h
  .cases h
  split at h
  .cases h
  rename_i g1 g2;simp only[azc,Ô]at h;obtain⟨rfl,rfl⟩:=h;have hl:((l.drop j).take n).length=n:=by simp; omega
  refine⟨?_,Z,Z,Z⟩;unfold iy;rw[hl,h5,<-List.take_add]
abbrev Ji(s r:List UInt8)(most:Int)(h:(s.length:Int)<=most)(hs:s.length<18446744073709551616):uD most (iy s++r) = .ok (s,(iy s).length):=by
 unfold uD iy;rw[ĭ,Ef _ _ hs];simp only;rw[É Z,É Y];simp
end En
namespace En
abbrev akC{l:List UInt8}{e:Nat}(h:mO 9 l = .error e):e≠0:=by
 rcases Gv 9 l e h with rfl | rfl<;>decide
end En
namespace Go.Proofs.Pv
namespace Px
set_option linter.unusedSectionVars false
open En
variable{β:Type}[DecidableEq β]
def runs:List β->List (Nat×β)
 | []=>[]
 | c::l=>match runs l with
  | []=>[(1,c)]
  | (n,d)::r=>if d=c then (n+1,d)::r else (1,c)::(n,d)::r
def pb(p:bQ):List UInt8:=[p.r,p.g,p.b,p.a]
def rb:List (Nat×bQ)->List UInt8
 | []=>[]
 | (n,p)::r=>fE 10 n++pb p++rb r
def enc(l:List bQ):List UInt8:=rb (runs l)
abbrev aky{p q:bQ}{x y:List UInt8}(h:pb p++x=pb q++y):p=q∧x=y:=by
 simp only[pb,ō,ĵ,ģ]at h;obtain⟨h1,h2,h3,h4,h5⟩:=h;exact⟨by cases p; cases q; simp_all,h5⟩
end Px
end Go.Proofs.Pv
namespace Go.Sx
open Go.Proofs.Pv Go.RowKit Go.Rel
section
variable{P:Ø}{B:ŗ->í->Á->Prop}{n:Nat}{w0 w:Á}{a:í}{bl:List (Nat×List À)}{vs:List eU}{z:Zt}
def rgF(r:Nat):Code->List Ì
 | .region id ops _=>if id==r then ops.toList else []
 | .seq a b=>match rgF r a with | []=>rgF r b | l=>l
 | .cond _ a b=>match rgF r a with | []=>rgF r b | l=>l
 | .block _ c=>rgF r c
 | .loop c=>rgF r c
 | _=>[]
def Uj(fn:Func)(r:Nat):List Ì:=rgF r (fn.body.getD .skip)
abbrev Ů(S:St w0 a w n z.l bl vs)(fn:Func)(r:Nat)(h:∀{a'},St w0 a' w n (zN P n z).l bl vs->∀id,(Code.region id (Uj fn r).toArray true).wp P (zp P B (zK (zN P n z))) a' w)(hr:Bq (zN P n z)=Uj fn r:=by kernel_rfl)(ho:JK (zN P n z)=true:=by kernel_rfl):Gz P B z a w:=
 zd S (λS id=>hr▸h S id) ho
abbrev Sr{m:Nat}{new:List (Nat×À)}{fn:Func}{r:Nat}(S:St w0 a w n (new++z.l) bl vs)(h:St w0 a w n (Gg m new z).l bl vs->Gz P B (Gg m new z) a w)(hr:Bq z=Uj fn r:=by kernel_rfl)(ho:JK z=true:=by kernel_rfl):Ð P (Uj fn r).toArray (zp P B (zK z)) ((Uj fn r).drop m) a w:=
 hr▸zdo S h ho
abbrev zdF{l':List (Nat×À)}{fn:Func}{r:Nat}(S:St w0 a w n l' bl vs)(m:Nat)(h:St w0 a w n (⟨Fj m z.p,l'⟩:Zt).l bl vs->Gz P B ⟨Fj m z.p,l'⟩ a w)(hr:Bq z=Uj fn r:=by kernel_rfl)(ho:JK z=true:=by kernel_rfl)(hm:((Uj fn r).drop m).isEmpty=true:=by kernel_rfl):Ð P (Uj fn r).toArray (zp P B (zK z)) [] a w:=by
 have:=aiz (P:=P) (B:=B) (a:=a) (w:=w) (m:=m) ho (h S);rw[hr,List.isEmpty_iff.1 hm]at this;exact this
end
end Go.Sx
end
abbrev Å:=@Go.Sx.zk
abbrev Æ:=@Go.Sx.aZ
abbrev È:=@Go.Sx.zc
abbrev Ë:=@Go.Sx.ze
abbrev Í:=@Go.Sx.dU
abbrev Ú:=@Go.Sx.dB
abbrev Þ:=@Go.Sx.aQ
abbrev à:=@Go.Sx.jh
abbrev â:=@Go.Sx.zT
abbrev è:=@Go.Sx.kN
abbrev î:=@Go.Sx.bC
abbrev ú:=@Go.Sx.zF
abbrev ă:=@Go.Sx.zrc
abbrev Ą:=@Go.Sx.eY
abbrev ċ:=@Go.Sx.zl
abbrev č:=@Go.Sx.jJ
abbrev ĕ:=@Go.Sx.wF
abbrev Ė:=@Go.Sx.zs
abbrev ė:=@Go.Sx.kJ
abbrev ě:=@Go.Sx.iE
abbrev Į:=@Go.Sx.iJ
abbrev é:=@Go.Sx.Stp.trans
abbrev ò:=@Go.Sx.On.ext
abbrev ü:=@Go.Sx.On.self
abbrev Ă:=@Go.Sx.On.and
abbrev ć:=@Go.Sx.Stp.ext
abbrev Ċ:=@Go.Sx.On.step
abbrev ē:=@Go.Sx.On.imp
abbrev ĺ:=@Go.Sx.Rw.nil
abbrev Ł:=@Go.Sx.Ow.dep
abbrev ſ:=@Go.Sx.On.mono
abbrev Ω:=@Go.Sx.Stp.xw
