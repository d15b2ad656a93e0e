/- A region that draws its order and ends with a store: -/
import Derived.Test.YtodpgjjgaddkeaaGreatDoorSy
import Derived.Laws.IdiomCopy
import Derived.Maps.AppendAt
import Derived.ArgAppend
set_option linter.unusedVariables false
set_option linter.unusedSimpArgs false
section
namespace Go.Sx
open Go.Proofs.YtodpgjjgaddkeaaGreatDoor Go.RowKit Go.Rel
section
variable{P:Program}{ops:Array Oper}{Q:Exit->Act->World->Prop}{w0:World}{a:Act}{w:World}{os:List Oper}{n:Nat}{l:List (Nat×Value)}{bl:List (Nat×List Value)}{vs:List fD}
theorem Md{ρ:Operand->Value}{o:Oper}{ty:TypeId}{x y:Operand}{b off:Nat}{A cs:List Value}(hop:o.op = .store ty x y)(hx:ρ x = .q b off)(hy:ρ y = .agg cs.toArray)(hbx:Bx w b A.toArray)
  (hi:(P.info? ty).map (·.size)=some cs.length) (hf:off+cs.length<=A.length) (h1:cs.all (·.oneCell')=true):(execOp ρ o).run P w = .ok .skip (w.setCells b off cs):=by
 have hth:w.there b off cs.toArray.size:=λj hj=>by
  have h3:j<cs.length:=by simpa using hj
  rw[hbx.2.1,hbx.2.2,Array.getElem?_eq_getElem (by simp; omega)]; exact⟨I,I⟩
 have h:=run_storeVar_mid (P:=P) w b off ty cs.toArray hth (by rw[hi]; simp) (by rw[<-h1]; simp);unfold execOp;simp only[hop,hx,hy,Instr.storeAt,Instr.sureAddr,aAS,aCb,aB6,h]
def stD(P:Program)(os:List Oper)(m j:Nat)(l:List (Nat×Value)):Option (Nat×Nat×Nat):=
 match os[m]? with
 | some o=>(match o.guard,o.dst,o.op with
  | none,none,.store ty (.tmp s) (.tmp s')=>(match l.lookup s,P.info? ty,(os[j]?).bind (·.dst)with
   | some (.q b off),some i,some d =>
    (match d==s'&&decide (j<m)&&(os.take m).all (λo => !(o.dst==some s))&&o.after.toList.any (λg=>g.on==j&&Region.binds .any g)with
    | true=>some (b,off,i.size)
    | false=>none)
   | _,_,_=>none)
  | _,_,_=>none)
 | none=>none
def Gj(P:Program)(ops:Array Oper)(os:List Oper)(l:List (Nat×Value)):Option (FuncId×Array Value×Option Nat):=
 match os with
 | o::_=>(match pathOf ops (lift l) o,zo o.op || !o.op.operands.all (λx=>(rd (lift l) [] x).isSome),iT (ev0 P (execOp (yP (lift l) []) o))with
  | some p,false,some (.enter f args)=>(match jI (lift l) p with | true=>some (f,args,o.dst) | false=>none)
  | _,_,_=>none)
 | []=>none
theorem OW(S:St w0 a w n l bl vs){f:FuncId}{args:Array Value}(d:Option Nat){R:Ending->World->Prop}(hc:Calls P f args w R)
  (next:∀e w',R e w'->∃v,e = .returned v∧Ext w w'∧∀a',St w0 a' w' n (yQ l d v) bl vs->wpList P ops Q (os.drop 1) a' w')
  (hx:Gj P ops os l=some (f,args,d):=by kernel_rfl) (hd:vI n d=true:=by rfl):wpList P ops Q os a w:=by
 cases os with
 | nil=>cases hx
 | cons o os =>
  unfold Gj at hx;simp only at hx;split at hx
  .rename_i p f' args' hp hav hev;split at hx
   .rename_i hg;simp only[azT,azW]at hx;obtain⟨rfl,rfl,rfl⟩:=hx;simp only[aAI]at hav;have hrun:(execOp a.eval o).run P w = .ok (.enter f' args') w:=lS (Std.act a) (iq (bZ S.s) o) (p:=[]) I hav.1 (by simpa using hav.2) hev;unfold wpList;rw[azQ ((rQ (a:=a) hp (λx _ i y _ hl=>bZ S.s i y hl)).2 hg)];left;unfold Oper.wp;rw[hrun];simp only[Oper.upon];refine hc.mono λe w' hR=>?_;obtain⟨v,rfl,hE,hn⟩:=next e w' hR;exact hn _ ((S.grow hE).act (uP S.s hd v))
   cases hx
  cases hx
end
structure Fr (A05:List Nat) (w w':World):Prop where
 os:w'.os=w.os
 tape:w'.tape=w.tape
 output:w'.output=w.output
 size:w.heap.size<=w'.heap.size
 block:∀k,k<w.heap.size->k∉A05->w'.heap[k]?=w.heap[k]?
def On(B:Nat->Prop)(F:World->Prop)(w:World):Prop:=∀w',w.heap.size<=w'.heap.size->(∀k,k<w.heap.size->B k->w'.heap[k]?=w.heap[k]?)->F w'
theorem On.self{B:Nat->Prop}{F:World->Prop}{w:World}(h:On B F w):F w:=h w (azS _) λ_ _ _=>rfl
theorem On.mono{B B':Nat->Prop}{F:World->Prop}{w:World}(h:On B F w)(hB:∀k,B k->B' k):On B' F w:=λw' hs hb=>h w' hs λk hk hBk=>hb k hk (hB k hBk)
theorem On.imp{B:Nat->Prop}{F A02:World->Prop}{w:World}(h:On B F w)(hi:∀w,F w->A02 w):On B A02 w:=λw' hs hb=>hi _ (h w' hs hb)
theorem On.and{B:Nat->Prop}{F A02:World->Prop}{w:World}(h:On B F w)(k:On B A02 w):On B (λw=>F w∧A02 w) w:=λw' hs hb=>⟨h w' hs hb,k w' hs hb⟩
theorem On.pure{B:Nat->Prop}{p:Prop}{w:World}(h:p):On B (λ_=>p) w:=λ_ _ _=>h
theorem On.ext{B:Nat->Prop}{F:World->Prop}{w w':World}(h:On B F w)(hE:Ext w w'):On B F w':=λw2 hs hb=>h w2 (aAa hE.size hs) λk hk hBk=>(hb k (aAk hk hE.size) hBk).trans (hE.block k hk)
abbrev aY (base:Nat)(F:World->Prop)(w:World):Prop:=On (base <= ·) F w
abbrev Ow (base:Nat)(A05:List Nat)(F:World->Prop)(w:World):Prop:=On (λk=>base<=k∧k∉A05) F w
structure Stp (A05:List Nat) (w:World) (O':List Nat) (w':World):Prop where
 fr:Fr A05 w w'
 new:∀b∈O',b∈A05∨w.heap.size<=b
theorem Fr.aT{A05:List Nat}{w w':World}(h:Ext w w'):Fr A05 w w':=⟨h.os,h.tape,h.output,h.size,λk hk _=>h.block k hk⟩
theorem Stp.ext{A05:List Nat}{w w':World}(h:Ext w w'):Stp A05 w A05 w':=⟨Fr.aT h,λ_ h => .inl h⟩
theorem Stp.trans{A05 O1 O2:List Nat}{w w1 w2:World}(h:Stp A05 w O1 w1)(k:Stp O1 w1 O2 w2):Stp A05 w O2 w2:=
 ⟨⟨k.fr.os.trans h.fr.os,k.fr.tape.trans h.fr.tape,k.fr.output.trans h.fr.output,aAa h.fr.size k.fr.size,λi hi hn=>by
  refine(k.fr.block i (aAk hi h.fr.size) λhm=>?_).trans (h.fr.block i hi hn)
  rcases h.new i hm with h1 | h1
  .exact hn h1
  .omega⟩,λb hb=>by
  rcases k.new b hb with h1 | h1
  .exact h.new b h1
  .exact .inr (aAa h.fr.size h1)⟩
theorem Stp.sub{A05 O':List Nat}{w:World}(h:∀b∈O',b∈A05):Stp A05 w O' w:=⟨⟨I,I,I,azS _,λ_ _ _=>rfl⟩,λb hb => .inl (h b hb)⟩
theorem On.step{base:Nat}{A05 O':List Nat}{F:World->Prop}{w w':World}(h:Ow base A05 F w)(k:Stp A05 w O' w'):Ow base O' F w':=λw2 hs hb =>
 h w2 (aAa k.fr.size hs) λi hi hB=>by
  refine(hb i (aAk hi k.fr.size) ⟨hB.1,λhm=>?_⟩).trans (k.fr.block i hi hB.2)
  rcases k.new i hm with h1 | h1
  .exact hB.2 h1
  .omega
theorem aY.ow{base b0:Nat}{A05:List Nat}{F:World->Prop}{w:World}(h:aY base F w)(hb:b0<=base)(hO:∀k∈A05,k<base):Ow b0 A05 F w:=h.mono λk hk=>⟨aAa hb hk,λhm=>by have:=hO k hm; omega⟩
theorem Ow.dep{base:Nat}{A05:List Nat}{F:World->Prop}{w:World}(h:Ow base A05 F w):aY base F w:=h.mono λ_ h=>h.1
theorem aY.le{base b0:Nat}{F:World->Prop}{w:World}(h:aY base F w)(hb:b0<=base):aY b0 F w:=h.mono λ_ hk=>aAa hb hk
theorem Fr.below{A05:List Nat}{w0 w w':World}(h:Fr A05 w w')(hE:Ext w0 w)(hO:∀b∈A05,w0.heap.size<=b):Ext w0 w':=
 ⟨h.os.trans hE.os,h.tape.trans hE.tape,h.output.trans hE.output,aAa hE.size h.size,λk hk=>(h.block k (aAk hk hE.size) λhm=>by have:=hO k hm; omega).trans (hE.block k hk)⟩
structure Row where
 e:TypeId
 k:Nat
 v:Value
 n:Nat
 xs:List Value
def Ob(bl:List (Nat×List Value))(rs:List Row):List Nat:=bl.map (·.1)++rs.filterMap λr=>r.v.ownBlock
structure Rw (w0 w:World) (bl:List (Nat×List Value)) (rs:List Row):Prop where
 own:∀r∈rs,w.ownsRow w0.heap.size r.e r.k r.v r.n r.xs
 lt:∀b∈Ob bl rs,b<w.heap.size
 apart:(Ob bl rs).Nodup
variable{e:TypeId}{k:Nat}{v:Value}{xs:List Value}
theorem mJ{w w':World}{B:Nat}{n:Nat}(h:w.ownsRow B e k v n xs)(hb:∀g,v.ownBlock=some g->w'.heap[g]?=w.heap[g]?):w'.ownsRow B e k v n xs:=by
 obtain⟨h1,h | ⟨g,cap,cur,rfl,h2,h3,h4⟩⟩:=h
 .exact⟨h1,.inl h⟩
 exact⟨h1,.inr ⟨g,cap,cur,I,h2,(hb g I).trans h3,h4⟩⟩
theorem iP{w:World}{B:Nat}{n:Nat}(h:w.ownsRow B e k v n xs){g:Nat}(hg:v.ownBlock=some g):B<=g∧g<w.heap.size:=by
 obtain⟨h1,⟨rfl,_⟩ | ⟨g,cap,cur,rfl,h2,h3,h4⟩⟩:=h
 .cases hg
 simp only[Value.ownBlock,azT]at hg;subst hg;exact⟨h2,by
  by_cases hlt:g<w.heap.size
  .exact hlt
  rw[Array.getElem?_eq_none Z]at h3; cases h3⟩
theorem ownsRow_base{w:World}{B B':Nat}{n:Nat}(h:w.ownsRow B e k v n xs)(hB:B'<=B):w.ownsRow B' e k v n xs:=by
 obtain⟨h1,h | ⟨g,cap,cur,rfl,h2,h3⟩⟩:=h
 .exact⟨h1,.inl h⟩
 exact⟨h1,.inr ⟨g,cap,cur,I,aAa hB h2,h3⟩⟩
section
variable{P:Program}{ops:Array Oper}{Q:Exit->Act->World->Prop}{w0:World}{a:Act}{w w':World}{os:List Oper}{n:Nat}{l:List (Nat×Value)}{bl:List (Nat×List Value)}{vs:List fD}{rs:List Row}
variable{v y z:Value}{e t ty:TypeId}{k m cap g c b off:Nat}{xs ys A cs:List Value}{r:Row}{o:Oper}{ρ:Operand->Value}{x s:Operand}{α:Type}{f:α->List Value}{ad:Addr}
theorem jr(h:r∈rs)(hg:r.v.ownBlock=some g):g∈Ob bl rs:=aBH _ (aBm.2 ⟨r,h,hg⟩)
theorem Rw.nil(S:St w0 a w n l bl vs):Rw w0 w bl []:=by
 have e:Ob bl []=bl.map (·.1):=by simp[Ob]
 refine⟨λr h=>(by cases h),λb h=>?_,e▸S.apart⟩;rw[e]at h;obtain⟨p,hp,rfl⟩:=aAi.1 h;exact(S.own p hp).1.1
theorem Rw.ext(R:Rw w0 w bl rs)(hE:Ext w w'):Rw w0 w' bl rs:=
 ⟨λr hr=>mJ (R.own r hr) λg hg=>hE.block g (R.lt g (jr hr hg)),λb hb=>aAk (R.lt b hb) hE.size,R.apart⟩
theorem Rw.add{r:Row}{base:Nat}(R:Rw w0 w bl rs)(ho:w.ownsRow base r.e r.k r.v r.n r.xs)(hb:∀b∈Ob bl rs,b<base)(h0:w0.heap.size<=base):Rw w0 w bl (r::rs):=by
 have hmem:∀c,c∈Ob bl (r::rs)->c∈Ob bl rs∨r.v.ownBlock=some c:=λc hc=>by
  rcases aAu.1 hc with h | h
  .exact .inl (aBY _ h)
  obtain⟨s,hs,he⟩:=aBm.1 h;rcases az2.1 hs with rfl | hs
  .exact .inr he
  exact .inl (jr hs he)
 refine⟨λs hs=>?_,λc hc=>?_,?_⟩
 .rcases az2.1 hs with rfl | hs
  .exact ownsRow_base ho h0
  exact R.own s hs
 .rcases hmem c hc with h | h
  .exact R.lt c h
  exact(iP ho h).2
 cases he:r.v.ownBlock with
 | none=>unfold Ob; rw[aCh,he]; exact R.apart
 | some g =>
  unfold Ob;rw[aCh,he];have hn:g∉Ob bl rs:=λhm=>by have:=hb g hm; have:=(iP ho he).1; omega
  have hd:=aBn.1 R.apart;refine aBn.2 ⟨hd.1,aBZ.2 ⟨λhm=>hn (aBH _ hm),hd.2.1⟩,λx hx y hy e=>?_⟩;subst e;rcases az2.1 hy with rfl | hy
  .exact hn (aBY _ hx)
  exact hd.2.2 x hx x hy I
theorem Stp.add{r:Row}{base:Nat}(hE:Ext w w')(ho:w'.ownsRow base r.e r.k r.v r.n r.xs)(hb:w.heap.size<=base):Stp (Ob bl rs) w (Ob bl (r::rs)) w':=⟨Fr.aT hE,λc hc=>by
 rcases aAu.1 hc with h | h
 .exact .inl (aBY _ h)
 obtain⟨s,hs,he⟩:=aBm.1 h;rcases az2.1 hs with rfl | hs
 .exact .inr (aAa hb (iP ho he).1)
 exact .inl (jr hs he)⟩
theorem Rw.sub{IV:List (Nat×List Value)}{rs':List Row}(R:Rw w0 w bl rs)(h1:(Ob IV rs').Sublist (Ob bl rs))(h2:∀r∈rs',r∈rs):Rw w0 w IV rs':=⟨λr hr=>R.own r (h2 r hr),λb hb=>R.lt b (h1.subset hb),R.apart.sublist h1⟩
theorem Rw.pop{r:Row}(R:Rw w0 w bl (r::rs)):Rw w0 w bl rs:=R.sub ((List.Sublist.refl _).append (List.Sublist.filterMap _ (List.sublist_cons_self r rs))) λ_ h=>aA4 _ h
theorem Rw.old(R:Rw w0 w bl rs)(S:St w0 a w n l bl vs):∀b∈Ob bl rs,w0.heap.size<=b:=λb hb=>by
 rcases aAu.1 hb with h | h
 .obtain⟨p,hp,rfl⟩:=aAi.1 h; exact(S.own p hp).2
 obtain⟨s,hs,he⟩:=aBm.1 h; exact(iP (R.own s hs) he).1
theorem Rw.set{j:Nat}{r r':Row}(R:Rw w0 w bl rs)(hj:rs[j]?=some r)(hg:w.grownBy w' r.v.ownBlock)(ho:w'.ownsRow w0.heap.size r'.e r'.k r'.v r'.n r'.xs)(hb:r'.v.ownBlock=r.v.ownBlock∨r'.v.ownBlock=some w.heap.size) :
  Rw w0 w' bl (rs.set j r')∧Stp (Ob bl rs) w (Ob bl (rs.set j r')) w':=by
 have hjl:j<rs.length:=by
  by_cases h:j<rs.length
  .exact h
  rw[List.getElem?_eq_none Z]at hj; cases hj
 have hr:r∈rs:=List.mem_of_getElem? hj;have hsp:rs=rs.take j++r::rs.drop (j+1):=by
  have e:rs[j]=r:=by rw[List.getElem?_eq_getElem hjl]at hj; exact az1 hj
  rw[<-e,<-aAZ hjl,aBQ]
 have hset:rs.set j r'=rs.take j++r'::rs.drop (j+1):=by rw[List.set_eq_take_append_cons_drop,azQ hjl]
 have hO:Ob bl rs=bl.map (·.1)++((rs.take j).filterMap (λr=>r.v.ownBlock)++(r.v.ownBlock.toList++(rs.drop (j+1)).filterMap λr=>r.v.ownBlock)):=by
  conv=>lhs; unfold Ob; rw[hsp]
  rw[List.filterMap_append,aCh]; cases r.v.ownBlock<;>rfl
 have hO':Ob bl (rs.set j r')=bl.map (·.1)++((rs.take j).filterMap (λr=>r.v.ownBlock)++(r'.v.ownBlock.toList++(rs.drop (j+1)).filterMap λr=>r.v.ownBlock)):=by
  unfold Ob; rw[hset,List.filterMap_append,aCh]; cases r'.v.ownBlock<;>rfl
 have hlt':∀c,r'.v.ownBlock=some c->c<w'.heap.size:=λc hc=>(iP ho hc).2;have hap:=R.apart;rw[hO]at hap;have hnew:∀c∈Ob bl (rs.set j r'),c∈Ob bl rs∨w.heap.size<=c:=λc hc=>by
  rw[hO']at hc;rw[hO];simp only[aAu,Option.mem_toList]at hc |-;rcases hc with h | h | h | h
  .exact .inl (.inl h)
  .exact .inl (.inr (.inl h))
  .rcases hb with e | e
   .exact .inl (.inr (.inr (.inl (e▸h))))
   rw[e]at h;simp only[azT]at h;exact .inr Z
  exact .inl (.inr (.inr (.inr h)))
 refine⟨⟨λs hs=>?_,λc hc=>?_,?_⟩,⟨⟨hg.os,hg.tape,hg.output,hg.size,λi hi hn=>hg.block i hi λe=>hn (jr hr e.symm)⟩,hnew⟩⟩
 .by_cases ami:s=r'
  .rw[ami]; exact ho
  have h:s∈rs:=(List.mem_or_eq_of_mem_set hs).resolve_right ami;by_cases hsr:s.v.ownBlock=r.v.ownBlock∧s.v.ownBlock≠none
  .obtain⟨h1,h2⟩:=hsr;exfalso;rw[hset]at hs;obtain⟨g,hgr⟩:=Option.ne_none_iff_exists'.1 h2;have avx:r.v.ownBlock=some g:=h1▸hgr;rw[avx]at hap;have e1:=(aBn.1 hap).2.1;have e2:=aBn.1 e1;rcases aAu.1 hs with hs | hs
   .exact e2.2.2 g (aBm.2 ⟨s,hs,hgr⟩) g Y I
   have hs:=(az2.1 hs).resolve_left ami;have:=(aBZ.1 (show(g::(rs.drop (j+1)).filterMap λr=>r.v.ownBlock).Nodup from e2.2.1)).1;exact this (aBm.2 ⟨s,hs,hgr⟩)
  refine mJ (R.own s h) λg hsg=>hg.block g (R.lt g (jr h hsg)) λe=>hsr ⟨hsg.trans e,by rw[hsg]; simp⟩
 .rcases hnew c hc with h | h
  .exact aAk (R.lt c h) hg.size
  rw[hO']at hc;simp only[aAu,Option.mem_toList]at hc;rcases hc with h | h | h | h
  .exact aAk (R.lt c (by rw[hO]; simp[h])) hg.size
  .exact aAk (R.lt c (by rw[hO]; simp only[aAu]; exact .inr (.inl h))) hg.size
  .exact hlt' c h
  exact aAk (R.lt c (by rw[hO]; simp only[aAu]; exact .inr (.inr (.inr h)))) hg.size
 rw[hO'];rcases hb with e | e
 .rw[e]; exact hap
 rw[e];have hfresh:∀c∈Ob bl rs,c≠w.heap.size:=λc hc=>by have:=R.lt c hc; omega
 rw[hO]at hfresh;obtain⟨h1,h2,h3⟩:=aBn.1 hap;obtain⟨h4,h5,h6⟩:=aBn.1 h2;obtain⟨h7,h8,h9⟩:=aBn.1 h5;refine aBn.2 ⟨h1,aBn.2 ⟨h4,?_,λx hx y hy=>?_⟩,λx hx y hy=>?_⟩
 .exact aBZ.2 ⟨λhm=>hfresh _ (by simp only[aAu]; exact .inr (.inr (.inr hm))) I,h8⟩
 .rcases az2.1 (show y∈w.heap.size::_ from hy)with rfl | hy
  .exact hfresh x (by simp only[aAu]; exact .inr (.inl hx))
  exact h6 x hx y (aBH _ hy)
 rcases aAu.1 hy with hy | hy
 .exact h3 x hx y (aBY _ hy)
 rcases az2.1 (show y∈w.heap.size::_ from hy)with rfl | hy
 .exact hfresh x (by simp only[aAu]; exact .inl hx)
 exact h3 x hx y (aBH _ (aBH _ hy))
def Tm(os:List Oper)(l:List (Nat×Value)):Option (TypeId×Value×Value×Option Nat):=
 match os with
 | o::_=>(match o.guard,o.op with
  | none,.call c=>(match c.callee,c.args.toList,c.argTypes.toList with
   | .builtin .append,[s,x],[t,t']=>(match rd (lift l) [] s,rd (lift l) [] x,t==t' with
    | some v,some y,true=>some (t,v,y,o.dst)
    | _,_,_=>none)
   | _,_,_=>none)
  | _,_=>none)
 | []=>none
theorem JA{os:List Oper}{d:Option Nat}(h:Tm os l=some (t,v,y,d)):∃o os' s x,os=o::os'∧o.guard=none∧o.dst=d∧o.op = .call { callee := .builtin .append,args := #[s,x],argTypes := #[t,t] }∧rd (lift l) [] s=some v∧rd (lift l) [] x=some y:=by
 cases os with
 | nil=>cases h
 | cons o os =>
  unfold Tm at h;simp only at h;split at h
  .rename_i c hg hop;split at h
   .rename_i s x t1 t2 h1 h2 h3;split at h
    .rename_i v' y' hv hy ht;simp only[azT,azW]at h;obtain⟨rfl,rfl,rfl,rfl⟩:=h;obtain rfl:t1=t2:=by simpa using ht
     refine⟨o,os,s,x,I,hg,I,?_,hv,hy⟩;rw[hop];obtain⟨callee,args,argTypes⟩:=c;simp only at h1 h2 h3;rw[h1,<-aCf (xs:=args),<-aCf (xs:=argTypes),h2,h3]
    cases h
   cases h
  cases h
theorem Oi(ho:o.op = .call { callee := .builtin .append,args := #[s,x],argTypes := #[t,t] }){bytes:Nat}(T:iK P t e z k bytes){B:Nat}
     (hown:w.ownsRow B e k v m xs) (hs:ρ s=v)    (hy:dQ w k y c ys) (hx:ρ x=y) (h63:m+c<=maxLen) (hbytes:(m+c)*bytes<=140737488355328) (hB:B<=w.heap.size) :
  ∃v' w',(execOp ρ o).run P w = .ok (.value v') w'∧w'.ownsRow B e k v' (m+c) (xs++ys)∧w.grownBy w' v.ownBlock∧(v'.ownBlock=v.ownBlock∨v'.ownBlock=some w.heap.size):=by
 obtain⟨i,hi,hz',hsz,hby⟩:=T.info;obtain⟨hl,h1,hy⟩:=hy;rcases hy with ⟨rfl,ad,cap,rfl,hz⟩ | ⟨b,off,cap,rfl,hb,hn,hm,hc⟩
 .have:ys=[]:=aBd (by simpa using hl);subst this;rcases ad with _ | ad;case some =>
   obtain⟨v',w',hr,h2,h3,_,h5⟩:=run_append_own_at (P:=P) w B t o.type e i z k bytes T.und hi hz' hsz hby T.zc T.pos v m xs hown ad 0 cap [] Y Y Y h63 hbytes hB;refine⟨v',w',?_,h2,h3,h5⟩;unfold execOp;simp only[ho,resolve,invoke,builtin,aAS,aCb,aB6,aCy,aAE,aA2,hs,hx,hr]
  obtain rfl:=hz I;have hr:=run_append_owned_none (P:=P) (w:=w) B t o.type e i k T.und hi v m xs hown;refine⟨v,w,?_,by simpa using hown,⟨I,I,I,azS _,λ_ _ _=>rfl⟩,.inl I⟩;unfold execOp;simp only[ho,resolve,invoke,builtin,aAS,aCb,aB6,aCy,aAE,aA2,hs,hx,hr]
 have hnews:∀(j:Nat) u,ys[j]?=some u->w.cell? ((⟨b,off,none⟩:Addr).add j)=some u:=by
  intro j u hj;have e1:(⟨b,off,none⟩:Addr).add j=⟨b,off+j,none⟩:=by unfold Addr.add; split<;>simp_all
  rw[e1]; exact hc j u hj
 obtain⟨v',w',hr,h2,h3,_,h5⟩:=run_append_own_at (P:=P) w B t o.type e i z k bytes T.und hi hz' hsz hby T.zc T.pos v m xs hown ⟨b,off,none⟩ c cap ys hl hnews h1 h63 hbytes hB;refine⟨v',w',?_,h2,h3,h5⟩;unfold execOp;simp only[ho,resolve,invoke,builtin,aAS,aCb,aB6,aCy,aAE,aA2,hs,hx,hr]
theorem St.grown{w':World}{r:Row}(S:St w0 a w n l bl vs)(R:Rw w0 w bl rs)(hr:r∈rs)(hg:w.grownBy w' r.v.ownBlock):St w0 a w' n l bl []:=by
 have hO:∀b∈Ob bl rs,w0.heap.size<=b:=R.old S;refine⟨S.s,?_,λp hp=>⟨?_,(S.own p hp).2⟩,S.apart,λm hm=>by cases hm⟩
 .refine Fr.below (A05:=Ob bl rs) ⟨hg.os,hg.tape,hg.output,hg.size,λi hi hn=>hg.block i hi λe=>hn (jr hr e.symm)⟩ S.E hO
 have hne:some p.1≠r.v.ownBlock:=λe=>by
  have hd:=aBn.1 R.apart;exact hd.2.2 p.1 (aAi.2 ⟨p,hp,I⟩) p.1 (aBm.2 ⟨r,hr,e.symm⟩) I
 have hb:=(S.own p hp).1;have hblk:=hg.block p.1 hb.1 hne;exact⟨aAk hb.1 hg.size,λi=>(World.cell?_of_block (a:=⟨p.1,i,none⟩) hblk).trans (hb.2.1 i),λi=>(World.frozen?_of_block (a:=⟨p.1,i,none⟩) hblk).trans (hb.2.2 i)⟩
theorem app(S:St w0 a w n l bl vs)(R:Rw w0 w bl rs)(j:Nat){bytes:Nat}(d:Nat)(hj:rs[j]?=some r)(T:iK P t r.e z r.k bytes)(hy:dQ w r.k y m ys)
  (h63:r.n+m<=maxLen) (hbytes:(r.n+m)*bytes<=140737488355328)
  (next:∀a' w' v',Stp (Ob bl rs) w (Ob bl (rs.set j ⟨r.e,r.k,v',r.n+m,r.xs++ys⟩)) w'->Rw w0 w' bl (rs.set j ⟨r.e,r.k,v',r.n+m,r.xs++ys⟩)->St w0 a' w' n ((d,v')::l) bl []->wpList P ops Q (os.drop 1) a' w')
  (hx:Tm os l=some (t,r.v,y,some d):=by kernel_rfl) (hd:vI n (some d)=true:=by rfl):wpList P ops Q os a w:=by
 obtain⟨o,os',s,x,rfl,hg,hdst,hop,hs,hxx⟩:=JA hx;have hr:r∈rs:=List.mem_of_getElem? hj;have hst:=iq (bZ S.s) o;have es:a.eval s=r.v:=gX (Std.act a) (hst s (by rw[hop]; simp[Op.operands,Call.operands])) (p:=[]) I hs;have ex:a.eval x=y:=gX (Std.act a) (hst x (by rw[hop]; simp[Op.operands,Call.operands])) (p:=[]) I hxx;obtain⟨v',w',hrun,h2,h3,h4⟩:=Oi (P:=P) hop T (R.own r hr) es hy ex h63 hbytes S.E.size;obtain⟨R',A03⟩:=R.set (r':=⟨r.e,r.k,v',r.n+m,r.xs++ys⟩) hj h3 h2 h4;unfold wpList;rw[azQ (by simp[Region.wanted,hg])];left;unfold Oper.wp;rw[hrun];simp only[Oper.upon];rw[hdst];exact next _ _ v' A03 R' ((S.grown R hr h3).act (uP S.s hd v'))
def wR(P:Program)(r:Nat)(os:List Oper)(l:List (Nat×Value)):Option (List Value×TypeId×Value×Option Nat):=
 match os with
 | o::_=>(match o.guard,zo o.op || !o.op.operands.all (λx=>(rd (lift l) [] x).isSome),EM P r (execOp (yP (lift l) []) o)with
  | none,false,some (A,ty,k)=>(match iT (ev0 P k)with | some (.val v)=>some (A,ty,v,o.dst) | _=>none)
  | _,_,_=>none)
 | []=>none
theorem newRow(S:St w0 a w n l bl vs)(R:Rw w0 w bl rs)(d m:Nat)(e:TypeId)(k:Nat)(A:List Value)(next:∀a' w' v,Ext w w'->Stp (Ob bl rs) w (Ob bl (⟨e,k,v,m,A⟩::rs)) w'->Rw w0 w' bl (⟨e,k,v,m,A⟩::rs)->St w0 a' w' n ((d,v)::l) bl vs->wpList P ops Q (os.drop 1) a' w')
  (hx:∀r,wR P r os l=some (A,e,.slice (some ⟨r,0,none⟩) m m,some d):=by intro r; kernel_rfl) (hA:A.length=m*k:=by rfl) (hm:m<=maxLen:=by decide) (hd:vI n (some d)=true:=by rfl):wpList P ops Q os a w:=by
 have hx:=hx w.heap.size;cases os with
 | nil=>cases hx
 | cons o os =>
  unfold wR at hx;simp only at hx;split at hx
  .rename_i A' ty k' hg hav hev;split at hx
   .rename_i v hv;simp only[azT,azW]at hx;obtain⟨rfl,rfl,rfl,hdst⟩:=hx;simp only[aAI]at hav;have hc:execOp a.eval o=execOp (yP (lift l) []) o:=by
     refine execOp_congr o (λcs b e1=>by rw[e1]at hav; cases hav.1) λx hx=>?_;have h2:=hav.2;simp only[aBg,aB7]at h2;obtain⟨v,hv⟩:=aAY.1 (h2 x hx);rw[gX (Std.act a) (iq (bZ S.s) o x hx) (p:=[]) I hv];simp[yP,hv]
    have hv':ev0 P k'=some (.value (.slice (some ⟨w.heap.size,0,none⟩) m m)):=by
     unfold iT at hv;split at hv
     .rename_i h; obtain h2:=az1 hv; rw[h]; simp only[EZ.val.injEq]at h2; rw[h2]
     .cases hv
     cases hv
    have hrun:(execOp a.eval o).run P w = .ok (.value (.slice (some ⟨w.heap.size,0,none⟩) m m)) (w.alloc (.cells A'.toArray ty)):=by rw[hc,ni hev,nO hv']
    unfold wpList;rw[azQ (by simp[Region.wanted,hg])];left;unfold Oper.wp;rw[hrun];simp only[Oper.upon];have hE:Ext w (w.alloc (.cells A'.toArray ty)):=aF _ _;have ho:(w.alloc (.cells A'.toArray ty)).ownsRow w.heap.size ty k (.slice (some ⟨w.heap.size,0,none⟩) m m) m A':=
     ⟨hA,.inr ⟨w.heap.size,m,A'.toArray,I,azS _,Array.getElem?_push_size,azS _,hm,by simpa using hA,by rw[<-hA]; simp⟩⟩
    rw[hdst];exact next _ _ _ hE (Stp.add (r:=⟨ty,k,_,m,A'⟩) hE ho (azS _)) ((R.ext hE).add (r:=⟨ty,k,_,m,A'⟩) ho (λb hb=>R.lt b hb) S.E.size) ((S.grow hE).act (uP S.s hd _))
   cases hx
  cases hx
theorem CY(b:Nat)(e:TypeId)(fr:Nat×Nat):∀(us:List Value) (o:Nat) (w:World) (cur:Array Value),w.heap[b]?=some (.cells cur e fr)->o+us.length<=cur.size->(w.setCells b o us).heap[b]?=some (.cells (spl cur.toList o us).toArray e fr)
 | [],o,w,cur,h,hl=>by simp[World.setCells,h,spl]
 | v::r,o,w,cur,h,hl=>by
  have h1:(w.setCell ⟨b,o,none⟩ v).heap[b]?=some (.cells (cur.setIfInBounds o v) e fr):=by simp[World.setCell,Array.getElem?_modify,h]
  have hl':o+(r.length+1)<=cur.size:=by simpa using hl
  rw[World.setCells,CY b e fr r (o+1) _ _ h1 (by simp; omega)]
  have:spl (cur.setIfInBounds o v).toList (o+1) r=spl cur.toList o (v::r):=by
   rw[Array.toList_setIfInBounds]
   have hol:o<cur.toList.length:=by simp; omega
   generalize cur.toList=c at hol
   obtain⟨p,x,q,rfl,rfl⟩:∃p x q,c=p++x::q∧p.length=o:=⟨c.take o,c[o],c.drop (o+1),by rw[<-aAZ hol,aBQ],by simp; omega⟩
   unfold spl
   have hp:List.take (p.length+1) p=p:=aAv Z
   simp[List.take_append,List.drop_append,Nat.add_assoc,Nat.add_comm 1,hp]
  rw[this]
theorem AZ{cur:Array Value}(h:w.heap[b]?=some (.cells cur e (0,0))):Bx w b cur:=by
 refine⟨?_,λi=>?_,λi=>?_⟩
 .by_cases hlt:b<w.heap.size
  .exact hlt
  rw[Array.getElem?_eq_none Z]at h; cases h
 .simp[World.cell?,h]
 simp[World.frozen?,h]
theorem afD{o q:Nat}(h:o+cs.length<=q):(spl A o cs).take q=spl (A.take q) o cs:=by
 unfold spl;refine List.ext_getElem? λi=>?_;simp only[List.getElem?_append,List.getElem?_take,List.getElem?_drop,azU,aAN];by_cases hA:o<=A.length
 .simp only[aBw hA,aBw (show o<=min q A.length by omega)];by_cases h1:i<o
  .simp[h1,show i<q by omega,show i<o+cs.length by omega]
  by_cases h2:i<o+cs.length
  .simp[h1,h2,show i<q by omega]
  by_cases h3:i<q
  .simp[h2,h3,show o+cs.length+(i-(o+cs.length))<q by omega]
  simp[h2,h3,show ¬o+cs.length+(i-(o+cs.length))<q by omega]
 simp only[Nat.min_eq_right (show A.length<=o by omega),Nat.min_eq_right (show A.length<=q by omega)];by_cases h1:i<A.length
 .simp[h1,show i<q by omega,show i<o by omega,show i<A.length+cs.length by omega]
 by_cases h2:i<A.length+cs.length
 .simp[h1,h2,show i<q by omega]
 have h4:∀x,A[o+cs.length+x]?=none:=λx=>List.getElem?_eq_none Z;simp[h2,h4]
theorem Rw.store{j:Nat}{r:Row}{g off cap:Nat}{cs:List Value}(R:Rw w0 w bl rs)(hj:rs[j]?=some r)(hv:r.v = .slice (some ⟨g,0,none⟩) r.n cap)(hf:off+cs.length<=r.xs.length) :
  ∃A:List Value,Bx w g A.toArray∧off+cs.length<=A.length∧w.grownBy (w.setCells g off cs) r.v.ownBlock∧(w.setCells g off cs).ownsRow w0.heap.size r.e r.k r.v r.n (spl r.xs off cs):=by
 have ho:=R.own r (List.mem_of_getElem? hj);obtain⟨h1,⟨hn,-⟩ | ⟨g',cap',cur,hv',h2,h3,h4,h5,h6,h7⟩⟩:=ho
 .rw[hv]at hn; cases hn
 rw[hv]at hv';simp only[aAq,azT,aBV,and_true,true_and]at hv';obtain⟨rfl,rfl⟩:=hv';have hlen:r.n*r.k<=cur.toList.length:=by
  rw[Array.length_toList,h6]; exact aBj _ h4
 refine⟨cur.toList,by simpa using AZ h3,Z,?_,?_⟩
 .rw[hv]; exact(Ch.refl g w).setCells ..
 refine⟨?_,.inr ⟨g,cap,(spl cur.toList off cs).toArray,hv,h2,CY g r.e (0,0) cs off w cur h3 (by simp at hlen |-; omega),h4,h5,?_,?_⟩⟩
 .unfold spl; simp; omega
 .unfold spl; simp at hlen |-; omega
 rw[show(spl cur.toList off cs).toArray.toList=spl cur.toList off cs from rfl,afD Z,h7]
theorem ad5(S:St w0 a w n l bl vs)(R:Rw w0 w bl rs)(j:Nat)(hj:rs[j]?=some r)(hv:r.v = .slice (some ⟨g,0,none⟩) r.n cap)(hf:off+cs.length<=r.xs.length)
  (next:∀w',Stp (Ob bl rs) w (Ob bl (rs.set j ⟨r.e,r.k,r.v,r.n,spl r.xs off cs⟩)) w'->Rw w0 w' bl (rs.set j ⟨r.e,r.k,r.v,r.n,spl r.xs off cs⟩)->St w0 a w' n l bl []->wpList P ops Q (os.drop 1) a w')
  (hx:lI P os l=some (g,off,.agg cs.toArray,cs.length):=by kernel_rfl) (h1:cs.all (·.oneCell')=true:=by kernel_rfl):wpList P ops Q os a w:=by
 obtain⟨o,os',ty,x,y,rfl,hg,hdst,hop,hxx,hyy,hi⟩:=pV hx;obtain⟨A,hbx,hfA,hgr,ho⟩:=R.store hj hv hf;have hst:=iq (bZ S.s) o;have ex:a.eval x = .q g off:=gX (Std.act a) (hst x (by rw[hop]; simp[Op.operands])) (p:=[]) I hxx;have ey:a.eval y = .agg cs.toArray:=gX (Std.act a) (hst y (by rw[hop]; simp[Op.operands])) (p:=[]) I hyy;have hrun:=Md (P:=P) hop ex ey hbx hi hfA h1;obtain⟨R',A03⟩:=R.set (r':=⟨r.e,r.k,r.v,r.n,spl r.xs off cs⟩) hj hgr ho (.inl I);unfold wpList;rw[azQ (by simp[Region.wanted,hg])];left;unfold Oper.wp;rw[hrun];simp only[Oper.upon];rw[hdst];exact next _ A03 R' (S.grown R (List.mem_of_getElem? hj) hgr)
theorem XT{y:Operand}(hop:o.op = .store ty x y)(hx:ρ x = .q b off)(hy:ρ y=v)(hbx:Bx w b A.toArray)
  (hi:(P.info? ty).map (·.size)=some 1) (hf:off<A.length) (h1:v.cells = #[v]) (h1':v.oneCell'=true):(execOp ρ o).run P w = .ok .skip (w.setCells b off [v]):=by
 have hcell:=hbx.2.1 off;rw[Array.getElem?_eq_getElem (by simpa using hf)]at hcell;have hrun:(Instr.storeAt ty (.q b off) v).run P w = .ok () (w.setCells b off [v]):=by
  cases hq:P.info? ty with
  | none=>simp[hq]at hi
  | some i =>
   have hsz:i.size=1:=by simpa[hq]using hi
   have:=run_storeCells_cells (P:=P) b off [v] 0 w (λj hj=>by
    have:j=0:=by simpa using hj
    subst this; simp[hcell]) (λj hj=>by simpa using hbx.2.2 (off+j)) (λu hu=>by simp at hu; subst hu; exact h1')
   simp only[aBN]at this;simp[Instr.storeAt,Instr.sureAddr,storeVar,sizeOf,typeInfo,hq,h1,hsz,this]
 unfold execOp;simp only[hop,hx,hy,aAS,hrun,aB6,aCb]
theorem LJ(S:St w0 a w n l bl vs)(R:Rw w0 w bl rs)(j:Nat)(hj:rs[j]?=some r)(hv:r.v = .slice (some ⟨g,0,none⟩) r.n cap)(hf:off+1<=r.xs.length)
  (next:∀w',Stp (Ob bl rs) w (Ob bl (rs.set j ⟨r.e,r.k,r.v,r.n,spl r.xs off [v]⟩)) w'->Rw w0 w' bl (rs.set j ⟨r.e,r.k,r.v,r.n,spl r.xs off [v]⟩)->St w0 a w' n l bl []->wpList P ops Q (os.drop 1) a w')
  (hx:lI P os l=some (g,off,v,1):=by kernel_rfl) (h1:v.cells = #[v]:=by kernel_rfl) (h1':v.oneCell'=true:=by kernel_rfl):wpList P ops Q os a w:=by
 obtain⟨o,os',ty,x,y,rfl,hg,hdst,hop,hxx,hyy,hi⟩:=pV hx;obtain⟨A,hbx,hfA,hgr,ho⟩:=R.store (cs:=[v]) hj hv hf;have hst:=iq (bZ S.s) o;have ex:a.eval x = .q g off:=gX (Std.act a) (hst x (by rw[hop]; simp[Op.operands])) (p:=[]) I hxx;have ey:a.eval y=v:=gX (Std.act a) (hst y (by rw[hop]; simp[Op.operands])) (p:=[]) I hyy;have hrun:=XT (P:=P) hop ex ey hbx hi (by simp at hfA; omega) h1 h1';obtain⟨R',A03⟩:=R.set (r':=⟨r.e,r.k,r.v,r.n,spl r.xs off [v]⟩) hj hgr ho (.inl I);unfold wpList;rw[azQ (by simp[Region.wanted,hg])];left;unfold Oper.wp;rw[hrun];simp only[Oper.upon];rw[hdst];exact next _ A03 R' (S.grown R (List.mem_of_getElem? hj) hgr)
theorem Rw.range{r:Row}{g cap:Nat}(R:Rw w0 w bl rs)(hr:r∈rs)(hv:r.v = .slice (some ⟨g,0,none⟩) r.n cap)(o:Nat){cs:List Value}(h:(r.xs.drop o).take cs.length=cs):w.rangeAt g o cs∧g<w.heap.size∧∀p∈bl,p.1≠g:=by
 have ho:=R.own r hr;have hb:r.v.ownBlock=some g:=by rw[hv]; rfl
 refine⟨λj u hj=>?_,(iP ho hb).2,λp hp e=>?_⟩
 .obtain⟨h1,⟨hn,-⟩ | ⟨g',cap',cur,hv',h2,h3,h4,h5,h6,h7⟩⟩:=ho
  .rw[hv]at hn; cases hn
  rw[hv]at hv';simp only[aAq,azT,aBV,and_true,true_and]at hv';obtain⟨rfl,rfl⟩:=hv';rw[(AZ h3).2.1];have hx:r.xs[o+j]?=some u:=by
   rw[<-h,List.getElem?_take]at hj;split at hj
   .rwa [List.getElem?_drop]at hj
   cases hj
  rw[<-h7,List.getElem?_take]at hx;split at hx
  .simpa using hx
  cases hx
 have hd:=aBn.1 R.apart;subst e;exact hd.2.2 p.1 (aAi.2 ⟨p,hp,I⟩) p.1 (aBm.2 ⟨r,hr,hb⟩) I
theorem rJ{α β:Type}{f:α->List β}{k:Nat}(hf:∀x,(f x).length=k):∀(l:List α) (i:Nat) (h:i<l.length) (j:Nat),j<k->(l.flatMap f)[i*k+j]?=(f l[i])[j]?
 | x::l,0,_,j,hj=>by
  rw[aA0,List.getElem?_append_left (by rw[hf]; omega)]; simp
 | x::l,i+1,h,j,hj=>by
  rw[aA0,List.getElem?_append_right (by rw[hf,aBk]; omega),hf,show(i+1)*k+j-k=i*k+j by rw[aBk]; omega]
  exact rJ hf l i (by simpa using h) j hj
theorem kW{α β:Type}{f:α->List β}{k:Nat}(hf:∀x,(f x).length=k):∀l:List α,(l.flatMap f).length=l.length*k
 | []=>by simp
 | x::l=>by rw[aA0,azU,hf,kW hf l,aAx,aBk]; omega
theorem kX{B:Nat}{L:List α}(hf:∀x,(f x).length=k)(ho:w.ownsRow B e k v m xs)(hm:m=L.length)(hx:xs=L.flatMap f):aY B (λw=>aJ k f w v L) w:=by
 intro w' hs hb;subst hm hx;obtain⟨h1,⟨rfl,h0⟩ | ⟨g,cap,cur,rfl,h2,h3,h4,h5,h6,h7⟩⟩:=ho
 .obtain rfl:=aBd h0;exact dI k f w'
 have hlt:=(AZ h3).1;refine⟨_,cap,I,h5,.inr ⟨g,0,I,aAk hlt hs,h4,λi hi j hj=>?_⟩⟩;have hb':=hb g hlt h2;rw[World.cell?_of_block (a:=⟨g,0+i*k+j,none⟩) hb',(AZ h3).2.1,aAK,<-rJ hf L i hi j hj,<-h7,List.getElem?_take_of_lt]
 .simp
 calc i*k+j<i*k+k:=by omega
  _=(i+1)*k:=by rw[aBk]; omega
  _<=L.length*k:=aBj _ hi
def Ty(e:TypeId)(k base:Nat)(v:Value)(n:Nat)(w:World):Prop:=n=0∨∃g cap cur,v = .slice (some ⟨g,0,none⟩) n cap∧base<=g∧w.heap[g]?=some (.cells cur e (0,0))∧n*k<=cur.size
theorem Ty.le{e:TypeId}{k base b0 n:Nat}{v:Value}(h:Ty e k base v n w)(hb:b0<=base):Ty e k b0 v n w:=by
 rcases h with h | ⟨g,cap,cur,h1,h2,h3⟩
 .exact .inl h
 exact .inr ⟨g,cap,cur,h1,aAa hb h2,h3⟩
theorem Ty.amj{B k:Nat}{e:TypeId}{v:Value}{m:Nat}{xs:List Value}(ho:w.ownsRow B e k v m xs):aY B (Ty e k B v m) w:=by
 intro w' hs hb;obtain⟨h1,⟨rfl,h0⟩ | ⟨g,cap,cur,rfl,h2,h3,h4,h5,h6,h7⟩⟩:=ho
 .exact .inl h0
 exact .inr ⟨g,cap,cur,I,h2,(hb g (AZ h3).1 h2).trans h3,by rw[h6]; exact aBj _ h4⟩
def nY{α:Type}(e:TypeId)(k:Nat)(f:α->List Value)(base:Nat)(v:Value)(L:List α)(w:World):Prop:=aJ k f w v L∧Ty e k base v L.length w
theorem nY.le{α:Type}{e:TypeId}{k base b0:Nat}{f:α->List Value}{v:Value}{L:List α}(h:nY e k f base v L w)(hb:b0<=base):nY e k f b0 v L w:=⟨h.1,h.2.le hb⟩
theorem kC{B:Nat}{L:List α}(hf:∀x,(f x).length=k)(ho:w.ownsRow B e k v m xs)(hm:m=L.length)(hx:xs=L.flatMap f):aY B (nY e k f B v L) w:=
 On.and (kX hf ho hm hx) (hm▸Ty.amj ho)
theorem nR{L:List α}(h:aJ k f w v L)(hf:∀x,(f x).length=k)(h1:∀x,(f x).all (·.oneCell')=true):dQ w k v L.length (L.flatMap f):=by
 refine⟨kW hf L,λu hu=>?_,?_⟩
 .obtain⟨x,_,hx⟩:=List.mem_flatMap.1 hu;exact aAr.1 (h1 x) u hx
 obtain⟨a,cap,rfl,hm,⟨rfl,h⟩ | ⟨b,o,rfl,hb,hl,hc⟩⟩:=h
 .exact .inl ⟨I,a,cap,I,h⟩
 refine .inr ⟨b,o,cap,I,hb,hl,hm,λj u hj=>?_⟩;have hjl:j<L.length*k:=by
  rw[<-kW hf L];by_cases h:j<(L.flatMap f).length
  .exact h
  rw[List.getElem?_eq_none Z]at hj; cases hj
 have hk:0<k:=by
  rcases aAC k with rfl | h
  .simp at hjl
  exact h
 have hi:j/k<L.length:=(aCB hk).2 hjl;have hq:=hc (j/k) hi (j%k) (aBb _ hk);have e:j/k*k+j%k=j:=by rw[aAw]; exact Nat.div_add_mod j k
 rw[<-rJ hf L (j/k) hi (j%k) (aBb _ hk),e,aBR,e,hj]at hq;exact hq
abbrev vb (bl:List (Nat×List Value)):List Nat:=bl.map (·.1)
theorem Stp.aku{A05 O':List Nat}{b:Nat}(h:Stp A05 w O' w')(hb:w.heap.size<=b):Stp A05 w (b::O') w':=⟨h.fr,λc hc=>by
 rcases az2.1 hc with rfl | hc
 .exact .inr hb
 exact h.new c hc⟩
theorem Stp.qG{A05:List Nat}{b:Nat}(hE:Ext w w')(hb:b=w.heap.size):Stp A05 w (b::A05) w':=(Stp.ext hE).aku (aCm hb.symm)
theorem Stp.Ov{A05:List Nat}{b:Nat}(hc:Ch b w w')(hb:b∈A05:=by simp[Go.Sx.vb]):Stp A05 w A05 w':=
 ⟨⟨hc.os,hc.tape,hc.output,hc.size,λi hi hn=>hc.block i hi λe=>hn (by simp only[azT]at e; rwa [e])⟩,λc h => .inl h⟩
theorem Stp.jO(k:Nat):Stp (vb bl) w (vb (bl.drop k)) w:=Stp.sub λ_ h=>(List.Sublist.map _ (List.drop_sublist k bl)).subset h
theorem Stp.full{IV:List (Nat×List Value)}(h:Stp (vb bl) w (vb IV) w'):Stp (Ob bl rs) w (Ob IV rs) w':=
 ⟨⟨h.fr.os,h.fr.tape,h.fr.output,h.fr.size,λi hi hn=>h.fr.block i hi λhm=>hn (aBY _ hm)⟩,λb hb=>by
  rcases aAu.1 hb with hb | hb
  .exact(h.new b hb).imp (aBY _) id
  .exact .inl (aBH _ hb)⟩
theorem Rw.sync{IV:List (Nat×List Value)}{vs':List fD}{l':List (Nat×Value)}{a':Act}(R:Rw w0 w bl rs)(A04:Stp (vb bl) w (vb IV) w')(S:St w0 a' w' n l' IV vs'):Rw w0 w' IV rs:=by
 have hd:=aBn.1 R.apart;refine⟨λr hr=>mJ (R.own r hr) λg hg=>A04.fr.block g (R.lt g (jr hr hg)) λhm=>hd.2.2 g hm g (aBm.2 ⟨r,hr,hg⟩) I,λb hb=>?_,aBn.2 ⟨S.apart,hd.2.1,λx hx y hy e=>?_⟩⟩
 .rcases aAu.1 hb with h | h
  .obtain⟨p,hp,rfl⟩:=aAi.1 h; exact(S.own p hp).1.1
  exact aAk (R.lt b (aBH _ h)) A04.fr.size
 subst e;rcases A04.new x hx with h | h
 .exact hd.2.2 x h x hy I
 have:=R.lt x (aBH _ hy); omega
theorem Rw.bQ{IV:List (Nat×List Value)}{vs':List fD}{l':List (Nat×Value)}{a':Act}(R:Rw w0 w bl rs)(S:St w0 a' w' n l' IV vs')(A04:Stp (vb bl) w (vb IV) w'):Rw w0 w' IV rs∧Stp (Ob bl rs) w (Ob IV rs) w':=⟨R.sync A04 S,A04.full⟩
theorem Rw.as{rs':List Row}(R:Rw w0 w bl rs)(h:rs=rs'):Rw w0 w bl rs':=h▸R
theorem lq{B:Nat}(h:w.ownsRow B e k v m xs):∃a c,v = .slice a m c:=by
 obtain⟨h1,⟨rfl,rfl⟩ | ⟨g,cap,cur,rfl,_⟩⟩:=h
 .exact⟨none,0,I⟩
 exact⟨_,cap,I⟩
theorem oD(hx:Bx w b A.toArray)(hA:A.length=m*k:=by rfl)(hm:m<=maxLen:=by decide)(h1:A.all (·.oneCell')=true:=by kernel_rfl):dQ w k (.slice (some ⟨b,0,none⟩) m m) m A:=
 ⟨hA,λu hu=>aAr.1 h1 u hu,.inr ⟨b,0,m,I,hx.1,azS _,hm,λj u hj=>by rw[aAK,hx.2.1]; simpa using hj⟩⟩
theorem Fa{i:TypeInfo}(ht:P.underlying t=some (.slice e))(hi:P.info? e=some i)(ad y:Option Addr)(n cap c:Nat)(hn:n<=cap):(Builtin.append_ #[t,t] ty #[.slice ad n cap,.slice y 0 c]).run P w = .ok (.slice ad n cap) w:=by
 cases ad<;>cases y<;>simp[Builtin.append_,run_underlying ht,sizeOf,typeInfo,hi,Builtin.lenOf,Builtin.firstCells,hn,storeCells,loadCells,loadCellsFrom]
theorem RF(ho:o.op = .call { callee := .builtin .append,args := #[s,x],argTypes := #[t,t] }){bytes:Nat}(T:iK P t e z k bytes)
     (hv:dQ w k (.slice (some ad) m cap) m xs) (hs:ρ s = .slice (some ad) m cap)    (hy:dQ w k y c ys) (hx:ρ x=y) (hc:cap<m+c) (hc0:0<c) (h63:m+c<=maxLen) (hbytes:(m+c)*bytes<=140737488355328) :
  ∃v' w',(execOp ρ o).run P w = .ok (.value v') w'∧w'.ownsRow w.heap.size e k v' (m+c) (xs++ys)∧Ext w w':=by
 obtain⟨i,hi,hz',hsz,hby⟩:=T.info;obtain⟨hl,h1,hy⟩:=hy;rcases hy with ⟨rfl,_⟩ | ⟨b,off,cap',rfl,hb,hn,hm,hcc⟩
 .omega
 have cells:∀(b off:Nat) (us:List Value),(∀(j:Nat) u,us[j]?=some u->w.cell? ⟨b,off+j,none⟩=some u)->∀(j:Nat) u,us[j]?=some u->w.cell? ((⟨b,off,none⟩:Addr).add j)=some u:=λb off us h j u hj=>by
  have e1:(⟨b,off,none⟩:Addr).add j=⟨b,off+j,none⟩:=by unfold Addr.add; split<;>simp_all
  rw[e1]; exact h j u hj
 have hold:∀(j:Nat) u,xs[j]?=some u->w.cell? (ad.add j)=some u:=by
  obtain⟨hl1,_,hv⟩:=hv;rcases hv with ⟨rfl,_⟩ | ⟨b0,o0,cap0,hv',_,_,_,hc0⟩
  .obtain rfl:xs=[]:=aBd (by simpa using hl1);intro j u hj; simp at hj
  simp only[aAq,azT]at hv';obtain⟨rfl,-,-⟩:=hv';exact cells b0 o0 xs hc0
 obtain⟨v',w',hr,h2,h3⟩:=run_append_arg_grows (P:=P) w t o.type e i z k bytes T.und hi hz' hsz hby T.zc T.pos ad m cap xs hv.1 hold ⟨b,off,none⟩ c cap' ys hl (cells b off ys hcc) hc h63 hbytes;refine⟨v',w',?_,h2,gu (aAe _ _) h3 (azS _)⟩;unfold execOp;simp only[ho,resolve,invoke,builtin,aAS,aCb,aB6,aCy,aAE,aA2,hs,hx,hr]
theorem ap6(S:St w0 a w n l bl vs)(R:Rw w0 w bl rs){bytes:Nat}(d:Nat)(T:iK P t e z k bytes)(hv:dQ w k (.slice (some ad) m cap) m xs)(hy:dQ w k y c ys)(hc:cap<m+c)(hc0:0<c)(h63:m+c<=maxLen)(hbytes:(m+c)*bytes<=140737488355328)
  (next:∀a' w' v',Ext w w'->Stp (Ob bl rs) w (Ob bl (⟨e,k,v',m+c,xs++ys⟩::rs)) w'->Rw w0 w' bl (⟨e,k,v',m+c,xs++ys⟩::rs)->St w0 a' w' n ((d,v')::l) bl vs->wpList P ops Q (os.drop 1) a' w')
  (hx:Tm os l=some (t,.slice (some ad) m cap,y,some d):=by kernel_rfl) (hd:vI n (some d)=true:=by rfl):wpList P ops Q os a w:=by
 obtain⟨o,os',s,x,rfl,hg,hdst,hop,hs,hxx⟩:=JA hx;have hst:=iq (bZ S.s) o;have es:a.eval s = .slice (some ad) m cap:=gX (Std.act a) (hst s (by rw[hop]; simp[Op.operands,Call.operands])) (p:=[]) I hs;have ex:a.eval x=y:=gX (Std.act a) (hst x (by rw[hop]; simp[Op.operands,Call.operands])) (p:=[]) I hxx;obtain⟨v',w',hrun,h2,h3⟩:=RF (P:=P) hop T hv es hy ex hc hc0 h63 hbytes;unfold wpList;rw[azQ (by simp[Region.wanted,hg])];left;unfold Oper.wp;rw[hrun];simp only[Oper.upon];rw[hdst];exact next _ _ v' h3 (Stp.add (r:=⟨e,k,v',m+c,xs++ys⟩) h3 h2 (azS _)) ((R.ext h3).add (r:=⟨e,k,v',m+c,xs++ys⟩) h2 R.lt S.E.size) ((S.grow h3).act (uP S.s hd v'))
end
end Go.Sx
end
theorem az3:type_of% @Go.Sx.On.ext:=@Go.Sx.On.ext
theorem aAc:type_of% @Go.Sx.Stp.trans:=@Go.Sx.Stp.trans
theorem aAg:type_of% @Go.Sx.Stp.ext:=@Go.Sx.Stp.ext
theorem aAj:type_of% @Go.Sx.On.self:=@Go.Sx.On.self
theorem aAm:type_of% @Go.Sx.On.and:=@Go.Sx.On.and
theorem aAy:type_of% @Go.Sx.Rw.nil:=@Go.Sx.Rw.nil
theorem aAD:type_of% @Go.Sx.On.imp:=@Go.Sx.On.imp
theorem aAO:type_of% @Go.Sx.Stp.jO:=@Go.Sx.Stp.jO
theorem aAX:type_of% @Go.Sx.Stp.qG:=@Go.Sx.Stp.qG
theorem aBf:type_of% @Go.Sx.On.step:=@Go.Sx.On.step
theorem aBu:type_of% @Go.Sx.On.mono:=@Go.Sx.On.mono
