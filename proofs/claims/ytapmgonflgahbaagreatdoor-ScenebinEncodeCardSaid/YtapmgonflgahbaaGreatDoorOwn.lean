/- Rows that a walk owns and lets grow, beside its -/
import Derived.Test.YtapmgonflgahbaaGreatDoorPk18
import Derived.Maps.AppendAt
import Derived.ArgAppend
namespace Go.Sx
open Go.Proofs.YtapmgonflgahbaaGreatDoor Go.RowKit Go.Rel
set_option linter.unusedVariables false
structure Fr (O:List Nat) (w w':World):Prop where
 os:w'.os=w.os
 tape:w'.tape=w.tape
 output:w'.output=w.output
 size:w.heap.size≤w'.heap.size
 block:∀k,k<w.heap.size→k∉O→w'.heap[k]?=w.heap[k]?
def On(B:Nat→Prop)(F:World→Prop)(w:World):Prop:=∀w',w.heap.size≤w'.heap.size→(∀k,k<w.heap.size→B k→w'.heap[k]?=w.heap[k]?)→F w'
theorem On.self{B:Nat→Prop}{F:World→Prop}{w:World}(h:On B F w):F w:=h w (an7 _) fun _ _ _=>rfl
theorem On.mono{B B':Nat→Prop}{F:World→Prop}{w:World}(h:On B F w)(hB:∀k,B k→B' k):On B' F w:=fun w' hs hb=>h w' hs fun k hk hBk=>hb k hk (hB k hBk)
theorem On.imp{B:Nat→Prop}{F G:World→Prop}{w:World}(h:On B F w)(hi:∀w,F w→G w):On B G w:=fun w' hs hb=>hi _ (h w' hs hb)
theorem On.and{B:Nat→Prop}{F G:World→Prop}{w:World}(h:On B F w)(k:On B G w):On B (fun w=>F w∧G w) w:=fun w' hs hb=>⟨h w' hs hb,k w' hs hb⟩
abbrev oD (base:Nat)(F:World→Prop)(w:World):Prop:=On (base ≤ ·) F w
abbrev Ow (base:Nat)(O:List Nat)(F:World→Prop)(w:World):Prop:=On (fun k=>base≤k∧k∉O) F w
structure Stp (O:List Nat) (w:World) (O':List Nat) (w':World):Prop where
 fr:Fr O w w'
 new:∀b∈O',b∈O∨w.heap.size≤b
theorem Fr.jG{O:List Nat}{w w':World}(h:Ext w w'):Fr O w w':=⟨h.os,h.tape,h.output,h.size,fun k hk _=>h.block k hk⟩
theorem Stp.ext{O:List Nat}{w w':World}(h:Ext w w'):Stp O w O w':=⟨Fr.jG h,fun _ h => .inl h⟩
theorem Stp.trans{O O1 O2:List Nat}{w w1 w2:World}(h:Stp O w O1 w1)(k:Stp O1 w1 O2 w2):Stp O w O2 w2:=
 ⟨⟨k.fr.os.trans h.fr.os,k.fr.tape.trans h.fr.tape,k.fr.output.trans h.fr.output,aoE h.fr.size k.fr.size,fun i hi hn=>by
  refine(k.fr.block i (aoC hi h.fr.size) fun hm=>?_).trans (h.fr.block i hi hn)
  rcases h.new i hm with h1 | h1
  ·exact hn h1
  ·omega⟩,fun b hb=>by
  rcases k.new b hb with h1 | h1
  ·exact h.new b h1
  ·exact .inr (aoE h.fr.size h1)⟩
theorem Stp.sub{O O':List Nat}{w:World}(h:∀b∈O',b∈O):Stp O w O' w:=⟨⟨rfl,rfl,rfl,an7 _,fun _ _ _=>rfl⟩,fun b hb => .inl (h b hb)⟩
theorem On.step{base:Nat}{O O':List Nat}{F:World→Prop}{w w':World}(h:Ow base O F w)(k:Stp O w O' w'):Ow base O' F w':=fun w2 hs hb =>
 h w2 (aoE k.fr.size hs) fun i hi hB=>by
  refine(hb i (aoC hi k.fr.size) ⟨hB.1,fun hm=>?_⟩).trans (k.fr.block i hi hB.2)
  rcases k.new i hm with h1 | h1
  ·exact hB.2 h1
  ·omega
theorem oD.ow{base b0:Nat}{O:List Nat}{F:World→Prop}{w:World}(h:oD base F w)(hb:b0≤base)(hO:∀k∈O,k<base):Ow b0 O F w:=h.mono fun k hk=>⟨aoE hb hk,fun hm=>by have:=hO k hm; omega⟩
theorem Fr.below{O:List Nat}{w0 w w':World}(h:Fr O w w')(hE:Ext w0 w)(hO:∀b∈O,w0.heap.size≤b):Ext w0 w':=
 ⟨h.os.trans hE.os,h.tape.trans hE.tape,h.output.trans hE.output,aoE hE.size h.size,fun k hk=>(h.block k (aoC hk hE.size) fun hm=>by have:=hO k hm; omega).trans (hE.block k hk)⟩
structure Row where
 e:TypeId
 k:Nat
 v:Value
 n:Nat
 xs:List Value
def Ob(bl:List (Nat×List Value))(rs:List Row):List Nat:=bl.map (·.1)++rs.filterMap fun r=>r.v.ownBlock
structure Rw (w0 w:World) (bl:List (Nat×List Value)) (rs:List Row):Prop where
 own:∀r∈rs,w.ownsRow w0.heap.size r.e r.k r.v r.n r.xs
 lt:∀b∈Ob bl rs,b<w.heap.size
 apart:(Ob bl rs).Nodup
theorem sD{w w':World}{B:Nat}{e:TypeId}{k n:Nat}{v:Value}{xs:List Value}(h:w.ownsRow B e k v n xs)(hb:∀g,v.ownBlock=some g→w'.heap[g]?=w.heap[g]?):w'.ownsRow B e k v n xs:=by
 obtain⟨h1,h | ⟨g,cap,cur,rfl,h2,h3,h4⟩⟩:=h
 ·exact⟨h1,.inl h⟩
 exact⟨h1,.inr ⟨g,cap,cur,rfl,h2,(hb g rfl).trans h3,h4⟩⟩
theorem nC{w:World}{B:Nat}{e:TypeId}{k n:Nat}{v:Value}{xs:List Value}(h:w.ownsRow B e k v n xs){g:Nat}(hg:v.ownBlock=some g):B≤g∧g<w.heap.size:=by
 obtain⟨h1,⟨rfl,_⟩ | ⟨g,cap,cur,rfl,h2,h3,h4⟩⟩:=h
 ·cases hg
 simp only[Value.ownBlock,an8]at hg;subst hg;exact⟨h2,by
  by_cases hlt:g<w.heap.size
  ·exact hlt
  rw[Array.getElem?_eq_none (by omega)]at h3; cases h3⟩
theorem ownsRow_base{w:World}{B B':Nat}{e:TypeId}{k n:Nat}{v:Value}{xs:List Value}(h:w.ownsRow B e k v n xs)(hB:B'≤B):w.ownsRow B' e k v n xs:=by
 obtain⟨h1,h | ⟨g,cap,cur,rfl,h2,h3⟩⟩:=h
 ·exact⟨h1,.inl h⟩
 exact⟨h1,.inr ⟨g,cap,cur,rfl,aoE hB h2,h3⟩⟩
section
variable{P:Program}{ops:Array Oper}{Q:Exit→Act→World→Prop}{w0:World}{a:Act}{w w':World}{os:List Oper}{n:Nat}{l:List (Nat×Value)}{bl:List (Nat×List Value)}{vs:List gX}{rs:List Row}
theorem lu{r:Row}{g:Nat}(h:r∈rs)(hg:r.v.ownBlock=some g):g∈Ob bl rs:=apK _ (apL.2 ⟨r,h,hg⟩)
theorem Rw.nil(S:St w0 a w n l bl vs):Rw w0 w bl []:=by
 have e:Ob bl []=bl.map (·.1):=by simp[Ob]
 refine⟨fun r h=>(by cases h),fun b h=>?_,e▸S.apart⟩;rw[e]at h;obtain⟨p,hp,rfl⟩:=aoW.1 h;exact(S.own p hp).1.1
theorem Rw.ext(R:Rw w0 w bl rs)(hE:Ext w w'):Rw w0 w' bl rs:=
 ⟨fun r hr=>sD (R.own r hr) fun g hg=>hE.block g (R.lt g (lu hr hg)),fun b hb=>aoC (R.lt b hb) hE.size,R.apart⟩
theorem Rw.add{r:Row}{base:Nat}(R:Rw w0 w bl rs)(ho:w.ownsRow base r.e r.k r.v r.n r.xs)(hb:∀b∈Ob bl rs,b<base)(h0:w0.heap.size≤base):Rw w0 w bl (r::rs):=by
 have hmem:∀c,c∈Ob bl (r::rs)→c∈Ob bl rs∨r.v.ownBlock=some c:=fun c hc=>by
  rcases ape.1 hc with h | h
  ·exact .inl (ap1 _ h)
  obtain⟨s,hs,he⟩:=apL.1 h;rcases aon.1 hs with rfl | hs
  ·exact .inr he
  exact .inl (lu hs he)
 refine⟨fun s hs=>?_,fun c hc=>?_,?_⟩
 ·rcases aon.1 hs with rfl | hs
  ·exact ownsRow_base ho h0
  exact R.own s hs
 ·rcases hmem c hc with h | h
  ·exact R.lt c h
  exact(nC ho h).2
 cases he:r.v.ownBlock with
 | none=>unfold Ob; rw[List.filterMap_cons,he]; exact R.apart
 | some g =>
  unfold Ob;rw[List.filterMap_cons,he];have hn:g∉Ob bl rs:=fun hm=>by have:=hb g hm; have:=(nC ho he).1; omega
  have hd:=apw.1 R.apart;refine apw.2 ⟨hd.1,aqf.2 ⟨fun hm=>hn (apK _ hm),hd.2.1⟩,fun x hx y hy e=>?_⟩;subst e;rcases aon.1 hy with rfl | hy
  ·exact hn (ap1 _ hx)
  exact hd.2.2 x hx x hy rfl
theorem Stp.add{r:Row}{base:Nat}(hE:Ext w w')(ho:w'.ownsRow base r.e r.k r.v r.n r.xs)(hb:w.heap.size≤base):Stp (Ob bl rs) w (Ob bl (r::rs)) w':=⟨Fr.jG hE,fun c hc=>by
 rcases ape.1 hc with h | h
 ·exact .inl (ap1 _ h)
 obtain⟨s,hs,he⟩:=apL.1 h;rcases aon.1 hs with rfl | hs
 ·exact .inr (aoE hb (nC ho he).1)
 exact .inl (lu hs he)⟩
theorem Rw.sub{Uk:List (Nat×List Value)}{rs':List Row}(R:Rw w0 w bl rs)(h1:(Ob Uk rs').Sublist (Ob bl rs))(h2:∀r∈rs',r∈rs):Rw w0 w Uk rs':=⟨fun r hr=>R.own r (h2 r hr),fun b hb=>R.lt b (h1.subset hb),R.apart.sublist h1⟩
theorem Rw.pop{r:Row}(R:Rw w0 w bl (r::rs)):Rw w0 w bl rs:=R.sub ((List.Sublist.refl _).append (List.Sublist.filterMap _ (List.sublist_cons_self r rs))) fun _ h=>apM _ h
theorem Rw.old(R:Rw w0 w bl rs)(S:St w0 a w n l bl vs):∀b∈Ob bl rs,w0.heap.size≤b:=fun b hb=>by
 rcases ape.1 hb with h | h
 ·obtain⟨p,hp,rfl⟩:=aoW.1 h; exact(S.own p hp).2
 obtain⟨s,hs,he⟩:=apL.1 h; exact(nC (R.own s hs) he).1
theorem Rw.set{j:Nat}{r r':Row}(R:Rw w0 w bl rs)(hj:rs[j]?=some r)(hg:w.grownBy w' r.v.ownBlock)(ho:w'.ownsRow w0.heap.size r'.e r'.k r'.v r'.n r'.xs)(hb:r'.v.ownBlock=r.v.ownBlock∨r'.v.ownBlock=some w.heap.size) :
  Rw w0 w' bl (rs.set j r')∧Stp (Ob bl rs) w (Ob bl (rs.set j r')) w':=by
 have hjl:j<rs.length:=by
  by_cases h:j<rs.length
  ·exact h
  rw[List.getElem?_eq_none (by omega)]at hj; cases hj
 have hr:r∈rs:=List.mem_of_getElem? hj;have hsp:rs=rs.take j++r::rs.drop (j+1):=by
  have e:rs[j]=r:=by rw[List.getElem?_eq_getElem hjl]at hj; exact aof hj
  rw[←e,←ao2 hjl,apZ]
 have hset:rs.set j r'=rs.take j++r'::rs.drop (j+1):=by rw[List.set_eq_take_append_cons_drop,an6 hjl]
 have hO:Ob bl rs=bl.map (·.1)++((rs.take j).filterMap (fun r=>r.v.ownBlock)++(r.v.ownBlock.toList++(rs.drop (j+1)).filterMap fun r=>r.v.ownBlock)):=by
  conv=>lhs; unfold Ob; rw[hsp]
  rw[List.filterMap_append,List.filterMap_cons]; cases r.v.ownBlock<;>rfl
 have hO':Ob bl (rs.set j r')=bl.map (·.1)++((rs.take j).filterMap (fun r=>r.v.ownBlock)++(r'.v.ownBlock.toList++(rs.drop (j+1)).filterMap fun r=>r.v.ownBlock)):=by
  unfold Ob; rw[hset,List.filterMap_append,List.filterMap_cons]; cases r'.v.ownBlock<;>rfl
 have hlt':∀c,r'.v.ownBlock=some c→c<w'.heap.size:=fun c hc=>(nC ho hc).2;have hap:=R.apart;rw[hO]at hap;have hnew:∀c∈Ob bl (rs.set j r'),c∈Ob bl rs∨w.heap.size≤c:=fun c hc=>by
  rw[hO']at hc;rw[hO];simp only[ape,Option.mem_toList]at hc ⊢;rcases hc with h | h | h | h
  ·exact .inl (.inl h)
  ·exact .inl (.inr (.inl h))
  ·rcases hb with e | e
   ·exact .inl (.inr (.inr (.inl (e▸h))))
   rw[e]at h;simp only[an8]at h;exact .inr (by omega)
  exact .inl (.inr (.inr (.inr h)))
 refine⟨⟨fun s hs=>?_,fun c hc=>?_,?_⟩,⟨⟨hg.os,hg.tape,hg.output,hg.size,fun i hi hn=>hg.block i hi fun e=>hn (lu hr e.symm)⟩,hnew⟩⟩
 ·by_cases aem:s=r'
  ·rw[aem]; exact ho
  have h:s∈rs:=(List.mem_or_eq_of_mem_set hs).resolve_right aem;by_cases hsr:s.v.ownBlock=r.v.ownBlock∧s.v.ownBlock≠none
  ·obtain⟨h1,h2⟩:=hsr;exfalso;rw[hset]at hs;obtain⟨g,hgr⟩:=Option.ne_none_iff_exists'.1 h2;have aiC:r.v.ownBlock=some g:=h1▸hgr;rw[aiC]at hap;have e1:=(apw.1 hap).2.1;have e2:=apw.1 e1;rcases ape.1 hs with hs | hs
   ·exact e2.2.2 g (apL.2 ⟨s,hs,hgr⟩) g (by simp) rfl
   have hs:=(aon.1 hs).resolve_left aem;have:=(aqf.1 (show(g::(rs.drop (j+1)).filterMap fun r=>r.v.ownBlock).Nodup from e2.2.1)).1;exact this (apL.2 ⟨s,hs,hgr⟩)
  refine sD (R.own s h) fun g hsg=>hg.block g (R.lt g (lu h hsg)) fun e=>hsr ⟨hsg.trans e,by rw[hsg]; simp⟩
 ·rcases hnew c hc with h | h
  ·exact aoC (R.lt c h) hg.size
  rw[hO']at hc;simp only[ape,Option.mem_toList]at hc;rcases hc with h | h | h | h
  ·exact aoC (R.lt c (by rw[hO]; simp[h])) hg.size
  ·exact aoC (R.lt c (by rw[hO]; simp only[ape]; exact .inr (.inl h))) hg.size
  ·exact hlt' c h
  exact aoC (R.lt c (by rw[hO]; simp only[ape]; exact .inr (.inr (.inr h)))) hg.size
 rw[hO'];rcases hb with e | e
 ·rw[e]; exact hap
 rw[e];have hfresh:∀c∈Ob bl rs,c≠w.heap.size:=fun c hc=>by have:=R.lt c hc; omega
 rw[hO]at hfresh;obtain⟨h1,h2,h3⟩:=apw.1 hap;obtain⟨h4,h5,h6⟩:=apw.1 h2;obtain⟨h7,h8,h9⟩:=apw.1 h5;refine apw.2 ⟨h1,apw.2 ⟨h4,?_,fun x hx y hy=>?_⟩,fun x hx y hy=>?_⟩
 ·exact aqf.2 ⟨fun hm=>hfresh _ (by simp only[ape]; exact .inr (.inr (.inr hm))) rfl,h8⟩
 ·rcases aon.1 (show y∈w.heap.size::_ from hy)with rfl | hy
  ·exact hfresh x (by simp only[ape]; exact .inr (.inl hx))
  exact h6 x hx y (apK _ hy)
 rcases ape.1 hy with hy | hy
 ·exact h3 x hx y (ap1 _ hy)
 rcases aon.1 (show y∈w.heap.size::_ from hy)with rfl | hy
 ·exact hfresh x (by simp only[ape]; exact .inl hx)
 exact h3 x hx y (apK _ (apK _ hy))
def NW(os:List Oper)(l:List (Nat×Value)):Option (TypeId×Value×Value×Option Nat):=
 match os with
 | o::_=>(match o.guard,o.op with
  | none,.call c=>(match c.callee,c.args.toList,c.argTypes.toList with
   | .builtin .append,[s,x],[t,t']=>(match rd (lift l) [] s,rd (lift l) [] x,t==t' with
    | some v,some y,true=>some (t,v,y,o.dst)
    | _,_,_=>none)
   | _,_,_=>none)
  | _,_=>none)
 | []=>none
theorem FC{os:List Oper}{t:TypeId}{v y:Value}{d:Option Nat}(h:NW os l=some (t,v,y,d)):∃o os' s x,os=o::os'∧o.guard=none∧o.dst=d∧o.op = .call { callee := .builtin .append,args := #[s,x],argTypes := #[t,t] }∧rd (lift l) [] s=some v∧rd (lift l) [] x=some y:=by
 cases os with
 | nil=>cases h
 | cons o os =>
  unfold NW at h;simp only at h;split at h
  ·rename_i c hg hop;split at h
   ·rename_i s x t1 t2 h1 h2 h3;split at h
    ·rename_i v' y' hv hy ht;simp only[an8,aob]at h;obtain⟨rfl,rfl,rfl,rfl⟩:=h;obtain rfl:t1=t2:=by simpa using ht
     refine⟨o,os,s,x,rfl,hg,rfl,?_,hv,hy⟩;rw[hop];obtain⟨callee,args,argTypes⟩:=c;simp only at h1 h2 h3;rw[h1,←Array.toArray_toList (xs:=args),←Array.toArray_toList (xs:=argTypes),h2,h3]
    cases h
   cases h
  cases h
theorem Ul{o:Oper}{ρ:Operand→Value}{s x:Operand}{t e:TypeId}(ho:o.op = .call { callee := .builtin .append,args := #[s,x],argTypes := #[t,t] }){z:Value}{k bytes:Nat}(T:pV P t e z k bytes){B:Nat}
  {v:Value} {m:Nat} {xs:List Value} (hown:w.ownsRow B e k v m xs) (hs:ρ s=v) {y:Value} {c:Nat} {ys:List Value} (hy:fK w k y c ys) (hx:ρ x=y) (h63:m+c≤maxLen) (hbytes:(m+c)*bytes≤140737488355328) (hB:B≤w.heap.size) :
  ∃v' w',(execOp ρ o).run P w = .ok (.value v') w'∧w'.ownsRow B e k v' (m+c) (xs++ys)∧w.grownBy w' v.ownBlock∧(v'.ownBlock=v.ownBlock∨v'.ownBlock=some w.heap.size):=by
 obtain⟨i,hi,hz',hsz,hby⟩:=T.info;obtain⟨hl,h1,hy⟩:=hy;rcases hy with ⟨rfl,ad,cap,rfl,hz⟩ | ⟨b,off,cap,rfl,hb,hn,hm,hc⟩
 ·have:ys=[]:=apc (by simpa using hl);subst this;rcases ad with _ | ad;case some =>
   obtain⟨v',w',hr,h2,h3,_,h5⟩:=run_append_own_at (P:=P) w B t o.type e i z k bytes T.und hi hz' hsz hby T.zc T.pos v m xs hown ad 0 cap [] (by simp) (by simp) (by simp) h63 hbytes hB;refine⟨v',w',?_,h2,h3,h5⟩;unfold execOp;simp only[ho,resolve,invoke,builtin,aoV,Sem.run_pure,ap2,List.map_toArray,aoS,apo,hs,hx,hr]
  obtain rfl:=hz rfl;have hr:=run_append_owned_none (P:=P) (w:=w) B t o.type e i k T.und hi v m xs hown;refine⟨v,w,?_,by simpa using hown,⟨rfl,rfl,rfl,an7 _,fun _ _ _=>rfl⟩,.inl rfl⟩;unfold execOp;simp only[ho,resolve,invoke,builtin,aoV,Sem.run_pure,ap2,List.map_toArray,aoS,apo,hs,hx,hr]
 have hnews:∀(j:Nat) u,ys[j]?=some u→w.cell? ((⟨b,off,none⟩:Addr).add j)=some u:=by
  intro j u hj;have e1:(⟨b,off,none⟩:Addr).add j=⟨b,off+j,none⟩:=by unfold Addr.add; split<;>simp_all
  rw[e1]; exact hc j u hj
 obtain⟨v',w',hr,h2,h3,_,h5⟩:=run_append_own_at (P:=P) w B t o.type e i z k bytes T.und hi hz' hsz hby T.zc T.pos v m xs hown ⟨b,off,none⟩ c cap ys hl hnews h1 h63 hbytes hB;refine⟨v',w',?_,h2,h3,h5⟩;unfold execOp;simp only[ho,resolve,invoke,builtin,aoV,Sem.run_pure,ap2,List.map_toArray,aoS,apo,hs,hx,hr]
theorem St.grown{w':World}{r:Row}(S:St w0 a w n l bl vs)(R:Rw w0 w bl rs)(hr:r∈rs)(hg:w.grownBy w' r.v.ownBlock):St w0 a w' n l bl []:=by
 have hO:∀b∈Ob bl rs,w0.heap.size≤b:=R.old S;refine⟨S.s,?_,fun p hp=>⟨?_,(S.own p hp).2⟩,S.apart,fun m hm=>by cases hm⟩
 ·refine Fr.below (O:=Ob bl rs) ⟨hg.os,hg.tape,hg.output,hg.size,fun i hi hn=>hg.block i hi fun e=>hn (lu hr e.symm)⟩ S.E hO
 have hne:some p.1≠r.v.ownBlock:=fun e=>by
  have hd:=apw.1 R.apart;exact hd.2.2 p.1 (aoW.2 ⟨p,hp,rfl⟩) p.1 (apL.2 ⟨r,hr,e.symm⟩) rfl
 have hb:=(S.own p hp).1;have hblk:=hg.block p.1 hb.1 hne;exact⟨aoC hb.1 hg.size,fun i=>(World.cell?_of_block (a:=⟨p.1,i,none⟩) hblk).trans (hb.2.1 i),fun i=>(World.frozen?_of_block (a:=⟨p.1,i,none⟩) hblk).trans (hb.2.2 i)⟩
theorem app(S:St w0 a w n l bl vs)(R:Rw w0 w bl rs)(j:Nat){r:Row}{t:TypeId}{z:Value}{bytes:Nat}(d:Nat)(hj:rs[j]?=some r)(T:pV P t r.e z r.k bytes){y:Value}{m:Nat}{ys:List Value}(hy:fK w r.k y m ys)
  (h63:r.n+m≤maxLen) (hbytes:(r.n+m)*bytes≤140737488355328)
  (next:∀a' w' v',Stp (Ob bl rs) w (Ob bl (rs.set j ⟨r.e,r.k,v',r.n+m,r.xs++ys⟩)) w'→Rw w0 w' bl (rs.set j ⟨r.e,r.k,v',r.n+m,r.xs++ys⟩)→St w0 a' w' n ((d,v')::l) bl []→wpList P ops Q (os.drop 1) a' w')
  (hx:NW os l=some (t,r.v,y,some d):=by kernel_rfl) (hd:Cb n (some d)=true:=by rfl):wpList P ops Q os a w:=by
 obtain⟨o,os',s,x,rfl,hg,hdst,hop,hs,hxx⟩:=FC hx;have hr:r∈rs:=List.mem_of_getElem? hj;have hst:=jP (dU S.s) o;have es:a.eval s=r.v:=jd (Std.act a) (hst s (by rw[hop]; simp[Op.operands,Call.operands])) (p:=[]) rfl hs;have ex:a.eval x=y:=jd (Std.act a) (hst x (by rw[hop]; simp[Op.operands,Call.operands])) (p:=[]) rfl hxx;obtain⟨v',w',hrun,h2,h3,h4⟩:=Ul (P:=P) hop T (R.own r hr) es hy ex h63 hbytes S.E.size;obtain⟨R',X⟩:=R.set (r':=⟨r.e,r.k,v',r.n+m,r.xs++ys⟩) hj h3 h2 h4;unfold wpList;rw[an6 (by simp[Region.wanted,hg])];left;unfold Oper.wp;rw[hrun];simp only[Oper.upon];rw[hdst];exact next _ _ v' X R' ((S.grown R hr h3).act (wP S.s hd v'))
def um(P:Program)(r:Nat)(os:List Oper)(l:List (Nat×Value)):Option (List Value×TypeId×Value×Option Nat):=
 match os with
 | o::_=>(match o.guard,yX o.op || !o.op.operands.all (fun x=>(rd (lift l) [] x).isSome),DJ P r (execOp (yL (lift l) []) o)with
  | none,false,some (A,ty,k)=>(match jh (ev0 P k)with | some (.val v)=>some (A,ty,v,o.dst) | _=>none)
  | _,_,_=>none)
 | []=>none
theorem newRow(S:St w0 a w n l bl vs)(R:Rw w0 w bl rs)(d m:Nat)(e:TypeId)(k:Nat)(A:List Value)(next:∀a' w' v,Ext w w'→Stp (Ob bl rs) w (Ob bl (⟨e,k,v,m,A⟩::rs)) w'→Rw w0 w' bl (⟨e,k,v,m,A⟩::rs)→St w0 a' w' n ((d,v)::l) bl vs→wpList P ops Q (os.drop 1) a' w')
  (hx:∀r,um P r os l=some (A,e,.slice (some ⟨r,0,none⟩) m m,some d):=by intro r; kernel_rfl) (hA:A.length=m*k:=by rfl) (hm:m≤maxLen:=by decide) (hd:Cb n (some d)=true:=by rfl):wpList P ops Q os a w:=by
 have hx:=hx w.heap.size;cases os with
 | nil=>cases hx
 | cons o os =>
  unfold um at hx;simp only at hx;split at hx
  ·rename_i A' ty k' hg hav hev;split at hx
   ·rename_i v hv;simp only[an8,aob]at hx;obtain⟨rfl,rfl,rfl,hdst⟩:=hx;simp only[aoP]at hav;have hc:execOp a.eval o=execOp (yL (lift l) []) o:=by
     refine execOp_congr o (fun cs b e1=>by rw[e1]at hav; cases hav.1) fun x hx=>?_;have h2:=hav.2;simp only[ao4,apT]at h2;obtain⟨v,hv⟩:=ao1.1 (h2 x hx);rw[jd (Std.act a) (jP (dU S.s) o x hx) (p:=[]) rfl hv];simp[yL,hv]
    have hv':ev0 P k'=some (.value (.slice (some ⟨w.heap.size,0,none⟩) m m)):=by
     unfold jh at hv;split at hv
     ·rename_i h; obtain h2:=aof hv; rw[h]; simp only[ED.val.injEq]at h2; rw[h2]
     ·cases hv
     cases hv
    have hrun:(execOp a.eval o).run P w = .ok (.value (.slice (some ⟨w.heap.size,0,none⟩) m m)) (w.alloc (.cells A'.toArray ty)):=by rw[hc,nN hev,oG hv']
    unfold wpList;rw[an6 (by simp[Region.wanted,hg])];left;unfold Oper.wp;rw[hrun];simp only[Oper.upon];have hE:Ext w (w.alloc (.cells A'.toArray ty)):=aG _ _;have ho:(w.alloc (.cells A'.toArray ty)).ownsRow w.heap.size ty k (.slice (some ⟨w.heap.size,0,none⟩) m m) m A':=
     ⟨hA,.inr ⟨w.heap.size,m,A'.toArray,rfl,an7 _,Array.getElem?_push_size,an7 _,hm,by simpa using hA,by rw[←hA]; simp⟩⟩
    rw[hdst];exact next _ _ _ hE (Stp.add (r:=⟨ty,k,_,m,A'⟩) hE ho (an7 _)) ((R.ext hE).add (r:=⟨ty,k,_,m,A'⟩) ho (fun b hb=>R.lt b hb) S.E.size) ((S.grow hE).act (wP S.s hd _))
   cases hx
  cases hx
theorem QY{b:Nat}{cur:Array Value}{e:TypeId}(h:w.heap[b]?=some (.cells cur e (0,0))):Bx w b cur:=by
 refine⟨?_,fun i=>?_,fun i=>?_⟩
 ·by_cases hlt:b<w.heap.size
  ·exact hlt
  rw[Array.getElem?_eq_none (by omega)]at h; cases h
 ·simp[World.cell?,h]
 simp[World.frozen?,h]
theorem tX{α β:Type}{f:α→List β}{k:Nat}(hf:∀x,(f x).length=k):∀(l:List α) (i:Nat) (h:i<l.length) (j:Nat),j<k→(l.flatMap f)[i*k+j]?=(f l[i])[j]?
 | x::l,0,_,j,hj=>by
  rw[apn,List.getElem?_append_left (by rw[hf]; omega)]; simp
 | x::l,i+1,h,j,hj=>by
  rw[apn,List.getElem?_append_right (by rw[hf,apk]; omega),hf,show(i+1)*k+j-k=i*k+j by rw[apk]; omega]
  exact tX hf l i (by simpa using h) j hj
theorem wU{α β:Type}{f:α→List β}{k:Nat}(hf:∀x,(f x).length=k):∀l:List α,(l.flatMap f).length=l.length*k
 | []=>by simp
 | x::l=>by rw[apn,an5,hf,wU hf l,aop,apk]; omega
theorem FD{α:Type}{f:α→List Value}{B k:Nat}{e:TypeId}{v:Value}{m:Nat}{L:List α}{xs:List Value}(hf:∀x,(f x).length=k)(ho:w.ownsRow B e k v m xs)(hm:m=L.length)(hx:xs=L.flatMap f):oD B (fun w=>aV k f w v L) w:=by
 intro w' hs hb;subst hm hx;obtain⟨h1,⟨rfl,h0⟩ | ⟨g,cap,cur,rfl,h2,h3,h4,h5,h6,h7⟩⟩:=ho
 ·obtain rfl:=apc h0;exact jD k f w'
 have hlt:=(QY h3).1;refine⟨_,cap,rfl,h5,.inr ⟨g,0,rfl,aoC hlt hs,h4,fun i hi j hj=>?_⟩⟩;have hb':=hb g hlt h2;rw[World.cell?_of_block (a:=⟨g,0+i*k+j,none⟩) hb',(QY h3).2.1,aoY,←tX hf L i hi j hj,←h7,List.getElem?_take_of_lt]
 ·simp
 calc i*k+j<i*k+k:=by omega
  _=(i+1)*k:=by rw[apk]; omega
  _≤L.length*k:=apR _ hi
theorem Zi{α:Type}{f:α→List Value}{k:Nat}{v:Value}{L:List α}(h:aV k f w v L)(hf:∀x,(f x).length=k)(h1:∀x,(f x).all (·.oneCell')=true):fK w k v L.length (L.flatMap f):=by
 refine⟨wU hf L,fun u hu=>?_,?_⟩
 ·obtain⟨x,_,hx⟩:=List.mem_flatMap.1 hu;exact aoA.1 (h1 x) u hx
 obtain⟨a,cap,rfl,hm,⟨rfl,h⟩ | ⟨b,o,rfl,hb,hl,hc⟩⟩:=h
 ·exact .inl ⟨rfl,a,cap,rfl,h⟩
 refine .inr ⟨b,o,cap,rfl,hb,hl,hm,fun j u hj=>?_⟩;have hjl:j<L.length*k:=by
  rw[←wU hf L];by_cases h:j<(L.flatMap f).length
  ·exact h
  rw[List.getElem?_eq_none (by omega)]at hj; cases hj
 have hk:0<k:=by
  rcases aoJ k with rfl | h
  ·simp at hjl
  exact h
 have hi:j/k<L.length:=(Nat.div_lt_iff_lt_mul hk).2 hjl;have hq:=hc (j/k) hi (j%k) (ao9 _ hk);have e:j/k*k+j%k=j:=by rw[aoH]; exact Nat.div_add_mod j k
 rw[←tX hf L (j/k) hi (j%k) (ao9 _ hk),e,apG,e,hj]at hq;exact hq
abbrev vb (bl:List (Nat×List Value)):List Nat:=bl.map (·.1)
theorem Stp.aen{O O':List Nat}{b:Nat}(h:Stp O w O' w')(hb:w.heap.size≤b):Stp O w (b::O') w':=⟨h.fr,fun c hc=>by
 rcases aon.1 hc with rfl | hc
 ·exact .inr hb
 exact h.new c hc⟩
theorem Stp.lM{O:List Nat}{b:Nat}(hE:Ext w w')(hb:b=w.heap.size):Stp O w (b::O) w':=(Stp.ext hE).aen (Nat.le_of_eq hb.symm)
theorem Stp.chm{O:List Nat}{b:Nat}(hc:Ch b w w')(hb:b∈O):Stp O w O w':=
 ⟨⟨hc.os,hc.tape,hc.output,hc.size,fun i hi hn=>hc.block i hi fun e=>hn (by simp only[an8]at e; rwa [e])⟩,fun c h => .inl h⟩
theorem Stp.iD(k:Nat):Stp (vb bl) w (vb (bl.drop k)) w:=Stp.sub fun _ h=>(List.Sublist.map _ (List.drop_sublist k bl)).subset h
theorem Stp.full{Uk:List (Nat×List Value)}(h:Stp (vb bl) w (vb Uk) w'):Stp (Ob bl rs) w (Ob Uk rs) w':=
 ⟨⟨h.fr.os,h.fr.tape,h.fr.output,h.fr.size,fun i hi hn=>h.fr.block i hi fun hm=>hn (ap1 _ hm)⟩,fun b hb=>by
  rcases ape.1 hb with hb | hb
  ·exact(h.new b hb).imp (ap1 _) id
  ·exact .inl (apK _ hb)⟩
theorem Rw.sync{Uk:List (Nat×List Value)}{vs':List gX}{l':List (Nat×Value)}{a':Act}(R:Rw w0 w bl rs)(Y:Stp (vb bl) w (vb Uk) w')(S:St w0 a' w' n l' Uk vs'):Rw w0 w' Uk rs:=by
 have hd:=apw.1 R.apart;refine⟨fun r hr=>sD (R.own r hr) fun g hg=>Y.fr.block g (R.lt g (lu hr hg)) fun hm=>hd.2.2 g hm g (apL.2 ⟨r,hr,hg⟩) rfl,fun b hb=>?_,apw.2 ⟨S.apart,hd.2.1,fun x hx y hy e=>?_⟩⟩
 ·rcases ape.1 hb with h | h
  ·obtain⟨p,hp,rfl⟩:=aoW.1 h; exact(S.own p hp).1.1
  exact aoC (R.lt b (apK _ h)) Y.fr.size
 subst e;rcases Y.new x hx with h | h
 ·exact hd.2.2 x h x hy rfl
 have:=R.lt x (apK _ hy); omega
theorem Rw.aT{Uk:List (Nat×List Value)}{vs':List gX}{l':List (Nat×Value)}{a':Act}(R:Rw w0 w bl rs)(S:St w0 a' w' n l' Uk vs')(Y:Stp (vb bl) w (vb Uk) w'):Rw w0 w' Uk rs∧Stp (Ob bl rs) w (Ob Uk rs) w':=⟨R.sync Y S,Y.full⟩
theorem Rw.as{rs':List Row}(R:Rw w0 w bl rs)(h:rs=rs'):Rw w0 w bl rs':=h▸R
theorem Cm{B:Nat}{e:TypeId}{k m:Nat}{v:Value}{xs:List Value}(h:w.ownsRow B e k v m xs):∃a c,v = .slice a m c:=by
 obtain⟨h1,⟨rfl,rfl⟩ | ⟨g,cap,cur,rfl,_⟩⟩:=h
 ·exact⟨none,0,rfl⟩
 exact⟨_,cap,rfl⟩
theorem lC{b m k:Nat}{A:List Value}(hx:Bx w b A.toArray)(hA:A.length=m*k:=by rfl)(hm:m≤maxLen:=by decide)(h1:A.all (·.oneCell')=true:=by kernel_rfl):fK w k (.slice (some ⟨b,0,none⟩) m m) m A:=
 ⟨hA,fun u hu=>aoA.1 h1 u hu,.inr ⟨b,0,m,rfl,hx.1,an7 _,hm,fun j u hj=>by rw[aoY,hx.2.1]; simpa using hj⟩⟩
theorem Zj{o:Oper}{ρ:Operand→Value}{s x:Operand}{t e:TypeId}(ho:o.op = .call { callee := .builtin .append,args := #[s,x],argTypes := #[t,t] }){z:Value}{k bytes:Nat}(T:pV P t e z k bytes)
  {ad:Addr} {m cap:Nat} {xs:List Value} (hv:fK w k (.slice (some ad) m cap) m xs) (hs:ρ s = .slice (some ad) m cap) {y:Value} {c:Nat} {ys:List Value} (hy:fK w k y c ys) (hx:ρ x=y) (hc:cap<m+c) (hc0:0<c) (h63:m+c≤maxLen) (hbytes:(m+c)*bytes≤140737488355328) :
  ∃v' w',(execOp ρ o).run P w = .ok (.value v') w'∧w'.ownsRow w.heap.size e k v' (m+c) (xs++ys)∧Ext w w':=by
 obtain⟨i,hi,hz',hsz,hby⟩:=T.info;obtain⟨hl,h1,hy⟩:=hy;rcases hy with ⟨rfl,_⟩ | ⟨b,off,cap',rfl,hb,hn,hm,hcc⟩
 ·omega
 have cells:∀(b off:Nat) (us:List Value),(∀(j:Nat) u,us[j]?=some u→w.cell? ⟨b,off+j,none⟩=some u)→∀(j:Nat) u,us[j]?=some u→w.cell? ((⟨b,off,none⟩:Addr).add j)=some u:=fun b off us h j u hj=>by
  have e1:(⟨b,off,none⟩:Addr).add j=⟨b,off+j,none⟩:=by unfold Addr.add; split<;>simp_all
  rw[e1]; exact h j u hj
 have hold:∀(j:Nat) u,xs[j]?=some u→w.cell? (ad.add j)=some u:=by
  obtain⟨hl1,_,hv⟩:=hv;rcases hv with ⟨rfl,_⟩ | ⟨b0,o0,cap0,hv',_,_,_,hc0⟩
  ·obtain rfl:xs=[]:=apc (by simpa using hl1);intro j u hj; simp at hj
  simp only[aoB,an8]at hv';obtain⟨rfl,-,-⟩:=hv';exact cells b0 o0 xs hc0
 obtain⟨v',w',hr,h2,h3⟩:=run_append_arg_grows (P:=P) w t o.type e i z k bytes T.und hi hz' hsz hby T.zc T.pos ad m cap xs hv.1 hold ⟨b,off,none⟩ c cap' ys hl (cells b off ys hcc) hc h63 hbytes;refine⟨v',w',?_,h2,iG (aor _ _) h3 (an7 _)⟩;unfold execOp;simp only[ho,resolve,invoke,builtin,aoV,Sem.run_pure,ap2,List.map_toArray,aoS,apo,hs,hx,hr]
theorem ab3(S:St w0 a w n l bl vs)(R:Rw w0 w bl rs){t e:TypeId}{z:Value}{k bytes:Nat}(d:Nat)(T:pV P t e z k bytes){ad:Addr}{m cap c:Nat}{xs ys:List Value}{y:Value}(hv:fK w k (.slice (some ad) m cap) m xs)(hy:fK w k y c ys)(hc:cap<m+c)(hc0:0<c)(h63:m+c≤maxLen)(hbytes:(m+c)*bytes≤140737488355328)
  (next:∀a' w' v',Ext w w'→Stp (Ob bl rs) w (Ob bl (⟨e,k,v',m+c,xs++ys⟩::rs)) w'→Rw w0 w' bl (⟨e,k,v',m+c,xs++ys⟩::rs)→St w0 a' w' n ((d,v')::l) bl vs→wpList P ops Q (os.drop 1) a' w')
  (hx:NW os l=some (t,.slice (some ad) m cap,y,some d):=by kernel_rfl) (hd:Cb n (some d)=true:=by rfl):wpList P ops Q os a w:=by
 obtain⟨o,os',s,x,rfl,hg,hdst,hop,hs,hxx⟩:=FC hx;have hst:=jP (dU S.s) o;have es:a.eval s = .slice (some ad) m cap:=jd (Std.act a) (hst s (by rw[hop]; simp[Op.operands,Call.operands])) (p:=[]) rfl hs;have ex:a.eval x=y:=jd (Std.act a) (hst x (by rw[hop]; simp[Op.operands,Call.operands])) (p:=[]) rfl hxx;obtain⟨v',w',hrun,h2,h3⟩:=Zj (P:=P) hop T hv es hy ex hc hc0 h63 hbytes;unfold wpList;rw[an6 (by simp[Region.wanted,hg])];left;unfold Oper.wp;rw[hrun];simp only[Oper.upon];rw[hdst];exact next _ _ v' h3 (Stp.add (r:=⟨e,k,v',m+c,xs++ys⟩) h3 h2 (an7 _)) ((R.ext h3).add (r:=⟨e,k,v',m+c,xs++ys⟩) h2 R.lt S.E.size) ((S.grow h3).act (wP S.s hd v'))
end
end Go.Sx
theorem anW:type_of% @Go.Sx.app:=@Go.Sx.app
theorem anY:type_of% @Go.Sx.newRow:=@Go.Sx.newRow
theorem an4:type_of% @Go.Sx.Stp.trans:=@Go.Sx.Stp.trans
theorem aoc:type_of% @Go.Sx.Stp.ext:=@Go.Sx.Stp.ext
theorem aoh:type_of% @Go.Sx.On.step:=@Go.Sx.On.step
theorem aok:type_of% @Go.Sx.On.imp:=@Go.Sx.On.imp
theorem aol:type_of% @Go.Sx.On.and:=@Go.Sx.On.and
theorem aoz:type_of% @Go.Sx.Rw.nil:=@Go.Sx.Rw.nil
theorem aoD:type_of% @Go.Sx.Stp.iD:=@Go.Sx.Stp.iD
theorem aoG:type_of% @Go.Sx.Stp.lM:=@Go.Sx.Stp.lM
