/- Rows that a walk owns and lets grow, beside its -/
import Derived.Test.YtapmgonflgahbaaGreatDoorSw
import Derived.Maps.AppendAt
import Derived.ArgAppend
namespace Go.Sx
open Go.Proofs.YtapmgonflgahbaaGreatDoor Go.RowKit Go.Rel
set_option linter.unusedVariables false
structure Fr (O:List Nat) (w w':World):Prop where
 os:w'.os=w.os
 tape:w'.tape=w.tape
 output:w'.output=w.output
 size:w.heap.size≤w'.heap.size
 block:∀k,k<w.heap.size→k∉O→w'.heap[k]?=w.heap[k]?
def On(B:Nat→Prop)(F:World→Prop)(w:World):Prop:=∀w',w.heap.size≤w'.heap.size→(∀k,k<w.heap.size→B k→w'.heap[k]?=w.heap[k]?)→F w'
theorem On.self{B:Nat→Prop}{F:World→Prop}{w:World}(h:On B F w):F w:=h w (ah9 _) fun _ _ _=>rfl
theorem On.mono{B B':Nat→Prop}{F:World→Prop}{w:World}(h:On B F w)(hB:∀k,B k→B' k):On B' F w:=fun w' hs hb=>h w' hs fun k hk hBk=>hb k hk (hB k hBk)
abbrev Dep (base:Nat)(F:World→Prop)(w:World):Prop:=On (base ≤ ·) F w
abbrev Ow (base:Nat)(O:List Nat)(F:World→Prop)(w:World):Prop:=On (fun k=>base≤k∧k∉O) F w
structure Stp (O:List Nat) (w:World) (O':List Nat) (w':World):Prop where
 fr:Fr O w w'
 new:∀b∈O',b∈O∨w.heap.size≤b
theorem Fr.iE{O:List Nat}{w w':World}(h:Ext w w'):Fr O w w':=⟨h.os,h.tape,h.output,h.size,fun k hk _=>h.block k hk⟩
theorem Stp.ext{O:List Nat}{w w':World}(h:Ext w w'):Stp O w O w':=⟨Fr.iE h,fun _ h => .inl h⟩
theorem Stp.trans{O O1 O2:List Nat}{w w1 w2:World}(h:Stp O w O1 w1)(k:Stp O1 w1 O2 w2):Stp O w O2 w2:=
 ⟨⟨k.fr.os.trans h.fr.os,k.fr.tape.trans h.fr.tape,k.fr.output.trans h.fr.output,aiQ h.fr.size k.fr.size,fun i hi hn=>by
  refine(k.fr.block i (aiG hi h.fr.size) fun hm=>?_).trans (h.fr.block i hi hn)
  rcases h.new i hm with h1 | h1
  ·exact hn h1
  ·omega⟩,fun b hb=>by
  rcases k.new b hb with h1 | h1
  ·exact h.new b h1
  ·exact .inr (aiQ h.fr.size h1)⟩
theorem Stp.sub{O O':List Nat}{w:World}(h:∀b∈O',b∈O):Stp O w O' w:=⟨⟨rfl,rfl,rfl,ah9 _,fun _ _ _=>rfl⟩,fun b hb => .inl (h b hb)⟩
theorem On.step{base:Nat}{O O':List Nat}{F:World→Prop}{w w':World}(h:Ow base O F w)(k:Stp O w O' w'):Ow base O' F w':=fun w2 hs hb =>
 h w2 (aiQ k.fr.size hs) fun i hi hB=>by
  refine(hb i (aiG hi k.fr.size) ⟨hB.1,fun hm=>?_⟩).trans (k.fr.block i hi hB.2)
  rcases k.new i hm with h1 | h1
  ·exact hB.2 h1
  ·omega
theorem Dep.ow{base b0:Nat}{O:List Nat}{F:World→Prop}{w:World}(h:Dep base F w)(hb:b0≤base)(hO:∀k∈O,k<base):Ow b0 O F w:=h.mono fun k hk=>⟨aiQ hb hk,fun hm=>by have:=hO k hm; omega⟩
theorem Fr.below{O:List Nat}{w0 w w':World}(h:Fr O w w')(hE:Ext w0 w)(hO:∀b∈O,w0.heap.size≤b):Ext w0 w':=
 ⟨h.os.trans hE.os,h.tape.trans hE.tape,h.output.trans hE.output,aiQ hE.size h.size,fun k hk=>(h.block k (aiG hk hE.size) fun hm=>by have:=hO k hm; omega).trans (hE.block k hk)⟩
structure Row where
 e:TypeId
 k:Nat
 v:Value
 n:Nat
 xs:List Value
def Ob(bl:List (Nat×List Value))(rs:List Row):List Nat:=bl.map (·.1)++rs.filterMap fun r=>r.v.ownBlock
structure Rw (w0 w:World) (bl:List (Nat×List Value)) (rs:List Row):Prop where
 own:∀r∈rs,w.ownsRow w0.heap.size r.e r.k r.v r.n r.xs
 lt:∀b∈Ob bl rs,b<w.heap.size
 apart:(Ob bl rs).Nodup
theorem og{w w':World}{B:Nat}{e:TypeId}{k n:Nat}{v:Value}{xs:List Value}(h:w.ownsRow B e k v n xs)(hb:∀g,v.ownBlock=some g→w'.heap[g]?=w.heap[g]?):w'.ownsRow B e k v n xs:=by
 obtain⟨h1,h | ⟨g,cap,cur,rfl,h2,h3,h4⟩⟩:=h
 ·exact⟨h1,.inl h⟩
 exact⟨h1,.inr ⟨g,cap,cur,rfl,h2,(hb g rfl).trans h3,h4⟩⟩
theorem kE{w:World}{B:Nat}{e:TypeId}{k n:Nat}{v:Value}{xs:List Value}(h:w.ownsRow B e k v n xs){g:Nat}(hg:v.ownBlock=some g):B≤g∧g<w.heap.size:=by
 obtain⟨h1,⟨rfl,_⟩ | ⟨g,cap,cur,rfl,h2,h3,h4⟩⟩:=h
 ·cases hg
 simp only[Value.ownBlock,ah8]at hg;subst hg;exact⟨h2,by
  by_cases hlt:g<w.heap.size
  ·exact hlt
  rw[Array.getElem?_eq_none (by omega)]at h3; cases h3⟩
theorem ownsRow_base{w:World}{B B':Nat}{e:TypeId}{k n:Nat}{v:Value}{xs:List Value}(h:w.ownsRow B e k v n xs)(hB:B'≤B):w.ownsRow B' e k v n xs:=by
 obtain⟨h1,h | ⟨g,cap,cur,rfl,h2,h3⟩⟩:=h
 ·exact⟨h1,.inl h⟩
 exact⟨h1,.inr ⟨g,cap,cur,rfl,aiQ hB h2,h3⟩⟩
section
variable{P:Program}{ops:Array Oper}{Q:Exit→Act→World→Prop}{w0:World}{a:Act}{w w':World}{os:List Oper}{n:Nat}{l:List (Nat×Value)}{bl:List (Nat×List Value)}{vs:List fG}{rs:List Row}
theorem jH{r:Row}{g:Nat}(h:r∈rs)(hg:r.v.ownBlock=some g):g∈Ob bl rs:=ajM _ (ajD.2 ⟨r,h,hg⟩)
theorem Rw.nil(S:St w0 a w n l bl vs):Rw w0 w bl []:=by
 have e:Ob bl []=bl.map (·.1):=by simp[Ob]
 refine⟨fun r h=>(by cases h),fun b h=>?_,e▸S.apart⟩;rw[e]at h;obtain⟨p,hp,rfl⟩:=aiR.1 h;exact(S.own p hp).1.1
theorem Rw.ext(R:Rw w0 w bl rs)(hE:Ext w w'):Rw w0 w' bl rs:=
 ⟨fun r hr=>og (R.own r hr) fun g hg=>hE.block g (R.lt g (jH hr hg)),fun b hb=>aiG (R.lt b hb) hE.size,R.apart⟩
theorem Rw.add{r:Row}{base:Nat}(R:Rw w0 w bl rs)(ho:w.ownsRow base r.e r.k r.v r.n r.xs)(hb:∀b∈Ob bl rs,b<base)(h0:w0.heap.size≤base):Rw w0 w bl (r::rs):=by
 have hmem:∀c,c∈Ob bl (r::rs)→c∈Ob bl rs∨r.v.ownBlock=some c:=fun c hc=>by
  rcases ajs.1 hc with h | h
  ·exact .inl (aj7 _ h)
  obtain⟨s,hs,he⟩:=ajD.1 h;rcases aip.1 hs with rfl | hs
  ·exact .inr he
  exact .inl (jH hs he)
 refine⟨fun s hs=>?_,fun c hc=>?_,?_⟩
 ·rcases aip.1 hs with rfl | hs
  ·exact ownsRow_base ho h0
  exact R.own s hs
 ·rcases hmem c hc with h | h
  ·exact R.lt c h
  exact(kE ho h).2
 cases he:r.v.ownBlock with
 | none=>unfold Ob; rw[List.filterMap_cons,he]; exact R.apart
 | some g =>
  unfold Ob;rw[List.filterMap_cons,he];have hn:g∉Ob bl rs:=fun hm=>by have:=hb g hm; have:=(kE ho he).1; omega
  have hd:=aju.1 R.apart;refine aju.2 ⟨hd.1,akm.2 ⟨fun hm=>hn (ajM _ hm),hd.2.1⟩,fun x hx y hy e=>?_⟩;subst e;rcases aip.1 hy with rfl | hy
  ·exact hn (aj7 _ hx)
  exact hd.2.2 x hx x hy rfl
theorem Stp.add{r:Row}{base:Nat}(hE:Ext w w')(ho:w'.ownsRow base r.e r.k r.v r.n r.xs)(hb:w.heap.size≤base):Stp (Ob bl rs) w (Ob bl (r::rs)) w':=⟨Fr.iE hE,fun c hc=>by
 rcases ajs.1 hc with h | h
 ·exact .inl (aj7 _ h)
 obtain⟨s,hs,he⟩:=ajD.1 h;rcases aip.1 hs with rfl | hs
 ·exact .inr (aiQ hb (kE ho he).1)
 exact .inl (jH hs he)⟩
theorem Rw.old(R:Rw w0 w bl rs)(S:St w0 a w n l bl vs):∀b∈Ob bl rs,w0.heap.size≤b:=fun b hb=>by
 rcases ajs.1 hb with h | h
 ·obtain⟨p,hp,rfl⟩:=aiR.1 h; exact(S.own p hp).2
 obtain⟨s,hs,he⟩:=ajD.1 h; exact(kE (R.own s hs) he).1
theorem Rw.set{j:Nat}{r r':Row}(R:Rw w0 w bl rs)(hj:rs[j]?=some r)(hg:w.grownBy w' r.v.ownBlock)(ho:w'.ownsRow w0.heap.size r'.e r'.k r'.v r'.n r'.xs)(hb:r'.v.ownBlock=r.v.ownBlock∨r'.v.ownBlock=some w.heap.size) :
  Rw w0 w' bl (rs.set j r')∧Stp (Ob bl rs) w (Ob bl (rs.set j r')) w':=by
 have hjl:j<rs.length:=by
  by_cases h:j<rs.length
  ·exact h
  rw[List.getElem?_eq_none (by omega)]at hj; cases hj
 have hr:r∈rs:=List.mem_of_getElem? hj;have hsp:rs=rs.take j++r::rs.drop (j+1):=by
  have e:rs[j]=r:=by rw[List.getElem?_eq_getElem hjl]at hj; exact aik hj
  rw[←e,←ajg hjl,ajZ]
 have hset:rs.set j r'=rs.take j++r'::rs.drop (j+1):=by rw[List.set_eq_take_append_cons_drop,aib hjl]
 have hO:Ob bl rs=bl.map (·.1)++((rs.take j).filterMap (fun r=>r.v.ownBlock)++(r.v.ownBlock.toList++(rs.drop (j+1)).filterMap fun r=>r.v.ownBlock)):=by
  conv=>lhs; unfold Ob; rw[hsp]
  rw[List.filterMap_append,List.filterMap_cons]; cases r.v.ownBlock<;>rfl
 have hO':Ob bl (rs.set j r')=bl.map (·.1)++((rs.take j).filterMap (fun r=>r.v.ownBlock)++(r'.v.ownBlock.toList++(rs.drop (j+1)).filterMap fun r=>r.v.ownBlock)):=by
  unfold Ob; rw[hset,List.filterMap_append,List.filterMap_cons]; cases r'.v.ownBlock<;>rfl
 have hlt':∀c,r'.v.ownBlock=some c→c<w'.heap.size:=fun c hc=>(kE ho hc).2;have hap:=R.apart;rw[hO]at hap;have hnew:∀c∈Ob bl (rs.set j r'),c∈Ob bl rs∨w.heap.size≤c:=fun c hc=>by
  rw[hO']at hc;rw[hO];simp only[ajs,Option.mem_toList]at hc ⊢;rcases hc with h | h | h | h
  ·exact .inl (.inl h)
  ·exact .inl (.inr (.inl h))
  ·rcases hb with e | e
   ·exact .inl (.inr (.inr (.inl (e▸h))))
   rw[e]at h;simp only[ah8]at h;exact .inr (by omega)
  exact .inl (.inr (.inr (.inr h)))
 refine⟨⟨fun s hs=>?_,fun c hc=>?_,?_⟩,⟨⟨hg.os,hg.tape,hg.output,hg.size,fun i hi hn=>hg.block i hi fun e=>hn (jH hr e.symm)⟩,hnew⟩⟩
 ·by_cases abE:s=r'
  ·rw[abE]; exact ho
  have h:s∈rs:=(List.mem_or_eq_of_mem_set hs).resolve_right abE;by_cases hsr:s.v.ownBlock=r.v.ownBlock∧s.v.ownBlock≠none
  ·obtain⟨h1,h2⟩:=hsr;exfalso;rw[hset]at hs;obtain⟨g,hgr⟩:=Option.ne_none_iff_exists'.1 h2;have afO:r.v.ownBlock=some g:=h1▸hgr;rw[afO]at hap;have e1:=(aju.1 hap).2.1;have e2:=aju.1 e1;rcases ajs.1 hs with hs | hs
   ·exact e2.2.2 g (ajD.2 ⟨s,hs,hgr⟩) g (by simp) rfl
   have hs:=(aip.1 hs).resolve_left abE;have:=(akm.1 (show(g::(rs.drop (j+1)).filterMap fun r=>r.v.ownBlock).Nodup from e2.2.1)).1;exact this (ajD.2 ⟨s,hs,hgr⟩)
  refine og (R.own s h) fun g hsg=>hg.block g (R.lt g (jH h hsg)) fun e=>hsr ⟨hsg.trans e,by rw[hsg]; simp⟩
 ·rcases hnew c hc with h | h
  ·exact aiG (R.lt c h) hg.size
  rw[hO']at hc;simp only[ajs,Option.mem_toList]at hc;rcases hc with h | h | h | h
  ·exact aiG (R.lt c (by rw[hO]; simp[h])) hg.size
  ·exact aiG (R.lt c (by rw[hO]; simp only[ajs]; exact .inr (.inl h))) hg.size
  ·exact hlt' c h
  exact aiG (R.lt c (by rw[hO]; simp only[ajs]; exact .inr (.inr (.inr h)))) hg.size
 rw[hO'];rcases hb with e | e
 ·rw[e]; exact hap
 rw[e];have hfresh:∀c∈Ob bl rs,c≠w.heap.size:=fun c hc=>by have:=R.lt c hc; omega
 rw[hO]at hfresh;obtain⟨h1,h2,h3⟩:=aju.1 hap;obtain⟨h4,h5,h6⟩:=aju.1 h2;obtain⟨h7,h8,h9⟩:=aju.1 h5;refine aju.2 ⟨h1,aju.2 ⟨h4,?_,fun x hx y hy=>?_⟩,fun x hx y hy=>?_⟩
 ·exact akm.2 ⟨fun hm=>hfresh _ (by simp only[ajs]; exact .inr (.inr (.inr hm))) rfl,h8⟩
 ·rcases aip.1 (show y∈w.heap.size::_ from hy)with rfl | hy
  ·exact hfresh x (by simp only[ajs]; exact .inr (.inl hx))
  exact h6 x hx y (ajM _ hy)
 rcases ajs.1 hy with hy | hy
 ·exact h3 x hx y (aj7 _ hy)
 rcases aip.1 (show y∈w.heap.size::_ from hy)with rfl | hy
 ·exact hfresh x (by simp only[ajs]; exact .inl hx)
 exact h3 x hx y (ajM _ (ajM _ hy))
def Jc(os:List Oper)(l:List (Nat×Value)):Option (TypeId×Value×Value×Option Nat):=
 match os with
 | o::_=>(match o.guard,o.op with
  | none,.call c=>(match c.callee,c.args.toList,c.argTypes.toList with
   | .builtin .append,[s,x],[t,t']=>(match rd (lift l) [] s,rd (lift l) [] x,t==t' with
    | some v,some y,true=>some (t,v,y,o.dst)
    | _,_,_=>none)
   | _,_,_=>none)
  | _,_=>none)
 | []=>none
theorem BI{os:List Oper}{t:TypeId}{v y:Value}{d:Option Nat}(h:Jc os l=some (t,v,y,d)):∃o os' s x,os=o::os'∧o.guard=none∧o.dst=d∧o.op = .call { callee := .builtin .append,args := #[s,x],argTypes := #[t,t] }∧rd (lift l) [] s=some v∧rd (lift l) [] x=some y:=by
 cases os with
 | nil=>cases h
 | cons o os =>
  unfold Jc at h;simp only at h;split at h
  ·rename_i c hg hop;split at h
   ·rename_i s x t1 t2 h1 h2 h3;split at h
    ·rename_i v' y' hv hy ht;simp only[ah8,aie]at h;obtain⟨rfl,rfl,rfl,rfl⟩:=h;obtain rfl:t1=t2:=by simpa using ht
     refine⟨o,os,s,x,rfl,hg,rfl,?_,hv,hy⟩;rw[hop];obtain⟨callee,args,argTypes⟩:=c;simp only at h1 h2 h3;rw[h1,←Array.toArray_toList (xs:=args),←Array.toArray_toList (xs:=argTypes),h2,h3]
    cases h
   cases h
  cases h
theorem Oz{o:Oper}{ρ:Operand→Value}{s x:Operand}{t e:TypeId}(ho:o.op = .call { callee := .builtin .append,args := #[s,x],argTypes := #[t,t] }){z:Value}{k bytes:Nat}(T:mZ P t e z k bytes){B:Nat}
  {v:Value} {m:Nat} {xs:List Value} (hown:w.ownsRow B e k v m xs) (hs:ρ s=v) {y:Value} {c:Nat} {ys:List Value} (hy:dS w k y c ys) (hx:ρ x=y) (h63:m+c≤maxLen) (hbytes:(m+c)*bytes≤140737488355328) (hB:B≤w.heap.size) :
  ∃v' w',(execOp ρ o).run P w = .ok (.value v') w'∧w'.ownsRow B e k v' (m+c) (xs++ys)∧w.grownBy w' v.ownBlock∧(v'.ownBlock=v.ownBlock∨v'.ownBlock=some w.heap.size):=by
 obtain⟨i,hi,hz',hsz,hby⟩:=T.info;obtain⟨hl,h1,hy⟩:=hy;rcases hy with ⟨rfl,ad,cap,rfl,hz⟩ | ⟨b,off,cap,rfl,hb,hn,hm,hc⟩
 ·have:ys=[]:=ajj (by simpa using hl);subst this;rcases ad with _ | ad;case some =>
   obtain⟨v',w',hr,h2,h3,_,h5⟩:=run_append_own_at (P:=P) w B t o.type e i z k bytes T.und hi hz' hsz hby T.zc T.pos v m xs hown ad 0 cap [] (by simp) (by simp) (by simp) h63 hbytes hB;refine⟨v',w',?_,h2,h3,h5⟩;unfold execOp;simp only[ho,resolve,invoke,builtin,aiU,akd,aj0,List.map_toArray,aiW,ajm,hs,hx,hr]
  obtain rfl:=hz rfl;have hr:=run_append_owned_none (P:=P) (w:=w) B t o.type e i k T.und hi v m xs hown;refine⟨v,w,?_,by simpa using hown,⟨rfl,rfl,rfl,ah9 _,fun _ _ _=>rfl⟩,.inl rfl⟩;unfold execOp;simp only[ho,resolve,invoke,builtin,aiU,akd,aj0,List.map_toArray,aiW,ajm,hs,hx,hr]
 have hnews:∀(j:Nat) u,ys[j]?=some u→w.cell? ((⟨b,off,none⟩:Addr).add j)=some u:=by
  intro j u hj;have e1:(⟨b,off,none⟩:Addr).add j=⟨b,off+j,none⟩:=by unfold Addr.add; split<;>simp_all
  rw[e1]; exact hc j u hj
 obtain⟨v',w',hr,h2,h3,_,h5⟩:=run_append_own_at (P:=P) w B t o.type e i z k bytes T.und hi hz' hsz hby T.zc T.pos v m xs hown ⟨b,off,none⟩ c cap ys hl hnews h1 h63 hbytes hB;refine⟨v',w',?_,h2,h3,h5⟩;unfold execOp;simp only[ho,resolve,invoke,builtin,aiU,akd,aj0,List.map_toArray,aiW,ajm,hs,hx,hr]
theorem St.grown{w':World}{r:Row}(S:St w0 a w n l bl vs)(R:Rw w0 w bl rs)(hr:r∈rs)(hg:w.grownBy w' r.v.ownBlock):St w0 a w' n l bl []:=by
 have hO:∀b∈Ob bl rs,w0.heap.size≤b:=R.old S;refine⟨S.s,?_,fun p hp=>⟨?_,(S.own p hp).2⟩,S.apart,fun m hm=>by cases hm⟩
 ·refine Fr.below (O:=Ob bl rs) ⟨hg.os,hg.tape,hg.output,hg.size,fun i hi hn=>hg.block i hi fun e=>hn (jH hr e.symm)⟩ S.E hO
 have hne:some p.1≠r.v.ownBlock:=fun e=>by
  have hd:=aju.1 R.apart;exact hd.2.2 p.1 (aiR.2 ⟨p,hp,rfl⟩) p.1 (ajD.2 ⟨r,hr,e.symm⟩) rfl
 have hb:=(S.own p hp).1;have hblk:=hg.block p.1 hb.1 hne;exact⟨aiG hb.1 hg.size,fun i=>(World.cell?_of_block (a:=⟨p.1,i,none⟩) hblk).trans (hb.2.1 i),fun i=>(World.frozen?_of_block (a:=⟨p.1,i,none⟩) hblk).trans (hb.2.2 i)⟩
theorem app(S:St w0 a w n l bl vs)(R:Rw w0 w bl rs)(j:Nat){r:Row}{t:TypeId}{z:Value}{bytes:Nat}(d:Nat)(hj:rs[j]?=some r)(T:mZ P t r.e z r.k bytes){y:Value}{m:Nat}{ys:List Value}(hy:dS w r.k y m ys)
  (h63:r.n+m≤maxLen) (hbytes:(r.n+m)*bytes≤140737488355328)
  (next:∀a' w' v',Stp (Ob bl rs) w (Ob bl (rs.set j ⟨r.e,r.k,v',r.n+m,r.xs++ys⟩)) w'→Rw w0 w' bl (rs.set j ⟨r.e,r.k,v',r.n+m,r.xs++ys⟩)→St w0 a' w' n ((d,v')::l) bl []→wpList P ops Q (os.drop 1) a' w')
  (hx:Jc os l=some (t,r.v,y,some d):=by kernel_rfl) (hd:zH n (some d)=true:=by rfl):wpList P ops Q os a w:=by
 obtain⟨o,os',s,x,rfl,hg,hdst,hop,hs,hxx⟩:=BI hx;have hr:r∈rs:=List.mem_of_getElem? hj;have hst:=iR (bU S.s) o;have es:a.eval s=r.v:=fU (Std.act a) (hst s (by rw[hop]; simp[Op.operands,Call.operands])) (p:=[]) rfl hs;have ex:a.eval x=y:=fU (Std.act a) (hst x (by rw[hop]; simp[Op.operands,Call.operands])) (p:=[]) rfl hxx;obtain⟨v',w',hrun,h2,h3,h4⟩:=Oz (P:=P) hop T (R.own r hr) es hy ex h63 hbytes S.E.size;obtain⟨R',X⟩:=R.set (r':=⟨r.e,r.k,v',r.n+m,r.xs++ys⟩) hj h3 h2 h4;unfold wpList;rw[aib (by simp[Region.wanted,hg])];left;unfold Oper.wp;rw[hrun];simp only[Oper.upon];rw[hdst];exact next _ _ v' X R' ((S.grown R hr h3).act (vY S.s hd v'))
def yC(P:Program)(r:Nat)(os:List Oper)(l:List (Nat×Value)):Option (List Value×TypeId×Value×Option Nat):=
 match os with
 | o::_=>(match o.guard,uU o.op || !o.op.operands.all (fun x=>(rd (lift l) [] x).isSome),yX P r (execOp (vZ (lift l) []) o)with
  | none,false,some (A,ty,k)=>(match gJ (ev0 P k)with | some (.val v)=>some (A,ty,v,o.dst) | _=>none)
  | _,_,_=>none)
 | []=>none
theorem newRow(S:St w0 a w n l bl vs)(R:Rw w0 w bl rs)(d m:Nat)(e:TypeId)(k:Nat)(A:List Value)(next:∀a' w' v,Ext w w'→Stp (Ob bl rs) w (Ob bl (⟨e,k,v,m,A⟩::rs)) w'→Rw w0 w' bl (⟨e,k,v,m,A⟩::rs)→St w0 a' w' n ((d,v)::l) bl vs→wpList P ops Q (os.drop 1) a' w')
  (hx:∀r,yC P r os l=some (A,e,.slice (some ⟨r,0,none⟩) m m,some d):=by intro r; kernel_rfl) (hA:A.length=m*k:=by rfl) (hm:m≤maxLen:=by decide) (hd:zH n (some d)=true:=by rfl):wpList P ops Q os a w:=by
 have hx:=hx w.heap.size;cases os with
 | nil=>cases hx
 | cons o os =>
  unfold yC at hx;simp only at hx;split at hx
  ·rename_i A' ty k' hg hav hev;split at hx
   ·rename_i v hv;simp only[ah8,aie]at hx;obtain⟨rfl,rfl,rfl,hdst⟩:=hx;simp only[aiX]at hav;have hc:execOp a.eval o=execOp (vZ (lift l) []) o:=by
     refine execOp_congr o (fun cs b e1=>by rw[e1]at hav; cases hav.1) fun x hx=>?_;have h2:=hav.2;simp only[ajn,aj8]at h2;obtain⟨v,hv⟩:=aja.1 (h2 x hx);rw[fU (Std.act a) (iR (bU S.s) o x hx) (p:=[]) rfl hv];simp[vZ,hv]
    have hv':ev0 P k'=some (.value (.slice (some ⟨w.heap.size,0,none⟩) m m)):=by
     unfold gJ at hv;split at hv
     ·rename_i h; obtain h2:=aik hv; rw[h]; simp only[BJ.val.injEq]at h2; rw[h2]
     ·cases hv
     cases hv
    have hrun:(execOp a.eval o).run P w = .ok (.value (.slice (some ⟨w.heap.size,0,none⟩) m m)) (w.alloc (.cells A'.toArray ty)):=by rw[hc,lF hev,lQ hv']
    unfold wpList;rw[aib (by simp[Region.wanted,hg])];left;unfold Oper.wp;rw[hrun];simp only[Oper.upon];have hE:Ext w (w.alloc (.cells A'.toArray ty)):=aI _ _;have ho:(w.alloc (.cells A'.toArray ty)).ownsRow w.heap.size ty k (.slice (some ⟨w.heap.size,0,none⟩) m m) m A':=
     ⟨hA,.inr ⟨w.heap.size,m,A'.toArray,rfl,ah9 _,Array.getElem?_push_size,ah9 _,hm,by simpa using hA,by rw[←hA]; simp⟩⟩
    rw[hdst];exact next _ _ _ hE (Stp.add (r:=⟨ty,k,_,m,A'⟩) hE ho (ah9 _)) ((R.ext hE).add (r:=⟨ty,k,_,m,A'⟩) ho (fun b hb=>R.lt b hb) S.E.size) ((S.grow hE).act (vY S.s hd _))
   cases hx
  cases hx
theorem xg(b:Nat)(e:TypeId)(fr:Nat×Nat):∀(us:List Value) (o:Nat) (w:World) (cur:Array Value),w.heap[b]?=some (.cells cur e fr)→o+us.length≤cur.size→(w.setCells b o us).heap[b]?=some (.cells (spl cur.toList o us).toArray e fr)
 | [],o,w,cur,h,hl=>by simp[World.setCells,h,spl]
 | v::r,o,w,cur,h,hl=>by
  have h1:(w.setCell ⟨b,o,none⟩ v).heap[b]?=some (.cells (cur.setIfInBounds o v) e fr):=by simp[World.setCell,Array.getElem?_modify,h]
  have hl':o+(r.length+1)≤cur.size:=by simpa using hl
  rw[World.setCells,xg b e fr r (o+1) _ _ h1 (by simp; omega)]
  have:spl (cur.setIfInBounds o v).toList (o+1) r=spl cur.toList o (v::r):=by
   rw[Array.toList_setIfInBounds]
   have hol:o<cur.toList.length:=by simp; omega
   generalize cur.toList=c at hol
   obtain⟨p,x,q,rfl,rfl⟩:∃p x q,c=p++x::q∧p.length=o:=⟨c.take o,c[o],c.drop (o+1),by rw[←ajg hol,ajZ],by simp; omega⟩
   unfold spl
   have hp:List.take (p.length+1) p=p:=aiC (by omega)
   simp[List.take_append,List.drop_append,Nat.add_assoc,Nat.add_comm 1,hp]
  rw[this]
theorem Gh{b:Nat}{cur:Array Value}{e:TypeId}(h:w.heap[b]?=some (.cells cur e (0,0))):Bx w b cur:=by
 refine⟨?_,fun i=>?_,fun i=>?_⟩
 ·by_cases hlt:b<w.heap.size
  ·exact hlt
  rw[Array.getElem?_eq_none (by omega)]at h; cases h
 ·simp[World.cell?,h]
 simp[World.frozen?,h]
theorem Vd{A cs:List Value}{o q:Nat}(h:o+cs.length≤q):(spl A o cs).take q=spl (A.take q) o cs:=by
 unfold spl;refine List.ext_getElem? fun i=>?_;simp only[List.getElem?_append,List.getElem?_take,List.getElem?_drop,aif,ake];by_cases hA:o≤A.length
 ·simp only[Nat.min_eq_left hA,Nat.min_eq_left (show o≤min q A.length by omega)];by_cases h1:i<o
  ·simp[h1,show i<q by omega,show i<o+cs.length by omega]
  by_cases h2:i<o+cs.length
  ·simp[h1,h2,show i<q by omega]
  by_cases h3:i<q
  ·simp[h2,h3,show o+cs.length+(i-(o+cs.length))<q by omega]
  simp[h2,h3,show ¬o+cs.length+(i-(o+cs.length))<q by omega]
 simp only[Nat.min_eq_right (show A.length≤o by omega),Nat.min_eq_right (show A.length≤q by omega)];by_cases h1:i<A.length
 ·simp[h1,show i<q by omega,show i<o by omega,show i<A.length+cs.length by omega]
 by_cases h2:i<A.length+cs.length
 ·simp[h1,h2,show i<q by omega]
 have h4:∀x,A[o+cs.length+x]?=none:=fun x=>List.getElem?_eq_none (by omega);simp[h2,h4]
theorem Rw.store{j:Nat}{r:Row}{g off cap:Nat}{cs:List Value}(R:Rw w0 w bl rs)(hj:rs[j]?=some r)(hv:r.v = .slice (some ⟨g,0,none⟩) r.n cap)(hf:off+cs.length≤r.xs.length) :
  ∃A:List Value,Bx w g A.toArray∧off+cs.length≤A.length∧w.grownBy (w.setCells g off cs) r.v.ownBlock∧(w.setCells g off cs).ownsRow w0.heap.size r.e r.k r.v r.n (spl r.xs off cs):=by
 have ho:=R.own r (List.mem_of_getElem? hj);obtain⟨h1,⟨hn,-⟩ | ⟨g',cap',cur,hv',h2,h3,h4,h5,h6,h7⟩⟩:=ho
 ·rw[hv]at hn; cases hn
 rw[hv]at hv';simp only[aiK,ah8,Addr.mk.injEq,and_true,true_and]at hv';obtain⟨rfl,rfl⟩:=hv';have hlen:r.n*r.k≤cur.toList.length:=by
  rw[Array.length_toList,h6]; exact ajL _ h4
 refine⟨cur.toList,by simpa using Gh h3,by omega,?_,?_⟩
 ·rw[hv]; exact(Ch.refl g w).setCells ..
 refine⟨?_,.inr ⟨g,cap,(spl cur.toList off cs).toArray,hv,h2,xg g r.e (0,0) cs off w cur h3 (by simp at hlen ⊢; omega),h4,h5,?_,?_⟩⟩
 ·unfold spl; simp; omega
 ·unfold spl; simp at hlen ⊢; omega
 rw[show(spl cur.toList off cs).toArray.toList=spl cur.toList off cs from rfl,Vd (by omega),h7]
theorem LX{ρ:Operand→Value}{o:Oper}{ty:TypeId}{x y:Operand}{b off:Nat}{A:List Value}{v:Value}(hop:o.op = .store ty x y)(hx:ρ x = .q b off)(hy:ρ y=v)(hbx:Bx w b A.toArray)
  (hi:(P.info? ty).map (·.size)=some 1) (hf:off<A.length) (h1:v.cells = #[v]) (h1':v.oneCell'=true):(execOp ρ o).run P w = .ok .skip (w.setCells b off [v]):=by
 have hcell:=hbx.2.1 off;rw[Array.getElem?_eq_getElem (by simpa using hf)]at hcell;have hrun:(Instr.storeAt ty (.q b off) v).run P w = .ok () (w.setCells b off [v]):=by
  cases hq:P.info? ty with
  | none=>simp[hq]at hi
  | some i =>
   have hsz:i.size=1:=by simpa[hq]using hi
   have:=run_storeCells_cells (P:=P) b off [v] 0 w (fun j hj=>by
    have:j=0:=by simpa using hj
    subst this; simp[hcell]) (fun j hj=>by simpa using hbx.2.2 (off+j)) (fun u hu=>by simp at hu; subst hu; exact h1')
   simp only[ajJ]at this;simp[Instr.storeAt,Instr.sureAddr,storeVar,sizeOf,typeInfo,hq,h1,hsz,this]
 unfold execOp;simp only[hop,hx,hy,aiU,hrun,aj0,akd]
theorem QU(S:St w0 a w n l bl vs)(R:Rw w0 w bl rs)(j:Nat){r:Row}{g off cap:Nat}{v:Value}(hj:rs[j]?=some r)(hv:r.v = .slice (some ⟨g,0,none⟩) r.n cap)(hf:off+1≤r.xs.length)
  (next:∀w',Stp (Ob bl rs) w (Ob bl (rs.set j ⟨r.e,r.k,r.v,r.n,spl r.xs off [v]⟩)) w'→Rw w0 w' bl (rs.set j ⟨r.e,r.k,r.v,r.n,spl r.xs off [v]⟩)→St w0 a w' n l bl []→wpList P ops Q (os.drop 1) a w')
  (hx:xk P os l=some (g,off,v,1):=by kernel_rfl) (h1:v.cells = #[v]:=by kernel_rfl) (h1':v.oneCell'=true:=by kernel_rfl):wpList P ops Q os a w:=by
 obtain⟨o,os',ty,x,y,rfl,hg,hdst,hop,hxx,hyy,hi⟩:=rE hx;obtain⟨A,hbx,hfA,hgr,ho⟩:=R.store (cs:=[v]) hj hv hf;have hst:=iR (bU S.s) o;have ex:a.eval x = .q g off:=fU (Std.act a) (hst x (by rw[hop]; simp[Op.operands])) (p:=[]) rfl hxx;have ey:a.eval y=v:=fU (Std.act a) (hst y (by rw[hop]; simp[Op.operands])) (p:=[]) rfl hyy;have hrun:=LX (P:=P) hop ex ey hbx hi (by simp at hfA; omega) h1 h1';obtain⟨R',X⟩:=R.set (r':=⟨r.e,r.k,r.v,r.n,spl r.xs off [v]⟩) hj hgr ho (.inl rfl);unfold wpList;rw[aib (by simp[Region.wanted,hg])];left;unfold Oper.wp;rw[hrun];simp only[Oper.upon];rw[hdst];exact next _ X R' (S.grown R (List.mem_of_getElem? hj) hgr)
theorem Rw.range{r:Row}{g cap:Nat}(R:Rw w0 w bl rs)(hr:r∈rs)(hv:r.v = .slice (some ⟨g,0,none⟩) r.n cap)(o:Nat){cs:List Value}(h:(r.xs.drop o).take cs.length=cs):w.rangeAt g o cs∧g<w.heap.size∧∀p∈bl,p.1≠g:=by
 have ho:=R.own r hr;have hb:r.v.ownBlock=some g:=by rw[hv]; rfl
 refine⟨fun j u hj=>?_,(kE ho hb).2,fun p hp e=>?_⟩
 ·obtain⟨h1,⟨hn,-⟩ | ⟨g',cap',cur,hv',h2,h3,h4,h5,h6,h7⟩⟩:=ho
  ·rw[hv]at hn; cases hn
  rw[hv]at hv';simp only[aiK,ah8,Addr.mk.injEq,and_true,true_and]at hv';obtain⟨rfl,rfl⟩:=hv';rw[(Gh h3).2.1];have hx:r.xs[o+j]?=some u:=by
   rw[←h,List.getElem?_take]at hj;split at hj
   ·rwa [List.getElem?_drop]at hj
   cases hj
  rw[←h7,List.getElem?_take]at hx;split at hx
  ·simpa using hx
  cases hx
 have hd:=aju.1 R.apart;subst e;exact hd.2.2 p.1 (aiR.2 ⟨p,hp,rfl⟩) p.1 (ajD.2 ⟨r,hr,hb⟩) rfl
theorem pz{α β:Type}{f:α→List β}{k:Nat}(hf:∀x,(f x).length=k):∀(l:List α) (i:Nat) (h:i<l.length) (j:Nat),j<k→(l.flatMap f)[i*k+j]?=(f l[i])[j]?
 | x::l,0,_,j,hj=>by
  rw[ajy,List.getElem?_append_left (by rw[hf]; omega)]; simp
 | x::l,i+1,h,j,hj=>by
  rw[ajy,List.getElem?_append_right (by rw[hf,ajr]; omega),hf,show(i+1)*k+j-k=i*k+j by rw[ajr]; omega]
  exact pz hf l i (by simpa using h) j hj
theorem sV{α β:Type}{f:α→List β}{k:Nat}(hf:∀x,(f x).length=k):∀l:List α,(l.flatMap f).length=l.length*k
 | []=>by simp
 | x::l=>by rw[ajy,aif,hf,sV hf l,aiO,ajr]; omega
theorem Jd{α:Type}{f:α→List Value}{B k:Nat}{e:TypeId}{v:Value}{m:Nat}{L:List α}{xs:List Value}(hf:∀x,(f x).length=k)(ho:w.ownsRow B e k v m xs)(hm:m=L.length)(hx:xs=L.flatMap f):Dep B (fun w=>aN k f w v L) w:=by
 intro w' hs hb;subst hm hx;obtain⟨h1,⟨rfl,h0⟩ | ⟨g,cap,cur,rfl,h2,h3,h4,h5,h6,h7⟩⟩:=ho
 ·obtain rfl:=ajj h0;exact jC k f w'
 have hlt:=(Gh h3).1;refine⟨_,cap,rfl,h5,.inr ⟨g,0,rfl,aiG hlt hs,h4,fun i hi j hj=>?_⟩⟩;have hb':=hb g hlt h2;rw[World.cell?_of_block (a:=⟨g,0+i*k+j,none⟩) hb',(Gh h3).2.1,ai0,←pz hf L i hi j hj,←h7,List.getElem?_take_of_lt]
 ·simp
 calc i*k+j<i*k+k:=by omega
  _=(i+1)*k:=by rw[ajr]; omega
  _≤L.length*k:=ajL _ hi
theorem Ve{α:Type}{f:α→List Value}{k:Nat}{v:Value}{L:List α}(h:aN k f w v L)(hf:∀x,(f x).length=k)(h1:∀x,(f x).all (·.oneCell')=true):dS w k v L.length (L.flatMap f):=by
 refine⟨sV hf L,fun u hu=>?_,?_⟩
 ·obtain⟨x,_,hx⟩:=List.mem_flatMap.1 hu;exact aiA.1 (h1 x) u hx
 obtain⟨a,cap,rfl,hm,⟨rfl,h⟩ | ⟨b,o,rfl,hb,hl,hc⟩⟩:=h
 ·exact .inl ⟨rfl,a,cap,rfl,h⟩
 refine .inr ⟨b,o,cap,rfl,hb,hl,hm,fun j u hj=>?_⟩;have hjl:j<L.length*k:=by
  rw[←sV hf L];by_cases h:j<(L.flatMap f).length
  ·exact h
  rw[List.getElem?_eq_none (by omega)]at hj; cases hj
 have hk:0<k:=by
  rcases aiL k with rfl | h
  ·simp at hjl
  exact h
 have hi:j/k<L.length:=(Nat.div_lt_iff_lt_mul hk).2 hjl;have hq:=hc (j/k) hi (j%k) (ai3 _ hk);have e:j/k*k+j%k=j:=by rw[aiH]; exact Nat.div_add_mod j k
 rw[←pz hf L (j/k) hi (j%k) (ai3 _ hk),e,ajW,e,hj]at hq;exact hq
abbrev vb (bl:List (Nat×List Value)):List Nat:=bl.map (·.1)
theorem Stp.adJ{O O':List Nat}{b:Nat}(h:Stp O w O' w')(hb:w.heap.size≤b):Stp O w (b::O') w':=⟨h.fr,fun c hc=>by
 rcases aip.1 hc with rfl | hc
 ·exact .inr hb
 exact h.new c hc⟩
theorem Stp.sG{O:List Nat}{b:Nat}(hE:Ext w w')(hb:b=w.heap.size):Stp O w (b::O) w':=(Stp.ext hE).adJ (Nat.le_of_eq hb.symm)
theorem Stp.chm{O:List Nat}{b:Nat}(hc:Ch b w w')(hb:b∈O):Stp O w O w':=
 ⟨⟨hc.os,hc.tape,hc.output,hc.size,fun i hi hn=>hc.block i hi fun e=>hn (by simp only[ah8]at e; rwa [e])⟩,fun c h => .inl h⟩
theorem Stp.lg(k:Nat):Stp (vb bl) w (vb (bl.drop k)) w:=Stp.sub fun _ h=>(List.Sublist.map _ (List.drop_sublist k bl)).subset h
theorem Stp.full{NW:List (Nat×List Value)}(h:Stp (vb bl) w (vb NW) w'):Stp (Ob bl rs) w (Ob NW rs) w':=
 ⟨⟨h.fr.os,h.fr.tape,h.fr.output,h.fr.size,fun i hi hn=>h.fr.block i hi fun hm=>hn (aj7 _ hm)⟩,fun b hb=>by
  rcases ajs.1 hb with hb | hb
  ·exact(h.new b hb).imp (aj7 _) id
  ·exact .inl (ajM _ hb)⟩
theorem Rw.sync{NW:List (Nat×List Value)}{vs':List fG}{l':List (Nat×Value)}{a':Act}(R:Rw w0 w bl rs)(Y:Stp (vb bl) w (vb NW) w')(S:St w0 a' w' n l' NW vs'):Rw w0 w' NW rs:=by
 have hd:=aju.1 R.apart;refine⟨fun r hr=>og (R.own r hr) fun g hg=>Y.fr.block g (R.lt g (jH hr hg)) fun hm=>hd.2.2 g hm g (ajD.2 ⟨r,hr,hg⟩) rfl,fun b hb=>?_,aju.2 ⟨S.apart,hd.2.1,fun x hx y hy e=>?_⟩⟩
 ·rcases ajs.1 hb with h | h
  ·obtain⟨p,hp,rfl⟩:=aiR.1 h; exact(S.own p hp).1.1
  exact aiG (R.lt b (ajM _ h)) Y.fr.size
 subst e;rcases Y.new x hx with h | h
 ·exact hd.2.2 x h x hy rfl
 have:=R.lt x (ajM _ hy); omega
theorem Rw.bZ{NW:List (Nat×List Value)}{vs':List fG}{l':List (Nat×Value)}{a':Act}(R:Rw w0 w bl rs)(S:St w0 a' w' n l' NW vs')(Y:Stp (vb bl) w (vb NW) w'):Rw w0 w' NW rs∧Stp (Ob bl rs) w (Ob NW rs) w':=⟨R.sync Y S,Y.full⟩
theorem Rw.as{rs':List Row}(R:Rw w0 w bl rs)(h:rs=rs'):Rw w0 w bl rs':=h▸R
theorem Vf{b m k:Nat}{A:List Value}(hx:Bx w b A.toArray)(hA:A.length=m*k:=by rfl)(hm:m≤maxLen:=by decide)(h1:A.all (·.oneCell')=true:=by kernel_rfl):dS w k (.slice (some ⟨b,0,none⟩) m m) m A:=
 ⟨hA,fun u hu=>aiA.1 h1 u hu,.inr ⟨b,0,m,rfl,hx.1,ah9 _,hm,fun j u hj=>by rw[ai0,hx.2.1]; simpa using hj⟩⟩
theorem Vg{o:Oper}{ρ:Operand→Value}{s x:Operand}{t e:TypeId}(ho:o.op = .call { callee := .builtin .append,args := #[s,x],argTypes := #[t,t] }){z:Value}{k bytes:Nat}(T:mZ P t e z k bytes)
  {ad:Addr} {m cap:Nat} {xs:List Value} (hv:dS w k (.slice (some ad) m cap) m xs) (hs:ρ s = .slice (some ad) m cap) {y:Value} {c:Nat} {ys:List Value} (hy:dS w k y c ys) (hx:ρ x=y) (hc:cap<m+c) (hc0:0<c) (h63:m+c≤maxLen) (hbytes:(m+c)*bytes≤140737488355328) :
  ∃v' w',(execOp ρ o).run P w = .ok (.value v') w'∧w'.ownsRow w.heap.size e k v' (m+c) (xs++ys)∧Ext w w':=by
 obtain⟨i,hi,hz',hsz,hby⟩:=T.info;obtain⟨hl,h1,hy⟩:=hy;rcases hy with ⟨rfl,_⟩ | ⟨b,off,cap',rfl,hb,hn,hm,hcc⟩
 ·omega
 have cells:∀(b off:Nat) (us:List Value),(∀(j:Nat) u,us[j]?=some u→w.cell? ⟨b,off+j,none⟩=some u)→∀(j:Nat) u,us[j]?=some u→w.cell? ((⟨b,off,none⟩:Addr).add j)=some u:=fun b off us h j u hj=>by
  have e1:(⟨b,off,none⟩:Addr).add j=⟨b,off+j,none⟩:=by unfold Addr.add; split<;>simp_all
  rw[e1]; exact h j u hj
 have hold:∀(j:Nat) u,xs[j]?=some u→w.cell? (ad.add j)=some u:=by
  obtain⟨hl1,_,hv⟩:=hv;rcases hv with ⟨rfl,_⟩ | ⟨b0,o0,cap0,hv',_,_,_,hc0⟩
  ·obtain rfl:xs=[]:=ajj (by simpa using hl1);intro j u hj; simp at hj
  simp only[aiK,ah8]at hv';obtain⟨rfl,-,-⟩:=hv';exact cells b0 o0 xs hc0
 obtain⟨v',w',hr,h2,h3⟩:=run_append_arg_grows (P:=P) w t o.type e i z k bytes T.und hi hz' hsz hby T.zc T.pos ad m cap xs hv.1 hold ⟨b,off,none⟩ c cap' ys hl (cells b off ys hcc) hc h63 hbytes;refine⟨v',w',?_,h2,fZ (ais _ _) h3 (ah9 _)⟩;unfold execOp;simp only[ho,resolve,invoke,builtin,aiU,akd,aj0,List.map_toArray,aiW,ajm,hs,hx,hr]
theorem YN(S:St w0 a w n l bl vs)(R:Rw w0 w bl rs){t e:TypeId}{z:Value}{k bytes:Nat}(d:Nat)(T:mZ P t e z k bytes){ad:Addr}{m cap c:Nat}{xs ys:List Value}{y:Value}(hv:dS w k (.slice (some ad) m cap) m xs)(hy:dS w k y c ys)(hc:cap<m+c)(hc0:0<c)(h63:m+c≤maxLen)(hbytes:(m+c)*bytes≤140737488355328)
  (next:∀a' w' v',Ext w w'→Stp (Ob bl rs) w (Ob bl (⟨e,k,v',m+c,xs++ys⟩::rs)) w'→Rw w0 w' bl (⟨e,k,v',m+c,xs++ys⟩::rs)→St w0 a' w' n ((d,v')::l) bl vs→wpList P ops Q (os.drop 1) a' w')
  (hx:Jc os l=some (t,.slice (some ad) m cap,y,some d):=by kernel_rfl) (hd:zH n (some d)=true:=by rfl):wpList P ops Q os a w:=by
 obtain⟨o,os',s,x,rfl,hg,hdst,hop,hs,hxx⟩:=BI hx;have hst:=iR (bU S.s) o;have es:a.eval s = .slice (some ad) m cap:=fU (Std.act a) (hst s (by rw[hop]; simp[Op.operands,Call.operands])) (p:=[]) rfl hs;have ex:a.eval x=y:=fU (Std.act a) (hst x (by rw[hop]; simp[Op.operands,Call.operands])) (p:=[]) rfl hxx;obtain⟨v',w',hrun,h2,h3⟩:=Vg (P:=P) hop T hv es hy ex hc hc0 h63 hbytes;unfold wpList;rw[aib (by simp[Region.wanted,hg])];left;unfold Oper.wp;rw[hrun];simp only[Oper.upon];rw[hdst];exact next _ _ v' h3 (Stp.add (r:=⟨e,k,v',m+c,xs++ys⟩) h3 h2 (ah9 _)) ((R.ext h3).add (r:=⟨e,k,v',m+c,xs++ys⟩) h2 R.lt S.E.size) ((S.grow h3).act (vY S.s hd v'))
end
end Go.Sx
theorem ait:type_of% @Go.Sx.Stp.ext:=@Go.Sx.Stp.ext
theorem aiF:type_of% @Go.Sx.Stp.trans:=@Go.Sx.Stp.trans
theorem ai2:type_of% @Go.Sx.Rw.nil:=@Go.Sx.Rw.nil
theorem ai7:type_of% @Go.Sx.Stp.lg:=@Go.Sx.Stp.lg
theorem ajf:type_of% @Go.Sx.Stp.sG:=@Go.Sx.Stp.sG
