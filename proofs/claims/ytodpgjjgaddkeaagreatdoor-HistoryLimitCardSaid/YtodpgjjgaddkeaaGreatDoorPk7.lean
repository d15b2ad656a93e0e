/- A region that draws its order and ends with a store: -/
import Derived.Test.YtodpgjjgaddkeaaGreatDoorSy
import Derived.Laws.IdiomCopy
import Derived.Maps.AppendAt
import Derived.ArgAppend
set_option linter.unusedVariables false
set_option linter.unusedSimpArgs false
section
namespace Go.Sx
open Go.Proofs.YtodpgjjgaddkeaaGreatDoor Go.RowKit Go.Rel
section
variable{P:Program}{ops:Array Oper}{Q:Exit→Act→World→Prop}{w0:World}{a:Act}{w:World}{os:List Oper}{n:Nat}{l:List (Nat×Value)}{bl:List (Nat×List Value)}{vs:List eX}
theorem LM{ρ:Operand→Value}{o:Oper}{ty:TypeId}{x y:Operand}{b off:Nat}{A cs:List Value}(hop:o.op = .store ty x y)(hx:ρ x = .q b off)(hy:ρ y = .agg cs.toArray)(hbx:Bx w b A.toArray)
  (hi:(P.info? ty).map (·.size)=some cs.length) (hf:off+cs.length≤A.length) (h1:cs.all (·.oneCell')=true):(execOp ρ o).run P w = .ok .skip (w.setCells b off cs):=by
 have hth:w.there b off cs.toArray.size:=fun j hj=>by
  have h3:j<cs.length:=by simpa using hj
  rw[hbx.2.1,hbx.2.2,Array.getElem?_eq_getElem (by simp; omega)]; exact⟨rfl,rfl⟩
 have h:=run_storeVar_mid (P:=P) w b off ty cs.toArray hth (by rw[hi]; simp) (by rw[←h1]; simp);unfold execOp;simp only[hop,hx,hy,Instr.storeAt,Instr.sureAddr,aAI,aBZ,aBU,h]
def stD(P:Program)(os:List Oper)(m j:Nat)(l:List (Nat×Value)):Option (Nat×Nat×Nat):=
 match os[m]? with
 | some o=>(match o.guard,o.dst,o.op with
  | none,none,.store ty (.tmp s) (.tmp s')=>(match l.lookup s,P.info? ty,(os[j]?).bind (·.dst)with
   | some (.q b off),some i,some d =>
    (match d==s'&&decide (j<m)&&(os.take m).all (fun o => !(o.dst==some s))&&o.after.toList.any (fun g=>g.on==j&&Region.binds .any g)with
    | true=>some (b,off,i.size)
    | false=>none)
   | _,_,_=>none)
  | _,_,_=>none)
 | none=>none
def FP(P:Program)(ops:Array Oper)(os:List Oper)(l:List (Nat×Value)):Option (FuncId×Array Value×Option Nat):=
 match os with
 | o::_=>(match pathOf ops (lift l) o,yO o.op || !o.op.operands.all (fun x=>(rd (lift l) [] x).isSome),iQ (ev0 P (execOp (yA (lift l) []) o))with
  | some p,false,some (.enter f args)=>(match jF (lift l) p with | true=>some (f,args,o.dst) | false=>none)
  | _,_,_=>none)
 | []=>none
theorem zZ(S:St w0 a w n l bl vs){f:FuncId}{args:Array Value}(d:Option Nat){R:Ending→World→Prop}(hc:Calls P f args w R)
  (next:∀e w',R e w'→∃v,e = .returned v∧Ext w w'∧∀a',St w0 a' w' n (yB l d v) bl vs→wpList P ops Q (os.drop 1) a' w')
  (hx:FP P ops os l=some (f,args,d):=by kernel_rfl) (hd:vG n d=true:=by rfl):wpList P ops Q os a w:=by
 cases os with
 | nil=>cases hx
 | cons o os =>
  unfold FP at hx;simp only at hx;split at hx
  ·rename_i p f' args' hp hav hev;split at hx
   ·rename_i hg;simp only[azK,azP]at hx;obtain⟨rfl,rfl,rfl⟩:=hx;simp only[aAz]at hav;have hrun:(execOp a.eval o).run P w = .ok (.enter f' args') w:=lG (Std.act a) (ig (bY S.s) o) (p:=[]) rfl hav.1 (by simpa using hav.2) hev;unfold wpList;rw[azI ((rP (a:=a) hp (fun x _ i y _ hl=>bY S.s i y hl)).2 hg)];left;unfold Oper.wp;rw[hrun];simp only[Oper.upon];refine hc.mono fun e w' hR=>?_;obtain⟨v,rfl,hE,hn⟩:=next e w' hR;exact hn _ ((S.grow hE).act (uP S.s hd v))
   cases hx
  cases hx
end
structure Fr (O:List Nat) (w w':World):Prop where
 os:w'.os=w.os
 tape:w'.tape=w.tape
 output:w'.output=w.output
 size:w.heap.size≤w'.heap.size
 block:∀k,k<w.heap.size→k∉O→w'.heap[k]?=w.heap[k]?
def On(B:Nat→Prop)(F:World→Prop)(w:World):Prop:=∀w',w.heap.size≤w'.heap.size→(∀k,k<w.heap.size→B k→w'.heap[k]?=w.heap[k]?)→F w'
theorem On.self{B:Nat→Prop}{F:World→Prop}{w:World}(h:On B F w):F w:=h w (azJ _) fun _ _ _=>rfl
theorem On.mono{B B':Nat→Prop}{F:World→Prop}{w:World}(h:On B F w)(hB:∀k,B k→B' k):On B' F w:=fun w' hs hb=>h w' hs fun k hk hBk=>hb k hk (hB k hBk)
theorem On.imp{B:Nat→Prop}{F G:World→Prop}{w:World}(h:On B F w)(hi:∀w,F w→G w):On B G w:=fun w' hs hb=>hi _ (h w' hs hb)
theorem On.and{B:Nat→Prop}{F G:World→Prop}{w:World}(h:On B F w)(k:On B G w):On B (fun w=>F w∧G w) w:=fun w' hs hb=>⟨h w' hs hb,k w' hs hb⟩
theorem On.pure{B:Nat→Prop}{p:Prop}{w:World}(h:p):On B (fun _=>p) w:=fun _ _ _=>h
theorem On.ext{B:Nat→Prop}{F:World→Prop}{w w':World}(h:On B F w)(hE:Ext w w'):On B F w':=fun w2 hs hb=>h w2 (az3 hE.size hs) fun k hk hBk=>(hb k (aAa hk hE.size) hBk).trans (hE.block k hk)
abbrev aU (base:Nat)(F:World→Prop)(w:World):Prop:=On (base ≤ ·) F w
abbrev Ow (base:Nat)(O:List Nat)(F:World→Prop)(w:World):Prop:=On (fun k=>base≤k∧k∉O) F w
structure Stp (O:List Nat) (w:World) (O':List Nat) (w':World):Prop where
 fr:Fr O w w'
 new:∀b∈O',b∈O∨w.heap.size≤b
theorem Fr.aZ{O:List Nat}{w w':World}(h:Ext w w'):Fr O w w':=⟨h.os,h.tape,h.output,h.size,fun k hk _=>h.block k hk⟩
theorem Stp.ext{O:List Nat}{w w':World}(h:Ext w w'):Stp O w O w':=⟨Fr.aZ h,fun _ h => .inl h⟩
theorem Stp.trans{O O1 O2:List Nat}{w w1 w2:World}(h:Stp O w O1 w1)(k:Stp O1 w1 O2 w2):Stp O w O2 w2:=
 ⟨⟨k.fr.os.trans h.fr.os,k.fr.tape.trans h.fr.tape,k.fr.output.trans h.fr.output,az3 h.fr.size k.fr.size,fun i hi hn=>by
  refine(k.fr.block i (aAa hi h.fr.size) fun hm=>?_).trans (h.fr.block i hi hn)
  rcases h.new i hm with h1 | h1
  ·exact hn h1
  ·omega⟩,fun b hb=>by
  rcases k.new b hb with h1 | h1
  ·exact h.new b h1
  ·exact .inr (az3 h.fr.size h1)⟩
theorem Stp.sub{O O':List Nat}{w:World}(h:∀b∈O',b∈O):Stp O w O' w:=⟨⟨rfl,rfl,rfl,azJ _,fun _ _ _=>rfl⟩,fun b hb => .inl (h b hb)⟩
theorem On.step{base:Nat}{O O':List Nat}{F:World→Prop}{w w':World}(h:Ow base O F w)(k:Stp O w O' w'):Ow base O' F w':=fun w2 hs hb =>
 h w2 (az3 k.fr.size hs) fun i hi hB=>by
  refine(hb i (aAa hi k.fr.size) ⟨hB.1,fun hm=>?_⟩).trans (k.fr.block i hi hB.2)
  rcases k.new i hm with h1 | h1
  ·exact hB.2 h1
  ·omega
theorem aU.ow{base b0:Nat}{O:List Nat}{F:World→Prop}{w:World}(h:aU base F w)(hb:b0≤base)(hO:∀k∈O,k<base):Ow b0 O F w:=h.mono fun k hk=>⟨az3 hb hk,fun hm=>by have:=hO k hm; omega⟩
theorem Ow.dep{base:Nat}{O:List Nat}{F:World→Prop}{w:World}(h:Ow base O F w):aU base F w:=h.mono fun _ h=>h.1
theorem aU.le{base b0:Nat}{F:World→Prop}{w:World}(h:aU base F w)(hb:b0≤base):aU b0 F w:=h.mono fun _ hk=>az3 hb hk
theorem Fr.below{O:List Nat}{w0 w w':World}(h:Fr O w w')(hE:Ext w0 w)(hO:∀b∈O,w0.heap.size≤b):Ext w0 w':=
 ⟨h.os.trans hE.os,h.tape.trans hE.tape,h.output.trans hE.output,az3 hE.size h.size,fun k hk=>(h.block k (aAa hk hE.size) fun hm=>by have:=hO k hm; omega).trans (hE.block k hk)⟩
structure Row where
 e:TypeId
 k:Nat
 v:Value
 n:Nat
 xs:List Value
def Ob(bl:List (Nat×List Value))(rs:List Row):List Nat:=bl.map (·.1)++rs.filterMap fun r=>r.v.ownBlock
structure Rw (w0 w:World) (bl:List (Nat×List Value)) (rs:List Row):Prop where
 own:∀r∈rs,w.ownsRow w0.heap.size r.e r.k r.v r.n r.xs
 lt:∀b∈Ob bl rs,b<w.heap.size
 apart:(Ob bl rs).Nodup
theorem l9{w w':World}{B:Nat}{e:TypeId}{k n:Nat}{v:Value}{xs:List Value}(h:w.ownsRow B e k v n xs)(hb:∀g,v.ownBlock=some g→w'.heap[g]?=w.heap[g]?):w'.ownsRow B e k v n xs:=by
 obtain⟨h1,h | ⟨g,cap,cur,rfl,h2,h3,h4⟩⟩:=h
 ·exact⟨h1,.inl h⟩
 exact⟨h1,.inr ⟨g,cap,cur,rfl,h2,(hb g rfl).trans h3,h4⟩⟩
theorem iL{w:World}{B:Nat}{e:TypeId}{k n:Nat}{v:Value}{xs:List Value}(h:w.ownsRow B e k v n xs){g:Nat}(hg:v.ownBlock=some g):B≤g∧g<w.heap.size:=by
 obtain⟨h1,⟨rfl,_⟩ | ⟨g,cap,cur,rfl,h2,h3,h4⟩⟩:=h
 ·cases hg
 simp only[Value.ownBlock,azK]at hg;subst hg;exact⟨h2,by
  by_cases hlt:g<w.heap.size
  ·exact hlt
  rw[Array.getElem?_eq_none (by omega)]at h3; cases h3⟩
theorem ownsRow_base{w:World}{B B':Nat}{e:TypeId}{k n:Nat}{v:Value}{xs:List Value}(h:w.ownsRow B e k v n xs)(hB:B'≤B):w.ownsRow B' e k v n xs:=by
 obtain⟨h1,h | ⟨g,cap,cur,rfl,h2,h3⟩⟩:=h
 ·exact⟨h1,.inl h⟩
 exact⟨h1,.inr ⟨g,cap,cur,rfl,az3 hB h2,h3⟩⟩
section
variable{P:Program}{ops:Array Oper}{Q:Exit→Act→World→Prop}{w0:World}{a:Act}{w w':World}{os:List Oper}{n:Nat}{l:List (Nat×Value)}{bl:List (Nat×List Value)}{vs:List eX}{rs:List Row}
theorem jq{r:Row}{g:Nat}(h:r∈rs)(hg:r.v.ownBlock=some g):g∈Ob bl rs:=aBt _ (aBb.2 ⟨r,h,hg⟩)
theorem Rw.nil(S:St w0 a w n l bl vs):Rw w0 w bl []:=by
 have e:Ob bl []=bl.map (·.1):=by simp[Ob]
 refine⟨fun r h=>(by cases h),fun b h=>?_,e▸S.apart⟩;rw[e]at h;obtain⟨p,hp,rfl⟩:=az9.1 h;exact(S.own p hp).1.1
theorem Rw.ext(R:Rw w0 w bl rs)(hE:Ext w w'):Rw w0 w' bl rs:=
 ⟨fun r hr=>l9 (R.own r hr) fun g hg=>hE.block g (R.lt g (jq hr hg)),fun b hb=>aAa (R.lt b hb) hE.size,R.apart⟩
theorem Rw.add{r:Row}{base:Nat}(R:Rw w0 w bl rs)(ho:w.ownsRow base r.e r.k r.v r.n r.xs)(hb:∀b∈Ob bl rs,b<base)(h0:w0.heap.size≤base):Rw w0 w bl (r::rs):=by
 have hmem:∀c,c∈Ob bl (r::rs)→c∈Ob bl rs∨r.v.ownBlock=some c:=fun c hc=>by
  rcases aAl.1 hc with h | h
  ·exact .inl (aBM _ h)
  obtain⟨s,hs,he⟩:=aBb.1 h;rcases azS.1 hs with rfl | hs
  ·exact .inr he
  exact .inl (jq hs he)
 refine⟨fun s hs=>?_,fun c hc=>?_,?_⟩
 ·rcases azS.1 hs with rfl | hs
  ·exact ownsRow_base ho h0
  exact R.own s hs
 ·rcases hmem c hc with h | h
  ·exact R.lt c h
  exact(iL ho h).2
 cases he:r.v.ownBlock with
 | none=>unfold Ob; rw[aB6,he]; exact R.apart
 | some g =>
  unfold Ob;rw[aB6,he];have hn:g∉Ob bl rs:=fun hm=>by have:=hb g hm; have:=(iL ho he).1; omega
  have hd:=aBd.1 R.apart;refine aBd.2 ⟨hd.1,aBN.2 ⟨fun hm=>hn (aBt _ hm),hd.2.1⟩,fun x hx y hy e=>?_⟩;subst e;rcases azS.1 hy with rfl | hy
  ·exact hn (aBM _ hx)
  exact hd.2.2 x hx x hy rfl
theorem Stp.add{r:Row}{base:Nat}(hE:Ext w w')(ho:w'.ownsRow base r.e r.k r.v r.n r.xs)(hb:w.heap.size≤base):Stp (Ob bl rs) w (Ob bl (r::rs)) w':=⟨Fr.aZ hE,fun c hc=>by
 rcases aAl.1 hc with h | h
 ·exact .inl (aBM _ h)
 obtain⟨s,hs,he⟩:=aBb.1 h;rcases azS.1 hs with rfl | hs
 ·exact .inr (az3 hb (iL ho he).1)
 exact .inl (jq hs he)⟩
theorem Rw.sub{Az:List (Nat×List Value)}{rs':List Row}(R:Rw w0 w bl rs)(h1:(Ob Az rs').Sublist (Ob bl rs))(h2:∀r∈rs',r∈rs):Rw w0 w Az rs':=⟨fun r hr=>R.own r (h2 r hr),fun b hb=>R.lt b (h1.subset hb),R.apart.sublist h1⟩
theorem Rw.pop{r:Row}(R:Rw w0 w bl (r::rs)):Rw w0 w bl rs:=R.sub ((List.Sublist.refl _).append (List.Sublist.filterMap _ (List.sublist_cons_self r rs))) fun _ h=>aAT _ h
theorem Rw.old(R:Rw w0 w bl rs)(S:St w0 a w n l bl vs):∀b∈Ob bl rs,w0.heap.size≤b:=fun b hb=>by
 rcases aAl.1 hb with h | h
 ·obtain⟨p,hp,rfl⟩:=az9.1 h; exact(S.own p hp).2
 obtain⟨s,hs,he⟩:=aBb.1 h; exact(iL (R.own s hs) he).1
theorem Rw.set{j:Nat}{r r':Row}(R:Rw w0 w bl rs)(hj:rs[j]?=some r)(hg:w.grownBy w' r.v.ownBlock)(ho:w'.ownsRow w0.heap.size r'.e r'.k r'.v r'.n r'.xs)(hb:r'.v.ownBlock=r.v.ownBlock∨r'.v.ownBlock=some w.heap.size) :
  Rw w0 w' bl (rs.set j r')∧Stp (Ob bl rs) w (Ob bl (rs.set j r')) w':=by
 have hjl:j<rs.length:=by
  by_cases h:j<rs.length
  ·exact h
  rw[List.getElem?_eq_none (by omega)]at hj; cases hj
 have hr:r∈rs:=List.mem_of_getElem? hj;have hsp:rs=rs.take j++r::rs.drop (j+1):=by
  have e:rs[j]=r:=by rw[List.getElem?_eq_getElem hjl]at hj; exact azR hj
  rw[←e,←aAR hjl,aBC]
 have hset:rs.set j r'=rs.take j++r'::rs.drop (j+1):=by rw[List.set_eq_take_append_cons_drop,azI hjl]
 have hO:Ob bl rs=bl.map (·.1)++((rs.take j).filterMap (fun r=>r.v.ownBlock)++(r.v.ownBlock.toList++(rs.drop (j+1)).filterMap fun r=>r.v.ownBlock)):=by
  conv=>lhs; unfold Ob; rw[hsp]
  rw[List.filterMap_append,aB6]; cases r.v.ownBlock<;>rfl
 have hO':Ob bl (rs.set j r')=bl.map (·.1)++((rs.take j).filterMap (fun r=>r.v.ownBlock)++(r'.v.ownBlock.toList++(rs.drop (j+1)).filterMap fun r=>r.v.ownBlock)):=by
  unfold Ob; rw[hset,List.filterMap_append,aB6]; cases r'.v.ownBlock<;>rfl
 have hlt':∀c,r'.v.ownBlock=some c→c<w'.heap.size:=fun c hc=>(iL ho hc).2;have hap:=R.apart;rw[hO]at hap;have hnew:∀c∈Ob bl (rs.set j r'),c∈Ob bl rs∨w.heap.size≤c:=fun c hc=>by
  rw[hO']at hc;rw[hO];simp only[aAl,Option.mem_toList]at hc ⊢;rcases hc with h | h | h | h
  ·exact .inl (.inl h)
  ·exact .inl (.inr (.inl h))
  ·rcases hb with e | e
   ·exact .inl (.inr (.inr (.inl (e▸h))))
   rw[e]at h;simp only[azK]at h;exact .inr (by omega)
  exact .inl (.inr (.inr (.inr h)))
 refine⟨⟨fun s hs=>?_,fun c hc=>?_,?_⟩,⟨⟨hg.os,hg.tape,hg.output,hg.size,fun i hi hn=>hg.block i hi fun e=>hn (jq hr e.symm)⟩,hnew⟩⟩
 ·by_cases al7:s=r'
  ·rw[al7]; exact ho
  have h:s∈rs:=(List.mem_or_eq_of_mem_set hs).resolve_right al7;by_cases hsr:s.v.ownBlock=r.v.ownBlock∧s.v.ownBlock≠none
  ·obtain⟨h1,h2⟩:=hsr;exfalso;rw[hset]at hs;obtain⟨g,hgr⟩:=Option.ne_none_iff_exists'.1 h2;have avk:r.v.ownBlock=some g:=h1▸hgr;rw[avk]at hap;have e1:=(aBd.1 hap).2.1;have e2:=aBd.1 e1;rcases aAl.1 hs with hs | hs
   ·exact e2.2.2 g (aBb.2 ⟨s,hs,hgr⟩) g (by simp) rfl
   have hs:=(azS.1 hs).resolve_left al7;have:=(aBN.1 (show(g::(rs.drop (j+1)).filterMap fun r=>r.v.ownBlock).Nodup from e2.2.1)).1;exact this (aBb.2 ⟨s,hs,hgr⟩)
  refine l9 (R.own s h) fun g hsg=>hg.block g (R.lt g (jq h hsg)) fun e=>hsr ⟨hsg.trans e,by rw[hsg]; simp⟩
 ·rcases hnew c hc with h | h
  ·exact aAa (R.lt c h) hg.size
  rw[hO']at hc;simp only[aAl,Option.mem_toList]at hc;rcases hc with h | h | h | h
  ·exact aAa (R.lt c (by rw[hO]; simp[h])) hg.size
  ·exact aAa (R.lt c (by rw[hO]; simp only[aAl]; exact .inr (.inl h))) hg.size
  ·exact hlt' c h
  exact aAa (R.lt c (by rw[hO]; simp only[aAl]; exact .inr (.inr (.inr h)))) hg.size
 rw[hO'];rcases hb with e | e
 ·rw[e]; exact hap
 rw[e];have hfresh:∀c∈Ob bl rs,c≠w.heap.size:=fun c hc=>by have:=R.lt c hc; omega
 rw[hO]at hfresh;obtain⟨h1,h2,h3⟩:=aBd.1 hap;obtain⟨h4,h5,h6⟩:=aBd.1 h2;obtain⟨h7,h8,h9⟩:=aBd.1 h5;refine aBd.2 ⟨h1,aBd.2 ⟨h4,?_,fun x hx y hy=>?_⟩,fun x hx y hy=>?_⟩
 ·exact aBN.2 ⟨fun hm=>hfresh _ (by simp only[aAl]; exact .inr (.inr (.inr hm))) rfl,h8⟩
 ·rcases azS.1 (show y∈w.heap.size::_ from hy)with rfl | hy
  ·exact hfresh x (by simp only[aAl]; exact .inr (.inl hx))
  exact h6 x hx y (aBt _ hy)
 rcases aAl.1 hy with hy | hy
 ·exact h3 x hx y (aBM _ hy)
 rcases azS.1 (show y∈w.heap.size::_ from hy)with rfl | hy
 ·exact hfresh x (by simp only[aAl]; exact .inl hx)
 exact h3 x hx y (aBt _ (aBt _ hy))
def SB(os:List Oper)(l:List (Nat×Value)):Option (TypeId×Value×Value×Option Nat):=
 match os with
 | o::_=>(match o.guard,o.op with
  | none,.call c=>(match c.callee,c.args.toList,c.argTypes.toList with
   | .builtin .append,[s,x],[t,t']=>(match rd (lift l) [] s,rd (lift l) [] x,t==t' with
    | some v,some y,true=>some (t,v,y,o.dst)
    | _,_,_=>none)
   | _,_,_=>none)
  | _,_=>none)
 | []=>none
theorem Jm{os:List Oper}{t:TypeId}{v y:Value}{d:Option Nat}(h:SB os l=some (t,v,y,d)):∃o os' s x,os=o::os'∧o.guard=none∧o.dst=d∧o.op = .call { callee := .builtin .append,args := #[s,x],argTypes := #[t,t] }∧rd (lift l) [] s=some v∧rd (lift l) [] x=some y:=by
 cases os with
 | nil=>cases h
 | cons o os =>
  unfold SB at h;simp only at h;split at h
  ·rename_i c hg hop;split at h
   ·rename_i s x t1 t2 h1 h2 h3;split at h
    ·rename_i v' y' hv hy ht;simp only[azK,azP]at h;obtain⟨rfl,rfl,rfl,rfl⟩:=h;obtain rfl:t1=t2:=by simpa using ht
     refine⟨o,os,s,x,rfl,hg,rfl,?_,hv,hy⟩;rw[hop];obtain⟨callee,args,argTypes⟩:=c;simp only at h1 h2 h3;rw[h1,←aB4 (xs:=args),←aB4 (xs:=argTypes),h2,h3]
    cases h
   cases h
  cases h
theorem NR{o:Oper}{ρ:Operand→Value}{s x:Operand}{t e:TypeId}(ho:o.op = .call { callee := .builtin .append,args := #[s,x],argTypes := #[t,t] }){z:Value}{k bytes:Nat}(T:iI P t e z k bytes){B:Nat}
  {v:Value} {m:Nat} {xs:List Value} (hown:w.ownsRow B e k v m xs) (hs:ρ s=v) {y:Value} {c:Nat} {ys:List Value} (hy:dP w k y c ys) (hx:ρ x=y) (h63:m+c≤maxLen) (hbytes:(m+c)*bytes≤140737488355328) (hB:B≤w.heap.size) :
  ∃v' w',(execOp ρ o).run P w = .ok (.value v') w'∧w'.ownsRow B e k v' (m+c) (xs++ys)∧w.grownBy w' v.ownBlock∧(v'.ownBlock=v.ownBlock∨v'.ownBlock=some w.heap.size):=by
 obtain⟨i,hi,hz',hsz,hby⟩:=T.info;obtain⟨hl,h1,hy⟩:=hy;rcases hy with ⟨rfl,ad,cap,rfl,hz⟩ | ⟨b,off,cap,rfl,hb,hn,hm,hc⟩
 ·have:ys=[]:=aAZ (by simpa using hl);subst this;rcases ad with _ | ad;case some =>
   obtain⟨v',w',hr,h2,h3,_,h5⟩:=run_append_own_at (P:=P) w B t o.type e i z k bytes T.und hi hz' hsz hby T.zc T.pos v m xs hown ad 0 cap [] (by simp) (by simp) (by simp) h63 hbytes hB;refine⟨v',w',?_,h2,h3,h5⟩;unfold execOp;simp only[ho,resolve,invoke,builtin,aAI,aBZ,aBU,aCn,aAu,aAQ,hs,hx,hr]
  obtain rfl:=hz rfl;have hr:=run_append_owned_none (P:=P) (w:=w) B t o.type e i k T.und hi v m xs hown;refine⟨v,w,?_,by simpa using hown,⟨rfl,rfl,rfl,azJ _,fun _ _ _=>rfl⟩,.inl rfl⟩;unfold execOp;simp only[ho,resolve,invoke,builtin,aAI,aBZ,aBU,aCn,aAu,aAQ,hs,hx,hr]
 have hnews:∀(j:Nat) u,ys[j]?=some u→w.cell? ((⟨b,off,none⟩:Addr).add j)=some u:=by
  intro j u hj;have e1:(⟨b,off,none⟩:Addr).add j=⟨b,off+j,none⟩:=by unfold Addr.add; split<;>simp_all
  rw[e1]; exact hc j u hj
 obtain⟨v',w',hr,h2,h3,_,h5⟩:=run_append_own_at (P:=P) w B t o.type e i z k bytes T.und hi hz' hsz hby T.zc T.pos v m xs hown ⟨b,off,none⟩ c cap ys hl hnews h1 h63 hbytes hB;refine⟨v',w',?_,h2,h3,h5⟩;unfold execOp;simp only[ho,resolve,invoke,builtin,aAI,aBZ,aBU,aCn,aAu,aAQ,hs,hx,hr]
theorem St.grown{w':World}{r:Row}(S:St w0 a w n l bl vs)(R:Rw w0 w bl rs)(hr:r∈rs)(hg:w.grownBy w' r.v.ownBlock):St w0 a w' n l bl []:=by
 have hO:∀b∈Ob bl rs,w0.heap.size≤b:=R.old S;refine⟨S.s,?_,fun p hp=>⟨?_,(S.own p hp).2⟩,S.apart,fun m hm=>by cases hm⟩
 ·refine Fr.below (O:=Ob bl rs) ⟨hg.os,hg.tape,hg.output,hg.size,fun i hi hn=>hg.block i hi fun e=>hn (jq hr e.symm)⟩ S.E hO
 have hne:some p.1≠r.v.ownBlock:=fun e=>by
  have hd:=aBd.1 R.apart;exact hd.2.2 p.1 (az9.2 ⟨p,hp,rfl⟩) p.1 (aBb.2 ⟨r,hr,e.symm⟩) rfl
 have hb:=(S.own p hp).1;have hblk:=hg.block p.1 hb.1 hne;exact⟨aAa hb.1 hg.size,fun i=>(World.cell?_of_block (a:=⟨p.1,i,none⟩) hblk).trans (hb.2.1 i),fun i=>(World.frozen?_of_block (a:=⟨p.1,i,none⟩) hblk).trans (hb.2.2 i)⟩
theorem app(S:St w0 a w n l bl vs)(R:Rw w0 w bl rs)(j:Nat){r:Row}{t:TypeId}{z:Value}{bytes:Nat}(d:Nat)(hj:rs[j]?=some r)(T:iI P t r.e z r.k bytes){y:Value}{m:Nat}{ys:List Value}(hy:dP w r.k y m ys)
  (h63:r.n+m≤maxLen) (hbytes:(r.n+m)*bytes≤140737488355328)
  (next:∀a' w' v',Stp (Ob bl rs) w (Ob bl (rs.set j ⟨r.e,r.k,v',r.n+m,r.xs++ys⟩)) w'→Rw w0 w' bl (rs.set j ⟨r.e,r.k,v',r.n+m,r.xs++ys⟩)→St w0 a' w' n ((d,v')::l) bl []→wpList P ops Q (os.drop 1) a' w')
  (hx:SB os l=some (t,r.v,y,some d):=by kernel_rfl) (hd:vG n (some d)=true:=by rfl):wpList P ops Q os a w:=by
 obtain⟨o,os',s,x,rfl,hg,hdst,hop,hs,hxx⟩:=Jm hx;have hr:r∈rs:=List.mem_of_getElem? hj;have hst:=ig (bY S.s) o;have es:a.eval s=r.v:=gV (Std.act a) (hst s (by rw[hop]; simp[Op.operands,Call.operands])) (p:=[]) rfl hs;have ex:a.eval x=y:=gV (Std.act a) (hst x (by rw[hop]; simp[Op.operands,Call.operands])) (p:=[]) rfl hxx;obtain⟨v',w',hrun,h2,h3,h4⟩:=NR (P:=P) hop T (R.own r hr) es hy ex h63 hbytes S.E.size;obtain⟨R',X⟩:=R.set (r':=⟨r.e,r.k,v',r.n+m,r.xs++ys⟩) hj h3 h2 h4;unfold wpList;rw[azI (by simp[Region.wanted,hg])];left;unfold Oper.wp;rw[hrun];simp only[Oper.upon];rw[hdst];exact next _ _ v' X R' ((S.grown R hr h3).act (uP S.s hd v'))
def wJ(P:Program)(r:Nat)(os:List Oper)(l:List (Nat×Value)):Option (List Value×TypeId×Value×Option Nat):=
 match os with
 | o::_=>(match o.guard,yO o.op || !o.op.operands.all (fun x=>(rd (lift l) [] x).isSome),ED P r (execOp (yA (lift l) []) o)with
  | none,false,some (A,ty,k)=>(match iQ (ev0 P k)with | some (.val v)=>some (A,ty,v,o.dst) | _=>none)
  | _,_,_=>none)
 | []=>none
theorem newRow(S:St w0 a w n l bl vs)(R:Rw w0 w bl rs)(d m:Nat)(e:TypeId)(k:Nat)(A:List Value)(next:∀a' w' v,Ext w w'→Stp (Ob bl rs) w (Ob bl (⟨e,k,v,m,A⟩::rs)) w'→Rw w0 w' bl (⟨e,k,v,m,A⟩::rs)→St w0 a' w' n ((d,v)::l) bl vs→wpList P ops Q (os.drop 1) a' w')
  (hx:∀r,wJ P r os l=some (A,e,.slice (some ⟨r,0,none⟩) m m,some d):=by intro r; kernel_rfl) (hA:A.length=m*k:=by rfl) (hm:m≤maxLen:=by decide) (hd:vG n (some d)=true:=by rfl):wpList P ops Q os a w:=by
 have hx:=hx w.heap.size;cases os with
 | nil=>cases hx
 | cons o os =>
  unfold wJ at hx;simp only at hx;split at hx
  ·rename_i A' ty k' hg hav hev;split at hx
   ·rename_i v hv;simp only[azK,azP]at hx;obtain⟨rfl,rfl,rfl,hdst⟩:=hx;simp only[aAz]at hav;have hc:execOp a.eval o=execOp (yA (lift l) []) o:=by
     refine execOp_congr o (fun cs b e1=>by rw[e1]at hav; cases hav.1) fun x hx=>?_;have h2:=hav.2;simp only[aA3,aBV]at h2;obtain⟨v,hv⟩:=aAN.1 (h2 x hx);rw[gV (Std.act a) (ig (bY S.s) o x hx) (p:=[]) rfl hv];simp[yA,hv]
    have hv':ev0 P k'=some (.value (.slice (some ⟨w.heap.size,0,none⟩) m m)):=by
     unfold iQ at hv;split at hv
     ·rename_i h; obtain h2:=azR hv; rw[h]; simp only[EP.val.injEq]at h2; rw[h2]
     ·cases hv
     cases hv
    have hrun:(execOp a.eval o).run P w = .ok (.value (.slice (some ⟨w.heap.size,0,none⟩) m m)) (w.alloc (.cells A'.toArray ty)):=by rw[hc,mX hev,nN hv']
    unfold wpList;rw[azI (by simp[Region.wanted,hg])];left;unfold Oper.wp;rw[hrun];simp only[Oper.upon];have hE:Ext w (w.alloc (.cells A'.toArray ty)):=aF _ _;have ho:(w.alloc (.cells A'.toArray ty)).ownsRow w.heap.size ty k (.slice (some ⟨w.heap.size,0,none⟩) m m) m A':=
     ⟨hA,.inr ⟨w.heap.size,m,A'.toArray,rfl,azJ _,Array.getElem?_push_size,azJ _,hm,by simpa using hA,by rw[←hA]; simp⟩⟩
    rw[hdst];exact next _ _ _ hE (Stp.add (r:=⟨ty,k,_,m,A'⟩) hE ho (azJ _)) ((R.ext hE).add (r:=⟨ty,k,_,m,A'⟩) ho (fun b hb=>R.lt b hb) S.E.size) ((S.grow hE).act (uP S.s hd _))
   cases hx
  cases hx
theorem Cj(b:Nat)(e:TypeId)(fr:Nat×Nat):∀(us:List Value) (o:Nat) (w:World) (cur:Array Value),w.heap[b]?=some (.cells cur e fr)→o+us.length≤cur.size→(w.setCells b o us).heap[b]?=some (.cells (spl cur.toList o us).toArray e fr)
 | [],o,w,cur,h,hl=>by simp[World.setCells,h,spl]
 | v::r,o,w,cur,h,hl=>by
  have h1:(w.setCell ⟨b,o,none⟩ v).heap[b]?=some (.cells (cur.setIfInBounds o v) e fr):=by simp[World.setCell,Array.getElem?_modify,h]
  have hl':o+(r.length+1)≤cur.size:=by simpa using hl
  rw[World.setCells,Cj b e fr r (o+1) _ _ h1 (by simp; omega)]
  have:spl (cur.setIfInBounds o v).toList (o+1) r=spl cur.toList o (v::r):=by
   rw[Array.toList_setIfInBounds]
   have hol:o<cur.toList.length:=by simp; omega
   generalize cur.toList=c at hol
   obtain⟨p,x,q,rfl,rfl⟩:∃p x q,c=p++x::q∧p.length=o:=⟨c.take o,c[o],c.drop (o+1),by rw[←aAR hol,aBC],by simp; omega⟩
   unfold spl
   have hp:List.take (p.length+1) p=p:=aAp (by omega)
   simp[List.take_append,List.drop_append,Nat.add_assoc,Nat.add_comm 1,hp]
  rw[this]
theorem DK{b:Nat}{cur:Array Value}{e:TypeId}(h:w.heap[b]?=some (.cells cur e (0,0))):Bx w b cur:=by
 refine⟨?_,fun i=>?_,fun i=>?_⟩
 ·by_cases hlt:b<w.heap.size
  ·exact hlt
  rw[Array.getElem?_eq_none (by omega)]at h; cases h
 ·simp[World.cell?,h]
 simp[World.frozen?,h]
theorem afA{A cs:List Value}{o q:Nat}(h:o+cs.length≤q):(spl A o cs).take q=spl (A.take q) o cs:=by
 unfold spl;refine List.ext_getElem? fun i=>?_;simp only[List.getElem?_append,List.getElem?_take,List.getElem?_drop,azL,aBa];by_cases hA:o≤A.length
 ·simp only[aBk hA,aBk (show o≤min q A.length by omega)];by_cases h1:i<o
  ·simp[h1,show i<q by omega,show i<o+cs.length by omega]
  by_cases h2:i<o+cs.length
  ·simp[h1,h2,show i<q by omega]
  by_cases h3:i<q
  ·simp[h2,h3,show o+cs.length+(i-(o+cs.length))<q by omega]
  simp[h2,h3,show ¬o+cs.length+(i-(o+cs.length))<q by omega]
 simp only[Nat.min_eq_right (show A.length≤o by omega),Nat.min_eq_right (show A.length≤q by omega)];by_cases h1:i<A.length
 ·simp[h1,show i<q by omega,show i<o by omega,show i<A.length+cs.length by omega]
 by_cases h2:i<A.length+cs.length
 ·simp[h1,h2,show i<q by omega]
 have h4:∀x,A[o+cs.length+x]?=none:=fun x=>List.getElem?_eq_none (by omega);simp[h2,h4]
theorem Rw.store{j:Nat}{r:Row}{g off cap:Nat}{cs:List Value}(R:Rw w0 w bl rs)(hj:rs[j]?=some r)(hv:r.v = .slice (some ⟨g,0,none⟩) r.n cap)(hf:off+cs.length≤r.xs.length) :
  ∃A:List Value,Bx w g A.toArray∧off+cs.length≤A.length∧w.grownBy (w.setCells g off cs) r.v.ownBlock∧(w.setCells g off cs).ownsRow w0.heap.size r.e r.k r.v r.n (spl r.xs off cs):=by
 have ho:=R.own r (List.mem_of_getElem? hj);obtain⟨h1,⟨hn,-⟩ | ⟨g',cap',cur,hv',h2,h3,h4,h5,h6,h7⟩⟩:=ho
 ·rw[hv]at hn; cases hn
 rw[hv]at hv';simp only[aAg,azK,aBI,and_true,true_and]at hv';obtain⟨rfl,rfl⟩:=hv';have hlen:r.n*r.k≤cur.toList.length:=by
  rw[Array.length_toList,h6]; exact aA7 _ h4
 refine⟨cur.toList,by simpa using DK h3,by omega,?_,?_⟩
 ·rw[hv]; exact(Ch.refl g w).setCells ..
 refine⟨?_,.inr ⟨g,cap,(spl cur.toList off cs).toArray,hv,h2,Cj g r.e (0,0) cs off w cur h3 (by simp at hlen ⊢; omega),h4,h5,?_,?_⟩⟩
 ·unfold spl; simp; omega
 ·unfold spl; simp at hlen ⊢; omega
 rw[show(spl cur.toList off cs).toArray.toList=spl cur.toList off cs from rfl,afA (by omega),h7]
theorem adW(S:St w0 a w n l bl vs)(R:Rw w0 w bl rs)(j:Nat){r:Row}{g off cap:Nat}{cs:List Value}(hj:rs[j]?=some r)(hv:r.v = .slice (some ⟨g,0,none⟩) r.n cap)(hf:off+cs.length≤r.xs.length)
  (next:∀w',Stp (Ob bl rs) w (Ob bl (rs.set j ⟨r.e,r.k,r.v,r.n,spl r.xs off cs⟩)) w'→Rw w0 w' bl (rs.set j ⟨r.e,r.k,r.v,r.n,spl r.xs off cs⟩)→St w0 a w' n l bl []→wpList P ops Q (os.drop 1) a w')
  (hx:lq P os l=some (g,off,.agg cs.toArray,cs.length):=by kernel_rfl) (h1:cs.all (·.oneCell')=true:=by kernel_rfl):wpList P ops Q os a w:=by
 obtain⟨o,os',ty,x,y,rfl,hg,hdst,hop,hxx,hyy,hi⟩:=pU hx;obtain⟨A,hbx,hfA,hgr,ho⟩:=R.store hj hv hf;have hst:=ig (bY S.s) o;have ex:a.eval x = .q g off:=gV (Std.act a) (hst x (by rw[hop]; simp[Op.operands])) (p:=[]) rfl hxx;have ey:a.eval y = .agg cs.toArray:=gV (Std.act a) (hst y (by rw[hop]; simp[Op.operands])) (p:=[]) rfl hyy;have hrun:=LM (P:=P) hop ex ey hbx hi hfA h1;obtain⟨R',X⟩:=R.set (r':=⟨r.e,r.k,r.v,r.n,spl r.xs off cs⟩) hj hgr ho (.inl rfl);unfold wpList;rw[azI (by simp[Region.wanted,hg])];left;unfold Oper.wp;rw[hrun];simp only[Oper.upon];rw[hdst];exact next _ X R' (S.grown R (List.mem_of_getElem? hj) hgr)
theorem XE{ρ:Operand→Value}{o:Oper}{ty:TypeId}{x y:Operand}{b off:Nat}{A:List Value}{v:Value}(hop:o.op = .store ty x y)(hx:ρ x = .q b off)(hy:ρ y=v)(hbx:Bx w b A.toArray)
  (hi:(P.info? ty).map (·.size)=some 1) (hf:off<A.length) (h1:v.cells = #[v]) (h1':v.oneCell'=true):(execOp ρ o).run P w = .ok .skip (w.setCells b off [v]):=by
 have hcell:=hbx.2.1 off;rw[Array.getElem?_eq_getElem (by simpa using hf)]at hcell;have hrun:(Instr.storeAt ty (.q b off) v).run P w = .ok () (w.setCells b off [v]):=by
  cases hq:P.info? ty with
  | none=>simp[hq]at hi
  | some i =>
   have hsz:i.size=1:=by simpa[hq]using hi
   have:=run_storeCells_cells (P:=P) b off [v] 0 w (fun j hj=>by
    have:j=0:=by simpa using hj
    subst this; simp[hcell]) (fun j hj=>by simpa using hbx.2.2 (off+j)) (fun u hu=>by simp at hu; subst hu; exact h1')
   simp only[aBz]at this;simp[Instr.storeAt,Instr.sureAddr,storeVar,sizeOf,typeInfo,hq,h1,hsz,this]
 unfold execOp;simp only[hop,hx,hy,aAI,hrun,aBU,aBZ]
theorem Le(S:St w0 a w n l bl vs)(R:Rw w0 w bl rs)(j:Nat){r:Row}{g off cap:Nat}{v:Value}(hj:rs[j]?=some r)(hv:r.v = .slice (some ⟨g,0,none⟩) r.n cap)(hf:off+1≤r.xs.length)
  (next:∀w',Stp (Ob bl rs) w (Ob bl (rs.set j ⟨r.e,r.k,r.v,r.n,spl r.xs off [v]⟩)) w'→Rw w0 w' bl (rs.set j ⟨r.e,r.k,r.v,r.n,spl r.xs off [v]⟩)→St w0 a w' n l bl []→wpList P ops Q (os.drop 1) a w')
  (hx:lq P os l=some (g,off,v,1):=by kernel_rfl) (h1:v.cells = #[v]:=by kernel_rfl) (h1':v.oneCell'=true:=by kernel_rfl):wpList P ops Q os a w:=by
 obtain⟨o,os',ty,x,y,rfl,hg,hdst,hop,hxx,hyy,hi⟩:=pU hx;obtain⟨A,hbx,hfA,hgr,ho⟩:=R.store (cs:=[v]) hj hv hf;have hst:=ig (bY S.s) o;have ex:a.eval x = .q g off:=gV (Std.act a) (hst x (by rw[hop]; simp[Op.operands])) (p:=[]) rfl hxx;have ey:a.eval y=v:=gV (Std.act a) (hst y (by rw[hop]; simp[Op.operands])) (p:=[]) rfl hyy;have hrun:=XE (P:=P) hop ex ey hbx hi (by simp at hfA; omega) h1 h1';obtain⟨R',X⟩:=R.set (r':=⟨r.e,r.k,r.v,r.n,spl r.xs off [v]⟩) hj hgr ho (.inl rfl);unfold wpList;rw[azI (by simp[Region.wanted,hg])];left;unfold Oper.wp;rw[hrun];simp only[Oper.upon];rw[hdst];exact next _ X R' (S.grown R (List.mem_of_getElem? hj) hgr)
theorem Rw.range{r:Row}{g cap:Nat}(R:Rw w0 w bl rs)(hr:r∈rs)(hv:r.v = .slice (some ⟨g,0,none⟩) r.n cap)(o:Nat){cs:List Value}(h:(r.xs.drop o).take cs.length=cs):w.rangeAt g o cs∧g<w.heap.size∧∀p∈bl,p.1≠g:=by
 have ho:=R.own r hr;have hb:r.v.ownBlock=some g:=by rw[hv]; rfl
 refine⟨fun j u hj=>?_,(iL ho hb).2,fun p hp e=>?_⟩
 ·obtain⟨h1,⟨hn,-⟩ | ⟨g',cap',cur,hv',h2,h3,h4,h5,h6,h7⟩⟩:=ho
  ·rw[hv]at hn; cases hn
  rw[hv]at hv';simp only[aAg,azK,aBI,and_true,true_and]at hv';obtain⟨rfl,rfl⟩:=hv';rw[(DK h3).2.1];have hx:r.xs[o+j]?=some u:=by
   rw[←h,List.getElem?_take]at hj;split at hj
   ·rwa [List.getElem?_drop]at hj
   cases hj
  rw[←h7,List.getElem?_take]at hx;split at hx
  ·simpa using hx
  cases hx
 have hd:=aBd.1 R.apart;subst e;exact hd.2.2 p.1 (az9.2 ⟨p,hp,rfl⟩) p.1 (aBb.2 ⟨r,hr,hb⟩) rfl
theorem rH{α β:Type}{f:α→List β}{k:Nat}(hf:∀x,(f x).length=k):∀(l:List α) (i:Nat) (h:i<l.length) (j:Nat),j<k→(l.flatMap f)[i*k+j]?=(f l[i])[j]?
 | x::l,0,_,j,hj=>by
  rw[aAO,List.getElem?_append_left (by rw[hf]; omega)]; simp
 | x::l,i+1,h,j,hj=>by
  rw[aAO,List.getElem?_append_right (by rw[hf,aA8]; omega),hf,show(i+1)*k+j-k=i*k+j by rw[aA8]; omega]
  exact rH hf l i (by simpa using h) j hj
theorem kP{α β:Type}{f:α→List β}{k:Nat}(hf:∀x,(f x).length=k):∀l:List α,(l.flatMap f).length=l.length*k
 | []=>by simp
 | x::l=>by rw[aAO,azL,hf,kP hf l,aAn,aA8]; omega
theorem kQ{α:Type}{f:α→List Value}{B k:Nat}{e:TypeId}{v:Value}{m:Nat}{L:List α}{xs:List Value}(hf:∀x,(f x).length=k)(ho:w.ownsRow B e k v m xs)(hm:m=L.length)(hx:xs=L.flatMap f):aU B (fun w=>aI k f w v L) w:=by
 intro w' hs hb;subst hm hx;obtain⟨h1,⟨rfl,h0⟩ | ⟨g,cap,cur,rfl,h2,h3,h4,h5,h6,h7⟩⟩:=ho
 ·obtain rfl:=aAZ h0;exact dI k f w'
 have hlt:=(DK h3).1;refine⟨_,cap,rfl,h5,.inr ⟨g,0,rfl,aAa hlt hs,h4,fun i hi j hj=>?_⟩⟩;have hb':=hb g hlt h2;rw[World.cell?_of_block (a:=⟨g,0+i*k+j,none⟩) hb',(DK h3).2.1,aAD,←rH hf L i hi j hj,←h7,List.getElem?_take_of_lt]
 ·simp
 calc i*k+j<i*k+k:=by omega
  _=(i+1)*k:=by rw[aA8]; omega
  _≤L.length*k:=aA7 _ hi
def Ty(e:TypeId)(k base:Nat)(v:Value)(n:Nat)(w:World):Prop:=n=0∨∃g cap cur,v = .slice (some ⟨g,0,none⟩) n cap∧base≤g∧w.heap[g]?=some (.cells cur e (0,0))∧n*k≤cur.size
theorem Ty.le{e:TypeId}{k base b0 n:Nat}{v:Value}(h:Ty e k base v n w)(hb:b0≤base):Ty e k b0 v n w:=by
 rcases h with h | ⟨g,cap,cur,h1,h2,h3⟩
 ·exact .inl h
 exact .inr ⟨g,cap,cur,h1,az3 hb h2,h3⟩
theorem Ty.al8{B k:Nat}{e:TypeId}{v:Value}{m:Nat}{xs:List Value}(ho:w.ownsRow B e k v m xs):aU B (Ty e k B v m) w:=by
 intro w' hs hb;obtain⟨h1,⟨rfl,h0⟩ | ⟨g,cap,cur,rfl,h2,h3,h4,h5,h6,h7⟩⟩:=ho
 ·exact .inl h0
 exact .inr ⟨g,cap,cur,rfl,h2,(hb g (DK h3).1 h2).trans h3,by rw[h6]; exact aA7 _ h4⟩
def nZ{α:Type}(e:TypeId)(k:Nat)(f:α→List Value)(base:Nat)(v:Value)(L:List α)(w:World):Prop:=aI k f w v L∧Ty e k base v L.length w
theorem nZ.le{α:Type}{e:TypeId}{k base b0:Nat}{f:α→List Value}{v:Value}{L:List α}(h:nZ e k f base v L w)(hb:b0≤base):nZ e k f b0 v L w:=⟨h.1,h.2.le hb⟩
theorem jV{α:Type}{f:α→List Value}{B k:Nat}{e:TypeId}{v:Value}{m:Nat}{L:List α}{xs:List Value}(hf:∀x,(f x).length=k)(ho:w.ownsRow B e k v m xs)(hm:m=L.length)(hx:xs=L.flatMap f):aU B (nZ e k f B v L) w:=
 On.and (kQ hf ho hm hx) (hm▸Ty.al8 ho)
theorem nR{α:Type}{f:α→List Value}{k:Nat}{v:Value}{L:List α}(h:aI k f w v L)(hf:∀x,(f x).length=k)(h1:∀x,(f x).all (·.oneCell')=true):dP w k v L.length (L.flatMap f):=by
 refine⟨kP hf L,fun u hu=>?_,?_⟩
 ·obtain⟨x,_,hx⟩:=List.mem_flatMap.1 hu;exact aAh.1 (h1 x) u hx
 obtain⟨a,cap,rfl,hm,⟨rfl,h⟩ | ⟨b,o,rfl,hb,hl,hc⟩⟩:=h
 ·exact .inl ⟨rfl,a,cap,rfl,h⟩
 refine .inr ⟨b,o,cap,rfl,hb,hl,hm,fun j u hj=>?_⟩;have hjl:j<L.length*k:=by
  rw[←kP hf L];by_cases h:j<(L.flatMap f).length
  ·exact h
  rw[List.getElem?_eq_none (by omega)]at hj; cases hj
 have hk:0<k:=by
  rcases aAt k with rfl | h
  ·simp at hjl
  exact h
 have hi:j/k<L.length:=(aCq hk).2 hjl;have hq:=hc (j/k) hi (j%k) (aAY _ hk);have e:j/k*k+j%k=j:=by rw[aAm]; exact Nat.div_add_mod j k
 rw[←rH hf L (j/k) hi (j%k) (aAY _ hk),e,aBD,e,hj]at hq;exact hq
abbrev vb (bl:List (Nat×List Value)):List Nat:=bl.map (·.1)
theorem Stp.akm{O O':List Nat}{b:Nat}(h:Stp O w O' w')(hb:w.heap.size≤b):Stp O w (b::O') w':=⟨h.fr,fun c hc=>by
 rcases azS.1 hc with rfl | hc
 ·exact .inr hb
 exact h.new c hc⟩
theorem Stp.qG{O:List Nat}{b:Nat}(hE:Ext w w')(hb:b=w.heap.size):Stp O w (b::O) w':=(Stp.ext hE).akm (aCb hb.symm)
theorem Stp.Oc{O:List Nat}{b:Nat}(hc:Ch b w w')(hb:b∈O:=by simp[Go.Sx.vb]):Stp O w O w':=
 ⟨⟨hc.os,hc.tape,hc.output,hc.size,fun i hi hn=>hc.block i hi fun e=>hn (by simp only[azK]at e; rwa [e])⟩,fun c h => .inl h⟩
theorem Stp.jJ(k:Nat):Stp (vb bl) w (vb (bl.drop k)) w:=Stp.sub fun _ h=>(List.Sublist.map _ (List.drop_sublist k bl)).subset h
theorem Stp.full{Az:List (Nat×List Value)}(h:Stp (vb bl) w (vb Az) w'):Stp (Ob bl rs) w (Ob Az rs) w':=
 ⟨⟨h.fr.os,h.fr.tape,h.fr.output,h.fr.size,fun i hi hn=>h.fr.block i hi fun hm=>hn (aBM _ hm)⟩,fun b hb=>by
  rcases aAl.1 hb with hb | hb
  ·exact(h.new b hb).imp (aBM _) id
  ·exact .inl (aBt _ hb)⟩
theorem Rw.sync{Az:List (Nat×List Value)}{vs':List eX}{l':List (Nat×Value)}{a':Act}(R:Rw w0 w bl rs)(Y:Stp (vb bl) w (vb Az) w')(S:St w0 a' w' n l' Az vs'):Rw w0 w' Az rs:=by
 have hd:=aBd.1 R.apart;refine⟨fun r hr=>l9 (R.own r hr) fun g hg=>Y.fr.block g (R.lt g (jq hr hg)) fun hm=>hd.2.2 g hm g (aBb.2 ⟨r,hr,hg⟩) rfl,fun b hb=>?_,aBd.2 ⟨S.apart,hd.2.1,fun x hx y hy e=>?_⟩⟩
 ·rcases aAl.1 hb with h | h
  ·obtain⟨p,hp,rfl⟩:=az9.1 h; exact(S.own p hp).1.1
  exact aAa (R.lt b (aBt _ h)) Y.fr.size
 subst e;rcases Y.new x hx with h | h
 ·exact hd.2.2 x h x hy rfl
 have:=R.lt x (aBt _ hy); omega
theorem Rw.bP{Az:List (Nat×List Value)}{vs':List eX}{l':List (Nat×Value)}{a':Act}(R:Rw w0 w bl rs)(S:St w0 a' w' n l' Az vs')(Y:Stp (vb bl) w (vb Az) w'):Rw w0 w' Az rs∧Stp (Ob bl rs) w (Ob Az rs) w':=⟨R.sync Y S,Y.full⟩
theorem Rw.as{rs':List Row}(R:Rw w0 w bl rs)(h:rs=rs'):Rw w0 w bl rs':=h▸R
theorem oz{B:Nat}{e:TypeId}{k m:Nat}{v:Value}{xs:List Value}(h:w.ownsRow B e k v m xs):∃a c,v = .slice a m c:=by
 obtain⟨h1,⟨rfl,rfl⟩ | ⟨g,cap,cur,rfl,_⟩⟩:=h
 ·exact⟨none,0,rfl⟩
 exact⟨_,cap,rfl⟩
theorem qJ{b m k:Nat}{A:List Value}(hx:Bx w b A.toArray)(hA:A.length=m*k:=by rfl)(hm:m≤maxLen:=by decide)(h1:A.all (·.oneCell')=true:=by kernel_rfl):dP w k (.slice (some ⟨b,0,none⟩) m m) m A:=
 ⟨hA,fun u hu=>aAh.1 h1 u hu,.inr ⟨b,0,m,rfl,hx.1,azJ _,hm,fun j u hj=>by rw[aAD,hx.2.1]; simpa using hj⟩⟩
theorem ER{t ty e:TypeId}{i:TypeInfo}(ht:P.underlying t=some (.slice e))(hi:P.info? e=some i)(ad y:Option Addr)(n cap c:Nat)(hn:n≤cap):(Builtin.append_ #[t,t] ty #[.slice ad n cap,.slice y 0 c]).run P w = .ok (.slice ad n cap) w:=by
 cases ad<;>cases y<;>simp[Builtin.append_,run_underlying ht,sizeOf,typeInfo,hi,Builtin.lenOf,Builtin.firstCells,hn,storeCells,loadCells,loadCellsFrom]
theorem QZ{o:Oper}{ρ:Operand→Value}{s x:Operand}{t e:TypeId}(ho:o.op = .call { callee := .builtin .append,args := #[s,x],argTypes := #[t,t] }){z:Value}{k bytes:Nat}(T:iI P t e z k bytes)
  {ad:Addr} {m cap:Nat} {xs:List Value} (hv:dP w k (.slice (some ad) m cap) m xs) (hs:ρ s = .slice (some ad) m cap) {y:Value} {c:Nat} {ys:List Value} (hy:dP w k y c ys) (hx:ρ x=y) (hc:cap<m+c) (hc0:0<c) (h63:m+c≤maxLen) (hbytes:(m+c)*bytes≤140737488355328) :
  ∃v' w',(execOp ρ o).run P w = .ok (.value v') w'∧w'.ownsRow w.heap.size e k v' (m+c) (xs++ys)∧Ext w w':=by
 obtain⟨i,hi,hz',hsz,hby⟩:=T.info;obtain⟨hl,h1,hy⟩:=hy;rcases hy with ⟨rfl,_⟩ | ⟨b,off,cap',rfl,hb,hn,hm,hcc⟩
 ·omega
 have cells:∀(b off:Nat) (us:List Value),(∀(j:Nat) u,us[j]?=some u→w.cell? ⟨b,off+j,none⟩=some u)→∀(j:Nat) u,us[j]?=some u→w.cell? ((⟨b,off,none⟩:Addr).add j)=some u:=fun b off us h j u hj=>by
  have e1:(⟨b,off,none⟩:Addr).add j=⟨b,off+j,none⟩:=by unfold Addr.add; split<;>simp_all
  rw[e1]; exact h j u hj
 have hold:∀(j:Nat) u,xs[j]?=some u→w.cell? (ad.add j)=some u:=by
  obtain⟨hl1,_,hv⟩:=hv;rcases hv with ⟨rfl,_⟩ | ⟨b0,o0,cap0,hv',_,_,_,hc0⟩
  ·obtain rfl:xs=[]:=aAZ (by simpa using hl1);intro j u hj; simp at hj
  simp only[aAg,azK]at hv';obtain⟨rfl,-,-⟩:=hv';exact cells b0 o0 xs hc0
 obtain⟨v',w',hr,h2,h3⟩:=run_append_arg_grows (P:=P) w t o.type e i z k bytes T.und hi hz' hsz hby T.zc T.pos ad m cap xs hv.1 hold ⟨b,off,none⟩ c cap' ys hl (cells b off ys hcc) hc h63 hbytes;refine⟨v',w',?_,h2,gq (az5 _ _) h3 (azJ _)⟩;unfold execOp;simp only[ho,resolve,invoke,builtin,aAI,aBZ,aBU,aCn,aAu,aAQ,hs,hx,hr]
theorem apS(S:St w0 a w n l bl vs)(R:Rw w0 w bl rs){t e:TypeId}{z:Value}{k bytes:Nat}(d:Nat)(T:iI P t e z k bytes){ad:Addr}{m cap c:Nat}{xs ys:List Value}{y:Value}(hv:dP w k (.slice (some ad) m cap) m xs)(hy:dP w k y c ys)(hc:cap<m+c)(hc0:0<c)(h63:m+c≤maxLen)(hbytes:(m+c)*bytes≤140737488355328)
  (next:∀a' w' v',Ext w w'→Stp (Ob bl rs) w (Ob bl (⟨e,k,v',m+c,xs++ys⟩::rs)) w'→Rw w0 w' bl (⟨e,k,v',m+c,xs++ys⟩::rs)→St w0 a' w' n ((d,v')::l) bl vs→wpList P ops Q (os.drop 1) a' w')
  (hx:SB os l=some (t,.slice (some ad) m cap,y,some d):=by kernel_rfl) (hd:vG n (some d)=true:=by rfl):wpList P ops Q os a w:=by
 obtain⟨o,os',s,x,rfl,hg,hdst,hop,hs,hxx⟩:=Jm hx;have hst:=ig (bY S.s) o;have es:a.eval s = .slice (some ad) m cap:=gV (Std.act a) (hst s (by rw[hop]; simp[Op.operands,Call.operands])) (p:=[]) rfl hs;have ex:a.eval x=y:=gV (Std.act a) (hst x (by rw[hop]; simp[Op.operands,Call.operands])) (p:=[]) rfl hxx;obtain⟨v',w',hrun,h2,h3⟩:=QZ (P:=P) hop T hv es hy ex hc hc0 h63 hbytes;unfold wpList;rw[azI (by simp[Region.wanted,hg])];left;unfold Oper.wp;rw[hrun];simp only[Oper.upon];rw[hdst];exact next _ _ v' h3 (Stp.add (r:=⟨e,k,v',m+c,xs++ys⟩) h3 h2 (azJ _)) ((R.ext h3).add (r:=⟨e,k,v',m+c,xs++ys⟩) h2 R.lt S.E.size) ((S.grow h3).act (uP S.s hd v'))
end
end Go.Sx
end
theorem az1:type_of% @Go.Sx.On.ext:=@Go.Sx.On.ext
theorem az2:type_of% @Go.Sx.Stp.trans:=@Go.Sx.Stp.trans
theorem az7:type_of% @Go.Sx.Stp.ext:=@Go.Sx.Stp.ext
theorem aAd:type_of% @Go.Sx.On.and:=@Go.Sx.On.and
theorem aAj:type_of% @Go.Sx.On.self:=@Go.Sx.On.self
theorem aAo:type_of% @Go.Sx.Rw.nil:=@Go.Sx.Rw.nil
theorem aAE:type_of% @Go.Sx.Stp.jJ:=@Go.Sx.Stp.jJ
theorem aAF:type_of% @Go.Sx.On.imp:=@Go.Sx.On.imp
theorem aAM:type_of% @Go.Sx.Stp.qG:=@Go.Sx.Stp.qG
theorem aA2:type_of% @Go.Sx.On.step:=@Go.Sx.On.step
theorem aBL:type_of% @Go.Sx.On.mono:=@Go.Sx.On.mono
