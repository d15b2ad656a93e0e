/- What the program's Apply does is what the reference's does. No program in sight. The difference of two scenes by keys, and what applying it yields. No program in sight. -/
import Derived.Test.YtfmkkemfhjkajaaGreatDoorPk32
section
namespace Go.Proofs.YtfmkkemfhjkajaaGreatDoor
set_option linter.unusedVariables false
def room1(p:NodeK):Int:=if p.kind=1 then p.depth+1 else p.depth
def lastRoom(r:Int)(a:List NodeK):Int:=match a.getLast? with | none=>r | some p=>room1 p
def Steps(r:Int):List NodeK→Prop
 | []=>True
 | x::t=>x.depth≤r∧Steps (room1 x) t
theorem lastRoom_cons(r:Int)(x:NodeK)(a:List NodeK):lastRoom r (x::a)=lastRoom (room1 x) a:=by
 unfold lastRoom
 cases a with
 | nil=>rfl
 | cons y a=>rw[List.getLast?_cons_cons]; cases h:(y::a).getLast? with
  | none=>simp at h
  | some p=>rfl
theorem Steps_append:∀{a b:List NodeK} {r:Int},Steps r (a++b)↔Steps r a∧Steps (lastRoom r a) b
 | [],b,r=>by simp only[List.nil_append,Steps,true_and]; rfl
 | x::a,b,r=>by
  rw[List.cons_append,lastRoom_cons]
  show x.depth≤r∧Steps (room1 x) (a++b)↔(x.depth≤r∧Steps (room1 x) a)∧_
  rw[Steps_append,and_assoc]
theorem Steps.mono{r r':Int}(h:r≤r'):∀{l:List NodeK},Steps r l→Steps r' l
 | [],_=>trivial
 | x::l,hl=>⟨by have:=hl.1; omega,hl.2⟩
theorem VL_steps{l:List NodeK}:VL l↔(∀x∈l,x.chk=0)∧(l.map NodeK.id).Nodup∧Steps 0 l:=by
 rw[VL_iff]
 refine and_congr_right fun _=>and_congr_right fun _=>?_
 have key:∀(l:List NodeK) (r:Int),(∀a x b,l=a++x::b→x.depth≤lastRoom r a)↔Steps r l:=by
  intro l
  induction l with
  | nil=>intro r; exact⟨fun _=>trivial,fun _ a x b h=>by simp at h⟩
  | cons y l ih =>
   intro r
   show _↔y.depth≤r∧Steps (room1 y) l
   rw[←ih]
   constructor
   ·intro h
    refine⟨h [] y l rfl,fun a x b e=>?_⟩
    rw[←lastRoom_cons r]
    exact h (y::a) x b (by rw[e]; rfl)
   ·rintro⟨h1,h2⟩ a x b e
    cases a with
    | nil =>
     simp only[List.nil_append,List.cons.injEq]at e
     rw[←e.1]; exact h1
    | cons z a =>
     simp only[List.cons_append,List.cons.injEq]at e
     rw[←e.1,lastRoom_cons]
     exact h2 a x b e.2
 exact key l 0
theorem room1_nn{p:NodeK}(h:0≤p.depth):0≤room1 p:=by unfold room1; split<;>omega
theorem lastRoom_nn{r:Int}{a:List NodeK}(hr:0≤r)(h:∀p∈a,0≤p.depth):0≤lastRoom r a:=by
 unfold lastRoom
 cases e:a.getLast? with
 | none=>exact hr
 | some p=>exact room1_nn (h p (List.mem_of_getLast? e))
theorem VL.depth{l:List NodeK}(h:VL l):∀x∈l,0≤x.depth∧x.depth<8:=fun x hx=>(NodeK.chk_facts ((VL_iff.1 h).1 x hx)).2.2.2.2
/-- A list cut into head, a node with what lies below it, and the rest. -/
theorem Steps.cut{A B S:List NodeK}{x:NodeK}{r:Int}(h:Steps r (A++x::(S++B)))(hB:∀y∈B.head?,y.depth≤x.depth):Steps r (A++B):=by
 rw[Steps_append]at h ⊢
 refine⟨h.1,?_⟩
 cases B with
 | nil=>trivial
 | cons y B =>
  have h1:=hB y rfl
  have h2:=h.2.1
  have h3:=(Steps_append.1 h.2.2).2
  exact⟨by omega,h3.2⟩
theorem VL.sub{l m:List NodeK}(h:VL l)(hs:m.Sublist l)(hm:Steps 0 m):VL m:=by
 obtain⟨h1,h2,h3⟩:=VL_steps.1 h
 exact VL_steps.2 ⟨fun x hx=>h1 x (hs.subset hx),h2.sublist (hs.map _),hm⟩
theorem VL.take{l:List NodeK}(h:VL l)(n:Nat):VL (l.take n):=by
 refine h.sub (List.take_sublist n l) ?_
 have:=(VL_steps.1 h).2.2
 rw[←List.take_append_drop n l,Steps_append]at this
 exact this.1
theorem drop_cons{l:List NodeK}{i:Nat}(hi:i<l.length):l=l.take i++l[i]::l.drop (i+1):=by rw[List.getElem_cons_drop,List.take_append_drop]
theorem VL.cutK{l:List NodeK}{i:Nat}(h:VL l)(hi:i<l.length):VL (cutK l i (endK l i)):=by
 obtain⟨e1,e2⟩:=endK_le hi
 refine h.sub ?_ ?_
 ·unfold Go.Proofs.YtfmkkemfhjkajaaGreatDoor.cutK
  have:l=l.take i++l.drop i:=(List.take_append_drop _ _).symm
  have e3:l.drop (endK l i)=(l.drop i).drop (endK l i-i):=by rw[List.drop_drop]; congr 1; omega
  rw[e3]
  have h5:=List.Sublist.append_left (List.drop_sublist (endK l i-i) (l.drop i)) (l.take i)
  rw[List.take_append_drop]at h5
  exact h5
 ·have hs:=(VL_steps.1 h).2.2
  have e:l=l.take i++l[i]::((l.drop (i+1)).take (endK l i-(i+1))++l.drop (endK l i)):=by
   conv=>lhs; rw[drop_cons hi]
   congr 2
   rw[show l.drop (endK l i)=(l.drop (i+1)).drop (endK l i-(i+1)) by rw[List.drop_drop]; congr 1; omega,List.take_append_drop]
  rw[e]at hs
  refine Steps.cut hs fun y hy=>?_
  rw[List.head?_drop]at hy
  have hl:endK l i<l.length:=by
   by_cases hx:endK l i<l.length
   ·exact hx
   ·rw[List.getElem?_eq_none (by omega)]at hy; cases hy
  rw[List.getElem?_eq_getElem hl]at hy
  cases hy
  have h4:=(finN_spec (n:=l.length) (f:=depK l) hi).2.2.2
  rw[←endK_fin hi,depK_at hi,depK_at hl]at h4
  exact h4 hl
theorem segK_cons{l:List NodeK}{i:Nat}(hi:i<l.length):segK l i (endK l i)=l[i]::(l.drop (i+1)).take (endK l i-(i+1)):=by
 have:=endK_le hi
 unfold segK
 rw[←List.getElem_cons_drop hi,show endK l i-i=(endK l i-(i+1))+1 by omega,List.take_succ_cons]
theorem segK_mem{l:List NodeK}{i j:Nat}{x:NodeK}(h:x∈segK l i j):x∈l:=List.mem_of_mem_drop (List.mem_of_mem_take h)
theorem putK_length{l m:List NodeK}{k:Nat}(hk:k≤l.length):(putK l k m).length=l.length+m.length:=by
 unfold putK
 rw[List.length_append,List.length_append,List.length_take,List.length_drop]; omega
theorem cut_seg_length{l:List NodeK}{i j:Nat}(h1:i≤j)(h2:j≤l.length):(cutK l i j).length+(segK l i j).length=l.length:=by
 unfold cutK segK
 rw[List.length_append,List.length_take,List.length_drop,List.length_take,List.length_drop]; omega
/-- Behind right nodes, a wrong one is what Check tells. -/
theorem chkFrom_wrong:∀{a b pre:List NodeK} {x:NodeK},VFrom pre a→wrongK (pre++a) x≠0→chkFrom pre (a++x::b)=(wrongK (pre++a) x,(((pre++a).length:Nat):Int))
 | [],b,pre,x,_,h=>by
  rw[List.append_nil]at h ⊢
  rw[List.nil_append]
  unfold chkFrom
  rw[if_neg h]
 | y::a,b,pre,x,hv,h=>by
  rw[List.cons_append]
  unfold chkFrom
  rw[if_pos hv.1,chkFrom_wrong (a:=a) hv.2 (by rw[List.append_assoc]; exact h),List.append_assoc]
  rfl
theorem wrongK_chk{pre:List NodeK}{x:NodeK}(h:x.chk≠0):wrongK pre x=x.chk:=by unfold wrongK; rw[if_pos h]
/-- What the program does with a node that moves. -/
def NodeK.moved(n:NodeK)(root to:Int):NodeK:={n with depth:=IntKind.i64.wrap (n.depth+IntKind.i64.wrap (to-root))}
def nodesP(l:List NodeK)(e:EditK):Except Int (List NodeK):=
 if e.kind=3 then (match findK l e.id with
  | none => .error 8
  | some i=>if e.index<0∨((cutK l i (endK l i)).length:Int)<e.index then .error 6
   else .ok (putK (cutK l i (endK l i)) e.index.toNat ((segK l i (endK l i)).map fun n=>n.moved (depK l i) e.depth)))
 else nodesK l e
noncomputable def applyP(s:SceneK)(e:EditK):SceneK×Int:=
 if s.valid=false then (.zero,18)else if e.named=false then (.zero,2)else
 match nodesP s.ns e with
 | .error n=>(.zero,n)
 | .ok l=>if (s.with' e l).chk.1=0 then (s.with' e l,0)else (.zero,(s.with' e l).chk.1)
theorem moved_sunk{n:NodeK}{root to:Int}(h1:0≤n.depth∧n.depth<8)(h2:0≤root∧root<8)(h3:0≤to∧to≤8):n.moved root to=n.sunk root to:=by
 unfold NodeK.moved NodeK.sunk
 rw[if_neg (by omega)]
 have:IntKind.i64.wrap (n.depth+IntKind.i64.wrap (to-root))=n.depth-root+to:=by rw[IntKind.wrap_i64,IntKind.wrap_i64]; omega
 rw[this]
theorem wrap_back{root to:Int}(h2:0≤root∧root<8)(h3:I64 to):IntKind.i64.wrap (root+IntKind.i64.wrap (to-root))=to:=by
 have:=h3.1; have:=h3.2
 rw[IntKind.wrap_i64,IntKind.wrap_i64]; omega
theorem applyP_eq{s:SceneK}{e:EditK}(hd:I64 e.depth):applyP s e=applyK s e:=by
 unfold applyP applyK
 cases hv:s.valid with
 | false=>rfl
 | true =>
  rw[if_neg (by decide),if_neg (show ¬true=false by decide)]
  obtain⟨hw,hlen,hV⟩:=SceneK.valid_iff.1 hv
  cases hn:e.named with
  | false=>rfl
  | true =>
   rw[if_neg (show ¬true=false by decide),if_neg (show ¬true=false by decide)]
   unfold nodesP
   by_cases hk:e.kind=3
   ·rw[if_pos hk]
    unfold nodesK
    rw[if_neg (by omega),if_neg (by omega),if_pos hk]
    cases hf:findK s.ns e.id with
    | none=>rfl
    | some i =>
     simp only
     obtain⟨hi,hid⟩:=findK_some hf
     obtain⟨e1,e2⟩:=endK_le hi
     by_cases hx:e.index<0∨((cutK s.ns i (endK s.ns i)).length:Int)<e.index
     ·simp only[if_pos hx]
     ·simp only[if_neg hx]
      have hr:=hV.depth _ (List.getElem_mem hi)
      have hc:=hV.cutK hi
      rw[depK_at hi]
      by_cases ht:0≤e.depth∧e.depth≤8
      ·have:(segK s.ns i (endK s.ns i)).map (fun n=>n.moved s.ns[i].depth e.depth)=(segK s.ns i (endK s.ns i)).map (fun n=>n.sunk s.ns[i].depth e.depth):=
        List.map_congr_left fun n hn=>moved_sunk (hV.depth n (segK_mem hn)) hr ht
       rw[this]
      ·-- the root is wrong in both
       have key:∀(f:NodeK→NodeK),(f s.ns[i]).chk=6→(s.with' e (putK (cutK s.ns i (endK s.ns i)) e.index.toNat ((segK s.ns i (endK s.ns i)).map f))).chk=(6,e.index):=by
        intro f hf6
        have hlen2:=cut_seg_length (l:=s.ns) (i:=i) (j:=endK s.ns i) (by omega) e2
        have hix:e.index.toNat≤(cutK s.ns i (endK s.ns i)).length:=by omega
        show SceneK.chk ⟨s.w,s.h,_,_⟩=_
        unfold SceneK.chk
        simp only
        rw[if_neg (by omega),if_neg (by rw[putK_length hix,List.length_map]; omega)]
        rw[segK_cons hi]
        unfold putK
        rw[List.map_cons,List.append_assoc,List.cons_append]
        have h6:wrongK ([]++(cutK s.ns i (endK s.ns i)).take e.index.toNat) (f s.ns[i])=6:=by rw[wrongK_chk (by rw[hf6]; decide),hf6]
        rw[chkFrom_wrong (hc.take _) (by rw[h6]; decide),h6]
        congr 1
        rw[List.nil_append,List.length_take]; omega
       have hck:=(VL_iff.1 hV).1 _ (List.getElem_mem hi)
       rw[key _ (by
        show({s.ns[i]with depth:=_}:NodeK).chk=6
        rw[wrap_back hr hd,NodeK.chk_depth hck,if_neg (by omega)])]
       rw[key _ (by
        unfold NodeK.sunk
        rw[if_pos (by omega),NodeK.chk_depth hck,if_neg (by omega)])]
       rfl
   ·simp only[if_neg hk]; rfl
end Go.Proofs.YtfmkkemfhjkajaaGreatDoor
end
section
namespace Go.Proofs.YtfmkkemfhjkajaaGreatDoor
set_option linter.unusedVariables false
def EditK.insert(i:Int)(n:NodeK):EditK:=⟨1,0,i,0,n,.none⟩
def EditK.paint(c:PixD):EditK:=⟨5,0,0,0,.zero,c⟩
def likeK(a b:List NodeK):Bool:=a.map (fun n=>(n.id,n.depth))==b.map (fun n=>(n.id,n.depth))
def replacedK(a b:List NodeK):List EditK:=(a.zip b).filterMap fun p=>if p.1=p.2 then none else some (EditK.replace p.2)
def rootsF:Nat→List NodeK→List (List NodeK)
 | m+1,x::t=>(x::t.takeWhile fun κ=>decide (x.depth<κ.depth))::rootsF m (t.dropWhile fun κ=>decide (x.depth<κ.depth))
 | _,_=>[]
def rootsK(l:List NodeK):List (List NodeK):=rootsF l.length l
def pK:List (List NodeK)→List (List NodeK)→Nat
 | x::a,y::b=>if x=y then pK a b+1 else 0
 | _,_=>0
def qK(x y:List (List NodeK)):Nat:=pK (x.drop (pK x y)).reverse (y.drop (pK x y)).reverse
def midK(x:List (List NodeK))(p q:Nat):List (List NodeK):=(x.drop p).take (x.length-p-q)
def headId:List NodeK→Int
 | []=>0
 | x::_=>x.id
def insertsK:Nat→List NodeK→List EditK
 | _,[]=>[]
 | k,n::l=>EditK.insert k n::insertsK (k+1) l
def rebuiltK(a b:List NodeK):List EditK:=
 (midK (rootsK a) (pK (rootsK a) (rootsK b)) (qK (rootsK a) (rootsK b))).map (fun t=>EditK.remove (headId t)) ++
  insertsK ((rootsK b).take (pK (rootsK a) (rootsK b))).flatten.length (midK (rootsK b) (pK (rootsK a) (rootsK b)) (qK (rootsK a) (rootsK b))).flatten
def bgK(a b:SceneK):List EditK:=if a.bg=b.bg then []else [.paint b.bg]
def diffK(a b:SceneK):List EditK:=bgK a b++(if likeK a.ns b.ns=true then replacedK a.ns b.ns else rebuiltK a.ns b.ns)
noncomputable def diffE(a b:SceneK):List EditK×Int:=
 if a.valid=false∨b.valid=false then ([],18)else if a.w≠b.w∨a.h≠b.h then ([],2)else (diffK a b,0)
/- Trees of the top level. -/
def IsTop(t:List NodeK):Prop:=∃x r,t=x::r∧x.depth=0∧∀y∈r,0<y.depth
theorem rootsF_flat:∀{m:Nat} {l:List NodeK},l.length≤m→(rootsF m l).flatten=l
 | 0,l,h=>by have:=List.eq_nil_of_length_eq_zero (by omega:l.length=0); subst this; rfl
 | m+1,[],_=>rfl
 | m+1,x::t,h=>by
  unfold rootsF
  rw[List.flatten_cons,rootsF_flat,List.cons_append,List.takeWhile_append_dropWhile]
  have:=(List.dropWhile_sublist (l:=t) fun κ:NodeK=>decide (x.depth<κ.depth)).length_le
  rw[List.length_cons]at h
  omega
theorem roots_flat(l:List NodeK):(rootsK l).flatten=l:=rootsF_flat (Nat.le_refl _)
theorem rootsF_top:∀{m:Nat} {l:List NodeK},(∀y∈l,0≤y.depth)→(∀y∈l.head?,y.depth=0)→∀t∈rootsF m l,IsTop t
 | 0,l,_,_,t,ht=>by unfold rootsF at ht; cases ht
 | m+1,[],_,_,t,ht=>by unfold rootsF at ht; cases ht
 | m+1,x::l,h,h0,t,ht=>by
  have hx:x.depth=0:=h0 x rfl
  unfold rootsF at ht
  rcases List.mem_cons.1 ht with rfl | ht
  ·refine⟨x,_,rfl,hx,fun y hy=>?_⟩
   have:=List.all_eq_true.1 List.all_takeWhile y hy
   rw[hx]at this
   simpa using this
  ·refine rootsF_top (fun y hy=>h y (List.mem_cons_of_mem _ ((List.dropWhile_sublist _).subset hy))) (fun y hy=>?_) t ht
   have h1:=List.head?_dropWhile_not (fun κ:NodeK=>decide (x.depth<κ.depth)) l
   rw[Option.mem_def]at hy
   rw[hy]at h1
   simp only at h1
   have h2:=h y (List.mem_cons_of_mem _ ((List.dropWhile_sublist _).subset (List.mem_of_mem_head? hy)))
   have h3:¬x.depth<y.depth:=by simpa using h1
   omega
theorem VL.head{l:List NodeK}(h:VL l):∀y∈l.head?,y.depth=0:=by
 intro y hy
 cases l with
 | nil=>cases hy
 | cons x t =>
  cases hy
  have h1:=(VL_steps.1 h).2.2.1
  have h2:=h.depth _ List.mem_cons_self
  omega
theorem VL.roots{l:List NodeK}(h:VL l):∀t∈rootsK l,IsTop t:=rootsF_top (fun y hy=>(h.depth y hy).1) h.head
theorem tops_head{x:List (List NodeK)}(h:∀t∈x,IsTop t):∀y∈x.flatten.head?,y.depth=0:=by
 intro y hy
 cases x with
 | nil=>cases hy
 | cons t x =>
  obtain⟨z,r,rfl,hz,_⟩:=h t List.mem_cons_self
  cases hy
  exact hz
/-- Right nodes without those between a beginning and a top-level rest. -/
theorem VL.gap{Q R S:List NodeK}(h:VL (Q++R++S))(hS:∀y∈S.head?,y.depth=0):VL (Q++S):=by
 refine h.sub (List.Sublist.append_right (List.sublist_append_left Q R) S) ?_
 have hs:=(VL_steps.1 h).2.2
 rw[Steps_append,Steps_append]at hs
 rw[Steps_append]
 refine⟨hs.1.1,?_⟩
 cases S with
 | nil=>trivial
 | cons y S =>
  have h1:=hS y rfl
  have h2:0≤lastRoom 0 Q:=lastRoom_nn (Int.le_refl 0) fun p hp=>(h.depth p (by simp[hp])).1
  exact⟨by omega,hs.2.2⟩
theorem endK_top{A B:List NodeK}{x:NodeK}{r:List NodeK}(hx:x.depth=0)(hr:∀y∈r,0<y.depth)(hB:∀y∈B.head?,y.depth=0):endK (A++(x::r)++B) A.length=A.length+(x::r).length:=by
 have hd:depK (A++(x::r)++B) A.length=0:=by
  rw[depK_at (by simp)]
  rw[List.getElem_append_left (by simp),List.getElem_append_right (by omega)]
  simpa using hx
 have e1:(A++(x::r)++B).drop (A.length+1)=r++B:=by
  rw[List.append_assoc,List.drop_append,List.drop_eq_nil_of_le (by omega),List.nil_append,show A.length+1-A.length=1 by omega]; rfl
 unfold endK
 rw[hd,e1,List.takeWhile_append_of_pos (fun y hy=>by simpa using hr y hy)]
 have e2:B.takeWhile (fun κ=>decide (0<κ.depth))=[]:=by
  cases B with
  | nil=>rfl
  | cons y B=>rw[List.takeWhile_cons,if_neg (by rw[hB y rfl]; decide)]
 rw[e2,List.append_nil,List.length_cons]; omega
/-- Edits that all succeed. -/
def Runs(s:SceneK)(es:List EditK)(t:SceneK):Prop:=∀k,applyAllK s es k=(t,((k+es.length:Nat):Int),0)
theorem Runs.nil(s:SceneK):Runs s [] s:=fun k=>rfl
theorem Runs.cons{s t u:SceneK}{e:EditK}{es:List EditK}(h:applyK s e=(t,0))(h2:Runs t es u):Runs s (e::es) u:=fun k=>by
 unfold applyAllK
 rw[h,if_pos rfl,h2 (k+1),List.length_cons]
 congr 2
 congr 1
 omega
theorem Runs.append:∀{es es2:List EditK} {s t u:SceneK},Runs s es t→Runs t es2 u→Runs s (es++es2) u
 | [],es2,s,t,u,h1,h2=>by
  have:=h1 0
  unfold applyAllK at this
  cases this
  exact h2
 | e::es,es2,s,t,u,h1,h2=>by
  have h0:=h1 0
  unfold applyAllK at h0
  split at h0
  ·rename_i he
   have h3:Runs (applyK s e).1 es t:=fun k=>by
    have h4:=h1 k
    unfold applyAllK at h4
    cases k with
    | zero =>
     rw[if_pos he]at h4
     have h5:∀(es:List EditK) (s t:SceneK) (k m:Nat),applyAllK s es k=(t,((k+es.length:Nat):Int),0)→applyAllK s es m=(t,((m+es.length:Nat):Int),0):=by
      intro es
      induction es with
      | nil=>intro s t k m h; unfold applyAllK at h ⊢; cases h; rfl
      | cons e es ih =>
       intro s t k m h
       unfold applyAllK at h ⊢
       split at h
       ·rename_i he; rw[if_pos he]
        have:=ih _ t (k+1) (m+1) (by rw[h,List.length_cons]; congr 2; congr 1; omega)
        rw[this,List.length_cons]; congr 2; congr 1; omega
       ·rename_i he; simp only[Prod.mk.injEq]at h; exact absurd h.2.2 he
     exact h5 es _ t 1 0 (by rw[show(0+1:Nat)=1 from rfl]at h4; rw[h4,List.length_cons]; congr 2; congr 1; omega)
    | succ k =>
     have h4:=h1 k
     unfold applyAllK at h4
     rw[if_pos he]at h4
     rw[h4,List.length_cons]; congr 2; congr 1; omega
   rw[List.cons_append]
   exact Runs.cons (t:=(applyK s e).1) (by rw[←he]) (Runs.append h3 h2)
  ·rename_i he
   simp only[Prod.mk.injEq]at h0
   exact absurd h0.2.2 he
def SceneK.put(s:SceneK)(l:List NodeK):SceneK:=⟨s.w,s.h,s.bg,l⟩
theorem SceneK.put_valid{s:SceneK}{l:List NodeK}(h:s.valid=true)(hl:l.length≤64)(hV:VL l):(s.put l).valid=true:=SceneK.valid_iff.2 ⟨(SceneK.valid_iff.1 h).1,hl,hV⟩
theorem apply_remove{s:SceneK}{A B:List NodeK}{x:NodeK}{r:List NodeK}(h:(s.put (A++(x::r)++B)).valid=true)(hx:x.depth=0)(hr:∀y∈r,0<y.depth)(hB:∀y∈B.head?,y.depth=0) :
  applyK (s.put (A++(x::r)++B)) (.remove x.id)=(s.put (A++B),0):=by
 obtain⟨h1,h2,h3⟩:=SceneK.valid_iff.1 h
 have h2:(A++(x::r)++B).length≤64:=h2
 have h3:VL (A++(x::r)++B):=h3
 have hi:A.length<(A++(x::r)++B).length:=by simp
 have hg:(A++(x::r)++B)[A.length]=x:=by
  rw[List.getElem_append_left (by simp),List.getElem_append_right (by omega)]; simp
 have hf:=findK_at (VL_iff.1 h3).2.1 hi
 rw[hg]at hf
 have hn:nodesK (A++(x::r)++B) (.remove x.id) = .ok (A++B):=by
  show(match findK (A++(x::r)++B) x.id with | none=>_ | some i=>_)=_
  rw[hf]
  simp only
  rw[endK_top hx hr hB]
  unfold cutK
  rw[List.append_assoc,List.take_left,List.drop_append,List.drop_eq_nil_of_le (by omega),Nat.add_sub_cancel_left,List.drop_left,List.nil_append]
 have hV2:VL (A++B):=h3.gap hB
 exact applyK_of (e := .remove x.id) h (by simp[EditK.named,EditK.remove]) hn (by
  show(s.put (A++B)).valid=true
  exact SceneK.valid_iff.2 ⟨h1,by rw[List.length_append,List.length_append]at h2; show(A++B).length≤64; rw[List.length_append]; omega,hV2⟩)
theorem apply_insert{s:SceneK}{A B:List NodeK}{n:NodeK}(h:(s.put (A++B)).valid=true)(hl:(A++n::B).length≤64)(hV:VL (A++n::B)) :
  applyK (s.put (A++B)) (.insert A.length n)=(s.put (A++n::B),0):=by
 have hn:nodesK (A++B) (.insert A.length n) = .ok (A++n::B):=by
  show(if (A.length:Int)<0∨(((A++B).length:Nat):Int)<(A.length:Int)then _ else _)=_
  rw[if_neg (by rw[List.length_append]; omega)]
  unfold putK
  show Except.ok ((A++B).take A.length++[n]++(A++B).drop A.length)=_
  rw[List.take_left,List.drop_left,List.append_assoc,List.singleton_append]
 exact applyK_of (e := .insert A.length n) h (by simp[EditK.named,EditK.insert]) hn (SceneK.put_valid h hl hV)
theorem apply_replace{s:SceneK}{A B:List NodeK}{x y:NodeK}(h:(s.put (A++x::B)).valid=true)(hi:x.id=y.id)(hd:x.depth=y.depth)(hV:VL (A++y::B)) :
  applyK (s.put (A++x::B)) (.replace y)=(s.put (A++y::B),0):=by
 obtain⟨h1,h2,h3⟩:=SceneK.valid_iff.1 h
 have h2:(A++x::B).length≤64:=h2
 have h3:VL (A++x::B):=h3
 have hl:A.length<(A++x::B).length:=by simp
 have hg:(A++x::B)[A.length]=x:=by simp
 have hf:=findK_at (VL_iff.1 h3).2.1 hl
 rw[hg,hi]at hf
 have hn:nodesK (A++x::B) (.replace y) = .ok (A++y::B):=by
  show(match findK (A++x::B) y.id with | none=>_ | some i=>_)=_
  rw[hf]
  simp only
  rw[if_neg]
  ·show Except.ok ((A++x::B).set A.length y)=_
   rw[List.set_append_right _ _ (by omega)]; simp
  ·rw[depK_at hl,hg]
   exact fun h=>h hd.symm
 exact applyK_of (e := .replace y) h (by simp[EditK.named,EditK.replace]) hn (SceneK.put_valid h (by simpa using h2) hV)
theorem runs_remove{s:SceneK}{B:List NodeK}(hB:∀y∈B.head?,y.depth=0):∀{x:List (List NodeK)} {A:List NodeK},(∀t∈x,IsTop t)→(s.put (A++x.flatten++B)).valid=true →
  Runs (s.put (A++x.flatten++B)) (x.map fun t=>EditK.remove (headId t)) (s.put (A++B))
 | [],A,_,h=>by rw[List.flatten_nil,List.append_nil]; exact Runs.nil _
 | t::x,A,ht,h=>by
  obtain⟨z,r,rfl,hz,hr⟩:=ht t List.mem_cons_self
  have hx:∀t∈x,IsTop t:=fun t h=>ht t (List.mem_cons_of_mem _ h)
  have hB2:∀y∈(x.flatten++B).head?,y.depth=0:=fun y hy=>by
   cases hf:x.flatten with
   | nil=>rw[hf]at hy; exact hB y hy
   | cons q w=>rw[hf]at hy; exact tops_head hx y (by rw[hf]; exact hy)
  rw[List.flatten_cons,←List.append_assoc,List.append_assoc]at h ⊢
  have ha:=apply_remove h hz hr hB2
  have hv:(s.put (A++(x.flatten++B))).valid=true:=by have:=(applyK_ok ha).2.2; obtain⟨l,_,_,h5⟩:=this; exact h5
  rw[List.map_cons]
  have e:A++(x.flatten++B)=A++x.flatten++B:=(List.append_assoc ..).symm
  rw[e]at hv
  exact Runs.cons (t:=s.put (A++x.flatten++B)) (ha.trans (by rw[e])) (runs_remove hB hx hv)
theorem runs_insert{s:SceneK}{S:List NodeK}(hS:∀y∈S.head?,y.depth=0)(hs:1≤s.w∧s.w≤256∧1≤s.h∧s.h≤256):∀{M A:List NodeK},VL (A++M++S)→(A++M++S).length≤64 →
  Runs (s.put (A++S)) (insertsK A.length M) (s.put (A++M++S))
 | [],A,_,_=>by rw[List.append_nil]; exact Runs.nil _
 | n::M,A,hV,hl=>by
  have e:A++n::M++S=(A++[n])++M++S:=by simp
  rw[e]at hV hl ⊢
  have h1:VL (A++[n]++S):=hV.gap hS
  have h2:VL (A++S):=VL.gap (R:=[n]) h1 hS
  have hl2:(A++n::S).length≤64:=by simp only[List.length_append,List.length_cons,List.length_nil]at hl ⊢; omega
  have hl3:(A++S).length≤64:=by simp only[List.length_append,List.length_cons]at hl2 ⊢; omega
  have hv:(s.put (A++S)).valid=true:=SceneK.valid_iff.2 ⟨hs,hl3,h2⟩
  have ha:=apply_insert (n:=n) hv hl2 (by simpa using h1)
  have ih:=runs_insert hS hs (M:=M) (A:=A++[n]) hV hl
  rw[List.length_append,List.length_singleton]at ih
  refine Runs.cons ha ?_
  have e2:A++n::S=A++[n]++S:=by simp
  rw[e2]
  exact ih
theorem runs_replace{s:SceneK}(hs:1≤s.w∧s.w≤256∧1≤s.h∧s.h≤256):∀{a b c:List NodeK},likeK a b=true→VL (c++a)→VL (c++b)→(c++a).length≤64→Runs (s.put (c++a)) (replacedK a b) (s.put (c++b))
 | [],[],c,_,_,_,_=>Runs.nil _
 | [],y::b,c,h,_,_,_=>by simp[likeK]at h
 | x::a,[],c,h,_,_,_=>by simp[likeK]at h
 | x::a,y::b,c,h,ha,hb,hl=>by
  simp only[likeK,List.map_cons,beq_iff_eq,List.cons.injEq,Prod.mk.injEq]at h
  obtain⟨⟨hi,hd⟩,ht⟩:=h
  have ht':likeK a b=true:=by simp[likeK,ht]
  have hy:VL (c++y::a):=by
   obtain⟨a1,a2,a3⟩:=VL_steps.1 ha
   obtain⟨b1,b2,b3⟩:=VL_steps.1 hb
   refine VL_steps.2 ⟨fun z hz=>?_,?_,?_⟩
   ·rcases List.mem_append.1 hz with hz | hz
    ·exact a1 z (List.mem_append_left _ hz)
    ·rcases List.mem_cons.1 hz with rfl | hz
     ·exact b1 z (by simp)
     ·exact a1 z (by simp[hz])
   ·rw[List.map_append,List.map_cons]at a2 ⊢
    rw[←hi]; exact a2
   ·rw[Steps_append]at a3 b3 ⊢
    refine⟨a3.1,by have:=a3.2.1; omega,?_⟩
    cases a with
    | nil=>trivial
    | cons z a =>
     cases b with
     | nil=>simp at ht
     | cons w b =>
      simp only[List.map_cons,List.cons.injEq,Prod.mk.injEq]at ht
      have:=b3.2.2.1
      exact⟨by omega,a3.2.2.2⟩
  have e1:c++y::a=(c++[y])++a:=by simp
  have e2:c++y::b=(c++[y])++b:=by simp
  have hl2:((c++[y])++a).length≤64:=by simp only[List.length_append,List.length_cons,List.length_nil]at hl ⊢; omega
  have ih:=runs_replace hs (c:=c++[y]) ht' (by rw[←e1]; exact hy) (by rw[←e2]; exact hb) hl2
  unfold replacedK
  rw[List.zip_cons_cons,List.filterMap_cons]
  by_cases hxy:x=y
  ·simp only[if_pos hxy]
   rw[hxy,e1,e2]; exact ih
  ·simp only[if_neg hxy]
   have hap:=apply_replace (s:=s) (A:=c) (B:=a) (x:=x) (y:=y) (SceneK.valid_iff.2 ⟨hs,hl,ha⟩) hi hd hy
   refine Runs.cons hap ?_
   rw[e1,e2]; exact ih
end Go.Proofs.YtfmkkemfhjkajaaGreatDoor
end
