/- Applying the difference of two scenes to the first yields the second; small differences. No program in sight. Scenes and edits as records of cells. No program in sight. A set of numbers kept as a map from int to bool, made by the call itself. -/
import Derived.Test.YtfmkkemfhjkajaaGreatDoorPk33
import Derived.Maps.Own
import Derived.Maps.Views
import Derived.Test.YtfmkkemfhjkajaaGreatDoorOwn
section
namespace Go.Proofs.YtfmkkemfhjkajaaGreatDoor
set_option linter.unusedVariables false
theorem pK_spec:∀{x y:List (List NodeK)},pK x y≤x.length∧pK x y≤y.length∧x.take (pK x y)=y.take (pK x y)
 | [],y=>by simp[pK]
 | x::a,[]=>by simp[pK]
 | x::a,y::b=>by
  unfold pK
  split
  ·rename_i h
   obtain⟨h1,h2,h3⟩:=pK_spec (x:=a) (y:=b)
   rw[List.length_cons,List.length_cons,List.take_succ_cons,List.take_succ_cons,h3,h]
   exact⟨by omega,by omega,rfl⟩
  ·simp
theorem qK_spec{x y:List (List NodeK)}:qK x y+pK x y≤x.length∧qK x y+pK x y≤y.length∧x.drop (x.length-qK x y)=y.drop (y.length-qK x y):=by
 obtain⟨h1,h2,_⟩:=pK_spec (x:=x) (y:=y)
 obtain⟨g1,g2,g3⟩:=pK_spec (x:=(x.drop (pK x y)).reverse) (y:=(y.drop (pK x y)).reverse)
 have e:pK (x.drop (pK x y)).reverse (y.drop (pK x y)).reverse=qK x y:=rfl
 rw[e]at g1 g2 g3
 rw[List.length_reverse,List.length_drop]at g1 g2
 refine⟨by omega,by omega,?_⟩
 rw[List.take_reverse,List.take_reverse,List.reverse_inj,List.drop_drop,List.drop_drop,List.length_drop,List.length_drop]at g3
 rw[show pK x y+(x.length-pK x y-qK x y)=x.length-qK x y by omega,show pK x y+(y.length-pK x y-qK x y)=y.length-qK x y by omega]at g3
 exact g3
theorem mid_split{x:List (List NodeK)}{p q:Nat}(h:q+p≤x.length):x=x.take p++midK x p q++x.drop (x.length-q):=by
 unfold midK
 have e:x.drop (x.length-q)=(x.drop p).drop (x.length-p-q):=by rw[List.drop_drop]; congr 1; omega
 rw[e,List.append_assoc,List.take_append_drop,List.take_append_drop]
/-- What two lists of trees have in common. -/
theorem common_split(x y:List (List NodeK)):∃P S,x=P++midK x (pK x y) (qK x y)++S∧y=P++midK y (pK x y) (qK x y)++S∧P=y.take (pK x y):=by
 obtain⟨h1,h2,h3⟩:=pK_spec (x:=x) (y:=y)
 obtain⟨g1,g2,g3⟩:=qK_spec (x:=x) (y:=y)
 refine⟨y.take (pK x y),y.drop (y.length-qK x y),?_,mid_split g2,rfl⟩
 rw[←h3,←g3]
 exact mid_split g1
theorem apply_paint{s:SceneK}(h:s.valid=true)(c:PixD):applyK s (.paint c)=(⟨s.w,s.h,c,s.ns⟩,0):=
 applyK_of (e := .paint c) h (by simp[EditK.named,EditK.paint]) rfl (SceneK.valid_iff.2 (SceneK.valid_iff.1 h))
theorem runs_bg{a b:SceneK}(h:a.valid=true):Runs a (bgK a b) ⟨a.w,a.h,b.bg,a.ns⟩:=by
 unfold bgK
 split
 ·rename_i e
  rw[←e]
  exact Runs.nil a
 ·exact Runs.cons (apply_paint h b.bg) (Runs.nil _)
theorem runs_rebuilt{s:SceneK}(hs:1≤s.w∧s.w≤256∧1≤s.h∧s.h≤256){a b:List NodeK}(ha:VL a)(hb:VL b)(la:a.length≤64)(lb:b.length≤64):Runs (s.put a) (rebuiltK a b) (s.put b):=by
 obtain⟨P,S,e1,e2,e3⟩:=common_split (rootsK a) (rootsK b)
 have fa:a=P.flatten++(midK (rootsK a) (pK (rootsK a) (rootsK b)) (qK (rootsK a) (rootsK b))).flatten++S.flatten:=by
  conv=>lhs; rw[←roots_flat a,e1]
  rw[List.flatten_append,List.flatten_append]
 have fb:b=P.flatten++(midK (rootsK b) (pK (rootsK a) (rootsK b)) (qK (rootsK a) (rootsK b))).flatten++S.flatten:=by
  conv=>lhs; rw[←roots_flat b,e2]
  rw[List.flatten_append,List.flatten_append]
 have hS:∀y∈S.flatten.head?,y.depth=0:=tops_head fun t ht=>ha.roots t (by rw[e1]; simp[ht])
 have hM:∀t∈midK (rootsK a) (pK (rootsK a) (rootsK b)) (qK (rootsK a) (rootsK b)),IsTop t:=fun t ht=>ha.roots t (by rw[e1]; simp[ht])
 unfold rebuiltK
 rw[←e3]
 have r1:=runs_remove (s:=s) (A:=P.flatten) hS hM (by rw[←fa]; exact SceneK.valid_iff.2 ⟨hs,la,ha⟩)
 rw[←fa]at r1
 have r2:=runs_insert (s:=s) (A:=P.flatten) hS hs (by rw[←fb]; exact hb) (by rw[←fb]; exact lb)
 rw[←fb]at r2
 exact r1.append r2
theorem diff_runs{a b:SceneK}(ha:a.valid=true)(hb:b.valid=true)(hw:a.w=b.w)(hh:a.h=b.h):Runs a (diffK a b) b:=by
 obtain⟨a1,a2,a3⟩:=SceneK.valid_iff.1 ha
 obtain⟨b1,b2,b3⟩:=SceneK.valid_iff.1 hb
 unfold diffK
 refine(runs_bg ha).append ?_
 have e:b=(⟨a.w,a.h,b.bg,a.ns⟩:SceneK).put b.ns:=by
  unfold SceneK.put
  rw[hw,hh]
 have e2:(⟨a.w,a.h,b.bg,a.ns⟩:SceneK)=(⟨a.w,a.h,b.bg,a.ns⟩:SceneK).put a.ns:=rfl
 conv=>arg 3; rw[e]
 rw[e2]
 split
 ·rename_i hl
  exact runs_replace (c:=[]) (s:=⟨a.w,a.h,b.bg,a.ns⟩) a1 hl a3 b3 a2
 ·exact runs_rebuilt (s:=⟨a.w,a.h,b.bg,a.ns⟩) a1 a3 b3 a2 b2
theorem replaced_length:∀{a b:List NodeK},(replacedK a b).length≤a.length
 | [],b=>by simp[replacedK]
 | x::a,[]=>by simp[replacedK]
 | x::a,y::b=>by
  have ih:=replaced_length (a:=a) (b:=b)
  unfold replacedK at ih ⊢
  rw[List.zip_cons_cons,List.filterMap_cons]
  by_cases hxy:x=y
  ·simp only[if_pos hxy]; rw[List.length_cons]; omega
  ·simp only[if_neg hxy]; rw[List.length_cons,List.length_cons]; omega
theorem inserts_length:∀{k:Nat} {l:List NodeK},(insertsK k l).length=l.length
 | _,[]=>rfl
 | k,n::l=>by unfold insertsK; rw[List.length_cons,inserts_length,List.length_cons]
theorem tops_length:∀{x:List (List NodeK)},(∀t∈x,IsTop t)→x.length≤x.flatten.length
 | [],_=>by simp
 | t::x,h=>by
  have ih:=tops_length (x:=x) fun t ht=>h t (List.mem_cons_of_mem _ ht)
  obtain⟨z,r,rfl,_⟩:=h t List.mem_cons_self
  rw[List.flatten_cons,List.length_append,List.length_cons,List.length_cons]; omega
theorem mid_length{x:List (List NodeK)}{p q:Nat}(h:q+p≤x.length):(midK x p q).flatten.length≤x.flatten.length:=by
 conv=>rhs; rw[mid_split h]
 rw[List.flatten_append,List.flatten_append,List.length_append,List.length_append]; omega
theorem rebuilt_length{a b:List NodeK}(ha:VL a):(rebuiltK a b).length≤a.length+b.length:=by
 obtain⟨g1,g2,g3⟩:=qK_spec (x:=rootsK a) (y:=rootsK b)
 unfold rebuiltK
 rw[List.length_append,List.length_map,inserts_length]
 have h1:=mid_length g1
 have h2:=mid_length g2
 rw[roots_flat]at h1 h2
 have h3:=tops_length (x:=midK (rootsK a) (pK (rootsK a) (rootsK b)) (qK (rootsK a) (rootsK b))) fun t ht=>ha.roots t (by
  unfold midK at ht
  exact List.mem_of_mem_drop (List.mem_of_mem_take ht))
 omega
theorem diff_length{a b:SceneK}(ha:a.valid=true):(diffK a b).length≤a.ns.length+b.ns.length+1:=by
 unfold diffK
 rw[List.length_append]
 have h1:(bgK a b).length≤1:=by unfold bgK; split<;>simp
 split
 ·have:=replaced_length (a:=a.ns) (b:=b.ns); omega
 ·have:=rebuilt_length (b:=b.ns) (SceneK.valid_iff.1 ha).2.2; omega
theorem likeK_refl(a:List NodeK):likeK a a=true:=by simp[likeK]
theorem replaced_refl:∀(a:List NodeK),replacedK a a=[]
 | []=>rfl
 | x::a=>by
  have ih:=replaced_refl a
  unfold replacedK at ih ⊢
  rw[List.zip_cons_cons,List.filterMap_cons]
  simp only[if_true]
  exact ih
theorem diff_refl(a:SceneK):diffK a a=[]:=by
 unfold diffK bgK
 rw[if_pos rfl,if_pos (likeK_refl _),replaced_refl]; rfl
/-- No edits: the scenes are the same. -/
theorem diff_nil{a b:SceneK}(ha:a.valid=true)(hb:b.valid=true)(hw:a.w=b.w)(hh:a.h=b.h):diffK a b=[]↔a=b:=by
 constructor
 ·intro h
  have:=diff_runs ha hb hw hh 0
  rw[h]at this
  unfold applyAllK at this
  exact(Prod.mk.inj this).1
 ·rintro rfl
  exact diff_refl a
/- Small differences. -/
theorem replaced_set:∀(l:List NodeK) (i:Nat) (n:NodeK),(replacedK l (l.set i n)).length≤1∧∀e∈replacedK l (l.set i n),e.kind=4
 | [],i,n=>by simp[replacedK]
 | x::l,0,n=>by
  have h:=replaced_refl l
  unfold replacedK at h ⊢
  rw[List.set_cons_zero,List.zip_cons_cons,List.filterMap_cons]
  by_cases hx:x=n
  ·simp only[if_pos hx]; rw[h]; simp
  ·simp only[if_neg hx]; rw[h]; simp[EditK.replace]
 | x::l,i+1,n=>by
  have ih:=replaced_set l i n
  unfold replacedK at ih ⊢
  rw[List.set_cons_succ,List.zip_cons_cons,List.filterMap_cons]
  simp only[if_true]
  exact ih
theorem pK_append:∀(x z:List (List NodeK)),pK x (x++z)=x.length
 | [],z=>by cases z<;>rfl
 | t::x,z=>by
  rw[List.cons_append]
  unfold pK
  rw[if_pos rfl,pK_append,List.length_cons]
theorem rootsF_more:∀{m k:Nat} {l:List NodeK},l.length≤m→l.length≤k→rootsF m l=rootsF k l
 | 0,k,l,h,_=>by have:=List.eq_nil_of_length_eq_zero (by omega:l.length=0); subst this; cases k<;>rfl
 | m+1,0,l,_,h=>by have:=List.eq_nil_of_length_eq_zero (by omega:l.length=0); subst this; rfl
 | m+1,k+1,[],_,_=>rfl
 | m+1,k+1,x::t,h1,h2=>by
  unfold rootsF
  have:=(List.dropWhile_sublist (l:=t) fun κ:NodeK=>decide (x.depth<κ.depth)).length_le
  rw[List.length_cons]at h1 h2
  rw[rootsF_more (m:=m) (k:=k) (by omega) (by omega)]
theorem roots_cons(x:NodeK)(t:List NodeK):rootsK (x::t)=(x::t.takeWhile fun κ=>decide (x.depth<κ.depth))::rootsK (t.dropWhile fun κ=>decide (x.depth<κ.depth)):=by
 show rootsF (t.length+1) (x::t)=_
 have:=(List.dropWhile_sublist (l:=t) fun κ:NodeK=>decide (x.depth<κ.depth)).length_le
 unfold rootsF
 rw[rootsF_more this (Nat.le_refl _)]
 rfl
theorem while_top{p:NodeK→Bool}{n:NodeK}(hn:p n=false):∀(t:List NodeK),(t++[n]).takeWhile p=t.takeWhile p∧(t++[n]).dropWhile p=t.dropWhile p++[n]
 | []=>by simp[hn]
 | x::t=>by
  obtain⟨h1,h2⟩:=while_top hn t
  rw[List.cons_append,List.takeWhile_cons,List.takeWhile_cons,List.dropWhile_cons,List.dropWhile_cons]
  cases p x
  ·simp
  ·simp[h1,h2]
theorem roots_concat{n:NodeK}(hn:n.depth=0):∀(m:Nat) (l:List NodeK),l.length≤m→(∀y∈l,0≤y.depth)→rootsK (l++[n])=rootsK l++[[n]]
 | _,[],_,_=>rfl
 | 0,x::t,h,_=>by simp at h
 | m+1,x::t,h,h0=>by
  have hx:=h0 x List.mem_cons_self
  obtain⟨h1,h2⟩:=while_top (p:=fun κ:NodeK=>decide (x.depth<κ.depth)) (n:=n) (by rw[hn]; simpa using hx) t
  have hl:=(List.dropWhile_sublist (l:=t) fun κ:NodeK=>decide (x.depth<κ.depth)).length_le
  rw[List.length_cons]at h
  rw[List.cons_append,roots_cons,roots_cons,h1,h2,roots_concat hn m _ (by omega) fun y hy=>h0 y (List.mem_cons_of_mem _ ((List.dropWhile_sublist _).subset hy)),List.cons_append]
theorem rebuilt_concat{l:List NodeK}{n:NodeK}(h:∀y∈l,0≤y.depth)(hn:n.depth=0):rebuiltK l (l++[n])=[EditK.insert l.length n]:=by
 unfold rebuiltK qK
 rw[roots_concat hn _ l (Nat.le_refl _) h,pK_append]
 have e:pK ((rootsK l).drop (rootsK l).length).reverse ((rootsK l++[[n]]).drop (rootsK l).length).reverse=0:=by
  rw[List.drop_length]; rfl
 rw[e]
 unfold midK
 rw[List.drop_length,List.drop_left,List.take_left,roots_flat]
 simp[insertsK]
/-- The difference that one edit makes. -/
theorem diff_small{s t:SceneK}{e:EditK}(h:applyK s e=(t,0)) :
  ((e.kind=5∨e.kind=4)→(diffK s t).length≤1∧∀d∈diffK s t,d.kind=e.kind) ∧
   (e.kind=1→e.node.depth=0→e.index=s.ns.length→∃d,diffK s t=[d]∧d.kind=e.kind):=by
 obtain⟨h1,h2,l,h3,h4,h5⟩:=applyK_ok h
 have hV:=(SceneK.valid_iff.1 h1).2.2
 refine⟨fun hk=>?_,fun hk hd hi=>?_⟩
 ·rcases hk with hk | hk
  ·unfold nodesK at h3
   rw[if_neg (by omega),if_neg (by omega),if_neg (by omega),if_neg (by omega)]at h3
   simp only[Except.ok.injEq]at h3
   have ht:t.ns=s.ns:=by rw[h4]; exact h3.symm
   unfold diffK
   rw[ht,if_pos (likeK_refl _),replaced_refl,List.append_nil]
   unfold bgK
   split
   ·simp
   ·simp[EditK.paint,hk]
  ·unfold nodesK at h3
   rw[if_neg (by omega),if_neg (by omega),if_neg (by omega),if_pos hk]at h3
   cases hf:findK s.ns e.node.id with
   | none=>rw[hf]at h3; cases h3
   | some i =>
    rw[hf]at h3
    simp only at h3
    split at h3
    ·cases h3
    ·rename_i hd
     simp only[Except.ok.injEq]at h3
     obtain⟨hi,hid⟩:=findK_some hf
     have ht:t.ns=s.ns.set i e.node:=by rw[h4]; exact h3.symm
     have hbg:s.bg=t.bg:=by rw[h4]; show s.bg=if e.kind=5 then _ else s.bg; rw[if_neg (by omega)]
     have hlike:likeK s.ns (s.ns.set i e.node)=true:=by
      unfold likeK
      rw[List.map_set,beq_iff_eq]
      rw[depK_at hi]at hd
      have hd:=Decidable.not_not.1 hd
      have:(e.node.id,e.node.depth)=(s.ns.map fun n=>(n.id,n.depth))[i]'(by simpa using hi):=by simp[hid,hd]
      rw[this,List.set_getElem_self]
     unfold diffK bgK
     rw[if_pos hbg,ht,if_pos hlike,List.nil_append,hk]
     exact replaced_set s.ns i e.node
 ·unfold nodesK at h3
  rw[if_pos hk,if_neg (by omega)]at h3
  simp only[Except.ok.injEq]at h3
  have ht:t.ns=s.ns++[e.node]:=by
   rw[h4]
   show l=_
   rw[←h3,hi]
   unfold putK
   rw[Int.toNat_natCast,List.take_length,List.drop_length,List.append_nil]
  have hbg:s.bg=t.bg:=by rw[h4]; show s.bg=if e.kind=5 then _ else s.bg; rw[if_neg (by omega)]
  have hlike:¬likeK s.ns (s.ns++[e.node])=true:=by
   intro hl
   have:=congrArg List.length (eq_of_beq hl)
   simp at this
  refine⟨EditK.insert s.ns.length e.node,?_,hk.symm⟩
  unfold diffK bgK
  rw[if_pos hbg,ht,if_neg hlike,List.nil_append]
  exact rebuilt_concat (fun y hy=>(hV.depth y hy).1) hd
end Go.Proofs.YtfmkkemfhjkajaaGreatDoor
end
section
namespace Go.Proofs.YtfmkkemfhjkajaaGreatDoor
open Go.RowKit
variable{α:Type}{K:Nat}
set_option linter.unusedVariables false
structure SceneD where
 w:Int
 h:Int
 bg:PixD
 nsa:Option Addr
 nsc:Nat
 ns:List NodeD
def SceneD.s(s:SceneD):Value := .slice s.nsa s.ns.length s.nsc
def SceneD.cells(s:SceneD):List Value:=[.int .i64 s.w,.int .i64 s.h]++s.bg.cells++[s.s]
def SceneD.v(s:SceneD):Value := .agg s.cells.toArray
def SceneD.key(s:SceneD):SceneK:=⟨s.w,s.h,s.bg,s.ns.map NodeD.key⟩
abbrev IsNodes (K:Nat)(w:World)(v:Value)(l:List NodeD):Prop:=IsRowN 47 NodeD.cells w v l∧∀n∈l,NodeOk K w n
def SceneOk(K:Nat)(w:World)(s:SceneD):Prop:=I64 s.w∧I64 s.h∧IsNodes K w s.s s.ns
structure EditD where
 kind:Int
 id:Int
 index:Int
 depth:Int
 node:NodeD
 color:PixD
def EditD.cells(e:EditD):List Value:=[.int .i64 e.kind,.int .i64 e.id,.int .i64 e.index,.int .i64 e.depth]++e.node.cells++e.color.cells
def EditD.v(e:EditD):Value := .agg e.cells.toArray
def EditD.key(e:EditD):EditK:=⟨e.kind,e.id,e.index,e.depth,e.node.key,e.color⟩
def EditOk(K:Nat)(w:World)(e:EditD):Prop:=I64 e.kind∧I64 e.id∧I64 e.index∧I64 e.depth∧NodeOk K w e.node
theorem IsNodes.below{w w':World}{v:Value}{l:List NodeD}(h:IsNodes K w v l)(hb:Ext w w'):IsNodes K w' v l:=⟨h.1.below hb,fun n hn=>(h.2 n hn).below hb⟩
theorem SceneOk.below{w w':World}{s:SceneD}(h:SceneOk K w s)(hb:Ext w w'):SceneOk K w' s:=⟨h.1,h.2.1,h.2.2.below hb⟩
theorem EditOk.below{w w':World}{e:EditD}(h:EditOk K w e)(hb:Ext w w'):EditOk K w' e:=⟨h.1,h.2.1,h.2.2.1,h.2.2.2.1,h.2.2.2.2.below hb⟩
def SceneD.zero:SceneD:=⟨0,0,.none,none,0,[]⟩
theorem sceneD_zero_ok(w:World):SceneOk K w .zero:=⟨by decide,by decide,⟨rowN_nil _ _ _,fun n hn=>by cases hn⟩⟩
/-- What the loop of Check holds behind these nodes. -/
theorem roomK_snoc(pre:List NodeK)(x:NodeK):roomK (pre++[x])=if x.kind=1 then x.depth+1 else x.depth:=by
 unfold roomK
 rw[List.getLast?_concat]
end Go.Proofs.YtfmkkemfhjkajaaGreatDoor
end
section
namespace Go.Proofs.YtfmkkemfhjkajaaGreatDoor
open Go.Maps
set_option linter.unusedVariables false
variable{P:Program}{k e t:TypeId}{b:Nat}{ids:List Int}{w w':World}
/-- Block b is a map that holds true for these numbers. -/
def IdMap(P:Program)(k e:TypeId)(w:World)(b:Nat)(ids:List Int):Prop:=
 ∃D:DataW Unit,w.ownsMap P k (plainElem P e) b ids.length D∧IsMap D∧∀x:Int,I64 x→D.atKey (.int .i64 x) (.lit (.bool false)) = .lit (.bool (ids.any (· == x)))
theorem idMap_made(P:Program)(k e:TypeId)(w:World):IdMap P k e (w.alloc (.map #[] 0)) w.heap.size []:=
 ⟨.map [],World.ownsMap_made w P k _,isMap_empty,fun x _=>rfl⟩
theorem wf_i64{x:Int}(h:I64 x):(Lit.int .i64 x).wf=true:=by
 obtain⟨h1,h2⟩:=h
 have e1:IntKind.i64.min = -9223372036854775808:=by decide
 have e2:IntKind.i64.max=9223372036854775807:=by decide
 simp[Lit.wf,e1,e2]
 omega
theorem plainElem_bool_inv{H:Type}(he:P.underlying e=some .bool){v:Value}{z:DataW H×List MemPlace}(h:plainElem P e v=some z):∃c,v = .bool c∧z=(.lit (.bool c),[]):=by
 unfold plainElem at h
 rw[he]at h
 cases v<;>simp at h
 exact⟨_,rfl,h.symm⟩
theorem IdMap.lt(h:IdMap P k e w b ids):b<w.heap.size:=by obtain⟨D,h,_⟩:=h; exact h.lt
theorem IdMap.kept(h:IdMap P k e w b ids)(hb:∀i,i=b→w'.heap[i]?=w.heap[i]?):IdMap P k e w' b ids:=by
 obtain⟨D,⟨es,clock,hB,F,hs,hD⟩,h2,h3⟩:=h
 exact⟨D,⟨es,clock,(hb b rfl).trans hB,F,hs,hD⟩,h2,h3⟩
theorem IdMap.ext(h:IdMap P k e w b ids)(hb:Ext w w'):IdMap P k e w' b ids:=h.kept fun i hi=>hb.block i (by rw[hi]; exact h.lt)
/-- ids[x] -/
theorem IdMap.lookup(h:IdMap P k e w b ids)(hk:P.underlying k=some (.int .i64))(he:P.underlying e=some .bool)(ht:P.underlying t=some (.map k e))(hz:(zeroValue e).run P w = .ok (.bool false) w){x:Int}(hx:I64 x) :
  (Instr.lookup t (.map (some b)) (.int .i64 x) false).run P w = .ok (.bool (ids.any (· == x))) w:=by
 obtain⟨D,h1,h2,h3⟩:=h
 obtain⟨v,ps,hrun,hv⟩:=h1.lookup (int_keyed hk) ht hz (plainElem_bool he false) (keyOf_int_mk hk (wf_i64 hx))
 obtain⟨c,rfl,hc⟩:=plainElem_bool_inv he hv
 simp only[Prod.mk.injEq]at hc
 rw[h3 x hx]at hc
 obtain⟨hc,-⟩:=hc
 cases hc
 exact hrun
/-- ids[x] = true -/
theorem IdMap.update(h:IdMap P k e w b ids)(hk:P.underlying k=some (.int .i64))(he:P.underlying e=some .bool)(ht:P.underlying t=some (.map k e))(hn:ids.length<maxLen){x:Int}(hx:I64 x) :
  ∃w',(Instr.mapUpdate t (.map (some b)) (.int .i64 x) (.bool true)).run P w = .ok () w'∧IdMap P k e w' b (ids++[x])∧w.grownBy w' (some b):=by
 obtain⟨D,h1,h2,h3⟩:=h
 obtain⟨w',hrun,ho,hg⟩:=h1.update (int_keyed hk) ht hn (keyOf_int_mk hk (wf_i64 hx)) (plainElem_bool he true)
 refine⟨w',hrun,⟨D.put (.int .i64 x) (.lit (.bool true)),?_,h2.put _ _,fun y hy=>?_⟩,hg⟩
 ·rw[List.length_append,List.length_singleton]; exact ho
 ·rw[List.any_append,List.any_cons,List.any_nil,Bool.or_false]
  by_cases hxy:x=y
  ·subst hxy
   rw[atKey_put_same h2 (k := .int .i64 x) (by first | trivial | simp[WideAt.IsKeyLit])]
   simp
  ·rw[atKey_put_other (by simpa using fun h=>hxy h.symm),h3 y hy]
   simp[hxy]
/- The three operations as steps of a walk. -/
end Go.Proofs.YtfmkkemfhjkajaaGreatDoor
namespace Go.Sx
open Go.Proofs.YtfmkkemfhjkajaaGreatDoor Go.RowKit Go.Rel
variable{P:Program}{k e:TypeId}{b:Nat}{ids:List Int}{w w':World}
variable{ops:Array Oper}{Q:Exit→Act→World→Prop}{w0:World}{a:Act}{os:List Oper}{n:Nat}{l:List (Nat×Value)}{bl:List (Nat×List Value)}{vs:List Mem1}
def newMapOf(os:List Oper):Option Nat:=match os with
 | o::_=>(match o.guard,o.dst,o.op with
  | none,some d,.makeMap _ none=>some d
  | _,_,_=>none)
 | []=>none
def lookOf(os:List Oper)(l:List (Nat×Value)):Option (TypeId×Nat×Int×Nat):=match os with
 | o::_=>(match o.guard,o.dst,o.op with
  | none,some d,.lookup t x i false=>(match rd (lift l) [] x,rd (lift l) [] i with
   | some (.map (some b)),some (.int .i64 z)=>some (t,b,z,d)
   | _,_=>none)
  | _,_,_=>none)
 | []=>none
def putOf(os:List Oper)(l:List (Nat×Value)):Option (TypeId×Nat×Int):=match os with
 | o::_=>(match o.guard,o.dst,o.op with
  | none,none,.mapUpdate t x i v=>(match rd (lift l) [] x,rd (lift l) [] i,rd (lift l) [] v with
   | some (.map (some b)),some (.int .i64 z),some (.bool true)=>some (t,b,z)
   | _,_,_=>none)
  | _,_,_=>none)
 | []=>none
theorem newM(S:St w0 a w n l bl vs)(d:Nat)(next:∀a' w' b,Ext w w'→b=w.heap.size→(∀k e,IdMap P k e w' b [])→St w0 a' w' n ((d,.map (some b))::l) bl vs→wpList P ops Q (os.drop 1) a' w')
  (hx:newMapOf os=some d:=by kernel_rfl) (hd:dOk n (some d)=true:=by rfl):wpList P ops Q os a w:=by
 unfold newMapOf at hx
 split at hx
 ·rename_i o os'
  split at hx
  ·rename_i d' t hg hdst hop
   cases hx
   have hrun:(execOp a.eval o).run P w = .ok (.value (.map (some w.heap.size))) (w.alloc (.map #[] 0)):=by
    unfold execOp
    simp only[hop]
    rfl
   unfold wpList
   rw[if_pos (by simp[Region.wanted,hg])]
   left
   unfold Oper.wp
   rw[hrun]
   simp only[Oper.upon]
   have hE:Ext w (w.alloc (.map #[] 0)):=below_alloc _ _
   have S1:=S.grow hE
   rw[hdst]
   exact next _ _ w.heap.size hE rfl (fun k e=>idMap_made P k e w) ⟨putD S.s hd _,S1.E,S1.own,S1.apart,S1.mem⟩
  ·cases hx
 ·cases hx
theorem lookM(S:St w0 a w n l bl vs)(d:Nat){t:TypeId}{z:Int}(h:IdMap P k e w b ids)(hk:P.underlying k=some (.int .i64))(he:P.underlying e=some .bool)(ht:P.underlying t=some (.map k e))(hz:(zeroValue e).run P w = .ok (.bool false) w)(hi:I64 z)
  (next:∀a',St w0 a' w n ((d,.bool (ids.any (· == z)))::l) bl vs→wpList P ops Q (os.drop 1) a' w)
  (hx:lookOf os l=some (t,b,z,d):=by kernel_rfl) (hd:dOk n (some d)=true:=by rfl):wpList P ops Q os a w:=by
 unfold lookOf at hx
 split at hx
 ·rename_i o os'
  split at hx
  ·rename_i d' t' x i hg hdst hop
   split at hx
   ·rename_i b' z' hxx hii
    cases hx
    have hR:=rd_all (holds_lift S.s) o
    have hxv:=rd_ok (Std.act a) (hR x (by rw[hop]; simp[Op.operands])) (p:=[]) rfl hxx
    have hyv:=rd_ok (Std.act a) (hR i (by rw[hop]; simp[Op.operands])) (p:=[]) rfl hii
    have hrun:(execOp a.eval o).run P w = .ok (.value (.bool (ids.any (· == z)))) w:=by
     unfold execOp
     simp only[hop,hxv,hyv,Sem.run_bind,h.lookup hk he ht hz hi]
     rfl
    unfold wpList
    rw[if_pos (by simp[Region.wanted,hg])]
    left
    unfold Oper.wp
    rw[hrun]
    simp only[Oper.upon]
    rw[hdst]
    exact next _ (S.act (putD S.s hd _))
   ·cases hx
  ·cases hx
 ·cases hx
theorem St.mapW(S:St w0 a w n l bl vs)(h:IdMap P k e w b ids)(hb:w0.heap.size≤b)(hg:w.grownBy w' (some b))(h1:bl.all (fun p => !p.2.isEmpty)=true)(h2:vs.all (fun m => !m.2.2.isEmpty)=true):St w0 a w' n l bl vs:=by
 have hm:∀i,w.cell? ⟨b,i,none⟩=none:=by
  obtain⟨D,⟨es,clock,hB,_⟩,_⟩:=h
  intro i
  simp[World.cell?,hB]
 have hcell:∀c i,c<w.heap.size→c≠b→w'.cell? ⟨c,i,none⟩=w.cell? ⟨c,i,none⟩:=by
  intro c i hc hne
  simp only[World.cell?]
  rw[hg.block c hc (fun e=>hne (Option.some.inj e))]
 have hfroz:∀c i,c<w.heap.size→c≠b→w'.frozen? ⟨c,i,none⟩=w.frozen? ⟨c,i,none⟩:=by
  intro c i hc hne
  simp only[World.frozen?]
  rw[hg.block c hc (fun e=>hne (Option.some.inj e))]
 have hE:Ext w0 w':=S.E.grown hg S.E.size (fun k e=>by cases e; exact hb)
 refine⟨S.s,hE,fun p hp=>?_,S.apart,fun m hmm=>?_⟩
 ·obtain⟨⟨q1,q2,q3⟩,q4⟩:=S.own p hp
  have hne:p.1≠b:=by
   intro e
   have h3:=List.all_eq_true.1 h1 p hp
   have h4:=q2 0
   rw[e,hm 0]at h4
   cases hA:p.2 with
   | nil=>rw[hA]at h3; cases h3
   | cons x A=>rw[hA]at h4; simp at h4
  exact⟨⟨Nat.lt_of_lt_of_le q1 hg.size,fun i=>by rw[hcell _ _ q1 hne]; exact q2 i,fun i=>by rw[hfroz _ _ q1 hne]; exact q3 i⟩,q4⟩
 ·obtain⟨⟨q1,q2⟩,q3⟩:=S.mem m hmm
  have hne:m.1≠b:=by
   intro e
   have h3:=List.all_eq_true.1 h2 m hmm
   cases hA:m.2.2 with
   | nil=>rw[hA]at h3; cases h3
   | cons x A =>
    have h4:=q2 0 x (by rw[hA]; rfl)
    rw[e,hm]at h4
    cases h4
  exact⟨⟨Nat.lt_of_lt_of_le q1 hg.size,fun i v hi=>by rw[hcell _ _ q1 hne]; exact q2 i v hi⟩,q3⟩
theorem putM(S:St w0 a w n l bl vs){t:TypeId}{z:Int}(h:IdMap P k e w b ids)(hb:w0.heap.size≤b)(hk:P.underlying k=some (.int .i64))(he:P.underlying e=some .bool)(ht:P.underlying t=some (.map k e))(hn:ids.length<maxLen)(hi:I64 z)
  (next:∀w',IdMap P k e w' b (ids++[z])→w.grownBy w' (some b)→St w0 a w' n l bl vs→wpList P ops Q (os.drop 1) a w')
  (hx:putOf os l=some (t,b,z):=by kernel_rfl) (h1:bl.all (fun p => !p.2.isEmpty)=true:=by kernel_rfl) (h2:vs.all (fun m => !m.2.2.isEmpty)=true:=by kernel_rfl):wpList P ops Q os a w:=by
 unfold putOf at hx
 split at hx
 ·rename_i o os'
  split at hx
  ·rename_i t' x i v hg hdst hop
   split at hx
   ·rename_i b' z' hxx hii hvv
    cases hx
    have hR:=rd_all (holds_lift S.s) o
    have hxv:=rd_ok (Std.act a) (hR x (by rw[hop]; simp[Op.operands])) (p:=[]) rfl hxx
    have hyv:=rd_ok (Std.act a) (hR i (by rw[hop]; simp[Op.operands])) (p:=[]) rfl hii
    have hzv:=rd_ok (Std.act a) (hR v (by rw[hop]; simp[Op.operands])) (p:=[]) rfl hvv
    obtain⟨w',hrun,h',hg'⟩:=h.update hk he ht hn hi
    have hrun:(execOp a.eval o).run P w = .ok .skip w':=by
     unfold execOp
     simp only[hop,hxv,hyv,hzv,Sem.run_bind,hrun]
     rfl
    unfold wpList
    rw[if_pos (by simp[Region.wanted,hg])]
    left
    unfold Oper.wp
    rw[hrun]
    simp only[Oper.upon]
    rw[hdst]
    exact next _ h' hg' (S.mapW h hb hg' h1 h2)
   ·cases hx
  ·cases hx
 ·cases hx
/-- The set leans on its block alone. -/
theorem idMap_on(h:IdMap P k e w b ids):On (fun i=>i=b) (fun w=>IdMap P k e w b ids) w:=fun w' hs hb=>h.kept fun i hi=>hb i (by rw[hi]; exact h.lt) hi
end Go.Sx
end
