/- What the program's Apply does is what the reference's does. No program in sight. The difference of two scenes by keys, and what applying it yields. No program in sight. Scenes and edits as records of cells. No program in sight. A set of numbers kept as a map from int to bool, made by the call itself. -/
import Derived.Test.YtfmkkemfhjkajaaGreatDoorPk33
import Derived.Maps.Own
import Derived.Maps.Views
import Derived.Test.YtfmkkemfhjkajaaGreatDoorOwn
section
namespace Go.Proofs.YtfmkkemfhjkajaaGreatDoor
set_option linter.unusedVariables false
def room1(p:NodeK):Int:=if p.kind=1 then p.depth+1 else p.depth
def lastRoom(r:Int)(a:List NodeK):Int:=match a.getLast? with | none=>r | some p=>room1 p
def Steps(r:Int):List NodeK→Prop
 | []=>True
 | x::t=>x.depth≤r∧Steps (room1 x) t
theorem lastRoom_cons(r:Int)(x:NodeK)(a:List NodeK):lastRoom r (x::a)=lastRoom (room1 x) a:=by
 unfold lastRoom
 cases a with
 | nil=>rfl
 | cons y a=>rw[List.getLast?_cons_cons]; cases h:(y::a).getLast? with
  | none=>simp at h
  | some p=>rfl
theorem Steps_append:∀{a b:List NodeK} {r:Int},Steps r (a++b)↔Steps r a∧Steps (lastRoom r a) b
 | [],b,r=>by simp only[List.nil_append,Steps,true_and]; rfl
 | x::a,b,r=>by
  rw[List.cons_append,lastRoom_cons]
  show x.depth≤r∧Steps (room1 x) (a++b)↔(x.depth≤r∧Steps (room1 x) a)∧_
  rw[Steps_append,and_assoc]
theorem Steps.mono{r r':Int}(h:r≤r'):∀{l:List NodeK},Steps r l→Steps r' l
 | [],_=>trivial
 | x::l,hl=>⟨by have:=hl.1; omega,hl.2⟩
theorem VL_steps{l:List NodeK}:VL l↔(∀x∈l,x.chk=0)∧(l.map NodeK.id).Nodup∧Steps 0 l:=by
 rw[VL_iff]
 refine and_congr_right fun _=>and_congr_right fun _=>?_
 have key:∀(l:List NodeK) (r:Int),(∀a x b,l=a++x::b→x.depth≤lastRoom r a)↔Steps r l:=by
  intro l
  induction l with
  | nil=>intro r; exact⟨fun _=>trivial,fun _ a x b h=>by simp at h⟩
  | cons y l ih =>
   intro r
   show _↔y.depth≤r∧Steps (room1 y) l
   rw[←ih]
   constructor
   ·intro h
    refine⟨h [] y l rfl,fun a x b e=>?_⟩
    rw[←lastRoom_cons r]
    exact h (y::a) x b (by rw[e]; rfl)
   ·rintro⟨h1,h2⟩ a x b e
    cases a with
    | nil =>
     simp only[List.nil_append,List.cons.injEq]at e
     rw[←e.1]; exact h1
    | cons z a =>
     simp only[List.cons_append,List.cons.injEq]at e
     rw[←e.1,lastRoom_cons]
     exact h2 a x b e.2
 exact key l 0
theorem VL.depth{l:List NodeK}(h:VL l):∀x∈l,0≤x.depth∧x.depth<8:=fun x hx=>(NodeK.chk_facts ((VL_iff.1 h).1 x hx)).2.2.2.2
/-- A list cut into head, a node with what lies below it, and the rest. -/
theorem Steps.cut{A B S:List NodeK}{x:NodeK}{r:Int}(h:Steps r (A++x::(S++B)))(hB:∀y∈B.head?,y.depth≤x.depth):Steps r (A++B):=by
 rw[Steps_append]at h ⊢
 refine⟨h.1,?_⟩
 cases B with
 | nil=>trivial
 | cons y B =>
  have h1:=hB y rfl
  have h2:=h.2.1
  have h3:=(Steps_append.1 h.2.2).2
  exact⟨by omega,h3.2⟩
theorem VL.sub{l m:List NodeK}(h:VL l)(hs:m.Sublist l)(hm:Steps 0 m):VL m:=by
 obtain⟨h1,h2,h3⟩:=VL_steps.1 h
 exact VL_steps.2 ⟨fun x hx=>h1 x (hs.subset hx),h2.sublist (hs.map _),hm⟩
theorem VL.take{l:List NodeK}(h:VL l)(n:Nat):VL (l.take n):=by
 refine h.sub (List.take_sublist n l) ?_
 have:=(VL_steps.1 h).2.2
 rw[←List.take_append_drop n l,Steps_append]at this
 exact this.1
theorem drop_cons{l:List NodeK}{i:Nat}(hi:i<l.length):l=l.take i++l[i]::l.drop (i+1):=by rw[List.getElem_cons_drop,List.take_append_drop]
theorem VL.cutK{l:List NodeK}{i:Nat}(h:VL l)(hi:i<l.length):VL (cutK l i (endK l i)):=by
 obtain⟨e1,e2⟩:=endK_le hi
 refine h.sub ?_ ?_
 ·unfold Go.Proofs.YtfmkkemfhjkajaaGreatDoor.cutK
  have:l=l.take i++l.drop i:=(List.take_append_drop _ _).symm
  have e3:l.drop (endK l i)=(l.drop i).drop (endK l i-i):=by rw[List.drop_drop]; congr 1; omega
  rw[e3]
  have h5:=List.Sublist.append_left (List.drop_sublist (endK l i-i) (l.drop i)) (l.take i)
  rw[List.take_append_drop]at h5
  exact h5
 ·have hs:=(VL_steps.1 h).2.2
  have e:l=l.take i++l[i]::((l.drop (i+1)).take (endK l i-(i+1))++l.drop (endK l i)):=by
   conv=>lhs; rw[drop_cons hi]
   congr 2
   rw[show l.drop (endK l i)=(l.drop (i+1)).drop (endK l i-(i+1)) by rw[List.drop_drop]; congr 1; omega,List.take_append_drop]
  rw[e]at hs
  refine Steps.cut hs fun y hy=>?_
  rw[List.head?_drop]at hy
  have hl:endK l i<l.length:=by
   by_cases hx:endK l i<l.length
   ·exact hx
   ·rw[List.getElem?_eq_none (by omega)]at hy; cases hy
  rw[List.getElem?_eq_getElem hl]at hy
  cases hy
  have h4:=(finN_spec (n:=l.length) (f:=depK l) hi).2.2.2
  rw[←endK_fin hi,depK_at hi,depK_at hl]at h4
  exact h4 hl
theorem segK_cons{l:List NodeK}{i:Nat}(hi:i<l.length):segK l i (endK l i)=l[i]::(l.drop (i+1)).take (endK l i-(i+1)):=by
 have:=endK_le hi
 unfold segK
 rw[←List.getElem_cons_drop hi,show endK l i-i=(endK l i-(i+1))+1 by omega,List.take_succ_cons]
theorem segK_mem{l:List NodeK}{i j:Nat}{x:NodeK}(h:x∈segK l i j):x∈l:=List.mem_of_mem_drop (List.mem_of_mem_take h)
theorem putK_length{l m:List NodeK}{k:Nat}(hk:k≤l.length):(putK l k m).length=l.length+m.length:=by
 unfold putK
 rw[List.length_append,List.length_append,List.length_take,List.length_drop]; omega
theorem cut_seg_length{l:List NodeK}{i j:Nat}(h1:i≤j)(h2:j≤l.length):(cutK l i j).length+(segK l i j).length=l.length:=by
 unfold cutK segK
 rw[List.length_append,List.length_take,List.length_drop,List.length_take,List.length_drop]; omega
/-- Behind right nodes, a wrong one is what Check tells. -/
theorem chkFrom_wrong:∀{a b pre:List NodeK} {x:NodeK},VFrom pre a→wrongK (pre++a) x≠0→chkFrom pre (a++x::b)=(wrongK (pre++a) x,(((pre++a).length:Nat):Int))
 | [],b,pre,x,_,h=>by
  rw[List.append_nil]at h ⊢
  rw[List.nil_append]
  unfold chkFrom
  rw[if_neg h]
 | y::a,b,pre,x,hv,h=>by
  rw[List.cons_append]
  unfold chkFrom
  rw[if_pos hv.1,chkFrom_wrong (a:=a) hv.2 (by rw[List.append_assoc]; exact h),List.append_assoc]
  rfl
theorem wrongK_chk{pre:List NodeK}{x:NodeK}(h:x.chk≠0):wrongK pre x=x.chk:=by unfold wrongK; rw[if_pos h]
/-- What the program does with a node that moves. -/
def NodeK.moved(n:NodeK)(root to:Int):NodeK:={n with depth:=IntKind.i64.wrap (n.depth+IntKind.i64.wrap (to-root))}
def nodesP(l:List NodeK)(e:EditK):Except Int (List NodeK):=
 if e.kind=3 then (match findK l e.id with
  | none => .error 8
  | some i=>if e.index<0∨((cutK l i (endK l i)).length:Int)<e.index then .error 6
   else .ok (putK (cutK l i (endK l i)) e.index.toNat ((segK l i (endK l i)).map fun n=>n.moved (depK l i) e.depth)))
 else nodesK l e
noncomputable def applyP(s:SceneK)(e:EditK):SceneK×Int:=
 if s.valid=false then (.zero,18)else if e.named=false then (.zero,2)else
 match nodesP s.ns e with
 | .error n=>(.zero,n)
 | .ok l=>if (s.with' e l).chk.1=0 then (s.with' e l,0)else (.zero,(s.with' e l).chk.1)
theorem moved_sunk{n:NodeK}{root to:Int}(h1:0≤n.depth∧n.depth<8)(h2:0≤root∧root<8)(h3:0≤to∧to≤8):n.moved root to=n.sunk root to:=by
 unfold NodeK.moved NodeK.sunk
 rw[if_neg (by omega)]
 have:IntKind.i64.wrap (n.depth+IntKind.i64.wrap (to-root))=n.depth-root+to:=by rw[IntKind.wrap_i64,IntKind.wrap_i64]; omega
 rw[this]
theorem wrap_back{root to:Int}(h2:0≤root∧root<8)(h3:I64 to):IntKind.i64.wrap (root+IntKind.i64.wrap (to-root))=to:=by
 have:=h3.1; have:=h3.2
 rw[IntKind.wrap_i64,IntKind.wrap_i64]; omega
theorem applyP_eq{s:SceneK}{e:EditK}(hd:I64 e.depth):applyP s e=applyK s e:=by
 unfold applyP applyK
 cases hv:s.valid with
 | false=>rfl
 | true =>
  rw[if_neg (by decide),if_neg (show ¬true=false by decide)]
  obtain⟨hw,hlen,hV⟩:=SceneK.valid_iff.1 hv
  cases hn:e.named with
  | false=>rfl
  | true =>
   rw[if_neg (show ¬true=false by decide),if_neg (show ¬true=false by decide)]
   unfold nodesP
   by_cases hk:e.kind=3
   ·rw[if_pos hk]
    unfold nodesK
    rw[if_neg (by omega),if_neg (by omega),if_pos hk]
    cases hf:findK s.ns e.id with
    | none=>rfl
    | some i =>
     simp only
     obtain⟨hi,hid⟩:=findK_some hf
     obtain⟨e1,e2⟩:=endK_le hi
     by_cases hx:e.index<0∨((cutK s.ns i (endK s.ns i)).length:Int)<e.index
     ·simp only[if_pos hx]
     ·simp only[if_neg hx]
      have hr:=hV.depth _ (List.getElem_mem hi)
      have hc:=hV.cutK hi
      rw[depK_at hi]
      by_cases ht:0≤e.depth∧e.depth≤8
      ·have:(segK s.ns i (endK s.ns i)).map (fun n=>n.moved s.ns[i].depth e.depth)=(segK s.ns i (endK s.ns i)).map (fun n=>n.sunk s.ns[i].depth e.depth):=
        List.map_congr_left fun n hn=>moved_sunk (hV.depth n (segK_mem hn)) hr ht
       rw[this]
      ·-- the root is wrong in both
       have key:∀(f:NodeK→NodeK),(f s.ns[i]).chk=6→(s.with' e (putK (cutK s.ns i (endK s.ns i)) e.index.toNat ((segK s.ns i (endK s.ns i)).map f))).chk=(6,e.index):=by
        intro f hf6
        have hlen2:=cut_seg_length (l:=s.ns) (i:=i) (j:=endK s.ns i) (by omega) e2
        have hix:e.index.toNat≤(cutK s.ns i (endK s.ns i)).length:=by omega
        show SceneK.chk ⟨s.w,s.h,_,_⟩=_
        unfold SceneK.chk
        simp only
        rw[if_neg (by omega),if_neg (by rw[putK_length hix,List.length_map]; omega)]
        rw[segK_cons hi]
        unfold putK
        rw[List.map_cons,List.append_assoc,List.cons_append]
        have h6:wrongK ([]++(cutK s.ns i (endK s.ns i)).take e.index.toNat) (f s.ns[i])=6:=by rw[wrongK_chk (by rw[hf6]; decide),hf6]
        rw[chkFrom_wrong (hc.take _) (by rw[h6]; decide),h6]
        congr 1
        rw[List.nil_append,List.length_take]; omega
       have hck:=(VL_iff.1 hV).1 _ (List.getElem_mem hi)
       rw[key _ (by
        show({s.ns[i]with depth:=_}:NodeK).chk=6
        rw[wrap_back hr hd,NodeK.chk_depth hck,if_neg (by omega)])]
       rw[key _ (by
        unfold NodeK.sunk
        rw[if_pos (by omega),NodeK.chk_depth hck,if_neg (by omega)])]
       rfl
   ·simp only[if_neg hk]; rfl
end Go.Proofs.YtfmkkemfhjkajaaGreatDoor
end
section
namespace Go.Proofs.YtfmkkemfhjkajaaGreatDoor
set_option linter.unusedVariables false
def EditK.insert(i:Int)(n:NodeK):EditK:=⟨1,0,i,0,n,.none⟩
def EditK.paint(c:PixD):EditK:=⟨5,0,0,0,.zero,c⟩
/- Trees of the top level. -/
theorem VL.head{l:List NodeK}(h:VL l):∀y∈l.head?,y.depth=0:=by
 intro y hy
 cases l with
 | nil=>cases hy
 | cons x t =>
  cases hy
  have h1:=(VL_steps.1 h).2.2.1
  have h2:=h.depth _ List.mem_cons_self
  omega
/-- Edits that all succeed. -/
def Runs(s:SceneK)(es:List EditK)(t:SceneK):Prop:=∀k,applyAllK s es k=(t,((k+es.length:Nat):Int),0)
theorem Runs.nil(s:SceneK):Runs s [] s:=fun k=>rfl
theorem Runs.cons{s t u:SceneK}{e:EditK}{es:List EditK}(h:applyK s e=(t,0))(h2:Runs t es u):Runs s (e::es) u:=fun k=>by
 unfold applyAllK
 rw[h,if_pos rfl,h2 (k+1),List.length_cons]
 congr 2
 congr 1
 omega
theorem Runs.append:∀{es es2:List EditK} {s t u:SceneK},Runs s es t→Runs t es2 u→Runs s (es++es2) u
 | [],es2,s,t,u,h1,h2=>by
  have:=h1 0
  unfold applyAllK at this
  cases this
  exact h2
 | e::es,es2,s,t,u,h1,h2=>by
  have h0:=h1 0
  unfold applyAllK at h0
  split at h0
  ·rename_i he
   have h3:Runs (applyK s e).1 es t:=fun k=>by
    have h4:=h1 k
    unfold applyAllK at h4
    cases k with
    | zero =>
     rw[if_pos he]at h4
     have h5:∀(es:List EditK) (s t:SceneK) (k m:Nat),applyAllK s es k=(t,((k+es.length:Nat):Int),0)→applyAllK s es m=(t,((m+es.length:Nat):Int),0):=by
      intro es
      induction es with
      | nil=>intro s t k m h; unfold applyAllK at h ⊢; cases h; rfl
      | cons e es ih =>
       intro s t k m h
       unfold applyAllK at h ⊢
       split at h
       ·rename_i he; rw[if_pos he]
        have:=ih _ t (k+1) (m+1) (by rw[h,List.length_cons]; congr 2; congr 1; omega)
        rw[this,List.length_cons]; congr 2; congr 1; omega
       ·rename_i he; simp only[Prod.mk.injEq]at h; exact absurd h.2.2 he
     exact h5 es _ t 1 0 (by rw[show(0+1:Nat)=1 from rfl]at h4; rw[h4,List.length_cons]; congr 2; congr 1; omega)
    | succ k =>
     have h4:=h1 k
     unfold applyAllK at h4
     rw[if_pos he]at h4
     rw[h4,List.length_cons]; congr 2; congr 1; omega
   rw[List.cons_append]
   exact Runs.cons (t:=(applyK s e).1) (by rw[←he]) (Runs.append h3 h2)
  ·rename_i he
   simp only[Prod.mk.injEq]at h0
   exact absurd h0.2.2 he
def SceneK.put(s:SceneK)(l:List NodeK):SceneK:=⟨s.w,s.h,s.bg,l⟩
end Go.Proofs.YtfmkkemfhjkajaaGreatDoor
end
section
namespace Go.Proofs.YtfmkkemfhjkajaaGreatDoor
open Go.RowKit
variable{α:Type}{K:Nat}
set_option linter.unusedVariables false
structure SceneD where
 w:Int
 h:Int
 bg:PixD
 nsa:Option Addr
 nsc:Nat
 ns:List NodeD
def SceneD.s(s:SceneD):Value := .slice s.nsa s.ns.length s.nsc
def SceneD.cells(s:SceneD):List Value:=[.int .i64 s.w,.int .i64 s.h]++s.bg.cells++[s.s]
def SceneD.v(s:SceneD):Value := .agg s.cells.toArray
def SceneD.key(s:SceneD):SceneK:=⟨s.w,s.h,s.bg,s.ns.map NodeD.key⟩
abbrev IsNodes (K:Nat)(w:World)(v:Value)(l:List NodeD):Prop:=IsRowN 47 NodeD.cells w v l∧∀n∈l,NodeOk K w n
def SceneOk(K:Nat)(w:World)(s:SceneD):Prop:=I64 s.w∧I64 s.h∧IsNodes K w s.s s.ns
structure EditD where
 kind:Int
 id:Int
 index:Int
 depth:Int
 node:NodeD
 color:PixD
def EditD.cells(e:EditD):List Value:=[.int .i64 e.kind,.int .i64 e.id,.int .i64 e.index,.int .i64 e.depth]++e.node.cells++e.color.cells
def EditD.v(e:EditD):Value := .agg e.cells.toArray
def EditD.key(e:EditD):EditK:=⟨e.kind,e.id,e.index,e.depth,e.node.key,e.color⟩
def EditOk(K:Nat)(w:World)(e:EditD):Prop:=I64 e.kind∧I64 e.id∧I64 e.index∧I64 e.depth∧NodeOk K w e.node
theorem IsNodes.below{w w':World}{v:Value}{l:List NodeD}(h:IsNodes K w v l)(hb:Ext w w'):IsNodes K w' v l:=⟨h.1.below hb,fun n hn=>(h.2 n hn).below hb⟩
theorem SceneOk.below{w w':World}{s:SceneD}(h:SceneOk K w s)(hb:Ext w w'):SceneOk K w' s:=⟨h.1,h.2.1,h.2.2.below hb⟩
theorem EditOk.below{w w':World}{e:EditD}(h:EditOk K w e)(hb:Ext w w'):EditOk K w' e:=⟨h.1,h.2.1,h.2.2.1,h.2.2.2.1,h.2.2.2.2.below hb⟩
def SceneD.zero:SceneD:=⟨0,0,.none,none,0,[]⟩
theorem sceneD_zero_ok(w:World):SceneOk K w .zero:=⟨by decide,by decide,⟨rowN_nil _ _ _,fun n hn=>by cases hn⟩⟩
/-- What the loop of Check holds behind these nodes. -/
theorem roomK_snoc(pre:List NodeK)(x:NodeK):roomK (pre++[x])=if x.kind=1 then x.depth+1 else x.depth:=by
 unfold roomK
 rw[List.getLast?_concat]
end Go.Proofs.YtfmkkemfhjkajaaGreatDoor
end
section
namespace Go.Proofs.YtfmkkemfhjkajaaGreatDoor
open Go.Maps
set_option linter.unusedVariables false
variable{P:Program}{k e t:TypeId}{b:Nat}{ids:List Int}{w w':World}
/-- Block b is a map that holds true for these numbers. -/
def IdMap(P:Program)(k e:TypeId)(w:World)(b:Nat)(ids:List Int):Prop:=
 ∃D:DataW Unit,w.ownsMap P k (plainElem P e) b ids.length D∧IsMap D∧∀x:Int,I64 x→D.atKey (.int .i64 x) (.lit (.bool false)) = .lit (.bool (ids.any (· == x)))
theorem idMap_made(P:Program)(k e:TypeId)(w:World):IdMap P k e (w.alloc (.map #[] 0)) w.heap.size []:=
 ⟨.map [],World.ownsMap_made w P k _,isMap_empty,fun x _=>rfl⟩
theorem wf_i64{x:Int}(h:I64 x):(Lit.int .i64 x).wf=true:=by
 obtain⟨h1,h2⟩:=h
 have e1:IntKind.i64.min = -9223372036854775808:=by decide
 have e2:IntKind.i64.max=9223372036854775807:=by decide
 simp[Lit.wf,e1,e2]
 omega
theorem plainElem_bool_inv{H:Type}(he:P.underlying e=some .bool){v:Value}{z:DataW H×List MemPlace}(h:plainElem P e v=some z):∃c,v = .bool c∧z=(.lit (.bool c),[]):=by
 unfold plainElem at h
 rw[he]at h
 cases v<;>simp at h
 exact⟨_,rfl,h.symm⟩
theorem IdMap.lt(h:IdMap P k e w b ids):b<w.heap.size:=by obtain⟨D,h,_⟩:=h; exact h.lt
theorem IdMap.kept(h:IdMap P k e w b ids)(hb:∀i,i=b→w'.heap[i]?=w.heap[i]?):IdMap P k e w' b ids:=by
 obtain⟨D,⟨es,clock,hB,F,hs,hD⟩,h2,h3⟩:=h
 exact⟨D,⟨es,clock,(hb b rfl).trans hB,F,hs,hD⟩,h2,h3⟩
theorem IdMap.ext(h:IdMap P k e w b ids)(hb:Ext w w'):IdMap P k e w' b ids:=h.kept fun i hi=>hb.block i (by rw[hi]; exact h.lt)
/-- ids[x] -/
theorem IdMap.lookup(h:IdMap P k e w b ids)(hk:P.underlying k=some (.int .i64))(he:P.underlying e=some .bool)(ht:P.underlying t=some (.map k e))(hz:(zeroValue e).run P w = .ok (.bool false) w){x:Int}(hx:I64 x) :
  (Instr.lookup t (.map (some b)) (.int .i64 x) false).run P w = .ok (.bool (ids.any (· == x))) w:=by
 obtain⟨D,h1,h2,h3⟩:=h
 obtain⟨v,ps,hrun,hv⟩:=h1.lookup (int_keyed hk) ht hz (plainElem_bool he false) (keyOf_int_mk hk (wf_i64 hx))
 obtain⟨c,rfl,hc⟩:=plainElem_bool_inv he hv
 simp only[Prod.mk.injEq]at hc
 rw[h3 x hx]at hc
 obtain⟨hc,-⟩:=hc
 cases hc
 exact hrun
/-- ids[x] = true -/
theorem IdMap.update(h:IdMap P k e w b ids)(hk:P.underlying k=some (.int .i64))(he:P.underlying e=some .bool)(ht:P.underlying t=some (.map k e))(hn:ids.length<maxLen){x:Int}(hx:I64 x) :
  ∃w',(Instr.mapUpdate t (.map (some b)) (.int .i64 x) (.bool true)).run P w = .ok () w'∧IdMap P k e w' b (ids++[x])∧w.grownBy w' (some b):=by
 obtain⟨D,h1,h2,h3⟩:=h
 obtain⟨w',hrun,ho,hg⟩:=h1.update (int_keyed hk) ht hn (keyOf_int_mk hk (wf_i64 hx)) (plainElem_bool he true)
 refine⟨w',hrun,⟨D.put (.int .i64 x) (.lit (.bool true)),?_,h2.put _ _,fun y hy=>?_⟩,hg⟩
 ·rw[List.length_append,List.length_singleton]; exact ho
 ·rw[List.any_append,List.any_cons,List.any_nil,Bool.or_false]
  by_cases hxy:x=y
  ·subst hxy
   rw[atKey_put_same h2 (k := .int .i64 x) (by first | trivial | simp[WideAt.IsKeyLit])]
   simp
  ·rw[atKey_put_other (by simpa using fun h=>hxy h.symm),h3 y hy]
   simp[hxy]
/- The three operations as steps of a walk. -/
end Go.Proofs.YtfmkkemfhjkajaaGreatDoor
namespace Go.Sx
open Go.Proofs.YtfmkkemfhjkajaaGreatDoor Go.RowKit Go.Rel
variable{P:Program}{k e:TypeId}{b:Nat}{ids:List Int}{w w':World}
variable{ops:Array Oper}{Q:Exit→Act→World→Prop}{w0:World}{a:Act}{os:List Oper}{n:Nat}{l:List (Nat×Value)}{bl:List (Nat×List Value)}{vs:List Mem1}
def newMapOf(os:List Oper):Option Nat:=match os with
 | o::_=>(match o.guard,o.dst,o.op with
  | none,some d,.makeMap _ none=>some d
  | _,_,_=>none)
 | []=>none
def lookOf(os:List Oper)(l:List (Nat×Value)):Option (TypeId×Nat×Int×Nat):=match os with
 | o::_=>(match o.guard,o.dst,o.op with
  | none,some d,.lookup t x i false=>(match rd (lift l) [] x,rd (lift l) [] i with
   | some (.map (some b)),some (.int .i64 z)=>some (t,b,z,d)
   | _,_=>none)
  | _,_,_=>none)
 | []=>none
def putOf(os:List Oper)(l:List (Nat×Value)):Option (TypeId×Nat×Int):=match os with
 | o::_=>(match o.guard,o.dst,o.op with
  | none,none,.mapUpdate t x i v=>(match rd (lift l) [] x,rd (lift l) [] i,rd (lift l) [] v with
   | some (.map (some b)),some (.int .i64 z),some (.bool true)=>some (t,b,z)
   | _,_,_=>none)
  | _,_,_=>none)
 | []=>none
theorem newM(S:St w0 a w n l bl vs)(d:Nat)(next:∀a' w' b,Ext w w'→b=w.heap.size→(∀k e,IdMap P k e w' b [])→St w0 a' w' n ((d,.map (some b))::l) bl vs→wpList P ops Q (os.drop 1) a' w')
  (hx:newMapOf os=some d:=by kernel_rfl) (hd:dOk n (some d)=true:=by rfl):wpList P ops Q os a w:=by
 unfold newMapOf at hx
 split at hx
 ·rename_i o os'
  split at hx
  ·rename_i d' t hg hdst hop
   cases hx
   have hrun:(execOp a.eval o).run P w = .ok (.value (.map (some w.heap.size))) (w.alloc (.map #[] 0)):=by
    unfold execOp
    simp only[hop]
    rfl
   unfold wpList
   rw[if_pos (by simp[Region.wanted,hg])]
   left
   unfold Oper.wp
   rw[hrun]
   simp only[Oper.upon]
   have hE:Ext w (w.alloc (.map #[] 0)):=below_alloc _ _
   have S1:=S.grow hE
   rw[hdst]
   exact next _ _ w.heap.size hE rfl (fun k e=>idMap_made P k e w) ⟨putD S.s hd _,S1.E,S1.own,S1.apart,S1.mem⟩
  ·cases hx
 ·cases hx
theorem lookM(S:St w0 a w n l bl vs)(d:Nat){t:TypeId}{z:Int}(h:IdMap P k e w b ids)(hk:P.underlying k=some (.int .i64))(he:P.underlying e=some .bool)(ht:P.underlying t=some (.map k e))(hz:(zeroValue e).run P w = .ok (.bool false) w)(hi:I64 z)
  (next:∀a',St w0 a' w n ((d,.bool (ids.any (· == z)))::l) bl vs→wpList P ops Q (os.drop 1) a' w)
  (hx:lookOf os l=some (t,b,z,d):=by kernel_rfl) (hd:dOk n (some d)=true:=by rfl):wpList P ops Q os a w:=by
 unfold lookOf at hx
 split at hx
 ·rename_i o os'
  split at hx
  ·rename_i d' t' x i hg hdst hop
   split at hx
   ·rename_i b' z' hxx hii
    cases hx
    have hR:=rd_all (holds_lift S.s) o
    have hxv:=rd_ok (Std.act a) (hR x (by rw[hop]; simp[Op.operands])) (p:=[]) rfl hxx
    have hyv:=rd_ok (Std.act a) (hR i (by rw[hop]; simp[Op.operands])) (p:=[]) rfl hii
    have hrun:(execOp a.eval o).run P w = .ok (.value (.bool (ids.any (· == z)))) w:=by
     unfold execOp
     simp only[hop,hxv,hyv,Sem.run_bind,h.lookup hk he ht hz hi]
     rfl
    unfold wpList
    rw[if_pos (by simp[Region.wanted,hg])]
    left
    unfold Oper.wp
    rw[hrun]
    simp only[Oper.upon]
    rw[hdst]
    exact next _ (S.act (putD S.s hd _))
   ·cases hx
  ·cases hx
 ·cases hx
theorem St.mapW(S:St w0 a w n l bl vs)(h:IdMap P k e w b ids)(hb:w0.heap.size≤b)(hg:w.grownBy w' (some b))(h1:bl.all (fun p => !p.2.isEmpty)=true)(h2:vs.all (fun m => !m.2.2.isEmpty)=true):St w0 a w' n l bl vs:=by
 have hm:∀i,w.cell? ⟨b,i,none⟩=none:=by
  obtain⟨D,⟨es,clock,hB,_⟩,_⟩:=h
  intro i
  simp[World.cell?,hB]
 have hcell:∀c i,c<w.heap.size→c≠b→w'.cell? ⟨c,i,none⟩=w.cell? ⟨c,i,none⟩:=by
  intro c i hc hne
  simp only[World.cell?]
  rw[hg.block c hc (fun e=>hne (Option.some.inj e))]
 have hfroz:∀c i,c<w.heap.size→c≠b→w'.frozen? ⟨c,i,none⟩=w.frozen? ⟨c,i,none⟩:=by
  intro c i hc hne
  simp only[World.frozen?]
  rw[hg.block c hc (fun e=>hne (Option.some.inj e))]
 have hE:Ext w0 w':=S.E.grown hg S.E.size (fun k e=>by cases e; exact hb)
 refine⟨S.s,hE,fun p hp=>?_,S.apart,fun m hmm=>?_⟩
 ·obtain⟨⟨q1,q2,q3⟩,q4⟩:=S.own p hp
  have hne:p.1≠b:=by
   intro e
   have h3:=List.all_eq_true.1 h1 p hp
   have h4:=q2 0
   rw[e,hm 0]at h4
   cases hA:p.2 with
   | nil=>rw[hA]at h3; cases h3
   | cons x A=>rw[hA]at h4; simp at h4
  exact⟨⟨Nat.lt_of_lt_of_le q1 hg.size,fun i=>by rw[hcell _ _ q1 hne]; exact q2 i,fun i=>by rw[hfroz _ _ q1 hne]; exact q3 i⟩,q4⟩
 ·obtain⟨⟨q1,q2⟩,q3⟩:=S.mem m hmm
  have hne:m.1≠b:=by
   intro e
   have h3:=List.all_eq_true.1 h2 m hmm
   cases hA:m.2.2 with
   | nil=>rw[hA]at h3; cases h3
   | cons x A =>
    have h4:=q2 0 x (by rw[hA]; rfl)
    rw[e,hm]at h4
    cases h4
  exact⟨⟨Nat.lt_of_lt_of_le q1 hg.size,fun i v hi=>by rw[hcell _ _ q1 hne]; exact q2 i v hi⟩,q3⟩
theorem putM(S:St w0 a w n l bl vs){t:TypeId}{z:Int}(h:IdMap P k e w b ids)(hb:w0.heap.size≤b)(hk:P.underlying k=some (.int .i64))(he:P.underlying e=some .bool)(ht:P.underlying t=some (.map k e))(hn:ids.length<maxLen)(hi:I64 z)
  (next:∀w',IdMap P k e w' b (ids++[z])→w.grownBy w' (some b)→St w0 a w' n l bl vs→wpList P ops Q (os.drop 1) a w')
  (hx:putOf os l=some (t,b,z):=by kernel_rfl) (h1:bl.all (fun p => !p.2.isEmpty)=true:=by kernel_rfl) (h2:vs.all (fun m => !m.2.2.isEmpty)=true:=by kernel_rfl):wpList P ops Q os a w:=by
 unfold putOf at hx
 split at hx
 ·rename_i o os'
  split at hx
  ·rename_i t' x i v hg hdst hop
   split at hx
   ·rename_i b' z' hxx hii hvv
    cases hx
    have hR:=rd_all (holds_lift S.s) o
    have hxv:=rd_ok (Std.act a) (hR x (by rw[hop]; simp[Op.operands])) (p:=[]) rfl hxx
    have hyv:=rd_ok (Std.act a) (hR i (by rw[hop]; simp[Op.operands])) (p:=[]) rfl hii
    have hzv:=rd_ok (Std.act a) (hR v (by rw[hop]; simp[Op.operands])) (p:=[]) rfl hvv
    obtain⟨w',hrun,h',hg'⟩:=h.update hk he ht hn hi
    have hrun:(execOp a.eval o).run P w = .ok .skip w':=by
     unfold execOp
     simp only[hop,hxv,hyv,hzv,Sem.run_bind,hrun]
     rfl
    unfold wpList
    rw[if_pos (by simp[Region.wanted,hg])]
    left
    unfold Oper.wp
    rw[hrun]
    simp only[Oper.upon]
    rw[hdst]
    exact next _ h' hg' (S.mapW h hb hg' h1 h2)
   ·cases hx
  ·cases hx
 ·cases hx
/-- The set leans on its block alone. -/
theorem idMap_on(h:IdMap P k e w b ids):On (fun i=>i=b) (fun w=>IdMap P k e w b ids) w:=fun w' hs hb=>h.kept fun i hi=>hb i (by rw[hi]; exact h.lt) hi
end Go.Sx
end
