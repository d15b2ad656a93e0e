/- Package scene: the shape of scenes, their trees, what is common. -/
import Derived.Test.YtfmkkemfhjkajaaGreatDoorPk42
import Derived.Test.YtfmkkemfhjkajaaGreatDoorPk44
set_option maxHeartbeats 1600000
set_option maxRecDepth 100000
namespace Go.Proofs.YtfmkkemfhjkajaaGreatDoor
open Go.RowKit
variable{α:Type}{K:Nat}
set_option linter.unusedVariables false
/-- IDs and depths. -/
abbrev shp (l:List NodeD):List (Int×Int):=l.map fun n=>(n.id,n.depth)
theorem like_shp(l m:List NodeD):likeK (keys l) (keys m)=decide (shp l=shp m):=by
 unfold likeK
 rw[List.map_map,List.map_map,Bool.eq_iff_iff,beq_iff_eq,decide_eq_true_eq]; rfl
theorem sh_ne{l m:List NodeD}(h:l.length≠m.length):false=likeK (keys l) (keys m):=by
 have:shp l≠shp m:=fun e=>h (by simpa using congrArg List.length e)
 rw[like_shp]; simp[this]
theorem sh_end{l m:List NodeD}{k:Nat}(hk:l.length≤k)(h:l.length=m.length)(hR:(shp l).take k=(shp m).take k):true=likeK (keys l) (keys m):=by
 rw[List.take_of_length_le (by simpa using hk),List.take_of_length_le (by simpa using (show m.length≤k by omega))]at hR
 rw[like_shp]; simp[hR]
theorem sh_at{l:List NodeD}{k:Nat}{x:NodeD}(h:k<l.length)(hx:l[k]=x):(shp l)[k]'(by simpa using h)=(x.id,x.depth):=by simp[hx]
theorem sh_step{l m:List NodeD}{k:Nat}(h1:k<l.length)(h2:k<m.length)(hR:(shp l).take k=(shp m).take k){x y:NodeD}(hx:l[k]=x)(hy:m[k]=y)(h:(((x.id) != y.id)||((x.depth) != y.depth))=false):(shp l).take (k+1)=(shp m).take (k+1):=by
 rw[List.take_succ_eq_append_getElem (by simpa using h1),List.take_succ_eq_append_getElem (by simpa using h2),hR,sh_at h1 hx,sh_at h2 hy]
 simp at h
 rw[h.1,h.2]
theorem sh_no{l m:List NodeD}{k:Nat}(h1:k<l.length)(h2:k<m.length){x y:NodeD}(hx:l[k]=x)(hy:m[k]=y)(h:(((x.id) != y.id)||((x.depth) != y.depth))=true):false=likeK (keys l) (keys m):=by
 rw[like_shp]
 symm
 rw[decide_eq_false_iff_not]
 intro e
 have:=congrArg (·[k]?) e
 simp only[shp,List.getElem?_map,List.getElem?_eq_getElem h1,List.getElem?_eq_getElem h2,hx,hy,Option.map_some,Option.some.injEq,Prod.mk.injEq]at this
 simp[this]at h
/-- A tree of the top level, as a part of a row. -/
structure TreeD where
 a:Option Addr
 l:List NodeD
def TreeD.v(t:TreeD):Value := .slice t.a t.l.length t.l.length
abbrev TreeD.key (t:TreeD):List NodeK:=keys t.l
theorem tyTree:SliceTy Tryz.prog 123 24 (.slice none 0 0) 1 24:=⟨Tryz.underlying123,info_parts (by kernel_rfl),rfl,by decide⟩
abbrev IsTrees (K:Nat)(w:World)(v:Value)(l:List TreeD):Prop:=IsRowN 1 (fun t=>[t.v]) w v l∧∀t∈l,IsNodes K w t.v t.l
theorem IsTrees.below{w w':World}{v:Value}{l:List TreeD}(h:IsTrees K w v l)(hb:Ext w w'):IsTrees K w' v l:=⟨h.1.below hb,fun t ht=>(h.2 t ht).below hb⟩
/-- The trees before place i. -/
structure TreesAt (K:Nat) (w:World) (L:List NodeD) (i:Nat) (ts:List TreeD):Prop where
 le:i≤L.length
 key:rootsK (keys L)=ts.map TreeD.key++rootsK ((keys L).drop i)
 flat:(ts.map TreeD.l).flatten=L.take i
 ok:∀t∈ts,IsNodes K w t.v t.l
 len:ts.length≤i
 ne:∀t∈ts,0<t.l.length
theorem tw_take{β:Type}(p:β→Bool)(X:List β):X.take (X.takeWhile p).length=X.takeWhile p∧X.drop (X.takeWhile p).length=X.dropWhile p:=by
 have h:=List.takeWhile_append_dropWhile (p:=p) (l:=X)
 generalize X.takeWhile p=A at *
 generalize X.dropWhile p=B at *
 subst h
 exact⟨List.take_left,List.drop_left⟩
theorem roots_step{l:List NodeK}{i:Nat}(hi:i<l.length):rootsK (l.drop i)=((l.drop i).take (endK l i-i))::rootsK (l.drop (endK l i)):=by
 have hd:l.drop i=l[i]::l.drop (i+1):=(List.getElem_cons_drop hi).symm
 have h1:=endK_le hi
 have e:endK l i-i=((l.drop (i+1)).takeWhile fun κ=>decide (l[i].depth<κ.depth)).length+1:=by
  unfold endK; rw[depK_at hi]; omega
 obtain⟨t1,t2⟩:=tw_take (fun κ:NodeK=>decide (l[i].depth<κ.depth)) (l.drop (i+1))
 rw[show l.drop (endK l i)=(l.drop (i+1)).drop (endK l i-i-1) by rw[List.drop_drop]; congr 1; omega,e,Nat.add_sub_cancel,hd,roots_cons,List.take_succ_cons,t1,t2]
theorem isNodes_part{w:World}{a:Option Addr}{L:List NodeD}{c i j:Nat}(h:IsNodes K w (.slice a L.length c) L)(hi:i≤j)(hj:j≤L.length):IsNodes K w (.slice (Sx.slA a i j 47) (j-i) (j-i)) ((L.drop i).take (j-i)):=
 ⟨Sx.rowN_slice h.1 hi hj (Nat.le_refl j) (Nat.le_trans hj (Sx.rowN_cap h.1)),fun n hn=>h.2 n (List.mem_of_mem_drop (List.mem_of_mem_take hn))⟩
theorem TreesAt.step{w:World}{a:Option Addr}{L:List NodeD}{c i:Nat}{ts:List TreeD}(h:IsNodes K w (.slice a L.length c) L)(hT:TreesAt K w L i ts)(hi:i<L.length) :
  TreesAt K w L (endK (keys L) i) (ts++[⟨Sx.slA a i (endK (keys L) i) 47,(L.drop i).take (endK (keys L) i-i)⟩]):=by
 have hi':i<(keys L).length:=by simpa using hi
 obtain⟨h1,h2⟩:=endK_le hi'
 have h3:endK (keys L) i≤L.length:=by simpa using h2
 refine⟨h3,?_,?_,fun t ht=>?_,?_,fun t ht=>?_⟩
 ·rw[hT.key,roots_step hi',List.map_append,List.map_singleton,List.append_assoc,List.singleton_append]
  show _=_++((L.drop i).take _).map _::_
  rw[List.map_take,List.map_drop]
 ·rw[List.map_append,List.flatten_append,hT.flat,List.map_singleton,List.flatten_singleton]
  conv=>rhs; rw[show endK (keys L) i=i+(endK (keys L) i-i) by omega,List.take_add]
 ·rcases List.mem_append.1 ht with ht | ht
  ·exact hT.ok t ht
  ·rw[List.mem_singleton.1 ht]
   have:=isNodes_part h (i:=i) (j:=endK (keys L) i) (by omega) h3
   unfold TreeD.v
   rwa [show((L.drop i).take (endK (keys L) i-i)).length=endK (keys L) i-i by simp; omega]
 ·rw[List.length_append,List.length_singleton]; have:=hT.len; omega
 ·rcases List.mem_append.1 ht with ht | ht
  ·exact hT.ne t ht
  ·rw[List.mem_singleton.1 ht]; simp; omega
theorem pK_is:∀{x y:List (List NodeK)} {p:Nat},p≤x.length→p≤y.length→x.take p=y.take p→(∀(hx:p<x.length) (hy:p<y.length),x[p]≠y[p])→pK x y=p
 | [],y,p,h1,_,_,_=>by
  obtain rfl:p=0:=by simpa using h1
  simp[pK]
 | x::a,[],p,_,h2,_,_=>by
  obtain rfl:p=0:=by simpa using h2
  simp[pK]
 | x::a,y::b,0,_,_,_,h=>by
  unfold pK
  have:=h (by simp) (by simp)
  simp only[List.getElem_cons_zero]at this
  rw[if_neg this]
 | x::a,y::b,p+1,h1,h2,h3,h4=>by
  rw[List.take_succ_cons,List.take_succ_cons,List.cons.injEq]at h3
  unfold pK
  rw[if_pos h3.1,pK_is (by simpa using h1) (by simpa using h2) h3.2 fun hx hy=>by
   have:=h4 (by simpa using hx) (by simpa using hy)
   simpa using this]
theorem rev_at{x:List (List NodeK)}{p q:Nat}(h:q+p<x.length):∃h2:q<(x.drop p).reverse.length,(x.drop p).reverse[q]=x[x.length-1-q]'(by omega):=by
 refine⟨by simp; omega,?_⟩
 rw[List.getElem_reverse,List.getElem_drop]
 congr 1
 simp only[List.length_drop]; omega
abbrev tkeys (l:List TreeD):List (List NodeK):=l.map TreeD.key
theorem tk_at{l:List TreeD}{k:Nat}{x:TreeD}(h:k<l.length)(hx:l[k]=x):(tkeys l)[k]'(by simpa using h)=x.key:=by simp[hx]
/-- The first loop's word. -/
structure ComP (l m:List TreeD) (p:Nat):Prop where
 l1:p≤l.length
 l2:p≤m.length
 e:(tkeys l).take p=(tkeys m).take p
theorem ComP.zero(l m:List TreeD):ComP l m 0:=⟨Nat.zero_le _,Nat.zero_le _,rfl⟩
theorem ComP.step{l m:List TreeD}{p:Nat}(h:ComP l m p)(h1:p<l.length)(h2:p<m.length){x y:TreeD}(hx:l[p]=x)(hy:m[p]=y)(he:decide (keys x.l=keys y.l)=true):ComP l m (p+1):=by
 refine⟨h1,h2,?_⟩
 rw[List.take_succ_eq_append_getElem (by simpa using h1),List.take_succ_eq_append_getElem (by simpa using h2),h.e,tk_at h1 hx,tk_at h2 hy]
 have:=of_decide_eq_true he
 rw[show x.key=y.key from this]
theorem ComP.full{l m:List TreeD}{p:Nat}(h:ComP l m p)(hn:¬p<min l.length m.length):pK (tkeys l) (tkeys m)=p:=
 pK_is (by simpa using h.l1) (by simpa using h.l2) h.e fun hx hy=>by simp at hx hy; omega
theorem ComP.no{l m:List TreeD}{p:Nat}(h:ComP l m p)(h1:p<l.length)(h2:p<m.length){x y:TreeD}(hx:l[p]=x)(hy:m[p]=y)(he:decide (keys x.l=keys y.l)=false):pK (tkeys l) (tkeys m)=p:=
 pK_is (by simpa using h.l1) (by simpa using h.l2) h.e fun _ _=>by
  rw[tk_at h1 hx,tk_at h2 hy]
  exact of_decide_eq_false he
/-- The second loop's word. -/
structure ComQ (l m:List TreeD) (p q:Nat):Prop where
 l1:q+p≤l.length
 l2:q+p≤m.length
 e:((tkeys l).drop p).reverse.take q=((tkeys m).drop p).reverse.take q
theorem ComQ.zero{l m:List TreeD}{p:Nat}(h:ComP l m p):ComQ l m p 0:=⟨by have:=h.l1; omega,by have:=h.l2; omega,rfl⟩
theorem ComQ.at{l:List TreeD}{p q:Nat}{x:TreeD}(h:q+p<l.length)(hx:l[l.length-1-q]'(by omega)=x):∃h2:q<((tkeys l).drop p).reverse.length,((tkeys l).drop p).reverse[q]=x.key:=by
 obtain⟨h2,h3⟩:=rev_at (x:=tkeys l) (p:=p) (q:=q) (by simpa using h)
 refine⟨h2,h3.trans ?_⟩
 rw[List.getElem_map]
 simp only[List.length_map,hx]
theorem ComQ.step{l m:List TreeD}{p q:Nat}(h:ComQ l m p q)(h1:q+p<l.length)(h2:q+p<m.length){x y:TreeD}(hx:l[l.length-1-q]'(by omega)=x)(hy:m[m.length-1-q]'(by omega)=y)(he:decide (keys x.l=keys y.l)=true):ComQ l m p (q+1):=by
 obtain⟨a1,a2⟩:=ComQ.at h1 hx
 obtain⟨b1,b2⟩:=ComQ.at h2 hy
 refine⟨by omega,by omega,?_⟩
 rw[List.take_succ_eq_append_getElem a1,List.take_succ_eq_append_getElem b1,h.e,a2,b2,show x.key=y.key from of_decide_eq_true he]
theorem ComQ.full{l m:List TreeD}{p q:Nat}(h:ComQ l m p q)(hp:pK (tkeys l) (tkeys m)=p)(hn:¬q+p<min l.length m.length):qK (tkeys l) (tkeys m)=q:=by
 unfold qK
 rw[hp]
 refine pK_is ?_ ?_ h.e fun hx hy=>?_
 ·have:=h.l1; simp; omega
 ·have:=h.l2; simp; omega
 ·simp at hx hy; omega
theorem ComQ.no{l m:List TreeD}{p q:Nat}(h:ComQ l m p q)(hp:pK (tkeys l) (tkeys m)=p)(h1:q+p<l.length)(h2:q+p<m.length){x y:TreeD}(hx:l[l.length-1-q]'(by omega)=x)(hy:m[m.length-1-q]'(by omega)=y)(he:decide (keys x.l=keys y.l)=false):qK (tkeys l) (tkeys m)=q:=by
 obtain⟨a1,a2⟩:=ComQ.at h1 hx
 obtain⟨b1,b2⟩:=ComQ.at h2 hy
 unfold qK
 rw[hp]
 refine pK_is ?_ ?_ h.e fun hx hy=>?_
 ·have:=h.l1; simp; omega
 ·have:=h.l2; simp; omega
 ·rw[a2,b2]; exact of_decide_eq_false he
theorem wrap_sub{a b:Nat}(h:b≤a)(h2:a≤9223372036854775807):Value.int .i64 (IntKind.i64.wrap (((a:Nat):Int)-((b:Nat):Int))) = .int .i64 ((a-b:Nat):Int):=by
 have:IntKind.i64.wrap (((a:Nat):Int)-((b:Nat):Int))=((a-b:Nat):Int):=by rw[IntKind.wrap_i64]; omega
 rw[this]
theorem scShape_any{w:World}{v u:Value}{l m:List NodeD}(h:IsNodes K w v l)(h':IsNodes K w u m) :
  Calls Tryz.prog 72 #[v,u] w fun e w'=>e = .returned (.bool (likeK (keys l) (keys m)))∧Ext w w':=by
 obtain⟨a,cap,rfl⟩:=h.1.shape
 obtain⟨d,cap',rfl⟩:=h'.1.shape
 have hmax:l.length≤9223372036854775807:=h.1.len
 refine Sx.enter Tryz.func72 Tryz.ntmps72 fun ac S=>Sx.seqP fun _ κ1=>Sx.run S 1 [] [(4,.bool false)] fun ac S=>Sx.done<|κ1 _ _<|wp_seq_k fun _ κ2=>Sx.seqP fun _ κ3=>Sx.run S 5 [] [(10,.bool ((((l.length:Nat):Int)) != ((m.length:Nat):Int)))] fun ac S=>Sx.done (κ3 _ _ ?_)
 refine Sx.cond S (fun hc4=>?_) (fun hc4=>?_)
 ·refine Sx.seqP fun _ κ5=>Sx.run S 1 [] [(4,.bool false)] fun ac S=>Sx.done<|κ5 _ _<|Vp.rt ?_
  refine Sx.ret1 S Tryz.results72 ?_
  exact⟨ret_bool (sh_ne (fun e=>by rw[e]at hc4; simp at hc4)),S.E⟩
 ·refine wp_skip<|κ2 _ _<|wp_seq_k fun _ κ6=>Sx.seqP fun _ κ7=>Sx.run S 3 [] [(12,.int .i64 ((l.length:Nat):Int)),(13,.int .i64 0)] fun ac S=>Sx.done<|κ7 _ _<|wp_block ?_
  refine Vp.loop (ι:=Nat) (fun p a' w'=>p≤l.length∧((shp l).take p=(shp m).take p)∧Sx.St w a' w' 41 [(0,.slice a l.length cap),(1,.slice d m.length cap'),(4,.bool false),(12,.int .i64 ((l.length:Nat):Int)),(13,.int .i64 ((p:Nat):Int))] [] []) (fun p=>l.length-p) (0) ⟨Nat.zero_le _,rfl,(S.sub [(0,.slice a l.length cap),(1,.slice d m.length cap'),(4,.bool false),(12,.int .i64 ((l.length:Nat):Int)),(13,.int .i64 ((0:Nat):Int))]).noviews⟩ ?_
  rintro k ac u hI
  try dsimp only at hI
  obtain⟨hk,hR,S⟩:=hI
  refine Sx.seqP fun _ κ8=>Sx.run S 1 [] [(14,.bool (decide (((k:Nat):Int)<((l.length:Nat):Int))))] fun ac S=>Sx.done<|κ8 _ _<|wp_seq_k (fun _ κ9=>?_)
  refine Sx.cond S (fun hc10=>?_) (fun hc10=>?_)
  ·refine wp_skip<|κ9 _ _<|wp_seq_k fun _ κ11=>wp_block<|Sx.seqP fun _ κ12=>Sx.run S 2 [] [(5,.int .i64 ((k:Nat):Int))] fun ac S=>Sx.done<|κ12 _ _<|wp_seq_k (fun _ κ13=>?_)
   have lt20:k<l.length:=by have:=of_decide_eq_true hc10; omega
   obtain⟨b15,o16,c17,hv,hb22,hr18⟩:=Vp.rowN_range2 h.1 (fun _=>rfl) (k) lt20
   simp only[Value.slice.injEq,true_and]at hv
   obtain⟨rfl,rfl⟩:=hv
   obtain⟨x21,hx19⟩:∃z,l[k]=z:=⟨_,rfl⟩
   rw[hx19]at hr18
   have S:=S.view0 hb22 hr18
   have lt28:k<m.length:=by have:=of_len hc4; have:=of_decide_eq_true hc10; omega
   obtain⟨b23,o24,c25,hv,hb30,hr26⟩:=Vp.rowN_range2 h'.1 (fun _=>rfl) (k) lt28
   simp only[Value.slice.injEq,true_and]at hv
   obtain⟨rfl,rfl⟩:=hv
   obtain⟨y29,hx27⟩:∃z,m[k]=z:=⟨_,rfl⟩
   rw[hx27]at hr26
   have S:=S.view0 hb30 hr26
   refine Sx.draw S 24 [.idx k l.length,.mem 1 0,.idx k m.length,.mem 0 0,.idx k l.length,.mem 1 2,.idx k m.length,.mem 0 2] [] [(39,.bool (((x21.id) != y29.id)||((x21.depth) != y29.depth)))] trivial (hk:=⟨lt20,lt28,lt20,lt28,trivial⟩) fun ac u E14 S=>Sx.done (κ13 _ _ ?_)
   refine Sx.cond S (fun hc31=>?_) (fun hc31=>?_)
   ·refine Sx.seqP fun _ κ32=>Sx.run S 1 [] [(4,.bool false)] fun ac S=>Sx.done<|κ32 _ _<|Vp.rt ?_
    refine Sx.ret1 S Tryz.results72 ?_
    exact⟨ret_bool (sh_no lt20 lt28 hx19 hx27 hc31),S.E⟩
   ·refine wp_skip<|κ11 _ _<|Vp.region<|Sx.run S 2 [.re 40 (.int .i64 (IntKind.i64.wrap (((k:Nat):Int)+1))) (.int .i64 (((k+1):Nat):Int))] [(13,.int .i64 (((k+1):Nat):Int))] (hk:=⟨Sx.wrap_succ (by omega),trivial⟩) fun ac S=>Sx.done ?_
    show ∃i',_∧_
    exact⟨(k+1),⟨by omega,(sh_step lt20 lt28 hR hx19 hx27 hc31),(S.sub [(0,.slice (some ⟨b15,o16,none⟩) l.length cap),(1,.slice (some ⟨b23,o24,none⟩) m.length cap'),(4,.bool false),(12,.int .i64 ((l.length:Nat):Int)),(13,.int .i64 (((k+1):Nat):Int))]).noviews⟩,by show _-_<_-_; omega⟩
  ·refine wp_exit<|κ6 _ _<|Sx.seqP fun _ κ33=>Sx.run S 1 [] [(4,.bool true)] fun ac S=>Sx.done<|κ33 _ _<|Vp.rt ?_
   refine Sx.ret1 S Tryz.results72 ?_
   exact⟨ret_bool (sh_end (by have:=of_decide_eq_false hc10; omega) (of_len hc4) hR),S.E⟩
theorem rowz_nil{w0 w:World}{bl:List (Nat×List Value)}{e:TypeId}{k:Nat}(R:Sx.Rw w0 w bl []):Sx.Rw w0 w bl [⟨e,k,.slice none 0 0,0,[]⟩]:=rwn_nil R
theorem scRoots_any{w:World}{v:Value}{L:List NodeD}(h:IsNodes K w v L)(hn:L.length≤100000) :
  Calls Tryz.prog 108 #[v] w fun e w'=>∃(v':Value) (ts:List TreeD),e = .returned v'∧w'.ownsRow w.heap.size 24 1 v' ts.length (ts.map TreeD.v)∧(∀t∈ts,IsNodes K w' t.v t.l)∧(ts.map TreeD.l).flatten=L∧rootsK (keys L)=tkeys ts∧(∀t∈ts,0<t.l.length)∧ts.length≤L.length∧Ext w w':=by
 obtain⟨a,cap,rfl⟩:=h.1.shape
 have hlc:=Sx.rowN_cap h.1
 refine Sx.enter Tryz.func108 Tryz.ntmps108 fun ac S=>Sx.seqP fun _ κ1=>Sx.run S 1 [] [(2,.slice none 0 0)] fun ac S=>Sx.done<|κ1 _ _<|Sx.seqP fun _ κ2=>Sx.run S 1 [] [(3,.slice none 0 0)] fun ac S=>Sx.done<|κ2 _ _<|wp_seq_k fun _ κ3=>Sx.seqP fun _ κ4=>Sx.run S 1 [] [(4,.int .i64 0)] fun ac S=>Sx.done<|κ4 _ _<|wp_block ?_
 have R:=Sx.Rw.nil S
 have R:=rowz_nil (e:=24) (k:=1) R
 refine Vp.loop (ι:=Nat×Value×List TreeD) (fun p a' w'=>(TreesAt K w L p.1 p.2.2)∧Sx.Rw w w' [] [⟨24,1,p.2.1,p.2.2.length,p.2.2.map TreeD.v⟩]∧Sx.St w a' w' 23 [(0,.slice a L.length cap),(2,.slice none 0 0),(3,p.2.1),(4,.int .i64 ((p.1:Nat):Int))] [] []) (fun p=>L.length-p.1) (0,.slice none 0 0,[]) ⟨⟨Nat.zero_le _,rfl,rfl,(fun t ht=>by cases ht),Nat.le_refl _,(fun t ht=>by cases ht)⟩,R,(S.sub [(0,.slice a L.length cap),(2,.slice none 0 0),(3,.slice none 0 0),(4,.int .i64 ((0:Nat):Int))]).noviews⟩ ?_
 rintro⟨i,v,ts⟩ ac u hI
 try dsimp only at hI
 obtain⟨hR,R,S⟩:=hI
 refine wp_seq_k fun _ κ5=>Sx.seqP fun _ κ6=>Sx.run S 4 [] [(9,.bool (decide (((i:Nat):Int)<((L.length:Nat):Int))))] fun ac S=>Sx.done (κ6 _ _ ?_)
 refine Sx.cond S (fun hc7=>?_) (fun hc7=>?_)
 ·refine wp_skip<|κ5 _ _<|wp_block<|Sx.seqP (fun _ κ8=>?_)
  have hi:i<L.length:=by have:=of_decide_eq_true hc7; omega
  have hee:=endK_le (l:=keys L) (i:=i) (by simpa using hi)
  have he2:endK (keys L) i≤L.length:=by simpa using hee.2
  refine Sx.run S 2 [] [(10,.slice a L.length cap),(11,.int .i64 ((i:Nat):Int))] fun ac S=>Sx.callv S 12 (scEnd_any (h.1.below S.E) hi rfl rfl) fun ac u E9 S=>Sx.run S 1 [] [(5,.int .i64 ((endK (keys L) i:Nat):Int))] fun ac S=>Sx.done<|κ8 _ _<|Sx.seqP fun _ κ10=>Sx.run S 6 [.slc i (endK (keys L) i) (endK (keys L) i) cap] [(13,v),(18,.slice (Sx.slA a i (endK (keys L) i) 47) (endK (keys L) i-i) (endK (keys L) i-i))] (hk:=⟨⟨by omega,Nat.le_refl _,by omega⟩,trivial⟩) fun ac S=>Sx.news S 19 1 [.slice (Sx.slA a i (endK (keys L) i) 47) (endK (keys L) i-i) (endK (keys L) i-i)] (fun ac u b11 E12 hb13 S=>?_)
  have hTl:=hR.len
  obtain⟨R,Y14⟩:=R.sync2 S (Sx.Stp.trans (Sx.Stp.ext E9) (Sx.Stp.boxv E12 hb13))
  refine Sx.app S R 0 20 rfl tyTree (Sx.raw_bx (m:=1) (k:=1) (A:=[.slice (Sx.slA a i (endK (keys L) i) 47) (endK (keys L) i-i) (endK (keys L) i-i)]) (S.bx 0)) (by show ts.length+1≤9223372036854775807; omega) (by show(ts.length+1)*24≤140737488355328; omega) fun ac u v15 X16 R S=>Sx.run S 1 [] [(3,v15)] fun ac S=>Sx.done<|κ10 _ _<|Vp.region<|Sx.run S 2 [] [(4,.int .i64 ((endK (keys L) i:Nat):Int))] fun ac S=>Sx.done ?_
  have S:=S.dropB 1
  obtain⟨R,Y17⟩:=R.sync2 S (Sx.Stp.dropv 1)
  show ∃i',_∧_
  exact⟨((endK (keys L) i),v15,(ts++[(⟨Sx.slA a i (endK (keys L) i) 47,(L.drop i).take (endK (keys L) i-i)⟩:TreeD)])),⟨hR.step h hi,R.as (show [(⟨24,1,v15,ts.length+1,ts.map TreeD.v++[.slice (Sx.slA a i (endK (keys L) i) 47) (endK (keys L) i-i) (endK (keys L) i-i)]⟩:Sx.Row)]=[⟨24,1,v15,(ts++[(⟨Sx.slA a i (endK (keys L) i) 47,(L.drop i).take (endK (keys L) i-i)⟩:TreeD)]).length,(ts++[(⟨Sx.slA a i (endK (keys L) i) 47,(L.drop i).take (endK (keys L) i-i)⟩:TreeD)]).map TreeD.v⟩] by rw[List.length_append,List.map_append,List.map_singleton]; show _=[(⟨_,_,_,_,_++[TreeD.v _]⟩:Sx.Row)]; unfold TreeD.v; rw[show((L.drop i).take (endK (keys L) i-i)).length=endK (keys L) i-i by simp; omega]; rfl),(S.sub [(0,.slice a L.length cap),(2,.slice none 0 0),(3,v15),(4,.int .i64 (((endK (keys L) i):Nat):Int))]).noviews⟩,by show L.length-(endK (keys L) i)<L.length-i; omega⟩
 ·refine wp_exit<|κ3 _ _<|Sx.seqP fun _ κ18=>Sx.run S 2 [] [(2,v)] fun ac S=>Sx.done<|κ18 _ _<|Vp.rt ?_
  obtain rfl:i=L.length:=by have:=of_decide_eq_false hc7; have:=hR.le; omega
  refine Sx.ret1 S Tryz.results108 ?_
  exact⟨_,ts,rfl,R.own _ List.mem_cons_self,fun t ht=>(hR.ok t ht).below S.E,by rw[hR.flat,List.take_length],by rw[hR.key,List.drop_eq_nil_of_le (by simp),show rootsK []=[]from rfl,List.append_nil],hR.ne,by have:=hR.len; omega,S.E⟩
theorem scCommon_any{w:World}{v u:Value}{l m:List TreeD}(h:IsTrees K w v l)(h':IsTrees K w u m) :
  Calls Tryz.prog 109 #[v,u] w fun e w'=>e = .returned (.tuple #[.int .i64 ((pK (tkeys l) (tkeys m):Nat):Int),.int .i64 ((qK (tkeys l) (tkeys m):Nat):Int)])∧Ext w w':=by
 obtain⟨a,cap,rfl⟩:=h.1.shape
 obtain⟨d,cap',rfl⟩:=h'.1.shape
 have hmaxl:l.length≤9223372036854775807:=h.1.len
 have hmaxm:m.length≤9223372036854775807:=h'.1.len
 refine Sx.enter Tryz.func109 Tryz.ntmps109 fun ac S=>Sx.seqP fun _ κ1=>Sx.run S 2 [] [(4,.int .i64 0),(5,.int .i64 0)] fun ac S=>Sx.done<|κ1 _ _<|Sx.seqP fun _ κ2=>Sx.run S 2 [] [(6,.int .i64 0),(7,.int .i64 0)] fun ac S=>Sx.done<|κ2 _ _<|wp_seq_k fun _ κ3=>wp_block ?_
 refine Vp.loop (ι:=Nat) (fun p a' w'=>(ComP l m p)∧Sx.St w a' w' 60 [(0,.slice a l.length cap),(1,.slice d m.length cap'),(4,.int .i64 0),(5,.int .i64 0),(6,.int .i64 ((p:Nat):Int)),(7,.int .i64 0)] [] []) (fun p=>l.length-p) (0) ⟨ComP.zero l m,(S.sub [(0,.slice a l.length cap),(1,.slice d m.length cap'),(4,.int .i64 0),(5,.int .i64 0),(6,.int .i64 ((0:Nat):Int)),(7,.int .i64 0)]).noviews⟩ ?_
 rintro i ac u hI
 try dsimp only at hI
 obtain⟨hR,S⟩:=hI
 refine wp_seq_k fun _ κ4=>wp_seq_k (fun _ κ5=>?_)
 by_cases hq6:i<l.length∧i<m.length
 ·have hl1:=hq6.1
  have hl2:=hq6.2
  have hr1:=hR.l1
  have hr2:=hR.l2
  have lt13:i<l.length:=hl1
  obtain⟨b8,o9,c10,hv,hb15,hr11⟩:=Vp.rowN_range2 h.1 (fun _=>rfl) (i) lt13
  simp only[Value.slice.injEq,true_and]at hv
  obtain⟨rfl,rfl⟩:=hv
  obtain⟨x14,hx12⟩:∃z,l[i]=z:=⟨_,rfl⟩
  rw[hx12]at hr11
  have S:=S.view0 hb15 hr11
  have lt21:i<m.length:=hl2
  obtain⟨b16,o17,c18,hv,hb23,hr19⟩:=Vp.rowN_range2 h'.1 (fun _=>rfl) (i) lt21
  simp only[Value.slice.injEq,true_and]at hv
  obtain⟨rfl,rfl⟩:=hv
  obtain⟨y22,hx20⟩:∃z,m[i]=z:=⟨_,rfl⟩
  rw[hx20]at hr19
  have S:=S.view0 hb23 hr19
  refine Sx.draw S 18 [.re 13 (.int .i64 (if ((m.length:Nat):Int)<((l.length:Nat):Int)then ((m.length:Nat):Int)else ((l.length:Nat):Int))) (.int .i64 (min ((l.length:Nat):Int) ((m.length:Nat):Int))),.re 14 (.bool (decide (((i:Nat):Int)<(min ((l.length:Nat):Int) ((m.length:Nat):Int))))) (.bool true),.idx i l.length,.mem 1 0,.idx i m.length,.mem 0 0] [(_,_,true,.bool (decide (keys x14.l=keys y22.l)))] [(25,.bool (decide (keys x14.l=keys y22.l)))] ⟨fun u hC g=>scEqN_any ((h.2 _ (hx12▸List.getElem_mem lt13)).below (Ext.trans' S.E hC)) ((h'.2 _ (hx20▸List.getElem_mem lt21)).below (Ext.trans' S.E hC)),trivial⟩ (hk:=⟨Sx.min_re,(congrArg Value.bool (decide_eq_true (by omega))),lt13,lt21,trivial⟩) fun ac u E7 S=>Sx.done (κ5 _ _ ?_)
  refine Sx.cond S (fun hc24=>?_) (fun hc24=>?_)
  ·refine wp_skip<|κ4 _ _<|wp_block<|Vp.region<|Sx.run S 3 [.re 27 (.int .i64 (IntKind.i64.wrap (((i:Nat):Int)+1))) (.int .i64 (((i+1):Nat):Int))] [(6,.int .i64 (((i+1):Nat):Int))] (hk:=⟨Sx.wrap_succ (by omega),trivial⟩) fun ac S=>Sx.done ?_
   show ∃i',_∧_
   exact⟨(i+1),⟨hR.step hl1 hl2 hx12 hx20 hc24,(S.sub [(0,.slice (some ⟨b8,o9,none⟩) l.length cap),(1,.slice (some ⟨b16,o17,none⟩) m.length cap'),(4,.int .i64 0),(5,.int .i64 0),(6,.int .i64 (((i+1):Nat):Int)),(7,.int .i64 0)]).noviews⟩,by show l.length-(i+1)<l.length-i; omega⟩
  ·refine wp_exit<|κ3 _ _<|wp_seq_k fun _ κ25=>wp_block ?_
   have hpk:=hR.no hl1 hl2 hx12 hx20 hc24
   have hP0:=hR
   refine Vp.loop (ι:=Nat) (fun p a' w'=>(ComQ l m i p)∧Sx.St w a' w' 60 [(0,.slice (some ⟨b8,o9,none⟩) l.length cap),(1,.slice (some ⟨b16,o17,none⟩) m.length cap'),(4,.int .i64 0),(5,.int .i64 0),(6,.int .i64 ((i:Nat):Int)),(7,.int .i64 ((p:Nat):Int))] [] []) (fun p=>l.length-p) (0) ⟨ComQ.zero hP0,(S.sub [(0,.slice (some ⟨b8,o9,none⟩) l.length cap),(1,.slice (some ⟨b16,o17,none⟩) m.length cap'),(4,.int .i64 0),(5,.int .i64 0),(6,.int .i64 ((i:Nat):Int)),(7,.int .i64 ((0:Nat):Int))]).noviews⟩ ?_
   rintro q ac u hI
   try dsimp only at hI
   obtain⟨hR,S⟩:=hI
   refine wp_seq_k fun _ κ26=>wp_seq_k (fun _ κ27=>?_)
   by_cases hq28:q+i<l.length∧q+i<m.length
   ·have hl1:=hq28.1
    have hl2:=hq28.2
    have hr1:=hR.l1
    have hr2:=hR.l2
    have lt35:l.length-1-q<l.length:=by omega
    obtain⟨b30,o31,c32,hv,hb37,hr33⟩:=Vp.rowN_range2 h.1 (fun _=>rfl) (l.length-1-q) lt35
    simp only[Value.slice.injEq,Option.some.injEq,Addr.mk.injEq,true_and,and_true]at hv
    obtain⟨⟨rfl,rfl⟩,rfl⟩:=hv
    obtain⟨x36,hx34⟩:∃z,l[l.length-1-q]=z:=⟨_,rfl⟩
    rw[hx34]at hr33
    have S:=S.view0 hb37 hr33
    have lt43:m.length-1-q<m.length:=by omega
    obtain⟨b38,o39,c40,hv,hb45,hr41⟩:=Vp.rowN_range2 h'.1 (fun _=>rfl) (m.length-1-q) lt43
    simp only[Value.slice.injEq,Option.some.injEq,Addr.mk.injEq,true_and,and_true]at hv
    obtain⟨⟨rfl,rfl⟩,rfl⟩:=hv
    obtain⟨y44,hx42⟩:∃z,m[m.length-1-q]=z:=⟨_,rfl⟩
    rw[hx42]at hr41
    have S:=S.view0 hb45 hr41
    refine Sx.draw S 28 [.re 33 (.int .i64 (if ((m.length:Nat):Int)<((l.length:Nat):Int)then ((m.length:Nat):Int)else ((l.length:Nat):Int))) (.int .i64 (min ((l.length:Nat):Int) ((m.length:Nat):Int))),Sx.kw 35 ((min ((l.length:Nat):Int) ((m.length:Nat):Int))-((i:Nat):Int)),.re 36 (.bool (decide (((q:Nat):Int)<((min ((l.length:Nat):Int) ((m.length:Nat):Int))-((i:Nat):Int))))) (.bool true),.re 41 (.int .i64 (IntKind.i64.wrap (((l.length:Nat):Int)-1))) (.int .i64 ((l.length-1:Nat):Int)),.re 43 (.int .i64 (IntKind.i64.wrap (((l.length-1:Nat):Int)-((q:Nat):Int)))) (.int .i64 ((l.length-1-q:Nat):Int)),.idx (l.length-1-q) l.length,.mem 1 0,.re 49 (.int .i64 (IntKind.i64.wrap (((m.length:Nat):Int)-1))) (.int .i64 ((m.length-1:Nat):Int)),.re 51 (.int .i64 (IntKind.i64.wrap (((m.length-1:Nat):Int)-((q:Nat):Int)))) (.int .i64 ((m.length-1-q:Nat):Int)),.idx (m.length-1-q) m.length,.mem 0 0] [(_,_,true,.bool (decide (keys x36.l=keys y44.l)))] [(55,.bool (decide (keys x36.l=keys y44.l)))] ⟨fun u hC g=>scEqN_any ((h.2 _ (hx34▸List.getElem_mem lt35)).below (Ext.trans' S.E hC)) ((h'.2 _ (hx42▸List.getElem_mem lt43)).below (Ext.trans' S.E hC)),trivial⟩ (hk:=⟨Sx.min_re,Sx.kw_ok (by omega),(congrArg Value.bool (decide_eq_true (by omega))),(Sx.wrap_pred (by omega) hmaxl),(wrap_sub (by omega) (by omega)),lt35,(Sx.wrap_pred (by omega) hmaxm),(wrap_sub (by omega) (by omega)),lt43,trivial⟩) fun ac u E29 S=>Sx.done (κ27 _ _ ?_)
    refine Sx.cond S (fun hc46=>?_) (fun hc46=>?_)
    ·refine wp_skip<|κ26 _ _<|wp_block<|Vp.region<|Sx.run S 3 [.re 57 (.int .i64 (IntKind.i64.wrap (((q:Nat):Int)+1))) (.int .i64 (((q+1):Nat):Int))] [(7,.int .i64 (((q+1):Nat):Int))] (hk:=⟨Sx.wrap_succ (by omega),trivial⟩) fun ac S=>Sx.done ?_
     show ∃i',_∧_
     exact⟨(q+1),⟨hR.step hl1 hl2 hx34 hx42 hc46,(S.sub [(0,.slice (some ⟨b8,o9,none⟩) l.length cap),(1,.slice (some ⟨b16,o17,none⟩) m.length cap'),(4,.int .i64 0),(5,.int .i64 0),(6,.int .i64 ((i:Nat):Int)),(7,.int .i64 (((q+1):Nat):Int))]).noviews⟩,by show l.length-(q+1)<l.length-q; omega⟩
    ·refine wp_exit<|κ25 _ _<|Sx.seqP fun _ κ47=>Sx.run S 4 [] [(4,.int .i64 ((i:Nat):Int)),(5,.int .i64 ((q:Nat):Int))] fun ac S=>Sx.done<|κ47 _ _<|Vp.rt ?_
     have hqk:=hR.no hpk hl1 hl2 hx34 hx42 hc46
     refine Sx.ret2 S Tryz.results109 ?_
     exact⟨by rw[hpk,hqk],S.E⟩
   ·have hr1:=hR.l1
    have hr2:=hR.l2
    refine Sx.draw S 28 [.re 33 (.int .i64 (if ((m.length:Nat):Int)<((l.length:Nat):Int)then ((m.length:Nat):Int)else ((l.length:Nat):Int))) (.int .i64 (min ((l.length:Nat):Int) ((m.length:Nat):Int))),Sx.kw 35 ((min ((l.length:Nat):Int) ((m.length:Nat):Int))-((i:Nat):Int)),.re 36 (.bool (decide (((q:Nat):Int)<((min ((l.length:Nat):Int) ((m.length:Nat):Int))-((i:Nat):Int))))) (.bool false),.dead 38 (.bool false),.dead 39 (.bool false),.dead 40 (.bool false),.dead 41 (.bool false),.dead 42 (.bool false),.dead 43 (.bool false),.dead 44 (.bool false),.dead 45 (.bool false),.dead 46 (.bool false),.dead 47 (.bool false),.dead 48 (.bool false),.dead 49 (.bool false),.dead 50 (.bool false),.dead 51 (.bool false),.dead 52 (.bool false),.dead 53 (.bool false),.dead 54 (.bool false)] [] [(55,.bool false)] trivial (hk:=⟨Sx.min_re,Sx.kw_ok (by omega),(congrArg Value.bool (decide_eq_false (by omega))),trivial⟩) fun ac u E48 S=>Sx.done<|κ27 _ _<|Sx.condF S<|wp_exit<|κ25 _ _<|Sx.seqP fun _ κ49=>Sx.run S 4 [] [(4,.int .i64 ((i:Nat):Int)),(5,.int .i64 ((q:Nat):Int))] fun ac S=>Sx.done<|κ49 _ _<|Vp.rt ?_
    have hqk:=hR.full hpk (by omega)
    refine Sx.ret2 S Tryz.results109 ?_
    exact⟨by rw[hpk,hqk],S.E⟩
 ·have hr1:=hR.l1
  have hr2:=hR.l2
  refine Sx.draw S 18 [.re 13 (.int .i64 (if ((m.length:Nat):Int)<((l.length:Nat):Int)then ((m.length:Nat):Int)else ((l.length:Nat):Int))) (.int .i64 (min ((l.length:Nat):Int) ((m.length:Nat):Int))),.re 14 (.bool (decide (((i:Nat):Int)<(min ((l.length:Nat):Int) ((m.length:Nat):Int))))) (.bool false),.dead 16 (.bool false),.dead 17 (.bool false),.dead 18 (.bool false),.dead 19 (.bool false),.dead 20 (.bool false),.dead 21 (.bool false),.dead 22 (.bool false),.dead 23 (.bool false),.dead 24 (.bool false)] [] [(25,.bool false)] trivial (hk:=⟨Sx.min_re,(congrArg Value.bool (decide_eq_false (by omega))),trivial⟩) fun ac u E50 S=>Sx.done<|κ5 _ _<|Sx.condF S<|wp_exit<|κ3 _ _<|wp_seq_k fun _ κ51=>wp_block ?_
  have hpk:=hR.full (by omega)
  have hP0:=hR
  refine Vp.loop (ι:=Nat) (fun p a' w'=>(ComQ l m i p)∧Sx.St w a' w' 60 [(0,.slice a l.length cap),(1,.slice d m.length cap'),(4,.int .i64 0),(5,.int .i64 0),(6,.int .i64 ((i:Nat):Int)),(7,.int .i64 ((p:Nat):Int))] [] []) (fun p=>l.length-p) (0) ⟨ComQ.zero hP0,(S.sub [(0,.slice a l.length cap),(1,.slice d m.length cap'),(4,.int .i64 0),(5,.int .i64 0),(6,.int .i64 ((i:Nat):Int)),(7,.int .i64 ((0:Nat):Int))]).noviews⟩ ?_
  rintro q ac u hI
  try dsimp only at hI
  obtain⟨hR,S⟩:=hI
  refine wp_seq_k fun _ κ52=>wp_seq_k (fun _ κ53=>?_)
  by_cases hq54:q+i<l.length∧q+i<m.length
  ·have hl1:=hq54.1
   have hl2:=hq54.2
   have hr1:=hR.l1
   have hr2:=hR.l2
   have lt61:l.length-1-q<l.length:=by omega
   obtain⟨b56,o57,c58,hv,hb63,hr59⟩:=Vp.rowN_range2 h.1 (fun _=>rfl) (l.length-1-q) lt61
   simp only[Value.slice.injEq,true_and]at hv
   obtain⟨rfl,rfl⟩:=hv
   obtain⟨x62,hx60⟩:∃z,l[l.length-1-q]=z:=⟨_,rfl⟩
   rw[hx60]at hr59
   have S:=S.view0 hb63 hr59
   have lt69:m.length-1-q<m.length:=by omega
   obtain⟨b64,o65,c66,hv,hb71,hr67⟩:=Vp.rowN_range2 h'.1 (fun _=>rfl) (m.length-1-q) lt69
   simp only[Value.slice.injEq,true_and]at hv
   obtain⟨rfl,rfl⟩:=hv
   obtain⟨y70,hx68⟩:∃z,m[m.length-1-q]=z:=⟨_,rfl⟩
   rw[hx68]at hr67
   have S:=S.view0 hb71 hr67
   refine Sx.draw S 28 [.re 33 (.int .i64 (if ((m.length:Nat):Int)<((l.length:Nat):Int)then ((m.length:Nat):Int)else ((l.length:Nat):Int))) (.int .i64 (min ((l.length:Nat):Int) ((m.length:Nat):Int))),Sx.kw 35 ((min ((l.length:Nat):Int) ((m.length:Nat):Int))-((i:Nat):Int)),.re 36 (.bool (decide (((q:Nat):Int)<((min ((l.length:Nat):Int) ((m.length:Nat):Int))-((i:Nat):Int))))) (.bool true),.re 41 (.int .i64 (IntKind.i64.wrap (((l.length:Nat):Int)-1))) (.int .i64 ((l.length-1:Nat):Int)),.re 43 (.int .i64 (IntKind.i64.wrap (((l.length-1:Nat):Int)-((q:Nat):Int)))) (.int .i64 ((l.length-1-q:Nat):Int)),.idx (l.length-1-q) l.length,.mem 1 0,.re 49 (.int .i64 (IntKind.i64.wrap (((m.length:Nat):Int)-1))) (.int .i64 ((m.length-1:Nat):Int)),.re 51 (.int .i64 (IntKind.i64.wrap (((m.length-1:Nat):Int)-((q:Nat):Int)))) (.int .i64 ((m.length-1-q:Nat):Int)),.idx (m.length-1-q) m.length,.mem 0 0] [(_,_,true,.bool (decide (keys x62.l=keys y70.l)))] [(55,.bool (decide (keys x62.l=keys y70.l)))] ⟨fun u hC g=>scEqN_any ((h.2 _ (hx60▸List.getElem_mem lt61)).below (Ext.trans' S.E hC)) ((h'.2 _ (hx68▸List.getElem_mem lt69)).below (Ext.trans' S.E hC)),trivial⟩ (hk:=⟨Sx.min_re,Sx.kw_ok (by omega),(congrArg Value.bool (decide_eq_true (by omega))),(Sx.wrap_pred (by omega) hmaxl),(wrap_sub (by omega) (by omega)),lt61,(Sx.wrap_pred (by omega) hmaxm),(wrap_sub (by omega) (by omega)),lt69,trivial⟩) fun ac u E55 S=>Sx.done (κ53 _ _ ?_)
   refine Sx.cond S (fun hc72=>?_) (fun hc72=>?_)
   ·refine wp_skip<|κ52 _ _<|wp_block<|Vp.region<|Sx.run S 3 [.re 57 (.int .i64 (IntKind.i64.wrap (((q:Nat):Int)+1))) (.int .i64 (((q+1):Nat):Int))] [(7,.int .i64 (((q+1):Nat):Int))] (hk:=⟨Sx.wrap_succ (by omega),trivial⟩) fun ac S=>Sx.done ?_
    show ∃i',_∧_
    exact⟨(q+1),⟨hR.step hl1 hl2 hx60 hx68 hc72,(S.sub [(0,.slice (some ⟨b56,o57,none⟩) l.length cap),(1,.slice (some ⟨b64,o65,none⟩) m.length cap'),(4,.int .i64 0),(5,.int .i64 0),(6,.int .i64 ((i:Nat):Int)),(7,.int .i64 (((q+1):Nat):Int))]).noviews⟩,by show l.length-(q+1)<l.length-q; omega⟩
   ·refine wp_exit<|κ51 _ _<|Sx.seqP fun _ κ73=>Sx.run S 4 [] [(4,.int .i64 ((i:Nat):Int)),(5,.int .i64 ((q:Nat):Int))] fun ac S=>Sx.done<|κ73 _ _<|Vp.rt ?_
    have hqk:=hR.no hpk hl1 hl2 hx60 hx68 hc72
    refine Sx.ret2 S Tryz.results109 ?_
    exact⟨by rw[hpk,hqk],S.E⟩
  ·have hr1:=hR.l1
   have hr2:=hR.l2
   refine Sx.draw S 28 [.re 33 (.int .i64 (if ((m.length:Nat):Int)<((l.length:Nat):Int)then ((m.length:Nat):Int)else ((l.length:Nat):Int))) (.int .i64 (min ((l.length:Nat):Int) ((m.length:Nat):Int))),Sx.kw 35 ((min ((l.length:Nat):Int) ((m.length:Nat):Int))-((i:Nat):Int)),.re 36 (.bool (decide (((q:Nat):Int)<((min ((l.length:Nat):Int) ((m.length:Nat):Int))-((i:Nat):Int))))) (.bool false),.dead 38 (.bool false),.dead 39 (.bool false),.dead 40 (.bool false),.dead 41 (.bool false),.dead 42 (.bool false),.dead 43 (.bool false),.dead 44 (.bool false),.dead 45 (.bool false),.dead 46 (.bool false),.dead 47 (.bool false),.dead 48 (.bool false),.dead 49 (.bool false),.dead 50 (.bool false),.dead 51 (.bool false),.dead 52 (.bool false),.dead 53 (.bool false),.dead 54 (.bool false)] [] [(55,.bool false)] trivial (hk:=⟨Sx.min_re,Sx.kw_ok (by omega),(congrArg Value.bool (decide_eq_false (by omega))),trivial⟩) fun ac u E74 S=>Sx.done<|κ53 _ _<|Sx.condF S<|wp_exit<|κ51 _ _<|Sx.seqP fun _ κ75=>Sx.run S 4 [] [(4,.int .i64 ((i:Nat):Int)),(5,.int .i64 ((q:Nat):Int))] fun ac S=>Sx.done<|κ75 _ _<|Vp.rt ?_
   have hqk:=hR.full hpk (by omega)
   refine Sx.ret2 S Tryz.results109 ?_
   exact⟨by rw[hpk,hqk],S.E⟩
end Go.Proofs.YtfmkkemfhjkajaaGreatDoor
