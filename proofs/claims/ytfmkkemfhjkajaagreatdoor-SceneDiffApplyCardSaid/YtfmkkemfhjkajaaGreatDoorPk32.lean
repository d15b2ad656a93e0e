/- What the law of invariants says, for lists of depths. No program in sight. Scenes and edits by the keys of their nodes: what reference 37 defines. No program in sight. Edits of scenes by keys: what reference 37 defines, and the laws of SceneApplyValid. No program in sight. -/
import Derived.Test.YtfmkkemfhjkajaaGreatDoorPk31
section
namespace Go.Proofs.YtfmkkemfhjkajaaGreatDoor
set_option linter.unusedVariables false
theorem IsTree.fin_le{n:Nat}{f:Nat→Int}(T:IsTree n f){k i:Nat}(hk:k<n)(h:parN f k=(i:Int)):finN n f k≤finN n f i:=by
 obtain⟨h1,h2,h3⟩:=(T.par_some hk).1 h
 obtain⟨a1,a2,a3,a4⟩:=finN_spec (n:=n) (f:=f) (i:=i) (by omega)
 obtain⟨b1,b2,b3,b4⟩:=finN_spec (n:=n) (f:=f) hk
 by_cases hx:finN n f k≤finN n f i
 ·exact hx
 ·have:=b3 (finN n f i) h2 (by omega)
  have:=a4 (by omega)
  omega
theorem IsTree.ancP_len{n:Nat}{f:Nat→Int}(T:IsTree n f){m k:Nat}(hk:k<n)(hm:f k<m):((ancP f m k).length:Int)=f k+1:=by
 rw[T.anc_eq m k hk hm,List.length_map,List.length_range]
 have:=T.nn k hk
 omega
/-- The way down: each from the one before. -/
structure Way (n:Nat) (f:Nat→Int) (L:List Nat) (k:Nat):Prop where
 last:L.getLast?=some k
 head:∀(h:0<L.length),parN f L[0] = -1
 lt:∀x∈L,x<n
 next:∀j (h:j+1<L.length),parN f L[j+1]=(L[j]:Int)∧finN n f L[j+1]≤finN n f L[j]
theorem IsTree.way{n:Nat}{f:Nat→Int}(T:IsTree n f):∀(m k:Nat),k<n→f k<m→Way n f (ancP f m k) k
 | 0,k,hk,h=>by have:=T.nn k hk; omega
 | m+1,k,hk,h=>by
  rcases Int.lt_or_le 0 (f k)with h0 | h0
  ·obtain⟨j,h1,h2,h3⟩:=T.par_pos hk h0
   have e:ancP f (m+1) k=ancP f m j++[k]:=by
    show(if parN f k<0 then []else ancP f m (parN f k).toNat)++[k]=_
    rw[h1,if_neg (by omega),Int.toNat_natCast]
   have ih:=T.way m j (by omega) (by omega)
   have hlen:=T.ancP_len (m:=m) (k:=j) (by omega) (by omega)
   have hnn:=T.nn j (by omega)
   rw[e]
   refine⟨List.getLast?_concat ..,fun hp=>?_,fun x hx=>?_,fun i hi=>?_⟩
   ·rw[List.getElem_append_left (by omega)]
    exact ih.head _
   ·rcases List.mem_append.1 hx with hx | hx
    ·exact ih.lt x hx
    ·rw[List.mem_singleton.1 hx]; exact hk
   ·rw[List.length_append,List.length_singleton]at hi
    by_cases hl:i+1<(ancP f m j).length
    ·rw[List.getElem_append_left hl,List.getElem_append_left (by omega)]
     exact ih.next i hl
    ·have e2:(ancP f m j++[k])[i+1]'(by rw[List.length_append,List.length_singleton]; omega)=k:=by
      rw[List.getElem_append_right (by omega)]; simp
     have e3:(ancP f m j++[k])[i]'(by rw[List.length_append,List.length_singleton]; omega)=j:=by
      rw[List.getElem_append_left (by omega)]
      have:=ih.last
      rw[List.getLast?_eq_getElem?,List.getElem?_eq_getElem (by omega)]at this
      have h5:=Option.some.inj this
      have h6:i=(ancP f m j).length-1:=by omega
      subst h6
      exact h5
     rw[e2,e3]
     exact⟨h1,T.fin_le hk h1⟩
  ·have hz:f k=0:=by have:=T.nn k hk; omega
   have hp:=(T.par_none hk).2 hz
   have e:ancP f (m+1) k=[k]:=by
    show(if parN f k<0 then []else ancP f m (parN f k).toNat)++[k]=_
    rw[hp,if_pos (by decide)]; rfl
   rw[e]
   refine⟨rfl,fun _=>hp,fun x hx=>by rw[List.mem_singleton.1 hx]; exact hk,fun i hi=>?_⟩
   rw[List.length_singleton]at hi; omega
end Go.Proofs.YtfmkkemfhjkajaaGreatDoor
end
section
namespace Go.Proofs.YtfmkkemfhjkajaaGreatDoor
set_option linter.unusedVariables false
structure SceneK where
 w:Int
 h:Int
 bg:PixD
 ns:List NodeK
deriving DecidableEq
structure EditK where
 kind:Int
 id:Int
 index:Int
 depth:Int
 node:NodeK
 color:PixD
deriving DecidableEq
def SceneK.zero:SceneK:=⟨0,0,PixD.none,[]⟩
def NodeK.zero:NodeK:=nodeD0.key
/-- Depth and kind at a place. -/
def depK(l:List NodeK)(k:Nat):Int:=((l[k]?).map NodeK.depth).getD 0
/-- The first place with this ID. -/
def findK(l:List NodeK)(id:Int):Option Nat:=l.findIdx? fun κ=>κ.id==id
def findI(l:List NodeK)(id:Int):Int:=match findK l id with | some i=>i | none => -1
/-- What the depth may be at most behind these nodes. -/
def roomK(pre:List NodeK):Int:=match pre.getLast? with | none=>0 | some p=>if p.kind=1 then p.depth+1 else p.depth
/-- The error of a node behind others. -/
noncomputable def wrongK(pre:List NodeK)(x:NodeK):Int:=
 if x.chk≠0 then x.chk else if pre.any (fun κ=>κ.id==x.id)then 7 else if x.depth≤roomK pre then 0 else 17
noncomputable def chkFrom(pre:List NodeK):List NodeK→Int×Int
 | []=>(0,0)
 | x::r=>if wrongK pre x=0 then chkFrom (pre++[x]) r else (wrongK pre x,pre.length)
noncomputable def SceneK.chk(s:SceneK):Int×Int:=
 if s.w<1∨256<s.w∨s.h<1∨256<s.h then (6,0)else if 64<s.ns.length then (5,64)else chkFrom [] s.ns
noncomputable def SceneK.valid(s:SceneK):Bool:=s.chk.1==0
/-- Behind pre, all of l are right. -/
def VFrom(pre:List NodeK):List NodeK→Prop
 | []=>True
 | x::r=>wrongK pre x=0∧VFrom (pre++[x]) r
abbrev VL (l:List NodeK):Prop:=VFrom [] l
theorem chkFrom_zero:∀{l pre:List NodeK},(chkFrom pre l).1=0↔VFrom pre l
 | [],pre=>by simp[chkFrom,VFrom]
 | x::r,pre=>by
  unfold chkFrom VFrom
  split
  ·rename_i h; rw[chkFrom_zero]; simp[h]
  ·rename_i h; simp[h]
theorem VFrom.chk:∀{l pre:List NodeK},VFrom pre l→chkFrom pre l=(0,0)
 | [],pre,_=>rfl
 | x::r,pre,h=>by unfold chkFrom; rw[if_pos h.1]; exact h.2.chk
theorem SceneK.valid_iff{s:SceneK}:s.valid=true↔(1≤s.w∧s.w≤256∧1≤s.h∧s.h≤256)∧s.ns.length≤64∧VL s.ns:=by
 unfold SceneK.valid SceneK.chk
 rw[beq_iff_eq]
 split
 ·rename_i h; constructor
  ·intro h2; cases h2
  ·rintro⟨h2,_⟩; omega
 ·split
  ·constructor
   ·intro h2; cases h2
   ·rintro⟨_,h2,_⟩; omega
  ·rw[chkFrom_zero]
   constructor
   ·intro h2; exact⟨by omega,by omega,h2⟩
   ·rintro⟨_,_,h2⟩; exact h2
theorem wrongK_zero{pre:List NodeK}{x:NodeK}:wrongK pre x=0↔x.chk=0∧(∀κ∈pre,κ.id≠x.id)∧x.depth≤roomK pre:=by
 unfold wrongK
 split
 ·rename_i h; exact⟨fun h2=>absurd h2 h,fun h2=>absurd h2.1 h⟩
 ·rename_i h
  split
  ·rename_i h2
   obtain⟨κ,h3,h4⟩:=List.any_eq_true.1 h2
   exact⟨fun h5=>absurd h5 (by decide),fun h5=>absurd (by simpa using h4) (h5.2.1 κ h3)⟩
  ·rename_i h2
   have h3:∀κ∈pre,κ.id≠x.id:=fun κ hκ he=>h2 (List.any_eq_true.2 ⟨κ,hκ,by simpa using he⟩)
   split
   ·rename_i h4; exact⟨fun _=>⟨by simpa using h,h3,h4⟩,fun _=>rfl⟩
   ·rename_i h4; exact⟨fun h5=>absurd h5 (by decide),fun h5=>absurd h5.2.2 h4⟩
theorem VFrom_iff:∀{l pre:List NodeK},VFrom pre l↔∀a x b,l=a++x::b→wrongK (pre++a) x=0
 | [],pre=>⟨fun _ a x b h=>by simp at h,fun _=>trivial⟩
 | y::r,pre=>by
  unfold VFrom
  rw[VFrom_iff (l:=r)]
  constructor
  ·rintro⟨h1,h2⟩ a x b h
   cases a with
   | nil =>
    simp only[List.nil_append,List.cons.injEq]at h
    rw[List.append_nil,←h.1]; exact h1
   | cons z a =>
    simp only[List.cons_append,List.cons.injEq]at h
    rw[h.1]at h2
    rw[show pre++z::a=(pre++[z])++a by simp]
    exact h2 a x b h.2
  ·intro h
   refine⟨by simpa using h [] y r rfl,fun a x b e=>?_⟩
   rw[show(pre++[y])++a=pre++y::a by simp]
   exact h (y::a) x b (by rw[e]; rfl)
/-- The three things that a valid list is. -/
theorem VL_iff{l:List NodeK}:VL l↔(∀x∈l,x.chk=0)∧(l.map NodeK.id).Nodup∧∀a x b,l=a++x::b→x.depth≤roomK a:=by
 unfold VL
 rw[VFrom_iff]
 simp only[List.nil_append,wrongK_zero]
 constructor
 ·intro h
  refine⟨fun x hx=>?_,?_,fun a x b e=>(h a x b e).2.2⟩
  ·obtain⟨a,b,e⟩:=List.append_of_mem hx
   exact(h a x b e).1
  ·rw[List.nodup_iff_pairwise_ne]
   rw[List.pairwise_map]
   have key:∀(l pre:List NodeK),(∀a x b,l=a++x::b→∀κ∈pre++a,κ.id≠x.id)→List.Pairwise (fun a b:NodeK=>a.id≠b.id) l:=by
    intro l
    induction l with
    | nil=>intro _ _; exact List.Pairwise.nil
    | cons y r ih =>
     intro pre h
     refine List.Pairwise.cons (fun z hz=>?_) (ih (pre++[y]) fun a x b e κ hκ=>h (y::a) x b (by rw[e]; rfl) κ (by simpa using hκ))
     obtain⟨a,b,e⟩:=List.append_of_mem hz
     exact h (y::a) z b (by rw[e]; rfl) y (by simp)
   exact key l [] fun a x b e κ hκ=>(h a x b e).2.1 κ (by simpa using hκ)
 ·rintro⟨h1,h2,h3⟩ a x b e
  refine⟨h1 x (by rw[e]; simp),fun κ hκ he=>?_,h3 a x b e⟩
  rw[e,List.map_append,List.map_cons,List.nodup_append]at h2
  exact h2.2.2 κ.id (List.mem_map.2 ⟨κ,hκ,rfl⟩) x.id List.mem_cons_self he
theorem depK_at{l:List NodeK}{k:Nat}(h:k<l.length):depK l k=l[k].depth:=by simp[depK,List.getElem?_eq_getElem h]
theorem roomK_le{a:List NodeK}{p:NodeK}:roomK (a++[p])≤p.depth+1:=by
 unfold roomK
 rw[List.getLast?_concat]
 simp only
 split<;>omega
theorem VL.tree{l:List NodeK}(h:VL l):IsTree l.length (depK l):=by
 obtain⟨h1,h2,h3⟩:=VL_iff.1 h
 have hnn:∀k,k<l.length→0≤depK l k:=fun k hk=>by
  rw[depK_at hk]; exact(NodeK.chk_facts (h1 _ (List.getElem_mem hk))).2.2.2.2.1
 refine⟨fun h0=>?_,hnn,fun k hk=>?_⟩
 ·have:=h3 [] l[0] (l.drop 1) (by rw[List.nil_append,List.getElem_cons_drop]; rfl)
  have h4:=hnn 0 h0
  rw[depK_at h0]at h4 ⊢
  have h5:roomK []=0:=rfl
  omega
 ·have hk':k<l.length:=by omega
  have e:l=l.take (k+1)++l[k+1]::l.drop (k+2):=by rw[List.getElem_cons_drop,List.take_append_drop]
  have:=h3 _ _ _ e
  rw[List.take_succ_eq_append_getElem hk']at this
  have h6:=roomK_le (a:=l.take k) (p:=l[k])
  rw[depK_at hk,depK_at hk']
  omega
end Go.Proofs.YtfmkkemfhjkajaaGreatDoor
end
section
namespace Go.Proofs.YtfmkkemfhjkajaaGreatDoor
set_option linter.unusedVariables false
theorem SceneK.chk_valid{s:SceneK}(h:s.valid=true):s.chk=(0,0):=by
 obtain⟨h1,h2,h3⟩:=SceneK.valid_iff.1 h
 unfold SceneK.chk
 rw[if_neg (by omega),if_neg (by omega)]
 exact h3.chk
theorem findK_some{l:List NodeK}{id:Int}{i:Nat}(h:findK l id=some i):∃hi:i<l.length,l[i].id=id:=by
 unfold findK at h
 obtain⟨h1,h2,_⟩:=List.findIdx?_eq_some_iff_getElem.1 h
 exact⟨h1,by simpa using h2⟩
theorem findK_at{l:List NodeK}{i:Nat}(hn:(l.map NodeK.id).Nodup)(hi:i<l.length):findK l l[i].id=some i:=by
 unfold findK
 rw[List.findIdx?_eq_some_iff_getElem]
 refine⟨hi,by simp,fun j hj=>?_⟩
 have hj':j<l.length:=by omega
 simp only[beq_iff_eq]
 intro he
 rw[List.nodup_iff_pairwise_ne]at hn
 have:=List.pairwise_iff_getElem.1 hn j i (by simpa using hj') (by simpa using hi) hj
 rw[List.getElem_map,List.getElem_map]at this
 exact this he
/-- The place behind the subtree of node i. -/
def endK(l:List NodeK)(i:Nat):Nat:=i+1+((l.drop (i+1)).takeWhile fun κ=>decide (depK l i<κ.depth)).length
theorem endK_le{l:List NodeK}{i:Nat}(hi:i<l.length):i+1≤endK l i∧endK l i≤l.length:=by
 unfold endK
 have:=(List.takeWhile_sublist (l:=l.drop (i+1)) fun κ:NodeK=>decide (depK l i<κ.depth)).length_le
 rw[List.length_drop]at this
 omega
theorem finTo_eq(l:List NodeK)(d:Int):∀m k:Nat,m+k=l.length→finTo (depK l) d m k=k+((l.drop k).takeWhile fun κ=>decide (d<κ.depth)).length
 | 0,k,h=>by rw[List.drop_eq_nil_of_le (by omega)]; rfl
 | m+1,k,h=>by
  have hk:k<l.length:=by omega
  unfold finTo
  rw[depK_at hk,←List.getElem_cons_drop hk,List.takeWhile_cons]
  split
  ·rename_i hd
   rw[finTo_eq l d m (k+1) (by omega),if_pos (by simpa using hd),List.length_cons]; omega
  ·rename_i hd
   rw[if_neg (by simpa using hd)]; rfl
theorem endK_fin{l:List NodeK}{i:Nat}(hi:i<l.length):endK l i=finN l.length (depK l) i:=by
 unfold endK finN
 rw[finTo_eq l _ _ _ (by omega)]
def EditK.named(e:EditK):Bool:=
 if e.kind=1 then e.id==0&&(e.depth==0&&e.color==PixD.none)
 else if e.kind=2 then e.index==0&&(e.depth==0&&(e.node==NodeK.zero&&e.color==PixD.none))
 else if e.kind=3 then e.node==NodeK.zero&&e.color==PixD.none
 else if e.kind=4 then e.id==0&&(e.index==0&&(e.depth==0&&e.color==PixD.none))
 else if e.kind=5 then e.id==0&&(e.index==0&&(e.depth==0&&e.node==NodeK.zero))
 else false
def putK(l:List NodeK)(at':Nat)(more:List NodeK):List NodeK:=l.take at'++more++l.drop at'
def cutK(l:List NodeK)(i j:Nat):List NodeK:=l.take i++l.drop j
def segK(l:List NodeK)(i j:Nat):List NodeK:=(l.drop i).take (j-i)
def NodeK.sunk(n:NodeK)(root to:Int):NodeK:={n with depth:=if to<0∨8<to then -1 else n.depth-root+to}
def nodesK(l:List NodeK)(e:EditK):Except Int (List NodeK):=
 if e.kind=1 then (if e.index<0∨(l.length:Int)<e.index then .error 6 else .ok (putK l e.index.toNat [e.node]))
 else if e.kind=2 then (match findK l e.id with | none => .error 8 | some i => .ok (cutK l i (endK l i)))
 else if e.kind=3 then (match findK l e.id with
  | none => .error 8
  | some i=>if e.index<0∨((cutK l i (endK l i)).length:Int)<e.index then .error 6
   else .ok (putK (cutK l i (endK l i)) e.index.toNat ((segK l i (endK l i)).map fun n=>n.sunk (depK l i) e.depth)))
 else if e.kind=4 then (match findK l e.node.id with
  | none => .error 8
  | some i=>if e.node.depth≠depK l i then .error 2 else .ok (l.set i e.node))
 else .ok l
def SceneK.with'(s:SceneK)(e:EditK)(l:List NodeK):SceneK:=⟨s.w,s.h,if e.kind=5 then e.color else s.bg,l⟩
noncomputable def applyK(s:SceneK)(e:EditK):SceneK×Int:=
 if s.valid=false then (.zero,18)else if e.named=false then (.zero,2)else
 match nodesK s.ns e with
 | .error n=>(.zero,n)
 | .ok l=>if (s.with' e l).chk.1=0 then (s.with' e l,0)else (.zero,(s.with' e l).chk.1)
theorem applyK_ok{s t:SceneK}{e:EditK}(h:applyK s e=(t,0)):s.valid=true∧e.named=true∧∃l,nodesK s.ns e = .ok l∧t=s.with' e l∧t.valid=true:=by
 unfold applyK at h
 split at h
 ·simp at h
 ·rename_i h1
  split at h
  ·simp at h
  ·rename_i h2
   refine⟨by simpa using h1,by simpa using h2,?_⟩
   cases hn:nodesK s.ns e with
   | error n =>
    rw[hn]at h
    simp only[Prod.mk.injEq]at h
    exfalso
    have h0:=h.2
    subst h0
    unfold nodesK at hn
    repeat' split at hn
    all_goals first | (simp only[Except.error.injEq]at hn; omega) | cases hn
   | ok l =>
    rw[hn]at h
    simp only at h
    split at h
    ·rename_i h3
     simp only[Prod.mk.injEq,and_true]at h
     exact⟨l,rfl,h.symm,by rw[←h]; unfold SceneK.valid; simpa using h3⟩
    ·rename_i h3
     simp only[Prod.mk.injEq]at h
     exact absurd h.2 h3
theorem applyK_of{s:SceneK}{e:EditK}{l:List NodeK}(h1:s.valid=true)(h2:e.named=true)(h3:nodesK s.ns e = .ok l)(h4:(s.with' e l).valid=true):applyK s e=(s.with' e l,0):=by
 unfold applyK
 rw[if_neg (by simp[h1]),if_neg (by simp[h2]),h3]
 simp only
 rw[if_pos (by rw[SceneK.chk_valid h4])]
def EditK.remove(id:Int):EditK:=⟨2,id,0,0,.zero,.none⟩
def EditK.replace(n:NodeK):EditK:=⟨4,0,0,0,n,.none⟩
noncomputable def applyAllK:SceneK→List EditK→Nat→SceneK×Int×Int
 | s,[],k=>(s,k,0)
 | s,e::r,k=>if (applyK s e).2=0 then applyAllK (applyK s e).1 r (k+1)else (.zero,k,(applyK s e).2)
end Go.Proofs.YtfmkkemfhjkajaaGreatDoor
end
