/- Scenes and edits by the keys of their nodes: what -/
import Derived.Test.YtfmkkemfhjkajaaGreatDoorPk31
import Derived.Test.YtfmkkemfhjkajaaGreatDoorOpn36
set_option linter.unusedVariables false
namespace Go.Proofs.YtfmkkemfhjkajaaGreatDoor
section
structure aO where
 w:Int
 h:Int
 bg:bY
 ns:List aI
deriving DecidableEq
structure eX where
 kind:Int
 id:Int
 index:Int
 depth:Int
 node:aI
 color:bY
deriving DecidableEq
def aO.zero:aO:=⟨0,0,bY.none,[]⟩
def aI.zero:aI:=jY.key
def iy(l:List aI)(k:Nat):Int:=((l[k]?).map aI.depth).getD 0
def fU(l:List aI)(id:Int):Option Nat:=l.findIdx? fun κ=>κ.id==id
def gu(l:List aI)(id:Int):Int:=match fU l id with | some i=>i | none => -1
def oC(pre:List aI):Int:=match pre.getLast? with | none=>0 | some p=>if p.kind=1 then p.depth+1 else p.depth
noncomputable def fH(pre:List aI)(x:aI):Int:=
 if x.chk≠0 then x.chk else if pre.any (fun κ=>κ.id==x.id)then 7 else if x.depth≤oC pre then 0 else 17
noncomputable def iZ(pre:List aI):List aI→Int×Int
 | []=>(0,0)
 | x::r=>if fH pre x=0 then iZ (pre++[x]) r else (fH pre x,pre.length)
noncomputable def aO.chk(s:aO):Int×Int:=
 if s.w<1∨256<s.w∨s.h<1∨256<s.h then (6,0)else if 64<s.ns.length then (5,64)else iZ [] s.ns
noncomputable def aO.valid(s:aO):Bool:=s.chk.1==0
def zL(pre:List aI):List aI→Prop
 | []=>True
 | x::r=>fH pre x=0∧zL (pre++[x]) r
abbrev VL (l:List aI):Prop:=zL [] l
theorem BU:∀{l pre:List aI},(iZ pre l).1=0↔zL pre l
 | [],pre=>by simp[iZ,zL]
 | x::r,pre=>by
  unfold iZ zL
  split
  ·rename_i h; rw[BU]; simp[h]
  ·rename_i h; simp[h]
theorem zL.chk:∀{l pre:List aI},zL pre l→iZ pre l=(0,0)
 | [],pre,_=>rfl
 | x::r,pre,h=>by unfold iZ; rw[if_pos h.1]; exact h.2.chk
theorem aO.nG{s:aO}:s.valid=true↔(1≤s.w∧s.w≤256∧1≤s.h∧s.h≤256)∧s.ns.length≤64∧VL s.ns:=by
 unfold aO.valid aO.chk;rw[beq_iff_eq];split
 ·rename_i h; constructor
  ·intro h2; cases h2
  rintro⟨h2,_⟩; omega
 split
 ·constructor
  ·intro h2; cases h2
  rintro⟨_,h2,_⟩; omega
 rw[BU];constructor
 ·intro h2; exact⟨by omega,by omega,h2⟩
 rintro⟨_,_,h2⟩; exact h2
theorem Ea{pre:List aI}{x:aI}:fH pre x=0↔x.chk=0∧(∀κ∈pre,κ.id≠x.id)∧x.depth≤oC pre:=by
 unfold fH;split
 ·rename_i h; exact⟨fun h2=>absurd h2 h,fun h2=>absurd h2.1 h⟩
 rename_i h;split
 ·rename_i h2;obtain⟨κ,h3,h4⟩:=List.any_eq_true.1 h2;exact⟨fun h5=>absurd h5 (by decide),fun h5=>absurd (by simpa using h4) (h5.2.1 κ h3)⟩
 rename_i h2;have h3:∀κ∈pre,κ.id≠x.id:=fun κ hκ he=>h2 (List.any_eq_true.2 ⟨κ,hκ,by simpa using he⟩);split
 ·rename_i h4; exact⟨fun _=>⟨by simpa using h,h3,h4⟩,fun _=>rfl⟩
 rename_i h4; exact⟨fun h5=>absurd h5 (by decide),fun h5=>absurd h5.2.2 h4⟩
theorem JU:∀{l pre:List aI},zL pre l↔∀a x b,l=a++x::b→fH (pre++a) x=0
 | [],pre=>⟨fun _ a x b h=>by simp at h,fun _=>trivial⟩
 | y::r,pre=>by
  unfold zL
  rw[JU (l:=r)]
  constructor
  ·rintro⟨h1,h2⟩ a x b h
   cases a with
   | nil =>
    simp only[List.nil_append,List.cons.injEq]at h
    rw[List.append_nil,←h.1]; exact h1
   | cons z a =>
    simp only[List.cons_append,List.cons.injEq]at h
    rw[h.1]at h2
    rw[show pre++z::a=(pre++[z])++a by simp]
    exact h2 a x b h.2
  ·intro h
   refine⟨by simpa using h [] y r rfl,fun a x b e=>?_⟩
   rw[show(pre++[y])++a=pre++y::a by simp]
   exact h (y::a) x b (by rw[e]; rfl)
theorem L6{l:List aI}:VL l↔(∀x∈l,x.chk=0)∧(l.map aI.id).Nodup∧∀a x b,l=a++x::b→x.depth≤oC a:=by
 unfold VL;rw[JU];simp only[List.nil_append,Ea];constructor
 ·intro h;refine⟨fun x hx=>?_,?_,fun a x b e=>(h a x b e).2.2⟩
  ·obtain⟨a,b,e⟩:=List.append_of_mem hx;exact(h a x b e).1
  rw[List.nodup_iff_pairwise_ne];rw[List.pairwise_map];have key:∀(l pre:List aI),(∀a x b,l=a++x::b→∀κ∈pre++a,κ.id≠x.id)→List.Pairwise (fun a b:aI=>a.id≠b.id) l:=by
   intro l;induction l with
   | nil=>intro _ _; exact List.Pairwise.nil
   | cons y r ih =>
    intro pre h;refine List.Pairwise.cons (fun z hz=>?_) (ih (pre++[y]) fun a x b e κ hκ=>h (y::a) x b (by rw[e]; rfl) κ (by simpa using hκ));obtain⟨a,b,e⟩:=List.append_of_mem hz;exact h (y::a) z b (by rw[e]; rfl) y (by simp)
  exact key l [] fun a x b e κ hκ=>(h a x b e).2.1 κ (by simpa using hκ)
 rintro⟨h1,h2,h3⟩ a x b e;refine⟨h1 x (by rw[e]; simp),fun κ hκ he=>?_,h3 a x b e⟩;rw[e,List.map_append,List.map_cons,List.nodup_append]at h2;exact h2.2.2 κ.id (List.mem_map.2 ⟨κ,hκ,rfl⟩) x.id List.mem_cons_self he
theorem qh{l:List aI}{k:Nat}(h:k<l.length):iy l k=l[k].depth:=by simp[iy,List.getElem?_eq_getElem h]
theorem aaZ{a:List aI}{p:aI}:oC (a++[p])≤p.depth+1:=by
 unfold oC;rw[List.getLast?_concat];simp only;split<;>omega
theorem VL.tree{l:List aI}(h:VL l):IsTree l.length (iy l):=by
 obtain⟨h1,h2,h3⟩:=L6.1 h;have hnn:∀k,k<l.length→0≤iy l k:=fun k hk=>by
  rw[qh hk]; exact(aI.Du (h1 _ (List.getElem_mem hk))).2.2.2.2.1
 refine⟨fun h0=>?_,hnn,fun k hk=>?_⟩
 ·have:=h3 [] l[0] (l.drop 1) (by rw[List.nil_append,List.getElem_cons_drop]; rfl);have h4:=hnn 0 h0;rw[qh h0]at h4 ⊢;have h5:oC []=0:=rfl;omega
 have hk':k<l.length:=by omega
 have e:l=l.take (k+1)++l[k+1]::l.drop (k+2):=by rw[List.getElem_cons_drop,List.take_append_drop]
 have:=h3 _ _ _ e;rw[List.take_succ_eq_append_getElem hk']at this;have h6:=aaZ (a:=l.take k) (p:=l[k]);rw[qh hk,qh hk'];omega
end
section
theorem aO.X3{s:aO}(h:s.valid=true):s.chk=(0,0):=by
 obtain⟨h1,h2,h3⟩:=aO.nG.1 h;unfold aO.chk;rw[if_neg (by omega),if_neg (by omega)];exact h3.chk
theorem pR{l:List aI}{id:Int}{i:Nat}(h:fU l id=some i):∃hi:i<l.length,l[i].id=id:=by
 unfold fU at h;obtain⟨h1,h2,_⟩:=List.findIdx?_eq_some_iff_getElem.1 h;exact⟨h1,by simpa using h2⟩
theorem Ub{l:List aI}{id:Int}:fU l id=none↔∀κ∈l,κ.id≠id:=by
 unfold fU;rw[List.findIdx?_eq_none_iff];simp
def dR(l:List aI)(i:Nat):Nat:=i+1+((l.drop (i+1)).takeWhile fun κ=>decide (iy l i<κ.depth)).length
theorem qj{l:List aI}{i:Nat}(hi:i<l.length):i+1≤dR l i∧dR l i≤l.length:=by
 unfold dR;have:=(List.takeWhile_sublist (l:=l.drop (i+1)) fun κ:aI=>decide (iy l i<κ.depth)).length_le;rw[List.length_drop]at this;omega
theorem P8(l:List aI)(d:Int):∀m k:Nat,m+k=l.length→xY (iy l) d m k=k+((l.drop k).takeWhile fun κ=>decide (d<κ.depth)).length
 | 0,k,h=>by rw[List.drop_eq_nil_of_le (by omega)]; rfl
 | m+1,k,h=>by
  have hk:k<l.length:=by omega
  unfold xY
  rw[qh hk,←List.getElem_cons_drop hk,List.takeWhile_cons]
  split
  ·rename_i hd
   rw[P8 l d m (k+1) (by omega),if_pos (by simpa using hd),List.length_cons]; omega
  ·rename_i hd
   rw[if_neg (by simpa using hd)]; rfl
theorem uZ{l:List aI}{i:Nat}(hi:i<l.length):dR l i=vI l.length (iy l) i:=by
 unfold dR vI;rw[P8 l _ _ _ (by omega)]
def eX.named(e:eX):Bool:=
 if e.kind=1 then e.id==0&&(e.depth==0&&e.color==bY.none)
 else if e.kind=2 then e.index==0&&(e.depth==0&&(e.node==aI.zero&&e.color==bY.none))
 else if e.kind=3 then e.node==aI.zero&&e.color==bY.none
 else if e.kind=4 then e.id==0&&(e.index==0&&(e.depth==0&&e.color==bY.none))
 else if e.kind=5 then e.id==0&&(e.index==0&&(e.depth==0&&e.node==aI.zero))
 else false
def zx(l:List aI)(at':Nat)(more:List aI):List aI:=l.take at'++more++l.drop at'
def oP(l:List aI)(i j:Nat):List aI:=l.take i++l.drop j
def zy(l:List aI)(i j:Nat):List aI:=(l.drop i).take (j-i)
def aI.Uc(n:aI)(root to:Int):aI:={n with depth:=if to<0∨8<to then -1 else n.depth-root+to}
def fJ(l:List aI)(e:eX):Except Int (List aI):=
 if e.kind=1 then (if e.index<0∨(l.length:Int)<e.index then .error 6 else .ok (zx l e.index.toNat [e.node]))
 else if e.kind=2 then (match fU l e.id with | none => .error 8 | some i => .ok (oP l i (dR l i)))
 else if e.kind=3 then (match fU l e.id with
  | none => .error 8
  | some i=>if e.index<0∨((oP l i (dR l i)).length:Int)<e.index then .error 6
   else .ok (zx (oP l i (dR l i)) e.index.toNat ((zy l i (dR l i)).map fun n=>n.Uc (iy l i) e.depth)))
 else if e.kind=4 then (match fU l e.node.id with
  | none => .error 8
  | some i=>if e.node.depth≠iy l i then .error 2 else .ok (l.set i e.node))
 else .ok l
def aO.with'(s:aO)(e:eX)(l:List aI):aO:=⟨s.w,s.h,if e.kind=5 then e.color else s.bg,l⟩
noncomputable def dP(s:aO)(e:eX):aO×Int:=
 if s.valid=false then (.zero,18)else if e.named=false then (.zero,2)else
 match fJ s.ns e with
 | .error n=>(.zero,n)
 | .ok l=>if (s.with' e l).chk.1=0 then (s.with' e l,0)else (.zero,(s.with' e l).chk.1)
theorem WT{s:aO}{e:eX}{l:List aI}(h1:s.valid=true)(h2:e.named=true)(h3:fJ s.ns e = .ok l)(h4:(s.with' e l).valid=true):dP s e=(s.with' e l,0):=by
 unfold dP;rw[if_neg (by simp[h1]),if_neg (by simp[h2]),h3];simp only;rw[if_pos (by rw[aO.X3 h4])]
def eX.remove(id:Int):eX:=⟨2,id,0,0,.zero,.none⟩
def eX.replace(n:aI):eX:=⟨4,0,0,0,n,.none⟩
noncomputable def dF:aO→List eX→Nat→aO×Int×Int
 | s,[],k=>(s,k,0)
 | s,e::r,k=>if (dP s e).2=0 then dF (dP s e).1 r (k+1)else (.zero,k,(dP s e).2)
end
section
def JV(p:aI):Int:=if p.kind=1 then p.depth+1 else p.depth
def yc(r:Int)(a:List aI):Int:=match a.getLast? with | none=>r | some p=>JV p
def Steps(r:Int):List aI→Prop
 | []=>True
 | x::t=>x.depth≤r∧Steps (JV x) t
theorem uP(r:Int)(x:aI)(a:List aI):yc r (x::a)=yc (JV x) a:=by
 unfold yc;cases a with
 | nil=>rfl
 | cons y a=>rw[List.getLast?_cons_cons]; cases h:(y::a).getLast? with
  | none=>simp at h
  | some p=>rfl
theorem rJ:∀{a b:List aI} {r:Int},Steps r (a++b)↔Steps r a∧Steps (yc r a) b
 | [],b,r=>by simp only[List.nil_append,Steps,true_and]; rfl
 | x::a,b,r=>by
  rw[List.cons_append,uP]
  show x.depth≤r∧Steps (JV x) (a++b)↔(x.depth≤r∧Steps (JV x) a)∧_
  rw[rJ,and_assoc]
theorem Steps.mono{r r':Int}(h:r≤r'):∀{l:List aI},Steps r l→Steps r' l
 | [],_=>trivial
 | x::l,hl=>⟨by have:=hl.1; omega,hl.2⟩
theorem yg{l:List aI}:VL l↔(∀x∈l,x.chk=0)∧(l.map aI.id).Nodup∧Steps 0 l:=by
 rw[L6];refine and_congr_right fun _=>and_congr_right fun _=>?_;have key:∀(l:List aI) (r:Int),(∀a x b,l=a++x::b→x.depth≤yc r a)↔Steps r l:=by
  intro l;induction l with
  | nil=>intro r; exact⟨fun _=>trivial,fun _ a x b h=>by simp at h⟩
  | cons y l ih =>
   intro r;show _↔y.depth≤r∧Steps (JV y) l;rw[←ih];constructor
   ·intro h;refine⟨h [] y l rfl,fun a x b e=>?_⟩;rw[←uP r];exact h (y::a) x b (by rw[e]; rfl)
   rintro⟨h1,h2⟩ a x b e;cases a with
   | nil =>
    simp only[List.nil_append,List.cons.injEq]at e;rw[←e.1]; exact h1
   | cons z a =>
    simp only[List.cons_append,List.cons.injEq]at e;rw[←e.1,uP];exact h2 a x b e.2
 exact key l 0
theorem VL.depth{l:List aI}(h:VL l):∀x∈l,0≤x.depth∧x.depth<8:=fun x hx=>(aI.Du ((L6.1 h).1 x hx)).2.2.2.2
theorem Steps.cut{A B S:List aI}{x:aI}{r:Int}(h:Steps r (A++x::(S++B)))(hB:∀y∈B.head?,y.depth≤x.depth):Steps r (A++B):=by
 rw[rJ]at h ⊢;refine⟨h.1,?_⟩;cases B with
 | nil=>trivial
 | cons y B =>
  have h1:=hB y rfl;have h2:=h.2.1;have h3:=(rJ.1 h.2.2).2;exact⟨by omega,h3.2⟩
theorem VL.sub{l m:List aI}(h:VL l)(hs:m.Sublist l)(hm:Steps 0 m):VL m:=by
 obtain⟨h1,h2,h3⟩:=yg.1 h;exact yg.2 ⟨fun x hx=>h1 x (hs.subset hx),h2.sublist (hs.map _),hm⟩
theorem VL.take{l:List aI}(h:VL l)(n:Nat):VL (l.take n):=by
 refine h.sub (List.take_sublist n l) ?_;have:=(yg.1 h).2.2;rw[←List.take_append_drop n l,rJ]at this;exact this.1
theorem drop_cons{l:List aI}{i:Nat}(hi:i<l.length):l=l.take i++l[i]::l.drop (i+1):=by rw[List.getElem_cons_drop,List.take_append_drop]
theorem VL.oP{l:List aI}{i:Nat}(h:VL l)(hi:i<l.length):VL (oP l i (dR l i)):=by
 obtain⟨e1,e2⟩:=qj hi;refine h.sub ?_ ?_
 ·unfold Go.Proofs.YtfmkkemfhjkajaaGreatDoor.oP;have:l=l.take i++l.drop i:=(List.take_append_drop _ _).symm;have e3:l.drop (dR l i)=(l.drop i).drop (dR l i-i):=by rw[List.drop_drop]; congr 1; omega
  rw[e3];have h5:=List.Sublist.append_left (List.drop_sublist (dR l i-i) (l.drop i)) (l.take i);rw[List.take_append_drop]at h5;exact h5
 have hs:=(yg.1 h).2.2;have e:l=l.take i++l[i]::((l.drop (i+1)).take (dR l i-(i+1))++l.drop (dR l i)):=by
  conv=>lhs; rw[drop_cons hi]
  congr 2;rw[show l.drop (dR l i)=(l.drop (i+1)).drop (dR l i-(i+1)) by rw[List.drop_drop]; congr 1; omega,List.take_append_drop]
 rw[e]at hs;refine Steps.cut hs fun y hy=>?_;rw[List.head?_drop]at hy;have hl:dR l i<l.length:=by
  by_cases hx:dR l i<l.length
  ·exact hx
  rw[List.getElem?_eq_none (by omega)]at hy; cases hy
 rw[List.getElem?_eq_getElem hl]at hy;cases hy;have h4:=(rV (n:=l.length) (f:=iy l) hi).2.2.2;rw[←uZ hi,qh hi,qh hl]at h4;exact h4 hl
theorem X4{l:List aI}{i:Nat}(hi:i<l.length):zy l i (dR l i)=l[i]::(l.drop (i+1)).take (dR l i-(i+1)):=by
 have:=qj hi;unfold zy;rw[←List.getElem_cons_drop hi,show dR l i-i=(dR l i-(i+1))+1 by omega,List.take_succ_cons]
theorem aa0{l:List aI}{i j:Nat}{x:aI}(h:x∈zy l i j):x∈l:=List.mem_of_mem_drop (List.mem_of_mem_take h)
theorem P9{l m:List aI}{k:Nat}(hk:k≤l.length):(zx l k m).length=l.length+m.length:=by
 unfold zx;rw[List.length_append,List.length_append,List.length_take,List.length_drop]; omega
theorem Hr{l:List aI}{i j:Nat}(h1:i≤j)(h2:j≤l.length):(oP l i j).length+(zy l i j).length=l.length:=by
 unfold oP zy;rw[List.length_append,List.length_take,List.length_drop,List.length_take,List.length_drop]; omega
theorem zM:∀{a b pre:List aI} {x:aI},zL pre a→fH (pre++a) x≠0→iZ pre (a++x::b)=(fH (pre++a) x,(((pre++a).length:Nat):Int))
 | [],b,pre,x,_,h=>by
  rw[List.append_nil]at h ⊢
  rw[List.nil_append]
  unfold iZ
  rw[if_neg h]
 | y::a,b,pre,x,hv,h=>by
  rw[List.cons_append]
  unfold iZ
  rw[if_pos hv.1,zM (a:=a) hv.2 (by rw[List.append_assoc]; exact h),List.append_assoc]
  rfl
theorem Ht{pre:List aI}{x:aI}(h:x.chk≠0):fH pre x=x.chk:=by unfold fH; rw[if_pos h]
def aI.moved(n:aI)(root to:Int):aI:={n with depth:=IntKind.i64.wrap (n.depth+IntKind.i64.wrap (to-root))}
def gy(l:List aI)(e:eX):Except Int (List aI):=
 if e.kind=3 then (match fU l e.id with
  | none => .error 8
  | some i=>if e.index<0∨((oP l i (dR l i)).length:Int)<e.index then .error 6
   else .ok (zx (oP l i (dR l i)) e.index.toNat ((zy l i (dR l i)).map fun n=>n.moved (iy l i) e.depth)))
 else fJ l e
noncomputable def L8(s:aO)(e:eX):aO×Int:=
 if s.valid=false then (.zero,18)else if e.named=false then (.zero,2)else
 match gy s.ns e with
 | .error n=>(.zero,n)
 | .ok l=>if (s.with' e l).chk.1=0 then (s.with' e l,0)else (.zero,(s.with' e l).chk.1)
theorem Ud{n:aI}{root to:Int}(h1:0≤n.depth∧n.depth<8)(h2:0≤root∧root<8)(h3:0≤to∧to≤8):n.moved root to=n.Uc root to:=by
 unfold aI.moved aI.Uc;rw[if_neg (by omega)];have:IntKind.i64.wrap (n.depth+IntKind.i64.wrap (to-root))=n.depth-root+to:=by rw[IntKind.wrap_i64,IntKind.wrap_i64]; omega
 rw[this]
theorem Ya{root to:Int}(h2:0≤root∧root<8)(h3:I64 to):IntKind.i64.wrap (root+IntKind.i64.wrap (to-root))=to:=by
 have:=h3.1; have:=h3.2;rw[IntKind.wrap_i64,IntKind.wrap_i64]; omega
theorem JW{s:aO}{e:eX}(hd:I64 e.depth):L8 s e=dP s e:=by
 unfold L8 dP;cases hv:s.valid with
 | false=>rfl
 | true =>
  rw[if_neg (by decide),if_neg (show ¬true=false by decide)];obtain⟨hw,hlen,hV⟩:=aO.nG.1 hv;cases hn:e.named with
  | false=>rfl
  | true =>
   rw[if_neg (show ¬true=false by decide),if_neg (show ¬true=false by decide)];unfold gy;by_cases hk:e.kind=3
   ·rw[if_pos hk];unfold fJ;rw[if_neg (by omega),if_neg (by omega),if_pos hk];cases hf:fU s.ns e.id with
    | none=>rfl
    | some i =>
     simp only;obtain⟨hi,hid⟩:=pR hf;obtain⟨e1,e2⟩:=qj hi;by_cases hx:e.index<0∨((oP s.ns i (dR s.ns i)).length:Int)<e.index
     ·simp only[if_pos hx]
     simp only[if_neg hx];have hr:=hV.depth _ (List.getElem_mem hi);have hc:=hV.oP hi;rw[qh hi];by_cases ht:0≤e.depth∧e.depth≤8
     ·have:(zy s.ns i (dR s.ns i)).map (fun n=>n.moved s.ns[i].depth e.depth)=(zy s.ns i (dR s.ns i)).map (fun n=>n.Uc s.ns[i].depth e.depth):=
       List.map_congr_left fun n hn=>Ud (hV.depth n (aa0 hn)) hr ht
      rw[this]
     
     have key:∀(f:aI→aI),(f s.ns[i]).chk=6→(s.with' e (zx (oP s.ns i (dR s.ns i)) e.index.toNat ((zy s.ns i (dR s.ns i)).map f))).chk=(6,e.index):=by
      intro f hf6;have hlen2:=Hr (l:=s.ns) (i:=i) (j:=dR s.ns i) (by omega) e2;have hix:e.index.toNat≤(oP s.ns i (dR s.ns i)).length:=by omega
      show aO.chk ⟨s.w,s.h,_,_⟩=_;unfold aO.chk;simp only;rw[if_neg (by omega),if_neg (by rw[P9 hix,List.length_map]; omega)];rw[X4 hi];unfold zx;rw[List.map_cons,List.append_assoc,List.cons_append];have h6:fH ([]++(oP s.ns i (dR s.ns i)).take e.index.toNat) (f s.ns[i])=6:=by rw[Ht (by rw[hf6]; decide),hf6]
      rw[zM (hc.take _) (by rw[h6]; decide),h6];congr 1;rw[List.nil_append,List.length_take]; omega
     have hck:=(L6.1 hV).1 _ (List.getElem_mem hi);rw[key _ (by
      show({s.ns[i]with depth:=_}:aI).chk=6;rw[Ya hr hd,aI.JR hck,if_neg (by omega)])]
     rw[key _ (by
      unfold aI.Uc;rw[if_pos (by omega),aI.JR hck,if_neg (by omega)])]
     rfl
   simp only[if_neg hk]<;>rfl
end
section
def eX.insert(i:Int)(n:aI):eX:=⟨1,0,i,0,n,.none⟩
def eX.ajy(c:bY):eX:=⟨5,0,0,0,.zero,c⟩
def Ar:Nat→List aI→List (List aI)
 | m+1,x::t=>(x::t.takeWhile fun κ=>decide (x.depth<κ.depth))::Ar m (t.dropWhile fun κ=>decide (x.depth<κ.depth))
 | _,_=>[]
def Dv(l:List aI):List (List aI):=Ar l.length l
def pK:List (List aI)→List (List aI)→Nat
 | x::a,y::b=>if x=y then pK a b+1 else 0
 | _,_=>0
def qK(x y:List (List aI)):Nat:=pK (x.drop (pK x y)).reverse (y.drop (pK x y)).reverse
theorem VL.head{l:List aI}(h:VL l):∀y∈l.head?,y.depth=0:=by
 intro y hy;cases l with
 | nil=>cases hy
 | cons x t =>
  cases hy;have h1:=(yg.1 h).2.2.1;have h2:=h.depth _ List.mem_cons_self;omega
def Runs(s:aO)(es:List eX)(t:aO):Prop:=∀k,dF s es k=(t,((k+es.length:Nat):Int),0)
theorem Runs.nil(s:aO):Runs s [] s:=fun k=>rfl
theorem Runs.cons{s t u:aO}{e:eX}{es:List eX}(h:dP s e=(t,0))(h2:Runs t es u):Runs s (e::es) u:=fun k=>by
 unfold dF;rw[h,if_pos rfl,h2 (k+1),List.length_cons];congr 2;congr 1;omega
theorem Runs.append:∀{es es2:List eX} {s t u:aO},Runs s es t→Runs t es2 u→Runs s (es++es2) u
 | [],es2,s,t,u,h1,h2=>by
  have:=h1 0
  unfold dF at this
  cases this
  exact h2
 | e::es,es2,s,t,u,h1,h2=>by
  have h0:=h1 0
  unfold dF at h0
  split at h0
  ·rename_i he
   have h3:Runs (dP s e).1 es t:=fun k=>by
    have h4:=h1 k
    unfold dF at h4
    cases k with
    | zero =>
     rw[if_pos he]at h4
     have h5:∀(es:List eX) (s t:aO) (k m:Nat),dF s es k=(t,((k+es.length:Nat):Int),0)→dF s es m=(t,((m+es.length:Nat):Int),0):=by
      intro es
      induction es with
      | nil=>intro s t k m h; unfold dF at h ⊢; cases h; rfl
      | cons e es ih =>
       intro s t k m h
       unfold dF at h ⊢
       split at h
       ·rename_i he; rw[if_pos he]
        have:=ih _ t (k+1) (m+1) (by rw[h,List.length_cons]; congr 2; congr 1; omega)
        rw[this,List.length_cons]; congr 2; congr 1; omega
       ·rename_i he; simp only[Prod.mk.injEq]at h; exact absurd h.2.2 he
     exact h5 es _ t 1 0 (by rw[show(0+1:Nat)=1 from rfl]at h4; rw[h4,List.length_cons]; congr 2; congr 1; omega)
    | succ k =>
     have h4:=h1 k
     unfold dF at h4
     rw[if_pos he]at h4
     rw[h4,List.length_cons]; congr 2; congr 1; omega
   rw[List.cons_append]
   exact Runs.cons (t:=(dP s e).1) (by rw[←he]) (Runs.append h3 h2)
  ·rename_i he
   simp only[Prod.mk.injEq]at h0
   exact absurd h0.2.2 he
def aO.put(s:aO)(l:List aI):aO:=⟨s.w,s.h,s.bg,l⟩
end
section
theorem Eb:∀{m k:Nat} {l:List aI},l.length≤m→l.length≤k→Ar m l=Ar k l
 | 0,k,l,h,_=>by have:=List.eq_nil_of_length_eq_zero (by omega:l.length=0); subst this; cases k<;>rfl
 | m+1,0,l,_,h=>by have:=List.eq_nil_of_length_eq_zero (by omega:l.length=0); subst this; rfl
 | m+1,k+1,[],_,_=>rfl
 | m+1,k+1,x::t,h1,h2=>by
  unfold Ar
  have:=(List.dropWhile_sublist (l:=t) fun κ:aI=>decide (x.depth<κ.depth)).length_le
  rw[List.length_cons]at h1 h2
  rw[Eb (m:=m) (k:=k) (by omega) (by omega)]
theorem Ue(x:aI)(t:List aI):Dv (x::t)=(x::t.takeWhile fun κ=>decide (x.depth<κ.depth))::Dv (t.dropWhile fun κ=>decide (x.depth<κ.depth)):=by
 show Ar (t.length+1) (x::t)=_;have:=(List.dropWhile_sublist (l:=t) fun κ:aI=>decide (x.depth<κ.depth)).length_le;unfold Ar;rw[Eb this (Nat.le_refl _)];rfl
end
section
open Go.RowKit
variable{α:Type}{K:Nat}
structure aF where
 w:Int
 h:Int
 bg:bY
 nsa:Option Addr
 nsc:Nat
 ns:List aj
def aF.s(s:aF):Value := .slice s.nsa s.ns.length s.nsc
def aF.cells(s:aF):List Value:=[.i s.w,.i s.h]++s.bg.cells++[s.s]
def aF.v(s:aF):Value := .agg s.cells.toArray
def aF.key(s:aF):aO:=⟨s.w,s.h,s.bg,s.ns.map aj.key⟩
abbrev iq (K:Nat)(w:World)(v:Value)(l:List aj):Prop:=aN 47 aj.cells w v l∧∀n∈l,eF K w n
def bP(K:Nat)(w:World)(s:aF):Prop:=I64 s.w∧I64 s.h∧iq K w s.s s.ns
structure aX where
 kind:Int
 id:Int
 index:Int
 depth:Int
 node:aj
 color:bY
def aX.cells(e:aX):List Value:=[.i e.kind,.i e.id,.i e.index,.i e.depth]++e.node.cells++e.color.cells
def aX.v(e:aX):Value := .agg e.cells.toArray
def aX.key(e:aX):eX:=⟨e.kind,e.id,e.index,e.depth,e.node.key,e.color⟩
def oZ(K:Nat)(w:World)(e:aX):Prop:=I64 e.kind∧I64 e.id∧I64 e.index∧I64 e.depth∧eF K w e.node
theorem iq.below{w w':World}{v:Value}{l:List aj}(h:iq K w v l)(hb:Ext w w'):iq K w' v l:=⟨h.1.below hb,fun n hn=>(h.2 n hn).below hb⟩
theorem bP.below{w w':World}{s:aF}(h:bP K w s)(hb:Ext w w'):bP K w' s:=⟨h.1,h.2.1,h.2.2.below hb⟩
theorem oZ.below{w w':World}{e:aX}(h:oZ K w e)(hb:Ext w w'):oZ K w' e:=⟨h.1,h.2.1,h.2.2.1,h.2.2.2.1,h.2.2.2.2.below hb⟩
def aF.zero:aF:=⟨0,0,.none,none,0,[]⟩
theorem lC(w:World):bP K w .zero:=⟨by decide,by decide,⟨lZ _ _ _,fun n hn=>by cases hn⟩⟩
theorem Hu(pre:List aI)(x:aI):oC (pre++[x])=if x.kind=1 then x.depth+1 else x.depth:=by
 unfold oC;rw[List.getLast?_concat]
def uj(pre:List aI)(x:aI):Bool:=match pre.getLast? with
 | none=>x.depth==0
 | some p=>(p.kind==1&&x.depth==p.depth+1)||decide (x.depth≤p.depth)
theorem Hw{pre:List aI}{x:aI}(h:x.chk=0):uj pre x=decide (x.depth≤oC pre):=by
 have hd:=(aI.Du h).2.2.2.2.1;unfold uj oC;cases pre.getLast? with
 | none=>rw[Bool.eq_iff_iff]; simp only[beq_iff_eq,decide_eq_true_eq]; omega
 | some p =>
  rw[Bool.eq_iff_iff];simp only[Bool.or_eq_true,Bool.and_eq_true,beq_iff_eq,decide_eq_true_eq];split<;>omega
end
section
open Go.RowKit Go.ChangeShapes Go.WideShapes
variable{α:Type}
section
variable{H:Type}{enc:TypeId×Value→H}{W:World}{sp:Nat→Bool}{held:Bool}{n:Nat}{cs:List Value}{y:DataW H×List MemPlace}
set_option maxRecDepth 100000
def aF.ok(W:World)(s:aF):Prop:=I64 s.w∧I64 s.h∧aN 47 aj.cells W s.s s.ns∧∀n∈s.ns,n.ok W
def aX.ok(W:World)(e:aX):Prop:=I64 e.kind∧I64 e.id∧I64 e.index∧I64 e.depth∧e.node.ok W
theorem Yb(h:DataW.trod enc Tryz.prog W 0 sp held n 26 cs=some y):∃m:aF,cs=m.cells∧m.ok W:=by
 obtain⟨xs,n',rfl,hx,hl,hlen,hg⟩:=DataW.trod_struct Tryz.underlying26 h;have hl:cs.length=7:=hl.trans (by kernel_rfl);obtain⟨x0,c0,w0⟩:=eU Tryz.underlying3 (kV (cs:=cs) (off:=0) (k:=1) (hg 0 _ rfl) hlen (by decide) (by kernel_rfl)).choose_spec;obtain⟨x1,c1,w1⟩:=eU Tryz.underlying3 (kV (cs:=cs) (off:=1) (k:=1) (hg 1 _ rfl) hlen (by decide) (by kernel_rfl)).choose_spec;obtain⟨m2,c2⟩:=yR (kV (cs:=cs) (off:=2) (k:=4) (hg 2 _ rfl) hlen (by decide) (by kernel_rfl)).choose_spec;obtain⟨a3,k3,l3,c3,r3,w3⟩:=qc (k:=47) Tryz.underlying24 (by decide) (by kernel_rfl) aj.cells (fun n=>n.ok W) (fun n cs y h=>O4 h) (kV (cs:=cs) (off:=6) (k:=1) (hg 3 _ rfl) hlen (by decide) (by kernel_rfl)).choose_spec;have hc:=(show cs=(cs.drop 0).take 7 by rw[List.drop_zero,List.take_of_length_le (by omega)]).trans ((aV cs 0 1 1 6 7 rfl rfl).trans (congrArg _ ((aV cs 1 1 2 5 6 rfl rfl).trans (congrArg _ (aV cs 2 4 6 1 5 rfl rfl)))));rw[c0,c1,c2,c3]at hc;exact⟨⟨x0,x1,m2,a3,k3,l3⟩,hc.trans (by kernel_rfl),w0,w1,r3,w3⟩
theorem Qa(h:DataW.trod enc Tryz.prog W 0 sp held n 45 cs=some y):∃m:aX,cs=m.cells∧m.ok W:=by
 obtain⟨xs,n',rfl,hx,hl,hlen,hg⟩:=DataW.trod_struct Tryz.underlying45 h;have hl:cs.length=55:=hl.trans (by kernel_rfl);obtain⟨x0,c0,w0⟩:=eU Tryz.underlying3 (kV (cs:=cs) (off:=0) (k:=1) (hg 0 _ rfl) hlen (by decide) (by kernel_rfl)).choose_spec;obtain⟨x1,c1,w1⟩:=eU Tryz.underlying3 (kV (cs:=cs) (off:=1) (k:=1) (hg 1 _ rfl) hlen (by decide) (by kernel_rfl)).choose_spec;obtain⟨x2,c2,w2⟩:=eU Tryz.underlying3 (kV (cs:=cs) (off:=2) (k:=1) (hg 2 _ rfl) hlen (by decide) (by kernel_rfl)).choose_spec;obtain⟨x3,c3,w3⟩:=eU Tryz.underlying3 (kV (cs:=cs) (off:=3) (k:=1) (hg 3 _ rfl) hlen (by decide) (by kernel_rfl)).choose_spec;obtain⟨m4,c4,w4⟩:=O4 (kV (cs:=cs) (off:=4) (k:=47) (hg 4 _ rfl) hlen (by decide) (by kernel_rfl)).choose_spec;obtain⟨m5,c5⟩:=yR (kV (cs:=cs) (off:=51) (k:=4) (hg 5 _ rfl) hlen (by decide) (by kernel_rfl)).choose_spec;have hc:=(show cs=(cs.drop 0).take 55 by rw[List.drop_zero,List.take_of_length_le (by omega)]).trans ((aV cs 0 1 1 54 55 rfl rfl).trans (congrArg _ ((aV cs 1 1 2 53 54 rfl rfl).trans (congrArg _ ((aV cs 2 1 3 52 53 rfl rfl).trans (congrArg _ ((aV cs 3 1 4 51 52 rfl rfl).trans (congrArg _ (aV cs 4 47 51 4 51 rfl rfl)))))))));rw[c0,c1,c2,c3,c4,c5]at hc;exact⟨⟨x0,x1,x2,x3,m4,m5⟩,hc.trans (by kernel_rfl),w0,w1,w2,w3,w4⟩
theorem Gy{base:Nat}{v:Value}{d:DataW H}{p:List MemPlace}(hv:Value.okWide Tryz.prog W .any base 26 v)(h:DataW.Trod enc Tryz.prog W 0 sp held 26 v d p):∃m:aF,v=m.v∧m.ok W:=by
 obtain⟨cs,rfl,hsz⟩:=okWide_struct Tryz.underlying26 hv;obtain⟨fuel,hf⟩:=h;obtain⟨l⟩:=cs;obtain⟨m,hm,ho⟩:=Yb (cs:=l) (y:=(d,p)) hf;exact⟨m,by rw[hm]; rfl,ho⟩
theorem XI{base:Nat}{v:Value}{d:DataW H}{p:List MemPlace}(hv:Value.okWide Tryz.prog W .any base 45 v)(h:DataW.Trod enc Tryz.prog W 0 sp held 45 v d p):∃m:aX,v=m.v∧m.ok W:=by
 obtain⟨cs,rfl,hsz⟩:=okWide_struct Tryz.underlying45 hv;obtain⟨fuel,hf⟩:=h;obtain⟨l⟩:=cs;obtain⟨m,hm,ho⟩:=Qa (cs:=l) (y:=(d,p)) hf;exact⟨m,by rw[hm]; rfl,ho⟩
structure Hy where
 a:Option Addr
 c:Nat
 l:List aX
def Hy.v(m:Hy):Value := .slice m.a m.l.length m.c
def Hy.ok(W:World)(m:Hy):Prop:=aN 55 aX.cells W m.v m.l∧∀e∈m.l,e.ok W
theorem Tv{base:Nat}{v:Value}{d:DataW H}{p:List MemPlace}(hv:Value.okWide Tryz.prog W .any base 67 v)(h:DataW.Trod enc Tryz.prog W 0 sp held 67 v d p):∃m:Hy,v=m.v∧m.ok W:=by
 obtain⟨a,len,cap,rfl⟩:=okWide_slice Tryz.underlying67 hv;obtain⟨fuel,hf⟩:=h;have hf:DataW.trod enc Tryz.prog W 0 sp held fuel 67 [.slice a len cap]=some (d,p):=by simpa[Value.cells]using hf
 obtain⟨a1,k1,l1,e1,r1,w1⟩:=qc (k:=55) Tryz.underlying67 (by decide) (by kernel_rfl) aX.cells (fun e=>e.ok W) (fun n cs y h=>Qa h) hf;have e2:Value.slice a len cap = .slice a1 l1.length k1:=by simpa using e1
 exact⟨⟨a1,k1,l1⟩,e2,r1,w1⟩
end
end
end Go.Proofs.YtfmkkemfhjkajaaGreatDoor
