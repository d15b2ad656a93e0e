/- Scenes and edits by the keys of their nodes: what -/
import Derived.Test.YtfmkkemfhjkajaaGreatDoorPk32
import Derived.Test.YtfmkkemfhjkajaaGreatDoorOpn36
set_option linter.unusedVariables false
namespace Go.Proofs.YtfmkkemfhjkajaaGreatDoor
open _root_.Go.Proofs.Tryz
section
structure aN where
 w:Int
 h:Int
 bg:dF
 ns:List aI
deriving DecidableEq
structure gI where
 kind:Int
 id:Int
 index:Int
 depth:Int
 node:aI
 color:dF
deriving DecidableEq
def aN.zero:aN:=⟨0,0,dF.none,[]⟩
def aI.zero:aI:=l7.key
def jE(l:List aI)(k:Nat):Int:=((l[k]?).map aI.depth).getD 0
def jl(l:List aI)(id:Int):Option Nat:=l.findIdx? fun κ=>κ.id==id
def jB(l:List aI)(id:Int):Int:=match jl l id with | some i=>i | none => -1
def nV(pre:List aI):Int:=match pre.getLast? with | none=>0 | some p=>if p.kind=1 then p.depth+1 else p.depth
noncomputable def eY(pre:List aI)(x:aI):Int:=
 if x.chk≠0 then x.chk else if pre.any (fun κ=>κ.id==x.id)then 7 else if x.depth≤nV pre then 0 else 17
noncomputable def iQ(pre:List aI):List aI→Int×Int
 | []=>(0,0)
 | x::r=>if eY pre x=0 then iQ (pre++[x]) r else (eY pre x,pre.length)
noncomputable def aN.chk(s:aN):Int×Int:=
 if s.w<1∨256<s.w∨s.h<1∨256<s.h then (6,0)else if 64<s.ns.length then (5,64)else iQ [] s.ns
noncomputable def aN.valid(s:aN):Bool:=s.chk.1==0
def y7(pre:List aI):List aI→Prop
 | []=>True
 | x::r=>eY pre x=0∧y7 (pre++[x]) r
abbrev VL (l:List aI):Prop:=y7 [] l
theorem Bf:∀{l pre:List aI},(iQ pre l).1=0↔y7 pre l
 | [],pre=>by simp[iQ,y7]
 | x::r,pre=>by
  unfold iQ y7
  split
  ·rename_i h; rw[Bf]; simp[h]
  ·rename_i h; simp[h]
theorem y7.chk:∀{l pre:List aI},y7 pre l→iQ pre l=(0,0)
 | [],pre,_=>rfl
 | x::r,pre,h=>by unfold iQ; rw[ale h.1]; exact h.2.chk
theorem aN.qX{s:aN}:s.valid=true↔(1≤s.w∧s.w≤256∧1≤s.h∧s.h≤256)∧s.ns.length≤64∧VL s.ns:=by
 unfold aN.valid aN.chk;rw[alu];split
 ·rename_i h; constructor
  ·intro h2; cases h2
  rintro⟨h2,_⟩; omega
 split
 ·constructor
  ·intro h2; cases h2
  rintro⟨_,h2,_⟩; omega
 rw[Bf];constructor
 ·intro h2; exact⟨by omega,by omega,h2⟩
 rintro⟨_,_,h2⟩; exact h2
theorem Dt{pre:List aI}{x:aI}:eY pre x=0↔x.chk=0∧(∀κ∈pre,κ.id≠x.id)∧x.depth≤nV pre:=by
 unfold eY;split
 ·rename_i h; exact⟨fun h2=>absurd h2 h,fun h2=>absurd h2.1 h⟩
 rename_i h;split
 ·rename_i h2;obtain⟨κ,h3,h4⟩:=anw.1 h2;exact⟨fun h5=>absurd h5 (by decide),fun h5=>absurd (by simpa using h4) (h5.2.1 κ h3)⟩
 rename_i h2;have h3:∀κ∈pre,κ.id≠x.id:=fun κ hκ he=>h2 (anw.2 ⟨κ,hκ,by simpa using he⟩);split
 ·rename_i h4; exact⟨fun _=>⟨by simpa using h,h3,h4⟩,fun _=>rfl⟩
 rename_i h4; exact⟨fun h5=>absurd h5 (by decide),fun h5=>absurd h5.2.2 h4⟩
theorem JC:∀{l pre:List aI},y7 pre l↔∀a x b,l=a++x::b→eY (pre++a) x=0
 | [],pre=>⟨fun _ a x b h=>by simp at h,fun _=>trivial⟩
 | y::r,pre=>by
  unfold y7
  rw[JC (l:=r)]
  constructor
  ·rintro⟨h1,h2⟩ a x b h
   cases a with
   | nil =>
    simp only[ama,alU]at h
    rw[anE,←h.1]; exact h1
   | cons z a =>
    simp only[amO,alU]at h
    rw[h.1]at h2
    rw[show pre++z::a=(pre++[z])++a by simp]
    exact h2 a x b h.2
  ·intro h
   refine⟨by simpa using h [] y r rfl,fun a x b e=>?_⟩
   rw[show(pre++[y])++a=pre++y::a by simp]
   exact h (y::a) x b (by rw[e]; rfl)
theorem Lu{l:List aI}:VL l↔(∀x∈l,x.chk=0)∧(l.map aI.id).Nodup∧∀a x b,l=a++x::b→x.depth≤nV a:=by
 unfold VL;rw[JC];simp only[ama,Dt];constructor
 ·intro h;refine⟨fun x hx=>?_,?_,fun a x b e=>(h a x b e).2.2⟩
  ·obtain⟨a,b,e⟩:=List.append_of_mem hx;exact(h a x b e).1
  rw[List.nodup_iff_pairwise_ne];rw[List.pairwise_map];have key:∀(l pre:List aI),(∀a x b,l=a++x::b→∀κ∈pre++a,κ.id≠x.id)→List.Pairwise (fun a b:aI=>a.id≠b.id) l:=by
   intro l;induction l with
   | nil=>intro _ _; exact List.Pairwise.nil
   | cons y r ih =>
    intro pre h;refine List.Pairwise.cons (fun z hz=>?_) (ih (pre++[y]) fun a x b e κ hκ=>h (y::a) x b (by rw[e]; rfl) κ (by simpa using hκ));obtain⟨a,b,e⟩:=List.append_of_mem hz;exact h (y::a) z b (by rw[e]; rfl) y (by simp)
  exact key l [] fun a x b e κ hκ=>(h a x b e).2.1 κ (by simpa using hκ)
 rintro⟨h1,h2,h3⟩ a x b e;refine⟨h1 x (by rw[e]; simp),fun κ hκ he=>?_,h3 a x b e⟩;rw[e,alV,alT,ami]at h2;exact h2.2.2 κ.id (alL.2 ⟨κ,hκ,rfl⟩) x.id alB he
theorem pG{l:List aI}{k:Nat}(h:k<l.length):jE l k=l[k].depth:=by simp[jE,List.getElem?_eq_getElem h]
theorem aaL{a:List aI}{p:aI}:nV (a++[p])≤p.depth+1:=by
 unfold nV;rw[List.getLast?_concat];simp only;split<;>omega
theorem VL.tree{l:List aI}(h:VL l):IsTree l.length (jE l):=by
 obtain⟨h1,h2,h3⟩:=Lu.1 h;have hnn:∀k,k<l.length→0≤jE l k:=fun k hk=>by
  rw[pG hk]; exact(aI.Cc (h1 _ (aly hk))).2.2.2.2.1
 refine⟨fun h0=>?_,hnn,fun k hk=>?_⟩
 ·have:=h3 [] l[0] (l.drop 1) (by rw[ama,anx]; rfl);have h4:=hnn 0 h0;rw[pG h0]at h4 ⊢;have h5:nV []=0:=rfl;omega
 have hk':k<l.length:=by omega
 have e:l=l.take (k+1)++l[k+1]::l.drop (k+2):=by rw[anx,amA]
 have:=h3 _ _ _ e;rw[alY hk']at this;have h6:=aaL (a:=l.take k) (p:=l[k]);rw[pG hk,pG hk'];omega
end
section
theorem aN.XL{s:aN}(h:s.valid=true):s.chk=(0,0):=by
 obtain⟨h1,h2,h3⟩:=aN.qX.1 h;unfold aN.chk;rw[ak9 (by omega),ak9 (by omega)];exact h3.chk
theorem zN{l:List aI}{id:Int}{i:Nat}(h:jl l id=some i):∃hi:i<l.length,l[i].id=id:=by
 unfold jl at h;obtain⟨h1,h2,_⟩:=List.findIdx?_eq_some_iff_getElem.1 h;exact⟨h1,by simpa using h2⟩
theorem TJ{l:List aI}{id:Int}:jl l id=none↔∀κ∈l,κ.id≠id:=by
 unfold jl;rw[List.findIdx?_eq_none_iff];simp
def dU(l:List aI)(i:Nat):Nat:=i+1+((l.drop (i+1)).takeWhile fun κ=>decide (jE l i<κ.depth)).length
theorem qP{l:List aI}{i:Nat}(hi:i<l.length):i+1≤dU l i∧dU l i≤l.length:=by
 unfold dU;have:=(List.takeWhile_sublist (l:=l.drop (i+1)) fun κ:aI=>decide (jE l i<κ.depth)).length_le;rw[anz]at this;omega
theorem Py(l:List aI)(d:Int):∀m k:Nat,m+k=l.length→xG (jE l) d m k=k+((l.drop k).takeWhile fun κ=>decide (d<κ.depth)).length
 | 0,k,h=>by rw[amd (by omega)]; rfl
 | m+1,k,h=>by
  have hk:k<l.length:=by omega
  unfold xG
  rw[pG hk,←anx hk,List.takeWhile_cons]
  split
  ·rename_i hd
   rw[Py l d m (k+1) (by omega),ale (by simpa using hd),al2]; omega
  ·rename_i hd
   rw[ak9 (by simpa using hd)]; rfl
theorem uw{l:List aI}{i:Nat}(hi:i<l.length):dU l i=uK l.length (jE l) i:=by
 unfold dU uK;rw[Py l _ _ _ (by omega)]
def gI.named(e:gI):Bool:=
 if e.kind=1 then e.id==0&&(e.depth==0&&e.color==dF.none)
 else if e.kind=2 then e.index==0&&(e.depth==0&&(e.node==aI.zero&&e.color==dF.none))
 else if e.kind=3 then e.node==aI.zero&&e.color==dF.none
 else if e.kind=4 then e.id==0&&(e.index==0&&(e.depth==0&&e.color==dF.none))
 else if e.kind=5 then e.id==0&&(e.index==0&&(e.depth==0&&e.node==aI.zero))
 else false
def GI(l:List aI)(at':Nat)(more:List aI):List aI:=l.take at'++more++l.drop at'
def uy(l:List aI)(i j:Nat):List aI:=l.take i++l.drop j
def Ce(l:List aI)(i j:Nat):List aI:=(l.drop i).take (j-i)
def aI.aaM(n:aI)(root to:Int):aI:={n with depth:=if to<0∨8<to then -1 else n.depth-root+to}
def lG(l:List aI)(e:gI):Except Int (List aI):=
 if e.kind=1 then (if e.index<0∨(l.length:Int)<e.index then .error 6 else .ok (GI l e.index.toNat [e.node]))
 else if e.kind=2 then (match jl l e.id with | none => .error 8 | some i => .ok (uy l i (dU l i)))
 else if e.kind=3 then (match jl l e.id with
  | none => .error 8
  | some i=>if e.index<0∨((uy l i (dU l i)).length:Int)<e.index then .error 6
   else .ok (GI (uy l i (dU l i)) e.index.toNat ((Ce l i (dU l i)).map fun n=>n.aaM (jE l i) e.depth)))
 else if e.kind=4 then (match jl l e.node.id with
  | none => .error 8
  | some i=>if e.node.depth≠jE l i then .error 2 else .ok (l.set i e.node))
 else .ok l
def aN.with'(s:aN)(e:gI)(l:List aI):aN:=⟨s.w,s.h,if e.kind=5 then e.color else s.bg,l⟩
noncomputable def jw(s:aN)(e:gI):aN×Int:=
 if s.valid=false then (.zero,18)else if e.named=false then (.zero,2)else
 match lG s.ns e with
 | .error n=>(.zero,n)
 | .ok l=>if (s.with' e l).chk.1=0 then (s.with' e l,0)else (.zero,(s.with' e l).chk.1)
theorem WR{s:aN}{e:gI}{l:List aI}(h1:s.valid=true)(h2:e.named=true)(h3:lG s.ns e = .ok l)(h4:(s.with' e l).valid=true):jw s e=(s.with' e l,0):=by
 unfold jw;rw[ak9 (by simp[h1]),ak9 (by simp[h2]),h3];simp only;rw[ale (by rw[aN.XL h4])]
def gI.remove(id:Int):gI:=⟨2,id,0,0,.zero,.none⟩
def gI.replace(n:aI):gI:=⟨4,0,0,0,n,.none⟩
noncomputable def fC:aN→List gI→Nat→aN×Int×Int
 | s,[],k=>(s,k,0)
 | s,e::r,k=>if (jw s e).2=0 then fC (jw s e).1 r (k+1)else (.zero,k,(jw s e).2)
end
section
def JD(p:aI):Int:=if p.kind=1 then p.depth+1 else p.depth
def xI(r:Int)(a:List aI):Int:=match a.getLast? with | none=>r | some p=>JD p
def Steps(r:Int):List aI→Prop
 | []=>True
 | x::t=>x.depth≤r∧Steps (JD x) t
theorem uh(r:Int)(x:aI)(a:List aI):xI r (x::a)=xI (JD x) a:=by
 unfold xI;cases a with
 | nil=>rfl
 | cons y a=>rw[List.getLast?_cons_cons]; cases h:(y::a).getLast? with
  | none=>simp at h
  | some p=>rfl
theorem qQ:∀{a b:List aI} {r:Int},Steps r (a++b)↔Steps r a∧Steps (xI r a) b
 | [],b,r=>by simp only[ama,Steps,true_and]; rfl
 | x::a,b,r=>by
  rw[amO,uh]
  show x.depth≤r∧Steps (JD x) (a++b)↔(x.depth≤r∧Steps (JD x) a)∧_
  rw[qQ,and_assoc]
theorem Steps.mono{r r':Int}(h:r≤r'):∀{l:List aI},Steps r l→Steps r' l
 | [],_=>trivial
 | x::l,hl=>⟨by have:=hl.1; omega,hl.2⟩
theorem xJ{l:List aI}:VL l↔(∀x∈l,x.chk=0)∧(l.map aI.id).Nodup∧Steps 0 l:=by
 rw[Lu];refine and_congr_right fun _=>and_congr_right fun _=>?_;have key:∀(l:List aI) (r:Int),(∀a x b,l=a++x::b→x.depth≤xI r a)↔Steps r l:=by
  intro l;induction l with
  | nil=>intro r; exact⟨fun _=>trivial,fun _ a x b h=>by simp at h⟩
  | cons y l ih =>
   intro r;show _↔y.depth≤r∧Steps (JD y) l;rw[←ih];constructor
   ·intro h;refine⟨h [] y l rfl,fun a x b e=>?_⟩;rw[←uh r];exact h (y::a) x b (by rw[e]; rfl)
   rintro⟨h1,h2⟩ a x b e;cases a with
   | nil =>
    simp only[ama,alU]at e;rw[←e.1]; exact h1
   | cons z a =>
    simp only[amO,alU]at e;rw[←e.1,uh];exact h2 a x b e.2
 exact key l 0
theorem VL.depth{l:List aI}(h:VL l):∀x∈l,0≤x.depth∧x.depth<8:=fun x hx=>(aI.Cc ((Lu.1 h).1 x hx)).2.2.2.2
theorem Steps.cut{A B S:List aI}{x:aI}{r:Int}(h:Steps r (A++x::(S++B)))(hB:∀y∈B.head?,y.depth≤x.depth):Steps r (A++B):=by
 rw[qQ]at h ⊢;refine⟨h.1,?_⟩;cases B with
 | nil=>trivial
 | cons y B =>
  have h1:=hB y rfl;have h2:=h.2.1;have h3:=(qQ.1 h.2.2).2;exact⟨by omega,h3.2⟩
theorem VL.sub{l m:List aI}(h:VL l)(hs:m.Sublist l)(hm:Steps 0 m):VL m:=by
 obtain⟨h1,h2,h3⟩:=xJ.1 h;exact xJ.2 ⟨fun x hx=>h1 x (hs.subset hx),h2.sublist (hs.map _),hm⟩
theorem VL.take{l:List aI}(h:VL l)(n:Nat):VL (l.take n):=by
 refine h.sub (List.take_sublist n l) ?_;have:=(xJ.1 h).2.2;rw[←amA n l,qQ]at this;exact this.1
theorem drop_cons{l:List aI}{i:Nat}(hi:i<l.length):l=l.take i++l[i]::l.drop (i+1):=by rw[anx,amA]
theorem VL.uy{l:List aI}{i:Nat}(h:VL l)(hi:i<l.length):VL (uy l i (dU l i)):=by
 obtain⟨e1,e2⟩:=qP hi;refine h.sub ?_ ?_
 ·unfold Go.Proofs.YtfmkkemfhjkajaaGreatDoor.uy;have:l=l.take i++l.drop i:=(amA _ _).symm;have e3:l.drop (dU l i)=(l.drop i).drop (dU l i-i):=by rw[anm]; congr 1; omega
  rw[e3];have h5:=List.Sublist.append_left (List.drop_sublist (dU l i-i) (l.drop i)) (l.take i);rw[amA]at h5;exact h5
 have hs:=(xJ.1 h).2.2;have e:l=l.take i++l[i]::((l.drop (i+1)).take (dU l i-(i+1))++l.drop (dU l i)):=by
  conv=>lhs; rw[drop_cons hi]
  congr 2;rw[show l.drop (dU l i)=(l.drop (i+1)).drop (dU l i-(i+1)) by rw[anm]; congr 1; omega,amA]
 rw[e]at hs;refine Steps.cut hs fun y hy=>?_;rw[List.head?_drop]at hy;have hl:dU l i<l.length:=by
  by_cases hx:dU l i<l.length
  ·exact hx
  rw[List.getElem?_eq_none (by omega)]at hy; cases hy
 rw[List.getElem?_eq_getElem hl]at hy;cases hy;have h4:=(rD (n:=l.length) (f:=jE l) hi).2.2.2;rw[←uw hi,pG hi,pG hl]at h4;exact h4 hl
theorem XM{l:List aI}{i:Nat}(hi:i<l.length):Ce l i (dU l i)=l[i]::(l.drop (i+1)).take (dU l i-(i+1)):=by
 have:=qP hi;unfold Ce;rw[←anx hi,show dU l i-i=(dU l i-(i+1))+1 by omega,List.take_succ_cons]
theorem aaN{l:List aI}{i j:Nat}{x:aI}(h:x∈Ce l i j):x∈l:=am7 (anp h)
theorem Pz{l m:List aI}{k:Nat}(hk:k≤l.length):(GI l k m).length=l.length+m.length:=by
 unfold GI;rw[amC,amC,amR,anz]; omega
theorem GK{l:List aI}{i j:Nat}(h1:i≤j)(h2:j≤l.length):(uy l i j).length+(Ce l i j).length=l.length:=by
 unfold uy Ce;rw[amC,amR,anz,amR,anz]; omega
theorem y8:∀{a b pre:List aI} {x:aI},y7 pre a→eY (pre++a) x≠0→iQ pre (a++x::b)=(eY (pre++a) x,(((pre++a).length:Nat):Int))
 | [],b,pre,x,_,h=>by
  rw[anE]at h ⊢
  rw[ama]
  unfold iQ
  rw[ak9 h]
 | y::a,b,pre,x,hv,h=>by
  rw[amO]
  unfold iQ
  rw[ale hv.1,y8 (a:=a) hv.2 (by rw[amS]; exact h),amS]
  rfl
theorem GL{pre:List aI}{x:aI}(h:x.chk≠0):eY pre x=x.chk:=by unfold eY; rw[ale h]
def aI.moved(n:aI)(root to:Int):aI:={n with depth:=IntKind.i64.wrap (n.depth+IntKind.i64.wrap (to-root))}
def fP(l:List aI)(e:gI):Except Int (List aI):=
 if e.kind=3 then (match jl l e.id with
  | none => .error 8
  | some i=>if e.index<0∨((uy l i (dU l i)).length:Int)<e.index then .error 6
   else .ok (GI (uy l i (dU l i)) e.index.toNat ((Ce l i (dU l i)).map fun n=>n.moved (jE l i) e.depth)))
 else lG l e
noncomputable def LC(s:aN)(e:gI):aN×Int:=
 if s.valid=false then (.zero,18)else if e.named=false then (.zero,2)else
 match fP s.ns e with
 | .error n=>(.zero,n)
 | .ok l=>if (s.with' e l).chk.1=0 then (s.with' e l,0)else (.zero,(s.with' e l).chk.1)
theorem TK{n:aI}{root to:Int}(h1:0≤n.depth∧n.depth<8)(h2:0≤root∧root<8)(h3:0≤to∧to≤8):n.moved root to=n.aaM root to:=by
 unfold aI.moved aI.aaM;rw[ak9 (by omega)];have:IntKind.i64.wrap (n.depth+IntKind.i64.wrap (to-root))=n.depth-root+to:=by rw[amN,amN]; omega
 rw[this]
theorem XO{root to:Int}(h2:0≤root∧root<8)(h3:I64 to):IntKind.i64.wrap (root+IntKind.i64.wrap (to-root))=to:=by
 have:=h3.1; have:=h3.2;rw[amN,amN]; omega
theorem JE{s:aN}{e:gI}(hd:I64 e.depth):LC s e=jw s e:=by
 unfold LC jw;cases hv:s.valid with
 | false=>rfl
 | true =>
  rw[ak9 (by decide),ak9 (show ¬true=false by decide)];obtain⟨hw,hlen,hV⟩:=aN.qX.1 hv;cases hn:e.named with
  | false=>rfl
  | true =>
   rw[ak9 (show ¬true=false by decide),ak9 (show ¬true=false by decide)];unfold fP;by_cases hk:e.kind=3
   ·rw[ale hk];unfold lG;rw[ak9 (by omega),ak9 (by omega),ale hk];cases hf:jl s.ns e.id with
    | none=>rfl
    | some i =>
     simp only;obtain⟨hi,hid⟩:=zN hf;obtain⟨e1,e2⟩:=qP hi;by_cases hx:e.index<0∨((uy s.ns i (dU s.ns i)).length:Int)<e.index
     ·simp only[ale hx]
     simp only[ak9 hx];have hr:=hV.depth _ (aly hi);have hc:=hV.uy hi;rw[pG hi];by_cases ht:0≤e.depth∧e.depth≤8
     ·have:(Ce s.ns i (dU s.ns i)).map (fun n=>n.moved s.ns[i].depth e.depth)=(Ce s.ns i (dU s.ns i)).map (fun n=>n.aaM s.ns[i].depth e.depth):=
       List.map_congr_left fun n hn=>TK (hV.depth n (aaN hn)) hr ht
      rw[this]
     
     have key:∀(f:aI→aI),(f s.ns[i]).chk=6→(s.with' e (GI (uy s.ns i (dU s.ns i)) e.index.toNat ((Ce s.ns i (dU s.ns i)).map f))).chk=(6,e.index):=by
      intro f hf6;have hlen2:=GK (l:=s.ns) (i:=i) (j:=dU s.ns i) (by omega) e2;have hix:e.index.toNat≤(uy s.ns i (dU s.ns i)).length:=by omega
      show aN.chk ⟨s.w,s.h,_,_⟩=_;unfold aN.chk;simp only;rw[ak9 (by omega),ak9 (by rw[Pz hix,al6]; omega)];rw[XM hi];unfold GI;rw[alT,amS,amO];have h6:eY ([]++(uy s.ns i (dU s.ns i)).take e.index.toNat) (f s.ns[i])=6:=by rw[GL (by rw[hf6]; decide),hf6]
      rw[y8 (hc.take _) (by rw[h6]; decide),h6];congr 1;rw[ama,amR]; omega
     have hck:=(Lu.1 hV).1 _ (aly hi);rw[key _ (by
      show({s.ns[i]with depth:=_}:aI).chk=6;rw[XO hr hd,aI.JB hck,ak9 (by omega)])]
     rw[key _ (by
      unfold aI.aaM;rw[ale (by omega),aI.JB hck,ak9 (by omega)])]
     rfl
   simp only[ak9 hk]<;>rfl
end
section
def gI.insert(i:Int)(n:aI):gI:=⟨1,0,i,0,n,.none⟩
def gI.ajH(c:dF):gI:=⟨5,0,0,0,.zero,c⟩
def zO:Nat→List aI→List (List aI)
 | m+1,x::t=>(x::t.takeWhile fun κ=>decide (x.depth<κ.depth))::zO m (t.dropWhile fun κ=>decide (x.depth<κ.depth))
 | _,_=>[]
def Ci(l:List aI):List (List aI):=zO l.length l
def pK:List (List aI)→List (List aI)→Nat
 | x::a,y::b=>if x=y then pK a b+1 else 0
 | _,_=>0
def qK(x y:List (List aI)):Nat:=pK (x.drop (pK x y)).reverse (y.drop (pK x y)).reverse
theorem VL.head{l:List aI}(h:VL l):∀y∈l.head?,y.depth=0:=by
 intro y hy;cases l with
 | nil=>cases hy
 | cons x t =>
  cases hy;have h1:=(xJ.1 h).2.2.1;have h2:=h.depth _ alB;omega
def Runs(s:aN)(es:List gI)(t:aN):Prop:=∀k,fC s es k=(t,((k+es.length:Nat):Int),0)
theorem Runs.nil(s:aN):Runs s [] s:=fun k=>rfl
theorem Runs.cons{s t u:aN}{e:gI}{es:List gI}(h:jw s e=(t,0))(h2:Runs t es u):Runs s (e::es) u:=fun k=>by
 unfold fC;rw[h,ale rfl,h2 (k+1),al2];congr 2;congr 1;omega
theorem Runs.append:∀{es es2:List gI} {s t u:aN},Runs s es t→Runs t es2 u→Runs s (es++es2) u
 | [],es2,s,t,u,h1,h2=>by
  have:=h1 0
  unfold fC at this
  cases this
  exact h2
 | e::es,es2,s,t,u,h1,h2=>by
  have h0:=h1 0
  unfold fC at h0
  split at h0
  ·rename_i he
   have h3:Runs (jw s e).1 es t:=fun k=>by
    have h4:=h1 k
    unfold fC at h4
    cases k with
    | zero =>
     rw[ale he]at h4
     have h5:∀(es:List gI) (s t:aN) (k m:Nat),fC s es k=(t,((k+es.length:Nat):Int),0)→fC s es m=(t,((m+es.length:Nat):Int),0):=by
      intro es
      induction es with
      | nil=>intro s t k m h; unfold fC at h ⊢; cases h; rfl
      | cons e es ih =>
       intro s t k m h
       unfold fC at h ⊢
       split at h
       ·rename_i he; rw[ale he]
        have:=ih _ t (k+1) (m+1) (by rw[h,al2]; congr 2; congr 1; omega)
        rw[this,al2]; congr 2; congr 1; omega
       ·rename_i he; simp only[ali]at h; exact absurd h.2.2 he
     exact h5 es _ t 1 0 (by rw[show(0+1:Nat)=1 from rfl]at h4; rw[h4,al2]; congr 2; congr 1; omega)
    | succ k =>
     have h4:=h1 k
     unfold fC at h4
     rw[ale he]at h4
     rw[h4,al2]; congr 2; congr 1; omega
   rw[amO]
   exact Runs.cons (t:=(jw s e).1) (by rw[←he]) (Runs.append h3 h2)
  ·rename_i he
   simp only[ali]at h0
   exact absurd h0.2.2 he
def aN.put(s:aN)(l:List aI):aN:=⟨s.w,s.h,s.bg,l⟩
end
section
theorem Du:∀{m k:Nat} {l:List aI},l.length≤m→l.length≤k→zO m l=zO k l
 | 0,k,l,h,_=>by have:=amg (by omega:l.length=0); subst this; cases k<;>rfl
 | m+1,0,l,_,h=>by have:=amg (by omega:l.length=0); subst this; rfl
 | m+1,k+1,[],_,_=>rfl
 | m+1,k+1,x::t,h1,h2=>by
  unfold zO
  have:=(List.dropWhile_sublist (l:=t) fun κ:aI=>decide (x.depth<κ.depth)).length_le
  rw[al2]at h1 h2
  rw[Du (m:=m) (k:=k) (by omega) (by omega)]
theorem TL(x:aI)(t:List aI):Ci (x::t)=(x::t.takeWhile fun κ=>decide (x.depth<κ.depth))::Ci (t.dropWhile fun κ=>decide (x.depth<κ.depth)):=by
 show zO (t.length+1) (x::t)=_;have:=(List.dropWhile_sublist (l:=t) fun κ:aI=>decide (x.depth<κ.depth)).length_le;unfold zO;rw[Du this (alf _)];rfl
end
section
open Go.RowKit
variable{α:Type}{K:Nat}
structure aK where
 w:Int
 h:Int
 bg:dF
 nsa:Option Addr
 nsc:Nat
 ns:List aj
def aK.s(s:aK):Value := .slice s.nsa s.ns.length s.nsc
def aK.cells(s:aK):List Value:=[.i s.w,.i s.h]++s.bg.cells++[s.s]
def aK.v(s:aK):Value := .agg s.cells.toArray
def aK.key(s:aK):aN:=⟨s.w,s.h,s.bg,s.ns.map aj.key⟩
abbrev jo (K:Nat)(w:World)(v:Value)(l:List aj):Prop:=aP 47 aj.cells w v l∧∀n∈l,fK K w n
def bU(K:Nat)(w:World)(s:aK):Prop:=I64 s.w∧I64 s.h∧jo K w s.s s.ns
structure bf where
 kind:Int
 id:Int
 index:Int
 depth:Int
 node:aj
 color:dF
def bf.cells(e:bf):List Value:=[.i e.kind,.i e.id,.i e.index,.i e.depth]++e.node.cells++e.color.cells
def bf.v(e:bf):Value := .agg e.cells.toArray
def bf.key(e:bf):gI:=⟨e.kind,e.id,e.index,e.depth,e.node.key,e.color⟩
def wU(K:Nat)(w:World)(e:bf):Prop:=I64 e.kind∧I64 e.id∧I64 e.index∧I64 e.depth∧fK K w e.node
theorem jo.below{w w':World}{v:Value}{l:List aj}(h:jo K w v l)(hb:Ext w w'):jo K w' v l:=⟨h.1.below hb,fun n hn=>(h.2 n hn).below hb⟩
theorem bU.below{w w':World}{s:aK}(h:bU K w s)(hb:Ext w w'):bU K w' s:=⟨h.1,h.2.1,h.2.2.below hb⟩
theorem wU.below{w w':World}{e:bf}(h:wU K w e)(hb:Ext w w'):wU K w' e:=⟨h.1,h.2.1,h.2.2.1,h.2.2.2.1,h.2.2.2.2.below hb⟩
def aK.zero:aK:=⟨0,0,.none,none,0,[]⟩
theorem GN(w:World):bU K w .zero:=⟨by decide,by decide,⟨nU _ _ _,fun n hn=>by cases hn⟩⟩
theorem GR(pre:List aI)(x:aI):nV (pre++[x])=if x.kind=1 then x.depth+1 else x.depth:=by
 unfold nV;rw[List.getLast?_concat]
def tq(pre:List aI)(x:aI):Bool:=match pre.getLast? with
 | none=>x.depth==0
 | some p=>(p.kind==1&&x.depth==p.depth+1)||decide (x.depth≤p.depth)
theorem GU{pre:List aI}{x:aI}(h:x.chk=0):tq pre x=decide (x.depth≤nV pre):=by
 have hd:=(aI.Cc h).2.2.2.2.1;unfold tq nV;cases pre.getLast? with
 | none=>rw[al4]; simp only[alu,alz]; omega
 | some p =>
  rw[al4];simp only[amK,alr,alu,alz];split<;>omega
end
section
open Go.RowKit Go.ChangeShapes Go.WideShapes
variable{α:Type}
section
variable{H:Type}{enc:TypeId×Value→H}{W:World}{sp:Nat→Bool}{held:Bool}{n:Nat}{cs:List Value}{y:DataW H×List MemPlace}
set_option maxRecDepth 100000
def aK.ok(W:World)(s:aK):Prop:=I64 s.w∧I64 s.h∧aP 47 aj.cells W s.s s.ns∧∀n∈s.ns,n.ok W
def bf.ok(W:World)(e:bf):Prop:=I64 e.kind∧I64 e.id∧I64 e.index∧I64 e.depth∧e.node.ok W
theorem XP(h:DataW.trod enc prog W 0 sp held n 26 cs=some y):∃m:aK,cs=m.cells∧m.ok W:=by
 obtain⟨xs,n',rfl,hx,hl,hlen,hg⟩:=amH underlying26 h;have hl:cs.length=7:=hl.trans (by kernel_rfl);obtain⟨x0,c0,w0⟩:=fQ underlying3 (lJ (cs:=cs) (off:=0) (k:=1) (hg 0 _ rfl) hlen (by decide) (by kernel_rfl)).choose_spec;obtain⟨x1,c1,w1⟩:=fQ underlying3 (lJ (cs:=cs) (off:=1) (k:=1) (hg 1 _ rfl) hlen (by decide) (by kernel_rfl)).choose_spec;obtain⟨m2,c2⟩:=yx (lJ (cs:=cs) (off:=2) (k:=4) (hg 2 _ rfl) hlen (by decide) (by kernel_rfl)).choose_spec;obtain⟨a3,k3,l3,c3,r3,w3⟩:=qJ (k:=47) underlying24 (by decide) (by kernel_rfl) aj.cells (fun n=>n.ok W) (fun n cs y h=>aaq h) (lJ (cs:=cs) (off:=6) (k:=1) (hg 3 _ rfl) hlen (by decide) (by kernel_rfl)).choose_spec;have hc:=(show cs=(cs.drop 0).take 7 by rw[amh,alJ (by omega)]).trans ((aY cs 0 1 1 6 7 rfl rfl).trans (alb _ ((aY cs 1 1 2 5 6 rfl rfl).trans (alb _ (aY cs 2 4 6 1 5 rfl rfl)))));rw[c0,c1,c2,c3]at hc;exact⟨⟨x0,x1,m2,a3,k3,l3⟩,hc.trans (by kernel_rfl),w0,w1,r3,w3⟩
theorem FX{base:Nat}{v:Value}{d:DataW H}{p:List MemPlace}(hv:Value.okWide prog W .any base 26 v)(h:DataW.Trod enc prog W 0 sp held 26 v d p):∃m:aK,v=m.v∧m.ok W:=by
 obtain⟨cs,rfl,hsz⟩:=okWide_struct underlying26 hv;obtain⟨fuel,hf⟩:=h;obtain⟨l⟩:=cs;obtain⟨m,hm,ho⟩:=XP (cs:=l) (y:=(d,p)) hf;exact⟨m,by rw[hm]; rfl,ho⟩
theorem SX{base:Nat}{v:Value}{d:DataW H}{p:List MemPlace}(hv:Value.okWide prog W .any base 23 v)(h:DataW.Trod enc prog W 0 sp held 23 v d p):∃m:dF,v = .agg m.cells.toArray∧True:=by
 obtain⟨cs,rfl,hsz⟩:=okWide_struct underlying23 hv;obtain⟨fuel,hf⟩:=h;obtain⟨l⟩:=cs;obtain⟨m,hm⟩:=yx (cs:=l) (y:=(d,p)) hf;exact⟨m,by rw[hm],trivial⟩
structure LD where
 a:Option Addr
 c:Nat
 l:List bf
def LD.v(m:LD):Value := .slice m.a m.l.length m.c
def LD.ok(W:World)(m:LD):Prop:=aP 55 bf.cells W m.v m.l∧∀e∈m.l,e.ok W
end
end
end Go.Proofs.YtfmkkemfhjkajaaGreatDoor
