/- Scenes and edits by the keys of their nodes: what -/
import Derived.Test.YtfmkkemfhjkajaaGreatDoorPk30
import Derived.Test.YtfmkkemfhjkajaaGreatDoorOpn36
set_option linter.unusedVariables false
namespace Go.Proofs.YtfmkkemfhjkajaaGreatDoor
open _root_.Go.Proofs.Tryz
section
structure aQ where
 w:Int
 h:Int
 bg:dO
 ns:List aF
deriving DecidableEq
structure bU where
 kind:Int
 id:Int
 index:Int
 depth:Int
 node:aF
 color:dO
deriving DecidableEq
def aQ.zero:aQ:=⟨0,0,dO.none,[]⟩
def aF.zero:aF:=gK.key
def l7(l:List aF)(k:Nat):Int:=((l[k]?).map aF.depth).getD 0
def jD(l:List aF)(id:Int):Option Nat:=l.findIdx? fun κ=>κ.id==id
def jL(l:List aF)(id:Int):Int:=match jD l id with | some i=>i | none => -1
def pR(pre:List aF):Int:=match pre.getLast? with | none=>0 | some p=>if p.kind=1 then p.depth+1 else p.depth
noncomputable def fO(pre:List aF)(x:aF):Int:=
 if x.chk≠0 then x.chk else if pre.any (fun κ=>κ.id==x.id)then 7 else if x.depth≤pR pre then 0 else 17
noncomputable def jl(pre:List aF):List aF→Int×Int
 | []=>(0,0)
 | x::r=>if fO pre x=0 then jl (pre++[x]) r else (fO pre x,pre.length)
noncomputable def aQ.chk(s:aQ):Int×Int:=
 if s.w<1∨256<s.w∨s.h<1∨256<s.h then (6,0)else if 64<s.ns.length then (5,64)else jl [] s.ns
noncomputable def aQ.valid(s:aQ):Bool:=s.chk.1==0
def Ag(pre:List aF):List aF→Prop
 | []=>True
 | x::r=>fO pre x=0∧Ag (pre++[x]) r
abbrev VL (l:List aF):Prop:=Ag [] l
theorem CU:∀{l pre:List aF},(jl pre l).1=0↔Ag pre l
 | [],pre=>by simp[jl,Ag]
 | x::r,pre=>by
  unfold jl Ag
  split
  ·rename_i h; rw[CU]; simp[h]
  ·rename_i h; simp[h]
theorem Ag.chk:∀{l pre:List aF},Ag pre l→jl pre l=(0,0)
 | [],pre,_=>rfl
 | x::r,pre,h=>by unfold jl; rw[anv h.1]; exact h.2.chk
theorem aQ.oI{s:aQ}:s.valid=true↔(1≤s.w∧s.w≤256∧1≤s.h∧s.h≤256)∧s.ns.length≤64∧VL s.ns:=by
 unfold aQ.valid aQ.chk;rw[anO];split
 ·rename_i h; constructor
  ·intro h2; cases h2
  rintro⟨h2,_⟩; omega
 split
 ·constructor
  ·intro h2; cases h2
  rintro⟨_,h2,_⟩; omega
 rw[CU];constructor
 ·intro h2; exact⟨by omega,by omega,h2⟩
 rintro⟨_,_,h2⟩; exact h2
theorem Ey{pre:List aF}{x:aF}:fO pre x=0↔x.chk=0∧(∀κ∈pre,κ.id≠x.id)∧x.depth≤pR pre:=by
 unfold fO;split
 ·rename_i h; exact⟨fun h2=>absurd h2 h,fun h2=>absurd h2.1 h⟩
 rename_i h;split
 ·rename_i h2;obtain⟨κ,h3,h4⟩:=apQ.1 h2;exact⟨fun h5=>absurd h5 (by decide),fun h5=>absurd (by simpa using h4) (h5.2.1 κ h3)⟩
 rename_i h2;have h3:∀κ∈pre,κ.id≠x.id:=fun κ hκ he=>h2 (apQ.2 ⟨κ,hκ,by simpa using he⟩);split
 ·rename_i h4; exact⟨fun _=>⟨by simpa using h,h3,h4⟩,fun _=>rfl⟩
 rename_i h4; exact⟨fun h5=>absurd h5 (by decide),fun h5=>absurd h5.2.2 h4⟩
theorem KN:∀{l pre:List aF},Ag pre l↔∀a x b,l=a++x::b→fO (pre++a) x=0
 | [],pre=>⟨fun _ a x b h=>by simp at h,fun _=>trivial⟩
 | y::r,pre=>by
  unfold Ag
  rw[KN (l:=r)]
  constructor
  ·rintro⟨h1,h2⟩ a x b h
   cases a with
   | nil =>
    simp only[aoy,aog]at h
    rw[aoK,←h.1]; exact h1
   | cons z a =>
    simp only[aoD,aog]at h
    rw[h.1]at h2
    rw[show pre++z::a=(pre++[z])++a by simp]
    exact h2 a x b h.2
  ·intro h
   refine⟨by simpa using h [] y r rfl,fun a x b e=>?_⟩
   rw[show(pre++[y])++a=pre++y::a by simp]
   exact h (y::a) x b (by rw[e]; rfl)
theorem Nw{l:List aF}:VL l↔(∀x∈l,x.chk=0)∧(l.map aF.id).Nodup∧∀a x b,l=a++x::b→x.depth≤pR a:=by
 unfold VL;rw[KN];simp only[aoy,Ey];constructor
 ·intro h;refine⟨fun x hx=>?_,?_,fun a x b e=>(h a x b e).2.2⟩
  ·obtain⟨a,b,e⟩:=List.append_of_mem hx;exact(h a x b e).1
  rw[List.nodup_iff_pairwise_ne];rw[List.pairwise_map];have key:∀(l pre:List aF),(∀a x b,l=a++x::b→∀κ∈pre++a,κ.id≠x.id)→List.Pairwise (fun a b:aF=>a.id≠b.id) l:=by
   intro l;induction l with
   | nil=>intro _ _; exact List.Pairwise.nil
   | cons y r ih =>
    intro pre h;refine List.Pairwise.cons (fun z hz=>?_) (ih (pre++[y]) fun a x b e κ hκ=>h (y::a) x b (by rw[e]; rfl) κ (by simpa using hκ));obtain⟨a,b,e⟩:=List.append_of_mem hz;exact h (y::a) z b (by rw[e]; rfl) y (by simp)
  exact key l [] fun a x b e κ hκ=>(h a x b e).2.1 κ (by simpa using hκ)
 rintro⟨h1,h2,h3⟩ a x b e;refine⟨h1 x (by rw[e]; simp),fun κ hκ he=>?_,h3 a x b e⟩;rw[e,an6,aoh,aoH]at h2;exact h2.2.2 κ.id (an4.2 ⟨κ,hκ,rfl⟩) x.id anK he
theorem qH{l:List aF}{k:Nat}(h:k<l.length):l7 l k=l[k].depth:=by simp[l7,List.getElem?_eq_getElem h]
theorem abV{a:List aF}{p:aF}:pR (a++[p])≤p.depth+1:=by
 unfold pR;rw[List.getLast?_concat];simp only;split<;>omega
theorem VL.tree{l:List aF}(h:VL l):IsTree l.length (l7 l):=by
 obtain⟨h1,h2,h3⟩:=Nw.1 h;have hnn:∀k,k<l.length→0≤l7 l k:=fun k hk=>by
  rw[qH hk]; exact(aF.DW (h1 _ (anJ hk))).2.2.2.2.1
 refine⟨fun h0=>?_,hnn,fun k hk=>?_⟩
 ·have:=h3 [] l[0] (l.drop 1) (by rw[aoy,apK]; rfl);have h4:=hnn 0 h0;rw[qH h0]at h4 ⊢;have h5:pR []=0:=rfl;omega
 have hk':k<l.length:=by omega
 have e:l=l.take (k+1)++l[k+1]::l.drop (k+2):=by rw[apK,aoE]
 have:=h3 _ _ _ e;rw[an2 hk']at this;have h6:=abV (a:=l.take k) (p:=l[k]);rw[qH hk,qH hk'];omega
end
section
theorem aQ.YV{s:aQ}(h:s.valid=true):s.chk=(0,0):=by
 obtain⟨h1,h2,h3⟩:=aQ.oI.1 h;unfold aQ.chk;rw[anq (by omega),anq (by omega)];exact h3.chk
theorem Bf{l:List aF}{id:Int}{i:Nat}(h:jD l id=some i):∃hi:i<l.length,l[i].id=id:=by
 unfold jD at h;obtain⟨h1,h2,_⟩:=List.findIdx?_eq_some_iff_getElem.1 h;exact⟨h1,by simpa using h2⟩
theorem UO{l:List aF}{id:Int}:jD l id=none↔∀κ∈l,κ.id≠id:=by
 unfold jD;rw[List.findIdx?_eq_none_iff];simp
def dR(l:List aF)(i:Nat):Nat:=i+1+((l.drop (i+1)).takeWhile fun κ=>decide (l7 l i<κ.depth)).length
theorem uN{l:List aF}{i:Nat}(hi:i<l.length):i+1≤dR l i∧dR l i≤l.length:=by
 unfold dR;have:=(List.takeWhile_sublist (l:=l.drop (i+1)) fun κ:aF=>decide (l7 l i<κ.depth)).length_le;rw[apn]at this;omega
theorem QB(l:List aF)(d:Int):∀m k:Nat,m+k=l.length→yJ (l7 l) d m k=k+((l.drop k).takeWhile fun κ=>decide (d<κ.depth)).length
 | 0,k,h=>by rw[aon (by omega)]; rfl
 | m+1,k,h=>by
  have hk:k<l.length:=by omega
  unfold yJ
  rw[qH hk,←apK hk,List.takeWhile_cons]
  split
  ·rename_i hd
   rw[QB l d m (k+1) (by omega),anv (by simpa using hd),an1]; omega
  ·rename_i hd
   rw[anq (by simpa using hd)]; rfl
theorem CV{l:List aF}{i:Nat}(hi:i<l.length):dR l i=wG l.length (l7 l) i:=by
 unfold dR wG;rw[QB l _ _ _ (by omega)]
def bU.named(e:bU):Bool:=
 if e.kind=1 then e.id==0&&(e.depth==0&&e.color==dO.none)
 else if e.kind=2 then e.index==0&&(e.depth==0&&(e.node==aF.zero&&e.color==dO.none))
 else if e.kind=3 then e.node==aF.zero&&e.color==dO.none
 else if e.kind=4 then e.id==0&&(e.index==0&&(e.depth==0&&e.color==dO.none))
 else if e.kind=5 then e.id==0&&(e.index==0&&(e.depth==0&&e.node==aF.zero))
 else false
def Ik(l:List aF)(at':Nat)(more:List aF):List aF:=l.take at'++more++l.drop at'
def wH(l:List aF)(i j:Nat):List aF:=l.take i++l.drop j
def DX(l:List aF)(i j:Nat):List aF:=(l.drop i).take (j-i)
def aF.abW(n:aF)(root to:Int):aF:={n with depth:=if to<0∨8<to then -1 else n.depth-root+to}
def nP(l:List aF)(e:bU):Except Int (List aF):=
 if e.kind=1 then (if e.index<0∨(l.length:Int)<e.index then .error 6 else .ok (Ik l e.index.toNat [e.node]))
 else if e.kind=2 then (match jD l e.id with | none => .error 8 | some i => .ok (wH l i (dR l i)))
 else if e.kind=3 then (match jD l e.id with
  | none => .error 8
  | some i=>if e.index<0∨((wH l i (dR l i)).length:Int)<e.index then .error 6
   else .ok (Ik (wH l i (dR l i)) e.index.toNat ((DX l i (dR l i)).map fun n=>n.abW (l7 l i) e.depth)))
 else if e.kind=4 then (match jD l e.node.id with
  | none => .error 8
  | some i=>if e.node.depth≠l7 l i then .error 2 else .ok (l.set i e.node))
 else .ok l
def aQ.with'(s:aQ)(e:bU)(l:List aF):aQ:=⟨s.w,s.h,if e.kind=5 then e.color else s.bg,l⟩
noncomputable def kD(s:aQ)(e:bU):aQ×Int:=
 if s.valid=false then (.zero,18)else if e.named=false then (.zero,2)else
 match nP s.ns e with
 | .error n=>(.zero,n)
 | .ok l=>if (s.with' e l).chk.1=0 then (s.with' e l,0)else (.zero,(s.with' e l).chk.1)
theorem YW{s:aQ}{e:bU}{l:List aF}(h1:s.valid=true)(h2:e.named=true)(h3:nP s.ns e = .ok l)(h4:(s.with' e l).valid=true):kD s e=(s.with' e l,0):=by
 unfold kD;rw[anq (by simp[h1]),anq (by simp[h2]),h3];simp only;rw[anv (by rw[aQ.YV h4])]
def bU.remove(id:Int):bU:=⟨2,id,0,0,.zero,.none⟩
def bU.replace(n:aF):bU:=⟨4,0,0,0,n,.none⟩
noncomputable def fP:aQ→List bU→Nat→aQ×Int×Int
 | s,[],k=>(s,k,0)
 | s,e::r,k=>if (kD s e).2=0 then fP (kD s e).1 r (k+1)else (.zero,k,(kD s e).2)
end
section
def KO(p:aF):Int:=if p.kind=1 then p.depth+1 else p.depth
def yL(r:Int)(a:List aF):Int:=match a.getLast? with | none=>r | some p=>KO p
def Steps(r:Int):List aF→Prop
 | []=>True
 | x::t=>x.depth≤r∧Steps (KO x) t
theorem vO(r:Int)(x:aF)(a:List aF):yL r (x::a)=yL (KO x) a:=by
 unfold yL;cases a with
 | nil=>rfl
 | cons y a=>rw[List.getLast?_cons_cons]; cases h:(y::a).getLast? with
  | none=>simp at h
  | some p=>rfl
theorem sK:∀{a b:List aF} {r:Int},Steps r (a++b)↔Steps r a∧Steps (yL r a) b
 | [],b,r=>by simp only[aoy,Steps,true_and]; rfl
 | x::a,b,r=>by
  rw[aoD,vO]
  show x.depth≤r∧Steps (KO x) (a++b)↔(x.depth≤r∧Steps (KO x) a)∧_
  rw[sK,and_assoc]
theorem Steps.mono{r r':Int}(h:r≤r'):∀{l:List aF},Steps r l→Steps r' l
 | [],_=>trivial
 | x::l,hl=>⟨by have:=hl.1; omega,hl.2⟩
theorem yM{l:List aF}:VL l↔(∀x∈l,x.chk=0)∧(l.map aF.id).Nodup∧Steps 0 l:=by
 rw[Nw];refine and_congr_right fun _=>and_congr_right fun _=>?_;have key:∀(l:List aF) (r:Int),(∀a x b,l=a++x::b→x.depth≤yL r a)↔Steps r l:=by
  intro l;induction l with
  | nil=>intro r; exact⟨fun _=>trivial,fun _ a x b h=>by simp at h⟩
  | cons y l ih =>
   intro r;show _↔y.depth≤r∧Steps (KO y) l;rw[←ih];constructor
   ·intro h;refine⟨h [] y l rfl,fun a x b e=>?_⟩;rw[←vO r];exact h (y::a) x b (by rw[e]; rfl)
   rintro⟨h1,h2⟩ a x b e;cases a with
   | nil =>
    simp only[aoy,aog]at e;rw[←e.1]; exact h1
   | cons z a =>
    simp only[aoD,aog]at e;rw[←e.1,vO];exact h2 a x b e.2
 exact key l 0
theorem VL.depth{l:List aF}(h:VL l):∀x∈l,0≤x.depth∧x.depth<8:=fun x hx=>(aF.DW ((Nw.1 h).1 x hx)).2.2.2.2
theorem Steps.cut{A B S:List aF}{x:aF}{r:Int}(h:Steps r (A++x::(S++B)))(hB:∀y∈B.head?,y.depth≤x.depth):Steps r (A++B):=by
 rw[sK]at h ⊢;refine⟨h.1,?_⟩;cases B with
 | nil=>trivial
 | cons y B =>
  have h1:=hB y rfl;have h2:=h.2.1;have h3:=(sK.1 h.2.2).2;exact⟨by omega,h3.2⟩
theorem VL.sub{l m:List aF}(h:VL l)(hs:m.Sublist l)(hm:Steps 0 m):VL m:=by
 obtain⟨h1,h2,h3⟩:=yM.1 h;exact yM.2 ⟨fun x hx=>h1 x (hs.subset hx),h2.sublist (hs.map _),hm⟩
theorem VL.take{l:List aF}(h:VL l)(n:Nat):VL (l.take n):=by
 refine h.sub (List.take_sublist n l) ?_;have:=(yM.1 h).2.2;rw[←aoE n l,sK]at this;exact this.1
theorem drop_cons{l:List aF}{i:Nat}(hi:i<l.length):l=l.take i++l[i]::l.drop (i+1):=by rw[apK,aoE]
theorem VL.wH{l:List aF}{i:Nat}(h:VL l)(hi:i<l.length):VL (wH l i (dR l i)):=by
 obtain⟨e1,e2⟩:=uN hi;refine h.sub ?_ ?_
 ·unfold Go.Proofs.YtfmkkemfhjkajaaGreatDoor.wH;have:l=l.take i++l.drop i:=(aoE _ _).symm;have e3:l.drop (dR l i)=(l.drop i).drop (dR l i-i):=by rw[ao9]; congr 1; omega
  rw[e3];have h5:=List.Sublist.append_left (List.drop_sublist (dR l i-i) (l.drop i)) (l.take i);rw[aoE]at h5;exact h5
 have hs:=(yM.1 h).2.2;have e:l=l.take i++l[i]::((l.drop (i+1)).take (dR l i-(i+1))++l.drop (dR l i)):=by
  conv=>lhs; rw[drop_cons hi]
  congr 2;rw[show l.drop (dR l i)=(l.drop (i+1)).drop (dR l i-(i+1)) by rw[ao9]; congr 1; omega,aoE]
 rw[e]at hs;refine Steps.cut hs fun y hy=>?_;rw[List.head?_drop]at hy;have hl:dR l i<l.length:=by
  by_cases hx:dR l i<l.length
  ·exact hx
  rw[List.getElem?_eq_none (by omega)]at hy; cases hy
 rw[List.getElem?_eq_getElem hl]at hy;cases hy;have h4:=(tq (n:=l.length) (f:=l7 l) hi).2.2.2;rw[←CV hi,qH hi,qH hl]at h4;exact h4 hl
theorem YX{l:List aF}{i:Nat}(hi:i<l.length):DX l i (dR l i)=l[i]::(l.drop (i+1)).take (dR l i-(i+1)):=by
 have:=uN hi;unfold DX;rw[←apK hi,show dR l i-i=(dR l i-(i+1))+1 by omega,apE]
theorem abX{l:List aF}{i j:Nat}{x:aF}(h:x∈DX l i j):x∈l:=apk (apF h)
theorem QC{l m:List aF}{k:Nat}(hk:k≤l.length):(Ik l k m).length=l.length+m.length:=by
 unfold Ik;rw[anX,anX,aoT,apn]; omega
theorem Il{l:List aF}{i j:Nat}(h1:i≤j)(h2:j≤l.length):(wH l i j).length+(DX l i j).length=l.length:=by
 unfold wH DX;rw[anX,aoT,apn,aoT,apn]; omega
theorem Ah:∀{a b pre:List aF} {x:aF},Ag pre a→fO (pre++a) x≠0→jl pre (a++x::b)=(fO (pre++a) x,(((pre++a).length:Nat):Int))
 | [],b,pre,x,_,h=>by
  rw[aoK]at h ⊢
  rw[aoy]
  unfold jl
  rw[anq h]
 | y::a,b,pre,x,hv,h=>by
  rw[aoD]
  unfold jl
  rw[anv hv.1,Ah (a:=a) hv.2 (by rw[aoO]; exact h),aoO]
  rfl
theorem Io{pre:List aF}{x:aF}(h:x.chk≠0):fO pre x=x.chk:=by unfold fO; rw[anv h]
def aF.moved(n:aF)(root to:Int):aF:={n with depth:=IntKind.i64.wrap (n.depth+IntKind.i64.wrap (to-root))}
def gy(l:List aF)(e:bU):Except Int (List aF):=
 if e.kind=3 then (match jD l e.id with
  | none => .error 8
  | some i=>if e.index<0∨((wH l i (dR l i)).length:Int)<e.index then .error 6
   else .ok (Ik (wH l i (dR l i)) e.index.toNat ((DX l i (dR l i)).map fun n=>n.moved (l7 l i) e.depth)))
 else nP l e
noncomputable def Ny(s:aQ)(e:bU):aQ×Int:=
 if s.valid=false then (.zero,18)else if e.named=false then (.zero,2)else
 match gy s.ns e with
 | .error n=>(.zero,n)
 | .ok l=>if (s.with' e l).chk.1=0 then (s.with' e l,0)else (.zero,(s.with' e l).chk.1)
theorem UQ{n:aF}{root to:Int}(h1:0≤n.depth∧n.depth<8)(h2:0≤root∧root<8)(h3:0≤to∧to≤8):n.moved root to=n.abW root to:=by
 unfold aF.moved aF.abW;rw[anq (by omega)];have:IntKind.i64.wrap (n.depth+IntKind.i64.wrap (to-root))=n.depth-root+to:=by rw[aoW,aoW]; omega
 rw[this]
theorem YZ{root to:Int}(h2:0≤root∧root<8)(h3:I64 to):IntKind.i64.wrap (root+IntKind.i64.wrap (to-root))=to:=by
 have:=h3.1; have:=h3.2;rw[aoW,aoW]; omega
theorem KP{s:aQ}{e:bU}(hd:I64 e.depth):Ny s e=kD s e:=by
 unfold Ny kD;cases hv:s.valid with
 | false=>rfl
 | true =>
  rw[anq (by decide),anq (show ¬true=false by decide)];obtain⟨hw,hlen,hV⟩:=aQ.oI.1 hv;cases hn:e.named with
  | false=>rfl
  | true =>
   rw[anq (show ¬true=false by decide),anq (show ¬true=false by decide)];unfold gy;by_cases hk:e.kind=3
   ·rw[anv hk];unfold nP;rw[anq (by omega),anq (by omega),anv hk];cases hf:jD s.ns e.id with
    | none=>rfl
    | some i =>
     simp only;obtain⟨hi,hid⟩:=Bf hf;obtain⟨e1,e2⟩:=uN hi;by_cases hx:e.index<0∨((wH s.ns i (dR s.ns i)).length:Int)<e.index
     ·simp only[anv hx]
     simp only[anq hx];have hr:=hV.depth _ (anJ hi);have hc:=hV.wH hi;rw[qH hi];by_cases ht:0≤e.depth∧e.depth≤8
     ·have:(DX s.ns i (dR s.ns i)).map (fun n=>n.moved s.ns[i].depth e.depth)=(DX s.ns i (dR s.ns i)).map (fun n=>n.abW s.ns[i].depth e.depth):=
       List.map_congr_left fun n hn=>UQ (hV.depth n (abX hn)) hr ht
      rw[this]
     
     have key:∀(f:aF→aF),(f s.ns[i]).chk=6→(s.with' e (Ik (wH s.ns i (dR s.ns i)) e.index.toNat ((DX s.ns i (dR s.ns i)).map f))).chk=(6,e.index):=by
      intro f hf6;have hlen2:=Il (l:=s.ns) (i:=i) (j:=dR s.ns i) (by omega) e2;have hix:e.index.toNat≤(wH s.ns i (dR s.ns i)).length:=by omega
      show aQ.chk ⟨s.w,s.h,_,_⟩=_;unfold aQ.chk;simp only;rw[anq (by omega),anq (by rw[QC hix,aob]; omega)];rw[YX hi];unfold Ik;rw[aoh,aoO,aoD];have h6:fO ([]++(wH s.ns i (dR s.ns i)).take e.index.toNat) (f s.ns[i])=6:=by rw[Io (by rw[hf6]; decide),hf6]
      rw[Ah (hc.take _) (by rw[h6]; decide),h6];congr 1;rw[aoy,aoT]; omega
     have hck:=(Nw.1 hV).1 _ (anJ hi);rw[key _ (by
      show({s.ns[i]with depth:=_}:aF).chk=6;rw[YZ hr hd,aF.KL hck,anq (by omega)])]
     rw[key _ (by
      unfold aF.abW;rw[anv (by omega),aF.KL hck,anq (by omega)])]
     rfl
   simp only[anq hk]<;>rfl
end
section
def bU.insert(i:Int)(n:aF):bU:=⟨1,0,i,0,n,.none⟩
def bU.ah6(c:dO):bU:=⟨5,0,0,0,.zero,c⟩
def uM(a b:List aF):Bool:=a.map (fun n=>(n.id,n.depth))==b.map (fun n=>(n.id,n.depth))
def jA(a b:List aF):List bU:=(a.zip b).filterMap fun p=>if p.1=p.2 then none else some (bU.replace p.2)
def qF:Nat→List aF→List (List aF)
 | m+1,x::t=>(x::t.takeWhile fun κ=>decide (x.depth<κ.depth))::qF m (t.dropWhile fun κ=>decide (x.depth<κ.depth))
 | _,_=>[]
def bZ(l:List aF):List (List aF):=qF l.length l
def pK:List (List aF)→List (List aF)→Nat
 | x::a,y::b=>if x=y then pK a b+1 else 0
 | _,_=>0
def qK(x y:List (List aF)):Nat:=pK (x.drop (pK x y)).reverse (y.drop (pK x y)).reverse
def Jw(x:List (List aF))(p q:Nat):List (List aF):=(x.drop p).take (x.length-p-q)
def vH:List aF→Int
 | []=>0
 | x::_=>x.id
def ig:Nat→List aF→List bU
 | _,[]=>[]
 | k,n::l=>bU.insert k n::ig (k+1) l
def oZ(a b:List aF):List bU:=
 (Jw (bZ a) (pK (bZ a) (bZ b)) (qK (bZ a) (bZ b))).map (fun t=>bU.remove (vH t)) ++
  ig ((bZ b).take (pK (bZ a) (bZ b))).flatten.length (Jw (bZ b) (pK (bZ a) (bZ b)) (qK (bZ a) (bZ b))).flatten
def bgK(a b:aQ):List bU:=if a.bg=b.bg then []else [.ah6 b.bg]
def ah7(a b:aQ):List bU:=bgK a b++(if uM a.ns b.ns=true then jA a.ns b.ns else oZ a.ns b.ns)
noncomputable def zV(a b:aQ):List bU×Int:=
 if a.valid=false∨b.valid=false then ([],18)else if a.w≠b.w∨a.h≠b.h then ([],2)else (ah7 a b,0)
def Xd(t:List aF):Prop:=∃x r,t=x::r∧x.depth=0∧∀y∈r,0<y.depth
theorem Ez:∀{m:Nat} {l:List aF},l.length≤m→(qF m l).flatten=l
 | 0,l,h=>by have:=aoB (by omega:l.length=0); subst this; rfl
 | m+1,[],_=>rfl
 | m+1,x::t,h=>by
  unfold qF
  rw[ap3,Ez,aoD,List.takeWhile_append_dropWhile]
  have:=(ap4 (l:=t) fun κ:aF=>decide (x.depth<κ.depth)).length_le
  rw[an1]at h
  omega
theorem uj(l:List aF):(bZ l).flatten=l:=Ez (anw _)
theorem Ip:∀{m:Nat} {l:List aF},(∀y∈l,0≤y.depth)→(∀y∈l.head?,y.depth=0)→∀t∈qF m l,Xd t
 | 0,l,_,_,t,ht=>by unfold qF at ht; cases ht
 | m+1,[],_,_,t,ht=>by unfold qF at ht; cases ht
 | m+1,x::l,h,h0,t,ht=>by
  have hx:x.depth=0:=h0 x rfl
  unfold qF at ht
  rcases anS.1 ht with rfl | ht
  ·refine⟨x,_,rfl,hx,fun y hy=>?_⟩
   have:=anV.1 List.all_takeWhile y hy
   rw[hx]at this
   simpa using this
  ·refine Ip (fun y hy=>h y (aot _ ((ap4 _).subset hy))) (fun y hy=>?_) t ht
   have h1:=List.head?_dropWhile_not (fun κ:aF=>decide (x.depth<κ.depth)) l
   rw[Option.mem_def]at hy
   rw[hy]at h1
   simp only at h1
   have h2:=h y (aot _ ((ap4 _).subset (List.mem_of_mem_head? hy)))
   have h3:¬x.depth<y.depth:=by simpa using h1
   omega
theorem VL.head{l:List aF}(h:VL l):∀y∈l.head?,y.depth=0:=by
 intro y hy;cases l with
 | nil=>cases hy
 | cons x t =>
  cases hy;have h1:=(yM.1 h).2.2.1;have h2:=h.depth _ anK;omega
theorem VL.roots{l:List aF}(h:VL l):∀t∈bZ l,Xd t:=Ip (fun y hy=>(h.depth y hy).1) h.head
def Runs(s:aQ)(es:List bU)(t:aQ):Prop:=∀k,fP s es k=(t,((k+es.length:Nat):Int),0)
theorem Runs.nil(s:aQ):Runs s [] s:=fun k=>rfl
theorem Runs.cons{s t u:aQ}{e:bU}{es:List bU}(h:kD s e=(t,0))(h2:Runs t es u):Runs s (e::es) u:=fun k=>by
 unfold fP;rw[h,anv rfl,h2 (k+1),an1];congr 2;congr 1;omega
theorem Runs.append:∀{es es2:List bU} {s t u:aQ},Runs s es t→Runs t es2 u→Runs s (es++es2) u
 | [],es2,s,t,u,h1,h2=>by
  have:=h1 0
  unfold fP at this
  cases this
  exact h2
 | e::es,es2,s,t,u,h1,h2=>by
  have h0:=h1 0
  unfold fP at h0
  split at h0
  ·rename_i he
   have h3:Runs (kD s e).1 es t:=fun k=>by
    have h4:=h1 k
    unfold fP at h4
    cases k with
    | zero =>
     rw[anv he]at h4
     have h5:∀(es:List bU) (s t:aQ) (k m:Nat),fP s es k=(t,((k+es.length:Nat):Int),0)→fP s es m=(t,((m+es.length:Nat):Int),0):=by
      intro es
      induction es with
      | nil=>intro s t k m h; unfold fP at h ⊢; cases h; rfl
      | cons e es ih =>
       intro s t k m h
       unfold fP at h ⊢
       split at h
       ·rename_i he; rw[anv he]
        have:=ih _ t (k+1) (m+1) (by rw[h,an1]; congr 2; congr 1; omega)
        rw[this,an1]; congr 2; congr 1; omega
       ·rename_i he; simp only[anD]at h; exact absurd h.2.2 he
     exact h5 es _ t 1 0 (by rw[show(0+1:Nat)=1 from rfl]at h4; rw[h4,an1]; congr 2; congr 1; omega)
    | succ k =>
     have h4:=h1 k
     unfold fP at h4
     rw[anv he]at h4
     rw[h4,an1]; congr 2; congr 1; omega
   rw[aoD]
   exact Runs.cons (t:=(kD s e).1) (by rw[←he]) (Runs.append h3 h2)
  ·rename_i he
   simp only[anD]at h0
   exact absurd h0.2.2 he
def aQ.put(s:aQ)(l:List aF):aQ:=⟨s.w,s.h,s.bg,l⟩
end
section
theorem Nz:∀{x y:List (List aF)},pK x y≤x.length∧pK x y≤y.length∧x.take (pK x y)=y.take (pK x y)
 | [],y=>by simp[pK]
 | x::a,[]=>by simp[pK]
 | x::a,y::b=>by
  unfold pK
  split
  ·rename_i h
   obtain⟨h1,h2,h3⟩:=Nz (x:=a) (y:=b)
   rw[an1,an1,apE,apE,h3,h]
   exact⟨by omega,by omega,rfl⟩
  ·simp
theorem adD{x y:List (List aF)}:qK x y+pK x y≤x.length∧qK x y+pK x y≤y.length∧x.drop (x.length-qK x y)=y.drop (y.length-qK x y):=by
 obtain⟨h1,h2,_⟩:=Nz (x:=x) (y:=y);obtain⟨g1,g2,g3⟩:=Nz (x:=(x.drop (pK x y)).reverse) (y:=(y.drop (pK x y)).reverse);have e:pK (x.drop (pK x y)).reverse (y.drop (pK x y)).reverse=qK x y:=rfl;rw[e]at g1 g2 g3;rw[List.length_reverse,apn]at g1 g2;refine⟨by omega,by omega,?_⟩;rw[List.take_reverse,List.take_reverse,List.reverse_inj,ao9,ao9,apn,apn]at g3;rw[show pK x y+(x.length-pK x y-qK x y)=x.length-qK x y by omega,show pK x y+(y.length-pK x y-qK x y)=y.length-qK x y by omega]at g3;exact g3
theorem EC:∀{x:List (List aF)},(∀t∈x,Xd t)→x.length≤x.flatten.length
 | [],_=>by simp
 | t::x,h=>by
  have ih:=EC (x:=x) fun t ht=>h t (aot _ ht)
  obtain⟨z,r,rfl,_⟩:=h t anK
  rw[ap3,anX,an1,an1]; omega
theorem ED:∀{m k:Nat} {l:List aF},l.length≤m→l.length≤k→qF m l=qF k l
 | 0,k,l,h,_=>by have:=aoB (by omega:l.length=0); subst this; cases k<;>rfl
 | m+1,0,l,_,h=>by have:=aoB (by omega:l.length=0); subst this; rfl
 | m+1,k+1,[],_,_=>rfl
 | m+1,k+1,x::t,h1,h2=>by
  unfold qF
  have:=(ap4 (l:=t) fun κ:aF=>decide (x.depth<κ.depth)).length_le
  rw[an1]at h1 h2
  rw[ED (m:=m) (k:=k) (by omega) (by omega)]
theorem S9(x:aF)(t:List aF):bZ (x::t)=(x::t.takeWhile fun κ=>decide (x.depth<κ.depth))::bZ (t.dropWhile fun κ=>decide (x.depth<κ.depth)):=by
 show qF (t.length+1) (x::t)=_;have:=(ap4 (l:=t) fun κ:aF=>decide (x.depth<κ.depth)).length_le;unfold qF;rw[ED this (anw _)];rfl
end
section
open Go.RowKit
variable{α:Type}{K:Nat}
structure aT where
 w:Int
 h:Int
 bg:dO
 nsa:Option Addr
 nsc:Nat
 ns:List aj
def aT.s(s:aT):Value := .slice s.nsa s.ns.length s.nsc
def aT.cells(s:aT):List Value:=[.i s.w,.i s.h]++s.bg.cells++[s.s]
def aT.v(s:aT):Value := .agg s.cells.toArray
def aT.key(s:aT):aQ:=⟨s.w,s.h,s.bg,s.ns.map aj.key⟩
abbrev dK (K:Nat)(w:World)(v:Value)(l:List aj):Prop:=aN 47 aj.cells w v l∧∀n∈l,fV K w n
def dU(K:Nat)(w:World)(s:aT):Prop:=I64 s.w∧I64 s.h∧dK K w s.s s.ns
structure aC where
 kind:Int
 id:Int
 index:Int
 depth:Int
 node:aj
 color:dO
def aC.cells(e:aC):List Value:=[.i e.kind,.i e.id,.i e.index,.i e.depth]++e.node.cells++e.color.cells
def aC.v(e:aC):Value := .agg e.cells.toArray
def aC.key(e:aC):bU:=⟨e.kind,e.id,e.index,e.depth,e.node.key,e.color⟩
def yN(K:Nat)(w:World)(e:aC):Prop:=I64 e.kind∧I64 e.id∧I64 e.index∧I64 e.depth∧fV K w e.node
theorem dK.below{w w':World}{v:Value}{l:List aj}(h:dK K w v l)(hb:Ext w w'):dK K w' v l:=⟨h.1.below hb,fun n hn=>(h.2 n hn).below hb⟩
theorem dU.below{w w':World}{s:aT}(h:dU K w s)(hb:Ext w w'):dU K w' s:=⟨h.1,h.2.1,h.2.2.below hb⟩
theorem yN.below{w w':World}{e:aC}(h:yN K w e)(hb:Ext w w'):yN K w' e:=⟨h.1,h.2.1,h.2.2.1,h.2.2.2.1,h.2.2.2.2.below hb⟩
def aT.zero:aT:=⟨0,0,.none,none,0,[]⟩
theorem Iq(w:World):dU K w .zero:=⟨by decide,by decide,⟨mV _ _ _,fun n hn=>by cases hn⟩⟩
theorem Ir(pre:List aF)(x:aF):pR (pre++[x])=if x.kind=1 then x.depth+1 else x.depth:=by
 unfold pR;rw[List.getLast?_concat]
def uX(pre:List aF)(x:aF):Bool:=match pre.getLast? with
 | none=>x.depth==0
 | some p=>(p.kind==1&&x.depth==p.depth+1)||decide (x.depth≤p.depth)
theorem Iu{pre:List aF}{x:aF}(h:x.chk=0):uX pre x=decide (x.depth≤pR pre):=by
 have hd:=(aF.DW h).2.2.2.2.1;unfold uX pR;cases pre.getLast? with
 | none=>rw[aop]; simp only[anO,anT]; omega
 | some p =>
  rw[aop];simp only[ao5,anM,anO,anT];split<;>omega
end
section
open Go.RowKit Go.ChangeShapes Go.WideShapes
variable{α:Type}
section
variable{H:Type}{enc:TypeId×Value→H}{W:World}{sp:Nat→Bool}{held:Bool}{n:Nat}{cs:List Value}{y:DataW H×List MemPlace}
set_option maxRecDepth 100000
def aT.ok(W:World)(s:aT):Prop:=I64 s.w∧I64 s.h∧aN 47 aj.cells W s.s s.ns∧∀n∈s.ns,n.ok W
def aC.ok(W:World)(e:aC):Prop:=I64 e.kind∧I64 e.id∧I64 e.index∧I64 e.depth∧e.node.ok W
theorem Y0(h:DataW.trod enc prog W 0 sp held n 26 cs=some y):∃m:aT,cs=m.cells∧m.ok W:=by
 obtain⟨xs,n',rfl,hx,hl,hlen,hg⟩:=aoZ underlying26 h;have hl:cs.length=7:=hl.trans (by kernel_rfl);obtain⟨x0,c0,w0⟩:=gG underlying3 (mP (cs:=cs) (off:=0) (k:=1) (hg 0 _ rfl) hlen (by decide) (by kernel_rfl)).choose_spec;obtain⟨x1,c1,w1⟩:=gG underlying3 (mP (cs:=cs) (off:=1) (k:=1) (hg 1 _ rfl) hlen (by decide) (by kernel_rfl)).choose_spec;obtain⟨m2,c2⟩:=DK (mP (cs:=cs) (off:=2) (k:=4) (hg 2 _ rfl) hlen (by decide) (by kernel_rfl)).choose_spec;obtain⟨a3,k3,l3,c3,r3,w3⟩:=rZ (k:=47) underlying24 (by decide) (by kernel_rfl) aj.cells (fun n=>n.ok W) (fun n cs y h=>abg h) (mP (cs:=cs) (off:=6) (k:=1) (hg 3 _ rfl) hlen (by decide) (by kernel_rfl)).choose_spec;have hc:=(show cs=(cs.drop 0).take 7 by rw[aoG,anW (by omega)]).trans ((aX cs 0 1 1 6 7 rfl rfl).trans (anu _ ((aX cs 1 1 2 5 6 rfl rfl).trans (anu _ (aX cs 2 4 6 1 5 rfl rfl)))));rw[c0,c1,c2,c3]at hc;exact⟨⟨x0,x1,m2,a3,k3,l3⟩,hc.trans (by kernel_rfl),w0,w1,r3,w3⟩
theorem G6{base:Nat}{v:Value}{d:DataW H}{p:List MemPlace}(hv:Value.okWide prog W .any base 26 v)(h:DataW.Trod enc prog W 0 sp held 26 v d p):∃m:aT,v=m.v∧m.ok W:=by
 obtain⟨cs,rfl,hsz⟩:=okWide_struct underlying26 hv;obtain⟨fuel,hf⟩:=h;obtain⟨l⟩:=cs;obtain⟨m,hm,ho⟩:=Y0 (cs:=l) (y:=(d,p)) hf;exact⟨m,by rw[hm]; rfl,ho⟩
structure NC where
 a:Option Addr
 c:Nat
 l:List aC
def NC.v(m:NC):Value := .slice m.a m.l.length m.c
def NC.ok(W:World)(m:NC):Prop:=aN 55 aC.cells W m.v m.l∧∀e∈m.l,e.ok W
end
end
end Go.Proofs.YtfmkkemfhjkajaaGreatDoor
