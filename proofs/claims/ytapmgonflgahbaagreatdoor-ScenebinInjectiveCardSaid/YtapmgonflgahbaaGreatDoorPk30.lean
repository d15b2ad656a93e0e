/- The key of a node: its content with numbers in lowest -/
import Derived.Test.YtapmgonflgahbaaGreatDoorE36b
import Derived.Maps.Own
import Derived.Maps.Views
set_option linter.unusedVariables false
namespace Go.Proofs.YtapmgonflgahbaaGreatDoor
section
variable{K:Nat}
instance ag5:DecidableEq Q6:=fun P Q=>decidable_of_iff (P.a=Q.a∧P.b=Q.b∧P.c=Q.c∧P.d=Q.d∧P.e=Q.e∧P.f=Q.f) (by
 obtain⟨a,b,c,d,e,f⟩:=P;obtain⟨a',b',c',d',e',f'⟩:=Q;simp)
structure yh where
 w:Int
 h:Int
 l:List dA
deriving DecidableEq
structure qK where
 kind:Int
 color:dA
 p0:kH
 p1:kH
 bF:Int
 stops:List eY
 spread:Int
 img:yh
 bQ:Int
 q:Q6
deriving DecidableEq
structure mJ where
 width:Int
 join:Int
 cap:Int
 dZ:Int
 dash:List Int
 phase:Int
deriving DecidableEq
structure dV where
 id:Int
 kind:Int
 depth:Int
 q:Q6
 clip:List eG
 aO:Int
 dJ:UInt8
 blend:Int
 isolated:Bool
 bY:Bool
 path:List eG
 aV:Int
 fill:List qK
 style:mJ
 stroke:List qK
 img:yh
 bQ:Int
deriving DecidableEq
def cZ.key(m:cZ):yh:=⟨m.w,m.h,m.l⟩
def au.key(p:au):qK:=⟨p.kind,p.color,p.p0,p.p1,p.bF,p.stops,p.spread,p.img.key,p.bQ,p.t.q⟩
def aZ.key(p:aZ):mJ:=⟨p.width,p.join,p.cap,p.dZ,p.dash,p.phase⟩
def aA.key(n:aA):dV:=⟨n.id,n.kind,n.depth,n.t.q,n.clip,n.aO,n.dJ,n.blend,n.isolated,n.bY,n.path,n.aV,n.fill.map au.key,n.style.key,n.stroke.map au.key,n.img.key,n.bQ⟩
theorem yj{a b:UInt8}:(a.toNat:Int)=(b.toNat:Int)↔a=b:=⟨AV,fun h=>by rw[h]⟩
theorem OC{a b:dA}:(a.r=b.r∧a.g=b.g∧a.b=b.b∧a.a=b.a)↔a=b:=by cases a; cases b; simp
theorem abN{a b:kH}:(a.x=b.x∧a.y=b.y)↔a=b:=by cases a; cases b; simp
theorem Gm(m n:cZ):m.eq n=decide (m.key=n.key):=by
 rw[ai4]; simp[cZ.eq,cZ.key]
theorem OD(p q:aZ):p.eq q=decide (p.key=q.key):=by
 rw[ai4]; simp only[aZ.eq,aZ.key,mJ.mk.injEq,aiq,aiv,aiz,and_assoc];constructor
 ·rintro⟨h1,h2,h3,h4,h5,h6⟩; exact⟨h1,h2,h3,h4,h6,h5⟩
 rintro⟨h1,h2,h3,h4,h5,h6⟩; exact⟨h1,h2,h3,h4,h6,h5⟩
theorem OE(P Q:Q6):P.same Q=decide (P=Q):=by
 obtain⟨a,b,c,d,e,f⟩:=P;obtain⟨a',b',c',d',e',f'⟩:=Q;rw[ai4]; simp[Q6.same]
theorem aan{P Q:Q6}(hp:Aw P)(hq:Aw Q):P.eq Q=decide (P=Q):=by rw[←Q6.same_eq hp hq,OE]
theorem au.abO{p q:au}(hp:Aw p.t.q)(hq:Aw q.t.q):p.eq q=decide (p.key=q.key):=by
 rw[ai4];unfold au.eq;rw[aan hp hq,Gm];simp only[aiq,aiv,aiz,yj,OC,abN,au.key,qK.mk.injEq,and_assoc];constructor
 ·rintro⟨h1,h2,h3,h4,h5,h6,h7,h8,h9,h10⟩; exact⟨h1,h2,h3,h4,h5,h8,h6,h9,h7,h10⟩
 rintro⟨h1,h2,h3,h4,h5,h6,h7,h8,h9,h10⟩; exact⟨h1,h2,h3,h4,h5,h7,h9,h6,h8,h10⟩
def YV(l:List au):Prop:=∀p∈l,Aw p.t.q
theorem kU:∀{l m:List au},YV l→YV m→bI l m=decide (l.map au.key=m.map au.key)
 | [],[],_,_=>by simp[bI]
 | [],y::m,_,_=>by simp[bI]
 | x::l,[],_,_=>by simp[bI]
 | x::l,y::m,hl,hm=>by
  have ih:=kU (l:=l) (m:=m) (fun p hp=>hl p (ajt _ hp)) (fun p hp=>hm p (ajt _ hp))
  have e:=au.abO (hl x aiB) (hm y aiB)
  rw[ai4]at ih e ⊢
  simp only[bI,aiO,Nat.add_right_cancel_iff,List.zip_cons_cons,List.all_cons,aiW,aix,aiq,aiz]at ih e ⊢
  rw[e,←ih]
  constructor
  ·rintro⟨h1,h2,h3⟩; exact⟨h2,h1,h3⟩
  ·rintro⟨h1,h2,h3⟩; exact⟨h2,h1,h3⟩
def aA.nrm(n:aA):Prop:=Aw n.t.q∧YV n.fill∧YV n.stroke
theorem eF.nrm{w:World}{n:aA}(h:eF K w n):n.nrm:=
 ⟨(bn.toQ h.1.2.2.2.1 h.2.1).nrm,fun p hp=>(bn.toQ (h.1.2.2.2.2.2.2.2.2.2.1.2 p hp).2.2.2.2.2.2.2.2.2 (h.2.2.1 p hp)).nrm,fun p hp=>(bn.toQ (h.1.2.2.2.2.2.2.2.2.2.2.2.1.2 p hp).2.2.2.2.2.2.2.2.2 (h.2.2.2.1 p hp)).nrm⟩
theorem Jm{a b:Bool}:cond a false b=(!a&&b):=by cases a<;>rfl
theorem YW{a b:aA}(ha:a.nrm)(hb:b.nrm):a.eqP b=decide (a.key=b.key):=by
 rw[ai4];unfold aA.eqP;rw[aan ha.1 hb.1,kU ha.2.1 hb.2.1,kU ha.2.2 hb.2.2,Gm,OD];simp only[Jm,aiq,ajz,aiX,bne_eq_false_iff_eq,ajn,aiv,aiz,yj,aA.key,dV.mk.injEq,and_assoc];constructor
 ·rintro⟨h1,h2,h3,h4,h5,h6,h7,h8,h9,h10,h11,h12,h13,KC,h15,h16,h17⟩; exact⟨h1,h2,h3,h11,h12,h4,h5,h6,h7,h8,h13,h9,KC,h16,h15,h17,h10⟩
 rintro⟨h1,h2,h3,h11,h12,h4,h5,h6,h7,h8,h13,h9,KC,h16,h15,h17,h10⟩; exact⟨h1,h2,h3,h4,h5,h6,h7,h8,h9,h10,h11,h12,h13,KC,h15,h16,h17⟩
theorem YX{a b:aA}(ha:a.nrm)(hb:b.nrm):a.eqR b=decide (a.key=b.key):=by
 rw[ai4];unfold aA.eqR;rw[OE,kU ha.2.1 hb.2.1,kU ha.2.2 hb.2.2,Gm,OD];simp only[Jm,aiq,ajz,aiX,bne_eq_false_iff_eq,ajn,aiv,aiz,yj,aA.key,dV.mk.injEq,and_assoc];constructor
 ·rintro⟨h1,h2,h3,h11,h4,h9,h10,h5,h6,h7,h8,h12,h13,KC,h15,h16,h17⟩; exact⟨h1,h2,h3,h11,h12,h4,h5,h6,h7,h8,h13,h9,KC,h16,h15,h17,h10⟩
 rintro⟨h1,h2,h3,h11,h12,h4,h5,h6,h7,h8,h13,h9,KC,h16,h15,h17,h10⟩; exact⟨h1,h2,h3,h11,h4,h9,h10,h5,h6,h7,h8,h12,h13,KC,h15,h16,h17⟩
end
section
theorem Rh{p q:au}(h:p.key=q.key):p.valid=q.valid:=by
 obtain⟨k,c,p0,p1,r,sva,svc,st,sp,⟨iw,ih,isa,isc,il⟩,sm,t⟩:=p;obtain⟨k',c',p0',p1',r',afU,afV,st',sp',⟨iw',ih',afW,afX,il'⟩,sm',t'⟩:=q;simp only[au.key,cZ.key,qK.mk.injEq,yh.mk.injEq]at h;obtain⟨rfl,rfl,rfl,rfl,rfl,rfl,rfl,⟨rfl,rfl,rfl⟩,rfl,ht⟩:=h;have hw:∀(b:au),(au.without ⟨k,c,p0,p1,r,sva,svc,st,sp,⟨iw,ih,isa,isc,il⟩,sm,t⟩).eq b=(au.without ⟨k,c,p0,p1,r,afU,afV,st,sp,⟨iw,ih,afW,afX,il⟩,sm,t'⟩).eq b:=by
  intro b;unfold au.without;simp only;cases k==1<;>cases k==2<;>cases k==3<;>cases k==4<;>simp only[cond_true,cond_false,au.Vj,au.only2,au.Vk,au.Vl,au.Vm,au.eq]<;>rfl
 unfold au.valid;simp only[hw,ht];rfl
theorem wz:∀{l m:List au},l.map au.key=m.map au.key→l.all au.valid=m.all au.valid
 | [],[],_=>rfl
 | [],_::_,h=>by cases h
 | _::_,[],h=>by cases h
 | x::l,y::m,h=>by
  simp only[aiW,aix]at h
  rw[List.all_cons,List.all_cons,Rh h.1,wz h.2]
theorem Md{a b:aA}(h:a.key=b.key):a.checkN=b.checkN:=by
 simp only[aA.key,aZ.key,cZ.key,dV.mk.injEq,mJ.mk.injEq,yh.mk.injEq]at h;obtain⟨h1,h2,h3,h4,h5,h6,h7,h8,h9,h10,h11,h12,h13,⟨s1,s2,s3,s4,s5,s6⟩,h15,⟨i1,i2,i3⟩,h17⟩:=h;have l1:a.fill.length=b.fill.length:=by have:=aic List.length h13; simpa using this
 have l2:a.stroke.length=b.stroke.length:=by have:=aic List.length h15; simpa using this
 have hs:∀p:aZ,a.style.eq p=b.style.eq p:=fun p=>by unfold aZ.eq; rw[s1,s2,s3,s4,s5,s6]
 have hi:∀m:cZ,a.img.eq m=b.img.eq m:=fun m=>by unfold cZ.eq; rw[i1,i2,i3]
 have hb:a.bare=b.bare:=by unfold aA.bare; rw[hs,hi,h2,h7,h8,h9,h10,h11,h12,h17,l1,l2]
 have hsv:a.style.valid=b.style.valid:=by unfold aZ.valid; rw[s1,s2,s3,s4,s5,s6]
 have hiv:a.img.valid=b.img.valid:=by unfold cZ.valid cZ.size; rw[i1,i2,i3]
 have hc:a.jo=b.jo:=by unfold aA.jo; rw[hb,h1,h2,h3,h4,h5,h6]
 have hsh:a.pU=b.pU:=by unfold aA.pU; rw[h11,h12,l1,l2,hsv,hs,wz h13,wz h15]
 unfold aA.checkN aA.mF;rw[hc,hsh,h2,h8,hiv,h17]
open Classical in
noncomputable def dV.chk(κ:dV):Int:=if h:∃n:aA,n.key=κ then h.choose.checkN else 1
theorem uj(n:aA):n.key.chk=n.checkN:=by
 have h:∃m:aA,m.key=n.key:=⟨n,rfl⟩;unfold dV.chk;rw[dif_pos h];exact Md h.choose_spec
theorem oq:∀{l:List (Bool×Int)},(∀p∈l,p.2≠0)→lS l=0→∀p∈l,p.1=false
 | [],_,_,p,hp=>by cases hp
 | q::l,h,h0,p,hp=>by
  unfold lS at h0
  split at h0
  ·exact absurd h0 (h q aiB)
  ·rename_i hq
   rcases aip.1 hp with rfl | hp
   ·simpa using hq
   ·exact oq (fun p hp=>h p (ajt _ hp)) h0 p hp
theorem DU(n:aA):∀p∈n.jo,p.2≠0:=by
 intro p hp;simp only[aA.jo,aip,ajG,or_false]at hp;rcases hp with rfl | rfl | rfl | rfl | rfl | rfl
 ·exact(by decide:(2:Int)≠0)
 ·exact(by decide:(6:Int)≠0)
 ·exact(by decide:(5:Int)≠0)
 ·exact(by decide:(9:Int)≠0)
 ·exact(by decide:(10:Int)≠0)
 exact(by decide:(17:Int)≠0)
theorem y7{n:aA}(h:n.checkN=0):badL n.jo=false∧n.mF=0:=by
 unfold aA.checkN at h;cases hb:badL n.jo
 ·rw[hb]at h; exact⟨rfl,h⟩
 rw[hb,cond_true]at h;have:=oq (DU n) h;unfold badL at hb;obtain⟨p,hp,hp2⟩:=ako.1 hb;rw[this p hp]at hp2;cases hp2
theorem wR{n:aA}(h:n.checkN=0):1≤n.kind∧n.kind≤3∧1≤n.id∧n.id≤1073741824∧0≤n.depth∧n.depth<8:=by
 have hb:=(y7 h).1;simp only[badL,aA.jo,List.any_cons,aiX,aji]at hb;obtain⟨⟨h1,h2⟩,⟨⟨⟨h3,h4⟩,h5⟩,h6⟩,_⟩:=hb;omega
end
section
structure iO where
 w:Int
 h:Int
 bg:dA
 ns:List dV
deriving DecidableEq
def y8(pre:List dV):Int:=match pre.getLast? with | none=>0 | some p=>if p.kind=1 then p.depth+1 else p.depth
noncomputable def je(pre:List dV)(x:dV):Int:=
 if x.chk≠0 then x.chk else if pre.any (fun κ=>κ.id==x.id)then 7 else if x.depth≤y8 pre then 0 else 17
noncomputable def jO(pre:List dV):List dV→Int×Int
 | []=>(0,0)
 | x::r=>if je pre x=0 then jO (pre++[x]) r else (je pre x,pre.length)
noncomputable def iO.chk(s:iO):Int×Int:=
 if s.w<1∨256<s.w∨s.h<1∨256<s.h then (6,0)else if 64<s.ns.length then (5,64)else jO [] s.ns
noncomputable def iO.valid(s:iO):Bool:=s.chk.1==0
def BQ(pre:List dV):List dV→Prop
 | []=>True
 | x::r=>je pre x=0∧BQ (pre++[x]) r
abbrev VL (l:List dV):Prop:=BQ [] l
theorem xC:∀{l pre:List dV},(jO pre l).1=0↔BQ pre l
 | [],pre=>by simp[jO,BQ]
 | x::r,pre=>by
  unfold jO BQ
  split
  ·rename_i h; rw[xC]; simp[h]
  ·rename_i h; simp[h]
theorem iO.Eh{s:iO}:s.valid=true↔(1≤s.w∧s.w≤256∧1≤s.h∧s.h≤256)∧s.ns.length≤64∧VL s.ns:=by
 unfold iO.valid iO.chk;rw[aiv];split
 ·rename_i h; constructor
  ·intro h2; cases h2
  rintro⟨h2,_⟩; omega
 split
 ·constructor
  ·intro h2; cases h2
  rintro⟨_,h2,_⟩; omega
 rw[xC];constructor
 ·intro h2; exact⟨by omega,by omega,h2⟩
 rintro⟨_,_,h2⟩; exact h2
theorem Jo{pre:List dV}{x:dV}:je pre x=0↔x.chk=0∧(∀κ∈pre,κ.id≠x.id)∧x.depth≤y8 pre:=by
 unfold je;split
 ·rename_i h; exact⟨fun h2=>absurd h2 h,fun h2=>absurd h2.1 h⟩
 rename_i h;split
 ·rename_i h2;obtain⟨κ,h3,h4⟩:=ako.1 h2;exact⟨fun h5=>absurd h5 (by decide),fun h5=>absurd (by simpa using h4) (h5.2.1 κ h3)⟩
 rename_i h2;have h3:∀κ∈pre,κ.id≠x.id:=fun κ hκ he=>h2 (ako.2 ⟨κ,hκ,by simpa using he⟩);split
 ·rename_i h4; exact⟨fun _=>⟨by simpa using h,h3,h4⟩,fun _=>rfl⟩
 rename_i h4; exact⟨fun h5=>absurd h5 (by decide),fun h5=>absurd h5.2.2 h4⟩
theorem EF:∀{l pre:List dV},BQ pre l↔∀a x b,l=a++x::b→je (pre++a) x=0
 | [],pre=>⟨fun _ a x b h=>by simp at h,fun _=>trivial⟩
 | y::r,pre=>by
  unfold BQ
  rw[EF (l:=r)]
  constructor
  ·rintro⟨h1,h2⟩ a x b h
   cases a with
   | nil =>
    simp only[ajl,aix]at h
    rw[ajS,←h.1]; exact h1
   | cons z a =>
    simp only[aje,aix]at h
    rw[h.1]at h2
    rw[show pre++z::a=(pre++[z])++a by simp]
    exact h2 a x b h.2
  ·intro h
   refine⟨by simpa using h [] y r rfl,fun a x b e=>?_⟩
   rw[show(pre++[y])++a=pre++y::a by simp]
   exact h (y::a) x b (by rw[e]; rfl)
theorem Ug{l:List dV}:VL l↔(∀x∈l,x.chk=0)∧(l.map dV.id).Nodup∧∀a x b,l=a++x::b→x.depth≤y8 a:=by
 unfold VL;rw[EF];simp only[ajl,Jo];constructor
 ·intro h;refine⟨fun x hx=>?_,?_,fun a x b e=>(h a x b e).2.2⟩
  ·obtain⟨a,b,e⟩:=List.append_of_mem hx;exact(h a x b e).1
  rw[List.nodup_iff_pairwise_ne];rw[List.pairwise_map];have key:∀(l pre:List dV),(∀a x b,l=a++x::b→∀κ∈pre++a,κ.id≠x.id)→List.Pairwise (fun a b:dV=>a.id≠b.id) l:=by
   intro l;induction l with
   | nil=>intro _ _; exact List.Pairwise.nil
   | cons y r ih =>
    intro pre h;refine List.Pairwise.cons (fun z hz=>?_) (ih (pre++[y]) fun a x b e κ hκ=>h (y::a) x b (by rw[e]; rfl) κ (by simpa using hκ));obtain⟨a,b,e⟩:=List.append_of_mem hz;exact h (y::a) z b (by rw[e]; rfl) y (by simp)
  exact key l [] fun a x b e κ hκ=>(h a x b e).2.1 κ (by simpa using hκ)
 rintro⟨h1,h2,h3⟩ a x b e;refine⟨h1 x (by rw[e]; simp),fun κ hκ he=>?_,h3 a x b e⟩;rw[e,aiZ,aiW,aju]at h2;exact h2.2.2 κ.id (aiR.2 ⟨κ,hκ,rfl⟩) x.id aiB he
end
section
theorem Me{pre:List dV}{x:dV}(h:x.chk≠0):je pre x=x.chk:=by unfold je; rw[aib h]
end
section
open Go.RowKit
variable{α:Type}{K:Nat}
structure bC where
 w:Int
 h:Int
 bg:dA
 nsa:Option Addr
 nsc:Nat
 ns:List aA
def bC.s(s:bC):Value := .slice s.nsa s.ns.length s.nsc
def bC.cells(s:bC):List Value:=[.i s.w,.i s.h]++s.bg.cells++[s.s]
def bC.v(s:bC):Value := .agg s.cells.toArray
def bC.key(s:bC):iO:=⟨s.w,s.h,s.bg,s.ns.map aA.key⟩
abbrev zU (K:Nat)(w:World)(v:Value)(l:List aA):Prop:=aN 47 aA.cells w v l∧∀n∈l,eF K w n
def gQ(K:Nat)(w:World)(s:bC):Prop:=I64 s.w∧I64 s.h∧zU K w s.s s.ns
structure Jp where
 kind:Int
 id:Int
 index:Int
 depth:Int
 node:aA
 color:dA
def Jp.cells(e:Jp):List Value:=[.i e.kind,.i e.id,.i e.index,.i e.depth]++e.node.cells++e.color.cells
def Jp.v(e:Jp):Value := .agg e.cells.toArray
theorem zU.below{w w':World}{v:Value}{l:List aA}(h:zU K w v l)(hb:Ext w w'):zU K w' v l:=⟨h.1.below hb,fun n hn=>(h.2 n hn).below hb⟩
theorem gQ.below{w w':World}{s:bC}(h:gQ K w s)(hb:Ext w w'):gQ K w' s:=⟨h.1,h.2.1,h.2.2.below hb⟩
def bC.zero:bC:=⟨0,0,.none,none,0,[]⟩
theorem tu(w:World):gQ K w .zero:=⟨by decide,by decide,⟨jC _ _ _,fun n hn=>by cases hn⟩⟩
theorem MB(pre:List dV)(x:dV):y8 (pre++[x])=if x.kind=1 then x.depth+1 else x.depth:=by
 unfold y8;rw[List.getLast?_concat]
end
end Go.Proofs.YtapmgonflgahbaaGreatDoor
section
namespace Go.Sx
open Go.Proofs.YtapmgonflgahbaaGreatDoor Go.RowKit Go.Rel
section
variable{P:Program}{ops ops':Array Oper}{Q:Exit→Act→World→Prop}{a:Act}{w:World}
def ahq(P:Program)(ops:Array Oper)(l:List (Nat×Value))(h:Nat):Option (Nat×Value):=match ops[h]? with
 | some o=>(match o.guard,o.dst,uU o.op || !o.op.operands.all (fun x=>(rd (lift l) [] x).isSome),gJ (ev0 P (execOp (vZ (lift l) []) o))with
  | none,some d,false,some (.val v)=>some (d,v)
  | _,_,_,_=>none)
 | none=>none
end
theorem Jq{P:Program}{w:World}{os:List Oper}{i:Nat}{o:Oper}{ρ:Operand→Value}(ho:os[i]?=some o)(hs:Std ρ)(l:List (Nat×Value))(hl:∀q v,l.lookup q=some v→ρ (.tmp q)=v)(A:List Value)(sh:Option Nat){Post:Value→World→Prop}(hT:∀v w',gV w.heap.size A sh v w'→Ext w w'→Post v w')
  (hx:∀r,((os[i]?).bind fun o=>yC P r [o] l).map (fun q=>(q.1,q.2.2.1,q.2.2.2.isSome))=some (A,shV sh r,true):=by intro r; kernel_rfl):Does P o ρ w Post:=by
 have hx:=hx w.heap.size;rw[ho,aj6]at hx;unfold yC at hx;simp only at hx;split at hx
 ·rename_i A' ty k' hg hav hev;split at hx
  ·rename_i v hv;simp only[aiY,ah8,aie]at hx;obtain⟨rfl,rfl,hd⟩:=hx;simp only[aiX]at hav;have hH:Holds ρ (lift l):=fun q x hq=>by
    rw[iU]at hq;cases h2:l.lookup q with
    | none=>simp[h2]at hq
    | some u =>
     simp only[h2,aiY,ah8]at hq;subst hq;rw[hl q u h2]; rfl
   have hc:execOp ρ o=execOp (vZ (lift l) []) o:=by
    refine execOp_congr o (fun cs b e1=>by rw[e1]at hav; cases hav.1) fun x hx=>?_;have h2:=hav.2;simp only[ajn,aj8]at h2;obtain⟨z,hz⟩:=aja.1 (h2 x hx);rw[fU hs (iR hH o x hx) (p:=[]) rfl hz];simp[vZ,hz]
   have hv':ev0 P k'=some (.value (shV sh w.heap.size)):=by
    unfold gJ at hv;split at hv
    ·rename_i h; obtain h2:=aik hv; rw[h]; simp only[BJ.val.injEq]at h2; rw[h2]
    ·cases hv
    cases hv
   have hrun:(execOp ρ o).run P w = .ok (.value (shV sh w.heap.size)) (w.alloc (.cells A'.toArray ty)):=by rw[hc,lF hev,lQ hv']
   unfold Does;rw[hrun];exact hT _ _ ⟨w.heap.size,rfl,ah9 _,Gn _ _ _⟩ (aI _ _)
  simp at hx
 simp at hx
theorem BR{α:Type}{k:Nat}{f:α→List Value}{w:World}{a:Option Addr}{L:List α}{c:Nat}(h:aN k f w (.slice a L.length c) L){l h' m:Nat}(h1:l≤h')(h2:h'≤L.length)(h3:h'≤m)(h4:m≤c):aN k f w (.slice (OG a l m k) (h'-l) (m-l)) ((L.drop l).take (h'-l)):=by
 have hlen:((L.drop l).take (h'-l)).length=h'-l:=by simp; omega
 obtain⟨a',cap,hv,hm,hh⟩:=h;simp only[aiK,true_and]at hv;obtain⟨rfl,rfl⟩:=hv;refine⟨OG a l m k,m-l,by rw[hlen],aiQ (by omega) hm,?_⟩;rcases hh with ⟨rfl,hz⟩ | ⟨b,o,rfl,hb,hl,hc⟩
 ·refine .inl ⟨by simp,fun e=>?_⟩;have:c=0:=hz (by
   unfold OG at e;split at e
   ·exact e
   cases a with
   | none=>rfl
   | some _=>cases e)
  omega
 by_cases hlm:m=l
 ·refine .inl ⟨by rw[show h'-l=0 by omega]; rfl,fun e=>by
  unfold OG at e; rw[aib hlm]at e; cases e⟩
 refine .inr ⟨b,o+l*k,by unfold OG; rw[ah7 hlm]; simp[Addr.add],hb,by rw[hlen]; omega,fun i hi j hj=>?_⟩;rw[hlen]at hi;have h5:=hc (l+i) (by omega) j hj;have e1:o+l*k+i*k+j=o+(l+i)*k+j:=by rw[ajr]; omega
 rw[e1,h5,List.getElem_take,akt]
theorem Jr{α:Type}{k:Nat}{f:α→List Value}{w:World}{a:Option Addr}{L:List α}{c:Nat}(h:aN k f w (.slice a L.length c) L):L.length≤c:=by
 obtain⟨a',cap,hv,hm,hh⟩:=h;simp only[aiK,true_and]at hv;obtain⟨rfl,rfl⟩:=hv;rcases hh with ⟨rfl,_⟩ | ⟨b,o,_,_,hl,_⟩
 ·exact aij _
 exact hl
theorem bM{w w':World}{B:Nat}{e:TypeId}{k n:Nat}{v:Value}{xs:List Value}(h:w.ownsRow B e k v n xs)(hE:Ext w w'):w'.ownsRow B e k v n xs:=og h fun g hg=>hE.block g (kE h hg).2
def evV(P:Program)(o:Oper)(l:List (Nat×Value)):Option Value:=match uU o.op || !o.op.operands.all (fun x=>(rd (lift l) [] x).isSome),gJ (ev0 P (execOp (vZ (lift l) []) o))with
 | false,some (.val v)=>some v
 | _,_=>none
theorem YZ{P:Program}{w:World}{os:List Oper}{i:Nat}{o:Oper}{ρ:Operand→Value}(ho:os[i]?=some o)(hs:Std ρ)(l:List (Nat×Value))(hl:∀q v,l.lookup q=some v→ρ (.tmp q)=v){Post:Value→World→Prop}(v:Value)(hK:Post v w)
  (hx:(os[i]?).bind (fun o=>evV P o l)=some v:=by kernel_rfl):Does P o ρ w Post:=by
 rw[ho,aj6]at hx;unfold evV at hx;split at hx
 ·rename_i v' hav hev;obtain rfl:=aik hx;simp only[aiX]at hav;have hH:Holds ρ (lift l):=fun q x hq=>by
   rw[iU]at hq;cases h2:l.lookup q with
   | none=>simp[h2]at hq
   | some u =>
    simp only[h2,aiY,ah8]at hq;subst hq;rw[hl q u h2]; rfl
  have hrun:(execOp ρ o).run P w = .ok (.value v') w:=mO hs (iR hH o) (p:=[]) rfl hav.1 (by simpa using hav.2) hev;unfold Does;rw[hrun];exact hK
 cases hx
theorem look1{ρ:Operand→Value}{s:Nat}{u:Value}(h:ρ (.tmp s)=u):∀q v,List.lookup q [(s,u)]=some v→ρ (.tmp q)=v:=fun q v hq=>by
 rw[aiT]at hq;split at hq
 ·rename_i hq2;obtain rfl:q=s:=by simpa using hq2
  rw[←aik hq,h]
 cases hq
end Go.Sx
end
section
namespace Go.Proofs.YtapmgonflgahbaaGreatDoor
open Go.Maps
variable{P:Program}{k e t:TypeId}{b:Nat}{ids:List Int}{w w':World}
def jW(P:Program)(k e:TypeId)(w:World)(b:Nat)(ids:List Int):Prop:=
 ∃D:DataW Unit,w.ownsMap P k (plainElem P e) b ids.length D∧IsMap D∧∀x:Int,I64 x→D.atKey (.int .i64 x) (.lit (.bool false)) = .lit (.bool (ids.any (· == x)))
theorem MC(P:Program)(k e:TypeId)(w:World):jW P k e (w.alloc (.map #[] 0)) w.heap.size []:=
 ⟨.map [],World.ownsMap_made w P k _,isMap_empty,fun x _=>rfl⟩
theorem wf_i64{x:Int}(h:I64 x):(Lit.int .i64 x).wf=true:=by
 obtain⟨h1,h2⟩:=h;have e1:IntKind.i64.min = -9223372036854775808:=by decide
 have e2:IntKind.i64.max=9223372036854775807:=by decide
 simp[Lit.wf,e1,e2];omega
theorem wB{H:Type}(he:P.underlying e=some .bool){v:Value}{z:DataW H×List MemPlace}(h:plainElem P e v=some z):∃c,v = .bool c∧z=(.lit (.bool c),[]):=by
 unfold plainElem at h;rw[he]at h;cases v<;>simp at h;exact⟨_,rfl,h.symm⟩
theorem jW.lt(h:jW P k e w b ids):b<w.heap.size:=by obtain⟨D,h,_⟩:=h; exact h.lt
theorem jW.kept(h:jW P k e w b ids)(hb:∀i,i=b→w'.heap[i]?=w.heap[i]?):jW P k e w' b ids:=by
 obtain⟨D,⟨es,clock,hB,F,hs,hD⟩,h2,h3⟩:=h;exact⟨D,⟨es,clock,(hb b rfl).trans hB,F,hs,hD⟩,h2,h3⟩
theorem jW.lookup(h:jW P k e w b ids)(hk:P.underlying k=some (.int .i64))(he:P.underlying e=some .bool)(ht:P.underlying t=some (.map k e))(hz:(zeroValue e).run P w = .ok (.z) w){x:Int}(hx:I64 x) :
  (Instr.lookup t (.map (some b)) (.i x) false).run P w = .ok (.bool (ids.any (· == x))) w:=by
 obtain⟨D,h1,h2,h3⟩:=h;obtain⟨v,ps,hrun,hv⟩:=h1.lookup (int_keyed hk) ht hz (plainElem_bool he false) (keyOf_int_mk hk (wf_i64 hx));obtain⟨c,rfl,hc⟩:=wB he hv;simp only[aie]at hc;rw[h3 x hx]at hc;obtain⟨hc,-⟩:=hc;cases hc;exact hrun
theorem jW.update(h:jW P k e w b ids)(hk:P.underlying k=some (.int .i64))(he:P.underlying e=some .bool)(ht:P.underlying t=some (.map k e))(hn:ids.length<maxLen){x:Int}(hx:I64 x) :
  ∃w',(Instr.mapUpdate t (.map (some b)) (.i x) (.bool true)).run P w = .ok () w'∧jW P k e w' b (ids++[x])∧w.grownBy w' (some b):=by
 obtain⟨D,h1,h2,h3⟩:=h;obtain⟨w',hrun,ho,hg⟩:=h1.update (int_keyed hk) ht hn (keyOf_int_mk hk (wf_i64 hx)) (plainElem_bool he true);refine⟨w',hrun,⟨D.put (.int .i64 x) (.lit (.bool true)),?_,h2.put _ _,fun y hy=>?_⟩,hg⟩
 ·rw[aif,List.length_singleton]; exact ho
 rw[List.any_append,List.any_cons,List.any_nil,Bool.or_false];by_cases hxy:x=y
 ·subst hxy;rw[atKey_put_same h2 (k := .int .i64 x) (by first | trivial | simp[WideAt.IsKeyLit])];simp
 rw[atKey_put_other (by simpa using fun h=>hxy h.symm),h3 y hy];simp[hxy]
end Go.Proofs.YtapmgonflgahbaaGreatDoor
namespace Go.Sx
open Go.Proofs.YtapmgonflgahbaaGreatDoor Go.RowKit Go.Rel
variable{P:Program}{k e:TypeId}{b:Nat}{ids:List Int}{w w':World}
variable{ops:Array Oper}{Q:Exit→Act→World→Prop}{w0:World}{a:Act}{os:List Oper}{n:Nat}{l:List (Nat×Value)}{bl:List (Nat×List Value)}{vs:List fG}
def Js(os:List Oper):Option Nat:=match os with
 | o::_=>(match o.guard,o.dst,o.op with
  | none,some d,.makeMap _ none=>some d
  | _,_,_=>none)
 | []=>none
def lookOf(os:List Oper)(l:List (Nat×Value)):Option (TypeId×Nat×Int×Nat):=match os with
 | o::_=>(match o.guard,o.dst,o.op with
  | none,some d,.lookup t x i false=>(match rd (lift l) [] x,rd (lift l) [] i with
   | some (.map (some b)),some (.i z)=>some (t,b,z,d)
   | _,_=>none)
  | _,_,_=>none)
 | []=>none
def aao(os:List Oper)(l:List (Nat×Value)):Option (TypeId×Nat×Int):=match os with
 | o::_=>(match o.guard,o.dst,o.op with
  | none,none,.mapUpdate t x i v=>(match rd (lift l) [] x,rd (lift l) [] i,rd (lift l) [] v with
   | some (.map (some b)),some (.i z),some (.bool true)=>some (t,b,z)
   | _,_,_=>none)
  | _,_,_=>none)
 | []=>none
theorem afY(S:St w0 a w n l bl vs)(d:Nat)(next:∀a' w' b,Ext w w'→b=w.heap.size→(∀k e,jW P k e w' b [])→St w0 a' w' n ((d,.map (some b))::l) bl vs→wpList P ops Q (os.drop 1) a' w')
  (hx:Js os=some d:=by kernel_rfl) (hd:zH n (some d)=true:=by rfl):wpList P ops Q os a w:=by
 unfold Js at hx;split at hx
 ·rename_i o os';split at hx
  ·rename_i d' t hg hdst hop;cases hx;have hrun:(execOp a.eval o).run P w = .ok (.value (.map (some w.heap.size))) (w.alloc (.map #[] 0)):=by
    unfold execOp;simp only[hop];rfl
   unfold wpList;rw[aib (by simp[Region.wanted,hg])];left;unfold Oper.wp;rw[hrun];simp only[Oper.upon];have hE:Ext w (w.alloc (.map #[] 0)):=aI _ _;have S1:=S.grow hE;rw[hdst];exact next _ _ w.heap.size hE rfl (fun k e=>MC P k e w) ⟨vY S.s hd _,S1.E,S1.own,S1.apart,S1.mem⟩
  cases hx
 cases hx
theorem adM(S:St w0 a w n l bl vs)(d:Nat){t:TypeId}{z:Int}(h:jW P k e w b ids)(hk:P.underlying k=some (.int .i64))(he:P.underlying e=some .bool)(ht:P.underlying t=some (.map k e))(hz:(zeroValue e).run P w = .ok (.z) w)(hi:I64 z)
  (next:∀a',St w0 a' w n ((d,.bool (ids.any (· == z)))::l) bl vs→wpList P ops Q (os.drop 1) a' w)
  (hx:lookOf os l=some (t,b,z,d):=by kernel_rfl) (hd:zH n (some d)=true:=by rfl):wpList P ops Q os a w:=by
 unfold lookOf at hx;split at hx
 ·rename_i o os';split at hx
  ·rename_i d' t' x i hg hdst hop;split at hx
   ·rename_i b' z' hxx hii;cases hx;have hR:=iR (bU S.s) o;have hxv:=fU (Std.act a) (hR x (by rw[hop]; simp[Op.operands])) (p:=[]) rfl hxx;have hyv:=fU (Std.act a) (hR i (by rw[hop]; simp[Op.operands])) (p:=[]) rfl hii;have hrun:(execOp a.eval o).run P w = .ok (.value (.bool (ids.any (· == z)))) w:=by
     unfold execOp;simp only[hop,hxv,hyv,aiU,h.lookup hk he ht hz hi];rfl
    unfold wpList;rw[aib (by simp[Region.wanted,hg])];left;unfold Oper.wp;rw[hrun];simp only[Oper.upon];rw[hdst];exact next _ (S.act (vY S.s hd _))
   cases hx
  cases hx
 cases hx
theorem St.afZ(S:St w0 a w n l bl vs)(h:jW P k e w b ids)(hb:w0.heap.size≤b)(hg:w.grownBy w' (some b))(h1:bl.all (fun p => !p.2.isEmpty)=true)(h2:vs.all (fun m => !m.2.2.isEmpty)=true):St w0 a w' n l bl vs:=by
 have hm:∀i,w.cell? ⟨b,i,none⟩=none:=by
  obtain⟨D,⟨es,clock,hB,_⟩,_⟩:=h;intro i;simp[World.cell?,hB]
 have hcell:∀c i,c<w.heap.size→c≠b→w'.cell? ⟨c,i,none⟩=w.cell? ⟨c,i,none⟩:=by
  intro c i hc hne;simp only[World.cell?];rw[hg.block c hc (fun e=>hne (aik e))]
 have adN:∀c i,c<w.heap.size→c≠b→w'.frozen? ⟨c,i,none⟩=w.frozen? ⟨c,i,none⟩:=by
  intro c i hc hne;simp only[World.frozen?];rw[hg.block c hc (fun e=>hne (aik e))]
 have hE:Ext w0 w':=S.E.grown hg S.E.size (fun k e=>by cases e; exact hb);refine⟨S.s,hE,fun p hp=>?_,S.apart,fun m hmm=>?_⟩
 ·obtain⟨⟨q1,q2,q3⟩,q4⟩:=S.own p hp;have hne:p.1≠b:=by
   intro e;have h3:=aiA.1 h1 p hp;have h4:=q2 0;rw[e,hm 0]at h4;cases hA:p.2 with
   | nil=>rw[hA]at h3; cases h3
   | cons x A=>rw[hA]at h4; simp at h4
  exact⟨⟨aiG q1 hg.size,fun i=>by rw[hcell _ _ q1 hne]; exact q2 i,fun i=>by rw[adN _ _ q1 hne]; exact q3 i⟩,q4⟩
 obtain⟨⟨q1,q2⟩,q3⟩:=S.mem m hmm;have hne:m.1≠b:=by
  intro e;have h3:=aiA.1 h2 m hmm;cases hA:m.2.2 with
  | nil=>rw[hA]at h3; cases h3
  | cons x A =>
   have h4:=q2 0 x (by rw[hA]; rfl);rw[e,hm]at h4;cases h4
 exact⟨⟨aiG q1 hg.size,fun i v hi=>by rw[hcell _ _ q1 hne]; exact q2 i v hi⟩,q3⟩
theorem af0(S:St w0 a w n l bl vs){t:TypeId}{z:Int}(h:jW P k e w b ids)(hb:w0.heap.size≤b)(hk:P.underlying k=some (.int .i64))(he:P.underlying e=some .bool)(ht:P.underlying t=some (.map k e))(hn:ids.length<maxLen)(hi:I64 z)
  (next:∀w',jW P k e w' b (ids++[z])→w.grownBy w' (some b)→St w0 a w' n l bl vs→wpList P ops Q (os.drop 1) a w')
  (hx:aao os l=some (t,b,z):=by kernel_rfl) (h1:bl.all (fun p => !p.2.isEmpty)=true:=by kernel_rfl) (h2:vs.all (fun m => !m.2.2.isEmpty)=true:=by kernel_rfl):wpList P ops Q os a w:=by
 unfold aao at hx;split at hx
 ·rename_i o os';split at hx
  ·rename_i t' x i v hg hdst hop;split at hx
   ·rename_i b' z' hxx hii hvv;cases hx;have hR:=iR (bU S.s) o;have hxv:=fU (Std.act a) (hR x (by rw[hop]; simp[Op.operands])) (p:=[]) rfl hxx;have hyv:=fU (Std.act a) (hR i (by rw[hop]; simp[Op.operands])) (p:=[]) rfl hii;have hzv:=fU (Std.act a) (hR v (by rw[hop]; simp[Op.operands])) (p:=[]) rfl hvv;obtain⟨w',hrun,h',hg'⟩:=h.update hk he ht hn hi;have hrun:(execOp a.eval o).run P w = .ok .skip w':=by
     unfold execOp;simp only[hop,hxv,hyv,hzv,aiU,hrun];rfl
    unfold wpList;rw[aib (by simp[Region.wanted,hg])];left;unfold Oper.wp;rw[hrun];simp only[Oper.upon];rw[hdst];exact next _ h' hg' (S.afZ h hb hg' h1 h2)
   cases hx
  cases hx
 cases hx
theorem Jt(h:jW P k e w b ids):On (fun i=>i=b) (fun w=>jW P k e w b ids) w:=fun w' hs hb=>h.kept fun i hi=>hb i (by rw[hi]; exact h.lt) hi
end Go.Sx
end
