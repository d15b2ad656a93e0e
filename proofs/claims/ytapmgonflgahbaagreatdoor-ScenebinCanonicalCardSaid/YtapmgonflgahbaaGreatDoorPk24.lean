/- The key of a node: its content with numbers in lowest -/
import Derived.Test.YtapmgonflgahbaaGreatDoorE36b
import Derived.Maps.Own
import Derived.Maps.Views
set_option linter.unusedVariables false
namespace Go.Proofs.YtapmgonflgahbaaGreatDoor
section
variable{K:Nat}
instance atA:DecidableEq Q6:=fun P Q=>decidable_of_iff (P.a=Q.a∧P.b=Q.b∧P.c=Q.c∧P.d=Q.d∧P.e=Q.e∧P.f=Q.f) (by
 obtain⟨a,b,c,d,e,f⟩:=P;obtain⟨a',b',c',d',e',f'⟩:=Q;simp)
structure oM where
 w:Int
 h:Int
 l:List bW
deriving DecidableEq
structure jU where
 kind:Int
 color:bW
 p0:kV
 p1:kV
 bH:Int
 stops:List dM
 spread:Int
 img:oM
 dn:Int
 q:Q6
deriving DecidableEq
structure lq where
 width:Int
 join:Int
 cap:Int
 fM:Int
 dash:List Int
 phase:Int
deriving DecidableEq
structure dF where
 id:Int
 kind:Int
 depth:Int
 q:Q6
 clip:List dO
 aQ:Int
 dW:UInt8
 blend:Int
 isolated:Bool
 dI:Bool
 path:List dO
 aY:Int
 fill:List jU
 style:lq
 stroke:List jU
 img:oM
 dn:Int
deriving DecidableEq
def dL.key(m:dL):oM:=⟨m.w,m.h,m.l⟩
def au.key(p:au):jU:=⟨p.kind,p.color,p.p0,p.p1,p.bH,p.stops,p.spread,p.img.key,p.dn,p.t.q⟩
def aZ.key(p:aZ):lq:=⟨p.width,p.join,p.cap,p.fM,p.dash,p.phase⟩
def aA.key(n:aA):dF:=⟨n.id,n.kind,n.depth,n.t.q,n.clip,n.aQ,n.dW,n.blend,n.isolated,n.dI,n.path,n.aY,n.fill.map au.key,n.style.key,n.stroke.map au.key,n.img.key,n.dn⟩
theorem CJ{a b:UInt8}:(a.toNat:Int)=(b.toNat:Int)↔a=b:=⟨FD,fun h=>by rw[h]⟩
theorem V8{a b:bW}:(a.r=b.r∧a.g=b.g∧a.b=b.b∧a.a=b.a)↔a=b:=by cases a; cases b; simp
theorem aiB{a b:kV}:(a.x=b.x∧a.y=b.y)↔a=b:=by cases a; cases b; simp
theorem LU(m n:dL):m.eq n=decide (m.key=n.key):=by
 rw[axA]; simp[dL.eq,dL.key]
theorem V9(p q:aZ):p.eq q=decide (p.key=q.key):=by
 rw[axA]; simp only[aZ.eq,aZ.key,lq.mk.injEq,awC,awE,awL,and_assoc];constructor
 ·rintro⟨h1,h2,h3,h4,h5,h6⟩; exact⟨h1,h2,h3,h4,h6,h5⟩
 rintro⟨h1,h2,h3,h4,h5,h6⟩; exact⟨h1,h2,h3,h4,h6,h5⟩
theorem Wh(P Q:Q6):P.same Q=decide (P=Q):=by
 obtain⟨a,b,c,d,e,f⟩:=P;obtain⟨a',b',c',d',e',f'⟩:=Q;rw[axA]; simp[Q6.same]
theorem agA{P Q:Q6}(hp:D8 P)(hq:D8 Q):P.eq Q=decide (P=Q):=by rw[←Q6.same_eq hp hq,Wh]
theorem au.aiC{p q:au}(hp:D8 p.t.q)(hq:D8 q.t.q):p.eq q=decide (p.key=q.key):=by
 rw[axA];unfold au.eq;rw[agA hp hq,LU];simp only[awC,awE,awL,CJ,V8,aiB,au.key,jU.mk.injEq,and_assoc];constructor
 ·rintro⟨h1,h2,h3,h4,h5,h6,h7,h8,h9,h10⟩; exact⟨h1,h2,h3,h4,h5,h8,h6,h9,h7,h10⟩
 rintro⟨h1,h2,h3,h4,h5,h6,h7,h8,h9,h10⟩; exact⟨h1,h2,h3,h4,h5,h7,h9,h6,h8,h10⟩
def ae4(l:List au):Prop:=∀p∈l,D8 p.t.q
theorem nY:∀{l m:List au},ae4 l→ae4 m→bZ l m=decide (l.map au.key=m.map au.key)
 | [],[],_,_=>by simp[bZ]
 | [],y::m,_,_=>by simp[bZ]
 | x::l,[],_,_=>by simp[bZ]
 | x::l,y::m,hl,hm=>by
  have ih:=nY (l:=l) (m:=m) (fun p hp=>hl p (axQ _ hp)) (fun p hp=>hm p (axQ _ hp))
  have e:=au.aiC (hl x awK) (hm y awK)
  rw[axA]at ih e ⊢
  simp only[bZ,awV,Nat.add_right_cancel_iff,List.zip_cons_cons,List.all_cons,axb,awO,awC,awL]at ih e ⊢
  rw[e,←ih]
  constructor
  ·rintro⟨h1,h2,h3⟩; exact⟨h2,h1,h3⟩
  ·rintro⟨h1,h2,h3⟩; exact⟨h2,h1,h3⟩
def aA.nrm(n:aA):Prop:=D8 n.t.q∧ae4 n.fill∧ae4 n.stroke
theorem fB.nrm{w:World}{n:aA}(h:fB K w n):n.nrm:=
 ⟨(bD.toQ h.1.2.2.2.1 h.2.1).nrm,fun p hp=>(bD.toQ (h.1.2.2.2.2.2.2.2.2.2.1.2 p hp).2.2.2.2.2.2.2.2.2 (h.2.2.1 p hp)).nrm,fun p hp=>(bD.toQ (h.1.2.2.2.2.2.2.2.2.2.2.2.1.2 p hp).2.2.2.2.2.2.2.2.2 (h.2.2.2.1 p hp)).nrm⟩
theorem PY{a b:Bool}:cond a false b=(!a&&b):=by cases a<;>rfl
theorem ae5{a b:aA}(ha:a.nrm)(hb:b.nrm):a.eqP b=decide (a.key=b.key):=by
 rw[axA];unfold aA.eqP;rw[agA ha.1 hb.1,nY ha.2.1 hb.2.1,nY ha.2.2 hb.2.2,LU,V9];simp only[PY,awC,axM,aw9,bne_eq_false_iff_eq,axE,awE,awL,CJ,aA.key,dF.mk.injEq,and_assoc];constructor
 ·rintro⟨h1,h2,h3,h4,h5,h6,h7,h8,h9,h10,h11,h12,h13,Ja,h15,h16,h17⟩; exact⟨h1,h2,h3,h11,h12,h4,h5,h6,h7,h8,h13,h9,Ja,h16,h15,h17,h10⟩
 rintro⟨h1,h2,h3,h11,h12,h4,h5,h6,h7,h8,h13,h9,Ja,h16,h15,h17,h10⟩; exact⟨h1,h2,h3,h4,h5,h6,h7,h8,h9,h10,h11,h12,h13,Ja,h15,h16,h17⟩
theorem ae6{a b:aA}(ha:a.nrm)(hb:b.nrm):a.eqR b=decide (a.key=b.key):=by
 rw[axA];unfold aA.eqR;rw[Wh,nY ha.2.1 hb.2.1,nY ha.2.2 hb.2.2,LU,V9];simp only[PY,awC,axM,aw9,bne_eq_false_iff_eq,axE,awE,awL,CJ,aA.key,dF.mk.injEq,and_assoc];constructor
 ·rintro⟨h1,h2,h3,h11,h4,h9,h10,h5,h6,h7,h8,h12,h13,Ja,h15,h16,h17⟩; exact⟨h1,h2,h3,h11,h12,h4,h5,h6,h7,h8,h13,h9,Ja,h16,h15,h17,h10⟩
 rintro⟨h1,h2,h3,h11,h12,h4,h5,h6,h7,h8,h13,h9,Ja,h16,h15,h17,h10⟩; exact⟨h1,h2,h3,h11,h4,h9,h10,h5,h6,h7,h8,h12,h13,Ja,h15,h16,h17⟩
end
section
theorem YL{p q:au}(h:p.key=q.key):p.valid=q.valid:=by
 obtain⟨k,c,p0,p1,r,sva,svc,st,sp,⟨iw,ih,isa,isc,il⟩,sm,t⟩:=p;obtain⟨k',c',p0',p1',r',aqh,aqi,st',sp',⟨iw',ih',aqj,aqk,il'⟩,sm',t'⟩:=q;simp only[au.key,dL.key,jU.mk.injEq,oM.mk.injEq]at h;obtain⟨rfl,rfl,rfl,rfl,rfl,rfl,rfl,⟨rfl,rfl,rfl⟩,rfl,ht⟩:=h;have hw:∀(b:au),(au.without ⟨k,c,p0,p1,r,sva,svc,st,sp,⟨iw,ih,isa,isc,il⟩,sm,t⟩).eq b=(au.without ⟨k,c,p0,p1,r,aqh,aqi,st,sp,⟨iw,ih,aqj,aqk,il⟩,sm,t'⟩).eq b:=by
  intro b;unfold au.without;simp only;cases k==1<;>cases k==2<;>cases k==3<;>cases k==4<;>simp only[cond_true,cond_false,au.abE,au.only2,au.abG,au.abH,au.abI,au.eq]<;>rfl
 unfold au.valid;simp only[hw,ht];rfl
theorem zQ:∀{l m:List au},l.map au.key=m.map au.key→l.all au.valid=m.all au.valid
 | [],[],_=>rfl
 | [],_::_,h=>by cases h
 | _::_,[],h=>by cases h
 | x::l,y::m,h=>by
  simp only[axb,awO]at h
  rw[List.all_cons,List.all_cons,YL h.1,zQ h.2]
theorem Ur{a b:aA}(h:a.key=b.key):a.checkN=b.checkN:=by
 simp only[aA.key,aZ.key,dL.key,dF.mk.injEq,lq.mk.injEq,oM.mk.injEq]at h;obtain⟨h1,h2,h3,h4,h5,h6,h7,h8,h9,h10,h11,h12,h13,⟨s1,s2,s3,s4,s5,s6⟩,h15,⟨i1,i2,i3⟩,h17⟩:=h;have l1:a.fill.length=b.fill.length:=by have:=awp List.length h13; simpa using this
 have l2:a.stroke.length=b.stroke.length:=by have:=awp List.length h15; simpa using this
 have hs:∀p:aZ,a.style.eq p=b.style.eq p:=fun p=>by unfold aZ.eq; rw[s1,s2,s3,s4,s5,s6]
 have hi:∀m:dL,a.img.eq m=b.img.eq m:=fun m=>by unfold dL.eq; rw[i1,i2,i3]
 have hb:a.bare=b.bare:=by unfold aA.bare; rw[hs,hi,h2,h7,h8,h9,h10,h11,h12,h17,l1,l2]
 have hsv:a.style.valid=b.style.valid:=by unfold aZ.valid; rw[s1,s2,s3,s4,s5,s6]
 have hiv:a.img.valid=b.img.valid:=by unfold dL.valid dL.size; rw[i1,i2,i3]
 have hc:a.kR=b.kR:=by unfold aA.kR; rw[hb,h1,h2,h3,h4,h5,h6]
 have hsh:a.tN=b.tN:=by unfold aA.tN; rw[h11,h12,l1,l2,hsv,hs,zQ h13,zQ h15]
 unfold aA.checkN aA.qm;rw[hc,hsh,h2,h8,hiv,h17]
open Classical in
noncomputable def dF.chk(κ:dF):Int:=if h:∃n:aA,n.key=κ then h.choose.checkN else 1
theorem mG(n:aA):n.key.chk=n.checkN:=by
 have h:∃m:aA,m.key=n.key:=⟨n,rfl⟩;unfold dF.chk;rw[dif_pos h];exact Ur h.choose_spec
theorem qZ:∀{l:List (Bool×Int)},(∀p∈l,p.2≠0)→pW l=0→∀p∈l,p.1=false
 | [],_,_,p,hp=>by cases hp
 | q::l,h,h0,p,hp=>by
  unfold pW at h0
  split at h0
  ·exact absurd h0 (h q awK)
  ·rename_i hq
   rcases aww.1 hp with rfl | hp
   ·simpa using hq
   ·exact qZ (fun p hp=>h p (axQ _ hp)) h0 p hp
theorem Jb(n:aA):∀p∈n.kR,p.2≠0:=by
 intro p hp;simp only[aA.kR,aww,ax8,or_false]at hp;rcases hp with rfl | rfl | rfl | rfl | rfl | rfl
 ·exact(by decide:(2:Int)≠0)
 ·exact(by decide:(6:Int)≠0)
 ·exact(by decide:(5:Int)≠0)
 ·exact(by decide:(9:Int)≠0)
 ·exact(by decide:(10:Int)≠0)
 exact(by decide:(17:Int)≠0)
theorem Dv{n:aA}(h:n.checkN=0):badL n.kR=false∧n.qm=0:=by
 unfold aA.checkN at h;cases hb:badL n.kR
 ·rw[hb]at h; exact⟨rfl,h⟩
 rw[hb,cond_true]at h;have:=qZ (Jb n) h;unfold badL at hb;obtain⟨p,hp,hp2⟩:=ayF.1 hb;rw[this p hp]at hp2;cases hp2
theorem Bg{n:aA}(h:n.checkN=0):1≤n.kind∧n.kind≤3∧1≤n.id∧n.id≤1073741824∧0≤n.depth∧n.depth<8:=by
 have hb:=(Dv h).1;simp only[badL,aA.kR,List.any_cons,aw9,axw]at hb;obtain⟨⟨h1,h2⟩,⟨⟨⟨h3,h4⟩,h5⟩,h6⟩,_⟩:=hb;omega
end
section
structure ji where
 w:Int
 h:Int
 bg:bW
 ns:List dF
deriving DecidableEq
structure uf where
 kind:Int
 id:Int
 index:Int
 depth:Int
 node:dF
 color:bW
deriving DecidableEq
def Dw(pre:List dF):Int:=match pre.getLast? with | none=>0 | some p=>if p.kind=1 then p.depth+1 else p.depth
noncomputable def kF(pre:List dF)(x:dF):Int:=
 if x.chk≠0 then x.chk else if pre.any (fun κ=>κ.id==x.id)then 7 else if x.depth≤Dw pre then 0 else 17
noncomputable def lN(pre:List dF):List dF→Int×Int
 | []=>(0,0)
 | x::r=>if kF pre x=0 then lN (pre++[x]) r else (kF pre x,pre.length)
noncomputable def ji.chk(s:ji):Int×Int:=
 if s.w<1∨256<s.w∨s.h<1∨256<s.h then (6,0)else if 64<s.ns.length then (5,64)else lN [] s.ns
noncomputable def ji.valid(s:ji):Bool:=s.chk.1==0
def GZ(pre:List dF):List dF→Prop
 | []=>True
 | x::r=>kF pre x=0∧GZ (pre++[x]) r
abbrev VL (l:List dF):Prop:=GZ [] l
theorem Bh:∀{l pre:List dF},(lN pre l).1=0↔GZ pre l
 | [],pre=>by simp[lN,GZ]
 | x::r,pre=>by
  unfold lN GZ
  split
  ·rename_i h; rw[Bh]; simp[h]
  ·rename_i h; simp[h]
theorem ji.JL{s:ji}:s.valid=true↔(1≤s.w∧s.w≤256∧1≤s.h∧s.h≤256)∧s.ns.length≤64∧VL s.ns:=by
 unfold ji.valid ji.chk;rw[awE];split
 ·rename_i h; constructor
  ·intro h2; cases h2
  rintro⟨h2,_⟩; omega
 split
 ·constructor
  ·intro h2; cases h2
  rintro⟨_,h2,_⟩; omega
 rw[Bh];constructor
 ·intro h2; exact⟨by omega,by omega,h2⟩
 rintro⟨_,_,h2⟩; exact h2
theorem PZ{pre:List dF}{x:dF}:kF pre x=0↔x.chk=0∧(∀κ∈pre,κ.id≠x.id)∧x.depth≤Dw pre:=by
 unfold kF;split
 ·rename_i h; exact⟨fun h2=>absurd h2 h,fun h2=>absurd h2.1 h⟩
 rename_i h;split
 ·rename_i h2;obtain⟨κ,h3,h4⟩:=ayF.1 h2;exact⟨fun h5=>absurd h5 (by decide),fun h5=>absurd (by simpa using h4) (h5.2.1 κ h3)⟩
 rename_i h2;have h3:∀κ∈pre,κ.id≠x.id:=fun κ hκ he=>h2 (ayF.2 ⟨κ,hκ,by simpa using he⟩);split
 ·rename_i h4; exact⟨fun _=>⟨by simpa using h,h3,h4⟩,fun _=>rfl⟩
 rename_i h4; exact⟨fun h5=>absurd h5 (by decide),fun h5=>absurd h5.2.2 h4⟩
theorem JM:∀{l pre:List dF},GZ pre l↔∀a x b,l=a++x::b→kF (pre++a) x=0
 | [],pre=>⟨fun _ a x b h=>by simp at h,fun _=>trivial⟩
 | y::r,pre=>by
  unfold GZ
  rw[JM (l:=r)]
  constructor
  ·rintro⟨h1,h2⟩ a x b h
   cases a with
   | nil =>
    simp only[axy,awO]at h
    rw[axt,←h.1]; exact h1
   | cons z a =>
    simp only[axB,awO]at h
    rw[h.1]at h2
    rw[show pre++z::a=(pre++[z])++a by simp]
    exact h2 a x b h.2
  ·intro h
   refine⟨by simpa using h [] y r rfl,fun a x b e=>?_⟩
   rw[show(pre++[y])++a=pre++y::a by simp]
   exact h (y::a) x b (by rw[e]; rfl)
theorem aci{l:List dF}:VL l↔(∀x∈l,x.chk=0)∧(l.map dF.id).Nodup∧∀a x b,l=a++x::b→x.depth≤Dw a:=by
 unfold VL;rw[JM];simp only[axy,PZ];constructor
 ·intro h;refine⟨fun x hx=>?_,?_,fun a x b e=>(h a x b e).2.2⟩
  ·obtain⟨a,b,e⟩:=List.append_of_mem hx;exact(h a x b e).1
  rw[List.nodup_iff_pairwise_ne];rw[List.pairwise_map];have key:∀(l pre:List dF),(∀a x b,l=a++x::b→∀κ∈pre++a,κ.id≠x.id)→List.Pairwise (fun a b:dF=>a.id≠b.id) l:=by
   intro l;induction l with
   | nil=>intro _ _; exact List.Pairwise.nil
   | cons y r ih =>
    intro pre h;refine List.Pairwise.cons (fun z hz=>?_) (ih (pre++[y]) fun a x b e κ hκ=>h (y::a) x b (by rw[e]; rfl) κ (by simpa using hκ));obtain⟨a,b,e⟩:=List.append_of_mem hz;exact h (y::a) z b (by rw[e]; rfl) y (by simp)
  exact key l [] fun a x b e κ hκ=>(h a x b e).2.1 κ (by simpa using hκ)
 rintro⟨h1,h2,h3⟩ a x b e;refine⟨h1 x (by rw[e]; simp),fun κ hκ he=>?_,h3 a x b e⟩;rw[e,aw6,axb,axN]at h2;exact h2.2.2 κ.id (aw2.2 ⟨κ,hκ,rfl⟩) x.id awK he
end
section
theorem Ut{pre:List dF}{x:dF}(h:x.chk≠0):kF pre x=x.chk:=by unfold kF; rw[awl h]
end
section
open Go.RowKit
variable{α:Type}{K:Nat}
structure bF where
 w:Int
 h:Int
 bg:bW
 nsa:Option Addr
 nsc:Nat
 ns:List aA
def bF.s(s:bF):Value := .slice s.nsa s.ns.length s.nsc
def bF.cells(s:bF):List Value:=[.i s.w,.i s.h]++s.bg.cells++[s.s]
def bF.v(s:bF):Value := .agg s.cells.toArray
def bF.key(s:bF):ji:=⟨s.w,s.h,s.bg,s.ns.map aA.key⟩
abbrev ED (K:Nat)(w:World)(v:Value)(l:List aA):Prop:=aO 47 aA.cells w v l∧∀n∈l,fB K w n
def eX(K:Nat)(w:World)(s:bF):Prop:=I64 s.w∧I64 s.h∧ED K w s.s s.ns
structure fD where
 kind:Int
 id:Int
 index:Int
 depth:Int
 node:aA
 color:bW
def fD.cells(e:fD):List Value:=[.i e.kind,.i e.id,.i e.index,.i e.depth]++e.node.cells++e.color.cells
def fD.v(e:fD):Value := .agg e.cells.toArray
def fD.key(e:fD):uf:=⟨e.kind,e.id,e.index,e.depth,e.node.key,e.color⟩
def iF(K:Nat)(w:World)(e:fD):Prop:=I64 e.kind∧I64 e.id∧I64 e.index∧I64 e.depth∧fB K w e.node
theorem ED.below{w w':World}{v:Value}{l:List aA}(h:ED K w v l)(hb:Ext w w'):ED K w' v l:=⟨h.1.below hb,fun n hn=>(h.2 n hn).below hb⟩
theorem eX.below{w w':World}{s:bF}(h:eX K w s)(hb:Ext w w'):eX K w' s:=⟨h.1,h.2.1,h.2.2.below hb⟩
theorem iF.below{w w':World}{e:fD}(h:iF K w e)(hb:Ext w w'):iF K w' e:=⟨h.1,h.2.1,h.2.2.1,h.2.2.2.1,h.2.2.2.2.below hb⟩
def bF.zero:bF:=⟨0,0,.none,none,0,[]⟩
theorem Uu(pre:List dF)(x:dF):Dw (pre++[x])=if x.kind=1 then x.depth+1 else x.depth:=by
 unfold Dw;rw[List.getLast?_concat]
end
end Go.Proofs.YtapmgonflgahbaaGreatDoor
section
namespace Go.Sx
open Go.Proofs.YtapmgonflgahbaaGreatDoor Go.RowKit Go.Rel
def YM(Q:Exit→Act→World→Prop):Exit→Act→World→Prop
 | .normal,a,w=>Q .normal a w
 | _,_,_=>False
section
variable{P:Program}{ops ops':Array Oper}{Q:Exit→Act→World→Prop}{a:Act}{w:World}
theorem G5:¬LetsOut (YM Q):=fun⟨_,_,h⟩=>h
theorem acj{i:Nat}{K K':Act→World→Prop}(hK:∀a w,K a w→K' a w)(h:wpOp P ops (YM Q) i K a w):wpOp P ops Q i K' a w:=by
 unfold wpOp at *;split at h
 ·exact hK _ _ h
 split at h
 ·rename_i hw;rw[awl hw];rcases h with h | ⟨_,h⟩
  ·left;unfold Oper.wp at *;generalize (execOp a.eval _).run P w=r at *;cases r with
   | ok n w' =>
    cases n<;>simp only[Oper.upon]at h ⊢;case value u=>exact hK _ _ h
    case skip=>exact hK _ _ h
    case defer d=>exact hK _ _ h
    case enter f args =>
     refine Calls.mono h fun e w'' he=>?_;cases e with
     | returned u=>exact hK _ _ he
     | panicked c=>exact he.elim
     | outgrown=>exact(G5 he).elim
    case row row args=>exact Rows.mono h fun u w'' he=>hK _ _ he
   | halt x w' =>
    cases x<;>simp only[Oper.upon]at h ⊢;case panic u=>exact h.elim
  exact(G5 h).elim
 rename_i hw;rw[awj hw];exact hK _ _ h
theorem JO{md:Region.Mode}:∀(f:Nat) (listed:Array Bool) (a:Act) (w:World),wpAny P md ops (YM Q) f listed a w→wpAny P md ops Q f listed a w
 | 0,_,_,_,h=>⟨h.1,h.2⟩
 | f+1,_,_,_,h=>⟨fun h0=>h.1 h0,fun i hi=>acj (fun a w=>JO f _ a w) (h.2 i hi)⟩
def Alike(ops ops':Array Oper):Prop:=ops.size=ops'.size∧∀i:Nat,(ops[i]?).map (fun o:Oper=>(o.op,o.dst,o.guard,o.type,o.pos))=(ops'[i]?).map (fun o:Oper=>(o.op,o.dst,o.guard,o.type,o.pos))
theorem Alike.get(h:Alike ops ops'){i:Nat}{o':Oper}(hi:ops'[i]?=some o'):∃af,ops[i]?=some { o' with after:=af }:=by
 have:=h.2 i;rw[hi]at this;cases ho:ops[i]? with
 | none=>rw[ho]at this; cases this
 | some o =>
  rw[ho]at this;obtain⟨dst,op,type,pos,after,guard⟩:=o;obtain⟨dst',op',type',pos',after',guard'⟩:=o';simp only[aw5,awn,awo]at this;obtain⟨rfl,rfl,rfl,rfl,rfl⟩:=this;exact⟨after,rfl⟩
theorem Alike.none(h:Alike ops ops'){i:Nat}(hi:ops'[i]?=none):ops[i]?=none:=by
 have:=h.2 i;rw[hi]at this;cases ho:ops[i]? with
 | none=>rfl
 | some o=>rw[ho]at this; cases this
theorem Alike.yielded(h:Alike ops ops')(ts:Array Value):Go.yielded ops ts=Go.yielded ops' ts:=by
 funext j;unfold Go.yielded;have:=h.2 j;cases h1:ops[j]?<;>cases h2:ops'[j]?<;>rw[h1,h2]at this
 ·cases this
 ·cases this
 simp only[aw5,awn,awo]at this;simp only[ayg,this.2.1]
theorem Alike.exec{ρ:Operand→Value}{o:Oper}{af:Array Edge}:execOp ρ { o with after:=af }=execOp ρ o:=by
 obtain⟨dst,op,type,pos,after,guard⟩:=o;rfl
theorem Alike.wpOp(h:Alike ops ops'){i:Nat}{K K':Act→World→Prop}(hK:∀a w,K a w→K' a w)(hh:Go.wpOp P ops Q i K a w):Go.wpOp P ops' Q i K' a w:=by
 refine wpOp_mono hK ?_;unfold Go.wpOp at *;cases hi:ops'[i]? with
 | none=>rw[h.none hi]at hh; exact hh
 | some o' =>
  obtain⟨af,ho⟩:=h.get hi;rw[ho]at hh;simp only at hh ⊢;rw[h.yielded]at hh;have e1:Region.wanted { o' with after:=af }=Region.wanted o':=rfl;rw[e1]at hh;unfold Oper.wp Oper.asks at *;simp only[Alike.exec]at hh;exact hh
theorem P5{F:List Nat}(h:Alike ops ops')(hF:∀(i:Nat) (o o':Oper),ops[i]?=some o→ops'[i]?=some o'→∀e∈o.after,Region.binds .any e=true→e.on∈F∨∃e'∈o'.after,Region.binds .any e'=true∧e'.on=e.on)
  (hF':∀(i:Nat) (o o':Oper),ops[i]?=some o→ops'[i]?=some o'→∀e∈o'.after,Region.binds .any e=true→∃e'∈o.after,Region.binds .any e'=true∧e'.on=e.on) :
  ∀(f:Nat) (listed:Array Bool) (a:Act) (w:World),(∀i∈F,listed.getD i false=true)→wpAny P .any ops Q f listed a w→wpAny P .any ops' Q f listed a w:=by
 have hr:∀listed:Array Bool,(∀i∈F,listed.getD i false=true)→∀j,j∈Region.ready .any ops' listed↔j∈Region.ready .any ops listed:=by
  intro listed hl j;rw[mem_ready,mem_ready];constructor
  ·rintro⟨h0,o',ho',hall⟩;obtain⟨af,ho⟩:=h.get ho';refine⟨h0,_,ho,fun e he hb=>?_⟩;rcases hF j _ _ ho ho' e he hb with h1 | ⟨e',he',hb',heq⟩
   ·exact hl _ h1
   rw[←heq]; exact hall e' he' hb'
  rintro⟨h0,o,ho,hall⟩;cases ho':ops'[j]? with
  | none=>rw[h.none ho']at ho; cases ho
  | some o' =>
   refine⟨h0,o',rfl,fun e he hb=>?_⟩;obtain⟨e',he',hb',heq⟩:=hF' j _ _ ho ho' e he hb;rw[←heq]; exact hall e' he' hb'
 have hnil:∀listed:Array Bool,(∀i∈F,listed.getD i false=true)→(Region.ready .any ops' listed=[]↔Region.ready .any ops listed=[]):=fun listed hl=>by
  simp only[List.eq_nil_iff_forall_not_mem,hr listed hl]
 intro f;induction f with
 | zero=>exact fun listed a w hl hh=>⟨(hnil listed hl).2 hh.1,hh.2⟩
 | succ f ih =>
  exact fun listed a w hl hh=>⟨fun h0=>hh.1 ((hnil listed hl).1 h0),fun i hi=>h.wpOp (fun a w=>ih _ a w fun j hj=>getD_set_true (hl j hj)) (hh.2 i ((hr listed hl i).1 hi))⟩
end
def rP(F:List Nat)(t:Nat)(os:List Oper):List Oper:=os.modify t fun o=>{ o with after:=o.after++(F.map fun i=>({ on:=i,ground := .data }:Edge)).toArray }
theorem G6{F:List Nat}{t:Nat}{os:List Oper}{i:Nat}:(rP F t os)[i]?=if i=t then (os[i]?).map (fun o=>{ o with after:=o.after++(F.map fun i=>({ on:=i,ground := .data }:Edge)).toArray })else os[i]?:=by
 unfold rP;rw[List.getElem?_modify];by_cases h:t=i
 ·subst h; simp
 rw[awj (fun e=>h e.symm)]; simp[h]
end Go.Sx
end
section
namespace Go.Sx
open Go.Proofs.YtapmgonflgahbaaGreatDoor Go.RowKit Go.Rel
section
variable{P:Program}{ops ops':Array Oper}{Q:Exit→Act→World→Prop}{a:Act}{w:World}
def tX(ops:Array Oper)(i:Nat):List Nat:=match ops[i]? with | some o=>o.after.toList.filterMap (fun e=>match Region.binds .any e with | true=>some e.on | false=>none) | none=>[]
theorem mY{i j:Nat}{o:Oper}(ho:ops[i]?=some o):j∈tX ops i↔∃e∈o.after,Region.binds .any e=true∧e.on=j:=by
 unfold tX;rw[ho];simp only[axI,Array.mem_toList_iff];constructor
 ·rintro⟨e,he,h⟩;split at h
  ·rename_i hb; exact⟨e,he,hb,awx h⟩
  cases h
 rintro⟨e,he,hb,rfl⟩;exact⟨e,he,by rw[hb]⟩
theorem uI{L:Array Bool}{j:Nat}:j∈Region.ready .any ops L↔j<ops.size∧L.getD j true=false∧∀q∈tX ops j,L.getD q false=true:=by
 rw[mem_ready];constructor
 ·rintro⟨h0,o,ho,hall⟩;refine⟨(Array.getElem?_eq_some_iff.1 ho).1,h0,fun q hq=>?_⟩;obtain⟨e,he,hb,rfl⟩:=(mY ho).1 hq;exact hall e he hb
 rintro⟨hlt,h0,h⟩;refine⟨h0,ops[j],Array.getElem?_eq_getElem hlt,fun e he hb=>h _ ((mY (Array.getElem?_eq_getElem hlt)).2 ⟨e,he,hb,rfl⟩)⟩
theorem acn{L:Array Bool}{j:Nat}(h:j<L.size)(a b:Bool):L.getD j a=L.getD j b:=by simp[Array.getD_eq_getD_getElem?,Array.getElem?_eq_getElem h]
def au5(P:Program)(ops:Array Oper)(l:List (Nat×Value))(h:Nat):Option (Nat×Value):=match ops[h]? with
 | some o=>(match o.guard,o.dst,yT o.op || !o.op.operands.all (fun x=>(rd (lift l) [] x).isSome),jg (ev0 P (execOp (zK (lift l) []) o))with
  | none,some d,false,some (.val v)=>some (d,v)
  | _,_,_,_=>none)
 | none=>none
end
theorem Uw(F:List Nat)(t:Nat)(os:List Oper):Alike (rP F t os).toArray os.toArray:=⟨by unfold rP; simp,fun i=>by
 rw[List.getElem?_toArray,List.getElem?_toArray,G6];split
 ·cases os[i]?<;>rfl
 rfl⟩
theorem P6{P:Program}{w:World}{os:List Oper}{i:Nat}{o:Oper}{ρ:Operand→Value}(ho:os[i]?=some o)(hs:Std ρ)(l:List (Nat×Value))(hl:∀q v,l.lookup q=some v→ρ (.tmp q)=v)(A:List Value)(sh:Option Nat){Post:Value→World→Prop}(hT:∀v w',iI w.heap.size A sh v w'→Ext w w'→Post v w')
  (hx:∀r,((os[i]?).bind fun o=>Cc P r [o] l).map (fun q=>(q.1,q.2.2.1,q.2.2.2.isSome))=some (A,shV sh r,true):=by intro r; kernel_rfl):Does P o ρ w Post:=by
 have hx:=hx w.heap.size;rw[ho,ayg]at hx;unfold Cc at hx;simp only at hx;split at hx
 ·rename_i A' ty k' hg hav hev;split at hx
  ·rename_i v hv;simp only[aw5,awn,awo]at hx;obtain⟨rfl,rfl,hd⟩:=hx;simp only[aw9]at hav;have hH:Holds ρ (lift l):=fun q x hq=>by
    rw[jX]at hq;cases h2:l.lookup q with
    | none=>simp[h2]at hq
    | some u =>
     simp only[h2,aw5,awn]at hq;subst hq;rw[hl q u h2]; rfl
   have hc:execOp ρ o=execOp (zK (lift l) []) o:=by
    refine execOp_congr o (fun cs b e1=>by rw[e1]at hav; cases hav.1) fun x hx=>?_;have h2:=hav.2;simp only[axE,ayv]at h2;obtain⟨z,hz⟩:=axx.1 (h2 x hx);rw[iU hs (jE hH o x hx) (p:=[]) rfl hz];simp[zK,hz]
   have hv':ev0 P k'=some (.value (shV sh w.heap.size)):=by
    unfold jg at hv;split at hv
    ·rename_i h; obtain h2:=awx hv; rw[h]; simp only[Gj.val.injEq]at h2; rw[h2]
    ·cases hv
    cases hv
   have hrun:(execOp ρ o).run P w = .ok (.value (shV sh w.heap.size)) (w.alloc (.cells A'.toArray ty)):=by rw[hc,oU hev,pI hv']
   unfold Does;rw[hrun];exact hT _ _ ⟨w.heap.size,rfl,awm _,LV _ _ _⟩ (aF _ _)
  simp at hx
 simp at hx
theorem Ux{α:Type}{k:Nat}{f:α→List Value}{w:World}{a:Option Addr}{L:List α}{c:Nat}(h:aO k f w (.slice a L.length c) L){l h' m:Nat}(h1:l≤h')(h2:h'≤L.length)(h3:h'≤m)(h4:m≤c):aO k f w (.slice (P7 a l m k) (h'-l) (m-l)) ((L.drop l).take (h'-l)):=by
 have hlen:((L.drop l).take (h'-l)).length=h'-l:=by simp; omega
 obtain⟨a',cap,hv,hm,hh⟩:=h;simp only[aw1,true_and]at hv;obtain⟨rfl,rfl⟩:=hv;refine⟨P7 a l m k,m-l,by rw[hlen],awU (by omega) hm,?_⟩;rcases hh with ⟨rfl,hz⟩ | ⟨b,o,rfl,hb,hl,hc⟩
 ·refine .inl ⟨by simp,fun e=>?_⟩;have:c=0:=hz (by
   unfold P7 at e;split at e
   ·exact e
   cases a with
   | none=>rfl
   | some _=>cases e)
  omega
 by_cases hlm:m=l
 ·refine .inl ⟨by rw[show h'-l=0 by omega]; rfl,fun e=>by
  unfold P7 at e; rw[awl hlm]at e; cases e⟩
 refine .inr ⟨b,o+l*k,by unfold P7; rw[awj hlm]; simp[Addr.add],hb,by rw[hlen]; omega,fun i hi j hj=>?_⟩;rw[hlen]at hi;have h5:=hc (l+i) (by omega) j hj;have e1:o+l*k+i*k+j=o+(l+i)*k+j:=by rw[axH]; omega
 rw[e1,h5,List.getElem_take,List.getElem_drop]
theorem G7{α:Type}{k:Nat}{f:α→List Value}{w:World}{a:Option Addr}{L:List α}{c:Nat}(h:aO k f w (.slice a L.length c) L):L.length≤c:=by
 obtain⟨a',cap,hv,hm,hh⟩:=h;simp only[aw1,true_and]at hv;obtain⟨rfl,rfl⟩:=hv;rcases hh with ⟨rfl,_⟩ | ⟨b,o,_,_,hl,_⟩
 ·exact awt _
 exact hl
theorem bU{w w':World}{B:Nat}{e:TypeId}{k n:Nat}{v:Value}{xs:List Value}(h:w.ownsRow B e k v n xs)(hE:Ext w w'):w'.ownsRow B e k v n xs:=qY h fun g hg=>hE.block g (oQ h hg).2
theorem P8{os:List Oper}{i:Nat}{o:Oper}{U:Af}{d:Nat}{K:Fact}{v:Value}{w w':World}(ho:os[i]?=some o)(hd:(os[i]?).bind (·.dst)=some d)(hU:U.lookup d=some K)(hE:Ext w w')(h:K v w'):Ext w w'∧hpost U o (kept o v) w':=by
 rw[ho,ayg]at hd;refine⟨hE,?_⟩;unfold hpost;rw[hd];simp only[hU];unfold kept;rw[hd];exact h
def evV(P:Program)(o:Oper)(l:List (Nat×Value)):Option Value:=match yT o.op || !o.op.operands.all (fun x=>(rd (lift l) [] x).isSome),jg (ev0 P (execOp (zK (lift l) []) o))with
 | false,some (.val v)=>some v
 | _,_=>none
theorem yC{P:Program}{w:World}{os:List Oper}{i:Nat}{o:Oper}{ρ:Operand→Value}(ho:os[i]?=some o)(hs:Std ρ)(l:List (Nat×Value))(hl:∀q v,l.lookup q=some v→ρ (.tmp q)=v){Post:Value→World→Prop}(v:Value)(hK:Post v w)
  (hx:(os[i]?).bind (fun o=>evV P o l)=some v:=by kernel_rfl):Does P o ρ w Post:=by
 rw[ho,ayg]at hx;unfold evV at hx;split at hx
 ·rename_i v' hav hev;obtain rfl:=awx hx;simp only[aw9]at hav;have hH:Holds ρ (lift l):=fun q x hq=>by
   rw[jX]at hq;cases h2:l.lookup q with
   | none=>simp[h2]at hq
   | some u =>
    simp only[h2,aw5,awn]at hq;subst hq;rw[hl q u h2]; rfl
  have hrun:(execOp ρ o).run P w = .ok (.value v') w:=oW hs (jE hH o) (p:=[]) rfl hav.1 (by simpa using hav.2) hev;unfold Does;rw[hrun];exact hK
 cases hx
theorem look1{ρ:Operand→Value}{s:Nat}{u:Value}(h:ρ (.tmp s)=u):∀q v,List.lookup q [(s,u)]=some v→ρ (.tmp q)=v:=fun q v hq=>by
 rw[aw8]at hq;split at hq
 ·rename_i hq2;obtain rfl:q=s:=by simpa using hq2
  rw[←awx hq,h]
 cases hq
end Go.Sx
end
section
namespace Go.Proofs.YtapmgonflgahbaaGreatDoor
open Go.Maps
variable{P:Program}{k e t:TypeId}{b:Nat}{ids:List Int}{w w':World}
def mD(P:Program)(k e:TypeId)(w:World)(b:Nat)(ids:List Int):Prop:=
 ∃D:DataW Unit,w.ownsMap P k (plainElem P e) b ids.length D∧IsMap D∧∀x:Int,I64 x→D.atKey (.int .i64 x) (.lit (.bool false)) = .lit (.bool (ids.any (· == x)))
theorem Uy(P:Program)(k e:TypeId)(w:World):mD P k e (w.alloc (.map #[] 0)) w.heap.size []:=
 ⟨.map [],World.ownsMap_made w P k _,isMap_empty,fun x _=>rfl⟩
theorem wf_i64{x:Int}(h:I64 x):(Lit.int .i64 x).wf=true:=by
 obtain⟨h1,h2⟩:=h;have e1:IntKind.i64.min = -9223372036854775808:=by decide
 have e2:IntKind.i64.max=9223372036854775807:=by decide
 simp[Lit.wf,e1,e2];omega
theorem zS{H:Type}(he:P.underlying e=some .bool){v:Value}{z:DataW H×List MemPlace}(h:plainElem P e v=some z):∃c,v = .bool c∧z=(.lit (.bool c),[]):=by
 unfold plainElem at h;rw[he]at h;cases v<;>simp at h;exact⟨_,rfl,h.symm⟩
theorem mD.lt(h:mD P k e w b ids):b<w.heap.size:=by obtain⟨D,h,_⟩:=h; exact h.lt
theorem mD.kept(h:mD P k e w b ids)(hb:∀i,i=b→w'.heap[i]?=w.heap[i]?):mD P k e w' b ids:=by
 obtain⟨D,⟨es,clock,hB,F,hs,hD⟩,h2,h3⟩:=h;exact⟨D,⟨es,clock,(hb b rfl).trans hB,F,hs,hD⟩,h2,h3⟩
theorem mD.lookup(h:mD P k e w b ids)(hk:P.underlying k=some (.int .i64))(he:P.underlying e=some .bool)(ht:P.underlying t=some (.map k e))(hz:(zeroValue e).run P w = .ok (.z) w){x:Int}(hx:I64 x) :
  (Instr.lookup t (.map (some b)) (.i x) false).run P w = .ok (.bool (ids.any (· == x))) w:=by
 obtain⟨D,h1,h2,h3⟩:=h;obtain⟨v,ps,hrun,hv⟩:=h1.lookup (int_keyed hk) ht hz (plainElem_bool he false) (keyOf_int_mk hk (wf_i64 hx));obtain⟨c,rfl,hc⟩:=zS he hv;simp only[awo]at hc;rw[h3 x hx]at hc;obtain⟨hc,-⟩:=hc;cases hc;exact hrun
theorem mD.update(h:mD P k e w b ids)(hk:P.underlying k=some (.int .i64))(he:P.underlying e=some .bool)(ht:P.underlying t=some (.map k e))(hn:ids.length<maxLen){x:Int}(hx:I64 x) :
  ∃w',(Instr.mapUpdate t (.map (some b)) (.i x) (.bool true)).run P w = .ok () w'∧mD P k e w' b (ids++[x])∧w.grownBy w' (some b):=by
 obtain⟨D,h1,h2,h3⟩:=h;obtain⟨w',hrun,ho,hg⟩:=h1.update (int_keyed hk) ht hn (keyOf_int_mk hk (wf_i64 hx)) (plainElem_bool he true);refine⟨w',hrun,⟨D.put (.int .i64 x) (.lit (.bool true)),?_,h2.put _ _,fun y hy=>?_⟩,hg⟩
 ·rw[awr,List.length_singleton]; exact ho
 rw[List.any_append,List.any_cons,List.any_nil,Bool.or_false];by_cases hxy:x=y
 ·subst hxy;rw[atKey_put_same h2 (k := .int .i64 x) (by first | trivial | simp[WideAt.IsKeyLit])];simp
 rw[atKey_put_other (by simpa using fun h=>hxy h.symm),h3 y hy];simp[hxy]
end Go.Proofs.YtapmgonflgahbaaGreatDoor
namespace Go.Sx
open Go.Proofs.YtapmgonflgahbaaGreatDoor Go.RowKit Go.Rel
variable{P:Program}{k e:TypeId}{b:Nat}{ids:List Int}{w w':World}
variable{ops:Array Oper}{Q:Exit→Act→World→Prop}{w0:World}{a:Act}{os:List Oper}{n:Nat}{l:List (Nat×Value)}{bl:List (Nat×List Value)}{vs:List gJ}
def P9(os:List Oper):Option Nat:=match os with
 | o::_=>(match o.guard,o.dst,o.op with
  | none,some d,.makeMap _ none=>some d
  | _,_,_=>none)
 | []=>none
def lookOf(os:List Oper)(l:List (Nat×Value)):Option (TypeId×Nat×Int×Nat):=match os with
 | o::_=>(match o.guard,o.dst,o.op with
  | none,some d,.lookup t x i false=>(match rd (lift l) [] x,rd (lift l) [] i with
   | some (.map (some b)),some (.i z)=>some (t,b,z,d)
   | _,_=>none)
  | _,_,_=>none)
 | []=>none
def agB(os:List Oper)(l:List (Nat×Value)):Option (TypeId×Nat×Int):=match os with
 | o::_=>(match o.guard,o.dst,o.op with
  | none,none,.mapUpdate t x i v=>(match rd (lift l) [] x,rd (lift l) [] i,rd (lift l) [] v with
   | some (.map (some b)),some (.i z),some (.bool true)=>some (t,b,z)
   | _,_,_=>none)
  | _,_,_=>none)
 | []=>none
theorem aql(S:St w0 a w n l bl vs)(d:Nat)(next:∀a' w' b,Ext w w'→b=w.heap.size→(∀k e,mD P k e w' b [])→St w0 a' w' n ((d,.map (some b))::l) bl vs→wpList P ops Q (os.drop 1) a' w')
  (hx:P9 os=some d:=by kernel_rfl) (hd:Cb n (some d)=true:=by rfl):wpList P ops Q os a w:=by
 unfold P9 at hx;split at hx
 ·rename_i o os';split at hx
  ·rename_i d' t hg hdst hop;cases hx;have hrun:(execOp a.eval o).run P w = .ok (.value (.map (some w.heap.size))) (w.alloc (.map #[] 0)):=by
    unfold execOp;simp only[hop];rfl
   unfold wpList;rw[awl (by simp[Region.wanted,hg])];left;unfold Oper.wp;rw[hrun];simp only[Oper.upon];have hE:Ext w (w.alloc (.map #[] 0)):=aF _ _;have S1:=S.grow hE;rw[hdst];exact next _ _ w.heap.size hE rfl (fun k e=>Uy P k e w) ⟨xB S.s hd _,S1.E,S1.own,S1.apart,S1.mem⟩
  cases hx
 cases hx
theorem amV(S:St w0 a w n l bl vs)(d:Nat){t:TypeId}{z:Int}(h:mD P k e w b ids)(hk:P.underlying k=some (.int .i64))(he:P.underlying e=some .bool)(ht:P.underlying t=some (.map k e))(hz:(zeroValue e).run P w = .ok (.z) w)(hi:I64 z)
  (next:∀a',St w0 a' w n ((d,.bool (ids.any (· == z)))::l) bl vs→wpList P ops Q (os.drop 1) a' w)
  (hx:lookOf os l=some (t,b,z,d):=by kernel_rfl) (hd:Cb n (some d)=true:=by rfl):wpList P ops Q os a w:=by
 unfold lookOf at hx;split at hx
 ·rename_i o os';split at hx
  ·rename_i d' t' x i hg hdst hop;split at hx
   ·rename_i b' z' hxx hii;cases hx;have hR:=jE (dD S.s) o;have hxv:=iU (Std.act a) (hR x (by rw[hop]; simp[Op.operands])) (p:=[]) rfl hxx;have hyv:=iU (Std.act a) (hR i (by rw[hop]; simp[Op.operands])) (p:=[]) rfl hii;have hrun:(execOp a.eval o).run P w = .ok (.value (.bool (ids.any (· == z)))) w:=by
     unfold execOp;simp only[hop,hxv,hyv,aw7,h.lookup hk he ht hz hi];rfl
    unfold wpList;rw[awl (by simp[Region.wanted,hg])];left;unfold Oper.wp;rw[hrun];simp only[Oper.upon];rw[hdst];exact next _ (S.act (xB S.s hd _))
   cases hx
  cases hx
 cases hx
theorem St.aqm(S:St w0 a w n l bl vs)(h:mD P k e w b ids)(hb:w0.heap.size≤b)(hg:w.grownBy w' (some b))(h1:bl.all (fun p => !p.2.isEmpty)=true)(h2:vs.all (fun m => !m.2.2.isEmpty)=true):St w0 a w' n l bl vs:=by
 have hm:∀i,w.cell? ⟨b,i,none⟩=none:=by
  obtain⟨D,⟨es,clock,hB,_⟩,_⟩:=h;intro i;simp[World.cell?,hB]
 have hcell:∀c i,c<w.heap.size→c≠b→w'.cell? ⟨c,i,none⟩=w.cell? ⟨c,i,none⟩:=by
  intro c i hc hne;simp only[World.cell?];rw[hg.block c hc (fun e=>hne (awx e))]
 have amW:∀c i,c<w.heap.size→c≠b→w'.frozen? ⟨c,i,none⟩=w.frozen? ⟨c,i,none⟩:=by
  intro c i hc hne;simp only[World.frozen?];rw[hg.block c hc (fun e=>hne (awx e))]
 have hE:Ext w0 w':=S.E.grown hg S.E.size (fun k e=>by cases e; exact hb);refine⟨S.s,hE,fun p hp=>?_,S.apart,fun m hmm=>?_⟩
 ·obtain⟨⟨q1,q2,q3⟩,q4⟩:=S.own p hp;have hne:p.1≠b:=by
   intro e;have h3:=awQ.1 h1 p hp;have h4:=q2 0;rw[e,hm 0]at h4;cases hA:p.2 with
   | nil=>rw[hA]at h3; cases h3
   | cons x A=>rw[hA]at h4; simp at h4
  exact⟨⟨awR q1 hg.size,fun i=>by rw[hcell _ _ q1 hne]; exact q2 i,fun i=>by rw[amW _ _ q1 hne]; exact q3 i⟩,q4⟩
 obtain⟨⟨q1,q2⟩,q3⟩:=S.mem m hmm;have hne:m.1≠b:=by
  intro e;have h3:=awQ.1 h2 m hmm;cases hA:m.2.2 with
  | nil=>rw[hA]at h3; cases h3
  | cons x A =>
   have h4:=q2 0 x (by rw[hA]; rfl);rw[e,hm]at h4;cases h4
 exact⟨⟨awR q1 hg.size,fun i v hi=>by rw[hcell _ _ q1 hne]; exact q2 i v hi⟩,q3⟩
theorem aqn(S:St w0 a w n l bl vs){t:TypeId}{z:Int}(h:mD P k e w b ids)(hb:w0.heap.size≤b)(hk:P.underlying k=some (.int .i64))(he:P.underlying e=some .bool)(ht:P.underlying t=some (.map k e))(hn:ids.length<maxLen)(hi:I64 z)
  (next:∀w',mD P k e w' b (ids++[z])→w.grownBy w' (some b)→St w0 a w' n l bl vs→wpList P ops Q (os.drop 1) a w')
  (hx:agB os l=some (t,b,z):=by kernel_rfl) (h1:bl.all (fun p => !p.2.isEmpty)=true:=by kernel_rfl) (h2:vs.all (fun m => !m.2.2.isEmpty)=true:=by kernel_rfl):wpList P ops Q os a w:=by
 unfold agB at hx;split at hx
 ·rename_i o os';split at hx
  ·rename_i t' x i v hg hdst hop;split at hx
   ·rename_i b' z' hxx hii hvv;cases hx;have hR:=jE (dD S.s) o;have hxv:=iU (Std.act a) (hR x (by rw[hop]; simp[Op.operands])) (p:=[]) rfl hxx;have hyv:=iU (Std.act a) (hR i (by rw[hop]; simp[Op.operands])) (p:=[]) rfl hii;have hzv:=iU (Std.act a) (hR v (by rw[hop]; simp[Op.operands])) (p:=[]) rfl hvv;obtain⟨w',hrun,h',hg'⟩:=h.update hk he ht hn hi;have hrun:(execOp a.eval o).run P w = .ok .skip w':=by
     unfold execOp;simp only[hop,hxv,hyv,hzv,aw7,hrun];rfl
    unfold wpList;rw[awl (by simp[Region.wanted,hg])];left;unfold Oper.wp;rw[hrun];simp only[Oper.upon];rw[hdst];exact next _ h' hg' (S.aqm h hb hg' h1 h2)
   cases hx
  cases hx
 cases hx
theorem Qa(h:mD P k e w b ids):On (fun i=>i=b) (fun w=>mD P k e w b ids) w:=fun w' hs hb=>h.kept fun i hi=>hb i (by rw[hi]; exact h.lt) hi
end Go.Sx
end
