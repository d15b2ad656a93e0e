/- Encodings say what was encoded. No program in sight. -/
import Derived.Test.YtodpgjjgaddkeaaGreatDoorPk23
set_option maxHeartbeats 1600000
set_option maxRecDepth 100000
set_option linter.unusedVariables false
set_option linter.unusedSimpArgs false
section
namespace Go.Proofs.YtodpgjjgaddkeaaGreatDoor
open En
variable{α:Type}{K:Nat}
def PI(f:α→List UInt8)(x y:α):Prop:=∀r s,f x++r=f y++s→x=y∧r=s
theorem OL{a b:Nat}(ha:a<18446744073709551616)(hb:b<18446744073709551616):PI (dV 10) a b:=fun r s h=>by
 have h1:=oG a r ha;have h2:=oG b s hb;rw[h,h2]at h1;simp only[aB3,azP]at h1;obtain⟨rfl,-⟩:=h1;exact⟨rfl,List.append_cancel_left h⟩
theorem LC{a b:Int}(ha:I64 a)(hb:I64 b):PI iB a b:=fun r s h=>by
 obtain⟨h1,h2⟩:=OL (NQ ha.1 ha.2) (NQ hb.1 hb.2) r s h;exact⟨by rw[←Df a,h1,Df],h2⟩
theorem SC{f:α→List UInt8}:∀{L M:List α},L.length=M.length→(∀x∈L,∀y∈M,PI f x y)→PI (fun l:List α=>l.flatMap f) L M
 | [],[],_,_,r,s,h=>⟨rfl,h⟩
 | [],_::_,hl,_,_,_,_=>by cases hl
 | _::_,[],hl,_,_,_,_=>by cases hl
 | x::L,y::M,hl,hp,r,s,h=>by
  simp only[aAO,az0]at h
  obtain⟨rfl,h2⟩:=hp x azV y azV _ _ h
  obtain⟨rfl,h3⟩:=SC (by simpa using hl) (fun a ha b hb=>hp a (aAT _ ha) b (aAT _ hb)) r s h2
  exact⟨rfl,h3⟩
theorem Du{f:α→List UInt8}{L M:List α}(hL:L.length<18446744073709551616)(hM:M.length<18446744073709551616)(hp:∀x∈L,∀y∈M,PI f x y):PI (iy f) L M:=fun r s h=>by
 unfold iy at h;rw[az0,az0]at h;obtain⟨h1,h2⟩:=OL hL hM _ _ h;exact SC h1 hp r s h2
theorem kF{L M:List Int}{r s:List UInt8}(h:dW L++r=dW M++s)(hL:qU L)(hM:qU M)(hl:L.length=M.length:=by rfl):L=M∧r=s:=SC hl (fun x hx y hy=>LC (hL.all x hx) (hM.all y hy)) r s h
theorem OM{l m:List UInt8}(hl:l.length<18446744073709551616)(hm:m.length<18446744073709551616):PI fQ l m:=fun r s h=>by
 unfold fQ at h;rw[az0,az0]at h;obtain⟨h1,h2⟩:=OL hl hm _ _ h;exact List.append_inj h2 h1
theorem agZ{p q:Bool×Nat×Nat}(hp:dZ p≤256)(hq:dZ q≤256):PI gK p q:=fun r s h=>by
 unfold dZ at hp hq;have a1:=Nb.bH (Em (n:=p.2.1) (by omega));have a2:=Nb.bH (Em (n:=p.2.2) (by omega));have b1:=Nb.bH (Em (n:=q.2.1) (by omega));have b2:=Nb.bH (Em (n:=q.2.2) (by omega));obtain⟨p0,p1,p2⟩:=p;obtain⟨q0,q1,q2⟩:=q;simp only[gK,aA0,aAf,az0]at h a1 a2 b1 b2;obtain⟨h0,h⟩:=h;have t:=OM (by omega) (by omega) _ _ h;clear h;obtain⟨h1,h⟩:=t;have t:=OM (by omega) (by omega) _ _ h;clear h;obtain⟨h2,h⟩:=t;have e1:p1=q1:=by rw[←Nb.aB p1,h1,Nb.aB]
 have e2:p2=q2:=by rw[←Nb.aB p2,h2,Nb.aB]
 have e0:p0=q0:=by cases p0<;>cases q0<;>simp at h0 ⊢
 exact⟨by rw[e0,e1,e2],h⟩
theorem YF{p q:Q6}(hp:p.valid=true)(hq:q.valid=true):PI sH p q:=fun r s h=>by
 have hall:∀{q:Q6},q.valid=true→∀x∈[q.a,q.b,q.c,q.d,q.e,q.f],dZ x≤256:=fun{q} hq x hx=>by
  unfold Q6.valid at hq;simp only[azY,azW]at hq;simp only[azS,aBG,or_false]at hx;obtain⟨h1,h2,h3,h4,h5,h6⟩:=hq;rcases hx with rfl | rfl | rfl | rfl | rfl | rfl<;>assumption
 obtain⟨h1,h2⟩:=SC (L:=[p.a,p.b,p.c,p.d,p.e,p.f]) (M:=[q.a,q.b,q.c,q.d,q.e,q.f]) rfl (fun x hx y hy=>agZ (hall hp x hx) (hall hq y hy)) r s h;cases p; cases q;simp only[aAf,and_true]at h1;obtain⟨rfl,rfl,rfl,rfl,rfl,rfl⟩:=h1;exact⟨rfl,h2⟩
theorem SE(p q:bC):PI Px.pb p q:=fun r s h=>Px.Vu h
theorem akB{a b:dM}(ha:a.ok)(hb:b.ok):PI kH a b:=fun r s h=>by
 unfold kH at h;obtain⟨h1,h2⟩:=kF h ⟨ha.1,ha.2.1.1,ha.2.1.2,ha.2.2.1.1,ha.2.2.1.2,ha.2.2.2.1,ha.2.2.2.2,trivial⟩ ⟨hb.1,hb.2.1.1,hb.2.1.2,hb.2.2.1.1,hb.2.2.1.2,hb.2.2.2.1,hb.2.2.2.2,trivial⟩;obtain⟨v,⟨ax,ay⟩,⟨bx,by'⟩,cx,cy⟩:=a;obtain⟨v',⟨ax',ay'⟩,⟨bx',axD⟩,cx',cy'⟩:=b;simp only[aAf,and_true]at h1;obtain⟨rfl,rfl,rfl,rfl,rfl,rfl,rfl⟩:=h1;exact⟨rfl,h2⟩
theorem YG{L M:List dM}(hL:L.length≤256∧∀x∈L,x.ok)(hM:M.length≤256∧∀x∈M,x.ok):PI (iy kH) L M:=Du (by omega) (by omega) fun x hx y hy=>akB (hL.2 x hx) (hM.2 y hy)
theorem ag0{a b:dH}(ha:a.ok)(hb:b.ok):PI jf a b:=fun r s h=>by
 unfold jf at h;rw[az0,az0]at h;have t:=kF h ⟨ha,trivial⟩ ⟨hb,trivial⟩;clear h;obtain⟨h1,h⟩:=t;have t:=SE _ _ _ _ h;clear h;obtain⟨h2,h⟩:=t;cases a; cases b;simp only[aAf,and_true]at h1 h2;exact⟨by rw[h1,h2],h⟩
structure og.Good (m:og):Prop where
 w:I64 m.w
 h:I64 m.h
 n:(m.l.length:Int)=m.w*m.h
 len:m.l.length≤65536
theorem aeg{pk:Bool}{a b:og}(ha:a.Good)(hb:b.Good):PI (sG pk) a b:=fun r s h=>by
 unfold sG at h;rw[az0,az0]at h;have t:=kF h ⟨ha.w,ha.h,trivial⟩ ⟨hb.w,hb.h,trivial⟩;clear h;obtain⟨h1,h⟩:=t;obtain⟨aw,ah,al⟩:=a;obtain⟨bw,bh,Az⟩:=b;simp only[aAf,and_true]at h1;obtain⟨rfl,rfl⟩:=h1;have e:al.length=Az.length:=by have h1:=ha.n; have h2:=hb.n; simp only at h1 h2; omega
 have l1:=ha.len;have l2:=hb.len;simp only at l1 l2;cases pk
 ·simp only[aB1,if_false]at h;have t:=SC e (fun x _ y _=>SE x y) _ _ h;clear h;obtain⟨rfl,h⟩:=t;exact⟨rfl,h⟩
 simp only[if_true]at h;have e1:=Iz al;have e2:=Iz Az;have t:=OM (by omega) (by omega) _ _ h;clear h;obtain⟨h2,h⟩:=t;obtain rfl:=Px.agA (by omega) (by omega) h2;exact⟨rfl,h⟩
structure jc.Good (p:jc):Prop where
 kind:I64 p.kind
 p0:p.p0.ok
 p1:p.p1.ok
 bT:I64 p.bT
 stops:p.stops.length≤16∧∀s∈p.stops,s.ok
 spread:I64 p.spread
 img:p.img.Good
 cZ:I64 p.cZ
 q:p.q.valid=true
theorem SG{pk:Bool}{a b:jc}(ha:a.Good)(hb:b.Good):PI (fC pk) a b:=fun r s h=>by
 unfold fC at h;simp only[az0]at h;have t:=kF h ⟨ha.kind,trivial⟩ ⟨hb.kind,trivial⟩;clear h;obtain⟨h1,h⟩:=t;have t:=SE _ _ _ _ h;clear h;obtain⟨h2,h⟩:=t;have t:=kF h ⟨ha.p0.1,ha.p0.2,ha.p1.1,ha.p1.2,ha.bT,trivial⟩ ⟨hb.p0.1,hb.p0.2,hb.p1.1,hb.p1.2,hb.bT,trivial⟩;clear h;obtain⟨h3,h⟩:=t;have t:=Du (by have:=ha.stops.1; omega) (by have:=hb.stops.1; omega) (fun x hx y hy=>ag0 (ha.stops.2 x hx) (hb.stops.2 y hy)) _ _ h;clear h;obtain⟨h4,h⟩:=t;have t:=kF h ⟨ha.spread,trivial⟩ ⟨hb.spread,trivial⟩;clear h;obtain⟨h5,h⟩:=t;have t:=aeg ha.img hb.img _ _ h;clear h;obtain⟨h6,h⟩:=t;have t:=kF h ⟨ha.cZ,trivial⟩ ⟨hb.cZ,trivial⟩;clear h;obtain⟨h7,h⟩:=t;have t:=YF ha.q hb.q _ _ h;clear h;obtain⟨h8,h⟩:=t;obtain⟨k,c,⟨x0,y0⟩,⟨x1,y1⟩,rd,st,sp,im,sm,q⟩:=a;obtain⟨k',c',⟨x0',y0'⟩,⟨x1',y1'⟩,rd',st',sp',im',sm',q'⟩:=b;simp only[aAf,and_true]at h1 h2 h3 h4 h5 h6 h7 h8;obtain⟨rfl,rfl,rfl,rfl,rfl⟩:=h3;subst h1 h2 h4 h5 h6 h7 h8;exact⟨rfl,h⟩
structure kC.Good (p:kC):Prop where
 i:I64 p.width∧I64 p.join∧I64 p.cap∧I64 p.eU∧I64 p.phase
 dash:p.dash.length≤16∧∀x∈p.dash,I64 x
theorem akC{a b:kC}(ha:a.Good)(hb:b.Good):PI BP a b:=fun r s h=>by
 unfold BP at h;rw[az0,az0]at h;obtain⟨a1,a2,a3,a4,a5⟩:=ha.i;obtain⟨b1,b2,b3,b4,b5⟩:=hb.i;have t:=kF h ⟨a1,a2,a3,a4,a5,trivial⟩ ⟨b1,b2,b3,b4,b5,trivial⟩;clear h;obtain⟨h1,h⟩:=t;have t:=Du (by have:=ha.dash.1; omega) (by have:=hb.dash.1; omega) (fun x hx y hy=>LC (ha.dash.2 x hx) (hb.dash.2 y hy)) _ _ h;clear h;obtain⟨h2,h⟩:=t;obtain⟨w,j,c,m,d,p⟩:=a;obtain⟨w',j',c',m',d',p'⟩:=b;simp only[aAf,and_true]at h1 h2;obtain⟨rfl,rfl,rfl,rfl,rfl⟩:=h1;subst h2;exact⟨rfl,h⟩
def kC.zero:kC:=⟨0,0,0,0,[],0⟩
def og.zero:og:=⟨0,0,[]⟩
def aQ.canon(n:aQ):aQ:=
 if n.kind=1 then { n with path:=[],aT:=0,fill:=[],style := .zero,stroke:=[],img := .zero,cZ:=0 }
 else if n.kind=2 then { n with dQ:=0,blend:=0,isolated:=false,dF:=false,style:=(if 0<n.stroke.length then n.style else .zero),img := .zero,cZ:=0 }
 else if n.kind=3 then { n with dQ:=0,blend:=0,isolated:=false,dF:=false,path:=[],aT:=0,fill:=[],style := .zero,stroke:=[] }
 else { n with dQ:=0,blend:=0,isolated:=false,dF:=false,path:=[],aT:=0,fill:=[],style := .zero,stroke:=[],img := .zero,cZ:=0 }
structure aQ.Good (n:aQ):Prop where
 i:I64 n.id∧I64 n.kind∧I64 n.depth∧I64 n.aP∧I64 n.blend∧I64 n.aT∧I64 n.cZ
 q:n.q.valid=true
 clip:n.clip.length≤256∧∀s∈n.clip,s.ok
 path:n.kind=2→n.path.length≤256∧∀s∈n.path,s.ok
 fill:n.kind=2→n.fill.length≤1∧∀p∈n.fill,p.Good
 stroke:n.kind=2→n.stroke.length≤1∧∀p∈n.stroke,p.Good
 style:n.kind=2→0<n.stroke.length→n.style.Good
 img:n.kind=3→n.img.Good
theorem YH{a b:Bool}(h:pz a=pz b):a=b:=by cases a<;>cases b<;>simp[pz]at h ⊢
theorem ag1{pk:Bool}{a b:aQ}(ha:a.Good)(hb:b.Good)(r s:List UInt8)(h:eG pk a++r=eG pk b++s):a.canon=b.canon∧r=s:=by
 unfold eG at h;simp only[az0]at h;obtain⟨a1,a2,a3,a4,a5,a6,a7⟩:=ha.i;obtain⟨b1,b2,b3,b4,b5,b6,b7⟩:=hb.i;have t:=kF h ⟨a1,a2,a3,trivial⟩ ⟨b1,b2,b3,trivial⟩;clear h;obtain⟨h1,h⟩:=t;have t:=YF ha.q hb.q _ _ h;clear h;obtain⟨h2,h⟩:=t;have t:=YG ha.clip hb.clip _ _ h;clear h;obtain⟨h3,h⟩:=t;have t:=kF h ⟨a4,trivial⟩ ⟨b4,trivial⟩;clear h;obtain⟨h4,h⟩:=t;obtain⟨id,kd,dp,q,cl,cr,op,bd,is,kn,pa,fr,fi,sy,st,im,sm⟩:=a;obtain⟨id',kd',dp',q',cl',cr',op',bd',is',kn',pa',fr',fi',sy',st',im',sm'⟩:=b;simp only[aAf,and_true]at h1 h2 h3 h4;obtain⟨rfl,rfl,rfl⟩:=h1;subst h2 h3 h4;unfold nG at h;unfold aQ.canon;simp only at h ⊢;by_cases k1:kd=1
 ·simp only[azI k1,az0]at h ⊢;simp only[aA0,aAH,aAf]at h;obtain⟨h5,h⟩:=h;have t:=kF h ⟨a5,trivial⟩ ⟨b5,trivial⟩;clear h;obtain⟨h6,h⟩:=t;simp only[aAf,and_true]at h h6;obtain⟨h7,h8,h⟩:=h;obtain rfl:=YH h7;obtain rfl:=YH h8;exact⟨by rw[h5,h6],h⟩
 by_cases k2:kd=2
 ·simp only[azG k1,azI k2,az0]at h ⊢;have t:=YG (ha.path k2) (hb.path k2) _ _ h;clear h;obtain⟨h5,h⟩:=t;have t:=kF h ⟨a6,trivial⟩ ⟨b6,trivial⟩;clear h;obtain⟨h6,h⟩:=t;have f1:=ha.fill k2;have f2:=hb.fill k2;have s1:=ha.stroke k2;have s2:=hb.stroke k2;have t:=Du (by have:=f1.1; omega) (by have:=f2.1; omega) (fun x hx y hy=>SG (f1.2 x hx) (f2.2 y hy)) _ _ h;clear h;obtain⟨h7,h⟩:=t;have t:=Du (by have:=s1.1; omega) (by have:=s2.1; omega) (fun x hx y hy=>SG (s1.2 x hx) (s2.2 y hy)) _ _ h;clear h;obtain⟨h8,h⟩:=t;have y1:=ha.style k2;have y2:=hb.style k2;simp only[aAf,and_true]at h5 h6 h7 h8 y1 y2;subst h5 h6 h7 h8;by_cases hs:0<st.length
  ·simp only[azI hs]at h ⊢;have t:=akC (y1 hs) (y2 hs) _ _ h;clear h;obtain⟨rfl,h⟩:=t;exact⟨rfl,h⟩
  simp only[azG hs,aAH]at h ⊢;exact⟨trivial,h⟩
 by_cases k3:kd=3
 ·simp only[azG k1,azG k2,azI k3,az0]at h ⊢;have t:=aeg (ha.img k3) (hb.img k3) _ _ h;clear h;obtain⟨h5,h⟩:=t;have t:=kF h ⟨a7,trivial⟩ ⟨b7,trivial⟩;clear h;obtain⟨h6,h⟩:=t;simp only[aAf,and_true]at h5 h6;subst h5 h6;exact⟨rfl,h⟩
 simp only[azG k1,azG k2,azG k3,aAH]at h ⊢;exact⟨trivial,h⟩
theorem IC{w:World}{p:ak}(h:p.ok w)(hv:p.valid=true):p.key.Good:=by
 obtain⟨l1,l2,l3⟩:=tV hv;exact⟨h.1,h.2.1,h.2.2.1,h.2.2.2.1,⟨l2,h.2.2.2.2.2.1⟩,h.2.2.2.2.2.2.1,⟨h.2.2.2.2.2.2.2.1.1,h.2.2.2.2.2.2.2.1.2.1,l3.1,l3.2.1⟩,h.2.2.2.2.2.2.2.2.1,l1⟩
theorem Dv{w:World}{n:aj}(h:n.ok w)(hv:n.checkN=0):n.key.Good:=by
 have hL:=tX hv;obtain⟨h1,h2,h3,h4,h5,h6,h7,h8,h9,h10,h11,h12,h13,JY⟩:=h;refine⟨⟨h1,h2,h3,h6,h7,h9,JY⟩,hL.q,⟨hL.clip,h5.2⟩,fun hk=>?_,fun hk=>?_,fun hk=>?_,fun hk hs=>?_,fun hk=>?_⟩
 ·exact⟨(hL.shape hk).1,h8.2⟩
 ·exact⟨by simpa[aj.key]using (hL.shape hk).2.1,fun x hx=>by obtain⟨p,hp,rfl⟩:=az9.1 hx; exact IC (h10.2 p hp) ((hL.shape hk).2.2.2.1 p hp)⟩
 ·exact⟨by simpa[aj.key]using (hL.shape hk).2.2.1,fun x hx=>by obtain⟨p,hp,rfl⟩:=az9.1 hx; exact IC (h12.2 p hp) ((hL.shape hk).2.2.2.2.1 p hp)⟩
 ·exact⟨⟨h11.1,h11.2.1,h11.2.2.1,h11.2.2.2.1,h11.2.2.2.2.2.2⟩,(hL.shape hk).2.2.2.2.2 (by simpa[aj.key]using hs),h11.2.2.2.2.2.1⟩
 have:=hL.img hk;exact⟨h13.1,h13.2.1,this.1,this.2.1⟩
theorem OO{p:aS}(h:p.eq aS.bare=true):p.key = .zero:=by
 unfold aS.eq aS.bare at h;simp only[azY,azU,azW]at h;obtain⟨⟨⟨⟨⟨h1,h2⟩,h3⟩,h4⟩,h5⟩,h6⟩:=h;unfold aS.key kC.zero;rw[h1,h2,h3,h4,h5,h6]
theorem YI{m:dB}(h:m.eq dB.bare=true):m.key = .zero:=by
 unfold dB.eq dB.bare at h;simp only[azY,azU]at h;unfold dB.key og.zero;rw[h.1,h.2.1,h.2.2]
theorem Ac{n:aj}(hv:n.checkN=0):n.key.canon=n.key:=by
 have hL:=tX hv;have hb:=hL.bare;have hkb:=BH hv;unfold aj.bare at hb;unfold aQ.canon;by_cases k1:n.kind=1
 ·rw[azI (show n.key.kind=1 from k1)];simp only[k1,show((1:Int)==1)=true from rfl,cond_true,azY,azU]at hb;obtain⟨⟨⟨⟨⟨b1,b2⟩,b3⟩,b4⟩,b5⟩,b6,b7⟩:=hb;have e1:n.path=[]:=aCd.1 (by omega);have e3:n.fill=[]:=aCd.1 (by omega);have e4:n.stroke=[]:=aCd.1 (by omega);simp only[aj.key,e1,b2,e3,e4,OO b5,YI b6,b7,aAQ]
 rw[azG (show ¬n.key.kind=1 from k1)];by_cases k2:n.kind=2
 ·rw[azI (show n.key.kind=2 from k2)];simp only[k2,show((2:Int)==1)=false from rfl,show((2:Int)==2)=true from rfl,cond_false,cond_true,azY,azU,aBi]at hb;obtain⟨⟨⟨⟨b1,b2⟩,b3⟩,b4⟩,b6,b7⟩:=hb;have e1:n.dQ=0:=Dk.1 (by rw[b1]; rfl);have e2:(if 0<n.key.stroke.length then n.key.style else kC.zero)=n.key.style:=by
   split
   ·rfl
   rename_i hs; exact(OO (hL.sty k2 (by simpa[aj.key]using hs))).symm
  rw[e2];simp only[aj.key,e1,b2,b3,b4,YI b6,b7]
 rw[azG (show ¬n.key.kind=2 from k2),azI (show n.key.kind=3 by show n.kind=3; omega)];have k1':(n.kind==1)=false:=by simpa using k1
 have k2':(n.kind==2)=false:=by simpa using k2
 simp only[k1',k2',cond_false,azY,azU,aBi]at hb;obtain⟨⟨⟨⟨b1,b2⟩,b3⟩,b4⟩,⟨⟨⟨c1,c2⟩,c3⟩,c4⟩,c5⟩:=hb;have e0:n.dQ=0:=Dk.1 (by rw[b1]; rfl);have e1:n.path=[]:=aCd.1 (by omega);have e3:n.fill=[]:=aCd.1 (by omega);have e4:n.stroke=[]:=aCd.1 (by omega);simp only[aj.key,e0,b2,b3,b4,e1,c2,e3,e4,OO c5,aAQ]
theorem LD{pk:Bool}{w:World}{n m:aj}(h:n.ok w)(h':m.ok w)(hv:n.checkN=0)(hv':m.checkN=0)(r s:List UInt8)(e:eG pk n.key++r=eG pk m.key++s):n.key=m.key∧r=s:=by
 obtain⟨h1,h2⟩:=ag1 (Dv h hv) (Dv h' hv') r s e;rw[Ac hv,Ac hv']at h1;exact⟨h1,h2⟩
theorem uY{s:aJ}(h:s.key.valid=true):∀n∈s.ns,n.checkN=0:=fun n hn=>by
 obtain⟨-,h1,h2⟩:=bD.nD.1 h;rw[←kZ];exact(VN.1 h2).1 _ (az9.2 ⟨n,hn,rfl⟩)
theorem WR{w:World}{s t:aJ}(h:dJ K w s)(h':dJ K w t)(hv:s.key.valid=true)(hv':t.key.valid=true)(r q:List UInt8)(e:dU s.key++r=dU t.key++q):s.key=t.key∧r=q:=by
 unfold dU at e;simp only[az0]at e;have e:=List.append_cancel_left e;obtain⟨e1,e⟩:=kF e ⟨h.1,h.2.1,trivial⟩ ⟨h'.1,h'.2.1,trivial⟩;obtain⟨e2,e⟩:=SE _ _ _ _ e;have l1:=(qK hv).1;have l2:=(qK hv').1;obtain⟨e3,e⟩:=Du (f:=eG false) (L:=s.key.ns) (M:=t.key.ns) (by simp only[aJ.key,aA1]; omega) (by simp only[aJ.key,aA1]; omega) (fun x hx y hy=>by
  obtain⟨n,hn,rfl⟩:=az9.1 hx;obtain⟨m,hm,rfl⟩:=az9.1 hy;exact fun r s e=>LD (h.2.2.2 n hn).1 (h'.2.2.2 m hm).1 (uY hv n hn) (uY hv' m hm) r s e) _ _ e
 simp only[aAf,and_true]at e1;obtain⟨e4,e5⟩:=e1;refine⟨?_,e⟩;generalize s.key=x at *;generalize t.key=y at *;cases x; cases y;simp only at e2 e3 e4 e5;rw[e2,e3,e4,e5]
end Go.Proofs.YtodpgjjgaddkeaaGreatDoor
namespace Go.Sx
open Go.Proofs Go.Proofs.YtodpgjjgaddkeaaGreatDoor Go.RowKit Go.Rel
section
variable{P:Program}{ops:Array Oper}{Q:Exit→Act→World→Prop}{w0 w:World}{a:Act}{os:List Oper}{n:Nat}{l:List (Nat×Value)}{bl:List (Nat×List Value)}{vs:List eX}
theorem St.akD{w0 w:World}{a:Act}{n:Nat}{l:List (Nat×Value)}{bl:List (Nat×List Value)}{vs:List eX}(Az:List (Nat×List Value))(S:St w0 a w n l bl vs)(h:bl=Az:=by rfl):St w0 a w n l Az vs:=h▸S
theorem aiB(S:St w0 a w n l bl vs)(k:Nat){f:FuncId}{args:Array Value}{b:Nat}{A:List Value}(d:Option Nat){R:Ending→World→Prop}(hk:bl[k]?=some (b,A))(hc:Calls P f args w R)
  (next:∀e w',R e w'→∃v A',e = .returned v∧Ext w0 w'∧Ch b w w'∧Bx w' b (List.toArray A')∧∀a',St w0 a' w' n (yB l d v) (bl.set k (b,A')) vs→wpList P ops Q (os.drop 1) a' w')
  (hx:callOf P os l=some (f,args,d):=by kernel_rfl) (hd:vG n d=true:=by rfl):wpList P ops Q os a w:=by
 cases os with
 | nil=>cases hx
 | cons o os =>
  unfold callOf at hx;simp only at hx;split at hx
  ·rename_i f' args' hg hav hev;simp only[azK,azP]at hx;obtain⟨rfl,rfl,rfl⟩:=hx;simp only[aAz]at hav;have hrun:(execOp a.eval o).run P w = .ok (.enter f' args') w:=lG (Std.act a) (ig (bY S.s) o) (p:=[]) rfl hav.1 (by simpa using hav.2) hev;unfold wpList;rw[azI (by simp[Region.wanted,hg])];left;unfold Oper.wp;rw[hrun];simp only[Oper.upon];refine hc.mono fun e w' hR=>?_;obtain⟨v,A',rfl,hE,hC,hX,hn⟩:=next e w' hR;exact hn _ ((S.ch hC hk hX hE).act (uP S.s hd v))
  cases hx
end
section
variable{P:Program}{B:Exit→Act→World→Prop}{n:Nat}{w0 w:World}{a:Act}{bl:List (Nat×List Value)}{vs:List eX}{z:Zt}
theorem aW(S:St w0 a w n z.l bl vs)(k:Nat){f:FuncId}{args:Array Value}{b:Nat}{A:List Value}{R:Ending→World→Prop}(hkk:bl[k]?=some (b,A))(hc:Calls P f args w R)
  (next:∀e w',R e w'→∃v A',e = .returned v∧Ext w0 w'∧Ch b w w'∧Bx w' b (List.toArray A')∧∀{a'},St w0 a' w' n (vS v (zN P n z)).l (bl.set k (b,A')) vs→Gz P B (vS v (zN P n z)) a' w')
  (hx:callOf P (oH (zN P n z)) (zN P n z).l=some (f,args,lD (zN P n z)):=by kernel_rfl) (ho:(tY (zN P n z)&&vG n (lD (zN P n z)))=true:=by kernel_rfl):Gz P B z a w:=by
 simp only[azY]at ho;refine tZ S fun S=>zop ho.1 (aiB S k _ hkk hc (fun e w' hR=>?_) hx ho.2);obtain⟨v,A',h1,h2,h4,h5,h3⟩:=next e w' hR;exact⟨v,A',h1,h2,h4,h5,fun a' S'=>IE (m:=1) (l:=[]) ho.1 (h3 S')⟩
end
end Go.Sx
namespace Go.Proofs.YtodpgjjgaddkeaaGreatDoor
open Go.RowKit En
variable{α β:Type}{K:Nat}
def Got(f:α→List UInt8)(ok:α→Prop)(l:List UInt8)(p:Nat)(bad:Bool)(p':Nat)(bad':Bool)(x:α):Prop:=∀y r,ok y→bad=false→l.drop p=f y++r→x=y∧bad'=false∧l.drop p'=r
def ag2(l:List UInt8)(p:Nat)(bad:Bool)(p':Nat)(bad':Bool)(k:Nat):Prop:=∀n r,n<18446744073709551616→n≤r.length→bad=false→l.drop p=dV 10 n++r→k=n∧bad'=false∧l.drop p'=r
theorem BR{l B r:List UInt8}{p:Nat}(h:l.drop p=B++r):l.drop (p+B.length)=r:=by rw[←aB9,h,List.drop_left]
theorem OQ{l B r:List UInt8}{p:Nat}(h:l.drop p=B++r)(hB:0<B.length):p<l.length:=by
 rcases aAx p l.length with h1 | h1
 ·exact h1
 rw[aA4 h1]at h;have:=azT List.length h;simp at this; omega
theorem YJ{l r:List UInt8}{p n:Nat}(h:l.drop p=dV 10 n++r)(hn:n<18446744073709551616):xO l (p:Int)=(n,p+(dV 10 n).length,0):=by
 have hp:=OQ h (Bj 9 n);rw[Px.WE (aBy hp),h,oG n r hn]
theorem ag3{l:List UInt8}{p:Nat}{bad:Bool}:Got iB I64 l p bad (riP l p bad) (riB l p bad) (riV l p bad):=fun y r hy hb h=>by
 subst hb;have hu:=YJ h (NQ hy.1 hy.2);have hv:vat l (p:Int)=(y,p+(iB y).length,0):=by
  unfold vat;rw[hu,Df]
 obtain⟨-,q1,q2,q3⟩:=aiz (bad:=false) hv rfl;rw[q1,q2,q3];exact⟨rfl,rfl,BR h⟩
theorem aaS{l:List UInt8}{p:Nat}{bad:Bool}:ag2 l p bad (rcP l p bad) (rcB l p bad) (rcV l p bad):=fun n r hn hr hb h=>by
 subst hb;have hu:=YJ h hn;have hd:=BR h;have hl:n≤l.length-(p+(dV 10 n).length):=by have:=azT List.length hd; simp at this; omega
 obtain⟨q1,q2,q3⟩:=aiA hu ⟨rfl,rfl,hl⟩;rw[q1,q2,q3];exact⟨rfl,rfl,hd⟩
theorem SH{l:List UInt8}{p n:Nat}{bad:Bool}{B r:List UInt8}(hB:B.length=n)(hn:0<n)(hb:bad=false)(h:l.drop p=B++r):Wy l p bad n=B∧EW l p bad n=false∧l.drop (Yw l p bad n)=r:=by
 subst hb hB;have hp:=OQ h hn;have hle:p+B.length≤l.length:=by
  have:=azT List.length h;simp at this; omega
 have ht:EW l p false B.length=false:=by unfold EW; simp; omega
 obtain⟨-,-,h2,h3⟩:=Iw ht;rw[h2,h3];exact⟨by rw[h]; simp,ht,BR h⟩
def iW(f:α→List UInt8)(ok:α→Prop)(l:List UInt8)(p:Nat)(bad:Bool)(m p':Nat)(bad':Bool)(X:List α):Prop:=∀ys r,ys.length=m→(∀y∈ys,ok y)→bad=false→l.drop p=ys.flatMap f++r→X=ys∧bad'=false∧l.drop p'=r
theorem iW.nil{f:α→List UInt8}{ok:α→Prop}{l:List UInt8}{p:Nat}{bad:Bool}:iW f ok l p bad 0 p bad []:=fun ys r hl hk hb h=>by
 obtain rfl:=aCd.1 hl;exact⟨rfl,hb,h⟩
theorem iW.snoc{f:α→List UInt8}{ok:α→Prop}{l:List UInt8}{p p1 p2 m:Nat}{bad b1 b2:Bool}{X:List α}{x:α}(h:iW f ok l p bad m p1 b1 X)(k:Got f ok l p1 b1 p2 b2 x):iW f ok l p bad (m+1) p2 b2 (X++[x]):=fun ys r hl hk hb e=>by
 obtain⟨zs,z,rfl⟩:∃zs z,ys=zs++[z]:=⟨ys.dropLast,ys.getLast (by intro e; subst e; cases hl),(List.dropLast_concat_getLast _).symm⟩;rw[aBm,az0]at e;obtain⟨rfl,h2,h3⟩:=h zs _ (by simpa using hl) (fun y hy=>hk y (aBM _ hy)) hb e;obtain⟨rfl,h4,h5⟩:=k z r (hk z (by simp)) h2 (by rw[h3]; simp);exact⟨rfl,h4,h5⟩
theorem iW.fail{f:α→List UInt8}{ok:α→Prop}{l:List UInt8}{p p1 p2 k m:Nat}{bad b2:Bool}{X Y:List α}(h:iW f ok l p bad k p1 true X)(hk:k≤m):iW f ok l p bad m p2 b2 Y:=fun ys r hl hok hb e=>by
 exfalso;rw[←aBC k ys,aBm,az0]at e;have:=(h (ys.take k) _ (by simp; omega) (fun y hy=>hok y (aB5 hy)) hb e).2.1;cases this
theorem iW.lst{f:α→List UInt8}{ok:α→Prop}{l:List UInt8}{p p1 p2 k:Nat}{bad b1 b2:Bool}{X:List α}(hc:ag2 l p bad p1 b1 k)(h:iW f ok l p1 b1 k p2 b2 X)(hf:∀x,0<(f x).length):Got (iy f) (fun ys=>ys.length<18446744073709551616∧∀y∈ys,ok y) l p bad p2 b2 X:=fun ys r hok hb e=>by
 unfold iy at e;rw[az0]at e;have hlen:ys.length≤(ys.flatMap f).length:=by
  clear e hok;induction ys with
  | nil=>simp
  | cons y ys ih=>have:=hf y; rw[aAO,azL,aAn]; omega
 obtain⟨rfl,h2,h3⟩:=hc ys.length _ hok.1 (by rw[azL]; omega) hb e;exact h ys r rfl hok.2 h2 h3
theorem lg(x:Int)(L:List Int):dW (x::L)=iB x++dW L:=rfl
theorem uf(x:Int):dW [x]=iB x:=by rw[lg]; exact aAL _
theorem IG(x:Int):0<(iB x).length:=Bj 9 _
def WS(p:jS):List UInt8:=dW [p.x,p.y]
theorem akE{l:List UInt8}{p p1 p2:Nat}{bad b1 b2:Bool}{x y:Int}(h1:Got iB I64 l p bad p1 b1 x)(h2:Got iB I64 l p1 b1 p2 b2 y):Got WS jS.ok l p bad p2 b2 ⟨x,y⟩:=fun z r hz hb e=>by
 unfold WS at e;rw[lg,uf,az0]at e;obtain⟨e1,c1,e⟩:=h1 _ _ hz.1 hb e;obtain⟨e2,c2,e⟩:=h2 _ _ hz.2 c1 e;exact⟨by rw[e1,e2],c2,e⟩
theorem LG(s:dM):kH s=iB s.verb++(WS s.a++(WS s.b++WS s.c)):=by
 unfold kH WS; simp only[lg,az0]; rfl
theorem ag4{l:List UInt8}{p p1 p2 p3 p4:Nat}{bad b1 b2 b3 b4:Bool}{v:Int}{x y z:jS}(h1:Got iB I64 l p bad p1 b1 v)(h2:Got WS jS.ok l p1 b1 p2 b2 x)(h3:Got WS jS.ok l p2 b2 p3 b3 y)(h4:Got WS jS.ok l p3 b3 p4 b4 z):Got kH dM.ok l p bad p4 b4 ⟨v,x,y,z⟩:=fun s r hs hb e=>by
 rw[LG]at e;simp only[az0]at e;obtain⟨e1,c,e⟩:=h1 _ _ hs.1 hb e;obtain⟨e2,c,e⟩:=h2 _ _ hs.2.1 c e;obtain⟨e3,c,e⟩:=h3 _ _ hs.2.2.1 c e;obtain⟨e4,c,e⟩:=h4 _ _ hs.2.2.2 c e;exact⟨by rw[e1,e2,e3,e4],c,e⟩
theorem II(s:dM):0<(kH s).length:=by rw[LG,azL]; have:=IG s.verb; omega
theorem aeh{l:List UInt8}{p p1 p2:Nat}{bad b1 b2:Bool}{v:Int}{q:bC}(h1:Got iB I64 l p bad p1 b1 v)(h2:Got Px.pb (fun _=>True) l p1 b1 p2 b2 q):Got jf dH.ok l p bad p2 b2 ⟨v,q⟩:=fun s r hs hb e=>by
 unfold jf at e;rw[uf,az0]at e;obtain⟨e1,c,e⟩:=h1 _ _ hs hb e;obtain⟨e2,c,e⟩:=h2 _ _ trivial c e;exact⟨by rw[e1,e2],c,e⟩
theorem aaT(s:dH):0<(jf s).length:=by unfold jf; rw[azL,uf]; have:=IG s.o; omega
end Go.Proofs.YtodpgjjgaddkeaaGreatDoor
namespace Go.Proofs.YtodpgjjgaddkeaaGreatDoor
open Go.RowKit
variable{α:Type}{K:Nat}
def Kr(w0 w w':World)(b:Nat)(a:Option Addr)(l:List UInt8)(cap:Nat)(pk:Bool)(p':Nat)(d':Bool):Prop:=p'≤l.length∧Ext w0 w'∧Ch b w w'∧Bx w' b #[.slice a l.length cap,.i p',.bool d',.bool pk]
theorem jg{w0 w:World}{b p cap:Nat}{a:Option Addr}{bad pk:Bool}{l:List UInt8}(hE:Ext w0 w)(hx:Bx w b #[.slice a l.length cap,.i p,.bool bad,.bool pk])(hb:w0.heap.size≤b)(h:jr w0 (.slice a l.length cap) l)(hp:p≤l.length) :
  Calls Tryz.prog 77 #[.q b 0] w fun e w'=>∃x p' d',e = .returned (.i x)∧I64 x∧Got iB I64 l p bad p' d' x∧Kr w0 w w' b a l cap pk p' d':=
 (aaQ hE hx hb h hp).mono fun e w' ⟨h1,h2,h3,h4⟩=>⟨_,_,_,h1,by unfold riV; split; (exact⟨by decide,by decide⟩); exact aed,ag3,aku hp,h2,h3,h4⟩
theorem uZ{w0 w:World}{b p cap:Nat}{a:Option Addr}{bad pk:Bool}{l:List UInt8}(hE:Ext w0 w)(hx:Bx w b #[.slice a l.length cap,.i p,.bool bad,.bool pk])(hb:w0.heap.size≤b)(h:jr w0 (.slice a l.length cap) l)(hp:p≤l.length) :
  Calls Tryz.prog 80 #[.q b 0] w fun e w'=>∃(k:Nat) (p':Nat) (d':Bool),e = .returned (.i k)∧k≤l.length∧ag2 l p bad p' d' k∧Kr w0 w w' b a l cap pk p' d':=
 (Sz hE hx hb h hp).mono fun e w' ⟨h1,h2,h3,h4⟩=>⟨_,_,_,h1,akx,aaS,akw hp,h2,h3,h4⟩
theorem ag5{q q':bC}(h:Px.pb q=Px.pb q'):q=q':=(Px.Vu (x:=[]) (y:=[]) (by rw[h])).1
theorem aei{l:List UInt8}{p:Nat}{bad:Bool}{q:bC}(hq:Px.pb q=Wy l p bad 4):Got Px.pb (fun _=>True) l p bad (Yw l p bad 4) (EW l p bad 4) q:=fun y r _ hb e=>by
 obtain⟨h1,h2,h3⟩:=SH (n:=4) rfl (by decide) hb e;exact⟨ag5 (hq.trans h1),h2,h3⟩
theorem FK{w0 w:World}{b p cap:Nat}{a:Option Addr}{bad pk:Bool}{l:List UInt8}(hE:Ext w0 w)(hx:Bx w b #[.slice a l.length cap,.i p,.bool bad,.bool pk])(hb:w0.heap.size≤b)(h:jr w0 (.slice a l.length cap) l)(hp:p≤l.length) :
  Calls Tryz.prog 78 #[.q b 0] w fun e w'=>∃q p' d',e = .returned (.agg (bC.cells q).toArray)∧Got Px.pb (fun _=>True) l p bad p' d' q∧Kr w0 w w' b a l cap pk p' d':=
 (Ej hE hx hb h hp).mono fun e w' ⟨q,h1,h0,h2,h3,h4⟩=>⟨_,_,_,h1,aei h0,WA hp,h2,h3,h4⟩
theorem ag6{w0 w:World}{b p cap:Nat}{a:Option Addr}{bad pk:Bool}{l:List UInt8}(hE:Ext w0 w)(hx:Bx w b #[.slice a l.length cap,.i p,.bool bad,.bool pk])(hb:w0.heap.size≤b)(h:jr w0 (.slice a l.length cap) l)(hp:p≤l.length) :
  Calls Tryz.prog 171 #[.q b 0] w fun e w'=>∃q p' d',e = .returned (.agg (bC.cells q).toArray)∧Got Px.pb (fun _=>True) l p bad p' d' q∧Kr w0 w w' b a l cap pk p' d':=
 (Sl hE hx hb h hp).mono fun e w' ⟨q,h1,h0,h2,h3,h4⟩=>⟨_,_,_,h1,aei h0,WA hp,h2,h3,h4⟩
def jK(base:Nat)(v:Value):Prop:=∀g,v.ownBlock=some g→base≤g
theorem jK.step{base:Nat}{w0 u u':World}{bl:List (Nat×List Value)}{r r':Sx.Row}(hf:jK base r.v)(R':Sx.Rw w0 u' bl [r'])(X:Sx.Stp (Sx.Ob bl [r]) u (Sx.Ob bl [r']) u')(hs:base≤u.heap.size):jK base r'.v:=fun g hg=>by
 have hm:g∈Sx.Ob bl [r']:=Sx.jq azV hg;rcases X.new g hm with h | h
 ·unfold Sx.Ob at h;rcases aAl.1 h with h | h
  ·exfalso;have ha:=R'.apart;unfold Sx.Ob at ha;have hd:=(aBd.1 ha).2.2 g h g (aBb.2 ⟨r',azV,hg⟩);exact hd rfl
  obtain⟨s,hs',he⟩:=aBb.1 h;obtain rfl:=aAb.1 hs';exact hf g he
 omega
theorem jK.own{base B k n:Nat}{w:World}{e:TypeId}{v:Value}{xs:List Value}(hf:jK base v)(h:w.ownsRow B e k v n xs):w.ownsRow base e k v n xs:=by
 obtain⟨h1,h | ⟨g,cap,cur,rfl,h2,h3,h4⟩⟩:=h
 ·exact⟨h1,.inl h⟩
 exact⟨h1,.inr ⟨g,cap,cur,rfl,hf g rfl,h3,h4⟩⟩
theorem Dw{b:Nat}{w u u':World}{bl:List (Nat×List Value)}{r:Sx.Row}{O:List Nat}(h:Ch b w u)(X:Sx.Stp (Sx.Ob bl [r]) u O u')(hbl:∀p∈bl,p.1=b∨w.heap.size≤p.1)(hf:jK w.heap.size r.v):Ch b w u':=
 ⟨X.fr.os.trans h.os,X.fr.tape.trans h.tape,X.fr.output.trans h.output,az3 h.size X.fr.size,fun i hi hn=>(X.fr.block i (aAa hi h.size) (fun hm=>by
  unfold Sx.Ob at hm
  rcases aAl.1 hm with hm | hm
  ·obtain⟨p,hp,rfl⟩:=az9.1 hm
   rcases hbl p hp with e | e
   ·exact hn (by rw[e])
   ·omega
  ·obtain⟨s,hs,he⟩:=aBb.1 hm
   obtain rfl:=aAb.1 hs
   have:=hf i he; omega)).trans (h.block i hi hn)⟩
theorem Dx{w0 w:World}{bl:List (Nat×List Value)}{e:TypeId}{k:Nat}(R:Sx.Rw w0 w bl []):Sx.Rw w0 w bl [⟨e,k,.sn,0,[]⟩]:=
 ⟨fun r hr=>by obtain rfl:=aAb.1 hr; exact⟨by simp,.inl ⟨rfl,rfl⟩⟩,R.lt,R.apart⟩
theorem jK.nil(base:Nat):jK base (.sn):=fun g h=>by cases h
theorem BU{w0 w:World}{b p cap:Nat}{a:Option Addr}{bad pk:Bool}{l:List UInt8}(hE:Ext w0 w)(hx:Bx w b #[.slice a l.length cap,.i p,.bool bad,.bool pk])(hb:w0.heap.size≤b)(h:jr w0 (.slice a l.length cap) l)(hp:p≤l.length) :
  Calls Tryz.prog 165 #[.q b 0] w fun e w'=>∃(x:jS) (p':Nat) (d':Bool),e = .returned (.agg #[.i x.x,.i x.y])∧x.ok∧Got WS jS.ok l p bad p' d' x∧Kr w0 w w' b a l cap pk p' d':=by
 skip;refine azE Tryz.func165 Tryz.ntmps165 hE hx hb fun S=>azd S (fun u b2 E3 hb4 S=>?_);have S:=S.fl;have y6:=(((Ch.trans (Ch.refl b w) (Ch.aZ E3)))).size;refine Sx.aW S 1 rfl (jg S.E (S.bx 1) (S.old 1) h hp) ?_;rintro e u ⟨x6,p6,d6,rfl,i6,g6,hp6,WB,BN,WC⟩;refine⟨_,_,rfl,WB,BN,WC,fun S=>?_⟩;have hs6:=BN.size;have Lm:=(aH ((Ch.trans (Ch.refl b w) (Ch.aZ E3))) BN);have S:=S.fl;have y9:=(Lm).size;refine Sx.aW S 1 rfl (jg S.E (S.bx 1) (S.old 1) h hp6) ?_;rintro e u ⟨x9,p9,d9,rfl,i9,g9,hp9,hE9,hC9,hX9⟩;refine⟨_,_,rfl,hE9,hC9,hX9,fun S=>?_⟩;have hs9:=hC9.size;have aej:=(aH Lm hC9);refine azf S 0 rfl (fun u Ya S=>?_);have Bf:=(aH aej Ya);refine azq S 0 rfl (v := .agg #[.i x6,.i x9]) (fun S=>?_);exact⟨⟨x6,x9⟩,_,_,rfl,⟨i6,i9⟩,akE g6 g9,hp9,S.E,Bf,S.lu 1⟩
theorem ani{w0 w:World}{b p cap:Nat}{a:Option Addr}{bad pk:Bool}{l:List UInt8}(hE:Ext w0 w)(hx:Bx w b #[.slice a l.length cap,.i p,.bool bad,.bool pk])(hb:w0.heap.size≤b)(h:jr w0 (.slice a l.length cap) l)(hp:p≤l.length) :
  Calls Tryz.prog 119 #[.q b 0] w fun e w'=>∃(x:dM) (p':Nat) (d':Bool),e = .returned (.agg x.cells.toArray)∧x.ok∧Got kH dM.ok l p bad p' d' x∧Kr w0 w w' b a l cap pk p' d':=by
 skip;refine azE Tryz.func119 Tryz.ntmps119 hE hx hb fun S=>azd S (fun u b2 E3 hb4 S=>?_);have S:=S.fl;have y6:=(((Ch.trans (Ch.refl b w) (Ch.aZ E3)))).size;refine Sx.aW S 1 rfl (jg S.E (S.bx 1) (S.old 1) h hp) ?_;rintro e u ⟨x6,p6,d6,rfl,i6,g6,hp6,WB,BN,WC⟩;refine⟨_,_,rfl,WB,BN,WC,fun S=>?_⟩;have hs6:=BN.size;have Lm:=(aH ((Ch.trans (Ch.refl b w) (Ch.aZ E3))) BN);refine azd S fun u b8 E9 zo S=>azf S 0 rfl (fun u Ya S=>?_);have qM:=azg E9 Ya;have S:=S.fl;have y14:=(((Ch.trans Lm (Ch.aZ qM)))).size;refine Sx.aW S 2 rfl (BU S.E (S.bx 2) (S.old 2) h hp6) ?_;rintro e u ⟨x14,p14,d14,rfl,i14,g14,WT,aek,IJ,ael⟩;refine⟨_,_,rfl,aek,IJ,ael,fun S=>?_⟩;have anj:=IJ.size;have oN:=(aH ((Ch.trans Lm (Ch.aZ qM))) IJ);have S:=S.fl;have y16:=(oN).size;refine Sx.aW S 2 rfl (BU S.E (S.bx 2) (S.old 2) h WT) ?_;rintro e u ⟨x16,p16,d16,rfl,i16,g16,arB,arC,akF,arD⟩;refine⟨_,_,rfl,arC,akF,arD,fun S=>?_⟩;have axE:=akF.size;have vO:=(aH oN akF);have S:=S.fl;have y18:=(vO).size;refine Sx.aW S 2 rfl (BU S.E (S.bx 2) (S.old 2) h arB) ?_;rintro e u ⟨x18,p18,d18,rfl,YK,g18,OT,OU,vg,OV⟩;refine⟨_,_,rfl,OU,vg,OV,fun S=>?_⟩;have ag7:=vg.size;have oO:=(aH vO vg);refine azf S 0 rfl (fun u yL S=>?_);have uM:=(aH oO yL);refine azf S 0 rfl (fun u C22 S=>?_);have G7:=(aH uM C22);refine azf S 0 rfl (fun u Ny S=>?_);have CS:=(aH G7 Ny);refine adr S 1 [] [.mem 0 0] fun S=>azf S 1 rfl (fun u C27 S=>?_);have S:=S.fl;have Di:=(aH CS C27);refine azq S 1 rfl (v := .agg #[.i x6,.i x14.x,.i x14.y,.i x16.x,.i x16.y,.i x18.x,.i x18.y]) (fun S=>?_);exact⟨⟨x6,x14,x16,x18⟩,_,_,rfl,⟨i6,i14,i16,YK⟩,ag4 g6 g14 g16 g18,OT,S.E,Di,S.lu 2⟩
theorem akG{w0 w:World}{b p cap:Nat}{a:Option Addr}{bad pk:Bool}{l:List UInt8}(hE:Ext w0 w)(hx:Bx w b #[.slice a l.length cap,.i p,.bool bad,.bool pk])(hb:w0.heap.size≤b)(h:jr w0 (.slice a l.length cap) l)(hp:p≤l.length) :
  Calls Tryz.prog 167 #[.q b 0] w fun e w'=>∃(x:dH) (p':Nat) (d':Bool),e = .returned (.agg x.cells.toArray)∧x.ok∧Got jf dH.ok l p bad p' d' x∧Kr w0 w w' b a l cap pk p' d':=by
 skip;refine azE Tryz.func167 Tryz.ntmps167 hE hx hb fun S=>azd S (fun u b2 E3 hb4 S=>?_);have S:=S.fl;have y6:=(((Ch.trans (Ch.refl b w) (Ch.aZ E3)))).size;refine Sx.aW S 1 rfl (jg S.E (S.bx 1) (S.old 1) h hp) ?_;rintro e u ⟨x6,p6,d6,rfl,i6,g6,hp6,WB,BN,WC⟩;refine⟨_,_,rfl,WB,BN,WC,fun S=>?_⟩;have hs6:=BN.size;have Lm:=(aH ((Ch.trans (Ch.refl b w) (Ch.aZ E3))) BN);have S:=S.fl;have y9:=(Lm).size;refine Sx.aW S 1 rfl (FK S.E (S.bx 1) (S.old 1) h hp6) ?_;rintro e u ⟨q9,p9,d9,rfl,g9,hp9,hE9,hC9,hX9⟩;refine⟨_,_,rfl,hE9,hC9,hX9,fun S=>?_⟩;have hs9:=hC9.size;have aej:=(aH Lm hC9);refine azf S 0 rfl (fun u Ya S=>?_);have Bf:=(aH aej Ya);refine azq S 0 rfl (v := .agg (Sx.L [.i x6]++q9.cells).toArray) (fun S=>?_);exact⟨⟨x6,q9⟩,_,_,rfl,i6,aeh g6 g9,hp9,S.E,Bf,S.lu 1⟩
theorem YL{w0 w:World}{b p cap:Nat}{a:Option Addr}{bad pk:Bool}{l:List UInt8}(hE:Ext w0 w)(hx:Bx w b #[.slice a l.length cap,.i p,.bool bad,.bool pk])(hb:w0.heap.size≤b)(h:jr w0 (.slice a l.length cap) l)(hp:p≤l.length){n:Nat}(hn:n≤l.length)(hll:l.length≤100000000) :
  Calls Tryz.prog 118 #[.q b 0,.i n,.func (.func 119) #[.q b 0] #[]] w fun e w'=>∃(v:Value) (X:List dM) (p':Nat) (d':Bool),e = .returned v∧X.length≤n∧(∀s∈X,dM.ok s)∧Sx.aU w.heap.size (fun W=>aI 7 dM.cells W v X) w'∧iW kH dM.ok l p bad n p' d' X∧Kr w0 w w' b a l cap pk p' d':=by
 skip;refine azE Tryz.func118 Tryz.ntmps118 hE hx hb (fun S=>?_);have R:=aAo S;have IK:=(Ch.refl b w);refine azw S (ι:=Nat×Value×List dM×Nat×Bool) (fun pq a' w'=>pq.1≤n∧(jK w.heap.size pq.2.1∧pq.2.2.1.length=pq.1∧(∀s∈pq.2.2.1,dM.ok s)∧pq.2.2.2.1≤l.length∧iW kH dM.ok l p bad pq.1 pq.2.2.2.1 pq.2.2.2.2 pq.2.2.1∧Ch b w w')∧Sx.Rw w0 w' [(b,[.slice a l.length cap,.i pq.2.2.2.1,.bool pq.2.2.2.2,.bool pk])] [⟨163,7,pq.2.1,pq.2.2.1.length,pq.2.2.1.flatMap dM.cells⟩]∧Sx.St w0 a' w' 22 [(0,.q b 0),(1,.i n),(2,.func (.func 119) #[.q b 0] #[]),(6,.sn),(7,pq.2.1),(8,.i n),(9,.i pq.1)] [(b,[.slice a l.length cap,.i pq.2.2.2.1,.bool pq.2.2.2.2,.bool pk])] []) (fun pq=>n-pq.1) (0,(.sn),[],p,bad) (fun S=>⟨azQ _,⟨jK.nil _,rfl,(fun x hx=>by cases hx),hp,iW.nil,IK⟩,Dx R,S.sn⟩) ?_;rintro⟨k,v,M,pp,dd⟩ ac u gW eH hI;try dsimp only at hI
 obtain⟨hk,hR,R,S⟩:=hI;refine azx S (fun S=>?_);obtain⟨hfv,hML,J7,hpp,hG,hch⟩:=hR;refine azb S (decide ((k:Int)<(n:Int))) (fun nJ S=>?_) (fun nJ S=>?_)
 ·refine adr S 4 [] [.mem 0 2] fun S=>azb S (dd) (fun gU S=>?_) (fun gU S=>?_)
  ·refine ay9 S (.sn) (fun S=>?_);exact⟨_,[],_,_,rfl,azQ _,(fun x hx=>by cases hx),fun W _ _=>dI _ _ _,(iW.fail (by rw[gU]at hG; exact hG) hk),hpp,S.E,hch,S.bx 0⟩
  have S:=S.fl;have y13:=(hch).size;refine Sx.aW S 0 rfl (ani S.E (S.bx 0) (S.old 0) h hpp) ?_;rintro e u ⟨BX,p13,d13,rfl,i13,g13,Kt,Ad,oI,IL⟩;refine⟨_,_,rfl,Ad,oI,IL,fun S=>?_⟩;have aem:=oI.size;have zJ:=(aH hch oI);refine azh S BX.cells (fun u b15 EN vM S=>?_);obtain⟨R,Y18⟩:=R.bP S (az2 (Sx.Stp.Oc oI) (aAM EN vM));have hlt:k<n:=by have:=azZ nJ; omega
  have wW:=((Ch.trans zJ (Ch.aZ EN)));have hus:=wW.size;refine azl S fun S=>Sx.app S R 0 19 rfl air (Sx.qJ (m:=1) (k:=7) (A:=BX.cells) (S.bx 0)) (by show M.length+1≤9223372036854775807; omega) (by show(M.length+1)*_≤140737488355328; omega) fun ac u v19 Vg R S=>azr S (fun S=>?_);have hfr:=jK.step (r:=⟨163,7,v,M.length,M.flatMap dM.cells⟩) hfv R Vg hus;have IQ:=Dw (r:=⟨163,7,v,M.length,M.flatMap dM.cells⟩) wW Vg (fun p hp=>by rcases azS.1 hp with rfl | hp; (exact .inr (by show _≤b15; omega)); rcases azS.1 hp with rfl | hp; (exact .inl rfl); cases hp) hfv;have S:=S.iH 1;obtain⟨R,Y21⟩:=R.bP S (aAE 1);refine adr S 3 [] [.re 20 (.i (IntKind.i64.wrap ((k:Int)+1))) (.i (k+1:Nat))] (hk:=⟨azt (by omega),trivial⟩) fun S=>azy S gW (fun S=>?_);exact eH _ _ ((k+1),v19,(M++[BX]),p13,d13) ⟨by omega,⟨hfr,by rw[azL,hML]; rfl,(fun z hz=>by rcases aAl.1 hz with hz | hz; (exact J7 z hz); obtain rfl:=aAb.1 hz; exact i13),Kt,by exact hG.snoc g13,IQ⟩,R.as (show [(⟨163,7,v19,M.length+1,M.flatMap dM.cells++BX.cells⟩:Sx.Row)]=[⟨163,7,v19,(M++[BX]).length,(M++[BX]).flatMap dM.cells⟩] by simp),S.sn⟩ (by show _-_<_-_; omega)
 have hkn:k=n:=by have:=az4 nJ; omega
 refine ay9 S v (fun S=>?_);exact⟨_,M,_,_,rfl,by omega,J7,Sx.kQ (f:=dM.cells) (L:=M) (fun _=>rfl) (hfv.own (R.own _ azV)) rfl rfl,hkn▸hG,hpp,S.E,hch,S.bx 0⟩
theorem aen{w0 w:World}{b p cap:Nat}{a:Option Addr}{bad pk:Bool}{l:List UInt8}(hE:Ext w0 w)(hx:Bx w b #[.slice a l.length cap,.i p,.bool bad,.bool pk])(hb:w0.heap.size≤b)(h:jr w0 (.slice a l.length cap) l)(hp:p≤l.length){n:Nat}(hn:n≤l.length)(hll:l.length≤100000000) :
  Calls Tryz.prog 166 #[.q b 0,.i n,.func (.func 167) #[.q b 0] #[]] w fun e w'=>∃(v:Value) (X:List dH) (p':Nat) (d':Bool),e = .returned v∧X.length≤n∧(∀s∈X,dH.ok s)∧Sx.aU w.heap.size (fun W=>aI 5 dH.cells W v X) w'∧iW jf dH.ok l p bad n p' d' X∧Kr w0 w w' b a l cap pk p' d':=by
 skip;refine azE Tryz.func166 Tryz.ntmps166 hE hx hb (fun S=>?_);have R:=aAo S;have IK:=(Ch.refl b w);refine azw S (ι:=Nat×Value×List dH×Nat×Bool) (fun pq a' w'=>pq.1≤n∧(jK w.heap.size pq.2.1∧pq.2.2.1.length=pq.1∧(∀s∈pq.2.2.1,dH.ok s)∧pq.2.2.2.1≤l.length∧iW jf dH.ok l p bad pq.1 pq.2.2.2.1 pq.2.2.2.2 pq.2.2.1∧Ch b w w')∧Sx.Rw w0 w' [(b,[.slice a l.length cap,.i pq.2.2.2.1,.bool pq.2.2.2.2,.bool pk])] [⟨202,5,pq.2.1,pq.2.2.1.length,pq.2.2.1.flatMap dH.cells⟩]∧Sx.St w0 a' w' 22 [(0,.q b 0),(1,.i n),(2,.func (.func 167) #[.q b 0] #[]),(6,.sn),(7,pq.2.1),(8,.i n),(9,.i pq.1)] [(b,[.slice a l.length cap,.i pq.2.2.2.1,.bool pq.2.2.2.2,.bool pk])] []) (fun pq=>n-pq.1) (0,(.sn),[],p,bad) (fun S=>⟨azQ _,⟨jK.nil _,rfl,(fun x hx=>by cases hx),hp,iW.nil,IK⟩,Dx R,S.sn⟩) ?_;rintro⟨k,v,M,pp,dd⟩ ac u gW eH hI;try dsimp only at hI
 obtain⟨hk,hR,R,S⟩:=hI;refine azx S (fun S=>?_);obtain⟨hfv,hML,J7,hpp,hG,hch⟩:=hR;refine azb S (decide ((k:Int)<(n:Int))) (fun nJ S=>?_) (fun nJ S=>?_)
 ·refine adr S 4 [] [.mem 0 2] fun S=>azb S (dd) (fun gU S=>?_) (fun gU S=>?_)
  ·refine ay9 S (.sn) (fun S=>?_);exact⟨_,[],_,_,rfl,azQ _,(fun x hx=>by cases hx),fun W _ _=>dI _ _ _,(iW.fail (by rw[gU]at hG; exact hG) hk),hpp,S.E,hch,S.bx 0⟩
  have S:=S.fl;have y13:=(hch).size;refine Sx.aW S 0 rfl (akG S.E (S.bx 0) (S.old 0) h hpp) ?_;rintro e u ⟨BX,p13,d13,rfl,i13,g13,Kt,Ad,oI,IL⟩;refine⟨_,_,rfl,Ad,oI,IL,fun S=>?_⟩;have aem:=oI.size;have zJ:=(aH hch oI);refine azh S BX.cells (fun u b15 EN vM S=>?_);obtain⟨R,Y18⟩:=R.bP S (az2 (Sx.Stp.Oc oI) (aAM EN vM));have hlt:k<n:=by have:=azZ nJ; omega
  have wW:=((Ch.trans zJ (Ch.aZ EN)));have hus:=wW.size;refine azl S fun S=>Sx.app S R 0 19 rfl adN (Sx.qJ (m:=1) (k:=5) (A:=BX.cells) (S.bx 0)) (by show M.length+1≤9223372036854775807; omega) (by show(M.length+1)*_≤140737488355328; omega) fun ac u v19 Vg R S=>azr S (fun S=>?_);have hfr:=jK.step (r:=⟨202,5,v,M.length,M.flatMap dH.cells⟩) hfv R Vg hus;have IQ:=Dw (r:=⟨202,5,v,M.length,M.flatMap dH.cells⟩) wW Vg (fun p hp=>by rcases azS.1 hp with rfl | hp; (exact .inr (by show _≤b15; omega)); rcases azS.1 hp with rfl | hp; (exact .inl rfl); cases hp) hfv;have S:=S.iH 1;obtain⟨R,Y21⟩:=R.bP S (aAE 1);refine adr S 3 [] [.re 20 (.i (IntKind.i64.wrap ((k:Int)+1))) (.i (k+1:Nat))] (hk:=⟨azt (by omega),trivial⟩) fun S=>azy S gW (fun S=>?_);exact eH _ _ ((k+1),v19,(M++[BX]),p13,d13) ⟨by omega,⟨hfr,by rw[azL,hML]; rfl,(fun z hz=>by rcases aAl.1 hz with hz | hz; (exact J7 z hz); obtain rfl:=aAb.1 hz; exact i13),Kt,by exact hG.snoc g13,IQ⟩,R.as (show [(⟨202,5,v19,M.length+1,M.flatMap dH.cells++BX.cells⟩:Sx.Row)]=[⟨202,5,v19,(M++[BX]).length,(M++[BX]).flatMap dH.cells⟩] by simp),S.sn⟩ (by show _-_<_-_; omega)
 have hkn:k=n:=by have:=az4 nJ; omega
 refine ay9 S v (fun S=>?_);exact⟨_,M,_,_,rfl,by omega,J7,Sx.kQ (f:=dH.cells) (L:=M) (fun _=>rfl) (hfv.own (R.own _ azV)) rfl rfl,hkn▸hG,hpp,S.E,hch,S.bx 0⟩
theorem akH{w0 w:World}{b p cap:Nat}{a:Option Addr}{bad pk:Bool}{l:List UInt8}(hE:Ext w0 w)(hx:Bx w b #[.slice a l.length cap,.i p,.bool bad,.bool pk])(hb:w0.heap.size≤b)(h:jr w0 (.slice a l.length cap) l)(hp:p≤l.length){n:Nat}(hn:n≤l.length)(hll:l.length≤100000000) :
  Calls Tryz.prog 168 #[.q b 0,.i n,.func (.func 77) #[.q b 0] #[]] w fun e w'=>∃(v:Value) (X:List Int) (p':Nat) (d':Bool),e = .returned v∧X.length≤n∧(∀s∈X,I64 s)∧Sx.aU w.heap.size (fun W=>aI 1 (fun x:Int=>[.i x]) W v X) w'∧iW iB I64 l p bad n p' d' X∧Kr w0 w w' b a l cap pk p' d':=by
 skip;refine azE Tryz.func168 Tryz.ntmps168 hE hx hb (fun S=>?_);have R:=aAo S;have IK:=(Ch.refl b w);refine azw S (ι:=Nat×Value×List Int×Nat×Bool) (fun pq a' w'=>pq.1≤n∧(jK w.heap.size pq.2.1∧pq.2.2.1.length=pq.1∧(∀s∈pq.2.2.1,I64 s)∧pq.2.2.2.1≤l.length∧iW iB I64 l p bad pq.1 pq.2.2.2.1 pq.2.2.2.2 pq.2.2.1∧Ch b w w')∧Sx.Rw w0 w' [(b,[.slice a l.length cap,.i pq.2.2.2.1,.bool pq.2.2.2.2,.bool pk])] [⟨3,1,pq.2.1,pq.2.2.1.length,pq.2.2.1.flatMap (fun x:Int=>[.i x])⟩]∧Sx.St w0 a' w' 22 [(0,.q b 0),(1,.i n),(2,.func (.func 77) #[.q b 0] #[]),(6,.sn),(7,pq.2.1),(8,.i n),(9,.i pq.1)] [(b,[.slice a l.length cap,.i pq.2.2.2.1,.bool pq.2.2.2.2,.bool pk])] []) (fun pq=>n-pq.1) (0,(.sn),[],p,bad) (fun S=>⟨azQ _,⟨jK.nil _,rfl,(fun x hx=>by cases hx),hp,iW.nil,IK⟩,Dx R,S.sn⟩) ?_;rintro⟨k,v,M,pp,dd⟩ ac u gW eH hI;try dsimp only at hI
 obtain⟨hk,hR,R,S⟩:=hI;refine azx S (fun S=>?_);obtain⟨hfv,hML,J7,hpp,hG,hch⟩:=hR;refine azb S (decide ((k:Int)<(n:Int))) (fun nJ S=>?_) (fun nJ S=>?_)
 ·refine adr S 4 [] [.mem 0 2] fun S=>azb S (dd) (fun gU S=>?_) (fun gU S=>?_)
  ·refine ay9 S (.sn) (fun S=>?_);exact⟨_,[],_,_,rfl,azQ _,(fun x hx=>by cases hx),fun W _ _=>dI _ _ _,(iW.fail (by rw[gU]at hG; exact hG) hk),hpp,S.E,hch,S.bx 0⟩
  have S:=S.fl;have y13:=(hch).size;refine Sx.aW S 0 rfl (jg S.E (S.bx 0) (S.old 0) h hpp) ?_;rintro e u ⟨BX,p13,d13,rfl,i13,g13,Kt,Ad,oI,IL⟩;refine⟨_,_,rfl,Ad,oI,IL,fun S=>?_⟩;have aem:=oI.size;have zJ:=(aH hch oI);refine azh S [.i BX] (fun u b15 EN vM S=>?_);obtain⟨R,Y18⟩:=R.bP S (az2 (Sx.Stp.Oc oI) (aAM EN vM));have hlt:k<n:=by have:=azZ nJ; omega
  have wW:=((Ch.trans zJ (Ch.aZ EN)));have hus:=wW.size;refine azl S fun S=>Sx.app S R 0 19 rfl ait (Sx.qJ (m:=1) (k:=1) (A:=[.i BX]) (S.bx 0)) (by show M.length+1≤9223372036854775807; omega) (by show(M.length+1)*_≤140737488355328; omega) fun ac u v19 Vg R S=>azr S (fun S=>?_);have hfr:=jK.step (r:=⟨3,1,v,M.length,M.flatMap (fun x:Int=>[.i x])⟩) hfv R Vg hus;have IQ:=Dw (r:=⟨3,1,v,M.length,M.flatMap (fun x:Int=>[.i x])⟩) wW Vg (fun p hp=>by rcases azS.1 hp with rfl | hp; (exact .inr (by show _≤b15; omega)); rcases azS.1 hp with rfl | hp; (exact .inl rfl); cases hp) hfv;have S:=S.iH 1;obtain⟨R,Y21⟩:=R.bP S (aAE 1);refine adr S 3 [] [.re 20 (.i (IntKind.i64.wrap ((k:Int)+1))) (.i (k+1:Nat))] (hk:=⟨azt (by omega),trivial⟩) fun S=>azy S gW (fun S=>?_);exact eH _ _ ((k+1),v19,(M++[BX]),p13,d13) ⟨by omega,⟨hfr,by rw[azL,hML]; rfl,(fun z hz=>by rcases aAl.1 hz with hz | hz; (exact J7 z hz); obtain rfl:=aAb.1 hz; exact i13),Kt,by exact hG.snoc g13,IQ⟩,R.as (show [(⟨3,1,v19,M.length+1,M.flatMap (fun x:Int=>[.i x])++[.i BX]⟩:Sx.Row)]=[⟨3,1,v19,(M++[BX]).length,(M++[BX]).flatMap (fun x:Int=>[.i x])⟩] by simp),S.sn⟩ (by show _-_<_-_; omega)
 have hkn:k=n:=by have:=az4 nJ; omega
 refine ay9 S v (fun S=>?_);exact⟨_,M,_,_,rfl,by omega,J7,Sx.kQ (f:=(fun x:Int=>[.i x])) (L:=M) (fun _=>rfl) (hfv.own (R.own _ azV)) rfl rfl,hkn▸hG,hpp,S.E,hch,S.bx 0⟩
theorem ag8{w0 w:World}{b p cap:Nat}{a:Option Addr}{bad pk:Bool}{l:List UInt8}(hE:Ext w0 w)(hx:Bx w b #[.slice a l.length cap,.i p,.bool bad,.bool pk])(hb:w0.heap.size≤b)(h:jr w0 (.slice a l.length cap) l)(hp:p≤l.length){n:Nat}(hn:n≤l.length)(hll:l.length≤100000000) :
  Calls Tryz.prog 170 #[.q b 0,.i n,.func (.func 171) #[.q b 0] #[]] w fun e w'=>∃(v:Value) (X:List bC) (p':Nat) (d':Bool),e = .returned v∧X.length≤n∧(∀s∈X,True)∧Sx.aU w.heap.size (fun W=>aI 4 bC.cells W v X) w'∧iW Px.pb (fun _=>True) l p bad n p' d' X∧Kr w0 w w' b a l cap pk p' d':=by
 skip;refine azE Tryz.func170 Tryz.ntmps170 hE hx hb (fun S=>?_);have R:=aAo S;have IK:=(Ch.refl b w);refine azw S (ι:=Nat×Value×List bC×Nat×Bool) (fun pq a' w'=>pq.1≤n∧(jK w.heap.size pq.2.1∧pq.2.2.1.length=pq.1∧(∀s∈pq.2.2.1,True)∧pq.2.2.2.1≤l.length∧iW Px.pb (fun _=>True) l p bad pq.1 pq.2.2.2.1 pq.2.2.2.2 pq.2.2.1∧Ch b w w')∧Sx.Rw w0 w' [(b,[.slice a l.length cap,.i pq.2.2.2.1,.bool pq.2.2.2.2,.bool pk])] [⟨178,4,pq.2.1,pq.2.2.1.length,pq.2.2.1.flatMap bC.cells⟩]∧Sx.St w0 a' w' 22 [(0,.q b 0),(1,.i n),(2,.func (.func 171) #[.q b 0] #[]),(6,.sn),(7,pq.2.1),(8,.i n),(9,.i pq.1)] [(b,[.slice a l.length cap,.i pq.2.2.2.1,.bool pq.2.2.2.2,.bool pk])] []) (fun pq=>n-pq.1) (0,(.sn),[],p,bad) (fun S=>⟨azQ _,⟨jK.nil _,rfl,(fun x hx=>by cases hx),hp,iW.nil,IK⟩,Dx R,S.sn⟩) ?_;rintro⟨k,v,M,pp,dd⟩ ac u gW eH hI;try dsimp only at hI
 obtain⟨hk,hR,R,S⟩:=hI;refine azx S (fun S=>?_);obtain⟨hfv,hML,J7,hpp,hG,hch⟩:=hR;refine azb S (decide ((k:Int)<(n:Int))) (fun nJ S=>?_) (fun nJ S=>?_)
 ·refine adr S 4 [] [.mem 0 2] fun S=>azb S (dd) (fun gU S=>?_) (fun gU S=>?_)
  ·refine ay9 S (.sn) (fun S=>?_);exact⟨_,[],_,_,rfl,azQ _,(fun x hx=>by cases hx),fun W _ _=>dI _ _ _,(iW.fail (by rw[gU]at hG; exact hG) hk),hpp,S.E,hch,S.bx 0⟩
  have S:=S.fl;have y13:=(hch).size;refine Sx.aW S 0 rfl (ag6 S.E (S.bx 0) (S.old 0) h hpp) ?_;rintro e u ⟨q13,p13,d13,rfl,g13,Kt,Ad,oI,IL⟩;refine⟨_,_,rfl,Ad,oI,IL,fun S=>?_⟩;have aem:=oI.size;have zJ:=(aH hch oI);refine azh S q13.cells (fun u b15 EN vM S=>?_);obtain⟨R,Y18⟩:=R.bP S (az2 (Sx.Stp.Oc oI) (aAM EN vM));have hlt:k<n:=by have:=azZ nJ; omega
  have wW:=((Ch.trans zJ (Ch.aZ EN)));have hus:=wW.size;refine azl S fun S=>Sx.app S R 0 19 rfl ais (Sx.qJ (m:=1) (k:=4) (A:=q13.cells) (S.bx 0)) (by show M.length+1≤9223372036854775807; omega) (by show(M.length+1)*_≤140737488355328; omega) fun ac u v19 Vg R S=>azr S (fun S=>?_);have hfr:=jK.step (r:=⟨178,4,v,M.length,M.flatMap bC.cells⟩) hfv R Vg hus;have IQ:=Dw (r:=⟨178,4,v,M.length,M.flatMap bC.cells⟩) wW Vg (fun p hp=>by rcases azS.1 hp with rfl | hp; (exact .inr (by show _≤b15; omega)); rcases azS.1 hp with rfl | hp; (exact .inl rfl); cases hp) hfv;have S:=S.iH 1;obtain⟨R,Y21⟩:=R.bP S (aAE 1);refine adr S 3 [] [.re 20 (.i (IntKind.i64.wrap ((k:Int)+1))) (.i (k+1:Nat))] (hk:=⟨azt (by omega),trivial⟩) fun S=>azy S gW (fun S=>?_);exact eH _ _ ((k+1),v19,(M++[q13]),p13,d13) ⟨by omega,⟨hfr,by rw[azL,hML]; rfl,(fun _ _=>trivial),Kt,by exact hG.snoc g13,IQ⟩,R.as (show [(⟨178,4,v19,M.length+1,M.flatMap bC.cells++q13.cells⟩:Sx.Row)]=[⟨178,4,v19,(M++[q13]).length,(M++[q13]).flatMap bC.cells⟩] by simp),S.sn⟩ (by show _-_<_-_; omega)
 have hkn:k=n:=by have:=az4 nJ; omega
 refine ay9 S v (fun S=>?_);exact⟨_,M,_,_,rfl,by omega,J7,Sx.kQ (f:=bC.cells) (L:=M) (fun _=>rfl) (hfv.own (R.own _ azV)) rfl rfl,hkn▸hG,hpp,S.E,hch,S.bx 0⟩
end Go.Proofs.YtodpgjjgaddkeaaGreatDoor
end
theorem azj:type_of% @Go.Sx.aW:=@Go.Sx.aW
