/- Encodings say what was encoded. No program in sight. -/
import Derived.Test.YtodpgjjgaddkeaaGreatDoorPk26
set_option maxHeartbeats 1600000
set_option maxRecDepth 100000
set_option linter.unusedVariables false
set_option linter.unusedSimpArgs false
section
namespace Go.Proofs.YtodpgjjgaddkeaaGreatDoor
open En
variable{α:Type}{K:Nat}
def PI(f:α→List UInt8)(x y:α):Prop:=∀r s,f x++r=f y++s→x=y∧r=s
theorem OH{a b:Nat}(ha:a<18446744073709551616)(hb:b<18446744073709551616):PI (dV 10) a b:=fun r s h=>by
 have h1:=oC a r ha;have h2:=oC b s hb;rw[h,h2]at h1;simp only[aBR,azA]at h1;obtain⟨rfl,-⟩:=h1;exact⟨rfl,List.append_cancel_left h⟩
theorem Ll{a b:Int}(ha:I64 a)(hb:I64 b):PI iB a b:=fun r s h=>by
 obtain⟨h1,h2⟩:=OH (MX ha.1 ha.2) (MX hb.1 hb.2) r s h;exact⟨by rw[←CO a,h1,CO],h2⟩
theorem Sr{f:α→List UInt8}:∀{L M:List α},L.length=M.length→(∀x∈L,∀y∈M,PI f x y)→PI (fun l:List α=>l.flatMap f) L M
 | [],[],_,_,r,s,h=>⟨rfl,h⟩
 | [],_::_,hl,_,_,_,_=>by cases hl
 | _::_,[],hl,_,_,_,_=>by cases hl
 | x::L,y::M,hl,hp,r,s,h=>by
  simp only[aAD,azO]at h
  obtain⟨rfl,h2⟩:=hp x azJ y azJ _ _ h
  obtain⟨rfl,h3⟩:=Sr (by simpa using hl) (fun a ha b hb=>hp a (aAI _ ha) b (aAI _ hb)) r s h2
  exact⟨rfl,h3⟩
theorem Dc{f:α→List UInt8}{L M:List α}(hL:L.length<18446744073709551616)(hM:M.length<18446744073709551616)(hp:∀x∈L,∀y∈M,PI f x y):PI (iy f) L M:=fun r s h=>by
 unfold iy at h;rw[azO,azO]at h;obtain⟨h1,h2⟩:=OH hL hM _ _ h;exact Sr h1 hp r s h2
theorem kE{L M:List Int}{r s:List UInt8}(h:dW L++r=dW M++s)(hL:qL L)(hM:qL M)(hl:L.length=M.length:=by rfl):L=M∧r=s:=Sr hl (fun x hx y hy=>Ll (hL.all x hx) (hM.all y hy)) r s h
theorem OI{l m:List UInt8}(hl:l.length<18446744073709551616)(hm:m.length<18446744073709551616):PI fQ l m:=fun r s h=>by
 unfold fQ at h;rw[azO,azO]at h;obtain⟨h1,h2⟩:=OH hl hm _ _ h;exact List.append_inj h2 h1
theorem agP{p q:Bool×Nat×Nat}(hp:dZ p≤256)(hq:dZ q≤256):PI gJ p q:=fun r s h=>by
 unfold dZ at hp hq;have a1:=Nb.bH (D8 (n:=p.2.1) (by omega));have a2:=Nb.bH (D8 (n:=p.2.2) (by omega));have b1:=Nb.bH (D8 (n:=q.2.1) (by omega));have b2:=Nb.bH (D8 (n:=q.2.2) (by omega));obtain⟨p0,p1,p2⟩:=p;obtain⟨q0,q1,q2⟩:=q;simp only[gJ,aAP,az3,azO]at h a1 a2 b1 b2;obtain⟨h0,h⟩:=h;have t:=OI (by omega) (by omega) _ _ h;clear h;obtain⟨h1,h⟩:=t;have t:=OI (by omega) (by omega) _ _ h;clear h;obtain⟨h2,h⟩:=t;have e1:p1=q1:=by rw[←Nb.aB p1,h1,Nb.aB]
 have e2:p2=q2:=by rw[←Nb.aB p2,h2,Nb.aB]
 have e0:p0=q0:=by cases p0<;>cases q0<;>simp at h0 ⊢
 exact⟨by rw[e0,e1,e2],h⟩
theorem Yx{p q:Q6}(hp:p.valid=true)(hq:q.valid=true):PI rX p q:=fun r s h=>by
 have hall:∀{q:Q6},q.valid=true→∀x∈[q.a,q.b,q.c,q.d,q.e,q.f],dZ x≤256:=fun{q} hq x hx=>by
  unfold Q6.valid at hq;simp only[azM,azK]at hq;simp only[azG,aBu,or_false]at hx;obtain⟨h1,h2,h3,h4,h5,h6⟩:=hq;rcases hx with rfl | rfl | rfl | rfl | rfl | rfl<;>assumption
 obtain⟨h1,h2⟩:=Sr (L:=[p.a,p.b,p.c,p.d,p.e,p.f]) (M:=[q.a,q.b,q.c,q.d,q.e,q.f]) rfl (fun x hx y hy=>agP (hall hp x hx) (hall hq y hy)) r s h;cases p; cases q;simp only[az3,and_true]at h1;obtain⟨rfl,rfl,rfl,rfl,rfl,rfl⟩:=h1;exact⟨rfl,h2⟩
theorem Sv(p q:bG):PI Px.pb p q:=fun r s h=>Px.Vt h
theorem ako{a b:dL}(ha:a.ok)(hb:b.ok):PI kJ a b:=fun r s h=>by
 unfold kJ at h;obtain⟨h1,h2⟩:=kE h ⟨ha.1,ha.2.1.1,ha.2.1.2,ha.2.2.1.1,ha.2.2.1.2,ha.2.2.2.1,ha.2.2.2.2,trivial⟩ ⟨hb.1,hb.2.1.1,hb.2.1.2,hb.2.2.1.1,hb.2.2.1.2,hb.2.2.2.1,hb.2.2.2.2,trivial⟩;obtain⟨v,⟨ax,ay⟩,⟨bx,by'⟩,cx,cy⟩:=a;obtain⟨v',⟨ax',ay'⟩,⟨bx',axr⟩,cx',cy'⟩:=b;simp only[az3,and_true]at h1;obtain⟨rfl,rfl,rfl,rfl,rfl,rfl,rfl⟩:=h1;exact⟨rfl,h2⟩
theorem Yy{L M:List dL}(hL:L.length≤256∧∀x∈L,x.ok)(hM:M.length≤256∧∀x∈M,x.ok):PI (iy kJ) L M:=Dc (by omega) (by omega) fun x hx y hy=>ako (hL.2 x hx) (hM.2 y hy)
theorem agQ{a b:dG}(ha:a.ok)(hb:b.ok):PI jg a b:=fun r s h=>by
 unfold jg at h;rw[azO,azO]at h;have t:=kE h ⟨ha,trivial⟩ ⟨hb,trivial⟩;clear h;obtain⟨h1,h⟩:=t;have t:=Sv _ _ _ _ h;clear h;obtain⟨h2,h⟩:=t;cases a; cases b;simp only[az3,and_true]at h1 h2;exact⟨by rw[h1,h2],h⟩
structure nY.Good (m:nY):Prop where
 w:I64 m.w
 h:I64 m.h
 n:(m.l.length:Int)=m.w*m.h
 len:m.l.length≤65536
theorem ad7{pk:Bool}{a b:nY}(ha:a.Good)(hb:b.Good):PI (rW pk) a b:=fun r s h=>by
 unfold rW at h;rw[azO,azO]at h;have t:=kE h ⟨ha.w,ha.h,trivial⟩ ⟨hb.w,hb.h,trivial⟩;clear h;obtain⟨h1,h⟩:=t;obtain⟨aw,ah,al⟩:=a;obtain⟨bw,bh,Ik⟩:=b;simp only[az3,and_true]at h1;obtain⟨rfl,rfl⟩:=h1;have e:al.length=Ik.length:=by have h1:=ha.n; have h2:=hb.n; simp only at h1 h2; omega
 have l1:=ha.len;have l2:=hb.len;simp only at l1 l2;cases pk
 ·simp only[aBP,if_false]at h;have t:=Sr e (fun x _ y _=>Sv x y) _ _ h;clear h;obtain⟨rfl,h⟩:=t;exact⟨rfl,h⟩
 simp only[if_true]at h;have e1:=Ii al;have e2:=Ii Ik;have t:=OI (by omega) (by omega) _ _ h;clear h;obtain⟨h2,h⟩:=t;obtain rfl:=Px.ags (by omega) (by omega) h2;exact⟨rfl,h⟩
structure jd.Good (p:jd):Prop where
 kind:I64 p.kind
 p0:p.p0.ok
 p1:p.p1.ok
 bQ:I64 p.bQ
 stops:p.stops.length≤16∧∀s∈p.stops,s.ok
 spread:I64 p.spread
 img:p.img.Good
 cZ:I64 p.cZ
 q:p.q.valid=true
theorem Sz{pk:Bool}{a b:jd}(ha:a.Good)(hb:b.Good):PI (fC pk) a b:=fun r s h=>by
 unfold fC at h;simp only[azO]at h;have t:=kE h ⟨ha.kind,trivial⟩ ⟨hb.kind,trivial⟩;clear h;obtain⟨h1,h⟩:=t;have t:=Sv _ _ _ _ h;clear h;obtain⟨h2,h⟩:=t;have t:=kE h ⟨ha.p0.1,ha.p0.2,ha.p1.1,ha.p1.2,ha.bQ,trivial⟩ ⟨hb.p0.1,hb.p0.2,hb.p1.1,hb.p1.2,hb.bQ,trivial⟩;clear h;obtain⟨h3,h⟩:=t;have t:=Dc (by have:=ha.stops.1; omega) (by have:=hb.stops.1; omega) (fun x hx y hy=>agQ (ha.stops.2 x hx) (hb.stops.2 y hy)) _ _ h;clear h;obtain⟨h4,h⟩:=t;have t:=kE h ⟨ha.spread,trivial⟩ ⟨hb.spread,trivial⟩;clear h;obtain⟨h5,h⟩:=t;have t:=ad7 ha.img hb.img _ _ h;clear h;obtain⟨h6,h⟩:=t;have t:=kE h ⟨ha.cZ,trivial⟩ ⟨hb.cZ,trivial⟩;clear h;obtain⟨h7,h⟩:=t;have t:=Yx ha.q hb.q _ _ h;clear h;obtain⟨h8,h⟩:=t;obtain⟨k,c,⟨x0,y0⟩,⟨x1,y1⟩,rd,st,sp,im,sm,q⟩:=a;obtain⟨k',c',⟨x0',y0'⟩,⟨x1',y1'⟩,rd',st',sp',im',sm',q'⟩:=b;simp only[az3,and_true]at h1 h2 h3 h4 h5 h6 h7 h8;obtain⟨rfl,rfl,rfl,rfl,rfl⟩:=h3;subst h1 h2 h4 h5 h6 h7 h8;exact⟨rfl,h⟩
structure ku.Good (p:ku):Prop where
 i:I64 p.width∧I64 p.join∧I64 p.cap∧I64 p.eX∧I64 p.phase
 dash:p.dash.length≤16∧∀x∈p.dash,I64 x
theorem akp{a b:ku}(ha:a.Good)(hb:b.Good):PI BF a b:=fun r s h=>by
 unfold BF at h;rw[azO,azO]at h;obtain⟨a1,a2,a3,a4,a5⟩:=ha.i;obtain⟨b1,b2,b3,b4,b5⟩:=hb.i;have t:=kE h ⟨a1,a2,a3,a4,a5,trivial⟩ ⟨b1,b2,b3,b4,b5,trivial⟩;clear h;obtain⟨h1,h⟩:=t;have t:=Dc (by have:=ha.dash.1; omega) (by have:=hb.dash.1; omega) (fun x hx y hy=>Ll (ha.dash.2 x hx) (hb.dash.2 y hy)) _ _ h;clear h;obtain⟨h2,h⟩:=t;obtain⟨w,j,c,m,d,p⟩:=a;obtain⟨w',j',c',m',d',p'⟩:=b;simp only[az3,and_true]at h1 h2;obtain⟨rfl,rfl,rfl,rfl,rfl⟩:=h1;subst h2;exact⟨rfl,h⟩
def ku.zero:ku:=⟨0,0,0,0,[],0⟩
def nY.zero:nY:=⟨0,0,[]⟩
def aQ.canon(n:aQ):aQ:=
 if n.kind=1 then { n with path:=[],aT:=0,fill:=[],style := .zero,stroke:=[],img := .zero,cZ:=0 }
 else if n.kind=2 then { n with dQ:=0,blend:=0,isolated:=false,dD:=false,style:=(if 0<n.stroke.length then n.style else .zero),img := .zero,cZ:=0 }
 else if n.kind=3 then { n with dQ:=0,blend:=0,isolated:=false,dD:=false,path:=[],aT:=0,fill:=[],style := .zero,stroke:=[] }
 else { n with dQ:=0,blend:=0,isolated:=false,dD:=false,path:=[],aT:=0,fill:=[],style := .zero,stroke:=[],img := .zero,cZ:=0 }
structure aQ.Good (n:aQ):Prop where
 i:I64 n.id∧I64 n.kind∧I64 n.depth∧I64 n.aP∧I64 n.blend∧I64 n.aT∧I64 n.cZ
 q:n.q.valid=true
 clip:n.clip.length≤256∧∀s∈n.clip,s.ok
 path:n.kind=2→n.path.length≤256∧∀s∈n.path,s.ok
 fill:n.kind=2→n.fill.length≤1∧∀p∈n.fill,p.Good
 stroke:n.kind=2→n.stroke.length≤1∧∀p∈n.stroke,p.Good
 style:n.kind=2→0<n.stroke.length→n.style.Good
 img:n.kind=3→n.img.Good
theorem Yz{a b:Bool}(h:oZ a=oZ b):a=b:=by cases a<;>cases b<;>simp[oZ]at h ⊢
theorem agR{pk:Bool}{a b:aQ}(ha:a.Good)(hb:b.Good)(r s:List UInt8)(h:eG pk a++r=eG pk b++s):a.canon=b.canon∧r=s:=by
 unfold eG at h;simp only[azO]at h;obtain⟨a1,a2,a3,a4,a5,a6,a7⟩:=ha.i;obtain⟨b1,b2,b3,b4,b5,b6,b7⟩:=hb.i;have t:=kE h ⟨a1,a2,a3,trivial⟩ ⟨b1,b2,b3,trivial⟩;clear h;obtain⟨h1,h⟩:=t;have t:=Yx ha.q hb.q _ _ h;clear h;obtain⟨h2,h⟩:=t;have t:=Yy ha.clip hb.clip _ _ h;clear h;obtain⟨h3,h⟩:=t;have t:=kE h ⟨a4,trivial⟩ ⟨b4,trivial⟩;clear h;obtain⟨h4,h⟩:=t;obtain⟨id,kd,dp,q,cl,cr,op,bd,is,kn,pa,fr,fi,sy,st,im,sm⟩:=a;obtain⟨id',kd',dp',q',cl',cr',op',bd',is',kn',pa',fr',fi',sy',st',im',sm'⟩:=b;simp only[az3,and_true]at h1 h2 h3 h4;obtain⟨rfl,rfl,rfl⟩:=h1;subst h2 h3 h4;unfold nC at h;unfold aQ.canon;simp only at h ⊢;by_cases k1:kd=1
 ·simp only[azv k1,azO]at h ⊢;simp only[aAP,aAv,az3]at h;obtain⟨h5,h⟩:=h;have t:=kE h ⟨a5,trivial⟩ ⟨b5,trivial⟩;clear h;obtain⟨h6,h⟩:=t;simp only[az3,and_true]at h h6;obtain⟨h7,h8,h⟩:=h;obtain rfl:=Yz h7;obtain rfl:=Yz h8;exact⟨by rw[h5,h6],h⟩
 by_cases k2:kd=2
 ·simp only[azu k1,azv k2,azO]at h ⊢;have t:=Yy (ha.path k2) (hb.path k2) _ _ h;clear h;obtain⟨h5,h⟩:=t;have t:=kE h ⟨a6,trivial⟩ ⟨b6,trivial⟩;clear h;obtain⟨h6,h⟩:=t;have f1:=ha.fill k2;have f2:=hb.fill k2;have s1:=ha.stroke k2;have s2:=hb.stroke k2;have t:=Dc (by have:=f1.1; omega) (by have:=f2.1; omega) (fun x hx y hy=>Sz (f1.2 x hx) (f2.2 y hy)) _ _ h;clear h;obtain⟨h7,h⟩:=t;have t:=Dc (by have:=s1.1; omega) (by have:=s2.1; omega) (fun x hx y hy=>Sz (s1.2 x hx) (s2.2 y hy)) _ _ h;clear h;obtain⟨h8,h⟩:=t;have y1:=ha.style k2;have y2:=hb.style k2;simp only[az3,and_true]at h5 h6 h7 h8 y1 y2;subst h5 h6 h7 h8;by_cases hs:0<st.length
  ·simp only[azv hs]at h ⊢;have t:=akp (y1 hs) (y2 hs) _ _ h;clear h;obtain⟨rfl,h⟩:=t;exact⟨rfl,h⟩
  simp only[azu hs,aAv]at h ⊢;exact⟨trivial,h⟩
 by_cases k3:kd=3
 ·simp only[azu k1,azu k2,azv k3,azO]at h ⊢;have t:=ad7 (ha.img k3) (hb.img k3) _ _ h;clear h;obtain⟨h5,h⟩:=t;have t:=kE h ⟨a7,trivial⟩ ⟨b7,trivial⟩;clear h;obtain⟨h6,h⟩:=t;simp only[az3,and_true]at h5 h6;subst h5 h6;exact⟨rfl,h⟩
 simp only[azu k1,azu k2,azu k3,aAv]at h ⊢;exact⟨trivial,h⟩
theorem Il{w:World}{p:ak}(h:p.ok w)(hv:p.valid=true):p.key.Good:=by
 obtain⟨l1,l2,l3⟩:=sW hv;exact⟨h.1,h.2.1,h.2.2.1,h.2.2.2.1,⟨l2,h.2.2.2.2.2.1⟩,h.2.2.2.2.2.2.1,⟨h.2.2.2.2.2.2.2.1.1,h.2.2.2.2.2.2.2.1.2.1,l3.1,l3.2.1⟩,h.2.2.2.2.2.2.2.2.1,l1⟩
theorem Df{w:World}{n:aj}(h:n.ok w)(hv:n.checkN=0):n.key.Good:=by
 have hL:=sZ hv;obtain⟨h1,h2,h3,h4,h5,h6,h7,h8,h9,h10,h11,h12,h13,JV⟩:=h;refine⟨⟨h1,h2,h3,h6,h7,h9,JV⟩,hL.q,⟨hL.clip,h5.2⟩,fun hk=>?_,fun hk=>?_,fun hk=>?_,fun hk hs=>?_,fun hk=>?_⟩
 ·exact⟨(hL.shape hk).1,h8.2⟩
 ·exact⟨by simpa[aj.key]using (hL.shape hk).2.1,fun x hx=>by obtain⟨p,hp,rfl⟩:=azX.1 hx; exact Il (h10.2 p hp) ((hL.shape hk).2.2.2.1 p hp)⟩
 ·exact⟨by simpa[aj.key]using (hL.shape hk).2.2.1,fun x hx=>by obtain⟨p,hp,rfl⟩:=azX.1 hx; exact Il (h12.2 p hp) ((hL.shape hk).2.2.2.2.1 p hp)⟩
 ·exact⟨⟨h11.1,h11.2.1,h11.2.2.1,h11.2.2.2.1,h11.2.2.2.2.2.2⟩,(hL.shape hk).2.2.2.2.2 (by simpa[aj.key]using hs),h11.2.2.2.2.2.1⟩
 have:=hL.img hk;exact⟨h13.1,h13.2.1,this.1,this.2.1⟩
theorem OJ{p:aS}(h:p.eq aS.bare=true):p.key = .zero:=by
 unfold aS.eq aS.bare at h;simp only[azM,azI,azK]at h;obtain⟨⟨⟨⟨⟨h1,h2⟩,h3⟩,h4⟩,h5⟩,h6⟩:=h;unfold aS.key ku.zero;rw[h1,h2,h3,h4,h5,h6]
theorem YA{m:dA}(h:m.eq dA.bare=true):m.key = .zero:=by
 unfold dA.eq dA.bare at h;simp only[azM,azI]at h;unfold dA.key nY.zero;rw[h.1,h.2.1,h.2.2]
theorem zU{n:aj}(hv:n.checkN=0):n.key.canon=n.key:=by
 have hL:=sZ hv;have hb:=hL.bare;have hkb:=Bj hv;unfold aj.bare at hb;unfold aQ.canon;by_cases k1:n.kind=1
 ·rw[azv (show n.key.kind=1 from k1)];simp only[k1,show((1:Int)==1)=true from rfl,cond_true,azM,azI]at hb;obtain⟨⟨⟨⟨⟨b1,b2⟩,b3⟩,b4⟩,b5⟩,b6,b7⟩:=hb;have e1:n.path=[]:=aB2.1 (by omega);have e3:n.fill=[]:=aB2.1 (by omega);have e4:n.stroke=[]:=aB2.1 (by omega);simp only[aj.key,e1,b2,e3,e4,OJ b5,YA b6,b7,aAF]
 rw[azu (show ¬n.key.kind=1 from k1)];by_cases k2:n.kind=2
 ·rw[azv (show n.key.kind=2 from k2)];simp only[k2,show((2:Int)==1)=false from rfl,show((2:Int)==2)=true from rfl,cond_false,cond_true,azM,azI,aA6]at hb;obtain⟨⟨⟨⟨b1,b2⟩,b3⟩,b4⟩,b6,b7⟩:=hb;have e1:n.dQ=0:=CU.1 (by rw[b1]; rfl);have e2:(if 0<n.key.stroke.length then n.key.style else ku.zero)=n.key.style:=by
   split
   ·rfl
   rename_i hs; exact(OJ (hL.sty k2 (by simpa[aj.key]using hs))).symm
  rw[e2];simp only[aj.key,e1,b2,b3,b4,YA b6,b7]
 rw[azu (show ¬n.key.kind=2 from k2),azv (show n.key.kind=3 by show n.kind=3; omega)];have k1':(n.kind==1)=false:=by simpa using k1
 have k2':(n.kind==2)=false:=by simpa using k2
 simp only[k1',k2',cond_false,azM,azI,aA6]at hb;obtain⟨⟨⟨⟨b1,b2⟩,b3⟩,b4⟩,⟨⟨⟨c1,c2⟩,c3⟩,c4⟩,c5⟩:=hb;have e0:n.dQ=0:=CU.1 (by rw[b1]; rfl);have e1:n.path=[]:=aB2.1 (by omega);have e3:n.fill=[]:=aB2.1 (by omega);have e4:n.stroke=[]:=aB2.1 (by omega);simp only[aj.key,e0,b2,b3,b4,e1,c2,e3,e4,OJ c5,aAF]
theorem Lm{pk:Bool}{w:World}{n m:aj}(h:n.ok w)(h':m.ok w)(hv:n.checkN=0)(hv':m.checkN=0)(r s:List UInt8)(e:eG pk n.key++r=eG pk m.key++s):n.key=m.key∧r=s:=by
 obtain⟨h1,h2⟩:=agR (Df h hv) (Df h' hv') r s e;rw[zU hv,zU hv']at h1;exact⟨h1,h2⟩
theorem uN{s:aI}(h:s.key.valid=true):∀n∈s.ns,n.checkN=0:=fun n hn=>by
 obtain⟨-,h1,h2⟩:=bD.ni.1 h;rw[←lq];exact(VK.1 h2).1 _ (azX.2 ⟨n,hn,rfl⟩)
theorem WI{w:World}{s t:aI}(h:dI K w s)(h':dI K w t)(hv:s.key.valid=true)(hv':t.key.valid=true)(r q:List UInt8)(e:dU s.key++r=dU t.key++q):s.key=t.key∧r=q:=by
 unfold dU at e;simp only[azO]at e;have e:=List.append_cancel_left e;obtain⟨e1,e⟩:=kE e ⟨h.1,h.2.1,trivial⟩ ⟨h'.1,h'.2.1,trivial⟩;obtain⟨e2,e⟩:=Sv _ _ _ _ e;have l1:=(qB hv).1;have l2:=(qB hv').1;obtain⟨e3,e⟩:=Dc (f:=eG false) (L:=s.key.ns) (M:=t.key.ns) (by simp only[aI.key,aAQ]; omega) (by simp only[aI.key,aAQ]; omega) (fun x hx y hy=>by
  obtain⟨n,hn,rfl⟩:=azX.1 hx;obtain⟨m,hm,rfl⟩:=azX.1 hy;exact fun r s e=>Lm (h.2.2.2 n hn).1 (h'.2.2.2 m hm).1 (uN hv n hn) (uN hv' m hm) r s e) _ _ e
 simp only[az3,and_true]at e1;obtain⟨e4,e5⟩:=e1;refine⟨?_,e⟩;generalize s.key=x at *;generalize t.key=y at *;cases x; cases y;simp only at e2 e3 e4 e5;rw[e2,e3,e4,e5]
end Go.Proofs.YtodpgjjgaddkeaaGreatDoor
namespace Go.Sx
open Go.Proofs Go.Proofs.YtodpgjjgaddkeaaGreatDoor Go.RowKit Go.Rel
section
variable{P:Program}{ops:Array Oper}{Q:Exit→Act→World→Prop}{w0 w:World}{a:Act}{os:List Oper}{n:Nat}{l:List (Nat×Value)}{bl:List (Nat×List Value)}{vs:List fA}
theorem am6(S:St w0 a w n l bl vs)(k:Nat){f:FuncId}{args:Array Value}{b:Nat}{A:List Value}(d:Option Nat){R:Ending→World→Prop}(hk:bl[k]?=some (b,A))(hc:Calls P f args w R)
  (next:∀e w',R e w'→∃v A',e = .returned v∧Ext w0 w'∧Ch b w w'∧Bx w' b (List.toArray A')∧∀a',St w0 a' w' n (yg l d v) (bl.set k (b,A')) vs→wpList P ops Q (os.drop 1) a' w')
  (hx:callOf P os l=some (f,args,d):=by kernel_rfl) (hd:uY n d=true:=by rfl):wpList P ops Q os a w:=by
 cases os with
 | nil=>cases hx
 | cons o os =>
  unfold callOf at hx;simp only at hx;split at hx
  ·rename_i f' args' hg hav hev;simp only[azy,azA]at hx;obtain⟨rfl,rfl,rfl⟩:=hx;simp only[aAm]at hav;have hrun:(execOp a.eval o).run P w = .ok (.enter f' args') w:=lJ (Std.act a) (gZ (bZ S.s) o) (p:=[]) rfl hav.1 (by simpa using hav.2) hev;unfold wpList;rw[azv (by simp[Region.wanted,hg])];left;unfold Oper.wp;rw[hrun];simp only[Oper.upon];refine hc.mono fun e w' hR=>?_;obtain⟨v,A',rfl,hE,hC,hX,hn⟩:=next e w' hR;exact hn _ ((S.ch hC hk hX hE).act (uF S.s hd v))
  cases hx
end
section
variable{P:Program}{B:Exit→Act→World→Prop}{n:Nat}{w0 w:World}{a:Act}{bl:List (Nat×List Value)}{vs:List fA}{z:Zt}
theorem aX(S:St w0 a w n z.l bl vs)(k:Nat){f:FuncId}{args:Array Value}{b:Nat}{A:List Value}{R:Ending→World→Prop}(hkk:bl[k]?=some (b,A))(hc:Calls P f args w R)
  (next:∀e w',R e w'→∃v A',e = .returned v∧Ext w0 w'∧Ch b w w'∧Bx w' b (List.toArray A')∧∀{a'},St w0 a' w' n (vG v (zN P n z)).l (bl.set k (b,A')) vs→Gz P B (vG v (zN P n z)) a' w')
  (hx:callOf P (oD (zN P n z)) (zN P n z).l=some (f,args,lG (zN P n z)):=by kernel_rfl) (ho:(tq (zN P n z)&&uY n (lG (zN P n z)))=true:=by kernel_rfl):Gz P B z a w:=by
 simp only[azM]at ho;refine tu S fun S=>zop ho.1 (am6 S k _ hkk hc (fun e w' hR=>?_) hx ho.2);obtain⟨v,A',h1,h2,h4,h5,h3⟩:=next e w' hR;exact⟨v,A',h1,h2,h4,h5,fun a' S'=>Io (m:=1) (l:=[]) ho.1 (h3 S')⟩
end
end Go.Sx
namespace Go.Proofs.YtodpgjjgaddkeaaGreatDoor
open Go.RowKit En
variable{α β:Type}{K:Nat}
def Got(f:α→List UInt8)(ok:α→Prop)(l:List UInt8)(p:Nat)(bad:Bool)(p':Nat)(bad':Bool)(x:α):Prop:=∀y r,ok y→bad=false→l.drop p=f y++r→x=y∧bad'=false∧l.drop p'=r
def agS(l:List UInt8)(p:Nat)(bad:Bool)(p':Nat)(bad':Bool)(k:Nat):Prop:=∀n r,n<18446744073709551616→n≤r.length→bad=false→l.drop p=dV 10 n++r→k=n∧bad'=false∧l.drop p'=r
theorem BH{l B r:List UInt8}{p:Nat}(h:l.drop p=B++r):l.drop (p+B.length)=r:=by rw[←aBY,h,List.drop_left]
theorem OL{l B r:List UInt8}{p:Nat}(h:l.drop p=B++r)(hB:0<B.length):p<l.length:=by
 rcases aAl p l.length with h1 | h1
 ·exact h1
 rw[aAS h1]at h;have:=azH List.length h;simp at this; omega
theorem YB{l r:List UInt8}{p n:Nat}(h:l.drop p=dV 10 n++r)(hn:n<18446744073709551616):xk l (p:Int)=(n,p+(dV 10 n).length,0):=by
 have hp:=OL h (AZ 9 n);rw[Px.Wv (aBp hp),h,oC n r hn]
theorem agT{l:List UInt8}{p:Nat}{bad:Bool}:Got iB I64 l p bad (riP l p bad) (riB l p bad) (riV l p bad):=fun y r hy hb h=>by
 subst hb;have hu:=YB h (MX hy.1 hy.2);have hv:vat l (p:Int)=(y,p+(iB y).length,0):=by
  unfold vat;rw[hu,CO]
 obtain⟨-,q1,q2,q3⟩:=ail (bad:=false) hv rfl;rw[q1,q2,q3];exact⟨rfl,rfl,BH h⟩
theorem aaK{l:List UInt8}{p:Nat}{bad:Bool}:agS l p bad (rcP l p bad) (rcB l p bad) (rcV l p bad):=fun n r hn hr hb h=>by
 subst hb;have hu:=YB h hn;have hd:=BH h;have hl:n≤l.length-(p+(dV 10 n).length):=by have:=azH List.length hd; simp at this; omega
 obtain⟨q1,q2,q3⟩:=ain hu ⟨rfl,rfl,hl⟩;rw[q1,q2,q3];exact⟨rfl,rfl,hd⟩
theorem SA{l:List UInt8}{p n:Nat}{bad:Bool}{B r:List UInt8}(hB:B.length=n)(hn:0<n)(hb:bad=false)(h:l.drop p=B++r):Wp l p bad n=B∧EL l p bad n=false∧l.drop (Yn l p bad n)=r:=by
 subst hb hB;have hp:=OL h hn;have hle:p+B.length≤l.length:=by
  have:=azH List.length h;simp at this; omega
 have ht:EL l p false B.length=false:=by unfold EL; simp; omega
 obtain⟨-,-,h2,h3⟩:=Ig ht;rw[h2,h3];exact⟨by rw[h]; simp,ht,BH h⟩
def iY(f:α→List UInt8)(ok:α→Prop)(l:List UInt8)(p:Nat)(bad:Bool)(m p':Nat)(bad':Bool)(X:List α):Prop:=∀ys r,ys.length=m→(∀y∈ys,ok y)→bad=false→l.drop p=ys.flatMap f++r→X=ys∧bad'=false∧l.drop p'=r
theorem iY.nil{f:α→List UInt8}{ok:α→Prop}{l:List UInt8}{p:Nat}{bad:Bool}:iY f ok l p bad 0 p bad []:=fun ys r hl hk hb h=>by
 obtain rfl:=aB2.1 hl;exact⟨rfl,hb,h⟩
theorem iY.snoc{f:α→List UInt8}{ok:α→Prop}{l:List UInt8}{p p1 p2 m:Nat}{bad b1 b2:Bool}{X:List α}{x:α}(h:iY f ok l p bad m p1 b1 X)(k:Got f ok l p1 b1 p2 b2 x):iY f ok l p bad (m+1) p2 b2 (X++[x]):=fun ys r hl hk hb e=>by
 obtain⟨zs,z,rfl⟩:∃zs z,ys=zs++[z]:=⟨ys.dropLast,ys.getLast (by intro e; subst e; cases hl),(List.dropLast_concat_getLast _).symm⟩;rw[aA9,azO]at e;obtain⟨rfl,h2,h3⟩:=h zs _ (by simpa using hl) (fun y hy=>hk y (aBA _ hy)) hb e;obtain⟨rfl,h4,h5⟩:=k z r (hk z (by simp)) h2 (by rw[h3]; simp);exact⟨rfl,h4,h5⟩
theorem iY.fail{f:α→List UInt8}{ok:α→Prop}{l:List UInt8}{p p1 p2 k m:Nat}{bad b2:Bool}{X Y:List α}(h:iY f ok l p bad k p1 true X)(hk:k≤m):iY f ok l p bad m p2 b2 Y:=fun ys r hl hok hb e=>by
 exfalso;rw[←aBr k ys,aA9,azO]at e;have:=(h (ys.take k) _ (by simp; omega) (fun y hy=>hok y (aBU hy)) hb e).2.1;cases this
theorem iY.lst{f:α→List UInt8}{ok:α→Prop}{l:List UInt8}{p p1 p2 k:Nat}{bad b1 b2:Bool}{X:List α}(hc:agS l p bad p1 b1 k)(h:iY f ok l p1 b1 k p2 b2 X)(hf:∀x,0<(f x).length):Got (iy f) (fun ys=>ys.length<18446744073709551616∧∀y∈ys,ok y) l p bad p2 b2 X:=fun ys r hok hb e=>by
 unfold iy at e;rw[azO]at e;have hlen:ys.length≤(ys.flatMap f).length:=by
  clear e hok;induction ys with
  | nil=>simp
  | cons y ys ih=>have:=hf y; rw[aAD,azz,aAb]; omega
 obtain⟨rfl,h2,h3⟩:=hc ys.length _ hok.1 (by rw[azz]; omega) hb e;exact h ys r rfl hok.2 h2 h3
theorem lu(x:Int)(L:List Int):dW (x::L)=iB x++dW L:=rfl
theorem tC(x:Int):dW [x]=iB x:=by rw[lu]; exact aAA _
theorem Ip(x:Int):0<(iB x).length:=AZ 9 _
def WJ(p:jS):List UInt8:=dW [p.x,p.y]
theorem akq{l:List UInt8}{p p1 p2:Nat}{bad b1 b2:Bool}{x y:Int}(h1:Got iB I64 l p bad p1 b1 x)(h2:Got iB I64 l p1 b1 p2 b2 y):Got WJ jS.ok l p bad p2 b2 ⟨x,y⟩:=fun z r hz hb e=>by
 unfold WJ at e;rw[lu,tC,azO]at e;obtain⟨e1,c1,e⟩:=h1 _ _ hz.1 hb e;obtain⟨e2,c2,e⟩:=h2 _ _ hz.2 c1 e;exact⟨by rw[e1,e2],c2,e⟩
theorem Lp(s:dL):kJ s=iB s.verb++(WJ s.a++(WJ s.b++WJ s.c)):=by
 unfold kJ WJ; simp only[lu,azO]; rfl
theorem agU{l:List UInt8}{p p1 p2 p3 p4:Nat}{bad b1 b2 b3 b4:Bool}{v:Int}{x y z:jS}(h1:Got iB I64 l p bad p1 b1 v)(h2:Got WJ jS.ok l p1 b1 p2 b2 x)(h3:Got WJ jS.ok l p2 b2 p3 b3 y)(h4:Got WJ jS.ok l p3 b3 p4 b4 z):Got kJ dL.ok l p bad p4 b4 ⟨v,x,y,z⟩:=fun s r hs hb e=>by
 rw[Lp]at e;simp only[azO]at e;obtain⟨e1,c,e⟩:=h1 _ _ hs.1 hb e;obtain⟨e2,c,e⟩:=h2 _ _ hs.2.1 c e;obtain⟨e3,c,e⟩:=h3 _ _ hs.2.2.1 c e;obtain⟨e4,c,e⟩:=h4 _ _ hs.2.2.2 c e;exact⟨by rw[e1,e2,e3,e4],c,e⟩
theorem Iq(s:dL):0<(kJ s).length:=by rw[Lp,azz]; have:=Ip s.verb; omega
theorem ad8{l:List UInt8}{p p1 p2:Nat}{bad b1 b2:Bool}{v:Int}{q:bG}(h1:Got iB I64 l p bad p1 b1 v)(h2:Got Px.pb (fun _=>True) l p1 b1 p2 b2 q):Got jg dG.ok l p bad p2 b2 ⟨v,q⟩:=fun s r hs hb e=>by
 unfold jg at e;rw[tC,azO]at e;obtain⟨e1,c,e⟩:=h1 _ _ hs hb e;obtain⟨e2,c,e⟩:=h2 _ _ trivial c e;exact⟨by rw[e1,e2],c,e⟩
theorem aaL(s:dG):0<(jg s).length:=by unfold jg; rw[azz,tC]; have:=Ip s.o; omega
end Go.Proofs.YtodpgjjgaddkeaaGreatDoor
namespace Go.Proofs.YtodpgjjgaddkeaaGreatDoor
open Go.RowKit
variable{α:Type}{K:Nat}
def J7(w0 w w':World)(b:Nat)(a:Option Addr)(l:List UInt8)(cap:Nat)(pk:Bool)(p':Nat)(d':Bool):Prop:=p'≤l.length∧Ext w0 w'∧Ch b w w'∧Bx w' b #[.slice a l.length cap,.i p',.bool d',.bool pk]
theorem jh{w0 w:World}{b p cap:Nat}{a:Option Addr}{bad pk:Bool}{l:List UInt8}(hE:Ext w0 w)(hx:Bx w b #[.slice a l.length cap,.i p,.bool bad,.bool pk])(hb:w0.heap.size≤b)(h:jr w0 (.slice a l.length cap) l)(hp:p≤l.length) :
  Calls Tryz.prog 77 #[.q b 0] w fun e w'=>∃x p' d',e = .returned (.i x)∧I64 x∧Got iB I64 l p bad p' d' x∧J7 w0 w w' b a l cap pk p' d':=
 (aaI hE hx hb h hp).mono fun e w' ⟨h1,h2,h3,h4⟩=>⟨_,_,_,h1,by unfold riV; split; (exact⟨by decide,by decide⟩); exact ad4,agT,akh hp,h2,h3,h4⟩
theorem uO{w0 w:World}{b p cap:Nat}{a:Option Addr}{bad pk:Bool}{l:List UInt8}(hE:Ext w0 w)(hx:Bx w b #[.slice a l.length cap,.i p,.bool bad,.bool pk])(hb:w0.heap.size≤b)(h:jr w0 (.slice a l.length cap) l)(hp:p≤l.length) :
  Calls Tryz.prog 80 #[.q b 0] w fun e w'=>∃(k:Nat) (p':Nat) (d':Bool),e = .returned (.i k)∧k≤l.length∧agS l p bad p' d' k∧J7 w0 w w' b a l cap pk p' d':=
 (Sj hE hx hb h hp).mono fun e w' ⟨h1,h2,h3,h4⟩=>⟨_,_,_,h1,akk,aaK,akj hp,h2,h3,h4⟩
theorem agV{q q':bG}(h:Px.pb q=Px.pb q'):q=q':=(Px.Vt (x:=[]) (y:=[]) (by rw[h])).1
theorem ad9{l:List UInt8}{p:Nat}{bad:Bool}{q:bG}(hq:Px.pb q=Wp l p bad 4):Got Px.pb (fun _=>True) l p bad (Yn l p bad 4) (EL l p bad 4) q:=fun y r _ hb e=>by
 obtain⟨h1,h2,h3⟩:=SA (n:=4) rfl (by decide) hb e;exact⟨agV (hq.trans h1),h2,h3⟩
theorem Fh{w0 w:World}{b p cap:Nat}{a:Option Addr}{bad pk:Bool}{l:List UInt8}(hE:Ext w0 w)(hx:Bx w b #[.slice a l.length cap,.i p,.bool bad,.bool pk])(hb:w0.heap.size≤b)(h:jr w0 (.slice a l.length cap) l)(hp:p≤l.length) :
  Calls Tryz.prog 78 #[.q b 0] w fun e w'=>∃q p' d',e = .returned (.agg (bG.cells q).toArray)∧Got Px.pb (fun _=>True) l p bad p' d' q∧J7 w0 w w' b a l cap pk p' d':=
 (D7 hE hx hb h hp).mono fun e w' ⟨q,h1,h0,h2,h3,h4⟩=>⟨_,_,_,h1,ad9 h0,Wq hp,h2,h3,h4⟩
theorem agW{w0 w:World}{b p cap:Nat}{a:Option Addr}{bad pk:Bool}{l:List UInt8}(hE:Ext w0 w)(hx:Bx w b #[.slice a l.length cap,.i p,.bool bad,.bool pk])(hb:w0.heap.size≤b)(h:jr w0 (.slice a l.length cap) l)(hp:p≤l.length) :
  Calls Tryz.prog 171 #[.q b 0] w fun e w'=>∃q p' d',e = .returned (.agg (bG.cells q).toArray)∧Got Px.pb (fun _=>True) l p bad p' d' q∧J7 w0 w w' b a l cap pk p' d':=
 (RX hE hx hb h hp).mono fun e w' ⟨q,h1,h0,h2,h3,h4⟩=>⟨_,_,_,h1,ad9 h0,Wq hp,h2,h3,h4⟩
def jK(base:Nat)(v:Value):Prop:=∀g,v.ownBlock=some g→base≤g
theorem jK.step{base:Nat}{w0 u u':World}{bl:List (Nat×List Value)}{r r':Sx.Row}(hf:jK base r.v)(R':Sx.Rw w0 u' bl [r'])(X:Sx.Stp (Sx.Ob bl [r]) u (Sx.Ob bl [r']) u')(hs:base≤u.heap.size):jK base r'.v:=fun g hg=>by
 have hm:g∈Sx.Ob bl [r']:=Sx.jq azJ hg;rcases X.new g hm with h | h
 ·unfold Sx.Ob at h;rcases az9.1 h with h | h
  ·exfalso;have ha:=R'.apart;unfold Sx.Ob at ha;have hd:=(aA1.1 ha).2.2 g h g (aA0.2 ⟨r',azJ,hg⟩);exact hd rfl
  obtain⟨s,hs',he⟩:=aA0.1 h;obtain rfl:=az0.1 hs';exact hf g he
 omega
theorem jK.own{base B k n:Nat}{w:World}{e:TypeId}{v:Value}{xs:List Value}(hf:jK base v)(h:w.ownsRow B e k v n xs):w.ownsRow base e k v n xs:=by
 obtain⟨h1,h | ⟨g,cap,cur,rfl,h2,h3,h4⟩⟩:=h
 ·exact⟨h1,.inl h⟩
 exact⟨h1,.inr ⟨g,cap,cur,rfl,hf g rfl,h3,h4⟩⟩
theorem Dh{b:Nat}{w u u':World}{bl:List (Nat×List Value)}{r:Sx.Row}{O:List Nat}(h:Ch b w u)(X:Sx.Stp (Sx.Ob bl [r]) u O u')(hbl:∀p∈bl,p.1=b∨w.heap.size≤p.1)(hf:jK w.heap.size r.v):Ch b w u':=
 ⟨X.fr.os.trans h.os,X.fr.tape.trans h.tape,X.fr.output.trans h.output,azQ h.size X.fr.size,fun i hi hn=>(X.fr.block i (azY hi h.size) (fun hm=>by
  unfold Sx.Ob at hm
  rcases az9.1 hm with hm | hm
  ·obtain⟨p,hp,rfl⟩:=azX.1 hm
   rcases hbl p hp with e | e
   ·exact hn (by rw[e])
   ·omega
  ·obtain⟨s,hs,he⟩:=aA0.1 hm
   obtain rfl:=az0.1 hs
   have:=hf i he; omega)).trans (h.block i hi hn)⟩
theorem Di{w0 w:World}{bl:List (Nat×List Value)}{e:TypeId}{k:Nat}(R:Sx.Rw w0 w bl []):Sx.Rw w0 w bl [⟨e,k,.sn,0,[]⟩]:=
 ⟨fun r hr=>by obtain rfl:=az0.1 hr; exact⟨by simp,.inl ⟨rfl,rfl⟩⟩,R.lt,R.apart⟩
theorem jK.nil(base:Nat):jK base (.sn):=fun g h=>by cases h
theorem BI{w0 w:World}{b p cap:Nat}{a:Option Addr}{bad pk:Bool}{l:List UInt8}(hE:Ext w0 w)(hx:Bx w b #[.slice a l.length cap,.i p,.bool bad,.bool pk])(hb:w0.heap.size≤b)(h:jr w0 (.slice a l.length cap) l)(hp:p≤l.length) :
  Calls Tryz.prog 165 #[.q b 0] w fun e w'=>∃(x:jS) (p':Nat) (d':Bool),e = .returned (.agg #[.i x.x,.i x.y])∧x.ok∧Got WJ jS.ok l p bad p' d' x∧J7 w0 w w' b a l cap pk p' d':=by
 skip;refine azr Tryz.func165 Tryz.ntmps165 hE hx hb fun S=>ay2 S (fun u b2 E3 hb4 S=>?_);have S:=S.fl;have y6:=(((Ch.trans (Ch.refl b w) (Ch.aZ E3)))).size;refine Sx.aX S 1 rfl (jh S.E (S.bx 1) (S.old 1) h hp) ?_;rintro e u ⟨x6,p6,d6,rfl,i6,g6,hp6,Ws,BA,Wu⟩;refine⟨_,_,rfl,Ws,BA,Wu,fun S=>?_⟩;have hs6:=BA.size;have Ld:=(aH ((Ch.trans (Ch.refl b w) (Ch.aZ E3))) BA);have S:=S.fl;have y9:=(Ld).size;refine Sx.aX S 1 rfl (jh S.E (S.bx 1) (S.old 1) h hp6) ?_;rintro e u ⟨x9,p9,d9,rfl,i9,g9,hp9,hE9,hC9,hX9⟩;refine⟨_,_,rfl,hE9,hC9,hX9,fun S=>?_⟩;have hs9:=hC9.size;have aea:=(aH Ld hC9);refine ay4 S 0 rfl (fun u XW S=>?_);have AV:=(aH aea XW);refine azf S 0 rfl (v := .agg #[.i x6,.i x9]) (fun S=>?_);exact⟨⟨x6,x9⟩,_,_,rfl,⟨i6,i9⟩,akq g6 g9,hp9,S.E,AV,S.kG 1⟩
theorem am7{w0 w:World}{b p cap:Nat}{a:Option Addr}{bad pk:Bool}{l:List UInt8}(hE:Ext w0 w)(hx:Bx w b #[.slice a l.length cap,.i p,.bool bad,.bool pk])(hb:w0.heap.size≤b)(h:jr w0 (.slice a l.length cap) l)(hp:p≤l.length) :
  Calls Tryz.prog 119 #[.q b 0] w fun e w'=>∃(x:dL) (p':Nat) (d':Bool),e = .returned (.agg x.cells.toArray)∧x.ok∧Got kJ dL.ok l p bad p' d' x∧J7 w0 w w' b a l cap pk p' d':=by
 skip;refine azr Tryz.func119 Tryz.ntmps119 hE hx hb fun S=>ay2 S (fun u b2 E3 hb4 S=>?_);have S:=S.fl;have y6:=(((Ch.trans (Ch.refl b w) (Ch.aZ E3)))).size;refine Sx.aX S 1 rfl (jh S.E (S.bx 1) (S.old 1) h hp) ?_;rintro e u ⟨x6,p6,d6,rfl,i6,g6,hp6,Ws,BA,Wu⟩;refine⟨_,_,rfl,Ws,BA,Wu,fun S=>?_⟩;have hs6:=BA.size;have Ld:=(aH ((Ch.trans (Ch.refl b w) (Ch.aZ E3))) BA);refine ay2 S fun u b8 E9 y8 S=>ay4 S 0 rfl (fun u XW S=>?_);have qE:=ay5 E9 XW;have S:=S.fl;have y14:=(((Ch.trans Ld (Ch.aZ qE)))).size;refine Sx.aX S 2 rfl (BI S.E (S.bx 2) (S.old 2) h hp6) ?_;rintro e u ⟨x14,p14,d14,rfl,i14,g14,WL,aeb,Ir,aec⟩;refine⟨_,_,rfl,aeb,Ir,aec,fun S=>?_⟩;have am8:=Ir.size;have oL:=(aH ((Ch.trans Ld (Ch.aZ qE))) Ir);have S:=S.fl;have y16:=(oL).size;refine Sx.aX S 2 rfl (BI S.E (S.bx 2) (S.old 2) h WL) ?_;rintro e u ⟨x16,p16,d16,rfl,i16,g16,aro,arp,akr,arq⟩;refine⟨_,_,rfl,arp,akr,arq,fun S=>?_⟩;have axt:=akr.size;have vC:=(aH oL akr);have S:=S.fl;have y18:=(vC).size;refine Sx.aX S 2 rfl (BI S.E (S.bx 2) (S.old 2) h aro) ?_;rintro e u ⟨x18,p18,d18,rfl,YC,g18,OM,OO,uP,OQ⟩;refine⟨_,_,rfl,OO,uP,OQ,fun S=>?_⟩;have agX:=uP.size;have oM:=(aH vC uP);refine ay4 S 0 rfl (fun u yG S=>?_);have uy:=(aH oM yG);refine ay4 S 0 rfl (fun u C22 S=>?_);have GU:=(aH uy C22);refine ay4 S 0 rfl (fun u NJ S=>?_);have Ce:=(aH GU NJ);refine adr S 1 [] [.mem 0 0] fun S=>ay4 S 1 rfl (fun u C27 S=>?_);have S:=S.fl;have CQ:=(aH Ce C27);refine azf S 1 rfl (v := .agg #[.i x6,.i x14.x,.i x14.y,.i x16.x,.i x16.y,.i x18.x,.i x18.y]) (fun S=>?_);exact⟨⟨x6,x14,x16,x18⟩,_,_,rfl,⟨i6,i14,i16,YC⟩,agU g6 g14 g16 g18,OM,S.E,CQ,S.kG 2⟩
theorem aks{w0 w:World}{b p cap:Nat}{a:Option Addr}{bad pk:Bool}{l:List UInt8}(hE:Ext w0 w)(hx:Bx w b #[.slice a l.length cap,.i p,.bool bad,.bool pk])(hb:w0.heap.size≤b)(h:jr w0 (.slice a l.length cap) l)(hp:p≤l.length) :
  Calls Tryz.prog 167 #[.q b 0] w fun e w'=>∃(x:dG) (p':Nat) (d':Bool),e = .returned (.agg x.cells.toArray)∧x.ok∧Got jg dG.ok l p bad p' d' x∧J7 w0 w w' b a l cap pk p' d':=by
 skip;refine azr Tryz.func167 Tryz.ntmps167 hE hx hb fun S=>ay2 S (fun u b2 E3 hb4 S=>?_);have S:=S.fl;have y6:=(((Ch.trans (Ch.refl b w) (Ch.aZ E3)))).size;refine Sx.aX S 1 rfl (jh S.E (S.bx 1) (S.old 1) h hp) ?_;rintro e u ⟨x6,p6,d6,rfl,i6,g6,hp6,Ws,BA,Wu⟩;refine⟨_,_,rfl,Ws,BA,Wu,fun S=>?_⟩;have hs6:=BA.size;have Ld:=(aH ((Ch.trans (Ch.refl b w) (Ch.aZ E3))) BA);have S:=S.fl;have y9:=(Ld).size;refine Sx.aX S 1 rfl (Fh S.E (S.bx 1) (S.old 1) h hp6) ?_;rintro e u ⟨q9,p9,d9,rfl,g9,hp9,hE9,hC9,hX9⟩;refine⟨_,_,rfl,hE9,hC9,hX9,fun S=>?_⟩;have hs9:=hC9.size;have aea:=(aH Ld hC9);refine ay4 S 0 rfl (fun u XW S=>?_);have AV:=(aH aea XW);refine azf S 0 rfl (v := .agg (Sx.L [.i x6]++q9.cells).toArray) (fun S=>?_);exact⟨⟨x6,q9⟩,_,_,rfl,i6,ad8 g6 g9,hp9,S.E,AV,S.kG 1⟩
theorem YD{w0 w:World}{b p cap:Nat}{a:Option Addr}{bad pk:Bool}{l:List UInt8}(hE:Ext w0 w)(hx:Bx w b #[.slice a l.length cap,.i p,.bool bad,.bool pk])(hb:w0.heap.size≤b)(h:jr w0 (.slice a l.length cap) l)(hp:p≤l.length){n:Nat}(hn:n≤l.length)(hll:l.length≤100000000) :
  Calls Tryz.prog 118 #[.q b 0,.i n,.func (.func 119) #[.q b 0] #[]] w fun e w'=>∃(v:Value) (X:List dL) (p':Nat) (d':Bool),e = .returned v∧X.length≤n∧(∀s∈X,dL.ok s)∧Sx.aU w.heap.size (fun W=>aJ 7 dL.cells W v X) w'∧iY kJ dL.ok l p bad n p' d' X∧J7 w0 w w' b a l cap pk p' d':=by
 skip;refine azr Tryz.func118 Tryz.ntmps118 hE hx hb (fun S=>?_);have R:=aAc S;have Iu:=(Ch.refl b w);refine azm S (ι:=Nat×Value×List dL×Nat×Bool) (fun pq a' w'=>pq.1≤n∧(jK w.heap.size pq.2.1∧pq.2.2.1.length=pq.1∧(∀s∈pq.2.2.1,dL.ok s)∧pq.2.2.2.1≤l.length∧iY kJ dL.ok l p bad pq.1 pq.2.2.2.1 pq.2.2.2.2 pq.2.2.1∧Ch b w w')∧Sx.Rw w0 w' [(b,[.slice a l.length cap,.i pq.2.2.2.1,.bool pq.2.2.2.2,.bool pk])] [⟨163,7,pq.2.1,pq.2.2.1.length,pq.2.2.1.flatMap dL.cells⟩]∧Sx.St w0 a' w' 22 [(0,.q b 0),(1,.i n),(2,.func (.func 119) #[.q b 0] #[]),(6,.sn),(7,pq.2.1),(8,.i n),(9,.i pq.1)] [(b,[.slice a l.length cap,.i pq.2.2.2.1,.bool pq.2.2.2.2,.bool pk])] []) (fun pq=>n-pq.1) (0,(.sn),[],p,bad) (fun S=>⟨azB _,⟨jK.nil _,rfl,(fun x hx=>by cases hx),hp,iY.nil,Iu⟩,Di R,S.sn⟩) ?_;rintro⟨k,v,M,pp,dd⟩ ac u ig eU hI;try dsimp only at hI
 obtain⟨hk,hR,R,S⟩:=hI;refine azn S (fun S=>?_);obtain⟨hfv,hML,JZ,hpp,hG,hch⟩:=hR;refine ay0 S (decide ((k:Int)<(n:Int))) (fun nH S=>?_) (fun nH S=>?_)
 ·refine adr S 4 [] [.mem 0 2] fun S=>ay0 S (dd) (fun gU S=>?_) (fun gU S=>?_)
  ·refine apB S (.sn) (fun S=>?_);exact⟨_,[],_,_,rfl,azB _,(fun x hx=>by cases hx),fun W _ _=>dH _ _ _,(iY.fail (by rw[gU]at hG; exact hG) hk),hpp,S.E,hch,S.bx 0⟩
  have S:=S.fl;have y13:=(hch).size;refine Sx.aX S 0 rfl (am7 S.E (S.bx 0) (S.old 0) h hpp) ?_;rintro e u ⟨BJ,p13,d13,rfl,i13,g13,J8,zV,oG,Iw⟩;refine⟨_,_,rfl,zV,oG,Iw,fun S=>?_⟩;have aed:=oG.size;have zH:=(aH hch oG);refine ay6 S BJ.cells (fun u b15 ED vk S=>?_);obtain⟨R,Y18⟩:=R.bP S (azP (Sx.Stp.Oe oG) (aAB ED vk));have hlt:k<n:=by have:=azN nH; omega
  have wM:=((Ch.trans zH (Ch.aZ ED)));have hus:=wM.size;refine ay7 S fun S=>Sx.app S R 0 19 rfl aia (Sx.qA (m:=1) (k:=7) (A:=BJ.cells) (S.bx 0)) (by show M.length+1≤9223372036854775807; omega) (by show(M.length+1)*_≤140737488355328; omega) fun ac u v19 Vd R S=>azh S (fun S=>?_);have hfr:=jK.step (r:=⟨163,7,v,M.length,M.flatMap dL.cells⟩) hfv R Vd hus;have Iy:=Dh (r:=⟨163,7,v,M.length,M.flatMap dL.cells⟩) wM Vd (fun p hp=>by rcases azG.1 hp with rfl | hp; (exact .inr (by show _≤b15; omega)); rcases azG.1 hp with rfl | hp; (exact .inl rfl); cases hp) hfv;have S:=S.iH 1;obtain⟨R,Y21⟩:=R.bP S (aAr 1);refine adr S 3 [] [.re 20 (.i (IntKind.i64.wrap ((k:Int)+1))) (.i (k+1:Nat))] (hk:=⟨azj (by omega),trivial⟩) fun S=>azo S ig (fun S=>?_);exact eU _ _ ((k+1),v19,(M++[BJ]),p13,d13) ⟨by omega,⟨hfr,by rw[azz,hML]; rfl,(fun z hz=>by rcases az9.1 hz with hz | hz; (exact JZ z hz); obtain rfl:=az0.1 hz; exact i13),J8,by exact hG.snoc g13,Iy⟩,R.as (show [(⟨163,7,v19,M.length+1,M.flatMap dL.cells++BJ.cells⟩:Sx.Row)]=[⟨163,7,v19,(M++[BJ]).length,(M++[BJ]).flatMap dL.cells⟩] by simp),S.sn⟩ (by show _-_<_-_; omega)
 have hkn:k=n:=by have:=azR nH; omega
 refine apB S v (fun S=>?_);exact⟨_,M,_,_,rfl,by omega,JZ,Sx.kS (f:=dL.cells) (L:=M) (fun _=>rfl) (hfv.own (R.own _ azJ)) rfl rfl,hkn▸hG,hpp,S.E,hch,S.bx 0⟩
theorem aee{w0 w:World}{b p cap:Nat}{a:Option Addr}{bad pk:Bool}{l:List UInt8}(hE:Ext w0 w)(hx:Bx w b #[.slice a l.length cap,.i p,.bool bad,.bool pk])(hb:w0.heap.size≤b)(h:jr w0 (.slice a l.length cap) l)(hp:p≤l.length){n:Nat}(hn:n≤l.length)(hll:l.length≤100000000) :
  Calls Tryz.prog 166 #[.q b 0,.i n,.func (.func 167) #[.q b 0] #[]] w fun e w'=>∃(v:Value) (X:List dG) (p':Nat) (d':Bool),e = .returned v∧X.length≤n∧(∀s∈X,dG.ok s)∧Sx.aU w.heap.size (fun W=>aJ 5 dG.cells W v X) w'∧iY jg dG.ok l p bad n p' d' X∧J7 w0 w w' b a l cap pk p' d':=by
 skip;refine azr Tryz.func166 Tryz.ntmps166 hE hx hb (fun S=>?_);have R:=aAc S;have Iu:=(Ch.refl b w);refine azm S (ι:=Nat×Value×List dG×Nat×Bool) (fun pq a' w'=>pq.1≤n∧(jK w.heap.size pq.2.1∧pq.2.2.1.length=pq.1∧(∀s∈pq.2.2.1,dG.ok s)∧pq.2.2.2.1≤l.length∧iY jg dG.ok l p bad pq.1 pq.2.2.2.1 pq.2.2.2.2 pq.2.2.1∧Ch b w w')∧Sx.Rw w0 w' [(b,[.slice a l.length cap,.i pq.2.2.2.1,.bool pq.2.2.2.2,.bool pk])] [⟨202,5,pq.2.1,pq.2.2.1.length,pq.2.2.1.flatMap dG.cells⟩]∧Sx.St w0 a' w' 22 [(0,.q b 0),(1,.i n),(2,.func (.func 167) #[.q b 0] #[]),(6,.sn),(7,pq.2.1),(8,.i n),(9,.i pq.1)] [(b,[.slice a l.length cap,.i pq.2.2.2.1,.bool pq.2.2.2.2,.bool pk])] []) (fun pq=>n-pq.1) (0,(.sn),[],p,bad) (fun S=>⟨azB _,⟨jK.nil _,rfl,(fun x hx=>by cases hx),hp,iY.nil,Iu⟩,Di R,S.sn⟩) ?_;rintro⟨k,v,M,pp,dd⟩ ac u ig eU hI;try dsimp only at hI
 obtain⟨hk,hR,R,S⟩:=hI;refine azn S (fun S=>?_);obtain⟨hfv,hML,JZ,hpp,hG,hch⟩:=hR;refine ay0 S (decide ((k:Int)<(n:Int))) (fun nH S=>?_) (fun nH S=>?_)
 ·refine adr S 4 [] [.mem 0 2] fun S=>ay0 S (dd) (fun gU S=>?_) (fun gU S=>?_)
  ·refine apB S (.sn) (fun S=>?_);exact⟨_,[],_,_,rfl,azB _,(fun x hx=>by cases hx),fun W _ _=>dH _ _ _,(iY.fail (by rw[gU]at hG; exact hG) hk),hpp,S.E,hch,S.bx 0⟩
  have S:=S.fl;have y13:=(hch).size;refine Sx.aX S 0 rfl (aks S.E (S.bx 0) (S.old 0) h hpp) ?_;rintro e u ⟨BJ,p13,d13,rfl,i13,g13,J8,zV,oG,Iw⟩;refine⟨_,_,rfl,zV,oG,Iw,fun S=>?_⟩;have aed:=oG.size;have zH:=(aH hch oG);refine ay6 S BJ.cells (fun u b15 ED vk S=>?_);obtain⟨R,Y18⟩:=R.bP S (azP (Sx.Stp.Oe oG) (aAB ED vk));have hlt:k<n:=by have:=azN nH; omega
  have wM:=((Ch.trans zH (Ch.aZ ED)));have hus:=wM.size;refine ay7 S fun S=>Sx.app S R 0 19 rfl adJ (Sx.qA (m:=1) (k:=5) (A:=BJ.cells) (S.bx 0)) (by show M.length+1≤9223372036854775807; omega) (by show(M.length+1)*_≤140737488355328; omega) fun ac u v19 Vd R S=>azh S (fun S=>?_);have hfr:=jK.step (r:=⟨202,5,v,M.length,M.flatMap dG.cells⟩) hfv R Vd hus;have Iy:=Dh (r:=⟨202,5,v,M.length,M.flatMap dG.cells⟩) wM Vd (fun p hp=>by rcases azG.1 hp with rfl | hp; (exact .inr (by show _≤b15; omega)); rcases azG.1 hp with rfl | hp; (exact .inl rfl); cases hp) hfv;have S:=S.iH 1;obtain⟨R,Y21⟩:=R.bP S (aAr 1);refine adr S 3 [] [.re 20 (.i (IntKind.i64.wrap ((k:Int)+1))) (.i (k+1:Nat))] (hk:=⟨azj (by omega),trivial⟩) fun S=>azo S ig (fun S=>?_);exact eU _ _ ((k+1),v19,(M++[BJ]),p13,d13) ⟨by omega,⟨hfr,by rw[azz,hML]; rfl,(fun z hz=>by rcases az9.1 hz with hz | hz; (exact JZ z hz); obtain rfl:=az0.1 hz; exact i13),J8,by exact hG.snoc g13,Iy⟩,R.as (show [(⟨202,5,v19,M.length+1,M.flatMap dG.cells++BJ.cells⟩:Sx.Row)]=[⟨202,5,v19,(M++[BJ]).length,(M++[BJ]).flatMap dG.cells⟩] by simp),S.sn⟩ (by show _-_<_-_; omega)
 have hkn:k=n:=by have:=azR nH; omega
 refine apB S v (fun S=>?_);exact⟨_,M,_,_,rfl,by omega,JZ,Sx.kS (f:=dG.cells) (L:=M) (fun _=>rfl) (hfv.own (R.own _ azJ)) rfl rfl,hkn▸hG,hpp,S.E,hch,S.bx 0⟩
theorem akt{w0 w:World}{b p cap:Nat}{a:Option Addr}{bad pk:Bool}{l:List UInt8}(hE:Ext w0 w)(hx:Bx w b #[.slice a l.length cap,.i p,.bool bad,.bool pk])(hb:w0.heap.size≤b)(h:jr w0 (.slice a l.length cap) l)(hp:p≤l.length){n:Nat}(hn:n≤l.length)(hll:l.length≤100000000) :
  Calls Tryz.prog 168 #[.q b 0,.i n,.func (.func 77) #[.q b 0] #[]] w fun e w'=>∃(v:Value) (X:List Int) (p':Nat) (d':Bool),e = .returned v∧X.length≤n∧(∀s∈X,I64 s)∧Sx.aU w.heap.size (fun W=>aJ 1 (fun x:Int=>[.i x]) W v X) w'∧iY iB I64 l p bad n p' d' X∧J7 w0 w w' b a l cap pk p' d':=by
 skip;refine azr Tryz.func168 Tryz.ntmps168 hE hx hb (fun S=>?_);have R:=aAc S;have Iu:=(Ch.refl b w);refine azm S (ι:=Nat×Value×List Int×Nat×Bool) (fun pq a' w'=>pq.1≤n∧(jK w.heap.size pq.2.1∧pq.2.2.1.length=pq.1∧(∀s∈pq.2.2.1,I64 s)∧pq.2.2.2.1≤l.length∧iY iB I64 l p bad pq.1 pq.2.2.2.1 pq.2.2.2.2 pq.2.2.1∧Ch b w w')∧Sx.Rw w0 w' [(b,[.slice a l.length cap,.i pq.2.2.2.1,.bool pq.2.2.2.2,.bool pk])] [⟨3,1,pq.2.1,pq.2.2.1.length,pq.2.2.1.flatMap (fun x:Int=>[.i x])⟩]∧Sx.St w0 a' w' 22 [(0,.q b 0),(1,.i n),(2,.func (.func 77) #[.q b 0] #[]),(6,.sn),(7,pq.2.1),(8,.i n),(9,.i pq.1)] [(b,[.slice a l.length cap,.i pq.2.2.2.1,.bool pq.2.2.2.2,.bool pk])] []) (fun pq=>n-pq.1) (0,(.sn),[],p,bad) (fun S=>⟨azB _,⟨jK.nil _,rfl,(fun x hx=>by cases hx),hp,iY.nil,Iu⟩,Di R,S.sn⟩) ?_;rintro⟨k,v,M,pp,dd⟩ ac u ig eU hI;try dsimp only at hI
 obtain⟨hk,hR,R,S⟩:=hI;refine azn S (fun S=>?_);obtain⟨hfv,hML,JZ,hpp,hG,hch⟩:=hR;refine ay0 S (decide ((k:Int)<(n:Int))) (fun nH S=>?_) (fun nH S=>?_)
 ·refine adr S 4 [] [.mem 0 2] fun S=>ay0 S (dd) (fun gU S=>?_) (fun gU S=>?_)
  ·refine apB S (.sn) (fun S=>?_);exact⟨_,[],_,_,rfl,azB _,(fun x hx=>by cases hx),fun W _ _=>dH _ _ _,(iY.fail (by rw[gU]at hG; exact hG) hk),hpp,S.E,hch,S.bx 0⟩
  have S:=S.fl;have y13:=(hch).size;refine Sx.aX S 0 rfl (jh S.E (S.bx 0) (S.old 0) h hpp) ?_;rintro e u ⟨BJ,p13,d13,rfl,i13,g13,J8,zV,oG,Iw⟩;refine⟨_,_,rfl,zV,oG,Iw,fun S=>?_⟩;have aed:=oG.size;have zH:=(aH hch oG);refine ay6 S [.i BJ] (fun u b15 ED vk S=>?_);obtain⟨R,Y18⟩:=R.bP S (azP (Sx.Stp.Oe oG) (aAB ED vk));have hlt:k<n:=by have:=azN nH; omega
  have wM:=((Ch.trans zH (Ch.aZ ED)));have hus:=wM.size;refine ay7 S fun S=>Sx.app S R 0 19 rfl aic (Sx.qA (m:=1) (k:=1) (A:=[.i BJ]) (S.bx 0)) (by show M.length+1≤9223372036854775807; omega) (by show(M.length+1)*_≤140737488355328; omega) fun ac u v19 Vd R S=>azh S (fun S=>?_);have hfr:=jK.step (r:=⟨3,1,v,M.length,M.flatMap (fun x:Int=>[.i x])⟩) hfv R Vd hus;have Iy:=Dh (r:=⟨3,1,v,M.length,M.flatMap (fun x:Int=>[.i x])⟩) wM Vd (fun p hp=>by rcases azG.1 hp with rfl | hp; (exact .inr (by show _≤b15; omega)); rcases azG.1 hp with rfl | hp; (exact .inl rfl); cases hp) hfv;have S:=S.iH 1;obtain⟨R,Y21⟩:=R.bP S (aAr 1);refine adr S 3 [] [.re 20 (.i (IntKind.i64.wrap ((k:Int)+1))) (.i (k+1:Nat))] (hk:=⟨azj (by omega),trivial⟩) fun S=>azo S ig (fun S=>?_);exact eU _ _ ((k+1),v19,(M++[BJ]),p13,d13) ⟨by omega,⟨hfr,by rw[azz,hML]; rfl,(fun z hz=>by rcases az9.1 hz with hz | hz; (exact JZ z hz); obtain rfl:=az0.1 hz; exact i13),J8,by exact hG.snoc g13,Iy⟩,R.as (show [(⟨3,1,v19,M.length+1,M.flatMap (fun x:Int=>[.i x])++[.i BJ]⟩:Sx.Row)]=[⟨3,1,v19,(M++[BJ]).length,(M++[BJ]).flatMap (fun x:Int=>[.i x])⟩] by simp),S.sn⟩ (by show _-_<_-_; omega)
 have hkn:k=n:=by have:=azR nH; omega
 refine apB S v (fun S=>?_);exact⟨_,M,_,_,rfl,by omega,JZ,Sx.kS (f:=(fun x:Int=>[.i x])) (L:=M) (fun _=>rfl) (hfv.own (R.own _ azJ)) rfl rfl,hkn▸hG,hpp,S.E,hch,S.bx 0⟩
theorem agY{w0 w:World}{b p cap:Nat}{a:Option Addr}{bad pk:Bool}{l:List UInt8}(hE:Ext w0 w)(hx:Bx w b #[.slice a l.length cap,.i p,.bool bad,.bool pk])(hb:w0.heap.size≤b)(h:jr w0 (.slice a l.length cap) l)(hp:p≤l.length){n:Nat}(hn:n≤l.length)(hll:l.length≤100000000) :
  Calls Tryz.prog 170 #[.q b 0,.i n,.func (.func 171) #[.q b 0] #[]] w fun e w'=>∃(v:Value) (X:List bG) (p':Nat) (d':Bool),e = .returned v∧X.length≤n∧(∀s∈X,True)∧Sx.aU w.heap.size (fun W=>aJ 4 bG.cells W v X) w'∧iY Px.pb (fun _=>True) l p bad n p' d' X∧J7 w0 w w' b a l cap pk p' d':=by
 skip;refine azr Tryz.func170 Tryz.ntmps170 hE hx hb (fun S=>?_);have R:=aAc S;have Iu:=(Ch.refl b w);refine azm S (ι:=Nat×Value×List bG×Nat×Bool) (fun pq a' w'=>pq.1≤n∧(jK w.heap.size pq.2.1∧pq.2.2.1.length=pq.1∧(∀s∈pq.2.2.1,True)∧pq.2.2.2.1≤l.length∧iY Px.pb (fun _=>True) l p bad pq.1 pq.2.2.2.1 pq.2.2.2.2 pq.2.2.1∧Ch b w w')∧Sx.Rw w0 w' [(b,[.slice a l.length cap,.i pq.2.2.2.1,.bool pq.2.2.2.2,.bool pk])] [⟨178,4,pq.2.1,pq.2.2.1.length,pq.2.2.1.flatMap bG.cells⟩]∧Sx.St w0 a' w' 22 [(0,.q b 0),(1,.i n),(2,.func (.func 171) #[.q b 0] #[]),(6,.sn),(7,pq.2.1),(8,.i n),(9,.i pq.1)] [(b,[.slice a l.length cap,.i pq.2.2.2.1,.bool pq.2.2.2.2,.bool pk])] []) (fun pq=>n-pq.1) (0,(.sn),[],p,bad) (fun S=>⟨azB _,⟨jK.nil _,rfl,(fun x hx=>by cases hx),hp,iY.nil,Iu⟩,Di R,S.sn⟩) ?_;rintro⟨k,v,M,pp,dd⟩ ac u ig eU hI;try dsimp only at hI
 obtain⟨hk,hR,R,S⟩:=hI;refine azn S (fun S=>?_);obtain⟨hfv,hML,JZ,hpp,hG,hch⟩:=hR;refine ay0 S (decide ((k:Int)<(n:Int))) (fun nH S=>?_) (fun nH S=>?_)
 ·refine adr S 4 [] [.mem 0 2] fun S=>ay0 S (dd) (fun gU S=>?_) (fun gU S=>?_)
  ·refine apB S (.sn) (fun S=>?_);exact⟨_,[],_,_,rfl,azB _,(fun x hx=>by cases hx),fun W _ _=>dH _ _ _,(iY.fail (by rw[gU]at hG; exact hG) hk),hpp,S.E,hch,S.bx 0⟩
  have S:=S.fl;have y13:=(hch).size;refine Sx.aX S 0 rfl (agW S.E (S.bx 0) (S.old 0) h hpp) ?_;rintro e u ⟨q13,p13,d13,rfl,g13,J8,zV,oG,Iw⟩;refine⟨_,_,rfl,zV,oG,Iw,fun S=>?_⟩;have aed:=oG.size;have zH:=(aH hch oG);refine ay6 S q13.cells (fun u b15 ED vk S=>?_);obtain⟨R,Y18⟩:=R.bP S (azP (Sx.Stp.Oe oG) (aAB ED vk));have hlt:k<n:=by have:=azN nH; omega
  have wM:=((Ch.trans zH (Ch.aZ ED)));have hus:=wM.size;refine ay7 S fun S=>Sx.app S R 0 19 rfl aib (Sx.qA (m:=1) (k:=4) (A:=q13.cells) (S.bx 0)) (by show M.length+1≤9223372036854775807; omega) (by show(M.length+1)*_≤140737488355328; omega) fun ac u v19 Vd R S=>azh S (fun S=>?_);have hfr:=jK.step (r:=⟨178,4,v,M.length,M.flatMap bG.cells⟩) hfv R Vd hus;have Iy:=Dh (r:=⟨178,4,v,M.length,M.flatMap bG.cells⟩) wM Vd (fun p hp=>by rcases azG.1 hp with rfl | hp; (exact .inr (by show _≤b15; omega)); rcases azG.1 hp with rfl | hp; (exact .inl rfl); cases hp) hfv;have S:=S.iH 1;obtain⟨R,Y21⟩:=R.bP S (aAr 1);refine adr S 3 [] [.re 20 (.i (IntKind.i64.wrap ((k:Int)+1))) (.i (k+1:Nat))] (hk:=⟨azj (by omega),trivial⟩) fun S=>azo S ig (fun S=>?_);exact eU _ _ ((k+1),v19,(M++[q13]),p13,d13) ⟨by omega,⟨hfr,by rw[azz,hML]; rfl,(fun _ _=>trivial),J8,by exact hG.snoc g13,Iy⟩,R.as (show [(⟨178,4,v19,M.length+1,M.flatMap bG.cells++q13.cells⟩:Sx.Row)]=[⟨178,4,v19,(M++[q13]).length,(M++[q13]).flatMap bG.cells⟩] by simp),S.sn⟩ (by show _-_<_-_; omega)
 have hkn:k=n:=by have:=azR nH; omega
 refine apB S v (fun S=>?_);exact⟨_,M,_,_,rfl,by omega,JZ,Sx.kS (f:=bG.cells) (L:=M) (fun _=>rfl) (hfv.own (R.own _ azJ)) rfl rfl,hkn▸hG,hpp,S.E,hch,S.bx 0⟩
end Go.Proofs.YtodpgjjgaddkeaaGreatDoor
end
theorem aza:type_of% @Go.Sx.aX:=@Go.Sx.aX
