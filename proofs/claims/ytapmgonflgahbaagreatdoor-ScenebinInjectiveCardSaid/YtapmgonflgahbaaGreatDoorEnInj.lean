/- Encodings say what was encoded. No program in sight. -/
import Derived.Test.YtapmgonflgahbaaGreatDoorPk46
namespace Go.Proofs.YtapmgonflgahbaaGreatDoor
open En
set_option linter.unusedVariables false
variable{α:Type}{K:Nat}
def PI(f:α→List UInt8)(x y:α):Prop:=∀r s,f x++r=f y++s→x=y∧r=s
theorem Fv{a b:Nat}(ha:a<18446744073709551616)(hb:b<18446744073709551616):PI (fE 10) a b:=fun r s h=>by
 have h1:=ug a r ha;have h2:=ug b s hb;rw[h,h2]at h1;simp only[Except.ok.injEq,aie]at h1;obtain⟨rfl,-⟩:=h1;exact⟨rfl,List.append_cancel_left h⟩
theorem aaf{a b:Int}(ha:I64 a)(hb:I64 b):PI iB a b:=fun r s h=>by
 obtain⟨h1,h2⟩:=Fv (KL ha.1 ha.2) (KL hb.1 hb.2) r s h;exact⟨by rw[←Ec a,h1,Ec],h2⟩
theorem Ii{f:α→List UInt8}:∀{L M:List α},L.length=M.length→(∀x∈L,∀y∈M,PI f x y)→PI (fun l:List α=>l.flatMap f) L M
 | [],[],_,_,r,s,h=>⟨rfl,h⟩
 | [],_::_,hl,_,_,_,_=>by cases hl
 | _::_,[],hl,_,_,_,_=>by cases hl
 | x::L,y::M,hl,hp,r,s,h=>by
  simp only[ajy,aiJ]at h
  obtain⟨rfl,h2⟩:=hp x aiB y aiB _ _ h
  obtain⟨rfl,h3⟩:=Ii (by simpa using hl) (fun a ha b hb=>hp a (ajt _ ha) b (ajt _ hb)) r s h2
  exact⟨rfl,h3⟩
theorem yc{f:α→List UInt8}{L M:List α}(hL:L.length<18446744073709551616)(hM:M.length<18446744073709551616)(hp:∀x∈L,∀y∈M,PI f x y):PI (iG f) L M:=fun r s h=>by
 unfold iG at h;rw[aiJ,aiJ]at h;obtain⟨h1,h2⟩:=Fv hL hM _ _ h;exact Ii h1 hp r s h2
theorem jr{L M:List Int}{r s:List UInt8}(h:dH L++r=dH M++s)(hL:pW L)(hM:pW M)(hl:L.length=M.length:=by rfl):L=M∧r=s:=Ii hl (fun x hx y hy=>aaf (hL.all x hx) (hM.all y hy)) r s h
theorem Fz{l m:List UInt8}(hl:l.length<18446744073709551616)(hm:m.length<18446744073709551616):PI oL l m:=fun r s h=>by
 unfold oL at h;rw[aiJ,aiJ]at h;obtain⟨h1,h2⟩:=Fv hl hm _ _ h;exact List.append_inj h2 h1
theorem Yb{p q:Bool×Nat×Nat}(hp:dP p≤256)(hq:dP q≤256):PI ql p q:=fun r s h=>by
 unfold dP at hp hq;have a1:=Nb.bf (Ed (n:=p.2.1) (by omega));have a2:=Nb.bf (Ed (n:=p.2.2) (by omega));have b1:=Nb.bf (Ed (n:=q.2.1) (by omega));have b2:=Nb.bf (Ed (n:=q.2.2) (by omega));obtain⟨p0,p1,p2⟩:=p;obtain⟨q0,q1,q2⟩:=q;simp only[ql,aje,aix,aiJ]at h a1 a2 b1 b2;obtain⟨h0,h⟩:=h;have t:=Fz (by omega) (by omega) _ _ h;clear h;obtain⟨h1,h⟩:=t;have t:=Fz (by omega) (by omega) _ _ h;clear h;obtain⟨h2,h⟩:=t;have e1:p1=q1:=by rw[←Nb.aF p1,h1,Nb.aF]
 have e2:p2=q2:=by rw[←Nb.aF p2,h2,Nb.aF]
 have e0:p0=q0:=by cases p0<;>cases q0<;>simp at h0 ⊢
 exact⟨by rw[e0,e1,e2],h⟩
theorem NT{p q:Q6}(hp:p.valid=true)(hq:q.valid=true):PI yg p q:=fun r s h=>by
 have hall:∀{q:Q6},q.valid=true→∀x∈[q.a,q.b,q.c,q.d,q.e,q.f],dP x≤256:=fun{q} hq x hx=>by
  unfold Q6.valid at hq;simp only[aiq,aiz]at hq;simp only[aip,ajG,or_false]at hx;obtain⟨h1,h2,h3,h4,h5,h6⟩:=hq;rcases hx with rfl | rfl | rfl | rfl | rfl | rfl<;>assumption
 obtain⟨h1,h2⟩:=Ii (L:=[p.a,p.b,p.c,p.d,p.e,p.f]) (M:=[q.a,q.b,q.c,q.d,q.e,q.f]) rfl (fun x hx y hy=>Yb (hall hp x hx) (hall hq y hy)) r s h;cases p; cases q;simp only[aix,and_true]at h1;obtain⟨rfl,rfl,rfl,rfl,rfl,rfl⟩:=h1;exact⟨rfl,h2⟩
theorem NU(p q:dA):PI Px.pb p q:=fun r s h=>Px.Ue h
theorem abd{a b:eG}(ha:a.ok)(hb:b.ok):PI lT a b:=fun r s h=>by
 unfold lT at h;obtain⟨h1,h2⟩:=jr h ⟨ha.1,ha.2.1.1,ha.2.1.2,ha.2.2.1.1,ha.2.2.1.2,ha.2.2.2.1,ha.2.2.2.2,trivial⟩ ⟨hb.1,hb.2.1.1,hb.2.1.2,hb.2.2.1.1,hb.2.2.1.2,hb.2.2.2.1,hb.2.2.2.2,trivial⟩;obtain⟨v,⟨ax,ay⟩,⟨bx,by'⟩,cx,cy⟩:=a;obtain⟨v',⟨ax',ay'⟩,⟨bx',ahh⟩,cx',cy'⟩:=b;simp only[aix,and_true]at h1;obtain⟨rfl,rfl,rfl,rfl,rfl,rfl,rfl⟩:=h1;exact⟨rfl,h2⟩
theorem NV{L M:List eG}(hL:L.length≤256∧∀x∈L,x.ok)(hM:M.length≤256∧∀x∈M,x.ok):PI (iG lT) L M:=yc (by omega) (by omega) fun x hx y hy=>abd (hL.2 x hx) (hM.2 y hy)
theorem Yc{a b:eY}(ha:a.ok)(hb:b.ok):PI kL a b:=fun r s h=>by
 unfold kL at h;rw[aiJ,aiJ]at h;have t:=jr h ⟨ha,trivial⟩ ⟨hb,trivial⟩;clear h;obtain⟨h1,h⟩:=t;have t:=NU _ _ _ _ h;clear h;obtain⟨h2,h⟩:=t;cases a; cases b;simp only[aix,and_true]at h1 h2;exact⟨by rw[h1,h2],h⟩
structure yh.Good (m:yh):Prop where
 w:I64 m.w
 h:I64 m.h
 n:(m.l.length:Int)=m.w*m.h
 len:m.l.length≤65536
theorem Uf{pk:Bool}{a b:yh}(ha:a.Good)(hb:b.Good):PI (zF pk) a b:=fun r s h=>by
 unfold zF at h;rw[aiJ,aiJ]at h;have t:=jr h ⟨ha.w,ha.h,trivial⟩ ⟨hb.w,hb.h,trivial⟩;clear h;obtain⟨h1,h⟩:=t;obtain⟨aw,ah,al⟩:=a;obtain⟨bw,bh,NW⟩:=b;simp only[aix,and_true]at h1;obtain⟨rfl,rfl⟩:=h1;have e:al.length=NW.length:=by have h1:=ha.n; have h2:=hb.n; simp only at h1 h2; omega
 have l1:=ha.len;have l2:=hb.len;simp only at l1 l2;cases pk
 ·simp only[aj9,if_false]at h;have t:=Ii e (fun x _ y _=>NU x y) _ _ h;clear h;obtain⟨rfl,h⟩:=t;exact⟨rfl,h⟩
 simp only[if_true]at h;have e1:=Az al;have e2:=Az NW;have t:=Fz (by omega) (by omega) _ _ h;clear h;obtain⟨h2,h⟩:=t;obtain rfl:=Px.Yd (by omega) (by omega) h2;exact⟨rfl,h⟩
structure qK.Good (p:qK):Prop where
 kind:I64 p.kind
 p0:p.p0.ok
 p1:p.p1.ok
 bF:I64 p.bF
 stops:p.stops.length≤16∧∀s∈p.stops,s.ok
 spread:I64 p.spread
 img:p.img.Good
 bQ:I64 p.bQ
 q:p.q.valid=true
theorem Ij{pk:Bool}{a b:qK}(ha:a.Good)(hb:b.Good):PI (gq pk) a b:=fun r s h=>by
 unfold gq at h;simp only[aiJ]at h;have t:=jr h ⟨ha.kind,trivial⟩ ⟨hb.kind,trivial⟩;clear h;obtain⟨h1,h⟩:=t;have t:=NU _ _ _ _ h;clear h;obtain⟨h2,h⟩:=t;have t:=jr h ⟨ha.p0.1,ha.p0.2,ha.p1.1,ha.p1.2,ha.bF,trivial⟩ ⟨hb.p0.1,hb.p0.2,hb.p1.1,hb.p1.2,hb.bF,trivial⟩;clear h;obtain⟨h3,h⟩:=t;have t:=yc (by have:=ha.stops.1; omega) (by have:=hb.stops.1; omega) (fun x hx y hy=>Yc (ha.stops.2 x hx) (hb.stops.2 y hy)) _ _ h;clear h;obtain⟨h4,h⟩:=t;have t:=jr h ⟨ha.spread,trivial⟩ ⟨hb.spread,trivial⟩;clear h;obtain⟨h5,h⟩:=t;have t:=Uf ha.img hb.img _ _ h;clear h;obtain⟨h6,h⟩:=t;have t:=jr h ⟨ha.bQ,trivial⟩ ⟨hb.bQ,trivial⟩;clear h;obtain⟨h7,h⟩:=t;have t:=NT ha.q hb.q _ _ h;clear h;obtain⟨h8,h⟩:=t;obtain⟨k,c,⟨x0,y0⟩,⟨x1,y1⟩,rd,st,sp,im,sm,q⟩:=a;obtain⟨k',c',⟨x0',y0'⟩,⟨x1',y1'⟩,rd',st',sp',im',sm',q'⟩:=b;simp only[aix,and_true]at h1 h2 h3 h4 h5 h6 h7 h8;obtain⟨rfl,rfl,rfl,rfl,rfl⟩:=h3;subst h1 h2 h4 h5 h6 h7 h8;exact⟨rfl,h⟩
structure mJ.Good (p:mJ):Prop where
 i:I64 p.width∧I64 p.join∧I64 p.cap∧I64 p.dZ∧I64 p.phase
 dash:p.dash.length≤16∧∀x∈p.dash,I64 x
theorem abe{a b:mJ}(ha:a.Good)(hb:b.Good):PI FB a b:=fun r s h=>by
 unfold FB at h;rw[aiJ,aiJ]at h;obtain⟨a1,a2,a3,a4,a5⟩:=ha.i;obtain⟨b1,b2,b3,b4,b5⟩:=hb.i;have t:=jr h ⟨a1,a2,a3,a4,a5,trivial⟩ ⟨b1,b2,b3,b4,b5,trivial⟩;clear h;obtain⟨h1,h⟩:=t;have t:=yc (by have:=ha.dash.1; omega) (by have:=hb.dash.1; omega) (fun x hx y hy=>aaf (ha.dash.2 x hx) (hb.dash.2 y hy)) _ _ h;clear h;obtain⟨h2,h⟩:=t;obtain⟨w,j,c,m,d,p⟩:=a;obtain⟨w',j',c',m',d',p'⟩:=b;simp only[aix,and_true]at h1 h2;obtain⟨rfl,rfl,rfl,rfl,rfl⟩:=h1;subst h2;exact⟨rfl,h⟩
def mJ.zero:mJ:=⟨0,0,0,0,[],0⟩
def yh.zero:yh:=⟨0,0,[]⟩
def dV.canon(n:dV):dV:=
 if n.kind=1 then { n with path:=[],aV:=0,fill:=[],style := .zero,stroke:=[],img := .zero,bQ:=0 }
 else if n.kind=2 then { n with dJ:=0,blend:=0,isolated:=false,bY:=false,style:=(if 0<n.stroke.length then n.style else .zero),img := .zero,bQ:=0 }
 else if n.kind=3 then { n with dJ:=0,blend:=0,isolated:=false,bY:=false,path:=[],aV:=0,fill:=[],style := .zero,stroke:=[] }
 else { n with dJ:=0,blend:=0,isolated:=false,bY:=false,path:=[],aV:=0,fill:=[],style := .zero,stroke:=[],img := .zero,bQ:=0 }
structure dV.Good (n:dV):Prop where
 i:I64 n.id∧I64 n.kind∧I64 n.depth∧I64 n.aO∧I64 n.blend∧I64 n.aV∧I64 n.bQ
 q:n.q.valid=true
 clip:n.clip.length≤256∧∀s∈n.clip,s.ok
 path:n.kind=2→n.path.length≤256∧∀s∈n.path,s.ok
 fill:n.kind=2→n.fill.length≤1∧∀p∈n.fill,p.Good
 stroke:n.kind=2→n.stroke.length≤1∧∀p∈n.stroke,p.Good
 style:n.kind=2→0<n.stroke.length→n.style.Good
 img:n.kind=3→n.img.Good
theorem NY{a b:Bool}(h:oM a=oM b):a=b:=by cases a<;>cases b<;>simp[oM]at h ⊢
theorem Ye{pk:Bool}{a b:dV}(ha:a.Good)(hb:b.Good)(r s:List UInt8)(h:fH pk a++r=fH pk b++s):a.canon=b.canon∧r=s:=by
 unfold fH at h;simp only[aiJ]at h;obtain⟨a1,a2,a3,a4,a5,a6,a7⟩:=ha.i;obtain⟨b1,b2,b3,b4,b5,b6,b7⟩:=hb.i;have t:=jr h ⟨a1,a2,a3,trivial⟩ ⟨b1,b2,b3,trivial⟩;clear h;obtain⟨h1,h⟩:=t;have t:=NT ha.q hb.q _ _ h;clear h;obtain⟨h2,h⟩:=t;have t:=NV ha.clip hb.clip _ _ h;clear h;obtain⟨h3,h⟩:=t;have t:=jr h ⟨a4,trivial⟩ ⟨b4,trivial⟩;clear h;obtain⟨h4,h⟩:=t;obtain⟨id,kd,dp,q,cl,cr,op,bd,is,kn,pa,fr,fi,sy,st,im,sm⟩:=a;obtain⟨id',kd',dp',q',cl',cr',op',bd',is',kn',pa',fr',fi',sy',st',im',sm'⟩:=b;simp only[aix,and_true]at h1 h2 h3 h4;obtain⟨rfl,rfl,rfl⟩:=h1;subst h2 h3 h4;unfold oV at h;unfold dV.canon;simp only at h ⊢;by_cases k1:kd=1
 ·simp only[aib k1,aiJ]at h ⊢;simp only[aje,ajl,aix]at h;obtain⟨h5,h⟩:=h;have t:=jr h ⟨a5,trivial⟩ ⟨b5,trivial⟩;clear h;obtain⟨h6,h⟩:=t;simp only[aix,and_true]at h h6;obtain⟨h7,h8,h⟩:=h;obtain rfl:=NY h7;obtain rfl:=NY h8;exact⟨by rw[h5,h6],h⟩
 by_cases k2:kd=2
 ·simp only[ah7 k1,aib k2,aiJ]at h ⊢;have t:=NV (ha.path k2) (hb.path k2) _ _ h;clear h;obtain⟨h5,h⟩:=t;have t:=jr h ⟨a6,trivial⟩ ⟨b6,trivial⟩;clear h;obtain⟨h6,h⟩:=t;have f1:=ha.fill k2;have f2:=hb.fill k2;have s1:=ha.stroke k2;have s2:=hb.stroke k2;have t:=yc (by have:=f1.1; omega) (by have:=f2.1; omega) (fun x hx y hy=>Ij (f1.2 x hx) (f2.2 y hy)) _ _ h;clear h;obtain⟨h7,h⟩:=t;have t:=yc (by have:=s1.1; omega) (by have:=s2.1; omega) (fun x hx y hy=>Ij (s1.2 x hx) (s2.2 y hy)) _ _ h;clear h;obtain⟨h8,h⟩:=t;have y1:=ha.style k2;have y2:=hb.style k2;simp only[aix,and_true]at h5 h6 h7 h8 y1 y2;subst h5 h6 h7 h8;by_cases hs:0<st.length
  ·simp only[aib hs]at h ⊢;have t:=abe (y1 hs) (y2 hs) _ _ h;clear h;obtain⟨rfl,h⟩:=t;exact⟨rfl,h⟩
  simp only[ah7 hs,ajl]at h ⊢;exact⟨trivial,h⟩
 by_cases k3:kd=3
 ·simp only[ah7 k1,ah7 k2,aib k3,aiJ]at h ⊢;have t:=Uf (ha.img k3) (hb.img k3) _ _ h;clear h;obtain⟨h5,h⟩:=t;have t:=jr h ⟨a7,trivial⟩ ⟨b7,trivial⟩;clear h;obtain⟨h6,h⟩:=t;simp only[aix,and_true]at h5 h6;subst h5 h6;exact⟨rfl,h⟩
 simp only[ah7 k1,ah7 k2,ah7 k3,ajl]at h ⊢;exact⟨trivial,h⟩
theorem AA{w:World}{p:au}(h:p.ok w)(hv:p.valid=true):p.key.Good:=by
 obtain⟨l1,l2,l3⟩:=uh hv;exact⟨h.1,h.2.1,h.2.2.1,h.2.2.2.1,⟨l2,h.2.2.2.2.2.1⟩,h.2.2.2.2.2.2.1,⟨h.2.2.2.2.2.2.2.1.1,h.2.2.2.2.2.2.2.1.2.1,l3.1,l3.2.1⟩,h.2.2.2.2.2.2.2.2.1,l1⟩
theorem Ee{w:World}{n:aA}(h:n.ok w)(hv:n.checkN=0):n.key.Good:=by
 have hL:=sD hv;obtain⟨h1,h2,h3,h4,h5,h6,h7,h8,h9,h10,h11,h12,h13,KC⟩:=h;refine⟨⟨h1,h2,h3,h6,h7,h9,KC⟩,hL.q,⟨hL.clip,h5.2⟩,fun hk=>?_,fun hk=>?_,fun hk=>?_,fun hk hs=>?_,fun hk=>?_⟩
 ·exact⟨(hL.shape hk).1,h8.2⟩
 ·exact⟨by simpa[aA.key]using (hL.shape hk).2.1,fun x hx=>by obtain⟨p,hp,rfl⟩:=aiR.1 hx; exact AA (h10.2 p hp) ((hL.shape hk).2.2.2.1 p hp)⟩
 ·exact⟨by simpa[aA.key]using (hL.shape hk).2.2.1,fun x hx=>by obtain⟨p,hp,rfl⟩:=aiR.1 hx; exact AA (h12.2 p hp) ((hL.shape hk).2.2.2.2.1 p hp)⟩
 ·exact⟨⟨h11.1,h11.2.1,h11.2.2.1,h11.2.2.2.1,h11.2.2.2.2.2.2⟩,(hL.shape hk).2.2.2.2.2 (by simpa[aA.key]using hs),h11.2.2.2.2.2.1⟩
 have:=hL.img hk;exact⟨h13.1,h13.2.1,this.1,this.2.1⟩
theorem FC{p:aZ}(h:p.eq aZ.bare=true):p.key = .zero:=by
 unfold aZ.eq aZ.bare at h;simp only[aiq,aiv,aiz]at h;obtain⟨⟨⟨⟨⟨h1,h2⟩,h3⟩,h4⟩,h5⟩,h6⟩:=h;unfold aZ.key mJ.zero;rw[h1,h2,h3,h4,h5,h6]
theorem NZ{m:cZ}(h:m.eq cZ.bare=true):m.key = .zero:=by
 unfold cZ.eq cZ.bare at h;simp only[aiq,aiv]at h;unfold cZ.key yh.zero;rw[h.1,h.2.1,h.2.2]
theorem AB{n:aA}(hv:n.checkN=0):n.key.canon=n.key:=by
 have hL:=sD hv;have hb:=hL.bare;have hkb:=wR hv;unfold aA.bare at hb;unfold dV.canon;by_cases k1:n.kind=1
 ·rw[aib (show n.key.kind=1 from k1)];simp only[k1,show((1:Int)==1)=true from rfl,cond_true,aiq,aiv]at hb;obtain⟨⟨⟨⟨⟨b1,b2⟩,b3⟩,b4⟩,b5⟩,b6,b7⟩:=hb;have e1:n.path=[]:=akj.1 (by omega);have e3:n.fill=[]:=akj.1 (by omega);have e4:n.stroke=[]:=akj.1 (by omega);simp only[aA.key,e1,b2,e3,e4,FC b5,NZ b6,b7,ajm]
 rw[ah7 (show ¬n.key.kind=1 from k1)];by_cases k2:n.kind=2
 ·rw[aib (show n.key.kind=2 from k2)];simp only[k2,show((2:Int)==1)=false from rfl,show((2:Int)==2)=true from rfl,cond_false,cond_true,aiq,aiv,ajz]at hb;obtain⟨⟨⟨⟨b1,b2⟩,b3⟩,b4⟩,b6,b7⟩:=hb;have e1:n.dJ=0:=yj.1 (by rw[b1]; rfl);have e2:(if 0<n.key.stroke.length then n.key.style else mJ.zero)=n.key.style:=by
   split
   ·rfl
   rename_i hs; exact(FC (hL.sty k2 (by simpa[aA.key]using hs))).symm
  rw[e2];simp only[aA.key,e1,b2,b3,b4,NZ b6,b7]
 rw[ah7 (show ¬n.key.kind=2 from k2),aib (show n.key.kind=3 by show n.kind=3; omega)];have k1':(n.kind==1)=false:=by simpa using k1
 have k2':(n.kind==2)=false:=by simpa using k2
 simp only[k1',k2',cond_false,aiq,aiv,ajz]at hb;obtain⟨⟨⟨⟨b1,b2⟩,b3⟩,b4⟩,⟨⟨⟨c1,c2⟩,c3⟩,c4⟩,c5⟩:=hb;have e0:n.dJ=0:=yj.1 (by rw[b1]; rfl);have e1:n.path=[]:=akj.1 (by omega);have e3:n.fill=[]:=akj.1 (by omega);have e4:n.stroke=[]:=akj.1 (by omega);simp only[aA.key,e0,b2,b3,b4,e1,c2,e3,e4,FC c5,ajm]
theorem Ef{pk:Bool}{w:World}{n m:aA}(h:n.ok w)(h':m.ok w)(hv:n.checkN=0)(hv':m.checkN=0)(r s:List UInt8)(e:fH pk n.key++r=fH pk m.key++s):n.key=m.key∧r=s:=by
 obtain⟨h1,h2⟩:=Ye (Ee h hv) (Ee h' hv') r s e;rw[AB hv,AB hv']at h1;exact⟨h1,h2⟩
theorem wS{s:bC}(h:s.key.valid=true):∀n∈s.ns,n.checkN=0:=fun n hn=>by
 obtain⟨-,h1,h2⟩:=iO.Eh.1 h;rw[←uj];exact(Ug.1 h2).1 _ (aiR.2 ⟨n,hn,rfl⟩)
theorem KN{w:World}{s t:bC}(h:gQ K w s)(h':gQ K w t)(hv:s.key.valid=true)(hv':t.key.valid=true)(r q:List UInt8)(e:jD s.key++r=jD t.key++q):s.key=t.key∧r=q:=by
 unfold jD at e;simp only[aiJ]at e;have e:=List.append_cancel_left e;obtain⟨e1,e⟩:=jr e ⟨h.1,h.2.1,trivial⟩ ⟨h'.1,h'.2.1,trivial⟩;obtain⟨e2,e⟩:=NU _ _ _ _ e;have l1:=(qL hv).1;have l2:=(qL hv').1;obtain⟨e3,e⟩:=yc (f:=fH false) (L:=s.key.ns) (M:=t.key.ns) (by simp only[bC.key,ajU]; omega) (by simp only[bC.key,ajU]; omega) (fun x hx y hy=>by
  obtain⟨n,hn,rfl⟩:=aiR.1 hx;obtain⟨m,hm,rfl⟩:=aiR.1 hy;exact fun r s e=>Ef (h.2.2.2 n hn).1 (h'.2.2.2 m hm).1 (wS hv n hn) (wS hv' m hm) r s e) _ _ e
 simp only[aix,and_true]at e1;obtain⟨e4,e5⟩:=e1;refine⟨?_,e⟩;generalize s.key=x at *;generalize t.key=y at *;cases x; cases y;simp only at e2 e3 e4 e5;rw[e2,e3,e4,e5]
end Go.Proofs.YtapmgonflgahbaaGreatDoor
