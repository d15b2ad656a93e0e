/- Encodings say what was encoded. No program in sight. -/
import Derived.Test.YtapmgonflgahbaaGreatDoorPk33
set_option linter.unusedVariables false
section
namespace Go.Proofs.YtapmgonflgahbaaGreatDoor
open En
variable{α:Type}{K:Nat}
def PI(f:α→List UInt8)(x y:α):Prop:=∀r s,f x++r=f y++s→x=y∧r=s
theorem MI{a b:Nat}(ha:a<18446744073709551616)(hb:b<18446744073709551616):PI (fZ 10) a b:=fun r s h=>by
 have h1:=qK a r ha;have h2:=qK b s hb;rw[h,h2]at h1;simp only[ayG,awo]at h1;obtain⟨rfl,-⟩:=h1;exact⟨rfl,List.append_cancel_left h⟩
theorem JY{a b:Int}(ha:I64 a)(hb:I64 b):PI iB a b:=fun r s h=>by
 obtain⟨h1,h2⟩:=MI (Lc ha.1 ha.2) (Lc hb.1 hb.2) r s h;exact⟨by rw[←Cm a,h1,Cm],h2⟩
theorem Qq{f:α→List UInt8}:∀{L M:List α},L.length=M.length→(∀x∈L,∀y∈M,PI f x y)→PI (fun l:List α=>l.flatMap f) L M
 | [],[],_,_,r,s,h=>⟨rfl,h⟩
 | [],_::_,hl,_,_,_,_=>by cases hl
 | _::_,[],hl,_,_,_,_=>by cases hl
 | x::L,y::M,hl,hp,r,s,h=>by
  simp only[axJ,awF]at h
  obtain⟨rfl,h2⟩:=hp x awK y awK _ _ h
  obtain⟨rfl,h3⟩:=Qq (by simpa using hl) (fun a ha b hb=>hp a (axQ _ ha) b (axQ _ hb)) r s h2
  exact⟨rfl,h3⟩
theorem CU{f:α→List UInt8}{L M:List α}(hL:L.length<18446744073709551616)(hM:M.length<18446744073709551616)(hp:∀x∈L,∀y∈M,PI f x y):PI (iE f) L M:=fun r s h=>by
 unfold iE at h;rw[awF,awF]at h;obtain⟨h1,h2⟩:=MI hL hM _ _ h;exact Qq h1 hp r s h2
theorem kT{L M:List Int}{r s:List UInt8}(h:dK L++r=dK M++s)(hL:rM L)(hM:rM M)(hl:L.length=M.length:=by rfl):L=M∧r=s:=Qq hl (fun x hx y hy=>JY (hL.all x hx) (hM.all y hy)) r s h
theorem MJ{l m:List UInt8}(hl:l.length<18446744073709551616)(hm:m.length<18446744073709551616):PI kX l m:=fun r s h=>by
 unfold kX at h;rw[awF,awF]at h;obtain⟨h1,h2⟩:=MI hl hm _ _ h;exact List.append_inj h2 h1
theorem afk{p q:Bool×Nat×Nat}(hp:eF p≤256)(hq:eF q≤256):PI gu p q:=fun r s h=>by
 unfold eF at hp hq;have a1:=Nb.bn (Dz (n:=p.2.1) (by omega));have a2:=Nb.bn (Dz (n:=p.2.2) (by omega));have b1:=Nb.bn (Dz (n:=q.2.1) (by omega));have b2:=Nb.bn (Dz (n:=q.2.2) (by omega));obtain⟨p0,p1,p2⟩:=p;obtain⟨q0,q1,q2⟩:=q;simp only[gu,axB,awO,awF]at h a1 a2 b1 b2;obtain⟨h0,h⟩:=h;have t:=MJ (by omega) (by omega) _ _ h;clear h;obtain⟨h1,h⟩:=t;have t:=MJ (by omega) (by omega) _ _ h;clear h;obtain⟨h2,h⟩:=t;have e1:p1=q1:=by rw[←Nb.aC p1,h1,Nb.aC]
 have e2:p2=q2:=by rw[←Nb.aC p2,h2,Nb.aC]
 have e0:p0=q0:=by cases p0<;>cases q0<;>simp at h0 ⊢
 exact⟨by rw[e0,e1,e2],h⟩
theorem WQ{p q:Q6}(hp:p.valid=true)(hq:q.valid=true):PI tY p q:=fun r s h=>by
 have hall:∀{q:Q6},q.valid=true→∀x∈[q.a,q.b,q.c,q.d,q.e,q.f],eF x≤256:=fun{q} hq x hx=>by
  unfold Q6.valid at hq;simp only[awC,awL]at hq;simp only[aww,ax8,or_false]at hx;obtain⟨h1,h2,h3,h4,h5,h6⟩:=hq;rcases hx with rfl | rfl | rfl | rfl | rfl | rfl<;>assumption
 obtain⟨h1,h2⟩:=Qq (L:=[p.a,p.b,p.c,p.d,p.e,p.f]) (M:=[q.a,q.b,q.c,q.d,q.e,q.f]) rfl (fun x hx y hy=>afk (hall hp x hx) (hall hq y hy)) r s h;cases p; cases q;simp only[awO,and_true]at h1;obtain⟨rfl,rfl,rfl,rfl,rfl,rfl⟩:=h1;exact⟨rfl,h2⟩
theorem Qr(p q:bW):PI Px.pb p q:=fun r s h=>Px.RU h
theorem aiW{a b:dO}(ha:a.ok)(hb:b.ok):PI kW a b:=fun r s h=>by
 unfold kW at h;obtain⟨h1,h2⟩:=kT h ⟨ha.1,ha.2.1.1,ha.2.1.2,ha.2.2.1.1,ha.2.2.1.2,ha.2.2.2.1,ha.2.2.2.2,trivial⟩ ⟨hb.1,hb.2.1.1,hb.2.1.2,hb.2.2.1.1,hb.2.2.1.2,hb.2.2.2.1,hb.2.2.2.2,trivial⟩;obtain⟨v,⟨ax,ay⟩,⟨bx,by'⟩,cx,cy⟩:=a;obtain⟨v',⟨ax',ay'⟩,⟨bx',au7⟩,cx',cy'⟩:=b;simp only[awO,and_true]at h1;obtain⟨rfl,rfl,rfl,rfl,rfl,rfl,rfl⟩:=h1;exact⟨rfl,h2⟩
theorem WR{L M:List dO}(hL:L.length≤256∧∀x∈L,x.ok)(hM:M.length≤256∧∀x∈M,x.ok):PI (iE kW) L M:=CU (by omega) (by omega) fun x hx y hy=>aiW (hL.2 x hx) (hM.2 y hy)
theorem afl{a b:dM}(ha:a.ok)(hb:b.ok):PI jw a b:=fun r s h=>by
 unfold jw at h;rw[awF,awF]at h;have t:=kT h ⟨ha,trivial⟩ ⟨hb,trivial⟩;clear h;obtain⟨h1,h⟩:=t;have t:=Qr _ _ _ _ h;clear h;obtain⟨h2,h⟩:=t;cases a; cases b;simp only[awO,and_true]at h1 h2;exact⟨by rw[h1,h2],h⟩
structure oM.Good (m:oM):Prop where
 w:I64 m.w
 h:I64 m.h
 n:(m.l.length:Int)=m.w*m.h
 len:m.l.length≤65536
theorem acU{pk:Bool}{a b:oM}(ha:a.Good)(hb:b.Good):PI (sW pk) a b:=fun r s h=>by
 unfold sW at h;rw[awF,awF]at h;have t:=kT h ⟨ha.w,ha.h,trivial⟩ ⟨hb.w,hb.h,trivial⟩;clear h;obtain⟨h1,h⟩:=t;obtain⟨aw,ah,al⟩:=a;obtain⟨bw,bh,Ph⟩:=b;simp only[awO,and_true]at h1;obtain⟨rfl,rfl⟩:=h1;have e:al.length=Ph.length:=by have h1:=ha.n; have h2:=hb.n; simp only at h1 h2; omega
 have l1:=ha.len;have l2:=hb.len;simp only at l1 l2;cases pk
 ·simp only[ays,if_false]at h;have t:=Qq e (fun x _ y _=>Qr x y) _ _ h;clear h;obtain⟨rfl,h⟩:=t;exact⟨rfl,h⟩
 simp only[if_true]at h;have e1:=Ht al;have e2:=Ht Ph;have t:=MJ (by omega) (by omega) _ _ h;clear h;obtain⟨h2,h⟩:=t;obtain rfl:=Px.ae1 (by omega) (by omega) h2;exact⟨rfl,h⟩
structure jU.Good (p:jU):Prop where
 kind:I64 p.kind
 p0:p.p0.ok
 p1:p.p1.ok
 bH:I64 p.bH
 stops:p.stops.length≤16∧∀s∈p.stops,s.ok
 spread:I64 p.spread
 img:p.img.Good
 dn:I64 p.dn
 q:p.q.valid=true
theorem Qs{pk:Bool}{a b:jU}(ha:a.Good)(hb:b.Good):PI (fC pk) a b:=fun r s h=>by
 unfold fC at h;simp only[awF]at h;have t:=kT h ⟨ha.kind,trivial⟩ ⟨hb.kind,trivial⟩;clear h;obtain⟨h1,h⟩:=t;have t:=Qr _ _ _ _ h;clear h;obtain⟨h2,h⟩:=t;have t:=kT h ⟨ha.p0.1,ha.p0.2,ha.p1.1,ha.p1.2,ha.bH,trivial⟩ ⟨hb.p0.1,hb.p0.2,hb.p1.1,hb.p1.2,hb.bH,trivial⟩;clear h;obtain⟨h3,h⟩:=t;have t:=CU (by have:=ha.stops.1; omega) (by have:=hb.stops.1; omega) (fun x hx y hy=>afl (ha.stops.2 x hx) (hb.stops.2 y hy)) _ _ h;clear h;obtain⟨h4,h⟩:=t;have t:=kT h ⟨ha.spread,trivial⟩ ⟨hb.spread,trivial⟩;clear h;obtain⟨h5,h⟩:=t;have t:=acU ha.img hb.img _ _ h;clear h;obtain⟨h6,h⟩:=t;have t:=kT h ⟨ha.dn,trivial⟩ ⟨hb.dn,trivial⟩;clear h;obtain⟨h7,h⟩:=t;have t:=WQ ha.q hb.q _ _ h;clear h;obtain⟨h8,h⟩:=t;obtain⟨k,c,⟨x0,y0⟩,⟨x1,y1⟩,rd,st,sp,im,sm,q⟩:=a;obtain⟨k',c',⟨x0',y0'⟩,⟨x1',y1'⟩,rd',st',sp',im',sm',q'⟩:=b;simp only[awO,and_true]at h1 h2 h3 h4 h5 h6 h7 h8;obtain⟨rfl,rfl,rfl,rfl,rfl⟩:=h3;subst h1 h2 h4 h5 h6 h7 h8;exact⟨rfl,h⟩
structure lq.Good (p:lq):Prop where
 i:I64 p.width∧I64 p.join∧I64 p.cap∧I64 p.fM∧I64 p.phase
 dash:p.dash.length≤16∧∀x∈p.dash,I64 x
theorem aiX{a b:lq}(ha:a.Good)(hb:b.Good):PI Ak a b:=fun r s h=>by
 unfold Ak at h;rw[awF,awF]at h;obtain⟨a1,a2,a3,a4,a5⟩:=ha.i;obtain⟨b1,b2,b3,b4,b5⟩:=hb.i;have t:=kT h ⟨a1,a2,a3,a4,a5,trivial⟩ ⟨b1,b2,b3,b4,b5,trivial⟩;clear h;obtain⟨h1,h⟩:=t;have t:=CU (by have:=ha.dash.1; omega) (by have:=hb.dash.1; omega) (fun x hx y hy=>JY (ha.dash.2 x hx) (hb.dash.2 y hy)) _ _ h;clear h;obtain⟨h2,h⟩:=t;obtain⟨w,j,c,m,d,p⟩:=a;obtain⟨w',j',c',m',d',p'⟩:=b;simp only[awO,and_true]at h1 h2;obtain⟨rfl,rfl,rfl,rfl,rfl⟩:=h1;subst h2;exact⟨rfl,h⟩
def lq.zero:lq:=⟨0,0,0,0,[],0⟩
def oM.zero:oM:=⟨0,0,[]⟩
def dF.canon(n:dF):dF:=
 if n.kind=1 then { n with path:=[],aY:=0,fill:=[],style := .zero,stroke:=[],img := .zero,dn:=0 }
 else if n.kind=2 then { n with dW:=0,blend:=0,isolated:=false,dI:=false,style:=(if 0<n.stroke.length then n.style else .zero),img := .zero,dn:=0 }
 else if n.kind=3 then { n with dW:=0,blend:=0,isolated:=false,dI:=false,path:=[],aY:=0,fill:=[],style := .zero,stroke:=[] }
 else { n with dW:=0,blend:=0,isolated:=false,dI:=false,path:=[],aY:=0,fill:=[],style := .zero,stroke:=[],img := .zero,dn:=0 }
structure dF.Good (n:dF):Prop where
 i:I64 n.id∧I64 n.kind∧I64 n.depth∧I64 n.aQ∧I64 n.blend∧I64 n.aY∧I64 n.dn
 q:n.q.valid=true
 clip:n.clip.length≤256∧∀s∈n.clip,s.ok
 path:n.kind=2→n.path.length≤256∧∀s∈n.path,s.ok
 fill:n.kind=2→n.fill.length≤1∧∀p∈n.fill,p.Good
 stroke:n.kind=2→n.stroke.length≤1∧∀p∈n.stroke,p.Good
 style:n.kind=2→0<n.stroke.length→n.style.Good
 img:n.kind=3→n.img.Good
theorem WS{a b:Bool}(h:qp a=qp b):a=b:=by cases a<;>cases b<;>simp[qp]at h ⊢
theorem afm{pk:Bool}{a b:dF}(ha:a.Good)(hb:b.Good)(r s:List UInt8)(h:eH pk a++r=eH pk b++s):a.canon=b.canon∧r=s:=by
 unfold eH at h;simp only[awF]at h;obtain⟨a1,a2,a3,a4,a5,a6,a7⟩:=ha.i;obtain⟨b1,b2,b3,b4,b5,b6,b7⟩:=hb.i;have t:=kT h ⟨a1,a2,a3,trivial⟩ ⟨b1,b2,b3,trivial⟩;clear h;obtain⟨h1,h⟩:=t;have t:=WQ ha.q hb.q _ _ h;clear h;obtain⟨h2,h⟩:=t;have t:=WR ha.clip hb.clip _ _ h;clear h;obtain⟨h3,h⟩:=t;have t:=kT h ⟨a4,trivial⟩ ⟨b4,trivial⟩;clear h;obtain⟨h4,h⟩:=t;obtain⟨id,kd,dp,q,cl,cr,op,bd,is,kn,pa,fr,fi,sy,st,im,sm⟩:=a;obtain⟨id',kd',dp',q',cl',cr',op',bd',is',kn',pa',fr',fi',sy',st',im',sm'⟩:=b;simp only[awO,and_true]at h1 h2 h3 h4;obtain⟨rfl,rfl,rfl⟩:=h1;subst h2 h3 h4;unfold nO at h;unfold dF.canon;simp only at h ⊢;by_cases k1:kd=1
 ·simp only[awl k1,awF]at h ⊢;simp only[axB,axy,awO]at h;obtain⟨h5,h⟩:=h;have t:=kT h ⟨a5,trivial⟩ ⟨b5,trivial⟩;clear h;obtain⟨h6,h⟩:=t;simp only[awO,and_true]at h h6;obtain⟨h7,h8,h⟩:=h;obtain rfl:=WS h7;obtain rfl:=WS h8;exact⟨by rw[h5,h6],h⟩
 by_cases k2:kd=2
 ·simp only[awj k1,awl k2,awF]at h ⊢;have t:=WR (ha.path k2) (hb.path k2) _ _ h;clear h;obtain⟨h5,h⟩:=t;have t:=kT h ⟨a6,trivial⟩ ⟨b6,trivial⟩;clear h;obtain⟨h6,h⟩:=t;have f1:=ha.fill k2;have f2:=hb.fill k2;have s1:=ha.stroke k2;have s2:=hb.stroke k2;have t:=CU (by have:=f1.1; omega) (by have:=f2.1; omega) (fun x hx y hy=>Qs (f1.2 x hx) (f2.2 y hy)) _ _ h;clear h;obtain⟨h7,h⟩:=t;have t:=CU (by have:=s1.1; omega) (by have:=s2.1; omega) (fun x hx y hy=>Qs (s1.2 x hx) (s2.2 y hy)) _ _ h;clear h;obtain⟨h8,h⟩:=t;have y1:=ha.style k2;have y2:=hb.style k2;simp only[awO,and_true]at h5 h6 h7 h8 y1 y2;subst h5 h6 h7 h8;by_cases hs:0<st.length
  ·simp only[awl hs]at h ⊢;have t:=aiX (y1 hs) (y2 hs) _ _ h;clear h;obtain⟨rfl,h⟩:=t;exact⟨rfl,h⟩
  simp only[awj hs,axy]at h ⊢;exact⟨trivial,h⟩
 by_cases k3:kd=3
 ·simp only[awj k1,awj k2,awl k3,awF]at h ⊢;have t:=acU (ha.img k3) (hb.img k3) _ _ h;clear h;obtain⟨h5,h⟩:=t;have t:=kT h ⟨a7,trivial⟩ ⟨b7,trivial⟩;clear h;obtain⟨h6,h⟩:=t;simp only[awO,and_true]at h5 h6;subst h5 h6;exact⟨rfl,h⟩
 simp only[awj k1,awj k2,awj k3,axy]at h ⊢;exact⟨trivial,h⟩
theorem Hw{w:World}{p:au}(h:p.ok w)(hv:p.valid=true):p.key.Good:=by
 obtain⟨l1,l2,l3⟩:=uM hv;exact⟨h.1,h.2.1,h.2.2.1,h.2.2.2.1,⟨l2,h.2.2.2.2.2.1⟩,h.2.2.2.2.2.2.1,⟨h.2.2.2.2.2.2.2.1.1,h.2.2.2.2.2.2.2.1.2.1,l3.1,l3.2.1⟩,h.2.2.2.2.2.2.2.2.1,l1⟩
theorem CV{w:World}{n:aA}(h:n.ok w)(hv:n.checkN=0):n.key.Good:=by
 have hL:=uw hv;obtain⟨h1,h2,h3,h4,h5,h6,h7,h8,h9,h10,h11,h12,h13,Ja⟩:=h;refine⟨⟨h1,h2,h3,h6,h7,h9,Ja⟩,hL.q,⟨hL.clip,h5.2⟩,fun hk=>?_,fun hk=>?_,fun hk=>?_,fun hk hs=>?_,fun hk=>?_⟩
 ·exact⟨(hL.shape hk).1,h8.2⟩
 ·exact⟨by simpa[aA.key]using (hL.shape hk).2.1,fun x hx=>by obtain⟨p,hp,rfl⟩:=aw2.1 hx; exact Hw (h10.2 p hp) ((hL.shape hk).2.2.2.1 p hp)⟩
 ·exact⟨by simpa[aA.key]using (hL.shape hk).2.2.1,fun x hx=>by obtain⟨p,hp,rfl⟩:=aw2.1 hx; exact Hw (h12.2 p hp) ((hL.shape hk).2.2.2.2.1 p hp)⟩
 ·exact⟨⟨h11.1,h11.2.1,h11.2.2.1,h11.2.2.2.1,h11.2.2.2.2.2.2⟩,(hL.shape hk).2.2.2.2.2 (by simpa[aA.key]using hs),h11.2.2.2.2.2.1⟩
 have:=hL.img hk;exact⟨h13.1,h13.2.1,this.1,this.2.1⟩
theorem MK{p:aZ}(h:p.eq aZ.bare=true):p.key = .zero:=by
 unfold aZ.eq aZ.bare at h;simp only[awC,awE,awL]at h;obtain⟨⟨⟨⟨⟨h1,h2⟩,h3⟩,h4⟩,h5⟩,h6⟩:=h;unfold aZ.key lq.zero;rw[h1,h2,h3,h4,h5,h6]
theorem WT{m:dL}(h:m.eq dL.bare=true):m.key = .zero:=by
 unfold dL.eq dL.bare at h;simp only[awC,awE]at h;unfold dL.key oM.zero;rw[h.1,h.2.1,h.2.2]
theorem zW{n:aA}(hv:n.checkN=0):n.key.canon=n.key:=by
 have hL:=uw hv;have hb:=hL.bare;have hkb:=Bg hv;unfold aA.bare at hb;unfold dF.canon;by_cases k1:n.kind=1
 ·rw[awl (show n.key.kind=1 from k1)];simp only[k1,show((1:Int)==1)=true from rfl,cond_true,awC,awE]at hb;obtain⟨⟨⟨⟨⟨b1,b2⟩,b3⟩,b4⟩,b5⟩,b6,b7⟩:=hb;have e1:n.path=[]:=ayB.1 (by omega);have e3:n.fill=[]:=ayB.1 (by omega);have e4:n.stroke=[]:=ayB.1 (by omega);simp only[aA.key,e1,b2,e3,e4,MK b5,WT b6,b7,axC]
 rw[awj (show ¬n.key.kind=1 from k1)];by_cases k2:n.kind=2
 ·rw[awl (show n.key.kind=2 from k2)];simp only[k2,show((2:Int)==1)=false from rfl,show((2:Int)==2)=true from rfl,cond_false,cond_true,awC,awE,axM]at hb;obtain⟨⟨⟨⟨b1,b2⟩,b3⟩,b4⟩,b6,b7⟩:=hb;have e1:n.dW=0:=CJ.1 (by rw[b1]; rfl);have e2:(if 0<n.key.stroke.length then n.key.style else lq.zero)=n.key.style:=by
   split
   ·rfl
   rename_i hs; exact(MK (hL.sty k2 (by simpa[aA.key]using hs))).symm
  rw[e2];simp only[aA.key,e1,b2,b3,b4,WT b6,b7]
 rw[awj (show ¬n.key.kind=2 from k2),awl (show n.key.kind=3 by show n.kind=3; omega)];have k1':(n.kind==1)=false:=by simpa using k1
 have k2':(n.kind==2)=false:=by simpa using k2
 simp only[k1',k2',cond_false,awC,awE,axM]at hb;obtain⟨⟨⟨⟨b1,b2⟩,b3⟩,b4⟩,⟨⟨⟨c1,c2⟩,c3⟩,c4⟩,c5⟩:=hb;have e0:n.dW=0:=CJ.1 (by rw[b1]; rfl);have e1:n.path=[]:=ayB.1 (by omega);have e3:n.fill=[]:=ayB.1 (by omega);have e4:n.stroke=[]:=ayB.1 (by omega);simp only[aA.key,e0,b2,b3,b4,e1,c2,e3,e4,MK c5,axC]
theorem JZ{pk:Bool}{w:World}{n m:aA}(h:n.ok w)(h':m.ok w)(hv:n.checkN=0)(hv':m.checkN=0)(r s:List UInt8)(e:eH pk n.key++r=eH pk m.key++s):n.key=m.key∧r=s:=by
 obtain⟨h1,h2⟩:=afm (CV h hv) (CV h' hv') r s e;rw[zW hv,zW hv']at h1;exact⟨h1,h2⟩
theorem vZ{s:bF}(h:s.key.valid=true):∀n∈s.ns,n.checkN=0:=fun n hn=>by
 obtain⟨-,h1,h2⟩:=ji.JL.1 h;rw[←mG];exact(aci.1 h2).1 _ (aw2.2 ⟨n,hn,rfl⟩)
theorem UR{w:World}{s t:bF}(h:eX K w s)(h':eX K w t)(hv:s.key.valid=true)(hv':t.key.valid=true)(r q:List UInt8)(e:gZ s.key++r=gZ t.key++q):s.key=t.key∧r=q:=by
 unfold gZ at e;simp only[awF]at e;have e:=List.append_cancel_left e;obtain⟨e1,e⟩:=kT e ⟨h.1,h.2.1,trivial⟩ ⟨h'.1,h'.2.1,trivial⟩;obtain⟨e2,e⟩:=Qr _ _ _ _ e;have l1:=(rD hv).1;have l2:=(rD hv').1;obtain⟨e3,e⟩:=CU (f:=eH false) (L:=s.key.ns) (M:=t.key.ns) (by simp only[bF.key,ayo]; omega) (by simp only[bF.key,ayo]; omega) (fun x hx y hy=>by
  obtain⟨n,hn,rfl⟩:=aw2.1 hx;obtain⟨m,hm,rfl⟩:=aw2.1 hy;exact fun r s e=>JZ (h.2.2.2 n hn).1 (h'.2.2.2 m hm).1 (vZ hv n hn) (vZ hv' m hm) r s e) _ _ e
 simp only[awO,and_true]at e1;obtain⟨e4,e5⟩:=e1;refine⟨?_,e⟩;generalize s.key=x at *;generalize t.key=y at *;cases x; cases y;simp only at e2 e3 e4 e5;rw[e2,e3,e4,e5]
end Go.Proofs.YtapmgonflgahbaaGreatDoor
end
section
namespace Go.Sx
open Go.Proofs Go.Proofs.YtapmgonflgahbaaGreatDoor Go.RowKit Go.Rel
section
variable{P:Program}{ops:Array Oper}{Q:Exit→Act→World→Prop}{w0 w:World}{a:Act}{os:List Oper}{n:Nat}{l:List (Nat×Value)}{bl:List (Nat×List Value)}{vs:List gJ}
theorem St.dN{w0 w:World}{a:Act}{n:Nat}{l:List (Nat×Value)}{bl:List (Nat×List Value)}{vs:List gJ}(Ph:List (Nat×List Value))(S:St w0 a w n l bl vs)(h:bl=Ph:=by rfl):St w0 a w n l Ph vs:=h▸S
theorem bQ(S:St w0 a w n l bl vs)(k:Nat){f:FuncId}{args:Array Value}{b:Nat}{A:List Value}(d:Option Nat){R:Ending→World→Prop}(hk:bl[k]?=some (b,A))(hc:Calls P f args w R)
  (next:∀e w',R e w'→∃v A',e = .returned v∧Ext w0 w'∧Ch b w w'∧Bx w' b (List.toArray A')∧∀a',St w0 a' w' n (LM l d v) (bl.set k (b,A')) vs→wpList P ops Q (os.drop 1) a' w')
  (hx:callOf P os l=some (f,args,d):=by kernel_rfl) (hd:Cb n d=true:=by rfl):wpList P ops Q os a w:=by
 cases os with
 | nil=>cases hx
 | cons o os =>
  unfold callOf at hx;simp only at hx;split at hx
  ·rename_i f' args' hg hav hev;simp only[awn,awo]at hx;obtain⟨rfl,rfl,rfl⟩:=hx;simp only[aw9]at hav;have hrun:(execOp a.eval o).run P w = .ok (.enter f' args') w:=oW (Std.act a) (jE (dD S.s) o) (p:=[]) rfl hav.1 (by simpa using hav.2) hev;unfold wpList;rw[awl (by simp[Region.wanted,hg])];left;unfold Oper.wp;rw[hrun];simp only[Oper.upon];refine hc.mono fun e w' hR=>?_;obtain⟨v,A',rfl,hE,hC,hX,hn⟩:=next e w' hR;exact hn _ ((S.ch hC hk hX hE).act (xB S.s hd v))
  cases hx
end
end Go.Sx
namespace Go.Proofs.YtapmgonflgahbaaGreatDoor
open Go.RowKit En
variable{α β:Type}{K:Nat}
def Got(f:α→List UInt8)(ok:α→Prop)(l:List UInt8)(p:Nat)(bad:Bool)(p':Nat)(bad':Bool)(x:α):Prop:=∀y r,ok y→bad=false→l.drop p=f y++r→x=y∧bad'=false∧l.drop p'=r
def ad5(l:List UInt8)(p:Nat)(bad:Bool)(p':Nat)(bad':Bool)(k:Nat):Prop:=∀n r,n<18446744073709551616→n≤r.length→bad=false→l.drop p=fZ 10 n++r→k=n∧bad'=false∧l.drop p'=r
theorem Bo{l B r:List UInt8}{p:Nat}(h:l.drop p=B++r):l.drop (p+B.length)=r:=by rw[←ayu,h,ayI]
theorem ML{l B r:List UInt8}{p:Nat}(h:l.drop p=B++r)(hB:0<B.length):p<l.length:=by
 rcases aw4 p l.length with h1 | h1
 ·exact h1
 rw[axR h1]at h;have:=awp List.length h;simp at this; omega
theorem WU{l r:List UInt8}{p n:Nat}(h:l.drop p=fZ 10 n++r)(hn:n<18446744073709551616):BU l (p:Int)=(n,p+(fZ 10 n).length,0):=by
 have hp:=ML h (xk 9 n);rw[Px.UC (ax2 hp),h,qK n r hn]
theorem ad4{l:List UInt8}{p:Nat}{bad:Bool}:Got iB I64 l p bad (WB l p bad) (Rq l p bad) (Xx l p bad):=fun y r hy hb h=>by
 subst hb;have hu:=WU h (Lc hy.1 hy.2);have hv:vat l (p:Int)=(y,p+(iB y).length,0):=by
  unfold vat;rw[hu,Cm]
 obtain⟨-,q1,q2,q3⟩:=agJ (bad:=false) hv rfl;rw[q1,q2,q3];exact⟨rfl,rfl,Bo h⟩
theorem Xy{l:List UInt8}{p:Nat}{bad:Bool}:ad5 l p bad (rcP l p bad) (ZM l p bad) (rcV l p bad):=fun n r hn hr hb h=>by
 subst hb;have hu:=WU h hn;have hd:=Bo h;have hl:n≤l.length-(p+(fZ 10 n).length):=by have:=awp List.length hd; simp at this; omega
 obtain⟨q1,q2,q3⟩:=agK hu ⟨rfl,rfl,hl⟩;rw[q1,q2,q3];exact⟨rfl,rfl,hd⟩
theorem N7{l:List UInt8}{p n:Nat}{bad:Bool}{B r:List UInt8}(hB:B.length=n)(hn:0<n)(hb:bad=false)(h:l.drop p=B++r):Rj l p bad n=B∧Dh l p bad n=false∧l.drop (RV l p bad n)=r:=by
 subst hb hB;have hp:=ML h hn;have hle:p+B.length≤l.length:=by
  have:=awp List.length h;simp at this; omega
 have ht:Dh l p false B.length=false:=by unfold Dh; simp; omega
 obtain⟨-,-,h2,h3⟩:=He ht;rw[h2,h3];exact⟨by rw[h]; simp,ht,Bo h⟩
def jo(f:α→List UInt8)(ok:α→Prop)(l:List UInt8)(p:Nat)(bad:Bool)(m p':Nat)(bad':Bool)(X:List α):Prop:=∀ys r,ys.length=m→(∀y∈ys,ok y)→bad=false→l.drop p=ys.flatMap f++r→X=ys∧bad'=false∧l.drop p'=r
theorem jo.nil{f:α→List UInt8}{ok:α→Prop}{l:List UInt8}{p:Nat}{bad:Bool}:jo f ok l p bad 0 p bad []:=fun ys r hl hk hb h=>by
 obtain rfl:=ayB.1 hl;exact⟨rfl,hb,h⟩
theorem jo.snoc{f:α→List UInt8}{ok:α→Prop}{l:List UInt8}{p p1 p2 m:Nat}{bad b1 b2:Bool}{X:List α}{x:α}(h:jo f ok l p bad m p1 b1 X)(k:Got f ok l p1 b1 p2 b2 x):jo f ok l p bad (m+1) p2 b2 (X++[x]):=fun ys r hl hk hb e=>by
 obtain⟨zs,z,rfl⟩:∃zs z,ys=zs++[z]:=⟨ys.dropLast,ys.getLast (by intro e; subst e; cases hl),(List.dropLast_concat_getLast _).symm⟩;rw[ayH,awF]at e;obtain⟨rfl,h2,h3⟩:=h zs _ (by simpa using hl) (fun y hy=>hk y (ayn _ hy)) hb e;obtain⟨rfl,h4,h5⟩:=k z r (hk z (by simp)) h2 (by rw[h3]; simp);exact⟨rfl,h4,h5⟩
theorem jo.fail{f:α→List UInt8}{ok:α→Prop}{l:List UInt8}{p p1 p2 k m:Nat}{bad b2:Bool}{X Y:List α}(h:jo f ok l p bad k p1 true X)(hk:k≤m):jo f ok l p bad m p2 b2 Y:=fun ys r hl hok hb e=>by
 exfalso;rw[←aym k ys,ayH,awF]at e;have:=(h (ys.take k) _ (by simp; omega) (fun y hy=>hok y (List.mem_of_mem_take hy)) hb e).2.1;cases this
theorem jo.lst{f:α→List UInt8}{ok:α→Prop}{l:List UInt8}{p p1 p2 k:Nat}{bad b1 b2:Bool}{X:List α}(hc:ad5 l p bad p1 b1 k)(h:jo f ok l p1 b1 k p2 b2 X)(hf:∀x,0<(f x).length):Got (iE f) (fun ys=>ys.length<18446744073709551616∧∀y∈ys,ok y) l p bad p2 b2 X:=fun ys r hok hb e=>by
 unfold iE at e;rw[awF]at e;have hlen:ys.length≤(ys.flatMap f).length:=by
  clear e hok;induction ys with
  | nil=>simp
  | cons y ys ih=>have:=hf y; rw[axJ,awr,awV]; omega
 obtain⟨rfl,h2,h3⟩:=hc ys.length _ hok.1 (by rw[awr]; omega) hb e;exact h ys r rfl hok.2 h2 h3
theorem lH(x:Int)(L:List Int):dK (x::L)=iB x++dK L:=rfl
theorem uN(x:Int):dK [x]=iB x:=by rw[lH]; exact axt _
theorem Fb(x:Int):0<(iB x).length:=xk 9 _
def RY(p:kV):List UInt8:=dK [p.x,p.y]
theorem ag9{l:List UInt8}{p p1 p2:Nat}{bad b1 b2:Bool}{x y:Int}(h1:Got iB I64 l p bad p1 b1 x)(h2:Got iB I64 l p1 b1 p2 b2 y):Got RY kV.ok l p bad p2 b2 ⟨x,y⟩:=fun z r hz hb e=>by
 unfold RY at e;rw[lH,uN,awF]at e;obtain⟨e1,c1,e⟩:=h1 _ _ hz.1 hb e;obtain⟨e2,c2,e⟩:=h2 _ _ hz.2 c1 e;exact⟨by rw[e1,e2],c2,e⟩
theorem J3(s:dO):kW s=iB s.verb++(RY s.a++(RY s.b++RY s.c)):=by
 unfold kW RY; simp only[lH,awF]; rfl
theorem ad8{l:List UInt8}{p p1 p2 p3 p4:Nat}{bad b1 b2 b3 b4:Bool}{v:Int}{x y z:kV}(h1:Got iB I64 l p bad p1 b1 v)(h2:Got RY kV.ok l p1 b1 p2 b2 x)(h3:Got RY kV.ok l p2 b2 p3 b3 y)(h4:Got RY kV.ok l p3 b3 p4 b4 z):Got kW dO.ok l p bad p4 b4 ⟨v,x,y,z⟩:=fun s r hs hb e=>by
 rw[J3]at e;simp only[awF]at e;obtain⟨e1,c,e⟩:=h1 _ _ hs.1 hb e;obtain⟨e2,c,e⟩:=h2 _ _ hs.2.1 c e;obtain⟨e3,c,e⟩:=h3 _ _ hs.2.2.1 c e;obtain⟨e4,c,e⟩:=h4 _ _ hs.2.2.2 c e;exact⟨by rw[e1,e2,e3,e4],c,e⟩
theorem Fh(s:dO):0<(kW s).length:=by rw[J3,awr]; have:=Fb s.verb; omega
theorem aam{l:List UInt8}{p p1 p2:Nat}{bad b1 b2:Bool}{v:Int}{q:bW}(h1:Got iB I64 l p bad p1 b1 v)(h2:Got Px.pb (fun _=>True) l p1 b1 p2 b2 q):Got jw dM.ok l p bad p2 b2 ⟨v,q⟩:=fun s r hs hb e=>by
 unfold jw at e;rw[uN,awF]at e;obtain⟨e1,c,e⟩:=h1 _ _ hs hb e;obtain⟨e2,c,e⟩:=h2 _ _ trivial c e;exact⟨by rw[e1,e2],c,e⟩
theorem Y6(s:dM):0<(jw s).length:=by unfold jw; rw[awr,uN]; have:=Fb s.o; omega
end Go.Proofs.YtapmgonflgahbaaGreatDoor
end
theorem avY:type_of% @Go.Sx.bQ:=@Go.Sx.bQ
theorem awu:type_of% @Go.Sx.St.dN:=@Go.Sx.St.dN
