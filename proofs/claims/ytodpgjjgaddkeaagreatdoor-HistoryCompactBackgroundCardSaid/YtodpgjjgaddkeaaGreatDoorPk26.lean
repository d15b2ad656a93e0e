/- Encodings say what was encoded. No program in sight. -/
import Derived.Test.YtodpgjjgaddkeaaGreatDoorPk25
set_option maxHeartbeats 1600000
set_option maxRecDepth 100000
set_option linter.unusedVariables false
set_option linter.unusedSimpArgs false
section
namespace Go.Proofs.YtodpgjjgaddkeaaGreatDoor
open En
variable{α:Type}{K:Nat}
def PI(f:α->List UInt8)(x y:α):Prop:=∀r s,f x++r=f y++s->x=y∧r=s
theorem O4{a b:Nat}(ha:a<18446744073709551616)(hb:b<18446744073709551616):PI (dW 10) a b:=λr s h=>by
 have h1:=oz a r ha;have h2:=oz b s hb;rw[h,h2]at h1;simp only[aBE,azW]at h1;obtain⟨rfl,-⟩:=h1;exact⟨I,List.append_cancel_left h⟩
theorem LX{a b:Int}(ha:I64 a)(hb:I64 b):PI iB a b:=λr s h=>by
 obtain⟨h1,h2⟩:=O4 (Oh ha.1 ha.2) (Oh hb.1 hb.2) r s h;exact⟨by rw[<-Dw a,h1,Dw],h2⟩
theorem Tn{f:α->List UInt8}:∀{L M:List α},L.length=M.length->(∀x∈L,∀y∈M,PI f x y)->PI (λl:List α=>l.flatMap f) L M
 | [],[],_,_,r,s,h=>⟨I,h⟩
 | [],_::_,hl,_,_,_,_=>by cases hl
 | _::_,[],hl,_,_,_,_=>by cases hl
 | x::L,y::M,hl,hp,r,s,h=>by
  simp only[aA0,aAb]at h
  obtain⟨rfl,h2⟩:=hp x az5 y az5 _ _ h
  obtain⟨rfl,h3⟩:=Tn (by simpa using hl) (λa ha b hb=>hp a (aA4 _ ha) b (aA4 _ hb)) r s h2
  exact⟨I,h3⟩
theorem DN{f:α->List UInt8}{L M:List α}(hL:L.length<18446744073709551616)(hM:M.length<18446744073709551616)(hp:∀x∈L,∀y∈M,PI f x y):PI (iD f) L M:=λr s h=>by
 unfold iD at h;rw[aAb,aAb]at h;obtain⟨h1,h2⟩:=O4 hL hM _ _ h;exact Tn h1 hp r s h2
theorem kN{L M:List Int}{r s:List UInt8}(h:dX L++r=dX M++s)(hL:qV L)(hM:qV M)(hl:L.length=M.length:=by rfl):L=M∧r=s:=Tn hl (λx hx y hy=>LX (hL.all x hx) (hM.all y hy)) r s h
theorem O5{l m:List UInt8}(hl:l.length<18446744073709551616)(hm:m.length<18446744073709551616):PI fV l m:=λr s h=>by
 unfold fV at h;rw[aAb,aAb]at h;obtain⟨h1,h2⟩:=O4 hl hm _ _ h;exact List.append_inj h2 h1
theorem ag3{p q:Bool×Nat×Nat}(hp:eF p<=256)(hq:eF q<=256):PI gK p q:=λr s h=>by
 unfold eF at hp hq;have a1:=Nb.bI (Ez (n:=p.2.1) Z);have a2:=Nb.bI (Ez (n:=p.2.2) Z);have b1:=Nb.bI (Ez (n:=q.2.1) Z);have b2:=Nb.bI (Ez (n:=q.2.2) Z);obtain⟨p0,p1,p2⟩:=p;obtain⟨q0,q1,q2⟩:=q;simp only[gK,aBe,aAp,aAb]at h a1 a2 b1 b2;obtain⟨h0,h⟩:=h;have t:=O5 Z Z _ _ h;clear h;obtain⟨h1,h⟩:=t;have t:=O5 Z Z _ _ h;clear h;obtain⟨h2,h⟩:=t;have e1:p1=q1:=by rw[<-Nb.aB p1,h1,Nb.aB]
 have e2:p2=q2:=by rw[<-Nb.aB p2,h2,Nb.aB]
 have e0:p0=q0:=by cases p0<;>cases q0<;>simp at h0 |-
 exact⟨by rw[e0,e1,e2],h⟩
theorem YT{p q:Q6}(hp:p.valid=true)(hq:q.valid=true):PI sJ p q:=λr s h=>by
 have hall:∀{q:Q6},q.valid=true->∀x∈[q.a,q.b,q.c,q.d,q.e,q.f],eF x<=256:=λ{q} hq x hx=>by
  unfold Q6.valid at hq;simp only[az7,az6]at hq;simp only[az2,aBU,or_false]at hx;obtain⟨h1,h2,h3,h4,h5,h6⟩:=hq;rcases hx with rfl | rfl | rfl | rfl | rfl | rfl<;>assumption
 obtain⟨h1,h2⟩:=Tn (L:=[p.a,p.b,p.c,p.d,p.e,p.f]) (M:=[q.a,q.b,q.c,q.d,q.e,q.f]) I (λx hx y hy=>ag3 (hall hp x hx) (hall hq y hy)) r s h;cases p; cases q;simp only[aAp,and_true]at h1;obtain⟨rfl,rfl,rfl,rfl,rfl,rfl⟩:=h1;exact⟨I,h2⟩
theorem Tq(p q:bD):PI Px.pb p q:=λr s h=>Px.VO h
theorem akJ{a b:dN}(ha:a.ok)(hb:b.ok):PI kQ a b:=λr s h=>by
 unfold kQ at h;obtain⟨h1,h2⟩:=kN h ⟨ha.1,ha.2.1.1,ha.2.1.2,ha.2.2.1.1,ha.2.2.1.2,ha.2.2.2.1,ha.2.2.2.2,G⟩ ⟨hb.1,hb.2.1.1,hb.2.1.2,hb.2.2.1.1,hb.2.2.1.2,hb.2.2.2.1,hb.2.2.2.2,G⟩;obtain⟨v,⟨ax,ay⟩,⟨bx,by'⟩,cx,cy⟩:=a;obtain⟨v',⟨ax',ay'⟩,⟨bx',axP⟩,cx',cy'⟩:=b;simp only[aAp,and_true]at h1;obtain⟨rfl,rfl,rfl,rfl,rfl,rfl,rfl⟩:=h1;exact⟨I,h2⟩
theorem YU{L M:List dN}(hL:L.length<=256∧∀x∈L,x.ok)(hM:M.length<=256∧∀x∈M,x.ok):PI (iD kQ) L M:=DN Z Z λx hx y hy=>akJ (hL.2 x hx) (hM.2 y hy)
theorem ag4{a b:dK}(ha:a.ok)(hb:b.ok):PI jh a b:=λr s h=>by
 unfold jh at h;rw[aAb,aAb]at h;have t:=kN h ⟨ha,G⟩ ⟨hb,G⟩;clear h;obtain⟨h1,h⟩:=t;have t:=Tq _ _ _ _ h;clear h;obtain⟨h2,h⟩:=t;cases a; cases b;simp only[aAp,and_true]at h1 h2;exact⟨by rw[h1,h2],h⟩
structure nZ.Good (m:nZ):Prop where
 w:I64 m.w
 h:I64 m.h
 n:(m.l.length:Int)=m.w*m.h
 len:m.l.length<=65536
theorem aeo{pk:Bool}{a b:nZ}(ha:a.Good)(hb:b.Good):PI (sH pk) a b:=λr s h=>by
 unfold sH at h;rw[aAb,aAb]at h;have t:=kN h ⟨ha.w,ha.h,G⟩ ⟨hb.w,hb.h,G⟩;clear h;obtain⟨h1,h⟩:=t;obtain⟨aw,ah,al⟩:=a;obtain⟨bw,bh,IV⟩:=b;simp only[aAp,and_true]at h1;obtain⟨rfl,rfl⟩:=h1;have e:al.length=IV.length:=by have h1:=ha.n; have h2:=hb.n; simp only at h1 h2; omega
 have l1:=ha.len;have l2:=hb.len;simp only at l1 l2;cases pk
 .simp only[aCd,if_false]at h;have t:=Tn e (λx _ y _=>Tq x y) _ _ h;clear h;obtain⟨rfl,h⟩:=t;exact⟨I,h⟩
 simp only[if_true]at h;have e1:=IQ al;have e2:=IQ IV;have t:=O5 Z Z _ _ h;clear h;obtain⟨h2,h⟩:=t;obtain rfl:=Px.agD Z Z h2;exact⟨I,h⟩
structure je.Good (p:je):Prop where
 kind:I64 p.kind
 p0:p.p0.ok
 p1:p.p1.ok
 bT:I64 p.bT
 stops:p.stops.length<=16∧∀s∈p.stops,s.ok
 spread:I64 p.spread
 img:p.img.Good
 cO:I64 p.cO
 q:p.q.valid=true
theorem Tt{pk:Bool}{a b:je}(ha:a.Good)(hb:b.Good):PI (fE pk) a b:=λr s h=>by
 unfold fE at h;simp only[aAb]at h;have t:=kN h ⟨ha.kind,G⟩ ⟨hb.kind,G⟩;clear h;obtain⟨h1,h⟩:=t;have t:=Tq _ _ _ _ h;clear h;obtain⟨h2,h⟩:=t;have t:=kN h ⟨ha.p0.1,ha.p0.2,ha.p1.1,ha.p1.2,ha.bT,G⟩ ⟨hb.p0.1,hb.p0.2,hb.p1.1,hb.p1.2,hb.bT,G⟩;clear h;obtain⟨h3,h⟩:=t;have t:=DN (by have:=ha.stops.1; omega) (by have:=hb.stops.1; omega) (λx hx y hy=>ag4 (ha.stops.2 x hx) (hb.stops.2 y hy)) _ _ h;clear h;obtain⟨h4,h⟩:=t;have t:=kN h ⟨ha.spread,G⟩ ⟨hb.spread,G⟩;clear h;obtain⟨h5,h⟩:=t;have t:=aeo ha.img hb.img _ _ h;clear h;obtain⟨h6,h⟩:=t;have t:=kN h ⟨ha.cO,G⟩ ⟨hb.cO,G⟩;clear h;obtain⟨h7,h⟩:=t;have t:=YT ha.q hb.q _ _ h;clear h;obtain⟨h8,h⟩:=t;obtain⟨k,c,⟨x0,y0⟩,⟨x1,y1⟩,rd,st,sp,im,sm,q⟩:=a;obtain⟨k',c',⟨x0',y0'⟩,⟨x1',y1'⟩,rd',st',sp',im',sm',q'⟩:=b;simp only[aAp,and_true]at h1 h2 h3 h4 h5 h6 h7 h8;obtain⟨rfl,rfl,rfl,rfl,rfl⟩:=h3;subst h1 h2 h4 h5 h6 h7 h8;exact⟨I,h⟩
structure kJ.Good (p:kJ):Prop where
 i:I64 p.width∧I64 p.join∧I64 p.cap∧I64 p.fB∧I64 p.phase
 dash:p.dash.length<=16∧∀x∈p.dash,I64 x
theorem akK{a b:kJ}(ha:a.Good)(hb:b.Good):PI CJ a b:=λr s h=>by
 unfold CJ at h;rw[aAb,aAb]at h;obtain⟨a1,a2,a3,a4,a5⟩:=ha.i;obtain⟨b1,b2,b3,b4,b5⟩:=hb.i;have t:=kN h ⟨a1,a2,a3,a4,a5,G⟩ ⟨b1,b2,b3,b4,b5,G⟩;clear h;obtain⟨h1,h⟩:=t;have t:=DN (by have:=ha.dash.1; omega) (by have:=hb.dash.1; omega) (λx hx y hy=>LX (ha.dash.2 x hx) (hb.dash.2 y hy)) _ _ h;clear h;obtain⟨h2,h⟩:=t;obtain⟨w,j,c,m,d,p⟩:=a;obtain⟨w',j',c',m',d',p'⟩:=b;simp only[aAp,and_true]at h1 h2;obtain⟨rfl,rfl,rfl,rfl,rfl⟩:=h1;subst h2;exact⟨I,h⟩
def kJ.zero:kJ:=⟨0,0,0,0,[],0⟩
def nZ.zero:nZ:=⟨0,0,[]⟩
def aQ.canon(n:aQ):aQ:=
 if n.kind=1 then { n with path:=[],aW:=0,fill:=[],style := .zero,stroke:=[],img := .zero,cO:=0 }
 else if n.kind=2 then { n with dR:=0,blend:=0,isolated:=false,dH:=false,style:=(if 0<n.stroke.length then n.style else .zero),img := .zero,cO:=0 }
 else if n.kind=3 then { n with dR:=0,blend:=0,isolated:=false,dH:=false,path:=[],aW:=0,fill:=[],style := .zero,stroke:=[] }
 else { n with dR:=0,blend:=0,isolated:=false,dH:=false,path:=[],aW:=0,fill:=[],style := .zero,stroke:=[],img := .zero,cO:=0 }
structure aQ.Good (n:aQ):Prop where
 i:I64 n.id∧I64 n.kind∧I64 n.depth∧I64 n.aS∧I64 n.blend∧I64 n.aW∧I64 n.cO
 q:n.q.valid=true
 clip:n.clip.length<=256∧∀s∈n.clip,s.ok
 path:n.kind=2->n.path.length<=256∧∀s∈n.path,s.ok
 fill:n.kind=2->n.fill.length<=1∧∀p∈n.fill,p.Good
 stroke:n.kind=2->n.stroke.length<=1∧∀p∈n.stroke,p.Good
 style:n.kind=2->0<n.stroke.length->n.style.Good
 img:n.kind=3->n.img.Good
theorem YV{a b:Bool}(h:pz a=pz b):a=b:=by cases a<;>cases b<;>simp[pz]at h |-
theorem ag5{pk:Bool}{a b:aQ}(ha:a.Good)(hb:b.Good)(r s:List UInt8)(h:eP pk a++r=eP pk b++s):a.canon=b.canon∧r=s:=by
 unfold eP at h;simp only[aAb]at h;obtain⟨a1,a2,a3,a4,a5,a6,a7⟩:=ha.i;obtain⟨b1,b2,b3,b4,b5,b6,b7⟩:=hb.i;have t:=kN h ⟨a1,a2,a3,G⟩ ⟨b1,b2,b3,G⟩;clear h;obtain⟨h1,h⟩:=t;have t:=YT ha.q hb.q _ _ h;clear h;obtain⟨h2,h⟩:=t;have t:=YU ha.clip hb.clip _ _ h;clear h;obtain⟨h3,h⟩:=t;have t:=kN h ⟨a4,G⟩ ⟨b4,G⟩;clear h;obtain⟨h4,h⟩:=t;obtain⟨id,kd,dp,q,cl,cr,op,bd,is,kn,pa,fr,fi,sy,st,im,sm⟩:=a;obtain⟨id',kd',dp',q',cl',cr',op',bd',is',kn',pa',fr',fi',sy',st',im',sm'⟩:=b;simp only[aAp,and_true]at h1 h2 h3 h4;obtain⟨rfl,rfl,rfl⟩:=h1;subst h2 h3 h4;unfold nH at h;unfold aQ.canon;simp only at h |-;by_cases k1:kd=1
 .simp only[azQ k1,aAb]at h |-;simp only[aBe,aAR,aAp]at h;obtain⟨h5,h⟩:=h;have t:=kN h ⟨a5,G⟩ ⟨b5,G⟩;clear h;obtain⟨h6,h⟩:=t;simp only[aAp,and_true]at h h6;obtain⟨h7,h8,h⟩:=h;obtain rfl:=YV h7;obtain rfl:=YV h8;exact⟨by rw[h5,h6],h⟩
 by_cases k2:kd=2
 .simp only[azP k1,azQ k2,aAb]at h |-;have t:=YU (ha.path k2) (hb.path k2) _ _ h;clear h;obtain⟨h5,h⟩:=t;have t:=kN h ⟨a6,G⟩ ⟨b6,G⟩;clear h;obtain⟨h6,h⟩:=t;have f1:=ha.fill k2;have f2:=hb.fill k2;have s1:=ha.stroke k2;have s2:=hb.stroke k2;have t:=DN (by have:=f1.1; omega) (by have:=f2.1; omega) (λx hx y hy=>Tt (f1.2 x hx) (f2.2 y hy)) _ _ h;clear h;obtain⟨h7,h⟩:=t;have t:=DN (by have:=s1.1; omega) (by have:=s2.1; omega) (λx hx y hy=>Tt (s1.2 x hx) (s2.2 y hy)) _ _ h;clear h;obtain⟨h8,h⟩:=t;have y1:=ha.style k2;have y2:=hb.style k2;simp only[aAp,and_true]at h5 h6 h7 h8 y1 y2;subst h5 h6 h7 h8;by_cases hs:0<st.length
  .simp only[azQ hs]at h |-;have t:=akK (y1 hs) (y2 hs) _ _ h;clear h;obtain⟨rfl,h⟩:=t;exact⟨I,h⟩
  simp only[azP hs,aAR]at h |-;exact⟨G,h⟩
 by_cases k3:kd=3
 .simp only[azP k1,azP k2,azQ k3,aAb]at h |-;have t:=aeo (ha.img k3) (hb.img k3) _ _ h;clear h;obtain⟨h5,h⟩:=t;have t:=kN h ⟨a7,G⟩ ⟨b7,G⟩;clear h;obtain⟨h6,h⟩:=t;simp only[aAp,and_true]at h5 h6;subst h5 h6;exact⟨I,h⟩
 simp only[azP k1,azP k2,azP k3,aAR]at h |-;exact⟨G,h⟩
theorem IW{w:World}{p:ak}(h:p.ok w)(hv:p.valid=true):p.key.Good:=by
 obtain⟨l1,l2,l3⟩:=tK hv;exact⟨h.1,h.2.1,h.2.2.1,h.2.2.2.1,⟨l2,h.2.2.2.2.2.1⟩,h.2.2.2.2.2.2.1,⟨h.2.2.2.2.2.2.2.1.1,h.2.2.2.2.2.2.2.1.2.1,l3.1,l3.2.1⟩,h.2.2.2.2.2.2.2.2.1,l1⟩
theorem DR{w:World}{n:aj}(h:n.ok w)(hv:n.checkN=0):n.key.Good:=by
 have hL:=tN hv;obtain⟨h1,h2,h3,h4,h5,h6,h7,h8,h9,h10,h11,h12,h13,Ky⟩:=h;refine⟨⟨h1,h2,h3,h6,h7,h9,Ky⟩,hL.q,⟨hL.clip,h5.2⟩,λhk=>?_,λhk=>?_,λhk=>?_,λhk hs=>?_,λhk=>?_⟩
 .exact⟨(hL.shape hk).1,h8.2⟩
 .exact⟨by simpa[aj.key]using (hL.shape hk).2.1,λx hx=>by obtain⟨p,hp,rfl⟩:=aAi.1 hx; exact IW (h10.2 p hp) ((hL.shape hk).2.2.2.1 p hp)⟩
 .exact⟨by simpa[aj.key]using (hL.shape hk).2.2.1,λx hx=>by obtain⟨p,hp,rfl⟩:=aAi.1 hx; exact IW (h12.2 p hp) ((hL.shape hk).2.2.2.2.1 p hp)⟩
 .exact⟨⟨h11.1,h11.2.1,h11.2.2.1,h11.2.2.2.1,h11.2.2.2.2.2.2⟩,(hL.shape hk).2.2.2.2.2 (by simpa[aj.key]using hs),h11.2.2.2.2.2.1⟩
 have:=hL.img hk;exact⟨h13.1,h13.2.1,this.1,this.2.1⟩
theorem O6{p:aV}(h:p.eq aV.bare=true):p.key = .zero:=by
 unfold aV.eq aV.bare at h;simp only[az7,az4,az6]at h;obtain⟨⟨⟨⟨⟨h1,h2⟩,h3⟩,h4⟩,h5⟩,h6⟩:=h;unfold aV.key kJ.zero;rw[h1,h2,h3,h4,h5,h6]
theorem YW{m:dF}(h:m.eq dF.bare=true):m.key = .zero:=by
 unfold dF.eq dF.bare at h;simp only[az7,az4]at h;unfold dF.key nZ.zero;rw[h.1,h.2.1,h.2.2]
theorem AB{n:aj}(hv:n.checkN=0):n.key.canon=n.key:=by
 have hL:=tN hv;have hb:=hL.bare;have hkb:=Cb hv;unfold aj.bare at hb;unfold aQ.canon;by_cases k1:n.kind=1
 .rw[azQ (show n.key.kind=1 from k1)];simp only[k1,show((1:Int)==1)=true from rfl,cond_true,az7,az4]at hb;obtain⟨⟨⟨⟨⟨b1,b2⟩,b3⟩,b4⟩,b5⟩,b6,b7⟩:=hb;have e1:n.path=[]:=aCp.1 Z;have e3:n.fill=[]:=aCp.1 Z;have e4:n.stroke=[]:=aCp.1 Z;simp only[aj.key,e1,b2,e3,e4,O6 b5,YW b6,b7,aA2]
 rw[azP (show ¬n.key.kind=1 from k1)];by_cases k2:n.kind=2
 .rw[azQ (show n.key.kind=2 from k2)];simp only[k2,show((2:Int)==1)=false from rfl,show((2:Int)==2)=true from rfl,cond_false,cond_true,az7,az4,aBt]at hb;obtain⟨⟨⟨⟨b1,b2⟩,b3⟩,b4⟩,b6,b7⟩:=hb;have e1:n.dR=0:=DC.1 (by rw[b1]; rfl);have e2:(if 0<n.key.stroke.length then n.key.style else kJ.zero)=n.key.style:=by
   split
   .rfl
   rename_i hs; exact(O6 (hL.sty k2 (by simpa[aj.key]using hs))).symm
  rw[e2];simp only[aj.key,e1,b2,b3,b4,YW b6,b7]
 rw[azP (show ¬n.key.kind=2 from k2),azQ (show n.key.kind=3 by show n.kind=3; omega)];have k1':(n.kind==1)=false:=by simpa using k1
 have k2':(n.kind==2)=false:=by simpa using k2
 simp only[k1',k2',cond_false,az7,az4,aBt]at hb;obtain⟨⟨⟨⟨b1,b2⟩,b3⟩,b4⟩,⟨⟨⟨c1,c2⟩,c3⟩,c4⟩,c5⟩:=hb;have e0:n.dR=0:=DC.1 (by rw[b1]; rfl);have e1:n.path=[]:=aCp.1 Z;have e3:n.fill=[]:=aCp.1 Z;have e4:n.stroke=[]:=aCp.1 Z;simp only[aj.key,e0,b2,b3,b4,e1,c2,e3,e4,O6 c5,aA2]
theorem LY{pk:Bool}{w:World}{n m:aj}(h:n.ok w)(h':m.ok w)(hv:n.checkN=0)(hv':m.checkN=0)(r s:List UInt8)(e:eP pk n.key++r=eP pk m.key++s):n.key=m.key∧r=s:=by
 obtain⟨h1,h2⟩:=ag5 (DR h hv) (DR h' hv') r s e;rw[AB hv,AB hv']at h1;exact⟨h1,h2⟩
theorem uZ{s:aH}(h:s.key.valid=true):∀n∈s.ns,n.checkN=0:=λn hn=>by
 obtain⟨-,h1,h2⟩:=aX.kE.1 h;rw[<-lG];exact(Oq.1 h2).1 _ (aAi.2 ⟨n,hn,I⟩)
theorem Xe{w:World}{s t:aH}(h:dL K w s)(h':dL K w t)(hv:s.key.valid=true)(hv':t.key.valid=true)(r q:List UInt8)(e:dV s.key++r=dV t.key++q):s.key=t.key∧r=q:=by
 unfold dV at e;simp only[aAb]at e;have e:=List.append_cancel_left e;obtain⟨e1,e⟩:=kN e ⟨h.1,h.2.1,G⟩ ⟨h'.1,h'.2.1,G⟩;obtain⟨e2,e⟩:=Tq _ _ _ _ e;have l1:=(qK hv).1;have l2:=(qK hv').1;obtain⟨e3,e⟩:=DN (f:=eP false) (L:=s.key.ns) (M:=t.key.ns) (by simp only[aH.key,aA5]; omega) (by simp only[aH.key,aA5]; omega) (λx hx y hy=>by
  obtain⟨n,hn,rfl⟩:=aAi.1 hx;obtain⟨m,hm,rfl⟩:=aAi.1 hy;exact λr s e=>LY (h.2.2.2 n hn).1 (h'.2.2.2 m hm).1 (uZ hv n hn) (uZ hv' m hm) r s e) _ _ e
 simp only[aAp,and_true]at e1;obtain⟨e4,e5⟩:=e1;refine⟨?_,e⟩;generalize s.key=x at *;generalize t.key=y at *;cases x; cases y;simp only at e2 e3 e4 e5;rw[e2,e3,e4,e5]
end Go.Proofs.YtodpgjjgaddkeaaGreatDoor
namespace Go.Sx
open Go.Proofs Go.Proofs.YtodpgjjgaddkeaaGreatDoor Go.RowKit Go.Rel Go.Sx
section
variable{P:Program}{ops:Array Oper}{Q:Exit->Act->World->Prop}{w0 w:World}{a:Act}{os:List Oper}{n:Nat}{l:List (Nat×Value)}{bl:List (Nat×List Value)}{vs:List fD}
theorem anw(S:St w0 a w n l bl vs)(k:Nat){f:FuncId}{args:Array Value}{b:Nat}{A:List Value}(d:Option Nat){R:Ending->World->Prop}(hk:bl[k]?=some (b,A))(hc:Calls P f args w R)
  (next:∀e w',R e w'->∃v A',e = .returned v∧Ext w0 w'∧Ch b w w'∧Bx w' b (List.toArray A')∧∀a',St w0 a' w' n (yQ l d v) (bl.set k (b,A')) vs->wpList P ops Q (os.drop 1) a' w')
  (hx:callOf P os l=some (f,args,d):=by kernel_rfl) (hd:vI n d=true:=by rfl):wpList P ops Q os a w:=by
 cases os with
 | nil=>cases hx
 | cons o os =>
  unfold callOf at hx;simp only at hx;split at hx
  .rename_i f' args' hg hav hev;simp only[azT,azW]at hx;obtain⟨rfl,rfl,rfl⟩:=hx;simp only[aAI]at hav;have hrun:(execOp a.eval o).run P w = .ok (.enter f' args') w:=lS (Std.act a) (iq (bZ S.s) o) (p:=[]) I hav.1 (by simpa using hav.2) hev;unfold wpList;rw[azQ (by simp[Region.wanted,hg])];left;unfold Oper.wp;rw[hrun];simp only[Oper.upon];refine hc.mono λe w' hR=>?_;obtain⟨v,A',rfl,hE,hC,hX,hn⟩:=next e w' hR;exact hn _ ((S.ch hC hk hX hE).act (uP S.s hd v))
  cases hx
end
section
variable{P:Program}{B:Exit->Act->World->Prop}{n:Nat}{w0 w:World}{a:Act}{bl:List (Nat×List Value)}{vs:List fD}{z:Zt}
theorem aU(S:St w0 a w n z.l bl vs)(k:Nat){f:FuncId}{args:Array Value}{b:Nat}{A:List Value}{R:Ending->World->Prop}(hkk:bl[k]?=some (b,A))(hc:Calls P f args w R)
  (next:∀e w',R e w'->∃v A',e = .returned v∧Ext w0 w'∧Ch b w w'∧Bx w' b (List.toArray A')∧∀{a'},St w0 a' w' n (vV v (zN P n z)).l (bl.set k (b,A')) vs->Gz P B (vV v (zN P n z)) a' w')
  (hx:callOf P (oG (zN P n z)) (zN P n z).l=some (f,args,lK (zN P n z)):=by kernel_rfl) (ho:(tV (zN P n z)&&vI n (lK (zN P n z)))=true:=by kernel_rfl):Gz P B z a w:=by
 simp only[az7]at ho;refine tX S λS=>zop ho.1 (anw S k _ hkk hc (λe w' hR=>?_) hx ho.2);obtain⟨v,A',h1,h2,h4,h5,h3⟩:=next e w' hR;exact⟨v,A',h1,h2,h4,h5,λa' S'=>IX (m:=1) (l:=[]) ho.1 (h3 S')⟩
end
end Go.Sx
namespace Go.Proofs.YtodpgjjgaddkeaaGreatDoor
open Go.RowKit En Go.Sx
variable{α β:Type}{K:Nat}
def Got(f:α->List UInt8)(ok:α->Prop)(l:List UInt8)(p:Nat)(bad:Bool)(p':Nat)(bad':Bool)(x:α):Prop:=∀y r,ok y->bad=false->l.drop p=f y++r->x=y∧bad'=false∧l.drop p'=r
def ag6(l:List UInt8)(p:Nat)(bad:Bool)(p':Nat)(bad':Bool)(k:Nat):Prop:=∀n r,n<18446744073709551616->n<=r.length->bad=false->l.drop p=dW 10 n++r->k=n∧bad'=false∧l.drop p'=r
variable{p p1 p2:Nat}{bad b1 b2:Bool}{r:List UInt8}{v:Int}
theorem CP{l B:List UInt8}(h:l.drop p=B++r):l.drop (p+B.length)=r:=by rw[<-aCj,h,List.drop_left]
theorem O7{l B:List UInt8}(h:l.drop p=B++r)(hB:0<B.length):p<l.length:=by
 rcases aAH p l.length with h1 | h1
 .exact h1
 rw[aA7 h1]at h;have:=az0 List.length h;simp at this; omega
theorem YX{l:List UInt8}{n:Nat}(h:l.drop p=dW 10 n++r)(hn:n<18446744073709551616):yg l (p:Int)=(n,p+(dW 10 n).length,0):=by
 have hp:=O7 h (BP 9 n);rw[Px.WW (aBM hp),h,oz n r hn]
theorem ag7{l:List UInt8}:Got iB I64 l p bad (riP l p bad) (riB l p bad) (riV l p bad):=λy r hy hb h=>by
 subst hb;have hu:=YX h (Oh hy.1 hy.2);have hv:vat l (p:Int)=(y,p+(iB y).length,0):=by
  unfold vat;rw[hu,Dw]
 obtain⟨-,q1,q2,q3⟩:=aiE (bad:=false) hv I;rw[q1,q2,q3];exact⟨I,I,CP h⟩
theorem aa1{l:List UInt8}:ag6 l p bad (rcP l p bad) (rcB l p bad) (rcV l p bad):=λn r hn hr hb h=>by
 subst hb;have hu:=YX h hn;have hd:=CP h;have hl:n<=l.length-(p+(dW 10 n).length):=by have:=az0 List.length hd; simp at this; omega
 obtain⟨q1,q2,q3⟩:=aiF hu ⟨I,I,hl⟩;rw[q1,q2,q3];exact⟨I,I,hd⟩
theorem Tv{l:List UInt8}{n:Nat}{B:List UInt8}(hB:B.length=n)(hn:0<n)(hb:bad=false)(h:l.drop p=B++r):WU l p bad n=B∧Fg l p bad n=false∧l.drop (YK l p bad n)=r:=by
 subst hb hB;have hp:=O7 h hn;have hle:p+B.length<=l.length:=by
  have:=az0 List.length h;simp at this; omega
 have ht:Fg l p false B.length=false:=by unfold Fg; simp; omega
 obtain⟨-,-,h2,h3⟩:=IK ht;rw[h2,h3];exact⟨by rw[h]; simp,ht,CP h⟩
def jc(f:α->List UInt8)(ok:α->Prop)(l:List UInt8)(p:Nat)(bad:Bool)(m p':Nat)(bad':Bool)(A03:List α):Prop:=∀ys r,ys.length=m->(∀y∈ys,ok y)->bad=false->l.drop p=ys.flatMap f++r->A03=ys∧bad'=false∧l.drop p'=r
theorem jc.nil{f:α->List UInt8}{ok:α->Prop}{l:List UInt8}{p:Nat}{bad:Bool}:jc f ok l p bad 0 p bad []:=λys r hl hk hb h=>by
 obtain rfl:=aCp.1 hl;exact⟨I,hb,h⟩
theorem jc.snoc{f:α->List UInt8}{ok:α->Prop}{l:List UInt8}{p p1 p2 m:Nat}{bad b1 b2:Bool}{A03:List α}{x:α}(h:jc f ok l p bad m p1 b1 A03)(k:Got f ok l p1 b1 p2 b2 x):jc f ok l p bad (m+1) p2 b2 (A03++[x]):=λys r hl hk hb e=>by
 obtain⟨zs,z,rfl⟩:∃zs z,ys=zs++[z]:=⟨ys.dropLast,ys.getLast (by intro e; subst e; cases hl),(List.dropLast_concat_getLast _).symm⟩;rw[aBx,aAb]at e;obtain⟨rfl,h2,h3⟩:=h zs _ (by simpa using hl) (λy hy=>hk y (aBY _ hy)) hb e;obtain⟨rfl,h4,h5⟩:=k z r (hk z Y) h2 (by rw[h3]; simp);exact⟨I,h4,h5⟩
theorem K03{f:α->List UInt8}{ok:α->Prop}{l:List UInt8}{p p1 p2 k m:Nat}{bad b2:Bool}{A03 A04:List α}(h:jc f ok l p bad k p1 true A03)(hk:k<=m):jc f ok l p bad m p2 b2 A04:=λys r hl hok hb e=>by
 exfalso;rw[<-aBQ k ys,aBx,aAb]at e;have:=(h (ys.take k) _ (by simp; omega) (λy hy=>hok y (aBG hy)) hb e).2.1;cases this
theorem K02{f:α->List UInt8}{ok:α->Prop}{l:List UInt8}{p p1 p2 k:Nat}{bad b1 b2:Bool}{A03:List α}(hc:ag6 l p bad p1 b1 k)(h:jc f ok l p1 b1 k p2 b2 A03)(hf:∀x,0<(f x).length):Got (iD f) (λys=>ys.length<18446744073709551616∧∀y∈ys,ok y) l p bad p2 b2 A03:=λys r hok hb e=>by
 unfold iD at e;rw[aAb]at e;have hlen:ys.length<=(ys.flatMap f).length:=by
  clear e hok;induction ys with
  | nil=>simp
  | cons y ys ih=>have:=hf y; rw[aA0,azU,aAx]; omega
 obtain⟨rfl,h2,h3⟩:=hc ys.length _ hok.1 (by rw[azU]; omega) hb e;exact h ys r I hok.2 h2 h3
theorem lH(x:Int)(L:List Int):dX (x::L)=iB x++dX L:=rfl
theorem tY(x:Int):dX [x]=iB x:=by rw[lH]; exact aAW _
theorem IY(x:Int):0<(iB x).length:=BP 9 _
def Xf(p:jW):List UInt8:=dX [p.x,p.y]
theorem akL{l:List UInt8}{x y:Int}(h1:Got iB I64 l p bad p1 b1 x)(h2:Got iB I64 l p1 b1 p2 b2 y):Got Xf jW.ok l p bad p2 b2 ⟨x,y⟩:=λz r hz hb e=>by
 unfold Xf at e;rw[lH,tY,aAb]at e;obtain⟨e1,c1,e⟩:=h1 _ _ hz.1 hb e;obtain⟨e2,c2,e⟩:=h2 _ _ hz.2 c1 e;exact⟨by rw[e1,e2],c2,e⟩
theorem LZ(s:dN):kQ s=iB s.verb++(Xf s.a++(Xf s.b++Xf s.c)):=by
 unfold kQ Xf; simp only[lH,aAb]; rfl
theorem ag8{l:List UInt8}{p3 p4:Nat}{b3 b4:Bool}{x y z:jW}(h1:Got iB I64 l p bad p1 b1 v)(h2:Got Xf jW.ok l p1 b1 p2 b2 x)(h3:Got Xf jW.ok l p2 b2 p3 b3 y)(h4:Got Xf jW.ok l p3 b3 p4 b4 z):Got kQ dN.ok l p bad p4 b4 ⟨v,x,y,z⟩:=λs r hs hb e=>by
 rw[LZ]at e;simp only[aAb]at e;obtain⟨e1,c,e⟩:=h1 _ _ hs.1 hb e;obtain⟨e2,c,e⟩:=h2 _ _ hs.2.1 c e;obtain⟨e3,c,e⟩:=h3 _ _ hs.2.2.1 c e;obtain⟨e4,c,e⟩:=h4 _ _ hs.2.2.2 c e;exact⟨by rw[e1,e2,e3,e4],c,e⟩
theorem IZ(s:dN):0<(kQ s).length:=by rw[LZ,azU]; have:=IY s.verb; omega
theorem aep{l:List UInt8}{q:bD}(h1:Got iB I64 l p bad p1 b1 v)(h2:Got Px.pb (λ_=>True) l p1 b1 p2 b2 q):Got jh dK.ok l p bad p2 b2 ⟨v,q⟩:=λs r hs hb e=>by
 unfold jh at e;rw[tY,aAb]at e;obtain⟨e1,c,e⟩:=h1 _ _ hs hb e;obtain⟨e2,c,e⟩:=h2 _ _ G c e;exact⟨by rw[e1,e2],c,e⟩
theorem aa2(s:dK):0<(jh s).length:=by unfold jh; rw[azU,tY]; have:=IY s.o; omega
end Go.Proofs.YtodpgjjgaddkeaaGreatDoor
namespace Go.Proofs.YtodpgjjgaddkeaaGreatDoor
open Go.RowKit Go.Sx
variable{α:Type}{K:Nat}
def KJ(w0 w w':World)(b:Nat)(a:Option Addr)(l:List UInt8)(cap:Nat)(pk:Bool)(p':Nat)(d':Bool):Prop:=p'<=l.length∧Ext w0 w'∧Ch b w w'∧Bx w' b #[.slice a l.length cap,.i p',.bool d',.bool pk]
variable{b p cap:Nat}{bad:Bool}{q:bD}
theorem ji{w0 w:World}{a:Option Addr}{pk:Bool}{l:List UInt8}(hE:Ext w0 w)(hx:Bx w b #[.slice a l.length cap,.i p,.bool bad,.bool pk])(hb:w0.heap.size<=b)(h:jv w0 (.slice a l.length cap) l)(hp:p<=l.length) :
  Calls Tryz.prog 77 #[.q b 0] w λe w'=>∃x p' d',e = .returned (.i x)∧I64 x∧Got iB I64 l p bad p' d' x∧KJ w0 w w' b a l cap pk p' d':=
 (aaZ hE hx hb h hp).mono λe w' ⟨h1,h2,h3,h4⟩=>⟨_,_,_,h1,by unfold riV; split; (exact⟨by decide,by decide⟩); exact ael,ag7,akC hp,h2,h3,h4⟩
theorem vg{w0 w:World}{a:Option Addr}{pk:Bool}{l:List UInt8}(hE:Ext w0 w)(hx:Bx w b #[.slice a l.length cap,.i p,.bool bad,.bool pk])(hb:w0.heap.size<=b)(h:jv w0 (.slice a l.length cap) l)(hp:p<=l.length) :
  Calls Tryz.prog 80 #[.q b 0] w λe w'=>∃(k:Nat) (p':Nat) (d':Bool),e = .returned (.i k)∧k<=l.length∧ag6 l p bad p' d' k∧KJ w0 w w' b a l cap pk p' d':=
 (Ti hE hx hb h hp).mono λe w' ⟨h1,h2,h3,h4⟩=>⟨_,_,_,h1,akF,aa1,akE hp,h2,h3,h4⟩
theorem ag9{q':bD}(h:Px.pb q=Px.pb q'):q=q':=(Px.VO (x:=[]) (y:=[]) (by rw[h])).1
theorem aer{l:List UInt8}(hq:Px.pb q=WU l p bad 4):Got Px.pb (λ_=>True) l p bad (YK l p bad 4) (Fg l p bad 4) q:=λy r _ hb e=>by
 obtain⟨h1,h2,h3⟩:=Tv (n:=4) I O hb e;exact⟨ag9 (hq.trans h1),h2,h3⟩
theorem FY{w0 w:World}{a:Option Addr}{pk:Bool}{l:List UInt8}(hE:Ext w0 w)(hx:Bx w b #[.slice a l.length cap,.i p,.bool bad,.bool pk])(hb:w0.heap.size<=b)(h:jv w0 (.slice a l.length cap) l)(hp:p<=l.length) :
  Calls Tryz.prog 78 #[.q b 0] w λe w'=>∃q p' d',e = .returned (.agg (bD.cells q).toArray)∧Got Px.pb (λ_=>True) l p bad p' d' q∧KJ w0 w w' b a l cap pk p' d':=
 (Ey hE hx hb h hp).mono λe w' ⟨q,h1,h0,h2,h3,h4⟩=>⟨_,_,_,h1,aer h0,WV hp,h2,h3,h4⟩
theorem aha{w0 w:World}{a:Option Addr}{pk:Bool}{l:List UInt8}(hE:Ext w0 w)(hx:Bx w b #[.slice a l.length cap,.i p,.bool bad,.bool pk])(hb:w0.heap.size<=b)(h:jv w0 (.slice a l.length cap) l)(hp:p<=l.length) :
  Calls Tryz.prog 171 #[.q b 0] w λe w'=>∃q p' d',e = .returned (.agg (bD.cells q).toArray)∧Got Px.pb (λ_=>True) l p bad p' d' q∧KJ w0 w w' b a l cap pk p' d':=
 (S9 hE hx hb h hp).mono λe w' ⟨q,h1,h0,h2,h3,h4⟩=>⟨_,_,_,h1,aer h0,WV hp,h2,h3,h4⟩
def jP(base:Nat)(v:Value):Prop:=∀g,v.ownBlock=some g->base<=g
theorem jP.step{base:Nat}{w0 u u':World}{bl:List (Nat×List Value)}{r r':Sx.Row}(hf:jP base r.v)(R':Rw w0 u' bl [r'])(A03:Sx.Stp (Ob bl [r]) u (Ob bl [r']) u')(hs:base<=u.heap.size):jP base r'.v:=λg hg=>by
 have hm:g∈Ob bl [r']:=jr az5 hg;rcases A03.new g hm with h | h
 .unfold Ob at h;rcases aAu.1 h with h | h
  .exfalso;have ha:=R'.apart;unfold Ob at ha;have hd:=(aBn.1 ha).2.2 g h g (aBm.2 ⟨r',az5,hg⟩);exact hd I
  obtain⟨s,hs',he⟩:=aBm.1 h;obtain rfl:=aAn.1 hs';exact hf g he
 omega
theorem jP.own{base B k n:Nat}{w:World}{e:TypeId}{v:Value}{xs:List Value}(hf:jP base v)(h:w.ownsRow B e k v n xs):w.ownsRow base e k v n xs:=by
 obtain⟨h1,h | ⟨g,cap,cur,rfl,h2,h3,h4⟩⟩:=h
 .exact⟨h1,.inl h⟩
 exact⟨h1,.inr ⟨g,cap,cur,I,hf g I,h3,h4⟩⟩
theorem DT{w u u':World}{bl:List (Nat×List Value)}{r:Sx.Row}{A05:List Nat}(h:Ch b w u)(A03:Sx.Stp (Ob bl [r]) u A05 u')(hbl:∀p∈bl,p.1=b∨w.heap.size<=p.1)(hf:jP w.heap.size r.v):Ch b w u':=
 ⟨A03.fr.os.trans h.os,A03.fr.tape.trans h.tape,A03.fr.output.trans h.output,aAa h.size A03.fr.size,λi hi hn=>(A03.fr.block i (aAk hi h.size) (λhm=>by
  unfold Ob at hm
  rcases aAu.1 hm with hm | hm
  .obtain⟨p,hp,rfl⟩:=aAi.1 hm
   rcases hbl p hp with e | e
   .exact hn (by rw[e])
   .omega
  .obtain⟨s,hs,he⟩:=aBm.1 hm
   obtain rfl:=aAn.1 hs
   have:=hf i he; omega)).trans (h.block i hi hn)⟩
theorem DU{w0 w:World}{bl:List (Nat×List Value)}{e:TypeId}{k:Nat}(R:Rw w0 w bl []):Rw w0 w bl [⟨e,k,.sn,0,[]⟩]:=
 ⟨λr hr=>by obtain rfl:=aAn.1 hr; exact⟨by simp,.inl ⟨I,I⟩⟩,R.lt,R.apart⟩
theorem jP.nil(base:Nat):jP base (.sn):=λg h=>by cases h
theorem CQ{w0 w:World}{a:Option Addr}{pk:Bool}{l:List UInt8}(hE:Ext w0 w)(hx:Bx w b #[.slice a l.length cap,.i p,.bool bad,.bool pk])(hb:w0.heap.size<=b)(h:jv w0 (.slice a l.length cap) l)(hp:p<=l.length) :
  Calls Tryz.prog 165 #[.q b 0] w λe w'=>∃(x:jW) (p':Nat) (d':Bool),e = .returned (.agg #[.i x.x,.i x.y])∧x.ok∧Got Xf jW.ok l p bad p' d' x∧KJ w0 w w' b a l cap pk p' d':=by
 skip;refine azN Tryz.func165 Tryz.ntmps165 hE hx hb λS=>azo S (λu b2 E3 hb4 S=>?_);have S:=S.fl;have y6:=(((Ch.trans (Ch.refl b w) (Ch.aT E3)))).size;refine Sx.aU S 1 I (ji S.E (S.bx 1) (S.old 1) h hp) ?_;rintro e u ⟨x6,p6,d6,rfl,i6,g6,hp6,SX,zG,SY⟩;refine⟨_,_,I,SX,zG,SY,λS=>?_⟩;have hs6:=zG.size;have LQ:=(aI ((Ch.trans (Ch.refl b w) (Ch.aT E3))) zG);have S:=S.fl;have y9:=(LQ).size;refine Sx.aU S 1 I (ji S.E (S.bx 1) (S.old 1) h hp6) ?_;rintro e u ⟨x9,p9,d9,rfl,i9,g9,hp9,hE9,hC9,hX9⟩;refine⟨_,_,I,hE9,hC9,hX9,λS=>?_⟩;have hs9:=hC9.size;have Xg:=(aI LQ hC9);refine azq S 0 I (λu Yo S=>?_);have BM:=(aI Xg Yo);refine azC S 0 I (v := .agg #[.i x6,.i x9]) (λS=>?_);exact⟨⟨x6,x9⟩,_,_,I,⟨i6,i9⟩,akL g6 g9,hp9,S.E,BM,S.kK 1⟩
theorem anx{w0 w:World}{a:Option Addr}{pk:Bool}{l:List UInt8}(hE:Ext w0 w)(hx:Bx w b #[.slice a l.length cap,.i p,.bool bad,.bool pk])(hb:w0.heap.size<=b)(h:jv w0 (.slice a l.length cap) l)(hp:p<=l.length) :
  Calls Tryz.prog 119 #[.q b 0] w λe w'=>∃(x:dN) (p':Nat) (d':Bool),e = .returned (.agg x.cells.toArray)∧x.ok∧Got kQ dN.ok l p bad p' d' x∧KJ w0 w w' b a l cap pk p' d':=by
 skip;refine azN Tryz.func119 Tryz.ntmps119 hE hx hb λS=>azo S (λu b2 E3 hb4 S=>?_);have S:=S.fl;have y6:=(((Ch.trans (Ch.refl b w) (Ch.aT E3)))).size;refine Sx.aU S 1 I (ji S.E (S.bx 1) (S.old 1) h hp) ?_;rintro e u ⟨x6,p6,d6,rfl,i6,g6,hp6,SX,zG,SY⟩;refine⟨_,_,I,SX,zG,SY,λS=>?_⟩;have hs6:=zG.size;have LQ:=(aI ((Ch.trans (Ch.refl b w) (Ch.aT E3))) zG);refine azo S λu b8 E9 zZ S=>azq S 0 I (λu Yo S=>?_);have pW:=azr E9 Yo;have S:=S.fl;have y14:=(((Ch.trans LQ (Ch.aT pW)))).size;refine Sx.aU S 2 I (CQ S.E (S.bx 2) (S.old 2) h hp6) ?_;rintro e u ⟨x14,p14,d14,rfl,i14,g14,Xh,aes,I4,aeu⟩;refine⟨_,_,I,aes,I4,aeu,λS=>?_⟩;have anz:=I4.size;have oN:=(aI ((Ch.trans LQ (Ch.aT pW))) I4);have S:=S.fl;have y16:=(oN).size;refine Sx.aU S 2 I (CQ S.E (S.bx 2) (S.old 2) h Xh) ?_;rintro e u ⟨x16,p16,d16,rfl,i16,g16,arQ,arR,akM,arS⟩;refine⟨_,_,I,arR,akM,arS,λS=>?_⟩;have axQ:=akM.size;have vS:=(aI oN akM);have S:=S.fl;have y18:=(vS).size;refine Sx.aU S 2 I (CQ S.E (S.bx 2) (S.old 2) h arQ) ?_;rintro e u ⟨x18,p18,d18,rfl,YZ,g18,O8,O9,vk,Ph⟩;refine⟨_,_,I,O9,vk,Ph,λS=>?_⟩;have ahb:=vk.size;have nN:=(aI vS vk);refine azq S 0 I (λu y8 S=>?_);have rZ:=(aI nN y8);refine azq S 0 I (λu C22 S=>?_);have EW:=(aI rZ C22);refine azq S 0 I (λu NY S=>?_);have BJ:=(aI EW NY);refine adr S 1 [] [.mem 0 0] λS=>azq S 1 I (λu C27 S=>?_);have S:=S.fl;have Dz:=(aI BJ C27);refine azC S 1 I (v := .agg #[.i x6,.i x14.x,.i x14.y,.i x16.x,.i x16.y,.i x18.x,.i x18.y]) (λS=>?_);exact⟨⟨x6,x14,x16,x18⟩,_,_,I,⟨i6,i14,i16,YZ⟩,ag8 g6 g14 g16 g18,O8,S.E,Dz,S.kK 2⟩
theorem akN{w0 w:World}{a:Option Addr}{pk:Bool}{l:List UInt8}(hE:Ext w0 w)(hx:Bx w b #[.slice a l.length cap,.i p,.bool bad,.bool pk])(hb:w0.heap.size<=b)(h:jv w0 (.slice a l.length cap) l)(hp:p<=l.length) :
  Calls Tryz.prog 167 #[.q b 0] w λe w'=>∃(x:dK) (p':Nat) (d':Bool),e = .returned (.agg x.cells.toArray)∧x.ok∧Got jh dK.ok l p bad p' d' x∧KJ w0 w w' b a l cap pk p' d':=by
 skip;refine azN Tryz.func167 Tryz.ntmps167 hE hx hb λS=>azo S (λu b2 E3 hb4 S=>?_);have S:=S.fl;have y6:=(((Ch.trans (Ch.refl b w) (Ch.aT E3)))).size;refine Sx.aU S 1 I (ji S.E (S.bx 1) (S.old 1) h hp) ?_;rintro e u ⟨x6,p6,d6,rfl,i6,g6,hp6,SX,zG,SY⟩;refine⟨_,_,I,SX,zG,SY,λS=>?_⟩;have hs6:=zG.size;have LQ:=(aI ((Ch.trans (Ch.refl b w) (Ch.aT E3))) zG);have S:=S.fl;have y9:=(LQ).size;refine Sx.aU S 1 I (FY S.E (S.bx 1) (S.old 1) h hp6) ?_;rintro e u ⟨q9,p9,d9,rfl,g9,hp9,hE9,hC9,hX9⟩;refine⟨_,_,I,hE9,hC9,hX9,λS=>?_⟩;have hs9:=hC9.size;have Xg:=(aI LQ hC9);refine azq S 0 I (λu Yo S=>?_);have BM:=(aI Xg Yo);refine azC S 0 I (v := .agg (Sx.L [.i x6]++q9.cells).toArray) (λS=>?_);exact⟨⟨x6,q9⟩,_,_,I,i6,aep g6 g9,hp9,S.E,BM,S.kK 1⟩
theorem Y0{w0 w:World}{a:Option Addr}{pk:Bool}{l:List UInt8}(hE:Ext w0 w)(hx:Bx w b #[.slice a l.length cap,.i p,.bool bad,.bool pk])(hb:w0.heap.size<=b)(h:jv w0 (.slice a l.length cap) l)(hp:p<=l.length){n:Nat}(hn:n<=l.length)(hll:l.length<=100000000) :
  Calls Tryz.prog 118 #[.q b 0,.i n,.func (.func 119) #[.q b 0] #[]] w λe w'=>∃(v:Value) (A03:List dN) (p':Nat) (d':Bool),e = .returned v∧A03.length<=n∧(∀s∈A03,dN.ok s)∧aY w.heap.size (λW=>aJ 7 dN.cells W v A03) w'∧jc kQ dN.ok l p bad n p' d' A03∧KJ w0 w w' b a l cap pk p' d':=by
 skip;refine azN Tryz.func118 Tryz.ntmps118 hE hx hb (λS=>?_);have R:=aAy S;have I5:=(Ch.refl b w);refine azI S (ι:=Nat×Value×List dN×Nat×Bool) (λpq a' w'=>pq.1<=n∧(jP w.heap.size pq.2.1∧pq.2.2.1.length=pq.1∧(∀s∈pq.2.2.1,dN.ok s)∧pq.2.2.2.1<=l.length∧jc kQ dN.ok l p bad pq.1 pq.2.2.2.1 pq.2.2.2.2 pq.2.2.1∧Ch b w w')∧Rw w0 w' [(b,[.slice a l.length cap,.i pq.2.2.2.1,.bool pq.2.2.2.2,.bool pk])] [⟨163,7,pq.2.1,pq.2.2.1.length,pq.2.2.1.flatMap dN.cells⟩]∧Sx.St w0 a' w' 22 [(0,.q b 0),(1,.i n),(2,.func (.func 119) #[.q b 0] #[]),(6,.sn),(7,pq.2.1),(8,.i n),(9,.i pq.1)] [(b,[.slice a l.length cap,.i pq.2.2.2.1,.bool pq.2.2.2.2,.bool pk])] []) (λpq=>n-pq.1) (0,(.sn),[],p,bad) (λS=>⟨azZ _,⟨jP.nil _,I,(λx hx=>by cases hx),hp,jc.nil,I5⟩,DU R,S.sn⟩) ?_;rintro⟨k,v,M,pp,dd⟩ ac u gQ eu hI;try dsimp only at hI
 obtain⟨hk,hR,R,S⟩:=hI;refine azJ S (λS=>?_);obtain⟨hfv,hML,KD,hpp,hG,hch⟩:=hR;refine azm S (decide ((k:Int)<(n:Int))) (λnJ S=>?_) (λnJ S=>?_)
 .refine adr S 4 [] [.mem 0 2] λS=>azm S (dd) (λgV S=>?_) (λgV S=>?_)
  .refine apB S (.sn) (λS=>?_);exact⟨_,[],_,_,I,azZ _,(λx hx=>by cases hx),λW _ _=>dI _ _ _,(K03 (by rw[gV]at hG; exact hG) hk),hpp,S.E,hch,S.bx 0⟩
  have S:=S.fl;have y13:=(hch).size;refine Sx.aU S 0 I (anx S.E (S.bx 0) (S.old 0) h hpp) ?_;rintro e u ⟨CS,p13,d13,rfl,i13,g13,KL,AL,oH,I7⟩;refine⟨_,_,I,AL,oH,I7,λS=>?_⟩;have aev:=oH.size;have Am:=(aI hch oH);refine azs S CS.cells (λu b15 Af vN S=>?_);obtain⟨R,Y18⟩:=R.bQ S (aAc (Sx.Stp.Ov oH) (aAX Af vN));have hlt:k<n:=by have:=az9 nJ; omega
  have xw:=((Ch.trans Am (Ch.aT Af)));have hus:=xw.size;refine azw S λS=>Sx.app S R 0 19 I aiw (oD (m:=1) (k:=7) (A:=CS.cells) (S.bx 0)) (by show M.length+1<=9223372036854775807; omega) (by show(M.length+1)*_<=140737488355328; omega) λac u v19 VA R S=>azF S (λS=>?_);have hfr:=jP.step (r:=⟨163,7,v,M.length,M.flatMap dN.cells⟩) hfv R VA hus;have I8:=DT (r:=⟨163,7,v,M.length,M.flatMap dN.cells⟩) xw VA (λp hp=>by rcases az2.1 hp with rfl | hp; (exact .inr (by show _<=b15; omega)); rcases az2.1 hp with rfl | hp; (exact .inl I); cases hp) hfv;have S:=S.gW 1;obtain⟨R,Y21⟩:=R.bQ S (aAO 1);refine adr S 3 [] [.re 20 (.i (IntKind.i64.wrap ((k:Int)+1))) (.i (k+1:Nat))] (hk:=⟨azA Z,G⟩) λS=>azG S gQ (λS=>?_);exact eu _ _ ((k+1),v19,(M++[CS]),p13,d13) ⟨Z,⟨hfr,by rw[azU,hML]; rfl,(λz hz=>by rcases aAu.1 hz with hz | hz; (exact KD z hz); obtain rfl:=aAn.1 hz; exact i13),KL,by exact hG.snoc g13,I8⟩,R.as (show [(⟨163,7,v19,M.length+1,M.flatMap dN.cells++CS.cells⟩:Sx.Row)]=[⟨163,7,v19,(M++[CS]).length,(M++[CS]).flatMap dN.cells⟩] by simp),S.sn⟩ (by show _-_<_-_; omega)
 have hkn:k=n:=by have:=aAd nJ; omega
 refine apB S v (λS=>?_);exact⟨_,M,_,_,I,Z,KD,kX (f:=dN.cells) (L:=M) (λ_=>I) (hfv.own (R.own _ az5)) I I,hkn▸hG,hpp,S.E,hch,S.bx 0⟩
theorem aew{w0 w:World}{a:Option Addr}{pk:Bool}{l:List UInt8}(hE:Ext w0 w)(hx:Bx w b #[.slice a l.length cap,.i p,.bool bad,.bool pk])(hb:w0.heap.size<=b)(h:jv w0 (.slice a l.length cap) l)(hp:p<=l.length){n:Nat}(hn:n<=l.length)(hll:l.length<=100000000) :
  Calls Tryz.prog 166 #[.q b 0,.i n,.func (.func 167) #[.q b 0] #[]] w λe w'=>∃(v:Value) (A03:List dK) (p':Nat) (d':Bool),e = .returned v∧A03.length<=n∧(∀s∈A03,dK.ok s)∧aY w.heap.size (λW=>aJ 5 dK.cells W v A03) w'∧jc jh dK.ok l p bad n p' d' A03∧KJ w0 w w' b a l cap pk p' d':=by
 skip;refine azN Tryz.func166 Tryz.ntmps166 hE hx hb (λS=>?_);have R:=aAy S;have I5:=(Ch.refl b w);refine azI S (ι:=Nat×Value×List dK×Nat×Bool) (λpq a' w'=>pq.1<=n∧(jP w.heap.size pq.2.1∧pq.2.2.1.length=pq.1∧(∀s∈pq.2.2.1,dK.ok s)∧pq.2.2.2.1<=l.length∧jc jh dK.ok l p bad pq.1 pq.2.2.2.1 pq.2.2.2.2 pq.2.2.1∧Ch b w w')∧Rw w0 w' [(b,[.slice a l.length cap,.i pq.2.2.2.1,.bool pq.2.2.2.2,.bool pk])] [⟨202,5,pq.2.1,pq.2.2.1.length,pq.2.2.1.flatMap dK.cells⟩]∧Sx.St w0 a' w' 22 [(0,.q b 0),(1,.i n),(2,.func (.func 167) #[.q b 0] #[]),(6,.sn),(7,pq.2.1),(8,.i n),(9,.i pq.1)] [(b,[.slice a l.length cap,.i pq.2.2.2.1,.bool pq.2.2.2.2,.bool pk])] []) (λpq=>n-pq.1) (0,(.sn),[],p,bad) (λS=>⟨azZ _,⟨jP.nil _,I,(λx hx=>by cases hx),hp,jc.nil,I5⟩,DU R,S.sn⟩) ?_;rintro⟨k,v,M,pp,dd⟩ ac u gQ eu hI;try dsimp only at hI
 obtain⟨hk,hR,R,S⟩:=hI;refine azJ S (λS=>?_);obtain⟨hfv,hML,KD,hpp,hG,hch⟩:=hR;refine azm S (decide ((k:Int)<(n:Int))) (λnJ S=>?_) (λnJ S=>?_)
 .refine adr S 4 [] [.mem 0 2] λS=>azm S (dd) (λgV S=>?_) (λgV S=>?_)
  .refine apB S (.sn) (λS=>?_);exact⟨_,[],_,_,I,azZ _,(λx hx=>by cases hx),λW _ _=>dI _ _ _,(K03 (by rw[gV]at hG; exact hG) hk),hpp,S.E,hch,S.bx 0⟩
  have S:=S.fl;have y13:=(hch).size;refine Sx.aU S 0 I (akN S.E (S.bx 0) (S.old 0) h hpp) ?_;rintro e u ⟨CS,p13,d13,rfl,i13,g13,KL,AL,oH,I7⟩;refine⟨_,_,I,AL,oH,I7,λS=>?_⟩;have aev:=oH.size;have Am:=(aI hch oH);refine azs S CS.cells (λu b15 Af vN S=>?_);obtain⟨R,Y18⟩:=R.bQ S (aAc (Sx.Stp.Ov oH) (aAX Af vN));have hlt:k<n:=by have:=az9 nJ; omega
  have xw:=((Ch.trans Am (Ch.aT Af)));have hus:=xw.size;refine azw S λS=>Sx.app S R 0 19 I adW (oD (m:=1) (k:=5) (A:=CS.cells) (S.bx 0)) (by show M.length+1<=9223372036854775807; omega) (by show(M.length+1)*_<=140737488355328; omega) λac u v19 VA R S=>azF S (λS=>?_);have hfr:=jP.step (r:=⟨202,5,v,M.length,M.flatMap dK.cells⟩) hfv R VA hus;have I8:=DT (r:=⟨202,5,v,M.length,M.flatMap dK.cells⟩) xw VA (λp hp=>by rcases az2.1 hp with rfl | hp; (exact .inr (by show _<=b15; omega)); rcases az2.1 hp with rfl | hp; (exact .inl I); cases hp) hfv;have S:=S.gW 1;obtain⟨R,Y21⟩:=R.bQ S (aAO 1);refine adr S 3 [] [.re 20 (.i (IntKind.i64.wrap ((k:Int)+1))) (.i (k+1:Nat))] (hk:=⟨azA Z,G⟩) λS=>azG S gQ (λS=>?_);exact eu _ _ ((k+1),v19,(M++[CS]),p13,d13) ⟨Z,⟨hfr,by rw[azU,hML]; rfl,(λz hz=>by rcases aAu.1 hz with hz | hz; (exact KD z hz); obtain rfl:=aAn.1 hz; exact i13),KL,by exact hG.snoc g13,I8⟩,R.as (show [(⟨202,5,v19,M.length+1,M.flatMap dK.cells++CS.cells⟩:Sx.Row)]=[⟨202,5,v19,(M++[CS]).length,(M++[CS]).flatMap dK.cells⟩] by simp),S.sn⟩ (by show _-_<_-_; omega)
 have hkn:k=n:=by have:=aAd nJ; omega
 refine apB S v (λS=>?_);exact⟨_,M,_,_,I,Z,KD,kX (f:=dK.cells) (L:=M) (λ_=>I) (hfv.own (R.own _ az5)) I I,hkn▸hG,hpp,S.E,hch,S.bx 0⟩
theorem akO{w0 w:World}{a:Option Addr}{pk:Bool}{l:List UInt8}(hE:Ext w0 w)(hx:Bx w b #[.slice a l.length cap,.i p,.bool bad,.bool pk])(hb:w0.heap.size<=b)(h:jv w0 (.slice a l.length cap) l)(hp:p<=l.length){n:Nat}(hn:n<=l.length)(hll:l.length<=100000000) :
  Calls Tryz.prog 168 #[.q b 0,.i n,.func (.func 77) #[.q b 0] #[]] w λe w'=>∃(v:Value) (A03:List Int) (p':Nat) (d':Bool),e = .returned v∧A03.length<=n∧(∀s∈A03,I64 s)∧aY w.heap.size (λW=>aJ 1 (λx:Int=>[.i x]) W v A03) w'∧jc iB I64 l p bad n p' d' A03∧KJ w0 w w' b a l cap pk p' d':=by
 skip;refine azN Tryz.func168 Tryz.ntmps168 hE hx hb (λS=>?_);have R:=aAy S;have I5:=(Ch.refl b w);refine azI S (ι:=Nat×Value×List Int×Nat×Bool) (λpq a' w'=>pq.1<=n∧(jP w.heap.size pq.2.1∧pq.2.2.1.length=pq.1∧(∀s∈pq.2.2.1,I64 s)∧pq.2.2.2.1<=l.length∧jc iB I64 l p bad pq.1 pq.2.2.2.1 pq.2.2.2.2 pq.2.2.1∧Ch b w w')∧Rw w0 w' [(b,[.slice a l.length cap,.i pq.2.2.2.1,.bool pq.2.2.2.2,.bool pk])] [⟨3,1,pq.2.1,pq.2.2.1.length,pq.2.2.1.flatMap (λx:Int=>[.i x])⟩]∧Sx.St w0 a' w' 22 [(0,.q b 0),(1,.i n),(2,.func (.func 77) #[.q b 0] #[]),(6,.sn),(7,pq.2.1),(8,.i n),(9,.i pq.1)] [(b,[.slice a l.length cap,.i pq.2.2.2.1,.bool pq.2.2.2.2,.bool pk])] []) (λpq=>n-pq.1) (0,(.sn),[],p,bad) (λS=>⟨azZ _,⟨jP.nil _,I,(λx hx=>by cases hx),hp,jc.nil,I5⟩,DU R,S.sn⟩) ?_;rintro⟨k,v,M,pp,dd⟩ ac u gQ eu hI;try dsimp only at hI
 obtain⟨hk,hR,R,S⟩:=hI;refine azJ S (λS=>?_);obtain⟨hfv,hML,KD,hpp,hG,hch⟩:=hR;refine azm S (decide ((k:Int)<(n:Int))) (λnJ S=>?_) (λnJ S=>?_)
 .refine adr S 4 [] [.mem 0 2] λS=>azm S (dd) (λgV S=>?_) (λgV S=>?_)
  .refine apB S (.sn) (λS=>?_);exact⟨_,[],_,_,I,azZ _,(λx hx=>by cases hx),λW _ _=>dI _ _ _,(K03 (by rw[gV]at hG; exact hG) hk),hpp,S.E,hch,S.bx 0⟩
  have S:=S.fl;have y13:=(hch).size;refine Sx.aU S 0 I (ji S.E (S.bx 0) (S.old 0) h hpp) ?_;rintro e u ⟨CS,p13,d13,rfl,i13,g13,KL,AL,oH,I7⟩;refine⟨_,_,I,AL,oH,I7,λS=>?_⟩;have aev:=oH.size;have Am:=(aI hch oH);refine azs S [.i CS] (λu b15 Af vN S=>?_);obtain⟨R,Y18⟩:=R.bQ S (aAc (Sx.Stp.Ov oH) (aAX Af vN));have hlt:k<n:=by have:=az9 nJ; omega
  have xw:=((Ch.trans Am (Ch.aT Af)));have hus:=xw.size;refine azw S λS=>Sx.app S R 0 19 I aiy (oD (m:=1) (k:=1) (A:=[.i CS]) (S.bx 0)) (by show M.length+1<=9223372036854775807; omega) (by show(M.length+1)*_<=140737488355328; omega) λac u v19 VA R S=>azF S (λS=>?_);have hfr:=jP.step (r:=⟨3,1,v,M.length,M.flatMap (λx:Int=>[.i x])⟩) hfv R VA hus;have I8:=DT (r:=⟨3,1,v,M.length,M.flatMap (λx:Int=>[.i x])⟩) xw VA (λp hp=>by rcases az2.1 hp with rfl | hp; (exact .inr (by show _<=b15; omega)); rcases az2.1 hp with rfl | hp; (exact .inl I); cases hp) hfv;have S:=S.gW 1;obtain⟨R,Y21⟩:=R.bQ S (aAO 1);refine adr S 3 [] [.re 20 (.i (IntKind.i64.wrap ((k:Int)+1))) (.i (k+1:Nat))] (hk:=⟨azA Z,G⟩) λS=>azG S gQ (λS=>?_);exact eu _ _ ((k+1),v19,(M++[CS]),p13,d13) ⟨Z,⟨hfr,by rw[azU,hML]; rfl,(λz hz=>by rcases aAu.1 hz with hz | hz; (exact KD z hz); obtain rfl:=aAn.1 hz; exact i13),KL,by exact hG.snoc g13,I8⟩,R.as (show [(⟨3,1,v19,M.length+1,M.flatMap (λx:Int=>[.i x])++[.i CS]⟩:Sx.Row)]=[⟨3,1,v19,(M++[CS]).length,(M++[CS]).flatMap (λx:Int=>[.i x])⟩] by simp),S.sn⟩ (by show _-_<_-_; omega)
 have hkn:k=n:=by have:=aAd nJ; omega
 refine apB S v (λS=>?_);exact⟨_,M,_,_,I,Z,KD,kX (f:=(λx:Int=>[.i x])) (L:=M) (λ_=>I) (hfv.own (R.own _ az5)) I I,hkn▸hG,hpp,S.E,hch,S.bx 0⟩
theorem ahc{w0 w:World}{a:Option Addr}{pk:Bool}{l:List UInt8}(hE:Ext w0 w)(hx:Bx w b #[.slice a l.length cap,.i p,.bool bad,.bool pk])(hb:w0.heap.size<=b)(h:jv w0 (.slice a l.length cap) l)(hp:p<=l.length){n:Nat}(hn:n<=l.length)(hll:l.length<=100000000) :
  Calls Tryz.prog 170 #[.q b 0,.i n,.func (.func 171) #[.q b 0] #[]] w λe w'=>∃(v:Value) (A03:List bD) (p':Nat) (d':Bool),e = .returned v∧A03.length<=n∧(∀s∈A03,True)∧aY w.heap.size (λW=>aJ 4 bD.cells W v A03) w'∧jc Px.pb (λ_=>True) l p bad n p' d' A03∧KJ w0 w w' b a l cap pk p' d':=by
 skip;refine azN Tryz.func170 Tryz.ntmps170 hE hx hb (λS=>?_);have R:=aAy S;have I5:=(Ch.refl b w);refine azI S (ι:=Nat×Value×List bD×Nat×Bool) (λpq a' w'=>pq.1<=n∧(jP w.heap.size pq.2.1∧pq.2.2.1.length=pq.1∧(∀s∈pq.2.2.1,True)∧pq.2.2.2.1<=l.length∧jc Px.pb (λ_=>True) l p bad pq.1 pq.2.2.2.1 pq.2.2.2.2 pq.2.2.1∧Ch b w w')∧Rw w0 w' [(b,[.slice a l.length cap,.i pq.2.2.2.1,.bool pq.2.2.2.2,.bool pk])] [⟨178,4,pq.2.1,pq.2.2.1.length,pq.2.2.1.flatMap bD.cells⟩]∧Sx.St w0 a' w' 22 [(0,.q b 0),(1,.i n),(2,.func (.func 171) #[.q b 0] #[]),(6,.sn),(7,pq.2.1),(8,.i n),(9,.i pq.1)] [(b,[.slice a l.length cap,.i pq.2.2.2.1,.bool pq.2.2.2.2,.bool pk])] []) (λpq=>n-pq.1) (0,(.sn),[],p,bad) (λS=>⟨azZ _,⟨jP.nil _,I,(λx hx=>by cases hx),hp,jc.nil,I5⟩,DU R,S.sn⟩) ?_;rintro⟨k,v,M,pp,dd⟩ ac u gQ eu hI;try dsimp only at hI
 obtain⟨hk,hR,R,S⟩:=hI;refine azJ S (λS=>?_);obtain⟨hfv,hML,KD,hpp,hG,hch⟩:=hR;refine azm S (decide ((k:Int)<(n:Int))) (λnJ S=>?_) (λnJ S=>?_)
 .refine adr S 4 [] [.mem 0 2] λS=>azm S (dd) (λgV S=>?_) (λgV S=>?_)
  .refine apB S (.sn) (λS=>?_);exact⟨_,[],_,_,I,azZ _,(λx hx=>by cases hx),λW _ _=>dI _ _ _,(K03 (by rw[gV]at hG; exact hG) hk),hpp,S.E,hch,S.bx 0⟩
  have S:=S.fl;have y13:=(hch).size;refine Sx.aU S 0 I (aha S.E (S.bx 0) (S.old 0) h hpp) ?_;rintro e u ⟨q13,p13,d13,rfl,g13,KL,AL,oH,I7⟩;refine⟨_,_,I,AL,oH,I7,λS=>?_⟩;have aev:=oH.size;have Am:=(aI hch oH);refine azs S q13.cells (λu b15 Af vN S=>?_);obtain⟨R,Y18⟩:=R.bQ S (aAc (Sx.Stp.Ov oH) (aAX Af vN));have hlt:k<n:=by have:=az9 nJ; omega
  have xw:=((Ch.trans Am (Ch.aT Af)));have hus:=xw.size;refine azw S λS=>Sx.app S R 0 19 I aix (oD (m:=1) (k:=4) (A:=q13.cells) (S.bx 0)) (by show M.length+1<=9223372036854775807; omega) (by show(M.length+1)*_<=140737488355328; omega) λac u v19 VA R S=>azF S (λS=>?_);have hfr:=jP.step (r:=⟨178,4,v,M.length,M.flatMap bD.cells⟩) hfv R VA hus;have I8:=DT (r:=⟨178,4,v,M.length,M.flatMap bD.cells⟩) xw VA (λp hp=>by rcases az2.1 hp with rfl | hp; (exact .inr (by show _<=b15; omega)); rcases az2.1 hp with rfl | hp; (exact .inl I); cases hp) hfv;have S:=S.gW 1;obtain⟨R,Y21⟩:=R.bQ S (aAO 1);refine adr S 3 [] [.re 20 (.i (IntKind.i64.wrap ((k:Int)+1))) (.i (k+1:Nat))] (hk:=⟨azA Z,G⟩) λS=>azG S gQ (λS=>?_);exact eu _ _ ((k+1),v19,(M++[q13]),p13,d13) ⟨Z,⟨hfr,by rw[azU,hML]; rfl,(λ_ _=>G),KL,by exact hG.snoc g13,I8⟩,R.as (show [(⟨178,4,v19,M.length+1,M.flatMap bD.cells++q13.cells⟩:Sx.Row)]=[⟨178,4,v19,(M++[q13]).length,(M++[q13]).flatMap bD.cells⟩] by simp),S.sn⟩ (by show _-_<_-_; omega)
 have hkn:k=n:=by have:=aAd nJ; omega
 refine apB S v (λS=>?_);exact⟨_,M,_,_,I,Z,KD,kX (f:=bD.cells) (L:=M) (λ_=>I) (hfv.own (R.own _ az5)) I I,hkn▸hG,hpp,S.E,hch,S.bx 0⟩
end Go.Proofs.YtodpgjjgaddkeaaGreatDoor
end
theorem azt:type_of% @Go.Sx.aU:=@Go.Sx.aU
