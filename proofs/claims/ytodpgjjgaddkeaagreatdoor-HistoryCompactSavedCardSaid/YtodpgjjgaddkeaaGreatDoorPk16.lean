/- Encodings say what was encoded. -/
import Derived.Test.YtodpgjjgaddkeaaGreatDoorPk15
set_option maxHeartbeats 9999999
open Go renaming World->VO,Value->aaT,Calls->abB,Addr->aGk
open Go.Proofs.Tryz
set_option maxRecDepth 100000
set_option linter.unusedVariables false
set_option linter.unusedSimpArgs false
section
namespace Go.Proofs.Vy
open En
variable{α:Type}{K:Nat}
def PI(f:α->List UInt8)(x y:α):Prop:=∀r s,f x++r=f y++s->x=y∧r=s
abbrev QE{a b:Nat}(J:a<18446744073709551616)(S:b<18446744073709551616):PI (dY 10) a b:=λr s h=>by
 have D:=oV a r J;have J:=oV b s S;rw[h,J]at D;simp only[aFa,aDm]at D;obtain⟨rfl,-⟩:=D;exact⟨I,List.append_cancel_left h⟩
abbrev Oe{a b:Int}(D:I64 a)(J:I64 b):PI iB a b:=λr s h=>by
 obtain⟨S,h2⟩:=QE (Qa D.1 D.2) (Qa J.1 J.2) r s h;exact⟨by rw[<-Eu a,S,Eu],h2⟩
theorem UC{f:α->List UInt8}:∀{L M:List α},L.length=M.length->(∀x∈L,∀y∈M,PI f x y)->PI (λl:List α=>l.flatMap f) L M
 | [],[],_,_,r,s,h=>⟨I,h⟩
 | [],_::_,hl,_,_,_,_=>by cases hl
 | _::_,[],hl,_,_,_,_=>by cases hl
 | x::L,y::M,hl,hp,r,s,h=>by
  simp only[aEn,aDz]at h
  obtain⟨rfl,S⟩:=hp x aDq y aDq _ _ h
  obtain⟨rfl,h3⟩:=UC (by simpa using hl) (λa D b J=>hp a (aEs _ D) b (aEs _ J)) r s S
  exact⟨I,h3⟩
abbrev EJ{f:α->List UInt8}{L M:List α}(S:L.length<18446744073709551616)(hM:M.length<18446744073709551616)(hp:∀x∈L,∀y∈M,PI f x y):PI (iK f) L M:=λr s h=>by
 unfold iK at h;rw[aDz,aDz]at h;obtain⟨D,J⟩:=QE S hM _ _ h;exact UC D hp r s J
abbrev lD{L M:List Int}{r s:List UInt8}(h:dZ L++r=dZ M++s)(S:rM L)(hM:rM M)(hl:L.length=M.length:=by rfl):L=M∧r=s:=UC hl (λx D y J=>Oe (S.all x D) (hM.all y J)) r s h
abbrev QF{l m:List UInt8}(hl:l.length<18446744073709551616)(S:m.length<18446744073709551616):PI gG l m:=λr s h=>by
 unfold gG at h;rw[aDz,aDz]at h;obtain⟨D,J⟩:=QE hl S _ _ h;exact List.append_inj J D
abbrev ai7{p q:Bool×Nat×Nat}(hp:eU p<=256)(hq:eU q<=256):PI iD p q:=λr s h=>by
 unfold eU at hp hq;have a1:=Nb.bK (FM (n:=p.2.1) Z);have a2:=Nb.bK (FM (n:=p.2.2) Z);have b1:=Nb.bK (FM (n:=q.2.1) Z);have b2:=Nb.bK (FM (n:=q.2.2) Z);obtain⟨p0,p1,p2⟩:=p;obtain⟨q0,S,q2⟩:=q;simp only[iD,aEp,aDP,aDz]at h a1 a2 b1 b2;obtain⟨h0,h⟩:=h;have t:=QF Z Z _ _ h;clear h;obtain⟨h1,h⟩:=t;have t:=QF Z Z _ _ h;clear h;obtain⟨h2,h⟩:=t;have D:p1=S:=by rw[<-Nb.aF p1,h1,Nb.aF]
 have J:p2=q2:=by rw[<-Nb.aF p2,h2,Nb.aF]
 have e0:p0=q0:=by cases p0<;>cases q0<;>simp at h0 |-
 exact⟨by rw[e0,D,J],h⟩
abbrev aat{p q:Q6}(hp:p.valid=true)(J:q.valid=true):PI tq p q:=λr s h=>by
 have D:∀{q:Q6},q.valid=true->∀x∈[q.a,q.b,q.c,q.d,q.e,q.f],eU x<=256:=λ{q} J x S=>by
  unfold Q6.valid at J;simp only[aDt,aDv]at J;simp only[aDp,aFp,or_false]at S;obtain⟨h1,h2,h3,h4,h5,h6⟩:=J;rcases S with rfl | rfl | rfl | rfl | rfl | rfl<;>assumption
 obtain⟨h1,h2⟩:=UC (L:=[p.a,p.b,p.c,p.d,p.e,p.f]) (M:=[q.a,q.b,q.c,q.d,q.e,q.f]) I (λx S y hy=>ai7 (D hp x S) (D J y hy)) r s h;cases p; cases q;simp only[aDP,and_true]at h1;obtain⟨rfl,rfl,rfl,rfl,rfl,rfl⟩:=h1;exact⟨I,h2⟩
abbrev UD(p q:bJ):PI Px.pb p q:=λr s h=>Px.XI h
abbrev amT{a b:dM}(D:a.ok)(J:b.ok):PI lF a b:=λr s h=>by
 unfold lF at h;obtain⟨S,h2⟩:=lD h ⟨D.1,D.2.1.1,D.2.1.2,D.2.2.1.1,D.2.2.1.2,D.2.2.2.1,D.2.2.2.2,G⟩ ⟨J.1,J.2.1.1,J.2.1.2,J.2.2.1.1,J.2.2.1.2,J.2.2.2.1,J.2.2.2.2,G⟩;obtain⟨v,⟨J,ay⟩,⟨bx,D⟩,cx,cy⟩:=a;obtain⟨v',⟨D,J⟩,⟨aa,ab⟩,ac,ae⟩:=b;simp only[aDP,and_true]at S;obtain⟨rfl,rfl,rfl,rfl,rfl,rfl,rfl⟩:=S;exact⟨I,h2⟩
abbrev aau{L M:List dM}(S:L.length<=256∧∀x∈L,x.ok)(hM:M.length<=256∧∀x∈M,x.ok):PI (iK lF) L M:=EJ Z Z λx D y J=>amT (S.2 x D) (hM.2 y J)
abbrev ai8{a b:dK}(D:a.ok)(J:b.ok):PI jG a b:=λr s h=>by
 unfold jG at h;rw[aDz,aDz]at h;have t:=lD h ⟨D,G⟩ ⟨J,G⟩;clear h;obtain⟨D,h⟩:=t;have t:=UD _ _ _ _ h;clear h;obtain⟨J,h⟩:=t;cases a; cases b;simp only[aDP,and_true]at D J;exact⟨by rw[D,J],h⟩
structure oN.Good (m:oN):Prop where
 w:I64 m.w
 h:I64 m.h
 n:(m.l.length:Int)=m.w*m.h
 len:m.l.length<=65536
abbrev afM{pk:Bool}{a b:oN}(J:a.Good)(S:b.Good):PI (sZ pk) a b:=λr s h=>by
 unfold sZ at h;rw[aDz,aDz]at h;have t:=lD h ⟨J.w,J.h,G⟩ ⟨S.w,S.h,G⟩;clear h;obtain⟨D,h⟩:=t;obtain⟨aw,ah,al⟩:=a;obtain⟨bw,bh,JH⟩:=b;simp only[aDP,and_true]at D;obtain⟨rfl,rfl⟩:=D;have e:al.length=JH.length:=by have D:=J.n; have h2:=S.n; simp only at D h2; omega
 have D:=J.len;have J:=S.len;simp only at D J;cases pk
 .simp only[aFG,if_false]at h;have t:=UC e (λx _ y _=>UD x y) _ _ h;clear h;obtain⟨rfl,h⟩:=t;exact⟨I,h⟩
 simp only[if_true]at h;have D:=JE al;have D:=JE JH;have t:=QF Z Z _ _ h;clear h;obtain⟨h2,h⟩:=t;obtain rfl:=Px.aiR Z Z h2;exact⟨I,h⟩
structure jy.Good (p:jy):Prop where
 kind:I64 p.kind
 p0:p.p0.ok
 p1:p.p1.ok
 bY:I64 p.bY
 stops:p.stops.length<=16∧∀s∈p.stops,s.ok
 spread:I64 p.spread
 img:p.img.Good
 dD:I64 p.dD
 q:p.q.valid=true
abbrev UE{pk:Bool}{a b:jy}(D:a.Good)(J:b.Good):PI (fG pk) a b:=λr s h=>by
 unfold fG at h;simp only[aDz]at h;have t:=lD h ⟨D.kind,G⟩ ⟨J.kind,G⟩;clear h;obtain⟨S,h⟩:=t;have t:=UD _ _ _ _ h;clear h;obtain⟨h2,h⟩:=t;have t:=lD h ⟨D.p0.1,D.p0.2,D.p1.1,D.p1.2,D.bY,G⟩ ⟨J.p0.1,J.p0.2,J.p1.1,J.p1.2,J.bY,G⟩;clear h;obtain⟨h3,h⟩:=t;have t:=EJ (by have:=D.stops.1; omega) (by have:=J.stops.1; omega) (λx hx y hy=>ai8 (D.stops.2 x hx) (J.stops.2 y hy)) _ _ h;clear h;obtain⟨h4,h⟩:=t;have t:=lD h ⟨D.spread,G⟩ ⟨J.spread,G⟩;clear h;obtain⟨h5,h⟩:=t;have t:=afM D.img J.img _ _ h;clear h;obtain⟨h6,h⟩:=t;have t:=lD h ⟨D.dD,G⟩ ⟨J.dD,G⟩;clear h;obtain⟨h7,h⟩:=t;have t:=aat D.q J.q _ _ h;clear h;obtain⟨D,h⟩:=t;obtain⟨k,c,⟨x0,J⟩,⟨x1,y1⟩,rd,st,sp,im,sm,q⟩:=a;obtain⟨k',c',⟨J,aa⟩,⟨ab,ac⟩,ae,af,ag,ah,ai,q'⟩:=b;simp only[aDP,and_true]at S h2 h3 h4 h5 h6 h7 D;obtain⟨rfl,rfl,rfl,rfl,rfl⟩:=h3;subst S h2 h4 h5 h6 h7 D;exact⟨I,h⟩
structure kY.Good (p:kY):Prop where
 i:I64 p.width∧I64 p.join∧I64 p.cap∧I64 p.fF∧I64 p.phase
 dash:p.dash.length<=16∧∀x∈p.dash,I64 x
abbrev amU{a b:kY}(D:a.Good)(J:b.Good):PI DJ a b:=λr s h=>by
 unfold DJ at h;rw[aDz,aDz]at h;obtain⟨a1,a2,S,a4,a5⟩:=D.i;obtain⟨b1,b2,b3,b4,b5⟩:=J.i;have t:=lD h ⟨a1,a2,S,a4,a5,G⟩ ⟨b1,b2,b3,b4,b5,G⟩;clear h;obtain⟨S,h⟩:=t;have t:=EJ (by have:=D.dash.1; omega) (by have:=J.dash.1; omega) (λx hx y hy=>Oe (D.dash.2 x hx) (J.dash.2 y hy)) _ _ h;clear h;obtain⟨D,h⟩:=t;obtain⟨w,j,c,m,d,p⟩:=a;obtain⟨w',J,c',m',d',p'⟩:=b;simp only[aDP,and_true]at S D;obtain⟨rfl,rfl,rfl,rfl,rfl⟩:=S;subst D;exact⟨I,h⟩
def kY.zero:kY:=⟨0,0,0,0,[],0⟩
def oN.zero:oN:=⟨0,0,[]⟩
def aO.canon(n:aO):aO:=
 if n.kind=1 then { n with path:=[],aW:=0,fill:=[],style := .zero,stroke:=[],img := .zero,dD:=0 }
 else if n.kind=2 then { n with dS:=0,blend:=0,isolated:=false,dG:=false,style:=(if 0<n.stroke.length then n.style else .zero),img := .zero,dD:=0 }
 else if n.kind=3 then { n with dS:=0,blend:=0,isolated:=false,dG:=false,path:=[],aW:=0,fill:=[],style := .zero,stroke:=[] }
 else { n with dS:=0,blend:=0,isolated:=false,dG:=false,path:=[],aW:=0,fill:=[],style := .zero,stroke:=[],img := .zero,dD:=0 }
structure aO.Good (n:aO):Prop where
 i:I64 n.id∧I64 n.kind∧I64 n.depth∧I64 n.aS∧I64 n.blend∧I64 n.aW∧I64 n.dD
 q:n.q.valid=true
 clip:n.clip.length<=256∧∀s∈n.clip,s.ok
 path:n.kind=2->n.path.length<=256∧∀s∈n.path,s.ok
 fill:n.kind=2->n.fill.length<=1∧∀p∈n.fill,p.Good
 stroke:n.kind=2->n.stroke.length<=1∧∀p∈n.stroke,p.Good
 style:n.kind=2->0<n.stroke.length->n.style.Good
 img:n.kind=3->n.img.Good
abbrev aav{a b:Bool}(h:qo a=qo b):a=b:=by cases a<;>cases b<;>simp[qo]at h |-
abbrev ai9{pk:Bool}{a b:aO}(J:a.Good)(S:b.Good)(r s:List UInt8)(h:eY pk a++r=eY pk b++s):a.canon=b.canon∧r=s:=by
 unfold eY at h;simp only[aDz]at h;obtain⟨a1,a2,D,a4,a5,a6,a7⟩:=J.i;obtain⟨b1,b2,b3,b4,b5,b6,b7⟩:=S.i;have t:=lD h ⟨a1,a2,D,G⟩ ⟨b1,b2,b3,G⟩;clear h;obtain⟨D,h⟩:=t;have t:=aat J.q S.q _ _ h;clear h;obtain⟨h2,h⟩:=t;have t:=aau J.clip S.clip _ _ h;clear h;obtain⟨h3,h⟩:=t;have t:=lD h ⟨a4,G⟩ ⟨b4,G⟩;clear h;obtain⟨h4,h⟩:=t;obtain⟨id,kd,dp,q,cl,cr,op,bd,is,kn,pa,fr,fi,sy,st,im,sm⟩:=a;obtain⟨aa,ab,ac,q',ae,af,ag,ah,ai,al,am,an,ao,ap,aq,ar,av⟩:=b;simp only[aDP,and_true]at D h2 h3 h4;obtain⟨rfl,rfl,rfl⟩:=D;subst h2 h3 h4;unfold nV at h;unfold aO.canon;simp only at h |-;by_cases k1:kd=1
 .simp only[aDb k1,aDz]at h |-;simp only[aEp,aD8,aDP]at h;obtain⟨h5,h⟩:=h;have t:=lD h ⟨a5,G⟩ ⟨b5,G⟩;clear h;obtain⟨D,h⟩:=t;simp only[aDP,and_true]at h D;obtain⟨h7,h8,h⟩:=h;obtain rfl:=aav h7;obtain rfl:=aav h8;exact⟨by rw[h5,D],h⟩
 by_cases k2:kd=2
 .simp only[aC9 k1,aDb k2,aDz]at h |-;have t:=aau (J.path k2) (S.path k2) _ _ h;clear h;obtain⟨h5,h⟩:=t;have t:=lD h ⟨a6,G⟩ ⟨b6,G⟩;clear h;obtain⟨D,h⟩:=t;have f1:=J.fill k2;have f2:=S.fill k2;have s1:=J.stroke k2;have s2:=S.stroke k2;have t:=EJ (by have:=f1.1; omega) (by have:=f2.1; omega) (λx hx y hy=>UE (f1.2 x hx) (f2.2 y hy)) _ _ h;clear h;obtain⟨h7,h⟩:=t;have t:=EJ (by have:=s1.1; omega) (by have:=s2.1; omega) (λx hx y hy=>UE (s1.2 x hx) (s2.2 y hy)) _ _ h;clear h;obtain⟨h8,h⟩:=t;have y1:=J.style k2;have y2:=S.style k2;simp only[aDP,and_true]at h5 D h7 h8 y1 y2;subst h5 D h7 h8;by_cases hs:0<st.length
  .simp only[aDb hs]at h |-;have t:=amU (y1 hs) (y2 hs) _ _ h;clear h;obtain⟨rfl,h⟩:=t;exact⟨I,h⟩
  simp only[aC9 hs,aD8]at h |-;exact⟨G,h⟩
 by_cases k3:kd=3
 .simp only[aC9 k1,aC9 k2,aDb k3,aDz]at h |-;have t:=afM (J.img k3) (S.img k3) _ _ h;clear h;obtain⟨h5,h⟩:=t;have t:=lD h ⟨a7,G⟩ ⟨b7,G⟩;clear h;obtain⟨D,h⟩:=t;simp only[aDP,and_true]at h5 D;subst h5 D;exact⟨I,h⟩
 simp only[aC9 k1,aC9 k2,aC9 k3,aD8]at h |-;exact⟨G,h⟩
abbrev JI{w:VO}{p:ak}(h:p.ok w)(hv:p.valid=true):p.key.Good:=by
 obtain⟨J,S,D⟩:=uz hv;exact⟨h.1,h.2.1,h.2.2.1,h.2.2.2.1,⟨S,h.2.2.2.2.2.1⟩,h.2.2.2.2.2.2.1,⟨h.2.2.2.2.2.2.2.1.1,h.2.2.2.2.2.2.2.1.2.1,D.1,D.2.1⟩,h.2.2.2.2.2.2.2.2.1,J⟩
abbrev EK{w:VO}{n:aj}(h:n.ok w)(D:n.checkN=0):n.key.Good:=by
 have J:=uD D;obtain⟨h1,h2,h3,h4,h5,h6,h7,h8,h9,aa,D,ab,S,L8⟩:=h;refine⟨⟨h1,h2,h3,h6,h7,h9,L8⟩,J.q,⟨J.clip,h5.2⟩,λhk=>?_,λhk=>?_,λhk=>?_,λhk hs=>?_,λhk=>?_⟩
 .exact⟨(J.shape hk).1,h8.2⟩
 .exact⟨by simpa[aj.key]using (J.shape hk).2.1,λx hx=>by obtain⟨p,hp,rfl⟩:=aDJ.1 hx; exact JI (aa.2 p hp) ((J.shape hk).2.2.2.1 p hp)⟩
 .exact⟨by simpa[aj.key]using (J.shape hk).2.2.1,λx hx=>by obtain⟨p,hp,rfl⟩:=aDJ.1 hx; exact JI (ab.2 p hp) ((J.shape hk).2.2.2.2.1 p hp)⟩
 .exact⟨⟨D.1,D.2.1,D.2.2.1,D.2.2.2.1,D.2.2.2.2.2.2⟩,(J.shape hk).2.2.2.2.2 (by simpa[aj.key]using hs),D.2.2.2.2.2.1⟩
 have:=J.img hk;exact⟨S.1,S.2.1,this.1,this.2.1⟩
abbrev QG{p:aZ}(h:p.eq aZ.bare=true):p.key = .zero:=by
 unfold aZ.eq aZ.bare at h;simp only[aDt,aDu,aDv]at h;obtain⟨⟨⟨⟨⟨D,J⟩,S⟩,h4⟩,h5⟩,h6⟩:=h;unfold aZ.key kY.zero;rw[D,J,S,h4,h5,h6]
abbrev aaw{m:dI}(h:m.eq dI.bare=true):m.key = .zero:=by
 unfold dI.eq dI.bare at h;simp only[aDt,aDu]at h;unfold dI.key oN.zero;rw[h.1,h.2.1,h.2.2]
abbrev BK{n:aj}(J:n.checkN=0):n.key.canon=n.key:=by
 have hL:=uD J;have D:=hL.bare;have S:=qF J;unfold aj.bare at D;unfold aO.canon;by_cases k1:n.kind=1
 .rw[aDb (show n.key.kind=1 from k1)];simp only[k1,show((1:Int)==1)=true from rfl,cond_true,aDt,aDu]at D;obtain⟨⟨⟨⟨⟨b1,b2⟩,b3⟩,b4⟩,b5⟩,b6,b7⟩:=D;have J:n.path=[]:=aFS.1 Z;have S:n.fill=[]:=aFS.1 Z;have e4:n.stroke=[]:=aFS.1 Z;simp only[aj.key,J,b2,S,e4,QG b5,aaw b6,b7,aEr]
 rw[aC9 (show ¬n.key.kind=1 from k1)];by_cases k2:n.kind=2
 .rw[aDb (show n.key.kind=2 from k2)];simp only[k2,show((2:Int)==1)=false from rfl,show((2:Int)==2)=true from rfl,cond_false,cond_true,aDt,aDu,aEG]at D;obtain⟨⟨⟨⟨b1,b2⟩,b3⟩,b4⟩,b6,b7⟩:=D;have J:n.dS=0:=Ep.1 (by rw[b1]; rfl);have e2:(if 0<n.key.stroke.length then n.key.style else kY.zero)=n.key.style:=by
   split
   .rfl
   rename_i hs; exact(QG (hL.sty k2 (by simpa[aj.key]using hs))).symm
  rw[e2];simp only[aj.key,J,b2,b3,b4,aaw b6,b7]
 rw[aC9 (show ¬n.key.kind=2 from k2),aDb (show n.key.kind=3 by show n.kind=3; omega)];have aa:(n.kind==1)=false:=by simpa using k1
 have ab:(n.kind==2)=false:=by simpa using k2
 simp only[aa,ab,cond_false,aDt,aDu,aEG]at D;obtain⟨⟨⟨⟨b1,b2⟩,b3⟩,b4⟩,⟨⟨⟨c1,c2⟩,c3⟩,c4⟩,c5⟩:=D;have e0:n.dS=0:=Ep.1 (by rw[b1]; rfl);have J:n.path=[]:=aFS.1 Z;have S:n.fill=[]:=aFS.1 Z;have e4:n.stroke=[]:=aFS.1 Z;simp only[aj.key,e0,b2,b3,b4,J,c2,S,e4,QG c5,aEr]
abbrev Og{pk:Bool}{w:VO}{n m:aj}(h:n.ok w)(h':m.ok w)(S:n.checkN=0)(D:m.checkN=0)(r s:List UInt8)(e:eY pk n.key++r=eY pk m.key++s):n.key=m.key∧r=s:=by
 obtain⟨J,h2⟩:=ai9 (EK h S) (EK h' D) r s e;rw[BK S,BK D]at J;exact⟨J,h2⟩
abbrev vS{s:aA}(h:s.key.valid=true):∀n∈s.ns,n.checkN=0:=λn hn=>by
 obtain⟨-,J,D⟩:=aY.kU.1 h;rw[<-lg];exact(Bo.1 D).1 _ (aDJ.2 ⟨n,hn,I⟩)
abbrev Yx{w:VO}{s t:aA}(h:dw K w s)(h':dw K w t)(hv:s.key.valid=true)(D:t.key.valid=true)(r q:List UInt8)(e:dX s.key++r=dX t.key++q):s.key=t.key∧r=q:=by
 unfold dX at e;simp only[aDz]at e;have e:=List.append_cancel_left e;obtain⟨J,e⟩:=lD e ⟨h.1,h.2.1,G⟩ ⟨h'.1,h'.2.1,G⟩;obtain⟨S,e⟩:=UD _ _ _ _ e;have l1:=(rD hv).1;have l2:=(rD D).1;obtain⟨e3,e⟩:=EJ (f:=eY false) (L:=s.key.ns) (M:=t.key.ns) (by simp only[aA.key,aEh]; omega) (by simp only[aA.key,aEh]; omega) (λx hx y hy=>by
  obtain⟨n,hn,rfl⟩:=aDJ.1 hx;obtain⟨m,hm,rfl⟩:=aDJ.1 hy;exact λr s e=>Og (h.2.2.2 n hn).1 (h'.2.2.2 m hm).1 (vS hv n hn) (vS D m hm) r s e) _ _ e
 simp only[aDP,and_true]at J;obtain⟨D,e5⟩:=J;refine⟨?_,e⟩;generalize s.key=x at *;generalize t.key=y at *;cases x; cases y;simp only at S e3 D e5;rw[S,e3,D,e5]
end Go.Proofs.Vy
namespace Go.Sx
open Go.Proofs Go.Proofs.Vy Go.RowKit Go.Rel Go.Sx
section
variable{P:Program}{ops:Array Oper}{Q:Exit->Act->VO->Prop}{w0 w:VO}{a:Act}{os:List Oper}{n:Nat}{l:List (Nat×aaT)}{bl:List (Nat×List aaT)}{vs:List fE}
abbrev apU(S:St w0 a w n l bl vs)(k:Nat){f:FuncId}{args:Array aaT}{b:Nat}{A:List aaT}(d:Option Nat){R:Ending->VO->Prop}(hk:bl[k]?=some (b,A))(hc:abB P f args w R)
  (next:∀e w',R e w'->∃v A',e = .R v∧Ext w0 w'∧Ch b w w'∧Bx w' b (List.toArray A')∧∀D,St w0 D w' n (zL l d v) (bl.set k (b,A')) vs->wpList P ops Q (os.drop 1) D w')
  (D:callOf P os l=some (f,args,d):=by kernel_rfl) (hd:uO n d=true:=by rfl):wpList P ops Q os a w:=by
 cases os with
 | nil=>cases D
 | cons o os =>
  unfold callOf at D;simp only at D;split at D
  .rename_i f' args' hg hav hev;simp only[aDe,aDm]at D;obtain⟨rfl,rfl,rfl⟩:=D;simp only[aDX]at hav;have J:(execOp a.eval o).run P w = .ok (.enter f' args') w:=lM (Std.act a) (gX (bZ S.s) o) (p:=[]) I hav.1 (by simpa using hav.2) hev;unfold wpList;rw[aDb (by simp[Region.wanted,hg])];left;unfold Oper.wp;rw[J];simp only[Oper.upon];refine hc.mono λe w' J=>?_;obtain⟨v,A',rfl,hE,hC,hX,hn⟩:=next e w' J;exact hn _ ((S.ch hC hk hX hE).act (uh S.s hd v))
  cases D
end
section
variable{P:Program}{B:Exit->Act->VO->Prop}{n:Nat}{w0 w:VO}{a:Act}{bl:List (Nat×List aaT)}{vs:List fE}{z:Zt}
abbrev aV(S:St w0 a w n z.l bl vs)(k:Nat){f:FuncId}{args:Array aaT}{b:Nat}{A:List aaT}{R:Ending->VO->Prop}(aa:bl[k]?=some (b,A))(hc:abB P f args w R)
  (next:∀e w',R e w'->∃v D,e = .R v∧Ext w0 w'∧Ch b w w'∧Bx w' b (List.toArray D)∧∀{a'},St w0 a' w' n (wR v (zN P n z)).l (bl.set k (b,D)) vs->Gz P B (wR v (zN P n z)) a' w')
  (hx:callOf P (pG (zN P n z)) (zN P n z).l=some (f,args,mg (zN P n z)):=by kernel_rfl) (J:(uF (zN P n z)&&uO n (mg (zN P n z)))=true:=by kernel_rfl):Gz P B z a w:=by
 simp only[aDt]at J;refine uG S λS=>zop J.1 (apU S k _ aa hc (λe w' hR=>?_) hx J.2);obtain⟨v,D,h1,h2,h4,h5,h3⟩:=next e w' hR;exact⟨v,D,h1,h2,h4,h5,λa' S'=>JJ (m:=1) (l:=[]) J.1 (h3 S')⟩
end
end Go.Sx
namespace Go.Proofs.Vy
open Go.RowKit En Go.Sx
variable{α β:Type}{K:Nat}
def Got(f:α->List UInt8)(ok:α->Prop)(l:List UInt8)(p:Nat)(bad:Bool)(p':Nat)(D:Bool)(x:α):Prop:=∀y r,ok y->bad=false->l.drop p=f y++r->x=y∧D=false∧l.drop p'=r
def aja(l:List UInt8)(p:Nat)(bad:Bool)(p':Nat)(D:Bool)(k:Nat):Prop:=∀n r,n<18446744073709551616->n<=r.length->bad=false->l.drop p=dY 10 n++r->k=n∧D=false∧l.drop p'=r
variable{p p1 p2:Nat}{bad b1 b2:Bool}{r:List UInt8}{v:Int}
abbrev DN{l B:List UInt8}(h:l.drop p=B++r):l.drop (p+B.length)=r:=by rw[<-aFd,h,aFT]
abbrev QH{l B:List UInt8}(h:l.drop p=B++r)(hB:0<B.length):p<l.length:=by
 rcases aD7 p l.length with D | D
 .exact D
 rw[aEB D]at h;have:=aDc List.length h;simp at this; omega
abbrev aax{l:List UInt8}{n:Nat}(h:l.drop p=dY 10 n++r)(hn:n<18446744073709551616):yV l (p:Int)=(n,p+(dY 10 n).length,0):=by
 have D:=QH h (Dt 9 n);rw[Px.Ym (aFc D),h,oV n r hn]
abbrev ajb{l:List UInt8}:Got iB I64 l p bad (riP l p bad) (riB l p bad) (riV l p bad):=λy r D J h=>by
 subst J;have J:=aax h (Qa D.1 D.2);have D:vat l (p:Int)=(y,p+(iB y).length,0):=by
  unfold vat;rw[J,Eu]
 obtain⟨-,J,S,q3⟩:=akS (bad:=false) D I;rw[J,S,q3];exact⟨I,I,DN h⟩
abbrev acj{l:List UInt8}:aja l p bad (rcP l p bad) (rcB l p bad) (rcV l p bad):=λn r hn J D h=>by
 subst D;have D:=aax h hn;have hd:=DN h;have hl:n<=l.length-(p+(dY 10 n).length):=by have:=aDc List.length hd; simp at this; omega
 obtain⟨J,S,q3⟩:=akT D ⟨I,I,hl⟩;rw[J,S,q3];exact⟨I,I,hd⟩
abbrev UF{l:List UInt8}{n:Nat}{B:List UInt8}(hB:B.length=n)(hn:0<n)(D:bad=false)(h:l.drop p=B++r):Yi l p bad n=B∧Gx l p bad n=false∧l.drop (tkP l p bad n)=r:=by
 subst D hB;have D:=QH h hn;have D:p+B.length<=l.length:=by
  have:=aDc List.length h;simp at this; omega
 have D:Gx l p false B.length=false:=by unfold Gx; simp; omega
 obtain⟨-,-,J,S⟩:=JC D;rw[J,S];exact⟨by rw[h]; simp,D,DN h⟩
def jv(f:α->List UInt8)(ok:α->Prop)(l:List UInt8)(p:Nat)(bad:Bool)(m p':Nat)(D:Bool)(A03:List α):Prop:=∀ys r,ys.length=m->(∀y∈ys,ok y)->bad=false->l.drop p=ys.flatMap f++r->A03=ys∧D=false∧l.drop p'=r
abbrev jv.nil{f:α->List UInt8}{ok:α->Prop}{l:List UInt8}{p:Nat}{bad:Bool}:jv f ok l p bad 0 p bad []:=λys r hl hk D h=>by
 obtain rfl:=aFS.1 hl;exact⟨I,D,h⟩
abbrev jv.snoc{f:α->List UInt8}{ok:α->Prop}{l:List UInt8}{p p1 p2 m:Nat}{bad b1 b2:Bool}{A03:List α}{x:α}(h:jv f ok l p bad m p1 b1 A03)(k:Got f ok l p1 b1 p2 b2 x):jv f ok l p bad (m+1) p2 b2 (A03++[x]):=λys r hl hk D e=>by
 obtain⟨zs,z,rfl⟩:∃zs z,ys=zs++[z]:=⟨ys.dropLast,ys.getLast (by intro e; subst e; cases hl),(List.dropLast_concat_getLast _).symm⟩;rw[aED,aDz]at e;obtain⟨rfl,S,h3⟩:=h zs _ (by simpa using hl) (λy J=>hk y (aFu _ J)) D e;obtain⟨rfl,D,J⟩:=k z r (hk z Y) S (by rw[h3]; simp);exact⟨I,D,J⟩
abbrev K03{f:α->List UInt8}{ok:α->Prop}{l:List UInt8}{p p1 p2 k m:Nat}{bad b2:Bool}{A03 D:List α}(h:jv f ok l p bad k p1 true A03)(hk:k<=m):jv f ok l p bad m p2 b2 D:=λys r hl D J e=>by
 exfalso;rw[<-aEH k ys,aED,aDz]at e;have:=(h (ys.take k) _ (by simp; omega) (λy S=>D y (aEJ S)) J e).2.1;cases this
abbrev K02{f:α->List UInt8}{ok:α->Prop}{l:List UInt8}{p p1 p2 k:Nat}{bad b1 b2:Bool}{A03:List α}(hc:aja l p bad p1 b1 k)(h:jv f ok l p1 b1 k p2 b2 A03)(hf:∀x,0<(f x).length):Got (iK f) (λys=>ys.length<18446744073709551616∧∀y∈ys,ok y) l p bad p2 b2 A03:=λys r D S e=>by
 unfold iK at e;rw[aDz]at e;have J:ys.length<=(ys.flatMap f).length:=by
  clear e D;induction ys with
  | nil=>simp
  | cons y ys ih=>have:=hf y; rw[aEn,aDg,aDU]; omega
 obtain⟨rfl,J,h3⟩:=hc ys.length _ D.1 (by rw[aDg]; omega) S e;exact h ys r I D.2 J h3
abbrev lY(x:Int)(L:List Int):dZ (x::L)=iB x++dZ L:=rfl
abbrev uH(x:Int):dZ [x]=iB x:=by rw[lY]; exact aEk _
abbrev JK(x:Int):0<(iB x).length:=Dt 9 _
def Yy(p:kL):List UInt8:=dZ [p.x,p.y]
abbrev amV{l:List UInt8}{x y:Int}(h1:Got iB I64 l p bad p1 b1 x)(h2:Got iB I64 l p1 b1 p2 b2 y):Got Yy kL.ok l p bad p2 b2 ⟨x,y⟩:=λz r D J e=>by
 unfold Yy at e;rw[lY,uH,aDz]at e;obtain⟨S,c1,e⟩:=h1 _ _ D.1 J e;obtain⟨J,c2,e⟩:=h2 _ _ D.2 c1 e;exact⟨by rw[S,J],c2,e⟩
abbrev Oh(s:dM):lF s=iB s.verb++(Yy s.a++(Yy s.b++Yy s.c)):=by
 unfold lF Yy; simp only[lY,aDz]; rfl
abbrev ajc{l:List UInt8}{p3 p4:Nat}{b3 b4:Bool}{x y z:kL}(h1:Got iB I64 l p bad p1 b1 v)(h2:Got Yy kL.ok l p1 b1 p2 b2 x)(h3:Got Yy kL.ok l p2 b2 p3 b3 y)(h4:Got Yy kL.ok l p3 b3 p4 b4 z):Got lF dM.ok l p bad p4 b4 ⟨v,x,y,z⟩:=λs r D J e=>by
 rw[Oh]at e;simp only[aDz]at e;obtain⟨S,c,e⟩:=h1 _ _ D.1 J e;obtain⟨J,c,e⟩:=h2 _ _ D.2.1 c e;obtain⟨e3,c,e⟩:=h3 _ _ D.2.2.1 c e;obtain⟨e4,c,e⟩:=h4 _ _ D.2.2.2 c e;exact⟨by rw[S,J,e3,e4],c,e⟩
abbrev JL(s:dM):0<(lF s).length:=by rw[Oh,aDg]; have:=JK s.verb; omega
abbrev afN{l:List UInt8}{q:bJ}(h1:Got iB I64 l p bad p1 b1 v)(h2:Got Px.pb (λ_=>True) l p1 b1 p2 b2 q):Got jG dK.ok l p bad p2 b2 ⟨v,q⟩:=λs r D J e=>by
 unfold jG at e;rw[uH,aDz]at e;obtain⟨S,c,e⟩:=h1 _ _ D J e;obtain⟨D,c,e⟩:=h2 _ _ G c e;exact⟨by rw[S,D],c,e⟩
abbrev acn(s:dK):0<(jG s).length:=by unfold jG; rw[aDg,uH]; have:=JK s.o; omega
end Go.Proofs.Vy
namespace Go.Proofs.Vy
open Go.RowKit Go.Sx
variable{α:Type}{K:Nat}
def MN(w0 w w':VO)(b:Nat)(a:Option aGk)(l:List UInt8)(cap:Nat)(pk:Bool)(p':Nat)(D:Bool):Prop:=p'<=l.length∧Ext w0 w'∧Ch b w w'∧Bx w' b #[.s a l.length cap,.i p',.b D,.b pk]
variable{b p cap:Nat}{bad:Bool}{q:bJ}
abbrev jH{w0 w:VO}{a:Option aGk}{pk:Bool}{l:List UInt8}(hE:Ext w0 w)(hx:Bx w b #[.s a l.length cap,.i p,.b bad,.b pk])(hb:w0.heap.size<=b)(h:jO w0 (.s a l.length cap) l)(J:p<=l.length) :
  abB prog 77 #[.q b 0] w λe w'=>∃x p' D,e = .R (.i x)∧I64 x∧Got iB I64 l p bad p' D x∧MN w0 w w' b a l cap pk p' D:=
 (ach hE hx hb h J).mono λe w' ⟨D,S,h3,h4⟩=>⟨_,_,_,D,by unfold riV; split; (exact⟨by decide,by decide⟩); exact afJ,ajb,amM J,S,h3,h4⟩
abbrev vT{w0 w:VO}{a:Option aGk}{pk:Bool}{l:List UInt8}(hE:Ext w0 w)(hx:Bx w b #[.s a l.length cap,.i p,.b bad,.b pk])(hb:w0.heap.size<=b)(h:jO w0 (.s a l.length cap) l)(J:p<=l.length) :
  abB prog 80 #[.q b 0] w λe w'=>∃(k:Nat) (p':Nat) (D:Bool),e = .R (.i k)∧k<=l.length∧aja l p bad p' D k∧MN w0 w w' b a l cap pk p' D:=
 (Uz hE hx hb h J).mono λe w' ⟨D,S,h3,h4⟩=>⟨_,_,_,D,amP,acj,amO J,S,h3,h4⟩
abbrev ajd{D:bJ}(h:Px.pb q=Px.pb D):q=D:=(Px.XI (x:=[]) (y:=[]) (by rw[h])).1
abbrev afO{l:List UInt8}(hq:Px.pb q=Yi l p bad 4):Got Px.pb (λ_=>True) l p bad (tkP l p bad 4) (Gx l p bad 4) q:=λy r _ D e=>by
 obtain⟨J,S,h3⟩:=UF (n:=4) I O D e;exact⟨ajd (hq.trans J),S,h3⟩
abbrev Ho{w0 w:VO}{a:Option aGk}{pk:Bool}{l:List UInt8}(hE:Ext w0 w)(hx:Bx w b #[.s a l.length cap,.i p,.b bad,.b pk])(hb:w0.heap.size<=b)(h:jO w0 (.s a l.length cap) l)(J:p<=l.length) :
  abB prog 78 #[.q b 0] w λe w'=>∃q p' D,e = .R (.agg (bJ.cells q).toArray)∧Got Px.pb (λ_=>True) l p bad p' D q∧MN w0 w w' b a l cap pk p' D:=
 (FK hE hx hb h J).mono λe w' ⟨q,D,S,h2,h3,h4⟩=>⟨_,_,_,D,afO S,Yj J,h2,h3,h4⟩
abbrev aje{w0 w:VO}{a:Option aGk}{pk:Bool}{l:List UInt8}(hE:Ext w0 w)(hx:Bx w b #[.s a l.length cap,.i p,.b bad,.b pk])(hb:w0.heap.size<=b)(h:jO w0 (.s a l.length cap) l)(J:p<=l.length) :
  abB prog 171 #[.q b 0] w λe w'=>∃q p' D,e = .R (.agg (bJ.cells q).toArray)∧Got Px.pb (λ_=>True) l p bad p' D q∧MN w0 w w' b a l cap pk p' D:=
 (Uu hE hx hb h J).mono λe w' ⟨q,D,S,h2,h3,h4⟩=>⟨_,_,_,D,afO S,Yj J,h2,h3,h4⟩
def kH(base:Nat)(v:aaT):Prop:=∀g,v.ownBlock=some g->base<=g
abbrev kH.step{base:Nat}{w0 u D:VO}{bl:List (Nat×List aaT)}{r r':Sx.Row}(S:kH base r.v)(R':Rw w0 D bl [r'])(A03:Sx.Stp (Ob bl [r]) u (Ob bl [r']) D)(J:base<=u.heap.size):kH base r'.v:=λg D=>by
 have J:g∈Ob bl [r']:=jM aDq D;rcases A03.new g J with h | h
 .unfold Ob at h;rcases aDT.1 h with h | h
  .exfalso;have J:=R'.apart;unfold Ob at J;have hd:=(aEL.1 J).2.2 g h g (aEQ.2 ⟨r',aDq,D⟩);exact hd I
  obtain⟨s,D,J⟩:=aEQ.1 h;obtain rfl:=aDK.1 D;exact S g J
 omega
abbrev kH.own{base B k n:Nat}{w:VO}{e:TypeId}{v:aaT}{xs:List aaT}(hf:kH base v)(h:w.ownsRow B e k v n xs):w.ownsRow base e k v n xs:=by
 obtain⟨J,h | ⟨g,cap,D,rfl,h2,S,h4⟩⟩:=h
 .exact⟨J,.inl h⟩
 exact⟨J,.inr ⟨g,cap,D,I,hf g I,S,h4⟩⟩
abbrev EL{w u D:VO}{bl:List (Nat×List aaT)}{r:Sx.Row}{A05:List Nat}(h:Ch b w u)(A03:Sx.Stp (Ob bl [r]) u A05 D)(J:∀p∈bl,p.1=b∨w.heap.size<=p.1)(hf:kH w.heap.size r.v):Ch b w D:=
 ⟨A03.fr.os.trans h.os,A03.fr.tape.trans h.tape,A03.fr.output.trans h.output,aDy h.size A03.fr.size,λi S hn=>(A03.fr.block i (aDL S h.size) (λD=>by
  unfold Ob at D
  rcases aDT.1 D with D | D
  .obtain⟨p,hp,rfl⟩:=aDJ.1 D
   rcases J p hp with e | e
   .exact hn (by rw[e])
   .omega
  .obtain⟨s,hs,he⟩:=aEQ.1 D
   obtain rfl:=aDK.1 hs
   have:=hf i he; omega)).trans (h.block i S hn)⟩
abbrev EM{w0 w:VO}{bl:List (Nat×List aaT)}{e:TypeId}{k:Nat}(R:Rw w0 w bl []):Rw w0 w bl [⟨e,k,.sn,0,[]⟩]:=
 ⟨λr D=>by obtain rfl:=aDK.1 D; exact⟨by simp,.inl ⟨I,I⟩⟩,R.lt,R.apart⟩
abbrev kH.nil(base:Nat):kH base (.sn):=λg h=>by cases h
abbrev DR{w0 w:VO}{a:Option aGk}{pk:Bool}{l:List UInt8}(J:Ext w0 w)(hx:Bx w b #[.s a l.length cap,.i p,.b bad,.b pk])(hb:w0.heap.size<=b)(h:jO w0 (.s a l.length cap) l)(hp:p<=l.length) :
  abB prog 165 #[.q b 0] w λe w'=>∃(x:kL) (p':Nat) (D:Bool),e = .R (.agg #[.i x.x,.i x.y])∧x.ok∧Got Yy kL.ok l p bad p' D x∧MN w0 w w' b a l cap pk p' D:=by
 skip;refine aC5 func165 ntmps165 J hx hb λS=>aCF S (λu b2 E3 D S=>?_);have S:=S.fl;have D:=(((Ch.trans (Ch.refl b w) (Ch.aT E3)))).size;refine Sx.aV S 1 I (jH S.E (S.bx 1) (S.old 1) h hp) ?_;rintro e u ⟨x6,p6,d6,rfl,i6,g6,D,Yk,J,Yl⟩;refine⟨_,_,I,Yk,J,Yl,λS=>?_⟩;have ac:=J.size;have N8:=(aK ((Ch.trans (Ch.refl b w) (Ch.aT E3))) J);have S:=S.fl;have J:=(N8).size;refine Sx.aV S 1 I (jH S.E (S.bx 1) (S.old 1) h D) ?_;rintro e u ⟨x9,p9,d9,rfl,i9,g9,J,aa,D,ab⟩;refine⟨_,_,I,aa,D,ab,λS=>?_⟩;have ae:=D.size;have Yz:=(aK N8 D);refine aCH S 0 I (λu D S=>?_);have Dc:=(aK Yz D);refine aCU S 0 I (v := .agg #[.i x6,.i x9]) (λS=>?_);exact⟨⟨x6,x9⟩,_,_,I,⟨i6,i9⟩,amV g6 g9,J,S.E,Dc,S.kD 1⟩
abbrev apV{w0 w:VO}{a:Option aGk}{pk:Bool}{l:List UInt8}(J:Ext w0 w)(hx:Bx w b #[.s a l.length cap,.i p,.b bad,.b pk])(hb:w0.heap.size<=b)(h:jO w0 (.s a l.length cap) l)(hp:p<=l.length) :
  abB prog 119 #[.q b 0] w λe w'=>∃(x:dM) (p':Nat) (D:Bool),e = .R (.agg x.cells.toArray)∧x.ok∧Got lF dM.ok l p bad p' D x∧MN w0 w w' b a l cap pk p' D:=by
 skip;refine aC5 func119 ntmps119 J hx hb λS=>aCF S (λu b2 E3 D S=>?_);have S:=S.fl;have D:=(((Ch.trans (Ch.refl b w) (Ch.aT E3)))).size;refine Sx.aV S 1 I (jH S.E (S.bx 1) (S.old 1) h hp) ?_;rintro e u ⟨x6,p6,d6,rfl,i6,g6,J,Yk,D,Yl⟩;refine⟨_,_,I,Yk,D,Yl,λS=>?_⟩;have aq:=D.size;have N8:=(aK ((Ch.trans (Ch.refl b w) (Ch.aT E3))) D);refine aCF S λu b8 E9 D S=>aCH S 0 I (λu D S=>?_);have qC:=aCI E9 D;have S:=S.fl;have D:=(((Ch.trans N8 (Ch.aT qC)))).size;refine Sx.aV S 2 I (DR S.E (S.bx 2) (S.old 2) h J) ?_;rintro e u ⟨D,ax,ay,rfl,ae,af,YA,J,JM,ag⟩;refine⟨_,_,I,J,JM,ag,λS=>?_⟩;have J:=JM.size;have pV:=(aK ((Ch.trans N8 (Ch.aT qC))) JM);have S:=S.fl;have J:=(pV).size;refine Sx.aV S 2 I (DR S.E (S.bx 2) (S.old 2) h YA) ?_;rintro e u ⟨J,az,a3,rfl,ah,ai,al,am,aa,an⟩;refine⟨_,_,I,am,aa,an,λS=>?_⟩;have ar:=aa.size;have wM:=(aK pV aa);have S:=S.fl;have av:=(wM).size;refine Sx.aV S 2 I (DR S.E (S.bx 2) (S.old 2) h al) ?_;rintro e u ⟨ab,a4,a5,rfl,ao,ap,QI,QJ,vU,QK⟩;refine⟨_,_,I,QJ,vU,QK,λS=>?_⟩;have aw:=vU.size;have oG:=(aK wM vU);refine aCH S 0 I (λu Ag S=>?_);have sW:=(aK oG Ag);refine aCH S 0 I (λu ac S=>?_);have JO:=(aK sW ac);refine aCH S 0 I (λu PO S=>?_);have ED:=(aK JO PO);refine adr S 1 [] [.M 0 0] λS=>aCH S 1 I (λu XW S=>?_);have S:=S.fl;have Em:=(aK ED XW);refine aCU S 1 I (v := .agg #[.i x6,.i D.x,.i D.y,.i J.x,.i J.y,.i ab.x,.i ab.y]) (λS=>?_);exact⟨⟨x6,D,J,ab⟩,_,_,I,⟨i6,ae,ah,ao⟩,ajc g6 af ai ap,QI,S.E,Em,S.kD 2⟩
abbrev amX{w0 w:VO}{a:Option aGk}{pk:Bool}{l:List UInt8}(J:Ext w0 w)(hx:Bx w b #[.s a l.length cap,.i p,.b bad,.b pk])(hb:w0.heap.size<=b)(h:jO w0 (.s a l.length cap) l)(hp:p<=l.length) :
  abB prog 167 #[.q b 0] w λe w'=>∃(x:dK) (p':Nat) (D:Bool),e = .R (.agg x.cells.toArray)∧x.ok∧Got jG dK.ok l p bad p' D x∧MN w0 w w' b a l cap pk p' D:=by
 skip;refine aC5 func167 ntmps167 J hx hb λS=>aCF S (λu b2 E3 D S=>?_);have S:=S.fl;have D:=(((Ch.trans (Ch.refl b w) (Ch.aT E3)))).size;refine Sx.aV S 1 I (jH S.E (S.bx 1) (S.old 1) h hp) ?_;rintro e u ⟨x6,p6,d6,rfl,i6,g6,D,Yk,J,Yl⟩;refine⟨_,_,I,Yk,J,Yl,λS=>?_⟩;have ac:=J.size;have N8:=(aK ((Ch.trans (Ch.refl b w) (Ch.aT E3))) J);have S:=S.fl;have J:=(N8).size;refine Sx.aV S 1 I (Ho S.E (S.bx 1) (S.old 1) h D) ?_;rintro e u ⟨q9,p9,d9,rfl,g9,J,aa,D,ab⟩;refine⟨_,_,I,aa,D,ab,λS=>?_⟩;have ae:=D.size;have Yz:=(aK N8 D);refine aCH S 0 I (λu D S=>?_);have Dc:=(aK Yz D);refine aCU S 0 I (v := .agg (Sx.L [.i x6]++q9.cells).toArray) (λS=>?_);exact⟨⟨x6,q9⟩,_,_,I,i6,afN g6 g9,J,S.E,Dc,S.kD 1⟩
abbrev aay{w0 w:VO}{a:Option aGk}{pk:Bool}{l:List UInt8}(hE:Ext w0 w)(J:Bx w b #[.s a l.length cap,.i p,.b bad,.b pk])(hb:w0.heap.size<=b)(h:jO w0 (.s a l.length cap) l)(hp:p<=l.length){n:Nat}(hn:n<=l.length)(hll:l.length<=100000000) :
  abB prog 118 #[.q b 0,.i n,.func (.func 119) #[.q b 0] #[]] w λe w'=>∃(v:aaT) (A03:List dM) (p':Nat) (D:Bool),e = .R v∧A03.length<=n∧(∀s∈A03,dM.ok s)∧bn w.heap.size (λW=>aI 7 dM.cells W v A03) w'∧jv lF dM.ok l p bad n p' D A03∧MN w0 w w' b a l cap pk p' D:=by
 skip;refine aC5 func118 ntmps118 hE J hb (λS=>?_);have R:=aDV S;have JQ:=(Ch.refl b w);refine aCZ S (ι:=Nat×aaT×List dM×Nat×Bool) (λD a' w'=>D.1<=n∧(kH w.heap.size D.2.1∧D.2.2.1.length=D.1∧(∀s∈D.2.2.1,dM.ok s)∧D.2.2.2.1<=l.length∧jv lF dM.ok l p bad D.1 D.2.2.2.1 D.2.2.2.2 D.2.2.1∧Ch b w w')∧Rw w0 w' [(b,[.s a l.length cap,.i D.2.2.2.1,.b D.2.2.2.2,.b pk])] [⟨163,7,D.2.1,D.2.2.1.length,D.2.2.1.flatMap dM.cells⟩]∧Sx.St w0 a' w' 22 [(0,.q b 0),(1,.i n),(2,.func (.func 119) #[.q b 0] #[]),(6,.sn),(7,D.2.1),(8,.i n),(9,.i D.1)] [(b,[.s a l.length cap,.i D.2.2.2.1,.b D.2.2.2.2,.b pk])] []) (λD=>n-D.1) (0,(.sn),[],p,bad) (λS=>⟨aDl _,⟨kH.nil _,I,(λx J=>by cases J),hp,jv.nil,JQ⟩,EM R,S.sn⟩) ?_;rintro⟨k,v,M,pp,dd⟩ ac u gJ dW hI;try dsimp only at hI
 obtain⟨hk,hR,R,S⟩:=hI;refine aC0 S (λS=>?_);obtain⟨aa,ah,MB,ab,hG,D⟩:=hR;refine aCD S (decide ((k:Int)<(n:Int))) (λmJ S=>?_) (λmJ S=>?_)
 .refine adr S 4 [] [.M 0 2] λS=>aCD S (dd) (λfJ S=>?_) (λfJ S=>?_)
  .refine aCB S (.sn) (λS=>?_);exact⟨_,[],_,_,I,aDl _,(λx J=>by cases J),λW _ _=>dJ _ _ _,(K03 (by rw[fJ]at hG; exact hG) hk),ab,S.E,D,S.bx 0⟩
  have S:=S.fl;have J:=(D).size;refine Sx.aV S 0 I (apV S.E (S.bx 0) (S.old 0) h ab) ?_;rintro e u ⟨DT,ai,al,rfl,am,an,MO,BL,J,JR⟩;refine⟨_,_,I,BL,J,JR,λS=>?_⟩;have ao:=J.size;have Bc:=(aK D J);refine aCJ S DT.cells (λu ae Cm wP S=>?_);obtain⟨R,ap⟩:=R.bH S (aDr (Sx.Stp.Jp J) (aEi Cm wP));have J:k<n:=by have:=aDw mJ; omega
  have yj:=((Ch.trans Bc (Ch.aT Cm)));have af:=yj.size;refine aCO S λS=>aDf S R 0 19 I akJ (oH (m:=1) (k:=7) (A:=DT.cells) (S.bx 0)) (by show M.length+1<=9223372036854775807; omega) (by show(M.length+1)*_<=140737488355328; omega) λac u J YB R S=>aCW S (λS=>?_);have ag:=kH.step (r:=⟨163,7,v,M.length,M.flatMap dM.cells⟩) aa R YB af;have JU:=EL (r:=⟨163,7,v,M.length,M.flatMap dM.cells⟩) yj YB (λp hp=>by rcases aDp.1 hp with rfl | hp; (exact .inr (by show _<=ae; omega)); rcases aDp.1 hp with rfl | hp; (exact .inl I); cases hp) aa;have S:=S.gB 1;obtain⟨R,aq⟩:=R.bH S (aEd 1);refine adr S 3 [] [.re 20 (.i (IntKind.i64.wrap ((k:Int)+1))) (.i (k+1:Nat))] (hk:=⟨aCS Z,G⟩) λS=>aCY S gJ (λS=>?_);exact dW _ _ ((k+1),J,(M++[DT]),ai,al) ⟨Z,⟨ag,by rw[aDg,ah]; rfl,(λz hz=>by rcases aDT.1 hz with hz | hz; (exact MB z hz); obtain rfl:=aDK.1 hz; exact am),MO,by exact hG.snoc an,JU⟩,R.as (show [(⟨163,7,J,M.length+1,M.flatMap dM.cells++DT.cells⟩:Sx.Row)]=[⟨163,7,J,(M++[DT]).length,(M++[DT]).flatMap dM.cells⟩] by simp),S.sn⟩ (by show _-_<_-_; omega)
 have J:k=n:=by have:=aDA mJ; omega
 refine aCB S v (λS=>?_);exact⟨_,M,_,_,I,Z,MB,jq (f:=dM.cells) (L:=M) (λ_=>I) (aa.own (R.own _ aDq)) I I,J▸hG,ab,S.E,D,S.bx 0⟩
abbrev afS{w0 w:VO}{a:Option aGk}{pk:Bool}{l:List UInt8}(hE:Ext w0 w)(J:Bx w b #[.s a l.length cap,.i p,.b bad,.b pk])(hb:w0.heap.size<=b)(h:jO w0 (.s a l.length cap) l)(hp:p<=l.length){n:Nat}(hn:n<=l.length)(hll:l.length<=100000000) :
  abB prog 166 #[.q b 0,.i n,.func (.func 167) #[.q b 0] #[]] w λe w'=>∃(v:aaT) (A03:List dK) (p':Nat) (D:Bool),e = .R v∧A03.length<=n∧(∀s∈A03,dK.ok s)∧bn w.heap.size (λW=>aI 5 dK.cells W v A03) w'∧jv jG dK.ok l p bad n p' D A03∧MN w0 w w' b a l cap pk p' D:=by
 skip;refine aC5 func166 ntmps166 hE J hb (λS=>?_);have R:=aDV S;have JQ:=(Ch.refl b w);refine aCZ S (ι:=Nat×aaT×List dK×Nat×Bool) (λD a' w'=>D.1<=n∧(kH w.heap.size D.2.1∧D.2.2.1.length=D.1∧(∀s∈D.2.2.1,dK.ok s)∧D.2.2.2.1<=l.length∧jv jG dK.ok l p bad D.1 D.2.2.2.1 D.2.2.2.2 D.2.2.1∧Ch b w w')∧Rw w0 w' [(b,[.s a l.length cap,.i D.2.2.2.1,.b D.2.2.2.2,.b pk])] [⟨202,5,D.2.1,D.2.2.1.length,D.2.2.1.flatMap dK.cells⟩]∧Sx.St w0 a' w' 22 [(0,.q b 0),(1,.i n),(2,.func (.func 167) #[.q b 0] #[]),(6,.sn),(7,D.2.1),(8,.i n),(9,.i D.1)] [(b,[.s a l.length cap,.i D.2.2.2.1,.b D.2.2.2.2,.b pk])] []) (λD=>n-D.1) (0,(.sn),[],p,bad) (λS=>⟨aDl _,⟨kH.nil _,I,(λx J=>by cases J),hp,jv.nil,JQ⟩,EM R,S.sn⟩) ?_;rintro⟨k,v,M,pp,dd⟩ ac u gJ dW hI;try dsimp only at hI
 obtain⟨hk,hR,R,S⟩:=hI;refine aC0 S (λS=>?_);obtain⟨aa,ah,MB,ab,hG,D⟩:=hR;refine aCD S (decide ((k:Int)<(n:Int))) (λmJ S=>?_) (λmJ S=>?_)
 .refine adr S 4 [] [.M 0 2] λS=>aCD S (dd) (λfJ S=>?_) (λfJ S=>?_)
  .refine aCB S (.sn) (λS=>?_);exact⟨_,[],_,_,I,aDl _,(λx J=>by cases J),λW _ _=>dJ _ _ _,(K03 (by rw[fJ]at hG; exact hG) hk),ab,S.E,D,S.bx 0⟩
  have S:=S.fl;have J:=(D).size;refine Sx.aV S 0 I (amX S.E (S.bx 0) (S.old 0) h ab) ?_;rintro e u ⟨DT,ai,al,rfl,am,an,MO,BL,J,JR⟩;refine⟨_,_,I,BL,J,JR,λS=>?_⟩;have ao:=J.size;have Bc:=(aK D J);refine aCJ S DT.cells (λu ae Cm wP S=>?_);obtain⟨R,ap⟩:=R.bH S (aDr (Sx.Stp.Jp J) (aEi Cm wP));have J:k<n:=by have:=aDw mJ; omega
  have yj:=((Ch.trans Bc (Ch.aT Cm)));have af:=yj.size;refine aCO S λS=>aDf S R 0 19 I afm (oH (m:=1) (k:=5) (A:=DT.cells) (S.bx 0)) (by show M.length+1<=9223372036854775807; omega) (by show(M.length+1)*_<=140737488355328; omega) λac u J YB R S=>aCW S (λS=>?_);have ag:=kH.step (r:=⟨202,5,v,M.length,M.flatMap dK.cells⟩) aa R YB af;have JU:=EL (r:=⟨202,5,v,M.length,M.flatMap dK.cells⟩) yj YB (λp hp=>by rcases aDp.1 hp with rfl | hp; (exact .inr (by show _<=ae; omega)); rcases aDp.1 hp with rfl | hp; (exact .inl I); cases hp) aa;have S:=S.gB 1;obtain⟨R,aq⟩:=R.bH S (aEd 1);refine adr S 3 [] [.re 20 (.i (IntKind.i64.wrap ((k:Int)+1))) (.i (k+1:Nat))] (hk:=⟨aCS Z,G⟩) λS=>aCY S gJ (λS=>?_);exact dW _ _ ((k+1),J,(M++[DT]),ai,al) ⟨Z,⟨ag,by rw[aDg,ah]; rfl,(λz hz=>by rcases aDT.1 hz with hz | hz; (exact MB z hz); obtain rfl:=aDK.1 hz; exact am),MO,by exact hG.snoc an,JU⟩,R.as (show [(⟨202,5,J,M.length+1,M.flatMap dK.cells++DT.cells⟩:Sx.Row)]=[⟨202,5,J,(M++[DT]).length,(M++[DT]).flatMap dK.cells⟩] by simp),S.sn⟩ (by show _-_<_-_; omega)
 have J:k=n:=by have:=aDA mJ; omega
 refine aCB S v (λS=>?_);exact⟨_,M,_,_,I,Z,MB,jq (f:=dK.cells) (L:=M) (λ_=>I) (aa.own (R.own _ aDq)) I I,J▸hG,ab,S.E,D,S.bx 0⟩
abbrev amY{w0 w:VO}{a:Option aGk}{pk:Bool}{l:List UInt8}(hE:Ext w0 w)(J:Bx w b #[.s a l.length cap,.i p,.b bad,.b pk])(hb:w0.heap.size<=b)(h:jO w0 (.s a l.length cap) l)(hp:p<=l.length){n:Nat}(hn:n<=l.length)(hll:l.length<=100000000) :
  abB prog 168 #[.q b 0,.i n,.func (.func 77) #[.q b 0] #[]] w λe w'=>∃(v:aaT) (A03:List Int) (p':Nat) (D:Bool),e = .R v∧A03.length<=n∧(∀s∈A03,I64 s)∧bn w.heap.size (λW=>aI 1 (λx:Int=>[.i x]) W v A03) w'∧jv iB I64 l p bad n p' D A03∧MN w0 w w' b a l cap pk p' D:=by
 skip;refine aC5 func168 ntmps168 hE J hb (λS=>?_);have R:=aDV S;have JQ:=(Ch.refl b w);refine aCZ S (ι:=Nat×aaT×List Int×Nat×Bool) (λD a' w'=>D.1<=n∧(kH w.heap.size D.2.1∧D.2.2.1.length=D.1∧(∀s∈D.2.2.1,I64 s)∧D.2.2.2.1<=l.length∧jv iB I64 l p bad D.1 D.2.2.2.1 D.2.2.2.2 D.2.2.1∧Ch b w w')∧Rw w0 w' [(b,[.s a l.length cap,.i D.2.2.2.1,.b D.2.2.2.2,.b pk])] [⟨3,1,D.2.1,D.2.2.1.length,D.2.2.1.flatMap (λx:Int=>[.i x])⟩]∧Sx.St w0 a' w' 22 [(0,.q b 0),(1,.i n),(2,.func (.func 77) #[.q b 0] #[]),(6,.sn),(7,D.2.1),(8,.i n),(9,.i D.1)] [(b,[.s a l.length cap,.i D.2.2.2.1,.b D.2.2.2.2,.b pk])] []) (λD=>n-D.1) (0,(.sn),[],p,bad) (λS=>⟨aDl _,⟨kH.nil _,I,(λx J=>by cases J),hp,jv.nil,JQ⟩,EM R,S.sn⟩) ?_;rintro⟨k,v,M,pp,dd⟩ ac u gJ dW hI;try dsimp only at hI
 obtain⟨hk,hR,R,S⟩:=hI;refine aC0 S (λS=>?_);obtain⟨aa,ah,MB,ab,hG,D⟩:=hR;refine aCD S (decide ((k:Int)<(n:Int))) (λmJ S=>?_) (λmJ S=>?_)
 .refine adr S 4 [] [.M 0 2] λS=>aCD S (dd) (λfJ S=>?_) (λfJ S=>?_)
  .refine aCB S (.sn) (λS=>?_);exact⟨_,[],_,_,I,aDl _,(λx J=>by cases J),λW _ _=>dJ _ _ _,(K03 (by rw[fJ]at hG; exact hG) hk),ab,S.E,D,S.bx 0⟩
  have S:=S.fl;have J:=(D).size;refine Sx.aV S 0 I (jH S.E (S.bx 0) (S.old 0) h ab) ?_;rintro e u ⟨DT,ai,al,rfl,am,an,MO,BL,J,JR⟩;refine⟨_,_,I,BL,J,JR,λS=>?_⟩;have ao:=J.size;have Bc:=(aK D J);refine aCJ S [.i DT] (λu ae Cm wP S=>?_);obtain⟨R,ap⟩:=R.bH S (aDr (Sx.Stp.Jp J) (aEi Cm wP));have J:k<n:=by have:=aDw mJ; omega
  have yj:=((Ch.trans Bc (Ch.aT Cm)));have af:=yj.size;refine aCO S λS=>aDf S R 0 19 I akL (oH (m:=1) (k:=1) (A:=[.i DT]) (S.bx 0)) (by show M.length+1<=9223372036854775807; omega) (by show(M.length+1)*_<=140737488355328; omega) λac u J YB R S=>aCW S (λS=>?_);have ag:=kH.step (r:=⟨3,1,v,M.length,M.flatMap (λx:Int=>[.i x])⟩) aa R YB af;have JU:=EL (r:=⟨3,1,v,M.length,M.flatMap (λx:Int=>[.i x])⟩) yj YB (λp hp=>by rcases aDp.1 hp with rfl | hp; (exact .inr (by show _<=ae; omega)); rcases aDp.1 hp with rfl | hp; (exact .inl I); cases hp) aa;have S:=S.gB 1;obtain⟨R,aq⟩:=R.bH S (aEd 1);refine adr S 3 [] [.re 20 (.i (IntKind.i64.wrap ((k:Int)+1))) (.i (k+1:Nat))] (hk:=⟨aCS Z,G⟩) λS=>aCY S gJ (λS=>?_);exact dW _ _ ((k+1),J,(M++[DT]),ai,al) ⟨Z,⟨ag,by rw[aDg,ah]; rfl,(λz hz=>by rcases aDT.1 hz with hz | hz; (exact MB z hz); obtain rfl:=aDK.1 hz; exact am),MO,by exact hG.snoc an,JU⟩,R.as (show [(⟨3,1,J,M.length+1,M.flatMap (λx:Int=>[.i x])++[.i DT]⟩:Sx.Row)]=[⟨3,1,J,(M++[DT]).length,(M++[DT]).flatMap (λx:Int=>[.i x])⟩] by simp),S.sn⟩ (by show _-_<_-_; omega)
 have J:k=n:=by have:=aDA mJ; omega
 refine aCB S v (λS=>?_);exact⟨_,M,_,_,I,Z,MB,jq (f:=(λx:Int=>[.i x])) (L:=M) (λ_=>I) (aa.own (R.own _ aDq)) I I,J▸hG,ab,S.E,D,S.bx 0⟩
abbrev ajg{w0 w:VO}{a:Option aGk}{pk:Bool}{l:List UInt8}(J:Ext w0 w)(hx:Bx w b #[.s a l.length cap,.i p,.b bad,.b pk])(hb:w0.heap.size<=b)(h:jO w0 (.s a l.length cap) l)(hp:p<=l.length){n:Nat}(hn:n<=l.length)(hll:l.length<=100000000) :
  abB prog 170 #[.q b 0,.i n,.func (.func 171) #[.q b 0] #[]] w λe w'=>∃(v:aaT) (A03:List bJ) (p':Nat) (D:Bool),e = .R v∧A03.length<=n∧(∀s∈A03,True)∧bn w.heap.size (λW=>aI 4 bJ.cells W v A03) w'∧jv Px.pb (λ_=>True) l p bad n p' D A03∧MN w0 w w' b a l cap pk p' D:=by
 skip;refine aC5 func170 ntmps170 J hx hb (λS=>?_);have R:=aDV S;have JQ:=(Ch.refl b w);refine aCZ S (ι:=Nat×aaT×List bJ×Nat×Bool) (λD J w'=>D.1<=n∧(kH w.heap.size D.2.1∧D.2.2.1.length=D.1∧(∀s∈D.2.2.1,True)∧D.2.2.2.1<=l.length∧jv Px.pb (λ_=>True) l p bad D.1 D.2.2.2.1 D.2.2.2.2 D.2.2.1∧Ch b w w')∧Rw w0 w' [(b,[.s a l.length cap,.i D.2.2.2.1,.b D.2.2.2.2,.b pk])] [⟨178,4,D.2.1,D.2.2.1.length,D.2.2.1.flatMap bJ.cells⟩]∧Sx.St w0 J w' 22 [(0,.q b 0),(1,.i n),(2,.func (.func 171) #[.q b 0] #[]),(6,.sn),(7,D.2.1),(8,.i n),(9,.i D.1)] [(b,[.s a l.length cap,.i D.2.2.2.1,.b D.2.2.2.2,.b pk])] []) (λD=>n-D.1) (0,(.sn),[],p,bad) (λS=>⟨aDl _,⟨kH.nil _,I,(λx hx=>by cases hx),hp,jv.nil,JQ⟩,EM R,S.sn⟩) ?_;rintro⟨k,v,M,pp,dd⟩ ac u gJ dW hI;try dsimp only at hI
 obtain⟨hk,D,R,S⟩:=hI;refine aC0 S (λS=>?_);obtain⟨ab,ai,MB,ae,hG,J⟩:=D;refine aCD S (decide ((k:Int)<(n:Int))) (λmJ S=>?_) (λmJ S=>?_)
 .refine adr S 4 [] [.M 0 2] λS=>aCD S (dd) (λD S=>?_) (λD S=>?_)
  .refine aCB S (.sn) (λS=>?_);exact⟨_,[],_,_,I,aDl _,(λx hx=>by cases hx),λW _ _=>dJ _ _ _,(K03 (by rw[D]at hG; exact hG) hk),ae,S.E,J,S.bx 0⟩
  have S:=S.fl;have D:=(J).size;refine Sx.aV S 0 I (aje S.E (S.bx 0) (S.old 0) h ae) ?_;rintro e u ⟨D,al,am,rfl,an,MO,BL,pI,JR⟩;refine⟨_,_,I,BL,pI,JR,λS=>?_⟩;have ao:=pI.size;have Bc:=(aK J pI);refine aCJ S D.cells (λu af Cm wP S=>?_);obtain⟨R,aq⟩:=R.bH S (aDr (Sx.Stp.Jp pI) (aEi Cm wP));have ap:k<n:=by have:=aDw mJ; omega
  have yj:=((Ch.trans Bc (Ch.aT Cm)));have ag:=yj.size;refine aCO S λS=>aDf S R 0 19 I akK (oH (m:=1) (k:=4) (A:=D.cells) (S.bx 0)) (by show M.length+1<=9223372036854775807; omega) (by show(M.length+1)*_<=140737488355328; omega) λac u aa YB R S=>aCW S (λS=>?_);have ah:=kH.step (r:=⟨178,4,v,M.length,M.flatMap bJ.cells⟩) ab R YB ag;have JU:=EL (r:=⟨178,4,v,M.length,M.flatMap bJ.cells⟩) yj YB (λp hp=>by rcases aDp.1 hp with rfl | hp; (exact .inr (by show _<=af; omega)); rcases aDp.1 hp with rfl | hp; (exact .inl I); cases hp) ab;have S:=S.gB 1;obtain⟨R,ar⟩:=R.bH S (aEd 1);refine adr S 3 [] [.re 20 (.i (IntKind.i64.wrap ((k:Int)+1))) (.i (k+1:Nat))] (hk:=⟨aCS Z,G⟩) λS=>aCY S gJ (λS=>?_);exact dW _ _ ((k+1),aa,(M++[D]),al,am) ⟨Z,⟨ah,by rw[aDg,ai]; rfl,(λ_ _=>G),MO,by exact hG.snoc an,JU⟩,R.as (show [(⟨178,4,aa,M.length+1,M.flatMap bJ.cells++D.cells⟩:Sx.Row)]=[⟨178,4,aa,(M++[D]).length,(M++[D]).flatMap bJ.cells⟩] by simp),S.sn⟩ (by show _-_<_-_; omega)
 have D:k=n:=by have:=aDA mJ; omega
 refine aCB S v (λS=>?_);exact⟨_,M,_,_,I,Z,MB,jq (f:=bJ.cells) (L:=M) (λ_=>I) (ab.own (R.own _ aDq)) I I,D▸hG,ae,S.E,J,S.bx 0⟩
end Go.Proofs.Vy
end
abbrev aCL:=@Go.Sx.aV
