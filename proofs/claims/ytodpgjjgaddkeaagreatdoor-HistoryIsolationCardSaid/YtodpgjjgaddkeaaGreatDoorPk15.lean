/- Encodings say what was encoded. -/
import Derived.Test.YtodpgjjgaddkeaaGreatDoorPk14
set_option maxHeartbeats 9999999
open Go renaming World->E5,Value->y9,Calls->Nq,Addr->Ć
set_option maxRecDepth 100000
set_option linter.unusedVariables false
set_option linter.unusedSimpArgs false
open Go.Proofs.Tryz Go.Proofs Go.Proofs.Õ Go.RowKit Go.Rel Go.Sx
section
namespace Go.Proofs.Õ
open En
variable{α:Type}{K:Nat}
def PI(f:α->List UInt8)(x y:α):Prop:=∀r s,f x++r=f y++s->x=y∧r=s
abbrev QJ{a b:Nat}(J:a<18446744073709551616)(S:b<18446744073709551616):PI (dX 10) a b:=λr s h=>by
 have D:=pO a r J;have J:=pO b s S;rw[h,J]at D;simp only[ϖ,Ê]at D;obtain⟨rfl,-⟩:=D;exact⟨I,List.append_cancel_left h⟩
abbrev Ox{a b:Int}(D:I64 a)(J:I64 b):PI iB a b:=λr s h=>by
 obtain⟨S,h2⟩:=QJ (Qz D.1 D.2) (Qz J.1 J.2) r s h;exact⟨by rw[<-ET a,S,ET],h2⟩
theorem UF{f:α->List UInt8}:∀{L M:List α},L.length=M.length->(∀x∈L,∀y∈M,PI f x y)->PI (λl:List α=>l.flatMap f) L M
 | [],[],_,_,r,s,h=>⟨I,h⟩
 | [],_::_,hl,_,_,_,_=>by cases hl
 | _::_,[],hl,_,_,_,_=>by cases hl
 | x::L,y::M,hl,hp,r,s,h=>by
  simp only[Ķ,ç]at h
  obtain⟨rfl,S⟩:=hp x Ö y Ö _ _ h
  obtain⟨rfl,h3⟩:=UF (by simpa using hl) (λa D b J=>hp a (ļ _ D) b (ļ _ J)) r s S
  exact⟨I,h3⟩
abbrev EU{f:α->List UInt8}{L M:List α}(S:L.length<18446744073709551616)(hM:M.length<18446744073709551616)(hp:∀x∈L,∀y∈M,PI f x y):PI (iJ f) L M:=λr s h=>by
 unfold iJ at h;rw[ç,ç]at h;obtain⟨D,J⟩:=QJ S hM _ _ h;exact UF D hp r s J
abbrev lu{L M:List Int}{r s:List UInt8}(h:dY L++r=dY M++s)(S:rY L)(hM:rY M)(hl:L.length=M.length:=by rfl):L=M∧r=s:=UF hl (λx D y J=>Ox (S.all x D) (hM.all y J)) r s h
abbrev QK{l m:List UInt8}(hl:l.length<18446744073709551616)(S:m.length<18446744073709551616):PI gJ l m:=λr s h=>by
 unfold gJ at h;rw[ç,ç]at h;obtain⟨D,J⟩:=QJ hl S _ _ h;exact List.append_inj J D
abbrev ajc{p q:Bool×Nat×Nat}(hp:eY p<=256)(hq:eY q<=256):PI iy p q:=λr s h=>by
 unfold eY at hp hq;have a1:=Nb.bJ (FY (n:=p.2.1) Z);have a2:=Nb.bJ (FY (n:=p.2.2) Z);have b1:=Nb.bJ (FY (n:=q.2.1) Z);have b2:=Nb.bJ (FY (n:=q.2.2) Z);obtain⟨p0,p1,p2⟩:=p;obtain⟨q0,S,q2⟩:=q;simp only[iy,Ĵ,Ă,ç]at h a1 a2 b1 b2;obtain⟨h0,h⟩:=h;have t:=QK Z Z _ _ h;clear h;obtain⟨h1,h⟩:=t;have t:=QK Z Z _ _ h;clear h;obtain⟨h2,h⟩:=t;have D:p1=S:=by rw[<-Nb.aF p1,h1,Nb.aF]
 have J:p2=q2:=by rw[<-Nb.aF p2,h2,Nb.aF]
 have e0:p0=q0:=by cases p0<;>cases q0<;>simp at h0 |-
 exact⟨by rw[e0,D,J],h⟩
abbrev aaC{p q:Q6}(hp:p.valid=true)(J:q.valid=true):PI tY p q:=λr s h=>by
 have D:∀{q:Q6},q.valid=true->∀x∈[q.a,q.b,q.c,q.d,q.e,q.f],eY x<=256:=λ{q} J x S=>by
  unfold Q6.valid at J;simp only[Û,Þ]at J;simp only[Ù,Ź,or_false]at S;obtain⟨h1,h2,h3,h4,h5,h6⟩:=J;rcases S with rfl | rfl | rfl | rfl | rfl | rfl<;>assumption
 obtain⟨h1,h2⟩:=UF (L:=[p.a,p.b,p.c,p.d,p.e,p.f]) (M:=[q.a,q.b,q.c,q.d,q.e,q.f]) I (λx S y hy=>ajc (D hp x S) (D J y hy)) r s h;cases p; cases q;simp only[Ă,and_true]at h1;obtain⟨rfl,rfl,rfl,rfl,rfl,rfl⟩:=h1;exact⟨I,h2⟩
abbrev UG(p q:bI):PI Px.pb p q:=λr s h=>Px.Yz h
abbrev amV{a b:dL}(D:a.ok)(J:b.ok):PI lF a b:=λr s h=>by
 unfold lF at h;obtain⟨S,h2⟩:=lu h ⟨D.1,D.2.1.1,D.2.1.2,D.2.2.1.1,D.2.2.1.2,D.C,D.O,G⟩ ⟨J.1,J.2.1.1,J.2.1.2,J.2.2.1.1,J.2.2.1.2,J.C,J.O,G⟩;obtain⟨v,⟨J,ay⟩,⟨bx,D⟩,cx,cy⟩:=a;obtain⟨v',⟨D,J⟩,⟨aa,ab⟩,ac,ae⟩:=b;simp only[Ă,and_true]at S;obtain⟨rfl,rfl,rfl,rfl,rfl,rfl,rfl⟩:=S;exact⟨I,h2⟩
abbrev aaD{L M:List dL}(S:L.length<=256∧∀x∈L,x.ok)(hM:M.length<=256∧∀x∈M,x.ok):PI (iJ lF) L M:=EU Z Z λx D y J=>amV (S.2 x D) (hM.2 y J)
abbrev ajd{a b:dI}(D:a.ok)(J:b.ok):PI jC a b:=λr s h=>by
 unfold jC at h;rw[ç,ç]at h;have t:=lu h ⟨D,G⟩ ⟨J,G⟩;clear h;obtain⟨D,h⟩:=t;have t:=UG _ _ _ _ h;clear h;obtain⟨J,h⟩:=t;cases a; cases b;simp only[Ă,and_true]at D J;exact⟨by rw[D,J],h⟩
structure oW.Good (m:oW):Prop where
 w:I64 m.w
 h:I64 m.h
 n:(m.l.length:Int)=m.w*m.h
 len:m.l.length<=65536
abbrev afD{pk:Bool}{a b:oW}(J:a.Good)(S:b.Good):PI (tX pk) a b:=λr s h=>by
 unfold tX at h;rw[ç,ç]at h;have t:=lu h ⟨J.w,J.h,G⟩ ⟨S.w,S.h,G⟩;clear h;obtain⟨D,h⟩:=t;obtain⟨aw,ah,al⟩:=a;obtain⟨bw,bh,JF⟩:=b;simp only[Ă,and_true]at D;obtain⟨rfl,rfl⟩:=D;have e:al.length=JF.length:=by have D:=J.n; have h2:=S.n; simp only at D h2; omega
 have D:=J.len;have J:=S.len;simp only at D J;cases pk
 .simp only[ϝ,if_false]at h;have t:=UF e (λx _ y _=>UG x y) _ _ h;clear h;obtain⟨rfl,h⟩:=t;exact⟨I,h⟩
 simp only[if_true]at h;have D:=JC al;have D:=JC JF;have t:=QK Z Z _ _ h;clear h;obtain⟨h2,h⟩:=t;obtain rfl:=Px.aje Z Z h2;exact⟨I,h⟩
structure jo.Good (p:jo):Prop where
 kind:I64 p.kind
 p0:p.p0.ok
 p1:p.p1.ok
 bW:I64 p.bW
 stops:p.stops.length<=16∧∀s∈p.stops,s.ok
 spread:I64 p.spread
 img:p.img.Good
 cZ:I64 p.cZ
 q:p.q.valid=true
abbrev UH{pk:Bool}{a b:jo}(D:a.Good)(J:b.Good):PI (fG pk) a b:=λr s h=>by
 unfold fG at h;simp only[ç]at h;have t:=lu h ⟨D.kind,G⟩ ⟨J.kind,G⟩;clear h;obtain⟨S,h⟩:=t;have t:=UG _ _ _ _ h;clear h;obtain⟨h2,h⟩:=t;have t:=lu h ⟨D.p0.1,D.p0.2,D.p1.1,D.p1.2,D.bW,G⟩ ⟨J.p0.1,J.p0.2,J.p1.1,J.p1.2,J.bW,G⟩;clear h;obtain⟨h3,h⟩:=t;have t:=EU (by have:=D.stops.1; omega) (by have:=J.stops.1; omega) (λx hx y hy=>ajd (D.stops.2 x hx) (J.stops.2 y hy)) _ _ h;clear h;obtain⟨h4,h⟩:=t;have t:=lu h ⟨D.spread,G⟩ ⟨J.spread,G⟩;clear h;obtain⟨h5,h⟩:=t;have t:=afD D.img J.img _ _ h;clear h;obtain⟨h6,h⟩:=t;have t:=lu h ⟨D.cZ,G⟩ ⟨J.cZ,G⟩;clear h;obtain⟨h7,h⟩:=t;have t:=aaC D.q J.q _ _ h;clear h;obtain⟨D,h⟩:=t;obtain⟨k,c,⟨x0,J⟩,⟨x1,y1⟩,rd,st,sp,im,sm,q⟩:=a;obtain⟨k',c',⟨J,aa⟩,⟨ab,ac⟩,ae,af,ag,ah,ai,q'⟩:=b;simp only[Ă,and_true]at S h2 h3 h4 h5 h6 h7 D;obtain⟨rfl,rfl,rfl,rfl,rfl⟩:=h3;subst S h2 h4 h5 h6 h7 D;exact⟨I,h⟩
structure kW.Good (p:kW):Prop where
 i:I64 p.width∧I64 p.join∧I64 p.cap∧I64 p.eP∧I64 p.phase
 dash:p.dash.length<=16∧∀x∈p.dash,I64 x
abbrev amW{a b:kW}(D:a.Good)(J:b.Good):PI DL a b:=λr s h=>by
 unfold DL at h;rw[ç,ç]at h;obtain⟨a1,a2,S,a4,a5⟩:=D.i;obtain⟨b1,b2,b3,b4,b5⟩:=J.i;have t:=lu h ⟨a1,a2,S,a4,a5,G⟩ ⟨b1,b2,b3,b4,b5,G⟩;clear h;obtain⟨S,h⟩:=t;have t:=EU (by have:=D.dash.1; omega) (by have:=J.dash.1; omega) (λx hx y hy=>Ox (D.dash.2 x hx) (J.dash.2 y hy)) _ _ h;clear h;obtain⟨D,h⟩:=t;obtain⟨w,j,c,m,d,p⟩:=a;obtain⟨w',J,c',m',d',p'⟩:=b;simp only[Ă,and_true]at S D;obtain⟨rfl,rfl,rfl,rfl,rfl⟩:=S;subst D;exact⟨I,h⟩
def kW.zero:kW:=⟨0,0,0,0,[],0⟩
def oW.zero:oW:=⟨0,0,[]⟩
def aO.canon(n:aO):aO:=
 if n.kind=1 then { n with path:=[],aV:=0,fill:=[],style := .zero,stroke:=[],img := .zero,cZ:=0 }
 else if n.kind=2 then { n with dJ:=0,blend:=0,isolated:=false,dA:=false,style:=(if 0<n.stroke.length then n.style else .zero),img := .zero,cZ:=0 }
 else if n.kind=3 then { n with dJ:=0,blend:=0,isolated:=false,dA:=false,path:=[],aV:=0,fill:=[],style := .zero,stroke:=[] }
 else { n with dJ:=0,blend:=0,isolated:=false,dA:=false,path:=[],aV:=0,fill:=[],style := .zero,stroke:=[],img := .zero,cZ:=0 }
structure aO.Good (n:aO):Prop where
 i:I64 n.id∧I64 n.kind∧I64 n.depth∧I64 n.aP∧I64 n.blend∧I64 n.aV∧I64 n.cZ
 q:n.q.valid=true
 clip:n.clip.length<=256∧∀s∈n.clip,s.ok
 path:n.kind=2->n.path.length<=256∧∀s∈n.path,s.ok
 fill:n.kind=2->n.fill.length<=1∧∀p∈n.fill,p.Good
 stroke:n.kind=2->n.stroke.length<=1∧∀p∈n.stroke,p.Good
 style:n.kind=2->0<n.stroke.length->n.style.Good
 img:n.kind=3->n.img.Good
abbrev aaE{a b:Bool}(h:qw a=qw b):a=b:=by cases a<;>cases b<;>simp[qw]at h |-
abbrev ajf{pk:Bool}{a b:aO}(J:a.Good)(S:b.Good)(r s:List UInt8)(h:fA pk a++r=fA pk b++s):a.canon=b.canon∧r=s:=by
 unfold fA at h;simp only[ç]at h;obtain⟨a1,a2,D,a4,a5,a6,a7⟩:=J.i;obtain⟨b1,b2,b3,b4,b5,b6,b7⟩:=S.i;have t:=lu h ⟨a1,a2,D,G⟩ ⟨b1,b2,b3,G⟩;clear h;obtain⟨D,h⟩:=t;have t:=aaC J.q S.q _ _ h;clear h;obtain⟨h2,h⟩:=t;have t:=aaD J.clip S.clip _ _ h;clear h;obtain⟨h3,h⟩:=t;have t:=lu h ⟨a4,G⟩ ⟨b4,G⟩;clear h;obtain⟨h4,h⟩:=t;obtain⟨id,kd,dp,q,cl,cr,op,bd,is,kn,pa,fr,fi,sy,st,im,sm⟩:=a;obtain⟨aa,ab,ac,q',ae,af,ag,ah,ai,al,am,an,ao,ap,aq,ar,av⟩:=b;simp only[Ă,and_true]at D h2 h3 h4;obtain⟨rfl,rfl,rfl⟩:=D;subst h2 h3 h4;unfold nV at h;unfold aO.canon;simp only at h |-;by_cases k1:kd=1
 .simp only[Á k1,ç]at h |-;simp only[Ĵ,Ģ,Ă]at h;obtain⟨h5,h⟩:=h;have t:=lu h ⟨a5,G⟩ ⟨b5,G⟩;clear h;obtain⟨D,h⟩:=t;simp only[Ă,and_true]at h D;obtain⟨h7,h8,h⟩:=h;obtain rfl:=aaE h7;obtain rfl:=aaE h8;exact⟨by rw[h5,D],h⟩
 by_cases k2:kd=2
 .simp only[UQ k1,Á k2,ç]at h |-;have t:=aaD (J.path k2) (S.path k2) _ _ h;clear h;obtain⟨h5,h⟩:=t;have t:=lu h ⟨a6,G⟩ ⟨b6,G⟩;clear h;obtain⟨D,h⟩:=t;have f1:=J.fill k2;have f2:=S.fill k2;have s1:=J.stroke k2;have s2:=S.stroke k2;have t:=EU (by have:=f1.1; omega) (by have:=f2.1; omega) (λx hx y hy=>UH (f1.2 x hx) (f2.2 y hy)) _ _ h;clear h;obtain⟨h7,h⟩:=t;have t:=EU (by have:=s1.1; omega) (by have:=s2.1; omega) (λx hx y hy=>UH (s1.2 x hx) (s2.2 y hy)) _ _ h;clear h;obtain⟨h8,h⟩:=t;have y1:=J.style k2;have y2:=S.style k2;simp only[Ă,and_true]at h5 D h7 h8 y1 y2;subst h5 D h7 h8;by_cases hs:0<st.length
  .simp only[Á hs]at h |-;have t:=amW (y1 hs) (y2 hs) _ _ h;clear h;obtain⟨rfl,h⟩:=t;exact⟨I,h⟩
  simp only[UQ hs,Ģ]at h |-;exact⟨G,h⟩
 by_cases k3:kd=3
 .simp only[UQ k1,UQ k2,Á k3,ç]at h |-;have t:=afD (J.img k3) (S.img k3) _ _ h;clear h;obtain⟨h5,h⟩:=t;have t:=lu h ⟨a7,G⟩ ⟨b7,G⟩;clear h;obtain⟨D,h⟩:=t;simp only[Ă,and_true]at h5 D;subst h5 D;exact⟨I,h⟩
 simp only[UQ k1,UQ k2,UQ k3,Ģ]at h |-;exact⟨G,h⟩
abbrev JG{w:E5}{p:ak}(h:p.ok w)(hv:p.valid=true):p.key.Good:=by
 obtain⟨J,S,D⟩:=uO hv;exact⟨h.1,h.2.1,h.D,h.C,⟨S,h.S⟩,h.U,⟨h.2.2.2.2.2.2.2.1.1,h.2.2.2.2.2.2.2.1.2.1,D.1,D.2.1⟩,h.T,J⟩
abbrev EW{w:E5}{n:aj}(h:n.ok w)(D:n.checkN=0):n.key.Good:=by
 have J:=uP D;obtain⟨h1,h2,h3,h4,h5,h6,h7,h8,h9,aa,D,ab,S,I5⟩:=h;refine⟨⟨h1,h2,h3,h6,h7,h9,I5⟩,J.q,⟨J.clip,h5.2⟩,λhk=>?_,λhk=>?_,λhk=>?_,λhk hs=>?_,λhk=>?_⟩
 .exact⟨(J.shape hk).1,h8.2⟩
 .exact⟨by simpa[aj.key]using (J.shape hk).2.1,λx hx=>by obtain⟨p,hp,rfl⟩:=ô.1 hx; exact JG (aa.2 p hp) ((J.shape hk).C p hp)⟩
 .exact⟨by simpa[aj.key]using (J.shape hk).D,λx hx=>by obtain⟨p,hp,rfl⟩:=ô.1 hx; exact JG (ab.2 p hp) ((J.shape hk).A p hp)⟩
 .exact⟨⟨D.1,D.2.1,D.D,D.C,D.2.2.2.2.2.2⟩,(J.shape hk).J (by simpa[aj.key]using hs),D.S⟩
 have:=J.img hk;exact⟨S.1,S.2.1,this.1,this.2.1⟩
abbrev QL{p:aX}(h:p.eq aX.bare=true):p.key = .zero:=by
 unfold aX.eq aX.bare at h;simp only[Û,ß,Þ]at h;obtain⟨⟨⟨⟨⟨D,J⟩,S⟩,h4⟩,h5⟩,h6⟩:=h;unfold aX.key kW.zero;rw[D,J,S,h4,h5,h6]
abbrev aaF{m:dH}(h:m.eq dH.bare=true):m.key = .zero:=by
 unfold dH.eq dH.bare at h;simp only[Û,ß]at h;unfold dH.key oW.zero;rw[h.1,h.2.1,h.F]
abbrev BR{n:aj}(J:n.checkN=0):n.key.canon=n.key:=by
 have hL:=uP J;have D:=hL.bare;have S:=qG J;unfold aj.bare at D;unfold aO.canon;by_cases k1:n.kind=1
 .rw[Á (show n.key.kind=1 from k1)];simp only[k1,show((1:Int)==1)=true from rfl,cond_true,Û,ß]at D;obtain⟨⟨⟨⟨⟨b1,b2⟩,b3⟩,b4⟩,b5⟩,b6,b7⟩:=D;have J:n.path=[]:=Ϫ.1 Z;have S:n.fill=[]:=Ϫ.1 Z;have e4:n.stroke=[]:=Ϫ.1 Z;simp only[aj.key,J,b2,S,e4,QL b5,aaF b6,b7,ĵ]
 rw[UQ (show ¬n.key.kind=1 from k1)];by_cases k2:n.kind=2
 .rw[Á (show n.key.kind=2 from k2)];simp only[k2,show((2:Int)==1)=false from rfl,show((2:Int)==2)=true from rfl,cond_false,cond_true,Û,ß,Ŏ]at D;obtain⟨⟨⟨⟨b1,b2⟩,b3⟩,b4⟩,b6,b7⟩:=D;have J:n.dJ=0:=EH.1 (by rw[b1]; rfl);have e2:(if 0<n.key.stroke.length then n.key.style else kW.zero)=n.key.style:=by
   split
   .rfl
   rename_i hs; exact(QL (hL.sty k2 (by simpa[aj.key]using hs))).symm
  rw[e2];simp only[aj.key,J,b2,b3,b4,aaF b6,b7]
 rw[UQ (show ¬n.key.kind=2 from k2),Á (show n.key.kind=3 by show n.kind=3; omega)];have aa:(n.kind==1)=false:=by simpa using k1
 have ab:(n.kind==2)=false:=by simpa using k2
 simp only[aa,ab,cond_false,Û,ß,Ŏ]at D;obtain⟨⟨⟨⟨b1,b2⟩,b3⟩,b4⟩,⟨⟨⟨c1,c2⟩,c3⟩,c4⟩,c5⟩:=D;have e0:n.dJ=0:=EH.1 (by rw[b1]; rfl);have J:n.path=[]:=Ϫ.1 Z;have S:n.fill=[]:=Ϫ.1 Z;have e4:n.stroke=[]:=Ϫ.1 Z;simp only[aj.key,e0,b2,b3,b4,J,c2,S,e4,QL c5,ĵ]
abbrev Oy{pk:Bool}{w:E5}{n m:aj}(h:n.ok w)(h':m.ok w)(S:n.checkN=0)(D:m.checkN=0)(r s:List UInt8)(e:fA pk n.key++r=fA pk m.key++s):n.key=m.key∧r=s:=by
 obtain⟨J,h2⟩:=ajf (EW h S) (EW h' D) r s e;rw[BR S,BR D]at J;exact⟨J,h2⟩
abbrev vZ{s:aB}(h:s.key.valid=true):∀n∈s.ns,n.checkN=0:=λn hn=>by
 obtain⟨-,J,D⟩:=bG.lY.1 h;rw[<-kY];exact(EJ.1 D).1 _ (ô.2 ⟨n,hn,I⟩)
abbrev YA{w:E5}{s t:aB}(h:bQ K w s)(h':bQ K w t)(hv:s.key.valid=true)(D:t.key.valid=true)(r q:List UInt8)(e:dW s.key++r=dW t.key++q):s.key=t.key∧r=q:=by
 unfold dW at e;simp only[ç]at e;have e:=List.append_cancel_left e;obtain⟨J,e⟩:=lu e ⟨h.1,h.2.1,G⟩ ⟨h'.1,h'.2.1,G⟩;obtain⟨S,e⟩:=UG _ _ _ _ e;have l1:=(rM hv).1;have l2:=(rM D).1;obtain⟨e3,e⟩:=EU (f:=fA false) (L:=s.key.ns) (M:=t.key.ns) (by simp only[aB.key,ĭ]; omega) (by simp only[aB.key,ĭ]; omega) (λx hx y hy=>by
  obtain⟨n,hn,rfl⟩:=ô.1 hx;obtain⟨m,hm,rfl⟩:=ô.1 hy;exact λr s e=>Oy (h.N n hn).1 (h'.N m hm).1 (vZ hv n hn) (vZ D m hm) r s e) _ _ e
 simp only[Ă,and_true]at J;obtain⟨D,e5⟩:=J;refine⟨?_,e⟩;generalize s.key=x at *;generalize t.key=y at *;cases x; cases y;simp only at S e3 D e5;rw[S,e3,D,e5]
end Go.Proofs.Õ
namespace Go.Sx
section
variable{P:Program}{ops:Array Oper}{Q:Exit->Act->E5->Prop}{w0 w:E5}{a:Act}{os:List Oper}{n:Nat}{l:List (Nat×y9)}{bl:List (Nat×List y9)}{vs:List eX}
abbrev ap6(S:St w0 a w n l bl vs)(k:Nat){f:FuncId}{args:Array y9}{b:Nat}{A:List y9}(d:Option Nat){R:Ending->E5->Prop}(hk:bl[k]?=some (b,A))(hc:Nq P f args w R)
  (next:∀e w',R e w'->∃v A',e = .R v∧Ext w0 w'∧Ch b w w'∧Bx w' b (List.toArray A')∧∀D,St w0 D w' n (zS l d v) (bl.set k (b,A')) vs->wpList P ops Q (os.drop 1) D w')
  (D:callOf P os l=some (f,args,d):=by kernel_rfl) (hd:uG n d=true:=by rfl):wpList P ops Q os a w:=by
 cases os with
 | nil=>cases D
 | cons o os =>
  unfold callOf at D;simp only at D;split at D
  .rename_i f' args' hg hav hev;simp only[Æ,Ê]at D;obtain⟨rfl,rfl,rfl⟩:=D;simp only[Ĕ]at hav;have J:(execOp a.eval o).run P w = .ok (.enter f' args') w:=lN (Std.act a) (gG (bT S.s) o) (p:=[]) I hav.1 (by simpa using hav.2) hev;unfold wpList;rw[Á (by simp[Region.wanted,hg])];left;unfold Oper.wp;rw[J];simp only[Oper.upon];refine hc.mono λe w' J=>?_;obtain⟨v,A',rfl,hE,hC,hX,hn⟩:=next e w' J;exact hn _ ((S.ch hC hk hX hE).act (tC S.s hd v))
  cases D
end
section
variable{P:Program}{B:Exit->Act->E5->Prop}{n:Nat}{w0 w:E5}{a:Act}{bl:List (Nat×List y9)}{vs:List eX}{z:Zt}
abbrev aW(S:St w0 a w n z.l bl vs)(k:Nat){f:FuncId}{args:Array y9}{b:Nat}{A:List y9}{R:Ending->E5->Prop}(aa:bl[k]?=some (b,A))(hc:Nq P f args w R)
  (next:∀e w',R e w'->∃v D,e = .R v∧Ext w0 w'∧Ch b w w'∧Bx w' b (List.toArray D)∧∀{a'},St w0 a' w' n (xk v (zN P n z)).l (bl.set k (b,D)) vs->Gz P B (xk v (zN P n z)) a' w')
  (hx:callOf P (pz (zN P n z)) (zN P n z).l=some (f,args,mG (zN P n z)):=by kernel_rfl) (J:(uf (zN P n z)&&uG n (mG (zN P n z)))=true:=by kernel_rfl):Gz P B z a w:=by
 simp only[Û]at J;refine uQ S λS=>Ω J.1 (ap6 S k _ aa hc (λe w' hR=>?_) hx J.2);obtain⟨v,D,h1,h2,h4,h5,h3⟩:=next e w' hR;exact⟨v,D,h1,h2,h4,h5,λa' S'=>JH (m:=1) (l:=[]) J.1 (h3 S')⟩
end
end Go.Sx
namespace Go.Proofs.Õ
open En
variable{α β:Type}{K:Nat}
def Got(f:α->List UInt8)(ok:α->Prop)(l:List UInt8)(p:Nat)(bad:Bool)(p':Nat)(D:Bool)(x:α):Prop:=∀y r,ok y->bad=false->l.drop p=f y++r->x=y∧D=false∧l.drop p'=r
def ajg(l:List UInt8)(p:Nat)(bad:Bool)(p':Nat)(D:Bool)(k:Nat):Prop:=∀n r,n<18446744073709551616->n<=r.length->bad=false->l.drop p=dX 10 n++r->k=n∧D=false∧l.drop p'=r
variable{p p1 p2:Nat}{bad b1 b2:Bool}{r:List UInt8}{v:Int}
abbrev DR{l B:List UInt8}(h:l.drop p=B++r):l.drop (p+B.length)=r:=by rw[<-Ÿ,h,ϩ]
abbrev QM{l B:List UInt8}(h:l.drop p=B++r)(hB:0<B.length):p<l.length:=by
 rcases ĩ p l.length with D | D
 .exact D
 rw[Ō D]at h;have:=Ñ List.length h;simp at this; omega
abbrev aaG{l:List UInt8}{n:Nat}(h:l.drop p=dX 10 n++r)(hn:n<18446744073709551616):y8 l (p:Int)=(n,p+(dX 10 n).length,0):=by
 have D:=QM h (DT 9 n);rw[Px.Yp (Δ D),h,pO n r hn]
abbrev ajh{l:List UInt8}:Got iB I64 l p bad (Ϥ l p bad) (Χ l p bad) (ϰ l p bad):=λy r D J h=>by
 subst J;have J:=aaG h (Qz D.1 D.2);have D:Η l (p:Int)=(y,p+(iB y).length,0):=by
  unfold Η;rw[J,ET]
 obtain⟨-,J,S,q3⟩:=ak7 (bad:=false) D I;rw[J,S,q3];exact⟨I,I,DR h⟩
abbrev aci{l:List UInt8}:ajg l p bad (ϥ l p bad) (Θ l p bad) (Ϧ l p bad):=λn r hn J D h=>by
 subst D;have D:=aaG h hn;have hd:=DR h;have hl:n<=l.length-(p+(dX 10 n).length):=by have:=Ñ List.length hd; simp at this; omega
 obtain⟨J,S,q3⟩:=ak8 D ⟨I,I,hl⟩;rw[J,S,q3];exact⟨I,I,hd⟩
abbrev UJ{l:List UInt8}{n:Nat}{B:List UInt8}(hB:B.length=n)(hn:0<n)(D:bad=false)(h:l.drop p=B++r):Yl l p bad n=B∧GX l p bad n=false∧l.drop (ţ l p bad n)=r:=by
 subst D hB;have D:=QM h hn;have D:p+B.length<=l.length:=by
  have:=Ñ List.length h;simp at this; omega
 have D:GX l p false B.length=false:=by unfold GX; simp; omega
 obtain⟨-,-,J,S⟩:=JA D;rw[J,S];exact⟨by rw[h]; simp,D,DR h⟩
def jl(f:α->List UInt8)(ok:α->Prop)(l:List UInt8)(p:Nat)(bad:Bool)(m p':Nat)(D:Bool)(Ó:List α):Prop:=∀ys r,ys.length=m->(∀y∈ys,ok y)->bad=false->l.drop p=ys.flatMap f++r->Ó=ys∧D=false∧l.drop p'=r
abbrev jl.nil{f:α->List UInt8}{ok:α->Prop}{l:List UInt8}{p:Nat}{bad:Bool}:jl f ok l p bad 0 p bad []:=λys r hl hk D h=>by
 obtain rfl:=Ϫ.1 hl;exact⟨I,D,h⟩
abbrev jl.snoc{f:α->List UInt8}{ok:α->Prop}{l:List UInt8}{p p1 p2 m:Nat}{bad b1 b2:Bool}{Ó:List α}{x:α}(h:jl f ok l p bad m p1 b1 Ó)(k:Got f ok l p1 b1 p2 b2 x):jl f ok l p bad (m+1) p2 b2 (Ó++[x]):=λys r hl hk D e=>by
 obtain⟨zs,z,rfl⟩:∃zs z,ys=zs++[z]:=⟨ys.dropLast,ys.getLast (by intro e; subst e; cases hl),(List.dropLast_concat_getLast _).symm⟩;rw[ŀ,ç]at e;obtain⟨rfl,S,h3⟩:=h zs _ (by simpa using hl) (λy J=>hk y (ū _ J)) D e;obtain⟨rfl,D,J⟩:=k z r (hk z Y) S (by rw[h3]; simp);exact⟨I,D,J⟩
abbrev K03{f:α->List UInt8}{ok:α->Prop}{l:List UInt8}{p p1 p2 k m:Nat}{bad b2:Bool}{Ó D:List α}(h:jl f ok l p bad k p1 true Ó)(hk:k<=m):jl f ok l p bad m p2 b2 D:=λys r hl D J e=>by
 exfalso;rw[<-ň k ys,ŀ,ç]at e;have:=(h (ys.take k) _ (by simp; omega) (λy S=>D y (ŝ S)) J e).2.1;cases this
abbrev θ{f:α->List UInt8}{ok:α->Prop}{l:List UInt8}{p p1 p2 k:Nat}{bad b1 b2:Bool}{Ó:List α}(hc:ajg l p bad p1 b1 k)(h:jl f ok l p1 b1 k p2 b2 Ó)(hf:∀x,0<(f x).length):Got (iJ f) (λys=>ys.length<18446744073709551616∧∀y∈ys,ok y) l p bad p2 b2 Ó:=λys r D S e=>by
 unfold iJ at e;rw[ç]at e;have J:ys.length<=(ys.flatMap f).length:=by
  clear e D;induction ys with
  | nil=>simp
  | cons y ys ih=>have:=hf y; rw[Ķ,Å,Ē]; omega
 obtain⟨rfl,J,h3⟩:=hc ys.length _ D.1 (by rw[Å]; omega) S e;exact h ys r I D.2 J h3
abbrev l7(x:Int)(L:List Int):dY (x::L)=iB x++dY L:=rfl
abbrev uS(x:Int):dY [x]=iB x:=by rw[l7]; exact ĳ _
abbrev JI(x:Int):0<(iB x).length:=DT 9 _
def YB(p:kG):List UInt8:=dY [p.x,p.y]
abbrev amX{l:List UInt8}{x y:Int}(h1:Got iB I64 l p bad p1 b1 x)(h2:Got iB I64 l p1 b1 p2 b2 y):Got YB kG.ok l p bad p2 b2 ⟨x,y⟩:=λz r D J e=>by
 unfold YB at e;rw[l7,uS,ç]at e;obtain⟨S,c1,e⟩:=h1 _ _ D.1 J e;obtain⟨J,c2,e⟩:=h2 _ _ D.2 c1 e;exact⟨by rw[S,J],c2,e⟩
abbrev Oz(s:dL):lF s=iB s.verb++(YB s.a++(YB s.b++YB s.c)):=by
 unfold lF YB; simp only[l7,ç]; rfl
abbrev aji{l:List UInt8}{p3 p4:Nat}{b3 b4:Bool}{x y z:kG}(h1:Got iB I64 l p bad p1 b1 v)(h2:Got YB kG.ok l p1 b1 p2 b2 x)(h3:Got YB kG.ok l p2 b2 p3 b3 y)(h4:Got YB kG.ok l p3 b3 p4 b4 z):Got lF dL.ok l p bad p4 b4 ⟨v,x,y,z⟩:=λs r D J e=>by
 rw[Oz]at e;simp only[ç]at e;obtain⟨S,c,e⟩:=h1 _ _ D.1 J e;obtain⟨J,c,e⟩:=h2 _ _ D.2.1 c e;obtain⟨e3,c,e⟩:=h3 _ _ D.D c e;obtain⟨e4,c,e⟩:=h4 _ _ D.N c e;exact⟨by rw[S,J,e3,e4],c,e⟩
abbrev JJ(s:dL):0<(lF s).length:=by rw[Oz,Å]; have:=JI s.verb; omega
abbrev afE{l:List UInt8}{q:bI}(h1:Got iB I64 l p bad p1 b1 v)(h2:Got Px.pb (λ_=>True) l p1 b1 p2 b2 q):Got jC dI.ok l p bad p2 b2 ⟨v,q⟩:=λs r D J e=>by
 unfold jC at e;rw[uS,ç]at e;obtain⟨S,c,e⟩:=h1 _ _ D J e;obtain⟨D,c,e⟩:=h2 _ _ G c e;exact⟨by rw[S,D],c,e⟩
abbrev acj(s:dI):0<(jC s).length:=by unfold jC; rw[Å,uS]; have:=JI s.o; omega
end Go.Proofs.Õ
namespace Go.Proofs.Õ
variable{α:Type}{K:Nat}
def Nj(w0 w w':E5)(b:Nat)(a:Option Ć)(l:List UInt8)(cap:Nat)(pk:Bool)(p':Nat)(D:Bool):Prop:=p'<=l.length∧Ext w0 w'∧Ch b w w'∧Bx w' b #[.s a l.length cap,.i p',.b D,.b pk]
variable{b p cap:Nat}{bad:Bool}{q:bI}
abbrev jD{w0 w:E5}{a:Option Ć}{pk:Bool}{l:List UInt8}(hE:Ext w0 w)(hx:Bx w b #[.s a l.length cap,.i p,.b bad,.b pk])(hb:w0.heap.size<=b)(h:jI w0 (.s a l.length cap) l)(J:p<=l.length) :
  Nq prog 77 #[.q b 0] w λe w'=>∃x p' D,e = .R (.i x)∧I64 x∧Got iB I64 l p bad p' D x∧Nj w0 w w' b a l cap pk p' D:=
 (acg hE hx hb h J).mono λe w' ⟨D,S,h3,h4⟩=>⟨_,_,_,D,by unfold ϰ; split; (exact⟨by decide,by decide⟩); exact afy,ajh,amO J,S,h3,h4⟩
abbrev wu{w0 w:E5}{a:Option Ć}{pk:Bool}{l:List UInt8}(hE:Ext w0 w)(hx:Bx w b #[.s a l.length cap,.i p,.b bad,.b pk])(hb:w0.heap.size<=b)(h:jI w0 (.s a l.length cap) l)(J:p<=l.length) :
  Nq prog 80 #[.q b 0] w λe w'=>∃(k:Nat) (p':Nat) (D:Bool),e = .R (.i k)∧k<=l.length∧ajg l p bad p' D k∧Nj w0 w w' b a l cap pk p' D:=
 (UC hE hx hb h J).mono λe w' ⟨D,S,h3,h4⟩=>⟨_,_,_,D,amR,aci,amQ J,S,h3,h4⟩
abbrev ajj{D:bI}(h:Px.pb q=Px.pb D):q=D:=(Px.Yz (x:=[]) (y:=[]) (by rw[h])).1
abbrev afF{l:List UInt8}(hq:Px.pb q=Yl l p bad 4):Got Px.pb (λ_=>True) l p bad (ţ l p bad 4) (GX l p bad 4) q:=λy r _ D e=>by
 obtain⟨J,S,h3⟩:=UJ (n:=4) I O D e;exact⟨ajj (hq.trans J),S,h3⟩
abbrev Hz{w0 w:E5}{a:Option Ć}{pk:Bool}{l:List UInt8}(hE:Ext w0 w)(hx:Bx w b #[.s a l.length cap,.i p,.b bad,.b pk])(hb:w0.heap.size<=b)(h:jI w0 (.s a l.length cap) l)(J:p<=l.length) :
  Nq prog 78 #[.q b 0] w λe w'=>∃q p' D,e = .R (.agg (bI.cells q).toArray)∧Got Px.pb (λ_=>True) l p bad p' D q∧Nj w0 w w' b a l cap pk p' D:=
 (FX hE hx hb h J).mono λe w' ⟨q,D,S,h2,h3,h4⟩=>⟨_,_,_,D,afF S,Ym J,h2,h3,h4⟩
abbrev ajk{w0 w:E5}{a:Option Ć}{pk:Bool}{l:List UInt8}(hE:Ext w0 w)(hx:Bx w b #[.s a l.length cap,.i p,.b bad,.b pk])(hb:w0.heap.size<=b)(h:jI w0 (.s a l.length cap) l)(J:p<=l.length) :
  Nq prog 171 #[.q b 0] w λe w'=>∃q p' D,e = .R (.agg (bI.cells q).toArray)∧Got Px.pb (λ_=>True) l p bad p' D q∧Nj w0 w w' b a l cap pk p' D:=
 (Uw hE hx hb h J).mono λe w' ⟨q,D,S,h2,h3,h4⟩=>⟨_,_,_,D,afF S,Ym J,h2,h3,h4⟩
def kD(base:Nat)(v:y9):Prop:=∀g,v.ownBlock=some g->base<=g
abbrev kD.step{base:Nat}{w0 u D:E5}{bl:List (Nat×List y9)}{r r':Sx.Row}(S:kD base r.v)(R':Rw w0 D bl [r'])(Ó:Sx.Stp (Ob bl [r]) u (Ob bl [r']) D)(J:base<=u.heap.size):kD base r'.v:=λg D=>by
 have J:g∈Ob bl [r']:=jh Ö D;rcases Ó.new g J with h | h
 .unfold Ob at h;rcases ā.1 h with h | h
  .exfalso;have J:=R'.apart;unfold Ob at J;have hd:=(ŋ.1 J).F g h g (ő.2 ⟨r',Ö,D⟩);exact hd I
  obtain⟨s,D,J⟩:=ő.1 h;obtain rfl:=û.1 D;exact S g J
 omega
abbrev kD.own{base B k n:Nat}{w:E5}{e:TypeId}{v:y9}{xs:List y9}(hf:kD base v)(h:w.ownsRow B e k v n xs):w.ownsRow base e k v n xs:=by
 obtain⟨J,h | ⟨g,cap,D,rfl,h2,S,h4⟩⟩:=h
 .exact⟨J,.inl h⟩
 exact⟨J,.inr ⟨g,cap,D,I,hf g I,S,h4⟩⟩
abbrev EX{w u D:E5}{bl:List (Nat×List y9)}{r:Sx.Row}{ą:List Nat}(h:Ch b w u)(Ó:Sx.Stp (Ob bl [r]) u ą D)(J:∀p∈bl,p.1=b∨w.heap.size<=p.1)(hf:kD w.heap.size r.v):Ch b w D:=
 ⟨Ó.fr.os.trans h.os,Ó.fr.tape.trans h.tape,Ó.fr.output.trans h.output,ä h.size Ó.fr.size,λi S hn=>(Ó.fr.block i (ö S h.size) (λD=>by
  unfold Ob at D
  rcases ā.1 D with D | D
  .obtain⟨p,hp,rfl⟩:=ô.1 D
   rcases J p hp with e | e
   .exact hn (by rw[e])
   .omega
  .obtain⟨s,hs,he⟩:=ő.1 D
   obtain rfl:=û.1 hs
   have:=hf i he; omega)).trans (h.block i S hn)⟩
abbrev EY{w0 w:E5}{bl:List (Nat×List y9)}{e:TypeId}{k:Nat}(R:Rw w0 w bl []):Rw w0 w bl [⟨e,k,.sn,0,[]⟩]:=
 ⟨λr D=>by obtain rfl:=û.1 D; exact⟨by simp,.inl ⟨I,I⟩⟩,R.lt,R.apart⟩
abbrev kD.nil(base:Nat):kD base (.sn):=λg h=>by cases h
abbrev DU{w0 w:E5}{a:Option Ć}{pk:Bool}{l:List UInt8}(J:Ext w0 w)(hx:Bx w b #[.s a l.length cap,.i p,.b bad,.b pk])(hb:w0.heap.size<=b)(h:jI w0 (.s a l.length cap) l)(hp:p<=l.length) :
  Nq prog 165 #[.q b 0] w λe w'=>∃(x:kG) (p':Nat) (D:Bool),e = .R (.agg #[.i x.x,.i x.y])∧x.ok∧Got YB kG.ok l p bad p' D x∧Nj w0 w w' b a l cap pk p' D:=by
 skip;refine Ĭ func165 ntmps165 J hx hb λS=>Â S λu b2 E3 D S=>?_;have S:=S.fl;have D:=(((Ch.trans (Ch.refl b w) (Ch.aY E3)))).size;refine Sx.aW S 1 I (jD S.E (S.bx 1) (S.old 1) h hp) ?_;rintro e u ⟨x6,p6,d6,rfl,i6,g6,D,Yn,J,Yo⟩;refine⟨_,_,I,Yn,J,Yo,λS=>?_⟩;have ac:=J.size;have Oq:=(aN ((Ch.trans (Ch.refl b w) (Ch.aY E3))) J);have S:=S.fl;have J:=(Oq).size;refine Sx.aW S 1 I (jD S.E (S.bx 1) (S.old 1) h D) ?_;rintro e u ⟨x9,p9,d9,rfl,i9,g9,aa,J,D,ab⟩;refine⟨_,_,I,J,D,ab,λS=>?_⟩;have J:=D.size;have J:=(aN Oq D);refine É S 0 I λu D S=>?_;have wY:=(aN J D);refine ü S 0 I (v := .agg #[.i x6,.i x9]) λS=>?_;exact⟨⟨x6,x9⟩,_,_,I,⟨i6,i9⟩,amX g6 g9,aa,S.E,wY,S.kV 1⟩
abbrev ap7{w0 w:E5}{a:Option Ć}{pk:Bool}{l:List UInt8}(J:Ext w0 w)(hx:Bx w b #[.s a l.length cap,.i p,.b bad,.b pk])(hb:w0.heap.size<=b)(h:jI w0 (.s a l.length cap) l)(hp:p<=l.length) :
  Nq prog 119 #[.q b 0] w λe w'=>∃(x:dL) (p':Nat) (D:Bool),e = .R (.agg x.cells.toArray)∧x.ok∧Got lF dL.ok l p bad p' D x∧Nj w0 w w' b a l cap pk p' D:=by
 skip;refine Ĭ func119 ntmps119 J hx hb λS=>Â S λu b2 E3 D S=>?_;have S:=S.fl;have D:=(((Ch.trans (Ch.refl b w) (Ch.aY E3)))).size;refine Sx.aW S 1 I (jD S.E (S.bx 1) (S.old 1) h hp) ?_;rintro e u ⟨x6,p6,d6,rfl,i6,g6,J,Yn,D,Yo⟩;refine⟨_,_,I,Yn,D,Yo,λS=>?_⟩;have aq:=D.size;have Oq:=(aN ((Ch.trans (Ch.refl b w) (Ch.aY E3))) D);refine Â S λu b8 E9 D S=>É S 0 I λu D S=>?_;have rW:=È E9 D;have S:=S.fl;have D:=(((Ch.trans Oq (Ch.aY rW)))).size;refine Sx.aW S 2 I (DU S.E (S.bx 2) (S.old 2) h J) ?_;rintro e u ⟨D,ax,ay,rfl,ae,af,YC,J,JK,ag⟩;refine⟨_,_,I,J,JK,ag,λS=>?_⟩;have J:=JK.size;have oU:=(aN ((Ch.trans Oq (Ch.aY rW))) JK);have S:=S.fl;have J:=(oU).size;refine Sx.aW S 2 I (DU S.E (S.bx 2) (S.old 2) h YC) ?_;rintro e u ⟨J,az,a3,rfl,ah,ai,al,am,aa,an⟩;refine⟨_,_,I,am,aa,an,λS=>?_⟩;have ar:=aa.size;have uI:=(aN oU aa);have S:=S.fl;have av:=(uI).size;refine Sx.aW S 2 I (DU S.E (S.bx 2) (S.old 2) h al) ?_;rintro e u ⟨ab,a4,a5,rfl,ao,ap,QN,QO,wz,QS⟩;refine⟨_,_,I,QO,wz,QS,λS=>?_⟩;have aw:=wz.size;have pY:=(aN uI wz);refine É S 0 I λu yY S=>?_;have vM:=(aN pY yY);refine É S 0 I λu ac S=>?_;have JL:=(aN vM ac);refine É S 0 I λu Hr S=>?_;have BI:=(aN JL Hr);refine O1 S 1 [] [.M 0 0] λS=>É S 1 I λu X0 S=>?_;have S:=S.fl;have EF:=(aN BI X0);refine ü S 1 I (v := .agg #[.i x6,.i D.x,.i D.y,.i J.x,.i J.y,.i ab.x,.i ab.y]) λS=>?_;exact⟨⟨x6,D,J,ab⟩,_,_,I,⟨i6,ae,ah,ao⟩,aji g6 af ai ap,QN,S.E,EF,S.kV 2⟩
abbrev amZ{w0 w:E5}{a:Option Ć}{pk:Bool}{l:List UInt8}(J:Ext w0 w)(hx:Bx w b #[.s a l.length cap,.i p,.b bad,.b pk])(hb:w0.heap.size<=b)(h:jI w0 (.s a l.length cap) l)(hp:p<=l.length) :
  Nq prog 167 #[.q b 0] w λe w'=>∃(x:dI) (p':Nat) (D:Bool),e = .R (.agg x.cells.toArray)∧x.ok∧Got jC dI.ok l p bad p' D x∧Nj w0 w w' b a l cap pk p' D:=by
 skip;refine Ĭ func167 ntmps167 J hx hb λS=>Â S λu b2 E3 D S=>?_;have S:=S.fl;have D:=(((Ch.trans (Ch.refl b w) (Ch.aY E3)))).size;refine Sx.aW S 1 I (jD S.E (S.bx 1) (S.old 1) h hp) ?_;rintro e u ⟨x6,p6,d6,rfl,i6,g6,D,Yn,J,Yo⟩;refine⟨_,_,I,Yn,J,Yo,λS=>?_⟩;have ac:=J.size;have Oq:=(aN ((Ch.trans (Ch.refl b w) (Ch.aY E3))) J);have S:=S.fl;have J:=(Oq).size;refine Sx.aW S 1 I (Hz S.E (S.bx 1) (S.old 1) h D) ?_;rintro e u ⟨q9,p9,d9,rfl,g9,aa,J,D,ab⟩;refine⟨_,_,I,J,D,ab,λS=>?_⟩;have J:=D.size;have J:=(aN Oq D);refine É S 0 I λu D S=>?_;have wY:=(aN J D);refine ü S 0 I (v := .agg (Sx.L [.i x6]++q9.cells).toArray) λS=>?_;exact⟨⟨x6,q9⟩,_,_,I,i6,afE g6 g9,aa,S.E,wY,S.kV 1⟩
abbrev aaH{w0 w:E5}{a:Option Ć}{pk:Bool}{l:List UInt8}(hE:Ext w0 w)(J:Bx w b #[.s a l.length cap,.i p,.b bad,.b pk])(hb:w0.heap.size<=b)(h:jI w0 (.s a l.length cap) l)(hp:p<=l.length){n:Nat}(hn:n<=l.length)(hll:l.length<=100000000) :
  Nq prog 118 #[.q b 0,.i n,.func (.func 119) #[.q b 0] #[]] w λe w'=>∃(v:y9) (Ó:List dL) (p':Nat) (D:Bool),e = .R v∧Ó.length<=n∧(∀s∈Ó,dL.ok s)∧aU w.heap.size (λW=>aG 7 dL.cells W v Ó) w'∧jl lF dL.ok l p bad n p' D Ó∧Nj w0 w w' b a l cap pk p' D:=by
 skip;refine Ĭ func118 ntmps118 hE J hb λS=>?_;have R:=Č S;have JM:=(Ch.refl b w);refine ĉ S (ι:=Nat×y9×List dL×Nat×Bool) (λD a' w'=>D.1<=n∧(kD w.heap.size D.2.1∧D.2.2.1.length=D.1∧(∀s∈D.2.2.1,dL.ok s)∧D.2.2.2.1<=l.length∧jl lF dL.ok l p bad D.1 D.2.2.2.1 D.2.2.2.2 D.2.2.1∧Ch b w w')∧Rw w0 w' [(b,[.s a l.length cap,.i D.2.2.2.1,.b D.2.2.2.2,.b pk])] [⟨163,7,D.2.1,D.2.2.1.length,D.2.2.1.flatMap dL.cells⟩]∧Sx.St w0 a' w' 22 [(0,.q b 0),(1,.i n),(2,.func (.func 119) #[.q b 0] #[]),(6,.sn),(7,D.2.1),(8,.i n),(9,.i D.1)] [(b,[.s a l.length cap,.i D.2.2.2.1,.b D.2.2.2.2,.b pk])] []) (λD=>n-D.1) (0,(.sn),[],p,bad) (λS=>⟨Î _,⟨kD.nil _,I,(λx J=>by cases J),hp,jl.nil,JM⟩,EY R,S.sn⟩) ?_;rintro⟨k,v,M,pp,dd⟩ ac u fQ eu hI;try dsimp only at hI
 obtain⟨hk,hR,R,S⟩:=hI;refine Ċ S λS=>?_;obtain⟨aa,ah,MQ,ab,hG,D⟩:=hR;refine À S (decide ((k:Int)<(n:Int))) (λmO S=>?_) λmO S=>?_
 .refine O1 S 4 [] [.M 0 2] λS=>À S (dd) (λfJ S=>?_) (λfJ S=>?_)
  .refine Xe S (.sn) λS=>?_;exact⟨_,[],_,_,I,Î _,(λx J=>by cases J),λW _ _=>dK _ _ _,(K03 (by rw[fJ]at hG; exact hG) hk),ab,S.E,D,S.bx 0⟩
  have S:=S.fl;have J:=(D).size;refine Sx.aW S 0 I (ap7 S.E (S.bx 0) (S.old 0) h ab) ?_;rintro e u ⟨DV,ai,al,rfl,am,an,Nk,BU,J,JO⟩;refine⟨_,_,I,BU,J,JO,λS=>?_⟩;have ao:=J.size;have xG:=(aN D J);refine Ú S DV.cells λu ae Em wZ S=>?_;obtain⟨R,ap⟩:=R.aZ S (Ì (Sx.Stp.Eo J) (Ĥ Em wZ));have J:k<n:=by have:=Ý mO; omega
  have yw:=((Ch.trans xG (Ch.aY Em)));have af:=yw.size;refine è S λS=>Ń S R 0 19 I aao (oK (m:=1) (k:=7) (A:=DV.cells) (S.bx 0)) (by show M.length+1<=9223372036854775807; omega) (by show(M.length+1)*_<=140737488355328; omega) λac u J YD R S=>ÿ S λS=>?_;have ag:=kD.step (r:=⟨163,7,v,M.length,M.flatMap dL.cells⟩) aa R YD af;have JQ:=EX (r:=⟨163,7,v,M.length,M.flatMap dL.cells⟩) yw YD (λp hp=>by rcases Ù.1 hp with rfl | hp; (exact .inr (by show _<=ae; omega)); rcases Ù.1 hp with rfl | hp; (exact .inl I); cases hp) aa;have S:=S.gK 1;obtain⟨R,aq⟩:=R.aZ S (ĥ 1);refine O1 S 3 [] [kS 20 k] (hk:=⟨ù Z,G⟩) λS=>ċ S fQ λS=>?_;exact eu _ _ ((k+1),J,(M++[DV]),ai,al) ⟨Z,⟨ag,by rw[Å,ah]; rfl,(λz hz=>by rcases ā.1 hz with hz | hz; (exact MQ z hz); obtain rfl:=û.1 hz; exact am),Nk,by exact hG.snoc an,JQ⟩,R.as (show [(⟨163,7,J,M.length+1,M.flatMap dL.cells++DV.cells⟩:Sx.Row)]=[⟨163,7,J,(M++[DV]).length,(M++[DV]).flatMap dL.cells⟩] by simp),S.sn⟩ (by show _-_<_-_; omega)
 have J:k=n:=by have:=é mO; omega
 refine Xe S v λS=>?_;exact⟨_,M,_,_,I,Z,MQ,iZ (f:=dL.cells) (L:=M) (λ_=>I) (aa.own (R.own _ Ö)) I I,J▸hG,ab,S.E,D,S.bx 0⟩
abbrev afK{w0 w:E5}{a:Option Ć}{pk:Bool}{l:List UInt8}(hE:Ext w0 w)(J:Bx w b #[.s a l.length cap,.i p,.b bad,.b pk])(hb:w0.heap.size<=b)(h:jI w0 (.s a l.length cap) l)(hp:p<=l.length){n:Nat}(hn:n<=l.length)(hll:l.length<=100000000) :
  Nq prog 166 #[.q b 0,.i n,.func (.func 167) #[.q b 0] #[]] w λe w'=>∃(v:y9) (Ó:List dI) (p':Nat) (D:Bool),e = .R v∧Ó.length<=n∧(∀s∈Ó,dI.ok s)∧aU w.heap.size (λW=>aG 5 dI.cells W v Ó) w'∧jl jC dI.ok l p bad n p' D Ó∧Nj w0 w w' b a l cap pk p' D:=by
 skip;refine Ĭ func166 ntmps166 hE J hb λS=>?_;have R:=Č S;have JM:=(Ch.refl b w);refine ĉ S (ι:=Nat×y9×List dI×Nat×Bool) (λD a' w'=>D.1<=n∧(kD w.heap.size D.2.1∧D.2.2.1.length=D.1∧(∀s∈D.2.2.1,dI.ok s)∧D.2.2.2.1<=l.length∧jl jC dI.ok l p bad D.1 D.2.2.2.1 D.2.2.2.2 D.2.2.1∧Ch b w w')∧Rw w0 w' [(b,[.s a l.length cap,.i D.2.2.2.1,.b D.2.2.2.2,.b pk])] [⟨202,5,D.2.1,D.2.2.1.length,D.2.2.1.flatMap dI.cells⟩]∧Sx.St w0 a' w' 22 [(0,.q b 0),(1,.i n),(2,.func (.func 167) #[.q b 0] #[]),(6,.sn),(7,D.2.1),(8,.i n),(9,.i D.1)] [(b,[.s a l.length cap,.i D.2.2.2.1,.b D.2.2.2.2,.b pk])] []) (λD=>n-D.1) (0,(.sn),[],p,bad) (λS=>⟨Î _,⟨kD.nil _,I,(λx J=>by cases J),hp,jl.nil,JM⟩,EY R,S.sn⟩) ?_;rintro⟨k,v,M,pp,dd⟩ ac u fQ eu hI;try dsimp only at hI
 obtain⟨hk,hR,R,S⟩:=hI;refine Ċ S λS=>?_;obtain⟨aa,ah,MQ,ab,hG,D⟩:=hR;refine À S (decide ((k:Int)<(n:Int))) (λmO S=>?_) λmO S=>?_
 .refine O1 S 4 [] [.M 0 2] λS=>À S (dd) (λfJ S=>?_) (λfJ S=>?_)
  .refine Xe S (.sn) λS=>?_;exact⟨_,[],_,_,I,Î _,(λx J=>by cases J),λW _ _=>dK _ _ _,(K03 (by rw[fJ]at hG; exact hG) hk),ab,S.E,D,S.bx 0⟩
  have S:=S.fl;have J:=(D).size;refine Sx.aW S 0 I (amZ S.E (S.bx 0) (S.old 0) h ab) ?_;rintro e u ⟨DV,ai,al,rfl,am,an,Nk,BU,J,JO⟩;refine⟨_,_,I,BU,J,JO,λS=>?_⟩;have ao:=J.size;have xG:=(aN D J);refine Ú S DV.cells λu ae Em wZ S=>?_;obtain⟨R,ap⟩:=R.aZ S (Ì (Sx.Stp.Eo J) (Ĥ Em wZ));have J:k<n:=by have:=Ý mO; omega
  have yw:=((Ch.trans xG (Ch.aY Em)));have af:=yw.size;refine è S λS=>Ń S R 0 19 I XP (oK (m:=1) (k:=5) (A:=DV.cells) (S.bx 0)) (by show M.length+1<=9223372036854775807; omega) (by show(M.length+1)*_<=140737488355328; omega) λac u J YD R S=>ÿ S λS=>?_;have ag:=kD.step (r:=⟨202,5,v,M.length,M.flatMap dI.cells⟩) aa R YD af;have JQ:=EX (r:=⟨202,5,v,M.length,M.flatMap dI.cells⟩) yw YD (λp hp=>by rcases Ù.1 hp with rfl | hp; (exact .inr (by show _<=ae; omega)); rcases Ù.1 hp with rfl | hp; (exact .inl I); cases hp) aa;have S:=S.gK 1;obtain⟨R,aq⟩:=R.aZ S (ĥ 1);refine O1 S 3 [] [kS 20 k] (hk:=⟨ù Z,G⟩) λS=>ċ S fQ λS=>?_;exact eu _ _ ((k+1),J,(M++[DV]),ai,al) ⟨Z,⟨ag,by rw[Å,ah]; rfl,(λz hz=>by rcases ā.1 hz with hz | hz; (exact MQ z hz); obtain rfl:=û.1 hz; exact am),Nk,by exact hG.snoc an,JQ⟩,R.as (show [(⟨202,5,J,M.length+1,M.flatMap dI.cells++DV.cells⟩:Sx.Row)]=[⟨202,5,J,(M++[DV]).length,(M++[DV]).flatMap dI.cells⟩] by simp),S.sn⟩ (by show _-_<_-_; omega)
 have J:k=n:=by have:=é mO; omega
 refine Xe S v λS=>?_;exact⟨_,M,_,_,I,Z,MQ,iZ (f:=dI.cells) (L:=M) (λ_=>I) (aa.own (R.own _ Ö)) I I,J▸hG,ab,S.E,D,S.bx 0⟩
abbrev am0{w0 w:E5}{a:Option Ć}{pk:Bool}{l:List UInt8}(hE:Ext w0 w)(J:Bx w b #[.s a l.length cap,.i p,.b bad,.b pk])(hb:w0.heap.size<=b)(h:jI w0 (.s a l.length cap) l)(hp:p<=l.length){n:Nat}(hn:n<=l.length)(hll:l.length<=100000000) :
  Nq prog 168 #[.q b 0,.i n,.func (.func 77) #[.q b 0] #[]] w λe w'=>∃(v:y9) (Ó:List Int) (p':Nat) (D:Bool),e = .R v∧Ó.length<=n∧(∀s∈Ó,I64 s)∧aU w.heap.size (λW=>aG 1 (λx:Int=>[.i x]) W v Ó) w'∧jl iB I64 l p bad n p' D Ó∧Nj w0 w w' b a l cap pk p' D:=by
 skip;refine Ĭ func168 ntmps168 hE J hb λS=>?_;have R:=Č S;have JM:=(Ch.refl b w);refine ĉ S (ι:=Nat×y9×List Int×Nat×Bool) (λD a' w'=>D.1<=n∧(kD w.heap.size D.2.1∧D.2.2.1.length=D.1∧(∀s∈D.2.2.1,I64 s)∧D.2.2.2.1<=l.length∧jl iB I64 l p bad D.1 D.2.2.2.1 D.2.2.2.2 D.2.2.1∧Ch b w w')∧Rw w0 w' [(b,[.s a l.length cap,.i D.2.2.2.1,.b D.2.2.2.2,.b pk])] [⟨3,1,D.2.1,D.2.2.1.length,D.2.2.1.flatMap (λx:Int=>[.i x])⟩]∧Sx.St w0 a' w' 22 [(0,.q b 0),(1,.i n),(2,.func (.func 77) #[.q b 0] #[]),(6,.sn),(7,D.2.1),(8,.i n),(9,.i D.1)] [(b,[.s a l.length cap,.i D.2.2.2.1,.b D.2.2.2.2,.b pk])] []) (λD=>n-D.1) (0,(.sn),[],p,bad) (λS=>⟨Î _,⟨kD.nil _,I,(λx J=>by cases J),hp,jl.nil,JM⟩,EY R,S.sn⟩) ?_;rintro⟨k,v,M,pp,dd⟩ ac u fQ eu hI;try dsimp only at hI
 obtain⟨hk,hR,R,S⟩:=hI;refine Ċ S λS=>?_;obtain⟨aa,ah,MQ,ab,hG,D⟩:=hR;refine À S (decide ((k:Int)<(n:Int))) (λmO S=>?_) λmO S=>?_
 .refine O1 S 4 [] [.M 0 2] λS=>À S (dd) (λfJ S=>?_) (λfJ S=>?_)
  .refine Xe S (.sn) λS=>?_;exact⟨_,[],_,_,I,Î _,(λx J=>by cases J),λW _ _=>dK _ _ _,(K03 (by rw[fJ]at hG; exact hG) hk),ab,S.E,D,S.bx 0⟩
  have S:=S.fl;have J:=(D).size;refine Sx.aW S 0 I (jD S.E (S.bx 0) (S.old 0) h ab) ?_;rintro e u ⟨DV,ai,al,rfl,am,an,Nk,BU,J,JO⟩;refine⟨_,_,I,BU,J,JO,λS=>?_⟩;have ao:=J.size;have xG:=(aN D J);refine Ú S [.i DV] λu ae Em wZ S=>?_;obtain⟨R,ap⟩:=R.aZ S (Ì (Sx.Stp.Eo J) (Ĥ Em wZ));have J:k<n:=by have:=Ý mO; omega
  have yw:=((Ch.trans xG (Ch.aY Em)));have af:=yw.size;refine è S λS=>Ń S R 0 19 I afd (oK (m:=1) (k:=1) (A:=[.i DV]) (S.bx 0)) (by show M.length+1<=9223372036854775807; omega) (by show(M.length+1)*_<=140737488355328; omega) λac u J YD R S=>ÿ S λS=>?_;have ag:=kD.step (r:=⟨3,1,v,M.length,M.flatMap (λx:Int=>[.i x])⟩) aa R YD af;have JQ:=EX (r:=⟨3,1,v,M.length,M.flatMap (λx:Int=>[.i x])⟩) yw YD (λp hp=>by rcases Ù.1 hp with rfl | hp; (exact .inr (by show _<=ae; omega)); rcases Ù.1 hp with rfl | hp; (exact .inl I); cases hp) aa;have S:=S.gK 1;obtain⟨R,aq⟩:=R.aZ S (ĥ 1);refine O1 S 3 [] [kS 20 k] (hk:=⟨ù Z,G⟩) λS=>ċ S fQ λS=>?_;exact eu _ _ ((k+1),J,(M++[DV]),ai,al) ⟨Z,⟨ag,by rw[Å,ah]; rfl,(λz hz=>by rcases ā.1 hz with hz | hz; (exact MQ z hz); obtain rfl:=û.1 hz; exact am),Nk,by exact hG.snoc an,JQ⟩,R.as (show [(⟨3,1,J,M.length+1,M.flatMap (λx:Int=>[.i x])++[.i DV]⟩:Sx.Row)]=[⟨3,1,J,(M++[DV]).length,(M++[DV]).flatMap (λx:Int=>[.i x])⟩] by simp),S.sn⟩ (by show _-_<_-_; omega)
 have J:k=n:=by have:=é mO; omega
 refine Xe S v λS=>?_;exact⟨_,M,_,_,I,Z,MQ,iZ (f:=(λx:Int=>[.i x])) (L:=M) (λ_=>I) (aa.own (R.own _ Ö)) I I,J▸hG,ab,S.E,D,S.bx 0⟩
abbrev ajm{w0 w:E5}{a:Option Ć}{pk:Bool}{l:List UInt8}(J:Ext w0 w)(hx:Bx w b #[.s a l.length cap,.i p,.b bad,.b pk])(hb:w0.heap.size<=b)(h:jI w0 (.s a l.length cap) l)(hp:p<=l.length){n:Nat}(hn:n<=l.length)(hll:l.length<=100000000) :
  Nq prog 170 #[.q b 0,.i n,.func (.func 171) #[.q b 0] #[]] w λe w'=>∃(v:y9) (Ó:List bI) (p':Nat) (D:Bool),e = .R v∧Ó.length<=n∧(∀s∈Ó,True)∧aU w.heap.size (λW=>aG 4 bI.cells W v Ó) w'∧jl Px.pb (λ_=>True) l p bad n p' D Ó∧Nj w0 w w' b a l cap pk p' D:=by
 skip;refine Ĭ func170 ntmps170 J hx hb λS=>?_;have R:=Č S;have JM:=(Ch.refl b w);refine ĉ S (ι:=Nat×y9×List bI×Nat×Bool) (λD J w'=>D.1<=n∧(kD w.heap.size D.2.1∧D.2.2.1.length=D.1∧(∀s∈D.2.2.1,True)∧D.2.2.2.1<=l.length∧jl Px.pb (λ_=>True) l p bad D.1 D.2.2.2.1 D.2.2.2.2 D.2.2.1∧Ch b w w')∧Rw w0 w' [(b,[.s a l.length cap,.i D.2.2.2.1,.b D.2.2.2.2,.b pk])] [⟨178,4,D.2.1,D.2.2.1.length,D.2.2.1.flatMap bI.cells⟩]∧Sx.St w0 J w' 22 [(0,.q b 0),(1,.i n),(2,.func (.func 171) #[.q b 0] #[]),(6,.sn),(7,D.2.1),(8,.i n),(9,.i D.1)] [(b,[.s a l.length cap,.i D.2.2.2.1,.b D.2.2.2.2,.b pk])] []) (λD=>n-D.1) (0,(.sn),[],p,bad) (λS=>⟨Î _,⟨kD.nil _,I,(λx hx=>by cases hx),hp,jl.nil,JM⟩,EY R,S.sn⟩) ?_;rintro⟨k,v,M,pp,dd⟩ ac u fQ eu hI;try dsimp only at hI
 obtain⟨hk,D,R,S⟩:=hI;refine Ċ S λS=>?_;obtain⟨ab,ai,MQ,ae,hG,J⟩:=D;refine À S (decide ((k:Int)<(n:Int))) (λmO S=>?_) λmO S=>?_
 .refine O1 S 4 [] [.M 0 2] λS=>À S (dd) (λD S=>?_) (λD S=>?_)
  .refine Xe S (.sn) λS=>?_;exact⟨_,[],_,_,I,Î _,(λx hx=>by cases hx),λW _ _=>dK _ _ _,(K03 (by rw[D]at hG; exact hG) hk),ae,S.E,J,S.bx 0⟩
  have S:=S.fl;have D:=(J).size;refine Sx.aW S 0 I (ajk S.E (S.bx 0) (S.old 0) h ae) ?_;rintro e u ⟨D,al,am,rfl,an,Nk,BU,pR,JO⟩;refine⟨_,_,I,BU,pR,JO,λS=>?_⟩;have ao:=pR.size;have xG:=(aN J pR);refine Ú S D.cells λu af Em wZ S=>?_;obtain⟨R,aq⟩:=R.aZ S (Ì (Sx.Stp.Eo pR) (Ĥ Em wZ));have ap:k<n:=by have:=Ý mO; omega
  have yw:=((Ch.trans xG (Ch.aY Em)));have ag:=yw.size;refine è S λS=>Ń S R 0 19 I aap (oK (m:=1) (k:=4) (A:=D.cells) (S.bx 0)) (by show M.length+1<=9223372036854775807; omega) (by show(M.length+1)*_<=140737488355328; omega) λac u aa YD R S=>ÿ S λS=>?_;have ah:=kD.step (r:=⟨178,4,v,M.length,M.flatMap bI.cells⟩) ab R YD ag;have JQ:=EX (r:=⟨178,4,v,M.length,M.flatMap bI.cells⟩) yw YD (λp hp=>by rcases Ù.1 hp with rfl | hp; (exact .inr (by show _<=af; omega)); rcases Ù.1 hp with rfl | hp; (exact .inl I); cases hp) ab;have S:=S.gK 1;obtain⟨R,ar⟩:=R.aZ S (ĥ 1);refine O1 S 3 [] [kS 20 k] (hk:=⟨ù Z,G⟩) λS=>ċ S fQ λS=>?_;exact eu _ _ ((k+1),aa,(M++[D]),al,am) ⟨Z,⟨ah,by rw[Å,ai]; rfl,(λ_ _=>G),Nk,by exact hG.snoc an,JQ⟩,R.as (show [(⟨178,4,aa,M.length+1,M.flatMap bI.cells++D.cells⟩:Sx.Row)]=[⟨178,4,aa,(M++[D]).length,(M++[D]).flatMap bI.cells⟩] by simp),S.sn⟩ (by show _-_<_-_; omega)
 have D:k=n:=by have:=é mO; omega
 refine Xe S v λS=>?_;exact⟨_,M,_,_,I,Z,MQ,iZ (f:=bI.cells) (L:=M) (λ_=>I) (ab.own (R.own _ Ö)) I I,D▸hG,ae,S.E,J,S.bx 0⟩
end Go.Proofs.Õ
end
abbrev â:=@Go.Sx.aW
