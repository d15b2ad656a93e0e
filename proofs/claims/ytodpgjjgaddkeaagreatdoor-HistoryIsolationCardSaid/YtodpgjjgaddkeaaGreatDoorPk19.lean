/- The encoders of package -/
import Derived.Test.YtodpgjjgaddkeaaGreatDoorPk18
set_option maxRecDepth 100000
set_option maxHeartbeats 9999999
open Go renaming World->E5,Value->y9,Calls->Nq
set_option linter.unusedVariables false
set_option linter.unusedSimpArgs false
open Go.RowKit Go.Sx
namespace Go.Proofs.Õ
open _root_.Go.Proofs.Tryz
section
variable{α:Type}{K:Nat}
variable{w:E5}{u0:y9}
abbrev Vj{w0:E5}{v0:y9}{B:List UInt8}{L:List aj}(J:Ext w0 w)(ho:OwnB w0.heap.size w v0 B)(h:aG 47 aj.cells w0 u0 L)(ab:∀n∈L,eH K w0 n∧n.ϧ)(ae:(B++L.flatMap (λn:aj=>fA false n.key)).length<=1000000000) :
  Nq prog 86 #[v0,u0,.func (.func 56) #[.agg #[.z]] #[]] w λe w'=>∃v,e = .R v∧OwnB w0.heap.size w' v (B++L.flatMap (λn:aj=>fA false n.key))∧Ext w0 w':=by
 obtain⟨a,cap,rfl⟩:=h.shape;have D:L.length<=9223372036854775807:=h.len;refine ϲ func86 ntmps86 J λS=>?_;have R:=lq (Č S) ho (λp D=>by cases D) (Ç _);refine ĉ S (ι:=Nat×y9) (λp D w'=>p.1<=L.length∧(True)∧Rw w0 w' [] [⟨5,1,p.2,(B++(L.take p.1).flatMap (λn:aj=>fA false n.key)).length,(B++(L.take p.1).flatMap (λn:aj=>fA false n.key)).map gY⟩]∧Sx.St w0 D w' 22 [(0,p.2),(1,.s a L.length cap),(2,.func (.func 56) #[.agg #[.z]] #[]),(6,.sn),(9,.s a L.length cap),(10,.i L.length),(11,.i p.1)] [] []) (λp=>L.length-p.1) (0,v0) (λS=>⟨Î _,G,R.as (show [Sx.bR v0 B]=[Sx.bR v0 (B++(L.take 0).flatMap (λn:aj=>fA false n.key))] by simp),S.sn⟩) ?_;rintro⟨k,v⟩ ac u fQ eu hI;try dsimp only at hI
 obtain⟨hk,D,R,S⟩:=hI;refine Ċ S λS=>À S (decide ((k:Int)<(L.length:Int))) (λD S=>?_) λD S=>?_
 .have gV:k<L.length:=by have:=Ý D; omega
  obtain⟨b9,ag,rfl,aa,jU,J,vK⟩:=ý h (λ_=>I) (k) gV;have S:=S.view0 J vK;refine O1 S 2 [] [.idx k L.length,.M 0 0] (hk:=⟨gV,G⟩) λS=>Ú S (Sx.L [.i 0,.i 0,.i 0]++Sx.za++Sx.L [.sn,.i 0,.u 0,.i 0,.z,.z,.sn,.i 0,.sn,.i 0,.i 0,.i 0,.i 0,.sn,.i 0,.sn,.i 0,.i 0,.sn,.i 0]) λu J zU BD S=>í S 0 (off:=0) (cs:=aa.cells) I λu J S=>O1 S 3 [] [.M 0 0] λS=>č S (Cc (pk:=false) ((ab _ (jU▸ò gV)).1.below S.E) (ab _ (jU▸ò gV)).2.amU (aay ae _ (jU▸ò gV))) λaf u Cb xE S=>?_;have hB:=JB ae (k+1);rw[<-lg gV jU]at hB;obtain⟨R,ah⟩:=R.aZ S (Ì (Ĥ zU BD) (Ì (Sx.Stp.Eo J) (à xE)));refine è S λS=>ē S R 19 ((λn:aj=>fA false n.key) aa) (jW (Cb)) (by simp only[Å]at hB |-; omega) λac u J Np R S=>ÿ S λS=>O1 S 3 [] [kS 20 k] (λS=>?_) (hk:=⟨ù Z,G⟩);have S:=S.gK 1;obtain⟨R,Xa⟩:=R.aZ S (ĥ 1);refine ċ S fQ λS=>?_;exact eu _ _ ((k+1),J) ⟨Z,G,R.as (show [Sx.bR J (B++(L.take k).flatMap (λn:aj=>fA false n.key)++(λn:aj=>fA false n.key) aa)]=[Sx.bR J (B++(L.take (k+1)).flatMap (λn:aj=>fA false n.key))] by rw[lg gV jU]),S.sn⟩ (by show _-_<_-_; omega)
 refine Xe S v λS=>?_;exact⟨_,I,by have:=R.own _ Ö; rw[Ď (by have:=é D; omega)]at this; exact this,S.E⟩
abbrev Vk{L:List aj}(h:aG 47 aj.cells w u0 L)(J:∀n∈L,eH K w n∧n.ϧ)(hB:(iJ (λn:aj=>fA false n.key) L).length<=1000000000) :
  Nq prog 55 #[u0,.func (.func 56) #[.agg #[.z]] #[]] w λe w'=>∃v,e = .R v∧OwnB w.heap.size w' v (iJ (λn:aj=>fA false n.key) L)∧Ext w w':=by
 obtain⟨a,cap,rfl⟩:=h.shape;have D:L.length<=9223372036854775807:=h.len;refine Ä func55 ntmps55 λS=>?_;have S0:=S.E.size;refine O1 S 4 [] [.re 7 (.int .u64 (IntKind.u64.wrap (L.length:Int))) (.int .u64 (L.length:Int))] (hk:=⟨(wrap_u64 Z),G⟩) λS=>č S (gq L.length _ Z) λv8 u D E3 S=>è S λS=>Ov S (some 11) (Vj S.E (bF D S0) h J hB) ?_;rintro e u ⟨D,rfl,J,Ri⟩;refine⟨_,I,Ri,λac S=>?_⟩;refine ť S λS=>Xe S D λS=>?_;exact⟨_,I,J,S.E⟩
def Vl(base:Nat)(w:E5)(s:bG)(v:y9)(er:Int):Prop:=(s.valid=true∧OwnB base w v (gu.app (dW s))∧er=0)∨(s.valid=false∧v = .sn∧er=18)
abbrev wV{s:aB}(h:bQ K w s)(hg:bU w) :
  Nq prog 28 #[s.v] w λe w'=>∃v er,e = .R (.tuple #[v,.i er])∧Vl w.heap.size w' s.key v er∧Ext w w':=by
 skip;refine Ņ func28 ntmps28 λD S=>YJ λ_ J=>Ė S 1 s.cells λD u b2 E3 al S=>Rf S 2 [] [(2,.sn),(3,.i 0)] λS=>Rh<|J _ _<|Ô λ_ Bz=>YJ λ_ J=>Rf S 1 [.M 0 0] [(5,s.v)] λS=>CY S 6 (xU (h.below S.E) (bU.below hg S.E)) λD u E7 S=>Rf S 1 [] [(7,.b (!s.key.valid))] λS=>Rh (J _ _ ?_);refine Ā S (λJ=>?_) λJ=>?_
 .refine YJ λ_ Ub=>Rf S 2 [] [(2,.sn),(3,.i 18)] λS=>Rh<|Ub _ _<|ğ ?_;have hv:s.key.valid=false:=by have:=J; simpa using this
  refine MP S results28 ?_;exact⟨_,_,I,.inr ⟨hv,I,I⟩,S.E⟩
 refine ú<|Bz _ _<|YJ λ_ xQ=>?_;have hv:s.key.valid=true:=by have:=J; simpa using this
 have hB:([71,83,49]++dY [s.w,s.h]++Px.pb s.bg++iJ (fA false) (s.ns.map aj.key)).length<=1000000000:=by have:=ES hv; exact ä this O
 rw[Ro]at hB;have R:=Č S;refine Sx.lit S 8 9 3 [.u 71,.u 83,.u 49] 53 5 underlying53 underlying5 λ{D u b13} BG vK S=>Rf S 4 [.M 0 0,.M 0 1] [(11,.i s.w),(13,.i s.h)] λS=>Ţ S 14 2 [.i s.w,.i s.h] λD u am J aa S=>?_;have S0:=S.E.size;refine ģ S (some 15) (jc (L:=[s.w,s.h]) (lZ (f:=λx:Int => .i x) [s.w,s.h] (S.bx 0) (by simp[maxLen])) (rY.all (L:=[s.w,s.h]) ⟨h.1,h.2.1,G⟩) Y) ?_;rintro e u ⟨aw,rfl,Cb,Md⟩;refine⟨_,I,Md,λD S=>?_⟩;have aq:0<(dY [s.w,s.h]).length:=by unfold dY; rw[Ķ,Å]; have h1:0<(En.dX 10 (En.zig s.w)).length:=En.DT 9 _; omega
 have ag:=hB;simp only[Å]at ag;obtain⟨R,ar⟩:=R.aZ S (Ì (à BG) (Ì (Ĥ J aa) (à Md)));refine asR S R 16 AX ((dQ.below vK (Ip J Md))) (jW (Cb)) Z Z (by simp[maxLen]<;>omega) Z λD u J L6 an R S=>?_;have R:=R.as (show [(⟨5,1,J,3+(dY [s.w,s.h]).length,[.u 71,.u 83,.u 49]++(dY [s.w,s.h]).map gY⟩:Sx.Row)]=[Sx.bR J ([71,83,49]++dY [s.w,s.h])] by unfold Sx.bR; rw[Å,Ħ]; rfl);refine Rf S 1 [] [(4,J)] λS=>Rh<|xQ _ _<|YJ λ_ XZ=>Rf S 3 [.M 1 2] [(17,J),(19,.agg s.bg.cells.toArray)] λS=>ģ S (some 20) (vU (p:=s.bg)) ?_;rintro e u ⟨ax,rfl,J,GI⟩;refine⟨_,I,GI,λD S=>?_⟩;obtain⟨R,av⟩:=R.aZ S (à GI);refine ē S R 21 (Px.pb s.bg) (jW (J)) (by simp only[Å]at hB |-; omega) λD u J ao R S=>Rf S 1 [] [(4,J)] λS=>Rh<|XZ _ _<|YJ λ_ af=>Rf S 5 [.M 1 6] [(22,J),(24,s.s),(26,.func (.func 56) #[.agg #[.z]] #[])] λS=>ģ S (some 27) (Vk (h.D.below S.E) (λn hn=>⟨(h.N n hn).below S.E,(rM hv).2 n hn⟩) (by simp only[Å]at hB; omega)) ?_;rintro e u ⟨J,rfl,ah,ae⟩;refine⟨_,I,ae,λD S=>?_⟩;obtain⟨R,J⟩:=R.aZ S (à ae);refine ē S R 28 (iJ (λn:aj=>fA false n.key) s.ns) (jW (ah)) (by simp only[Å]at hB |-; omega) λD u J ap R S=>Rf S 1 [] [(4,J)] λS=>Rh<|af _ _<|YJ λ_ XM=>Rf S 1 [] [(29,J)] λS=>?_;have ab:OwnB w.heap.size u J (dW s.key):=rP (R.own _ Ö) (by rw[<-Ro]; rfl);have S0:=S.E.size;refine ģ S (some 30) (yj _ (dW s.key) _ (vT ab) (by have:=ES hv; omega)) ?_;rintro e u ⟨J,rfl,ai,MC⟩;refine⟨_,I,MC,λD S=>?_⟩;refine Rf S 2 [] [(2,J),(3,.i 0)] λS=>Rh<|XM _ _<|rt2 S results28 ?_;exact⟨_,_,I,.inl ⟨hv,bF (ai) S0,I⟩,S.E⟩
end
section
open En
variable{α β:Type}{K:Nat}
variable{w:E5}{m:List UInt8}
abbrev aaU{m:dH}(h:m.ok w)(hn:m.num):m.key.Ok:=⟨⟨h.1,h.2.1,hn.1,hn.2.1⟩,hn.F⟩
abbrev aaV{t:bD}(h:t.ok w)(D:t.fit K)(J:t.q.valid=true):UK t.q:=ajo (eF.nrm (bD.toQ h D)) J
abbrev O5{p:ak}(h:p.ok w)(hf:p.t.fit K)(hv:p.valid=true):p.key.Ok:=by
 obtain⟨D,J,S⟩:=uO hv;exact⟨h.1,h.2.1,h.D,h.C,⟨J,h.S⟩,h.U,aaU h.G S,h.T,aaV h.I hf D⟩
abbrev Vm{n:aj}(h:eH K w n)(hv:n.checkN=0):n.key.Ok:=by
 have J:=uP hv;have D:=EW h.1 hv;obtain⟨S,hf,aa,ab,-⟩:=h;obtain⟨h1,h2,h3,h4,h5,h6,h7,h8,h9,ac,ag,ae,af,I5⟩:=S;refine⟨D.i,aaV h4 hf J.q,D.clip,D.path,λhk=>⟨(D.fill hk).1,λx S=>?_⟩,λhk=>⟨(D.stroke hk).1,λx S=>?_⟩,D.style,λhk=>aaU af (J.img hk),BR hv⟩
 .obtain⟨p,D,rfl⟩:=ô.1 S; exact O5 (ac.2 p D) (aa p D) ((J.shape hk).C p D)
 obtain⟨p,D,rfl⟩:=ô.1 S; exact O5 (ae.2 p D) (ab p D) ((J.shape hk).A p D)
abbrev sO{n:List UInt8}(h:gu.app m=gu.app n):m=n:=by
 have hl:m.length=n.length:=by have:=Ñ List.length h; rw[oO,oO]at this; omega
 unfold gu.app at h;exact(List.append_inj h hl).1
def Rt(lb:List UInt8):Prop:=∀(K:Nat) (W:E5) (s:aB),bQ K W s->s.key.valid=true->lb≠gu.app (dW s.key)
abbrev Kr(s:bG):dW s=[71,83,49]++(iB s.w++(iB s.h++(Px.pb s.bg++iJ (fA false) s.ns))):=by
 unfold dW; simp only[l7,ç]; rfl
abbrev Nr{lb:List UInt8}(h:lb=gu.app m)(D:¬m.take 3=[71,83,49]):Rt lb:=λK W s J S e=>by
 rw[h]at e;have:=sO e;rw[this,Kr]at D;exact D I
abbrev H9{n:aj}(h:n.ok w)(D:n.t.fit 5000)(J:∀p∈n.fill,p.t.fit 5000)(S:∀p∈n.stroke,p.t.fit 5000):eH 5000 w n:=⟨h,D,J,S,by decide,by decide⟩
section
variable{l:List UInt8}{p1 p2 p3 p4 p5 k:Nat}{b1 b2 b3 b4 b5:Bool}{x y:Int}{q:bI}{Ó:List aO}
abbrev acT(h1:Got iB I64 l 3 false p1 b1 x)(h2:Got iB I64 l p1 b1 p2 b2 y)(h3:Got Px.pb (λ_=>True) l p2 b2 p3 b3 q)(h4:ajg l p3 b3 p4 b4 k)(h5:jl (fA false) aO.Ok l p4 b4 k p5 b5 Ó)
  (K:Nat) (W:E5) (s:aB) (J:bQ K W s) (S:s.key.valid=true) (hl:l=dW s.key):(⟨x,y,q,Ó⟩:bG)=s.key∧b5=false:=by
 have D:l.drop 3=iB s.key.w++(iB s.key.h++(Px.pb s.key.bg++iJ (fA false) s.key.ns)):=by rw[hl,Kr]; rfl
 obtain⟨e1,c,D⟩:=h1 _ _ J.1 I D;obtain⟨e2,c,D⟩:=h2 _ _ J.2.1 c D;obtain⟨e3,c,D⟩:=h3 _ _ G c D;obtain⟨hn,-⟩:=rM S;obtain⟨e4,c,D⟩:=(θ h4 h5 (acA false)) s.key.ns [] ⟨by simp[aB.key]; omega,λz hz=>by
  obtain⟨n,hn,rfl⟩:=ô.1 hz;exact Vm (J.N n hn) (vZ S n hn)⟩ c (by rw[D,ĳ])
 exact⟨by rw[e1,e2,e3,e4]; rfl,c⟩
end
abbrev Vo{base:Nat}{w:E5}{s:bG}{v:y9}{er:Int}(h:Vl base w s v er):∃bs,bK w v bs∧((s.valid=true∧bs=gu.app (dW s)∧er=0)∨(s.valid=false∧bs=[]∧er=18)):=by
 rcases h with ⟨D,S,J⟩ | ⟨D,rfl,J⟩
 .exact⟨_,vT S,.inl ⟨D,I,J⟩⟩
 exact⟨[],dP (dK _ _ _),.inr ⟨D,I,J⟩⟩
end
section
open En
variable{α:Type}{K:Nat}
def Vq(base:Nat)(w:E5)(lb:List UInt8)(v:y9)(er:Int):Prop:=
 (er=0∧∃s:aB,v=s.v∧Sx.aU base (λW=>bQ 5000 W s) w∧s.key.valid=true∧(∀n∈s.ns,n.t.least)∧lb=gu.app (dW s.key)) ∨
 (er≠0∧v=aB.zero.v∧((er=4∧lb.length<4)∨(er=19∧4<=lb.length∧∀m,lb≠gu.app m)∨(er=3∧(∃m,lb=gu.app m)∧Rt lb)))
abbrev Fe{w:E5}{v:y9}{lb:List UInt8}(hg:bU w)(D:jI w v lb)(hll:lb.length<=60000000) :
  Nq prog 48 #[v] w λe w'=>∃v er,e = .R (.tuple #[v,.i er])∧Vq w.heap.size w' lb v er∧Ext w w':=by
 obtain⟨ad,J,rfl⟩:=D.shape;have ay:=D;clear D;refine Ä func48 ntmps48 λS=>Â S λu b2 J D S=>?_;have a9:=(S.bx 0).1;have bb:=S.E;refine ê S (OX (c0:=71) (c1':=83) (c2:=49) (aG.below ay S.E) hll) ?_;rintro e u ⟨pv,er,rfl,D,J⟩;refine⟨_,I,D,λS=>?_⟩;refine À S ((er) != 0) (λGm S=>?_) λGm S=>?_
 .have agA:=J.resolve_right (λh=>absurd h.1 (by have:=Gm; simpa using this));refine É S 0 I λu D S=>?_;have bc:Vq w.heap.size u lb aB.zero.v er := .inr ⟨agA.1,I,agA.F.imp id (λh=>h.imp id (λh=>⟨h.1,by obtain⟨m,D,-⟩:=h.2; exact⟨m,D⟩,by obtain⟨m,D,hn⟩:=h.2; exact Nr D hn⟩))⟩;refine Kt S 0 I (v:=aB.zero.v) (u := .i er) (λS=>⟨_,_,I,bc,S.E⟩)
 obtain⟨-,l,b,a,cap,wm,af,Q5,rfl,Y0,h,aa,a3,bj⟩:=J.resolve_left (λh=>h.1 (by have:=Gm; simpa using this));have J:er=0:=by have:=Gm; simpa using this
 have J:Ext w wm:=Ip bb Y0;have aw:=J.size;have ci:=Y0.size;have ν:l.length<=60000000:=by have:=Ñ List.length af; rw[oO]at this; omega
 have bd:3<=l.length:=by have:=Ñ List.length Q5; simp at this; omega
 have S:=S.adopt (A:=[.s a l.length cap,.i (3:Nat),.z,.z]) bj Z (λp hp=>by rcases Ù.1 hp with rfl | hp; (have:=a9; intro e; simp only at e; omega); cases hp) (λm D=>by cases D);have az:=Ip J a3;have S:=S.fl;have D:=((Ch.aY (b:=b) az)).size;have D:=a3;refine â S 0 I (jD D (S.bx 0) aa h bd) ?_;rintro e u ⟨DV,da,db,rfl,a4,bm,Nk,BU,pR,JO⟩;refine⟨_,_,I,(Ip J BU),pR,JO,λS=>?_⟩;have cj:=pR.size;have QF:=BU.size;have xG:=BU;have oU:=(aN (Ch.aY (b:=b) az) pR);refine Â S λu cf Ak cg S=>É S 0 I λu aq S=>?_;have zV:=È Ak aq;have xE:=È Ak aq;have S:=S.fl;have ck:=(((Ch.trans oU (Ch.aY xE)))).size;have D:=((Ip xG zV));refine â S 1 I (jD D (S.bx 1) aa h Nk) ?_;rintro e u ⟨ab,dd,de,rfl,a5,bo,bp,ah,ai,bq⟩;refine⟨_,_,I,(Ip J ah),ai,bq,λS=>?_⟩;have cm:=ai.size;have TP:=ah.size;have be:=ah;have BI:=(aN ((Ch.trans oU (Ch.aY xE))) ai);refine ë S 0 I λu ar S=>?_;have zY:=(È be ar Z);have EF:=(aN BI ar);have S:=S.fl;have cn:=(EF).size;have D:=zY;refine â S 1 I (Hz D (S.bx 1) aa h bp) ?_;rintro e u ⟨ac,df,dh,rfl,br,bt,al,am,bu⟩;refine⟨_,_,I,(Ip J al),am,bu,λS=>?_⟩;have co:=am.size;have cq:=al.size;have xX:=al;have Dc:=(aN EF am);refine É S 0 I λu P6 S=>?_;have EG:=(È xX P6 Z);have Af:=(aN Dc P6);have S:=S.fl;have ct:=(Af).size;have D:=EG;refine â S 1 I (wu D (S.bx 1) aa h bt) ?_;rintro e u ⟨di,dj,dk,rfl,bv,bw,bz,an,ao,cb⟩;refine⟨_,_,I,(Ip J an),ao,cb,λS=>?_⟩;have cu:=ao.size;have cv:=an.size;have BH:=an;have EN:=(aN Af ao);have S:=S.fl;have cw:=(EN).size;have cx:=(S.bx 0).1;have cy:=(S.bx 1).1;have cz:=(S.bx 2).1;have D:=BH;refine â S 1 I (agx (ν:=ν) (hn:=bv) (hll:=by omega) D (S.bx 1) aa h bz) ?_;rintro e u ⟨dl,ae,dm,ap,rfl,dq,UY,a6,cc,dr,D,Q9,cd⟩;obtain⟨UZ,U0,rfl⟩:=a6.self.1.shape;refine⟨_,_,I,(Ip J D),Q9,cd,λS=>?_⟩;have J:=Q9.size;have J:=D.size;have J:=D;have BJ:=(aN EN Q9);refine ë S 0 I λu D S=>?_;have Jt:=(È J D Z);have J:=(aN BJ D);have MG:=(aU.ch a6 D Z);have bg:=acT bm bo br bw cc;have J:bQ 5000 u (⟨DV,ab,ac,UZ,U0,ae⟩):=⟨a4,a5,(æ MG).1,λz D=>H9 ((æ MG).2 z D) (UY z D).1 (UY z D).2.1 (UY z D).D⟩;refine O1 S 1 [] [.M 0 0] λS=>ê S (wV J (bU.below hg S.E)) ?_;rintro e u ⟨v5,J,rfl,ce,TD⟩;obtain⟨bs,bk,ag⟩:=Vo ce;refine⟨_,I,TD,λS=>?_⟩;refine O1 S 5 [] [] λS=>ī S 14 [.M 1 2] [(_,_,(!(ap||((J) != 0))),.b (bs==lb))] [(51,.b ((ap||((J) != 0))||(!(bs==lb))))] ⟨λu hC g=>Ġ (lS _ _ bs lb u (((dG.below bk hC))) (dP (aG.below ay (Ip S.E hC)))),G⟩ λu av S=>À S ((ap||((J) != 0))||(!(bs==lb))) (λtN S=>?_) λtN S=>?_
 .refine É S 2 I λu a7 S=>?_;have TA:=(aU.ch ((Ü MG (Ip TD av))) a7 Z);have bh:Rt lb:=λK0 W0 s0 aw ax e=>by
   rw[af]at e;obtain⟨g1,g2⟩:=bg K0 W0 s0 aw ax (sO e);replace g1:aB.key (⟨DV,ab,ac,UZ,U0,ae⟩)=s0.key:=g1;rw[g1]at ag;rcases ag with ⟨-,c2,c3⟩ | ⟨c1,-⟩
   .rw[g2,c3,c2,af,sO e]at tN; simp at tN
   rw[ax]at c1; cases c1
  refine Kt S 2 I (v:=aB.zero.v) (u := .i 3) (λS=>⟨_,_,I,.inr ⟨by decide,I,.inr (.inr ⟨I,⟨l,af⟩,bh⟩)⟩,S.E⟩)
 refine O1 S 1 [] [.M 0 0] λS=>É S 2 I λu a8 S=>?_;have CZ:=(aU.ch ((Ü MG (Ip TD av))) a8 Z);have hh:J=0∧bs=lb:=by have:=tN; simp at this; exact⟨this.1.2,this.2⟩
 have J:(aB.key (⟨DV,ab,ac,UZ,U0,ae⟩)).valid=true∧lb=gu.app (dW (aB.key (⟨DV,ab,ac,UZ,U0,ae⟩))):=by rcases ag with ⟨c1,c2,c3⟩ | ⟨-,-,c3⟩; (exact⟨c1,hh.2.symm.trans c2⟩); (exact absurd (hh.1.symm.trans c3) O)
 refine Kt S 2 I (v:=aB.v (⟨DV,ab,ac,UZ,U0,ae⟩)) (u := .i 0) (λS=>⟨_,_,I,.inl ⟨I,_,I,(ď (Sx.aU.le CZ Z) λW h=>⟨a4,a5,h.1,λz D=>H9 (h.2 z D) (UY z D).1 (UY z D).2.1 (UY z D).D⟩),J.1,λz D=>(UY z D).N,J.2⟩,S.E⟩)
end
section
variable{α:Type}{K:Nat}
variable{b en ec sc:Nat}{w w0:E5}{sv:y9}{ea sa:Option Addr}{ss:List aB}
abbrev asT{base:Nat}{v:y9}{l:List aj}{w':E5}(h:fF base v l w)(D:Ch b w w')(J:b<base):fF base v l w':=λw2 S hk =>
 h w2 (ä D.size S) λi J hB=>(hk i (ö J D.size) hB).trans (D.block i J (λe=>by simp only[Æ]at e; omega))
abbrev qQ{ev:y9}{k:Int}{m:Bool}(D:Bx w b #[sv,ev,.i k,.b m]) :
  Nq prog 27 #[.q b 0] w λe w'=>e = .R (.b (!m))∧w=w':=by
 skip;refine Ä func27 ntmps27 λS=>?_;have S:=S.view0 D.1 (D.range 0 4 I);refine O1 S 11 [6,7,8,9,10] [.M 0 3] λS=>Xe S (.b (!m)) λS=>?_;exact⟨I,I⟩
abbrev hpred{k:Nat}(h:0<k)(D:k<=9223372036854775807):Value.i (IntKind.i64.wrap ((k:Int)-1)) = .i (k-1:Nat):=by
 have:IntKind.i64.wrap ((k:Int)-1)=((k-1:Nat):Int):=by rw[Ŭ]; omega
 rw[this]
abbrev acU{ev:y9}{k:Nat}(J:Ext w0 w)(hx:Bx w b #[sv,ev,.i k,.b true])(hb:w0.heap.size<=b)(hk:k<=1000000) :
  Nq prog 14 #[.q b 0] w λe w'=>(k=0∧e = .R (.i 20)∧Ext w0 w'∧Ch b w w'∧Bx w' b #[sv,ev,.i k,.b true])∨∃D,k=D+1∧e = .R (.i 0)∧Ext w0 w'∧Ch b w w'∧Bx w' b #[sv,ev,.i D,.b true]:=by
 skip;refine Ĭ func14 ntmps14 J hx hb λS=>nH S (qQ (S.bx 0)) λS=>ă S λS=>O1 S 6 [] [.M 0 2] λS=>À S (((k:Int))==0) (λD S=>?_) λD S=>?_
 .refine Xe S (.i 20) λS=>?_;have hk:k=0:=by simpa using D
  exact .inl ⟨hk,I,S.E,Ch.refl _ _,S.kV 0⟩
 have hk:0<k:=by have:=D; simp at this; omega
 refine O1 S 9 [] [.M 0 2,.re 16 (.i (iW ((k:Int)-1))) (.i (k-1:Nat))] (hk:=⟨hpred Z Z,G⟩) λS=>ë S 0 I λu D S=>Xe S (.i 0) λS=>?_;exact .inr ⟨k-1,Z,I,S.E,D,S.kV 0⟩
abbrev acV{k:Nat}(D:Ext w0 w)(J:Bx w b #[sv,.s ea en ec,.i k,.b true])(hb:w0.heap.size<=b)(hk:k<=1000000) :
  Nq prog 15 #[.q b 0] w λe w'=>(k=en∧e = .R (.i 20)∧Ext w0 w'∧Ch b w w'∧Bx w' b #[sv,.s ea en ec,.i k,.b true])∨(k≠en∧e = .R (.i 0)∧Ext w0 w'∧Ch b w w'∧Bx w' b #[sv,.s ea en ec,.i (k+1:Nat),.b true]):=by
 skip;refine Ĭ func15 ntmps15 D J hb λS=>nH S (qQ (S.bx 0)) λS=>ă S λS=>ć S 12 [.M 0 2,.M 0 1] [] [(16,.b (((k:Int))==(en:Int)))] trivial λu J S=>À S (((k:Int))==(en:Int)) (λD S=>?_) λD S=>?_
 .refine Xe S (.i 20) λS=>?_;have hk:k=en:=by have:=D; simp at this; omega
  exact .inl ⟨hk,I,S.E,Ch.aY J,S.kV 0⟩
 refine O1 S 9 [] [.M 0 2,kS 22 k] (hk:=⟨ù Z,G⟩) λS=>ë S 0 I λu C9 S=>Xe S (.i 0) λS=>?_;have hk:k≠en:=by have:=D; simp at this; omega
 exact .inr ⟨hk,I,S.E,Ch.trans (Ch.aY J) C9,S.kV 0⟩
abbrev agB{k:Nat}(D:Bx w b #[sv,.s ea en ec,.i k,.b true]) :
  Nq prog 9 #[.q b 0] w (Ï w (.tuple #[.i k,.i en])):=by
 skip;refine Ä func9 ntmps9 λS=>?_;have S:=S.view0 D.1 (D.range 0 4 I);refine nH S (qQ D) λS=>ă S λS=>ć S 12 [.M 0 2,.M 0 1] [] [(2,.i k),(16,.i en)] trivial λu D S=>Ol S (.i k) (.i en) λS=>?_;exact⟨I,S.E⟩
abbrev Vr{ev:y9}{k:Nat}{r:List y9}{x:aB}(hx:Bx w b (.s sa ss.length sc::ev :: .i k::r).toArray)(h:aG 7 aB.cells w (.s sa ss.length sc) ss)(hk:k<ss.length)(ac:ss[k]=x) :
  Nq prog 38 #[.q b 0] w (Ï w x.v):=by
 skip;refine Ä func38 ntmps38 λS=>?_;have S:=S.view0 hx.1 (hx.range 0 3 I);refine Â S λu b2 E3 ae S=>?_;have D:k<ss.length:=hk;obtain⟨b7,o8,rfl,DV,J,aa,ab⟩:=ý h (λ_=>I) (k) D;have S:=S.view0 aa ab;refine ć S 10 [.M 2 0,.M 2 2,.idx k ss.length,.M 1 0] [] [(12,DV.v)] trivial (hk:=⟨D,G⟩) λu E6 S=>É S 0 I λu af S=>ü S 0 I (v:=DV.v) λS=>?_;exact⟨by rw[<-ac,J],S.E⟩
abbrev Y4{ev:y9}{k:Nat}(D:Bx w b #[.s sa ss.length sc,ev,.i k,.b true])(h:aG 7 aB.cells w (.s sa ss.length sc) ss)(hk:k<ss.length)(ag:bQ K w ss[k])(hl:∀n∈(ss[k]).ns,n.lim)(hn:(ss[k]).ns.length<=100000) :
  Nq prog 17 #[.q b 0] w λe w'=>∃m:aB,e = .R m.v∧fF w.heap.size m.s m.ns w'∧m.ns.map aj.strip=(ss[k]).ns.map aj.strip∧m.w=(ss[k]).w∧m.h=(ss[k]).h∧m.bg=(ss[k]).bg∧Ext w w':=by
 skip;refine Ä func17 ntmps17 λS=>?_;have S:=S.view0 D.1 (D.range 0 4 I);refine Â S λu b2 E3 J S=>nH S (qQ (D.ext S.E)) λS=>ă S λS=>ð S (Vr (D.ext S.E) (h.below S.E) hk I) λu J S=>?_;have J:=(S.bx 0).1;have aa:=S.E.size;refine ê S (sJ (ag.below S.E) hl hn) ?_;rintro e u ⟨m,rfl,ho,ab,ac,ae,af,D⟩;refine⟨_,I,D,λS=>?_⟩;refine É S 0 I λu D S=>ü S 0 I (v:=m.v) λS=>?_;exact⟨m,I,(asT ho.cp D J).le aa,ab,ac,ae,af,S.E⟩
end
section
open En
variable{α:Type}{K:Nat}
variable{e:aQ}{w:E5}
abbrev DX(c d:bI)(w:E5):(binOp .neq 40 (.agg c.cells.toArray) (.agg d.cells.toArray)).run prog w = .ok (.b (!decide (c=d))) w:=by
 rw[<-Qp]; exact akZ ..
def jE(e:bY):Bool:=(e.kind==1)||(e.kind==4)
def fH(e:bY):Bool:=
 if e.kind=1 then ((((((e.id) != 0)||false)||((e.depth) != 0))||(!decide (e.color=⟨0,0,0,0⟩)))||(!(decide (bP.key=bP.key))))
 else if e.kind=4 then ((((((e.id) != 0)||((e.index) != 0))||((e.depth) != 0))||(!decide (e.color=⟨0,0,0,0⟩)))||(!(decide (bP.key=bP.key))))
 else if e.kind=3 then ((!decide (e.color=⟨0,0,0,0⟩))||(!(decide (e.node=bP.key))))
 else if e.kind=2 then (((((e.index) != 0)||((e.depth) != 0))||(!decide (e.color=⟨0,0,0,0⟩)))||(!(decide (e.node=bP.key))))
 else if e.kind=5 then ((((((e.id) != 0)||((e.index) != 0))||((e.depth) != 0))||(!decide ((⟨0,0,0,0⟩:bI)=⟨0,0,0,0⟩)))||(!(decide (e.node=bP.key))))
 else true
def Vs(base:Nat)(w:E5)(e:bY)(v:y9)(er:Int):Prop:=(fH e=true∧v = .sn∧er=2)∨(fH e=false∧jE e=true∧¬e.node.chk=0∧v = .sn∧er=17) ∨
 (fH e=false∧(jE e=true->e.node.chk=0)∧OwnB base w v (gu.app (kR e))∧er=0)
abbrev Y5(h:gU K w e) :
  Nq prog 57 #[e.v] w (Ï w (.tuple #[.b (jE e.key),.b (fH e.key)])):=by
 have hK:=h.2.2.2.2.2.2.2.2;refine Ä func57 ntmps57 λS=>Â S λu b2 J D S=>O1 S 3 [] [.M 0 0] λS=>Â S λu b6 J D S=>É S 0 I λu D S=>O1 S 4 [] [.M 1 0] λS=>À S ((e.kind)==1) (λD S=>?_) λD S=>?_
 .refine ë S 0 I λu J S=>É S 0 I λu J S=>ī S 27 [.M 0 1,.M 0 2,.M 0 3,.M 0 51,.cmp .neq 40 (.tmp 45) (.tmp 46) (.agg #[.u (e.color.r.toNat:Int),.u (e.color.g.toNat:Int),.u (e.color.b.toNat:Int),.u (e.color.a.toNat:Int)]) (.agg #[.u 0,.u 0,.u 0,.u 0]) (.b (!decide (e.color=⟨0,0,0,0⟩))),.M 0 4] [(_,_,(!(((((e.id) != 0)||false)||((e.depth) != 0))||(!decide (e.color=⟨0,0,0,0⟩)))),.b (bP.key=bP.key))] [(5,.b ((((((e.id) != 0)||false)||((e.depth) != 0))||(!decide (e.color=⟨0,0,0,0⟩)))||(!(decide (bP.key=bP.key)))))] ⟨λu hC g=>yZ (a:=bP) (b:=bP) (iq u hK.1 hK.2) (iq u hK.1 hK.2),G⟩ (λu J S=>?_) (hk:=⟨(ı (λ_=>DX e.color ⟨0,0,0,0⟩ _) X),G⟩);have hm:fH e.key=((((((e.id) != 0)||false)||((e.depth) != 0))||(!decide (e.color=⟨0,0,0,0⟩)))||(!(decide (bP.key=bP.key)))):=by unfold fH; rw[Á (show e.key.kind=1 from(by have:=D; simpa using this:e.kind=1))]; try rfl
  refine O1 S 11 [] [.M 1 0,.M 1 0] λS=>Ol S (.b (((e.kind)==1)||((e.kind)==4))) (.b ((((((e.id) != 0)||false)||((e.depth) != 0))||(!decide (e.color=⟨0,0,0,0⟩)))||(!(decide (bP.key=bP.key))))) λS=>?_;exact⟨by rw[hm]; rfl,S.E⟩
 refine À S ((e.kind)==4) (λrO S=>?_) λrO S=>?_
 .refine É S 0 I λu J S=>?_;have S:=S.fl;refine ī S 27 [.M 0 1,.M 0 2,.M 0 3,.M 0 51,.cmp .neq 40 (.tmp 45) (.tmp 46) (.agg #[.u (e.color.r.toNat:Int),.u (e.color.g.toNat:Int),.u (e.color.b.toNat:Int),.u (e.color.a.toNat:Int)]) (.agg #[.u 0,.u 0,.u 0,.u 0]) (.b (!decide (e.color=⟨0,0,0,0⟩))),.M 0 4] [(_,_,(!(((((e.id) != 0)||((e.index) != 0))||((e.depth) != 0))||(!decide (e.color=⟨0,0,0,0⟩)))),.b (bP.key=bP.key))] [(5,.b ((((((e.id) != 0)||((e.index) != 0))||((e.depth) != 0))||(!decide (e.color=⟨0,0,0,0⟩)))||(!(decide (bP.key=bP.key)))))] ⟨λu hC g=>yZ (a:=bP) (b:=bP) (iq u hK.1 hK.2) (iq u hK.1 hK.2),G⟩ (λu J S=>?_) (hk:=⟨(ı (λ_=>DX e.color ⟨0,0,0,0⟩ _) X),G⟩);have hm:fH e.key=((((((e.id) != 0)||((e.index) != 0))||((e.depth) != 0))||(!decide (e.color=⟨0,0,0,0⟩)))||(!(decide (bP.key=bP.key)))):=by unfold fH; rw[UQ (show ¬e.key.kind=1 from(by have:=D; simpa using this:¬e.kind=1)),Á (show e.key.kind=4 from(by have:=rO; simpa using this:e.kind=4))]; try rfl
  refine O1 S 11 [] [.M 1 0,.M 1 0] λS=>Ol S (.b (((e.kind)==1)||((e.kind)==4))) (.b ((((((e.id) != 0)||((e.index) != 0))||((e.depth) != 0))||(!decide (e.color=⟨0,0,0,0⟩)))||(!(decide (bP.key=bP.key))))) λS=>?_;exact⟨by rw[hm]; rfl,S.E⟩
 refine À S ((e.kind)==3) (λNs S=>?_) λNs S=>?_
 .refine ë S 0 I λu J S=>ë S 0 I λu J S=>ë S 0 I λu J S=>ī S 27 [.M 0 1,.M 0 2,.M 0 3,.M 0 51,.cmp .neq 40 (.tmp 45) (.tmp 46) (.agg #[.u (e.color.r.toNat:Int),.u (e.color.g.toNat:Int),.u (e.color.b.toNat:Int),.u (e.color.a.toNat:Int)]) (.agg #[.u 0,.u 0,.u 0,.u 0]) (.b (!decide (e.color=⟨0,0,0,0⟩))),.M 0 4] [(_,_,(!(!decide (e.color=⟨0,0,0,0⟩))),.b (e.node.key=bP.key))] [(5,.b ((!decide (e.color=⟨0,0,0,0⟩))||(!(decide (e.node.key=bP.key)))))] ⟨λu hC g=>yZ (a:=e.node) (b:=bP) (h.O.below (Ip S.E hC)) (iq u hK.1 hK.2),G⟩ (λu J S=>?_) (hk:=⟨(ı (λ_=>DX e.color ⟨0,0,0,0⟩ _) X),G⟩);have hm:fH e.key=((!decide (e.color=⟨0,0,0,0⟩))||(!(decide (e.node.key=bP.key)))):=by unfold fH; rw[UQ (show ¬e.key.kind=1 from(by have:=D; simpa using this:¬e.kind=1)),UQ (show ¬e.key.kind=4 from(by have:=rO; simpa using this:¬e.kind=4)),Á (show e.key.kind=3 from(by have:=Ns; simpa using this:e.kind=3))]; try rfl
  refine O1 S 11 [] [.M 1 0,.M 1 0] λS=>Ol S (.b (((e.kind)==1)||((e.kind)==4))) (.b ((!decide (e.color=⟨0,0,0,0⟩))||(!(decide (e.node.key=bP.key))))) λS=>?_;exact⟨by rw[hm]; rfl,S.E⟩
 refine À S ((e.kind)==2) (λJ S=>?_) λJ S=>?_
 .refine ë S 0 I λu aa S=>?_;have S:=S.fl;refine ī S 27 [.M 0 1,.M 0 2,.M 0 3,.M 0 51,.cmp .neq 40 (.tmp 45) (.tmp 46) (.agg #[.u (e.color.r.toNat:Int),.u (e.color.g.toNat:Int),.u (e.color.b.toNat:Int),.u (e.color.a.toNat:Int)]) (.agg #[.u 0,.u 0,.u 0,.u 0]) (.b (!decide (e.color=⟨0,0,0,0⟩))),.M 0 4] [(_,_,(!((((e.index) != 0)||((e.depth) != 0))||(!decide (e.color=⟨0,0,0,0⟩)))),.b (e.node.key=bP.key))] [(5,.b (((((e.index) != 0)||((e.depth) != 0))||(!decide (e.color=⟨0,0,0,0⟩)))||(!(decide (e.node.key=bP.key)))))] ⟨λu hC g=>yZ (a:=e.node) (b:=bP) (h.O.below (Ip S.E hC)) (iq u hK.1 hK.2),G⟩ (λu GK S=>?_) (hk:=⟨(ı (λ_=>DX e.color ⟨0,0,0,0⟩ _) X),G⟩);have hm:fH e.key=(((((e.index) != 0)||((e.depth) != 0))||(!decide (e.color=⟨0,0,0,0⟩)))||(!(decide (e.node.key=bP.key)))):=by unfold fH; rw[UQ (show ¬e.key.kind=1 from(by have:=D; simpa using this:¬e.kind=1)),UQ (show ¬e.key.kind=4 from(by have:=rO; simpa using this:¬e.kind=4)),UQ (show ¬e.key.kind=3 from(by have:=Ns; simpa using this:¬e.kind=3)),Á (show e.key.kind=2 from(by have:=J; simpa using this:e.kind=2))]; try rfl
  refine O1 S 11 [] [.M 1 0,.M 1 0] λS=>Ol S (.b (((e.kind)==1)||((e.kind)==4))) (.b (((((e.index) != 0)||((e.depth) != 0))||(!decide (e.color=⟨0,0,0,0⟩)))||(!(decide (e.node.key=bP.key))))) λS=>?_;exact⟨by rw[hm]; rfl,S.E⟩
 refine À S ((e.kind)==5) (λIX S=>?_) λIX S=>?_
 .refine É S 0 I λu ab S=>ī S 27 [.M 0 1,.M 0 2,.M 0 3,.M 0 51,.cmp .neq 40 (.tmp 45) (.tmp 46) (.agg #[.u 0,.u 0,.u 0,.u 0]) (.agg #[.u 0,.u 0,.u 0,.u 0]) (.b (!decide ((⟨0,0,0,0⟩:bI)=⟨0,0,0,0⟩))),.M 0 4] [(_,_,(!(((((e.id) != 0)||((e.index) != 0))||((e.depth) != 0))||(!decide ((⟨0,0,0,0⟩:bI)=⟨0,0,0,0⟩)))),.b (e.node.key=bP.key))] [(5,.b ((((((e.id) != 0)||((e.index) != 0))||((e.depth) != 0))||(!decide ((⟨0,0,0,0⟩:bI)=⟨0,0,0,0⟩)))||(!(decide (e.node.key=bP.key)))))] ⟨λu hC g=>yZ (a:=e.node) (b:=bP) (h.O.below (Ip S.E hC)) (iq u hK.1 hK.2),G⟩ (λu ac S=>?_) (hk:=⟨(ı (λ_=>DX ⟨0,0,0,0⟩ ⟨0,0,0,0⟩ _) X),G⟩);have hm:fH e.key=((((((e.id) != 0)||((e.index) != 0))||((e.depth) != 0))||(!decide ((⟨0,0,0,0⟩:bI)=⟨0,0,0,0⟩)))||(!(decide (e.node.key=bP.key)))):=by unfold fH; rw[UQ (show ¬e.key.kind=1 from(by have:=D; simpa using this:¬e.kind=1)),UQ (show ¬e.key.kind=4 from(by have:=rO; simpa using this:¬e.kind=4)),UQ (show ¬e.key.kind=3 from(by have:=Ns; simpa using this:¬e.kind=3)),UQ (show ¬e.key.kind=2 from(by have:=J; simpa using this:¬e.kind=2)),Á (show e.key.kind=5 from(by have:=IX; simpa using this:e.kind=5))]; try rfl
  refine O1 S 11 [] [.M 1 0,.M 1 0] λS=>Ol S (.b (((e.kind)==1)||((e.kind)==4))) (.b ((((((e.id) != 0)||((e.index) != 0))||((e.depth) != 0))||(!decide ((⟨0,0,0,0⟩:bI)=⟨0,0,0,0⟩)))||(!(decide (e.node.key=bP.key))))) λS=>?_;exact⟨by rw[hm]; rfl,S.E⟩
 have hm:fH e.key=true:=by unfold fH; rw[UQ (show ¬e.key.kind=1 from(by have:=D; simpa using this:¬e.kind=1)),UQ (show ¬e.key.kind=4 from(by have:=rO; simpa using this:¬e.kind=4)),UQ (show ¬e.key.kind=3 from(by have:=Ns; simpa using this:¬e.kind=3)),UQ (show ¬e.key.kind=2 from(by have:=J; simpa using this:¬e.kind=2)),UQ (show ¬e.key.kind=5 from(by have:=IX; simpa using this:¬e.kind=5))]
 have J:jE e.key=false:=by unfold jE; show((e.kind==1)||(e.kind==4))=false; simp; exact⟨by have:=D; simpa using this,by have:=rO; simpa using this⟩
 refine Ol S (.z) (.b true) λS=>?_;exact⟨by rw[hm,J],S.E⟩
abbrev agC{pk:Bool}(h:gU K w e)(hl:e.kind=1∨e.kind=4->e.node.ϧ)(ab:(GY pk e.key).length<=1000000000) :
  Nq prog 59 #[.agg #[.b pk],e.v] w λr w'=>∃v,r = .R v∧OwnB w.heap.size w' v (GY pk e.key)∧Ext w w':=by
 skip;refine Ä func59 ntmps59 λS=>Ú S [.b pk] λu b2 J D S=>Ú S e.cells λu b5 J D S=>O1 S 9 [] [.M 0 0,.M 0 1,.M 0 2,.M 0 3] λS=>Ú S [.i e.kind,.i e.id,.i e.index,.i e.depth] λu b9 J D S=>?_;have D:=(S.bx 0).1;have ai:=(S.bx 1).1;have al:=(S.bx 2).1;have S0:=S.E.size;refine č S (jc (L:=[e.kind,e.id,e.index,e.depth]) (lZ (f:=λx:Int => .i x) [e.kind,e.id,e.index,e.depth] (S.bx 0) (by simp[maxLen])) (rY.all (L:=[e.kind,e.id,e.index,e.depth]) ⟨h.1,h.2.1,h.D,h.C,G⟩) Y) λae u J D S=>?_;have S:=S.gK 1;have S:=S.kZ;have R:=lq (Č S) J (λp D=>by rcases Ù.1 D with rfl | D; (exact ai); rcases Ù.1 D with rfl | D; (exact al); cases D) S0;refine O1 S 5 [] [.M 0 0] λS=>À S ((e.kind)==1) (λJ S=>?_) λJ S=>?_
 .refine À S ((e.kind)==1) (λrO S=>?_) (λrO S=>?_)
  .have hk:e.kind=1∨e.kind=4:=(.inl (by have:=J; simpa using this));have D:GY pk e.key=dY [e.kind,e.id,e.index,e.depth]++fA pk e.node.key:=by unfold GY; rw[Á (show e.key.kind=1∨e.key.kind=4 from hk)]; rfl
   have hB:(dY [e.kind,e.id,e.index,e.depth]++fA pk e.node.key).length<=1000000000:=D▸ab;refine O1 S 4 [] [.M 1 0,.M 0 4] λS=>č S (Cc (pk:=pk) (h.O.below S.E) (hl hk).amU (by simp only[Å]at hB; omega)) λv9 u aa L6 S=>?_;obtain⟨R,ap⟩:=R.aZ S (à L6);refine è S λS=>ē S R 26 (fA pk e.node.key) (jW (aa)) (by simp only[Å]at hB |-; omega) λac u af am R S=>ÿ S λS=>Xe S af λS=>?_;exact⟨_,I,rP (R.own _ Ö) D.symm,S.E⟩
  rw[J]at rO; cases rO
 refine À S ((e.kind)==4) (λNs S=>?_) λNs S=>?_
 .have hk:e.kind=1∨e.kind=4:=(.inr (by have:=Ns; simpa using this));have D:GY pk e.key=dY [e.kind,e.id,e.index,e.depth]++fA pk e.node.key:=by unfold GY; rw[Á (show e.key.kind=1∨e.key.kind=4 from hk)]; rfl
  have hB:(dY [e.kind,e.id,e.index,e.depth]++fA pk e.node.key).length<=1000000000:=D▸ab;refine O1 S 4 [] [.M 1 0,.M 0 4] λS=>č S (Cc (pk:=pk) (h.O.below S.E) (hl hk).amU (by simp only[Å]at hB; omega)) λv9 u aa Ku S=>?_;obtain⟨R,aq⟩:=R.aZ S (à Ku);refine è S λS=>ē S R 26 (fA pk e.node.key) (jW (aa)) (by simp only[Å]at hB |-; omega) λac u ag an R S=>ÿ S λS=>Xe S ag λS=>?_;exact⟨_,I,rP (R.own _ Ö) D.symm,S.E⟩
 refine À S ((e.kind)==5) (λDY S=>?_) λDY S=>?_
 .have D:GY pk e.key=dY [e.kind,e.id,e.index,e.depth]++Px.pb e.color:=by unfold GY; rw[UQ (show ¬(e.key.kind=1∨e.key.kind=4)from λhh=>by have h1:=J; have h4:=Ns; simp at h1 h4; exact hh.elim h1 h4),Á (show e.key.kind=5 from(by have:=DY; simpa using this:e.kind=5))]; rfl
  have hB:(dY [e.kind,e.id,e.index,e.depth]++Px.pb e.color).length<=1000000000:=D▸ab;refine O1 S 3 [] [.M 0 51] λS=>č S (vU (p:=e.color)) λv9 u aa MC S=>?_;obtain⟨R,ar⟩:=R.aZ S (à MC);refine è S λS=>ē S R 33 (Px.pb e.color) (jW (aa)) (by simp only[Å]at hB |-; omega) λac u ah ao R S=>ÿ S λS=>Xe S ah λS=>?_;exact⟨_,I,rP (R.own _ Ö) D.symm,S.E⟩
 have D:GY pk e.key=dY [e.kind,e.id,e.index,e.depth]:=by unfold GY; rw[UQ (show ¬(e.key.kind=1∨e.key.kind=4)from λhh=>by have h1:=J; have h4:=Ns; simp at h1 h4; exact hh.elim h1 h4),UQ (show ¬e.key.kind=5 from(by have:=DY; simpa using this:¬e.kind=5)),ĳ]; rfl
 refine Xe S ae λS=>?_;exact⟨_,I,rP (R.own _ Ö) D.symm,S.E⟩
abbrev aaW(h:e.kind=1∨e.kind=4->e.node.checkN=0):(GY false e.key).length<=9000000:=by
 unfold GY;have D:=iM [e.key.kind,e.key.id,e.key.index,e.key.depth];simp only[Ē,ł]at D;rw[Å];split
 .rename_i hk;have:=UE (pk:=false) (uP (h hk));have e0:e.key.node=e.node.key:=I;rw[e0]; omega
 split
 .simp[Px.pb]; omega
 simp; omega
abbrev yC(h:gU K w e)(hg:bU w) :
  Nq prog 31 #[e.v] w λr w'=>∃v er,r = .R (.tuple #[v,.i er])∧Vs w.heap.size w' e.key v er∧Ext w w':=by
 skip;refine Ņ func31 ntmps31 λD S=>YJ λ_ J=>Ė S 1 e.cells λD u b2 E3 ae S=>Rf S 2 [] [(2,.sn),(3,.i 0)] λS=>Rh<|J _ _<|YJ λ_ Bz=>Rf S 1 [.M 0 0] [(7,e.v)] λS=>CY S 8 (Y5 (h.below S.E)) λD u J S=>Rf S 5 [] [(4,.b (jE e.key)),(5,.b (fH e.key))] λS=>Rh<|Bz _ _<|Ô λ_ UA=>YJ λ_ J=>Rf S 1 [] [(11,.b (fH e.key))] λS=>Rh (J _ _ ?_);refine Ā S (λJ=>?_) λJ=>?_
 .refine YJ λ_ xQ=>Rf S 2 [] [(2,.sn),(3,.i 2)] λS=>Rh<|xQ _ _<|rt2 S results31 ?_;exact⟨_,_,I,.inl ⟨by have:=J; simpa using this,I,I⟩,S.E⟩
 refine ú<|UA _ _<|Ô λ_ Jz=>YJ λ_ Du=>aeN S 7 [.M 0 4] [(_,_,(jE e.key),.b (e.node.checkN==0))] [(18,.b ((jE e.key)&&(!(e.node.checkN==0))))] ⟨λu hC g=>Nu (h.O.below (Ip S.E hC)) (bU.below hg (Ip S.E hC)),G⟩ λD u GL S=>Rh (Du _ _ ?_);refine Ā S (λRu=>?_) λRu=>?_
 .refine YJ λ_ Ey=>Rf S 2 [] [(2,.sn),(3,.i 17)] λS=>Rh<|Ey _ _<|rt2 S results31 ?_;exact⟨_,_,I,.inr (.inl ⟨by have:=J; simpa using this,by have:=Ru; simp at this; exact this.1,by have:=Ru; simp at this; rw[show e.key.node=e.node.key from rfl,kY]; exact this.2,I,I⟩),S.E⟩
 refine ú<|Jz _ _<|YJ λ_ xR=>?_;have hm:fH e.key=false:=by have:=J; simpa using this
 have hv:jE e.key=true->e.node.checkN=0:=λhh=>by have:=Ru; simp[hh]at this; exact this
 have J:(GY false e.key).length<=9000000:=aaW λhk=>hv (by unfold jE; show((e.kind==1)||(e.kind==4))=true; simpa using hk);have R:=Č S;refine Sx.lit S 19 20 3 [.u 71,.u 69,.u 49] 53 5 underlying53 underlying5 λ{D u b19} Ak Rx S=>Rf S 2 [.M 0 0] [(21,.agg #[.z]),(22,e.v)] λS=>ģ S (some 23) (agC (pk:=false) (h.below S.E) (λhk=>uP (hv (by unfold jE; show((e.kind==1)||(e.kind==4))=true; simpa using hk))) Z) ?_;rintro e u ⟨ai,rfl,J,zV⟩;refine⟨_,I,zV,λD S=>?_⟩;have ag:0<(GY false e.key).length:=by unfold GY dY; rw[Ķ,ç,Å]; have h1:0<(En.dX 10 (En.zig e.kind)).length:=En.DT 9 _; exact Nat.add_pos_left h1 _
 obtain⟨R,ah⟩:=R.aZ S (Ì (à Ak) (à zV));refine asR S R 24 AX ((dQ.below Rx zV)) (jW (J)) Z Z (by simp[maxLen]<;>omega) Z λD u J af Np R S=>?_;have R:=R.as (show [(⟨5,1,J,3+(GY false e.key).length,[.u 71,.u 69,.u 49]++(GY false e.key).map gY⟩:Sx.Row)]=[Sx.bR J (kR e.key)] by unfold Sx.bR kR; rw[Å,Ħ]; rfl);have aa:OwnB w.heap.size u J (kR e.key):=R.own _ Ö;have S0:=S.E.size;refine ģ S (some 25) (yj _ (kR e.key) _ (vT aa) (by unfold kR; simp only[Å,Ē,ł]; omega)) ?_;rintro e u ⟨J,rfl,ab,GI⟩;refine⟨_,I,GI,λD S=>?_⟩;refine Rf S 2 [] [(2,J),(3,.i 0)] λS=>Rh<|xR _ _<|rt2 S results31 ?_;exact⟨_,_,I,.inr (.inr ⟨hm,λhh=>by rw[show e.key.node=e.node.key from rfl,kY]; exact hv hh,bF (ab) S0,I⟩),S.E⟩
structure O6 (e:bY):Prop where
  i:I64 e.kind∧I64 e.id∧I64 e.index∧I64 e.depth
  node:e.kind=1∨e.kind=4->e.node.Ok
  aaX:¬(e.kind=1∨e.kind=4)->e.node=bP.key
  color:¬e.kind=5->e.color=⟨0,0,0,0⟩
def Ce(e:bY):List UInt8:=if e.kind=1∨e.kind=4 then fA false e.node else if e.kind=5 then Px.pb e.color else []
abbrev Kv(e:bY):GY false e=iB e.kind++(iB e.id++(iB e.index++(iB e.depth++Ce e))):=by
 unfold GY Ce; simp only[l7,ç]; rfl
section
variable{l:List UInt8}{p p1 p2 p3 p4 p5:Nat}{bad b1 b2 b3 b4 b5:Bool}{kd id ix dp:Int}{n:aO}{q:bI}
def aaY(l:List UInt8)(p:Nat)(bad:Bool)(p4:Nat)(b4:Bool)(kd id ix dp:Int):Prop:=∀y r,O6 y->bad=false->l.drop p=GY false y++r->kd=y.kind∧id=y.id∧ix=y.index∧dp=y.depth∧b4=false∧l.drop p4=Ce y++r
abbrev ajX(h1:Got iB I64 l p bad p1 b1 kd)(h2:Got iB I64 l p1 b1 p2 b2 id)(h3:Got iB I64 l p2 b2 p3 b3 ix)(h4:Got iB I64 l p3 b3 p4 b4 dp):aaY l p bad p4 b4 kd id ix dp:=λy r J S D=>by
 rw[Kv]at D;simp only[ç]at D;obtain⟨i1,i2,i3,i4⟩:=J.i;obtain⟨J,k,D⟩:=h1 _ _ i1 S D;obtain⟨S,k,D⟩:=h2 _ _ i2 k D;obtain⟨e3,k,D⟩:=h3 _ _ i3 k D;obtain⟨e4,k,D⟩:=h4 _ _ i4 k D;exact⟨J,S,e3,e4,k,D⟩
abbrev Kw(hC:aaY l p bad p4 b4 kd id ix dp)(hk:kd=1∨kd=4)(h5:Got (fA false) aO.Ok l p4 b4 p5 b5 n):Got (GY false) O6 l p bad p5 b5 ⟨kd,id,ix,dp,n,⟨0,0,0,0⟩⟩:=λy r S J D=>by
 obtain⟨e1,e2,e3,e4,k,D⟩:=hC y r S J D;have J:y.kind=1∨y.kind=4:=e1▸hk;unfold Ce at D;rw[Á J]at D;obtain⟨e5,k,D⟩:=h5 _ _ (S.node J) k D;exact⟨by rw[e1,e2,e3,e4,e5,<-S.color Z],k,D⟩
abbrev acX(hC:aaY l p bad p4 b4 kd id ix dp)(hk:kd=5)(h5:Got Px.pb (λ_=>True) l p4 b4 p5 b5 q):Got (GY false) O6 l p bad p5 b5 ⟨kd,id,ix,dp,bP.key,q⟩:=λy r S J D=>by
 obtain⟨e1,e2,e3,e4,k,D⟩:=hC y r S J D;have J:y.kind=5:=e1▸hk;unfold Ce at D;rw[UQ Z,Á J]at D;obtain⟨J,k,D⟩:=h5 _ _ G k D;exact⟨by rw[e1,e2,e3,e4,J,<-S.aaX Z],k,D⟩
abbrev ajY(hC:aaY l p bad p4 b4 kd id ix dp)(h1:¬kd=1)(h4:¬kd=4)(h5:¬kd=5):Got (GY false) O6 l p bad p4 b4 ⟨kd,id,ix,dp,bP.key,⟨0,0,0,0⟩⟩:=λy r S hb D=>by
 obtain⟨J,e2,e3,e4,k,D⟩:=hC y r S hb D;have g1:¬y.kind=1:=J▸h1;have g4:¬y.kind=4:=J▸h4;have g5:¬y.kind=5:=J▸h5;unfold Ce at D;rw[UQ Z,UQ g5,Ģ]at D;exact⟨by rw[J,e2,e3,e4,<-S.aaX Z,<-S.color g5],k,D⟩
end
variable{w:E5}{lb:List UInt8}{v:y9}
abbrev Y7{e:aQ}(h:gU K w e)(D:fH e.key=false)(J:jE e.key=true->e.key.node.chk=0):O6 e.key:=by
 have S:∀k,e.key.kind=k->True:=λ_ _=>trivial;refine⟨⟨h.1,h.2.1,h.D,h.C⟩,λhk=>?_,λhk=>?_,λhk=>?_⟩
 .have:=J (by unfold jE; simpa using hk);rw[show e.key.node=e.node.key from rfl,kY]at this;exact Vm h.O this
 .unfold fH at D;rw[UQ Z,UQ Z]at D;split at D
  .simp at D; exact D.2
  split at D
  .simp at D; exact D.2
  split at D
  .simp at D; exact D.2
  cases D
 unfold fH at D;split at D
 .simp at D; exact D.2
 split at D
 .simp at D; exact D.2
 split at D
 .simp at D; exact D.1
 split at D
 .simp at D; exact D.1.2
 first
  | cases D
  | (split at D
     · contradiction
     · cases D)
def aQ.zero:aQ:=⟨0,0,0,0,bP,⟨0,0,0,0⟩⟩
def Y8(lb:List UInt8):Prop:=∀(K:Nat) (W:E5) (e:aQ),gU K W e->fH e.key=false->(jE e.key=true->e.key.node.chk=0)->lb≠gu.app (kR e.key)
def Vt(base:Nat)(w:E5)(lb:List UInt8)(v:y9)(er:Int):Prop:=
  (er=0∧∃e:aQ,v=e.v∧Sx.aU base (λW=>gU 5000 W e) w∧fH e.key=false∧(jE e.key=true->e.key.node.chk=0)∧e.node.t.least∧lb=gu.app (kR e.key)) ∨
  (er≠0∧v=aQ.zero.v∧((er=4∧lb.length<4)∨(er=19∧4<=lb.length∧∀m,lb≠gu.app m)∨(er=3∧(∃m,lb=gu.app m)∧Y8 lb)))
abbrev Ry{m:List UInt8}(h:lb=gu.app m)(D:¬m.take 3=[71,69,49]):Y8 lb:=λK W s J S h2 e=>by
 rw[h]at e;have:=sO e;rw[this]at D;exact D I
abbrev Vu{base:Nat}{e:bY}{er:Int}(h:Vs base w e v er):∃bs,bK w v bs∧((fH e=false∧(jE e=true->e.node.chk=0)∧bs=gu.app (kR e)∧er=0)∨(¬(fH e=false∧(jE e=true->e.node.chk=0))∧¬er=0)):=by
 rcases h with ⟨D,rfl,J⟩ | ⟨D,S,J,rfl,h5⟩ | ⟨D,S,J,h4⟩
 .exact⟨[],dP (dK _ _ _),.inr ⟨λh=>(by rw[D]at h; exact absurd h.1 O),Z⟩⟩
 .exact⟨[],dP (dK _ _ _),.inr ⟨λh=>J (h.2 S),Z⟩⟩
 exact⟨_,vT J,.inl ⟨D,S,I,h4⟩⟩
abbrev aaZ:bP.fits:=by obtain⟨-,D,J,S,-⟩:=iq (K:=5000) default O O; exact⟨D,J,S,⟨.inl ⟨I,I,I,I⟩,.inl ⟨I,I,I,I⟩,.inl ⟨I,I,I,I⟩,.inl ⟨I,I,I,I⟩,.inl ⟨I,I,I,I⟩,.inl ⟨I,I,I,I⟩⟩⟩
abbrev an9{w0:E5}{b p cap:Nat}{a:Option Addr}{bad:Bool}{l:List UInt8}(J:Ext w0 w)(hx:Bx w b #[.s a l.length cap,.i p,.b bad,.z])(hb:w0.heap.size<=b)(h:jI w0 (.s a l.length cap) l)(hp:p<=l.length)(hll:l.length<=60000000) :
    Nq prog 82 #[.q b 0] w λe w'=>∃(t:aQ) (p':Nat) (D:Bool),e = .R t.v∧(I64 t.kind∧I64 t.id∧I64 t.index∧I64 t.depth)∧t.node.fits∧Sx.aU w.heap.size (λW=>t.node.ok W) w'∧Got (GY false) O6 l p bad p' D t.key∧Nj w0 w w' b a l cap false p' D:=by
 skip;refine Ĭ func82 ntmps82 J hx hb λS=>Â S λu b2 J D S=>?_;have D:=(((Ch.trans (Ch.refl b w) (Ch.aY J)))).size;refine Â S λu b6 E7 D S=>Â S λu D rW ce S=>Š S 4 λS=>ã S λS=>O1 S 5 [] [.M 0 0] λS=>?_;have S:=S.fl;have D:=(((Ch.trans (Ch.refl b w) (Ch.aY (Ip J (Ip E7 rW)))))).size;refine â S 3 I (jD S.E (S.bx 3) (S.old 3) h hp) ?_;rintro e u ⟨D,de,df,rfl,ae,a7,QN,QO,wz,QS⟩;refine⟨_,_,I,QO,wz,QS,λS=>?_⟩;have cf:=wz.size;have pY:=(aN ((Ch.trans (Ch.refl b w) (Ch.aY (Ip J (Ip E7 rW))))) wz);refine ë S 1 I λu J S=>?_;have vM:=(aN pY J);refine ã S λS=>O1 S 5 [] [.M 0 1] λS=>?_;have S:=S.fl;have J:=(vM).size;refine â S 3 I (jD S.E (S.bx 3) (S.old 3) h QN) ?_;rintro e u ⟨pF,dh,di,rfl,af,a8,J,YP,J7,a9⟩;refine⟨_,_,I,YP,J7,a9,λS=>?_⟩;have cg:=J7.size;have zY:=(aN vM J7);refine ë S 1 I λu SH S=>?_;have tV:=(aN zY SH);refine ã S λS=>O1 S 5 [] [.M 0 2] λS=>?_;have S:=S.fl;have ci:=(tV).size;refine â S 3 I (jD S.E (S.bx 3) (S.old 3) h J) ?_;rintro e u ⟨J,dj,dk,rfl,ag,bb,bc,bd,J8,be⟩;refine⟨_,_,I,bd,J8,be,λS=>?_⟩;have cj:=J8.size;have Af:=(aN tV J8);refine ë S 1 I λu GZ S=>?_;have Ah:=(aN Af GZ);refine ã S λS=>O1 S 5 [] [.M 0 3] λS=>?_;have S:=S.fl;have ck:=(Ah).size;refine â S 3 I (jD S.E (S.bx 3) (S.old 3) h bc) ?_;rintro e u ⟨aa,dl,dm,rfl,ah,bg,ai,bh,YQ,bj⟩;refine⟨_,_,I,bh,YQ,bj,λS=>?_⟩;have cm:=YQ.size;have vN:=(aN Ah YQ);refine ë S 1 I λu ax S=>?_;have rX:=(aN vN ax);refine ă S λS=>?_;have ac:=ajX a7 a8 bb bg;refine O1 S 4 [] [.M 1 0] λS=>À S ((D)==1) (λtN S=>?_) λtN S=>?_
 .refine À S ((D)==1) (λY2 S=>?_) (λY2 S=>?_)
  .have S:=S.fl;have cn:=(rX).size;have co:=(S.bx 0).1;have cq:=(S.bx 1).1;have ct:=(S.bx 2).1;have cu:=(S.bx 3).1;refine â S 3 I (YS (hll:=hll) S.E (S.bx 3) (S.old 3) h ai) ?_;rintro e u ⟨ar,dq,dr,rfl,bk,bm,bo,bp,bq,am,br⟩;refine⟨_,_,I,bq,am,br,λS=>?_⟩;have cv:=am.size;have TA:=(aN rX am);refine É S 1 I λu TB S=>?_;have Uj:=(aN TA TB);have CZ:=(aU.ch bm TB Z);refine O1 S 1 [] [.M 1 0] λS=>É S 2 I λu IL S=>?_;have Ae:=(aN Uj IL);have zX:=(aU.ch CZ IL Z);have hG:=Kw ac (.inl (by have:=tN; simpa using this)) bo;have S:=S.fl;refine ü S 2 I (v := .agg (Sx.L [.i D,.i pF,.i J,.i aa]++ar.cells++Sx.L [.u 0,.u 0,.u 0,.u 0]).toArray) λS=>?_;exact⟨⟨D,pF,J,aa,ar,⟨0,0,0,0⟩⟩,_,_,I,⟨ae,af,ag,ah⟩,bk,(Sx.aU.le zX Z),hG,bp,S.E,Ae,S.kV 3⟩
  rw[tN]at Y2; cases Y2
 refine À S ((D)==4) (λab S=>?_) λab S=>?_
 .have S:=S.fl;have cw:=(rX).size;have cx:=(S.bx 0).1;have cy:=(S.bx 1).1;have cz:=(S.bx 2).1;have c0:=(S.bx 3).1;refine â S 3 I (YS (hll:=hll) S.E (S.bx 3) (S.old 3) h ai) ?_;rintro e u ⟨av,ds,dt,rfl,bs,bt,bu,bv,bw,an,bz⟩;refine⟨_,_,I,bw,an,bz,λS=>?_⟩;have da:=an.size;have MS:=(aN rX an);refine É S 1 I λu ap S=>?_;have IQ:=(aN MS ap);have Qa:=(aU.ch bt ap Z);refine O1 S 1 [] [.M 1 0] λS=>É S 2 I λu aq S=>?_;have a4:=(aN IQ aq);have a5:=(aU.ch Qa aq Z);have hG:=Kw ac (.inr (by have:=ab; simpa using this)) bu;have S:=S.fl;refine ü S 2 I (v := .agg (Sx.L [.i D,.i pF,.i J,.i aa]++av.cells++Sx.L [.u 0,.u 0,.u 0,.u 0]).toArray) λS=>?_;exact⟨⟨D,pF,J,aa,av,⟨0,0,0,0⟩⟩,_,_,I,⟨ae,af,ag,ah⟩,bs,(Sx.aU.le a5 Z),hG,bv,S.E,a4,S.kV 3⟩
 refine À S ((D)==5) (λal S=>?_) λal S=>?_
 .have S:=S.fl;have db:=(rX).size;refine â S 3 I (Hz S.E (S.bx 3) (S.old 3) h ai) ?_;rintro e u ⟨aw,du,dx,rfl,ca,cb,cc,ao,cd⟩;refine⟨_,_,I,cc,ao,cd,λS=>?_⟩;have dd:=ao.size;have Jl:=(aN rX ao);refine É S 1 I λu ay S=>?_;have Jo:=(aN Jl ay);refine O1 S 1 [] [.M 1 0] λS=>É S 2 I λu az S=>?_;have a6:=(aN Jo az);have hG:=acX ac (by have:=al; simpa using this) ca;have S:=S.fl;refine ü S 2 I (v := .agg (Sx.L [.i D,.i pF,.i J,.i aa,.i 0,.i 0,.i 0]++Sx.za++Sx.L [.sn,.i 0,.u 0,.i 0,.z,.z,.sn,.i 0,.sn,.i 0,.i 0,.i 0,.i 0,.sn,.i 0,.sn,.i 0,.i 0,.sn,.i 0]++aw.cells).toArray) λS=>?_;exact⟨⟨D,pF,J,aa,bP,aw⟩,_,_,I,⟨ae,af,ag,ah⟩,aaZ,(λW _ _=>(iq (K:=20) W O O).1),hG,cb,S.E,a6,S.kV 3⟩
 refine O1 S 1 [] [.M 1 0] λS=>É S 2 I λu a3 S=>?_;have YL:=(aN rX a3);have hG:=ajY ac (by have:=tN; simpa using this) (by have:=ab; simpa using this) (by have:=al; simpa using this);have S:=S.fl;refine ü S 2 I (v := .agg (Sx.L [.i D,.i pF,.i J,.i aa,.i 0,.i 0,.i 0]++Sx.za++Sx.L [.sn,.i 0,.u 0,.i 0,.z,.z,.sn,.i 0,.sn,.i 0,.i 0,.i 0,.i 0,.sn,.i 0,.sn,.i 0,.i 0,.sn,.i 0,.u 0,.u 0,.u 0,.u 0]).toArray) λS=>?_;exact⟨⟨D,pF,J,aa,bP,⟨0,0,0,0⟩⟩,_,_,I,⟨ae,af,ag,ah⟩,aaZ,(λW _ _=>(iq (K:=20) W O O).1),hG,ai,S.E,YL,S.kV 3⟩
abbrev G5(hg:bU w)(D:jI w v lb)(hll:lb.length<=60000000) :
    Nq prog 49 #[v] w λe w'=>∃v er,e = .R (.tuple #[v,.i er])∧Vt w.heap.size w' lb v er∧Ext w w':=by
 obtain⟨ad,J,rfl⟩:=D.shape;have am:=D;clear D;refine Ä func49 ntmps49 λS=>Â S λu b2 J D S=>?_;have ap:=(S.bx 0).1;have aq:=S.E;refine ê S (OX (c0:=71) (c1':=69) (c2:=49) (aG.below am S.E) hll) ?_;rintro e u ⟨pv,er,rfl,J,D⟩;refine⟨_,I,J,λS=>?_⟩;refine À S ((er) != 0) (λGm S=>?_) λGm S=>?_
 .have agA:=D.resolve_right (λh=>absurd h.1 (by have:=Gm; simpa using this));refine É S 0 I λu J S=>?_;have ar:Vt w.heap.size u lb aQ.zero.v er := .inr ⟨agA.1,I,agA.F.imp id (λh=>h.imp id (λh=>⟨h.1,by obtain⟨m,J,-⟩:=h.2; exact⟨m,J⟩,by obtain⟨m,J,hn⟩:=h.2; exact Ry J hn⟩))⟩;refine Kt S 0 I (v:=aQ.zero.v) (u := .i er) (λS=>⟨_,_,I,ar,S.E⟩)
 obtain⟨-,l,b,a,cap,wm,aa,Q5,rfl,Y0,h,ax,ao,ay⟩:=D.resolve_left (λh=>h.1 (by have:=Gm; simpa using this));have D:er=0:=by have:=Gm; simpa using this
 have D:Ext w wm:=Ip aq Y0;have ah:=D.size;have a5:=Y0.size;have ν:l.length<=60000000:=by have:=Ñ List.length aa; rw[oO]at this; omega
 have av:3<=l.length:=by have:=Ñ List.length Q5; simp at this; omega
 have S:=S.adopt (A:=[.s a l.length cap,.i (3:Nat),.z,.z]) ay Z (λp hp=>by rcases Ù.1 hp with rfl | hp; (have:=ap; intro e; simp only at e; omega); cases hp) (λm J=>by cases J);have an:=Ip D ao;have S:=S.fl;have J:=((Ch.aY (b:=b) an)).size;have J:=(S.bx 0).1;have J:=(S.bx 1).1;have J:=ao;refine â S 0 I (an9 (hll:=ν) J (S.bx 0) ax h av) ?_;rintro e u ⟨J,a6,ae,rfl,Vw,Y9,af,az,Nk,BU,pR,JO⟩;refine⟨_,_,I,(Ip D BU),pR,JO,λS=>?_⟩;have D:=pR.size;have D:=BU.size;have D:=BU;have D:=(aN (Ch.aY (b:=b) an) pR);refine Â S λu D Ak a4 S=>É S 0 I λu D S=>?_;have zV:=È Ak D;have xE:=È Ak D;have L6:=È Ak D;have D:gU 5000 u J:=⟨Vw.1,Vw.2.1,Vw.D,Vw.N,H9 (æ ((Ü af L6))) Y9.1 Y9.2.1 Y9.D⟩;refine O1 S 1 [] [.M 0 0] λS=>ê S (yC D (bU.below hg S.E)) ?_;rintro e u ⟨D,ab,rfl,a3,ED⟩;obtain⟨bs,D,ac⟩:=Vu a3;refine⟨_,I,ED,λS=>?_⟩;refine O1 S 5 [] [] λS=>ī S 14 [.M 1 2] [(_,_,(!(ae||((ab) != 0))),.b (bs==lb))] [(37,.b ((ae||((ab) != 0))||(!(bs==lb))))] ⟨λu hC g=>Ġ (lS _ _ bs lb u (((dG.below D hC))) (dP (aG.below am (Ip S.E hC)))),G⟩ λu ag S=>À S ((ae||((ab) != 0))||(!(bs==lb))) (λD S=>?_) λD S=>?_
 .refine É S 2 I λu L8 S=>?_;have xX:=(aU.ch ((Ü af (Ip L6 (Ip ED ag)))) L8 Z);have aw:Y8 lb:=λK0 W0 s0 ah ai al e=>by
   rw[aa]at e;have hl:=sO e;obtain⟨g1,g2,-⟩:=az s0.key [] (Y7 ah ai al) I (by rw[hl,ĳ]; rfl);rw[g1]at ac;rcases ac with ⟨-,-,c2,c3⟩ | ⟨c1,-⟩
   .rw[g2,c3,c2,aa,hl]at D; simp at D
   exact c1 ⟨ai,al⟩
  refine Kt S 2 I (v:=aQ.zero.v) (u := .i 3) (λS=>⟨_,_,I,.inr ⟨by decide,I,.inr (.inr ⟨I,⟨l,aa⟩,aw⟩)⟩,S.E⟩)
 refine O1 S 1 [] [.M 0 0] λS=>É S 2 I λu P6 S=>?_;have EG:=(aU.ch ((Ü af (Ip L6 (Ip ED ag)))) P6 Z);have hh:ab=0∧bs=lb:=by have:=D; simp at this; exact⟨this.1.2,this.2⟩
 have D:fH J.key=false∧(jE J.key=true->J.key.node.chk=0)∧lb=gu.app (kR J.key):=by rcases ac with ⟨c1,c2,c3,c4⟩ | ⟨-,c3⟩; (exact⟨c1,c2,hh.2.symm.trans c3⟩); (exact absurd hh.1 c3)
 refine Kt S 2 I (v:=aQ.v J) (u := .i 0) (λS=>⟨_,_,I,.inl ⟨I,_,I,(ď (Sx.aU.le EG Z) λW h=>⟨Vw.1,Vw.2.1,Vw.D,Vw.N,H9 h Y9.1 Y9.2.1 Y9.D⟩),D.1,D.2.1,Y9.N,D.F⟩,S.E⟩)
end
section
open En
variable{K L:Nat}
abbrev bD.fit.up{k D:Nat}{t:bD}(h:t.fit k)(hk:k<=D):t.fit D:=⟨h.1.mono hk,h.2.1.mono hk,h.D.mono hk,h.C.mono hk,h.A.mono hk,h.J.mono hk⟩
abbrev eH.up{w:E5}{n:aj}(h:eH K w n)(hk:K<=L)(J:L<=10000):eH L w n:=⟨h.1,h.2.1.up hk,λp D=>(h.D p D).up hk,λp D=>(h.C p D).up hk,ä h.A hk,J⟩
abbrev bQ.up{w:E5}{s:aB}(h:bQ K w s)(hk:K<=L)(D:L<=10000):bQ L w s:=⟨h.1,h.2.1,h.D,λn hn=>(h.N n hn).up hk D⟩
abbrev gU.up{w:E5}{e:aQ}(h:gU K w e)(hk:K<=L)(D:L<=10000):gU L w e:=⟨h.1,h.2.1,h.D,h.C,h.O.up hk D⟩
abbrev acY{w:E5}{e d:aQ}(h:gU K w e)(h':gU K w d)(m:fH e.key=false)(J:fH d.key=false)(v:jE e.key=true->e.key.node.chk=0)(v':jE d.key=true->d.key.node.chk=0)(D:kR e.key=kR d.key):e.key=d.key:=by
 have k:=Y7 h m v;have k':=Y7 h' J v';unfold kR at D;have D:=List.append_cancel_left D;rw[Kv,Kv]at D;obtain⟨J,i2,i3,i4⟩:=k.i;obtain⟨j1,j2,j3,j4⟩:=k'.i;obtain⟨S,D⟩:=Ox J j1 _ _ D;obtain⟨e2,D⟩:=Ox i2 j2 _ _ D;obtain⟨e3,D⟩:=Ox i3 j3 _ _ D;obtain⟨e4,D⟩:=Ox i4 j4 _ _ D;have hn:e.key.node=d.key.node∧e.key.color=d.key.color:=by
  unfold Ce at D;by_cases hk:e.key.kind=1∨e.key.kind=4
  .have J:d.key.kind=1∨d.key.kind=4:=S▸hk;rw[Á hk,Á J]at D;have c1:=v (by unfold jE; simpa using hk);have c2:=v' (by unfold jE; simpa using J);rw[show e.key.node=e.node.key from rfl,kY]at c1;rw[show d.key.node=d.node.key from rfl,kY]at c2;exact⟨(Oy h.A h'.A c1 c2 [] [] (by rw[ĳ,ĳ]; exact D)).1,(k.color Z).trans (k'.color Z).symm⟩
  have J:¬(d.key.kind=1∨d.key.kind=4):=S▸hk;rw[UQ hk,UQ J]at D;refine⟨(k.aaX hk).trans (k'.aaX J).symm,?_⟩;by_cases h5:e.key.kind=5
  .have J:d.key.kind=5:=S▸h5;rw[Á h5,Á J]at D;exact(UG _ _ [] [] (by rw[ĳ,ĳ]; exact D)).1
  have J:¬d.key.kind=5:=S▸h5;exact(k.color h5).trans (k'.color J).symm
 obtain⟨D,J⟩:=hn;revert S e2 e3 e4 D J;generalize e.key=x;generalize d.key=y;intro S e2 e3 e4 D J;cases x; cases y;simp only at S e2 e3 e4 D J;rw[S,e2,e3,e4,D,J]
abbrev Vl.good{base:Nat}{w:E5}{s:bG}{v:y9}{er:Int}(h:Vl base w s v er)(hv:s.valid=true):er=0∧OwnB base w v (gu.app (dW s)):=by
 rcases h with ⟨D,J,S⟩ | ⟨D,-⟩
 .exact⟨S,J⟩
 rw[hv]at D; cases D
abbrev Vs.good{base:Nat}{w:E5}{e:bY}{v:y9}{er:Int}(h:Vs base w e v er)(hm:fH e=false)(hv:jE e=true->e.node.chk=0):er=0∧OwnB base w v (gu.app (kR e)):=by
 rcases h with ⟨D,-⟩ | ⟨D,S,J,-⟩ | ⟨D,S,J,h4⟩
 .rw[hm]at D; cases D
 .exact absurd (hv S) J
 exact⟨h4,J⟩
abbrev Za{s:aB}(h:s.key.valid=true):(gu.app (dW s.key)).length<=60000000:=by
 rw[oO]; have:=ES h; omega
abbrev Fg{e:aQ}(D:jE e.key=true->e.key.node.chk=0):(gu.app (kR e.key)).length<=60000000:=by
 rw[oO];have:=aaW (e:=e) λhk=>by
  have:=D (by unfold jE; show((e.kind==1)||(e.kind==4))=true; simpa using hk);rwa [show e.key.node=e.node.key from rfl,kY]at this
 unfold kR;simp only[Å,Ē,ł];omega
end
section
open En
structure Hs (ss:List bG) (es:List bY):Prop where
 len:ss.length=es.length+1
 val:∀s∈ss,s.valid=true
 step:∀i e,es[i]?=some e->∃s t,ss[i]?=some s∧ss[i+1]?=some t∧fE s e=(t,0)
abbrev Hs.new{s:bG}(h:s.valid=true):Hs [s] []:=⟨I,λt D=>by rw[û.1 D]; exact h,λi e h=>by simp at h⟩
abbrev Hs.put{ss:List bG}{es:List bY}{k:Nat}{s t:bG}{e:bY}(h:Hs ss es)(hs:ss[k]?=some s)(ha:fE s e=(t,0)):Hs (ss.take (k+1)++[t]) (es.take k++[e]):=by
 obtain⟨hk,rfl⟩:=List.getElem?_eq_some_iff.1 hs;have hl:=h.len;have S:(ss.take (k+1)).length=k+1:=by rw[Ĳ]; omega
 have J:(es.take k).length=k:=by rw[Ĳ]; omega
 refine⟨by simp only[Å,S,J,aG8],λx D=>?_,λi x D=>?_⟩
 .rcases ā.1 D with D | D
  .exact h.val x (ŝ D)
  rw[û.1 D];obtain⟨-,-,l,-,-,h5⟩:=N9 ha;exact h5
 have hi:i<k+1:=by
  have:=(List.getElem?_eq_some_iff.1 D).1;simp only[Å,J,aG8]at this;exact this
 rcases ĩ i k with h1 | h1
 .rw[List.getElem?_append_left Z,List.getElem?_take_of_lt h1]at D;obtain⟨a,b,h2,h3,h4⟩:=h.step i x D;exact⟨a,b,by rw[List.getElem?_append_left Z,List.getElem?_take_of_lt hi]; exact h2,by rw[List.getElem?_append_left Z,List.getElem?_take_of_lt Z]; exact h3,h4⟩
 obtain rfl:i=k:=by omega
 rw[List.getElem?_append_right Z,J,Λ]at D;simp only[List.getElem?_cons_zero,Æ]at D;subst D;exact⟨_,_,by rw[List.getElem?_append_left Z,List.getElem?_take_of_lt hi]; exact hs,by rw[List.getElem?_append_right Z,S,Λ]; rfl,ha⟩
abbrev Zb{s t:bG}{e:bY}(h:fE s e=(t,0)):fH e=false∧(jE e=true->e.node.chk=0):=by
 obtain⟨S,J,l,D,rfl,h5⟩:=N9 h;have S:=(EJ.1 (bG.lY.1 h5).F).1;replace S:∀x∈l,x.chk=0:=S;constructor
 .have hz:aO.zero=bP.key:=I;have hp:bI.none=⟨0,0,0,0⟩:=I;unfold bY.named at J;unfold fH;repeat' split at J
  all_goals simp_all
 intro J;unfold jE at J;simp only[ų,ß]at J;unfold jH at D;rcases J with J | J
 .rw[Á J]at D;split at D
  .cases D
  simp only[ϖ]at D;exact S _ (by rw[<-D]; unfold GR; simp)
 rw[UQ Z,UQ Z,UQ Z,Á J]at D;cases hf:jT s.ns e.node.id with
 | none=>rw[hf]at D; cases D
 | some i =>
  rw[hf]at D;simp only at D;split at D
  .cases D
  simp only[ϖ]at D;obtain⟨J,-⟩:=Bq hf;exact S _ (by rw[<-D]; exact List.mem_set J ..)
abbrev Hs.enc{ss:List bG}{es:List bY}(h:Hs ss es){e:bY}(J:e∈es):fH e=false∧(jE e=true->e.node.chk=0):=by
 obtain⟨i,D,rfl⟩:=List.getElem_of_mem J;obtain⟨a,b,-,-,J⟩:=h.step i _ (List.getElem?_eq_getElem D);exact Zb J
def eB(e:bY):List UInt8:=gJ (gu.app (kR e))
def hB(s:bG)(k:Nat)(es:List bY):List UInt8:=gJ (gu.app (dW s))++(dX 10 k++(dX 10 es.length++es.flatMap eB))
end
section
variable{α:Type}{K:Nat}
def aog(i j k:Int)(c:bI)(n:aj):Bool:=((((i==0)&&(j==0))&&(k==0))&&decide (c=bI.none))&&decide (n.key=aO.zero)
abbrev DZ(i j k:Int)(c:bI)(n:aj):aog i j k c n=(i==0&&(j==0&&(k==0&&(n.key==aO.zero&&c==bI.none)))):=by
 unfold aog;rw[show(n.key==aO.zero)=decide (n.key=aO.zero)from rfl,show(c==bI.none)=decide (c=bI.none)from rfl];ac_rfl
abbrev Vx:(bP.key==aO.zero)=true:=by rw[show bP.key=aO.zero from rfl]; simp
abbrev acZ{w:E5}{e:aQ}(he:gU K w e) :
  Nq prog 98 #[e.v] w (Ï w (.b e.key.named)):=by
 skip;refine Ņ func98 ntmps98 λD S=>?_;have J:=he.T;have ai:=he.I;refine YJ λ_ fQ=>Ė S 1 e.cells λD u b2 E3 al S=>Rf S 1 [] [(2,.z)] λS=>Rh<|fQ _ _<|Ô λκq Bz=>?_;have J6:∀(kd i j k:Int) (n:aj) (c:bI) (D:Act) (u:E5),(aog i j k c n=e.key.named)->(eH K u n)->Sx.St w D u 48 [(1,.q b2 0),(2,.z)] [(b2,(Sx.L [.i kd,.i i,.i j,.i k]++n.cells++c.cells))] []->κq D u:=by
  intro kd i j k n c D u ho hn S;refine Bz _ _<|YJ λ_ UA=>aeN S 26 [.M 0 1,.M 0 2,.M 0 3,.M 0 51,.cmp .eql 40 (.tmp 38) (.tmp 39) (.agg #[.u (c.r.toNat:Int),.u (c.g.toNat:Int),.u (c.b.toNat:Int),.u (c.a.toNat:Int)]) (.agg #[.u 0,.u 0,.u 0,.u 0]) (.b (c=bI.none)),.M 0 4] [(_,_,(((((i)==0)&&((j)==0))&&((k)==0))&&(decide (c=bI.none))),.b (n.key=aO.zero))] [(2,.b ((((((i)==0)&&((j)==0))&&((k)==0))&&(decide (c=bI.none)))&&(decide (n.key=aO.zero))))] ⟨λu hC g=>yZ (hn.below hC) (iq u J ai),G⟩ (hk:=⟨(ı (λ_=>ams c bI.none _) X),G⟩) λD u J S=>Rh<|UA _ _<|Qm S results98 ?_;exact⟨aJ (by rw[<-ho]; rfl),S.E⟩
 refine YJ λ_ D=>Rf S 2 [.M 0 0] [(4,.i e.kind)] λS=>Rh<|D _ _<|Ě<|Ô λ_ xQ=>Ě<|Ô λ_ Jz=>Ě<|Ô λ_ Du=>Ě<|Ô λ_ EL=>Ě<|Ô λ_ uH=>Ě<|Ô λ_ J=>Ě<|Ô λ_ xR=>Ô λ_ Ez=>YJ λ_ D=>Rf S 2 [] [(5,.b ((e.kind)==1))] λS=>Rh (D _ _ ?_);refine Ā S (λD=>?_) λD=>?_
 .refine Ļ<|J _ _<|į<|Rf S 1 [] [(15,.q b2 2)] λS=>Ĺ S 0 (off:=2) (v := .i 0) I λu J S=>Rh<|uH _ _<|YJ λ_ J=>Rf S 2 [] [(16,.agg (Sx.L [.i 0,.i 0,.i 0]++Sx.za++Sx.L [.sn,.i 0,.u 0,.i 0,.z,.z,.sn,.i 0,.sn,.i 0,.i 0,.i 0,.i 0,.sn,.i 0,.sn,.i 0,.i 0,.sn,.i 0]).toArray),(17,.q b2 4)] λS=>Ğ S 0 (off:=4) (cs:=(Sx.L [.i 0,.i 0,.i 0]++Sx.za++Sx.L [.sn,.i 0,.u 0,.i 0,.z,.z,.sn,.i 0,.sn,.i 0,.i 0,.i 0,.i 0,.sn,.i 0,.sn,.i 0,.i 0,.sn,.i 0])) I λu am S=>Rh<|J _ _<|Ļ ?_;exact J6 e.kind e.id 0 e.depth bP e.color _ _ (by have hk:=D; rw[DZ]; unfold bY.named; simp[aQ.key,Vx,show e.kind=1 from by simpa using hk]) (iq u he.T he.I) S.sn
 refine ú<|Ez _ _<|Ô λ_ aa=>YJ λ_ J=>Rf S 2 [] [(7,.b ((e.kind)==4))] λS=>Rh (J _ _ ?_);refine Ā S (λJ=>?_) λJ=>?_
 .refine Ļ<|uH _ _<|YJ λ_ ab=>Rf S 2 [] [(16,.agg (Sx.L [.i 0,.i 0,.i 0]++Sx.za++Sx.L [.sn,.i 0,.u 0,.i 0,.z,.z,.sn,.i 0,.sn,.i 0,.i 0,.i 0,.i 0,.sn,.i 0,.sn,.i 0,.i 0,.sn,.i 0]).toArray),(17,.q b2 4)] λS=>Ğ S 0 (off:=4) (cs:=(Sx.L [.i 0,.i 0,.i 0]++Sx.za++Sx.L [.sn,.i 0,.u 0,.i 0,.z,.z,.sn,.i 0,.sn,.i 0,.i 0,.i 0,.i 0,.sn,.i 0,.sn,.i 0,.i 0,.sn,.i 0])) I λu X0 S=>Rh<|ab _ _<|Ļ ?_;exact J6 e.kind e.id e.index e.depth bP e.color _ _ (by have hk:=J; rw[DZ]; unfold bY.named; simp[aQ.key,Vx,show e.kind=4 from by simpa using hk]) (iq u he.T he.I) S.sn
 refine ú<|aa _ _<|Ô λ_ ae=>YJ λ_ af=>Rf S 2 [] [(9,.b ((e.kind)==3))] λS=>Rh (af _ _ ?_);refine Ā S (λBj=>?_) λBj=>?_
 .refine Ļ<|EL _ _<|į<|Rf S 1 [] [(18,.q b2 2)] λS=>Ĺ S 0 (off:=2) (v := .i 0) I λu an S=>Rf S 1 [] [(19,.q b2 3)] λS=>Ĺ S 0 (off:=3) (v := .i 0) I λu ao S=>Rh<|Du _ _<|YJ λ_ Qq=>Rf S 1 [] [(20,.q b2 1)] λS=>Ĺ S 0 (off:=1) (v := .i 0) I λu ap S=>Rh<|Qq _ _<|Ļ ?_;exact J6 e.kind 0 0 0 e.node e.color _ _ (by have hk:=Bj; rw[DZ]; unfold bY.named; simp[aQ.key,show e.kind=3 from by simpa using hk]) (he.O.below S.E) S.sn
 refine ú<|ae _ _<|Ô λ_ Qn=>YJ λ_ ag=>Rf S 2 [] [(11,.b ((e.kind)==2))] λS=>Rh (ag _ _ ?_);refine Ā S (λG6=>?_) λG6=>?_
 .refine Ļ<|Du _ _<|YJ λ_ IK=>Rf S 1 [] [(20,.q b2 1)] λS=>Ĺ S 0 (off:=1) (v := .i 0) I λu aq S=>Rh<|IK _ _<|Ļ ?_;exact J6 e.kind 0 e.index e.depth e.node e.color _ _ (by have hk:=G6; rw[DZ]; unfold bY.named; simp[aQ.key,show e.kind=2 from by simpa using hk]) (he.O.below S.E) S.sn
 refine ú<|Qn _ _<|YJ λ_ ah=>Rf S 2 [] [(13,.b ((e.kind)==5))] λS=>Rh (ah _ _ ?_);refine Ā S (λMF=>?_) λMF=>?_
 .refine Ļ<|Jz _ _<|YJ λ_ Xr=>Rf S 2 [] [(21,.agg #[.u 0,.u 0,.u 0,.u 0]),(22,.q b2 51)] λS=>Ğ S 0 (off:=51) (cs:=[.u 0,.u 0,.u 0,.u 0]) I λu ar S=>Rh<|Xr _ _<|Ļ ?_;exact J6 e.kind e.id e.index e.depth e.node bI.none _ _ (by have hk:=MF; rw[DZ]; unfold bY.named; simp[aQ.key,show e.kind=5 from by simpa using hk]) (he.O.below S.E) S.sn
 refine ú<|xR _ _<|Ļ<|xQ _ _<|Ô λ_ av=>YJ λ_ XO=>Rf S 1 [] [(2,.z)] λS=>Rh<|XO _ _<|Qm S results98 ?_;exact⟨aJ (by unfold bY.named; rw[UQ (show ¬(e.key.kind=1)from by simpa[aQ.key]using D)]; rw[UQ (show ¬(e.key.kind=2)from by simpa[aQ.key]using G6)]; rw[UQ (show ¬(e.key.kind=3)from by simpa[aQ.key]using Bj)]; rw[UQ (show ¬(e.key.kind=4)from by simpa[aQ.key]using J)]; rw[UQ (show ¬(e.key.kind=5)from by simpa[aQ.key]using MF)]),S.E⟩
