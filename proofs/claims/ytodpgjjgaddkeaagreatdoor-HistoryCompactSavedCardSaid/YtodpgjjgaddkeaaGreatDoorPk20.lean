/- The encoders of package -/
import Derived.Test.YtodpgjjgaddkeaaGreatDoorPk19
set_option maxRecDepth 100000
set_option maxHeartbeats 9999999
open Go renaming World->VO,Value->aaT,Calls->abB
set_option linter.unusedVariables false
set_option linter.unusedSimpArgs false
namespace Go.Proofs.Vy
open _root_.Go.Proofs.Tryz
section
open Go.RowKit Go.Sx
variable{α:Type}{K:Nat}
variable{w:VO}{u0:aaT}
abbrev Vg{w0:VO}{v0:aaT}{B:List UInt8}{L:List aj}(J:Ext w0 w)(ho:OwnB w0.heap.size w v0 B)(h:aI 47 aj.cells w0 u0 L)(ab:∀n∈L,eH K w0 n∧n.Lim)(ae:(B++L.flatMap (λn:aj=>eY false n.key)).length<=1000000000) :
  abB prog 86 #[v0,u0,.func (.func 56) #[.agg #[.z]] #[]] w λe w'=>∃v,e = .R v∧OwnB w0.heap.size w' v (B++L.flatMap (λn:aj=>eY false n.key))∧Ext w0 w':=by
 obtain⟨a,cap,rfl⟩:=h.shape;have D:L.length<=9223372036854775807:=h.len;refine zeE func86 ntmps86 J (λS=>?_);have R:=lC (aDV S) ho (λp D=>by cases D) (aDd _);refine aCZ S (ι:=Nat×aaT) (λp D w'=>p.1<=L.length∧(True)∧Rw w0 w' [] [⟨5,1,p.2,(B++(L.take p.1).flatMap (λn:aj=>eY false n.key)).length,(B++(L.take p.1).flatMap (λn:aj=>eY false n.key)).map iy⟩]∧Sx.St w0 D w' 22 [(0,p.2),(1,.s a L.length cap),(2,.func (.func 56) #[.agg #[.z]] #[]),(6,.sn),(9,.s a L.length cap),(10,.i L.length),(11,.i p.1)] [] []) (λp=>L.length-p.1) (0,v0) (λS=>⟨aDl _,G,R.as (show [Sx.bR v0 B]=[Sx.bR v0 (B++(L.take 0).flatMap (λn:aj=>eY false n.key))] by simp),S.sn⟩) ?_;rintro⟨k,v⟩ ac u gJ dW hI;try dsimp only at hI
 obtain⟨hk,D,R,S⟩:=hI;refine aC0 S λS=>aCD S (decide ((k:Int)<(L.length:Int))) (λD S=>?_) (λD S=>?_)
 .have gZ:k<L.length:=by have:=aDw D; omega
  obtain⟨b9,ag,rfl,aa,jW,J,vH⟩:=aDN h (λ_=>I) (k) gZ;have S:=S.view0 J vH;refine adr S 2 [] [.idx k L.length,.M 0 0] (hk:=⟨gZ,G⟩) λS=>aCJ S (Sx.L [.i 0,.i 0,.i 0]++Sx.za++Sx.L [.sn,.i 0,.u 0,.i 0,.z,.z,.sn,.i 0,.sn,.i 0,.i 0,.i 0,.i 0,.sn,.i 0,.sn,.i 0,.i 0,.sn,.i 0]) λu J AZ Dv S=>aCP S 0 (off:=0) (cs:=aa.cells) I λu J S=>adr S 3 [] [.M 0 0] λS=>aC1 S (BP (pk:=false) ((ab _ (jW▸aDI gZ)).1.below S.E) (ab _ (jW▸aDI gZ)).2.amS (aap ae _ (jW▸aDI gZ))) (λaf u BO xH S=>?_);have hB:=JD ae (k+1);rw[<-lu gZ jW]at hB;obtain⟨R,ah⟩:=R.bH S (aDr (aEi AZ Dv) (aDr (Sx.Stp.Jp J) (aDx xH)));refine aCO S λS=>aC2 S R 19 ((λn:aj=>eY false n.key) aa) (jY (BO)) (by simp only[aDg]at hB |-; omega) λac u J MP R S=>aCW S λS=>adr S 3 [] [.re 20 (.i (IntKind.i64.wrap ((k:Int)+1))) (.i (k+1:Nat))] (λS=>?_) (hk:=⟨aCS Z,G⟩);have S:=S.gB 1;obtain⟨R,WO⟩:=R.bH S (aEd 1);refine aCY S gJ (λS=>?_);exact dW _ _ ((k+1),J) ⟨Z,G,R.as (show [Sx.bR J (B++(L.take k).flatMap (λn:aj=>eY false n.key)++(λn:aj=>eY false n.key) aa)]=[Sx.bR J (B++(L.take (k+1)).flatMap (λn:aj=>eY false n.key))] by rw[lu gZ jW]),S.sn⟩ (by show _-_<_-_; omega)
 refine aCB S v (λS=>?_);exact⟨_,I,by have:=R.own _ aDq; rw[aDG (by have:=aDA D; omega)]at this; exact this,S.E⟩
abbrev Vh{L:List aj}(h:aI 47 aj.cells w u0 L)(J:∀n∈L,eH K w n∧n.Lim)(hB:(iK (λn:aj=>eY false n.key) L).length<=1000000000) :
  abB prog 55 #[u0,.func (.func 56) #[.agg #[.z]] #[]] w λe w'=>∃v,e = .R v∧OwnB w.heap.size w' v (iK (λn:aj=>eY false n.key) L)∧Ext w w':=by
 obtain⟨a,cap,rfl⟩:=h.shape;have D:L.length<=9223372036854775807:=h.len;refine aCG func55 ntmps55 (λS=>?_);have S0:=S.E.size;refine adr S 4 [] [.re 7 (.int .u64 (IntKind.u64.wrap (L.length:Int))) (.int .u64 (L.length:Int))] (hk:=⟨(wrap_u64 Z),G⟩) λS=>aC1 S (fZ L.length _ Z) λv8 u D E3 S=>aCO S λS=>Oc S (some 11) (Vg S.E (bF D S0) h J hB) ?_;rintro e u ⟨D,rfl,J,QZ⟩;refine⟨_,I,QZ,λac S=>?_⟩;refine WM S λS=>aCB S D (λS=>?_);exact⟨_,I,J,S.E⟩
def Vj(base:Nat)(w:VO)(s:aY)(v:aaT)(er:Int):Prop:=(s.valid=true∧OwnB base w v (gq.app (dX s))∧er=0)∨(s.valid=false∧v = .sn∧er=18)
abbrev wJ{s:aA}(h:dw K w s)(hg:bT w) :
  abB prog 28 #[s.v] w λe w'=>∃v er,e = .R (.tuple #[v,.i er])∧Vj w.heap.size w' s.key v er∧Ext w w':=by
 skip;refine aDi func28 ntmps28 λD S=>aCE λ_ J=>aEl S 1 s.cells λD u b2 E3 al S=>apB S 2 [] [(2,.sn),(3,.i 0)] λS=>aCC<|J _ _<|aDs λ_ AB=>aCE λ_ κ6=>apB S 1 [.M 0 0] [(5,s.v)] λS=>CQ S 6 (xQ (h.below S.E) (bT.below hg S.E)) λD u J S=>apB S 1 [] [(7,.b (!s.key.valid))] λS=>aCC (κ6 _ _ ?_);refine aCX S (λJ=>?_) (λJ=>?_)
 .refine aCE λ_ Xh=>apB S 2 [] [(2,.sn),(3,.i 18)] λS=>aCC<|Xh _ _<|aD6 ?_;have hv:s.key.valid=false:=by have:=J; simpa using this
  refine Me S results28 ?_;exact⟨_,_,I,.inr ⟨hv,I,I⟩,S.E⟩
 refine aDM<|AB _ _<|aCE (λ_ xu=>?_);have hv:s.key.valid=true:=by have:=J; simpa using this
 have hB:([71,83,49]++dZ [s.w,s.h]++Px.pb s.bg++iK (eY false) (s.ns.map aj.key)).length<=1000000000:=by have:=EI hv; exact aDy this O
 rw[Q8]at hB;have R:=aDV S;refine Sx.lit S 8 9 3 [.u 71,.u 83,.u 49] 53 5 underlying53 underlying5 λ{D u b13} Cj vH S=>apB S 4 [.M 0 0,.M 0 1] [(11,.i s.w),(13,.i s.h)] λS=>Sx.news S 14 2 [.i s.w,.i s.h] (λD u am J aa S=>?_);have S0:=S.E.size;refine aEf S (some 15) (jc (L:=[s.w,s.h]) (lW (f:=λx:Int => .i x) [s.w,s.h] (S.bx 0) (by simp[maxLen])) (rM.all (L:=[s.w,s.h]) ⟨h.1,h.2.1,G⟩) Y) ?_;rintro e u ⟨aw,rfl,BO,Ny⟩;refine⟨_,I,Ny,λD S=>?_⟩;have aq:0<(dZ [s.w,s.h]).length:=by unfold dZ; rw[aEn,aDg]; have h1:0<(En.dY 10 (En.zig s.w)).length:=En.Dt 9 _; omega
 have ag:=hB;simp only[aDg]at ag;obtain⟨R,ar⟩:=R.bH S (aDr (aDx Cj) (aDr (aEi J aa) (aDx Ny)));refine asF S R 16 AA ((dR.below vH (K00 J Ny))) (jY (BO)) Z Z (by simp[maxLen]<;>omega) Z (λD u J RZ an R S=>?_);have R:=R.as (show [(⟨5,1,J,3+(dZ [s.w,s.h]).length,[.u 71,.u 83,.u 49]++(dZ [s.w,s.h]).map iy⟩:Sx.Row)]=[Sx.bR J ([71,83,49]++dZ [s.w,s.h])] by unfold Sx.bR; rw[aDg,aEb]; rfl);refine apB S 1 [] [(4,J)] λS=>aCC<|xu _ _<|aCE λ_ XV=>apB S 3 [.M 1 2] [(17,J),(19,.agg s.bg.cells.toArray)] λS=>aEf S (some 20) (vM (p:=s.bg)) ?_;rintro e u ⟨ax,rfl,J,Gq⟩;refine⟨_,I,Gq,λD S=>?_⟩;obtain⟨R,av⟩:=R.bH S (aDx Gq);refine aC2 S R 21 (Px.pb s.bg) (jY (J)) (by simp only[aDg]at hB |-; omega) λD u J ao R S=>apB S 1 [] [(4,J)] λS=>aCC<|XV _ _<|aCE λ_ af=>apB S 5 [.M 1 6] [(22,J),(24,s.s),(26,.func (.func 56) #[.agg #[.z]] #[])] λS=>aEf S (some 27) (Vh (h.2.2.1.below S.E) (λn hn=>⟨(h.2.2.2 n hn).below S.E,(rD hv).2 n hn⟩) (by simp only[aDg]at hB; omega)) ?_;rintro e u ⟨J,rfl,ah,ae⟩;refine⟨_,I,ae,λD S=>?_⟩;obtain⟨R,J⟩:=R.bH S (aDx ae);refine aC2 S R 28 (iK (λn:aj=>eY false n.key) s.ns) (jY (ah)) (by simp only[aDg]at hB |-; omega) λD u J ap R S=>apB S 1 [] [(4,J)] λS=>aCC<|af _ _<|aCE λ_ XM=>apB S 1 [] [(29,J)] (λS=>?_);have ab:OwnB w.heap.size u J (dX s.key):=rF (R.own _ aDq) (by rw[<-Q8]; rfl);have S0:=S.E.size;refine aEf S (some 30) (yg _ (dX s.key) _ (vK ab) (by have:=EI hv; omega)) ?_;rintro e u ⟨J,rfl,ai,LK⟩;refine⟨_,I,LK,λD S=>?_⟩;refine apB S 2 [] [(2,J),(3,.i 0)] λS=>aCC<|XM _ _<|rt2 S results28 ?_;exact⟨_,_,I,.inl ⟨hv,bF (ai) S0,I⟩,S.E⟩
end
section
open En
variable{α β:Type}{K:Nat}
variable{w:VO}{m:List UInt8}
abbrev aaM{m:dI}(h:m.ok w)(hn:m.num):m.key.Ok:=⟨⟨h.1,h.2.1,hn.1,hn.2.1⟩,hn.2.2⟩
abbrev aaN{t:bG}(h:t.ok w)(D:t.fit K)(J:t.q.valid=true):UG t.q:=aji (eG.nrm (bG.toQ h D)) J
abbrev OL{p:ak}(h:p.ok w)(hf:p.t.fit K)(hv:p.valid=true):p.key.Ok:=by
 obtain⟨D,J,S⟩:=uz hv;exact⟨h.1,h.2.1,h.2.2.1,h.2.2.2.1,⟨J,h.2.2.2.2.2.1⟩,h.2.2.2.2.2.2.1,aaM h.2.2.2.2.2.2.2.1 S,h.2.2.2.2.2.2.2.2.1,aaN h.2.2.2.2.2.2.2.2.2 hf D⟩
abbrev Vk{n:aj}(h:eH K w n)(hv:n.checkN=0):n.key.Ok:=by
 have J:=uD hv;have D:=EK h.1 hv;obtain⟨S,hf,aa,ab,-⟩:=h;obtain⟨h1,h2,h3,h4,h5,h6,h7,h8,h9,ac,ag,ae,af,L8⟩:=S;refine⟨D.i,aaN h4 hf J.q,D.clip,D.path,λhk=>⟨(D.fill hk).1,λx S=>?_⟩,λhk=>⟨(D.stroke hk).1,λx S=>?_⟩,D.style,λhk=>aaM af (J.img hk),BK hv⟩
 .obtain⟨p,D,rfl⟩:=aDJ.1 S; exact OL (ac.2 p D) (aa p D) ((J.shape hk).2.2.2.1 p D)
 obtain⟨p,D,rfl⟩:=aDJ.1 S; exact OL (ae.2 p D) (ab p D) ((J.shape hk).2.2.2.2.1 p D)
abbrev sD{n:List UInt8}(h:gq.app m=gq.app n):m=n:=by
 have hl:m.length=n.length:=by have:=aDc List.length h; rw[oK,oK]at this; omega
 unfold gq.app at h;exact(List.append_inj h hl).1
def Rf(lb:List UInt8):Prop:=∀(K:Nat) (W:VO) (s:aA),dw K W s->s.key.valid=true->lb≠gq.app (dX s.key)
abbrev Kq(s:aY):dX s=[71,83,49]++(iB s.w++(iB s.h++(Px.pb s.bg++iK (eY false) s.ns))):=by
 unfold dX; simp only[lY,aDz]; rfl
abbrev MR{lb:List UInt8}(h:lb=gq.app m)(D:¬m.take 3=[71,83,49]):Rf lb:=λK W s J S e=>by
 rw[h]at e;have:=sD e;rw[this,Kq]at D;exact D I
abbrev Hr{n:aj}(h:n.ok w)(D:n.t.fit 5000)(J:∀p∈n.fill,p.t.fit 5000)(S:∀p∈n.stroke,p.t.fit 5000):eH 5000 w n:=⟨h,D,J,S,by decide,by decide⟩
section
variable{l:List UInt8}{p1 p2 p3 p4 p5 k:Nat}{b1 b2 b3 b4 b5:Bool}{x y:Int}{q:bJ}{A03:List aO}
abbrev acT(h1:Got iB I64 l 3 false p1 b1 x)(h2:Got iB I64 l p1 b1 p2 b2 y)(h3:Got Px.pb (λ_=>True) l p2 b2 p3 b3 q)(h4:aja l p3 b3 p4 b4 k)(h5:jv (eY false) aO.Ok l p4 b4 k p5 b5 A03)
  (K:Nat) (W:VO) (s:aA) (J:dw K W s) (S:s.key.valid=true) (hl:l=dX s.key):(⟨x,y,q,A03⟩:aY)=s.key∧b5=false:=by
 have D:l.drop 3=iB s.key.w++(iB s.key.h++(Px.pb s.key.bg++iK (eY false) s.key.ns)):=by rw[hl,Kq]; rfl
 obtain⟨e1,c,D⟩:=h1 _ _ J.1 I D;obtain⟨e2,c,D⟩:=h2 _ _ J.2.1 c D;obtain⟨e3,c,D⟩:=h3 _ _ G c D;obtain⟨hn,-⟩:=rD S;obtain⟨e4,c,D⟩:=(K02 h4 h5 (acB false)) s.key.ns [] ⟨by simp[aA.key]; omega,λz hz=>by
  obtain⟨n,hn,rfl⟩:=aDJ.1 hz;exact Vk (J.2.2.2 n hn) (vS S n hn)⟩ c (by rw[D,aEk])
 exact⟨by rw[e1,e2,e3,e4]; rfl,c⟩
end
abbrev Vl{base:Nat}{w:VO}{s:aY}{v:aaT}{er:Int}(h:Vj base w s v er):∃D,bP w v D∧((s.valid=true∧D=gq.app (dX s)∧er=0)∨(s.valid=false∧D=[]∧er=18)):=by
 rcases h with ⟨D,S,J⟩ | ⟨D,rfl,J⟩
 .exact⟨_,vK S,.inl ⟨D,I,J⟩⟩
 exact⟨[],eX (dJ _ _ _),.inr ⟨D,I,J⟩⟩
end
section
open Go.RowKit En Go.Sx
variable{α:Type}{K:Nat}
def Vm(base:Nat)(w:VO)(lb:List UInt8)(v:aaT)(er:Int):Prop:=
 (er=0∧∃s:aA,v=s.v∧Sx.bn base (λW=>dw 5000 W s) w∧s.key.valid=true∧(∀n∈s.ns,n.t.least)∧lb=gq.app (dX s.key)) ∨
 (er≠0∧v=aA.zero.v∧((er=4∧lb.length<4)∨(er=19∧4<=lb.length∧∀m,lb≠gq.app m)∨(er=3∧(∃m,lb=gq.app m)∧Rf lb)))
abbrev ER{w:VO}{v:aaT}{lb:List UInt8}(hg:bT w)(D:jO w v lb)(hll:lb.length<=60000000) :
  abB prog 48 #[v] w λe w'=>∃v er,e = .R (.tuple #[v,.i er])∧Vm w.heap.size w' lb v er∧Ext w w':=by
 obtain⟨ad,J,rfl⟩:=D.shape;have ay:=D;clear D;refine aCG func48 ntmps48 λS=>aCF S (λu b2 J D S=>?_);have a9:=(S.bx 0).1;have bb:=S.E;refine aCR S (OE (c0:=71) (c1':=83) (c2:=49) (aI.below ay S.E) hll) ?_;rintro e u ⟨pv,er,rfl,D,J⟩;refine⟨_,I,D,λS=>?_⟩;refine aCD S ((er) != 0) (λFY S=>?_) (λFY S=>?_)
 .have agF:=J.resolve_right (λh=>absurd h.1 (by have:=FY; simpa using this));refine aCH S 0 I (λu D S=>?_);have bc:Vm w.heap.size u lb aA.zero.v er := .inr ⟨agF.1,I,agF.2.2.imp id (λh=>h.imp id (λh=>⟨h.1,by obtain⟨m,D,-⟩:=h.2; exact⟨m,D⟩,by obtain⟨m,D,hn⟩:=h.2; exact MR D hn⟩))⟩;refine Kr S 0 I (v:=aA.zero.v) (u := .i er) (λS=>⟨_,_,I,bc,S.E⟩)
 obtain⟨-,l,b,a,cap,wm,af,UK,rfl,YV,h,aa,a3,bj⟩:=J.resolve_left (λh=>h.1 (by have:=FY; simpa using this));have J:er=0:=by have:=FY; simpa using this
 have J:Ext w wm:=K00 bb YV;have aw:=J.size;have ci:=YV.size;have hl6:l.length<=60000000:=by have:=aDc List.length af; rw[oK]at this; omega
 have bd:3<=l.length:=by have:=aDc List.length UK; simp at this; omega
 have S:=S.adopt (A:=[.s a l.length cap,.i (3:Nat),.z,.z]) bj Z (λp hp=>by rcases aDp.1 hp with rfl | hp; (have:=a9; intro e; simp only at e; omega); cases hp) (λm D=>by cases D);have az:=K00 J a3;have S:=S.fl;have D:=((Ch.aT (b:=b) az)).size;have D:=a3;refine aCL S 0 I (jH D (S.bx 0) aa h bd) ?_;rintro e u ⟨DT,da,db,rfl,a4,bm,MO,BL,pI,JR⟩;refine⟨_,_,I,(K00 J BL),pI,JR,λS=>?_⟩;have cj:=pI.size;have QA:=BL.size;have Bc:=BL;have pV:=(aK (Ch.aT (b:=b) az) pI);refine aCF S λu cf yP cg S=>aCH S 0 I (λu aq S=>?_);have zO:=aCI yP aq;have xH:=aCI yP aq;have S:=S.fl;have ck:=(((Ch.trans pV (Ch.aT xH)))).size;have D:=((K00 Bc zO));refine aCL S 1 I (jH D (S.bx 1) aa h MO) ?_;rintro e u ⟨ab,dd,de,rfl,a5,bo,bp,ah,ai,bq⟩;refine⟨_,_,I,(K00 J ah),ai,bq,λS=>?_⟩;have cm:=ai.size;have L6:=ah.size;have be:=ah;have ED:=(aK ((Ch.trans pV (Ch.aT xH))) ai);refine aCN S 0 I (λu ar S=>?_);have zU:=(aCI be ar Z);have Em:=(aK ED ar);have S:=S.fl;have cn:=(Em).size;have D:=zU;refine aCL S 1 I (Ho D (S.bx 1) aa h bp) ?_;rintro e u ⟨ac,df,dh,rfl,br,bt,al,am,bu⟩;refine⟨_,_,I,(K00 J al),am,bu,λS=>?_⟩;have co:=am.size;have cq:=al.size;have vI:=al;have zV:=(aK Em am);refine aCH S 0 I (λu PU S=>?_);have Ba:=(aCI vI PU Z);have Dz:=(aK zV PU);have S:=S.fl;have ct:=(Dz).size;have D:=Ba;refine aCL S 1 I (vT D (S.bx 1) aa h bt) ?_;rintro e u ⟨di,dj,dk,rfl,bv,bw,bz,an,ao,cb⟩;refine⟨_,_,I,(K00 J an),ao,cb,λS=>?_⟩;have cu:=ao.size;have cv:=an.size;have xU:=an;have Bz:=(aK Dz ao);have S:=S.fl;have cw:=(Bz).size;have cx:=(S.bx 0).1;have cy:=(S.bx 1).1;have cz:=(S.bx 2).1;have D:=xU;refine aCL S 1 I (agC (hl6:=hl6) (hn:=bv) (hll:=by omega) D (S.bx 1) aa h bz) ?_;rintro e u ⟨dl,ae,dm,ap,rfl,dq,UU,a6,cc,dr,D,PD,cd⟩;obtain⟨UW,UY,rfl⟩:=a6.self.1.shape;refine⟨_,_,I,(K00 J D),PD,cd,λS=>?_⟩;have J:=PD.size;have J:=D.size;have J:=D;have BA:=(aK Bz PD);refine aCN S 0 I (λu D S=>?_);have Qp:=(aCI J D Z);have J:=(aK BA D);have LQ:=(bn.ch a6 D Z);have bg:=acT bm bo br bw cc;have J:dw 5000 u (⟨DT,ab,ac,UW,UY,ae⟩):=⟨a4,a5,(aDB LQ).1,λz D=>Hr ((aDB LQ).2 z D) (UU z D).1 (UU z D).2.1 (UU z D).2.2.1⟩;refine adr S 1 [] [.M 0 0] λS=>aCR S (wJ J (bT.below hg S.E)) ?_;rintro e u ⟨v5,J,rfl,ce,TB⟩;obtain⟨bs,bk,ag⟩:=Vl ce;refine⟨_,I,TB,λS=>?_⟩;refine adr S 5 [] [] λS=>aC6 S 14 [.M 1 2] [(_,_,(!(ap||((J) != 0))),.b (bs==lb))] [(51,.b ((ap||((J) != 0))||(!(bs==lb))))] ⟨λu hC g=>aC3 (lS _ _ bs lb u (((dH.below bk hC))) (eX (aI.below ay (K00 S.E hC)))),G⟩ λu av S=>aCD S ((ap||((J) != 0))||(!(bs==lb))) (λsV S=>?_) (λsV S=>?_)
 .refine aCH S 2 I (λu a7 S=>?_);have TA:=(bn.ch ((aDn LQ (K00 TB av))) a7 Z);have bh:Rf lb:=λK0 W0 s0 aw ax e=>by
   rw[af]at e;obtain⟨g1,g2⟩:=bg K0 W0 s0 aw ax (sD e);replace g1:aA.key (⟨DT,ab,ac,UW,UY,ae⟩)=s0.key:=g1;rw[g1]at ag;rcases ag with ⟨-,c2,c3⟩ | ⟨c1,-⟩
   .rw[g2,c3,c2,af,sD e]at sV; simp at sV
   rw[ax]at c1; cases c1
  refine Kr S 2 I (v:=aA.zero.v) (u := .i 3) (λS=>⟨_,_,I,.inr ⟨by decide,I,.inr (.inr ⟨I,⟨l,af⟩,bh⟩)⟩,S.E⟩)
 refine adr S 1 [] [.M 0 0] λS=>aCH S 2 I (λu a8 S=>?_);have CX:=(bn.ch ((aDn LQ (K00 TB av))) a8 Z);have hh:J=0∧bs=lb:=by have:=sV; simp at this; exact⟨this.1.2,this.2⟩
 have J:(aA.key (⟨DT,ab,ac,UW,UY,ae⟩)).valid=true∧lb=gq.app (dX (aA.key (⟨DT,ab,ac,UW,UY,ae⟩))):=by rcases ag with ⟨c1,c2,c3⟩ | ⟨-,-,c3⟩; (exact⟨c1,hh.2.symm.trans c2⟩); (exact absurd (hh.1.symm.trans c3) O)
 refine Kr S 2 I (v:=aA.v (⟨DT,ab,ac,UW,UY,ae⟩)) (u := .i 0) (λS=>⟨_,_,I,.inl ⟨I,_,I,(aDS (Sx.bn.le CX Z) λW h=>⟨a4,a5,h.1,λz D=>Hr (h.2 z D) (UU z D).1 (UU z D).2.1 (UU z D).2.2.1⟩),J.1,λz D=>(UU z D).2.2.2,J.2⟩,S.E⟩)
end
section
open Go.RowKit Go.Sx
variable{α:Type}{K:Nat}
variable{w w0:VO}{b en ec sc:Nat}{sv:aaT}{ea sa:Option Addr}{ss:List aA}
abbrev asG{base:Nat}{v:aaT}{l:List aj}{w':VO}(h:fB base v l w)(D:Ch b w w')(J:b<base):fB base v l w':=λS hs hk =>
 h S (aDy D.size hs) λi J hB=>(hk i (aDL J D.size) hB).trans (D.block i J (λe=>by simp only[aDe]at e; omega))
abbrev pJ{ev:aaT}{k:Int}{m:Bool}(D:Bx w b #[sv,ev,.i k,.b m]) :
  abB prog 27 #[.q b 0] w λe w'=>e = .R (.b (!m))∧w=w':=by
 skip;refine aCG func27 ntmps27 (λS=>?_);have S:=S.view0 D.1 (D.range 0 4 I);refine adr S 11 [6,7,8,9,10] [.M 0 3] λS=>aCB S (.b (!m)) (λS=>?_);exact⟨I,I⟩
abbrev hpred{k:Nat}(h:0<k)(D:k<=9223372036854775807):Value.i (IntKind.i64.wrap ((k:Int)-1)) = .i (k-1:Nat):=by
 have:IntKind.i64.wrap ((k:Int)-1)=((k-1:Nat):Int):=by rw[aE9]; omega
 rw[this]
abbrev acU{ev:aaT}{k:Nat}(J:Ext w0 w)(hx:Bx w b #[sv,ev,.i k,.b true])(hb:w0.heap.size<=b)(hk:k<=1000000) :
  abB prog 14 #[.q b 0] w λe w'=>(k=0∧e = .R (.i 20)∧Ext w0 w'∧Ch b w w'∧Bx w' b #[sv,ev,.i k,.b true])∨∃D,k=D+1∧e = .R (.i 0)∧Ext w0 w'∧Ch b w w'∧Bx w' b #[sv,ev,.i D,.b true]:=by
 skip;refine aC5 func14 ntmps14 J hx hb λS=>mD S (pJ (S.bx 0)) λS=>aCT S λS=>adr S 6 [] [.M 0 2] λS=>aCD S (((k:Int))==0) (λD S=>?_) (λD S=>?_)
 .refine aCB S (.i 20) (λS=>?_);have hk:k=0:=by simpa using D
  exact .inl ⟨hk,I,S.E,Ch.refl _ _,S.kD 0⟩
 have hk:0<k:=by have:=D; simp at this; omega
 refine adr S 9 [] [.M 0 2,.re 16 (.i (IntKind.i64.wrap ((k:Int)-1))) (.i (k-1:Nat))] (hk:=⟨hpred Z Z,G⟩) λS=>aCN S 0 I λu D S=>aCB S (.i 0) (λS=>?_);exact .inr ⟨k-1,Z,I,S.E,D,S.kD 0⟩
abbrev acV{k:Nat}(D:Ext w0 w)(J:Bx w b #[sv,.s ea en ec,.i k,.b true])(hb:w0.heap.size<=b)(hk:k<=1000000) :
  abB prog 15 #[.q b 0] w λe w'=>(k=en∧e = .R (.i 20)∧Ext w0 w'∧Ch b w w'∧Bx w' b #[sv,.s ea en ec,.i k,.b true])∨(k≠en∧e = .R (.i 0)∧Ext w0 w'∧Ch b w w'∧Bx w' b #[sv,.s ea en ec,.i (k+1:Nat),.b true]):=by
 skip;refine aC5 func15 ntmps15 D J hb λS=>mD S (pJ (S.bx 0)) λS=>aCT S λS=>aCV S 12 [.M 0 2,.M 0 1] [] [(16,.b (((k:Int))==(en:Int)))] trivial λu J S=>aCD S (((k:Int))==(en:Int)) (λD S=>?_) (λD S=>?_)
 .refine aCB S (.i 20) (λS=>?_);have hk:k=en:=by have:=D; simp at this; omega
  exact .inl ⟨hk,I,S.E,Ch.aT J,S.kD 0⟩
 refine adr S 9 [] [.M 0 2,.re 22 (.i (IntKind.i64.wrap ((k:Int)+1))) (.i (k+1:Nat))] (hk:=⟨aCS Z,G⟩) λS=>aCN S 0 I λu C9 S=>aCB S (.i 0) (λS=>?_);have hk:k≠en:=by have:=D; simp at this; omega
 exact .inr ⟨hk,I,S.E,Ch.trans (Ch.aT J) C9,S.kD 0⟩
abbrev agG{k:Nat}(D:Bx w b #[sv,.s ea en ec,.i k,.b true]) :
  abB prog 9 #[.q b 0] w (VH w (.tuple #[.i k,.i en])):=by
 skip;refine aCG func9 ntmps9 (λS=>?_);have S:=S.view0 D.1 (D.range 0 4 I);refine mD S (pJ D) λS=>aCT S λS=>aCV S 12 [.M 0 2,.M 0 1] [] [(2,.i k),(16,.i en)] trivial λu D S=>MG S (.i k) (.i en) (λS=>?_);exact⟨I,S.E⟩
abbrev Kt{ev:aaT}{k:Nat}{r:List aaT}{x:aA}(hx:Bx w b (.s sa ss.length sc::ev :: .i k::r).toArray)(h:aI 7 aA.cells w (.s sa ss.length sc) ss)(hk:k<ss.length)(ac:ss[k]=x) :
  abB prog 38 #[.q b 0] w (VH w x.v):=by
 skip;refine aCG func38 ntmps38 (λS=>?_);have S:=S.view0 hx.1 (hx.range 0 3 I);refine aCF S (λu b2 E3 ae S=>?_);have D:k<ss.length:=hk;obtain⟨b7,o8,rfl,DT,J,aa,ab⟩:=aDN h (λ_=>I) (k) D;have S:=S.view0 aa ab;refine aCV S 10 [.M 2 0,.M 2 2,.idx k ss.length,.M 1 0] [] [(12,DT.v)] trivial (hk:=⟨D,G⟩) λu E6 S=>aCH S 0 I λu af S=>aCU S 0 I (v:=DT.v) (λS=>?_);exact⟨by rw[<-ac,J],S.E⟩
abbrev YZ{ev:aaT}{k:Nat}(D:Bx w b #[.s sa ss.length sc,ev,.i k,.b true])(h:aI 7 aA.cells w (.s sa ss.length sc) ss)(hk:k<ss.length)(ag:dw K w ss[k])(hl:∀n∈(ss[k]).ns,n.lim)(hn:(ss[k]).ns.length<=100000) :
  abB prog 17 #[.q b 0] w λe w'=>∃m:aA,e = .R m.v∧fB w.heap.size m.s m.ns w'∧m.ns.map aj.strip=(ss[k]).ns.map aj.strip∧m.w=(ss[k]).w∧m.h=(ss[k]).h∧m.bg=(ss[k]).bg∧Ext w w':=by
 skip;refine aCG func17 ntmps17 (λS=>?_);have S:=S.view0 D.1 (D.range 0 4 I);refine aCF S λu b2 E3 J S=>mD S (pJ (D.ext S.E)) λS=>aCT S λS=>aCQ S (Kt (D.ext S.E) (h.below S.E) hk I) (λu J S=>?_);have J:=(S.bx 0).1;have aa:=S.E.size;refine aCR S (rY (ag.below S.E) hl hn) ?_;rintro e u ⟨m,rfl,ho,ab,ac,ae,af,D⟩;refine⟨_,I,D,λS=>?_⟩;refine aCH S 0 I λu D S=>aCU S 0 I (v:=m.v) (λS=>?_);exact⟨m,I,(asG ho.cp D J).le aa,ab,ac,ae,af,S.E⟩
def aN.over(e f:aN):Bool:=(e.kind==f.kind)&&((e.kind==5)||((e.kind==4)&&(e.node.id==f.node.id)))
abbrev acW{e f:aN} :
  abB prog 33 #[e.v,f.v] w (VH w (.b (e.over f))):=by
 skip;refine aCG func33 ntmps33 λS=>aCF S λu b2 J D S=>aCF S λu b5 J D S=>adr S 7 [] [.M 1 0,.M 0 0] λS=>aCD S ((e.kind) != f.kind) (λD S=>?_) (λD S=>?_)
 .refine aCB S (.z) (λS=>?_);exact⟨aJ (by unfold aN.over; simp_all),S.E⟩
 refine adr S 4 [] [.M 1 0] λS=>aCD S ((e.kind)==5) (λD S=>?_) (λD S=>?_)
 .refine aCB S (.b true) (λS=>?_);exact⟨aJ (by unfold aN.over; simp_all),S.E⟩
 refine adr S 13 [] [.M 1 0,.M 1 4,.M 0 4] λS=>aCB S (.b (((e.kind)==4)&&((e.node.id)==f.node.id))) (λS=>?_);exact⟨aJ (by unfold aN.over; simp_all),S.E⟩
end
section
open Go.RowKit En Go.Sx
variable{α:Type}{K:Nat}
variable{e:aN}{w:VO}
abbrev DW(c d:bJ)(w:VO):(binOp .neq 40 (.agg c.cells.toArray) (.agg d.cells.toArray)).run prog w = .ok (.b (!decide (c=d))) w:=by
 rw[<-Qh]; exact akH ..
def jI(e:bI):Bool:=(e.kind==1)||(e.kind==4)
def fH(e:bI):Bool:=
 if e.kind=1 then ((((((e.id) != 0)||false)||((e.depth) != 0))||(!decide (e.color=⟨0,0,0,0⟩)))||(!(decide (bQ.key=bQ.key))))
 else if e.kind=4 then ((((((e.id) != 0)||((e.index) != 0))||((e.depth) != 0))||(!decide (e.color=⟨0,0,0,0⟩)))||(!(decide (bQ.key=bQ.key))))
 else if e.kind=3 then ((!decide (e.color=⟨0,0,0,0⟩))||(!(decide (e.node=bQ.key))))
 else if e.kind=2 then (((((e.index) != 0)||((e.depth) != 0))||(!decide (e.color=⟨0,0,0,0⟩)))||(!(decide (e.node=bQ.key))))
 else if e.kind=5 then ((((((e.id) != 0)||((e.index) != 0))||((e.depth) != 0))||(!decide ((⟨0,0,0,0⟩:bJ)=⟨0,0,0,0⟩)))||(!(decide (e.node=bQ.key))))
 else true
def Vo(base:Nat)(w:VO)(e:bI)(v:aaT)(er:Int):Prop:=(fH e=true∧v = .sn∧er=2)∨(fH e=false∧jI e=true∧¬e.node.chk=0∧v = .sn∧er=17) ∨
 (fH e=false∧(jI e=true->e.node.chk=0)∧OwnB base w v (gq.app (kT e))∧er=0)
abbrev Y0(h:gQ K w e) :
  abB prog 57 #[e.v] w (VH w (.tuple #[.b (jI e.key),.b (fH e.key)])):=by
 have hK:=h.2.2.2.2.2.2.2.2;refine aCG func57 ntmps57 λS=>aCF S λu b2 J D S=>adr S 3 [] [.M 0 0] λS=>aCF S λu b6 J D S=>aCH S 0 I λu D S=>adr S 4 [] [.M 1 0] λS=>aCD S ((e.kind)==1) (λD S=>?_) (λD S=>?_)
 .refine aCN S 0 I λu J S=>aCH S 0 I λu J S=>aC6 S 27 [.M 0 1,.M 0 2,.M 0 3,.M 0 51,.cmp .neq 40 (.tmp 45) (.tmp 46) (.agg #[.u (e.color.r.toNat:Int),.u (e.color.g.toNat:Int),.u (e.color.b.toNat:Int),.u (e.color.a.toNat:Int)]) (.agg #[.u 0,.u 0,.u 0,.u 0]) (.b (!decide (e.color=⟨0,0,0,0⟩))),.M 0 4] [(_,_,(!(((((e.id) != 0)||false)||((e.depth) != 0))||(!decide (e.color=⟨0,0,0,0⟩)))),.b (bQ.key=bQ.key))] [(5,.b ((((((e.id) != 0)||false)||((e.depth) != 0))||(!decide (e.color=⟨0,0,0,0⟩)))||(!(decide (bQ.key=bQ.key)))))] ⟨λu hC g=>yX (a:=bQ) (b:=bQ) (iC u hK.1 hK.2) (iC u hK.1 hK.2),G⟩ (λu J S=>?_) (hk:=⟨(aEg (λ_=>DW e.color ⟨0,0,0,0⟩ _) X),G⟩);have hm:fH e.key=((((((e.id) != 0)||false)||((e.depth) != 0))||(!decide (e.color=⟨0,0,0,0⟩)))||(!(decide (bQ.key=bQ.key)))):=by unfold fH; rw[aDb (show e.key.kind=1 from(by have:=D; simpa using this:e.kind=1))]; try rfl
  refine adr S 11 [] [.M 1 0,.M 1 0] λS=>MG S (.b (((e.kind)==1)||((e.kind)==4))) (.b ((((((e.id) != 0)||false)||((e.depth) != 0))||(!decide (e.color=⟨0,0,0,0⟩)))||(!(decide (bQ.key=bQ.key))))) (λS=>?_);exact⟨by rw[hm]; rfl,S.E⟩
 refine aCD S ((e.kind)==4) (λrE S=>?_) (λrE S=>?_)
 .refine aCH S 0 I (λu J S=>?_);have S:=S.fl;refine aC6 S 27 [.M 0 1,.M 0 2,.M 0 3,.M 0 51,.cmp .neq 40 (.tmp 45) (.tmp 46) (.agg #[.u (e.color.r.toNat:Int),.u (e.color.g.toNat:Int),.u (e.color.b.toNat:Int),.u (e.color.a.toNat:Int)]) (.agg #[.u 0,.u 0,.u 0,.u 0]) (.b (!decide (e.color=⟨0,0,0,0⟩))),.M 0 4] [(_,_,(!(((((e.id) != 0)||((e.index) != 0))||((e.depth) != 0))||(!decide (e.color=⟨0,0,0,0⟩)))),.b (bQ.key=bQ.key))] [(5,.b ((((((e.id) != 0)||((e.index) != 0))||((e.depth) != 0))||(!decide (e.color=⟨0,0,0,0⟩)))||(!(decide (bQ.key=bQ.key)))))] ⟨λu hC g=>yX (a:=bQ) (b:=bQ) (iC u hK.1 hK.2) (iC u hK.1 hK.2),G⟩ (λu J S=>?_) (hk:=⟨(aEg (λ_=>DW e.color ⟨0,0,0,0⟩ _) X),G⟩);have hm:fH e.key=((((((e.id) != 0)||((e.index) != 0))||((e.depth) != 0))||(!decide (e.color=⟨0,0,0,0⟩)))||(!(decide (bQ.key=bQ.key)))):=by unfold fH; rw[aC9 (show ¬e.key.kind=1 from(by have:=D; simpa using this:¬e.kind=1)),aDb (show e.key.kind=4 from(by have:=rE; simpa using this:e.kind=4))]; try rfl
  refine adr S 11 [] [.M 1 0,.M 1 0] λS=>MG S (.b (((e.kind)==1)||((e.kind)==4))) (.b ((((((e.id) != 0)||((e.index) != 0))||((e.depth) != 0))||(!decide (e.color=⟨0,0,0,0⟩)))||(!(decide (bQ.key=bQ.key))))) (λS=>?_);exact⟨by rw[hm]; rfl,S.E⟩
 refine aCD S ((e.kind)==3) (λMS S=>?_) (λMS S=>?_)
 .refine aCN S 0 I λu J S=>aCN S 0 I λu J S=>aCN S 0 I λu J S=>aC6 S 27 [.M 0 1,.M 0 2,.M 0 3,.M 0 51,.cmp .neq 40 (.tmp 45) (.tmp 46) (.agg #[.u (e.color.r.toNat:Int),.u (e.color.g.toNat:Int),.u (e.color.b.toNat:Int),.u (e.color.a.toNat:Int)]) (.agg #[.u 0,.u 0,.u 0,.u 0]) (.b (!decide (e.color=⟨0,0,0,0⟩))),.M 0 4] [(_,_,(!(!decide (e.color=⟨0,0,0,0⟩))),.b (e.node.key=bQ.key))] [(5,.b ((!decide (e.color=⟨0,0,0,0⟩))||(!(decide (e.node.key=bQ.key)))))] ⟨λu hC g=>yX (a:=e.node) (b:=bQ) (h.2.2.2.2.below (K00 S.E hC)) (iC u hK.1 hK.2),G⟩ (λu J S=>?_) (hk:=⟨(aEg (λ_=>DW e.color ⟨0,0,0,0⟩ _) X),G⟩);have hm:fH e.key=((!decide (e.color=⟨0,0,0,0⟩))||(!(decide (e.node.key=bQ.key)))):=by unfold fH; rw[aC9 (show ¬e.key.kind=1 from(by have:=D; simpa using this:¬e.kind=1)),aC9 (show ¬e.key.kind=4 from(by have:=rE; simpa using this:¬e.kind=4)),aDb (show e.key.kind=3 from(by have:=MS; simpa using this:e.kind=3))]; try rfl
  refine adr S 11 [] [.M 1 0,.M 1 0] λS=>MG S (.b (((e.kind)==1)||((e.kind)==4))) (.b ((!decide (e.color=⟨0,0,0,0⟩))||(!(decide (e.node.key=bQ.key))))) (λS=>?_);exact⟨by rw[hm]; rfl,S.E⟩
 refine aCD S ((e.kind)==2) (λJ S=>?_) (λJ S=>?_)
 .refine aCN S 0 I (λu aa S=>?_);have S:=S.fl;refine aC6 S 27 [.M 0 1,.M 0 2,.M 0 3,.M 0 51,.cmp .neq 40 (.tmp 45) (.tmp 46) (.agg #[.u (e.color.r.toNat:Int),.u (e.color.g.toNat:Int),.u (e.color.b.toNat:Int),.u (e.color.a.toNat:Int)]) (.agg #[.u 0,.u 0,.u 0,.u 0]) (.b (!decide (e.color=⟨0,0,0,0⟩))),.M 0 4] [(_,_,(!((((e.index) != 0)||((e.depth) != 0))||(!decide (e.color=⟨0,0,0,0⟩)))),.b (e.node.key=bQ.key))] [(5,.b (((((e.index) != 0)||((e.depth) != 0))||(!decide (e.color=⟨0,0,0,0⟩)))||(!(decide (e.node.key=bQ.key)))))] ⟨λu hC g=>yX (a:=e.node) (b:=bQ) (h.2.2.2.2.below (K00 S.E hC)) (iC u hK.1 hK.2),G⟩ (λu Gs S=>?_) (hk:=⟨(aEg (λ_=>DW e.color ⟨0,0,0,0⟩ _) X),G⟩);have hm:fH e.key=(((((e.index) != 0)||((e.depth) != 0))||(!decide (e.color=⟨0,0,0,0⟩)))||(!(decide (e.node.key=bQ.key)))):=by unfold fH; rw[aC9 (show ¬e.key.kind=1 from(by have:=D; simpa using this:¬e.kind=1)),aC9 (show ¬e.key.kind=4 from(by have:=rE; simpa using this:¬e.kind=4)),aC9 (show ¬e.key.kind=3 from(by have:=MS; simpa using this:¬e.kind=3)),aDb (show e.key.kind=2 from(by have:=J; simpa using this:e.kind=2))]; try rfl
  refine adr S 11 [] [.M 1 0,.M 1 0] λS=>MG S (.b (((e.kind)==1)||((e.kind)==4))) (.b (((((e.index) != 0)||((e.depth) != 0))||(!decide (e.color=⟨0,0,0,0⟩)))||(!(decide (e.node.key=bQ.key))))) (λS=>?_);exact⟨by rw[hm]; rfl,S.E⟩
 refine aCD S ((e.kind)==5) (λI9 S=>?_) (λI9 S=>?_)
 .refine aCH S 0 I λu ab S=>aC6 S 27 [.M 0 1,.M 0 2,.M 0 3,.M 0 51,.cmp .neq 40 (.tmp 45) (.tmp 46) (.agg #[.u 0,.u 0,.u 0,.u 0]) (.agg #[.u 0,.u 0,.u 0,.u 0]) (.b (!decide ((⟨0,0,0,0⟩:bJ)=⟨0,0,0,0⟩))),.M 0 4] [(_,_,(!(((((e.id) != 0)||((e.index) != 0))||((e.depth) != 0))||(!decide ((⟨0,0,0,0⟩:bJ)=⟨0,0,0,0⟩)))),.b (e.node.key=bQ.key))] [(5,.b ((((((e.id) != 0)||((e.index) != 0))||((e.depth) != 0))||(!decide ((⟨0,0,0,0⟩:bJ)=⟨0,0,0,0⟩)))||(!(decide (e.node.key=bQ.key)))))] ⟨λu hC g=>yX (a:=e.node) (b:=bQ) (h.2.2.2.2.below (K00 S.E hC)) (iC u hK.1 hK.2),G⟩ (λu ac S=>?_) (hk:=⟨(aEg (λ_=>DW ⟨0,0,0,0⟩ ⟨0,0,0,0⟩ _) X),G⟩);have hm:fH e.key=((((((e.id) != 0)||((e.index) != 0))||((e.depth) != 0))||(!decide ((⟨0,0,0,0⟩:bJ)=⟨0,0,0,0⟩)))||(!(decide (e.node.key=bQ.key)))):=by unfold fH; rw[aC9 (show ¬e.key.kind=1 from(by have:=D; simpa using this:¬e.kind=1)),aC9 (show ¬e.key.kind=4 from(by have:=rE; simpa using this:¬e.kind=4)),aC9 (show ¬e.key.kind=3 from(by have:=MS; simpa using this:¬e.kind=3)),aC9 (show ¬e.key.kind=2 from(by have:=J; simpa using this:¬e.kind=2)),aDb (show e.key.kind=5 from(by have:=I9; simpa using this:e.kind=5))]; try rfl
  refine adr S 11 [] [.M 1 0,.M 1 0] λS=>MG S (.b (((e.kind)==1)||((e.kind)==4))) (.b ((((((e.id) != 0)||((e.index) != 0))||((e.depth) != 0))||(!decide ((⟨0,0,0,0⟩:bJ)=⟨0,0,0,0⟩)))||(!(decide (e.node.key=bQ.key))))) (λS=>?_);exact⟨by rw[hm]; rfl,S.E⟩
 have hm:fH e.key=true:=by unfold fH; rw[aC9 (show ¬e.key.kind=1 from(by have:=D; simpa using this:¬e.kind=1)),aC9 (show ¬e.key.kind=4 from(by have:=rE; simpa using this:¬e.kind=4)),aC9 (show ¬e.key.kind=3 from(by have:=MS; simpa using this:¬e.kind=3)),aC9 (show ¬e.key.kind=2 from(by have:=J; simpa using this:¬e.kind=2)),aC9 (show ¬e.key.kind=5 from(by have:=I9; simpa using this:¬e.kind=5))]
 have J:jI e.key=false:=by unfold jI; show((e.kind==1)||(e.kind==4))=false; simp; exact⟨by have:=D; simpa using this,by have:=rE; simpa using this⟩
 refine MG S (.z) (.b true) (λS=>?_);exact⟨by rw[hm,J],S.E⟩
abbrev agH{pk:Bool}(h:gQ K w e)(hl:e.kind=1∨e.kind=4->e.node.Lim)(ab:(Gy pk e.key).length<=1000000000) :
  abB prog 59 #[.agg #[.b pk],e.v] w λr w'=>∃v,r = .R v∧OwnB w.heap.size w' v (Gy pk e.key)∧Ext w w':=by
 skip;refine aCG func59 ntmps59 λS=>aCJ S [.b pk] λu b2 J D S=>aCJ S e.cells λu b5 J D S=>adr S 9 [] [.M 0 0,.M 0 1,.M 0 2,.M 0 3] λS=>aCJ S [.i e.kind,.i e.id,.i e.index,.i e.depth] (λu b9 J D S=>?_);have D:=(S.bx 0).1;have ai:=(S.bx 1).1;have al:=(S.bx 2).1;have S0:=S.E.size;refine aC1 S (jc (L:=[e.kind,e.id,e.index,e.depth]) (lW (f:=λx:Int => .i x) [e.kind,e.id,e.index,e.depth] (S.bx 0) (by simp[maxLen])) (rM.all (L:=[e.kind,e.id,e.index,e.depth]) ⟨h.1,h.2.1,h.2.2.1,h.2.2.2.1,G⟩) Y) (λae u J D S=>?_);have S:=S.gB 1;have S:=S.lq;have R:=lC (aDV S) J (λp D=>by rcases aDp.1 D with rfl | D; (exact ai); rcases aDp.1 D with rfl | D; (exact al); cases D) S0;refine adr S 5 [] [.M 0 0] λS=>aCD S ((e.kind)==1) (λJ S=>?_) (λJ S=>?_)
 .refine aCD S ((e.kind)==1) (λrE S=>?_) (λrE S=>?_)
  .have hk:e.kind=1∨e.kind=4:=(.inl (by have:=J; simpa using this));have D:Gy pk e.key=dZ [e.kind,e.id,e.index,e.depth]++eY pk e.node.key:=by unfold Gy; rw[aDb (show e.key.kind=1∨e.key.kind=4 from hk)]; rfl
   have hB:(dZ [e.kind,e.id,e.index,e.depth]++eY pk e.node.key).length<=1000000000:=D▸ab;refine adr S 4 [] [.M 1 0,.M 0 4] λS=>aC1 S (BP (pk:=pk) (h.2.2.2.2.below S.E) (hl hk).amS (by simp only[aDg]at hB; omega)) (λv9 u aa RZ S=>?_);obtain⟨R,ap⟩:=R.bH S (aDx RZ);refine aCO S λS=>aC2 S R 26 (eY pk e.node.key) (jY (aa)) (by simp only[aDg]at hB |-; omega) λac u af am R S=>aCW S λS=>aCB S af (λS=>?_);exact⟨_,I,rF (R.own _ aDq) D.symm,S.E⟩
  rw[J]at rE; cases rE
 refine aCD S ((e.kind)==4) (λMS S=>?_) (λMS S=>?_)
 .have hk:e.kind=1∨e.kind=4:=(.inr (by have:=MS; simpa using this));have D:Gy pk e.key=dZ [e.kind,e.id,e.index,e.depth]++eY pk e.node.key:=by unfold Gy; rw[aDb (show e.key.kind=1∨e.key.kind=4 from hk)]; rfl
  have hB:(dZ [e.kind,e.id,e.index,e.depth]++eY pk e.node.key).length<=1000000000:=D▸ab;refine adr S 4 [] [.M 1 0,.M 0 4] λS=>aC1 S (BP (pk:=pk) (h.2.2.2.2.below S.E) (hl hk).amS (by simp only[aDg]at hB; omega)) (λv9 u aa Wy S=>?_);obtain⟨R,aq⟩:=R.bH S (aDx Wy);refine aCO S λS=>aC2 S R 26 (eY pk e.node.key) (jY (aa)) (by simp only[aDg]at hB |-; omega) λac u ag an R S=>aCW S λS=>aCB S ag (λS=>?_);exact⟨_,I,rF (R.own _ aDq) D.symm,S.E⟩
 refine aCD S ((e.kind)==5) (λDX S=>?_) (λDX S=>?_)
 .have D:Gy pk e.key=dZ [e.kind,e.id,e.index,e.depth]++Px.pb e.color:=by unfold Gy; rw[aC9 (show ¬(e.key.kind=1∨e.key.kind=4)from λhh=>by have h1:=J; have h4:=MS; simp at h1 h4; exact hh.elim h1 h4),aDb (show e.key.kind=5 from(by have:=DX; simpa using this:e.kind=5))]; rfl
  have hB:(dZ [e.kind,e.id,e.index,e.depth]++Px.pb e.color).length<=1000000000:=D▸ab;refine adr S 3 [] [.M 0 51] λS=>aC1 S (vM (p:=e.color)) (λv9 u aa LK S=>?_);obtain⟨R,ar⟩:=R.bH S (aDx LK);refine aCO S λS=>aC2 S R 33 (Px.pb e.color) (jY (aa)) (by simp only[aDg]at hB |-; omega) λac u ah ao R S=>aCW S λS=>aCB S ah (λS=>?_);exact⟨_,I,rF (R.own _ aDq) D.symm,S.E⟩
 have D:Gy pk e.key=dZ [e.kind,e.id,e.index,e.depth]:=by unfold Gy; rw[aC9 (show ¬(e.key.kind=1∨e.key.kind=4)from λhh=>by have h1:=J; have h4:=MS; simp at h1 h4; exact hh.elim h1 h4),aC9 (show ¬e.key.kind=5 from(by have:=DX; simpa using this:¬e.kind=5)),aEk]; rfl
 refine aCB S ae (λS=>?_);exact⟨_,I,rF (R.own _ aDq) D.symm,S.E⟩
abbrev aaO(h:e.kind=1∨e.kind=4->e.node.checkN=0):(Gy false e.key).length<=9000000:=by
 unfold Gy;have D:=iQ [e.key.kind,e.key.id,e.key.index,e.key.depth];simp only[aDU,aEt]at D;rw[aDg];split
 .rename_i hk;have:=UA (pk:=false) (uD (h hk));have e0:e.key.node=e.node.key:=I;rw[e0]; omega
 split
 .simp[Px.pb]; omega
 simp; omega
abbrev yA(h:gQ K w e)(hg:bT w) :
  abB prog 31 #[e.v] w λr w'=>∃v er,r = .R (.tuple #[v,.i er])∧Vo w.heap.size w' e.key v er∧Ext w w':=by
 skip;refine aDi func31 ntmps31 λD S=>aCE λ_ J=>aEl S 1 e.cells λD u b2 E3 ae S=>apB S 2 [] [(2,.sn),(3,.i 0)] λS=>aCC<|J _ _<|aCE λ_ AB=>apB S 1 [.M 0 0] [(7,e.v)] λS=>CQ S 8 (Y0 (h.below S.E)) λD u J S=>apB S 5 [] [(4,.b (jI e.key)),(5,.b (fH e.key))] λS=>aCC<|AB _ _<|aDs λ_ Xg=>aCE λ_ J=>apB S 1 [] [(11,.b (fH e.key))] λS=>aCC (J _ _ ?_);refine aCX S (λJ=>?_) (λJ=>?_)
 .refine aCE λ_ xu=>apB S 2 [] [(2,.sn),(3,.i 2)] λS=>aCC<|xu _ _<|rt2 S results31 ?_;exact⟨_,_,I,.inl ⟨by have:=J; simpa using this,I,I⟩,S.E⟩
 refine aDM<|Xg _ _<|aDs λ_ Qy=>aCE λ_ LJ=>aer S 7 [.M 0 4] [(_,_,(jI e.key),.b (e.node.checkN==0))] [(18,.b ((jI e.key)&&(!(e.node.checkN==0))))] ⟨λu hC g=>LM (h.2.2.2.2.below (K00 S.E hC)) (bT.below hg (K00 S.E hC)),G⟩ λD u Gn S=>aCC (LJ _ _ ?_);refine aCX S (λRh=>?_) (λRh=>?_)
 .refine aCE λ_ IL=>apB S 2 [] [(2,.sn),(3,.i 17)] λS=>aCC<|IL _ _<|rt2 S results31 ?_;exact⟨_,_,I,.inr (.inl ⟨by have:=J; simpa using this,by have:=Rh; simp at this; exact this.1,by have:=Rh; simp at this; rw[show e.key.node=e.node.key from rfl,lg]; exact this.2,I,I⟩),S.E⟩
 refine aDM<|Qy _ _<|aCE (λ_ xA=>?_);have hm:fH e.key=false:=by have:=J; simpa using this
 have hv:jI e.key=true->e.node.checkN=0:=λhh=>by have:=Rh; simp[hh]at this; exact this
 have J:(Gy false e.key).length<=9000000:=aaO λhk=>hv (by unfold jI; show((e.kind==1)||(e.kind==4))=true; simpa using hk);have R:=aDV S;refine Sx.lit S 19 20 3 [.u 71,.u 69,.u 49] 53 5 underlying53 underlying5 λ{D u b19} yP Ri S=>apB S 2 [.M 0 0] [(21,.agg #[.z]),(22,e.v)] λS=>aEf S (some 23) (agH (pk:=false) (h.below S.E) (λhk=>uD (hv (by unfold jI; show((e.kind==1)||(e.kind==4))=true; simpa using hk))) Z) ?_;rintro e u ⟨ah,rfl,J,zO⟩;refine⟨_,I,zO,λD S=>?_⟩;have af:0<(Gy false e.key).length:=by unfold Gy dZ; rw[aEn,aDz,aDg]; have h1:0<(En.dY 10 (En.zig e.kind)).length:=En.Dt 9 _; exact Nat.add_pos_left h1 _
 obtain⟨R,ag⟩:=R.bH S (aDr (aDx yP) (aDx zO));refine asF S R 24 AA ((dR.below Ri zO)) (jY (J)) Z Z (by simp[maxLen]<;>omega) Z (λD u J WI MP R S=>?_);have R:=R.as (show [(⟨5,1,J,3+(Gy false e.key).length,[.u 71,.u 69,.u 49]++(Gy false e.key).map iy⟩:Sx.Row)]=[Sx.bR J (kT e.key)] by unfold Sx.bR kT; rw[aDg,aEb]; rfl);have aa:OwnB w.heap.size u J (kT e.key):=R.own _ aDq;have S0:=S.E.size;refine aEf S (some 25) (yg _ (kT e.key) _ (vK aa) (by unfold kT; simp only[aDg,aDU,aEt]; omega)) ?_;rintro e u ⟨J,rfl,ab,Gq⟩;refine⟨_,I,Gq,λD S=>?_⟩;refine apB S 2 [] [(2,J),(3,.i 0)] λS=>aCC<|xA _ _<|rt2 S results31 ?_;exact⟨_,_,I,.inr (.inr ⟨hm,λhh=>by rw[show e.key.node=e.node.key from rfl,lg]; exact hv hh,bF (ab) S0,I⟩),S.E⟩
structure OM (e:bI):Prop where
  i:I64 e.kind∧I64 e.id∧I64 e.index∧I64 e.depth
  node:e.kind=1∨e.kind=4->e.node.Ok
  aaP:¬(e.kind=1∨e.kind=4)->e.node=bQ.key
  color:¬e.kind=5->e.color=⟨0,0,0,0⟩
def BQ(e:bI):List UInt8:=if e.kind=1∨e.kind=4 then eY false e.node else if e.kind=5 then Px.pb e.color else []
abbrev Ku(e:bI):Gy false e=iB e.kind++(iB e.id++(iB e.index++(iB e.depth++BQ e))):=by
 unfold Gy BQ; simp only[lY,aDz]; rfl
section
variable{l:List UInt8}{p p1 p2 p3 p4 p5:Nat}{bad b1 b2 b3 b4 b5:Bool}{kd id ix dp:Int}{n:aO}{q:bJ}
def aaQ(l:List UInt8)(p:Nat)(bad:Bool)(p4:Nat)(b4:Bool)(kd id ix dp:Int):Prop:=∀y r,OM y->bad=false->l.drop p=Gy false y++r->kd=y.kind∧id=y.id∧ix=y.index∧dp=y.depth∧b4=false∧l.drop p4=BQ y++r
abbrev ajO(h1:Got iB I64 l p bad p1 b1 kd)(h2:Got iB I64 l p1 b1 p2 b2 id)(h3:Got iB I64 l p2 b2 p3 b3 ix)(h4:Got iB I64 l p3 b3 p4 b4 dp):aaQ l p bad p4 b4 kd id ix dp:=λy r J S D=>by
 rw[Ku]at D;simp only[aDz]at D;obtain⟨i1,i2,i3,i4⟩:=J.i;obtain⟨J,k,D⟩:=h1 _ _ i1 S D;obtain⟨S,k,D⟩:=h2 _ _ i2 k D;obtain⟨e3,k,D⟩:=h3 _ _ i3 k D;obtain⟨e4,k,D⟩:=h4 _ _ i4 k D;exact⟨J,S,e3,e4,k,D⟩
abbrev Kv(hC:aaQ l p bad p4 b4 kd id ix dp)(hk:kd=1∨kd=4)(h5:Got (eY false) aO.Ok l p4 b4 p5 b5 n):Got (Gy false) OM l p bad p5 b5 ⟨kd,id,ix,dp,n,⟨0,0,0,0⟩⟩:=λy r S J D=>by
 obtain⟨e1,e2,e3,e4,k,D⟩:=hC y r S J D;have J:y.kind=1∨y.kind=4:=e1▸hk;unfold BQ at D;rw[aDb J]at D;obtain⟨e5,k,D⟩:=h5 _ _ (S.node J) k D;exact⟨by rw[e1,e2,e3,e4,e5,<-S.color Z],k,D⟩
abbrev acX(hC:aaQ l p bad p4 b4 kd id ix dp)(hk:kd=5)(h5:Got Px.pb (λ_=>True) l p4 b4 p5 b5 q):Got (Gy false) OM l p bad p5 b5 ⟨kd,id,ix,dp,bQ.key,q⟩:=λy r S J D=>by
 obtain⟨e1,e2,e3,e4,k,D⟩:=hC y r S J D;have J:y.kind=5:=e1▸hk;unfold BQ at D;rw[aC9 Z,aDb J]at D;obtain⟨J,k,D⟩:=h5 _ _ G k D;exact⟨by rw[e1,e2,e3,e4,J,<-S.aaP Z],k,D⟩
abbrev ajP(hC:aaQ l p bad p4 b4 kd id ix dp)(h1:¬kd=1)(h4:¬kd=4)(h5:¬kd=5):Got (Gy false) OM l p bad p4 b4 ⟨kd,id,ix,dp,bQ.key,⟨0,0,0,0⟩⟩:=λy r S hb D=>by
 obtain⟨J,e2,e3,e4,k,D⟩:=hC y r S hb D;have g1:¬y.kind=1:=J▸h1;have g4:¬y.kind=4:=J▸h4;have g5:¬y.kind=5:=J▸h5;unfold BQ at D;rw[aC9 Z,aC9 g5,aD8]at D;exact⟨by rw[J,e2,e3,e4,<-S.aaP Z,<-S.color g5],k,D⟩
end
variable{w:VO}{lb:List UInt8}{v:aaT}
abbrev Y1{e:aN}(h:gQ K w e)(D:fH e.key=false)(J:jI e.key=true->e.key.node.chk=0):OM e.key:=by
 have S:∀k,e.key.kind=k->True:=λ_ _=>trivial;refine⟨⟨h.1,h.2.1,h.2.2.1,h.2.2.2.1⟩,λhk=>?_,λhk=>?_,λhk=>?_⟩
 .have:=J (by unfold jI; simpa using hk);rw[show e.key.node=e.node.key from rfl,lg]at this;exact Vk h.2.2.2.2 this
 .unfold fH at D;rw[aC9 Z,aC9 Z]at D;split at D
  .simp at D; exact D.2
  split at D
  .simp at D; exact D.2
  split at D
  .simp at D; exact D.2
  cases D
 unfold fH at D;split at D
 .simp at D; exact D.2
 split at D
 .simp at D; exact D.2
 split at D
 .simp at D; exact D.1
 split at D
 .simp at D; exact D.1.2
 first
  | cases D
  | (split at D
     · contradiction
     · cases D)
def aN.zero:aN:=⟨0,0,0,0,bQ,⟨0,0,0,0⟩⟩
def Y2(lb:List UInt8):Prop:=∀(K:Nat) (W:VO) (e:aN),gQ K W e->fH e.key=false->(jI e.key=true->e.key.node.chk=0)->lb≠gq.app (kT e.key)
def Vq(base:Nat)(w:VO)(lb:List UInt8)(v:aaT)(er:Int):Prop:=
  (er=0∧∃e:aN,v=e.v∧Sx.bn base (λW=>gQ 5000 W e) w∧fH e.key=false∧(jI e.key=true->e.key.node.chk=0)∧e.node.t.least∧lb=gq.app (kT e.key)) ∨
  (er≠0∧v=aN.zero.v∧((er=4∧lb.length<4)∨(er=19∧4<=lb.length∧∀m,lb≠gq.app m)∨(er=3∧(∃m,lb=gq.app m)∧Y2 lb)))
abbrev Rj{m:List UInt8}(h:lb=gq.app m)(D:¬m.take 3=[71,69,49]):Y2 lb:=λK W s J S h2 e=>by
 rw[h]at e;have:=sD e;rw[this]at D;exact D I
abbrev Vr{base:Nat}{e:bI}{er:Int}(h:Vo base w e v er):∃D,bP w v D∧((fH e=false∧(jI e=true->e.node.chk=0)∧D=gq.app (kT e)∧er=0)∨(¬(fH e=false∧(jI e=true->e.node.chk=0))∧¬er=0)):=by
 rcases h with ⟨D,rfl,J⟩ | ⟨D,S,J,rfl,h5⟩ | ⟨D,S,J,h4⟩
 .exact⟨[],eX (dJ _ _ _),.inr ⟨λh=>(by rw[D]at h; exact absurd h.1 O),Z⟩⟩
 .exact⟨[],eX (dJ _ _ _),.inr ⟨λh=>J (h.2 S),Z⟩⟩
 exact⟨_,vK J,.inl ⟨D,S,I,h4⟩⟩
abbrev aaR:bQ.fits:=by obtain⟨-,D,J,S,-⟩:=iC (K:=5000) default O O; exact⟨D,J,S,⟨.inl ⟨I,I,I,I⟩,.inl ⟨I,I,I,I⟩,.inl ⟨I,I,I,I⟩,.inl ⟨I,I,I,I⟩,.inl ⟨I,I,I,I⟩,.inl ⟨I,I,I,I⟩⟩⟩
abbrev an5{w0:VO}{b p cap:Nat}{a:Option Addr}{bad:Bool}{l:List UInt8}(J:Ext w0 w)(hx:Bx w b #[.s a l.length cap,.i p,.b bad,.z])(hb:w0.heap.size<=b)(h:jO w0 (.s a l.length cap) l)(hp:p<=l.length)(hll:l.length<=60000000) :
    abB prog 82 #[.q b 0] w λe w'=>∃(t:aN) (p':Nat) (D:Bool),e = .R t.v∧(I64 t.kind∧I64 t.id∧I64 t.index∧I64 t.depth)∧t.node.fits∧Sx.bn w.heap.size (λW=>t.node.ok W) w'∧Got (Gy false) OM l p bad p' D t.key∧MN w0 w w' b a l cap false p' D:=by
 skip;refine aC5 func82 ntmps82 J hx hb λS=>aCF S (λu b2 J D S=>?_);have D:=(((Ch.trans (Ch.refl b w) (Ch.aT J)))).size;refine aCF S λu b6 E7 D S=>aCF S λu D qC cg S=>ZV S 4 λS=>aCM S λS=>adr S 5 [] [.M 0 0] (λS=>?_);have S:=S.fl;have D:=(((Ch.trans (Ch.refl b w) (Ch.aT (K00 J (K00 E7 qC)))))).size;refine aCL S 3 I (jH S.E (S.bx 3) (S.old 3) h hp) ?_;rintro e u ⟨D,dh,di,rfl,ae,a9,QI,QJ,vU,QK⟩;refine⟨_,_,I,QJ,vU,QK,λS=>?_⟩;have ci:=vU.size;have oG:=(aK ((Ch.trans (Ch.refl b w) (Ch.aT (K00 J (K00 E7 qC))))) vU);refine aCN S 1 I (λu J S=>?_);have sW:=(aK oG J);refine aCM S λS=>adr S 5 [] [.M 0 1] (λS=>?_);have S:=S.fl;have J:=(sW).size;refine aCL S 3 I (jH S.E (S.bx 3) (S.old 3) h QI) ?_;rintro e u ⟨lN,dj,dk,rfl,af,bb,J,YL,J5,bc⟩;refine⟨_,_,I,YL,J5,bc,λS=>?_⟩;have cj:=J5.size;have zU:=(aK sW J5);refine aCN S 1 I (λu GH S=>?_);have qH:=(aK zU GH);refine aCM S λS=>adr S 5 [] [.M 0 2] (λS=>?_);have S:=S.fl;have ck:=(qH).size;refine aCL S 3 I (jH S.E (S.bx 3) (S.old 3) h J) ?_;rintro e u ⟨J,dl,dm,rfl,ag,bd,be,bg,J7,bh⟩;refine⟨_,_,I,bg,J7,bh,λS=>?_⟩;have cm:=J7.size;have Dz:=(aK qH J7);refine aCN S 1 I (λu Ed S=>?_);have zX:=(aK Dz Ed);refine aCM S λS=>adr S 5 [] [.M 0 3] (λS=>?_);have S:=S.fl;have cn:=(zX).size;refine aCL S 3 I (jH S.E (S.bx 3) (S.old 3) h be) ?_;rintro e u ⟨aa,dq,dr,rfl,ah,bj,ai,bk,YM,bm⟩;refine⟨_,_,I,bk,YM,bm,λS=>?_⟩;have co:=YM.size;have xX:=(aK zX YM);refine aCN S 1 I (λu ay S=>?_);have rJ:=(aK xX ay);refine aCT S (λS=>?_);have ac:=ajO a9 bb bd bj;refine adr S 4 [] [.M 1 0] λS=>aCD S ((D)==1) (λsV S=>?_) (λsV S=>?_)
 .refine aCD S ((D)==1) (λYX S=>?_) (λYX S=>?_)
  .have S:=S.fl;have cq:=(rJ).size;have ct:=(S.bx 0).1;have cu:=(S.bx 1).1;have cv:=(S.bx 2).1;have cw:=(S.bx 3).1;refine aCL S 3 I (YO (hll:=hll) S.E (S.bx 3) (S.old 3) h ai) ?_;rintro e u ⟨av,ds,dt,rfl,bo,bp,bq,br,bs,am,bt⟩;refine⟨_,_,I,bs,am,bt,λS=>?_⟩;have cx:=am.size;have TA:=(aK rJ am);refine aCH S 1 I (λu ap S=>?_);have Uh:=(aK TA ap);have CX:=(bn.ch bp ap Z);refine adr S 1 [] [.M 1 0] λS=>aCH S 2 I (λu WB S=>?_);have Dy:=(aK Uh WB);have CY:=(bn.ch CX WB Z);have hG:=Kv ac (.inl (by have:=sV; simpa using this)) bq;have S:=S.fl;refine aCU S 2 I (v := .agg (Sx.L [.i D,.i lN,.i J,.i aa]++av.cells++Sx.L [.u 0,.u 0,.u 0,.u 0]).toArray) (λS=>?_);exact⟨⟨D,lN,J,aa,av,⟨0,0,0,0⟩⟩,_,_,I,⟨ae,af,ag,ah⟩,bo,(Sx.bn.le CY Z),hG,br,S.E,Dy,S.kD 3⟩
  rw[sV]at YX; cases YX
 refine aCD S ((D)==4) (λab S=>?_) (λab S=>?_)
 .have S:=S.fl;have cy:=(rJ).size;have cz:=(S.bx 0).1;have c0:=(S.bx 1).1;have da:=(S.bx 2).1;have db:=(S.bx 3).1;refine aCL S 3 I (YO (hll:=hll) S.E (S.bx 3) (S.old 3) h ai) ?_;rintro e u ⟨aw,du,dx,rfl,bu,bv,bw,bz,ca,an,cb⟩;refine⟨_,_,I,ca,an,cb,λS=>?_⟩;have dd:=an.size;have Ud:=(aK rJ an);refine aCH S 1 I (λu aq S=>?_);have I5:=(aK Ud aq);have PV:=(bn.ch bv aq Z);refine adr S 1 [] [.M 1 0] λS=>aCH S 2 I (λu ar S=>?_);have a5:=(aK I5 ar);have a6:=(bn.ch PV ar Z);have hG:=Kv ac (.inr (by have:=ab; simpa using this)) bw;have S:=S.fl;refine aCU S 2 I (v := .agg (Sx.L [.i D,.i lN,.i J,.i aa]++aw.cells++Sx.L [.u 0,.u 0,.u 0,.u 0]).toArray) (λS=>?_);exact⟨⟨D,lN,J,aa,aw,⟨0,0,0,0⟩⟩,_,_,I,⟨ae,af,ag,ah⟩,bu,(Sx.bn.le a6 Z),hG,bz,S.E,a5,S.kD 3⟩
 refine aCD S ((D)==5) (λal S=>?_) (λal S=>?_)
 .have S:=S.fl;have de:=(rJ).size;refine aCL S 3 I (Ho S.E (S.bx 3) (S.old 3) h ai) ?_;rintro e u ⟨ax,dy,dz,rfl,cc,cd,ce,ao,cf⟩;refine⟨_,_,I,ce,ao,cf,λS=>?_⟩;have df:=ao.size;have Qk:=(aK rJ ao);refine aCH S 1 I (λu az S=>?_);have Qm:=(aK Qk az);refine adr S 1 [] [.M 1 0] λS=>aCH S 2 I (λu a3 S=>?_);have a7:=(aK Qm a3);have hG:=acX ac (by have:=al; simpa using this) cc;have S:=S.fl;refine aCU S 2 I (v := .agg (Sx.L [.i D,.i lN,.i J,.i aa,.i 0,.i 0,.i 0]++Sx.za++Sx.L [.sn,.i 0,.u 0,.i 0,.z,.z,.sn,.i 0,.sn,.i 0,.i 0,.i 0,.i 0,.sn,.i 0,.sn,.i 0,.i 0,.sn,.i 0]++ax.cells).toArray) (λS=>?_);exact⟨⟨D,lN,J,aa,bQ,ax⟩,_,_,I,⟨ae,af,ag,ah⟩,aaR,(λW _ _=>(iC (K:=20) W O O).1),hG,cd,S.E,a7,S.kD 3⟩
 refine adr S 1 [] [.M 1 0] λS=>aCH S 2 I (λu a4 S=>?_);have a8:=(aK rJ a4);have hG:=ajP ac (by have:=sV; simpa using this) (by have:=ab; simpa using this) (by have:=al; simpa using this);have S:=S.fl;refine aCU S 2 I (v := .agg (Sx.L [.i D,.i lN,.i J,.i aa,.i 0,.i 0,.i 0]++Sx.za++Sx.L [.sn,.i 0,.u 0,.i 0,.z,.z,.sn,.i 0,.sn,.i 0,.i 0,.i 0,.i 0,.sn,.i 0,.sn,.i 0,.i 0,.sn,.i 0,.u 0,.u 0,.u 0,.u 0]).toArray) (λS=>?_);exact⟨⟨D,lN,J,aa,bQ,⟨0,0,0,0⟩⟩,_,_,I,⟨ae,af,ag,ah⟩,aaR,(λW _ _=>(iC (K:=20) W O O).1),hG,ai,S.E,a8,S.kD 3⟩
abbrev GI(hg:bT w)(D:jO w v lb)(hll:lb.length<=60000000) :
    abB prog 49 #[v] w λe w'=>∃v er,e = .R (.tuple #[v,.i er])∧Vq w.heap.size w' lb v er∧Ext w w':=by
 obtain⟨ad,J,rfl⟩:=D.shape;have am:=D;clear D;refine aCG func49 ntmps49 λS=>aCF S (λu b2 J D S=>?_);have ap:=(S.bx 0).1;have aq:=S.E;refine aCR S (OE (c0:=71) (c1':=69) (c2:=49) (aI.below am S.E) hll) ?_;rintro e u ⟨pv,er,rfl,J,D⟩;refine⟨_,I,J,λS=>?_⟩;refine aCD S ((er) != 0) (λFY S=>?_) (λFY S=>?_)
 .have agF:=D.resolve_right (λh=>absurd h.1 (by have:=FY; simpa using this));refine aCH S 0 I (λu J S=>?_);have ar:Vq w.heap.size u lb aN.zero.v er := .inr ⟨agF.1,I,agF.2.2.imp id (λh=>h.imp id (λh=>⟨h.1,by obtain⟨m,J,-⟩:=h.2; exact⟨m,J⟩,by obtain⟨m,J,hn⟩:=h.2; exact Rj J hn⟩))⟩;refine Kr S 0 I (v:=aN.zero.v) (u := .i er) (λS=>⟨_,_,I,ar,S.E⟩)
 obtain⟨-,l,b,a,cap,wm,aa,UK,rfl,YV,h,ax,ao,ay⟩:=D.resolve_left (λh=>h.1 (by have:=FY; simpa using this));have D:er=0:=by have:=FY; simpa using this
 have D:Ext w wm:=K00 aq YV;have ah:=D.size;have a5:=YV.size;have hl6:l.length<=60000000:=by have:=aDc List.length aa; rw[oK]at this; omega
 have av:3<=l.length:=by have:=aDc List.length UK; simp at this; omega
 have S:=S.adopt (A:=[.s a l.length cap,.i (3:Nat),.z,.z]) ay Z (λp hp=>by rcases aDp.1 hp with rfl | hp; (have:=ap; intro e; simp only at e; omega); cases hp) (λm J=>by cases J);have an:=K00 D ao;have S:=S.fl;have J:=((Ch.aT (b:=b) an)).size;have J:=(S.bx 0).1;have J:=(S.bx 1).1;have J:=ao;refine aCL S 0 I (an5 (hll:=hl6) J (S.bx 0) ax h av) ?_;rintro e u ⟨J,a6,ae,rfl,Vs,Y3,af,az,MO,BL,pI,JR⟩;refine⟨_,_,I,(K00 D BL),pI,JR,λS=>?_⟩;have D:=pI.size;have D:=BL.size;have D:=BL;have D:=(aK (Ch.aT (b:=b) an) pI);refine aCF S λu D yP a4 S=>aCH S 0 I (λu D S=>?_);have zO:=aCI yP D;have xH:=aCI yP D;have RZ:=aCI yP D;have D:gQ 5000 u J:=⟨Vs.1,Vs.2.1,Vs.2.2.1,Vs.2.2.2,Hr (aDB ((aDn af RZ))) Y3.1 Y3.2.1 Y3.2.2.1⟩;refine adr S 1 [] [.M 0 0] λS=>aCR S (yA D (bT.below hg S.E)) ?_;rintro e u ⟨D,ab,rfl,a3,zS⟩;obtain⟨bs,D,ac⟩:=Vr a3;refine⟨_,I,zS,λS=>?_⟩;refine adr S 5 [] [] λS=>aC6 S 14 [.M 1 2] [(_,_,(!(ae||((ab) != 0))),.b (bs==lb))] [(37,.b ((ae||((ab) != 0))||(!(bs==lb))))] ⟨λu hC g=>aC3 (lS _ _ bs lb u (((dH.below D hC))) (eX (aI.below am (K00 S.E hC)))),G⟩ λu ag S=>aCD S ((ae||((ab) != 0))||(!(bs==lb))) (λD S=>?_) (λD S=>?_)
 .refine aCH S 2 I (λu LD S=>?_);have vI:=(bn.ch ((aDn af (K00 RZ (K00 zS ag)))) LD Z);have aw:Y2 lb:=λK0 W0 s0 ah ai al e=>by
   rw[aa]at e;have hl:=sD e;obtain⟨g1,g2,-⟩:=az s0.key [] (Y1 ah ai al) I (by rw[hl,aEk]; rfl);rw[g1]at ac;rcases ac with ⟨-,-,c2,c3⟩ | ⟨c1,-⟩
   .rw[g2,c3,c2,aa,hl]at D; simp at D
   exact c1 ⟨ai,al⟩
  refine Kr S 2 I (v:=aN.zero.v) (u := .i 3) (λS=>⟨_,_,I,.inr ⟨by decide,I,.inr (.inr ⟨I,⟨l,aa⟩,aw⟩)⟩,S.E⟩)
 refine adr S 1 [] [.M 0 0] λS=>aCH S 2 I (λu PU S=>?_);have Ba:=(bn.ch ((aDn af (K00 RZ (K00 zS ag)))) PU Z);have hh:ab=0∧bs=lb:=by have:=D; simp at this; exact⟨this.1.2,this.2⟩
 have D:fH J.key=false∧(jI J.key=true->J.key.node.chk=0)∧lb=gq.app (kT J.key):=by rcases ac with ⟨c1,c2,c3,c4⟩ | ⟨-,c3⟩; (exact⟨c1,c2,hh.2.symm.trans c3⟩); (exact absurd hh.1 c3)
 refine Kr S 2 I (v:=aN.v J) (u := .i 0) (λS=>⟨_,_,I,.inl ⟨I,_,I,(aDS (Sx.bn.le Ba Z) λW h=>⟨Vs.1,Vs.2.1,Vs.2.2.1,Vs.2.2.2,Hr h Y3.1 Y3.2.1 Y3.2.2.1⟩),D.1,D.2.1,Y3.2.2.2,D.2.2⟩,S.E⟩)
end
section
open En
variable{K L:Nat}
abbrev bG.fit.up{k D:Nat}{t:bG}(h:t.fit k)(hk:k<=D):t.fit D:=⟨h.1.mono hk,h.2.1.mono hk,h.2.2.1.mono hk,h.2.2.2.1.mono hk,h.2.2.2.2.1.mono hk,h.2.2.2.2.2.mono hk⟩
abbrev eH.up{w:VO}{n:aj}(h:eH K w n)(hk:K<=L)(J:L<=10000):eH L w n:=⟨h.1,h.2.1.up hk,λp D=>(h.2.2.1 p D).up hk,λp D=>(h.2.2.2.1 p D).up hk,aDy h.2.2.2.2.1 hk,J⟩
abbrev dw.up{w:VO}{s:aA}(h:dw K w s)(hk:K<=L)(D:L<=10000):dw L w s:=⟨h.1,h.2.1,h.2.2.1,λn hn=>(h.2.2.2 n hn).up hk D⟩
abbrev gQ.up{w:VO}{e:aN}(h:gQ K w e)(hk:K<=L)(D:L<=10000):gQ L w e:=⟨h.1,h.2.1,h.2.2.1,h.2.2.2.1,h.2.2.2.2.up hk D⟩
abbrev acY{w:VO}{e d:aN}(h:gQ K w e)(h':gQ K w d)(m:fH e.key=false)(J:fH d.key=false)(v:jI e.key=true->e.key.node.chk=0)(v':jI d.key=true->d.key.node.chk=0)(D:kT e.key=kT d.key):e.key=d.key:=by
 have k:=Y1 h m v;have k':=Y1 h' J v';unfold kT at D;have D:=List.append_cancel_left D;rw[Ku,Ku]at D;obtain⟨J,i2,i3,i4⟩:=k.i;obtain⟨j1,j2,j3,j4⟩:=k'.i;obtain⟨S,D⟩:=Oe J j1 _ _ D;obtain⟨e2,D⟩:=Oe i2 j2 _ _ D;obtain⟨e3,D⟩:=Oe i3 j3 _ _ D;obtain⟨e4,D⟩:=Oe i4 j4 _ _ D;have hn:e.key.node=d.key.node∧e.key.color=d.key.color:=by
  unfold BQ at D;by_cases hk:e.key.kind=1∨e.key.kind=4
  .have J:d.key.kind=1∨d.key.kind=4:=S▸hk;rw[aDb hk,aDb J]at D;have c1:=v (by unfold jI; simpa using hk);have c2:=v' (by unfold jI; simpa using J);rw[show e.key.node=e.node.key from rfl,lg]at c1;rw[show d.key.node=d.node.key from rfl,lg]at c2;exact⟨(Og h.2.2.2.2.1 h'.2.2.2.2.1 c1 c2 [] [] (by rw[aEk,aEk]; exact D)).1,(k.color Z).trans (k'.color Z).symm⟩
  have J:¬(d.key.kind=1∨d.key.kind=4):=S▸hk;rw[aC9 hk,aC9 J]at D;refine⟨(k.aaP hk).trans (k'.aaP J).symm,?_⟩;by_cases h5:e.key.kind=5
  .have J:d.key.kind=5:=S▸h5;rw[aDb h5,aDb J]at D;exact(UD _ _ [] [] (by rw[aEk,aEk]; exact D)).1
  have J:¬d.key.kind=5:=S▸h5;exact(k.color h5).trans (k'.color J).symm
 obtain⟨D,J⟩:=hn;revert S e2 e3 e4 D J;generalize e.key=x;generalize d.key=y;intro S e2 e3 e4 D J;cases x; cases y;simp only at S e2 e3 e4 D J;rw[S,e2,e3,e4,D,J]
abbrev Vj.good{base:Nat}{w:VO}{s:aY}{v:aaT}{er:Int}(h:Vj base w s v er)(hv:s.valid=true):er=0∧OwnB base w v (gq.app (dX s)):=by
 rcases h with ⟨D,J,S⟩ | ⟨D,-⟩
 .exact⟨S,J⟩
 rw[hv]at D; cases D
abbrev Vo.good{base:Nat}{w:VO}{e:bI}{v:aaT}{er:Int}(h:Vo base w e v er)(hm:fH e=false)(hv:jI e=true->e.node.chk=0):er=0∧OwnB base w v (gq.app (kT e)):=by
 rcases h with ⟨D,-⟩ | ⟨D,S,J,-⟩ | ⟨D,S,J,h4⟩
 .rw[hm]at D; cases D
 .exact absurd (hv S) J
 exact⟨h4,J⟩
abbrev Y4{s:aA}(h:s.key.valid=true):(gq.app (dX s.key)).length<=60000000:=by
 rw[oK]; have:=EI h; omega
abbrev ES{e:aN}(D:jI e.key=true->e.key.node.chk=0):(gq.app (kT e.key)).length<=60000000:=by
 rw[oK];have:=aaO (e:=e) λhk=>by
  have:=D (by unfold jI; show((e.kind==1)||(e.kind==4))=true; simpa using hk);rwa [show e.key.node=e.node.key from rfl,lg]at this
 unfold kT;simp only[aDg,aDU,aEt];omega
end
section
open En
structure Hs (ss:List aY) (es:List bI):Prop where
 len:ss.length=es.length+1
 val:∀s∈ss,s.valid=true
 step:∀i e,es[i]?=some e->∃s t,ss[i]?=some s∧ss[i+1]?=some t∧dL s e=(t,0)
abbrev Hs.new{s:aY}(h:s.valid=true):Hs [s] []:=⟨I,λt D=>by rw[aDK.1 D]; exact h,λi e h=>by simp at h⟩
abbrev Hs.put{ss:List aY}{es:List bI}{k:Nat}{s t:aY}{e:bI}(h:Hs ss es)(hs:ss[k]?=some s)(ha:dL s e=(t,0)):Hs (ss.take (k+1)++[t]) (es.take k++[e]):=by
 obtain⟨hk,rfl⟩:=List.getElem?_eq_some_iff.1 hs;have hl:=h.len;have S:(ss.take (k+1)).length=k+1:=by rw[aD4]; omega
 have J:(es.take k).length=k:=by rw[aD4]; omega
 refine⟨by simp only[aDg,S,J,aFQ],λx D=>?_,λi x D=>?_⟩
 .rcases aDT.1 D with D | D
  .exact h.val x (aEJ D)
  rw[aDK.1 D];obtain⟨-,-,l,-,-,h5⟩:=yU ha;exact h5
 have hi:i<k+1:=by
  have:=(List.getElem?_eq_some_iff.1 D).1;simp only[aDg,J,aFQ]at this;exact this
 rcases aD7 i k with h1 | h1
 .rw[List.getElem?_append_left Z,List.getElem?_take_of_lt h1]at D;obtain⟨a,b,h2,h3,h4⟩:=h.step i x D;exact⟨a,b,by rw[List.getElem?_append_left Z,List.getElem?_take_of_lt hi]; exact h2,by rw[List.getElem?_append_left Z,List.getElem?_take_of_lt Z]; exact h3,h4⟩
 obtain rfl:i=k:=by omega
 rw[List.getElem?_append_right Z,J,aE5]at D;simp only[List.getElem?_cons_zero,aDe]at D;subst D;exact⟨_,_,by rw[List.getElem?_append_left Z,List.getElem?_take_of_lt hi]; exact hs,by rw[List.getElem?_append_right Z,S,aE5]; rfl,ha⟩
abbrev Y5{s t:aY}{e:bI}(h:dL s e=(t,0)):fH e=false∧(jI e=true->e.node.chk=0):=by
 obtain⟨S,J,l,D,rfl,h5⟩:=yU h;have S:=(Bo.1 (aY.kU.1 h5).2.2).1;replace S:∀x∈l,x.chk=0:=S;constructor
 .have hz:aO.zero=bQ.key:=I;have hp:bJ.none=⟨0,0,0,0⟩:=I;unfold bI.named at J;unfold fH;repeat' split at J
  all_goals simp_all
 intro J;unfold jI at J;simp only[aEV,aDu]at J;unfold gK at D;rcases J with J | J
 .rw[aDb J]at D;split at D
  .cases D
  simp only[aFa]at D;exact S _ (by rw[<-D]; unfold Gv; simp)
 rw[aC9 Z,aC9 Z,aC9 Z,aDb J]at D;cases hf:jo s.ns e.node.id with
 | none=>rw[hf]at D; cases D
 | some i =>
  rw[hf]at D;simp only at D;split at D
  .cases D
  simp only[aFa]at D;obtain⟨J,-⟩:=vF hf;exact S _ (by rw[<-D]; exact List.mem_set J ..)
abbrev Hs.enc{ss:List aY}{es:List bI}(h:Hs ss es){e:bI}(J:e∈es):fH e=false∧(jI e=true->e.node.chk=0):=by
 obtain⟨i,D,rfl⟩:=List.getElem_of_mem J;obtain⟨a,b,-,-,J⟩:=h.step i _ (List.getElem?_eq_getElem D);exact Y5 J
def eB(e:bI):List UInt8:=gG (gq.app (kT e))
def hB(s:aY)(k:Nat)(es:List bI):List UInt8:=gG (gq.app (dX s))++(dY 10 k++(dY 10 es.length++es.flatMap eB))
end
section
open Go.RowKit Go.Sx
variable{α:Type}{K:Nat}
def aob(i j k:Int)(c:bJ)(n:aj):Bool:=((((i==0)&&(j==0))&&(k==0))&&decide (c=bJ.none))&&decide (n.key=aO.zero)
abbrev DY(i j k:Int)(c:bJ)(n:aj):aob i j k c n=(i==0&&(j==0&&(k==0&&(n.key==aO.zero&&c==bJ.none)))):=by
 unfold aob;rw[show(n.key==aO.zero)=decide (n.key=aO.zero)from rfl,show(c==bJ.none)=decide (c=bJ.none)from rfl];ac_rfl
abbrev Vt:(bQ.key==aO.zero)=true:=by rw[show bQ.key=aO.zero from rfl]; simp
abbrev acZ{w:VO}{e:aN}(he:gQ K w e) :
  abB prog 98 #[e.v] w (VH w (.b e.key.named)):=by
 skip;refine aDi func98 ntmps98 (λD S=>?_);have J:=he.2.2.2.2.2.2.2.2.1;have am:=he.2.2.2.2.2.2.2.2.2;refine aCE λ_ gJ=>aEl S 1 e.cells λD u b2 E3 an S=>apB S 1 [] [(2,.z)] λS=>aCC<|gJ _ _<|aDs (λκq AB=>?_);have J6:∀(kd i j k:Int) (n:aj) (c:bJ) (D:Act) (u:VO),(aob i j k c n=e.key.named)->(eH K u n)->Sx.St w D u 48 [(1,.q b2 0),(2,.z)] [(b2,(Sx.L [.i kd,.i i,.i j,.i k]++n.cells++c.cells))] []->κq D u:=by
  intro kd i j k n c D u ho hn S;refine AB _ _<|aCE λ_ Xg=>aer S 26 [.M 0 1,.M 0 2,.M 0 3,.M 0 51,.cmp .eql 40 (.tmp 38) (.tmp 39) (.agg #[.u (c.r.toNat:Int),.u (c.g.toNat:Int),.u (c.b.toNat:Int),.u (c.a.toNat:Int)]) (.agg #[.u 0,.u 0,.u 0,.u 0]) (.b (c=bJ.none)),.M 0 4] [(_,_,(((((i)==0)&&((j)==0))&&((k)==0))&&(decide (c=bJ.none))),.b (n.key=aO.zero))] [(2,.b ((((((i)==0)&&((j)==0))&&((k)==0))&&(decide (c=bJ.none)))&&(decide (n.key=aO.zero))))] ⟨λu hC g=>yX (hn.below hC) (iC u J am),G⟩ (hk:=⟨(aEg (λ_=>ams c bJ.none _) X),G⟩) λD u J S=>aCC<|Xg _ _<|RY S results98 ?_;exact⟨aJ (by rw[<-ho]; rfl),S.E⟩
 refine aCE λ_ D=>apB S 2 [.M 0 0] [(4,.i e.kind)] λS=>aCC<|D _ _<|aD9<|aDs λ_ xu=>aD9<|aDs λ_ Qy=>aD9<|aDs λ_ LJ=>aD9<|aDs λ_ Qd=>aD9<|aDs λ_ wL=>aD9<|aDs λ_ J=>aD9<|aDs λ_ xA=>aDs λ_ Pz=>aCE λ_ D=>apB S 2 [] [(5,.b ((e.kind)==1))] λS=>aCC (D _ _ ?_);refine aCX S (λD=>?_) (λD=>?_)
 .refine aEz<|J _ _<|aEw<|apB S 1 [] [(15,.q b2 2)] λS=>aDh S 0 (off:=2) (v := .i 0) I λu J S=>aCC<|wL _ _<|aCE λ_ J=>apB S 2 [] [(16,.agg (Sx.L [.i 0,.i 0,.i 0]++Sx.za++Sx.L [.sn,.i 0,.u 0,.i 0,.z,.z,.sn,.i 0,.sn,.i 0,.i 0,.i 0,.i 0,.sn,.i 0,.sn,.i 0,.i 0,.sn,.i 0]).toArray),(17,.q b2 4)] λS=>aC7 S 0 (off:=4) (cs:=(Sx.L [.i 0,.i 0,.i 0]++Sx.za++Sx.L [.sn,.i 0,.u 0,.i 0,.z,.z,.sn,.i 0,.sn,.i 0,.i 0,.i 0,.i 0,.sn,.i 0,.sn,.i 0,.i 0,.sn,.i 0])) I λu ao S=>aCC<|J _ _<|aEz ?_;exact J6 e.kind e.id 0 e.depth bQ e.color _ _ (by have hk:=D; rw[DY]; unfold bI.named; simp[aN.key,Vt,show e.kind=1 from by simpa using hk]) (iC u he.2.2.2.2.2.2.2.2.1 he.2.2.2.2.2.2.2.2.2) S.sn
 refine aDM<|Pz _ _<|aDs λ_ aa=>aCE λ_ J=>apB S 2 [] [(7,.b ((e.kind)==4))] λS=>aCC (J _ _ ?_);refine aCX S (λJ=>?_) (λJ=>?_)
 .refine aEz<|wL _ _<|aCE λ_ ab=>apB S 2 [] [(16,.agg (Sx.L [.i 0,.i 0,.i 0]++Sx.za++Sx.L [.sn,.i 0,.u 0,.i 0,.z,.z,.sn,.i 0,.sn,.i 0,.i 0,.i 0,.i 0,.sn,.i 0,.sn,.i 0,.i 0,.sn,.i 0]).toArray),(17,.q b2 4)] λS=>aC7 S 0 (off:=4) (cs:=(Sx.L [.i 0,.i 0,.i 0]++Sx.za++Sx.L [.sn,.i 0,.u 0,.i 0,.z,.z,.sn,.i 0,.sn,.i 0,.i 0,.i 0,.i 0,.sn,.i 0,.sn,.i 0,.i 0,.sn,.i 0])) I λu XW S=>aCC<|ab _ _<|aEz ?_;exact J6 e.kind e.id e.index e.depth bQ e.color _ _ (by have hk:=J; rw[DY]; unfold bI.named; simp[aN.key,Vt,show e.kind=4 from by simpa using hk]) (iC u he.2.2.2.2.2.2.2.2.1 he.2.2.2.2.2.2.2.2.2) S.sn
 refine aDM<|aa _ _<|aDs λ_ ae=>aCE λ_ af=>apB S 2 [] [(9,.b ((e.kind)==3))] λS=>aCC (af _ _ ?_);refine aCX S (λBg=>?_) (λBg=>?_)
 .refine aEz<|Qd _ _<|aEw<|apB S 1 [] [(18,.q b2 2)] λS=>aDh S 0 (off:=2) (v := .i 0) I λu ap S=>apB S 1 [] [(19,.q b2 3)] λS=>aDh S 0 (off:=3) (v := .i 0) I λu aq S=>aCC<|LJ _ _<|aCE λ_ Qj=>apB S 1 [] [(20,.q b2 1)] λS=>aDh S 0 (off:=1) (v := .i 0) I λu ar S=>aCC<|Qj _ _<|aEz ?_;exact J6 e.kind 0 0 0 e.node e.color _ _ (by have hk:=Bg; rw[DY]; unfold bI.named; simp[aN.key,show e.kind=3 from by simpa using hk]) (he.2.2.2.2.below S.E) S.sn
 refine aDM<|ae _ _<|aDs λ_ Qe=>aCE λ_ ag=>apB S 2 [] [(11,.b ((e.kind)==2))] λS=>aCC (ag _ _ ?_);refine aCX S (λGK=>?_) (λGK=>?_)
 .refine aEz<|LJ _ _<|aCE λ_ ah=>apB S 1 [] [(20,.q b2 1)] λS=>aDh S 0 (off:=1) (v := .i 0) I λu av S=>aCC<|ah _ _<|aEz ?_;exact J6 e.kind 0 e.index e.depth e.node e.color _ _ (by have hk:=GK; rw[DY]; unfold bI.named; simp[aN.key,show e.kind=2 from by simpa using hk]) (he.2.2.2.2.below S.E) S.sn
 refine aDM<|Qe _ _<|aCE λ_ ai=>apB S 2 [] [(13,.b ((e.kind)==5))] λS=>aCC (ai _ _ ?_);refine aCX S (λLP=>?_) (λLP=>?_)
 .refine aEz<|Qy _ _<|aCE λ_ Xw=>apB S 2 [] [(21,.agg #[.u 0,.u 0,.u 0,.u 0]),(22,.q b2 51)] λS=>aC7 S 0 (off:=51) (cs:=[.u 0,.u 0,.u 0,.u 0]) I λu aw S=>aCC<|Xw _ _<|aEz ?_;exact J6 e.kind e.id e.index e.depth e.node bJ.none _ _ (by have hk:=LP; rw[DY]; unfold bI.named; simp[aN.key,show e.kind=5 from by simpa using hk]) (he.2.2.2.2.below S.E) S.sn
 refine aDM<|xA _ _<|aEz<|xu _ _<|aDs λ_ ax=>aCE λ_ al=>apB S 1 [] [(2,.z)] λS=>aCC<|al _ _<|RY S results98 ?_;exact⟨aJ (by unfold bI.named; rw[aC9 (show ¬(e.key.kind=1)from by simpa[aN.key]using D)]; rw[aC9 (show ¬(e.key.kind=2)from by simpa[aN.key]using GK)]; rw[aC9 (show ¬(e.key.kind=3)from by simpa[aN.key]using Bg)]; rw[aC9 (show ¬(e.key.kind=4)from by simpa[aN.key]using J)]; rw[aC9 (show ¬(e.key.kind=5)from by simpa[aN.key]using LP)]),S.E⟩
