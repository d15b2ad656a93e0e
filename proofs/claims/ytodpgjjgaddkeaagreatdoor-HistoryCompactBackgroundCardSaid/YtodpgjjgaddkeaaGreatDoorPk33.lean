/- The encoders of package scenebin: scenes. Encodings of -/
import Derived.Test.YtodpgjjgaddkeaaGreatDoorPk32
set_option maxHeartbeats 1600000
set_option maxRecDepth 100000
set_option linter.unusedVariables false
set_option linter.unusedSimpArgs false
namespace Go.Proofs.YtodpgjjgaddkeaaGreatDoor
open _root_.Go.Proofs.Tryz
section
open Go.RowKit Go.Sx
variable{α:Type}{K:Nat}
variable{w:World}{u0:Value}
theorem Ug{w0:World}{v0:Value}{B:List UInt8}{L:List aj}(hE:Ext w0 w)(ho:OwnB w0.heap.size w v0 B)(h:aJ 47 aj.cells w0 u0 L)(hok:∀n∈L,eG K w0 n∧n.Lim)(hB0:(B++L.flatMap (λn:aj=>eP false n.key)).length<=1000000000) :
  Calls prog 86 #[v0,u0,.func (.func 56) #[.agg #[.z]] #[]] w λe w'=>∃v,e = .returned v∧OwnB w0.heap.size w' v (B++L.flatMap (λn:aj=>eP false n.key))∧Ext w0 w':=by
 obtain⟨a,cap,rfl⟩:=h.shape;have hmax:L.length<=9223372036854775807:=h.len;refine zeE func86 ntmps86 hE (λS=>?_);have R:=kM (aAy S) ho (λp hp=>by cases hp) (azS _);refine azI S (ι:=Nat×Value) (λp a' w'=>p.1<=L.length∧(True)∧Rw w0 w' [] [⟨5,1,p.2,(B++(L.take p.1).flatMap (λn:aj=>eP false n.key)).length,(B++(L.take p.1).flatMap (λn:aj=>eP false n.key)).map fZ⟩]∧Sx.St w0 a' w' 22 [(0,p.2),(1,.slice a L.length cap),(2,.func (.func 56) #[.agg #[.z]] #[]),(6,.sn),(9,.slice a L.length cap),(10,.i L.length),(11,.i p.1)] [] []) (λp=>L.length-p.1) (0,v0) (λS=>⟨azZ _,G,R.as (show [Sx.bR v0 B]=[Sx.bR v0 (B++(L.take 0).flatMap (λn:aj=>eP false n.key))] by simp),S.sn⟩) ?_;rintro⟨k,v⟩ ac u gQ eu hI;try dsimp only at hI
 obtain⟨hk,hR,R,S⟩:=hI;refine azJ S λS=>azm S (decide ((k:Int)<(L.length:Int))) (λhc6 S=>?_) (λhc6 S=>?_)
 .have gq:k<L.length:=by have:=az9 hc6; omega
  obtain⟨b9,o10,rfl,x15,jC,hb16,uF⟩:=aAo h (λ_=>I) (k) gq;have S:=S.view0 hb16 uF;refine adr S 2 [] [.idx k L.length,.mem 0 0] (hk:=⟨gq,G⟩) λS=>azs S (Sx.L [.i 0,.i 0,.i 0]++Sx.za++Sx.L [.sn,.i 0,.u 0,.i 0,.z,.z,.sn,.i 0,.sn,.i 0,.i 0,.i 0,.i 0,.sn,.i 0,.sn,.i 0,.i 0,.sn,.i 0]) λu b17 zL Fe S=>azx S 0 (off:=0) (cs:=x15.cells) I λu y8 S=>adr S 3 [] [.mem 0 0] λS=>azH S (AV (pk:=false) ((hok _ (jC▸aAl gq)).1.below S.E) (hok _ (jC▸aAl gq)).2.akI (YP hB0 _ (jC▸aAl gq))) (λv18 u AU Dc S=>?_);have hB:=IL hB0 (k+1);rw[<-kL gq jC]at hB;obtain⟨R,Y22⟩:=R.bQ S (aAc (aAX zL Fe) (aAc (Sx.Stp.Ov y8) (aAg Dc)));refine azw S λS=>azK S R 19 ((λn:aj=>eP false n.key) x15) (jH (AU)) (by simp only[azU]at hB |-; omega) λac u v23 JZ R S=>azF S λS=>adr S 3 [] [.re 20 (.i (IntKind.i64.wrap ((k:Int)+1))) (.i (k+1:Nat))] (λS=>?_) (hk:=⟨azA Z,G⟩);have S:=S.gW 1;obtain⟨R,Y25⟩:=R.bQ S (aAO 1);refine azG S gQ (λS=>?_);exact eu _ _ ((k+1),v23) ⟨Z,G,R.as (show [Sx.bR v23 (B++(L.take k).flatMap (λn:aj=>eP false n.key)++(λn:aj=>eP false n.key) x15)]=[Sx.bR v23 (B++(L.take (k+1)).flatMap (λn:aj=>eP false n.key))] by rw[kL gq jC]),S.sn⟩ (by show _-_<_-_; omega)
 refine apB S v (λS=>?_);exact⟨_,I,by have:=R.own _ az5; rw[aAv (by have:=aAd hc6; omega)]at this; exact this,S.E⟩
theorem Uh{L:List aj}(h:aJ 47 aj.cells w u0 L)(hok:∀n∈L,eG K w n∧n.Lim)(hB:(iD (λn:aj=>eP false n.key) L).length<=1000000000) :
  Calls prog 55 #[u0,.func (.func 56) #[.agg #[.z]] #[]] w λe w'=>∃v,e = .returned v∧OwnB w.heap.size w' v (iD (λn:aj=>eP false n.key) L)∧Ext w w':=by
 obtain⟨a,cap,rfl⟩:=h.shape;have hmax:L.length<=9223372036854775807:=h.len;refine azp func55 ntmps55 (λS=>?_);have S0:=S.E.size;refine adr S 4 [] [.re 7 (.int .u64 (IntKind.u64.wrap (L.length:Int))) (.int .u64 (L.length:Int))] (hk:=⟨(wrap_u64 Z),G⟩) λS=>azH S (fO L.length _ Z) λv8 u ho8 E3 S=>azw S λS=>LW S (some 11) (Ug S.E (bC ho8 S0) h hok hB) ?_;rintro e u ⟨v11,rfl,PG,PK⟩;refine⟨_,I,PK,λac S=>?_⟩;refine U3 S λS=>apB S v11 (λS=>?_);exact⟨_,I,PG,S.E⟩
def Ui(base:Nat)(w:World)(s:aX)(v:Value)(er:Int):Prop:=(s.valid=true∧OwnB base w v (fP.app (dV s))∧er=0)∨(s.valid=false∧v = .sn∧er=18)
theorem vK{s:aH}(h:dL K w s)(hg:dw w) :
  Calls prog 28 #[s.v] w λe w'=>∃v er,e = .returned (.tuple #[v,.i er])∧Ui w.heap.size w' s.key v er∧Ext w w':=by
 skip;refine azX func28 ntmps28 λac S=>azn λ_ gQ=>qO S 1 s.cells λac u b2 E3 hb4 S=>azk S 2 [] [(2,.sn),(3,.i 0)] λS=>azl<|gQ _ _<|az8 λ_ BN=>azn λ_ κ6=>azk S 1 [.mem 0 0] [(5,s.v)] λS=>BO S 6 (wY (h.below S.E) (dw.below hg S.E)) λac u E7 S=>azk S 1 [] [(7,.bool (!s.key.valid))] λS=>azl (κ6 _ _ ?_);refine azM S (λhc8=>?_) (λhc8=>?_)
 .refine azn λ_ κ9=>azk S 2 [] [(2,.sn),(3,.i 18)] λS=>azl<|κ9 _ _<|Vp.rt ?_;have hv:s.key.valid=false:=by have:=hc8; simpa using this
  refine KC S results28 ?_;exact⟨_,_,I,.inr ⟨hv,I,I⟩,S.E⟩
 refine aAs<|BN _ _<|azn (λ_ Ah=>?_);have hv:s.key.valid=true:=by have:=hc8; simpa using this
 have hB:([71,83,49]++dX [s.w,s.h]++Px.pb s.bg++iD (eP false) (s.ns.map aj.key)).length<=1000000000:=by have:=DL hv; exact aAa this O
 rw[PO]at hB;have R:=aAy S;refine Sx.lit S 8 9 3 [.u 71,.u 83,.u 49] 53 5 underlying53 underlying5 λ{ac u b13} Bc uF S=>azk S 4 [.mem 0 0,.mem 0 1] [(11,.i s.w),(13,.i s.h)] λS=>Sx.news S 14 2 [.i s.w,.i s.h] (λac u b14 E15 hb16 S=>?_);have S0:=S.E.size;refine jL S (some 15) (iR (L:=[s.w,s.h]) (lD (f:=λx:Int => .i x) [s.w,s.h] (S.bx 0) (by simp[maxLen])) (qV.all (L:=[s.w,s.h]) ⟨h.1,h.2.1,G⟩) Y) ?_;rintro e u ⟨v17,rfl,AU,KU⟩;refine⟨_,I,KU,λac S=>?_⟩;have hvn:0<(dX [s.w,s.h]).length:=by unfold dX; rw[aA0,azU]; have h1:0<(En.dW 10 (En.zig s.w)).length:=En.BP 9 _; omega
 have hB3:=hB;simp only[azU]at hB3;obtain⟨R,Y20⟩:=R.bQ S (aAc (aAg Bc) (aAc (aAX E15 hb16) (aAg KU)));refine ap6 S R 16 zQ ((dQ.below uF (K00 E15 KU))) (jH (AU)) Z Z (by simp[maxLen]<;>omega) Z (λac u v21 Qm X23 R S=>?_);have R:=R.as (show [(⟨5,1,v21,3+(dX [s.w,s.h]).length,[.u 71,.u 83,.u 49]++(dX [s.w,s.h]).map fZ⟩:Sx.Row)]=[Sx.bR v21 ([71,83,49]++dX [s.w,s.h])] by unfold Sx.bR; rw[azU,aAL]; rfl);refine azk S 1 [] [(4,v21)] λS=>azl<|Ah _ _<|azn λ_ WE=>azk S 3 [.mem 1 2] [(17,v21),(19,.agg s.bg.cells.toArray)] λS=>jL S (some 20) (uV (p:=s.bg)) ?_;rintro e u ⟨v20,rfl,auF,FH⟩;refine⟨_,I,FH,λac S=>?_⟩;obtain⟨R,Y26⟩:=R.bQ S (aAg FH);refine azK S R 21 (Px.pb s.bg) (jH (auF)) (by simp only[azU]at hB |-; omega) λac u v27 X28 R S=>azk S 1 [] [(4,v27)] λS=>azl<|WE _ _<|azn λ_ aee=>azk S 5 [.mem 1 6] [(22,v27),(24,s.s),(26,.func (.func 56) #[.agg #[.z]] #[])] λS=>jL S (some 27) (Uh (h.2.2.1.below S.E) (λn hn=>⟨(h.2.2.2 n hn).below S.E,(qK hv).2 n hn⟩) (by simp only[azU]at hB; omega)) ?_;rintro e u ⟨v27,rfl,auG,E30⟩;refine⟨_,I,E30,λac S=>?_⟩;obtain⟨R,Y31⟩:=R.bQ S (aAg E30);refine azK S R 28 (iD (λn:aj=>eP false n.key) s.ns) (jH (auG)) (by simp only[azU]at hB |-; omega) λac u v32 X33 R S=>azk S 1 [] [(4,v32)] λS=>azl<|aee _ _<|azn λ_ Ws=>azk S 1 [] [(29,v32)] (λS=>?_);have hout:OwnB w.heap.size u v32 (dV s.key):=qL (R.own _ az5) (by rw[<-PO]; rfl);have S0:=S.E.size;refine jL S (some 30) (xq _ (dV s.key) _ (uU hout) (by have:=DL hv; omega)) ?_;rintro e u ⟨v30,rfl,alE,J4⟩;refine⟨_,I,J4,λac S=>?_⟩;refine azk S 2 [] [(2,v30),(3,.i 0)] λS=>azl<|Ws _ _<|rt2 S results28 ?_;exact⟨_,_,I,.inl ⟨hv,bC (alE) S0,I⟩,S.E⟩
end
section
open En
variable{α β:Type}{K:Nat}
variable{w:World}{n:aj}{m:List UInt8}
theorem Zd{m:dF}(h:m.ok w)(hn:m.num):m.key.Ok:=⟨⟨h.1,h.2.1,hn.1,hn.2.1⟩,hn.2.2⟩
theorem Ze{t:bH}(h:t.ok w)(hf:t.fit K)(hv:t.q.valid=true):Tz t.q:=ahe (dZ.nrm (bH.toQ h hf)) hv
theorem MV{p:ak}(h:p.ok w)(hf:p.t.fit K)(hv:p.valid=true):p.key.Ok:=by
 obtain⟨l1,l2,l3⟩:=tK hv;exact⟨h.1,h.2.1,h.2.2.1,h.2.2.2.1,⟨l2,h.2.2.2.2.2.1⟩,h.2.2.2.2.2.2.1,Zd h.2.2.2.2.2.2.2.1 l3,h.2.2.2.2.2.2.2.2.1,Ze h.2.2.2.2.2.2.2.2.2 hf l1⟩
theorem Uj(h:eG K w n)(hv:n.checkN=0):n.key.Ok:=by
 have hL:=tN hv;have hG:=DR h.1 hv;obtain⟨ho,hf,hff,hfs,-⟩:=h;obtain⟨h1,h2,h3,h4,h5,h6,h7,h8,h9,h10,h11,h12,h13,Ky⟩:=ho;refine⟨hG.i,Ze h4 hf hL.q,hG.clip,hG.path,λhk=>⟨(hG.fill hk).1,λx hx=>?_⟩,λhk=>⟨(hG.stroke hk).1,λx hx=>?_⟩,hG.style,λhk=>Zd h13 (hL.img hk),AB hv⟩
 .obtain⟨p,hp,rfl⟩:=aAi.1 hx; exact MV (h10.2 p hp) (hff p hp) ((hL.shape hk).2.2.2.1 p hp)
 obtain⟨p,hp,rfl⟩:=aAi.1 hx; exact MV (h12.2 p hp) (hfs p hp) ((hL.shape hk).2.2.2.2.1 p hp)
theorem rO{n:List UInt8}(h:fP.app m=fP.app n):m=n:=by
 have hl:m.length=n.length:=by have:=az0 List.length h; rw[nU,nU]at this; omega
 unfold fP.app at h;exact(List.append_inj h hl).1
def PS(lb:List UInt8):Prop:=∀(K:Nat) (W:World) (s:aH),dL K W s->s.key.valid=true->lb≠fP.app (dV s.key)
theorem Jl(s:aX):dV s=[71,83,49]++(iB s.w++(iB s.h++(Px.pb s.bg++iD (eP false) s.ns))):=by
 unfold dV; simp only[lH,aAb]; rfl
theorem KN{lb:List UInt8}(h:lb=fP.app m)(hm:¬m.take 3=[71,83,49]):PS lb:=λK W s hs hv e=>by
 rw[h]at e;have:=rO e;rw[this,Jl]at hm;exact hm I
theorem Gf(h:n.ok w)(f1:n.t.fit 5000)(f2:∀p∈n.fill,p.t.fit 5000)(f3:∀p∈n.stroke,p.t.fit 5000):eG 5000 w n:=⟨h,f1,f2,f3,by decide,by decide⟩
section
variable{l:List UInt8}{p1 p2 p3 p4 p5 k:Nat}{b1 b2 b3 b4 b5:Bool}{x y:Int}{q:bD}{A03:List aQ}
theorem aby(h1:Got iB I64 l 3 false p1 b1 x)(h2:Got iB I64 l p1 b1 p2 b2 y)(h3:Got Px.pb (λ_=>True) l p2 b2 p3 b3 q)(h4:ag6 l p3 b3 p4 b4 k)(h5:jc (eP false) aQ.Ok l p4 b4 k p5 b5 A03)
  (K:Nat) (W:World) (s:aH) (hs:dL K W s) (hv:s.key.valid=true) (hl:l=dV s.key):(⟨x,y,q,A03⟩:aX)=s.key∧b5=false:=by
 have hh:l.drop 3=iB s.key.w++(iB s.key.h++(Px.pb s.key.bg++iD (eP false) s.key.ns)):=by rw[hl,Jl]; rfl
 obtain⟨e1,c,hh⟩:=h1 _ _ hs.1 I hh;obtain⟨e2,c,hh⟩:=h2 _ _ hs.2.1 c hh;obtain⟨e3,c,hh⟩:=h3 _ _ G c hh;obtain⟨hn,-⟩:=qK hv;obtain⟨e4,c,hh⟩:=(K02 h4 h5 (abf false)) s.key.ns [] ⟨by simp[aH.key]; omega,λz hz=>by
  obtain⟨n,hn,rfl⟩:=aAi.1 hz;exact Uj (hs.2.2.2 n hn) (uZ hv n hn)⟩ c (by rw[hh,aAW])
 exact⟨by rw[e1,e2,e3,e4]; rfl,c⟩
end
theorem Uk{base:Nat}{w:World}{s:aX}{v:Value}{er:Int}(h:Ui base w s v er):∃bs,bK w v bs∧((s.valid=true∧bs=fP.app (dV s)∧er=0)∨(s.valid=false∧bs=[]∧er=18)):=by
 rcases h with ⟨h1,h2,h3⟩ | ⟨h1,rfl,h3⟩
 .exact⟨_,uU h2,.inl ⟨h1,I,h3⟩⟩
 exact⟨[],eH (dI _ _ _),.inr ⟨h1,I,h3⟩⟩
end
section
open Go.RowKit En Go.Sx
variable{α:Type}{K:Nat}
def Ul(base:Nat)(w:World)(lb:List UInt8)(v:Value)(er:Int):Prop:=
 (er=0∧∃s:aH,v=s.v∧Sx.aY base (λW=>dL 5000 W s) w∧s.key.valid=true∧(∀n∈s.ns,n.t.least)∧lb=fP.app (dV s.key)) ∨
 (er≠0∧v=aH.zero.v∧((er=4∧lb.length<4)∨(er=19∧4<=lb.length∧∀m,lb≠fP.app m)∨(er=3∧(∃m,lb=fP.app m)∧PS lb)))
set_option maxRecDepth 100000 in
set_option maxHeartbeats 3200000 in
theorem DY{w:World}{v:Value}{lb:List UInt8}(hg:dw w)(hv:jv w v lb)(hll:lb.length<=60000000) :
  Calls prog 48 #[v] w λe w'=>∃v er,e = .returned (.tuple #[v,.i er])∧Ul w.heap.size w' lb v er∧Ext w w':=by
 obtain⟨ad,ca,rfl⟩:=hv.shape;have hin:=hv;clear hv;refine azp func48 ntmps48 λS=>azo S (λu b2 E3 hb4 S=>?_);have alF:=(S.bx 0).1;have hEq:=S.E;refine azz S (MP (c0:=71) (c1':=83) (c2:=49) (aJ.below hin S.E) hll) ?_;rintro e u ⟨pv,er,rfl,E6,hop⟩;refine⟨_,I,E6,λS=>?_⟩;refine azm S ((er) != 0) (λJL S=>?_) (λJL S=>?_)
 .have ae9:=hop.resolve_right (λh=>absurd h.1 (by have:=JL; simpa using this));refine azq S 0 I (λu Yo S=>?_);have hwy:Ul w.heap.size u lb aH.zero.v er := .inr ⟨ae9.1,I,ae9.2.2.imp id (λh=>h.imp id (λh=>⟨h.1,by obtain⟨m,hm,-⟩:=h.2; exact⟨m,hm⟩,by obtain⟨m,hm,hn⟩:=h.2; exact KN hm hn⟩))⟩;refine Jm S 0 I (v:=aH.zero.v) (u := .i er) (λS=>⟨_,_,I,hwy,S.E⟩)
 obtain⟨-,l,b,a,cap,wm,hlb,Xl,rfl,XD,h,hws,hE1,hXr⟩:=hop.resolve_left (λh=>h.1 (by have:=JL; simpa using this));have he0:er=0:=by have:=JL; simpa using this
 have hEw:Ext w wm:=K00 hEq XD;have hs0:=hEw.size;have hs1:=XD.size;have hl6:l.length<=60000000:=by have:=az0 List.length hlb; rw[nU]at this; omega
 have hp0:3<=l.length:=by have:=az0 List.length Xl; simp at this; omega
 have S:=S.adopt (A:=[.slice a l.length cap,.i (3:Nat),.z,.z]) hXr Z (λp hp=>by rcases az2.1 hp with rfl | hp; (have:=alF; intro e; simp only at e; omega); cases hp) (λm hm=>by cases hm);have hEz:=K00 hEw hE1;have S:=S.fl;have y13:=((Ch.aT (b:=b) hEz)).size;have hEr:=hE1;refine azt S 0 I (ji hEr (S.bx 0) hws h hp0) ?_;rintro e u ⟨CS,p13,d13,rfl,i13,g13,KL,AL,oH,I7⟩;refine⟨_,_,I,(K00 hEw AL),oH,I7,λS=>?_⟩;have aev:=oH.size;have NJ:=AL.size;have Am:=AL;have oN:=(aI (Ch.aT (b:=b) hEz) oH);refine azo S λu b16 yZ agq S=>azq S 0 I (λu Yn S=>?_);have yN:=azr yZ Yn;have Dc:=azr yZ Yn;have S:=S.fl;have y23:=(((Ch.trans oN (Ch.aT Dc)))).size;have hEr:=((K00 Am yN));refine azt S 1 I (ji hEr (S.bx 1) hws h KL) ?_;rintro e u ⟨x23,p23,d23,rfl,i23,g23,auH,alG,alH,auI⟩;refine⟨_,_,I,(K00 hEw alG),alH,auI,λS=>?_⟩;have ay4:=alH.size;have JR:=alG.size;have alb:=alG;have BJ:=(aI ((Ch.trans oN (Ch.aT Dc))) alH);refine azv S 0 I (λu C26 S=>?_);have yK:=(azr alb C26 Z);have Dz:=(aI BJ C26);have S:=S.fl;have y30:=(Dz).size;have hEr:=yK;refine azt S 1 I (FY hEr (S.bx 1) hws h auH) ?_;rintro e u ⟨q30,p30,d30,rfl,g30,auJ,alI,alJ,auK⟩;refine⟨_,_,I,(K00 hEw alI),alJ,auK,λS=>?_⟩;have ay5:=alJ.size;have ay6:=alI.size;have uM:=alI;have wG:=(aI Dz alJ);refine azq S 0 I (λu NZ S=>?_);have yR:=(azr uM NZ Z);have CB:=(aI wG NZ);have S:=S.fl;have y37:=(CB).size;have hEr:=yR;refine azt S 1 I (vg hEr (S.bx 1) hws h auJ) ?_;rintro e u ⟨k37,p37,d37,rfl,auL,g37,auM,alK,alL,auN⟩;refine⟨_,_,I,(K00 hEw alK),alL,auN,λS=>?_⟩;have ay7:=alL.size;have ay8:=alK.size;have wH:=alK;have Ad:=(aI CB alL);have S:=S.fl;have y40:=(Ad).size;have anI:=(S.bx 0).1;have anJ:=(S.bx 1).1;have anK:=(S.bx 2).1;have hEr:=wH;refine azt S 1 I (ae6 (hl6:=hl6) (hn:=auL) (hll:=by omega) hEr (S.bx 1) hws h auM) ?_;rintro e u ⟨v40,X40,p40,d40,rfl,asz,TJ,aeM,g40,anL,VK,Oc,ady⟩;obtain⟨TK,TL,rfl⟩:=aeM.self.1.shape;refine⟨_,_,I,(K00 hEw VK),Oc,ady,λS=>?_⟩;have asA:=Oc.size;have ahG:=VK.size;have wI:=VK;have Aa:=(aI Ad Oc);refine azv S 0 I (λu C43 S=>?_);have OE:=(azr wI C43 Z);have qU:=(aI Aa C43);have Kr:=(aY.ch aeM C43 Z);have hgs:=aby g13 g23 g30 g37 g40;have alM:dL 5000 u (⟨CS,x23,q30,TK,TL,X40⟩):=⟨i13,i23,(aAj Kr).1,λz hz=>Gf ((aAj Kr).2 z hz) (TJ z hz).1 (TJ z hz).2.1 (TJ z hz).2.2.1⟩;refine adr S 1 [] [.mem 0 0] λS=>azz S (vK alM (dw.below hg S.E)) ?_;rintro e u ⟨v5,er5,rfl,hsc,Rh⟩;obtain⟨bs,hbs,hcs⟩:=Uk hsc;refine⟨_,I,Rh,λS=>?_⟩;refine adr S 5 [] [] λS=>aAQ S 14 [.mem 1 2] [(_,_,(!(d40||((er5) != 0))),.bool (bs==lb))] [(51,.bool ((d40||((er5) != 0))||(!(bs==lb))))] ⟨λu hC g=>azL (kY _ _ bs lb u (((dG.below hbs hC))) (eH (aJ.below hin (K00 S.E hC)))),G⟩ λu E51 S=>azm S ((d40||((er5) != 0))||(!(bs==lb))) (λsD S=>?_) (λsD S=>?_)
 .refine azq S 2 I (λu C54 S=>?_);have RQ:=(aY.ch ((az3 Kr (K00 Rh E51))) C54 Z);have hno:PS lb:=λK0 W0 s0 hs0 hv0 e=>by
   rw[hlb]at e;obtain⟨g1,g2⟩:=hgs K0 W0 s0 hs0 hv0 (rO e);replace g1:aH.key (⟨CS,x23,q30,TK,TL,X40⟩)=s0.key:=g1;rw[g1]at hcs;rcases hcs with ⟨-,c2,c3⟩ | ⟨c1,-⟩
   .rw[g2,c3,c2,hlb,rO e]at sD; simp at sD
   rw[hv0]at c1; cases c1
  refine Jm S 2 I (v:=aH.zero.v) (u := .i 3) (λS=>⟨_,_,I,.inr ⟨by decide,I,.inr (.inr ⟨I,⟨l,hlb⟩,hno⟩)⟩,S.E⟩)
 refine adr S 1 [] [.mem 0 0] λS=>azq S 2 I (λu C57 S=>?_);have BR:=(aY.ch ((az3 Kr (K00 Rh E51))) C57 Z);have hh:er5=0∧bs=lb:=by have:=sD; simp at this; exact⟨this.1.2,this.2⟩
 have hfin:(aH.key (⟨CS,x23,q30,TK,TL,X40⟩)).valid=true∧lb=fP.app (dV (aH.key (⟨CS,x23,q30,TK,TL,X40⟩))):=by rcases hcs with ⟨c1,c2,c3⟩ | ⟨-,-,c3⟩; (exact⟨c1,hh.2.symm.trans c2⟩); (exact absurd (hh.1.symm.trans c3) O)
 refine Jm S 2 I (v:=aH.v (⟨CS,x23,q30,TK,TL,X40⟩)) (u := .i 0) (λS=>⟨_,_,I,.inl ⟨I,_,I,(aAD (Sx.aY.le BR Z) λW h=>⟨i13,i23,h.1,λz hz=>Gf (h.2 z hz) (TJ z hz).1 (TJ z hz).2.1 (TJ z hz).2.2.1⟩),hfin.1,λz hz=>(TJ z hz).2.2.2,hfin.2⟩,S.E⟩)
end
section
open Go.RowKit Go.Sx
variable{α:Type}{K:Nat}
variable{w w0:World}{b en ec sc:Nat}{sv:Value}{ea sa:Option Addr}{ss:List aH}
theorem ap7{base:Nat}{v:Value}{l:List aj}{w':World}(h:fA base v l w)(hc:Ch b w w')(hb:b<base):fA base v l w':=λw2 hs hk =>
 h w2 (aAa hc.size hs) λi hi hB=>(hk i (aAk hi hc.size) hB).trans (hc.block i hi (λe=>by simp only[azT]at e; omega))
theorem oI{ev:Value}{k:Int}{m:Bool}(hx:Bx w b #[sv,ev,.i k,.bool m]) :
  Calls prog 27 #[.q b 0] w λe w'=>e = .returned (.bool (!m))∧w=w':=by
 skip;refine azp func27 ntmps27 (λS=>?_);have S:=S.view0 hx.1 (hx.range 0 4 I);refine adr S 11 [6,7,8,9,10] [.mem 0 3] λS=>apB S (.bool (!m)) (λS=>?_);exact⟨I,I⟩
theorem hpred{k:Nat}(h:0<k)(h2:k<=9223372036854775807):Value.i (IntKind.i64.wrap ((k:Int)-1)) = .i (k-1:Nat):=by
 have:IntKind.i64.wrap ((k:Int)-1)=((k-1:Nat):Int):=by rw[aBv]; omega
 rw[this]
theorem abz{ev:Value}{k:Nat}(hE:Ext w0 w)(hx:Bx w b #[sv,ev,.i k,.bool true])(hb:w0.heap.size<=b)(hk:k<=1000000) :
  Calls prog 14 #[.q b 0] w λe w'=>(k=0∧e = .returned (.i 20)∧Ext w0 w'∧Ch b w w'∧Bx w' b #[sv,ev,.i k,.bool true])∨∃k',k=k'+1∧e = .returned (.i 0)∧Ext w0 w'∧Ch b w w'∧Bx w' b #[sv,ev,.i k',.bool true]:=by
 skip;refine azN func14 ntmps14 hE hx hb λS=>lQ S (oI (S.bx 0)) λS=>azE S λS=>adr S 6 [] [.mem 0 2] λS=>azm S (((k:Int))==0) (λhc6 S=>?_) (λhc6 S=>?_)
 .refine apB S (.i 20) (λS=>?_);have hk:k=0:=by simpa using hc6
  exact .inl ⟨hk,I,S.E,Ch.refl _ _,S.kK 0⟩
 have hk:0<k:=by have:=hc6; simp at this; omega
 refine adr S 9 [] [.mem 0 2,.re 16 (.i (IntKind.i64.wrap ((k:Int)-1))) (.i (k-1:Nat))] (hk:=⟨hpred Z Z,G⟩) λS=>azv S 0 I λu C9 S=>apB S (.i 0) (λS=>?_);exact .inr ⟨k-1,Z,I,S.E,C9,S.kK 0⟩
theorem abA{k:Nat}(hE:Ext w0 w)(hx:Bx w b #[sv,.slice ea en ec,.i k,.bool true])(hb:w0.heap.size<=b)(hk:k<=1000000) :
  Calls prog 15 #[.q b 0] w λe w'=>(k=en∧e = .returned (.i 20)∧Ext w0 w'∧Ch b w w'∧Bx w' b #[sv,.slice ea en ec,.i k,.bool true])∨(k≠en∧e = .returned (.i 0)∧Ext w0 w'∧Ch b w w'∧Bx w' b #[sv,.slice ea en ec,.i (k+1:Nat),.bool true]):=by
 skip;refine azN func15 ntmps15 hE hx hb λS=>lQ S (oI (S.bx 0)) λS=>azE S λS=>azD S 12 [.mem 0 2,.mem 0 1] [] [(16,.bool (((k:Int))==(en:Int)))] trivial λu E6 S=>azm S (((k:Int))==(en:Int)) (λnJ S=>?_) (λnJ S=>?_)
 .refine apB S (.i 20) (λS=>?_);have hk:k=en:=by have:=nJ; simp at this; omega
  exact .inl ⟨hk,I,S.E,Ch.aT E6,S.kK 0⟩
 refine adr S 9 [] [.mem 0 2,.re 22 (.i (IntKind.i64.wrap ((k:Int)+1))) (.i (k+1:Nat))] (hk:=⟨azA Z,G⟩) λS=>azv S 0 I λu C9 S=>apB S (.i 0) (λS=>?_);have hk:k≠en:=by have:=nJ; simp at this; omega
 exact .inr ⟨hk,I,S.E,Ch.trans (Ch.aT E6) C9,S.kK 0⟩
theorem afa{k:Nat}(hx:Bx w b #[sv,.slice ea en ec,.i k,.bool true]) :
  Calls prog 9 #[.q b 0] w λe w'=>e = .returned (.tuple #[.i k,.i en])∧Ext w w':=by
 skip;refine azp func9 ntmps9 (λS=>?_);have S:=S.view0 hx.1 (hx.range 0 4 I);refine lQ S (oI hx) λS=>azE S λS=>azD S 12 [.mem 0 2,.mem 0 1] [] [(2,.i k),(16,.i en)] trivial λu E5 S=>Qo S (.i k) (.i en) (λS=>?_);exact⟨I,S.E⟩
theorem Jo{ev:Value}{k:Nat}{r:List Value}{x:aH}(hx:Bx w b (.slice sa ss.length sc::ev :: .i k::r).toArray)(h:aJ 7 aH.cells w (.slice sa ss.length sc) ss)(hk:k<ss.length)(hxk:ss[k]=x) :
  Calls prog 38 #[.q b 0] w λe w'=>e = .returned x.v∧Ext w w':=by
 skip;refine azp func38 ntmps38 (λS=>?_);have S:=S.view0 hx.1 (hx.range 0 3 I);refine azo S (λu b2 E3 hb4 S=>?_);have ap8:k<ss.length:=hk;obtain⟨b7,o8,rfl,CS,auO,VE,auP⟩:=aAo h (λ_=>I) (k) ap8;have S:=S.view0 VE auP;refine azD S 10 [.mem 2 0,.mem 2 2,.idx k ss.length,.mem 1 0] [] [(12,CS.v)] trivial (hk:=⟨ap8,G⟩) λu E6 S=>azq S 0 I λu C15 S=>azC S 0 I (v:=CS.v) (λS=>?_);exact⟨by rw[<-hxk,auO],S.E⟩
theorem XG{ev:Value}{k:Nat}(hx:Bx w b #[.slice sa ss.length sc,ev,.i k,.bool true])(h:aJ 7 aH.cells w (.slice sa ss.length sc) ss)(hk:k<ss.length)(hok:dL K w ss[k])(hl:∀n∈(ss[k]).ns,n.lim)(hn:(ss[k]).ns.length<=100000) :
  Calls prog 17 #[.q b 0] w λe w'=>∃m:aH,e = .returned m.v∧fA w.heap.size m.s m.ns w'∧m.ns.map aj.strip=(ss[k]).ns.map aj.strip∧m.w=(ss[k]).w∧m.h=(ss[k]).h∧m.bg=(ss[k]).bg∧Ext w w':=by
 skip;refine azp func17 ntmps17 (λS=>?_);have S:=S.view0 hx.1 (hx.range 0 4 I);refine azo S λu b2 E3 hb4 S=>lQ S (oI (hx.ext S.E)) λS=>azE S λS=>azB S (Jo (hx.ext S.E) (h.below S.E) hk I) (λu E8 S=>?_);have hlt:=(S.bx 0).1;have hsz:=S.E.size;refine azz S (rH (hok.below S.E) hl hn) ?_;rintro e u ⟨m,rfl,ho,hst,hw1,hh1,hb1,E9⟩;refine⟨_,I,E9,λS=>?_⟩;refine azq S 0 I λu C10 S=>azC S 0 I (v:=m.v) (λS=>?_);exact⟨m,I,(ap7 ho.cp C10 hlt).le hsz,hst,hw1,hh1,hb1,S.E⟩
def aP.over(e f:aP):Bool:=(e.kind==f.kind)&&((e.kind==5)||((e.kind==4)&&(e.node.id==f.node.id)))
theorem abB{e f:aP} :
  Calls prog 33 #[e.v,f.v] w λr w'=>r = .returned (.bool (e.over f))∧Ext w w':=by
 skip;refine azp func33 ntmps33 λS=>azo S λu b2 E3 hb4 S=>azo S λu b5 E6 hb7 S=>adr S 7 [] [.mem 1 0,.mem 0 0] λS=>azm S ((e.kind) != f.kind) (λfG S=>?_) (λfG S=>?_)
 .refine apB S (.z) (λS=>?_);exact⟨aN (by unfold aP.over; simp_all),S.E⟩
 refine adr S 4 [] [.mem 1 0] λS=>azm S ((e.kind)==5) (λhc13 S=>?_) (λhc13 S=>?_)
 .refine apB S (.bool true) (λS=>?_);exact⟨aN (by unfold aP.over; simp_all),S.E⟩
 refine adr S 13 [] [.mem 1 0,.mem 1 4,.mem 0 4] λS=>apB S (.bool (((e.kind)==4)&&((e.node.id)==f.node.id))) (λS=>?_);exact⟨aN (by unfold aP.over; simp_all),S.E⟩
