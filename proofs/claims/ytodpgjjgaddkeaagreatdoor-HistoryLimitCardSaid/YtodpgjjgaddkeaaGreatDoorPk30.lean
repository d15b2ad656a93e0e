/- The encoders of package scenebin: scenes. Encodings of -/
import Derived.Test.YtodpgjjgaddkeaaGreatDoorPk29
set_option maxHeartbeats 3200000
set_option maxRecDepth 100000
set_option linter.unusedVariables false
set_option linter.unusedSimpArgs false
namespace Go.Proofs.YtodpgjjgaddkeaaGreatDoor
open _root_.Go.Proofs.Tryz
section
open Go.RowKit
variable{α:Type}{K:Nat}
theorem TG{w0 w:World}{v0 u0:Value}{B:List UInt8}{L:List aj}(hE:Ext w0 w)(ho:OwnB w0.heap.size w v0 B)(h:aI 47 aj.cells w0 u0 L)(hok:∀n∈L,eu K w0 n∧n.Lim)(hB0:(B++L.flatMap (fun n:aj=>eG false n.key)).length≤1000000000) :
  Calls prog 86 #[v0,u0,.func (.func 56) #[.agg #[.z]] #[]] w fun e w'=>∃v,e = .returned v∧OwnB w0.heap.size w' v (B++L.flatMap (fun n:aj=>eG false n.key))∧Ext w0 w':=by
 obtain⟨a,cap,rfl⟩:=h.shape;have hmax:L.length≤9223372036854775807:=h.len;refine Sx.zeE func86 ntmps86 hE (fun S=>?_);have R:=kE (aAo S) ho (fun p hp=>by cases hp) (azJ _);refine azw S (ι:=Nat×Value) (fun p a' w'=>p.1≤L.length∧(True)∧Sx.Rw w0 w' [] [⟨5,1,p.2,(B++(L.take p.1).flatMap (fun n:aj=>eG false n.key)).length,(B++(L.take p.1).flatMap (fun n:aj=>eG false n.key)).map gu⟩]∧Sx.St w0 a' w' 22 [(0,p.2),(1,.slice a L.length cap),(2,.func (.func 56) #[.agg #[.z]] #[]),(6,.sn),(9,.slice a L.length cap),(10,.i L.length),(11,.i p.1)] [] []) (fun p=>L.length-p.1) (0,v0) (fun S=>⟨azQ _,trivial,R.as (show [Sx.bR v0 B]=[Sx.bR v0 (B++(L.take 0).flatMap (fun n:aj=>eG false n.key))] by simp),S.sn⟩) ?_;rintro⟨k,v⟩ ac u gW eH hI;try dsimp only at hI
 obtain⟨hk,hR,R,S⟩:=hI;refine azx S fun S=>azb S (decide ((k:Int)<(L.length:Int))) (fun hc6 S=>?_) (fun hc6 S=>?_)
 ·have fZ:k<L.length:=by have:=azZ hc6; omega
  obtain⟨b9,o10,rfl,x15,jy,hb16,uF⟩:=aAe h (fun _=>rfl) (k) fZ;have S:=S.view0 hb16 uF;refine adr S 2 [] [.idx k L.length,.mem 0 0] (hk:=⟨fZ,trivial⟩) fun S=>azh S (Sx.L [.i 0,.i 0,.i 0]++Sx.za++Sx.L [.sn,.i 0,.u 0,.i 0,.z,.z,.sn,.i 0,.sn,.i 0,.i 0,.i 0,.i 0,.sn,.i 0,.sn,.i 0,.i 0,.sn,.i 0]) fun u b17 yV EU S=>azm S 0 (off:=0) (cs:=x15.cells) rfl fun u yL S=>adr S 3 [] [.mem 0 0] fun S=>azv S (Ah (pk:=false) ((hok _ (jy▸aAc fZ)).1.below S.E) (hok _ (jy▸aAc fZ)).2.akA (YB hB0 _ (jy▸aAc fZ))) (fun v18 u Ag Aq S=>?_);have hB:=Iy hB0 (k+1);rw[←kD fZ jy]at hB;obtain⟨R,Y22⟩:=R.bP S (az2 (aAM yV EU) (az2 (Sx.Stp.Oc yL) (az7 Aq)));refine azl S fun S=>azz S R 19 ((fun n:aj=>eG false n.key) x15) (jE (Ag)) (by simp only[azL]at hB ⊢; omega) fun ac u v23 JI R S=>azr S fun S=>adr S 3 [] [.re 20 (.i (IntKind.i64.wrap ((k:Int)+1))) (.i (k+1:Nat))] (fun S=>?_) (hk:=⟨azt (by omega),trivial⟩);have S:=S.iH 1;obtain⟨R,Y25⟩:=R.bP S (aAE 1);refine azy S gW (fun S=>?_);exact eH _ _ ((k+1),v23) ⟨by omega,trivial,R.as (show [Sx.bR v23 (B++(L.take k).flatMap (fun n:aj=>eG false n.key)++(fun n:aj=>eG false n.key) x15)]=[Sx.bR v23 (B++(L.take (k+1)).flatMap (fun n:aj=>eG false n.key))] by rw[kD fZ jy]),S.sn⟩ (by show _-_<_-_; omega)
 refine ay9 S v (fun S=>?_);exact⟨_,rfl,by have:=R.own _ azV; rw[aAp (by have:=az4 hc6; omega)]at this; exact this,S.E⟩
theorem TJ{w:World}{u0:Value}{L:List aj}(h:aI 47 aj.cells w u0 L)(hok:∀n∈L,eu K w n∧n.Lim)(hB:(iy (fun n:aj=>eG false n.key) L).length≤1000000000) :
  Calls prog 55 #[u0,.func (.func 56) #[.agg #[.z]] #[]] w fun e w'=>∃v,e = .returned v∧OwnB w.heap.size w' v (iy (fun n:aj=>eG false n.key) L)∧Ext w w':=by
 obtain⟨a,cap,rfl⟩:=h.shape;have hmax:L.length≤9223372036854775807:=h.len;refine aze func55 ntmps55 (fun S=>?_);have S0:=S.E.size;refine adr S 4 [] [.re 7 (.int .u64 (IntKind.u64.wrap (L.length:Int))) (.int .u64 (L.length:Int))] (hk:=⟨(wrap_u64 (by omega)),trivial⟩) fun S=>azv S (fO L.length _ (by omega)) fun v8 u ho8 E3 S=>azl S fun S=>Sx.Lu S (some 11) (TG S.E (aY ho8 S0) h hok hB) ?_;rintro e u ⟨v11,rfl,Ph,Pj⟩;refine⟨_,rfl,Pj,fun ac S=>?_⟩;refine Sx.UG S fun S=>ay9 S v11 (fun S=>?_);exact⟨_,rfl,Ph,S.E⟩
def TK(base:Nat)(w:World)(s:bD)(v:Value)(er:Int):Prop:=(s.valid=true∧OwnB base w v (fP.app (dU s))∧er=0)∨(s.valid=false∧v = .sn∧er=18)
theorem vJ{w:World}{s:aJ}(h:dJ K w s)(hg:dw w) :
  Calls prog 28 #[s.v] w fun e w'=>∃v er,e = .returned (.tuple #[v,.i er])∧TK w.heap.size w' s.key v er∧Ext w w':=by
 skip;refine azN func28 ntmps28 fun ac S=>azc fun _ gW=>Sx.qO S 1 s.cells fun ac u b2 E3 hb4 S=>apB S 2 [] [(2,.sn),(3,.i 0)] fun S=>aza<|gW _ _<|azX fun _ Bg=>azc fun _ κ6=>apB S 1 [.mem 0 0] [(5,s.v)] fun S=>Sx.Bh S 6 (wP (h.below S.E) (dw.below hg S.E)) fun ac u E7 S=>apB S 1 [] [(7,.bool (!s.key.valid))] fun S=>aza (κ6 _ _ ?_);refine azC S (fun hc8=>?_) (fun hc8=>?_)
 ·refine azc fun _ κ9=>apB S 2 [] [(2,.sn),(3,.i 18)] fun S=>aza<|κ9 _ _<|Vp.rt ?_;have hv:s.key.valid=false:=by have:=hc8; simpa using this
  refine Sx.J5 S results28 ?_;exact⟨_,_,rfl,.inr ⟨hv,rfl,rfl⟩,S.E⟩
 refine aAi<|Bg _ _<|azc (fun _ zD=>?_);have hv:s.key.valid=true:=by have:=hc8; simpa using this
 have hB:([71,83,49]++dW [s.w,s.h]++Px.pb s.bg++iy (eG false) (s.ns.map aj.key)).length≤1000000000:=by have:=Dt hv; exact az3 this (by decide)
 rw[Po]at hB;have R:=aAo S;refine Sx.lit S 8 9 3 [.u 71,.u 83,.u 49] 53 5 underlying53 underlying5 fun{ac u b13} Au uF S=>apB S 4 [.mem 0 0,.mem 0 1] [(11,.i s.w),(13,.i s.h)] fun S=>Sx.news S 14 2 [.i s.w,.i s.h] (fun ac u b14 E15 hb16 S=>?_);have S0:=S.E.size;refine Sx.jI S (some 15) (iO (L:=[s.w,s.h]) (Sx.kW (f:=fun x:Int => .i x) [s.w,s.h] (S.bx 0) (by simp[maxLen])) (qU.all (L:=[s.w,s.h]) ⟨h.1,h.2.1,trivial⟩) (by simp)) ?_;rintro e u ⟨v17,rfl,Ag,KP⟩;refine⟨_,rfl,KP,fun ac S=>?_⟩;have hvn:0<(dW [s.w,s.h]).length:=by unfold dW; rw[aAO,azL]; have h1:0<(En.dV 10 (En.zig s.w)).length:=En.Bj 9 _; omega
 have hB3:=hB;simp only[azL]at hB3;obtain⟨R,Y20⟩:=R.bP S (az2 (az7 Au) (az2 (aAM E15 hb16) (az7 KP)));refine Sx.apS S R 16 yX ((dP.below uF (Ext.trans' E15 KP))) (jE (Ag)) (by omega) (by omega) (by simp[maxLen]<;>omega) (by omega) (fun ac u v21 P5 X23 R S=>?_);have R:=R.as (show [(⟨5,1,v21,3+(dW [s.w,s.h]).length,[.u 71,.u 83,.u 49]++(dW [s.w,s.h]).map gu⟩:Sx.Row)]=[Sx.bR v21 ([71,83,49]++dW [s.w,s.h])] by unfold Sx.bR; rw[azL,aAB]; rfl);refine apB S 1 [] [(4,v21)] fun S=>aza<|zD _ _<|azc fun _ V9=>apB S 3 [.mem 1 2] [(17,v21),(19,.agg s.bg.cells.toArray)] fun S=>Sx.jI S (some 20) (uU (p:=s.bg)) ?_;rintro e u ⟨v20,rfl,aup,Fp⟩;refine⟨_,rfl,Fp,fun ac S=>?_⟩;obtain⟨R,Y26⟩:=R.bP S (az7 Fp);refine azz S R 21 (Px.pb s.bg) (jE (aup)) (by simp only[azL]at hB ⊢; omega) fun ac u v27 X28 R S=>apB S 1 [] [(4,v27)] fun S=>aza<|V9 _ _<|azc fun _ ad6=>apB S 5 [.mem 1 6] [(22,v27),(24,s.s),(26,.func (.func 56) #[.agg #[.z]] #[])] fun S=>Sx.jI S (some 27) (TJ (h.2.2.1.below S.E) (fun n hn=>⟨(h.2.2.2 n hn).below S.E,(qK hv).2 n hn⟩) (by simp only[azL]at hB; omega)) ?_;rintro e u ⟨v27,rfl,auq,E30⟩;refine⟨_,rfl,E30,fun ac S=>?_⟩;obtain⟨R,Y31⟩:=R.bP S (az7 E30);refine azz S R 28 (iy (fun n:aj=>eG false n.key) s.ns) (jE (auq)) (by simp only[azL]at hB ⊢; omega) fun ac u v32 X33 R S=>apB S 1 [] [(4,v32)] fun S=>aza<|ad6 _ _<|azc fun _ VY=>apB S 1 [] [(29,v32)] (fun S=>?_);have hout:OwnB w.heap.size u v32 (dU s.key):=qL (R.own _ azV) (by rw[←Po]; rfl);have S0:=S.E.size;refine Sx.jI S (some 30) (wU _ (dU s.key) _ (uT hout) (by have:=Dt hv; omega)) ?_;rintro e u ⟨v30,rfl,alx,Fq⟩;refine⟨_,rfl,Fq,fun ac S=>?_⟩;refine apB S 2 [] [(2,v30),(3,.i 0)] fun S=>aza<|VY _ _<|Sx.rt2 S results28 ?_;exact⟨_,_,rfl,.inl ⟨hv,aY (alx) S0,rfl⟩,S.E⟩
end
section
open En
variable{α β:Type}{K:Nat}
theorem YX{m:dB}{w:World}(h:m.ok w)(hn:m.num):m.key.Ok:=⟨⟨h.1,h.2.1,hn.1,hn.2.1⟩,hn.2.2⟩
theorem YZ{t:bG}{w:World}(h:t.ok w)(hf:t.fit K)(hv:t.q.valid=true):SI t.q:=aha (dY.nrm (bG.toQ h hf)) hv
theorem MG{w:World}{p:ak}(h:p.ok w)(hf:p.t.fit K)(hv:p.valid=true):p.key.Ok:=by
 obtain⟨l1,l2,l3⟩:=tV hv;exact⟨h.1,h.2.1,h.2.2.1,h.2.2.2.1,⟨l2,h.2.2.2.2.2.1⟩,h.2.2.2.2.2.2.1,YX h.2.2.2.2.2.2.2.1 l3,h.2.2.2.2.2.2.2.2.1,YZ h.2.2.2.2.2.2.2.2.2 hf l1⟩
theorem TL{w:World}{n:aj}(h:eu K w n)(hv:n.checkN=0):n.key.Ok:=by
 have hL:=tX hv;have hG:=Dv h.1 hv;obtain⟨ho,hf,hff,hfs,-⟩:=h;obtain⟨h1,h2,h3,h4,h5,h6,h7,h8,h9,h10,h11,h12,h13,JY⟩:=ho;refine⟨hG.i,YZ h4 hf hL.q,hG.clip,hG.path,fun hk=>⟨(hG.fill hk).1,fun x hx=>?_⟩,fun hk=>⟨(hG.stroke hk).1,fun x hx=>?_⟩,hG.style,fun hk=>YX h13 (hL.img hk),Ac hv⟩
 ·obtain⟨p,hp,rfl⟩:=az9.1 hx; exact MG (h10.2 p hp) (hff p hp) ((hL.shape hk).2.2.2.1 p hp)
 obtain⟨p,hp,rfl⟩:=az9.1 hx; exact MG (h12.2 p hp) (hfs p hp) ((hL.shape hk).2.2.2.2.1 p hp)
theorem rM{m n:List UInt8}(h:fP.app m=fP.app n):m=n:=by
 have hl:m.length=n.length:=by have:=azT List.length h; rw[nV,nV]at this; omega
 unfold fP.app at h;exact(List.append_inj h hl).1
def Pq(lb:List UInt8):Prop:=∀(K:Nat) (W:World) (s:aJ),dJ K W s→s.key.valid=true→lb≠fP.app (dU s.key)
theorem Jb(s:bD):dU s=[71,83,49]++(iB s.w++(iB s.h++(Px.pb s.bg++iy (eG false) s.ns))):=by
 unfold dU; simp only[lg,az0]; rfl
theorem Ku{lb m:List UInt8}(h:lb=fP.app m)(hm:¬m.take 3=[71,83,49]):Pq lb:=fun K W s hs hv e=>by
 rw[h]at e;have:=rM e;rw[this,Jb]at hm;exact hm rfl
theorem FN{w:World}{n:aj}(h:n.ok w)(f1:n.t.fit 5000)(f2:∀p∈n.fill,p.t.fit 5000)(f3:∀p∈n.stroke,p.t.fit 5000):eu 5000 w n:=⟨h,f1,f2,f3,by decide,by decide⟩
section
variable{l:List UInt8}{p1 p2 p3 p4 p5 k:Nat}{b1 b2 b3 b4 b5:Bool}{x y:Int}{q:bC}{X:List aQ}
theorem abo(h1:Got iB I64 l 3 false p1 b1 x)(h2:Got iB I64 l p1 b1 p2 b2 y)(h3:Got Px.pb (fun _=>True) l p2 b2 p3 b3 q)(h4:ag2 l p3 b3 p4 b4 k)(h5:iW (eG false) aQ.Ok l p4 b4 k p5 b5 X)
  (K:Nat) (W:World) (s:aJ) (hs:dJ K W s) (hv:s.key.valid=true) (hl:l=dU s.key):(⟨x,y,q,X⟩:bD)=s.key∧b5=false:=by
 have hh:l.drop 3=iB s.key.w++(iB s.key.h++(Px.pb s.key.bg++iy (eG false) s.key.ns)):=by rw[hl,Jb]; rfl
 obtain⟨e1,c,hh⟩:=h1 _ _ hs.1 rfl hh;obtain⟨e2,c,hh⟩:=h2 _ _ hs.2.1 c hh;obtain⟨e3,c,hh⟩:=h3 _ _ trivial c hh;obtain⟨hn,-⟩:=qK hv;obtain⟨e4,c,hh⟩:=(iW.lst h4 h5 (aa4 false)) s.key.ns [] ⟨by simp[aJ.key]; omega,fun z hz=>by
  obtain⟨n,hn,rfl⟩:=az9.1 hz;exact TL (hs.2.2.2 n hn) (uY hv n hn)⟩ c (by rw[hh,aAL])
 exact⟨by rw[e1,e2,e3,e4]; rfl,c⟩
end
theorem TM{base:Nat}{w:World}{s:bD}{v:Value}{er:Int}(h:TK base w s v er):∃bs,bJ w v bs∧((s.valid=true∧bs=fP.app (dU s)∧er=0)∨(s.valid=false∧bs=[]∧er=18)):=by
 rcases h with ⟨h1,h2,h3⟩ | ⟨h1,rfl,h3⟩
 ·exact⟨_,uT h2,.inl ⟨h1,rfl,h3⟩⟩
 exact⟨[],eF (dI _ _ _),.inr ⟨h1,rfl,h3⟩⟩
end
section
open Go.RowKit En
variable{α:Type}{K:Nat}
def TN(base:Nat)(w:World)(lb:List UInt8)(v:Value)(er:Int):Prop:=
 (er=0∧∃s:aJ,v=s.v∧Sx.aU base (fun W=>dJ 5000 W s) w∧s.key.valid=true∧(∀n∈s.ns,n.t.least)∧lb=fP.app (dU s.key)) ∨
 (er≠0∧v=aJ.zero.v∧((er=4∧lb.length<4)∨(er=19∧4≤lb.length∧∀m,lb≠fP.app m)∨(er=3∧(∃m,lb=fP.app m)∧Pq lb)))
set_option maxRecDepth 100000 in
set_option maxHeartbeats 3200000 in
theorem DF{w:World}{v:Value}{lb:List UInt8}(hg:dw w)(hv:jr w v lb)(hll:lb.length≤60000000) :
  Calls prog 48 #[v] w fun e w'=>∃v er,e = .returned (.tuple #[v,.i er])∧TN w.heap.size w' lb v er∧Ext w w':=by
 obtain⟨ad,ca,rfl⟩:=hv.shape;have hin:=hv;clear hv;refine aze func48 ntmps48 fun S=>azd S (fun u b2 E3 hb4 S=>?_);have aly:=(S.bx 0).1;have hEq:=S.E;refine azo S (Me (c0:=71) (c1':=83) (c2:=49) (aI.below hin S.E) hll) ?_;rintro e u ⟨pv,er,rfl,E6,hop⟩;refine⟨_,rfl,E6,fun S=>?_⟩;refine azb S ((er) != 0) (fun Jz S=>?_) (fun Jz S=>?_)
 ·have ae2:=hop.resolve_right (fun h=>absurd h.1 (by have:=Jz; simpa using this));refine azf S 0 rfl (fun u Ya S=>?_);have hwy:TN w.heap.size u lb aJ.zero.v er := .inr ⟨ae2.1,rfl,ae2.2.2.imp id (fun h=>h.imp id (fun h=>⟨h.1,by obtain⟨m,hm,-⟩:=h.2; exact⟨m,hm⟩,by obtain⟨m,hm,hn⟩:=h.2; exact Ku hm hn⟩))⟩;refine Sx.Jc S 0 rfl (v:=aJ.zero.v) (u := .i er) (fun S=>⟨_,_,rfl,hwy,S.E⟩)
 obtain⟨-,l,b,a,cap,wm,hlb,hm3,rfl,Xm,h,hws,hE1,hXr⟩:=hop.resolve_left (fun h=>h.1 (by have:=Jz; simpa using this));have he0:er=0:=by have:=Jz; simpa using this
 have hEw:Ext w wm:=Ext.trans' hEq Xm;have hs0:=hEw.size;have hs1:=Xm.size;have hl6:l.length≤60000000:=by have:=azT List.length hlb; rw[nV]at this; omega
 have hp0:3≤l.length:=by have:=azT List.length hm3; simp at this; omega
 have S:=S.adopt (A:=[.slice a l.length cap,.i (3:Nat),.z,.z]) hXr (by omega) (fun p hp=>by rcases azS.1 hp with rfl | hp; (have:=aly; intro e; simp only at e; omega); cases hp) (fun m hm=>by cases hm);have hEz:=Ext.trans' hEw hE1;have S:=S.fl;have y13:=((Ch.aZ (b:=b) hEz)).size;have hEr:=hE1;refine azj S 0 rfl (jg hEr (S.bx 0) hws h hp0) ?_;rintro e u ⟨BX,p13,d13,rfl,i13,g13,Kt,Ad,oI,IL⟩;refine⟨_,_,rfl,(Ext.trans' hEw Ad),oI,IL,fun S=>?_⟩;have aem:=oI.size;have Nh:=Ad.size;have zJ:=Ad;have oN:=(aH (Ch.aZ (b:=b) hEz) oI);refine azd S fun u b16 yJ agm S=>azf S 0 rfl (fun u X6 S=>?_);have yx:=azg yJ X6;have Aq:=azg yJ X6;have S:=S.fl;have y23:=(((Ch.trans oN (Ch.aZ Aq)))).size;have hEr:=((Ext.trans' zJ yx));refine azj S 1 rfl (jg hEr (S.bx 1) hws h Kt) ?_;rintro e u ⟨x23,p23,d23,rfl,i23,g23,aur,alz,alA,aus⟩;refine⟨_,_,rfl,(Ext.trans' hEw alz),alA,aus,fun S=>?_⟩;have ayT:=alA.size;have aay:=alz.size;have ak4:=alz;have CS:=(aH ((Ch.trans oN (Ch.aZ Aq))) alA);refine azk S 0 rfl (fun u C26 S=>?_);have yu:=(azg ak4 C26 (by omega));have Di:=(aH CS C26);have S:=S.fl;have y30:=(Di).size;have hEr:=yu;refine azj S 1 rfl (FK hEr (S.bx 1) hws h aur) ?_;rintro e u ⟨q30,p30,d30,rfl,g30,aut,alB,alC,auu⟩;refine⟨_,_,rfl,(Ext.trans' hEw alB),alC,auu,fun S=>?_⟩;have ayU:=alC.size;have ayV:=alB.size;have wB:=alB;have A8:=(aH Di alC);refine azf S 0 rfl (fun u Nz S=>?_);have Dj:=(azg wB Nz (by omega));have BM:=(aH A8 Nz);have S:=S.fl;have y37:=(BM).size;have hEr:=Dj;refine azj S 1 rfl (uZ hEr (S.bx 1) hws h aut) ?_;rintro e u ⟨k37,p37,d37,rfl,auv,g37,auw,alD,alE,auy⟩;refine⟨_,_,rfl,(Ext.trans' hEw alD),alE,auy,fun S=>?_⟩;have ayW:=alE.size;have ayX:=alD.size;have zu:=alD;have CX:=(aH BM alE);have S:=S.fl;have y40:=(CX).size;have ant:=(S.bx 0).1;have anu:=(S.bx 1).1;have anv:=(S.bx 2).1;have hEr:=zu;refine azj S 1 rfl (aeZ (hl6:=hl6) (hn:=auv) (hll:=by omega) hEr (S.bx 1) hws h auw) ?_;rintro e u ⟨v40,X40,p40,d40,rfl,asf,SV,aeF,g40,anw,Vs,NK,adg⟩;obtain⟨SX,SY,rfl⟩:=aeF.self.1.shape;refine⟨_,_,rfl,(Ext.trans' hEw Vs),NK,adg,fun S=>?_⟩;have asg:=NK.size;have ayY:=Vs.size;have zx:=Vs;have CV:=(aH CX NK);refine azk S 0 rfl (fun u C43 S=>?_);have Oq:=(azg zx C43 (by omega));have qR:=(aH CV C43);have JU:=(aU.ch aeF C43 (by omega));have hgs:=abo g13 g23 g30 g37 g40;have alF:dJ 5000 u (⟨BX,x23,q30,SX,SY,X40⟩):=⟨i13,i23,(aAj JU).1,fun z hz=>FN ((aAj JU).2 z hz) (SV z hz).1 (SV z hz).2.1 (SV z hz).2.2.1⟩;refine adr S 1 [] [.mem 0 0] fun S=>azo S (vJ alF (dw.below hg S.E)) ?_;rintro e u ⟨v5,er5,rfl,hsc,QK⟩;obtain⟨bs,hbs,hcs⟩:=TM hsc;refine⟨_,rfl,QK,fun S=>?_⟩;refine adr S 5 [] [] fun S=>aAG S 14 [.mem 1 2] [(_,_,(!(d40||((er5) != 0))),.bool (bs==lb))] [(51,.bool ((d40||((er5) != 0))||(!(bs==lb))))] ⟨fun u hC g=>azB (kR _ _ bs lb u (((dD.below hbs hC))) (eF (aI.below hin (Ext.trans' S.E hC)))),trivial⟩ fun u E51 S=>azb S ((d40||((er5) != 0))||(!(bs==lb))) (fun rZ S=>?_) (fun rZ S=>?_)
 ·refine azf S 2 rfl (fun u C54 S=>?_);have Ri:=(aU.ch ((az1 JU (Ext.trans' QK E51))) C54 (by omega));have hno:Pq lb:=fun K0 W0 s0 hs0 hv0 e=>by
   rw[hlb]at e;obtain⟨g1,g2⟩:=hgs K0 W0 s0 hs0 hv0 (rM e);replace g1:aJ.key (⟨BX,x23,q30,SX,SY,X40⟩)=s0.key:=g1;rw[g1]at hcs;rcases hcs with ⟨-,c2,c3⟩ | ⟨c1,-⟩
   ·rw[g2,c3,c2,hlb,rM e]at rZ; simp at rZ
   rw[hv0]at c1; cases c1
  refine Sx.Jc S 2 rfl (v:=aJ.zero.v) (u := .i 3) (fun S=>⟨_,_,rfl,.inr ⟨by decide,rfl,.inr (.inr ⟨rfl,⟨l,hlb⟩,hno⟩)⟩,S.E⟩)
 refine adr S 1 [] [.mem 0 0] fun S=>azf S 2 rfl (fun u C57 S=>?_);have Bq:=(aU.ch ((az1 JU (Ext.trans' QK E51))) C57 (by omega));have hh:er5=0∧bs=lb:=by have:=rZ; simp at this; exact⟨this.1.2,this.2⟩
 have hfin:(aJ.key (⟨BX,x23,q30,SX,SY,X40⟩)).valid=true∧lb=fP.app (dU (aJ.key (⟨BX,x23,q30,SX,SY,X40⟩))):=by rcases hcs with ⟨c1,c2,c3⟩ | ⟨-,-,c3⟩; (exact⟨c1,hh.2.symm.trans c2⟩); (exact absurd (hh.1.symm.trans c3) (by decide))
 refine Sx.Jc S 2 rfl (v:=aJ.v (⟨BX,x23,q30,SX,SY,X40⟩)) (u := .i 0) (fun S=>⟨_,_,rfl,.inl ⟨rfl,_,rfl,(aAF (Sx.aU.le Bq (by omega)) fun W h=>⟨i13,i23,h.1,fun z hz=>FN (h.2 z hz) (SV z hz).1 (SV z hz).2.1 (SV z hz).2.2.1⟩),hfin.1,fun z hz=>(SV z hz).2.2.2,hfin.2⟩,S.E⟩)
end
section
open Go.RowKit
variable{α:Type}{K:Nat}
theorem apT{base b:Nat}{v:Value}{l:List aj}{w w':World}(h:fU base v l w)(hc:Ch b w w')(hb:b<base):fU base v l w':=fun w2 hs hk =>
 h w2 (az3 hc.size hs) fun i hi hB=>(hk i (aAa hi hc.size) hB).trans (hc.block i hi (fun e=>by simp only[azK]at e; omega))
theorem pY{w:World}{b:Nat}{sv ev:Value}{k:Int}{m:Bool}(hx:Bx w b #[sv,ev,.i k,.bool m]) :
  Calls prog 27 #[.q b 0] w fun e w'=>e = .returned (.bool (!m))∧w=w':=by
 skip;refine aze func27 ntmps27 (fun S=>?_);have S:=S.view0 hx.1 (hx.range 0 4 rfl);refine adr S 11 [6,7,8,9,10] [.mem 0 3] fun S=>ay9 S (.bool (!m)) (fun S=>?_);exact⟨rfl,rfl⟩
theorem hpred{k:Nat}(h:0<k)(h2:k≤9223372036854775807):Value.i (IntKind.i64.wrap ((k:Int)-1)) = .i (k-1:Nat):=by
 have:IntKind.i64.wrap ((k:Int)-1)=((k-1:Nat):Int):=by rw[aB7]; omega
 rw[this]
theorem abp{w0 w:World}{b:Nat}{sv ev:Value}{k:Nat}(hE:Ext w0 w)(hx:Bx w b #[sv,ev,.i k,.bool true])(hb:w0.heap.size≤b)(hk:k≤1000000) :
  Calls prog 14 #[.q b 0] w fun e w'=>(k=0∧e = .returned (.i 20)∧Ext w0 w'∧Ch b w w'∧Bx w' b #[sv,ev,.i k,.bool true])∨∃k',k=k'+1∧e = .returned (.i 0)∧Ext w0 w'∧Ch b w w'∧Bx w' b #[sv,ev,.i k',.bool true]:=by
 skip;refine azE func14 ntmps14 hE hx hb fun S=>Sx.lU S (pY (S.bx 0)) fun S=>azu S fun S=>adr S 6 [] [.mem 0 2] fun S=>azb S (((k:Int))==0) (fun hc6 S=>?_) (fun hc6 S=>?_)
 ·refine ay9 S (.i 20) (fun S=>?_);have hk:k=0:=by simpa using hc6
  exact .inl ⟨hk,rfl,S.E,Ch.refl _ _,S.lu 0⟩
 have hk:0<k:=by have:=hc6; simp at this; omega
 refine adr S 9 [] [.mem 0 2,.re 16 (.i (IntKind.i64.wrap ((k:Int)-1))) (.i (k-1:Nat))] (hk:=⟨hpred (by omega) (by omega),trivial⟩) fun S=>azk S 0 rfl fun u C9 S=>ay9 S (.i 0) (fun S=>?_);exact .inr ⟨k-1,by omega,rfl,S.E,C9,S.lu 0⟩
theorem abq{w0 w:World}{b:Nat}{sv:Value}{ea:Option Addr}{en ec:Nat}{k:Nat}(hE:Ext w0 w)(hx:Bx w b #[sv,.slice ea en ec,.i k,.bool true])(hb:w0.heap.size≤b)(hk:k≤1000000) :
  Calls prog 15 #[.q b 0] w fun e w'=>(k=en∧e = .returned (.i 20)∧Ext w0 w'∧Ch b w w'∧Bx w' b #[sv,.slice ea en ec,.i k,.bool true])∨(k≠en∧e = .returned (.i 0)∧Ext w0 w'∧Ch b w w'∧Bx w' b #[sv,.slice ea en ec,.i (k+1:Nat),.bool true]):=by
 skip;refine azE func15 ntmps15 hE hx hb fun S=>Sx.lU S (pY (S.bx 0)) fun S=>azu S fun S=>azs S 12 [.mem 0 2,.mem 0 1] [] [(16,.bool (((k:Int))==(en:Int)))] trivial fun u E6 S=>azb S (((k:Int))==(en:Int)) (fun nJ S=>?_) (fun nJ S=>?_)
 ·refine ay9 S (.i 20) (fun S=>?_);have hk:k=en:=by have:=nJ; simp at this; omega
  exact .inl ⟨hk,rfl,S.E,Ch.aZ E6,S.lu 0⟩
 refine adr S 9 [] [.mem 0 2,.re 22 (.i (IntKind.i64.wrap ((k:Int)+1))) (.i (k+1:Nat))] (hk:=⟨azt (by omega),trivial⟩) fun S=>azk S 0 rfl fun u C9 S=>ay9 S (.i 0) (fun S=>?_);have hk:k≠en:=by have:=nJ; simp at this; omega
 exact .inr ⟨hk,rfl,S.E,Ch.trans (Ch.aZ E6) C9,S.lu 0⟩
theorem ae3{w:World}{b:Nat}{sv:Value}{ea:Option Addr}{en ec k:Nat}(hx:Bx w b #[sv,.slice ea en ec,.i k,.bool true]) :
  Calls prog 9 #[.q b 0] w fun e w'=>e = .returned (.tuple #[.i k,.i en])∧Ext w w':=by
 skip;refine aze func9 ntmps9 (fun S=>?_);have S:=S.view0 hx.1 (hx.range 0 4 rfl);refine Sx.lU S (pY hx) fun S=>azu S fun S=>azs S 12 [.mem 0 2,.mem 0 1] [] [(2,.i k),(16,.i en)] trivial fun u E5 S=>Sx.QJ S (.i k) (.i en) (fun S=>?_);exact⟨rfl,S.E⟩
theorem TP{w:World}{b:Nat}{ev:Value}{sa:Option Addr}{sc k:Nat}{ss:List aJ}{r:List Value}{x:aJ}(hx:Bx w b (.slice sa ss.length sc::ev :: .i k::r).toArray)(h:aI 7 aJ.cells w (.slice sa ss.length sc) ss)(hk:k<ss.length)(hxk:ss[k]=x) :
  Calls prog 38 #[.q b 0] w fun e w'=>e = .returned x.v∧Ext w w':=by
 skip;refine aze func38 ntmps38 (fun S=>?_);have S:=S.view0 hx.1 (hx.range 0 3 rfl);refine azd S (fun u b2 E3 hb4 S=>?_);have apU:k<ss.length:=hk;obtain⟨b7,o8,rfl,BX,auz,aae,auA⟩:=aAe h (fun _=>rfl) (k) apU;have S:=S.view0 aae auA;refine azs S 10 [.mem 2 0,.mem 2 2,.idx k ss.length,.mem 1 0] [] [(12,BX.v)] trivial (hk:=⟨apU,trivial⟩) fun u E6 S=>azf S 0 rfl fun u C15 S=>azq S 0 rfl (v:=BX.v) (fun S=>?_);exact⟨by rw[←hxk,auz],S.E⟩
theorem Xp{w:World}{b:Nat}{ev:Value}{sa:Option Addr}{sc k:Nat}{ss:List aJ}(hx:Bx w b #[.slice sa ss.length sc,ev,.i k,.bool true])(h:aI 7 aJ.cells w (.slice sa ss.length sc) ss)(hk:k<ss.length)(hok:dJ K w ss[k])(hl:∀n∈(ss[k]).ns,n.lim)(hn:(ss[k]).ns.length≤100000) :
  Calls prog 17 #[.q b 0] w fun e w'=>∃m:aJ,e = .returned m.v∧fU w.heap.size m.s m.ns w'∧m.ns.map aj.strip=(ss[k]).ns.map aj.strip∧m.w=(ss[k]).w∧m.h=(ss[k]).h∧m.bg=(ss[k]).bg∧Ext w w':=by
 skip;refine aze func17 ntmps17 (fun S=>?_);have S:=S.view0 hx.1 (hx.range 0 4 rfl);refine azd S fun u b2 E3 hb4 S=>Sx.lU S (pY (hx.ext S.E)) fun S=>azu S fun S=>azp S (TP (hx.ext S.E) (h.below S.E) hk rfl) (fun u E8 S=>?_);have hlt:=(S.bx 0).1;have hsz:=S.E.size;refine azo S (rG (hok.below S.E) hl hn) ?_;rintro e u ⟨m,rfl,ho,hst,hw1,hh1,hb1,E9⟩;refine⟨_,rfl,E9,fun S=>?_⟩;refine azf S 0 rfl fun u C10 S=>azq S 0 rfl (v:=m.v) (fun S=>?_);exact⟨m,rfl,(apT ho.cp C10 hlt).le hsz,hst,hw1,hh1,hb1,S.E⟩
end
section
open Go.RowKit En
variable{α:Type}{K:Nat}
theorem Cb(c d:bC)(w:World):(binOp .neq 40 (.agg c.cells.toArray) (.agg d.cells.toArray)).run prog w = .ok (.bool (!decide (c=d))) w:=by
 rw[←Oe]; exact aip ..
def jh(e:bZ):Bool:=(e.kind==1)||(e.kind==4)
def fD(e:bZ):Bool:=
 if e.kind=1 then ((((((e.id) != 0)||false)||((e.depth) != 0))||(!decide (e.color=⟨0,0,0,0⟩)))||(!(decide (bK.key=bK.key))))
 else if e.kind=4 then ((((((e.id) != 0)||((e.index) != 0))||((e.depth) != 0))||(!decide (e.color=⟨0,0,0,0⟩)))||(!(decide (bK.key=bK.key))))
 else if e.kind=3 then ((!decide (e.color=⟨0,0,0,0⟩))||(!(decide (e.node=bK.key))))
 else if e.kind=2 then (((((e.index) != 0)||((e.depth) != 0))||(!decide (e.color=⟨0,0,0,0⟩)))||(!(decide (e.node=bK.key))))
 else if e.kind=5 then ((((((e.id) != 0)||((e.index) != 0))||((e.depth) != 0))||(!decide ((⟨0,0,0,0⟩:bC)=⟨0,0,0,0⟩)))||(!(decide (e.node=bK.key))))
 else true
def TQ(base:Nat)(w:World)(e:bZ)(v:Value)(er:Int):Prop:=(fD e=true∧v = .sn∧er=2)∨(fD e=false∧jh e=true∧¬e.node.chk=0∧v = .sn∧er=17) ∨
 (fD e=false∧(jh e=true→e.node.chk=0)∧OwnB base w v (fP.app (jW e))∧er=0)
theorem Xq{w:World}{e:bn}(h:iF K w e) :
  Calls prog 57 #[e.v] w fun r w'=>r = .returned (.tuple #[.bool (jh e.key),.bool (fD e.key)])∧Ext w w':=by
 have hK:=h.2.2.2.2.2.2.2.2;refine aze func57 ntmps57 fun S=>azd S fun u b2 E3 hb4 S=>adr S 3 [] [.mem 0 0] fun S=>azd S fun u b6 E7 hb8 S=>azf S 0 rfl fun u C9 S=>adr S 4 [] [.mem 1 0] fun S=>azb S ((e.kind)==1) (fun hc13 S=>?_) (fun hc13 S=>?_)
 ·refine azk S 0 rfl fun u C14 S=>azf S 0 rfl fun u C15 S=>aAG S 27 [.mem 0 1,.mem 0 2,.mem 0 3,.mem 0 51,.cmp .neq 40 (.tmp 45) (.tmp 46) (.agg #[.u (e.color.r.toNat:Int),.u (e.color.g.toNat:Int),.u (e.color.b.toNat:Int),.u (e.color.a.toNat:Int)]) (.agg #[.u 0,.u 0,.u 0,.u 0]) (.bool (!decide (e.color=⟨0,0,0,0⟩))),.mem 0 4] [(_,_,(!(((((e.id) != 0)||false)||((e.depth) != 0))||(!decide (e.color=⟨0,0,0,0⟩)))),.bool (bK.key=bK.key))] [(5,.bool ((((((e.id) != 0)||false)||((e.depth) != 0))||(!decide (e.color=⟨0,0,0,0⟩)))||(!(decide (bK.key=bK.key)))))] ⟨fun u hC g=>xQ (a:=bK) (b:=bK) (gJ u hK.1 hK.2) (gJ u hK.1 hK.2),trivial⟩ (fun u yJ S=>?_) (hk:=⟨(azD (fun _=>Cb e.color ⟨0,0,0,0⟩ _) (by kernel_rfl)),trivial⟩);have hm:fD e.key=((((((e.id) != 0)||false)||((e.depth) != 0))||(!decide (e.color=⟨0,0,0,0⟩)))||(!(decide (bK.key=bK.key)))):=by unfold fD; rw[azI (show e.key.kind=1 from(by have:=hc13; simpa using this:e.kind=1))]; try rfl
  refine adr S 11 [] [.mem 1 0,.mem 1 0] fun S=>Sx.QJ S (.bool (((e.kind)==1)||((e.kind)==4))) (.bool ((((((e.id) != 0)||false)||((e.depth) != 0))||(!decide (e.color=⟨0,0,0,0⟩)))||(!(decide (bK.key=bK.key))))) (fun S=>?_);exact⟨by rw[hm]; rfl,S.E⟩
 refine azb S ((e.kind)==4) (fun qm S=>?_) (fun qm S=>?_)
 ·refine azf S 0 rfl (fun u C21 S=>?_);have S:=S.fl;refine aAG S 27 [.mem 0 1,.mem 0 2,.mem 0 3,.mem 0 51,.cmp .neq 40 (.tmp 45) (.tmp 46) (.agg #[.u (e.color.r.toNat:Int),.u (e.color.g.toNat:Int),.u (e.color.b.toNat:Int),.u (e.color.a.toNat:Int)]) (.agg #[.u 0,.u 0,.u 0,.u 0]) (.bool (!decide (e.color=⟨0,0,0,0⟩))),.mem 0 4] [(_,_,(!(((((e.id) != 0)||((e.index) != 0))||((e.depth) != 0))||(!decide (e.color=⟨0,0,0,0⟩)))),.bool (bK.key=bK.key))] [(5,.bool ((((((e.id) != 0)||((e.index) != 0))||((e.depth) != 0))||(!decide (e.color=⟨0,0,0,0⟩)))||(!(decide (bK.key=bK.key)))))] ⟨fun u hC g=>xQ (a:=bK) (b:=bK) (gJ u hK.1 hK.2) (gJ u hK.1 hK.2),trivial⟩ (fun u E23 S=>?_) (hk:=⟨(azD (fun _=>Cb e.color ⟨0,0,0,0⟩ _) (by kernel_rfl)),trivial⟩);have hm:fD e.key=((((((e.id) != 0)||((e.index) != 0))||((e.depth) != 0))||(!decide (e.color=⟨0,0,0,0⟩)))||(!(decide (bK.key=bK.key)))):=by unfold fD; rw[azG (show ¬e.key.kind=1 from(by have:=hc13; simpa using this:¬e.kind=1)),azI (show e.key.kind=4 from(by have:=qm; simpa using this:e.kind=4))]; try rfl
  refine adr S 11 [] [.mem 1 0,.mem 1 0] fun S=>Sx.QJ S (.bool (((e.kind)==1)||((e.kind)==4))) (.bool ((((((e.id) != 0)||((e.index) != 0))||((e.depth) != 0))||(!decide (e.color=⟨0,0,0,0⟩)))||(!(decide (bK.key=bK.key))))) (fun S=>?_);exact⟨by rw[hm]; rfl,S.E⟩
 refine azb S ((e.kind)==3) (fun Kv S=>?_) (fun Kv S=>?_)
 ·refine azk S 0 rfl fun u C27 S=>azk S 0 rfl fun u P6 S=>azk S 0 rfl fun u C29 S=>aAG S 27 [.mem 0 1,.mem 0 2,.mem 0 3,.mem 0 51,.cmp .neq 40 (.tmp 45) (.tmp 46) (.agg #[.u (e.color.r.toNat:Int),.u (e.color.g.toNat:Int),.u (e.color.b.toNat:Int),.u (e.color.a.toNat:Int)]) (.agg #[.u 0,.u 0,.u 0,.u 0]) (.bool (!decide (e.color=⟨0,0,0,0⟩))),.mem 0 4] [(_,_,(!(!decide (e.color=⟨0,0,0,0⟩))),.bool (e.node.key=bK.key))] [(5,.bool ((!decide (e.color=⟨0,0,0,0⟩))||(!(decide (e.node.key=bK.key)))))] ⟨fun u hC g=>xQ (a:=e.node) (b:=bK) (h.2.2.2.2.below (Ext.trans' S.E hC)) (gJ u hK.1 hK.2),trivial⟩ (fun u CB S=>?_) (hk:=⟨(azD (fun _=>Cb e.color ⟨0,0,0,0⟩ _) (by kernel_rfl)),trivial⟩);have hm:fD e.key=((!decide (e.color=⟨0,0,0,0⟩))||(!(decide (e.node.key=bK.key)))):=by unfold fD; rw[azG (show ¬e.key.kind=1 from(by have:=hc13; simpa using this:¬e.kind=1)),azG (show ¬e.key.kind=4 from(by have:=qm; simpa using this:¬e.kind=4)),azI (show e.key.kind=3 from(by have:=Kv; simpa using this:e.kind=3))]; try rfl
  refine adr S 11 [] [.mem 1 0,.mem 1 0] fun S=>Sx.QJ S (.bool (((e.kind)==1)||((e.kind)==4))) (.bool ((!decide (e.color=⟨0,0,0,0⟩))||(!(decide (e.node.key=bK.key))))) (fun S=>?_);exact⟨by rw[hm]; rfl,S.E⟩
 refine azb S ((e.kind)==2) (fun hc34 S=>?_) (fun hc34 S=>?_)
 ·refine azk S 0 rfl (fun u C35 S=>?_);have S:=S.fl;refine aAG S 27 [.mem 0 1,.mem 0 2,.mem 0 3,.mem 0 51,.cmp .neq 40 (.tmp 45) (.tmp 46) (.agg #[.u (e.color.r.toNat:Int),.u (e.color.g.toNat:Int),.u (e.color.b.toNat:Int),.u (e.color.a.toNat:Int)]) (.agg #[.u 0,.u 0,.u 0,.u 0]) (.bool (!decide (e.color=⟨0,0,0,0⟩))),.mem 0 4] [(_,_,(!((((e.index) != 0)||((e.depth) != 0))||(!decide (e.color=⟨0,0,0,0⟩)))),.bool (e.node.key=bK.key))] [(5,.bool (((((e.index) != 0)||((e.depth) != 0))||(!decide (e.color=⟨0,0,0,0⟩)))||(!(decide (e.node.key=bK.key)))))] ⟨fun u hC g=>xQ (a:=e.node) (b:=bK) (h.2.2.2.2.below (Ext.trans' S.E hC)) (gJ u hK.1 hK.2),trivial⟩ (fun u G8 S=>?_) (hk:=⟨(azD (fun _=>Cb e.color ⟨0,0,0,0⟩ _) (by kernel_rfl)),trivial⟩);have hm:fD e.key=(((((e.index) != 0)||((e.depth) != 0))||(!decide (e.color=⟨0,0,0,0⟩)))||(!(decide (e.node.key=bK.key)))):=by unfold fD; rw[azG (show ¬e.key.kind=1 from(by have:=hc13; simpa using this:¬e.kind=1)),azG (show ¬e.key.kind=4 from(by have:=qm; simpa using this:¬e.kind=4)),azG (show ¬e.key.kind=3 from(by have:=Kv; simpa using this:¬e.kind=3)),azI (show e.key.kind=2 from(by have:=hc34; simpa using this:e.kind=2))]; try rfl
  refine adr S 11 [] [.mem 1 0,.mem 1 0] fun S=>Sx.QJ S (.bool (((e.kind)==1)||((e.kind)==4))) (.bool (((((e.index) != 0)||((e.depth) != 0))||(!decide (e.color=⟨0,0,0,0⟩)))||(!(decide (e.node.key=bK.key))))) (fun S=>?_);exact⟨by rw[hm]; rfl,S.E⟩
 refine azb S ((e.kind)==5) (fun VJ S=>?_) (fun VJ S=>?_)
 ·refine azf S 0 rfl fun u C41 S=>aAG S 27 [.mem 0 1,.mem 0 2,.mem 0 3,.mem 0 51,.cmp .neq 40 (.tmp 45) (.tmp 46) (.agg #[.u 0,.u 0,.u 0,.u 0]) (.agg #[.u 0,.u 0,.u 0,.u 0]) (.bool (!decide ((⟨0,0,0,0⟩:bC)=⟨0,0,0,0⟩))),.mem 0 4] [(_,_,(!(((((e.id) != 0)||((e.index) != 0))||((e.depth) != 0))||(!decide ((⟨0,0,0,0⟩:bC)=⟨0,0,0,0⟩)))),.bool (e.node.key=bK.key))] [(5,.bool ((((((e.id) != 0)||((e.index) != 0))||((e.depth) != 0))||(!decide ((⟨0,0,0,0⟩:bC)=⟨0,0,0,0⟩)))||(!(decide (e.node.key=bK.key)))))] ⟨fun u hC g=>xQ (a:=e.node) (b:=bK) (h.2.2.2.2.below (Ext.trans' S.E hC)) (gJ u hK.1 hK.2),trivial⟩ (fun u E43 S=>?_) (hk:=⟨(azD (fun _=>Cb ⟨0,0,0,0⟩ ⟨0,0,0,0⟩ _) (by kernel_rfl)),trivial⟩);have hm:fD e.key=((((((e.id) != 0)||((e.index) != 0))||((e.depth) != 0))||(!decide ((⟨0,0,0,0⟩:bC)=⟨0,0,0,0⟩)))||(!(decide (e.node.key=bK.key)))):=by unfold fD; rw[azG (show ¬e.key.kind=1 from(by have:=hc13; simpa using this:¬e.kind=1)),azG (show ¬e.key.kind=4 from(by have:=qm; simpa using this:¬e.kind=4)),azG (show ¬e.key.kind=3 from(by have:=Kv; simpa using this:¬e.kind=3)),azG (show ¬e.key.kind=2 from(by have:=hc34; simpa using this:¬e.kind=2)),azI (show e.key.kind=5 from(by have:=VJ; simpa using this:e.kind=5))]; try rfl
  refine adr S 11 [] [.mem 1 0,.mem 1 0] fun S=>Sx.QJ S (.bool (((e.kind)==1)||((e.kind)==4))) (.bool ((((((e.id) != 0)||((e.index) != 0))||((e.depth) != 0))||(!decide ((⟨0,0,0,0⟩:bC)=⟨0,0,0,0⟩)))||(!(decide (e.node.key=bK.key))))) (fun S=>?_);exact⟨by rw[hm]; rfl,S.E⟩
 have hm:fD e.key=true:=by unfold fD; rw[azG (show ¬e.key.kind=1 from(by have:=hc13; simpa using this:¬e.kind=1)),azG (show ¬e.key.kind=4 from(by have:=qm; simpa using this:¬e.kind=4)),azG (show ¬e.key.kind=3 from(by have:=Kv; simpa using this:¬e.kind=3)),azG (show ¬e.key.kind=2 from(by have:=hc34; simpa using this:¬e.kind=2)),azG (show ¬e.key.kind=5 from(by have:=VJ; simpa using this:¬e.kind=5))]
 have hh:jh e.key=false:=by unfold jh; show((e.kind==1)||(e.kind==4))=false; simp; exact⟨by have:=hc13; simpa using this,by have:=qm; simpa using this⟩
 refine Sx.QJ S (.z) (.bool true) (fun S=>?_);exact⟨by rw[hm,hh],S.E⟩
theorem ae4{w:World}{pk:Bool}{e:bn}(h:iF K w e)(hl:e.kind=1∨e.kind=4→e.node.Lim)(hB0:(EX pk e.key).length≤1000000000) :
  Calls prog 59 #[.agg #[.bool pk],e.v] w fun r w'=>∃v,r = .returned v∧OwnB w.heap.size w' v (EX pk e.key)∧Ext w w':=by
 skip;refine aze func59 ntmps59 fun S=>azh S [.bool pk] fun u b2 E3 hb4 S=>azh S e.cells fun u b5 E6 hb7 S=>adr S 9 [] [.mem 0 0,.mem 0 1,.mem 0 2,.mem 0 3] fun S=>azh S [.i e.kind,.i e.id,.i e.index,.i e.depth] (fun u b9 Uw acR S=>?_);have hb0:=(S.bx 0).1;have hb1:=(S.bx 1).1;have hb2:=(S.bx 2).1;have S0:=S.E.size;refine azv S (iO (L:=[e.kind,e.id,e.index,e.depth]) (Sx.kW (f:=fun x:Int => .i x) [e.kind,e.id,e.index,e.depth] (S.bx 0) (by simp[maxLen])) (qU.all (L:=[e.kind,e.id,e.index,e.depth]) ⟨h.1,h.2.1,h.2.2.1,h.2.2.2.1,trivial⟩) (by simp)) (fun v12 u auB yG S=>?_);have S:=S.iH 1;have S:=S.nS;have R:=kE (aAo S) auB (fun p hp=>by rcases azS.1 hp with rfl | hp; (exact hb1); rcases azS.1 hp with rfl | hp; (exact hb2); cases hp) S0;refine adr S 5 [] [.mem 0 0] fun S=>azb S ((e.kind)==1) (fun hc19 S=>?_) (fun hc19 S=>?_)
 ·refine azb S ((e.kind)==1) (fun qm S=>?_) (fun qm S=>?_)
  ·have hk:e.kind=1∨e.kind=4:=(.inl (by have:=hc19; simpa using this));have hE0:EX pk e.key=dW [e.kind,e.id,e.index,e.depth]++eG pk e.node.key:=by unfold EX; rw[azI (show e.key.kind=1∨e.key.kind=4 from hk)]; rfl
   have hB:(dW [e.kind,e.id,e.index,e.depth]++eG pk e.node.key).length≤1000000000:=hE0▸hB0;refine adr S 4 [] [.mem 1 0,.mem 0 4] fun S=>azv S (Ah (pk:=pk) (h.2.2.2.2.below S.E) (hl hk).akA (by simp only[azL]at hB; omega)) (fun v9 u ho9 P5 S=>?_);obtain⟨R,Y23⟩:=R.bP S (az7 P5);refine azl S fun S=>azz S R 26 (eG pk e.node.key) (jE (ho9)) (by simp only[azL]at hB ⊢; omega) fun ac u v24 X25 R S=>azr S fun S=>ay9 S v24 (fun S=>?_);exact⟨_,rfl,qL (R.own _ azV) hE0.symm,S.E⟩
  rw[hc19]at qm; cases qm
 refine azb S ((e.kind)==4) (fun Kv S=>?_) (fun Kv S=>?_)
 ·have hk:e.kind=1∨e.kind=4:=(.inr (by have:=Kv; simpa using this));have hE0:EX pk e.key=dW [e.kind,e.id,e.index,e.depth]++eG pk e.node.key:=by unfold EX; rw[azI (show e.key.kind=1∨e.key.kind=4 from hk)]; rfl
  have hB:(dW [e.kind,e.id,e.index,e.depth]++eG pk e.node.key).length≤1000000000:=hE0▸hB0;refine adr S 4 [] [.mem 1 0,.mem 0 4] fun S=>azv S (Ah (pk:=pk) (h.2.2.2.2.below S.E) (hl hk).akA (by simp only[azL]at hB; omega)) (fun v9 u ho9 QC S=>?_);obtain⟨R,Y29⟩:=R.bP S (az7 QC);refine azl S fun S=>azz S R 26 (eG pk e.node.key) (jE (ho9)) (by simp only[azL]at hB ⊢; omega) fun ac u v30 X31 R S=>azr S fun S=>ay9 S v30 (fun S=>?_);exact⟨_,rfl,qL (R.own _ azV) hE0.symm,S.E⟩
 refine azb S ((e.kind)==5) (fun TR S=>?_) (fun TR S=>?_)
 ·have hE0:EX pk e.key=dW [e.kind,e.id,e.index,e.depth]++Px.pb e.color:=by unfold EX; rw[azG (show ¬(e.key.kind=1∨e.key.kind=4)from fun hh=>by have h1:=hc19; have h4:=Kv; simp at h1 h4; exact hh.elim h1 h4),azI (show e.key.kind=5 from(by have:=TR; simpa using this:e.kind=5))]; rfl
  have hB:(dW [e.kind,e.id,e.index,e.depth]++Px.pb e.color).length≤1000000000:=hE0▸hB0;refine adr S 3 [] [.mem 0 51] fun S=>azv S (uU (p:=e.color)) (fun v9 u ho9 Fq S=>?_);obtain⟨R,Y36⟩:=R.bP S (az7 Fq);refine azl S fun S=>azz S R 33 (Px.pb e.color) (jE (ho9)) (by simp only[azL]at hB ⊢; omega) fun ac u v37 X38 R S=>azr S fun S=>ay9 S v37 (fun S=>?_);exact⟨_,rfl,qL (R.own _ azV) hE0.symm,S.E⟩
 have hE0:EX pk e.key=dW [e.kind,e.id,e.index,e.depth]:=by unfold EX; rw[azG (show ¬(e.key.kind=1∨e.key.kind=4)from fun hh=>by have h1:=hc19; have h4:=Kv; simp at h1 h4; exact hh.elim h1 h4),azG (show ¬e.key.kind=5 from(by have:=TR; simpa using this:¬e.kind=5)),aAL]; rfl
 refine ay9 S v12 (fun S=>?_);exact⟨_,rfl,qL (R.own _ azV) hE0.symm,S.E⟩
theorem Y0{e:bn}(h:e.kind=1∨e.kind=4→e.node.checkN=0):(EX false e.key).length≤9000000:=by
 unfold EX;have h1:=iG [e.key.kind,e.key.id,e.key.index,e.key.depth];simp only[aAn,aAS]at h1;rw[azL];split
 ·rename_i hk;have:=SA (pk:=false) (tX (h hk));have e0:e.key.node=e.node.key:=rfl;rw[e0]; omega
 split
 ·simp[Px.pb]; omega
 simp; omega
theorem xg{w:World}{e:bn}(h:iF K w e)(hg:dw w) :
  Calls prog 31 #[e.v] w fun r w'=>∃v er,r = .returned (.tuple #[v,.i er])∧TQ w.heap.size w' e.key v er∧Ext w w':=by
 skip;refine azN func31 ntmps31 fun ac S=>azc fun _ gW=>Sx.qO S 1 e.cells fun ac u b2 E3 hb4 S=>apB S 2 [] [(2,.sn),(3,.i 0)] fun S=>aza<|gW _ _<|azc fun _ Bg=>apB S 1 [.mem 0 0] [(7,e.v)] fun S=>Sx.Bh S 8 (Xq (h.below S.E)) fun ac u E6 S=>apB S 5 [] [(4,.bool (jh e.key)),(5,.bool (fD e.key))] fun S=>aza<|Bg _ _<|azX fun _ Vo=>azc fun _ κ8=>apB S 1 [] [(11,.bool (fD e.key))] fun S=>aza (κ8 _ _ ?_);refine azC S (fun Jz=>?_) (fun Jz=>?_)
 ·refine azc fun _ zD=>apB S 2 [] [(2,.sn),(3,.i 2)] fun S=>aza<|zD _ _<|Sx.rt2 S results31 ?_;exact⟨_,_,rfl,.inl ⟨by have:=Jz; simpa using this,rfl,rfl⟩,S.E⟩
 refine aAi<|Vo _ _<|azX fun _ OD=>azc fun _ QX=>Sx.ade S 7 [.mem 0 4] [(_,_,(jh e.key),.bool (e.node.checkN==0))] [(18,.bool ((jh e.key)&&(!(e.node.checkN==0))))] ⟨fun u hC g=>JR (h.2.2.2.2.below (Ext.trans' S.E hC)) (dw.below hg (Ext.trans' S.E hC)),trivial⟩ fun ac u EM S=>aza (QX _ _ ?_);refine azC S (fun pR=>?_) (fun pR=>?_)
 ·refine azc fun _ Hq=>apB S 2 [] [(2,.sn),(3,.i 17)] fun S=>aza<|Hq _ _<|Sx.rt2 S results31 ?_;exact⟨_,_,rfl,.inr (.inl ⟨by have:=Jz; simpa using this,by have:=pR; simp at this; exact this.1,by have:=pR; simp at this; rw[show e.key.node=e.node.key from rfl,kZ]; exact this.2,rfl,rfl⟩),S.E⟩
 refine aAi<|OD _ _<|azc (fun _ zG=>?_);have hm:fD e.key=false:=by have:=Jz; simpa using this
 have hv:jh e.key=true→e.node.checkN=0:=fun hh=>by have:=pR; simp[hh]at this; exact this
 have hbd:(EX false e.key).length≤9000000:=Y0 fun hk=>hv (by unfold jh; show((e.kind==1)||(e.kind==4))=true; simpa using hk);have R:=aAo S;refine Sx.lit S 19 20 3 [.u 71,.u 69,.u 49] 53 5 underlying53 underlying5 fun{ac u b19} yJ MW S=>apB S 2 [.mem 0 0] [(21,.agg #[.z]),(22,e.v)] fun S=>Sx.jI S (some 23) (ae4 (pk:=false) (h.below S.E) (fun hk=>tX (hv (by unfold jh; show((e.kind==1)||(e.kind==4))=true; simpa using hk))) (by omega)) ?_;rintro e u ⟨v23,rfl,alp,yx⟩;refine⟨_,rfl,yx,fun ac S=>?_⟩;have hvn:0<(EX false e.key).length:=by unfold EX dW; rw[aAO,az0,azL]; have h1:0<(En.dV 10 (En.zig e.kind)).length:=En.Bj 9 _; exact Nat.add_pos_left h1 _
 obtain⟨R,Y21⟩:=R.bP S (az2 (az7 yJ) (az7 yx));refine Sx.apS S R 24 yX ((dP.below MW yx)) (jE (alp)) (by omega) (by omega) (by simp[maxLen]<;>omega) (by omega) (fun ac u v22 E23 JI R S=>?_);have R:=R.as (show [(⟨5,1,v22,3+(EX false e.key).length,[.u 71,.u 69,.u 49]++(EX false e.key).map gu⟩:Sx.Row)]=[Sx.bR v22 (jW e.key)] by unfold Sx.bR jW; rw[azL,aAB]; rfl);have hout:OwnB w.heap.size u v22 (jW e.key):=R.own _ azV;have S0:=S.E.size;refine Sx.jI S (some 25) (wU _ (jW e.key) _ (uT hout) (by unfold jW; simp only[azL,aAn,aAS]; omega)) ?_;rintro e u ⟨v30,rfl,alx,Fp⟩;refine⟨_,rfl,Fp,fun ac S=>?_⟩;refine apB S 2 [] [(2,v30),(3,.i 0)] fun S=>aza<|zG _ _<|Sx.rt2 S results31 ?_;exact⟨_,_,rfl,.inr (.inr ⟨hm,fun hh=>by rw[show e.key.node=e.node.key from rfl,kZ]; exact hv hh,aY (alx) S0,rfl⟩),S.E⟩
structure MH (e:bZ):Prop where
  i:I64 e.kind∧I64 e.id∧I64 e.index∧I64 e.depth
  node:e.kind=1∨e.kind=4→e.node.Ok
  Y1:¬(e.kind=1∨e.kind=4)→e.node=bK.key
  color:¬e.kind=5→e.color=⟨0,0,0,0⟩
def Ai(e:bZ):List UInt8:=if e.kind=1∨e.kind=4 then eG false e.node else if e.kind=5 then Px.pb e.color else []
theorem Jd(e:bZ):EX false e=iB e.kind++(iB e.id++(iB e.index++(iB e.depth++Ai e))):=by
 unfold EX Ai; simp only[lg,az0]; rfl
section
variable{l:List UInt8}{p p1 p2 p3 p4 p5:Nat}{bad b1 b2 b3 b4 b5:Bool}{kd id ix dp:Int}{n:aQ}{q:bC}
def Y2(l:List UInt8)(p:Nat)(bad:Bool)(p4:Nat)(b4:Bool)(kd id ix dp:Int):Prop:=∀y r,MH y→bad=false→l.drop p=EX false y++r→kd=y.kind∧id=y.id∧ix=y.index∧dp=y.depth∧b4=false∧l.drop p4=Ai y++r
theorem ahC(h1:Got iB I64 l p bad p1 b1 kd)(h2:Got iB I64 l p1 b1 p2 b2 id)(h3:Got iB I64 l p2 b2 p3 b3 ix)(h4:Got iB I64 l p3 b3 p4 b4 dp):Y2 l p bad p4 b4 kd id ix dp:=fun y r hy hb hh=>by
 rw[Jd]at hh;simp only[az0]at hh;obtain⟨i1,i2,i3,i4⟩:=hy.i;obtain⟨e1,k,hh⟩:=h1 _ _ i1 hb hh;obtain⟨e2,k,hh⟩:=h2 _ _ i2 k hh;obtain⟨e3,k,hh⟩:=h3 _ _ i3 k hh;obtain⟨e4,k,hh⟩:=h4 _ _ i4 k hh;exact⟨e1,e2,e3,e4,k,hh⟩
theorem Je(hC:Y2 l p bad p4 b4 kd id ix dp)(hk:kd=1∨kd=4)(h5:Got (eG false) aQ.Ok l p4 b4 p5 b5 n):Got (EX false) MH l p bad p5 b5 ⟨kd,id,ix,dp,n,⟨0,0,0,0⟩⟩:=fun y r hy hb hh=>by
 obtain⟨e1,e2,e3,e4,k,hh⟩:=hC y r hy hb hh;have hyk:y.kind=1∨y.kind=4:=e1▸hk;unfold Ai at hh;rw[azI hyk]at hh;obtain⟨e5,k,hh⟩:=h5 _ _ (hy.node hyk) k hh;exact⟨by rw[e1,e2,e3,e4,e5,←hy.color (by omega)],k,hh⟩
theorem abr(hC:Y2 l p bad p4 b4 kd id ix dp)(hk:kd=5)(h5:Got Px.pb (fun _=>True) l p4 b4 p5 b5 q):Got (EX false) MH l p bad p5 b5 ⟨kd,id,ix,dp,bK.key,q⟩:=fun y r hy hb hh=>by
 obtain⟨e1,e2,e3,e4,k,hh⟩:=hC y r hy hb hh;have hyk:y.kind=5:=e1▸hk;unfold Ai at hh;rw[azG (by omega),azI hyk]at hh;obtain⟨e5,k,hh⟩:=h5 _ _ trivial k hh;exact⟨by rw[e1,e2,e3,e4,e5,←hy.Y1 (by omega)],k,hh⟩
theorem ahD(hC:Y2 l p bad p4 b4 kd id ix dp)(h1:¬kd=1)(h4:¬kd=4)(h5:¬kd=5):Got (EX false) MH l p bad p4 b4 ⟨kd,id,ix,dp,bK.key,⟨0,0,0,0⟩⟩:=fun y r hy hb hh=>by
 obtain⟨e1,e2,e3,e4,k,hh⟩:=hC y r hy hb hh;have g1:¬y.kind=1:=e1▸h1;have g4:¬y.kind=4:=e1▸h4;have g5:¬y.kind=5:=e1▸h5;unfold Ai at hh;rw[azG (by omega),azG g5,aAH]at hh;exact⟨by rw[e1,e2,e3,e4,←hy.Y1 (by omega),←hy.color g5],k,hh⟩
end
theorem Xr{w:World}{e:bn}(h:iF K w e)(hm:fD e.key=false)(hv:jh e.key=true→e.key.node.chk=0):MH e.key:=by
 have hc:∀k,e.key.kind=k→True:=fun _ _=>trivial;refine⟨⟨h.1,h.2.1,h.2.2.1,h.2.2.2.1⟩,fun hk=>?_,fun hk=>?_,fun hk=>?_⟩
 ·have:=hv (by unfold jh; simpa using hk);rw[show e.key.node=e.node.key from rfl,kZ]at this;exact TL h.2.2.2.2 this
 ·unfold fD at hm;rw[azG (by omega),azG (by omega)]at hm;split at hm
  ·simp at hm; exact hm.2
  split at hm
  ·simp at hm; exact hm.2
  split at hm
  ·simp at hm; exact hm.2
  cases hm
 unfold fD at hm;split at hm
 ·simp at hm; exact hm.2
 split at hm
 ·simp at hm; exact hm.2
 split at hm
 ·simp at hm; exact hm.1
 split at hm
 ·simp at hm; exact hm.1.2
 first
  | cases hm
  | (split at hm
     · contradiction
     · cases hm)
def bn.zero:bn:=⟨0,0,0,0,bK,⟨0,0,0,0⟩⟩
def Xt(lb:List UInt8):Prop:=∀(K:Nat) (W:World) (e:bn),iF K W e→fD e.key=false→(jh e.key=true→e.key.node.chk=0)→lb≠fP.app (jW e.key)
def TS(base:Nat)(w:World)(lb:List UInt8)(v:Value)(er:Int):Prop:=
  (er=0∧∃e:bn,v=e.v∧Sx.aU base (fun W=>iF 5000 W e) w∧fD e.key=false∧(jh e.key=true→e.key.node.chk=0)∧e.node.t.least∧lb=fP.app (jW e.key)) ∨
  (er≠0∧v=bn.zero.v∧((er=4∧lb.length<4)∨(er=19∧4≤lb.length∧∀m,lb≠fP.app m)∨(er=3∧(∃m,lb=fP.app m)∧Xt lb)))
theorem Pv{lb m:List UInt8}(h:lb=fP.app m)(hm:¬m.take 3=[71,69,49]):Xt lb:=fun K W s hs h1 h2 e=>by
 rw[h]at e;have:=rM e;rw[this]at hm;exact hm rfl
theorem TU{base:Nat}{w:World}{e:bZ}{v:Value}{er:Int}(h:TQ base w e v er):∃bs,bJ w v bs∧((fD e=false∧(jh e=true→e.node.chk=0)∧bs=fP.app (jW e)∧er=0)∨(¬(fD e=false∧(jh e=true→e.node.chk=0))∧¬er=0)):=by
 rcases h with ⟨h1,rfl,h3⟩ | ⟨h1,h2,h3,rfl,h5⟩ | ⟨h1,h2,h3,h4⟩
 ·exact⟨[],eF (dI _ _ _),.inr ⟨fun h=>(by rw[h1]at h; exact absurd h.1 (by decide)),by omega⟩⟩
 ·exact⟨[],eF (dI _ _ _),.inr ⟨fun h=>h3 (h.2 h2),by omega⟩⟩
 exact⟨_,uT h3,.inl ⟨h1,h2,rfl,h4⟩⟩
theorem Y3:bK.fits:=by obtain⟨-,h1,h2,h3,-⟩:=gJ (K:=5000) default (by decide) (by decide); exact⟨h1,h2,h3,⟨.inl ⟨rfl,rfl,rfl,rfl⟩,.inl ⟨rfl,rfl,rfl,rfl⟩,.inl ⟨rfl,rfl,rfl,rfl⟩,.inl ⟨rfl,rfl,rfl,rfl⟩,.inl ⟨rfl,rfl,rfl,rfl⟩,.inl ⟨rfl,rfl,rfl,rfl⟩⟩⟩
theorem alG{w0 w:World}{b p cap:Nat}{a:Option Addr}{bad:Bool}{l:List UInt8}(hE:Ext w0 w)(hx:Bx w b #[.slice a l.length cap,.i p,.bool bad,.z])(hb:w0.heap.size≤b)(h:jr w0 (.slice a l.length cap) l)(hp:p≤l.length)(hll:l.length≤60000000) :
    Calls prog 82 #[.q b 0] w fun e w'=>∃(t:bn) (p':Nat) (d':Bool),e = .returned t.v∧(I64 t.kind∧I64 t.id∧I64 t.index∧I64 t.depth)∧t.node.fits∧Sx.aU w.heap.size (fun W=>t.node.ok W) w'∧Got (EX false) MH l p bad p' d' t.key∧Kr w0 w w' b a l cap false p' d':=by
 skip;refine azE func82 ntmps82 hE hx hb fun S=>azd S (fun u b2 E3 hb4 S=>?_);have hy1:=(((Ch.trans (Ch.refl b w) (Ch.aZ E3)))).size;refine azd S fun u b6 E7 hb8 S=>azd S fun u b11 qM acJ S=>Sx.Z5 S 4 fun S=>azn S fun S=>adr S 5 [] [.mem 0 0] (fun S=>?_);have S:=S.fl;have y18:=(((Ch.trans (Ch.refl b w) (Ch.aZ (Ext.trans' E3 (Ext.trans' E7 qM)))))).size;refine azj S 3 rfl (jg S.E (S.bx 3) (S.old 3) h hp) ?_;rintro e u ⟨x18,p18,d18,rfl,YK,g18,OT,OU,vg,OV⟩;refine⟨_,_,rfl,OU,vg,OV,fun S=>?_⟩;have ag7:=vg.size;have oO:=(aH ((Ch.trans (Ch.refl b w) (Ch.aZ (Ext.trans' E3 (Ext.trans' E7 qM))))) vg);refine azk S 1 rfl (fun u yL S=>?_);have uM:=(aH oO yL);refine azn S fun S=>adr S 5 [] [.mem 0 1] (fun S=>?_);have S:=S.fl;have y26:=(uM).size;refine azj S 3 rfl (jg S.E (S.bx 3) (S.old 3) h OT) ?_;rintro e u ⟨oL,p26,d26,rfl,i26,g26,aeG,Xc,I5,aeH⟩;refine⟨_,_,rfl,Xc,I5,aeH,fun S=>?_⟩;have anz:=I5.size;have yu:=(aH uM I5);refine azk S 1 rfl (fun u P6 S=>?_);have tK:=(aH yu P6);refine azn S fun S=>adr S 5 [] [.mem 0 2] (fun S=>?_);have S:=S.fl;have y34:=(tK).size;refine azj S 3 rfl (jg S.E (S.bx 3) (S.old 3) h aeG) ?_;rintro e u ⟨x34,p34,d34,rfl,i34,g34,aeI,aeJ,I7,aeK⟩;refine⟨_,_,rfl,aeJ,I7,aeK,fun S=>?_⟩;have anA:=I7.size;have BM:=(aH tK I7);refine azk S 1 rfl (fun u JJ S=>?_);have Ba:=(aH BM JJ);refine azn S fun S=>adr S 5 [] [.mem 0 3] (fun S=>?_);have S:=S.fl;have y42:=(Ba).size;refine azj S 3 rfl (jg S.E (S.bx 3) (S.old 3) h aeI) ?_;rintro e u ⟨x42,p42,d42,rfl,i42,g42,abb,akW,Xd,akX⟩;refine⟨_,_,rfl,akW,Xd,akX,fun S=>?_⟩;have ash:=Xd.size;have wC:=(aH Ba Xd);refine azk S 1 rfl (fun u C44 S=>?_);have qR:=(aH wC C44);refine azu S (fun S=>?_);have hcm:=ahC g18 g26 g34 g42;refine adr S 4 [] [.mem 1 0] fun S=>azb S ((x18)==1) (fun rZ S=>?_) (fun rZ S=>?_)
 ·refine azb S ((x18)==1) (fun Xo S=>?_) (fun Xo S=>?_)
  ·have S:=S.fl;have y54:=(qR).size;have aw7:=(S.bx 0).1;have aw8:=(S.bx 1).1;have aw9:=(S.bx 2).1;have axa:=(S.bx 3).1;refine azj S 3 rfl (Xf (hll:=hll) S.E (S.bx 3) (S.old 3) h abb) ?_;rintro e u ⟨t54,p54,d54,rfl,auC,auD,g54,auE,auF,alH,auG⟩;refine⟨_,_,rfl,auF,alH,auG,fun S=>?_⟩;have ayZ:=alH.size;have Ri:=(aH qR alH);refine azf S 1 rfl (fun u C56 S=>?_);have RQ:=(aH Ri C56);have Bq:=(aU.ch auD C56 (by omega));refine adr S 1 [] [.mem 1 0] fun S=>azf S 2 rfl (fun u UF S=>?_);have BL:=(aH RQ UF);have Bv:=(aU.ch Bq UF (by omega));have hG:=Je hcm (.inl (by have:=rZ; simpa using this)) g54;have S:=S.fl;refine azq S 2 rfl (v := .agg (Sx.L [.i x18,.i oL,.i x34,.i x42]++t54.cells++Sx.L [.u 0,.u 0,.u 0,.u 0]).toArray) (fun S=>?_);exact⟨⟨x18,oL,x34,x42,t54,⟨0,0,0,0⟩⟩,_,_,rfl,⟨YK,i26,i34,i42⟩,auC,(Sx.aU.le Bv (by omega)),hG,auE,S.E,BL,S.lu 3⟩
  rw[rZ]at Xo; cases Xo
 refine azb S ((x18)==4) (fun hc63 S=>?_) (fun hc63 S=>?_)
 ·have S:=S.fl;have y64:=(qR).size;have axb:=(S.bx 0).1;have axc:=(S.bx 1).1;have axd:=(S.bx 2).1;have axe:=(S.bx 3).1;refine azj S 3 rfl (Xf (hll:=hll) S.E (S.bx 3) (S.old 3) h abb) ?_;rintro e u ⟨t64,p64,d64,rfl,auH,auI,g64,auJ,auK,alI,auL⟩;refine⟨_,_,rfl,auK,alI,auL,fun S=>?_⟩;have ay0:=alI.size;have RN:=(aH qR alI);refine azf S 1 rfl (fun u C66 S=>?_);have G5:=(aH RN C66);have NC:=(aU.ch auI C66 (by omega));refine adr S 1 [] [.mem 1 0] fun S=>azf S 2 rfl (fun u C70 S=>?_);have aeC:=(aH G5 C70);have ald:=(aU.ch NC C70 (by omega));have hG:=Je hcm (.inr (by have:=hc63; simpa using this)) g64;have S:=S.fl;refine azq S 2 rfl (v := .agg (Sx.L [.i x18,.i oL,.i x34,.i x42]++t64.cells++Sx.L [.u 0,.u 0,.u 0,.u 0]).toArray) (fun S=>?_);exact⟨⟨x18,oL,x34,x42,t64,⟨0,0,0,0⟩⟩,_,_,rfl,⟨YK,i26,i34,i42⟩,auH,(Sx.aU.le ald (by omega)),hG,auJ,S.E,aeC,S.lu 3⟩
 refine azb S ((x18)==5) (fun alJ S=>?_) (fun alJ S=>?_)
 ·have S:=S.fl;have y75:=(qR).size;refine azj S 3 rfl (FK S.E (S.bx 3) (S.old 3) h abb) ?_;rintro e u ⟨q75,p75,d75,rfl,g75,auM,auN,alK,auO⟩;refine⟨_,_,rfl,auN,alK,auO,fun S=>?_⟩;have ay1:=alK.size;have Oh:=(aH qR alK);refine azf S 1 rfl (fun u C77 S=>?_);have Oj:=(aH Oh C77);refine adr S 1 [] [.mem 1 0] fun S=>azf S 2 rfl (fun u C80 S=>?_);have auP:=(aH Oj C80);have hG:=abr hcm (by have:=alJ; simpa using this) g75;have S:=S.fl;refine azq S 2 rfl (v := .agg (Sx.L [.i x18,.i oL,.i x34,.i x42,.i 0,.i 0,.i 0]++Sx.za++Sx.L [.sn,.i 0,.u 0,.i 0,.z,.z,.sn,.i 0,.sn,.i 0,.i 0,.i 0,.i 0,.sn,.i 0,.sn,.i 0,.i 0,.sn,.i 0]++q75.cells).toArray) (fun S=>?_);exact⟨⟨x18,oL,x34,x42,bK,q75⟩,_,_,rfl,⟨YK,i26,i34,i42⟩,Y3,(fun W _ _=>(gJ (K:=20) W (by decide) (by decide)).1),hG,auM,S.E,auP,S.lu 3⟩
 refine adr S 1 [] [.mem 1 0] fun S=>azf S 2 rfl (fun u C83 S=>?_);have aeD:=(aH qR C83);have hG:=ahD hcm (by have:=rZ; simpa using this) (by have:=hc63; simpa using this) (by have:=alJ; simpa using this);have S:=S.fl;refine azq S 2 rfl (v := .agg (Sx.L [.i x18,.i oL,.i x34,.i x42,.i 0,.i 0,.i 0]++Sx.za++Sx.L [.sn,.i 0,.u 0,.i 0,.z,.z,.sn,.i 0,.sn,.i 0,.i 0,.i 0,.i 0,.sn,.i 0,.sn,.i 0,.i 0,.sn,.i 0,.u 0,.u 0,.u 0,.u 0]).toArray) (fun S=>?_);exact⟨⟨x18,oL,x34,x42,bK,⟨0,0,0,0⟩⟩,_,_,rfl,⟨YK,i26,i34,i42⟩,Y3,(fun W _ _=>(gJ (K:=20) W (by decide) (by decide)).1),hG,abb,S.E,aeD,S.lu 3⟩
theorem EY{w:World}{v:Value}{lb:List UInt8}(hg:dw w)(hv:jr w v lb)(hll:lb.length≤60000000) :
    Calls prog 49 #[v] w fun e w'=>∃v er,e = .returned (.tuple #[v,.i er])∧TS w.heap.size w' lb v er∧Ext w w':=by
 obtain⟨ad,ca,rfl⟩:=hv.shape;have hin:=hv;clear hv;refine aze func49 ntmps49 fun S=>azd S (fun u b2 E3 hb4 S=>?_);have aly:=(S.bx 0).1;have hEq:=S.E;refine azo S (Me (c0:=71) (c1':=69) (c2:=49) (aI.below hin S.E) hll) ?_;rintro e u ⟨pv,er,rfl,E6,hop⟩;refine⟨_,rfl,E6,fun S=>?_⟩;refine azb S ((er) != 0) (fun Jz S=>?_) (fun Jz S=>?_)
 ·have ae2:=hop.resolve_right (fun h=>absurd h.1 (by have:=Jz; simpa using this));refine azf S 0 rfl (fun u Ya S=>?_);have hwy:TS w.heap.size u lb bn.zero.v er := .inr ⟨ae2.1,rfl,ae2.2.2.imp id (fun h=>h.imp id (fun h=>⟨h.1,by obtain⟨m,hm,-⟩:=h.2; exact⟨m,hm⟩,by obtain⟨m,hm,hn⟩:=h.2; exact Pv hm hn⟩))⟩;refine Sx.Jc S 0 rfl (v:=bn.zero.v) (u := .i er) (fun S=>⟨_,_,rfl,hwy,S.E⟩)
 obtain⟨-,l,b,a,cap,wm,hlb,hm3,rfl,Xm,h,hws,hE1,hXr⟩:=hop.resolve_left (fun h=>h.1 (by have:=Jz; simpa using this));have he0:er=0:=by have:=Jz; simpa using this
 have hEw:Ext w wm:=Ext.trans' hEq Xm;have hs0:=hEw.size;have hs1:=Xm.size;have hl6:l.length≤60000000:=by have:=azT List.length hlb; rw[nV]at this; omega
 have hp0:3≤l.length:=by have:=azT List.length hm3; simp at this; omega
 have S:=S.adopt (A:=[.slice a l.length cap,.i (3:Nat),.z,.z]) hXr (by omega) (fun p hp=>by rcases azS.1 hp with rfl | hp; (have:=aly; intro e; simp only at e; omega); cases hp) (fun m hm=>by cases hm);have hEz:=Ext.trans' hEw hE1;have S:=S.fl;have y13:=((Ch.aZ (b:=b) hEz)).size;have axf:=(S.bx 0).1;have axg:=(S.bx 1).1;have hEr:=hE1;refine azj S 0 rfl (alG (hll:=hl6) hEr (S.bx 0) hws h hp0) ?_;rintro e u ⟨t13,p13,d13,rfl,TV,Xu,alL,g13,Kt,Ad,oI,IL⟩;refine⟨_,_,rfl,(Ext.trans' hEw Ad),oI,IL,fun S=>?_⟩;have aem:=oI.size;have Nh:=Ad.size;have zJ:=Ad;have oN:=(aH (Ch.aZ (b:=b) hEz) oI);refine azd S fun u b16 yJ agm S=>azf S 0 rfl (fun u X6 S=>?_);have yx:=azg yJ X6;have Aq:=azg yJ X6;have P5:=azg yJ X6;have alF:iF 5000 u t13:=⟨TV.1,TV.2.1,TV.2.2.1,TV.2.2.2,FN (aAj ((az1 alL P5))) Xu.1 Xu.2.1 Xu.2.2.1⟩;refine adr S 1 [] [.mem 0 0] fun S=>azo S (xg alF (dw.below hg S.E)) ?_;rintro e u ⟨v5,er5,rfl,hsc,Aw⟩;obtain⟨bs,hbs,hcs⟩:=TU hsc;refine⟨_,rfl,Aw,fun S=>?_⟩;refine adr S 5 [] [] fun S=>aAG S 14 [.mem 1 2] [(_,_,(!(d13||((er5) != 0))),.bool (bs==lb))] [(37,.bool ((d13||((er5) != 0))||(!(bs==lb))))] ⟨fun u hC g=>azB (kR _ _ bs lb u (((dD.below hbs hC))) (eF (aI.below hin (Ext.trans' S.E hC)))),trivial⟩ fun u E27 S=>azb S ((d13||((er5) != 0))||(!(bs==lb))) (fun hc28 S=>?_) (fun hc28 S=>?_)
 ·refine azf S 2 rfl (fun u JB S=>?_);have wB:=(aU.ch ((az1 alL (Ext.trans' P5 (Ext.trans' Aw E27)))) JB (by omega));have hno:Xt lb:=fun K0 W0 s0 hs0 hm0 hv0 e=>by
   rw[hlb]at e;have hl:=rM e;obtain⟨g1,g2,-⟩:=g13 s0.key [] (Xr hs0 hm0 hv0) rfl (by rw[hl,aAL]; rfl);rw[g1]at hcs;rcases hcs with ⟨-,-,c2,c3⟩ | ⟨c1,-⟩
   ·rw[g2,c3,c2,hlb,hl]at hc28; simp at hc28
   exact c1 ⟨hm0,hv0⟩
  refine Sx.Jc S 2 rfl (v:=bn.zero.v) (u := .i 3) (fun S=>⟨_,_,rfl,.inr ⟨by decide,rfl,.inr (.inr ⟨rfl,⟨l,hlb⟩,hno⟩)⟩,S.E⟩)
 refine adr S 1 [] [.mem 0 0] fun S=>azf S 2 rfl (fun u Nz S=>?_);have Dj:=(aU.ch ((az1 alL (Ext.trans' P5 (Ext.trans' Aw E27)))) Nz (by omega));have hh:er5=0∧bs=lb:=by have:=hc28; simp at this; exact⟨this.1.2,this.2⟩
 have hfin:fD t13.key=false∧(jh t13.key=true→t13.key.node.chk=0)∧lb=fP.app (jW t13.key):=by rcases hcs with ⟨c1,c2,c3,c4⟩ | ⟨-,c3⟩; (exact⟨c1,c2,hh.2.symm.trans c3⟩); (exact absurd hh.1 c3)
 refine Sx.Jc S 2 rfl (v:=bn.v t13) (u := .i 0) (fun S=>⟨_,_,rfl,.inl ⟨rfl,_,rfl,(aAF (Sx.aU.le Dj (by omega)) fun W h=>⟨TV.1,TV.2.1,TV.2.2.1,TV.2.2.2,FN h Xu.1 Xu.2.1 Xu.2.2.1⟩),hfin.1,hfin.2.1,Xu.2.2.2,hfin.2.2⟩,S.E⟩)
end
end Go.Proofs.YtodpgjjgaddkeaaGreatDoor
