/- The encoders of package scenebin: scenes. Encodings of -/
import Derived.Test.YtodpgjjgaddkeaaGreatDoorPk33
set_option maxHeartbeats 1600000
set_option maxRecDepth 100000
set_option linter.unusedVariables false
set_option linter.unusedSimpArgs false
namespace Go.Proofs.YtodpgjjgaddkeaaGreatDoor
open _root_.Go.Proofs.Tryz
section
open Go.RowKit
variable{α:Type}{K:Nat}
theorem Tz{w0 w:World}{v0 u0:Value}{B:List UInt8}{L:List aj}(hE:Ext w0 w)(ho:OwnB w0.heap.size w v0 B)(h:aJ 47 aj.cells w0 u0 L)(hok:∀n∈L,eu K w0 n∧n.Lim)(hB0:(B++L.flatMap (fun n:aj=>eG false n.key)).length≤1000000000) :
  Calls prog 86 #[v0,u0,.func (.func 56) #[.agg #[.z]] #[]] w fun e w'=>∃v,e = .returned v∧OwnB w0.heap.size w' v (B++L.flatMap (fun n:aj=>eG false n.key))∧Ext w0 w':=by
 obtain⟨a,cap,rfl⟩:=h.shape;have hmax:L.length≤9223372036854775807:=h.len;refine Sx.zeE func86 ntmps86 hE (fun S=>?_);have R:=kD (aAc S) ho (fun p hp=>by cases hp) (azx _);refine azm S (ι:=Nat×Value) (fun p a' w'=>p.1≤L.length∧(True)∧Sx.Rw w0 w' [] [⟨5,1,p.2,(B++(L.take p.1).flatMap (fun n:aj=>eG false n.key)).length,(B++(L.take p.1).flatMap (fun n:aj=>eG false n.key)).map gK⟩]∧Sx.St w0 a' w' 22 [(0,p.2),(1,.slice a L.length cap),(2,.func (.func 56) #[.agg #[.z]] #[]),(6,.sn),(9,.slice a L.length cap),(10,.i L.length),(11,.i p.1)] [] []) (fun p=>L.length-p.1) (0,v0) (fun S=>⟨azB _,trivial,R.as (show [Sx.bR v0 B]=[Sx.bR v0 (B++(L.take 0).flatMap (fun n:aj=>eG false n.key))] by simp),S.sn⟩) ?_;rintro⟨k,v⟩ ac u ig eU hI;try dsimp only at hI
 obtain⟨hk,hR,R,S⟩:=hI;refine azn S fun S=>ay0 S (decide ((k:Int)<(L.length:Int))) (fun hc6 S=>?_) (fun hc6 S=>?_)
 ·have fZ:k<L.length:=by have:=azN hc6; omega
  obtain⟨b9,o10,rfl,x15,jy,hb16,uh⟩:=az2 h (fun _=>rfl) (k) fZ;have S:=S.view0 hb16 uh;refine adr S 2 [] [.idx k L.length,.mem 0 0] (hk:=⟨fZ,trivial⟩) fun S=>ay6 S (Sx.L [.i 0,.i 0,.i 0]++Sx.za++Sx.L [.sn,.i 0,.u 0,.i 0,.z,.z,.sn,.i 0,.sn,.i 0,.i 0,.i 0,.i 0,.sn,.i 0,.sn,.i 0,.i 0,.sn,.i 0]) fun u b17 yw EK S=>azc S 0 (off:=0) (cs:=x15.cells) rfl fun u yG S=>adr S 3 [] [.mem 0 0] fun S=>azk S (zZ (pk:=false) ((hok _ (jy▸azZ fZ)).1.below S.E) (hok _ (jy▸azZ fZ)).2.akn (Yt hB0 _ (jy▸azZ fZ))) (fun v18 u zY BU S=>?_);have hB:=Ih hB0 (k+1);rw[←kC fZ jy]at hB;obtain⟨R,Y22⟩:=R.bP S (azP (aAB yw EK) (azP (Sx.Stp.Oe yG) (azV BU)));refine ay7 S fun S=>azl S R 19 ((fun n:aj=>eG false n.key) x15) (jE (zY)) (by simp only[azz]at hB ⊢; omega) fun ac u v23 JF R S=>azh S fun S=>adr S 3 [] [.re 20 (.i (IntKind.i64.wrap ((k:Int)+1))) (.i (k+1:Nat))] (fun S=>?_) (hk:=⟨azj (by omega),trivial⟩);have S:=S.iH 1;obtain⟨R,Y25⟩:=R.bP S (aAr 1);refine azo S ig (fun S=>?_);exact eU _ _ ((k+1),v23) ⟨by omega,trivial,R.as (show [Sx.bR v23 (B++(L.take k).flatMap (fun n:aj=>eG false n.key)++(fun n:aj=>eG false n.key) x15)]=[Sx.bR v23 (B++(L.take (k+1)).flatMap (fun n:aj=>eG false n.key))] by rw[kC fZ jy]),S.sn⟩ (by show _-_<_-_; omega)
 refine apB S v (fun S=>?_);exact⟨_,rfl,by have:=R.own _ azJ; rw[aAh (by have:=azR hc6; omega)]at this; exact this,S.E⟩
theorem TA{w:World}{u0:Value}{L:List aj}(h:aJ 47 aj.cells w u0 L)(hok:∀n∈L,eu K w n∧n.Lim)(hB:(iy (fun n:aj=>eG false n.key) L).length≤1000000000) :
  Calls prog 55 #[u0,.func (.func 56) #[.agg #[.z]] #[]] w fun e w'=>∃v,e = .returned v∧OwnB w.heap.size w' v (iy (fun n:aj=>eG false n.key) L)∧Ext w w':=by
 obtain⟨a,cap,rfl⟩:=h.shape;have hmax:L.length≤9223372036854775807:=h.len;refine ay3 func55 ntmps55 (fun S=>?_);have S0:=S.E.size;refine adr S 4 [] [.re 7 (.int .u64 (IntKind.u64.wrap (L.length:Int))) (.int .u64 (L.length:Int))] (hk:=⟨(wrap_u64 (by omega)),trivial⟩) fun S=>azk S (fK L.length _ (by omega)) fun v8 u ho8 E3 S=>ay7 S fun S=>Sx.Lj S (some 11) (Tz S.E (aY ho8 S0) h hok hB) ?_;rintro e u ⟨v11,rfl,O7,O8⟩;refine⟨_,rfl,O8,fun ac S=>?_⟩;refine azs S fun S=>apB S v11 (fun S=>?_);exact⟨_,rfl,O7,S.E⟩
def TB(base:Nat)(w:World)(s:bD)(v:Value)(er:Int):Prop:=(s.valid=true∧OwnB base w v (fO.app (dU s))∧er=0)∨(s.valid=false∧v = .sn∧er=18)
theorem vg{w:World}{s:aI}(h:dI K w s)(hg:dO w) :
  Calls prog 28 #[s.v] w fun e w'=>∃v er,e = .returned (.tuple #[v,.i er])∧TB w.heap.size w' s.key v er∧Ext w w':=by
 skip;refine azD func28 ntmps28 fun ac S=>ay1 fun _ ig=>Sx.qG S 1 s.cells fun ac u b2 E3 hb4 S=>ayY S 2 [] [(2,.sn),(3,.i 0)] fun S=>ayZ<|ig _ _<|azL fun _ AX=>ay1 fun _ κ6=>ayY S 1 [.mem 0 0] [(5,s.v)] fun S=>Sx.AY S 6 (wH (h.below S.E) (dO.below hg S.E)) fun ac u E7 S=>ayY S 1 [] [(7,.bool (!s.key.valid))] fun S=>ayZ (κ6 _ _ ?_);refine azq S (fun hc8=>?_) (fun hc8=>?_)
 ·refine ay1 fun _ κ9=>ayY S 2 [] [(2,.sn),(3,.i 18)] fun S=>ayZ<|κ9 _ _<|Vp.rt ?_;have hv:s.key.valid=false:=by have:=hc8; simpa using this
  refine Sx.JY S results28 ?_;exact⟨_,_,rfl,.inr ⟨hv,rfl,rfl⟩,S.E⟩
 refine az6<|AX _ _<|ay1 (fun _ zy=>?_);have hv:s.key.valid=true:=by have:=hc8; simpa using this
 have hB:([71,83,49]++dW [s.w,s.h]++Px.pb s.bg++iy (eG false) (s.ns.map aj.key)).length≤1000000000:=by have:=CZ hv; exact azQ this (by decide)
 rw[Pj]at hB;have R:=aAc S;refine Sx.lit S 8 9 3 [.u 71,.u 83,.u 49] 53 5 underlying53 underlying5 fun{ac u b13} zo uh S=>ayY S 4 [.mem 0 0,.mem 0 1] [(11,.i s.w),(13,.i s.h)] fun S=>Sx.news S 14 2 [.i s.w,.i s.h] (fun ac u b14 E15 hb16 S=>?_);have S0:=S.E.size;refine Sx.jI S (some 15) (iO (L:=[s.w,s.h]) (Sx.kY (f:=fun x:Int => .i x) [s.w,s.h] (S.bx 0) (by simp[maxLen])) (qL.all (L:=[s.w,s.h]) ⟨h.1,h.2.1,trivial⟩) (by simp)) ?_;rintro e u ⟨v17,rfl,zY,Kv⟩;refine⟨_,rfl,Kv,fun ac S=>?_⟩;have hvn:0<(dW [s.w,s.h]).length:=by unfold dW; rw[aAD,azz]; have h1:0<(En.dV 10 (En.zig s.w)).length:=En.AZ 9 _; omega
 have hB3:=hB;simp only[azz]at hB3;obtain⟨R,Y20⟩:=R.bP S (azP (azV zo) (azP (aAB E15 hb16) (azV Kv)));refine Sx.apI S R 16 yR ((dP.below uh (Ext.trans' E15 Kv))) (jE (zY)) (by omega) (by omega) (by simp[maxLen]<;>omega) (by omega) (fun ac u v21 NI X23 R S=>?_);have R:=R.as (show [(⟨5,1,v21,3+(dW [s.w,s.h]).length,[.u 71,.u 83,.u 49]++(dW [s.w,s.h]).map gK⟩:Sx.Row)]=[Sx.bR v21 ([71,83,49]++dW [s.w,s.h])] by unfold Sx.bR; rw[azz,aAo]; rfl);refine ayY S 1 [] [(4,v21)] fun S=>ayZ<|zy _ _<|ay1 fun _ V8=>ayY S 3 [.mem 1 2] [(17,v21),(19,.agg s.bg.cells.toArray)] fun S=>Sx.jI S (some 20) (uJ (p:=s.bg)) ?_;rintro e u ⟨v20,rfl,auf,DJ⟩;refine⟨_,rfl,DJ,fun ac S=>?_⟩;obtain⟨R,Y26⟩:=R.bP S (azV DJ);refine azl S R 21 (Px.pb s.bg) (jE (auf)) (by simp only[azz]at hB ⊢; omega) fun ac u v27 X28 R S=>ayY S 1 [] [(4,v27)] fun S=>ayZ<|V8 _ _<|ay1 fun _ adW=>ayY S 5 [.mem 1 6] [(22,v27),(24,s.s),(26,.func (.func 56) #[.agg #[.z]] #[])] fun S=>Sx.jI S (some 27) (TA (h.2.2.1.below S.E) (fun n hn=>⟨(h.2.2.2 n hn).below S.E,(qB hv).2 n hn⟩) (by simp only[azz]at hB; omega)) ?_;rintro e u ⟨v27,rfl,aug,E30⟩;refine⟨_,rfl,E30,fun ac S=>?_⟩;obtain⟨R,Y31⟩:=R.bP S (azV E30);refine azl S R 28 (iy (fun n:aj=>eG false n.key) s.ns) (jE (aug)) (by simp only[azz]at hB ⊢; omega) fun ac u v32 X33 R S=>ayY S 1 [] [(4,v32)] fun S=>ayZ<|adW _ _<|ay1 fun _ VX=>ayY S 1 [] [(29,v32)] (fun S=>?_);have hout:OwnB w.heap.size u v32 (dU s.key):=qC (R.own _ azJ) (by rw[←Pj]; rfl);have S0:=S.E.size;refine Sx.jI S (some 30) (wK _ (dU s.key) _ (uI hout) (by have:=CZ hv; omega)) ?_;rintro e u ⟨v30,rfl,alg,JG⟩;refine⟨_,rfl,JG,fun ac S=>?_⟩;refine ayY S 2 [] [(2,v30),(3,.i 0)] fun S=>ayZ<|VX _ _<|Sx.rt2 S results28 ?_;exact⟨_,_,rfl,.inl ⟨hv,aY (alg) S0,rfl⟩,S.E⟩
end
section
open En
variable{α β:Type}{K:Nat}
theorem YP{m:dA}{w:World}(h:m.ok w)(hn:m.num):m.key.Ok:=⟨⟨h.1,h.2.1,hn.1,hn.2.1⟩,hn.2.2⟩
theorem YQ{t:bF}{w:World}(h:t.ok w)(hf:t.fit K)(hv:t.q.valid=true):SB t.q:=ag0 (dY.nrm (bF.toQ h hf)) hv
theorem Md{w:World}{p:ak}(h:p.ok w)(hf:p.t.fit K)(hv:p.valid=true):p.key.Ok:=by
 obtain⟨l1,l2,l3⟩:=sW hv;exact⟨h.1,h.2.1,h.2.2.1,h.2.2.2.1,⟨l2,h.2.2.2.2.2.1⟩,h.2.2.2.2.2.2.1,YP h.2.2.2.2.2.2.2.1 l3,h.2.2.2.2.2.2.2.2.1,YQ h.2.2.2.2.2.2.2.2.2 hf l1⟩
theorem TD{w:World}{n:aj}(h:eu K w n)(hv:n.checkN=0):n.key.Ok:=by
 have hL:=sZ hv;have hG:=Df h.1 hv;obtain⟨ho,hf,hff,hfs,-⟩:=h;obtain⟨h1,h2,h3,h4,h5,h6,h7,h8,h9,h10,h11,h12,h13,JV⟩:=ho;refine⟨hG.i,YQ h4 hf hL.q,hG.clip,hG.path,fun hk=>⟨(hG.fill hk).1,fun x hx=>?_⟩,fun hk=>⟨(hG.stroke hk).1,fun x hx=>?_⟩,hG.style,fun hk=>YP h13 (hL.img hk),zU hv⟩
 ·obtain⟨p,hp,rfl⟩:=azX.1 hx; exact Md (h10.2 p hp) (hff p hp) ((hL.shape hk).2.2.2.1 p hp)
 obtain⟨p,hp,rfl⟩:=azX.1 hx; exact Md (h12.2 p hp) (hfs p hp) ((hL.shape hk).2.2.2.2.1 p hp)
theorem rC{m n:List UInt8}(h:fO.app m=fO.app n):m=n:=by
 have hl:m.length=n.length:=by have:=azH List.length h; rw[nS,nS]at this; omega
 unfold fO.app at h;exact(List.append_inj h hl).1
def Pm(lb:List UInt8):Prop:=∀(K:Nat) (W:World) (s:aI),dI K W s→s.key.valid=true→lb≠fO.app (dU s.key)
theorem IW(s:bD):dU s=[71,83,49]++(iB s.w++(iB s.h++(Px.pb s.bg++iy (eG false) s.ns))):=by
 unfold dU; simp only[lu,azO]; rfl
theorem J9{lb m:List UInt8}(h:lb=fO.app m)(hm:¬m.take 3=[71,83,49]):Pm lb:=fun K W s hs hv e=>by
 rw[h]at e;have:=rC e;rw[this,IW]at hm;exact hm rfl
theorem Fp{w:World}{n:aj}(h:n.ok w)(f1:n.t.fit 5000)(f2:∀p∈n.fill,p.t.fit 5000)(f3:∀p∈n.stroke,p.t.fit 5000):eu 5000 w n:=⟨h,f1,f2,f3,by decide,by decide⟩
section
variable{l:List UInt8}{p1 p2 p3 p4 p5 k:Nat}{b1 b2 b3 b4 b5:Bool}{x y:Int}{q:bG}{X:List aQ}
theorem abf(h1:Got iB I64 l 3 false p1 b1 x)(h2:Got iB I64 l p1 b1 p2 b2 y)(h3:Got Px.pb (fun _=>True) l p2 b2 p3 b3 q)(h4:agS l p3 b3 p4 b4 k)(h5:iY (eG false) aQ.Ok l p4 b4 k p5 b5 X)
  (K:Nat) (W:World) (s:aI) (hs:dI K W s) (hv:s.key.valid=true) (hl:l=dU s.key):(⟨x,y,q,X⟩:bD)=s.key∧b5=false:=by
 have hh:l.drop 3=iB s.key.w++(iB s.key.h++(Px.pb s.key.bg++iy (eG false) s.key.ns)):=by rw[hl,IW]; rfl
 obtain⟨e1,c,hh⟩:=h1 _ _ hs.1 rfl hh;obtain⟨e2,c,hh⟩:=h2 _ _ hs.2.1 c hh;obtain⟨e3,c,hh⟩:=h3 _ _ trivial c hh;obtain⟨hn,-⟩:=qB hv;obtain⟨e4,c,hh⟩:=(iY.lst h4 h5 (aaW false)) s.key.ns [] ⟨by simp[aI.key]; omega,fun z hz=>by
  obtain⟨n,hn,rfl⟩:=azX.1 hz;exact TD (hs.2.2.2 n hn) (uN hv n hn)⟩ c (by rw[hh,aAA])
 exact⟨by rw[e1,e2,e3,e4]; rfl,c⟩
end
theorem TF{base:Nat}{w:World}{s:bD}{v:Value}{er:Int}(h:TB base w s v er):∃bs,bJ w v bs∧((s.valid=true∧bs=fO.app (dU s)∧er=0)∨(s.valid=false∧bs=[]∧er=18)):=by
 rcases h with ⟨h1,h2,h3⟩ | ⟨h1,rfl,h3⟩
 ·exact⟨_,uI h2,.inl ⟨h1,rfl,h3⟩⟩
 exact⟨[],eF (dH _ _ _),.inr ⟨h1,rfl,h3⟩⟩
end
section
open Go.RowKit En
variable{α:Type}{K:Nat}
def TG(base:Nat)(w:World)(lb:List UInt8)(v:Value)(er:Int):Prop:=
 (er=0∧∃s:aI,v=s.v∧Sx.aU base (fun W=>dI 5000 W s) w∧s.key.valid=true∧(∀n∈s.ns,n.t.least)∧lb=fO.app (dU s.key)) ∨
 (er≠0∧v=aI.zero.v∧((er=4∧lb.length<4)∨(er=19∧4≤lb.length∧∀m,lb≠fO.app m)∨(er=3∧(∃m,lb=fO.app m)∧Pm lb)))
set_option maxRecDepth 100000 in
set_option maxHeartbeats 3200000 in
theorem Dn{w:World}{v:Value}{lb:List UInt8}(hg:dO w)(hv:jr w v lb)(hll:lb.length≤60000000) :
  Calls prog 48 #[v] w fun e w'=>∃v er,e = .returned (.tuple #[v,.i er])∧TG w.heap.size w' lb v er∧Ext w w':=by
 obtain⟨ad,ca,rfl⟩:=hv.shape;have hin:=hv;clear hv;refine ay3 func48 ntmps48 fun S=>ay2 S (fun u b2 E3 hb4 S=>?_);have alh:=(S.bx 0).1;have hEq:=S.E;refine aze S (LZ (c0:=71) (c1':=83) (c2:=49) (aJ.below hin S.E) hll) ?_;rintro e u ⟨pv,er,rfl,E6,hop⟩;refine⟨_,rfl,E6,fun S=>?_⟩;refine ay0 S ((er) != 0) (fun Jt S=>?_) (fun Jt S=>?_)
 ·have aeT:=hop.resolve_right (fun h=>absurd h.1 (by have:=Jt; simpa using this));refine ay4 S 0 rfl (fun u XW S=>?_);have hwy:TG w.heap.size u lb aI.zero.v er := .inr ⟨aeT.1,rfl,aeT.2.2.imp id (fun h=>h.imp id (fun h=>⟨h.1,by obtain⟨m,hm,-⟩:=h.2; exact⟨m,hm⟩,by obtain⟨m,hm,hn⟩:=h.2; exact J9 hm hn⟩))⟩;refine Sx.IX S 0 rfl (v:=aI.zero.v) (u := .i er) (fun S=>⟨_,_,rfl,hwy,S.E⟩)
 obtain⟨-,l,b,a,cap,wm,hlb,hm3,rfl,Xg,h,hws,hE1,hXr⟩:=hop.resolve_left (fun h=>h.1 (by have:=Jt; simpa using this));have he0:er=0:=by have:=Jt; simpa using this
 have hEw:Ext w wm:=Ext.trans' hEq Xg;have hs0:=hEw.size;have hs1:=Xg.size;have hl6:l.length≤60000000:=by have:=azH List.length hlb; rw[nS]at this; omega
 have hp0:3≤l.length:=by have:=azH List.length hm3; simp at this; omega
 have S:=S.adopt (A:=[.slice a l.length cap,.i (3:Nat),.z,.z]) hXr (by omega) (fun p hp=>by rcases azG.1 hp with rfl | hp; (have:=alh; intro e; simp only at e; omega); cases hp) (fun m hm=>by cases hm);have hEz:=Ext.trans' hEw hE1;have S:=S.fl;have y13:=((Ch.aZ (b:=b) hEz)).size;have hEr:=hE1;refine aza S 0 rfl (jh hEr (S.bx 0) hws h hp0) ?_;rintro e u ⟨BJ,p13,d13,rfl,i13,g13,J8,zV,oG,Iw⟩;refine⟨_,_,rfl,(Ext.trans' hEw zV),oG,Iw,fun S=>?_⟩;have aed:=oG.size;have Nr:=zV.size;have zH:=zV;have oL:=(aH (Ch.aZ (b:=b) hEz) oG);refine ay2 S fun u b16 yE agd S=>ay4 S 0 rfl (fun u XV S=>?_);have xA:=ay5 yE XV;have BU:=ay5 yE XV;have S:=S.fl;have y23:=(((Ch.trans oL (Ch.aZ BU)))).size;have hEr:=((Ext.trans' zH xA));refine aza S 1 rfl (jh hEr (S.bx 1) hws h J8) ?_;rintro e u ⟨x23,p23,d23,rfl,i23,g23,auh,ali,alj,aui⟩;refine⟨_,_,rfl,(Ext.trans' hEw ali),alj,aui,fun S=>?_⟩;have ayI:=alj.size;have Ze:=ali.size;have akQ:=ali;have Ce:=(aH ((Ch.trans oL (Ch.aZ BU))) alj);refine azb S 0 rfl (fun u C26 S=>?_);have xY:=(ay5 akQ C26 (by omega));have CQ:=(aH Ce C26);have S:=S.fl;have y30:=(CQ).size;have hEr:=xY;refine aza S 1 rfl (Fh hEr (S.bx 1) hws h auh) ?_;rintro e u ⟨q30,p30,d30,rfl,g30,auj,alk,alm,auk⟩;refine⟨_,_,rfl,(Ext.trans' hEw alk),alm,auk,fun S=>?_⟩;have ayJ:=alm.size;have ayK:=alk.size;have vV:=alk;have AQ:=(aH CQ alm);refine ay4 S 0 rfl (fun u NK S=>?_);have CS:=(ay5 vV NK (by omega));have Bz:=(aH AQ NK);have S:=S.fl;have y37:=(Bz).size;have hEr:=CS;refine aza S 1 rfl (uO hEr (S.bx 1) hws h auj) ?_;rintro e u ⟨k37,p37,d37,rfl,aul,g37,aum,aln,alo,aun⟩;refine⟨_,_,rfl,(Ext.trans' hEw aln),alo,aun,fun S=>?_⟩;have ayL:=alo.size;have ayM:=aln.size;have zf:=aln;have CB:=(aH Bz alo);have S:=S.fl;have y40:=(CB).size;have anh:=(S.bx 0).1;have ani:=(S.bx 1).1;have anj:=(S.bx 2).1;have hEr:=zf;refine aza S 1 rfl (aeQ (hl6:=hl6) (hn:=aul) (hll:=by omega) hEr (S.bx 1) hws h aum) ?_;rintro e u ⟨v40,X40,p40,d40,rfl,ar4,SK,aew,g40,ank,Vr,NT,adl⟩;obtain⟨SL,SN,rfl⟩:=aew.self.1.shape;refine⟨_,_,rfl,(Ext.trans' hEw Vr),NT,adl,fun S=>?_⟩;have ar5:=NT.size;have ayN:=Vr.size;have zi:=Vr;have Ci:=(aH CB NT);refine azb S 0 rfl (fun u C43 S=>?_);have Ot:=(ay5 zi C43 (by omega));have qK:=(aH Ci C43);have JO:=(aU.ch aew C43 (by omega));have hgs:=abf g13 g23 g30 g37 g40;have alp:dI 5000 u (⟨BJ,x23,q30,SL,SN,X40⟩):=⟨i13,i23,(az8 JO).1,fun z hz=>Fp ((az8 JO).2 z hz) (SK z hz).1 (SK z hz).2.1 (SK z hz).2.2.1⟩;refine adr S 1 [] [.mem 0 0] fun S=>aze S (vg alp (dO.below hg S.E)) ?_;rintro e u ⟨v5,er5,rfl,hsc,NM⟩;obtain⟨bs,hbs,hcs⟩:=TF hsc;refine⟨_,rfl,NM,fun S=>?_⟩;refine adr S 5 [] [] fun S=>aAu S 14 [.mem 1 2] [(_,_,(!(d40||((er5) != 0))),.bool (bs==lb))] [(51,.bool ((d40||((er5) != 0))||(!(bs==lb))))] ⟨fun u hC g=>azp (kT _ _ bs lb u (((dB.below hbs hC))) (eF (aJ.below hin (Ext.trans' S.E hC)))),trivial⟩ fun u E51 S=>ay0 S ((d40||((er5) != 0))||(!(bs==lb))) (fun rP S=>?_) (fun rP S=>?_)
 ·refine ay4 S 2 rfl (fun u C54 S=>?_);have Rh:=(aU.ch ((azT JO (Ext.trans' NM E51))) C54 (by omega));have hno:Pm lb:=fun K0 W0 s0 hs0 hv0 e=>by
   rw[hlb]at e;obtain⟨g1,g2⟩:=hgs K0 W0 s0 hs0 hv0 (rC e);replace g1:aI.key (⟨BJ,x23,q30,SL,SN,X40⟩)=s0.key:=g1;rw[g1]at hcs;rcases hcs with ⟨-,c2,c3⟩ | ⟨c1,-⟩
   ·rw[g2,c3,c2,hlb,rC e]at rP; simp at rP
   rw[hv0]at c1; cases c1
  refine Sx.IX S 2 rfl (v:=aI.zero.v) (u := .i 3) (fun S=>⟨_,_,rfl,.inr ⟨by decide,rfl,.inr (.inr ⟨rfl,⟨l,hlb⟩,hno⟩)⟩,S.E⟩)
 refine adr S 1 [] [.mem 0 0] fun S=>ay4 S 2 rfl (fun u C57 S=>?_);have Bc:=(aU.ch ((azT JO (Ext.trans' NM E51))) C57 (by omega));have hh:er5=0∧bs=lb:=by have:=rP; simp at this; exact⟨this.1.2,this.2⟩
 have hfin:(aI.key (⟨BJ,x23,q30,SL,SN,X40⟩)).valid=true∧lb=fO.app (dU (aI.key (⟨BJ,x23,q30,SL,SN,X40⟩))):=by rcases hcs with ⟨c1,c2,c3⟩ | ⟨-,-,c3⟩; (exact⟨c1,hh.2.symm.trans c2⟩); (exact absurd (hh.1.symm.trans c3) (by decide))
 refine Sx.IX S 2 rfl (v:=aI.v (⟨BJ,x23,q30,SL,SN,X40⟩)) (u := .i 0) (fun S=>⟨_,_,rfl,.inl ⟨rfl,_,rfl,(aAs (Sx.aU.le Bc (by omega)) fun W h=>⟨i13,i23,h.1,fun z hz=>Fp (h.2 z hz) (SK z hz).1 (SK z hz).2.1 (SK z hz).2.2.1⟩),hfin.1,fun z hz=>(SK z hz).2.2.2,hfin.2⟩,S.E⟩)
end
section
open Go.RowKit
variable{α:Type}{K:Nat}
theorem apJ{base b:Nat}{v:Value}{l:List aj}{w w':World}(h:fU base v l w)(hc:Ch b w w')(hb:b<base):fU base v l w':=fun w2 hs hk =>
 h w2 (azQ hc.size hs) fun i hi hB=>(hk i (azY hi hc.size) hB).trans (hc.block i hi (fun e=>by simp only[azy]at e; omega))
theorem aeU(w:World) :
  Calls prog 27 #[.pointer none] w fun e w'=>e = .returned (.bool true)∧w=w':=by
 skip;refine ay3 func27 ntmps27 fun S=>adr S 11 [6,7,8,9,10] [.dead 6 (.z),.dead 7 (.z),.dead 8 (.z),.dead 9 (.z),.dead 10 (.z)] fun S=>apB S (.bool true) (fun S=>?_);exact⟨rfl,rfl⟩
theorem oH{w:World}{b:Nat}{sv ev:Value}{k:Int}{m:Bool}(hx:Bx w b #[sv,ev,.i k,.bool m]) :
  Calls prog 27 #[.q b 0] w fun e w'=>e = .returned (.bool (!m))∧w=w':=by
 skip;refine ay3 func27 ntmps27 (fun S=>?_);have S:=S.view0 hx.1 (hx.range 0 4 rfl);refine adr S 11 [6,7,8,9,10] [.mem 0 3] fun S=>apB S (.bool (!m)) (fun S=>?_);exact⟨rfl,rfl⟩
theorem hpred{k:Nat}(h:0<k)(h2:k≤9223372036854775807):Value.i (IntKind.i64.wrap ((k:Int)-1)) = .i (k-1:Nat):=by
 have:IntKind.i64.wrap ((k:Int)-1)=((k-1:Nat):Int):=by rw[aBX]; omega
 rw[this]
theorem abg{w0 w:World}{b:Nat}{sv ev:Value}{k:Nat}(hE:Ext w0 w)(hx:Bx w b #[sv,ev,.i k,.bool true])(hb:w0.heap.size≤b)(hk:k≤1000000) :
  Calls prog 14 #[.q b 0] w fun e w'=>(k=0∧e = .returned (.i 20)∧Ext w0 w'∧Ch b w w'∧Bx w' b #[sv,ev,.i k,.bool true])∨∃k',k=k'+1∧e = .returned (.i 0)∧Ext w0 w'∧Ch b w w'∧Bx w' b #[sv,ev,.i k',.bool true]:=by
 skip;refine azr func14 ntmps14 hE hx hb fun S=>aAx S (oH (S.bx 0)) fun S=>azg S fun S=>adr S 6 [] [.mem 0 2] fun S=>ay0 S (((k:Int))==0) (fun hc6 S=>?_) (fun hc6 S=>?_)
 ·refine apB S (.i 20) (fun S=>?_);have hk:k=0:=by simpa using hc6
  exact .inl ⟨hk,rfl,S.E,Ch.refl _ _,S.kG 0⟩
 have hk:0<k:=by have:=hc6; simp at this; omega
 refine adr S 9 [] [.mem 0 2,.re 16 (.i (IntKind.i64.wrap ((k:Int)-1))) (.i (k-1:Nat))] (hk:=⟨hpred (by omega) (by omega),trivial⟩) fun S=>azb S 0 rfl fun u C9 S=>apB S (.i 0) (fun S=>?_);exact .inr ⟨k-1,by omega,rfl,S.E,C9,S.kG 0⟩
theorem abh{w0 w:World}{b:Nat}{sv:Value}{ea:Option Addr}{en ec:Nat}{k:Nat}(hE:Ext w0 w)(hx:Bx w b #[sv,.slice ea en ec,.i k,.bool true])(hb:w0.heap.size≤b)(hk:k≤1000000) :
  Calls prog 15 #[.q b 0] w fun e w'=>(k=en∧e = .returned (.i 20)∧Ext w0 w'∧Ch b w w'∧Bx w' b #[sv,.slice ea en ec,.i k,.bool true])∨(k≠en∧e = .returned (.i 0)∧Ext w0 w'∧Ch b w w'∧Bx w' b #[sv,.slice ea en ec,.i (k+1:Nat),.bool true]):=by
 skip;refine azr func15 ntmps15 hE hx hb fun S=>aAx S (oH (S.bx 0)) fun S=>azg S fun S=>azi S 12 [.mem 0 2,.mem 0 1] [] [(16,.bool (((k:Int))==(en:Int)))] trivial fun u E6 S=>ay0 S (((k:Int))==(en:Int)) (fun nH S=>?_) (fun nH S=>?_)
 ·refine apB S (.i 20) (fun S=>?_);have hk:k=en:=by have:=nH; simp at this; omega
  exact .inl ⟨hk,rfl,S.E,Ch.aZ E6,S.kG 0⟩
 refine adr S 9 [] [.mem 0 2,.re 22 (.i (IntKind.i64.wrap ((k:Int)+1))) (.i (k+1:Nat))] (hk:=⟨azj (by omega),trivial⟩) fun S=>azb S 0 rfl fun u C9 S=>apB S (.i 0) (fun S=>?_);have hk:k≠en:=by have:=nH; simp at this; omega
 exact .inr ⟨hk,rfl,S.E,Ch.trans (Ch.aZ E6) C9,S.kG 0⟩
theorem aeV{w:World}{b:Nat}{sv:Value}{ea:Option Addr}{en ec k:Nat}(hx:Bx w b #[sv,.slice ea en ec,.i k,.bool true]) :
  Calls prog 9 #[.q b 0] w fun e w'=>e = .returned (.tuple #[.i k,.i en])∧Ext w w':=by
 skip;refine ay3 func9 ntmps9 (fun S=>?_);have S:=S.view0 hx.1 (hx.range 0 4 rfl);refine aAx S (oH hx) fun S=>azg S fun S=>azi S 12 [.mem 0 2,.mem 0 1] [] [(2,.i k),(16,.i en)] trivial fun u E5 S=>Sx.KJ S (.i k) (.i en) (fun S=>?_);exact⟨rfl,S.E⟩
theorem TJ{w:World}{b:Nat}{ev:Value}{sa:Option Addr}{sc k:Nat}{ss:List aI}{r:List Value}{x:aI}(hx:Bx w b (.slice sa ss.length sc::ev :: .i k::r).toArray)(h:aJ 7 aI.cells w (.slice sa ss.length sc) ss)(hk:k<ss.length)(hxk:ss[k]=x) :
  Calls prog 38 #[.q b 0] w fun e w'=>e = .returned x.v∧Ext w w':=by
 skip;refine ay3 func38 ntmps38 (fun S=>?_);have S:=S.view0 hx.1 (hx.range 0 3 rfl);refine ay2 S (fun u b2 E3 hb4 S=>?_);have apK:k<ss.length:=hk;obtain⟨b7,o8,rfl,BJ,auo,Z9,aup⟩:=az2 h (fun _=>rfl) (k) apK;have S:=S.view0 Z9 aup;refine azi S 10 [.mem 2 0,.mem 2 2,.idx k ss.length,.mem 1 0] [] [(12,BJ.v)] trivial (hk:=⟨apK,trivial⟩) fun u E6 S=>ay4 S 0 rfl fun u C15 S=>azf S 0 rfl (v:=BJ.v) (fun S=>?_);exact⟨by rw[←hxk,auo],S.E⟩
theorem Xj{w:World}{b:Nat}{ev:Value}{sa:Option Addr}{sc k:Nat}{ss:List aI}(hx:Bx w b #[.slice sa ss.length sc,ev,.i k,.bool true])(h:aJ 7 aI.cells w (.slice sa ss.length sc) ss)(hk:k<ss.length)(hok:dI K w ss[k])(hl:∀n∈(ss[k]).ns,n.lim)(hn:(ss[k]).ns.length≤100000) :
  Calls prog 17 #[.q b 0] w fun e w'=>∃m:aI,e = .returned m.v∧fU w.heap.size m.s m.ns w'∧m.ns.map aj.strip=(ss[k]).ns.map aj.strip∧m.w=(ss[k]).w∧m.h=(ss[k]).h∧m.bg=(ss[k]).bg∧Ext w w':=by
 skip;refine ay3 func17 ntmps17 (fun S=>?_);have S:=S.view0 hx.1 (hx.range 0 4 rfl);refine ay2 S fun u b2 E3 hb4 S=>aAx S (oH (hx.ext S.E)) fun S=>azg S fun S=>azd S (TJ (hx.ext S.E) (h.below S.E) hk rfl) (fun u E8 S=>?_);have hlt:=(S.bx 0).1;have hsz:=S.E.size;refine aze S (qX (hok.below S.E) hl hn) ?_;rintro e u ⟨m,rfl,ho,hst,hw1,hh1,hb1,E9⟩;refine⟨_,rfl,E9,fun S=>?_⟩;refine ay4 S 0 rfl fun u C10 S=>azf S 0 rfl (v:=m.v) (fun S=>?_);exact⟨m,rfl,(apJ ho.cp C10 hlt).le hsz,hst,hw1,hh1,hb1,S.E⟩
end
end Go.Proofs.YtodpgjjgaddkeaaGreatDoor
