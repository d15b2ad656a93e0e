/- Copies of nodes in new memory: package node's paints and -/
import Derived.Test.YtodpgjjgaddkeaaGreatDoorPk19
set_option maxHeartbeats 3200000
set_option maxRecDepth 100000
set_option linter.unusedVariables false
set_option linter.unusedSimpArgs false
namespace Go.Proofs.YtodpgjjgaddkeaaGreatDoor
open _root_.Go.Proofs.Tryz
section
open Go.RowKit
variable{α:Type}{K:Nat}
theorem agN{k:Nat}{f:α→List Value}{M q:List α}{x:α}{i:Nat}(hM:M.length=i)(hf:∀x,(f x).length=k):(((M++x::q).flatMap f).drop (0+i*k)).take (f x).length=f x:=by
 rw[aBm,List.drop_append,Sx.kP hf,hM,aA4 (by rw[Sx.kP hf,hM]; omega),show 0+i*k-i*k=0 by omega,aAH,aCk,aAO,List.take_left]
theorem Il{k:Nat}{f:α→List Value}{M q:List α}{B cs:List Value}{i o:Nat}(hM:M.length=i)(hf:∀x,(f x).length=k)(ho:o+cs.length≤B.length):Sx.spl (M.flatMap f++(B++q.flatMap f)) (0+i*k+o) cs=M.flatMap f++(Sx.spl B o cs++q.flatMap f):=by
 have hl:(M.flatMap f).length=i*k:=by rw[Sx.kP hf,hM]
 unfold Sx.spl;rw[List.take_append,List.drop_append,hl,aAp (by omega),aA4 (by omega),aAH,show 0+i*k+o-i*k=o by omega,show 0+i*k+o+cs.length-i*k=o+cs.length by omega,List.take_append_of_le_length (by omega),List.drop_append_of_le_length ho];simp only[az0]
theorem FD{A cs:List Value}{o:Nat}(h:o+cs.length≤A.length):(Sx.spl A o cs).length=A.length:=by unfold Sx.spl; simp; omega
def ak.re(x:ak)(a1:Option Addr)(c1:Nat)(a2:Option Addr)(c2:Nat)(t:bG):ak:=⟨x.kind,x.color,x.p0,x.p1,x.bT,a1,c1,x.stops,x.spread,⟨x.img.w,x.img.h,a2,c2,x.img.l⟩,x.cZ,t⟩
theorem adT{B:Nat→Prop}{base:Nat}{w w1:World}{x:ak}{a1 a2:Option Addr}{c1 c2:Nat}{t:bG}(hx:x.ok w1)(h1:Sx.On B (Sx.nZ 202 5 dH.cells base (.slice a1 x.stops.length c1) x.stops) w)(h2:Sx.On B (Sx.nZ 178 4 bC.cells base (.slice a2 x.img.l.length c2) x.img.l) w)(h3:Sx.On B (fun w=>t.pO base w) w):Sx.On B (fun w=>(x.re a1 c1 a2 c2 t).pO base w) w:=
 aAF (aAd h1 (aAd h2 h3)) fun _ h=>⟨⟨hx.1,hx.2.1,hx.2.2.1,hx.2.2.2.1,h.1.1,hx.2.2.2.2.2.1,hx.2.2.2.2.2.2.1,⟨hx.2.2.2.2.2.2.2.1.1,hx.2.2.2.2.2.2.2.1.2.1,h.2.1.1⟩,hx.2.2.2.2.2.2.2.2.1,h.2.2.ok⟩,h.1.2,h.2.1.2,h.2.2⟩
theorem adU{x:ak}{a1 a2:Option Addr}{c1 c2:Nat}{t:bG}:Sx.spl (Sx.spl (Sx.spl x.cells 10 [.slice a1 x.stops.length c1]) 14 [.slice a2 x.img.l.length c2]) 16 t.cells=(x.re a1 c1 a2 c2 t).cells:=rfl
def ak.lim(p:ak):Prop:=p.stops.length≤10000000∧p.img.l.length≤10000000∧p.t.lim
theorem adV{P:ak→Prop}{M:List ak}{x:ak}(h:∀p∈M,P p)(hx:P x):∀p∈M++[x],P p:=fun p hp=>by
 rcases aAl.1 hp with hp | hp
 ·exact h p hp
 rw[aAb.1 hp]; exact hx
theorem Wi{l M:List ak}{k:Nat}{x y:ak}(hk:k<l.length)(hx:l[k]=x)(h:M.map ak.strip=(l.take k).map ak.strip)(hy:y.strip=x.strip):(M++[y]).map ak.strip=(l.take (k+1)).map ak.strip:=by
 rw[aAJ hk,aAB,aAB,h,hx]; simp[hy]
theorem Ol{w:World}{v:Value}{L:List ak}(h:aI 40 ak.cells w v L):dP w 40 v L.length (L.flatMap ak.cells):=Sx.nR h (fun _=>rfl) fun _=>rfl
theorem Om{w:World}{v:Value}{L:List ak}(h:aI 40 ak.cells w v L)(hl:L.length≤10000000) :
  Calls prog 150 #[v] w fun e w'=>∃v',e = .returned v'∧w'.ownsRow w.heap.size 133 40 v' L.length (L.flatMap ak.cells)∧Ext w w':=by
 obtain⟨a,c,rfl⟩:=h.shape;cases a with
 | none =>
  obtain rfl:L=[]:=pX h;obtain rfl:=jX h;refine aze func150 ntmps150 fun S=>azn S fun S=>ay9 S (.sn) (fun S=>?_);exact⟨_,rfl,⟨by simp,.inl ⟨rfl,rfl⟩⟩,S.E⟩
 | some p =>
  refine aze func150 ntmps150 fun S=>azu S (fun S=>?_);have R:=aAo S;refine azl S fun S=>Sx.newRow S R 5 0 133 40 [] fun ac u v5 E6 X7 R S=>azr S fun S=>azl S fun S=>Sx.app S R 0 7 rfl Yu (Ol (h.below S.E)) (by show 0+L.length≤9223372036854775807; omega) (by show(0+L.length)*_≤140737488355328; omega) fun ac u v8 X9 R S=>azr S fun S=>ay9 S v8 (fun S=>?_);have ho:=R.own _ azV;refine⟨_,rfl,?_,S.E⟩;simpa using ho
theorem RP{w:World}{B:Nat}{e:TypeId}{k n c:Nat}{a:Option Addr}{xs:List Value}(h:w.ownsRow B e k (.slice a n c) n xs)(hn:0<n):∃g,a=some ⟨g,0,none⟩:=by
 obtain⟨h1,⟨e,h0⟩ | ⟨g,cap,cur,e,_⟩⟩:=h
 ·omega
 simp only[aAg]at e; exact⟨g,e.1⟩
theorem Io{w:World}{v:Value}{l:List ak}(h:iV w v l)(hl:l.length≤10000000)(hl2:∀p∈l,p.lim) :
  Calls prog 102 #[v] w fun e w'=>∃v' l',e = .returned v'∧qH w.heap.size v' l' w'∧l'.map ak.strip=l.map ak.strip∧Ext w w':=by
 obtain⟨a,cap,rfl⟩:=h.1.shape;refine aze func102 ntmps102 (fun S=>?_);have R:=aAo S;have q0:=S.E.size;refine azo S (Om (h.1.below S.E) hl) ?_;rintro e u ⟨v,rfl,ho,E1⟩;refine⟨_,rfl,E1,fun S=>?_⟩;have R:=(R.ext E1).add (r:=⟨133,40,v,l.length,l.flatMap ak.cells⟩) ho R.lt q0;obtain⟨a1,c1,rfl⟩:=Sx.oz ho;refine azw S (ι:=Nat×List ak) (fun p a' w'=>p.1≤l.length∧(p.2.map ak.strip=(l.take p.1).map ak.strip)∧Sx.Rw w w' [] [⟨133,40,.slice a1 l.length c1,l.length,(p.2++l.drop p.1).flatMap ak.cells⟩]∧Sx.Ow w.heap.size (Sx.Ob [] [⟨133,40,.slice a1 l.length c1,l.length,(p.2++l.drop p.1).flatMap ak.cells⟩]) (fun W=>∀z∈p.2,z.pO w.heap.size W) w'∧Sx.St w a' w' 44 [(0,.slice a l.length cap),(2,.sn),(3,.slice a1 l.length c1),(9,.i l.length),(10,.i p.1)] [] []) (fun p=>l.length-p.1) (0,[]) (fun S=>⟨azQ _,rfl,R,(fun _ _ _ z hz=>by cases hz),S.sn⟩) ?_;rintro⟨k,M⟩ ac u gW eH hI;try dsimp only at hI
 obtain⟨hk,hR,R,J8,S⟩:=hI;refine azx S fun S=>azb S (decide ((k:Int)<(l.length:Int))) (fun nJ S=>?_) (fun nJ S=>?_)
 ·have hk:k<l.length:=by have:=azZ nJ; omega
  obtain⟨y,hx⟩:∃y,l[k]=y:=⟨_,rfl⟩;have hd:l.drop k=y::l.drop (k+1):=by rw[←hx]; exact aAR hk
  have hM:M.length=k:=by have:=azT List.length hR; simp at this; omega
  obtain⟨g,rfl⟩:=RP (R.own _ azV) (by show 0<l.length; omega);have hxo:=h.2 y (hx▸aAc hk);have hxl:=hl2 y (hx▸aAc hk);obtain⟨hr,hg,hn⟩:=R.range azV rfl (0+k*40) (cs:=y.cells) (by show(List.drop _ ((M++l.drop k).flatMap ak.cells)).take _=_; rw[hd]; exact agN hM (fun _=>rfl));have S:=S.view hg hr hn;have q1:=S.E.size;have q2:=R.lt;refine adr S 6 [] [.idx k l.length] (hk:=⟨hk,trivial⟩) fun S=>Sx.zd S fun S id=>Sx.hoist [1,2] 19<|Sx.sF S 19 [(23,fun v w1=>Cp 202 5 dH.cells u.heap.size v y.stops w1),(29,fun v w1=>Cp 178 4 bC.cells u.heap.size v y.img.l w1),(34,fun v w1=>∃t:bG,v=t.v∧t.cp u.heap.size w1∧t.strip=y.t.strip)] (fun r=>[.mem 0 10,.mem 0 14,.mem 0 16]) (fun x=>[x 23,x 29,x 34]) (fun x=>[(_,_,true,x 23,23),(_,_,true,x 29,29),(_,_,true,x 34,34)]) [[],[],[]] (fun x=>[(16,.pointer (some ⟨g,0+k*40,none⟩)),(17,.pointer (some ⟨g,0+k*40,none⟩)),(18,.pointer (some ⟨g,0+k*40,none⟩)),(23,x 23),(29,x 29),(34,x 34)]) ⟨fun _ _ _ k h=>h.ext k,fun _ _ _ k h=>h.ext k,fun _ _ _ k h=>by obtain⟨t,e,h,q⟩:=h; exact⟨t,e,h.ext k,q⟩,trivial⟩ (fun x=>⟨by intro u hC g F; exact(RI (hxo.2.2.2.2.1.below (Ext.trans' S.E hC)) hxl.1).mono fun e w2 h=>by obtain⟨v,rfl,hx,hb⟩:=h; exact⟨_,rfl,hx.mono hC.size,hb⟩,by intro u hC g F; exact(Ik (hxo.2.2.2.2.2.2.2.1.2.2.below (Ext.trans' S.E hC)) hxl.2.1).mono fun e w2 h=>by obtain⟨v,rfl,hx,hb⟩:=h; exact⟨_,rfl,hx.mono hC.size,hb⟩,by intro u hC g F; exact(yQ (hxo.2.2.2.2.2.2.2.2.2.below (Ext.trans' S.E hC)) hxl.2.2).mono fun e w2 h=>by obtain⟨t,rfl,hx,ht,hb⟩:=h; exact⟨_,rfl,⟨t,rfl,adO hx hC.size,ht⟩,hb⟩,trivial⟩) fun ac u x Au F S=>Sx.zdb S (fun S=>?_);obtain⟨F23,F29,F34,-⟩:=F;obtain⟨b1,d1,e1⟩:=Cp.shape F23;rw[e1]at S F23;try rw[e1]
  obtain⟨b2,d2,e2⟩:=Cp.shape F29;rw[e2]at S F29;try rw[e2]
  obtain⟨t,e3,F34,ht⟩:=F34;rw[e3]at S;try rw[e3]
  obtain⟨R,Y12⟩:=R.bP S (az7 Au);have G0:Sx.Ow _ _ (fun W=>(y.re b1 d1 b2 d2 t).pO w.heap.size W) _:=aAF (Sx.aU.ow (adT hxo F23 F29 F34) q1 q2) fun _ h=>h.le q1;have hlen:((M++l.drop k).flatMap ak.cells).length=l.length*40:=by rw[Sx.kP (f:=ak.cells) (k:=40) (fun _=>rfl)]; simp; omega
  have axC:k*40+40≤l.length*40:=by omega
  refine azl S fun S=>Sx.Le S R 0 (off:=0+k*40+10) (v := .slice b1 y.stops.length d1) rfl rfl (by show 0+k*40+10+1≤_; rw[hlen]; omega) fun u X13 R S=>Sx.zo0 S fun S=>azl S fun S=>Sx.Le S R 0 (off:=0+k*40+14) (v := .slice b2 y.img.l.length d2) rfl rfl (by show 0+k*40+14+1≤_; rw[FD (by show 0+k*40+10+1≤_; rw[hlen]; omega),hlen]; omega) fun u JA R S=>Sx.zo0 S fun S=>azl S fun S=>Sx.adW S R 0 (off:=0+k*40+16) (cs:=t.cells) rfl rfl (by show 0+k*40+16+24≤_; rw[FD (by show 0+k*40+14+1≤_; rw[FD (by show 0+k*40+10+1≤_; rw[hlen]; omega),hlen]; omega),FD (by show 0+k*40+10+1≤_; rw[hlen]; omega),hlen]; omega) fun u X15 R S=>Sx.zo0 S fun S=>adr S 2 [] [.re 42 (.i (IntKind.i64.wrap ((k:Int)+1))) (.i (k+1:Nat))] (hk:=⟨azt (by omega),trivial⟩) fun S=>azy S gW (fun S=>?_);have hxs:Sx.spl (Sx.spl (Sx.spl ((M++l.drop k).flatMap ak.cells) (0+k*40+10) [.slice b1 y.stops.length d1]) (0+k*40+14) [.slice b2 y.img.l.length d2]) (0+k*40+16) t.cells=((M++[y.re b1 d1 b2 d2 t])++l.drop (k+1)).flatMap ak.cells:=by
   rw[show(M++[y.re b1 d1 b2 d2 t])++l.drop (k+1)=M++(y.re b1 d1 b2 d2 t::l.drop (k+1)) by simp,hd,aBm,aBm,aAO,aAO,Il (k:=40) (f:=ak.cells) hM (fun _=>rfl) (azZ (by kernel_rfl)),Il (k:=40) (f:=ak.cells) hM (fun _=>rfl) (azZ (by kernel_rfl)),Il (k:=40) (f:=ak.cells) hM (fun _=>rfl) (azZ (by kernel_rfl)),adU]
  exact eH _ _ ((k+1),M++[y.re b1 d1 b2 d2 t]) ⟨by omega,(Wi hk hx hR (by show(y.re b1 d1 b2 d2 t).strip=y.strip; unfold ak.strip ak.re; rw[ht]; rfl)),R.as (azT (fun xs=>[(⟨133,40,.slice (some ⟨g,0,none⟩) l.length c1,l.length,xs⟩:Sx.Row)]) hxs),aAF (aAd (aA2 J8 (az2 Y12 (az2 X13 (az2 JA X15)))) (aA2 G0 (az2 X13 (az2 JA X15)))) fun _ h=>adV h.1 h.2,S.sn⟩ (by show _-_<_-_; omega)
 refine ay9 S (.slice a1 l.length c1) (fun S=>?_);have hk:=az4 nJ;obtain rfl:k=l.length:=by omega
 exact⟨_,M,rfl,aAd (Sx.jV (fun _=>rfl) (R.own _ azV) (by have:=azT List.length hR; simp at this; exact this.symm) (by simp)) (Sx.Ow.dep J8),by simpa using hR,S.E⟩
def aj.lim(n:aj):Prop:=n.t.lim∧n.clip.length≤10000000∧n.path.length≤10000000∧n.fill.length≤10000000∧(∀p∈n.fill,p.lim)∧n.style.dash.length≤10000000∧n.stroke.length≤10000000∧(∀p∈n.stroke,p.lim)∧n.img.l.length≤10000000
abbrev aj.cp (base:Nat)(n:aj)(w:World):Prop:=Sx.aU base (fun W=>n.pO base W) w
theorem Oo{base b0:Nat}{n:aj}{w:World}(h:n.cp base w)(hb:b0≤base):n.cp b0 w:=aAF (Sx.aU.le h hb) fun _ h=>⟨h.1,h.2.1.le hb,h.2.2.1.le hb,h.2.2.2.1.le hb,h.2.2.2.2.1.le hb,h.2.2.2.2.2.1.le hb,h.2.2.2.2.2.2.1.le hb,h.2.2.2.2.2.2.2.le hb⟩
theorem agO{base:Nat}{w w1:World}{n m:aj}(h:n.ok w1)(e1:m.id=n.id)(e2:m.kind=n.kind)(e3:m.depth=n.depth)(e4:m.clip=n.clip)(e5:m.aP=n.aP)(e6:m.blend=n.blend)(e7:m.path=n.path)(e8:m.aT=n.aT)(e9:m.style.key=n.style.key)(e10:m.img.key=n.img.key)(e11:m.cZ=n.cZ)
  (h1:m.t.cp base w) (h2:Cp 163 7 dM.cells base m.cs m.clip w) (h3:Cp 163 7 dM.cells base m.ps m.path w) (h4:qH base m.fs m.fill w) (h5:qH base m.ss m.stroke w) (h6:Cp 3 1 (fun x=>[AA x]) base m.style.s m.style.dash w) (h7:Cp 178 4 bC.cells base m.img.s m.img.l w):m.cp base w:=by
 obtain⟨k1,k2,k3,k4,k5,k6,k7,k8,k9,k10,k11,k12,k13,k14⟩:=h;simp only[aS.key,kC.mk.injEq]at e9;simp only[dB.key,og.mk.injEq]at e10;refine aAF (aAd h1 (aAd h2 (aAd h3 (aAd h4 (aAd h5 (aAd h6 h7)))))) fun W ⟨q1,q2,q3,q4,q5,q6,q7⟩=>⟨?_,q1,q2.2,q3.2,q4,q5,q6.2,q7.2⟩;refine⟨e1▸k1,e2▸k2,e3▸k3,q1.ok,⟨q2.1,?_⟩,e5▸k6,e6▸k7,⟨q3.1,?_⟩,e8▸k9,q4.ok,⟨?_,?_,?_,?_,eF q6.1,?_,?_⟩,q5.ok,⟨?_,?_,q7.1⟩,e11▸k14⟩
 ·rw[e4]; exact k5.2
 ·rw[e7]; exact k8.2
 ·rw[e9.1]; exact k11.1
 ·rw[e9.2.1]; exact k11.2.1
 ·rw[e9.2.2.1]; exact k11.2.2.1
 ·rw[e9.2.2.2.1]; exact k11.2.2.2.1
 ·rw[e9.2.2.2.2.1]; exact k11.2.2.2.2.2.1
 ·rw[e9.2.2.2.2.2]; exact k11.2.2.2.2.2.2
 ·rw[e10.1]; exact k13.1
 rw[e10.2.1]; exact k13.2.1
theorem clone_any{w:World}{nd:aj}(h:nd.ok w)(hl:nd.lim) :
  Calls prog 63 #[nd.v] w fun e w'=>∃m:aj,e = .returned m.v∧m.cp w.heap.size w'∧m.strip=nd.strip∧Ext w w':=by
 skip;refine aze func63 ntmps63 fun S=>azd S fun u b2 E3 hb4 S=>azd S (fun u b5 E6 hb7 S=>?_);have y:=S.E.size;have z0:=(S.bx 0).1;have z1:=(S.bx 1).1;refine adr S 2 [] [.mem 1 3] fun S=>azo S (yQ (h.2.2.2.1.below S.E) hl.1) ?_;rintro e u ⟨t,rfl,ht,hs,E9⟩;refine⟨_,rfl,E9,fun S=>?_⟩;refine azf S 1 rfl (fun u C10 S=>?_);have JG:=aU.ch ht C10 (by omega);have y:=S.E.size;have z0:=(S.bx 0).1;have z1:=(S.bx 1).1;refine Sx.iZ S 7 [(9,fun v w1=>Cp 163 7 dM.cells u.heap.size v nd.clip w1),(12,fun v w1=>Cp 163 7 dM.cells u.heap.size v nd.path w1)] (fun r=>[.mem 1 27,.mem 1 33]) (fun x=>[x 9,x 12]) (fun x=>[(_,_,true,x 9,9),(_,_,true,x 12,12)]) [[],[]] (fun x=>[(9,x 9),(12,x 12),(13,.q b2 27)]) ⟨fun _ _ _ k h=>h.ext k,fun _ _ _ k h=>h.ext k,trivial⟩ (fun x=>⟨by intro u hC g F; exact(Ij (h.2.2.2.2.1.1.below (Ext.trans' S.E hC)) hl.2.1).mono fun e w2 h=>by obtain⟨v,rfl,hx,hb⟩:=h; exact⟨_,rfl,hx.mono hC.size,hb⟩,by intro u hC g F; exact(Ij (h.2.2.2.2.2.2.2.1.1.below (Ext.trans' S.E hC)) hl.2.2.1).mono fun e w2 h=>by obtain⟨v,rfl,hx,hb⟩:=h; exact⟨_,rfl,hx.mono hC.size,hb⟩,trivial⟩) (fun u x EM F S=>?_);obtain⟨F9,JC,-⟩:=F;obtain⟨a1,c1,e1⟩:=Cp.shape F9;rw[e1]at S F9;try rw[e1]
 obtain⟨a2,c2,e2⟩:=Cp.shape JC;rw[e2]at S JC;try rw[e2]
 refine azk S 1 rfl (fun u C14 S=>?_);have oN:=aU.ch (JG.ext EM) C14 (by omega);have EI:=aU.ch F9 C14 (by omega);have vO:=aU.ch JC C14 (by omega);refine azk S 1 rfl (fun u C18 S=>?_);have oO:=aU.ch oN C18 (by omega);have CW:=aU.ch EI C18 (by omega);have uM:=aU.ch vO C18 (by omega);have y:=S.E.size;have z0:=(S.bx 0).1;have z1:=(S.bx 1).1;refine Sx.iZ S 7 [(17,fun v w1=>∃l,qH u.heap.size v l w1∧l.map ak.strip=nd.fill.map ak.strip),(20,fun v w1=>∃l,qH u.heap.size v l w1∧l.map ak.strip=nd.stroke.map ak.strip)] (fun r=>[.mem 1 35,.mem 1 42]) (fun x=>[x 17,x 20]) (fun x=>[(_,_,true,x 17,17),(_,_,true,x 20,20)]) [[],[]] (fun x=>[(17,x 17),(20,x 20),(21,.q b2 35)]) ⟨fun _ _ _ k h=>by obtain⟨l,h,e⟩:=h; exact⟨l,h.ext k,e⟩,fun _ _ _ k h=>by obtain⟨l,h,e⟩:=h; exact⟨l,h.ext k,e⟩,trivial⟩ (fun x=>⟨by intro u hC g F; exact(Io (h.2.2.2.2.2.2.2.2.2.1.below (Ext.trans' S.E hC)) hl.2.2.2.1 hl.2.2.2.2.1).mono fun e w2 h=>by obtain⟨v,l,rfl,hx,hs,hb⟩:=h; exact⟨_,rfl,⟨l,xR hx hC.size,hs⟩,hb⟩,by intro u hC g F; exact(Io (h.2.2.2.2.2.2.2.2.2.2.2.1.below (Ext.trans' S.E hC)) hl.2.2.2.2.2.2.1 hl.2.2.2.2.2.2.2.1).mono fun e w2 h=>by obtain⟨v,l,rfl,hx,hs,hb⟩:=h; exact⟨_,rfl,⟨l,xR hx hC.size,hs⟩,hb⟩,trivial⟩) (fun u x E23 F S=>?_);obtain⟨QF,F20,-⟩:=F;obtain⟨l3,QF,s3⟩:=QF;obtain⟨a3,c3,e3⟩:=(aAj QF).1.1.shape;rw[e3]at S QF;try rw[e3]
 obtain⟨l4,F20,s4⟩:=F20;obtain⟨a4,c4,e4⟩:=(aAj F20).1.1.shape;rw[e4]at S F20;try rw[e4]
 refine azk S 1 rfl (fun u Ny S=>?_);have S:=S.fl;have CS:=aU.ch (oO.ext E23) Ny (by omega);have CU:=aU.ch (CW.ext E23) Ny (by omega);have yu:=aU.ch (uM.ext E23) Ny (by omega);have Di:=aU.ch QF Ny (by omega);have tK:=aU.ch F20 Ny (by omega);refine azk S 1 rfl (fun u JB S=>?_);have wB:=aU.ch CS JB (by omega);have A8:=aU.ch CU JB (by omega);have GL:=aU.ch yu JB (by omega);have Dj:=aU.ch Di JB (by omega);have BM:=aU.ch tK JB (by omega);have y:=S.E.size;have z0:=(S.bx 0).1;have z1:=(S.bx 1).1;refine Sx.iZ S 10 [(26,fun v w1=>Cp 3 1 (fun x=>[AA x]) u.heap.size v nd.style.dash w1),(30,fun v w1=>Cp 178 4 bC.cells u.heap.size v nd.img.l w1)] (fun r=>[.mem 1 40,.mem 1 45]) (fun x=>[x 26,x 30]) (fun x=>[(_,_,true,x 26,26),(_,_,true,x 30,30)]) [[],[]] (fun x=>[(26,x 26),(30,x 30),(32,.q b2 40)]) ⟨fun _ _ _ k h=>h.ext k,fun _ _ _ k h=>h.ext k,trivial⟩ (fun x=>⟨by intro u hC g F; exact(V8 ((fE (f:=AA) h.2.2.2.2.2.2.2.2.2.2.1.2.2.2.2.1).below (Ext.trans' S.E hC)) hl.2.2.2.2.2.1).mono fun e w2 h=>by obtain⟨v,rfl,hx,hb⟩:=h; exact⟨_,rfl,hx.mono hC.size,hb⟩,by intro u hC g F; exact(Ik (h.2.2.2.2.2.2.2.2.2.2.2.2.1.2.2.below (Ext.trans' S.E hC)) hl.2.2.2.2.2.2.2.2).mono fun e w2 h=>by obtain⟨v,rfl,hx,hb⟩:=h; exact⟨_,rfl,hx.mono hC.size,hb⟩,trivial⟩) (fun u x G8 F S=>?_);obtain⟨F26,F30,-⟩:=F;obtain⟨a5,c5,e5⟩:=Cp.shape F26;rw[e5]at S F26;try rw[e5]
 obtain⟨a6,c6,e6⟩:=Cp.shape F30;rw[e6]at S F30;try rw[e6]
 refine azk S 1 rfl (fun u C38 S=>?_);have CX:=aU.ch (wB.ext G8) C38 (by omega);have GX:=aU.ch (A8.ext G8) C38 (by omega);have zx:=aU.ch (GL.ext G8) C38 (by omega);have CV:=aU.ch (Dj.ext G8) C38 (by omega);have wC:=aU.ch (BM.ext G8) C38 (by omega);have Oq:=aU.ch F26 C38 (by omega);have qR:=aU.ch F30 C38 (by omega);refine azk S 1 rfl (fun u Uz S=>?_);have Rf:=aU.ch CX Uz (by omega);have aaI:=aU.ch GX Uz (by omega);have RJ:=aU.ch zx Uz (by omega);have VE:=aU.ch CV Uz (by omega);have GZ:=aU.ch wC Uz (by omega);have EK:=aU.ch Oq Uz (by omega);have EL:=aU.ch qR Uz (by omega);refine adr S 1 [] [.mem 1 0] fun S=>azf S 0 rfl (fun u C55 S=>?_);have S:=S.fl;have akk:=aU.ch Rf C55 (by omega);have RQ:=aU.ch aaI C55 (by omega);have Bq:=aU.ch RJ C55 (by omega);have NU:=aU.ch VE C55 (by omega);have Ot:=aU.ch GZ C55 (by omega);have BL:=aU.ch EK C55 (by omega);have Bv:=aU.ch EL C55 (by omega);refine azq S 0 rfl (v := .agg (Sx.L [.i nd.id,.i nd.kind,.i nd.depth]++t.cells++Sx.L [.slice a1 nd.clip.length c1,.i nd.aP,.u (nd.dQ.toNat:Int),.i nd.blend,.bool nd.isolated,.bool nd.dF,.slice a2 nd.path.length c2,.i nd.aT,.slice a3 l3.length c3,.i nd.style.width,.i nd.style.join,.i nd.style.cap,.i nd.style.eU,.slice a5 nd.style.dash.length c5,.i nd.style.phase,.slice a4 l4.length c4,.i nd.img.w,.i nd.img.h,.slice a6 nd.img.l.length c6,.i nd.cZ]).toArray) (fun S=>?_);exact⟨⟨nd.id,nd.kind,nd.depth,t,a1,c1,nd.clip,nd.aP,nd.dQ,nd.blend,nd.isolated,nd.dF,a2,c2,nd.path,nd.aT,a3,c3,l3,⟨nd.style.width,nd.style.join,nd.style.cap,nd.style.eU,a5,c5,nd.style.dash,nd.style.phase⟩,a4,c4,l4,⟨nd.img.w,nd.img.h,a6,c6,nd.img.l⟩,nd.cZ⟩,rfl,agO h rfl rfl rfl rfl rfl rfl rfl rfl rfl rfl rfl (adO akk (by omega)) (Cp.mono RQ (by omega)) (Cp.mono Bq (by omega)) (xR NU (by omega)) (xR Ot (by omega)) (Cp.mono BL (by omega)) (Cp.mono Bv (by omega)),by unfold aj.strip; rw[hs,s3,s4]; rfl,S.E⟩
theorem wR(n:aj):n.strip.key=n.key:=by
 unfold aj.key aj.strip;simp only[List.map_map];rfl
theorem Wj{a b:aj}(h:a.strip=b.strip):a.key=b.key:=by rw[←wR a,←wR b,h]
theorem zV{l m:List aj}(h:l.map aj.strip=m.map aj.strip):l.map aj.key=m.map aj.key:=by
 have e:∀l:List aj,l.map aj.key=(l.map aj.strip).map aj.key:=fun l=>by
  rw[List.map_map];exact List.map_congr_left fun n _=>(wR n).symm
 rw[e l,e m,h]
theorem Ip{l m:List ak}(h:l.map ak.strip=m.map ak.strip)(hf:∀p∈m,p.t.fit K):∀p∈l,p.t.fit K:=fun p hp=>by
 have hm:p.strip∈m.map ak.strip:=h▸az9.2 ⟨p,hp,rfl⟩;obtain⟨q,hq,e⟩:=az9.1 hm;have h1:q.strip.t.fit K:=hf q hq;rw[e]at h1;exact h1
theorem Iq{a b:aj}(h:a.strip=b.strip):a.t.strip=b.t.strip∧a.fill.map ak.strip=b.fill.map ak.strip∧a.stroke.map ak.strip=b.stroke.map ak.strip:=by
 unfold aj.strip at h;simp only[aj.mk.injEq]at h;exact⟨h.2.2.2.1,h.2.2.2.2.2.2.2.2.2.2.2.2.2.2.2.2.2.2.1,h.2.2.2.2.2.2.2.2.2.2.2.2.2.2.2.2.2.2.2.2.2.2.1⟩
def aj.RS(K:Nat)(n:aj):Prop:=n.t.fit K∧(∀p∈n.fill,p.t.fit K)∧(∀p∈n.stroke,p.t.fit K)∧1≤K∧K≤10000
theorem Lh{a b:aj}(h:a.RS K)(hs:b.strip=a.strip):b.RS K:=by
 obtain⟨h1,h2,h3⟩:=Iq hs;have hf:a.t.strip.fit K:=h.1;exact⟨by rw[←h1]at hf; exact hf,Ip h2 h.2.1,Ip h3 h.2.2.1,h.2.2.2⟩
theorem fits_all{l m:List aj}(hs:m.map aj.strip=l.map aj.strip)(h:∀n∈l,n.RS K):∀n∈m,n.RS K:=fun n hn=>by
 have hm:n.strip∈l.map aj.strip:=hs▸az9.2 ⟨n,hn,rfl⟩;obtain⟨q,hq,e⟩:=az9.1 hm;exact Lh (h q hq) e.symm
theorem tN{l m:List ak}(hs:m.map ak.strip=l.map ak.strip)(h:∀p∈l,p.lim):∀p∈m,p.lim:=fun p hp=>by
 have hm:p.strip∈l.map ak.strip:=hs▸az9.2 ⟨p,hp,rfl⟩;obtain⟨q,hq,e⟩:=az9.1 hm;have h1:q.strip.lim:=h q hq;rw[e]at h1;exact h1
theorem Lj{a b:aj}(h:a.lim)(hs:b.strip=a.strip):b.lim:=by
 obtain⟨h1,h2,h3⟩:=Iq hs;have l2:b.fill.length=a.fill.length:=by have:=azT List.length h2; simpa using this
 have l3:b.stroke.length=a.stroke.length:=by have:=azT List.length h3; simpa using this
 unfold aj.strip at hs;simp only[aj.mk.injEq,aS.strip,aS.mk.injEq,dB.strip,dB.mk.injEq]at hs;obtain⟨k1,k2,k3,k4,k5,k6,k7,k8,k9⟩:=h;have ht:a.t.strip.lim:=k1;rw[←h1]at ht;refine⟨ht,?_,?_,by omega,tN h2 k5,?_,by omega,tN h3 k8,?_⟩;all_goals simp only[hs]; first | exact k2 | exact k3 | exact k6 | exact k9
theorem zW{l m:List aj}(hs:m.map aj.strip=l.map aj.strip)(h:∀n∈l,n.lim):∀n∈m,n.lim:=fun n hn=>by
 have hm:n.strip∈l.map aj.strip:=hs▸az9.2 ⟨n,hn,rfl⟩;obtain⟨q,hq,e⟩:=az9.1 hm;exact Lj (h q hq) e.symm
abbrev aj.zX (K:Nat)(n:aj):Prop:=n.RS K∧n.lim
theorem Ir{a b:aj}(h:a.zX K)(hs:b.strip=a.strip):b.zX K:=⟨Lh h.1 hs,Lj h.2 hs⟩
theorem Ou:iI prog 63 38 (.agg bK.cells.toArray) 47 656:=⟨underlying63,info_parts (by kernel_rfl),rfl,by decide⟩
theorem Ef{w:World}{v:Value}{L:List aj}(h:aI 47 aj.cells w v L):dP w 47 v L.length (L.flatMap aj.cells):=Sx.nR h (fun _=>rfl) fun _=>rfl
theorem Ov{base b0:Nat}{n:aj}{w:World}(h:n.pO base w)(hb:b0≤base):n.pO b0 w:=⟨h.1,h.2.1.le hb,h.2.2.1.le hb,h.2.2.2.1.le hb,h.2.2.2.2.1.le hb,h.2.2.2.2.2.1.le hb,h.2.2.2.2.2.2.1.le hb,h.2.2.2.2.2.2.2.le hb⟩
def Dp(base:Nat)(v:Value)(l:List aj)(w:World):Prop:=Sx.nZ 38 47 aj.cells base v l w∧∀n∈l,n.pO base w
abbrev fU (base:Nat)(v:Value)(l:List aj)(w:World):Prop:=Sx.aU base (Dp base v l) w
structure aJ.own (base:Nat) (m:aJ) (w:World):Prop where
 row:w.ownsRow base 38 47 m.s m.ns.length (m.ns.flatMap aj.cells)
 nodes:Sx.On (fun i=>base≤i∧m.s.ownBlock≠some i) (fun W=>∀n∈m.ns,n.pO base W) w
theorem aJ.own.cp{base:Nat}{m:aJ}{w:World}(h:m.own base w):fU base m.s m.ns w:=aAd (Sx.jV (fun _=>rfl) h.row rfl rfl) (h.nodes.mono fun _ h=>h.1)
theorem fU.ok{base:Nat}{v:Value}{l:List aj}{w:World}(h:fU base v l w)(hf:∀n∈l,n.RS K):BK K w v l:=⟨(aAj h).1.1,fun n hn=>⟨((aAj h).2 n hn).1,hf n hn⟩⟩
theorem fU.le{base b0:Nat}{v:Value}{l:List aj}{w:World}(h:fU base v l w)(hb:b0≤base):fU b0 v l w:=aAF (Sx.aU.le h hb) fun _ h=>⟨h.1.le hb,fun n hn=>Ov (h.2 n hn) hb⟩
theorem Ox{P:aj→Prop}{M:List aj}{x:aj}(h:∀p∈M,P p)(hx:P x):∀p∈M++[x],P p:=fun p hp=>by
 rcases aAl.1 hp with hp | hp
 ·exact h p hp
 rw[aAb.1 hp]; exact hx
theorem RU{l M:List aj}{k:Nat}{x y:aj}(hk:k<l.length)(hx:l[k]=x)(h:M.map aj.strip=(l.take k).map aj.strip)(hy:y.strip=x.strip):(M++[y]).map aj.strip=(l.take (k+1)).map aj.strip:=by
 rw[aAJ hk,aAB,aAB,h,hx]; simp[hy]
theorem Wn{w:World}{a:Option Addr}{L:List aj}{c i:Nat}(h:aI 47 aj.cells w (.slice a L.length c) L)(hi:i≤L.length):aI 47 aj.cells w (.slice (Sx.uo a 0 i 47) i i) (L.take i):=Sx.KY h hi (az3 hi (Sx.kN h))
theorem adX{w:World}{a:Option Addr}{L:List aj}{c i:Nat}(h:aI 47 aj.cells w (.slice a L.length c) L)(hi:i≤L.length):dP w 47 (.slice (Sx.uo a 0 i 47) i i) i ((L.take i).flatMap aj.cells):=by
 have:=Ef (Wn h hi);rwa [aBa,aBk hi]at this
theorem adY{w:World}{a:Option Addr}{L:List aj}{c i:Nat}(h:aI 47 aj.cells w (.slice a L.length c) L)(hi:i≤L.length):dP w 47 (.slice (Sx.uo a i c 47) (L.length-i) (c-i)) (L.length-i) ((L.drop i).flatMap aj.cells):=by
 have:=Ef (Sx.aau h hi (Sx.kN h));rwa [aBF]at this
theorem aaJ{w u:World}{os:List Oper}{i:Nat}{o:Oper}{ρ:Operand→Value}(ho:os[i]?=some o){a:Option Addr}{L:List aj}{cap f t:Nat}(hs:ρ (.tmp 13) = .slice (Sx.uo a 0 f 47) f f)(hx:ρ (.tmp 16) = .slice (Sx.uo a t cap 47) (L.length-t) (cap-t))
  (hl:aI 47 aj.cells w (.slice a L.length cap) L) (hft:f<t) (ht:t≤L.length) (hn:L.length≤100000) (hE:Ext w u) {Post:Value→World→Prop} (hK:∀v w',Ext u w'→(∀base B,base≤w.heap.size→Sx.On B (Sx.nZ 38 47 aj.cells base (.slice a L.length cap) L) w→Sx.On (fun i=>B i∨w.heap.size≤i) (Sx.nZ 38 47 aj.cells base v (L.take f++L.drop t)) w')→Post v w') (hop:Sx.Q5 os i=some (.tmp 13,.tmp 16,63,true):=by kernel_rfl) :
  Rel.Does prog o ρ u Post:=by
 have hlc:=Sx.kN hl;rcases aAx t L.length with h | h
 ·have hlen:(L.take f++L.drop t).length=f+(L.length-t):=by simp; omega
  refine Sx.H8 ho Ou hs hx (adX (hl.below hE) (by omega)) (adY (hl.below hE) ht) (by omega) (by show f+(L.length-t)≤9223372036854775807; omega) (by omega) (fun v' w' h hE2=>hK v' w' hE2 fun base B hb hd=>?_) hop;rw[←aBm]at h;exact aAF (aBL (Sx.jV (f:=aj.cells) (fun _=>rfl) h hlen.symm rfl) fun i hi => .inr (az3 hE.size hi)) fun _ h=>h.le (az3 hb hE.size)
 have e1:L.length-t=0:=by omega
 rw[e1]at hx;refine Sx.aav ho Ou (azJ f) hs hx (hK _ _ Ext.rfl' fun base B hb hd=>?_) hop;rw[aA4 h,aAL,Sx.adq];exact aAF (aBL (az1 hd hE) fun _ h => .inl h) fun _ h=>Sx.Vy h (by omega) (azJ f) (by omega)
theorem RV{w:World}{a:Option Addr}{cap:Nat}{L:List aj}(hl:aI 47 aj.cells w (.slice a L.length cap) L){f t:Nat}(hft:f<t)(ht:t≤L.length)(hn:L.length≤100000){z:Int}(hz:z=(f:Int)) :
  Calls prog 147 #[.slice a L.length cap,.i z,.i t] w fun e w'=>∃v1,e = .returned (.tuple #[v1,.slice (Sx.uo a f t 47) (t-f) (t-f)])∧(∀base B,base≤w.heap.size→Sx.On B (Sx.nZ 38 47 aj.cells base (.slice a L.length cap) L) w→Sx.On (fun i=>B i∨w.heap.size≤i) (Sx.nZ 38 47 aj.cells base v1 (L.take f++L.drop t)) w')∧Ext w w':=by
 subst hz;have hlc:=Sx.kN hl;refine aze func147 ntmps147 fun S=>adr S 7 [] [.slc 0 f f cap] (hk:=⟨⟨azQ _,azJ _,by omega⟩,trivial⟩) fun S=>Sx.zd2 S Tryz.f147 2 (fun S iz=>?_);refine Sx.Eh S 11 [(17,fun v w1=>∀base B,base≤w.heap.size→Sx.On B (Sx.nZ 38 47 aj.cells base (.slice a L.length cap) L) w→Sx.On (fun i=>B i∨w.heap.size≤i) (Sx.nZ 38 47 aj.cells base v (L.take f++L.drop t)) w1),(6,fun v w1=>∀base B,base≤w.heap.size→Sx.On B (Sx.nZ 38 47 aj.cells base (.slice a L.length cap) L) w→Sx.On (fun i=>B i∨w.heap.size≤i) (Sx.nZ 38 47 aj.cells base v (L.take f++L.drop t)) w1)] (fun r=>[.slc t L.length cap cap,.hand 17 [(13,.slice (Sx.uo a 0 f 47) f f),(16,.slice (Sx.uo a t cap 47) (L.length-t) (cap-t))],.slc f t t cap,.hand 6 []]) (fun x=>[x 17,x 6]) (fun x=>[]) [] (fun x=>[(6,x 6),(22,.slice (Sx.uo a f t 47) (t-f) (t-f))]) ⟨fun _ _ _ k h base B hb hd=>az1 (h base B hb hd) k,fun _ _ _ k h base B hb hd=>az1 (h base B hb hd) k,trivial⟩ (fun x=>trivial) (fun ac u x E4 F S=>?_) (hk:=fun r=>⟨⟨ht,hlc,azJ _⟩,trivial,⟨by omega,azJ _,by omega⟩,trivial,trivial⟩) (hl:=[(4,[]),(10,[17])]) (hH:=fun x r=>⟨fun o ho ρ u hs hE hρ hV F=>by exact aaJ ho (hV (13,_) azV) (hV (16,_) (aAT _ azV)) hl hft ht hn (Ext.trans' S.E hE) (fun v' w' hE2 h=>Sx.oh ho rfl rfl hE2 h),fun o ho ρ u hs hE hρ hV F=>by obtain⟨QF,-⟩:=F; exact Sx.kX ho hs [(17,x 17)] (azM (hρ 17 (by decide) rfl)) (x 17) (Sx.oh ho rfl rfl Ext.rfl' QF),trivial⟩);refine Sx.Z8 S (fun S=>?_);obtain⟨QF,F6,-⟩:=F;refine Sx.QJ S (x 6) (.slice (Sx.uo a f t 47) (t-f) (t-f)) (fun S=>?_);exact⟨_,rfl,F6,S.E⟩
theorem adZ{w0 w:World}{bl:List (Nat×List Value)}(R:Sx.Rw w0 w bl []):Sx.Rw w0 w bl [⟨38,47,.sn,0,[]⟩]:=
 ⟨fun r hr=>by obtain rfl:=aAb.1 hr; exact⟨rfl,.inl ⟨rfl,rfl⟩⟩,R.lt,R.apart⟩
theorem _root_.Go.Sx.On.fresh{B:Nat→Prop}{F:World→Prop}{w w':World}{b:Nat}(h:Sx.On B F w)(hE:Ext w w')(hb:w.heap.size≤b):Sx.On (fun i=>B i∧i≠b) F w':=fun w2 hs hk =>
 h w2 (az3 hE.size hs) fun k hk1 hk2=>(hk k (aAa hk1 hE.size) ⟨hk2,by omega⟩).trans (hE.block k hk1)
theorem _root_.Go.Sx.akl{w0 w:World}{b:Nat}{A:List Value}{bl:List (Nat×List Value)}{rs:List Sx.Row}{F:World→Prop}{B0:Nat}(R:Sx.Rw w0 w ((b,A)::bl) rs)(h:Sx.On (fun i=>B0≤i∧i≠b) F w)(q1:∀k∈Sx.Ob bl rs,k<B0)(q0:w0.heap.size≤B0):Sx.Ow w0.heap.size (Sx.Ob ((b,A)::bl) rs) F w:=
 h.mono fun k hk=>⟨az3 q0 hk.1,fun hm=>(azS.1 hm).elim (fun e=>hk.2 e) fun hm=>by have:=q1 k hm; omega⟩
theorem rG{w:World}{s:aJ}(h:dJ K w s)(hlim:∀n∈s.ns,n.lim)(hn:s.ns.length≤100000) :
  Calls prog 35 #[s.v] w fun e w'=>∃m:aJ,e = .returned m.v∧m.own w.heap.size w'∧m.ns.map aj.strip=s.ns.map aj.strip∧m.w=s.w∧m.h=s.h∧m.bg=s.bg∧Ext w w':=by
 have hmax:s.ns.length≤9223372036854775807:=by omega
 refine aze func35 ntmps35 (fun S=>?_);obtain⟨a,cap,es⟩:∃a c,s.s = .slice a s.ns.length c:=⟨_,_,rfl⟩;have hr:=h.2.2.1;rw[es]at hr;refine azh S s.cells fun u b2 E3 hb4 S=>azh S [.i 0,.i 0,.u 0,.u 0,.u 0,.u 0,.sn] fun u b5 E6 hb7 S=>adr S 1 [] [.mem 1 0] fun S=>azh S [.i 0,.i 0,.u 0,.u 0,.u 0,.u 0,.sn] fun u b9 Uw acR S=>azm S 0 (off:=0) (cs:=s.cells) rfl fun u C12 S=>Sx.RX S 0 (off:=6) (v := .sn) rfl (fun u C14 S=>?_);have R:=aAo S;have R:=adZ R;refine adr S 4 [] [.mem 2 6,.re 9 s.s (.slice a s.ns.length cap)] (hk:=⟨es,trivial⟩) fun S=>azw S (ι:=Nat×Value×List aj) (fun p a' w'=>p.1≤s.ns.length∧(p.2.2.map aj.strip=(s.ns.take p.1).map aj.strip)∧Sx.Rw w w' [(b9,(Sx.L [.i s.w,.i s.h]++s.bg.cells++Sx.L [p.2.1])),(b5,[.i 0,.i 0,.u 0,.u 0,.u 0,.u 0,.sn]),(b2,s.cells)] [⟨38,47,p.2.1,p.1,p.2.2.flatMap aj.cells⟩]∧Sx.Ow w.heap.size (Sx.Ob [(b9,(Sx.L [.i s.w,.i s.h]++s.bg.cells++Sx.L [p.2.1])),(b5,[.i 0,.i 0,.u 0,.u 0,.u 0,.u 0,.sn]),(b2,s.cells)] [⟨38,47,p.2.1,p.1,p.2.2.flatMap aj.cells⟩]) (fun W=>∀z∈p.2.2,z.pO w.heap.size W) w'∧Sx.St w a' w' 24 [(0,s.v),(1,.q b2 0),(2,.q b5 0),(3,.q b9 0),(9,.slice a s.ns.length cap),(10,.i s.ns.length),(11,.i p.1)] [(b9,(Sx.L [.i s.w,.i s.h]++s.bg.cells++Sx.L [p.2.1])),(b5,[.i 0,.i 0,.u 0,.u 0,.u 0,.u 0,.sn]),(b2,s.cells)] []) (fun p=>s.ns.length-p.1) (0,.sn,[]) (fun S=>⟨azQ _,rfl,R,(fun _ _ _ z hz=>by cases hz),S.sn⟩) ?_;rintro⟨k,v,M⟩ ac u gW eH hI;try dsimp only at hI
 obtain⟨hk,hR,R,J8,S⟩:=hI;refine azx S fun S=>azb S (decide ((k:Int)<(s.ns.length:Int))) (fun hc19 S=>?_) (fun hc19 S=>?_)
 ·have lH:k<s.ns.length:=by have:=azZ hc19; omega
  obtain⟨b22,o23,rfl,x28,qE,JK,NY⟩:=aAe hr (fun _=>rfl) (k) lH;have S:=S.view0 JK NY;refine adr S 2 [] [.idx k s.ns.length,.mem 3 0] (hk:=⟨lH,trivial⟩) fun S=>azh S (Sx.L [.i 0,.i 0,.i 0]++Sx.za++Sx.L [.sn,.i 0,.u 0,.i 0,.z,.z,.sn,.i 0,.sn,.i 0,.i 0,.i 0,.i 0,.sn,.i 0,.sn,.i 0,.i 0,.sn,.i 0]) fun u b30 CB Z9 S=>azm S 0 (off:=0) (cs:=x28.cells) rfl (fun u Nz S=>?_);have hold:=fun p hp=>(S.own p hp).1.1;obtain⟨R,Y34⟩:=R.bP S (az2 (aAM CB Z9) (Sx.Stp.Oc Nz));have q35:=S.E.size;have q36:=R.lt;refine Sx.zd2 S Tryz.f35 6 (fun S iz=>?_);refine Sx.Eh S 5 [(18,fun v w1=>∃m:aj,v=m.v∧m.cp u.heap.size w1∧m.strip=x28.strip),(19,fun v w1=>∃m b,v = .slice (some ⟨b,0,none⟩) 1 1∧u.heap.size≤b∧Bx w1 b (aj.cells m).toArray∧Sx.On (fun i=>u.heap.size≤i∧i≠b) (fun W=>m.pO u.heap.size W) w1∧m.strip=x28.strip)] (fun r=>[.mem 1 6,.mem 0 0,.hand 19 []]) (fun x=>[x 18,x 19]) (fun x=>[(_,_,true,x 18,18)]) [[]] (fun x=>[(16,v),(19,x 19)]) ⟨fun _ _ _ k h=>by obtain⟨m,e,h,q⟩:=h; exact⟨m,e,h.ext k,q⟩,fun v w w' k h=>by obtain⟨m,b,e,h1,h2,h3,q⟩:=h; exact⟨m,b,e,h1,h2.ext k,h3.ext k,q⟩,trivial⟩ (fun x=>⟨by intro u hC g F; exact(clone_any ((h.2.2.2 _ (qE▸aAc lH)).1.below (Ext.trans' S.E hC)) (hlim _ (qE▸aAc lH))).mono fun e w2 h=>by obtain⟨m,rfl,hx,hs,hb⟩:=h; exact⟨_,rfl,⟨m,rfl,Oo hx hC.size,hs⟩,hb⟩,trivial⟩) (fun ac u x G8 F S=>?_) (hk:=fun r=>⟨trivial,trivial⟩) (hl:=[(4,[18])]) (hH:=fun x r=>⟨fun o ho ρ u hs hE hρ hV F=>by obtain⟨F18,-⟩:=F; obtain⟨m,e,h,q⟩:=F18; exact Sx.Bo ho hs [(18,m.v)] (azM ((hρ 18 (by decide) rfl).trans e)) m.cells (some 1) (fun v w' hn hE2=>Sx.oh ho rfl rfl hE2 (by obtain⟨b,e2,h2,h3⟩:=hn; exact⟨m,b,e2,az3 hE.size h2,h3,Sx.On.fresh h hE2 h2,q⟩)),trivial⟩);refine Sx.Z8 S (fun S=>?_);obtain⟨F18,F19,-⟩:=F;clear F18;obtain⟨m,b38,am2,acZ,X39,hm,hms⟩:=F19;rw[am2]at S;try rw[am2]
  have S:=S.nS;have S:=S.adopt (A:=m.cells) X39 (az3 q35 acZ) (fun p hp=>by have:=hold p hp; omega) (fun m hm=>by cases hm);obtain⟨R,Y41⟩:=R.bP S ((az7 G8).akm acZ);have G42:=aAF (Sx.akl R hm q36 q35) fun _ h=>Ov h q35;have hM:M.length=k:=by have:=azT List.length hR; simp at this; omega
  refine azl S fun S=>Sx.app S R 0 20 rfl Ou (Sx.qJ (m:=1) (k:=47) (A:=m.cells) (S.bx 0)) (by show k+1≤9223372036854775807; omega) (by show(k+1)*656≤140737488355328; omega) fun ac u v43 X44 R S=>azr S (fun S=>?_);obtain⟨a8,c8,e8⟩:=Sx.oz (R.own _ azV);replace e8:v43 = .slice a8 (k+1) c8:=e8;subst e8;refine Sx.RX S 2 (off:=6) (v := .slice a8 (k+1) c8) rfl (fun u C45 S=>?_);have S:=S.fl;refine adr S 2 [] [.re 22 (.i (IntKind.i64.wrap ((k:Int)+1))) (.i (k+1:Nat))] (fun S=>?_) (hk:=⟨azt (by omega),trivial⟩);have S:=S.iH 2;obtain⟨R,Y46⟩:=R.bP S (az2 (Sx.Stp.Oc C45) (aAE 2));refine azy S gW (fun S=>?_);exact eH _ _ ((k+1),.slice a8 (k+1) c8,M++[m]) ⟨by omega,(RU lH qE hR hms),R.as (azT (fun xs=>[(⟨38,47,.slice a8 (k+1) c8,k+1,xs⟩:Sx.Row)]) (show M.flatMap aj.cells++m.cells=(M++[m]).flatMap aj.cells by simp)),aAF (aAd (aA2 J8 (az2 Y34 (az2 Y41 (az2 X44 Y46)))) (aA2 G42 (az2 X44 Y46))) fun _ h=>Ox h.1 h.2,S.sn⟩ (by show _-_<_-_; omega)
 have hk:=az4 hc19;obtain rfl:k=s.ns.length:=by omega
 rw[aAA]at hR;have hM:M.length=s.ns.length:=by have:=azT List.length hR; simpa using this
 have hF:=J8;rw[←hM]at R;obtain⟨a1,c1,e1⟩:=Sx.oz (R.own _ azV);replace e1:v = .slice a1 M.length c1:=e1;subst e1;refine adr S 1 [] [.mem 0 0] fun S=>azm S 1 (off:=0) (cs:=(Sx.L [.i s.w,.i s.h]++s.bg.cells++Sx.L [.slice a1 M.length c1])) rfl (fun u C48 S=>?_);obtain⟨R,Y49⟩:=R.bP S (Sx.Stp.Oc C48);have hF:=(aA2 J8 Y49);have ho:=R.own _ azV;refine azq S 1 rfl (v := .agg (aJ.cells ⟨s.w,s.h,s.bg,a1,c1,M⟩).toArray) (fun S=>?_);exact⟨⟨s.w,s.h,s.bg,a1,c1,M⟩,rfl,⟨ho,hF.mono fun i hi=>⟨hi.1,fun e=>hi.2 (Sx.jq azV e)⟩⟩,hR,rfl,rfl,rfl,S.E⟩
abbrev OwnB (base:Nat)(w:World)(v:Value)(l:List UInt8):Prop:=w.ownsRow base 5 1 v l.length (l.map gu)
theorem Oy(l:List UInt8):l.flatMap (fun n:UInt8=>[gu n])=l.map gu:=by induction l<;>simp_all
theorem rowB{base:Nat}{w:World}{v:Value}{l:List UInt8}(h:OwnB base w v l):aI 1 (fun n:UInt8=>[gu n]) w v l:=aAj (Sx.kQ (f:=fun n:UInt8=>[gu n]) (L:=l) (fun _=>rfl) h rfl (Oy l).symm)
theorem jE{base:Nat}{w:World}{v:Value}{l:List UInt8}(h:OwnB base w v l):dP w 1 v l.length (l.map gu):=by
 have:=Sx.nR (rowB h) (fun _=>rfl) (fun _=>rfl);rwa [Oy]at this
theorem uT{base:Nat}{w:World}{v:Value}{l:List UInt8}(h:OwnB base w v l):bJ w v l:=eF (rowB h)
theorem wrap_u64{n:Nat}(h:n<18446744073709551616):Value.int .u64 (IntKind.u64.wrap (n:Int)) = .int .u64 (n:Int):=by
 congr 1;rw[aAX];omega
end
end Go.Proofs.YtodpgjjgaddkeaaGreatDoor
