/- Copies of nodes in new memory: package node's paints and -/
import Derived.Test.YtodpgjjgaddkeaaGreatDoorPk21
import Derived.Test.YtodpgjjgaddkeaaGreatDoorPk16
set_option maxHeartbeats 3200000
set_option maxRecDepth 100000
set_option linter.unusedVariables false
set_option linter.unusedSimpArgs false
namespace Go.Proofs.YtodpgjjgaddkeaaGreatDoor
open _root_.Go.Proofs.Tryz
section
open Go.RowKit Go.Sx
variable{α:Type}{K:Nat}
variable{w w1:World}{base i k c o n b0 cap:Nat}{v:Value}{a a1 a2:Option Addr}{l:List UInt8}{f:α->List Value}{M q:List α}{cs:List Value}{t:bH}
theorem agR{x:α}(hM:M.length=i)(hf:∀x,(f x).length=k):(((M++x::q).flatMap f).drop (0+i*k)).take (f x).length=f x:=by
 rw[aBx,List.drop_append,kW hf,hM,aA7 (by rw[kW hf,hM]; omega),show 0+i*k-i*k=0 by omega,aAR,aCl,aA0,List.take_left]
theorem Iz{B:List Value}(hM:M.length=i)(hf:∀x,(f x).length=k)(ho:o+cs.length<=B.length):Sx.spl (M.flatMap f++(B++q.flatMap f)) (0+i*k+o) cs=M.flatMap f++(Sx.spl B o cs++q.flatMap f):=by
 have hl:(M.flatMap f).length=i*k:=by rw[kW hf,hM]
 unfold Sx.spl;rw[List.take_append,List.drop_append,hl,aAv Z,aA7 Z,aAR,show 0+i*k+o-i*k=o by omega,show 0+i*k+o+cs.length-i*k=o+cs.length by omega,List.take_append_of_le_length Z,List.drop_append_of_le_length ho];simp only[aAb]
theorem FT{A:List Value}(h:o+cs.length<=A.length):(Sx.spl A o cs).length=A.length:=by unfold Sx.spl; simp; omega
def ak.re(x:ak)(a1:Option Addr)(c1:Nat)(a2:Option Addr)(c2:Nat)(t:bH):ak:=⟨x.kind,x.color,x.p0,x.p1,x.bT,a1,c1,x.stops,x.spread,⟨x.img.w,x.img.h,a2,c2,x.img.l⟩,x.cO,t⟩
theorem ad2{B:Nat->Prop}{x:ak}{c1 c2:Nat}(hx:x.ok w1)(h1:Sx.On B (nY 202 5 dK.cells base (.slice a1 x.stops.length c1) x.stops) w)(h2:Sx.On B (nY 178 4 bD.cells base (.slice a2 x.img.l.length c2) x.img.l) w)(h3:Sx.On B (λw=>t.pU base w) w):Sx.On B (λw=>(x.re a1 c1 a2 c2 t).pU base w) w:=
 aAD (aAm h1 (aAm h2 h3)) λ_ h=>⟨⟨hx.1,hx.2.1,hx.2.2.1,hx.2.2.2.1,h.1.1,hx.2.2.2.2.2.1,hx.2.2.2.2.2.2.1,⟨hx.2.2.2.2.2.2.2.1.1,hx.2.2.2.2.2.2.2.1.2.1,h.2.1.1⟩,hx.2.2.2.2.2.2.2.2.1,h.2.2.ok⟩,h.1.2,h.2.1.2,h.2.2⟩
theorem ad3{x:ak}{c1 c2:Nat}:Sx.spl (Sx.spl (Sx.spl x.cells 10 [.slice a1 x.stops.length c1]) 14 [.slice a2 x.img.l.length c2]) 16 t.cells=(x.re a1 c1 a2 c2 t).cells:=rfl
def ak.lim(p:ak):Prop:=p.stops.length<=10000000∧p.img.l.length<=10000000∧p.t.lim
theorem ad4{P:ak->Prop}{M:List ak}{x:ak}(h:∀p∈M,P p)(hx:P x):∀p∈M++[x],P p:=λp hp=>by
 rcases aAu.1 hp with hp | hp
 .exact h p hp
 rw[aAn.1 hp]; exact hx
theorem WI{l M:List ak}{x y:ak}(hk:k<l.length)(hx:l[k]=x)(h:M.map ak.strip=(l.take k).map ak.strip)(hy:y.strip=x.strip):(M++[y]).map ak.strip=(l.take (k+1)).map ak.strip:=by
 rw[aAU hk,aAL,aAL,h,hx]; simp[hy]
theorem OC{L:List ak}(h:aJ 40 ak.cells w v L):dQ w 40 v L.length (L.flatMap ak.cells):=nR h (λ_=>I) λ_=>rfl
theorem OD{L:List ak}(h:aJ 40 ak.cells w v L)(hl:L.length<=10000000) :
  Calls prog 150 #[v] w λe w'=>∃v',e = .returned v'∧w'.ownsRow w.heap.size 133 40 v' L.length (L.flatMap ak.cells)∧Ext w w':=by
 obtain⟨a,c,rfl⟩:=h.shape;cases a with
 | none =>
  obtain rfl:L=[]:=qg h;obtain rfl:=kF h;refine azp func150 ntmps150 λS=>azy S λS=>apB S (.sn) (λS=>?_);exact⟨_,I,⟨by simp,.inl ⟨I,I⟩⟩,S.E⟩
 | some p =>
  refine azp func150 ntmps150 λS=>azE S (λS=>?_);have R:=aAy S;refine azw S λS=>Sx.newRow S R 5 0 133 40 [] λac u v5 E6 X7 R S=>azF S λS=>azw S λS=>Sx.app S R 0 7 I YI (OC (h.below S.E)) (by show 0+L.length<=9223372036854775807; omega) (by show(0+L.length)*_<=140737488355328; omega) λac u v8 X9 R S=>azF S λS=>apB S v8 (λS=>?_);have ho:=R.own _ az5;refine⟨_,I,?_,S.E⟩;simpa using ho
theorem SC{B:Nat}{e:TypeId}{xs:List Value}(h:w.ownsRow B e k (.slice a n c) n xs)(hn:0<n):∃g,a=some ⟨g,0,none⟩:=by
 obtain⟨h1,⟨e,h0⟩ | ⟨g,cap,cur,e,_⟩⟩:=h
 .omega
 simp only[aAq]at e; exact⟨g,e.1⟩
theorem IB{l:List ak}(h:iV w v l)(hl:l.length<=10000000)(hl2:∀p∈l,p.lim) :
  Calls prog 102 #[v] w λe w'=>∃v' l',e = .returned v'∧qH w.heap.size v' l' w'∧l'.map ak.strip=l.map ak.strip∧Ext w w':=by
 obtain⟨a,cap,rfl⟩:=h.1.shape;refine azp func102 ntmps102 (λS=>?_);have R:=aAy S;have q0:=S.E.size;refine azz S (OD (h.1.below S.E) hl) ?_;rintro e u ⟨v,rfl,ho,E1⟩;refine⟨_,I,E1,λS=>?_⟩;have R:=(R.ext E1).add (r:=⟨133,40,v,l.length,l.flatMap ak.cells⟩) ho R.lt q0;obtain⟨a1,c1,rfl⟩:=Sx.lq ho;refine azI S (ι:=Nat×List ak) (λp a' w'=>p.1<=l.length∧(p.2.map ak.strip=(l.take p.1).map ak.strip)∧Rw w w' [] [⟨133,40,.slice a1 l.length c1,l.length,(p.2++l.drop p.1).flatMap ak.cells⟩]∧Sx.Ow w.heap.size (Ob [] [⟨133,40,.slice a1 l.length c1,l.length,(p.2++l.drop p.1).flatMap ak.cells⟩]) (λW=>∀z∈p.2,z.pU w.heap.size W) w'∧Sx.St w a' w' 44 [(0,.slice a l.length cap),(2,.sn),(3,.slice a1 l.length c1),(9,.i l.length),(10,.i p.1)] [] []) (λp=>l.length-p.1) (0,[]) (λS=>⟨azZ _,I,R,(λ_ _ _ z hz=>by cases hz),S.sn⟩) ?_;rintro⟨k,M⟩ ac u gQ eu hI;try dsimp only at hI
 obtain⟨hk,hR,R,KE,S⟩:=hI;refine azJ S λS=>azm S (decide ((k:Int)<(l.length:Int))) (λnJ S=>?_) (λnJ S=>?_)
 .have hk:k<l.length:=by have:=az9 nJ; omega
  obtain⟨y,hx⟩:∃y,l[k]=y:=⟨_,I⟩;have hd:l.drop k=y::l.drop (k+1):=by rw[<-hx]; exact aAZ hk
  have hM:M.length=k:=by have:=az0 List.length hR; simp at this; omega
  obtain⟨g,rfl⟩:=SC (R.own _ az5) (by show 0<l.length; omega);have hxo:=h.2 y (hx▸aAl hk);have hxl:=hl2 y (hx▸aAl hk);obtain⟨hr,hg,hn⟩:=R.range az5 I (0+k*40) (cs:=y.cells) (by show(List.drop _ ((M++l.drop k).flatMap ak.cells)).take _=_; rw[hd]; exact agR hM (λ_=>I));have S:=S.view hg hr hn;have q1:=S.E.size;have q2:=R.lt;refine adr S 6 [] [.idx k l.length] (hk:=⟨hk,G⟩) λS=>Sx.zd S λS id=>Sx.hoist [1,2] 19<|qJ S 19 [(23,λv w1=>Cp 202 5 dK.cells u.heap.size v y.stops w1),(29,λv w1=>Cp 178 4 bD.cells u.heap.size v y.img.l w1),(34,λv w1=>∃t:bH,v=t.v∧t.cp u.heap.size w1∧t.strip=y.t.strip)] (λr=>[.mem 0 10,.mem 0 14,.mem 0 16]) (λx=>[x 23,x 29,x 34]) (λx=>[(_,_,true,x 23,23),(_,_,true,x 29,29),(_,_,true,x 34,34)]) [[],[],[]] (λx=>[(16,.pointer (some ⟨g,0+k*40,none⟩)),(17,.pointer (some ⟨g,0+k*40,none⟩)),(18,.pointer (some ⟨g,0+k*40,none⟩)),(23,x 23),(29,x 29),(34,x 34)]) ⟨λ_ _ _ k h=>h.ext k,λ_ _ _ k h=>h.ext k,λ_ _ _ k h=>by obtain⟨t,e,h,q⟩:=h; exact⟨t,e,h.ext k,q⟩,G⟩ (λx=>⟨by intro u hC g F; exact(Sz (hxo.2.2.2.2.1.below (K00 S.E hC)) hxl.1).mono λe w2 h=>by obtain⟨v,rfl,hx,hb⟩:=h; exact⟨_,I,hx.mono hC.size,hb⟩,by intro u hC g F; exact(Iy (hxo.2.2.2.2.2.2.2.1.2.2.below (K00 S.E hC)) hxl.2.1).mono λe w2 h=>by obtain⟨v,rfl,hx,hb⟩:=h; exact⟨_,I,hx.mono hC.size,hb⟩,by intro u hC g F; exact(zx (hxo.2.2.2.2.2.2.2.2.2.below (K00 S.E hC)) hxl.2.2).mono λe w2 h=>by obtain⟨t,rfl,hx,ht,hb⟩:=h; exact⟨_,I,⟨t,I,adX hx hC.size,ht⟩,hb⟩,G⟩) λac u x Bc F S=>zdb S (λS=>?_);obtain⟨F23,F29,F34,-⟩:=F;obtain⟨b1,d1,e1⟩:=Cp.shape F23;rw[e1]at S F23;try rw[e1]
  obtain⟨b2,d2,e2⟩:=Cp.shape F29;rw[e2]at S F29;try rw[e2]
  obtain⟨t,e3,F34,ht⟩:=F34;rw[e3]at S;try rw[e3]
  obtain⟨R,Y12⟩:=R.bQ S (aAg Bc);have G0:Sx.Ow _ _ (λW=>(y.re b1 d1 b2 d2 t).pU w.heap.size W) _:=aAD (Sx.aY.ow (ad2 hxo F23 F29 F34) q1 q2) λ_ h=>h.le q1;have hlen:((M++l.drop k).flatMap ak.cells).length=l.length*40:=by rw[kW (f:=ak.cells) (k:=40) (λ_=>I)]; simp; omega
  have axO:k*40+40<=l.length*40:=Z
  refine azw S λS=>LJ S R 0 (off:=0+k*40+10) (v := .slice b1 y.stops.length d1) I I (by show 0+k*40+10+1<=_; rw[hlen]; omega) λu X13 R S=>zo0 S λS=>azw S λS=>LJ S R 0 (off:=0+k*40+14) (v := .slice b2 y.img.l.length d2) I I (by show 0+k*40+14+1<=_; rw[FT (by show 0+k*40+10+1<=_; rw[hlen]; omega),hlen]; omega) λu JM R S=>zo0 S λS=>azw S λS=>ad5 S R 0 (off:=0+k*40+16) (cs:=t.cells) I I (by show 0+k*40+16+24<=_; rw[FT (by show 0+k*40+14+1<=_; rw[FT (by show 0+k*40+10+1<=_; rw[hlen]; omega),hlen]; omega),FT (by show 0+k*40+10+1<=_; rw[hlen]; omega),hlen]; omega) λu X15 R S=>zo0 S λS=>adr S 2 [] [.re 42 (.i (IntKind.i64.wrap ((k:Int)+1))) (.i (k+1:Nat))] (hk:=⟨azA Z,G⟩) λS=>azG S gQ (λS=>?_);have hxs:Sx.spl (Sx.spl (Sx.spl ((M++l.drop k).flatMap ak.cells) (0+k*40+10) [.slice b1 y.stops.length d1]) (0+k*40+14) [.slice b2 y.img.l.length d2]) (0+k*40+16) t.cells=((M++[y.re b1 d1 b2 d2 t])++l.drop (k+1)).flatMap ak.cells:=by
   rw[show(M++[y.re b1 d1 b2 d2 t])++l.drop (k+1)=M++(y.re b1 d1 b2 d2 t::l.drop (k+1)) by simp,hd,aBx,aBx,aA0,aA0,Iz (k:=40) (f:=ak.cells) hM (λ_=>I) (az9 X),Iz (k:=40) (f:=ak.cells) hM (λ_=>I) (az9 X),Iz (k:=40) (f:=ak.cells) hM (λ_=>I) (az9 X),ad3]
  exact eu _ _ ((k+1),M++[y.re b1 d1 b2 d2 t]) ⟨Z,(WI hk hx hR (by show(y.re b1 d1 b2 d2 t).strip=y.strip; unfold ak.strip ak.re; rw[ht]; rfl)),R.as (az0 (λxs=>[(⟨133,40,.slice (some ⟨g,0,none⟩) l.length c1,l.length,xs⟩:Sx.Row)]) hxs),aAD (aAm (aBf KE (aAc Y12 (aAc X13 (aAc JM X15)))) (aBf G0 (aAc X13 (aAc JM X15)))) λ_ h=>ad4 h.1 h.2,S.sn⟩ (by show _-_<_-_; omega)
 refine apB S (.slice a1 l.length c1) (λS=>?_);have hk:=aAd nJ;obtain rfl:k=l.length:=by omega
 exact⟨_,M,I,aAm (kC (λ_=>I) (R.own _ az5) (by have:=az0 List.length hR; simp at this; exact this.symm) Y) (Sx.Ow.dep KE),by simpa using hR,S.E⟩
def aj.lim(n:aj):Prop:=n.t.lim∧n.clip.length<=10000000∧n.path.length<=10000000∧n.fill.length<=10000000∧(∀p∈n.fill,p.lim)∧n.style.dash.length<=10000000∧n.stroke.length<=10000000∧(∀p∈n.stroke,p.lim)∧n.img.l.length<=10000000
abbrev aj.cp (base:Nat)(n:aj)(w:World):Prop:=Sx.aY base (λW=>n.pU base W) w
theorem FV{n:aj}(h:n.cp base w)(hb:b0<=base):n.cp b0 w:=aAD (Sx.aY.le h hb) λ_ h=>⟨h.1,h.2.1.le hb,h.2.2.1.le hb,h.2.2.2.1.le hb,h.2.2.2.2.1.le hb,h.2.2.2.2.2.1.le hb,h.2.2.2.2.2.2.1.le hb,h.2.2.2.2.2.2.2.le hb⟩
theorem agS{n m:aj}(h:n.ok w1)(e1:m.id=n.id)(e2:m.kind=n.kind)(e3:m.depth=n.depth)(e4:m.clip=n.clip)(e5:m.aS=n.aS)(e6:m.blend=n.blend)(e7:m.path=n.path)(e8:m.aW=n.aW)(e9:m.style.key=n.style.key)(e10:m.img.key=n.img.key)(e11:m.cO=n.cO)
  (h1:m.t.cp base w) (h2:Cp 163 7 dN.cells base m.cs m.clip w) (h3:Cp 163 7 dN.cells base m.ps m.path w) (h4:qH base m.fs m.fill w) (h5:qH base m.ss m.stroke w) (h6:Cp 3 1 (λx=>[Bh x]) base m.style.s m.style.dash w) (h7:Cp 178 4 bD.cells base m.img.s m.img.l w):m.cp base w:=by
 obtain⟨k1,k2,k3,k4,k5,k6,k7,k8,k9,k10,k11,k12,k13,k14⟩:=h;simp only[aV.key,kJ.mk.injEq]at e9;simp only[dF.key,nZ.mk.injEq]at e10;refine aAD (aAm h1 (aAm h2 (aAm h3 (aAm h4 (aAm h5 (aAm h6 h7)))))) λW ⟨q1,q2,q3,q4,q5,q6,q7⟩=>⟨?_,q1,q2.2,q3.2,q4,q5,q6.2,q7.2⟩;refine⟨e1▸k1,e2▸k2,e3▸k3,q1.ok,⟨q2.1,?_⟩,e5▸k6,e6▸k7,⟨q3.1,?_⟩,e8▸k9,q4.ok,⟨?_,?_,?_,?_,eH q6.1,?_,?_⟩,q5.ok,⟨?_,?_,q7.1⟩,e11▸k14⟩
 .rw[e4]; exact k5.2
 .rw[e7]; exact k8.2
 .rw[e9.1]; exact k11.1
 .rw[e9.2.1]; exact k11.2.1
 .rw[e9.2.2.1]; exact k11.2.2.1
 .rw[e9.2.2.2.1]; exact k11.2.2.2.1
 .rw[e9.2.2.2.2.1]; exact k11.2.2.2.2.2.1
 .rw[e9.2.2.2.2.2]; exact k11.2.2.2.2.2.2
 .rw[e10.1]; exact k13.1
 rw[e10.2.1]; exact k13.2.1
theorem clone_any{nd:aj}(h:nd.ok w)(hl:nd.lim) :
  Calls prog 63 #[nd.v] w λe w'=>∃m:aj,e = .returned m.v∧m.cp w.heap.size w'∧m.strip=nd.strip∧Ext w w':=by
 skip;refine azp func63 ntmps63 λS=>azo S λu b2 E3 hb4 S=>azo S (λu b5 E6 hb7 S=>?_);have y:=S.E.size;have z0:=(S.bx 0).1;have z1:=(S.bx 1).1;refine adr S 2 [] [.mem 1 3] λS=>azz S (zx (h.2.2.2.1.below S.E) hl.1) ?_;rintro e u ⟨t,rfl,ht,hs,E9⟩;refine⟨_,I,E9,λS=>?_⟩;refine azq S 1 I (λu C10 S=>?_);have JX:=aY.ch ht C10 Z;have y:=S.E.size;have z0:=(S.bx 0).1;have z1:=(S.bx 1).1;refine jd S 7 [(9,λv w1=>Cp 163 7 dN.cells u.heap.size v nd.clip w1),(12,λv w1=>Cp 163 7 dN.cells u.heap.size v nd.path w1)] (λr=>[.mem 1 27,.mem 1 33]) (λx=>[x 9,x 12]) (λx=>[(_,_,true,x 9,9),(_,_,true,x 12,12)]) [[],[]] (λx=>[(9,x 9),(12,x 12),(13,.q b2 27)]) ⟨λ_ _ _ k h=>h.ext k,λ_ _ _ k h=>h.ext k,G⟩ (λx=>⟨by intro u hC g F; exact(Iw (h.2.2.2.2.1.1.below (K00 S.E hC)) hl.2.1).mono λe w2 h=>by obtain⟨v,rfl,hx,hb⟩:=h; exact⟨_,I,hx.mono hC.size,hb⟩,by intro u hC g F; exact(Iw (h.2.2.2.2.2.2.2.1.1.below (K00 S.E hC)) hl.2.2.1).mono λe w2 h=>by obtain⟨v,rfl,hx,hb⟩:=h; exact⟨_,I,hx.mono hC.size,hb⟩,G⟩) (λu x Dj F S=>?_);obtain⟨F9,FI,-⟩:=F;obtain⟨a1,c1,e1⟩:=Cp.shape F9;rw[e1]at S F9;try rw[e1]
 obtain⟨a2,c2,e2⟩:=Cp.shape FI;rw[e2]at S FI;try rw[e2]
 refine azv S 1 I (λu C14 S=>?_);have oN:=aY.ch (JX.ext Dj) C14 Z;have ES:=aY.ch F9 C14 Z;have vS:=aY.ch FI C14 Z;refine azv S 1 I (λu C18 S=>?_);have nN:=aY.ch oN C18 Z;have Ac:=aY.ch ES C18 Z;have rZ:=aY.ch vS C18 Z;have y:=S.E.size;have z0:=(S.bx 0).1;have z1:=(S.bx 1).1;refine jd S 7 [(17,λv w1=>∃l,qH u.heap.size v l w1∧l.map ak.strip=nd.fill.map ak.strip),(20,λv w1=>∃l,qH u.heap.size v l w1∧l.map ak.strip=nd.stroke.map ak.strip)] (λr=>[.mem 1 35,.mem 1 42]) (λx=>[x 17,x 20]) (λx=>[(_,_,true,x 17,17),(_,_,true,x 20,20)]) [[],[]] (λx=>[(17,x 17),(20,x 20),(21,.q b2 35)]) ⟨λ_ _ _ k h=>by obtain⟨l,h,e⟩:=h; exact⟨l,h.ext k,e⟩,λ_ _ _ k h=>by obtain⟨l,h,e⟩:=h; exact⟨l,h.ext k,e⟩,G⟩ (λx=>⟨by intro u hC g F; exact(IB (h.2.2.2.2.2.2.2.2.2.1.below (K00 S.E hC)) hl.2.2.2.1 hl.2.2.2.2.1).mono λe w2 h=>by obtain⟨v,l,rfl,hx,hs,hb⟩:=h; exact⟨_,I,⟨l,yx hx hC.size,hs⟩,hb⟩,by intro u hC g F; exact(IB (h.2.2.2.2.2.2.2.2.2.2.2.1.below (K00 S.E hC)) hl.2.2.2.2.2.2.1 hl.2.2.2.2.2.2.2.1).mono λe w2 h=>by obtain⟨v,l,rfl,hx,hs,hb⟩:=h; exact⟨_,I,⟨l,yx hx hC.size,hs⟩,hb⟩,G⟩) (λu x E23 F S=>?_);obtain⟨QZ,F20,-⟩:=F;obtain⟨l3,QZ,s3⟩:=QZ;obtain⟨a3,c3,e3⟩:=(aAj QZ).1.1.shape;rw[e3]at S QZ;try rw[e3]
 obtain⟨l4,F20,s4⟩:=F20;obtain⟨a4,c4,e4⟩:=(aAj F20).1.1.shape;rw[e4]at S F20;try rw[e4]
 refine azv S 1 I (λu NY S=>?_);have S:=S.fl;have BJ:=aY.ch (nN.ext E23) NY Z;have ER:=aY.ch (Ac.ext E23) NY Z;have yK:=aY.ch (rZ.ext E23) NY Z;have Dz:=aY.ch QZ NY Z;have qR:=aY.ch F20 NY Z;refine azv S 1 I (λu JO S=>?_);have uM:=aY.ch BJ JO Z;have wG:=aY.ch ER JO Z;have Dq:=aY.ch yK JO Z;have yR:=aY.ch Dz JO Z;have CB:=aY.ch qR JO Z;have y:=S.E.size;have z0:=(S.bx 0).1;have z1:=(S.bx 1).1;refine jd S 10 [(26,λv w1=>Cp 3 1 (λx=>[Bh x]) u.heap.size v nd.style.dash w1),(30,λv w1=>Cp 178 4 bD.cells u.heap.size v nd.img.l w1)] (λr=>[.mem 1 40,.mem 1 45]) (λx=>[x 26,x 30]) (λx=>[(_,_,true,x 26,26),(_,_,true,x 30,30)]) [[],[]] (λx=>[(26,x 26),(30,x 30),(32,.q b2 40)]) ⟨λ_ _ _ k h=>h.ext k,λ_ _ _ k h=>h.ext k,G⟩ (λx=>⟨by intro u hC g F; exact(WC ((fH (f:=Bh) h.2.2.2.2.2.2.2.2.2.2.1.2.2.2.2.1).below (K00 S.E hC)) hl.2.2.2.2.2.1).mono λe w2 h=>by obtain⟨v,rfl,hx,hb⟩:=h; exact⟨_,I,hx.mono hC.size,hb⟩,by intro u hC g F; exact(Iy (h.2.2.2.2.2.2.2.2.2.2.2.2.1.2.2.below (K00 S.E hC)) hl.2.2.2.2.2.2.2.2).mono λe w2 h=>by obtain⟨v,rfl,hx,hb⟩:=h; exact⟨_,I,hx.mono hC.size,hb⟩,G⟩) (λu x EX F S=>?_);obtain⟨F26,F30,-⟩:=F;obtain⟨a5,c5,e5⟩:=Cp.shape F26;rw[e5]at S F26;try rw[e5]
 obtain⟨a6,c6,e6⟩:=Cp.shape F30;rw[e6]at S F30;try rw[e6]
 refine azv S 1 I (λu C38 S=>?_);have Ad:=aY.ch (uM.ext EX) C38 Z;have Dt:=aY.ch (wG.ext EX) C38 Z;have wI:=aY.ch (Dq.ext EX) C38 Z;have Aa:=aY.ch (yR.ext EX) C38 Z;have wJ:=aY.ch (CB.ext EX) C38 Z;have OE:=aY.ch F26 C38 Z;have qU:=aY.ch F30 C38 Z;refine azv S 1 I (λu UY S=>?_);have Kt:=aY.ch Ad UY Z;have SE:=aY.ch Dt UY Z;have SA:=aY.ch wI UY Z;have VY:=aY.ch Aa UY Z;have Hr:=aY.ch wJ UY Z;have BK:=aY.ch OE UY Z;have BL:=aY.ch qU UY Z;refine adr S 1 [] [.mem 1 0] λS=>azq S 0 I (λu C55 S=>?_);have S:=S.fl;have aks:=aY.ch Kt C55 Z;have SG:=aY.ch SE C55 Z;have BR:=aY.ch SA C55 Z;have Ik:=aY.ch VY C55 Z;have IC:=aY.ch Hr C55 Z;have Cm:=aY.ch BK C55 Z;have BU:=aY.ch BL C55 Z;refine azC S 0 I (v := .agg (Sx.L [.i nd.id,.i nd.kind,.i nd.depth]++t.cells++Sx.L [.slice a1 nd.clip.length c1,.i nd.aS,.u (nd.dR.toNat:Int),.i nd.blend,.bool nd.isolated,.bool nd.dH,.slice a2 nd.path.length c2,.i nd.aW,.slice a3 l3.length c3,.i nd.style.width,.i nd.style.join,.i nd.style.cap,.i nd.style.fB,.slice a5 nd.style.dash.length c5,.i nd.style.phase,.slice a4 l4.length c4,.i nd.img.w,.i nd.img.h,.slice a6 nd.img.l.length c6,.i nd.cO]).toArray) (λS=>?_);exact⟨⟨nd.id,nd.kind,nd.depth,t,a1,c1,nd.clip,nd.aS,nd.dR,nd.blend,nd.isolated,nd.dH,a2,c2,nd.path,nd.aW,a3,c3,l3,⟨nd.style.width,nd.style.join,nd.style.cap,nd.style.fB,a5,c5,nd.style.dash,nd.style.phase⟩,a4,c4,l4,⟨nd.img.w,nd.img.h,a6,c6,nd.img.l⟩,nd.cO⟩,I,agS h I I I I I I I I I I I (adX aks Z) (Cp.mono SG Z) (Cp.mono BR Z) (yx Ik Z) (yx IC Z) (Cp.mono Cm Z) (Cp.mono BU Z),by unfold aj.strip; rw[hs,s3,s4]; rfl,S.E⟩
theorem xg(n:aj):n.strip.key=n.key:=by
 unfold aj.key aj.strip;simp only[List.map_map];rfl
theorem IE{a b:aj}(h:a.strip=b.strip):a.key=b.key:=by rw[<-xg a,<-xg b,h]
theorem Au{l m:List aj}(h:l.map aj.strip=m.map aj.strip):l.map aj.key=m.map aj.key:=by
 have e:∀l:List aj,l.map aj.key=(l.map aj.strip).map aj.key:=λl=>by
  rw[List.map_map];exact List.map_congr_left λn _=>(xg n).symm
 rw[e l,e m,h]
theorem IG{l m:List ak}(h:l.map ak.strip=m.map ak.strip)(hf:∀p∈m,p.t.fit K):∀p∈l,p.t.fit K:=λp hp=>by
 have hm:p.strip∈m.map ak.strip:=h▸aAi.2 ⟨p,hp,I⟩;obtain⟨q,hq,e⟩:=aAi.1 hm;have h1:q.strip.t.fit K:=hf q hq;rw[e]at h1;exact h1
theorem II{a b:aj}(h:a.strip=b.strip):a.t.strip=b.t.strip∧a.fill.map ak.strip=b.fill.map ak.strip∧a.stroke.map ak.strip=b.stroke.map ak.strip:=by
 unfold aj.strip at h;simp only[aj.mk.injEq]at h;exact⟨h.2.2.2.1,h.2.2.2.2.2.2.2.2.2.2.2.2.2.2.2.2.2.2.1,h.2.2.2.2.2.2.2.2.2.2.2.2.2.2.2.2.2.2.2.2.2.2.1⟩
def aj.SH(K:Nat)(n:aj):Prop:=n.t.fit K∧(∀p∈n.fill,p.t.fit K)∧(∀p∈n.stroke,p.t.fit K)∧1<=K∧K<=10000
theorem LK{a b:aj}(h:a.SH K)(hs:b.strip=a.strip):b.SH K:=by
 obtain⟨h1,h2,h3⟩:=II hs;have hf:a.t.strip.fit K:=h.1;exact⟨by rw[<-h1]at hf; exact hf,IG h2 h.2.1,IG h3 h.2.2.1,h.2.2.2⟩
theorem fits_all{l m:List aj}(hs:m.map aj.strip=l.map aj.strip)(h:∀n∈l,n.SH K):∀n∈m,n.SH K:=λn hn=>by
 have hm:n.strip∈l.map aj.strip:=hs▸aAi.2 ⟨n,hn,I⟩;obtain⟨q,hq,e⟩:=aAi.1 hm;exact LK (h q hq) e.symm
theorem tJ{l m:List ak}(hs:m.map ak.strip=l.map ak.strip)(h:∀p∈l,p.lim):∀p∈m,p.lim:=λp hp=>by
 have hm:p.strip∈l.map ak.strip:=hs▸aAi.2 ⟨p,hp,I⟩;obtain⟨q,hq,e⟩:=aAi.1 hm;have h1:q.strip.lim:=h q hq;rw[e]at h1;exact h1
theorem LM{a b:aj}(h:a.lim)(hs:b.strip=a.strip):b.lim:=by
 obtain⟨h1,h2,h3⟩:=II hs;have l2:b.fill.length=a.fill.length:=by have:=az0 List.length h2; simpa using this
 have l3:b.stroke.length=a.stroke.length:=by have:=az0 List.length h3; simpa using this
 unfold aj.strip at hs;simp only[aj.mk.injEq,aV.strip,aV.mk.injEq,dF.strip,dF.mk.injEq]at hs;obtain⟨k1,k2,k3,k4,k5,k6,k7,k8,k9⟩:=h;have ht:a.t.strip.lim:=k1;rw[<-h1]at ht;refine⟨ht,?_,?_,Z,tJ h2 k5,?_,Z,tJ h3 k8,?_⟩;all_goals simp only[hs]; first | exact k2 | exact k3 | exact k6 | exact k9
theorem Aw{l m:List aj}(hs:m.map aj.strip=l.map aj.strip)(h:∀n∈l,n.lim):∀n∈m,n.lim:=λn hn=>by
 have hm:n.strip∈l.map aj.strip:=hs▸aAi.2 ⟨n,hn,I⟩;obtain⟨q,hq,e⟩:=aAi.1 hm;exact LM (h q hq) e.symm
abbrev aj.vT (K:Nat)(n:aj):Prop:=n.SH K∧n.lim
theorem uT{a b:aj}(h:a.vT K)(hs:b.strip=a.strip):b.vT K:=⟨LK h.1 hs,LM h.2 hs⟩
theorem OG:iK prog 63 38 (.agg bM.cells.toArray) 47 656:=⟨underlying63,info_parts X,I,by decide⟩
theorem Ew{L:List aj}(h:aJ 47 aj.cells w v L):dQ w 47 v L.length (L.flatMap aj.cells):=nR h (λ_=>I) λ_=>rfl
theorem OH{n:aj}(h:n.pU base w)(hb:b0<=base):n.pU b0 w:=⟨h.1,h.2.1.le hb,h.2.2.1.le hb,h.2.2.2.1.le hb,h.2.2.2.2.1.le hb,h.2.2.2.2.2.1.le hb,h.2.2.2.2.2.2.1.le hb,h.2.2.2.2.2.2.2.le hb⟩
def DJ(base:Nat)(v:Value)(l:List aj)(w:World):Prop:=nY 38 47 aj.cells base v l w∧∀n∈l,n.pU base w
abbrev fA (base:Nat)(v:Value)(l:List aj)(w:World):Prop:=Sx.aY base (DJ base v l) w
structure aH.own (base:Nat) (m:aH) (w:World):Prop where
 row:w.ownsRow base 38 47 m.s m.ns.length (m.ns.flatMap aj.cells)
 nodes:Sx.On (λi=>base<=i∧m.s.ownBlock≠some i) (λW=>∀n∈m.ns,n.pU base W) w
theorem aH.own.cp{base:Nat}{m:aH}{w:World}(h:m.own base w):fA base m.s m.ns w:=aAm (kC (λ_=>I) h.row I I) (h.nodes.mono λ_ h=>h.1)
theorem fA.ok{base:Nat}{v:Value}{l:List aj}{w:World}(h:fA base v l w)(hf:∀n∈l,n.SH K):Cj K w v l:=⟨(aAj h).1.1,λn hn=>⟨((aAj h).2 n hn).1,hf n hn⟩⟩
theorem fA.le{base b0:Nat}{v:Value}{l:List aj}{w:World}(h:fA base v l w)(hb:b0<=base):fA b0 v l w:=aAD (Sx.aY.le h hb) λ_ h=>⟨h.1.le hb,λn hn=>OH (h.2 n hn) hb⟩
theorem OI{P:aj->Prop}{M:List aj}{x:aj}(h:∀p∈M,P p)(hx:P x):∀p∈M++[x],P p:=λp hp=>by
 rcases aAu.1 hp with hp | hp
 .exact h p hp
 rw[aAn.1 hp]; exact hx
theorem SI{l M:List aj}{x y:aj}(hk:k<l.length)(hx:l[k]=x)(h:M.map aj.strip=(l.take k).map aj.strip)(hy:y.strip=x.strip):(M++[y]).map aj.strip=(l.take (k+1)).map aj.strip:=by
 rw[aAU hk,aAL,aAL,h,hx]; simp[hy]
theorem WJ{L:List aj}(h:aJ 47 aj.cells w (.slice a L.length c) L)(hi:i<=L.length):aJ 47 aj.cells w (.slice (pJ a 0 i 47) i i) (L.take i):=Dy h hi (aAa hi (iH h))
theorem ad6{L:List aj}(h:aJ 47 aj.cells w (.slice a L.length c) L)(hi:i<=L.length):dQ w 47 (.slice (pJ a 0 i 47) i i) i ((L.take i).flatMap aj.cells):=by
 have:=Ew (WJ h hi);rwa [aAN,aBw hi]at this
theorem ad7{L:List aj}(h:aJ 47 aj.cells w (.slice a L.length c) L)(hi:i<=L.length):dQ w 47 (.slice (pJ a i c 47) (L.length-i) (c-i)) (L.length-i) ((L.drop i).flatMap aj.cells):=by
 have:=Ew (aaG h hi (iH h));rwa [aBT]at this
theorem aaS{u:World}{os:List Oper}{o:Oper}{ρ:Operand->Value}(ho:os[i]?=some o){L:List aj}{f t:Nat}(hs:ρ (.tmp 13) = .slice (pJ a 0 f 47) f f)(hx:ρ (.tmp 16) = .slice (pJ a t cap 47) (L.length-t) (cap-t))
  (hl:aJ 47 aj.cells w (.slice a L.length cap) L) (hft:f<t) (ht:t<=L.length) (hn:L.length<=100000) (hE:Ext w u) {Post:Value->World->Prop} (hK:∀v w',Ext u w'->(∀base B,base<=w.heap.size->Sx.On B (nY 38 47 aj.cells base (.slice a L.length cap) L) w->Sx.On (λi=>B i∨w.heap.size<=i) (nY 38 47 aj.cells base v (L.take f++L.drop t)) w')->Post v w') (hop:RG os i=some (.tmp 13,.tmp 16,63,true):=by kernel_rfl) :
  Rel.Does prog o ρ u Post:=by
 have hlc:=iH hl;rcases aAH t L.length with h | h
 .have hlen:(L.take f++L.drop t).length=f+(L.length-t):=by simp; omega
  refine wS ho OG hs hx (ad6 (hl.below hE) Z) (ad7 (hl.below hE) ht) Z (by show f+(L.length-t)<=9223372036854775807; omega) Z (λv' w' h hE2=>hK v' w' hE2 λbase B hb hd=>?_) hop;rw[<-aBx]at h;exact aAD (aBu (kC (f:=aj.cells) (λ_=>I) h hlen.symm I) λi hi => .inr (aAa hE.size hi)) λ_ h=>h.le (aAa hb hE.size)
 have e1:L.length-t=0:=Z
 rw[e1]at hx;refine aaH ho OG (azS f) hs hx (hK _ _ K01 λbase B hb hd=>?_) hop;rw[aA7 h,aAW,adG];exact aAD (aBu (az3 hd hE) λ_ h => .inl h) λ_ h=>VR h Z (azS f) Z
theorem SK{L:List aj}(hl:aJ 47 aj.cells w (.slice a L.length cap) L){f t:Nat}(hft:f<t)(ht:t<=L.length)(hn:L.length<=100000){z:Int}(hz:z=(f:Int)) :
  Calls prog 147 #[.slice a L.length cap,.i z,.i t] w λe w'=>∃v1,e = .returned (.tuple #[v1,.slice (pJ a f t 47) (t-f) (t-f)])∧(∀base B,base<=w.heap.size->Sx.On B (nY 38 47 aj.cells base (.slice a L.length cap) L) w->Sx.On (λi=>B i∨w.heap.size<=i) (nY 38 47 aj.cells base v1 (L.take f++L.drop t)) w')∧Ext w w':=by
 subst hz;have hlc:=iH hl;refine azp func147 ntmps147 λS=>adr S 7 [] [.slc 0 f f cap] (hk:=⟨⟨azZ _,azS _,Z⟩,G⟩) λS=>Yp S Tryz.f147 2 (λS iz=>?_);refine zB S 11 [(17,λv w1=>∀base B,base<=w.heap.size->Sx.On B (nY 38 47 aj.cells base (.slice a L.length cap) L) w->Sx.On (λi=>B i∨w.heap.size<=i) (nY 38 47 aj.cells base v (L.take f++L.drop t)) w1),(6,λv w1=>∀base B,base<=w.heap.size->Sx.On B (nY 38 47 aj.cells base (.slice a L.length cap) L) w->Sx.On (λi=>B i∨w.heap.size<=i) (nY 38 47 aj.cells base v (L.take f++L.drop t)) w1)] (λr=>[.slc t L.length cap cap,.hand 17 [(13,.slice (pJ a 0 f 47) f f),(16,.slice (pJ a t cap 47) (L.length-t) (cap-t))],.slc f t t cap,.hand 6 []]) (λx=>[x 17,x 6]) (λx=>[]) [] (λx=>[(6,x 6),(22,.slice (pJ a f t 47) (t-f) (t-f))]) ⟨λ_ _ _ k h base B hb hd=>az3 (h base B hb hd) k,λ_ _ _ k h base B hb hd=>az3 (h base B hb hd) k,G⟩ (λx=>G) (λac u x E4 F S=>?_) (hk:=λr=>⟨⟨ht,hlc,azS _⟩,G,⟨Z,azS _,Z⟩,G,G⟩) (hl:=[(4,[]),(10,[17])]) (hH:=λx r=>⟨λo ho ρ u hs hE hρ hV F=>by exact aaS ho (hV (13,_) az5) (hV (16,_) (aA4 _ az5)) hl hft ht hn (K00 S.E hE) (λv' w' hE2 h=>aAT ho I I hE2 h),λo ho ρ u hs hE hρ hV F=>by obtain⟨QZ,-⟩:=F; exact jA ho hs [(17,x 17)] (azV (hρ 17 O I)) (x 17) (aAT ho I I K01 QZ),G⟩);refine Rf S (λS=>?_);obtain⟨QZ,F6,-⟩:=F;refine Qo S (x 6) (.slice (pJ a f t 47) (t-f) (t-f)) (λS=>?_);exact⟨_,I,F6,S.E⟩
theorem ad8{w0:World}{bl:List (Nat×List Value)}(R:Rw w0 w bl []):Rw w0 w bl [⟨38,47,.sn,0,[]⟩]:=
 ⟨λr hr=>by obtain rfl:=aAn.1 hr; exact⟨I,.inl ⟨I,I⟩⟩,R.lt,R.apart⟩
theorem _root_.Go.Sx.On.fresh{B:Nat->Prop}{F:World->Prop}{w w':World}{b:Nat}(h:Sx.On B F w)(hE:Ext w w')(hb:w.heap.size<=b):Sx.On (λi=>B i∧i≠b) F w':=λw2 hs hk =>
 h w2 (aAa hE.size hs) λk hk1 hk2=>(hk k (aAk hk1 hE.size) ⟨hk2,Z⟩).trans (hE.block k hk1)
theorem _root_.Go.Sx.akt{w0 w:World}{b:Nat}{A:List Value}{bl:List (Nat×List Value)}{rs:List Sx.Row}{F:World->Prop}{B0:Nat}(R:Rw w0 w ((b,A)::bl) rs)(h:Sx.On (λi=>B0<=i∧i≠b) F w)(q1:∀k∈Ob bl rs,k<B0)(q0:w0.heap.size<=B0):Sx.Ow w0.heap.size (Ob ((b,A)::bl) rs) F w:=
 h.mono λk hk=>⟨aAa q0 hk.1,λhm=>(az2.1 hm).elim (λe=>hk.2 e) λhm=>by have:=q1 k hm; omega⟩
theorem rH{s:aH}(h:dL K w s)(hlim:∀n∈s.ns,n.lim)(hn:s.ns.length<=100000) :
  Calls prog 35 #[s.v] w λe w'=>∃m:aH,e = .returned m.v∧m.own w.heap.size w'∧m.ns.map aj.strip=s.ns.map aj.strip∧m.w=s.w∧m.h=s.h∧m.bg=s.bg∧Ext w w':=by
 have hmax:s.ns.length<=9223372036854775807:=Z
 refine azp func35 ntmps35 (λS=>?_);obtain⟨a,cap,es⟩:∃a c,s.s = .slice a s.ns.length c:=⟨_,_,I⟩;have hr:=h.2.2.1;rw[es]at hr;refine azs S s.cells λu b2 E3 hb4 S=>azs S [.i 0,.i 0,.u 0,.u 0,.u 0,.u 0,.sn] λu b5 E6 hb7 S=>adr S 1 [] [.mem 1 0] λS=>azs S [.i 0,.i 0,.u 0,.u 0,.u 0,.u 0,.sn] λu b9 Qj ac5 S=>azx S 0 (off:=0) (cs:=s.cells) I λu C12 S=>SL S 0 (off:=6) (v := .sn) I (λu C14 S=>?_);have R:=aAy S;have R:=ad8 R;refine adr S 4 [] [.mem 2 6,.re 9 s.s (.slice a s.ns.length cap)] (hk:=⟨es,G⟩) λS=>azI S (ι:=Nat×Value×List aj) (λp a' w'=>p.1<=s.ns.length∧(p.2.2.map aj.strip=(s.ns.take p.1).map aj.strip)∧Rw w w' [(b9,(Sx.L [.i s.w,.i s.h]++s.bg.cells++Sx.L [p.2.1])),(b5,[.i 0,.i 0,.u 0,.u 0,.u 0,.u 0,.sn]),(b2,s.cells)] [⟨38,47,p.2.1,p.1,p.2.2.flatMap aj.cells⟩]∧Sx.Ow w.heap.size (Ob [(b9,(Sx.L [.i s.w,.i s.h]++s.bg.cells++Sx.L [p.2.1])),(b5,[.i 0,.i 0,.u 0,.u 0,.u 0,.u 0,.sn]),(b2,s.cells)] [⟨38,47,p.2.1,p.1,p.2.2.flatMap aj.cells⟩]) (λW=>∀z∈p.2.2,z.pU w.heap.size W) w'∧Sx.St w a' w' 24 [(0,s.v),(1,.q b2 0),(2,.q b5 0),(3,.q b9 0),(9,.slice a s.ns.length cap),(10,.i s.ns.length),(11,.i p.1)] [(b9,(Sx.L [.i s.w,.i s.h]++s.bg.cells++Sx.L [p.2.1])),(b5,[.i 0,.i 0,.u 0,.u 0,.u 0,.u 0,.sn]),(b2,s.cells)] []) (λp=>s.ns.length-p.1) (0,.sn,[]) (λS=>⟨azZ _,I,R,(λ_ _ _ z hz=>by cases hz),S.sn⟩) ?_;rintro⟨k,v,M⟩ ac u gQ eu hI;try dsimp only at hI
 obtain⟨hk,hR,R,KE,S⟩:=hI;refine azJ S λS=>azm S (decide ((k:Int)<(s.ns.length:Int))) (λhc19 S=>?_) (λhc19 S=>?_)
 .have lM:k<s.ns.length:=by have:=az9 hc19; omega
  obtain⟨b22,o23,rfl,x28,qo,JQ,Nw⟩:=aAo hr (λ_=>I) (k) lM;have S:=S.view0 JQ Nw;refine adr S 2 [] [.idx k s.ns.length,.mem 3 0] (hk:=⟨lM,G⟩) λS=>azs S (Sx.L [.i 0,.i 0,.i 0]++Sx.za++Sx.L [.sn,.i 0,.u 0,.i 0,.z,.z,.sn,.i 0,.sn,.i 0,.i 0,.i 0,.i 0,.sn,.i 0,.sn,.i 0,.i 0,.sn,.i 0]) λu b30 Df aap S=>azx S 0 (off:=0) (cs:=x28.cells) I (λu NZ S=>?_);have hold:=λp hp=>(S.own p hp).1.1;obtain⟨R,Y34⟩:=R.bQ S (aAc (aAX Df aap) (Sx.Stp.Ov NZ));have q35:=S.E.size;have q36:=R.lt;refine Yp S Tryz.f35 6 (λS iz=>?_);refine zB S 5 [(18,λv w1=>∃m:aj,v=m.v∧m.cp u.heap.size w1∧m.strip=x28.strip),(19,λv w1=>∃m b,v = .slice (some ⟨b,0,none⟩) 1 1∧u.heap.size<=b∧Bx w1 b (aj.cells m).toArray∧Sx.On (λi=>u.heap.size<=i∧i≠b) (λW=>m.pU u.heap.size W) w1∧m.strip=x28.strip)] (λr=>[.mem 1 6,.mem 0 0,.hand 19 []]) (λx=>[x 18,x 19]) (λx=>[(_,_,true,x 18,18)]) [[]] (λx=>[(16,v),(19,x 19)]) ⟨λ_ _ _ k h=>by obtain⟨m,e,h,q⟩:=h; exact⟨m,e,h.ext k,q⟩,λv w w' k h=>by obtain⟨m,b,e,h1,h2,h3,q⟩:=h; exact⟨m,b,e,h1,h2.ext k,h3.ext k,q⟩,G⟩ (λx=>⟨by intro u hC g F; exact(clone_any ((h.2.2.2 _ (qo▸aAl lM)).1.below (K00 S.E hC)) (hlim _ (qo▸aAl lM))).mono λe w2 h=>by obtain⟨m,rfl,hx,hs,hb⟩:=h; exact⟨_,I,⟨m,I,FV hx hC.size,hs⟩,hb⟩,G⟩) (λac u x EX F S=>?_) (hk:=λr=>⟨G,G⟩) (hl:=[(4,[18])]) (hH:=λx r=>⟨λo ho ρ u hs hE hρ hV F=>by obtain⟨F18,-⟩:=F; obtain⟨m,e,h,q⟩:=F18; exact wQ ho hs [(18,m.v)] (azV ((hρ 18 O I).trans e)) m.cells (some 1) (λv w' hn hE2=>aAT ho I I hE2 (by obtain⟨b,e2,h2,h3⟩:=hn; exact⟨m,b,e2,aAa hE.size h2,h3,Sx.On.fresh h hE2 h2,q⟩)),G⟩);refine Rf S (λS=>?_);obtain⟨F18,F19,-⟩:=F;clear F18;obtain⟨m,b38,anf,adf,X39,hm,hms⟩:=F19;rw[anf]at S;try rw[anf]
  have S:=S.lZ;have S:=S.adopt (A:=m.cells) X39 (aAa q35 adf) (λp hp=>by have:=hold p hp; omega) (λm hm=>by cases hm);obtain⟨R,Y41⟩:=R.bQ S ((aAg EX).aku adf);have G42:=aAD (Sx.akt R hm q36 q35) λ_ h=>OH h q35;have hM:M.length=k:=by have:=az0 List.length hR; simp at this; omega
  refine azw S λS=>Sx.app S R 0 20 I OG (oD (m:=1) (k:=47) (A:=m.cells) (S.bx 0)) (by show k+1<=9223372036854775807; omega) (by show(k+1)*656<=140737488355328; omega) λac u v43 X44 R S=>azF S (λS=>?_);obtain⟨a8,c8,e8⟩:=Sx.lq (R.own _ az5);replace e8:v43 = .slice a8 (k+1) c8:=e8;subst e8;refine SL S 2 (off:=6) (v := .slice a8 (k+1) c8) I (λu C45 S=>?_);have S:=S.fl;refine adr S 2 [] [.re 22 (.i (IntKind.i64.wrap ((k:Int)+1))) (.i (k+1:Nat))] (λS=>?_) (hk:=⟨azA Z,G⟩);have S:=S.gW 2;obtain⟨R,Y46⟩:=R.bQ S (aAc (Sx.Stp.Ov C45) (aAO 2));refine azG S gQ (λS=>?_);exact eu _ _ ((k+1),.slice a8 (k+1) c8,M++[m]) ⟨Z,(SI lM qo hR hms),R.as (az0 (λxs=>[(⟨38,47,.slice a8 (k+1) c8,k+1,xs⟩:Sx.Row)]) (show M.flatMap aj.cells++m.cells=(M++[m]).flatMap aj.cells by simp)),aAD (aAm (aBf KE (aAc Y34 (aAc Y41 (aAc X44 Y46)))) (aBf G42 (aAc X44 Y46))) λ_ h=>OI h.1 h.2,S.sn⟩ (by show _-_<_-_; omega)
 have hk:=aAd hc19;obtain rfl:k=s.ns.length:=by omega
 rw[aAJ]at hR;have hM:M.length=s.ns.length:=by have:=az0 List.length hR; simpa using this
 have hF:=KE;rw[<-hM]at R;obtain⟨a1,c1,e1⟩:=Sx.lq (R.own _ az5);replace e1:v = .slice a1 M.length c1:=e1;subst e1;refine adr S 1 [] [.mem 0 0] λS=>azx S 1 (off:=0) (cs:=(Sx.L [.i s.w,.i s.h]++s.bg.cells++Sx.L [.slice a1 M.length c1])) I (λu C48 S=>?_);obtain⟨R,Y49⟩:=R.bQ S (Sx.Stp.Ov C48);have hF:=(aBf KE Y49);have ho:=R.own _ az5;refine azC S 1 I (v := .agg (aH.cells ⟨s.w,s.h,s.bg,a1,c1,M⟩).toArray) (λS=>?_);exact⟨⟨s.w,s.h,s.bg,a1,c1,M⟩,I,⟨ho,hF.mono λi hi=>⟨hi.1,λe=>hi.2 (jr az5 e)⟩⟩,hR,I,I,I,S.E⟩
abbrev OwnB (base:Nat)(w:World)(v:Value)(l:List UInt8):Prop:=w.ownsRow base 5 1 v l.length (l.map fZ)
theorem OJ(l:List UInt8):l.flatMap (λn:UInt8=>[fZ n])=l.map fZ:=by induction l<;>simp_all
theorem rowB(h:OwnB base w v l):aJ 1 (λn:UInt8=>[fZ n]) w v l:=aAj (kX (f:=λn:UInt8=>[fZ n]) (L:=l) (λ_=>I) h I (OJ l).symm)
theorem jH(h:OwnB base w v l):dQ w 1 v l.length (l.map fZ):=by
 have:=nR (rowB h) (λ_=>I) (λ_=>I);rwa [OJ]at this
theorem uU(h:OwnB base w v l):bK w v l:=eH (rowB h)
theorem wrap_u64(h:n<18446744073709551616):Value.int .u64 (IntKind.u64.wrap (n:Int)) = .int .u64 (n:Int):=by
 congr 1;rw[aBa];omega
