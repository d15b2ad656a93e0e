/- Copies of nodes in new memory -/
import Derived.Test.YtodpgjjgaddkeaaGreatDoorPk13
import Derived.Deep.RegionHeld3
import Derived.Laws.DeepNot64
import Derived.Lib.Zigzag
import Derived.Lib.SlBytesConst
import Derived.Laws.AppendOwn
set_option maxHeartbeats 9999999
open Go renaming World->VO,Value->aaT,Calls->abB,wpList->aiw,TypeId->aix,execOp->aGe,Addr->aGk
open Go.Proofs.Tryz
set_option maxRecDepth 100000
set_option linter.unusedVariables false
set_option linter.unusedSimpArgs false
namespace Go.Proofs.Vy
section
open Go.RowKit Go.Sx
variable{α:Type}{K:Nat}
variable{i base k c o b0 cap:Nat}{v:aaT}{f:α->List aaT}{M q:List α}{cs:List aaT}{w1:VO}{a1 a2:Option aGk}{t:bG}{z:Int}
abbrev aiU{x:α}(D:M.length=i)(J:∀x,(f x).length=k):(((M++x::q).flatMap f).drop (0+i*k)).take (f x).length=f x:=by
 rw[aED,List.drop_append,jF J,D,aEB (by rw[jF J,D]; omega),show 0+i*k-i*k=0 by omega,aD8,aEo,aEn,List.take_left]
abbrev Jt{B:List aaT}(D:M.length=i)(J:∀x,(f x).length=k)(S:o+cs.length<=B.length):Sx.spl (M.flatMap f++(B++q.flatMap f)) (0+i*k+o) cs=M.flatMap f++(Sx.spl B o cs++q.flatMap f):=by
 have hl:(M.flatMap f).length=i*k:=by rw[jF J,D]
 unfold Sx.spl;rw[List.take_append,List.drop_append,hl,aDG Z,aEB Z,aD8,show 0+i*k+o-i*k=o by omega,show 0+i*k+o+cs.length-i*k=o+cs.length by omega,List.take_append_of_le_length Z,List.drop_append_of_le_length S];simp only[aDz]
abbrev Hg{A:List aaT}(h:o+cs.length<=A.length):(Sx.spl A o cs).length=A.length:=by unfold Sx.spl; simp; omega
def ak.re(x:ak)(a1:Option aGk)(c1:Nat)(a2:Option aGk)(c2:Nat)(t:bG):ak:=⟨x.kind,x.color,x.p0,x.p1,x.bY,a1,c1,x.stops,x.spread,⟨x.img.w,x.img.h,a2,c2,x.img.l⟩,x.dD,t⟩
abbrev afs{B:Nat->Prop}{w:VO}{x:ak}{c1 c2:Nat}(D:x.ok w1)(J:Sx.On B (kR 202 5 dK.cells base (.s a1 x.stops.length c1) x.stops) w)(S:Sx.On B (kR 178 4 bJ.cells base (.s a2 x.img.l.length c2) x.img.l) w)(h3:Sx.On B (λw=>t.oZ base w) w):Sx.On B (λw=>(x.re a1 c1 a2 c2 t).oZ base w) w:=
 aDS (aDD J (aDD S h3)) λ_ h=>⟨⟨D.1,D.2.1,D.2.2.1,D.2.2.2.1,h.1.1,D.2.2.2.2.2.1,D.2.2.2.2.2.2.1,⟨D.2.2.2.2.2.2.2.1.1,D.2.2.2.2.2.2.2.1.2.1,h.2.1.1⟩,D.2.2.2.2.2.2.2.2.1,h.2.2.ok⟩,h.1.2,h.2.1.2,h.2.2⟩
abbrev aft{x:ak}{c1 c2:Nat}:Sx.spl (Sx.spl (Sx.spl x.cells 10 [.s a1 x.stops.length c1]) 14 [.s a2 x.img.l.length c2]) 16 t.cells=(x.re a1 c1 a2 c2 t).cells:=rfl
def ak.lim(p:ak):Prop:=p.stops.length<=10000000∧p.img.l.length<=10000000∧p.t.lim
abbrev afu{P:ak->Prop}{M:List ak}{x:ak}(h:∀p∈M,P p)(J:P x):∀p∈M++[x],P p:=λp D=>by
 rcases aDT.1 D with D | D
 .exact h p D
 rw[aDK.1 D]; exact J
abbrev X3{l M:List ak}{x y:ak}(hk:k<l.length)(D:l[k]=x)(h:M.map ak.strip=(l.take k).map ak.strip)(J:y.strip=x.strip):(M++[y]).map ak.strip=(l.take (k+1)).map ak.strip:=by
 rw[aEj hk,aEb,aEb,h,D]; simp[J]
abbrev Qn{w:VO}{L:List ak}(h:aI 40 ak.cells w v L):dR w 40 v L.length (L.flatMap ak.cells):=kS h (λ_=>I) λ_=>rfl
abbrev Qo{w:VO}{L:List ak}(h:aI 40 ak.cells w v L)(hl:L.length<=10000000) :
  abB prog 150 #[v] w λe w'=>∃D,e = .R D∧w'.ownsRow w.heap.size 133 40 D L.length (L.flatMap ak.cells)∧Ext w w':=by
 obtain⟨a,c,rfl⟩:=h.shape;cases a with
 | none =>
  obtain rfl:L=[]:=qN h;obtain rfl:=kV h;refine aCG func150 ntmps150 λS=>aCM S λS=>aCB S (.sn) (λS=>?_);exact⟨_,I,⟨by simp,.inl ⟨I,I⟩⟩,S.E⟩
 | some p =>
  refine aCG func150 ntmps150 λS=>aCT S (λS=>?_);have R:=aDV S;refine aCO S λS=>Sx.newRow S R 5 0 133 40 [] λD u J E6 X7 R S=>aCW S λS=>aCO S λS=>aDf S R 0 7 I Hf (Qn (h.below S.E)) (by show 0+L.length<=9223372036854775807; omega) (by show(0+L.length)*_<=140737488355328; omega) λD u J X9 R S=>aCW S λS=>aCB S J (λS=>?_);have D:=R.own _ aDq;refine⟨_,I,?_,S.E⟩;simpa using D
abbrev Ju{w:VO}{B:Nat}{e:aix}{n:Nat}{a:Option aGk}{xs:List aaT}(h:w.ownsRow B e k (.s a n c) n xs)(hn:0<n):∃g,a=some ⟨g,0,none⟩:=by
 obtain⟨J,⟨e,S⟩ | ⟨g,cap,D,e,_⟩⟩:=h
 .omega
 simp only[aDO]at e; exact⟨g,e.1⟩
abbrev Jv{w:VO}{l:List ak}(h:jl w v l)(hl:l.length<=10000000)(al:∀p∈l,p.lim) :
  abB prog 102 #[v] w λe w'=>∃D J,e = .R D∧qZ w.heap.size D J w'∧J.map ak.strip=l.map ak.strip∧Ext w w':=by
 obtain⟨a,cap,rfl⟩:=h.1.shape;refine aCG func102 ntmps102 (λS=>?_);have R:=aDV S;have q0:=S.E.size;refine aCR S (Qo (h.1.below S.E) hl) ?_;rintro e u ⟨v,rfl,D,J⟩;refine⟨_,I,J,λS=>?_⟩;have R:=(R.ext J).add (r:=⟨133,40,v,l.length,l.flatMap ak.cells⟩) D R.lt q0;obtain⟨a1,c1,rfl⟩:=Sx.jh D;refine aCZ S (ι:=Nat×List ak) (λp D w'=>p.1<=l.length∧(p.2.map ak.strip=(l.take p.1).map ak.strip)∧Rw w w' [] [⟨133,40,.s a1 l.length c1,l.length,(p.2++l.drop p.1).flatMap ak.cells⟩]∧Sx.Ow w.heap.size (Ob [] [⟨133,40,.s a1 l.length c1,l.length,(p.2++l.drop p.1).flatMap ak.cells⟩]) (λW=>∀z∈p.2,z.oZ w.heap.size W) w'∧Sx.St w D w' 44 [(0,.s a l.length cap),(2,.sn),(3,.s a1 l.length c1),(9,.i l.length),(10,.i p.1)] [] []) (λp=>l.length-p.1) (0,[]) (λS=>⟨aDl _,I,R,(λ_ _ _ z D=>by cases D),S.sn⟩) ?_;rintro⟨k,M⟩ ac u gJ dW hI;try dsimp only at hI
 obtain⟨hk,hR,R,MC,S⟩:=hI;refine aC0 S λS=>aCD S (decide ((k:Int)<(l.length:Int))) (λmJ S=>?_) (λmJ S=>?_)
 .have hk:k<l.length:=by have:=aDw mJ; omega
  obtain⟨y,J⟩:∃y,l[k]=y:=⟨_,I⟩;have hd:l.drop k=y::l.drop (k+1):=by rw[<-J]; exact aEu hk
  have hM:M.length=k:=by have:=aDc List.length hR; simp at this; omega
  obtain⟨g,rfl⟩:=Ju (R.own _ aDq) (by show 0<l.length; omega);have D:=h.2 y (J▸aDI hk);have aa:=al y (J▸aDI hk);obtain⟨hr,hg,hn⟩:=R.range aDq I (0+k*40) (cs:=y.cells) (by show(List.drop _ ((M++l.drop k).flatMap ak.cells)).take _=_; rw[hd]; exact aiU hM (λ_=>I));have S:=S.view hg hr hn;have q1:=S.E.size;have q2:=R.lt;refine adr S 6 [] [.idx k l.length] (hk:=⟨hk,G⟩) λS=>Sx.zd S λS id=>Sx.hoist [1,2] 19<|qm S 19 [(23,λv w1=>Cp 202 5 dK.cells u.heap.size v y.stops w1),(29,λv w1=>Cp 178 4 bJ.cells u.heap.size v y.img.l w1),(34,λv w1=>∃t:bG,v=t.v∧t.cp u.heap.size w1∧t.strip=y.t.strip)] (λr=>[.M 0 10,.M 0 14,.M 0 16]) (λx=>[x 23,x 29,x 34]) (λx=>[(_,_,true,x 23,23),(_,_,true,x 29,29),(_,_,true,x 34,34)]) [[],[],[]] (λx=>[(16,.pointer (some ⟨g,0+k*40,none⟩)),(17,.pointer (some ⟨g,0+k*40,none⟩)),(18,.pointer (some ⟨g,0+k*40,none⟩)),(23,x 23),(29,x 29),(34,x 34)]) ⟨λ_ _ _ k h=>h.ext k,λ_ _ _ k h=>h.ext k,λ_ _ _ k h=>by obtain⟨t,e,h,q⟩:=h; exact⟨t,e,h.ext k,q⟩,G⟩ (λx=>⟨by intro u hC g F; exact(Ub (D.2.2.2.2.1.below (K00 S.E hC)) aa.1).mono λe w2 h=>by obtain⟨v,rfl,J,hb⟩:=h; exact⟨_,I,J.mono hC.size,hb⟩,by intro u hC g F; exact(Js (D.2.2.2.2.2.2.2.1.2.2.below (K00 S.E hC)) aa.2.1).mono λe w2 h=>by obtain⟨v,rfl,J,hb⟩:=h; exact⟨_,I,J.mono hC.size,hb⟩,by intro u hC g F; exact(Ah (D.2.2.2.2.2.2.2.2.2.below (K00 S.E hC)) aa.2.2).mono λe w2 h=>by obtain⟨t,rfl,J,ht,hb⟩:=h; exact⟨_,I,⟨t,I,afn J hC.size,ht⟩,hb⟩,G⟩) λac u x Cj F S=>zdb S (λS=>?_);obtain⟨ab,ae,af,-⟩:=F;obtain⟨b1,d1,e1⟩:=Cp.shape ab;rw[e1]at S ab;try rw[e1]
  obtain⟨b2,d2,e2⟩:=Cp.shape ae;rw[e2]at S ae;try rw[e2]
  obtain⟨t,e3,af,ht⟩:=af;rw[e3]at S;try rw[e3]
  obtain⟨R,ai⟩:=R.bH S (aDx Cj);have G0:Sx.Ow _ _ (λW=>(y.re b1 d1 b2 d2 t).oZ w.heap.size W) _:=aDS (Sx.bn.ow (afs D ab ae af) q1 q2) λ_ h=>h.le q1;have D:((M++l.drop k).flatMap ak.cells).length=l.length*40:=by rw[jF (f:=ak.cells) (k:=40) (λ_=>I)]; simp; omega
  have am:k*40+40<=l.length*40:=Z
  refine aCO S λS=>NW S R 0 (off:=0+k*40+10) (v := .s b1 y.stops.length d1) I I (by show 0+k*40+10+1<=_; rw[D]; omega) λu ag R S=>zo0 S λS=>aCO S λS=>NW S R 0 (off:=0+k*40+14) (v := .s b2 y.img.l.length d2) I I (by show 0+k*40+14+1<=_; rw[Hg (by show 0+k*40+10+1<=_; rw[D]; omega),D]; omega) λu LG R S=>zo0 S λS=>aCO S λS=>Uf S R 0 (off:=0+k*40+16) (cs:=t.cells) I I (by show 0+k*40+16+24<=_; rw[Hg (by show 0+k*40+14+1<=_; rw[Hg (by show 0+k*40+10+1<=_; rw[D]; omega),D]; omega),Hg (by show 0+k*40+10+1<=_; rw[D]; omega),D]; omega) λu D R S=>zo0 S λS=>adr S 2 [] [.re 42 (.i (IntKind.i64.wrap ((k:Int)+1))) (.i (k+1:Nat))] (hk:=⟨aCS Z,G⟩) λS=>aCY S gJ (λS=>?_);have ah:Sx.spl (Sx.spl (Sx.spl ((M++l.drop k).flatMap ak.cells) (0+k*40+10) [.s b1 y.stops.length d1]) (0+k*40+14) [.s b2 y.img.l.length d2]) (0+k*40+16) t.cells=((M++[y.re b1 d1 b2 d2 t])++l.drop (k+1)).flatMap ak.cells:=by
   rw[show(M++[y.re b1 d1 b2 d2 t])++l.drop (k+1)=M++(y.re b1 d1 b2 d2 t::l.drop (k+1)) by simp,hd,aED,aED,aEn,aEn,Jt (k:=40) (f:=ak.cells) hM (λ_=>I) (aDw X),Jt (k:=40) (f:=ak.cells) hM (λ_=>I) (aDw X),Jt (k:=40) (f:=ak.cells) hM (λ_=>I) (aDw X),aft]
  exact dW _ _ ((k+1),M++[y.re b1 d1 b2 d2 t]) ⟨Z,(X3 hk J hR (by show(y.re b1 d1 b2 d2 t).strip=y.strip; unfold ak.strip ak.re; rw[ht]; rfl)),R.as (aDc (λxs=>[(⟨133,40,.s (some ⟨g,0,none⟩) l.length c1,l.length,xs⟩:Sx.Row)]) ah),aDS (aDD (aDR MC (aDr ai (aDr ag (aDr LG D)))) (aDR G0 (aDr ag (aDr LG D)))) λ_ h=>afu h.1 h.2,S.sn⟩ (by show _-_<_-_; omega)
 refine aCB S (.s a1 l.length c1) (λS=>?_);have hk:=aDA mJ;obtain rfl:k=l.length:=by omega
 exact⟨_,M,I,aDD (fV (λ_=>I) (R.own _ aDq) (by have:=aDc List.length hR; simp at this; exact this.symm) Y) (aEx MC),by simpa using hR,S.E⟩
def aj.lim(n:aj):Prop:=n.t.lim∧n.clip.length<=10000000∧n.path.length<=10000000∧n.fill.length<=10000000∧(∀p∈n.fill,p.lim)∧n.style.dash.length<=10000000∧n.stroke.length<=10000000∧(∀p∈n.stroke,p.lim)∧n.img.l.length<=10000000
abbrev aj.cp (base:Nat)(n:aj)(w:VO):Prop:=Sx.bn base (λW=>n.oZ base W) w
abbrev y7{n:aj}{w:VO}(h:n.cp base w)(D:b0<=base):n.cp b0 w:=aDS (Sx.bn.le h D) λ_ h=>⟨h.1,h.2.1.le D,h.2.2.1.le D,h.2.2.2.1.le D,h.2.2.2.2.1.le D,h.2.2.2.2.2.1.le D,h.2.2.2.2.2.2.1.le D,h.2.2.2.2.2.2.2.le D⟩
abbrev aiV{w:VO}{n m:aj}(h:n.ok w1)(e1:m.id=n.id)(e2:m.kind=n.kind)(e3:m.depth=n.depth)(e4:m.clip=n.clip)(e5:m.aS=n.aS)(e6:m.blend=n.blend)(e7:m.path=n.path)(e8:m.aW=n.aW)(J:m.style.key=n.style.key)(S:m.img.key=n.img.key)(ac:m.dD=n.dD)
  (h1:m.t.cp base w) (h2:Cp 163 7 dM.cells base m.cs m.clip w) (h3:Cp 163 7 dM.cells base m.ps m.path w) (h4:qZ base m.fs m.fill w) (h5:qZ base m.ss m.stroke w) (h6:Cp 3 1 (λx=>[AU x]) base m.style.s m.style.dash w) (h7:Cp 178 4 bJ.cells base m.img.s m.img.l w):m.cp base w:=by
 obtain⟨k1,k2,k3,k4,k5,k6,k7,k8,k9,ae,D,af,aa,ab⟩:=h;simp only[aZ.key,kY.mk.injEq]at J;simp only[dI.key,oN.mk.injEq]at S;refine aDS (aDD h1 (aDD h2 (aDD h3 (aDD h4 (aDD h5 (aDD h6 h7)))))) λW ⟨q1,q2,q3,q4,q5,q6,q7⟩=>⟨?_,q1,q2.2,q3.2,q4,q5,q6.2,q7.2⟩;refine⟨e1▸k1,e2▸k2,e3▸k3,q1.ok,⟨q2.1,?_⟩,e5▸k6,e6▸k7,⟨q3.1,?_⟩,e8▸k9,q4.ok,⟨?_,?_,?_,?_,eX q6.1,?_,?_⟩,q5.ok,⟨?_,?_,q7.1⟩,ac▸ab⟩
 .rw[e4]; exact k5.2
 .rw[e7]; exact k8.2
 .rw[J.1]; exact D.1
 .rw[J.2.1]; exact D.2.1
 .rw[J.2.2.1]; exact D.2.2.1
 .rw[J.2.2.2.1]; exact D.2.2.2.1
 .rw[J.2.2.2.2.1]; exact D.2.2.2.2.2.1
 .rw[J.2.2.2.2.2]; exact D.2.2.2.2.2.2
 .rw[S.1]; exact aa.1
 rw[S.2.1]; exact aa.2.1
abbrev clone_any{w:VO}{nd:aj}(h:nd.ok w)(hl:nd.lim) :
  abB prog 63 #[nd.v] w λe w'=>∃m:aj,e = .R m.v∧m.cp w.heap.size w'∧m.strip=nd.strip∧Ext w w':=by
 skip;refine aCG func63 ntmps63 λS=>aCF S λu b2 J D S=>aCF S (λu b5 J D S=>?_);have y:=S.E.size;have z0:=(S.bx 0).1;have z1:=(S.bx 1).1;refine adr S 2 [] [.M 1 3] λS=>aCR S (Ah (h.2.2.2.1.below S.E) hl.1) ?_;rintro e u ⟨t,rfl,J,hs,D⟩;refine⟨_,I,D,λS=>?_⟩;refine aCH S 1 I (λu D S=>?_);have MF:=bn.ch J D Z;have y:=S.E.size;have z0:=(S.bx 0).1;have z1:=(S.bx 1).1;refine jm S 7 [(9,λv w1=>Cp 163 7 dM.cells u.heap.size v nd.clip w1),(12,λv w1=>Cp 163 7 dM.cells u.heap.size v nd.path w1)] (λr=>[.M 1 27,.M 1 33]) (λx=>[x 9,x 12]) (λx=>[(_,_,true,x 9,9),(_,_,true,x 12,12)]) [[],[]] (λx=>[(9,x 9),(12,x 12),(13,.q b2 27)]) ⟨λ_ _ _ k h=>h.ext k,λ_ _ _ k h=>h.ext k,G⟩ (λx=>⟨by intro u D g F; exact(Jr (h.2.2.2.2.1.1.below (K00 S.E D)) hl.2.1).mono λe w2 h=>by obtain⟨v,rfl,J,hb⟩:=h; exact⟨_,I,J.mono D.size,hb⟩,by intro u D g F; exact(Jr (h.2.2.2.2.2.2.2.1.1.below (K00 S.E D)) hl.2.2.1).mono λe w2 h=>by obtain⟨v,rfl,J,hb⟩:=h; exact⟨_,I,J.mono D.size,hb⟩,G⟩) (λu x Gn F S=>?_);obtain⟨F9,G7,-⟩:=F;obtain⟨a1,c1,e1⟩:=Cp.shape F9;rw[e1]at S F9;try rw[e1]
 obtain⟨a2,c2,e2⟩:=Cp.shape G7;rw[e2]at S G7;try rw[e2]
 refine aCN S 1 I (λu ab S=>?_);have pV:=bn.ch (MF.ext Gn) ab Z;have Gt:=bn.ch F9 ab Z;have wM:=bn.ch G7 ab Z;refine aCN S 1 I (λu ac S=>?_);have oG:=bn.ch pV ac Z;have Bv:=bn.ch Gt ac Z;have sW:=bn.ch wM ac Z;have y:=S.E.size;have z0:=(S.bx 0).1;have z1:=(S.bx 1).1;refine jm S 7 [(17,λv w1=>∃l,qZ u.heap.size v l w1∧l.map ak.strip=nd.fill.map ak.strip),(20,λv w1=>∃l,qZ u.heap.size v l w1∧l.map ak.strip=nd.stroke.map ak.strip)] (λr=>[.M 1 35,.M 1 42]) (λx=>[x 17,x 20]) (λx=>[(_,_,true,x 17,17),(_,_,true,x 20,20)]) [[],[]] (λx=>[(17,x 17),(20,x 20),(21,.q b2 35)]) ⟨λ_ _ _ k h=>by obtain⟨l,h,e⟩:=h; exact⟨l,h.ext k,e⟩,λ_ _ _ k h=>by obtain⟨l,h,e⟩:=h; exact⟨l,h.ext k,e⟩,G⟩ (λx=>⟨by intro u D g F; exact(Jv (h.2.2.2.2.2.2.2.2.2.1.below (K00 S.E D)) hl.2.2.2.1 hl.2.2.2.2.1).mono λe w2 h=>by obtain⟨v,l,rfl,J,hs,hb⟩:=h; exact⟨_,I,⟨l,yY J D.size,hs⟩,hb⟩,by intro u D g F; exact(Jv (h.2.2.2.2.2.2.2.2.2.2.2.1.below (K00 S.E D)) hl.2.2.2.2.2.2.1 hl.2.2.2.2.2.2.2.1).mono λe w2 h=>by obtain⟨v,l,rfl,J,hs,hb⟩:=h; exact⟨_,I,⟨l,yY J D.size,hs⟩,hb⟩,G⟩) (λu x WI F S=>?_);obtain⟨TG,aa,-⟩:=F;obtain⟨l3,TG,s3⟩:=TG;obtain⟨a3,c3,e3⟩:=(aDB TG).1.1.shape;rw[e3]at S TG;try rw[e3]
 obtain⟨l4,aa,s4⟩:=aa;obtain⟨a4,c4,e4⟩:=(aDB aa).1.1.shape;rw[e4]at S aa;try rw[e4]
 refine aCN S 1 I (λu PO S=>?_);have S:=S.fl;have ED:=bn.ch (oG.ext WI) PO Z;have Gw:=bn.ch (Bv.ext WI) PO Z;have zU:=bn.ch (sW.ext WI) PO Z;have Em:=bn.ch TG PO Z;have qH:=bn.ch aa PO Z;refine aCN S 1 I (λu LD S=>?_);have vI:=bn.ch ED LD Z;have zV:=bn.ch Gw LD Z;have Eo:=bn.ch zU LD Z;have Ba:=bn.ch Em LD Z;have Dz:=bn.ch qH LD Z;have y:=S.E.size;have z0:=(S.bx 0).1;have z1:=(S.bx 1).1;refine jm S 10 [(26,λv w1=>Cp 3 1 (λx=>[AU x]) u.heap.size v nd.style.dash w1),(30,λv w1=>Cp 178 4 bJ.cells u.heap.size v nd.img.l w1)] (λr=>[.M 1 40,.M 1 45]) (λx=>[x 26,x 30]) (λx=>[(_,_,true,x 26,26),(_,_,true,x 30,30)]) [[],[]] (λx=>[(26,x 26),(30,x 30),(32,.q b2 40)]) ⟨λ_ _ _ k h=>h.ext k,λ_ _ _ k h=>h.ext k,G⟩ (λx=>⟨by intro u D g F; exact(XU ((fM (f:=AU) h.2.2.2.2.2.2.2.2.2.2.1.2.2.2.2.1).below (K00 S.E D)) hl.2.2.2.2.2.1).mono λe w2 h=>by obtain⟨v,rfl,J,hb⟩:=h; exact⟨_,I,J.mono D.size,hb⟩,by intro u D g F; exact(Js (h.2.2.2.2.2.2.2.2.2.2.2.2.1.2.2.below (K00 S.E D)) hl.2.2.2.2.2.2.2.2).mono λe w2 h=>by obtain⟨v,rfl,J,hb⟩:=h; exact⟨_,I,J.mono D.size,hb⟩,G⟩) (λu x Gs F S=>?_);obtain⟨J,ae,-⟩:=F;obtain⟨a5,c5,D⟩:=Cp.shape J;rw[D]at S J;try rw[D]
 obtain⟨a6,c6,D⟩:=Cp.shape ae;rw[D]at S ae;try rw[D]
 refine aCN S 1 I (λu D S=>?_);have Bz:=bn.ch (vI.ext Gs) D Z;have EC:=bn.ch (zV.ext Gs) D Z;have xW:=bn.ch (Eo.ext Gs) D Z;have BA:=bn.ch (Ba.ext Gs) D Z;have xX:=bn.ch (Dz.ext Gs) D Z;have Qp:=bn.ch J D Z;have J:=bn.ch ae D Z;refine aCN S 1 I (λu D S=>?_);have LU:=bn.ch Bz D Z;have Ug:=bn.ch EC D Z;have Uc:=bn.ch xW D Z;have Xx:=bn.ch BA D Z;have IZ:=bn.ch xX D Z;have Dw:=bn.ch Qp D Z;have Dx:=bn.ch J D Z;refine adr S 1 [] [.M 1 0] λS=>aCH S 0 I (λu D S=>?_);have S:=S.fl;have J:=bn.ch LU D Z;have Uh:=bn.ch Ug D Z;have CX:=bn.ch Uc D Z;have I4:=bn.ch Xx D Z;have Jw:=bn.ch IZ D Z;have Dy:=bn.ch Dw D Z;have CY:=bn.ch Dx D Z;refine aCU S 0 I (v := .agg (Sx.L [.i nd.id,.i nd.kind,.i nd.depth]++t.cells++Sx.L [.s a1 nd.clip.length c1,.i nd.aS,.u (nd.dS.toNat:Int),.i nd.blend,.b nd.isolated,.b nd.dG,.s a2 nd.path.length c2,.i nd.aW,.s a3 l3.length c3,.i nd.style.width,.i nd.style.join,.i nd.style.cap,.i nd.style.fF,.s a5 nd.style.dash.length c5,.i nd.style.phase,.s a4 l4.length c4,.i nd.img.w,.i nd.img.h,.s a6 nd.img.l.length c6,.i nd.dD]).toArray) (λS=>?_);exact⟨⟨nd.id,nd.kind,nd.depth,t,a1,c1,nd.clip,nd.aS,nd.dS,nd.blend,nd.isolated,nd.dG,a2,c2,nd.path,nd.aW,a3,c3,l3,⟨nd.style.width,nd.style.join,nd.style.cap,nd.style.fF,a5,c5,nd.style.dash,nd.style.phase⟩,a4,c4,l4,⟨nd.img.w,nd.img.h,a6,c6,nd.img.l⟩,nd.dD⟩,I,aiV h I I I I I I I I I I I (afn J Z) (Cp.mono Uh Z) (Cp.mono CX Z) (yY I4 Z) (yY Jw Z) (Cp.mono Dy Z) (Cp.mono CY Z),by unfold aj.strip; rw[hs,s3,s4]; rfl,S.E⟩
abbrev xY(n:aj):n.strip.key=n.key:=by
 unfold aj.key aj.strip;simp only[List.map_map];rfl
abbrev vJ{a b:aj}(h:a.strip=b.strip):a.key=b.key:=by rw[<-xY a,<-xY b,h]
abbrev BD{l m:List aj}(h:l.map aj.strip=m.map aj.strip):l.map aj.key=m.map aj.key:=by
 have e:∀l:List aj,l.map aj.key=(l.map aj.strip).map aj.key:=λl=>by
  rw[List.map_map];exact List.map_congr_left λn _=>(xY n).symm
 rw[e l,e m,h]
abbrev Jy{l m:List ak}(h:l.map ak.strip=m.map ak.strip)(hf:∀p∈m,p.t.fit K):∀p∈l,p.t.fit K:=λp D=>by
 have J:p.strip∈m.map ak.strip:=h▸aDJ.2 ⟨p,D,I⟩;obtain⟨q,S,e⟩:=aDJ.1 J;have D:q.strip.t.fit K:=hf q S;rw[e]at D;exact D
abbrev Jz{a b:aj}(h:a.strip=b.strip):a.t.strip=b.t.strip∧a.fill.map ak.strip=b.fill.map ak.strip∧a.stroke.map ak.strip=b.stroke.map ak.strip:=by
 unfold aj.strip at h;simp only[aj.mk.injEq]at h;exact⟨h.2.2.2.1,h.2.2.2.2.2.2.2.2.2.2.2.2.2.2.2.2.2.2.1,h.2.2.2.2.2.2.2.2.2.2.2.2.2.2.2.2.2.2.2.2.2.2.1⟩
def aj.Ui(K:Nat)(n:aj):Prop:=n.t.fit K∧(∀p∈n.fill,p.t.fit K)∧(∀p∈n.stroke,p.t.fit K)∧1<=K∧K<=10000
abbrev NY{a b:aj}(h:a.Ui K)(D:b.strip=a.strip):b.Ui K:=by
 obtain⟨J,S,h3⟩:=Jz D;have D:a.t.strip.fit K:=h.1;exact⟨by rw[<-J]at D; exact D,Jy S h.2.1,Jy h3 h.2.2.1,h.2.2.2⟩
abbrev fits_all{l m:List aj}(J:m.map aj.strip=l.map aj.strip)(h:∀n∈l,n.Ui K):∀n∈m,n.Ui K:=λn hn=>by
 have D:n.strip∈l.map aj.strip:=J▸aDJ.2 ⟨n,hn,I⟩;obtain⟨q,J,e⟩:=aDJ.1 D;exact NY (h q J) e.symm
abbrev uq{l m:List ak}(S:m.map ak.strip=l.map ak.strip)(h:∀p∈l,p.lim):∀p∈m,p.lim:=λp D=>by
 have J:p.strip∈l.map ak.strip:=S▸aDJ.2 ⟨p,D,I⟩;obtain⟨q,S,e⟩:=aDJ.1 J;have D:q.strip.lim:=h q S;rw[e]at D;exact D
abbrev NZ{a b:aj}(h:a.lim)(D:b.strip=a.strip):b.lim:=by
 obtain⟨h1,S,h3⟩:=Jz D;have J:b.fill.length=a.fill.length:=by have:=aDc List.length S; simpa using this
 have J:b.stroke.length=a.stroke.length:=by have:=aDc List.length h3; simpa using this
 unfold aj.strip at D;simp only[aj.mk.injEq,aZ.strip,aZ.mk.injEq,dI.strip,dI.mk.injEq]at D;obtain⟨k1,k2,k3,J,k5,k6,k7,k8,k9⟩:=h;have J:a.t.strip.lim:=k1;rw[<-h1]at J;refine⟨J,?_,?_,Z,uq S k5,?_,Z,uq h3 k8,?_⟩;all_goals simp only[D]; first | exact k2 | exact k3 | exact k6 | exact k9
abbrev BF{l m:List aj}(J:m.map aj.strip=l.map aj.strip)(h:∀n∈l,n.lim):∀n∈m,n.lim:=λn hn=>by
 have D:n.strip∈l.map aj.strip:=J▸aDJ.2 ⟨n,hn,I⟩;obtain⟨q,J,e⟩:=aDJ.1 D;exact NZ (h q J) e.symm
abbrev aj.uw (K:Nat)(n:aj):Prop:=n.Ui K∧n.lim
abbrev pz{a b:aj}(h:a.uw K)(D:b.strip=a.strip):b.uw K:=⟨NY h.1 D,NZ h.2 D⟩
abbrev BG:gI prog 63 38 (.agg bQ.cells.toArray) 47 656:=⟨underlying63,info_parts X,I,by decide⟩
abbrev xZ{w:VO}{L:List aj}(h:aI 47 aj.cells w v L):dR w 47 v L.length (L.flatMap aj.cells):=kS h (λ_=>I) λ_=>rfl
abbrev EF{n:aj}{w:VO}(h:n.oZ base w)(D:b0<=base):n.oZ b0 w:=⟨h.1,h.2.1.le D,h.2.2.1.le D,h.2.2.2.1.le D,h.2.2.2.2.1.le D,h.2.2.2.2.2.1.le D,h.2.2.2.2.2.2.1.le D,h.2.2.2.2.2.2.2.le D⟩
def EG(base:Nat)(v:aaT)(l:List aj)(w:VO):Prop:=kR 38 47 aj.cells base v l w∧∀n∈l,n.oZ base w
abbrev fB (base:Nat)(v:aaT)(l:List aj)(w:VO):Prop:=Sx.bn base (EG base v l) w
structure aA.own (base:Nat) (m:aA) (w:VO):Prop where
 row:w.ownsRow base 38 47 m.s m.ns.length (m.ns.flatMap aj.cells)
 nodes:Sx.On (λi=>base<=i∧m.s.ownBlock≠some i) (λW=>∀n∈m.ns,n.oZ base W) w
abbrev aA.own.cp{base:Nat}{m:aA}{w:VO}(h:m.own base w):fB base m.s m.ns w:=aDD (fV (λ_=>I) h.row I I) (h.nodes.mono λ_ h=>h.1)
abbrev fB.ok{base:Nat}{v:aaT}{l:List aj}{w:VO}(h:fB base v l w)(D:∀n∈l,n.Ui K):Dq K w v l:=⟨(aDB h).1.1,λn hn=>⟨((aDB h).2 n hn).1,D n hn⟩⟩
abbrev fB.le{base b0:Nat}{v:aaT}{l:List aj}{w:VO}(h:fB base v l w)(D:b0<=base):fB b0 v l w:=aDS (Sx.bn.le h D) λ_ h=>⟨h.1.le D,λn hn=>EF (h.2 n hn) D⟩
abbrev Qq{P:aj->Prop}{M:List aj}{x:aj}(h:∀p∈M,P p)(J:P x):∀p∈M++[x],P p:=λp D=>by
 rcases aDT.1 D with D | D
 .exact h p D
 rw[aDK.1 D]; exact J
abbrev Uj{l M:List aj}{x y:aj}(hk:k<l.length)(D:l[k]=x)(h:M.map aj.strip=(l.take k).map aj.strip)(J:y.strip=x.strip):(M++[y]).map aj.strip=(l.take (k+1)).map aj.strip:=by
 rw[aEj hk,aEb,aEb,h,D]; simp[J]
abbrev X4{w:VO}{a:Option aGk}{L:List aj}(h:aI 47 aj.cells w (.s a L.length c) L)(D:i<=L.length):aI 47 aj.cells w (.s (pY a 0 i 47) i i) (L.take i):=Ej h D (aDy D (iG h))
abbrev Uk{w:VO}{a:Option aGk}{L:List aj}(h:aI 47 aj.cells w (.s a L.length c) L)(D:i<=L.length):dR w 47 (.s (pY a 0 i 47) i i) i ((L.take i).flatMap aj.cells):=by
 have:=xZ (X4 h D);rwa [aD4,aEW D]at this
abbrev Ul{w:VO}{a:Option aGk}{L:List aj}(h:aI 47 aj.cells w (.s a L.length c) L)(D:i<=L.length):dR w 47 (.s (pY a i c 47) (L.length-i) (c-i)) (L.length-i) ((L.drop i).flatMap aj.cells):=by
 have:=xZ (abJ h D (iG h));rwa [aE0]at this
abbrev DC{w:VO}{D vm:aaT}{L M:List aj}(hl:aI 47 aj.cells w D L)(hm:aI 47 aj.cells w vm M)(J:i<=L.length)(ae:0<M.length)(hn:L.length+M.length<=100000)(hz:z=(i:Int)) :
  abB prog 146 #[D,.i z,vm] w λe w'=>∃v',e = .R v'∧w'.ownsRow w.heap.size 38 47 v' (L.take i++M++L.drop i).length ((L.take i++M++L.drop i).flatMap aj.cells)∧Ext w w':=by
 subst hz;obtain⟨a,cap,rfl⟩:=hl.shape;have D:=iG hl;have ab:i<=cap:=aDy J D;refine aCG func146 ntmps146 λS=>adr S 6 [] [.slc 0 i i cap] (hk:=⟨⟨aDl _,aDd _,ab⟩,G⟩) λS=>WL S f146 2 (λS iz=>?_);refine rX S 6 [(14,λv w1=>w1.ownsRow w.heap.size 38 47 v (i+M.length) ((L.take i++M).flatMap aj.cells))] (λr=>[.hand 14 [(12,.s (pY a 0 i 47) i i),(13,vm)],.slc i L.length cap cap]) (λx=>[x 14]) (λx=>[]) [] (λx=>[(14,x 14),(17,.s (pY a i cap 47) (L.length-i) (cap-i))]) ⟨λ_ _ _ k h=>Sx.dB h k,G⟩ (λx=>G) (λac u x E4 F S=>?_) (hk:=λr=>⟨G,⟨J,D,aDd _⟩,G⟩) (hl:=[(2,[])]) (hH:=λx r=>⟨λo D ρ u hs hE hρ hV F=>by exact qV D BG (hV (12,_) aDq) (hV (13,_) (aEs _ aDq)) (Uk (hl.below (K00 S.E hE)) J) (xZ (hm.below (K00 S.E hE))) ae (by show i+M.length<=9223372036854775807; omega) Z (λv' w' h aa=>aC4 D I I aa (by rw[<-aED]at h; exact aDk h (K00 S.E hE).size)),G⟩);refine Qr S (λS=>?_);obtain⟨WE,-⟩:=F;have R:=(aDV S).add (r:=⟨38,47,_,i+M.length,(L.take i++M).flatMap aj.cells⟩) WE (λb hb=>by cases hb) (aDd _);obtain⟨a1,c1,e1⟩:=Sx.jh WE;rw[e1]at S R;try rw[e1]
 refine aCO S λS=>aDf S R 0 18 I BG (Ul (hl.below S.E) J) (by show i+M.length+(L.length-i)<=9223372036854775807; omega) (by show(i+M.length+(L.length-i))*656<=140737488355328; omega) λac u J X6 R S=>aCW S λS=>aCB S J (λS=>?_);have D:=R.own _ aDq;rw[<-aED]at D;exact⟨_,I,by rw[show(L.take i++M++L.drop i).length=i+M.length+(L.length-i) by simp; omega]; exact D,S.E⟩
abbrev ab6{w u:VO}{os:List Oper}{o:Oper}{ρ:Operand->aaT}(ho:os[i]?=some o){a:Option aGk}{L:List aj}{f t:Nat}(hs:ρ (.tmp 13) = .s (pY a 0 f 47) f f)(hx:ρ (.tmp 16) = .s (pY a t cap 47) (L.length-t) (cap-t))
  (hl:aI 47 aj.cells w (.s a L.length cap) L) (J:f<t) (ht:t<=L.length) (hn:L.length<=100000) (D:Ext w u) {Post:aaT->VO->Prop} (hK:∀v w',Ext u w'->(∀base B,base<=w.heap.size->Sx.On B (kR 38 47 aj.cells base (.s a L.length cap) L) w->Sx.On (λi=>B i∨w.heap.size<=i) (kR 38 47 aj.cells base v (L.take f++L.drop t)) w')->Post v w') (J:NI os i=some (.tmp 13,.tmp 16,63,true):=by kernel_rfl) :
  Rel.Does prog o ρ u Post:=by
 have S:=iG hl;rcases aD7 t L.length with h | h
 .have hlen:(L.take f++L.drop t).length=f+(L.length-t):=by simp; omega
  refine qV ho BG hs hx (Uk (hl.below D) Z) (Ul (hl.below D) ht) Z (by show f+(L.length-t)<=9223372036854775807; omega) Z (λv' w' h S=>hK v' w' S λbase B hb hd=>?_) J;rw[<-aED]at h;exact aDS (aEY (fV (f:=aj.cells) (λ_=>I) h hlen.symm I) λi S => .inr (aDy D.size S)) λ_ h=>h.le (aDy hb D.size)
 have S:L.length-t=0:=Z
 rw[S]at hx;refine NJ ho BG (aDd f) hs hx (hK _ _ K01 λbase B hb hd=>?_) J;rw[aEB h,aEk,aeG];exact aDS (aEY (aDn hd D) λ_ h => .inl h) λ_ h=>Xq h Z (aDd f) Z
abbrev FI{w:VO}{a:Option aGk}{L:List aj}(hl:aI 47 aj.cells w (.s a L.length cap) L){f t:Nat}(ab:f<t)(ht:t<=L.length)(hn:L.length<=100000)(D:z=(f:Int)) :
  abB prog 147 #[.s a L.length cap,.i z,.i t] w λe w'=>∃v1,e = .R (.tuple #[v1,.s (pY a f t 47) (t-f) (t-f)])∧(∀base B,base<=w.heap.size->Sx.On B (kR 38 47 aj.cells base (.s a L.length cap) L) w->Sx.On (λi=>B i∨w.heap.size<=i) (kR 38 47 aj.cells base v1 (L.take f++L.drop t)) w')∧Ext w w':=by
 subst D;have J:=iG hl;refine aCG func147 ntmps147 λS=>adr S 7 [] [.slc 0 f f cap] (hk:=⟨⟨aDl _,aDd _,Z⟩,G⟩) λS=>WL S f147 2 (λS D=>?_);refine rX S 11 [(17,λv w1=>∀base B,base<=w.heap.size->Sx.On B (kR 38 47 aj.cells base (.s a L.length cap) L) w->Sx.On (λi=>B i∨w.heap.size<=i) (kR 38 47 aj.cells base v (L.take f++L.drop t)) w1),(6,λv w1=>∀base B,base<=w.heap.size->Sx.On B (kR 38 47 aj.cells base (.s a L.length cap) L) w->Sx.On (λi=>B i∨w.heap.size<=i) (kR 38 47 aj.cells base v (L.take f++L.drop t)) w1)] (λr=>[.slc t L.length cap cap,.hand 17 [(13,.s (pY a 0 f 47) f f),(16,.s (pY a t cap 47) (L.length-t) (cap-t))],.slc f t t cap,.hand 6 []]) (λx=>[x 17,x 6]) (λx=>[]) [] (λx=>[(6,x 6),(22,.s (pY a f t 47) (t-f) (t-f))]) ⟨λ_ _ _ k h base B D hd=>aDn (h base B D hd) k,λ_ _ _ k h base B D hd=>aDn (h base B D hd) k,G⟩ (λx=>G) (λD u x E4 F S=>?_) (hk:=λr=>⟨⟨ht,J,aDd _⟩,G,⟨Z,aDd _,Z⟩,G,G⟩) (hl:=[(4,[]),(10,[17])]) (hH:=λx r=>⟨λo D ρ u hs hE J hV F=>by exact ab6 D (hV (13,_) aDq) (hV (16,_) (aEs _ aDq)) hl ab ht hn (K00 S.E hE) (λv' w' aa h=>aC4 D I I aa h),λo D ρ u hs hE J hV F=>by obtain⟨TG,-⟩:=F; exact iT D hs [(17,x 17)] (aDa (J 17 O I)) (x 17) (aC4 D I I K01 TG),G⟩);refine Qr S (λS=>?_);obtain⟨TG,D,-⟩:=F;refine MG S (x 6) (.s (pY a f t 47) (t-f) (t-f)) (λS=>?_);exact⟨_,I,D,S.E⟩
abbrev Um{w0 w:VO}{bl:List (Nat×List aaT)}(R:Rw w0 w bl []):Rw w0 w bl [⟨38,47,.sn,0,[]⟩]:=
 ⟨λr D=>by obtain rfl:=aDK.1 D; exact⟨I,.inl ⟨I,I⟩⟩,R.lt,R.apart⟩
abbrev _root_.Go.Sx.On.fresh{B:Nat->Prop}{F:VO->Prop}{w w':VO}{b:Nat}(h:Sx.On B F w)(S:Ext w w')(D:w.heap.size<=b):Sx.On (λi=>B i∧i≠b) F w':=λw2 hs hk =>
 h w2 (aDy S.size hs) λk D J=>(hk k (aDL D S.size) ⟨J,Z⟩).trans (S.block k D)
abbrev _root_.Go.Sx.afv{w0 w:VO}{b:Nat}{A:List aaT}{bl:List (Nat×List aaT)}{rs:List Sx.Row}{F:VO->Prop}{D:Nat}(R:Rw w0 w ((b,A)::bl) rs)(h:Sx.On (λi=>D<=i∧i≠b) F w)(J:∀k∈Ob bl rs,k<D)(q0:w0.heap.size<=D):Sx.Ow w0.heap.size (Ob ((b,A)::bl) rs) F w:=
 h.mono λk hk=>⟨aDy q0 hk.1,λD=>(aDp.1 D).elim (λe=>hk.2 e) λD=>by have:=J k D; omega⟩
abbrev rY{w:VO}{s:aA}(h:dw K w s)(al:∀n∈s.ns,n.lim)(hn:s.ns.length<=100000) :
  abB prog 35 #[s.v] w λe w'=>∃m:aA,e = .R m.v∧m.own w.heap.size w'∧m.ns.map aj.strip=s.ns.map aj.strip∧m.w=s.w∧m.h=s.h∧m.bg=s.bg∧Ext w w':=by
 have D:s.ns.length<=9223372036854775807:=Z
 refine aCG func35 ntmps35 (λS=>?_);obtain⟨a,cap,es⟩:∃a c,s.s = .s a s.ns.length c:=⟨_,_,I⟩;have J:=h.2.2.1;rw[es]at J;refine aCJ S s.cells λu b2 E3 D S=>aCJ S [.i 0,.i 0,.u 0,.u 0,.u 0,.u 0,.sn] λu b5 E6 D S=>adr S 1 [] [.M 1 0] λS=>aCJ S [.i 0,.i 0,.u 0,.u 0,.u 0,.u 0,.sn] λu b9 Pv D S=>aCP S 0 (off:=0) (cs:=s.cells) I λu D S=>X5 S 0 (off:=6) (v := .sn) I (λu D S=>?_);have R:=aDV S;have R:=Um R;refine adr S 4 [] [.M 2 6,.re 9 s.s (.s a s.ns.length cap)] (hk:=⟨es,G⟩) λS=>aCZ S (ι:=Nat×aaT×List aj) (λp D w'=>p.1<=s.ns.length∧(p.2.2.map aj.strip=(s.ns.take p.1).map aj.strip)∧Rw w w' [(b9,(Sx.L [.i s.w,.i s.h]++s.bg.cells++Sx.L [p.2.1])),(b5,[.i 0,.i 0,.u 0,.u 0,.u 0,.u 0,.sn]),(b2,s.cells)] [⟨38,47,p.2.1,p.1,p.2.2.flatMap aj.cells⟩]∧Sx.Ow w.heap.size (Ob [(b9,(Sx.L [.i s.w,.i s.h]++s.bg.cells++Sx.L [p.2.1])),(b5,[.i 0,.i 0,.u 0,.u 0,.u 0,.u 0,.sn]),(b2,s.cells)] [⟨38,47,p.2.1,p.1,p.2.2.flatMap aj.cells⟩]) (λW=>∀z∈p.2.2,z.oZ w.heap.size W) w'∧Sx.St w D w' 24 [(0,s.v),(1,.q b2 0),(2,.q b5 0),(3,.q b9 0),(9,.s a s.ns.length cap),(10,.i s.ns.length),(11,.i p.1)] [(b9,(Sx.L [.i s.w,.i s.h]++s.bg.cells++Sx.L [p.2.1])),(b5,[.i 0,.i 0,.u 0,.u 0,.u 0,.u 0,.sn]),(b2,s.cells)] []) (λp=>s.ns.length-p.1) (0,.sn,[]) (λS=>⟨aDl _,I,R,(λ_ _ _ z D=>by cases D),S.sn⟩) ?_;rintro⟨k,v,M⟩ ac u gJ dW hI;try dsimp only at hI
 obtain⟨hk,hR,R,MC,S⟩:=hI;refine aC0 S λS=>aCD S (decide ((k:Int)<(s.ns.length:Int))) (λD S=>?_) (λD S=>?_)
 .have mG:k<s.ns.length:=by have:=aDw D; omega
  obtain⟨az,a3,rfl,aa,qX,LZ,PZ⟩:=aDN J (λ_=>I) (k) mG;have S:=S.view0 LZ PZ;refine adr S 2 [] [.idx k s.ns.length,.M 3 0] (hk:=⟨mG,G⟩) λS=>aCJ S (Sx.L [.i 0,.i 0,.i 0]++Sx.za++Sx.L [.sn,.i 0,.u 0,.i 0,.z,.z,.sn,.i 0,.sn,.i 0,.i 0,.i 0,.i 0,.sn,.i 0,.sn,.i 0,.i 0,.sn,.i 0]) λu ay A8 J S=>aCP S 0 (off:=0) (cs:=aa.cells) I (λu PU S=>?_);have af:=λp hp=>(S.own p hp).1.1;obtain⟨R,aq⟩:=R.bH S (aDr (aEi A8 J) (Sx.Stp.Jp PU));have J:=S.E.size;have ao:=R.lt;refine WL S f35 6 (λS iz=>?_);refine rX S 5 [(18,λv w1=>∃m:aj,v=m.v∧m.cp u.heap.size w1∧m.strip=aa.strip),(19,λv w1=>∃m b,v = .s (some ⟨b,0,none⟩) 1 1∧u.heap.size<=b∧Bx w1 b (aj.cells m).toArray∧Sx.On (λi=>u.heap.size<=i∧i≠b) (λW=>m.oZ u.heap.size W) w1∧m.strip=aa.strip)] (λr=>[.M 1 6,.M 0 0,.hand 19 []]) (λx=>[x 18,x 19]) (λx=>[(_,_,true,x 18,18)]) [[]] (λx=>[(16,v),(19,x 19)]) ⟨λ_ _ _ k h=>by obtain⟨m,e,h,q⟩:=h; exact⟨m,e,h.ext k,q⟩,λv w w' k h=>by obtain⟨m,b,e,h1,h2,h3,q⟩:=h; exact⟨m,b,e,h1,h2.ext k,h3.ext k,q⟩,G⟩ (λx=>⟨by intro u hC g F; exact(clone_any ((h.2.2.2 _ (qX▸aDI mG)).1.below (K00 S.E hC)) (al _ (qX▸aDI mG))).mono λe w2 h=>by obtain⟨m,rfl,hx,hs,hb⟩:=h; exact⟨_,I,⟨m,I,y7 hx hC.size,hs⟩,hb⟩,G⟩) (λac u x Gs F S=>?_) (hk:=λr=>⟨G,G⟩) (hl:=[(4,[18])]) (hH:=λx r=>⟨λo ho ρ u hs hE hρ hV F=>by obtain⟨ab,-⟩:=F; obtain⟨m,e,h,q⟩:=ab; exact ug ho hs [(18,m.v)] (aDa ((hρ 18 O I).trans e)) m.cells (some 1) (λv w' hn ae=>aC4 ho I I ae (by obtain⟨b,e2,h2,h3⟩:=hn; exact⟨m,b,e2,aDy hE.size h2,h3,Sx.On.fresh h ae h2,q⟩)),G⟩);refine Qr S (λS=>?_);obtain⟨ab,ar,-⟩:=F;clear ab;obtain⟨m,a4,ag,ah,av,hm,aw⟩:=ar;rw[ag]at S;try rw[ag]
  have S:=S.lq;have S:=S.adopt (A:=m.cells) av (aDy J ah) (λp hp=>by have:=af p hp; omega) (λm hm=>by cases hm);obtain⟨R,ax⟩:=R.bH S ((aDx Gs).aiW ah);have ap:=aDS (Sx.afv R hm ao J) λ_ h=>EF h J;have hM:M.length=k:=by have:=aDc List.length hR; simp at this; omega
  refine aCO S λS=>aDf S R 0 20 I BG (oH (m:=1) (k:=47) (A:=m.cells) (S.bx 0)) (by show k+1<=9223372036854775807; omega) (by show(k+1)*656<=140737488355328; omega) λac u am J R S=>aCW S (λS=>?_);obtain⟨a8,c8,e8⟩:=Sx.jh (R.own _ aDq);replace e8:am = .s a8 (k+1) c8:=e8;subst e8;refine X5 S 2 (off:=6) (v := .s a8 (k+1) c8) I (λu an S=>?_);have S:=S.fl;refine adr S 2 [] [.re 22 (.i (IntKind.i64.wrap ((k:Int)+1))) (.i (k+1:Nat))] (λS=>?_) (hk:=⟨aCS Z,G⟩);have S:=S.gB 2;obtain⟨R,ai⟩:=R.bH S (aDr (Sx.Stp.Jp an) (aEd 2));refine aCY S gJ (λS=>?_);exact dW _ _ ((k+1),.s a8 (k+1) c8,M++[m]) ⟨Z,(Uj mG qX hR aw),R.as (aDc (λxs=>[(⟨38,47,.s a8 (k+1) c8,k+1,xs⟩:Sx.Row)]) (show M.flatMap aj.cells++m.cells=(M++[m]).flatMap aj.cells by simp)),aDS (aDD (aDR MC (aDr aq (aDr ax (aDr J ai)))) (aDR ap (aDr J ai))) λ_ h=>Qq h.1 h.2,S.sn⟩ (by show _-_<_-_; omega)
 have hk:=aDA D;obtain rfl:k=s.ns.length:=by omega
 rw[aEc]at hR;have hM:M.length=s.ns.length:=by have:=aDc List.length hR; simpa using this
 have hF:=MC;rw[<-hM]at R;obtain⟨a1,c1,D⟩:=Sx.jh (R.own _ aDq);replace D:v = .s a1 M.length c1:=D;subst D;refine adr S 1 [] [.M 0 0] λS=>aCP S 1 (off:=0) (cs:=(Sx.L [.i s.w,.i s.h]++s.bg.cells++Sx.L [.s a1 M.length c1])) I (λu D S=>?_);obtain⟨R,J⟩:=R.bH S (Sx.Stp.Jp D);have hF:=(aDR MC J);have ho:=R.own _ aDq;refine aCU S 1 I (v := .agg (aA.cells ⟨s.w,s.h,s.bg,a1,c1,M⟩).toArray) (λS=>?_);exact⟨⟨s.w,s.h,s.bg,a1,c1,M⟩,I,⟨ho,hF.mono λi D=>⟨D.1,λe=>D.2 (jM aDq e)⟩⟩,hR,I,I,I,S.E⟩
abbrev OwnB (base:Nat)(w:VO)(v:aaT)(l:List UInt8):Prop:=w.ownsRow base 5 1 v l.length (l.map iy)
abbrev Qs(l:List UInt8):l.flatMap (λn:UInt8=>[iy n])=l.map iy:=by induction l<;>simp_all
abbrev rowB{w:VO}{l:List UInt8}(h:OwnB base w v l):aI 1 (λn:UInt8=>[iy n]) w v l:=aDB (jq (f:=λn:UInt8=>[iy n]) (L:=l) (λ_=>I) h I (Qs l).symm)
abbrev jY{w:VO}{l:List UInt8}(h:OwnB base w v l):dR w 1 v l.length (l.map iy):=by
 have:=kS (rowB h) (λ_=>I) (λ_=>I);rwa [Qs]at this
abbrev vK{w:VO}{l:List UInt8}(h:OwnB base w v l):bP w v l:=eX (rowB h)
abbrev wrap_u64{n:Nat}(h:n<18446744073709551616):Value.int .u64 (IntKind.u64.wrap (n:Int)) = .int .u64 (n:Int):=by
 congr 1;rw[aEE];omega
end
section
open Go.RowKit En Go.Sx
variable{α:Type}
abbrev amE:∀m:Fin 256,m.val|||128=m.val%128+128:=by decide
abbrev amF(n:Nat):bits .or .u8 ((n:Int)%256) 128=(n:Int)%128+128:=by
 have h:=amE ⟨n%256,aEF _ O⟩;have:=u8_or_nat (n%256) 128 Z Z;rw[show((128:Nat):Int)=128 from rfl,show((n%256:Nat):Int)=(n:Int)%256 by omega]at this;rw[this,h]; simp only; omega
abbrev fZ(x:Nat)(w:VO)(J:x<18446744073709551616) :
  abB prog 30 #[.int .u64 (x:Int)] w λe w'=>∃v',e = .R v'∧w'.ownsRow w.heap.size 5 1 v' (dY 10 x).length ((dY 10 x).map iy)∧Ext w w':=by
 go_enter func30,ntmps30
 go_wp2
 go_loopw [0,3] (λD v wr=>∃(f n:Nat) (out:List UInt8),D = .int .u64 n∧n<18446744073709551616∧n<128^(f+1)∧out.length+f=9∧dY 10 x=out++dY (f+1) n∧wr.ownsRow w.heap.size 5 1 v out.length (out.map iy)∧Ext w wr) (λD _ _=>(intOf D).toNat)
 case atStart=>exact⟨9,x,[],I,J,Z,I,I,aFN _ _ _ _,aDC _ _⟩
 case round =>
  obtain⟨f,n,out,rfl,hn,hf,hl,D,aa,ab⟩:=hrel;have HU:=aC8 D;have ac:out.length+1<=maxLen:=by unfold maxLen; omega
  have ae:(out.length+1)*1<=140737488355328:=Z
  have af:w.heap.size<=wr.heap.size:=ab.size;clear D;by_cases hlt:n<128
  .have hr:=oq wr (.u (n:Int)) 5 I;have D:=aa.alloc (.cells #[.u (n:Int)] 5);have J:w.heap.size<=(wr.alloc (.cells #[.u (n:Int)] 5)).heap.size:=by simp; omega
   clear aa;have ag:(n:Int)%256=n:=Z
   go_wp2_with (at_builtin; refine bV I _ _ _ I AA w.heap.size D I hr I ac ae J ?_; intro v' w' S hg)
   go_ret
   refine⟨_,I,?_,(ab.alloc af _).grown hg J (λk hk=>(World.ownsRow.lt D k hk).1)⟩;have e:dY 10 x=out++[UInt8.ofNat n]:=by rw[HU.out,dY,aDb hlt]
   rw[e];simpa[iy,Jh (show n<256 by omega)]using S
  cases f with
  | zero=>exact absurd hf Z
  | succ f =>
   have hr:=oq wr (.u ((n:Int)%128+128)) 5 I;have D:=aa.alloc (.cells #[.u ((n:Int)%128+128)] 5);have J:w.heap.size<=(wr.alloc (.cells #[.u ((n:Int)%128+128)] 5)).heap.size:=by simp; omega
   have ag:=amF n;clear aa;go_wp2_with (at_builtin; refine bV I _ _ _ I AA w.heap.size D I hr I ac ae J ?_; intro v' w' S hg)
   go_roundw
   case rel =>
    refine⟨f,n/128,out++[UInt8.ofNat (n%128+128)],by simp,Z,?_,by simp; omega,?_,?_,(ab.alloc af _).grown hg J (λk hk=>(World.ownsRow.lt D k hk).1)⟩
    .rw[aDY]at hf; exact aFw Z
    .rw[HU.out,dY,aC9 hlt]; simp
    simpa[iy,Jh (show n%128+128<256 by omega),show((n:Int)%128+128)%256=(n:Int)%128+128 by omega]using S
   case measure=>simp[intOf]; omega
open Go.RowKit En Go.Sx
variable{α:Type}
open Go.RowKit En Go.Sx
variable{α:Type}
abbrev afx(a:Nat)(D:a<18446744073709551616):bits .xor .u64 (a:Int) 18446744073709551615=((18446744073709551615-a:Nat):Int):=by
 have D:=atZ (UInt64.ofNat a) (-1);have J:(UInt64.ofNat a).toNat=a:=by simp; omega
 have S:(((-1:UInt64).toNat:Nat):Int)=18446744073709551615:=by decide
 rw[J,S,UInt64.xor_neg_one,UInt64.toNat_not,J]at D;rw[D]; rfl
abbrev afy(x:Int)(h : -9223372036854775808<=x)(D:x<=9223372036854775807) :
  bits BinOp.xor IntKind.u64 (IntKind.u64.wrap (IntKind.u64.wrap x*2)) (IntKind.u64.wrap (x/9223372036854775808))=((zig x:Nat):Int):=by
 rw[aEE,aEE,aEE];unfold zig;split
 .rw[show x/9223372036854775808%18446744073709551616=18446744073709551615 by omega];rw[show x%18446744073709551616*2%18446744073709551616=(((2*x+18446744073709551616).toNat:Nat):Int) by omega,afx _ Z];omega
 rw[show x/9223372036854775808%18446744073709551616=((0:Nat):Int) by omega];rw[show x%18446744073709551616*2%18446744073709551616=(((2*x).toNat:Nat):Int) by omega,u64_xor_nat _ _ Z Z,Nat.xor_zero]
abbrev Aj(x:Int)(w:VO)(h : -9223372036854775808<=x)(J:x<=9223372036854775807) :
  abB prog 85 #[.i x] w λe w'=>∃D,e = .R D∧w'.ownsRow w.heap.size 5 1 D (dY 10 (zig x)).length ((dY 10 (zig x)).map iy)∧Ext w w':=by
 have S:=aC8 (fZ (zig x) w (Qa h J));go_enter func85,ntmps85
 go_wp2_with fail
 rw[afy x h J];refine S.out.mono ?_;rintro e w' ⟨D,rfl,J,S⟩;go_wp2_with fail
 go_ret
 exact⟨_,I,J,S⟩
open Go.RowKit En Go.Sx
variable{α:Type}
abbrev JA(v:aaT)(l:List UInt8)(i:Int)(w:VO)(S:bP w v l)(h:i<0∨(l.length:Int)<i) :
  abB prog 73 #[v,.i i] w λe w'=>e = .R (.tuple #[.pointer none,.i 2])∧w=w':=by
 obtain⟨a,cap,rfl,J,D⟩:=S;have hl:=rQ J D;clear D;go_enter func73,ntmps73
 by_cases h1:i<0
 .go_wp2_with fail
  go_ret2
  exact⟨I,I⟩
 have D:(l.length:Int)<i:=Z
 clear h;go_wp2_with fail
 go_ret2
 exact⟨I,I⟩
abbrev ab7(v:aaT)(l:List UInt8)(i:Nat)(w:VO)(S:bP w v l)(h:i<=l.length) :
  abB prog 73 #[v,.i i] w λe w'=>e = .R (.tuple #[.q w.heap.size 0,.i 0])∧w'=w.alloc (.cells #[v,.i i] 144):=by
 obtain⟨a,cap,rfl,J,D⟩:=S;have hl:=rQ J D;clear D;go_enter func73,ntmps73
 go_wp2_with fail
 go_ret2
 exact⟨I,I⟩
abbrev Un(v:aaT)(l:List UInt8)(b p:Nat)(w:VO)(S:bP w v l)(D:w.cell? ⟨b,0,none⟩=some v)(J:w.cell? ⟨b,1,none⟩=some (.i p))(hp:p<=l.length) :
  abB prog 112 #[.q b 0] w λe w'=>e = .R (.i (l.length-p:Nat))∧∃n,w'=w.drewN n:=by
 obtain⟨a,cap,rfl,J,D⟩:=S;have hl:=rQ J D;clear D;go_enter func112,ntmps112
 go_wp2_with fail
 go_quiet (fail)
 go_wp2_with fail
 go_ret
 exact⟨jS Z,_,I⟩
open Go.RowKit En Go.Sx
variable{α:Type}
abbrev afz{D o n c J S:Nat}{ad:aGk}(h:Value.s (some ⟨D,o,none⟩) n c = .s (some ad) J S):D=ad.block:=by
 simp only[aDO,aDe]at h; rw[<-h.1]
abbrev aiX{f:α->aaT}{w:VO}{D o cap p k:Nat}{l:List α}(hm:cap<=maxLen)(hp:p+k<=l.length)(J:l.length<=cap)(S:D<w.heap.size)
  (J:∀i (h:i<l.length),w.cell? ⟨D,o+i,none⟩=some (f l[i])):dH f w (.s (if cap=p then some ⟨D,o,none⟩else some ⟨D,o+p,none⟩) k (cap-p)) ((l.drop p).take k):=by
 have e:((l.drop p).take k).length=k:=by simp; omega
 rcases aD0 k with rfl | hk
 .refine⟨_,cap-p,by rw[e],Z,.inl ⟨by simp,λh=>?_⟩⟩;split at h<;>simp at h
 rw[aC9 Z];refine⟨_,cap-p,by rw[e],Z,.inr ⟨D,o+p,I,S,by rw[e]; omega,λi D=>?_⟩⟩;rw[e]at D;rw[aE4,J (p+i) Z]; simp
abbrev ab8(l:List UInt8)(b p k J o cap:Nat)(w:VO)(hm:cap<=maxLen)(aa:l.length<=cap)(ab:J<w.heap.size)(D:J≠b)
  (D:∀i (h:i<l.length),w.cell? ⟨J,o+i,none⟩=some (iy l[i])) (S:w.cell? ⟨b,0,none⟩=some (.s (some ⟨J,o,none⟩) l.length cap)) (h1:w.cell? ⟨b,1,none⟩=some (.i p))
  (S:w.frozen? ⟨b,1,none⟩=false) (hp:p+k<=l.length) :
  abB prog 113 #[.q b 0,.i k] w λe w'=>∃S n,e = .R S∧w'=(w.setCell ⟨b,1,none⟩ (.i ((p:Int)+(k:Int)))).drewN n ∧
   bP w' S ((l.drop p).take k)∧∀ad n cap',S = .s (some ad) n cap'->J=ad.block:=by
 have S:=aC8 D;clear D;have D:p+k<=cap:=Z
 have D:(0:Int)<=(p:Int):=Z
 have D:(p:Int)<=(p:Int)+(k:Int):=Z
 have D:(p:Int)+(k:Int)<=(cap:Int):=Z
 have D:IntKind.i64.wrap ((p:Int)+(k:Int))=(p:Int)+(k:Int):=by rw[aE9]; have:maxLen=9223372036854775807:=I; omega
 have D:((p:Int)+(k:Int)).toNat=p+k:=Z
 have D:p<=p+k:=Z
 have D:p+k-p=k:=Z
 have D:p<=cap:=Z
 have D:bP ((w.setCell ⟨b,1,none⟩ (.i ((p:Int)+(k:Int)))).drewN 1) (.s (if cap=p then some ⟨J,o,none⟩else some ⟨J,o+p,none⟩) k (cap-p)) ((l.drop p).take k):=
  aiX hm hp aa (by simpa using ab) (λi h=>by rw[World.cell?_drewN,World.cell?_setCell_other _ _ _ _ (by simp only[ne_eq,aEZ]; omega)]; exact S.out i h)
 by_cases hcp:cap=p
 .rw[aDb hcp]at D;have S:=aC8 D;clear D;subst hcp;have S:=aC8 (by have h:=S.out; rw[aE5]at h; exact h);go_enter func113,ntmps113
  go_wp2_with fail
  go_region_held3 (λw'=>w'.cell? ⟨b,0,none⟩=some (.s (some ⟨J,o,none⟩) l.length cap)∧w'.cell? ⟨b,1,none⟩=some (.i cap)) (go_keep) (fail)
  go_wp2_with fail
  go_ret
  exact⟨_,1,I,I,S.out,λ_ _ _ e=>afz e⟩
 rw[aC9 hcp]at D;have S:=aC8 D;clear D;go_enter func113,ntmps113
 go_wp2_with fail
 go_region_held3 (λw'=>w'.cell? ⟨b,0,none⟩=some (.s (some ⟨J,o,none⟩) l.length cap)∧w'.cell? ⟨b,1,none⟩=some (.i p)) (go_keep) (fail)
 go_wp2_with fail
 go_ret
 exact⟨_,1,I,I,S.out,λ_ _ _ e=>afz e⟩
open Go.RowKit En Go.Sx
variable{α:Type}
structure Rd (w:VO) (b:Nat) (v:aaT) (l:List UInt8) (p:Nat):Prop where
 c0:w.cell? ⟨b,0,none⟩=some v
 c1:w.cell? ⟨b,1,none⟩=some (.i p)
 fz:w.frozen? ⟨b,1,none⟩=false
 row:bP w v l
 off:0<l.length->Off b v
 hp:p<=l.length
 lt:b<w.heap.size
abbrev Rd.drewN{w:VO}{b:Nat}{v:aaT}{l:List UInt8}{p:Nat}(h:Rd w b v l p)(n:Nat):Rd (w.drewN n) b v l p:=
 ⟨by rw[World.cell?_drewN]; exact h.c0,by rw[World.cell?_drewN]; exact h.c1,by rw[World.frozen?_drewN]; exact h.fz,h.row.below (below_drewN (aDC _ _) n),h.off,h.hp,by simpa using h.lt⟩
abbrev Rd.ext{w w':VO}{b:Nat}{v:aaT}{l:List UInt8}{p:Nat}(h:Rd w b v l p)(D:Ext w w'):Rd w' b v l p:=
 ⟨by rw[D.cell (p:=⟨b,0,none⟩) h.lt]; exact h.c0,by rw[D.cell (p:=⟨b,1,none⟩) h.lt]; exact h.c1,by rw[D.frozen (p:=⟨b,1,none⟩) h.lt]; exact h.fz,h.row.below D,h.off,h.hp,by have:=D.size; have:=h.lt; omega⟩
abbrev Rd.set{w:VO}{b:Nat}{v:aaT}{l:List UInt8}{p q:Nat}(h:Rd w b v l p)(D:q<=l.length):Rd (w.setCell ⟨b,1,none⟩ (.i q)) b v l q:=
 ⟨by rw[World.cell?_setCell_other _ _ _ _ Y]; exact h.c0,World.cell?_setCell_same _ _ _ h.c1,by simpa using h.fz,h.row.ch ((Ch.refl b w).setCell _ _) h.off,h.off,D,by simpa[World.setCell]using h.lt⟩
abbrev next_any(l:List UInt8)(b p k:Nat)(v:aaT)(w:VO)(h:Rd w b v l p)(hk:p+k<=l.length)(h0:0<l.length) :
  abB prog 113 #[.q b 0,.i k] w λe w'=>∃J,e = .R J∧Rd w' b v l (p+k)∧Ch b w w'∧bP w' J ((l.drop p).take k)∧Off b J:=by
 obtain⟨S,o,cap,D,hb,hl,hm,hc⟩:=dP h.row I h0;subst D;have D:S≠b:=h.off h0 _ _ _ I;refine(ab8 l b p k S o cap w hm hl hb D hc h.c0 h.c1 h.fz hk).mono ?_;rintro e w' ⟨J,n,rfl,hw,hr,S⟩;have he:(p:Int)+(k:Int)=((p+k:Nat):Int):=Z
 rw[he]at hw;refine⟨J,I,?_,?_,hr,?_⟩
 .rw[hw]; exact(h.set hk).drewN n
 .rw[hw]; exact((Ch.refl b w).setCell _ _).drewN n
 intro ad n' cap' J;exact λe=>D (by rw[<-e]; exact S ad n' cap' J)
abbrev Qu(v:aaT)(l:List UInt8)(i:Nat)(w:VO)(D:bP w v l)(h:i<=l.length) :
  abB prog 73 #[v,.i i] w λe w'=>∃b,e = .R (.tuple #[.q b 0,.i 0])∧Rd w' b v l i∧Ext w w'∧w.heap.size<=b:=by
 refine(ab7 v l i w D h).mono ?_;rintro e w' ⟨rfl,rfl⟩;refine⟨_,I,⟨?_,?_,?_,D.below (aH _ _),aie D (aDd _),h,by simp⟩,aH _ _,aDd _⟩
 .rw[World.cell?_alloc_at _ _ _ _ I]; rfl
 .rw[World.cell?_alloc_at _ _ _ _ I]; rfl
 rw[World.frozen?_alloc_at _ _ _ _ I]
open Go.RowKit En Go.Sx
variable{α:Type}
def Qv(w:VO)(b:Nat)(v:aaT)(l:List UInt8)(p:Nat)(r:Except Nat (Nat×Nat))(e:Ending)(w':VO):Prop:=
 ∃q,Rd w' b v l q∧Ch b w w'∧(match r with
  | .ok (n,k)=>q=p+k∧e = .R (.tuple #[.int .u64 (n:Int),.i 0])
  | .error er=>e = .R (.tuple #[.int .u64 0,.i er]))
variable{b p k f acc:Nat}{v:aaT}{w':VO}
abbrev Qw(l:List UInt8)(b p:Nat)(v:aaT)(w:VO)(h:Rd w b v l p) :
  abB prog 112 #[.q b 0] w λe w'=>e = .R (.i (l.length-p:Nat))∧Rd w' b v l p∧Ch b w w':=by
 refine(Un v l b p w h.row h.c0 h.c1 h.hp).mono ?_;rintro e w' ⟨rfl,n,rfl⟩;exact⟨I,h.drewN n,(Ch.refl b w).drewN n⟩
abbrev Ya{w:VO}{l:List UInt8}{c:Nat}(D:Hid (mW 9 (l.drop p)=comb k acc (mW f (l.drop (p+k)))))(J:mW f (l.drop (p+k)) = .ok (c,1))
  (S:Rd w' b v l (p+k+1)) (hc:Ch b w w') {x:Int} (hx:x=((acc+128^k*c:Nat):Int)):Qv w b v l p (mW 9 (l.drop p)) (.R (.tuple #[.int .u64 x,.i 0])) w':=by
 refine⟨p+k+1,S,hc,?_⟩;rw[D.out,J,hx];exact⟨Z,I⟩
abbrev Hl{w:VO}{l:List UInt8}{q er:Nat}(D:Hid (mW 9 (l.drop p)=comb k acc (mW f (l.drop (p+k)))))(J:mW f (l.drop (p+k)) = .error er)
  (S:Rd w' b v l q) (hc:Ch b w w'):Qv w b v l p (mW 9 (l.drop p)) (.R (.tuple #[.int .u64 0,.i er])) w':=by
 refine⟨q,S,hc,?_⟩;rw[D.out,J];rfl
abbrev Yb:∀c:Fin 256,bits .andNot .u8 (c.val:Int) 128=((c.val%128:Nat):Int):=by decide +kernel
abbrev Uo(c:UInt8)(acc k:Nat)(h:acc<128^k)(hk:k<=9)(J:k<9∨c.toNat<2) :
  bits BinOp.or IntKind.u64 (acc:Int) (IntKind.u64.wrap (IntKind.u64.wrap (bits BinOp.andNot IntKind.u8 (c.toNat:Int) 128)*2^(7*k)))=((acc+128^k*(c.toNat%128):Nat):Int):=by
 have D:=Yb ⟨c.toNat,c.toNat_lt⟩;simp only at D;rw[D];have D:(128:Nat)^k=2^(7*k):=by rw[Nat.pow_mul]
 have S:2^(7*k)<=2^63:=aEm Z Z;have hb:(c.toNat%128)*2^(7*k)<18446744073709551616:=by
  rcases J with J | J
  .have h2:2^(7*k)<=2^56:=aEm Z Z;have J:c.toNat%128<=127:=Z
   have:=aE1 J h2;omega
  have J:c.toNat%128<=1:=Z
  have:=aE1 J S;omega
 have w1:IntKind.u64.wrap ((c.toNat%128:Nat):Int)=((c.toNat%128:Nat):Int):=by rw[aEE]; omega
 rw[w1];have J:((c.toNat%128:Nat):Int)*2^(7*k)=(((c.toNat%128)*2^(7*k):Nat):Int):=by push_cast; rfl
 rw[J,aEE];have J:(((c.toNat%128)*2^(7*k):Nat):Int)%18446744073709551616=(((c.toNat%128)*2^(7*k):Nat):Int):=Z
 rw[J,u64_or_nat _ _ Z hb,Nat.or_comm,nat_join (7*k) _ _ (Nat.mul_mod_left _ _) Z,D,aDW,aFl]
abbrev BH(l:List UInt8)(b p:Nat)(v:aaT)(w:VO)(h:Rd w b v l p) :
  abB prog 75 #[.q b 0] w (Qv w b v l p (mW 9 (l.drop p))):=by
 have al:=h.row.len;unfold maxLen at al;have H:=aC8 h;clear h;go_enter func75,ntmps75
 go_wp2_with fail
 go_loopw [4,5] (λn i wr=>∃k f acc:Nat,i = .i k∧k+f=9∧n = .int .u64 acc∧acc<128^k∧Rd wr b v l (p+k)∧Hid (mW 9 (l.drop p)=comb k acc (mW f (l.drop (p+k))))∧Ch b w wr) (λ_ i _=>10-(intOf i).toNat)
 case atStart=>exact⟨0,9,0,I,I,I,Z,H.out,(abU _).symm,Ch.refl _ _⟩
 case round =>
  obtain⟨k,f,acc,rfl,a4,rfl,ae,ab,HU,ah⟩:=hrel;have HC:=aC8 (Qw l b (p+k) v wr ab);have ax:=ab.hp;have J:=aC8 ab;have HA:=aC8 ae;clear ab ae;go_wp2_with fail
  refine HC.out.mono ?_;rintro e w' ⟨rfl,aa,Yc⟩;clear HC J;by_cases hlt:p+k<l.length
  .have ar:(0:Int)<((l.length-(p+k):Nat):Int):=Z
   have HN:=aC8 (next_any l b (p+k) 1 v w' aa Z Z);have J:=aC8 aa;clear aa;go_wp2_with fail
   refine HN.out.mono ?_;rintro e w3 ⟨v',rfl,ai,av,D,aw⟩;clear HN J;have ac:(l.drop (p+k)).take 1=[l[p+k]]:=by rw[aEu hlt]; rfl
   rw[ac]at D;obtain⟨c,af⟩:∃c,l[p+k]=c:=⟨_,I⟩;rw[af]at D;obtain⟨bb,o,cap,hv,hb,hl,hm,hc⟩:=dP D I Nat.one_pos;have am:=hc 0 Nat.one_pos;simp only[aFe,aFV]at am;rw[hv];have HD:=aC8 (aEu hlt);rw[af]at HD;clear hc hv D ac af;have J:=aC8 ai;have Qx:=Ch.trans ah (Ch.trans Yc av);clear ai;have ay:=c.toNat_lt;have an:k<=9:=Z
   cases f with
   | zero =>
    obtain rfl:k=9:=by omega
    rcases aFU c.toNat 1 with h1 | h1 | h1
    .have hc1:((c.toNat:Int)==0)=true:=by rw[aDu]; omega
     have S:Hid (mW 0 (l.drop (p+9)) = .error 3):=by rw[HD.out]; simp only[mW]; rw[aC9 Z]; rfl
     go_wp2_with fail
     go_ret2
     exact Hl HU S.out J.out Qx
    .have hc1:((c.toNat:Int)==0)=false:=by rw[aDH]; omega
     have S:Hid (mW 0 (l.drop (p+9)) = .ok (c.toNat,1)):=by rw[HD.out]; simp only[mW]; rw[aDb h1,h1]; rfl
     have HS:=aC8 (Uo c acc 9 HA.out Z (.inr Z));have az:(c.toNat:Int)<=1:=Z
     have a3:(c.toNat:Int)<128:=Z
     have H1:=aC8 h1;clear h1;go_wp2_with fail
     go_ret2
     refine Ya HU S.out J.out Qx (HS.out.trans ?_);have:=H1.out; rw[this]
    have S:Hid (mW 0 (l.drop (p+9)) = .error 3):=by rw[HD.out]; simp only[mW]; rw[aC9 Z]; rfl
    go_wp2_with fail
    go_ret2
    exact Hl HU S.out J.out Qx
   | succ f =>
    have an:((k:Int)==9)=false:=by rw[aDH]; omega
    have HS:=aC8 (Uo c acc k HA.out Z (.inl Z));by_cases hlo:c.toNat<128
    .have aq:(c.toNat:Int)<128:=Z
     have ag:Hid (c.toNat%128=c.toNat):=aFf hlo;rcases aD0 c.toNat with h0 | h0
     .have ap:((c.toNat:Int)==0)=true:=by rw[aDu]; omega
      rcases aD0 k with hk | hk
      .have S:Hid (mW (f+1) (l.drop (p+k)) = .ok (c.toNat,1)):=by rw[HD.out]; simp only[mW]; rw[aDb hlo,aC9 Z]; rfl
       have ao:¬(0:Int)<(k:Int):=Z
       have HK:=aC8 hk;have H0:=aC8 h0;clear hk h0;go_wp2_with fail
       go_ret2
       exact Ya HU S.out J.out Qx (HS.out.trans (by rw[ag.out]))
      have S:Hid (mW (f+1) (l.drop (p+k)) = .error 3):=by rw[HD.out]; simp only[mW]; rw[aDb hlo,aDb ⟨h0,Z⟩]; rfl
      have ao:(0:Int)<(k:Int):=Z
      have H0:=aC8 h0;clear h0;go_wp2_with fail
      go_ret2
      exact Hl HU S.out J.out Qx
     have ap:((c.toNat:Int)==0)=false:=by rw[aDH]; omega
     have S:Hid (mW (f+1) (l.drop (p+k)) = .ok (c.toNat,1)):=by rw[HD.out]; simp only[mW]; rw[aDb hlo,aC9 Z]; rfl
     go_wp2_with fail
     go_ret2
     exact Ya HU S.out J.out Qx (HS.out.trans (by rw[ag.out]))
    have aq:¬(c.toNat:Int)<128:=Z
    have HL:=aC8 hlo;clear hlo;go_wp2_with fail
    go_roundw
    case rel =>
     refine⟨k+1,f,acc+128^k*(c.toNat%128),by go_num,Z,by rw[HS.out],?_,J.out,?_,Qx⟩
     .have:=HA.out;rw[aDY];have h2:c.toNat%128<=127:=Z
      have:=aDZ (128^k) h2;omega
     show _=_;rw[HU.out,HD.out,afa f c _ HL.out,abV]; rfl
    case measure=>simp[intOf]; omega
  have ar:¬(0:Int)<((l.length-(p+k):Nat):Int):=Z
  have S:Hid (mW f (l.drop (p+k)) = .error 4):=by rw[aEB Z,aiM]; rfl
  have Qx:=Ch.trans ah Yc;have J:=aC8 aa;clear aa;go_wp2_with fail
  go_ret2
  exact Hl HU S.out J.out Qx
open Go.RowKit En Go.Sx
variable{α:Type}
abbrev aiY{l:List UInt8}{i:Int}(h:i<0∨(l.length:Int)<i):yV l i=(0,0,2):=by unfold yV; rw[aDb h]
abbrev amG{l:List UInt8}{i n k:Nat}(h:i<=l.length)(D:mW 9 (l.drop i) = .ok (n,k)):yV l i=(n,i+k,0):=by
 unfold yV; rw[aC9 Z,aEU,D]
abbrev aiZ{l:List UInt8}{i e:Nat}(h:i<=l.length)(D:mW 9 (l.drop i) = .error e):yV l i=(0,0,e):=by
 unfold yV; rw[aC9 Z,aEU,D]
abbrev aaj{l:List UInt8}{e:Nat}(D:mW 9 l = .error e):((e:Int) != 0)=true:=by
 rw[bne_iff_ne]; rcases He _ _ _ D with h | h<;>omega
abbrev apK (r:Nat×Nat×Nat):aaT := .tuple #[.int .u64 (r.1:Int),.i r.2.1,.i r.2.2]
abbrev yc(v:aaT)(l:List UInt8)(i:Int)(w:VO)(D:bP w v l) :
  abB prog 47 #[v,.i i] w (VH w (apK (yV l i))):=by
 by_cases hbad:i<0∨(l.length:Int)<i
 .rw[aiY hbad];have HF:=aC8 (JA v l i w D hbad);clear hbad;go_enter func47,ntmps47
  go_wp2_with fail
  refine HF.out.mono ?_;rintro e w' ⟨rfl,rfl⟩;go_wp2_with fail
  go_ret3
  exact⟨I,aDC _ _⟩
 obtain⟨p,rfl⟩:∃p:Nat,i=p:=⟨i.toNat,Z⟩;have hp:p<=l.length:=Z
 have HF:=aC8 (Qu v l p w D hp);clear hbad;have hl:=D.len;unfold maxLen at hl;cases hu:mW 9 (l.drop p)with
 | error er =>
  rw[aiZ hp hu];have D:=aaj hu;have HU:=aC8 hu;clear hu;go_enter func47,ntmps47
  go_wp2_with fail
  refine HF.out.mono ?_;rintro e w1 ⟨b,rfl,D,J,hb⟩;have HN:=aC8 (BH l b p v w1 D);rw[HU.out]at HN;clear D HF;go_wp2_with fail
  refine HN.out.mono ?_;rintro e w2 ⟨q,D,S,rfl⟩;have HR:=aC8 D;have HB:=aC8 (aFh J (S.below hb J.size));clear D S J HN;go_wp2_with fail
  go_ret3
  exact⟨I,HB.out⟩
 | ok r =>
  obtain⟨n,k⟩:=r;rw[amG hp hu];have HU:=aC8 hu;clear hu;go_enter func47,ntmps47
  go_wp2_with fail
  refine HF.out.mono ?_;rintro e w1 ⟨b,rfl,D,J,hb⟩;have HN:=aC8 (BH l b p v w1 D);rw[HU.out]at HN;clear D HF;go_wp2_with fail
  refine HN.out.mono ?_;rintro e w2 ⟨q,D,S,hq,rfl⟩;have h1:=D.c1;have HB:=aC8 (aFh J (S.below hb J.size));have HQ:=aC8 hq;clear D S J HN hq;go_wp2_with fail
  go_quiet (fail)
  go_wp2_with fail
  go_ret3
  rw[HQ.out];exact⟨I,below_drewN HB.out _⟩
open Go.RowKit En Go.Sx
variable{α:Type}
open Go.RowKit En Go.Sx
variable{α:Type}
abbrev Yd(l:List UInt8)(i:Int):(yV l i).1<18446744073709551616:=by
 unfold yV;split
 .simp
 split
 .rename_i h; exact(G9 h).1
 simp
abbrev auM (r:Int×Nat×Nat):aaT := .tuple #[.i r.1,.i r.2.1,.i r.2.2]
abbrev MH(k:IntKind)(x y:Int):bits .xor k x y=bits .xor k y x:=by
 show k.wrap ((BitVec.ofInt k.bits x^^^BitVec.ofInt k.bits y).toNat:Int)=k.wrap ((BitVec.ofInt k.bits y^^^BitVec.ofInt k.bits x).toNat:Int);rw[BitVec.xor_comm]
abbrev afB(a:Nat)(D:a<9223372036854775808):bits .xor .i64 (a:Int) 0=(a:Int):=by
 show IntKind.i64.wrap ((BitVec.ofInt 64 (a:Int)^^^BitVec.ofInt 64 0).toNat:Int)=_;have D:BitVec.ofInt 64 0=0#64:=by decide
 rw[D,BitVec.xor_zero,ofInt_u64 a Z];simp[IntKind.wrap,IntKind.bits,IntKind.signed];omega
abbrev Ye(n:Nat)(h:n<18446744073709551616):bits BinOp.xor IntKind.i64 ((n:Int)/2) (wrap64 (-wrap64 (bits BinOp.and IntKind.u64 (n:Int) 1)))=FD n:=by
 rw[Lib.u64_and1 _ Z Z];unfold FD;have e:(n:Int)/2=((n/2:Nat):Int):=I;rcases Nat.mod_two_eq_zero_or_one n with S | S
 .have J:(n:Int)%2=0:=Z
  have D:wrap64 (-wrap64 0)=0:=by simp[wrap64]
  rw[J,D,e,afB _ Z,aC9 Z]
 have J:(n:Int)%2=1:=Z
 have D:wrap64 (-wrap64 1) = -1:=by simp[wrap64]
 rw[J,D,e,MH,i64_not _ Z,aDb S]
abbrev Yf(v:aaT)(l:List UInt8)(i:Int)(w:VO)(D:bP w v l) :
  abB prog 115 #[v,.i i] w (VH w (auM (vat l i))):=by
 have J:=aC8 (yc v l i w D);have hn:=Yd l i;unfold vat;generalize yV l i=r at *;obtain⟨n,next,er⟩:=r;simp only at hn;clear D;go_enter func115,ntmps115
 go_wp2_with fail
 refine J.out.mono ?_;rintro e w' ⟨rfl,D⟩;go_wp2_with fail
 go_ret3
 exact⟨by rw[Ye _ hn]; rfl,D⟩
end
section
open Go.RowKit Go.Sx
variable{α:Type}{K:Nat}
abbrev apL (w:VO)(v:aaT)(L:List bJ):Prop:=aI 4 bJ.cells w v L
variable{p b cap c:Nat}{bad:Bool}
abbrev Ur{w0 w:VO}{bl:List (Nat×List aaT)}(R:Rw w0 w bl []):Rw w0 w bl [⟨5,1,.sn,0,[]⟩]:=
 ⟨λr D=>by obtain rfl:=aDK.1 D; exact⟨I,.inl ⟨I,I⟩⟩,R.lt,R.apart⟩
abbrev amH(c d:bJ)(w:VO):(binOp .eql 178 (.agg c.cells.toArray) (.agg d.cells.toArray)).run prog w = .ok (.b (c=d)) w:=by
 rw[<-Qh]; exact akM ..
abbrev jO (w:VO)(v:aaT)(l:List UInt8):Prop:=aI 1 (λn:UInt8=>[iy n]) w v l
abbrev N7{w:VO}{p:bJ} :
  abB prog 135 #[.agg p.cells.toArray] w λe w'=>∃v,e = .R v∧OwnB w.heap.size w' v (Px.pb p)∧Ext w w':=by
 skip;refine aCG func135 ntmps135 λS=>aCJ S p.cells (λu b2 J D S=>?_);have R:=aDV S;refine adr S 9 [] [.M 0 0,.M 0 1,.M 0 2,.M 0 3] λS=>aCO S λS=>Sx.newRow S R 11 4 5 1 p.cells λJ u D E7 X8 R S=>aCW S λS=>aCB S D (λS=>?_);exact⟨_,I,R.own _ aDq,S.E⟩
abbrev Yg{w:VO}{v:aaT}{L:List bJ}(h:apL w v L)(hn:L.length<=1000000) :
  abB prog 133 #[v] w λe w'=>∃v',e = .R v'∧OwnB w.heap.size w' v' (Px.enc L)∧Ext w w':=by
 obtain⟨a,cap,rfl⟩:=h.shape;refine aDi func133 ntmps133 λac S=>aCE λ_ gJ=>apB S 1 [] [(2,.sn)] λS=>aCC<|gJ _ _<|aCE λ_ Wx=>apB S 1 [] [(3,.sn)] λS=>aCC<|Wx _ _<|aDs λ_ κ3=>aCE λ_ κ4=>apB S 1 [] [(4,.i 0)] λS=>aCC<|κ4 _ _<|aD9 ?_;have R:=aDV S;have R:=Ur R;refine Vp.loop (ι:=Nat×aaT×List (Nat×bJ)) (λp a' w'=>(Px.Du L p.1 p.2.2)∧Rw w w' [] [⟨5,1,p.2.1,(Px.rb p.2.2).length,(Px.rb p.2.2).map iy⟩]∧Sx.St w a' w' 44 [(0,.s a L.length cap),(2,.sn),(3,p.2.1),(4,.i p.1)] [] []) (λp=>L.length-p.1) (0,(.sn),[]) ⟨Px.Du.zero L,R,S.sn⟩ ?_;rintro⟨i,v,Rn⟩ ac u hI;try dsimp only at hI
 obtain⟨hR,R,S⟩:=hI;have hE:=hR;refine aDs λ_ AB=>aCE λ_ κ6=>apB S 4 [] [(9,.b ((i:Int)<(L.length:Int)))] λS=>aCC (κ6 _ _ ?_);refine aCX S (λmJ=>?_) (λmJ=>?_)
 .refine aDM<|AB _ _<|aD9<|aCE (λ_ Qc=>?_);have hi:i<L.length:=by have:=aDw mJ; omega
  obtain⟨x,hx⟩:∃z,L[i]=z:=⟨_,I⟩;refine apB S 2 [] [(5,.i i)] λS=>aCC<|Qc _ _<|aDs (λκq Xh=>?_);have ai:∀(k:Nat) (ac:Act) (u:VO),(Rw w u [] [⟨5,1,v,(Px.rb Rn).length,(Px.rb Rn).map iy⟩])->(k<=L.length)->(i<=k)->(∀(j:Nat) (hj:j<L.length),i<=j->j<k->L[j]=x)->(∀h:k<L.length,L[k]≠x)->Sx.St w ac u 44 [(0,.s a L.length cap),(2,.sn),(3,v),(4,.i i),(5,.i k)] [] []->κq ac u:=by
   intro k ac u R a8 bt aq ab S;refine Xh _ _<|aCE (λ_ Qy=>?_);have ax:i<k:=by rcases aD7 i k with h | h; exact h; obtain rfl:k=i:=Z; exact absurd hx (ab hi)
   refine apB S 5 [.re 31 (.i (IntKind.i64.wrap ((k:Int)-(i:Int)))) (.i (k-i:Nat)),.re 32 (.int .u64 (IntKind.u64.wrap ((k-i:Nat):Int))) (.int .u64 ((k-i:Nat):Int))] [(28,v),(32,.int .u64 ((k-i:Nat):Int))] (hk:=⟨(qj Z Z),(wrap_u64 Z),G⟩) λS=>aEf S (some 33) (fZ (k-i) _ Z) ?_;rintro e u ⟨br,rfl,a7,qC⟩;refine⟨_,I,qC,λac S=>?_⟩;have ay:=Px.amn hE.good;rw[hE.flat,aD4]at ay;have bc:(En.dY 10 (k-i)).length<=10:=En.iP 10 _;obtain⟨R,be⟩:=R.bH S (aDx qC);refine aDf S R 0 34 I AA (jY (a7)) (by show(Px.rb Rn).length+(En.dY 10 (k-i)).length<=9223372036854775807; omega) (by show((Px.rb Rn).length+(En.dY 10 (k-i)).length)*1<=140737488355328; omega) λac u ag a9 R S=>apB S 1 [] [(3,ag)] λS=>aCC<|Qy _ _<|aCE (λ_ xA=>?_);have al:i<L.length:=Z
   obtain⟨bg,bh,rfl,af,az,Yh,a3⟩:=aDN h (λ_=>I) (i) al;have S:=S.view0 Yh a3;refine apB S 5 [.idx i L.length,.M 0 0] [(35,ag),(39,.agg af.cells.toArray)] (hk:=⟨al,G⟩) λS=>aEf S (some 40) (N7 (p:=af)) ?_;rintro e u ⟨bs,rfl,ap,Gq⟩;rw[show af=x from by rw[<-az]; exact hx]at ap;refine⟨_,I,Gq,λac S=>?_⟩;obtain⟨R,bj⟩:=R.bH S (aDx Gq);refine aDf S R 0 41 I AA (jY (ap)) (by show(Px.rb Rn).length+(En.dY 10 (k-i)).length+4<=9223372036854775807; omega) (by show((Px.rb Rn).length+(En.dY 10 (k-i)).length+4)*1<=140737488355328; omega) λac u aa bb R S=>apB S 1 [] [(3,aa)] λS=>aCC<|xA _ _<|aEw<|apB S 2 [] [(4,.i k)] λS=>aCC ?_;show ∃i',_∧_;exact⟨(k,aa,(Rn++[(k-i,x)])),⟨hE.step hi hx ax a8 aq ab,R.as (show [(⟨5,1,aa,(Px.rb Rn).length+(En.dY 10 (k-i)).length+4,(Px.rb Rn).map iy++(En.dY 10 (k-i)).map iy++(Px.pb x).map iy⟩:Sx.Row)]=[⟨5,1,aa,(Px.rb (Rn++[(k-i,x)])).length,(Px.rb (Rn++[(k-i,x)])).map iy⟩] by rw[Px.aiP]; simp[Px.pb,Nat.add_assoc]),S.sn⟩,by show _-_<_-_; omega⟩
  refine aD9 ?_;refine Vp.loop (ι:=Nat) (λp a' w'=>((i<=p∧p<=L.length)∧∀(j:Nat) (hj:j<L.length),i<=j->j<p->L[j]=x)∧Rw w w' [] [⟨5,1,v,(Px.rb Rn).length,(Px.rb Rn).map iy⟩]∧Sx.St w a' w' 44 [(0,.s a L.length cap),(2,.sn),(3,v),(4,.i i),(5,.i p)] [] []) (λp=>L.length-p) (i) ⟨⟨⟨aDd _,Z⟩,λj hj h1 h2=>by omega⟩,R,S.sn⟩ ?_;rintro k ac u hI;try dsimp only at hI
  obtain⟨hR,R,S⟩:=hI;have bd:=hR.1;refine aDs λ_ ar=>aDs (λ_ ah=>?_);by_cases auQ:k<L.length
  .have apP:k<L.length:=Z
   obtain⟨bk,bm,rfl,D,am,a4,a5⟩:=aDN h (λ_=>I) (k) apP;have S:=S.view0 a4 a5;have MI:i<L.length:=Z
   obtain⟨J,an,ao,a6⟩:=Vp.apR h (λ_=>I) (i) MI;have S:=S.view0 ao a6;refine aDj S 15 [.re 14 (.b ((k:Int)<(L.length:Int))) (.b true),.idx k L.length,.M 1 0,.idx i L.length,.M 0 0,.cmp .eql 178 (.tmp 19) (.tmp 23) (.agg #[.u (D.r.toNat:Int),.u (D.g.toNat:Int),.u (D.b.toNat:Int),.u (D.a.toNat:Int)]) (.agg #[.u (J.r.toNat:Int),.u (J.g.toNat:Int),.u (J.b.toNat:Int),.u (J.a.toNat:Int)]) (.b (D=J))] [] [(25,.b (D=J))] trivial (hk:=⟨(aDc Value.b (aEy Z)),apP,MI,(aEg (λ_=>amH D J _) X),G⟩) λac u JB S=>aCC (ah _ _ ?_);refine aCX S (λae=>?_) (λae=>?_)
   .refine aDM<|ar _ _<|aD9<|aEw<|apB S 3 [.re 27 (.i (IntKind.i64.wrap ((k:Int)+1))) (.i (k+1:Nat))] [(5,.i (k+1:Nat))] (hk:=⟨aCS Z,G⟩) λS=>aCC ?_;obtain⟨R,bo⟩:=R.bH S (aDx JB);show ∃i',_∧_;exact⟨(k+1),⟨⟨⟨Z,Z⟩,λj hj h1 h2=>by
     by_cases e:j=k
     .subst e; have:=ae; rw[am]; rw[<-hx,an]; simpa using this
     exact hR.2 j hj h1 Z⟩,R,S.sn⟩,by show _-_<_-_; omega⟩
   refine aEz ?_;obtain⟨R,bp⟩:=R.bH S (aDx JB);exact ai k _ _ R hR.1.2 hR.1.1 hR.2 (λh e=>by rw[am]at e; subst e; have:=ae; rw[<-hx,an]at this; simp at this) S.sn
  refine aDj S 15 [.re 14 (.b ((k:Int)<(L.length:Int))) (.z),.dead 16 (.z),.dead 17 (.z),.dead 18 (.z),.dead 19 (.z),.dead 20 (.z),.dead 21 (.z),.dead 22 (.z),.dead 23 (.z),.dead 24 (.z)] [] [(25,.z)] trivial (hk:=⟨(aDc Value.b (aER Z)),G⟩) λac u av S=>aCC<|ah _ _<|Fq S<|aEz ?_;obtain⟨R,bq⟩:=R.bH S (aDx av);exact ai k _ _ R hR.1.2 hR.1.1 hR.2 (λh=>absurd h auQ) S.sn
 refine aEz<|κ3 _ _<|aCE λ_ aw=>apB S 2 [] [(2,v)] λS=>aCC<|aw _ _<|RY S results133 ?_;exact⟨_,I,by rw[<-hE.done (by have:=aDA mJ; omega)]; exact R.own _ aDq,S.E⟩
def tkP(l:List UInt8)(p:Nat)(bad:Bool)(n:Nat):Nat:=if (bad||decide (l.length<p+n))=true then p else p+n
def Gx(l:List UInt8)(p:Nat)(bad:Bool)(n:Nat):Bool:=bad||decide (l.length<p+n)
def Yi(l:List UInt8)(p:Nat)(bad:Bool)(n:Nat):List UInt8:=if (bad||decide (l.length<p+n))=true then List.replicate n 0 else (l.drop p).take n
abbrev EH{l:List UInt8}{n:Nat}(h:Gx l p bad n=true):tkP l p bad n=p∧Yi l p bad n=List.replicate n 0:=by
 unfold Gx at h; unfold tkP Yi; rw[aDb h,aDb h]; exact⟨I,I⟩
abbrev JC{l:List UInt8}{n:Nat}(h:Gx l p bad n=false):bad=false∧p+n<=l.length∧tkP l p bad n=p+n∧Yi l p bad n=(l.drop p).take n:=by
 unfold Gx at h; unfold tkP Yi; rw[h];simp only[aDX,aDQ]at h;exact⟨h.1,Z,by simp,by simp⟩
abbrev aak{l:List UInt8}{p n:Nat}{bad:Bool}:(Yi l p bad n).length=n:=by
 cases h:Gx l p bad n
 .obtain⟨-,h1,-,h2⟩:=JC h; rw[h2]; simp; omega
 rw[(EH h).2]; simp
abbrev Yj{l:List UInt8}{n:Nat}(D:p<=l.length):tkP l p bad n<=l.length:=by
 cases h:Gx l p bad n
 .obtain⟨-,h1,h2,-⟩:=JC h; omega
 rw[(EH h).1]; exact D
abbrev ai0{l:List UInt8}{p:Nat}{bad:Bool}:∃q:bJ,Yi l p bad 4=Px.pb q:=by
 have h:=@aak l p 4 bad;match h1:Yi l p bad 4,h with
 | [a,b,c,d],_=>exact⟨⟨a,b,c,d⟩,I⟩
abbrev aK{b2:Nat}{w u J:VO}(h:Ch b w u)(c:Ch b2 u J)(D:b2=b∨w.heap.size<=b2:=by first | exact .inl I | exact .inr Z):Ch b w J:=by
 rcases D with rfl | D
 .exact h.trans c
 exact⟨c.os.trans h.os,c.tape.trans h.tape,c.output.trans h.output,aDy h.size c.size,λi D hn=>(c.block i (aDL D h.size) (λe=>by simp only[aDe]at e; omega)).trans (h.block i D hn)⟩
abbrev Ut{w:VO}{a:Option aGk}{l:List UInt8}{n:Nat}(h:jO w (.s a l.length c) l)(hp:p+n<=l.length)(hn:0<n):l.length<=c∧∃D o,a=some ⟨D,o,none⟩∧D<w.heap.size∧w.rangeAt D (o+p) (((l.drop p).take n).map iy):=by
 obtain⟨a',cap,J,hm,S⟩:=h;simp only[aDO,true_and]at J;obtain⟨rfl,rfl⟩:=J;rcases S with ⟨rfl,-⟩ | ⟨D,o,rfl,hb,hl,hc⟩
 .simp only[aEt]at hp; omega
 refine⟨hl,D,o,I,hb,λj v J=>?_⟩;have D:j<n:=by
  have:=(List.getElem?_eq_some_iff.1 J).1;simp only[aEh,aD4,aE0]at this; omega
 have S:=hc (p+j) Z 0 Z;rw[List.getElem?_map,List.getElem?_take_of_lt D,List.getElem?_drop,List.getElem?_eq_getElem Z]at J;obtain rfl:=aDo J;rw[show o+p+j=o+(p+j)*1+0 by omega,S]; rfl
abbrev afD{w0:VO}{a:Option aGk}{l:List UInt8}(h:jO w0 (.s a l.length c) l)(hp:p+4<=l.length) :
  ∃D o,(.s (pY a p c 1) (p+4-p) (c-p):aaT) = .s (some ⟨D,o,none⟩) 4 (c-p)∧D<w0.heap.size∧w0.rangeAt D o (((l.drop p).take 4).map iy):=by
 obtain⟨hl,D,o,rfl,J,S⟩:=Ut h hp Z;refine⟨D,o+p*1,?_,J,by rw[Nat.mul_one]; exact S⟩;unfold pY;rw[aC9 Z,aF5]; simp[Addr.add]
abbrev acd{w0 w:VO}{a:Option aGk}{pk:Bool}{l:List UInt8}(J:Ext w0 w)(hx:Bx w b #[.s a l.length cap,.i p,.b bad,.b pk])(hb:w0.heap.size<=b)(h:jO w0 (.s a l.length cap) l)(D:p<=l.length) :
  abB prog 116 #[.q b 0,.i 4] w λe w'=>∃bk o c,e = .R (.s (some ⟨bk,o,none⟩) 4 c)∧w'.rangeAt bk o ((Yi l p bad 4).map iy)∧bk<w'.heap.size∧(bk<w0.heap.size∨w.heap.size<=bk)∧Ext w0 w'∧Ch b w w'∧Bx w' b #[.s a l.length cap,.i (tkP l p bad 4:Nat),.b (Gx l p bad 4),.b pk]:=by
 have D:l.length<=9223372036854775807:=h.len;refine aC5 func116 ntmps116 J hx hb λS=>aCV S 22 [.M 0 2,.M 0 0,.M 0 1,.re 24 (.i (IntKind.i64.wrap ((l.length:Int)-(p:Int)))) (.i (l.length-p:Nat))] [] [(26,.b ((bad||false)||(decide (((l.length-p:Nat):Int)<4))))] trivial (hk:=⟨(qj Z Z),G⟩) λu E4 S=>aCD S ((bad||false)||(decide (((l.length-p:Nat):Int)<4))) (λJ S=>?_) (λJ S=>?_)
 .refine X5 S 0 (off:=2) (v := .b true) I (λu D S=>?_);have aa:=(aK ((Ch.trans (Ch.refl b w) (Ch.aT E4))) D);have D:=(aa).size;refine aCJ S [.u 0,.u 0,.u 0,.u 0] (λu b10 Cj IK S=>?_);have D:Gx l p bad 4=true:=by unfold Gx; cases bad; (simp at J |-; omega); rfl
  refine aCB S (.s (some ⟨b10,0,none⟩) 4 4) (λS=>?_);exact⟨_,_,_,I,by rw[(EH D).2]; exact(S.bx 0).range 0 4 I,(S.bx 0).1,.inr (by have:=IK; omega),S.E,((Ch.trans aa (Ch.aT Cj))),by rw[(EH D).1,D]; exact S.bx 1⟩
 have D:Gx l p bad 4=false:=by unfold Gx; cases bad; (simp at J |-; omega); simp at J
 have ab:=(JC D).2.1;have J:=iG h;refine adr S 8 [] [.M 0 1,.re 39 (.i (IntKind.i64.wrap ((p:Int)+4))) (.i (p+4:Nat))] (hk:=⟨(qj Z Z),G⟩) λS=>X5 S 0 (off:=1) (v := .i (p+4:Nat)) I (λu J S=>?_);have pV:=(aK ((Ch.trans (Ch.refl b w) (Ch.aT E4))) J);refine aCV S 15 [.M 0 0,.M 0 1,.re 51 (.i (IntKind.i64.wrap (((p+4:Nat):Int)-4))) (.i p),.M 0 1,.slc p (p+4) cap cap] [] [(56,.s (pY a p cap 1) (p+4-p) (cap-p))] trivial (λu yP S=>?_) (hk:=⟨(qj Z Z),Z,G⟩);obtain⟨bk,o,hv,J,hr⟩:=afD h ab;have ho:=JC D;refine aCB S (.s (pY a p cap 1) (p+4-p) (cap-p)) (λS=>?_);exact⟨bk,o,cap-p,aDc Ending.returned hv,by rw[ho.2.2.2]; exact Vp.qM hr J S.E,aDL J S.E.size,.inl J,S.E,((Ch.trans pV (Ch.aT yP))),by rw[ho.2.2.1,D]; have:=S.bx 0; rw[ho.1]at this; exact this⟩
abbrev FK{w0 w:VO}{a:Option aGk}{pk:Bool}{l:List UInt8}(J:Ext w0 w)(hx:Bx w b #[.s a l.length cap,.i p,.b bad,.b pk])(hb:w0.heap.size<=b)(h:jO w0 (.s a l.length cap) l)(D:p<=l.length) :
  abB prog 78 #[.q b 0] w λe w'=>∃q:bJ,e = .R (.agg q.cells.toArray)∧Px.pb q=Yi l p bad 4∧Ext w0 w'∧Ch b w w'∧Bx w' b #[.s a l.length cap,.i (tkP l p bad 4:Nat),.b (Gx l p bad 4),.b pk]:=by
 skip;refine aC5 func78 ntmps78 J hx hb λS=>aCJ S [.u 0,.u 0,.u 0,.u 0] (λu b2 E3 J S=>?_);have aa:=S.bx 0;have ab:=S.bx 1;have J:=S.old 0;refine AQ S 1 [.s a l.length cap,.i (tkP l p bad 4:Nat),.b (Gx l p bad 4),.b pk] rfl (acd S.E (S.bx 1) (S.old 1) h D) ?_;rintro e u ⟨bk,ok,ck,rfl,hr,ac,J,Yk,DF,Yl⟩;refine⟨_,I,Yk,DF,Yl,λS=>?_⟩;have N8:=(aK ((Ch.trans (Ch.refl b w) (Ch.aT E3))) DF);obtain⟨q,hq⟩:=@ai0 l p bad;rw[hq]at hr;have S:=S.view (cs:=q.cells) ac hr (λp D=>by rcases aDp.1 D with rfl | D; (have:=aa.1; rcases J with h | h<;>(intro e; simp only at e; omega)); obtain rfl:=aDK.1 D; (have:=ab.1; rcases J with h | h<;>(intro e; simp only at e; omega)));refine aCV S 13 [.idx 0 4,.M 2 0,.idx 1 4,.M 2 1,.idx 2 4,.M 2 2,.idx 3 4,.M 2 3] [] [(18,.agg q.cells.toArray)] trivial (hk:=⟨O,O,O,O,G⟩) λu J S=>aCP S 0 (off:=0) (cs:=q.cells) I (λu D S=>?_);have MF:=(aK ((Ch.trans N8 (Ch.aT J))) D);refine aCU S 0 I (v := .agg q.cells.toArray) (λS=>?_);exact⟨q,I,hq.symm,S.E,MF,S.bx 1⟩
abbrev Uu{w0 w:VO}{a:Option aGk}{pk:Bool}{l:List UInt8}(D:Ext w0 w)(J:Bx w b #[.s a l.length cap,.i p,.b bad,.b pk])(hb:w0.heap.size<=b)(h:jO w0 (.s a l.length cap) l)(hp:p<=l.length) :
  abB prog 171 #[.q b 0] w λe w'=>∃q:bJ,e = .R (.agg q.cells.toArray)∧Px.pb q=Yi l p bad 4∧Ext w0 w'∧Ch b w w'∧Bx w' b #[.s a l.length cap,.i (tkP l p bad 4:Nat),.b (Gx l p bad 4),.b pk]:=by
 skip;refine aC5 func171 ntmps171 D J hb λS=>aCF S λu b2 J D S=>AQ S 1 [.s a l.length cap,.i (tkP l p bad 4:Nat),.b (Gx l p bad 4),.b pk] rfl (FK S.E (S.bx 1) (S.old 1) h hp) ?_;rintro e u ⟨q,rfl,hq,Yk,D,Yl⟩;refine⟨_,I,Yk,D,Yl,λS=>?_⟩;have N8:=(aK ((Ch.trans (Ch.refl b w) (Ch.aT J))) D);refine aCH S 0 I (λu J S=>?_);have D:=(aK N8 J);refine aCU S 0 I (v := .agg q.cells.toArray) (λS=>?_);exact⟨q,I,hq,S.E,D,S.kD 1⟩
namespace Px
abbrev Ym{l:List UInt8}{p:Nat}(D:p<=l.length):En.yV l (p:Int)=match En.mW 9 (l.drop p)with | .ok (n,k)=>(n,p+k,0) | .error e=>(0,0,e):=by
 unfold En.yV;rw[aC9 Z]; rfl
abbrev ok1{b:List UInt8}{p k x:Nat}(J:p<=b.length)(D:En.yV b (p:Int)=(k,x,0)):∃c,En.mW 9 (b.drop p) = .ok (k,c)∧x=p+c∧x<=b.length∧1<=c:=by
 rw[Ym J]at D;cases hs:En.mW 9 (b.drop p)with
 | error e=>rw[hs]at D; simp only[aDm]at D; have:=En.He 9 _ _ hs; omega
 | ok r =>
  obtain⟨J,c⟩:=r;rw[hs]at D;simp only[aDm]at D;obtain⟨-,J,S,-⟩:=En.G9 hs;simp only[aE0]at S;exact⟨c,by rw[D.1],Z,Z,J⟩
end Px
end
end Go.Proofs.Vy
section
namespace Go.Sx
open Go.Proofs.Vy Go.RowKit Go.Rel Go.Sx
variable{P:Program}{ops:Array Oper}{Q:Exit->Act->VO->Prop}{w0 w:VO}{a:Act}{os:List Oper}{n:Nat}{l:List (Nat×aaT)}{bl:List (Nat×List aaT)}{vs:List fE}
def afE(os:List Oper):Option (aix×aix×Nat×Nat):=match os with
 | _::o::_=>(match o.guard,o.dst,o.op with
  | none,some d,.convert s t (.tmp x)=>some (s,t,x,d)
  | _,_,_=>none)
 | _=>none
abbrev Yn{w:VO}{A:List aaT}{e:aix}{m:Nat}{D:Nat×Nat}(hA:A.length=m)(hm:m<=maxLen)(J:A.all (·.oneCell')=true):dR (w.alloc (.cells A.toArray e D)) 1 (.s (some ⟨w.heap.size,0,none⟩) m m) m A:=by
 refine⟨Z,λu S=>by rw[aDF]at J; exact J u S,.inr ⟨w.heap.size,0,m,I,by simp,aDd _,hm,λj u hj=>?_⟩⟩;have:(w.alloc (.cells A.toArray e D)).heap[w.heap.size]?=some (.cells A.toArray e D):=by
  show(w.heap.push (.cells A.toArray e D))[w.heap.size]?=_;simp
 rw[aEa];unfold World.cell?;rw[this];simpa using hj
abbrev lit(S:St w0 a w n l bl vs)(d1 d2 m:Nat)(A:List aaT)(t e:aix)(ht:P.underlying t=some (.slice e))(he:P.underlying e=some (.int .u8))
  (next:∀{a' w' b},Ext w w'->dR w' 1 (.s (some ⟨b,0,none⟩) m m) m A->St w0 a' w' n ((d2,.s (some ⟨b,0,none⟩) m m)::l) bl vs->aiw P ops Q (os.drop 2) a' w')
  (hl:(l.lookup d1).isNone=true:=by kernel_rfl) (D:(d1==d2)=false:=by rfl)
  (J:∀r,xE P r os l=some (A,e,.s (some ⟨r,0,none⟩) m m,some d1):=by intro r; kernel_rfl) (D:afE os=some (t,t,d1,d2):=by kernel_rfl) (hA:A.length=m:=by rfl) (hm:m<=maxLen:=by decide) (h1:A.all (·.oneCell')=true:=by kernel_rfl)
  (hd1:uO n (some d1)=true:=by rfl) (ah:uO n (some d2)=true:=by rfl):aiw P ops Q os a w:=by
 have J:=J w.heap.size;cases os with
 | nil=>cases D
 | cons o os =>
 cases os with
 | nil=>cases D
 | cons o2 os =>
  unfold xE at J;unfold afE at D;simp only at J D;split at J
  .rename_i A' ty k' hg hav hev;split at J
   .rename_i v hv;simp only[aDe,aDm]at J;obtain⟨rfl,rfl,rfl,af⟩:=J;simp only[aDX]at hav;have hc:aGe a.eval o=aGe (zJ (lift l) []) o:=by
     refine execOp_congr o (λcs b e1=>by rw[e1]at hav; cases hav.1) λx J=>?_;have D:=hav.2;simp only[aEC,aFs]at D;obtain⟨v,hv⟩:=aEq.1 (D x J);rw[gY (Std.act a) (gX (bZ S.s) o x J) (p:=[]) I hv];simp[zJ,hv]
    have ag:ev0 P k'=some (.value (.s (some ⟨w.heap.size,0,none⟩) m m)):=by
     unfold je at hv;split at hv
     .rename_i h; obtain D:=aDo hv; rw[h]; simp only[Gp.val.injEq]at D; rw[D]
     .cases hv
     cases hv
    have ac:(aGe a.eval o).run P w = .ok (.value (.s (some ⟨w.heap.size,0,none⟩) m m)) (w.alloc (.cells A'.toArray ty)):=by rw[hc,nM hev,oC ag]
    split at D
    .rename_i d s' t' x hg2 apS hop2;simp only[aDe,aDm]at D;obtain⟨rfl,rfl,rfl,rfl⟩:=D;unfold aiw;rw[aDb (by simp[Region.wanted,hg])];left;unfold Oper.wp;rw[ac];simp only[Oper.upon];rw[af];have ae:=uh (d:=some x) S.s hd1 (.s (some ⟨w.heap.size,0,none⟩) m m);have ex:(a.put (some x) (.s (some ⟨w.heap.size,0,none⟩) m m)).eval (.tmp x) = .s (some ⟨w.heap.size,0,none⟩) m m:=ae.has x _ (by simp[zL]);have aa:(aGe (a.put (some x) (.s (some ⟨w.heap.size,0,none⟩) m m)).eval o2).run P (w.alloc (.cells A'.toArray ty)) = .ok (.value (.s (some ⟨w.heap.size,0,none⟩) m m)) (w.alloc (.cells A'.toArray ty (A'.toArray.size,A'.toArray.size+1))):=by
      unfold aGe;rw[hop2];simp only[ex];rw[aEe,Go.Lib.run_convert_bytes_const w _ ty A'.toArray m m ht he];rfl
     unfold aiw;rw[aDb (by simp[Region.wanted,hg2])];left;unfold Oper.wp;rw[aa];simp only[Oper.upon];rw[apS];have ab:=uh (d:=some d) ae ah (.s (some ⟨w.heap.size,0,none⟩) m m);have hE:Ext w (w.alloc (.cells A'.toArray ty (A'.toArray.size,A'.toArray.size+1))):=aH _ _;refine next hE (Yn hA hm h1) ((S.grow hE).act ⟨ab.size,ab.defers,λi v hi=>ab.has i v ?_⟩);simp only[zL,aD5]at hi |-;by_cases hid:i=d
     .subst hid; simpa using hi
     have e1:(i==d)=false:=by simpa using hid
     simp only[e1]at hi |-;by_cases hix:i=x
     .subst hix;rw[Option.isNone_iff_eq_none.1 hl]at hi; cases hi
     have e2:(i==x)=false:=by simpa using hix
     simpa only[e2]using hi
    cases D
   cases J
  cases J
def akN(os:List Oper)(l:List (Nat×aaT)):Option (aix×aix×ByteArray×Nat):=match os with
 | o::_=>(match o.guard,o.dst,o.op with
  | none,some d,.convert s t x=>(match rd (lift l) [] x with
   | some (.string z)=>some (s,t,z,d)
   | _=>none)
  | _,_,_=>none)
 | _=>none
abbrev bytesOf(S:St w0 a w n l bl vs)(d:Nat)(D:List UInt8){src dst e:aix}(hs:P.underlying src=some .string)(hd:P.underlying dst=some (.slice e))(he:P.underlying e=some (.int .u8))(hn:D.length<=maxLen)
  (next:∀{a' w' b cap},Ext w w'->bP w' (.s (some ⟨b,0,none⟩) D.length cap) D->St w0 a' w' n ((d,.s (some ⟨b,0,none⟩) D.length cap)::l) bl vs->aiw P ops Q (os.drop 1) a' w')
  (J:akN os l=some (src,dst,⟨D.toArray⟩,d):=by kernel_rfl) (ac:uO n (some d)=true:=by rfl):aiw P ops Q os a w:=by
 cases os with
 | nil=>cases J
 | cons o os =>
  unfold akN at J;simp only at J;split at J
  .rename_i d' s' t' x hg hdst hop;split at J
   .rename_i z hxx;simp only[aDe,aDm]at J;obtain⟨rfl,rfl,rfl,rfl⟩:=J;have aa:=gX (bZ S.s) o;have ex:a.eval x = .string ⟨D.toArray⟩:=gY (Std.act a) (aa x (by rw[hop]; simp[Op.operands])) (p:=[]) I hxx;have ab:(⟨D.toArray⟩:ByteArray).size=D.length:=by simp[ByteArray.size]
    have hr:=Go.run_bytes_of_string (P:=P) w s' t' e ⟨D.toArray⟩ hs hd he;rw[ab]at hr;have hE:Ext w (w.drew.alloc (.cells (Go.bytesRow ⟨D.toArray⟩ (grownCap w D.length 0 e)) e ((Go.bytesRow ⟨D.toArray⟩ (grownCap w D.length 0 e)).size,(Go.bytesRow ⟨D.toArray⟩ (grownCap w D.length 0 e)).size+1))):=K00 (below_drewN (aDC _ _) 1) (aH _ _);refine apz S d' _ I hg hdst (by unfold aGe; rw[hop]; simp only[ex]; rw[aEe,hr]; rfl) hE (λS=>next hE ⟨_,_,I,grownCap_le_maxLen _ _ _ _ hn,.inr ⟨_,0,I,by show w.heap.size<(w.heap.push _).size; rw[Array.size_push]; omega,grownCap_ge _ _ _ _,λi hi=>?_⟩⟩ S) ac;generalize grownCap w D.length 0 e=cap;have:∀(A:Array aaT) (D:Nat×Nat),(w.drew.alloc (.cells A e D)).heap[w.heap.size]?=some (.cells A e D):=λA D=>by
     show(w.heap.push (.cells A e D))[w.heap.size]?=_;simp
    rw[aEa];unfold World.cell?;rw[this];simp only[Go.bytesRow,aFO];rw[Array.getElem?_append_left (by simpa using hi)];simp[hi,iy]
   cases J
  cases J
end Go.Sx
namespace gq
def one(s:UInt32):UInt32:=if s&&&1=1 then (s>>>1)^^^0xedb88320 else s>>>1
def many:Nat->UInt32->UInt32
 | 0,s=>s
 | n+1,s=>one (many n s)
def byte(s:UInt32)(c:UInt8):UInt32:=many 8 (s^^^c.toUInt32)
def reg(s:UInt32)(l:List UInt8):UInt32:=l.foldl byte s
def update(s:UInt32)(l:List UInt8):UInt32:=(reg (s^^^0xffffffff) l)^^^0xffffffff
def crc(D:List (List UInt8)):UInt32:=D.foldl update 0
def le4(s:UInt32):List UInt8:=[s.toUInt8,(s>>>8).toUInt8,(s>>>16).toUInt8,(s>>>24).toUInt8]
def app(b:List UInt8):List UInt8:=b++le4 (update 0 b)
end gq
namespace Go.Proofs.Vy
open Go.RowKit Go.Sx
variable{α:Type}
abbrev afF(s:UInt32)(l:List UInt8)(c:UInt8):gq.reg s (l++[c])=gq.byte (gq.reg s l) c:=by simp[gq.reg]
abbrev afG(s:UInt32)(l:List UInt8)(k:Nat)(h:k<l.length):gq.reg s (l.take (k+1))=gq.byte (gq.reg s (l.take k)) l[k]:=by
 rw[take_snoc l k h,afF]
abbrev ai1(x:UInt32)(h:(bits .and .u32 (x.toNat:Int) 1==1)=true):bits .xor .u32 ((x.toNat:Int)/(2:Int)) 3988292384=((gq.one x).toNat:Int):=by
 rw[aea,apo];rw[akB]at h;have h':x&&&1=1:=by
  apply aET.1;simp only[aDu]at h;have:=h; simp only[UInt32.reduceToNat]; omega
 simp[gq.one,h']
abbrev amL(x:UInt32)(h:(bits .and .u32 (x.toNat:Int) 1==1)=false):((x.toNat:Int)/(2:Int))=((gq.one x).toNat:Int):=by
 rw[aea];rw[akB]at h;have h':¬x&&&1=1:=by
  intro e; rw[e]at h; simp at h
 simp[gq.one,h']
abbrev Uw(s:UInt32)(v:aaT)(l:List UInt8)(w:VO)(S:bP w v l) :
  abB prog 97 #[bC s,v] w λe w'=>e = .R (bC (gq.update s l))∧w=w':=by
 obtain⟨a,cap,rfl,J,D⟩:=S;have hl:=rQ J D;have J:=aC8 D;clear D;go_enter func97,ntmps97
 go_wp2
 go_loop [0,12] (λs1 i=>∃k:Nat,k<=l.length∧i = .i k∧s1=bC (gq.reg (s^^^0xffffffff) (l.take k))) (λ_ i=>l.length-(intOf i).toNat)
 case atStart=>exact⟨0,aDl _,I,by rw[akA,aec]; rfl⟩
 case round =>
  obtain⟨k,hk,rfl,rfl⟩:=hrel;by_cases hlt:k<l.length
  .rcases J.out with ⟨rfl,_⟩ | ⟨b,o,rfl,hb,hlc,hc⟩
   .simp at hlt
   have D:=hc k hlt;go_wp2
   go_loop [0,20] (λs1 i=>∃j:Nat,j<=8∧i = .i j∧s1=bC (gq.many j ((gq.reg (s^^^0xffffffff) (l.take k))^^^l[k].toUInt32))) (λ_ i=>8-(intOf i).toNat)
   case atStart=>exact⟨0,aDl _,I,by rw[alN,alM]; rfl⟩
   case round =>
    obtain⟨j,D,rfl,rfl⟩:=hrel;by_cases hlt:j<8
    .have E:Hid (gq.many (j+1) ((gq.reg (s^^^0xffffffff) (l.take k))^^^l[k].toUInt32)=gq.one (gq.many j ((gq.reg (s^^^0xffffffff) (l.take k))^^^l[k].toUInt32))):=I;generalize gq.many j ((gq.reg (s^^^0xffffffff) (l.take k))^^^l[k].toUInt32)=x at E;go_wp2
     .go_round
      case rel=>exact⟨j+1,Z,by go_num,by rw[E.out,ai1 x ‹_›]⟩
      case measure=>simp[intOf]; omega
     go_round
     case rel=>exact⟨j+1,Z,by go_num,by rw[E.out,amL x ‹_›]⟩
     case measure=>simp[intOf]; omega
    obtain rfl:j=8:=by omega
    go_wp2
    go_round
    case rel=>exact⟨k+1,Z,by go_num,by rw[afG _ _ _ ‹_›]; rfl⟩
    case measure=>simp[intOf]; omega
  obtain rfl:k=l.length:=by omega
  go_wp2
  go_ret
  exact⟨jS (by rw[akA,aec]; simp only[gq.update]),I⟩
abbrev afH(l:List (List UInt8))(k:Nat)(h:k<l.length):gq.crc (l.take (k+1))=gq.update (gq.crc (l.take k)) l[k]:=by
 rw[take_snoc l k h]; simp only[gq.crc,List.foldl_append,List.foldl_cons,List.foldl_nil]
abbrev crc32(v:aaT)(l:List (List UInt8))(w:VO)(S:yL w v l) :
  abB prog 60 #[v] w λe w'=>e = .R (bC (gq.crc l))∧w=w':=by
 obtain⟨a,cap,rfl,J,D⟩:=S;have hl:=ad8 J D;have J:=aC8 D;clear D;go_enter func60,ntmps60
 go_wp2
 go_loop [3,8] (λs1 i=>∃k:Nat,k<=l.length∧i = .i k∧s1=bC (gq.crc (l.take k))) (λ_ i=>l.length-(intOf i).toNat)
 case atStart=>exact⟨0,aDl _,I,I⟩
 case round =>
  obtain⟨k,hk,rfl,rfl⟩:=hrel;by_cases hlt:k<l.length
  .rcases J.out with ⟨rfl,_⟩ | ⟨b,o,rfl,hb,hlc,hc⟩
   .simp at hlt
   obtain⟨x,D,J⟩:=hc k hlt;go_wp2_with fail
   refine(Uw _ x l[k] _ J).mono ?_;rintro e w' ⟨rfl,rfl⟩;go_wp2
   go_round
   case rel=>exact⟨k+1,Z,by go_num,by rw[afH l k ‹_›]⟩
   case measure=>simp[intOf]; omega
  obtain rfl:k=l.length:=by omega
  go_wp2
  go_ret
  exact⟨jS (by simp only),I⟩
