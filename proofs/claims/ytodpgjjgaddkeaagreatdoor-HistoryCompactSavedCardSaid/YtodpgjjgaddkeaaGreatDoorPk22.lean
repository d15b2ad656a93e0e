/- Package history: its operations -/
import Derived.Test.YtodpgjjgaddkeaaGreatDoorPk21
set_option maxRecDepth 100000
set_option maxHeartbeats 9999999
open Go renaming World->VO,Value->aaT,Calls->abB,wpList->aiw
open Go.Proofs.Tryz
set_option linter.unusedVariables false
set_option linter.unusedSimpArgs false
namespace Go.Proofs.Vy
section
open Go.RowKit Go.Sx
variable{α:Type}{K:Nat}
variable{b c:Nat}{H:HD}
abbrev vW{P:bI->Prop}(hA:ApC P){w0 w:VO}{e:aN}(hP:P e.key)(hE:Ext w0 w)(hx:Bx w b H.cells.toArray)(hb:w0.heap.size<=b)(af:c<=b)(J:H.Ok K)(hm:H.mem K c b w)(hg:bT w)(he:gQ K w e)(ag:e.node.lim) :
  abB prog 13 #[.q b 0,e.v] w λr w'=>∃(D:HD) (code:Int),r = .R (.i code)∧(D.key,code)=H.key.app e.key∧D.Ok K∧D.mem K c b w'∧Ext w0 w'∧Ch b w w'∧Bx w' b D.cells.toArray:=by
 skip;refine aC5 func13 ntmps13 hE hx hb λS=>aCF S λu b2 D ah S=>mD S (pJ (S.bx 1)) λS=>aCT S λS=>adr S 6 [] [.M 1 2] λS=>aCD S (((H.k:Int))==256) (λFY S=>?_) (λFY S=>?_)
 .refine aCB S (.i 5) (λS=>?_);exact⟨H,5,I,by unfold HK.app; rw[aDb (show H.key.k=256 from by have:=FY; simp at this; exact(by omega:H.k=256))],J,((aDn hm D)),S.E,((Ch.trans (Ch.refl b w) (Ch.aT D))),S.kD 1⟩
 refine aCV S 4 [.M 0 0] [] [(15,.q b 0),(16,e.v)] trivial (λu qC S=>?_);have Zb:Ext w u:=(K00 D qC);have hk:H.k≠256:=by have:=FY; simp at this; omega
 have aa:=((Ch.trans (Ch.refl b w) (Ch.aT (K00 D qC))));refine aCL S 1 I (agZ hA hP S.E (S.bx 1) hb af J ((aDn hm (K00 D qC))) hk (bT.below hg Zb) (he.below Zb) ag) ?_;rintro e u ⟨H1,code,rfl,J,D,ab,ac,MV,ae⟩;refine⟨_,_,I,ac,MV,ae,λS=>?_⟩;refine aCB S (.i code) (λS=>?_);exact⟨H1,code,I,by unfold HK.app; rw[aC9 (show ¬H.key.k=256 from hk)]; exact J,D,ab,S.E,Ch.trans aa MV,S.kD 1⟩
abbrev KC{w0 w:VO}(S:Ext w0 w)(hx:Bx w b H.cells.toArray)(hb:w0.heap.size<=b)(J:c<=b)(D:H.Ok K)(hm:H.mem K c b w) :
  abB prog 14 #[.q b 0] w λr w'=>∃(J:HD) (code:Int),r = .R (.i code)∧(J.key,code)=H.key.undo∧J.Ok K∧J.mem K c b w'∧Ext w0 w'∧Ch b w w'∧Bx w' b J.cells.toArray:=
 (acU S hx hb (by have:=D.le; omega)).mono λe w' h=>by
  rcases h with ⟨h0,rfl,S,J,h3⟩ | ⟨k',aa,rfl,S,J,h3⟩
  .exact⟨H,20,I,by unfold HK.undo; rw[aDb (show H.key.k=0 from h0)],D,K11 hm J,S,J,h3⟩
  .have e1:(HD.key ⟨H.sa,H.sc,H.ss,H.ea,H.ec,H.es,k'⟩,(0:Int))=H.key.undo:=by
    unfold HK.undo
    rw[aC9 (show ¬H.key.k=0 from by show ¬H.k=0; omega)]
    unfold HD.key
    simp only[aa,Nat.add_sub_cancel]
   have e2:=D.k.undo
   rw[<-e1]at e2
   exact⟨⟨H.sa,H.sc,H.ss,H.ea,H.ec,H.es,k'⟩,0,I,e1,⟨e2,D.s,D.e⟩,K11 hm J,S,J,h3⟩
abbrev Zc{w0 w:VO}(S:Ext w0 w)(hx:Bx w b H.cells.toArray)(hb:w0.heap.size<=b)(J:c<=b)(D:H.Ok K)(hm:H.mem K c b w) :
  abB prog 15 #[.q b 0] w λr w'=>∃(J:HD) (code:Int),r = .R (.i code)∧(J.key,code)=H.key.redo∧J.Ok K∧J.mem K c b w'∧Ext w0 w'∧Ch b w w'∧Bx w' b J.cells.toArray:=
 (acV S hx hb (by have:=D.le; omega)).mono λe w' h=>by
  have hl:H.key.es.length=H.es.length:=aEh ..
  rcases h with ⟨S,rfl,h1,J,h3⟩ | ⟨S,rfl,h1,J,h3⟩
  .exact⟨H,20,I,by unfold HK.redo; rw[aDb (show H.key.k=H.key.es.length from by rw[hl]; exact S)],D,K11 hm J,h1,J,h3⟩
  .have e1:(HD.key ⟨H.sa,H.sc,H.ss,H.ea,H.ec,H.es,H.k+1⟩,(0:Int))=H.key.redo:=by
    unfold HK.redo
    rw[aC9 (show ¬H.key.k=H.key.es.length from by rw[hl]; exact S)]; rfl
   have S:=D.k.redo
   rw[<-e1]at S
   exact⟨⟨H.sa,H.sc,H.ss,H.ea,H.ec,H.es,H.k+1⟩,0,I,e1,⟨S,D.s,D.e⟩,K11 hm J,h1,J,h3⟩
abbrev zf{w:VO}(hx:Bx w b H.cells.toArray)(D:H.Ok K)(J:H.mem K c b w) :
  abB prog 17 #[.q b 0] w λr w'=>∃m:aA,r = .R m.v∧fB w.heap.size m.s m.ns w'∧dw K w' m∧m.key=H.key.now∧(∀n∈m.ns,n.uw K)∧Ext w w':=
 have S:=aDB J
 have J:=aDI D.lt
 (YZ hx S.1.1 D.lt (S.1.2 _ J) (λn hn=>(D.s _ J n hn).2) (by have:=Kz (D.val J); omega)).mono λe w' ⟨m,h1,h2,h3,h4,h5,h6,h7⟩=>by
  have hf:∀n∈m.ns,n.uw K:=λn hn=>⟨fits_all h3 (λn hn=>(D.s _ J n hn).1) n hn,BF h3 (λn hn=>(D.s _ J n hn).2) n hn⟩
  exact⟨m,h1,h2,⟨h4▸(S.1.2 _ J).1,h5▸(S.1.2 _ J).2.1,fB.ok h2 λn hn=>(hf n hn).1⟩,by rw[K09 D.lt]; unfold aA.key; rw[h4,h5,h6]; exact aDc _ (BD h3),hf,h7⟩
end
section
open En
variable{K:Nat}
theorem Rt{c:Nat}:∀{l:List bI},(∀e∈l,(eB e).length<=c)->(l.flatMap eB).length<=l.length*c
 | [],_=>aDl _
 | x::r,h=>by
  have D:=h x aDq
  have D:=Rt (l:=r) λe D=>h e (aEs _ D)
  rw[aEn,aDg,aDU,Nat.succ_mul]
  omega
abbrev HD.Ok.alk{H:HD}(h:H.Ok K):∀e∈H.key.es,(eB e).length<=60000010:=λe D=>by
 obtain⟨x,J,rfl⟩:=aDJ.1 D;have J:=ES (e:=x) (h.k.hs.enc D).2;have D:=JY (gq.app (kT x.key));unfold eB;omega
abbrev HD.Ok.alm{H:HD}(h:H.Ok K){s:aA}(D:s∈H.ss):(gq.app (dX s.key)).length<=60000000:=Y4 (h.val D)
def hP(s:aY)(k n:Nat)(l:List bI):List UInt8:=gG (gq.app (dX s))++(dY 10 k++(dY 10 n++l.flatMap eB))
variable{s:aY}{k j:Nat}{es:List bI}
abbrev aln(s:aY)(k:Nat)(es:List bI):hB s k es=hP s k es.length es:=rfl
abbrev ag0(S:(gq.app (dX s)).length<=60000000)(D:∀e∈es,(eB e).length<=60000010)(J:es.length<=256):(hB s k es).length<=20000000000:=by
 have a1:=JY (gq.app (dX s));have a2:=iP 10 k;have S:=iP 10 es.length;have S:=Rt D;have D:es.length*60000010<=256*60000010:=aEM _ J;unfold hB;simp only[aDg];omega
abbrev ag1(D:(gq.app (dX s)).length<=60000000):bat (hB s k es) (0:Nat) (hB s k es).length=(gq.app (dX s),(gG (gq.app (dX s))).length,0):=by
 have:=aaC [] (dY 10 k++(dY 10 es.length++es.flatMap eB)) (gq.app (dX s)) (hB s k es).length Z (by unfold hB gG; simp only[aDg]; omega);simp only[aD8,aEt,aEa]at this;exact this
abbrev ayq(hk:k<=256):yV (hB s k es) ((gG (gq.app (dX s))).length:Nat)=(k,(gG (gq.app (dX s))).length+(dY 10 k).length,0):=
 aaB (gG (gq.app (dX s))) (dY 10 es.length++es.flatMap eB) k Z
abbrev ayr(hk:es.length<=256):yV (hB s k es) ((gG (gq.app (dX s))).length+(dY 10 k).length:Nat)=(es.length,(hP s k es.length []).length,0):=by
 have:=aaB (gG (gq.app (dX s))++dY 10 k) (es.flatMap eB) es.length Z;rw[aDz,aDg]at this;unfold hP hB;rw[this];simp only[aDg,List.flatMap_nil,aEk,aE4]
abbrev ays{e:bI}(he:es[j]?=some e)(h2:(eB e).length<=60000010):bat (hB s k es) ((hP s k es.length (es.take j)).length:Nat) (hB s k es).length=(gq.app (kT e),(hP s k es.length (es.take (j+1))).length,0):=by
 obtain⟨S,rfl⟩:=List.getElem?_eq_some_iff.1 he;have e0:es=es.take j++(es[j]::es.drop (j+1)):=by rw[aGa,aEH]
 have D:hB s k es=hP s k es.length (es.take j)++(gG (gq.app (kT es[j]))++(es.drop (j+1)).flatMap eB):=by
  rw[aln];conv=>lhs; rw[hP]
  rw[hP];simp only[aDz];congr 3;conv=>lhs; rw[e0]
  rw[aED,aEn]; rfl
 have h3:(gq.app (kT es[j])).length<=(eB es[j]).length:=by unfold eB gG; rw[aDg]; omega
 have hl:((gq.app (kT es[j])).length:Int)<=((hB s k es).length:Int):=by
  rw[D]; unfold gG; simp only[aDg]; omega
 have:=aaC (hP s k es.length (es.take j)) ((es.drop (j+1)).flatMap eB) (gq.app (kT es[j])) (hB s k es).length Z hl;rw[<-D]at this;rw[this];have J:(hP s k es.length (es.take (j+1))).length=(hP s k es.length (es.take j)).length+(gG (gq.app (kT es[j]))).length:=by
  rw[aEj S];unfold hP;simp only[aED,aEn,List.flatMap_nil,aEk,aDg];unfold eB;omega
 rw[J]
abbrev HK.ac8{ss:List aY}{es:List bI}(h:Hs ss es){j:Nat}{e:bI}(D:es[j]?=some e):HK.put ⟨ss.take (j+1),es.take j,j⟩ e=(⟨ss.take (j+2),es.take (j+1),j+1⟩,0):=by
 obtain⟨a,b,J,S,h3⟩:=h.step j e D;obtain⟨hj,rfl⟩:=List.getElem?_eq_some_iff.1 D;have hl:=h.len;have hn:HK.now ⟨ss.take (j+1),es.take j,j⟩=a:=by
  unfold HK.now;simp only;rw[List.getElem?_take_of_lt Z,J]; rfl
 unfold HK.put;rw[hn,h3,aDb I];simp only[aDm,HK.mk.injEq,and_true];obtain⟨D,rfl⟩:=List.getElem?_eq_some_iff.1 S;refine⟨?_,?_⟩
 .rw[List.take_take,Nat.min_self,<-aEj D]
 rw[List.take_take,Nat.min_self,<-aEj hj]
def HK.bytes(h:HK):List UInt8:=gq.app (hB ((h.ss[0]?).getD .zero) h.k h.es)
abbrev HD.bytes_eq{H:HD}{s:aA}(D:H.ss[0]?=some s):gq.app (hP s.key H.k H.es.length (H.es.map aN.key))=H.key.bytes:=by
 unfold HK.bytes HD.key;simp only[List.getElem?_map,D,aD3,Option.getD_some,aln,aEh]
abbrev aaW{n:Nat}{es:List aN}{x:aN}(D:j<es.length)(J:es[j]=x):hP s k n ((es.map aN.key).take (j+1))=hP s k n ((es.map aN.key).take j)++eB x.key:=by
 rw[aEj (by simpa using D),List.getElem_map,J];unfold hP;simp only[aED,aEn,List.flatMap_nil,aEk,aDz]
abbrev HD.Ok.ate{H:HD}(h:H.Ok K){s:aY}(D:(gq.app (dX s)).length<=60000000)(k n j:Nat):(hP s k n ((H.es.map aN.key).take j)).length<=20000000000:=by
 have a1:=JY (gq.app (dX s));have a2:=iP 10 k;have D:=iP 10 n;have D:=Rt (l:=(H.es.map aN.key).take j) λe D=>h.alk e (aEJ D);have D:((H.es.map aN.key).take j).length<=256:=by have:=h.le; rw[aD4,aEh]; omega
 have J:((H.es.map aN.key).take j).length*60000010<=256*60000010:=aEM _ D;unfold hP;simp only[aDg];omega
end
section
open Go.RowKit En Go.Sx
variable{α:Type}{K:Nat}
abbrev aaX{n:Nat}(h:n<=1000000):Value.int .u64 (IntKind.u64.wrap (n:Int)) = .int .u64 (n:Int):=wrap_u64 Z
abbrev EW{w:VO}{b c:Nat}{H:HD}(hx:Bx w b H.cells.toArray)(ab:H.Ok K)(hm:H.mem K c b w)(hg:bT w) :
  abB prog 10 #[.q b 0] w λr w'=>∃v,r = .R (.tuple #[v,.i 0])∧OwnB w.heap.size w' v H.key.bytes∧Ext w w':=by
 obtain⟨sa,sc,ss,ea,ec,es,J⟩:=H;have hW:=aDB hm;have bj:ss.length=es.length+1:=ab.len;have bt:J<=es.length∧es.length<=256:=ab.le;have ai:0<ss.length:=Z
 have bk:es.length<=9223372036854775807:=Z
 refine aCG func10 ntmps10 (λS=>?_);have S:=S.view0 hx.1 (hx.range 0 4 I);refine mD S (pJ hx) λS=>aCT S (λS=>?_);have af:0<ss.length:=ai;obtain⟨b5,o6,rfl,D,ah,IK,a9⟩:=aDN hW.1.1 (λ_=>I) (0) af;have S:=S.view0 IK a9;have a4:ss[0]?=some D:=by rw[List.getElem?_eq_getElem ai,ah]
 have a5:=ab.val (s:=D) (ah▸aDI af);have a6:=ab.alm (s:=D) (ah▸aDI af);refine adr S 7 [] [.M 1 0,.idx 0 ss.length,.M 0 0] (hk:=⟨af,G⟩) λS=>aCR S (wJ ((hW.1.2 _ (ah▸aDI af)).below S.E) (bT.below hg S.E)) ?_;rintro e u ⟨v1,cc,rfl,bg,Gn⟩;obtain⟨rfl,bb⟩:=Vj.good bg a5;refine⟨_,I,Gn,λS=>?_⟩;refine aCT S (λS=>?_);have S0:=S.E.size;refine aC1 S (oI _ _ _ (vK bb) Z) (λv2 u ar yP S=>?_);have R:=lC (aDV S) ar (λp hp=>by cases hp) S0;have ao:=ab.ate a6 J es.length;have hB:(gG (gq.app (dX D.key))++dY 10 J++dY 10 es.length).length<=20000000000:=by have:=ao 0; simpa[hP]using this
 have a7:=hB;simp only[aDg]at a7;refine adr S 8 [] [.M 1 2,.re 35 (.int .u64 (IntKind.u64.wrap (J:Int))) (.int .u64 (J:Int))] (hk:=⟨(aaX Z),G⟩) λS=>aC1 S (fZ J _ Z) (λu1 u av Ny S=>?_);obtain⟨R,bv⟩:=R.bH S (aDx Ny);refine aCO S λS=>aC2 S R 37 (dY 10 J) (jY (av)) (by simp only[aDg]at hB |-; omega) λac u bm bo R S=>aCW S (λS=>?_);have S:=S.view0 hx.1 (hx.range 0 4 I);refine adr S 9 [] [.M 0 1,.re 45 (.int .u64 (IntKind.u64.wrap (es.length:Int))) (.int .u64 (es.length:Int))] (hk:=⟨(aaX Z),G⟩) λS=>aC1 S (fZ es.length _ Z) (λu2 u aw zS S=>?_);obtain⟨R,WO⟩:=R.bH S (aDx zS);refine aCO S λS=>aC2 S R 47 (dY 10 es.length) (jY (aw)) (by simp only[aDg]at hB |-; omega) λac u am bp R S=>aCW S (λS=>?_);have S:=S.view0 hx.1 (hx.range 0 4 I);refine adr S 8 [] [.M 0 1] λS=>aCZ S (ι:=Nat×aaT) (λp a' w'=>p.1<=es.length∧(True)∧Rw w w' [] [⟨5,1,p.2,(hP D.key J es.length ((es.map aN.key).take p.1)).length,(hP D.key J es.length ((es.map aN.key).take p.1)).map iy⟩]∧Sx.St w a' w' 73 [(0,.q b 0),(2,.sn),(3,.i 0),(4,v1),(5,.i 0),(6,p.2),(52,.s ea es.length ec),(53,.i es.length),(54,.i p.1)] [] []) (λp=>es.length-p.1) (0,am) (λS=>⟨aDl _,G,R.as (show [Sx.bR am (gG (gq.app (dX D.key))++(dY 10 J)++(dY 10 es.length))]=[Sx.bR am (hP D.key J es.length ((es.map aN.key).take 0))] by simp[hP]),S.sn⟩) ?_;rintro⟨k,v⟩ ac u gJ dW hI;try dsimp only at hI
 obtain⟨hk,hR,R,S⟩:=hI;refine aC0 S λS=>aCD S (decide ((k:Int)<(es.length:Int))) (λae S=>?_) (λae S=>?_)
 .have ac9:k<es.length:=by have:=aDw ae; omega
  obtain⟨bw,bz,rfl,ag,aa,bc,bd⟩:=aDN hW.2.1 (λ_=>I) (k) ac9;have S:=S.view0 bc bd;refine adr S 2 [] [.idx k es.length,.M 0 0] (hk:=⟨ac9,G⟩) λS=>aCJ S (Sx.L [.i 0,.i 0,.i 0,.i 0,.i 0,.i 0,.i 0]++Sx.za++Sx.L [.sn,.i 0,.u 0,.i 0,.z,.z,.sn,.i 0,.sn,.i 0,.i 0,.i 0,.i 0,.sn,.i 0,.sn,.i 0,.i 0,.sn,.i 0,.u 0,.u 0,.u 0,.u 0]) λu bq ax WW S=>aCP S 0 (off:=0) (cs:=ag.cells) I (λu WJ S=>?_);have ap:=ab.k.hs.enc (e:=ag.key) (aDJ.2 ⟨_,(aa▸aDI ac9),I⟩);have bu:=ES (e:=ag) ap.2;refine adr S 1 [] [.M 0 0] λS=>aCR S (yA ((hW.2.2 _ (aa▸aDI ac9)).below S.E) (bT.below hg S.E)) ?_;rintro e u ⟨v4,cd,rfl,bh,TB⟩;obtain⟨rfl,be⟩:=Vo.good bh ap.1 ap.2;refine⟨_,I,TB,λS=>?_⟩;refine aCT S λS=>aC1 S (oI _ _ _ (vK be) Z) (λv5 u ay az S=>?_);have hB:=ao (k+1);rw[aaW ac9 aa]at hB;obtain⟨R,ca⟩:=R.bH S (aDr (aEi ax WW) (aDr (Sx.Stp.Jp WJ) (aDr (aDx TB) (aDx az))));refine aCO S λS=>aC2 S R 69 (eB ag.key) (jY (ay)) (by simp only[aDg]at hB |-; omega) λac u an br R S=>aCW S λS=>adr S 3 [] [.re 70 (.i (IntKind.i64.wrap ((k:Int)+1))) (.i (k+1:Nat))] (λS=>?_) (hk:=⟨aCS Z,G⟩);have S:=S.gB 1;obtain⟨R,cb⟩:=R.bH S (aEd 1);refine aCY S gJ (λS=>?_);exact dW _ _ ((k+1),an) ⟨Z,G,R.as (show [Sx.bR an (hP D.key J es.length ((es.map aN.key).take k)++eB ag.key)]=[Sx.bR an (hP D.key J es.length ((es.map aN.key).take (k+1)))] by rw[aaW ac9 aa]),S.sn⟩ (by show _-_<_-_; omega)
 have aq:es.length<=k:=by have:=aDA ae; omega
 have al:OwnB w.heap.size u v (hP D.key J es.length ((es.map aN.key).take k)):=R.own _ aDq;rw[aDG (show(es.map aN.key).length<=k by rw[aEh]; exact aq)]at al;have a8:=ao k;rw[aDG (show(es.map aN.key).length<=k by rw[aEh]; exact aq)]at a8;have S1:=S.E.size;refine aC1 S (yg _ (hP D.key J es.length (es.map aN.key)) _ (vK al) Z) λv9 u a3 bs S=>MG S v9 (.i 0) (λS=>?_);exact⟨_,I,rF (bF a3 S1) (HD.bytes_eq (H:=⟨_,_,ss,_,_,es,J⟩) a4),S.E⟩
end
end Go.Proofs.Vy
section
namespace Go.Sx
open Go.Proofs Go.Proofs.Vy Go.RowKit Go.Rel Go.Sx
section
variable{P:Program}{B:Exit->Act->VO->Prop}{ops:Array Oper}{Q:Exit->Act->VO->Prop}{n:Nat}{w0 w:VO}{a:Act}{os:List Oper}{l:List (Nat×aaT)}{bl:List (Nat×List aaT)}{vs:List fE}{z:Zt}
variable{f:FuncId}{args:Array aaT}{R:Ending->VO->Prop}{b1 b2:Nat}{A1 A2:List aaT}
abbrev aon(S:St w0 a w n l bl vs)(k1 k2:Nat)(d:Option Nat)(ah:k1≠k2)(ai:bl[k1]?=some (b1,A1))(al:bl[k2]?=some (b2,A2))(hc:abB P f args w R)
  (next:∀e w',R e w'->∃v wm D J,e = .R v∧(Ext w0 wm∧Ch b1 w wm∧Bx wm b1 (List.toArray D))∧(Ext w0 w'∧Ch b2 wm w'∧Bx w' b2 (List.toArray J))∧∀a',St w0 a' w' n (zL l d v) ((bl.set k1 (b1,D)).set k2 (b2,J)) vs->aiw P ops Q (os.drop 1) a' w')
  (hx:callOf P os l=some (f,args,d):=by kernel_rfl) (hd:uO n d=true:=by rfl):aiw P ops Q os a w:=by
 cases os with
 | nil=>cases hx
 | cons o os =>
  unfold callOf at hx;simp only at hx;split at hx
  .rename_i f' args' hg hav hev;simp only[aDe,aDm]at hx;obtain⟨rfl,rfl,rfl⟩:=hx;simp only[aDX]at hav;have aa:(execOp a.eval o).run P w = .ok (.enter f' args') w:=lM (Std.act a) (gX (bZ S.s) o) (p:=[]) I hav.1 (by simpa using hav.2) hev;unfold aiw;rw[aDb (by simp[Region.wanted,hg])];left;unfold Oper.wp;rw[aa];simp only[Oper.upon];refine hc.mono λe w' hR=>?_;obtain⟨v,wm,D,J,rfl,⟨ab,MV,ac⟩,⟨ae,af,ag⟩,hn⟩:=next e w' hR;exact hn _ (((S.ch MV ai ac ab).ch af (by rw[List.getElem?_set_ne ah]; exact al) ag ae).act (uh S.s hd v))
  cases hx
abbrev ag3(S:St w0 a w n l bl vs)(k:Nat){b:Nat}{A:List aaT}(d:Option Nat)(hk:bl[k]?=some (b,A))(hc:abB P f args w R)
  (next:∀e w',R e w'->∃v A',e = .R v∧Ext w0 w'∧Ch b w w'∧Bx w' b (List.toArray A')∧∀D,St w0 D w' n (zL l d v) (bl.set k (b,A')) vs->aiw P ops Q (os.drop 1) D w')
  (D:Hz P ops os l=some (f,args,d):=by kernel_rfl) (hd:uO n d=true:=by rfl):aiw P ops Q os a w:=by
 cases os with
 | nil=>cases D
 | cons o os =>
  unfold Hz at D;simp only at D;split at D
  .rename_i p f' args' hp hav hev;split at D
   .rename_i hg;simp only[aDe,aDm]at D;obtain⟨rfl,rfl,rfl⟩:=D;simp only[aDX]at hav;have J:(execOp a.eval o).run P w = .ok (.enter f' args') w:=lM (Std.act a) (gX (bZ S.s) o) (p:=[]) I hav.1 (by simpa using hav.2) hev;unfold aiw;rw[aDb ((sG (a:=a) hp (λx _ i y _ hl=>bZ S.s i y hl)).2 hg)];left;unfold Oper.wp;rw[J];simp only[Oper.upon];refine hc.mono λe w' J=>?_;obtain⟨v,A',rfl,hE,hC,hX,hn⟩:=next e w' J;exact hn _ ((S.ch hC hk hX hE).act (uh S.s hd v))
   cases D
  cases D
abbrev H8(S:St w0 a w n z.l bl vs)(k1 k2:Nat)(aa:k1≠k2)(ab:bl[k1]?=some (b1,A1))(ac:bl[k2]?=some (b2,A2))(hc:abB P f args w R)
  (next:∀e w',R e w'->∃v wm D J,e = .R v∧(Ext w0 wm∧Ch b1 w wm∧Bx wm b1 (List.toArray D))∧(Ext w0 w'∧Ch b2 wm w'∧Bx w' b2 (List.toArray J))∧∀{a'},St w0 a' w' n (wR v (zN P n z)).l ((bl.set k1 (b1,D)).set k2 (b2,J)) vs->Gz P B (wR v (zN P n z)) a' w')
  (hx:callOf P (pG (zN P n z)) (zN P n z).l=some (f,args,mg (zN P n z)):=by kernel_rfl) (ho:(uF (zN P n z)&&uO n (mg (zN P n z)))=true:=by kernel_rfl):Gz P B z a w:=by
 simp only[aDt]at ho;refine uG S λS=>zop ho.1 (aon S k1 k2 _ aa ab ac hc (λe w' hR=>?_) hx ho.2);obtain⟨v,wm,D,J,h1,h2,h4,h3⟩:=next e w' hR;exact⟨v,wm,D,J,h1,h2,h4,λa' S'=>JJ (m:=1) (l:=[]) ho.1 (h3 S')⟩
end
end Go.Sx
namespace Go.Proofs.Vy
open Go.RowKit En Go.Sx
variable{α:Type}{K:Nat}
variable{j bi ba bf:Nat}{f:FuncId}{args:Array aaT}{m:List UInt8}{i:Int}
abbrev aoo{f:α->List aaT}{k:Nat}{v:aaT}{L:List α}{w:VO}(h:aI k f w v L):Sx.On (λi=>i<w.heap.size) (λW=>aI k f W v L) w:=λW S hk=>by
 obtain⟨a,cap,e,J,h⟩:=h;rcases h with h | ⟨b,o,rfl,D,hl,hc⟩
 .exact⟨a,cap,e,J,.inl h⟩
 exact⟨_,cap,e,J,.inr ⟨b,o,I,aDL D S,hl,λi hi j hj=>by rw[World.cell?_of_block (a:=⟨b,_,none⟩) (hk b D D)]; exact hc i hi j hj⟩⟩
abbrev ada{w:VO}{l:List UInt8}{most:Int}(h:abB prog f args w (EP w (bat l i most)))(D:bat l i most=(m,j,0)):abB prog f args w λe w'=>∃x,e = .R (.tuple #[x,.i j,.i 0])∧OwnB w.heap.size w' x m∧Ext w w':=by
 rw[D]at h; exact h
abbrev adb{w:VO}{l:List UInt8}{m:Nat}(h:abB prog f args w (VH w (apK (yV l i))))(D:yV l i=(m,j,0)):abB prog f args w (VH w (.tuple #[.int .u64 (m:Int),.i j,.i 0])):=by
 rw[D]at h; exact h
abbrev aop{base:Nat}{w:VO}{v:aaT}{l:List UInt8}(h:OwnB base w v l):bn base (λW=>jO W v l) w:=jq (f:=λn:UInt8=>[iy n]) (L:=l) (λ_=>I) h I (Qs l).symm
abbrev OU{w0 w:VO}{v:aaT}{l:List UInt8}{i:Nat}(hE:Ext w0 w)(ac:Bx w bi #[v])(D:Bx w ba #[.i i])(ah:Bx w bf #[.b true])(ha:w0.heap.size<=ba)(hf:w0.heap.size<=bf)(ai:ba≠bf)(al:bi≠ba)(am:bi≠bf)(hv:bP w v l)(hl:l.length<=100000000000)(hr:bat l (i:Nat) l.length=(m,j,0)) :
  abB prog 44 #[.q bi 0,.q ba 0,.q bf 0] w λe w'=>∃x J,e = .R x∧jO w' x m∧(Ext w0 J∧Ch ba w J∧Bx J ba #[.i j])∧(Ext w0 w'∧Ch bf J w'∧Bx w' bf #[.b true]):=by
 obtain⟨a,cap,rfl,an,-⟩:=id hv;refine aC5 func44 ntmps44 hE D ha (λS=>?_);have S:=S.adopt (A:=[.b true]) ah hf (λp D=>by rcases aDp.1 D with rfl | D; (exact ai); cases D) (λm hm=>by cases hm);have S:=S.view ac.1 (ac.range 0 1 I) (λp D=>by rcases aDp.1 D with rfl | D; (exact am.symm); rcases aDp.1 D with rfl | D; (exact al.symm); cases D);have D:=(S.bx 1).1;have D:=(S.bx 0).1;refine adr S 5 [] [.M 2 0,.M 1 0,.M 2 0] λS=>aCR S (ada (UH _ l (i:Int) (l.length:Int) _ (hv.below K01) hl Z) hr) ?_;rintro e u ⟨x1,rfl,ag,E3⟩;have D:=aop ag;refine⟨_,I,E3,λS=>?_⟩;refine adr S 13 [19,20] [.M 0 0] λS=>aCN S 1 I (λu C6 S=>?_);have ae:=(aK ((Ch.trans (Ch.refl ba w) (Ch.aT E3))) C6);have af:=(Sx.On.ch D C6 Z);have D:Ch ba w u:=ae;have YV:=S.E;have aa:Bx u ba (List.toArray [.i j]):=S.kD 1;obtain⟨J,ab⟩:∃x,x=u:=⟨_,I⟩;rw[<-ab]at D YV aa;refine aCN S 0 I (λu C7 S=>?_);have N8:=(Sx.On.ch af C7 Z);rw[<-ab]at C7;refine aCB S x1 (λS=>?_);exact⟨_,J,I,(aDB (aEY N8 λi h=>h)),⟨YV,D,aa⟩,S.E,C7,S.kD 0⟩
abbrev VA{w0 w:VO}{v:aaT}{l:List UInt8}{i:Nat}(hE:Ext w0 w)(ac:Bx w bi #[v])(D:Bx w ba #[.i i])(af:Bx w bf #[.b true])(ha:w0.heap.size<=ba)(hf:w0.heap.size<=bf)(ag:ba≠bf)(ah:bi≠ba)(ai:bi≠bf)(hv:bP w v l){m:Nat}(hr:yV l (i:Nat)=(m,j,0)) :
  abB prog 46 #[.q bi 0,.q ba 0,.q bf 0] w λe w'=>∃J,e = .R (.int .u64 (m:Int))∧(Ext w0 J∧Ch ba w J∧Bx J ba #[.i j])∧(Ext w0 w'∧Ch bf J w'∧Bx w' bf #[.b true]):=by
 obtain⟨a,cap,rfl,al,-⟩:=id hv;refine aC5 func46 ntmps46 hE D ha (λS=>?_);have S:=S.adopt (A:=[.b true]) af hf (λp D=>by rcases aDp.1 D with rfl | D; (exact ag); cases D) (λm hm=>by cases hm);have S:=S.view ac.1 (ac.range 0 1 I) (λp D=>by rcases aDp.1 D with rfl | D; (exact ai.symm); rcases aDp.1 D with rfl | D; (exact ah.symm); cases D);refine adr S 3 [] [.M 2 0,.M 1 0] λS=>aCQ S (adb (yc _ l (i:Int) _ (hv.below K01)) hr) λu D S=>adr S 13 [17,18] [.M 0 0] λS=>aCN S 1 I (λu C6 S=>?_);have ae:=(aK ((Ch.trans (Ch.refl ba w) (Ch.aT D))) C6);have D:Ch ba w u:=ae;have YV:=S.E;have aa:Bx u ba (List.toArray [.i j]):=S.kD 1;obtain⟨J,ab⟩:∃x,x=u:=⟨_,I⟩;rw[<-ab]at D YV aa;refine aCN S 0 I (λu C7 S=>?_);rw[<-ab]at C7;refine aCB S (.int .u64 (m:Int)) (λS=>?_);exact⟨J,I,⟨YV,D,aa⟩,S.E,C7,S.kD 0⟩
end Go.Proofs.Vy
end
namespace Go.Proofs.Vy
section
open Go.RowKit En Go.Sx
variable{α:Type}{K:Nat}
abbrev K13{H:HD}{c D b:Nat}{w:VO}(h:H.mem K c b w)(J:D<=c):H.mem K D b w:=aEY h λi D=>⟨aDy J D.1,D.2⟩
abbrev Vm.back{base:Nat}{w:VO}{s:aA}{v:aaT}{er:Int}(hK:K<=5000)(hs:dw K w s)(hv:s.key.valid=true)(h:Vm base w (gq.app (dX s.key)) v er):er=0∧∃t:aA,v=t.v∧bn base (λW=>dw 5000 W t) w∧t.key=s.key:=by
 rcases h with ⟨h0,t,h1,D,J,S,h5⟩ | ⟨h0,h1,⟨D,J⟩ | ⟨D,J,S⟩ | ⟨D,J,S⟩⟩
 .exact⟨h0,t,h1,D,((Yx (hs.up hK O) (aDB D) hv J [] [] (by rw[sD h5])).1).symm⟩
 .rw[oK]at J; omega
 .exact absurd I (S _)
 exact absurd I (S _ _ s hs hv)
abbrev Vq.back{base:Nat}{w:VO}{e:aN}{v:aaT}{er:Int}(hK:K<=5000)(hs:gQ K w e)(hm:fH e.key=false)(hv:jI e.key=true->e.key.node.chk=0)(h:Vq base w (gq.app (kT e.key)) v er):er=0∧∃t:aN,v=t.v∧bn base (λW=>gQ 5000 W t) w∧t.key=e.key:=by
 rcases h with ⟨h0,t,h1,D,J,S,h5,h6⟩ | ⟨h0,h1,⟨D,J⟩ | ⟨D,J,S⟩ | ⟨D,J,S⟩⟩
 .exact⟨h0,t,h1,D,(acY (hs.up hK O) (aDB D) hm J hv S (sD h6)).symm⟩
 .rw[oK]at J; omega
 .exact absurd I (S _)
 exact absurd I (S _ _ e hs hm hv)
abbrev ajW{l m:List UInt8}{k:Int}(h:Ver (gq.app l) m k):k=0∧m=l:=by
 rcases h with ⟨-,h⟩ | ⟨-,-,h⟩ | ⟨h,D⟩
 .rw[oK]at h; omega
 .exact absurd I (h l)
 exact⟨h,(sD D).symm⟩
abbrev ag5{f:FuncId}{args:Array aaT}{w:VO}{v D:aaT}(h:abB prog f args w λe w'=>e = .R v∧w=w')(J:v=D):abB prog f args w λe w'=>e = .R D∧w=w':=J▸h
abbrev Ru{w:VO}{s:aA}(h:dw K w s)(J:bT w)(D:∀n∈s.ns,n.lim)(S:s.key.valid=true) :
  abB prog 25 #[s.v] w λe w'=>∃(b:Nat) (H:HD),e = .R (.tuple #[.q b 0,.i 0])∧w.heap.size<=b∧Bx w' b H.cells.toArray∧H.mem K w.heap.size b w'∧(H.Ok K∧H.key=⟨[s.key],[],0⟩)∧Ext w w':=
 (Vz h J D).mono λe w' h=>by
  rcases h with ⟨D,-⟩ | ⟨-,h⟩
  .rw[S]at D; cases D
  .exact h
abbrev aoq{j:Nat}(h:j<=1000000):Value.int .u64 (IntKind.u64.wrap ((j:Int)+1)) = .int .u64 ((j+1:Nat):Int):=wrap_u64 (n:=j+1) Z
abbrev aor{n:Nat}(h:n<=1000000):Value.i (IntKind.i64.wrap (n:Int)) = .i n:=by
 have:IntKind.i64.wrap (n:Int)=(n:Int):=by rw[aE9]; omega
 rw[this]
def HK.upto(h:HK)(j:Nat):HK:=⟨h.ss.take (j+1),h.es.take j,j⟩
abbrev HK.Ok.ag6{h:HK}(o:h.Ok){j:Nat}{e:bI}(D:h.es[j]?=some e):(h.upto j).app e=(h.upto (j+1),0):=by
 have:=(List.getElem?_eq_some_iff.1 D).1;have:=o.most;unfold HK.app;rw[aC9 (show ¬(h.upto j).k=256 from by show ¬j=256; omega)];exact HK.ac8 o.hs D
abbrev HK.Ok.upto_all{h:HK}(o:h.Ok):(⟨(h.upto h.es.length).ss,(h.upto h.es.length).es,h.k⟩:HK)=h:=by
 unfold HK.upto;simp only;rw[aDG (by rw[o.hs.len]; exact aDd _),aDG (aDd _)]
abbrev HK.Ok.ade{h:HK}(o:h.Ok):(⟨[(h.ss[0]?).getD .zero],[],0⟩:HK)=h.upto 0:=by
 have hl:=o.hs.len;unfold HK.upto;cases hs:h.ss with
 | nil=>rw[hs]at hl; simp at hl
 | cons s r=>rfl
abbrev HD.Ok.ayu{H A02:HD}(h:H.Ok K)(k:Nat)(hk:(⟨H.key.ss,H.key.es,k⟩:HK)=A02.key)(D:A02.key.Ok):HD.Ok K ⟨H.sa,H.sc,H.ss,H.ea,H.ec,H.es,k⟩:=⟨(show(⟨H.key.ss,H.key.es,k⟩:HK).Ok from hk▸D),h.s,h.e⟩
abbrev OV{P:bI->Prop}(hA:ApC P){w:VO}{v:aaT}{H:HD}(hPe:∀e∈H.key.es,P e)(hv:jO w v H.key.bytes)(hok:H.Ok K)(hK:K<=5000)(hrow:H.row K w)(hg:bT w) :
  abB prog 24 #[v] w λr w'=>∃(b:Nat) (A02:HD),r = .R (.tuple #[.q b 0,.i 0])∧w.heap.size<=b∧Bx w' b A02.cells.toArray∧A02.mem 5000 w.heap.size b w'∧A02.Ok 5000∧A02.key=H.key∧Ext w w':=by
 have Rx:=hok.k;have hby:H.key.bytes=gq.app (hB ((H.key.ss[0]?).getD .zero) H.key.k H.key.es):=I;have h0z:=Rx.ade;have hpos:0<H.ss.length:=by have:=hok.len; omega
 obtain⟨s0,hs0⟩:∃z,H.ss[0]=z:=⟨_,I⟩;have ajX:s0∈H.ss:=hs0▸aDI hpos;have ag7:(H.key.ss[0]?).getD .zero=s0.key:=by unfold HD.key; simp only[List.getElem?_map,List.getElem?_eq_getElem hpos,hs0]; rfl
 have hso:=hrow.1.2 s0 ajX;have hsv:=hok.val ajX;have hsl2:∀n∈s0.ns,n.lim:=λn hn=>(hok.s s0 ajX n hn).2;have hsl:=hok.alm ajX;have heo:=hrow.2.2;have hel:=hok.alk;have atf:∀e∈H.key.es,∃x,x∈H.es∧x.key=e:=λe he=>by obtain⟨x,h1,h2⟩:=aDJ.1 he; exact⟨x,h1,h2⟩
 have alo:H.key.k<=256:=aDy Rx.k Rx.most;have aaY:=Rx.most;have hkn:=Rx.k;obtain⟨hk,hhk⟩:∃z,z=H.key:=⟨_,I⟩;rw[<-hhk]at hPe hv Rx hby h0z ag7 hel atf alo aaY hkn;obtain⟨WQ,aos⟩:∃z,z=s0.key:=⟨_,I⟩;rw[<-aos]at ag7 hsl;rw[ag7]at hby h0z;have hlL:(hB WQ hk.k hk.es).length<=100000000000:=aDy (ag0 hsl hel aaY) O;have hl2:=ag0 (k:=hk.k) hsl hel aaY;refine aCG func24 ntmps24 λS=>aCR S (U7 (hv.below S.E) (by rw[hby,oK]; omega)) ?_;rintro e u ⟨v1,m1,er1,rfl,hin,E3,acP⟩;rw[hby]at acP;obtain⟨rfl,rfl⟩:=ajW acP;obtain⟨c1,hc1⟩:∃z:Nat,z=u.heap.size:=⟨_,I⟩;have hin1:=aoo hin;rw[<-hc1]at hin1;obtain⟨a1,q1,rfl⟩:=hin.shape;refine⟨_,I,E3,λS=>?_⟩;refine aCF S λu b4 E5 hb6 S=>aCN S 0 I (λu C7 S=>?_);have E8:=aCI E5 C7;refine aCT S λS=>aCF S λu b12 Gn abz S=>aCF S λu b15 Cm wP S=>aCN S 1 I (λu C18 S=>?_);have Ny:=aCI (K00 E8 (K00 Gn Cm)) C18 (by have:=E8.size; omega);refine aCN S 0 I (λu Ag S=>?_);have xH:=aCI Ny Ag (by have:=(K00 E8 Gn).size; omega);have hcb:c1<=b12∧c1<=b15:=by have h1:=E8.size; have h2:=Gn.size; omega
 have S:=S.fl;have hne:b12≠b15∧b4≠b12∧b4≠b15:=by have h:=S.apart; simp only[aD1,aEr,aFm,aDp,not_or]at h; exact⟨λe=>h.1.1 e.symm,λe=>h.2.1.1 e.symm,λe=>h.1.2.1 e.symm⟩
 have S:=S.fl;refine Sx.H8 S 1 0 O I I (OU (v := .s a1 (hB WQ hk.k hk.es).length q1) (i:=0) (j:=(gG (gq.app (dX WQ))).length) S.E (S.kD 2) (S.kD 1) (S.kD 0) (S.old 1) (S.old 0) hne.1 hne.2.1 hne.2.2 (eX (aDB ((aDn hin1 xH)))) hlL (ag1 hsl)) ?_;rintro e u ⟨x25,ayv,rfl,hx25,⟨e125,aoi,ayw⟩,ayx,atg,ayy⟩;refine⟨_,ayv,_,_,I,⟨e125,aoi,ayw⟩,⟨ayx,atg,ayy⟩,λS=>?_⟩;have S:=S.fl;have PS:=aCI xH aoi (by have:=E8.size; omega);have E27:=aCI PS atg (by have:=(K00 E8 Gn).size; omega);have zs0:=(S.bx 0).1;have zs1:=(S.bx 1).1;have zs2:=(S.bx 2).1;refine aCR S (ER (bT.below hg S.E) hx25 hsl) ?_;rintro e u ⟨v2,er2,rfl,hds,Wy⟩;rw[aos]at hds;obtain⟨rfl,s1,rfl,hs1,hk1⟩:=Vm.back hK (hso.below (K00 S.E Wy)) hsv hds;refine⟨_,I,Wy,λS=>?_⟩;refine aCF S λu b29 E30 aCq S=>aCH S 0 I (λu C32 S=>?_);have E33:=aCI (K00 E27 (K00 Wy E30)) C32 (by have:=(K00 E27 Wy).size; omega);have WA:=aCI E30 C32;refine adr S 7 [37,38] [.M 1 0] λS=>aCT S (λS=>?_);have S:=S.fl;refine Sx.H8 S 2 1 O I I (VA (v := .s a1 (hB WQ hk.k hk.es).length q1) (i:=(gG (gq.app (dX WQ))).length) (j:=((gG (gq.app (dX WQ))).length+(dY 10 hk.k).length)) S.E (S.kD 3) (S.kD 2) (S.kD 1) (S.old 2) (S.old 1) hne.1 hne.2.1 hne.2.2 (eX (aDB ((aDn hin1 E33)))) (ayq alo)) ?_;rintro e u ⟨ayz,rfl,⟨e138,c138,ayA⟩,e238,aot,ayB⟩;refine⟨_,ayz,_,_,I,⟨e138,c138,ayA⟩,⟨e238,aot,ayB⟩,λS=>?_⟩;have S:=S.fl;have TL:=aCI E33 c138 (by have:=E8.size; omega);have EC:=(Sx.On.ch ((aDn hs1 WA)) c138 Z);have Si:=aCI TL aot (by have:=(K00 E8 Gn).size; omega);have BA:=(Sx.On.ch EC aot Z);have S:=S.fl;refine Sx.H8 S 2 1 O I I (VA (v := .s a1 (hB WQ hk.k hk.es).length q1) (i:=((gG (gq.app (dX WQ))).length+(dY 10 hk.k).length)) (j:=(hP WQ hk.k hk.es.length []).length) S.E (S.kD 3) (S.kD 2) (S.kD 1) (S.old 2) (S.old 1) hne.1 hne.2.1 hne.2.2 (eX (aDB ((aDn hin1 Si)))) (ayr aaY)) ?_;rintro e u ⟨ayC,rfl,⟨e143,c143,ayD⟩,e243,aou,ayE⟩;refine⟨_,ayC,_,_,I,⟨e143,c143,ayD⟩,⟨e243,aou,ayE⟩,λS=>?_⟩;have S:=S.fl;have E44:=aCI Si c143 (by have:=E8.size; omega);have rJ:=(Sx.On.ch BA c143 Z);have E46:=aCI E44 aou (by have:=(K00 E8 Gn).size; omega);have LU:=(Sx.On.ch rJ aou Z);have hold:=λp hp=>(S.own p hp).1.1;have jw:=S.E.size;have zn0:=(S.bx 0).1;have zn1:=(S.bx 1).1;have zn2:=(S.bx 2).1;have zn3:=(S.bx 3).1;obtain⟨c0,hc0⟩:∃z:Nat,z=u.heap.size:=⟨_,I⟩;refine adr S 3 [] [.M 0 0] λS=>aCR S (Ru (aDB LU) (bT.below hg S.E) (λz hz=>agW (aDc aY.ns hk1) (λz hz=>((aDB LU).2.2.2 z hz).2) hsl2 z hz) (hk1▸hsv)) ?_;rintro e u ⟨bh,H1,rfl,hb1,hX1,hm1,⟨hok1,ayF⟩,E49⟩;rw[<-hc0]at hb1 hm1 hold jw zn0 zn1 zn2 zn3;refine⟨_,I,E49,λS=>?_⟩;have S:=S.adopt (A:=H1.cells) hX1 Z (λp hp=>by have:=hold p hp; omega) (λm hm=>by cases hm);refine adr S 20 [52,53,56,57,58,61,62] [.M 2 0,.re 58 (.b ((hk.es.length:Int)<(hk.k:Int))) (.z),.re 62 (.b ((256:Int)<(hk.es.length:Int))) (.z)] (hk:=⟨(aDc Value.b (aER Z)),(aDc Value.b (aER Z)),G⟩) λS=>aCT S λS=>aCZ S (ι:=Nat×HD) (λp a' w'=>(p.2.key=hk.upto p.1∧p.2.Ok 5000∧p.2.mem 5000 c0 bh w'∧Sx.On (λi=>i<c1) (λW=>jO W (.s a1 (hB WQ hk.k hk.es).length q1) (hB WQ hk.k hk.es)) w'∧p.1<=hk.es.length)∧Sx.St w a' w' 106 [(0,v),(2,(.pointer none)),(3,.i 0),(4,.q b4 0),(5,.i 0),(6,.q b12 0),(7,.q b15 0),(8,.func (.func 44) #[] #[.q b4 0,.q b12 0,.q b15 0]),(9,.func (.func 46) #[] #[.q b4 0,.q b12 0,.q b15 0]),(10,.q b29 0),(11,.int .u64 (hk.k:Int)),(12,.int .u64 (hk.es.length:Int)),(13,.q bh 0),(64,.int .u64 (hk.es.length:Int)),(65,.int .u64 (p.1:Int))] [(bh,p.2.cells),(b29,s1.cells),(b15,[.b true]),(b12,[.i (((hP WQ hk.k hk.es.length (hk.es.take p.1)).length:Nat):Int)]),(b4,[.s a1 ((hB WQ hk.k hk.es).length) q1])] []) (λp=>hk.es.length-p.1) (0,H1) (λS=>⟨⟨ayF.trans (by rw[hk1,<-aos]; exact h0z),hok1,hm1,((aDn hin1 (K00 E46 E49))),aDl _⟩,S.qc⟩) ?_;rintro⟨j,H2⟩ ac u gJ dW hI;try dsimp only at hI
 obtain⟨hR,S⟩:=hI;refine aC0 S (λS=>?_);have jw:=S.E.size;refine aCD S (decide ((j:Int)<(hk.es.length:Int))) (λaov S=>?_) (λaov S=>?_)
 .have hj:j<hk.es.length:=by have:=aDw aov; omega
  obtain⟨ek,hek⟩:∃z,hk.es[j]?=some z:=⟨_,List.getElem?_eq_getElem hj⟩;have heb:=hel _ (List.mem_of_getElem? hek);have S:=S.fl;refine Sx.H8 S 3 2 O I I (OU (v := .s a1 (hB WQ hk.k hk.es).length q1) (i:=(hP WQ hk.k hk.es.length (hk.es.take j)).length) (j:=(hP WQ hk.k hk.es.length (hk.es.take (j+1))).length) S.E (S.kD 4) (S.kD 3) (S.kD 2) (S.old 3) (S.old 2) hne.1 hne.2.1 hne.2.2 (eX (aDB hR.2.2.2.1)) hlL (ays hek heb)) ?_;rintro e u ⟨x59,ayG,rfl,ayH,⟨ayI,c159,x159⟩,e259,aow,ayJ⟩;refine⟨_,ayG,_,_,I,⟨ayI,c159,x159⟩,⟨e259,aow,ayJ⟩,λS=>?_⟩;have S:=S.fl;have Jw:=(Sx.On.ch hR.2.2.1 c159 Z);have Dy:=(Sx.On.ch hR.2.2.2.1 c159 Z);have CY:=(Sx.On.ch Jw aow Z);have xG:=(Sx.On.ch Dy aow Z);obtain⟨e0,he0,rfl⟩:=atf _ (List.mem_of_getElem? hek);have hem:=Rx.hs.enc (List.mem_of_getElem? hek);refine aCR S (GI (bT.below hg S.E) ayH (ES hem.2)) ?_;rintro e u ⟨v4,er4,rfl,hde,E64⟩;obtain⟨rfl,e1,rfl,he1,hk4⟩:=Vq.back hK ((heo _ he0).below (K00 S.E E64)) hem.1 hem.2 hde;refine⟨_,I,E64,λS=>?_⟩;refine aCF S λu b65 E66 aCr S=>aCH S 0 I (λu C68 S=>?_);have E69:=aCI (K00 E64 E66) C68 (by have:=E64.size; omega);have E70:=aCI (K00 E64 E66) C68 (by have:=E64.size; omega);have E71:=aCI E66 C68;refine adr S 10 [76,77,80,81,83] [.M 3 0,.M 0 0] (λS=>?_);have S:=S.fl;have hap:=Rx.ag6 hek;refine aCO S λS=>Sx.ag3 S 1 (some 82) I (vW hA (by rw[hk4]; exact hPe _ (List.mem_of_getElem? hek)) S.E (S.kD 1) (S.old 1) hb1 hR.2.1 ((aDn CY E69)) (bT.below hg S.E) (aDB ((aDn he1 E71))) (aaU (aDc bI.node hk4) (aDB ((aDn he1 E71))).2.2.2.2.2 (hok.e _ he0).2)) ?_;rintro e u ⟨H3,cd,rfl,ajY,KD,UK,hE3,hC3,hX3⟩;rw[hR.1,hk4,hap,aDm]at ajY;obtain⟨ajY,rfl⟩:=ajY;refine⟨_,_,I,hE3,hC3,hX3,λac S=>?_⟩;refine WM S (λS=>?_);have YI:=(Sx.On.ch ((aDn CY E69)) hC3 Z);have XY:=(Sx.On.ch ((aDn xG E70)) hC3 Z);refine adr S 2 [76,77,80,81,83] [] λS=>aCT S λS=>adr S 2 [] [.re 85 (.int .u64 (IntKind.u64.wrap ((j:Int)+1))) (.int .u64 (((j+1):Nat):Int))] (hk:=⟨(aoq Z),G⟩) λS=>aCY S gJ (λS=>?_);exact dW _ _ ((j+1),H3) ⟨⟨ajY,KD,UK,XY,hj⟩,(S.gB 1).qc⟩ (by show hk.es.length-(j+1)<hk.es.length-j; omega)
 refine adr S 6 [] [.re 88 (.i (IntKind.i64.wrap (hk.k:Int))) (.i hk.k)] (hk:=⟨(aor Z),G⟩) λS=>aCN S 0 I (λu Ag S=>?_);have Qk:=(Sx.On.ch hR.2.2.1 Ag Z);have Ql:=(Sx.On.ch hR.2.2.2.1 Ag Z);obtain rfl:j=hk.es.length:=by have:=aDA aov; have:=hR.2.2.2.2; omega
 have hkG:(⟨H2.sa,H2.sc,H2.ss,H2.ea,H2.ec,H2.es,hk.k⟩:HD).key=hk:=by have:=Rx.upto_all; rw[<-hR.1]at this; exact this
 have Zd:(⟨H2.sa,H2.sc,H2.ss,H2.ea,H2.ec,H2.es,hk.k⟩:HD).Ok 5000:=HD.Ok.ayu hR.2.1 _ (A02:=H) (hkG.trans hhk) hok.k;have hmG:(⟨H2.sa,H2.sc,H2.ss,H2.ea,H2.ec,H2.es,hk.k⟩:HD).mem 5000 c0 bh u:=Qk;refine aCR S (EW (H:=(⟨H2.sa,H2.sc,H2.ss,H2.ea,H2.ec,H2.es,hk.k⟩:HD)) (S.kD 0) Zd hmG (bT.below hg S.E)) ?_;rintro e u ⟨v5,rfl,hov,E80⟩;have hmG:=aDn hmG E80;refine⟨_,I,E80,λS=>?_⟩;refine adr S 10 [100,101,103] [] λS=>aCO S λS=>Yq S (some 102) (aC3 (ag5 (lS _ _ _ _ _ (vK hov) (eX (hv.below S.E))) (by rw[hkG,aE3]))) ?_;rintro e u ⟨rfl,E82⟩;refine⟨_,I,E82,λac S=>?_⟩;refine WM S λS=>adr S 2 [100,101,103] [] λS=>aCT S λS=>MG S (.q bh 0) (.i 0) (λS=>?_);exact⟨bh,(⟨H2.sa,H2.sc,H2.ss,H2.ea,H2.ec,H2.es,hk.k⟩:HD),I,Z,S.kD 0,K13 ((aDn hmG E82)) Z,Zd,hkG.trans hhk,S.E⟩
end
section
open Go.RowKit Go.Sx
variable{α:Type}{K:Nat}
structure jd where
 d:Int
 e:aN
def jd.cells(s:jd):List aaT := .i s.d::s.e.cells
def jd.v(s:jd):aaT := .agg s.cells.toArray
noncomputable def HK.step(h:HK)(d:Int)(e:bI):HK×Int:=if d = -1 then h.undo else if d=1 then h.redo else h.app e
noncomputable def HK.steps(h:HK)(l:List jd):HK:=l.foldl (λh x=>(h.step x.d x.e.key).1) h
abbrev HK.Ze{h:HK}{l:List jd}{j:Nat}(D:j<l.length){x:jd}(J:l[j]=x):h.steps (l.take (j+1))=((h.steps (l.take j)).step x.d x.e.key).1:=by
 unfold HK.steps;rw[<-List.take_append_getElem D,List.foldl_append,J]; rfl
abbrev HK.adf(h:HK)(e:bI){d:Int}(hd:(d == -1)=true):h.step d e=h.undo:=aDb (by simpa using hd)
abbrev HK.adg(h:HK)(e:bI){d:Int}(D:(d == -1)=false)(hd:(d==1)=true):h.step d e=h.redo:=by
 unfold HK.step; rw[aC9 (by simpa using D),aDb (by simpa using hd)]
abbrev HK.ag8(h:HK)(e:bI){d:Int}(D:(d == -1)=false)(hd:(d==1)=false):h.step d e=h.app e:=by
 unfold HK.step; rw[aC9 (by simpa using D),aC9 (by simpa using hd)]
variable{b:Bool}{j:Nat}
abbrev adh{P:bI->Prop}(hA:ApC P){w0 w:VO}{b c:Nat}{H:HD}{x:jd}(hP:P x.e.key)(J:Ext w0 w)(hx:Bx w b H.cells.toArray)(hb:w0.heap.size<=b)(ag:c<=b)(ah:H.Ok K)(hm:H.mem K c b w)(hg:bT w)(he:gQ K w x.e)(ai:x.e.node.lim) :
  abB prog 40 #[.q b 0,x.v] w λr w'=>∃(D:HD) (code:Int),r = .R (.i code)∧(D.key,code)=H.key.step x.d x.e.key∧D.Ok K∧D.mem K c b w'∧Ext w0 w'∧Ch b w w'∧Bx w' b D.cells.toArray:=by
 skip;refine aC5 func40 ntmps40 J hx hb λS=>aCF S λu b2 E3 D S=>adr S 5 [] [.M 0 0] λS=>aCD S ((x.d) == -1) (λaf S=>?_) (λaf S=>?_)
 .have Zb:Ext w u:=E3;have aa:=((Ch.trans (Ch.refl b w) (Ch.aT E3)));refine aCL S 1 I (KC S.E (S.bx 1) hb ag ah ((aDn hm E3))) ?_;rintro e u ⟨H1,code,rfl,D,J,ab,ac,MV,ae⟩;rw[<-HK.adf _ x.e.key af]at D;refine⟨_,_,I,ac,MV,ae,λS=>?_⟩;refine aCB S (.i code) (λS=>?_);exact⟨H1,code,I,D,J,ab,S.E,Ch.trans aa MV,S.kD 1⟩
 refine aCD S ((x.d)==1) (λfJ S=>?_) (λfJ S=>?_)
 .have Zb:Ext w u:=E3;have aa:=((Ch.trans (Ch.refl b w) (Ch.aT E3)));refine aCL S 1 I (Zc S.E (S.bx 1) hb ag ah ((aDn hm E3))) ?_;rintro e u ⟨H1,code,rfl,D,J,ab,ac,MV,ae⟩;rw[<-HK.adg _ x.e.key af fJ]at D;refine⟨_,_,I,ac,MV,ae,λS=>?_⟩;refine aCB S (.i code) (λS=>?_);exact⟨H1,code,I,D,J,ab,S.E,Ch.trans aa MV,S.kD 1⟩
 have Zb:Ext w u:=E3;have aa:=((Ch.trans (Ch.refl b w) (Ch.aT E3)));refine adr S 3 [] [.M 0 1] λS=>aCL S 1 I (vW hA hP S.E (S.bx 1) hb ag ah ((aDn hm E3)) (bT.below hg Zb) (he.below Zb) ai) ?_;rintro e u ⟨H1,code,rfl,D,J,ab,ac,MV,ae⟩;rw[<-HK.ag8 _ x.e.key af fJ]at D;refine⟨_,_,I,ac,MV,ae,λS=>?_⟩;refine aCB S (.i code) (λS=>?_);exact⟨H1,code,I,D,J,ab,S.E,Ch.trans aa MV,S.kD 1⟩
abbrev adi{P:bI->Prop}(hA:ApC P){w:VO}{s:aA}{l:List jd}{a:Option Addr}{cap:Nat}(h:dw K w s)(J:∀n∈s.ns,n.lim)(hg:bT w)(hv:s.key.valid=true)(aa:aI 56 jd.cells w (.s a l.length cap) l)(ho:∀x∈l,gQ K w x.e∧x.e.node.lim∧P x.e.key) :
  abB prog 21 #[s.v,.s a l.length cap] w λr w'=>∃(b:Nat) (H:HD),r = .R (.q b 0)∧w.heap.size<=b∧Bx w' b H.cells.toArray∧H.mem K w.heap.size b w'∧H.Ok K∧H.key=HK.steps ⟨[s.key],[],0⟩ l∧Ext w w':=by
 have D:l.length<=9223372036854775807:=aa.len;refine aCG func21 ntmps21 λS=>aCF S (λu b2 E3 D S=>?_);have D:=λp hp=>(S.own p hp).1.1;have jw:=S.E.size;obtain⟨c0,ao⟩:∃z:Nat,z=u.heap.size:=⟨_,I⟩;refine adr S 2 [] [.M 0 0] λS=>aCR S (Ru (h.below S.E) (bT.below hg S.E) J hv) ?_;rintro e u ⟨bh,H1,rfl,ah,aq,J,⟨ai,ar⟩,E6⟩;rw[<-ao]at ah J D jw;refine⟨_,I,E6,λS=>?_⟩;have S:=S.fl;have S:=S.adopt (A:=H1.cells) aq Z (λp hp=>by have:=D p hp; omega) (λm D=>by cases D);refine aCT S λS=>aCZ S (ι:=Nat×HD) (λp D w'=>(p.2.key=HK.steps ⟨[s.key],[],0⟩ (l.take p.1)∧p.2.Ok K∧p.2.mem K c0 bh w'∧p.1<=l.length)∧Sx.St w D w' 27 [(0,s.v),(1,.s a l.length cap),(2,.q b2 0),(4,(.pointer none)),(5,.q bh 0),(6,.i 0),(16,.s a l.length cap),(17,.i l.length),(18,.i p.1)] [(bh,p.2.cells),(b2,s.cells)] []) (λp=>l.length-p.1) (0,H1) (λS=>⟨⟨ar,ai,J,aDl _⟩,S.qc⟩) ?_;rintro⟨j,H2⟩ ac u gJ dW hI;try dsimp only at hI
 obtain⟨D,S⟩:=hI;refine aC0 S (λS=>?_);obtain⟨ae,J,af,a3⟩:=D;have jw:=S.E.size;refine aCD S (decide ((j:Int)<(l.length:Int))) (λD S=>?_) (λD S=>?_)
 .have hj:j<l.length:=by have:=aDw D; omega
  have ag:j<l.length:=hj;obtain⟨a4,a5,rfl,vX,Zf,Xk,ap⟩:=aDN aa (λ_=>I) (j) ag;have S:=S.view0 Xk ap;refine adr S 2 [] [.idx j l.length,.M 2 0] (hk:=⟨ag,G⟩) λS=>aCF S λu ay Gq az S=>aCH S 0 I (λu XW S=>?_);have Wy:=aCI Gq XW;have ab:=ho vX (Zf▸aDI hj);refine adr S 2 [] [.M 0 0] (λS=>?_);have S:=S.fl;refine aCL S 1 I (adh (x:=vX) hA ab.2.2 S.E (S.bx 1) (S.old 1) ah J ((aDn af Wy)) (bT.below hg S.E) (ab.1.below S.E) ab.2.1) ?_;rintro e u ⟨H3,code,rfl,av,KD,UK,aw,al,ax⟩;have am:H3.key=HK.steps ⟨[s.key],[],0⟩ (l.take (j+1)):=by rw[HK.Ze hj Zf,<-ae]; exact aDc Prod.fst av
  refine⟨_,_,I,aw,al,ax,λS=>?_⟩;have qH:=(Sx.On.ch ((aDn af Wy)) al Z);refine adr S 2 [] [.re 25 (.i (IntKind.i64.wrap ((j:Int)+1))) (.i (j+1:Nat))] (hk:=⟨(aCS Z),G⟩) λS=>aCY S gJ (λS=>?_);exact dW _ _ ((j+1),H3) ⟨⟨am,KD,UK,hj⟩,(S.gB 1).qc⟩ (by show l.length-(j+1)<l.length-j; omega)
 have an:l.length<=j:=by have:=aDA D; omega
 rw[aDG an]at ae;refine aCB S (.q bh 0) (λS=>?_);exact⟨bh,H2,I,Z,S.kD 0,K13 af Z,J,ae,S.E⟩
abbrev ag9{w:VO}{s:aA}(h:dw K w s)(J:bT w)(D:∀n∈s.ns,n.lim)(S:s.key.valid=false) :
  abB prog 25 #[s.v] w (VH w (.tuple #[.pointer none,.i 18])):=
 (Vz h J D).mono λe w' h=>by
  rcases h with ⟨-,h⟩ | ⟨D,-⟩
  .exact h
  .rw[S]at D; cases D
abbrev zi:∀{a b:Bool},cond a false b=true->a=false∧b=true:=by decide
abbrev aaZ{t:bG}(h:t.fit 20):t.lim:=⟨h.1.mono O,h.2.1.mono O,h.2.2.1.mono O,h.2.2.2.1.mono O,h.2.2.2.2.1.mono O,h.2.2.2.2.2.mono O⟩
abbrev EX{r:bM}(h:((decide (12<(r.l1.length:Int)))||(decide (12<(r.l2.length:Int))))=false):r.fit 20:=by
 simp only[aDX,aDQ]at h;exact⟨Z,Z⟩
def bG.lt(t:bG):Bool:=cond ((decide (12<(t.a.l1.length:Int)))||(decide (12<(t.a.l2.length:Int)))) (false) (cond ((decide (12<(t.b.l1.length:Int)))||(decide (12<(t.b.l2.length:Int)))) (false) (cond ((decide (12<(t.c.l1.length:Int)))||(decide (12<(t.c.l2.length:Int)))) (false) (cond ((decide (12<(t.d.l1.length:Int)))||(decide (12<(t.d.l2.length:Int)))) (false) (cond ((decide (12<(t.e.l1.length:Int)))||(decide (12<(t.e.l2.length:Int)))) (false) (cond ((decide (12<(t.f.l1.length:Int)))||(decide (12<(t.f.l2.length:Int)))) (false) (true))))))
abbrev VB{w:VO}{t:bG}(h:t.ok w) :
  abB prog 69 #[t.v] w (VH w (.b t.lt)):=by
 obtain⟨t0,t1,t2,D,J,t5⟩:=h;obtain⟨p0,c0,e0,-⟩:=t0.1;obtain⟨q0,d0,f0,-⟩:=t0.2;obtain⟨p1,c1,e1,-⟩:=t1.1;obtain⟨q1,d1,f1,-⟩:=t1.2;obtain⟨p2,c2,e2,-⟩:=t2.1;obtain⟨q2,d2,f2,-⟩:=t2.2;obtain⟨p3,c3,e3,-⟩:=D.1;obtain⟨q3,d3,f3,-⟩:=D.2;obtain⟨p4,c4,D,-⟩:=J.1;obtain⟨D,d4,f4,-⟩:=J.2;obtain⟨p5,c5,D,-⟩:=t5.1;obtain⟨D,J,f5,-⟩:=t5.2;refine aCG func69 ntmps69 λS=>aCF S λu b2 J D S=>adr S 13 [] [.M 0 0,.M 0 4,.M 0 8,.M 0 12,.M 0 16,.M 0 20] λS=>aCF S λu b6 J D S=>ZV S 6 λS=>aCM S λS=>adr S 18 [] [.M 0 1,.M 0 3] λS=>aCD S ((decide (12<(t.a.l1.length:Int)))||(decide (12<(t.a.l2.length:Int)))) (λqh S=>?_) (λqh S=>?_)
 .refine aCB S (.z) (λS=>?_);exact⟨aJ (by unfold bG.lt; rw[qh]; rfl),S.E⟩
 refine aCM S λS=>adr S 18 [] [.M 0 5,.M 0 7] λS=>aCD S ((decide (12<(t.b.l1.length:Int)))||(decide (12<(t.b.l2.length:Int)))) (λD S=>?_) (λD S=>?_)
 .refine aCB S (.z) (λS=>?_);exact⟨aJ (by unfold bG.lt; rw[qh,D]; rfl),S.E⟩
 refine aCM S λS=>adr S 18 [] [.M 0 9,.M 0 11] λS=>aCD S ((decide (12<(t.c.l1.length:Int)))||(decide (12<(t.c.l2.length:Int)))) (λJ S=>?_) (λJ S=>?_)
 .refine aCB S (.z) (λS=>?_);exact⟨aJ (by unfold bG.lt; rw[qh,D,J]; rfl),S.E⟩
 refine aCM S λS=>adr S 18 [] [.M 0 13,.M 0 15] λS=>aCD S ((decide (12<(t.d.l1.length:Int)))||(decide (12<(t.d.l2.length:Int)))) (λDX S=>?_) (λDX S=>?_)
 .refine aCB S (.z) (λS=>?_);exact⟨aJ (by unfold bG.lt; rw[qh,D,J,DX]; rfl),S.E⟩
 refine aCM S λS=>adr S 18 [] [.M 0 17,.M 0 19] λS=>aCD S ((decide (12<(t.e.l1.length:Int)))||(decide (12<(t.e.l2.length:Int)))) (λaa S=>?_) (λaa S=>?_)
 .refine aCB S (.z) (λS=>?_);exact⟨aJ (by unfold bG.lt; rw[qh,D,J,DX,aa]; rfl),S.E⟩
 refine aCM S λS=>adr S 18 [] [.M 0 21,.M 0 23] λS=>aCD S ((decide (12<(t.f.l1.length:Int)))||(decide (12<(t.f.l2.length:Int)))) (λD6 S=>?_) (λD6 S=>?_)
 .refine aCB S (.z) (λS=>?_);exact⟨aJ (by unfold bG.lt; rw[qh,D,J,DX,aa,D6]; rfl),S.E⟩
 refine aCT S λS=>aCB S (.b true) (λS=>?_);exact⟨aJ (by unfold bG.lt; rw[qh,D,J,DX,aa,D6]; rfl),S.E⟩
abbrev aha{P:Program}{w:VO}{os:List Oper}{i:Nat}{o:Oper}{ρ:Operand->aaT}(ho:os[i]?=some o){t e:TypeId}{z:aaT}{k bytes:Nat}(T:gI P t e z k bytes){sl sx:Nat}{ad:Addr}{y:aaT}{f:α->List aaT}{L:List α}
  (hs:ρ (.tmp sl) = .s (some ad) 0 0) (hx:ρ (.tmp sx)=y) (hy:aI k f w y L) (hf:∀x,(f x).length=k) (h1:∀x,(f x).all (·.oneCell')=true) (D:L.length*bytes<=140737488355328) (aa:L.length<=maxLen) {Post:aaT->VO->Prop} (hK:∀J w',((L=[]∧∃ad,J = .s (some ad) 0 0)∨w'.ownsRow w.heap.size e k J L.length (L.flatMap f))->Ext w w'->Post J w')
  (S:NI os i=some (.tmp sl,.tmp sx,t,true):=by kernel_rfl):Rel.Does P o ρ w Post:=by
 cases L with
 | nil =>
  obtain⟨a,c,rfl⟩:=hy.shape;exact NJ ho T (aDd 0) hs hx (hK _ _ (.inl ⟨I,ad,I⟩) K01) S
 | cons x r =>
  have hw:dR w k (.s (some ad) 0 0) 0 []:=⟨by simp,λu hu=>(by cases hu),.inl ⟨I,some ad,0,I,λe=>(by cases e)⟩⟩;refine qV (f:=0) ho T hs hx hw (kS hy hf h1) Y (by simpa using aa) (by simpa using D) (λJ w' h hE=>hK J w' (.inr ?_) hE) S;simpa using h
abbrev _root_.Go.Sx.aoy{P:Program}{ops:Array Oper}{Q:Exit->Act->VO->Prop}{n:Nat}{w0 w:VO}{a:Act}{os:List Oper}{l:List (Nat×aaT)}{bl:List (Nat×List aaT)}{vs:List Sx.fE}(S:Sx.St w0 a w n l bl vs)(d:Nat){t e:TypeId}{z:aaT}{k bytes J:Nat}(T:gI P t e z k bytes){f:α->List aaT}{L M:List α}{v y:aaT}
  (hb:∀p∈bl,p.1<J) (h0:w0.heap.size<=J) (hv:(L=[]∧∃ad,v = .s (some ad) 0 0)∨w.ownsRow J e k v L.length (L.flatMap f)) (hy:aI k f w y M) (hf:∀x,(f x).length=k) (h1:∀x,(f x).all (·.oneCell')=true) (ae:L.length+M.length<=maxLen) (D:(L.length+M.length)*bytes<=140737488355328)
  (next:∀a' w' J,(∃A c,J = .s A (L++M).length c∧aI k f w' (.s A (L++M).length c) (L++M)∧∀g o,A=some ⟨g,o,none⟩->0<(L++M).length->∀p∈bl,p.1≠g)->Sx.St w0 a' w' n ((d,J)::l) bl []->aiw P ops Q (os.drop 1) a' w')
  (hx:JG os l=some (t,v,y,some d):=by kernel_rfl) (hd:Sx.uO n (some d)=true:=by rfl):aiw P ops Q os a w:=by
 have ab:∀p∈bl,p.1<w.heap.size:=λp hp=>(S.own p hp).1.1;rcases hv with ⟨rfl,ad,rfl⟩ | hv
 .refine ayL S d T hy (by simpa using D) (λa' w' J hE hF S=>?_) hx hf h1 hd;have h:=aDB hF;obtain⟨A,c,rfl⟩:=h.1.shape;refine next _ _ _ ⟨A,c,I,h.1,λg o e h0 p hp he=>?_⟩ S.lq;subst e;rcases h.2 with h2 | ⟨g',c',af,hv,hg,hh⟩
  .exact absurd h0 (by show ¬0<M.length; omega)
  simp only[aDO,aDe,aEZ]at hv;have:=ab p hp;omega
 have R:=(aDV S).add (r:=⟨e,k,v,L.length,L.flatMap f⟩) hv (λb aa=>by obtain⟨x,ac⟩:∃x,(b,x)∈bl:=(by simpa[Ob]using aa); exact hb _ ac) h0;refine aDf S R 0 d I T (kS hy hf h1) ae D (λa' w' J A03 R S=>?_) hx hd;have h:=R.own _ aDq;obtain⟨A,c,D⟩:=Sx.jh h;replace D:J = .s A (L++M).length c:=D.trans (aDc (λn=>Value.s A n c) Y);subst D;have h2:w'.ownsRow w0.heap.size e k (.s A (L++M).length c) (L++M).length ((L++M).flatMap f):=by rw[aDg,aED]; rw[aDg]at h; exact h
 refine next _ _ _ ⟨A,c,I,aDB (jq hf h2 I I),λg o e h0=>?_⟩ S;obtain⟨g',rfl⟩:=Ju h2 h0;cases e;exact(R.range aDq (show Value.s (some ⟨g,0,none⟩) (L++M).length c = .slice (some ⟨g,0,none⟩) (L.length+M.length) c by rw[aDg]) 0 (cs:=[]) I).2.2
def ak.lt(p:ak):Bool := !(((!(p.t.lt))||(decide (30<(p.stops.length:Int))))||(decide (300<(p.img.l.length:Int))))
def aj.lt0(n:aj):Bool:=((((((decide (24<(n.path.length:Int)))||(decide (24<(n.clip.length:Int))))||(decide (20<(n.style.dash.length:Int))))||(decide (300<(n.img.l.length:Int))))||(!(n.t.lt)))||(decide (3<(n.fill.length:Int))))||(decide (3<(n.stroke.length:Int)))
def aj.lt(n:aj):Bool := !n.lt0&&(n.fill++n.stroke).all ak.lt
def aA.light(s:aA):Bool := !(decide (8<s.ns.length)&&decide (s.ns.length<=64))&&(s.ns.take 65).all aj.lt
abbrev ajZ{n:aj}(h:n.lt0=false):n.fill.length<=3∧n.stroke.length<=3:=by
 unfold aj.lt0 at h;simp only[aDX,aDQ]at h;omega
abbrev VD{p:ak}(h:(((!(p.t.lt))||(decide (30<(p.stops.length:Int))))||(decide (300<(p.img.l.length:Int))))=b):p.lt = !b:=by unfold ak.lt; rw[h]
abbrev ahb{l:List aj}(h:j<l.length)(J:j<=64)(D:(l[j]).lt=false):(l.take 65).all aj.lt=false:=by
 refine zo (k:=j) (by rw[aD4]; omega) ?_;rw[aFC]; exact D
abbrev aoz{l:List aj}(D:(l.take j).all aj.lt=true)(h:¬(j<l.length∧j<=64))(J:j<=65)(hl:j<=l.length):(l.take 65).all aj.lt=true:=by
 by_cases h2:j<l.length
 .obtain rfl:j=65:=by omega
  exact D
 rw[aDG Z]at D;exact aDF.2 λx J=>aDF.1 D x (aEJ J)
abbrev H9{n:Nat}(h:((decide ((8:Int)<(n:Int)))&&(decide ((n:Int)<=64)))=b):(decide (8<n)&&decide (n<=64))=b:=by
 rw[<-h]; congr 1<;>(apply aF1.2; omega)
abbrev FZ{w:VO}{s:aA}(h0:aI 47 aj.cells w s.s s.ns∧∀n∈s.ns,n.ok w) :
  abB prog 39 #[s.v] w (VH w (.b s.light)):=by
 have D:s.ns.length<=9223372036854775807:=h0.1.len;refine aCG func39 ntmps39 (λS=>?_);obtain⟨a,cap,es⟩:∃a c,s.s = .s a s.ns.length c:=⟨_,_,I⟩;have av:=h0.1;have bh:=h0.2;rw[es]at av;refine aCF S λu b2 J D S=>adr S 11 [] [.M 0 6,.re 8 s.s (.s a s.ns.length cap),.M 0 6,.re 13 s.s (.s a s.ns.length cap)] (hk:=⟨es,es,G⟩) λS=>aCD S ((decide (8<(s.ns.length:Int)))&&(decide ((s.ns.length:Int)<=64))) (λmJ S=>?_) (λmJ S=>?_)
 .refine aCB S (.z) (λS=>?_);exact⟨aJ (by unfold aA.light; rw[H9 mJ]; rfl),S.E⟩
 refine aCZ S (ι:=Nat) (λp a' w'=>((s.ns.take p).all aj.lt=true∧p<=s.ns.length∧p<=65)∧Sx.St w a' w' 114 [(0,s.v),(1,.q b2 0),(2,.z),(3,.i p)] [(b2,s.cells)] []) (λp=>s.ns.length-p) (0) (λS=>⟨⟨I,aDl _,aDl _⟩,S.qc⟩) ?_;rintro j ac u gJ dW hI;try dsimp only at hI
 obtain⟨hR,S⟩:=hI;refine aC0 S (λS=>?_);obtain⟨am,bk,bm⟩:=hR;refine adr S 9 [] [.M 0 6,.re 19 s.s (.s a s.ns.length cap)] (hk:=⟨es,G⟩) λS=>aCD S ((decide ((j:Int)<(s.ns.length:Int)))&&(decide ((j:Int)<=64))) (λaa S=>?_) (λaa S=>?_)
 .have hj:j<s.ns.length∧j<=64:=by have:=aa; simp at this; omega
  have J:j<s.ns.length:=hj.1;obtain⟨bo,bp,rfl,D,Zf,Xk,bq⟩:=aDN av (λ_=>I) (j) J;have h:=bh _ (Zf▸aDI J);obtain⟨a1,c1,bw⟩:=h.2.2.2.2.1.1.shape;obtain⟨a2,c2,bz⟩:=h.2.2.2.2.2.2.2.1.1.shape;obtain⟨a3,c3,ca⟩:=h.2.2.2.2.2.2.2.2.2.1.1.shape;obtain⟨a4,c4,cb⟩:=h.2.2.2.2.2.2.2.2.2.2.2.1.1.shape;obtain⟨a5,c5,cc,-⟩:=h.2.2.2.2.2.2.2.2.2.2.1.2.2.2.2.1;obtain⟨a6,c6,cd⟩:=h.2.2.2.2.2.2.2.2.2.2.2.2.1.2.2.shape;have S:=S.view0 Xk bq;refine adr S 5 [] [.M 0 6,.re 29 s.s (.s (some ⟨bo,bp,none⟩) s.ns.length cap),.idx j s.ns.length,.M 1 0] (hk:=⟨es,J,G⟩) λS=>aCF S λu an Gq J S=>aCH S 0 I λu J S=>aC6 S 42 [.M 0 33,.M 0 27,.M 0 40,.M 0 45,.M 0 3,.M 0 35,.M 0 42] [(_,_,(!((((decide (24<(D.path.length:Int)))||(decide (24<(D.clip.length:Int))))||(decide (20<(D.style.dash.length:Int))))||(decide (300<(D.img.l.length:Int))))),.b (D.t.lt))] [(74,.b (((((((decide (24<(D.path.length:Int)))||(decide (24<(D.clip.length:Int))))||(decide (20<(D.style.dash.length:Int))))||(decide (300<(D.img.l.length:Int))))||(!(D.t.lt)))||(decide (3<(D.fill.length:Int))))||(decide (3<(D.stroke.length:Int)))))] ⟨λu J g=>VB (t:=D.t) (h.2.2.2.1.below (K00 S.E J)),G⟩ λu bu S=>aCD S (((((((decide (24<(D.path.length:Int)))||(decide (24<(D.clip.length:Int))))||(decide (20<(D.style.dash.length:Int))))||(decide (300<(D.img.l.length:Int))))||(!(D.t.lt)))||(decide (3<(D.fill.length:Int))))||(decide (3<(D.stroke.length:Int)))) (λJ S=>?_) (λJ S=>?_)
  .refine aCB S (.z) (λS=>?_);have ae:=H9 mJ;exact⟨aJ (by unfold aA.light; rw[ae,ahb hj.1 hj.2 (by rw[Zf]; unfold aj.lt aj.lt0; rw[J]; rfl)]; rfl),S.E⟩
  have af:D.lt0=false:=J;have J:=ajZ af;have J:=λp hp=>(S.own p hp).1.1;have aw:=S.E.size;obtain⟨ub,az⟩:∃z:Nat,z=u.heap.size:=⟨_,I⟩;rw[<-az]at J aw;have ax:=h.2.2.2.2.2.2.2.2.2.1;have ay:=h.2.2.2.2.2.2.2.2.2.2.2.1;have bt:=λp hp=>(S.own p hp).1.1;have jw:=S.E.size;refine WL S f39 9 (λS iz=>?_);refine rX S 6 [(75,iO u.heap.size [] (some 0)),(78,λv w1=>(D.fill=[]∧∃ad,v = .s (some ad) 0 0)∨w1.ownsRow ub 133 40 v D.fill.length (D.fill.flatMap ak.cells))] (λr=>[.new 75 [] (some 0) r,.M 0 35,.hand 78 [(77,D.fs)],.M 0 42]) (λx=>[x 75,x 78]) (λx=>[]) [] (λx=>[(78,x 78),(80,D.ss)]) ⟨iO.mono,λ_ _ _ k h=>h.imp id λh=>Sx.dB h k,G⟩ (λx=>G) (λac u x WA F S=>?_) (hN:=λr=>⟨⟨I,I⟩,G⟩) (hk:=λr=>⟨G,G,G⟩) (hl:=[(3,[75])]) (hH:=λx r=>⟨λo ho ρ u hs hE hρ hV F=>by obtain⟨a8,-⟩:=F; obtain⟨b,e1,-,h1⟩:=a8; exact aha ho Hf ((hρ 75 O I).trans e1) (hV (77,_) aDq) (ax.1.below (K00 S.E hE)) (λ_=>I) (λ_=>I) Z (by show D.fill.length<=9223372036854775807; omega) (λv' w' h be=>aC4 ho I I be (h.imp id λh=>aDk h (by rw[az]; exact hE.size))),G⟩);refine Qr S (λS=>?_);obtain⟨a8,ag,-⟩:=F;obtain⟨a9,bb⟩:∃z,z=x 78:=⟨_,I⟩;rw[<-bb]at S ag;try rw[<-bb]
  replace ag:(D.fill=[]∧∃ad,a9 = .s (some ad) 0 0)∨u.ownsRow ub 133 40 a9 D.fill.length (D.fill.flatMap ak.cells):=ag;refine aCO S λS=>Sx.aoy S 81 Hf J aw ag (ay.1.below S.E) (λ_=>I) (λ_=>I) (by show D.fill.length+D.stroke.length<=9223372036854775807; omega) Z λac u J ar S=>aCW S (λS=>?_);obtain⟨PL,ah⟩:∃z,z=D.fill++D.stroke:=⟨_,I⟩;rw[<-ah]at ar;obtain⟨a7,c7,rfl,J,bc⟩:=ar;have bv:PL.length<=9223372036854775807:=J.len;have al:∀g o,a7=some ⟨g,o,none⟩->0<PL.length->an≠g∧b2≠g:=λg o e h0=>⟨bc g o e h0 _ (aDq),bc g o e h0 _ (aEs _ (aDq))⟩;have bj:∀p∈PL,p.ok w:=λp hp=>by rw[ah]at hp; exact(aDT.1 hp).elim (ax.2 p) (ay.2 p)
  refine aCZ S (ι:=Nat) (λp a' w'=>p<=PL.length∧((PL.take p).all ak.lt=true∧aI 40 ak.cells w' (.s a7 PL.length c7) PL)∧Sx.St w a' w' 114 [(0,s.v),(1,.q b2 0),(2,.z),(3,.i j),(4,.q an 0),(5,.s a7 PL.length c7),(6,.i p)] [(an,D.cells),(b2,s.cells)] []) (λp=>PL.length-p) (0) (λS=>⟨aDl _,⟨I,J⟩,S.qc⟩) ?_;rintro k ac u Wx bs hI;try dsimp only at hI
  obtain⟨hk,hR,S⟩:=hI;refine aC0 S (λS=>?_);obtain⟨hR,J⟩:=hR;refine aCD S (decide ((k:Int)<(PL.length:Int))) (λab S=>?_) (λab S=>?_)
  .have MI:k<PL.length:=by have:=aDw ab; omega
   obtain⟨ce,cf,rfl,ai,aq,bd,br⟩:=aDN J (λ_=>I) (k) MI;have ap:=bj _ (aq▸aDI MI);obtain⟨r1,r2,cg⟩:=ap.2.2.2.2.1.shape;obtain⟨r3,r4,ci⟩:=ap.2.2.2.2.2.2.2.1.2.2.shape;have S:=S.view bd br (λp hp=>by rcases aDp.1 hp with rfl | hp; (exact(al _ _ I Z).1); rcases aDp.1 hp with rfl | hp; (exact(al _ _ I Z).2); cases hp);refine adr S 5 [] [.idx k PL.length,.M 2 16] (hk:=⟨MI,G⟩) λS=>aCQ S (VB (t:=ai.t) (ap.2.2.2.2.2.2.2.2.2.below S.E)) λu bg S=>adr S 20 [] [.idx k PL.length,.M 2 10,.idx k PL.length,.M 2 14] (hk:=⟨MI,MI,G⟩) λS=>aCD S (((!(ai.t.lt))||(decide (30<(ai.stops.length:Int))))||(decide (300<(ai.img.l.length:Int)))) (λao S=>?_) (λao S=>?_)
   .refine aCB S (.z) (λS=>?_);have ae:=H9 mJ;exact⟨aJ (by unfold aA.light; rw[ae,ahb hj.1 hj.2 (by rw[Zf]; unfold aj.lt; rw[af,<-ah,zo MI (by rw[aq]; exact VD ao)]; rfl)]; rfl),S.E⟩
   refine adr S 3 [] [.re 87 (.i (IntKind.i64.wrap ((k:Int)+1))) (.i (k+1:Nat))] (hk:=⟨aCS Z,G⟩) λS=>aCY S Wx (λS=>?_);exact bs _ _ (k+1) ⟨Z,⟨mV MI hR (by rw[aq]; exact VD ao),((J.below bg))⟩,S.qc⟩ (by show _-_<_-_; omega)
  have J:D.lt=true:=by unfold aj.lt; rw[af,<-ah,yC (by have:=aDA ab; omega) hR]; rfl
  refine adr S 3 [] [.re 27 (.i (IntKind.i64.wrap ((j:Int)+1))) (.i (j+1:Nat))] (hk:=⟨aCS Z,G⟩) λS=>aCY S gJ (λS=>?_);exact dW _ _ (j+1) ⟨⟨mV hj.1 am (by rw[Zf]; exact J),hj.1,Z⟩,(S.gB 1).qc⟩ (by show s.ns.length-(j+1)<s.ns.length-j; omega)
 refine aCB S (.b true) (λS=>?_);have ae:=H9 mJ;exact⟨aJ (by unfold aA.light; rw[ae,aoz am (by have:=aa; simp at this; omega) bm bk]; rfl),S.E⟩
