/- Package history: its operations -/
import Derived.Test.YtodpgjjgaddkeaaGreatDoorPk20
set_option maxRecDepth 100000
set_option maxHeartbeats 9999999
open Go renaming World->E5,Value->y9,Calls->Nq,wpList->Ã
set_option linter.unusedVariables false
set_option linter.unusedSimpArgs false
open Go.Proofs.Tryz Go.RowKit Go.Sx Go.Proofs Go.Proofs.Õ Go.Rel
namespace Go.Proofs.Õ
section
variable{α:Type}{K:Nat}
variable{b c:Nat}{H:HD}
abbrev rQ{P:bY->Prop}(hA:ϳ P){w0 w:E5}{e:aQ}(hP:P e.key)(J:Ext w0 w)(hx:Bx w b H.cells.toArray)(hb:w0.heap.size<=b)(ah:c<=b)(aa:H.Ok K)(hm:H.mem K c b w)(hg:bU w)(he:gU K w e)(ai:e.node.lim) :
  Nq prog 13 #[.q b 0,e.v] w λr w'=>∃(D:HD) (code:Int),r = .R (.i code)∧(D.key,code)=H.key.app e.key∧D.Ok K∧D.mem K c b w'∧Ext w0 w'∧Ch b w w'∧Bx w' b D.cells.toArray:=by
 skip;refine Ĭ func13 ntmps13 J hx hb λS=>Â S λu b2 D J S=>nH S (qQ (S.bx 1)) λS=>ă S λS=>O1 S 6 [] [.M 1 2] λS=>À S (((H.k:Int))==256) (λGm S=>?_) λGm S=>?_
 .refine Xe S (.i 5) λS=>?_;exact⟨H,5,I,by unfold HK.app; rw[Á (show H.key.k=256 from by have:=Gm; simp at this; exact(by omega:H.k=256))],aa,((Ü hm D)),S.E,((Ch.trans (Ch.refl b w) (Ch.aY D))),S.kV 1⟩
 refine ć S 4 [.M 0 0] [] [(15,.q b 0),(16,e.v)] trivial λu rW S=>?_;have J:Ext w u:=(Ip D rW);have hk:H.k≠256:=by have:=Gm; simp at this; omega
 have ab:=((Ch.trans (Ch.refl b w) (Ch.aY (Ip D rW))));refine â S 1 I (ag6 hA hP S.E (S.bx 1) hb ah aa ((Ü hm (Ip D rW))) hk (bU.below hg J) (he.below J) ai) ?_;rintro e u ⟨H1,code,rfl,ac,D,ae,af,J,ag⟩;refine⟨_,_,I,af,J,ag,λS=>?_⟩;refine Xe S (.i code) λS=>?_;exact⟨H1,code,I,by unfold HK.app; rw[UQ (show ¬H.key.k=256 from hk)]; exact ac,D,ae,S.E,Ch.trans ab J,S.kV 1⟩
abbrev KQ{w0 w:E5}(S:Ext w0 w)(hx:Bx w b H.cells.toArray)(hb:w0.heap.size<=b)(J:c<=b)(D:H.Ok K)(hm:H.mem K c b w) :
  Nq prog 14 #[.q b 0] w λr w'=>∃(J:HD) (code:Int),r = .R (.i code)∧(J.key,code)=H.key.undo∧J.Ok K∧J.mem K c b w'∧Ext w0 w'∧Ch b w w'∧Bx w' b J.cells.toArray:=
 (acU S hx hb (by have:=D.le; omega)).mono λe w' h=>by
  rcases h with ⟨h0,rfl,S,J,h3⟩ | ⟨k',aa,rfl,S,J,h3⟩
  .exact⟨H,20,I,by unfold HK.undo; rw[Á (show H.key.k=0 from h0)],D,K09 hm J,S,J,h3⟩
  .have e1:(HD.key ⟨H.sa,H.sc,H.ss,H.ea,H.ec,H.es,k'⟩,(0:Int))=H.key.undo:=by
    unfold HK.undo
    rw[UQ (show ¬H.key.k=0 from by show ¬H.k=0; omega)]
    unfold HD.key
    simp only[aa,Nat.add_sub_cancel]
   have e2:=D.k.undo
   rw[<-e1]at e2
   exact⟨⟨H.sa,H.sc,H.ss,H.ea,H.ec,H.es,k'⟩,0,I,e1,⟨e2,D.s,D.e⟩,K09 hm J,S,J,h3⟩
abbrev Zp{w0 w:E5}(S:Ext w0 w)(hx:Bx w b H.cells.toArray)(hb:w0.heap.size<=b)(J:c<=b)(D:H.Ok K)(hm:H.mem K c b w) :
  Nq prog 15 #[.q b 0] w λr w'=>∃(J:HD) (code:Int),r = .R (.i code)∧(J.key,code)=H.key.redo∧J.Ok K∧J.mem K c b w'∧Ext w0 w'∧Ch b w w'∧Bx w' b J.cells.toArray:=
 (acV S hx hb (by have:=D.le; omega)).mono λe w' h=>by
  have hl:H.key.es.length=H.es.length:=ĭ ..
  rcases h with ⟨S,rfl,h1,J,h3⟩ | ⟨S,rfl,h1,J,h3⟩
  .exact⟨H,20,I,by unfold HK.redo; rw[Á (show H.key.k=H.key.es.length from by rw[hl]; exact S)],D,K09 hm J,h1,J,h3⟩
  .have e1:(HD.key ⟨H.sa,H.sc,H.ss,H.ea,H.ec,H.es,H.k+1⟩,(0:Int))=H.key.redo:=by
    unfold HK.redo
    rw[UQ (show ¬H.key.k=H.key.es.length from by rw[hl]; exact S)]; rfl
   have S:=D.k.redo
   rw[<-e1]at S
   exact⟨⟨H.sa,H.sc,H.ss,H.ea,H.ec,H.es,H.k+1⟩,0,I,e1,⟨S,D.s,D.e⟩,K09 hm J,h1,J,h3⟩
abbrev sW{w:E5}(hx:Bx w b H.cells.toArray)(D:H.Ok K)(J:H.mem K c b w) :
  Nq prog 17 #[.q b 0] w λr w'=>∃m:aB,r = .R m.v∧fF w.heap.size m.s m.ns w'∧bQ K w' m∧m.key=H.key.now∧(∀n∈m.ns,n.xZ K)∧Ext w w':=
 have S:=æ J
 have J:=ò D.lt
 (Y4 hx S.1.1 D.lt (S.1.2 _ J) (λn hn=>(D.s _ J n hn).2) (by have:=KN (D.val J); omega)).mono λe w' ⟨m,h1,h2,h3,h4,h5,h6,h7⟩=>by
  have hf:∀n∈m.ns,n.xZ K:=λn hn=>⟨fits_all h3 (λn hn=>(D.s _ J n hn).1) n hn,vP h3 (λn hn=>(D.s _ J n hn).2) n hn⟩
  exact⟨m,h1,h2,⟨h4▸(S.1.2 _ J).1,h5▸(S.1.2 _ J).2.1,fF.ok h2 λn hn=>(hf n hn).1⟩,by rw[K11 D.lt]; unfold aB.key; rw[h4,h5,h6]; exact Ñ _ (vO h3),hf,h7⟩
end
section
open En
variable{K:Nat}
theorem RJ{c:Nat}:∀{l:List bY},(∀e∈l,(eB e).length<=c)->(l.flatMap eB).length<=l.length*c
 | [],_=>Î _
 | x::r,h=>by
  have D:=h x Ö
  have D:=RJ (l:=r) λe D=>h e (ļ _ D)
  rw[Ķ,Å,Ē,Nat.succ_mul]
  omega
abbrev HD.Ok.alG{H:HD}(h:H.Ok K):∀e∈H.key.es,(eB e).length<=60000010:=λe D=>by
 obtain⟨x,J,rfl⟩:=ô.1 D;have J:=Fg (e:=x) (h.k.hs.enc D).2;have D:=JY (gu.app (kR x.key));unfold eB;omega
abbrev HD.Ok.alH{H:HD}(h:H.Ok K){s:aB}(D:s∈H.ss):(gu.app (dW s.key)).length<=60000000:=Za (h.val D)
def hP(s:bG)(k n:Nat)(l:List bY):List UInt8:=gJ (gu.app (dW s))++(dX 10 k++(dX 10 n++l.flatMap eB))
variable{s:bG}{k j:Nat}{es:List bY}
abbrev alI(s:bG)(k:Nat)(es:List bY):hB s k es=hP s k es.length es:=rfl
abbrev ag7(S:(gu.app (dW s)).length<=60000000)(D:∀e∈es,(eB e).length<=60000010)(J:es.length<=256):(hB s k es).length<=20000000000:=by
 have a1:=JY (gu.app (dW s));have a2:=iL 10 k;have S:=iL 10 es.length;have S:=RJ D;have D:es.length*60000010<=256*60000010:=ō _ J;unfold hB;simp only[Å];omega
abbrev ag8(D:(gu.app (dW s)).length<=60000000):Ť (hB s k es) (0:Nat) (hB s k es).length=(gu.app (dW s),(gJ (gu.app (dW s))).length,0):=by
 have:=aaL [] (dX 10 k++(dX 10 es.length++es.flatMap eB)) (gu.app (dW s)) (hB s k es).length Z (by unfold hB gJ; simp only[Å]; omega);simp only[Ģ,ł,Ī]at this;exact this
abbrev ayM(hk:k<=256):y8 (hB s k es) ((gJ (gu.app (dW s))).length:Nat)=(k,(gJ (gu.app (dW s))).length+(dX 10 k).length,0):=
 aaK (gJ (gu.app (dW s))) (dX 10 es.length++es.flatMap eB) k Z
abbrev ayN(hk:es.length<=256):y8 (hB s k es) ((gJ (gu.app (dW s))).length+(dX 10 k).length:Nat)=(es.length,(hP s k es.length []).length,0):=by
 have:=aaK (gJ (gu.app (dW s))++dX 10 k) (es.flatMap eB) es.length Z;rw[ç,Å]at this;unfold hP hB;rw[this];simp only[Å,List.flatMap_nil,ĳ,Ο]
abbrev ayO{e:bY}(he:es[j]?=some e)(h2:(eB e).length<=60000010):Ť (hB s k es) ((hP s k es.length (es.take j)).length:Nat) (hB s k es).length=(gu.app (kR e),(hP s k es.length (es.take (j+1))).length,0):=by
 obtain⟨S,rfl⟩:=List.getElem?_eq_some_iff.1 he;have e0:es=es.take j++(es[j]::es.drop (j+1)):=by rw[aG7,ň]
 have D:hB s k es=hP s k es.length (es.take j)++(gJ (gu.app (kR es[j]))++(es.drop (j+1)).flatMap eB):=by
  rw[alI];conv=>lhs; rw[hP]
  rw[hP];simp only[ç];congr 3;conv=>lhs; rw[e0]
  rw[ŀ,Ķ]; rfl
 have h3:(gu.app (kR es[j])).length<=(eB es[j]).length:=by unfold eB gJ; rw[Å]; omega
 have hl:((gu.app (kR es[j])).length:Int)<=((hB s k es).length:Int):=by
  rw[D]; unfold gJ; simp only[Å]; omega
 have:=aaL (hP s k es.length (es.take j)) ((es.drop (j+1)).flatMap eB) (gu.app (kR es[j])) (hB s k es).length Z hl;rw[<-D]at this;rw[this];have J:(hP s k es.length (es.take (j+1))).length=(hP s k es.length (es.take j)).length+(gJ (gu.app (kR es[j]))).length:=by
  rw[ĸ S];unfold hP;simp only[ŀ,Ķ,List.flatMap_nil,ĳ,Å];unfold eB;omega
 rw[J]
abbrev HK.adl{ss:List bG}{es:List bY}(h:Hs ss es){j:Nat}{e:bY}(D:es[j]?=some e):HK.put ⟨ss.take (j+1),es.take j,j⟩ e=(⟨ss.take (j+2),es.take (j+1),j+1⟩,0):=by
 obtain⟨a,b,J,S,h3⟩:=h.step j e D;obtain⟨hj,rfl⟩:=List.getElem?_eq_some_iff.1 D;have hl:=h.len;have hn:HK.now ⟨ss.take (j+1),es.take j,j⟩=a:=by
  unfold HK.now;simp only;rw[List.getElem?_take_of_lt Z,J]; rfl
 unfold HK.put;rw[hn,h3,Á I];simp only[Ê,HK.mk.injEq,and_true];obtain⟨D,rfl⟩:=List.getElem?_eq_some_iff.1 S;refine⟨?_,?_⟩
 .rw[List.take_take,Nat.min_self,<-ĸ D]
 rw[List.take_take,Nat.min_self,<-ĸ hj]
def HK.bytes(h:HK):List UInt8:=gu.app (hB ((h.ss[0]?).getD .zero) h.k h.es)
abbrev HD.bytes_eq{H:HD}{s:aB}(D:H.ss[0]?=some s):gu.app (hP s.key H.k H.es.length (H.es.map aQ.key))=H.key.bytes:=by
 unfold HK.bytes HD.key;simp only[List.getElem?_map,D,ě,Option.getD_some,alI,ĭ]
abbrev aa7{n:Nat}{es:List aQ}{x:aQ}(D:j<es.length)(J:es[j]=x):hP s k n ((es.map aQ.key).take (j+1))=hP s k n ((es.map aQ.key).take j)++eB x.key:=by
 rw[ĸ (by simpa using D),List.getElem_map,J];unfold hP;simp only[ŀ,Ķ,List.flatMap_nil,ĳ,ç]
abbrev HD.Ok.atB{H:HD}(h:H.Ok K){s:bG}(D:(gu.app (dW s)).length<=60000000)(k n j:Nat):(hP s k n ((H.es.map aQ.key).take j)).length<=20000000000:=by
 have a1:=JY (gu.app (dW s));have a2:=iL 10 k;have D:=iL 10 n;have D:=RJ (l:=(H.es.map aQ.key).take j) λe D=>h.alG e (ŝ D);have D:((H.es.map aQ.key).take j).length<=256:=by have:=h.le; rw[Ĳ,ĭ]; omega
 have J:((H.es.map aQ.key).take j).length*60000010<=256*60000010:=ō _ D;unfold hP;simp only[Å];omega
end
section
open En
variable{α:Type}{K:Nat}
abbrev aa8{n:Nat}(h:n<=1000000):Value.int .u64 (IntKind.u64.wrap (n:Int)) = .int .u64 (n:Int):=wrap_u64 Z
abbrev qR{w:E5}{b c:Nat}{H:HD}(hx:Bx w b H.cells.toArray)(ab:H.Ok K)(hm:H.mem K c b w)(hg:bU w) :
  Nq prog 10 #[.q b 0] w λr w'=>∃v,r = .R (.tuple #[v,.i 0])∧OwnB w.heap.size w' v H.key.bytes∧Ext w w':=by
 obtain⟨sa,sc,ss,ea,ec,es,J⟩:=H;have hW:=æ hm;have bj:ss.length=es.length+1:=ab.len;have bt:J<=es.length∧es.length<=256:=ab.le;have ai:0<ss.length:=Z
 have bk:es.length<=9223372036854775807:=Z
 refine Ä func10 ntmps10 λS=>?_;have S:=S.view0 hx.1 (hx.range 0 4 I);refine nH S (qQ hx) λS=>ă S λS=>?_;have af:0<ss.length:=ai;obtain⟨b5,o6,rfl,D,ah,Ji,a9⟩:=ý hW.1.1 (λ_=>I) (0) af;have S:=S.view0 Ji a9;have a4:ss[0]?=some D:=by rw[List.getElem?_eq_getElem ai,ah]
 have a5:=ab.val (s:=D) (ah▸ò af);have a6:=ab.alH (s:=D) (ah▸ò af);refine O1 S 7 [] [.M 1 0,.idx 0 ss.length,.M 0 0] (hk:=⟨af,G⟩) λS=>ê S (wV ((hW.1.2 _ (ah▸ò af)).below S.E) (bU.below hg S.E)) ?_;rintro e u ⟨v1,cc,rfl,bg,GL⟩;obtain⟨rfl,bb⟩:=Vl.good bg a5;refine⟨_,I,GL,λS=>?_⟩;refine ă S λS=>?_;have S0:=S.E.size;refine č S (oL _ _ _ (vT bb) Z) λv2 u ar Ak S=>?_;have R:=lq (Č S) ar (λp hp=>by cases hp) S0;have ao:=ab.atB a6 J es.length;have hB:(gJ (gu.app (dW D.key))++dX 10 J++dX 10 es.length).length<=20000000000:=by have:=ao 0; simpa[hP]using this
 have a7:=hB;simp only[Å]at a7;refine O1 S 8 [] [.M 1 2,.re 35 (.int .u64 (IntKind.u64.wrap (J:Int))) (.int .u64 (J:Int))] (hk:=⟨(aa8 Z),G⟩) λS=>č S (gq J _ Z) λu1 u av Md S=>?_;obtain⟨R,bv⟩:=R.aZ S (à Md);refine è S λS=>ē S R 37 (dX 10 J) (jW (av)) (by simp only[Å]at hB |-; omega) λac u bm bo R S=>ÿ S λS=>?_;have S:=S.view0 hx.1 (hx.range 0 4 I);refine O1 S 9 [] [.M 0 1,.re 45 (.int .u64 (IntKind.u64.wrap (es.length:Int))) (.int .u64 (es.length:Int))] (hk:=⟨(aa8 Z),G⟩) λS=>č S (gq es.length _ Z) λu2 u aw ED S=>?_;obtain⟨R,Xa⟩:=R.aZ S (à ED);refine è S λS=>ē S R 47 (dX 10 es.length) (jW (aw)) (by simp only[Å]at hB |-; omega) λac u am bp R S=>ÿ S λS=>?_;have S:=S.view0 hx.1 (hx.range 0 4 I);refine O1 S 8 [] [.M 0 1] λS=>ĉ S (ι:=Nat×y9) (λp a' w'=>p.1<=es.length∧(True)∧Rw w w' [] [⟨5,1,p.2,(hP D.key J es.length ((es.map aQ.key).take p.1)).length,(hP D.key J es.length ((es.map aQ.key).take p.1)).map gY⟩]∧Sx.St w a' w' 73 [(0,.q b 0),(2,.sn),(3,.i 0),(4,v1),(5,.i 0),(6,p.2),(52,.s ea es.length ec),(53,.i es.length),(54,.i p.1)] [] []) (λp=>es.length-p.1) (0,am) (λS=>⟨Î _,G,R.as (show [Sx.bR am (gJ (gu.app (dW D.key))++(dX 10 J)++(dX 10 es.length))]=[Sx.bR am (hP D.key J es.length ((es.map aQ.key).take 0))] by simp[hP]),S.sn⟩) ?_;rintro⟨k,v⟩ ac u fQ eu hI;try dsimp only at hI
 obtain⟨hk,hR,R,S⟩:=hI;refine Ċ S λS=>À S (decide ((k:Int)<(es.length:Int))) (λae S=>?_) λae S=>?_
 .have adn:k<es.length:=by have:=Ý ae; omega
  obtain⟨bw,bz,rfl,ag,aa,bc,bd⟩:=ý hW.2.1 (λ_=>I) (k) adn;have S:=S.view0 bc bd;refine O1 S 2 [] [.idx k es.length,.M 0 0] (hk:=⟨adn,G⟩) λS=>Ú S (Sx.L [.i 0,.i 0,.i 0,.i 0,.i 0,.i 0,.i 0]++Sx.za++Sx.L [.sn,.i 0,.u 0,.i 0,.z,.z,.sn,.i 0,.sn,.i 0,.i 0,.i 0,.i 0,.sn,.i 0,.sn,.i 0,.i 0,.sn,.i 0,.u 0,.u 0,.u 0,.u 0]) λu bq ax Zg S=>í S 0 (off:=0) (cs:=ag.cells) I λu WY S=>?_;have ap:=ab.k.hs.enc (e:=ag.key) (ô.2 ⟨_,(aa▸ò adn),I⟩);have bu:=Fg (e:=ag) ap.2;refine O1 S 1 [] [.M 0 0] λS=>ê S (yC ((hW.2.2 _ (aa▸ò adn)).below S.E) (bU.below hg S.E)) ?_;rintro e u ⟨v4,cd,rfl,bh,TD⟩;obtain⟨rfl,be⟩:=Vs.good bh ap.1 ap.2;refine⟨_,I,TD,λS=>?_⟩;refine ă S λS=>č S (oL _ _ _ (vT be) Z) λv5 u ay az S=>?_;have hB:=ao (k+1);rw[aa7 adn aa]at hB;obtain⟨R,ca⟩:=R.aZ S (Ì (Ĥ ax Zg) (Ì (Sx.Stp.Eo WY) (Ì (à TD) (à az))));refine è S λS=>ē S R 69 (eB ag.key) (jW (ay)) (by simp only[Å]at hB |-; omega) λac u an br R S=>ÿ S λS=>O1 S 3 [] [kS 70 k] (λS=>?_) (hk:=⟨ù Z,G⟩);have S:=S.gK 1;obtain⟨R,cb⟩:=R.aZ S (ĥ 1);refine ċ S fQ λS=>?_;exact eu _ _ ((k+1),an) ⟨Z,G,R.as (show [Sx.bR an (hP D.key J es.length ((es.map aQ.key).take k)++eB ag.key)]=[Sx.bR an (hP D.key J es.length ((es.map aQ.key).take (k+1)))] by rw[aa7 adn aa]),S.sn⟩ (by show _-_<_-_; omega)
 have aq:es.length<=k:=by have:=é ae; omega
 have al:OwnB w.heap.size u v (hP D.key J es.length ((es.map aQ.key).take k)):=R.own _ Ö;rw[Ď (show(es.map aQ.key).length<=k by rw[ĭ]; exact aq)]at al;have a8:=ao k;rw[Ď (show(es.map aQ.key).length<=k by rw[ĭ]; exact aq)]at a8;have S1:=S.E.size;refine č S (yj _ (hP D.key J es.length (es.map aQ.key)) _ (vT al) Z) λv9 u a3 bs S=>Ol S v9 (.i 0) λS=>?_;exact⟨_,I,rP (bF a3 S1) (HD.bytes_eq (H:=⟨_,_,ss,_,_,es,J⟩) a4),S.E⟩
end
end Go.Proofs.Õ
section
namespace Go.Sx
section
variable{P:Program}{B:Exit->Act->E5->Prop}{ops:Array Oper}{Q:Exit->Act->E5->Prop}{n:Nat}{w0 w:E5}{a:Act}{os:List Oper}{l:List (Nat×y9)}{bl:List (Nat×List y9)}{vs:List eX}{z:Zt}
variable{f:FuncId}{args:Array y9}{R:Ending->E5->Prop}{b1 b2:Nat}{A1 A2:List y9}
abbrev aoE(S:St w0 a w n l bl vs)(k1 k2:Nat)(d:Option Nat)(ai:k1≠k2)(al:bl[k1]?=some (b1,A1))(am:bl[k2]?=some (b2,A2))(hc:Nq P f args w R)
  (next:∀e w',R e w'->∃v wm D J,e = .R v∧(Ext w0 wm∧Ch b1 w wm∧Bx wm b1 (List.toArray D))∧(Ext w0 w'∧Ch b2 wm w'∧Bx w' b2 (List.toArray J))∧∀a',St w0 a' w' n (zS l d v) ((bl.set k1 (b1,D)).set k2 (b2,J)) vs->Ã P ops Q (os.drop 1) a' w')
  (hx:callOf P os l=some (f,args,d):=by kernel_rfl) (hd:uG n d=true:=by rfl):Ã P ops Q os a w:=by
 cases os with
 | nil=>cases hx
 | cons o os =>
  unfold callOf at hx;simp only at hx;split at hx
  .rename_i f' args' hg hav hev;simp only[Æ,Ê]at hx;obtain⟨rfl,rfl,rfl⟩:=hx;simp only[Ĕ]at hav;have aa:(execOp a.eval o).run P w = .ok (.enter f' args') w:=lN (Std.act a) (gG (bT S.s) o) (p:=[]) I hav.1 (by simpa using hav.2) hev;unfold Ã;rw[Á (by simp[Region.wanted,hg])];left;unfold Oper.wp;rw[aa];simp only[Oper.upon];refine hc.mono λe w' hR=>?_;obtain⟨v,wm,D,J,rfl,⟨ab,ac,ae⟩,⟨af,ag,ah⟩,hn⟩:=next e w' hR;exact hn _ (((S.ch ac al ae ab).ch ag (by rw[List.getElem?_set_ne ai]; exact am) ah af).act (tC S.s hd v))
  cases hx
abbrev aoF(S:St w0 a w n l bl vs)(k:Nat){b:Nat}{A:List y9}(d:Option Nat)(hk:bl[k]?=some (b,A))(hc:Nq P f args w R)
  (next:∀e w',R e w'->∃v A',e = .R v∧Ext w0 w'∧Ch b w w'∧Bx w' b (List.toArray A')∧∀D,St w0 D w' n (zS l d v) (bl.set k (b,A')) vs->Ã P ops Q (os.drop 1) D w')
  (D:Ic P ops os l=some (f,args,d):=by kernel_rfl) (hd:uG n d=true:=by rfl):Ã P ops Q os a w:=by
 cases os with
 | nil=>cases D
 | cons o os =>
  unfold Ic at D;simp only at D;split at D
  .rename_i p f' args' hp hav hev;split at D
   .rename_i hg;simp only[Æ,Ê]at D;obtain⟨rfl,rfl,rfl⟩:=D;simp only[Ĕ]at hav;have J:(execOp a.eval o).run P w = .ok (.enter f' args') w:=lN (Std.act a) (gG (bT S.s) o) (p:=[]) I hav.1 (by simpa using hav.2) hev;unfold Ã;rw[Á ((qh (a:=a) hp (λx _ i y _ hl=>bT S.s i y hl)).2 hg)];left;unfold Oper.wp;rw[J];simp only[Oper.upon];refine hc.mono λe w' J=>?_;obtain⟨v,A',rfl,hE,hC,hX,hn⟩:=next e w' J;exact hn _ ((S.ch hC hk hX hE).act (tC S.s hd v))
   cases D
  cases D
abbrev Ie(S:St w0 a w n z.l bl vs)(k1 k2:Nat)(aa:k1≠k2)(ab:bl[k1]?=some (b1,A1))(ac:bl[k2]?=some (b2,A2))(hc:Nq P f args w R)
  (next:∀e w',R e w'->∃v wm D J,e = .R v∧(Ext w0 wm∧Ch b1 w wm∧Bx wm b1 (List.toArray D))∧(Ext w0 w'∧Ch b2 wm w'∧Bx w' b2 (List.toArray J))∧∀{a'},St w0 a' w' n (xk v (zN P n z)).l ((bl.set k1 (b1,D)).set k2 (b2,J)) vs->Gz P B (xk v (zN P n z)) a' w')
  (hx:callOf P (pz (zN P n z)) (zN P n z).l=some (f,args,mG (zN P n z)):=by kernel_rfl) (ho:(uf (zN P n z)&&uG n (mG (zN P n z)))=true:=by kernel_rfl):Gz P B z a w:=by
 simp only[Û]at ho;refine uQ S λS=>Ω ho.1 (aoE S k1 k2 _ aa ab ac hc (λe w' hR=>?_) hx ho.2);obtain⟨v,wm,D,J,h1,h2,h4,h3⟩:=next e w' hR;exact⟨v,wm,D,J,h1,h2,h4,λa' S'=>JH (m:=1) (l:=[]) ho.1 (h3 S')⟩
end
end Go.Sx
namespace Go.Proofs.Õ
open En
variable{α:Type}{K:Nat}
variable{j bi ba bf:Nat}{f:FuncId}{args:Array y9}{m:List UInt8}{i:Int}
abbrev aoG{f:α->List y9}{k:Nat}{v:y9}{L:List α}{w:E5}(h:aG k f w v L):Sx.On (λi=>i<w.heap.size) (λW=>aG k f W v L) w:=λW S hk=>by
 obtain⟨a,cap,e,J,h⟩:=h;rcases h with h | ⟨b,o,rfl,D,hl,hc⟩
 .exact⟨a,cap,e,J,.inl h⟩
 exact⟨_,cap,e,J,.inr ⟨b,o,I,ö D S,hl,λi hi j hj=>by rw[World.cell?_of_block (a:=⟨b,_,none⟩) (hk b D D)]; exact hc i hi j hj⟩⟩
abbrev ado{w:E5}{l:List UInt8}{most:Int}(h:Nq prog f args w (Fb w (Ť l i most)))(D:Ť l i most=(m,j,0)):Nq prog f args w λe w'=>∃x,e = .R (.tuple #[x,.i j,.i 0])∧OwnB w.heap.size w' x m∧Ext w w':=by
 rw[D]at h; exact h
abbrev adq{w:E5}{l:List UInt8}{m:Nat}(h:Nq prog f args w (Ï w (apW (y8 l i))))(D:y8 l i=(m,j,0)):Nq prog f args w (Ï w (.tuple #[.int .u64 (m:Int),.i j,.i 0])):=by
 rw[D]at h; exact h
abbrev KR{base:Nat}{w:E5}{v:y9}{l:List UInt8}(h:OwnB base w v l):aU base (λW=>jI W v l) w:=iZ (f:=λn:UInt8=>[gY n]) (L:=l) (λ_=>I) h I (Qy l).symm
abbrev Ph{w0 w:E5}{v:y9}{l:List UInt8}{i:Nat}(hE:Ext w0 w)(ac:Bx w bi #[v])(D:Bx w ba #[.i i])(ah:Bx w bf #[.b true])(ha:w0.heap.size<=ba)(hf:w0.heap.size<=bf)(ai:ba≠bf)(al:bi≠ba)(am:bi≠bf)(hv:bK w v l)(hl:l.length<=100000000000)(hr:Ť l (i:Nat) l.length=(m,j,0)) :
  Nq prog 44 #[.q bi 0,.q ba 0,.q bf 0] w λe w'=>∃x J,e = .R x∧jI w' x m∧(Ext w0 J∧Ch ba w J∧Bx J ba #[.i j])∧(Ext w0 w'∧Ch bf J w'∧Bx w' bf #[.b true]):=by
 obtain⟨a,cap,rfl,an,-⟩:=id hv;refine Ĭ func44 ntmps44 hE D ha λS=>?_;have S:=S.adopt (A:=[.b true]) ah hf (λp D=>by rcases Ù.1 D with rfl | D; (exact ai); cases D) (λm hm=>by cases hm);have S:=S.view ac.1 (ac.range 0 1 I) (λp D=>by rcases Ù.1 D with rfl | D; (exact am.symm); rcases Ù.1 D with rfl | D; (exact al.symm); cases D);have D:=(S.bx 1).1;have D:=(S.bx 0).1;refine O1 S 5 [] [.M 2 0,.M 1 0,.M 2 0] λS=>ê S (ado (UL _ l (i:Int) (l.length:Int) _ (hv.below å) hl Z) hr) ?_;rintro e u ⟨x1,rfl,ag,E3⟩;have D:=KR ag;refine⟨_,I,E3,λS=>?_⟩;refine O1 S 13 [19,20] [.M 0 0] λS=>ë S 1 I λu C6 S=>?_;have ae:=(aN ((Ch.trans (Ch.refl ba w) (Ch.aY E3))) C6);have af:=(Sx.On.ch D C6 Z);have D:Ch ba w u:=ae;have Y0:=S.E;have aa:Bx u ba (List.toArray [.i j]):=S.kV 1;obtain⟨J,ab⟩:∃x,x=u:=⟨_,I⟩;rw[<-ab]at D Y0 aa;refine ë S 0 I λu C7 S=>?_;have Oq:=(Sx.On.ch af C7 Z);rw[<-ab]at C7;refine Xe S x1 λS=>?_;exact⟨_,J,I,(æ (Τ Oq λi h=>h)),⟨Y0,D,aa⟩,S.E,C7,S.kV 0⟩
abbrev VO{w0 w:E5}{v:y9}{l:List UInt8}{i:Nat}(hE:Ext w0 w)(ac:Bx w bi #[v])(D:Bx w ba #[.i i])(af:Bx w bf #[.b true])(ha:w0.heap.size<=ba)(hf:w0.heap.size<=bf)(ag:ba≠bf)(ah:bi≠ba)(ai:bi≠bf)(hv:bK w v l){m:Nat}(hr:y8 l (i:Nat)=(m,j,0)) :
  Nq prog 46 #[.q bi 0,.q ba 0,.q bf 0] w λe w'=>∃J,e = .R (.int .u64 (m:Int))∧(Ext w0 J∧Ch ba w J∧Bx J ba #[.i j])∧(Ext w0 w'∧Ch bf J w'∧Bx w' bf #[.b true]):=by
 obtain⟨a,cap,rfl,al,-⟩:=id hv;refine Ĭ func46 ntmps46 hE D ha λS=>?_;have S:=S.adopt (A:=[.b true]) af hf (λp D=>by rcases Ù.1 D with rfl | D; (exact ag); cases D) (λm hm=>by cases hm);have S:=S.view ac.1 (ac.range 0 1 I) (λp D=>by rcases Ù.1 D with rfl | D; (exact ai.symm); rcases Ù.1 D with rfl | D; (exact ah.symm); cases D);refine O1 S 3 [] [.M 2 0,.M 1 0] λS=>ð S (adq (yh _ l (i:Int) _ (hv.below å)) hr) λu D S=>O1 S 13 [17,18] [.M 0 0] λS=>ë S 1 I λu C6 S=>?_;have ae:=(aN ((Ch.trans (Ch.refl ba w) (Ch.aY D))) C6);have D:Ch ba w u:=ae;have Y0:=S.E;have aa:Bx u ba (List.toArray [.i j]):=S.kV 1;obtain⟨J,ab⟩:∃x,x=u:=⟨_,I⟩;rw[<-ab]at D Y0 aa;refine ë S 0 I λu C7 S=>?_;rw[<-ab]at C7;refine Xe S (.int .u64 (m:Int)) λS=>?_;exact⟨J,I,⟨Y0,D,aa⟩,S.E,C7,S.kV 0⟩
end Go.Proofs.Õ
end
namespace Go.Proofs.Õ
section
open En
variable{α:Type}{K:Nat}
abbrev K12{H:HD}{c D b:Nat}{w:E5}(h:H.mem K c b w)(J:D<=c):H.mem K D b w:=Τ h λi D=>⟨ä J D.1,D.2⟩
abbrev Vq.back{base:Nat}{w:E5}{s:aB}{v:y9}{er:Int}(hK:K<=5000)(hs:bQ K w s)(hv:s.key.valid=true)(h:Vq base w (gu.app (dW s.key)) v er):er=0∧∃t:aB,v=t.v∧aU base (λW=>bQ 5000 W t) w∧t.key=s.key:=by
 rcases h with ⟨h0,t,h1,D,J,S,h5⟩ | ⟨h0,h1,⟨D,J⟩ | ⟨D,J,S⟩ | ⟨D,J,S⟩⟩
 .exact⟨h0,t,h1,D,((YA (hs.up hK O) (æ D) hv J [] [] (by rw[sO h5])).1).symm⟩
 .rw[oO]at J; omega
 .exact absurd I (S _)
 exact absurd I (S _ _ s hs hv)
abbrev Vt.back{base:Nat}{w:E5}{e:aQ}{v:y9}{er:Int}(hK:K<=5000)(hs:gU K w e)(hm:fH e.key=false)(hv:jE e.key=true->e.key.node.chk=0)(h:Vt base w (gu.app (kR e.key)) v er):er=0∧∃t:aQ,v=t.v∧aU base (λW=>gU 5000 W t) w∧t.key=e.key:=by
 rcases h with ⟨h0,t,h1,D,J,S,h5,h6⟩ | ⟨h0,h1,⟨D,J⟩ | ⟨D,J,S⟩ | ⟨D,J,S⟩⟩
 .exact⟨h0,t,h1,D,(acY (hs.up hK O) (æ D) hm J hv S (sO h6)).symm⟩
 .rw[oO]at J; omega
 .exact absurd I (S _)
 exact absurd I (S _ _ e hs hm hv)
abbrev akh{l m:List UInt8}{k:Int}(h:Ver (gu.app l) m k):k=0∧m=l:=by
 rcases h with ⟨-,h⟩ | ⟨-,-,h⟩ | ⟨h,D⟩
 .rw[oO]at h; omega
 .exact absurd I (h l)
 exact⟨h,(sO D).symm⟩
abbrev ahb{f:FuncId}{args:Array y9}{w:E5}{v D:y9}(h:Nq prog f args w λe w'=>e = .R v∧w=w')(J:v=D):Nq prog f args w λe w'=>e = .R D∧w=w':=J▸h
abbrev RN{w:E5}{s:aB}(h:bQ K w s)(J:bU w)(D:∀n∈s.ns,n.lim)(S:s.key.valid=true) :
  Nq prog 25 #[s.v] w λe w'=>∃(b:Nat) (H:HD),e = .R (.tuple #[.q b 0,.i 0])∧w.heap.size<=b∧Bx w' b H.cells.toArray∧H.mem K w.heap.size b w'∧(H.Ok K∧H.key=⟨[s.key],[],0⟩)∧Ext w w':=
 (VN h J D).mono λe w' h=>by
  rcases h with ⟨D,-⟩ | ⟨-,h⟩
  .rw[S]at D; cases D
  .exact h
abbrev aoH{j:Nat}(h:j<=1000000):Value.int .u64 (IntKind.u64.wrap ((j:Int)+1)) = .int .u64 ((j+1:Nat):Int):=wrap_u64 (n:=j+1) Z
abbrev aoI{n:Nat}(h:n<=1000000):Value.i (IntKind.i64.wrap (n:Int)) = .i n:=by
 have:IntKind.i64.wrap (n:Int)=(n:Int):=by rw[Ŭ]; omega
 rw[this]
def HK.upto(h:HK)(j:Nat):HK:=⟨h.ss.take (j+1),h.es.take j,j⟩
abbrev HK.Ok.ahc{h:HK}(o:h.Ok){j:Nat}{e:bY}(D:h.es[j]?=some e):(h.upto j).app e=(h.upto (j+1),0):=by
 have:=(List.getElem?_eq_some_iff.1 D).1;have:=o.most;unfold HK.app;rw[UQ (show ¬(h.upto j).k=256 from by show ¬j=256; omega)];exact HK.adl o.hs D
abbrev HK.Ok.upto_all{h:HK}(o:h.Ok):(⟨(h.upto h.es.length).ss,(h.upto h.es.length).es,h.k⟩:HK)=h:=by
 unfold HK.upto;simp only;rw[Ď (by rw[o.hs.len]; exact Ç _),Ď (Ç _)]
abbrev HK.Ok.ads{h:HK}(o:h.Ok):(⟨[(h.ss[0]?).getD .zero],[],0⟩:HK)=h.upto 0:=by
 have hl:=o.hs.len;unfold HK.upto;cases hs:h.ss with
 | nil=>rw[hs]at hl; simp at hl
 | cons s r=>rfl
abbrev HD.Ok.ayQ{H ì:HD}(h:H.Ok K)(k:Nat)(hk:(⟨H.key.ss,H.key.es,k⟩:HK)=ì.key)(D:ì.key.Ok):HD.Ok K ⟨H.sa,H.sc,H.ss,H.ea,H.ec,H.es,k⟩:=⟨(show(⟨H.key.ss,H.key.es,k⟩:HK).Ok from hk▸D),h.s,h.e⟩
abbrev Pj{P:bY->Prop}(hA:ϳ P){w:E5}{v:y9}{H:HD}(ct:∀e∈H.key.es,P e)(hv:jI w v H.key.bytes)(aa:H.Ok K)(hK:K<=5000)(ao:H.row K w)(hg:bU w) :
  Nq prog 24 #[v] w λr w'=>∃(b:Nat) (ì:HD),r = .R (.tuple #[.q b 0,.i 0])∧w.heap.size<=b∧Bx w' b ì.cells.toArray∧ì.mem 5000 w.heap.size b w'∧ì.Ok 5000∧ì.key=H.key∧Ext w w':=by
 have RP:=aa.k;have D:H.key.bytes=gu.app (hB ((H.key.ss[0]?).getD .zero) H.key.k H.key.es):=I;have av:=RP.ads;have am:0<H.ss.length:=by have:=aa.len; omega
 obtain⟨s0,bq⟩:∃z,H.ss[0]=z:=⟨_,I⟩;have J:s0∈H.ss:=bq▸ò am;have aw:(H.key.ss[0]?).getD .zero=s0.key:=by unfold HD.key; simp only[List.getElem?_map,List.getElem?_eq_getElem am,bq]; rfl
 have cu:=ao.1.2 s0 J;have bc:=aa.val J;have bd:∀n∈s0.ns,n.lim:=λn hn=>(aa.s s0 J n hn).2;have af:=aa.alH J;have cv:=ao.F;have ai:=aa.alG;have be:∀e∈H.key.es,∃x,x∈H.es∧x.key=e:=λe J=>by obtain⟨x,h1,h2⟩:=ô.1 J; exact⟨x,h1,h2⟩
 have bg:H.key.k<=256:=ä RP.k RP.most;have al:=RP.most;have J:=RP.k;obtain⟨hk,ay⟩:∃z,z=H.key:=⟨_,I⟩;rw[<-ay]at ct hv RP D av aw ai be bg al J;obtain⟨Xb,az⟩:∃z,z=s0.key:=⟨_,I⟩;rw[<-az]at aw af;rw[aw]at D av;have bj:(hB Xb hk.k hk.es).length<=100000000000:=ä (ag7 af ai al) O;have J:=ag7 (k:=hk.k) af ai al;refine Ä func24 ntmps24 λS=>ê S (U8 (hv.below S.E) (by rw[D,oO]; omega)) ?_;rintro e u ⟨v1,m1,eh,rfl,bt,E3,J⟩;rw[D]at J;obtain⟨rfl,rfl⟩:=akh J;obtain⟨c1,D⟩:∃z:Nat,z=u.heap.size:=⟨_,I⟩;have J:=aoG bt;rw[<-D]at J;obtain⟨a1,q1,rfl⟩:=bt.shape;refine⟨_,I,E3,λS=>?_⟩;refine Â S λu b4 D d8 S=>ë S 0 I λu C7 S=>?_;have E8:=È D C7;refine ă S λS=>Â S λu ab GL D S=>Â S λu ae Em D S=>ë S 1 I λu D S=>?_;have Md:=È (Ip E8 (Ip GL Em)) D (by have:=E8.size; omega);refine ë S 0 I λu yY S=>?_;have xE:=È Md yY (by have:=(Ip E8 GL).size; omega);have D:c1<=ab∧c1<=ae:=by have h1:=E8.size; have h2:=GL.size; omega
 have S:=S.fl;have D:ab≠ae∧b4≠ab∧b4≠ae:=by have h:=S.apart; simp only[đ,ĵ,Ż,Ù,not_or]at h; exact⟨λe=>h.1.1 e.symm,λe=>h.2.1.1 e.symm,λe=>h.1.2.1 e.symm⟩
 have S:=S.fl;refine Sx.Ie S 1 0 O I I (Ph (v := .s a1 (hB Xb hk.k hk.es).length q1) (i:=0) (j:=(gJ (gu.app (dW Xb))).length) S.E (S.kV 2) (S.kV 1) (S.kV 0) (S.old 1) (S.old 0) D.1 D.2.1 D.F (dP (æ ((Ü J xE)))) bj (ag8 af)) ?_;rintro e u ⟨ei,di,rfl,bu,⟨bv,bw,dj⟩,dk,bz,dl⟩;refine⟨_,di,_,_,I,⟨bv,bw,dj⟩,⟨dk,bz,dl⟩,λS=>?_⟩;have S:=S.fl;have WV:=È xE bw (by have:=E8.size; omega);have bk:=È WV bz (by have:=(Ip E8 GL).size; omega);have ee:=(S.bx 0).1;have ef:=(S.bx 1).1;have eg:=(S.bx 2).1;refine ê S (Fe (bU.below hg S.E) bu af) ?_;rintro e u ⟨v2,ej,rfl,ca,Ku⟩;rw[az]at ca;obtain⟨rfl,s1,rfl,df,a3⟩:=Vq.back hK (cu.below (Ip S.E Ku)) bc ca;refine⟨_,I,Ku,λS=>?_⟩;refine Â S λu a8 a9 d9 S=>É S 0 I λu bb S=>?_;have bm:=È (Ip bk (Ip Ku a9)) bb (by have:=(Ip bk Ku).size; omega);have Tt:=È a9 bb;refine O1 S 7 [37,38] [.M 1 0] λS=>ă S λS=>?_;have S:=S.fl;refine Sx.Ie S 2 1 O I I (VO (v := .s a1 (hB Xb hk.k hk.es).length q1) (i:=(gJ (gu.app (dW Xb))).length) (j:=((gJ (gu.app (dW Xb))).length+(dX 10 hk.k).length)) S.E (S.kV 3) (S.kV 2) (S.kV 1) (S.old 2) (S.old 1) D.1 D.2.1 D.F (dP (æ ((Ü J bm)))) (ayM bg)) ?_;rintro e u ⟨dm,rfl,⟨cb,ag,dq⟩,cc,a5,dr⟩;refine⟨_,dm,_,_,I,⟨cb,ag,dq⟩,⟨cc,a5,dr⟩,λS=>?_⟩;have S:=S.fl;have Mc:=È bm ag (by have:=E8.size; omega);have Jk:=(Sx.On.ch ((Ü df Tt)) ag Z);have SC:=È Mc a5 (by have:=(Ip E8 GL).size; omega);have BJ:=(Sx.On.ch Jk a5 Z);have S:=S.fl;refine Sx.Ie S 2 1 O I I (VO (v := .s a1 (hB Xb hk.k hk.es).length q1) (i:=((gJ (gu.app (dW Xb))).length+(dX 10 hk.k).length)) (j:=(hP Xb hk.k hk.es.length []).length) S.E (S.kV 3) (S.kV 2) (S.kV 1) (S.old 2) (S.old 1) D.1 D.2.1 D.F (dP (æ ((Ü J SC)))) (ayN al)) ?_;rintro e u ⟨ds,rfl,⟨ce,ah,dt⟩,cf,a6,du⟩;refine⟨_,ds,_,_,I,⟨ce,ah,dt⟩,⟨cf,a6,du⟩,λS=>?_⟩;have S:=S.fl;have cw:=È SC ah (by have:=E8.size; omega);have rX:=(Sx.On.ch BJ ah Z);have Xv:=È cw a6 (by have:=(Ip E8 GL).size; omega);have Tv:=(Sx.On.ch rX a6 Z);have an:=λp hp=>(S.own p hp).1.1;have kS:=S.E.size;have cx:=(S.bx 0).1;have cy:=(S.bx 1).1;have cz:=(S.bx 2).1;have da:=(S.bx 3).1;obtain⟨c0,dh⟩:∃z:Nat,z=u.heap.size:=⟨_,I⟩;refine O1 S 3 [] [.M 0 0] λS=>ê S (RN (æ Tv) (bU.below hg S.E) (λz hz=>ag2 (Ñ bG.ns a3) (λz hz=>((æ Tv).N z hz).2) bd z hz) (a3▸bc)) ?_;rintro e u ⟨bh,H1,rfl,cg,dx,ci,⟨cj,dy⟩,ck⟩;rw[<-dh]at cg ci an kS cx cy cz da;refine⟨_,I,ck,λS=>?_⟩;have S:=S.adopt (A:=H1.cells) dx Z (λp hp=>by have:=an p hp; omega) (λm hm=>by cases hm);refine O1 S 20 [52,53,56,57,58,61,62] [.M 2 0,.re 58 (.b ((hk.es.length:Int)<(hk.k:Int))) (.z),.re 62 (.b ((256:Int)<(hk.es.length:Int))) (.z)] (hk:=⟨(Ñ Value.b (Ŝ Z)),(Ñ Value.b (Ŝ Z)),G⟩) λS=>ă S λS=>ĉ S (ι:=Nat×HD) (λp a' w'=>(p.2.key=hk.upto p.1∧p.2.Ok 5000∧p.2.mem 5000 c0 bh w'∧Sx.On (λi=>i<c1) (λW=>jI W (.s a1 (hB Xb hk.k hk.es).length q1) (hB Xb hk.k hk.es)) w'∧p.1<=hk.es.length)∧Sx.St w a' w' 106 [(0,v),(2,(.pointer none)),(3,.i 0),(4,.q b4 0),(5,.i 0),(6,.q ab 0),(7,.q ae 0),(8,.func (.func 44) #[] #[.q b4 0,.q ab 0,.q ae 0]),(9,.func (.func 46) #[] #[.q b4 0,.q ab 0,.q ae 0]),(10,.q a8 0),(11,.int .u64 (hk.k:Int)),(12,.int .u64 (hk.es.length:Int)),(13,.q bh 0),(64,.int .u64 (hk.es.length:Int)),(65,.int .u64 (p.1:Int))] [(bh,p.2.cells),(a8,s1.cells),(ae,[.b true]),(ab,[.i (((hP Xb hk.k hk.es.length (hk.es.take p.1)).length:Nat):Int)]),(b4,[.s a1 ((hB Xb hk.k hk.es).length) q1])] []) (λp=>hk.es.length-p.1) (0,H1) (λS=>⟨⟨dy.trans (by rw[a3,<-az]; exact av),cj,ci,((Ü J (Ip Xv ck))),Î _⟩,S.qC⟩) ?_;rintro⟨j,H2⟩ ac u fQ eu hI;try dsimp only at hI
 obtain⟨hR,S⟩:=hI;refine Ċ S λS=>?_;have kS:=S.E.size;refine À S (decide ((j:Int)<(hk.es.length:Int))) (λap S=>?_) λap S=>?_
 .have hj:j<hk.es.length:=by have:=Ý ap; omega
  obtain⟨ek,J⟩:∃z,hk.es[j]?=some z:=⟨_,List.getElem?_eq_getElem hj⟩;have db:=ai _ (List.mem_of_getElem? J);have S:=S.fl;refine Sx.Ie S 3 2 O I I (Ph (v := .s a1 (hB Xb hk.k hk.es).length q1) (i:=(hP Xb hk.k hk.es.length (hk.es.take j)).length) (j:=(hP Xb hk.k hk.es.length (hk.es.take (j+1))).length) S.E (S.kV 4) (S.kV 3) (S.kV 2) (S.old 3) (S.old 2) D.1 D.2.1 D.F (dP (æ hR.C)) bj (ayO J db)) ?_;rintro e u ⟨el,dz,rfl,d0,⟨d1,D,cm⟩,cn,a7,d2⟩;refine⟨_,dz,_,_,I,⟨d1,D,cm⟩,⟨cn,a7,d2⟩,λS=>?_⟩;have S:=S.fl;have Qw:=(Sx.On.ch hR.D D Z);have Ae:=(Sx.On.ch hR.C D Z);have zX:=(Sx.On.ch Qw a7 Z);have vF:=(Sx.On.ch Ae a7 Z);obtain⟨e0,br,rfl⟩:=be _ (List.mem_of_getElem? J);have ax:=RP.hs.enc (List.mem_of_getElem? J);refine ê S (G5 (bU.below hg S.E) d0 (Fg ax.2)) ?_;rintro e u ⟨v4,em,rfl,d3,D⟩;obtain⟨rfl,e1,rfl,bs,a4⟩:=Vt.back hK ((cv _ br).below (Ip S.E D)) ax.1 ax.2 d3;refine⟨_,I,D,λS=>?_⟩;refine Â S λu eb aq ed S=>É S 0 I λu ar S=>?_;have bo:=È (Ip D aq) ar (by have:=D.size; omega);have dd:=È (Ip D aq) ar (by have:=D.size; omega);have D:=È aq ar;refine O1 S 10 [76,77,80,81,83] [.M 3 0,.M 0 0] λS=>?_;have S:=S.fl;have de:=RP.ahc J;refine è S λS=>Sx.aoF S 1 (some 82) I (rQ hA (by rw[a4]; exact ct _ (List.mem_of_getElem? J)) S.E (S.kV 1) (S.old 1) cg hR.2.1 ((Ü zX bo)) (bU.below hg S.E) (æ ((Ü bs D))) (aa4 (Ñ bY.node a4) (æ ((Ü bs D))).J (aa.e _ br).2)) ?_;rintro e u ⟨H3,cd,rfl,D,d4,Q5,d5,J,d6⟩;rw[hR.1,a4,de,Ê]at D;obtain⟨D,rfl⟩:=D;refine⟨_,_,I,d5,J,d6,λac S=>?_⟩;refine ť S λS=>?_;have YK:=(Sx.On.ch ((Ü zX bo)) J Z);have X4:=(Sx.On.ch ((Ü vF dd)) J Z);refine O1 S 2 [76,77,80,81,83] [] λS=>ă S λS=>O1 S 2 [] [.re 85 (.int .u64 (IntKind.u64.wrap ((j:Int)+1))) (.int .u64 (((j+1):Nat):Int))] (hk:=⟨(aoH Z),G⟩) λS=>ċ S fQ λS=>?_;exact eu _ _ ((j+1),H3) ⟨⟨D,d4,Q5,X4,hj⟩,(S.gK 1).qC⟩ (by show hk.es.length-(j+1)<hk.es.length-j; omega)
 refine O1 S 6 [] [.re 88 (.i (IntKind.i64.wrap (hk.k:Int))) (.i hk.k)] (hk:=⟨(aoI Z),G⟩) λS=>ë S 0 I λu yY S=>?_;have Jl:=(Sx.On.ch hR.D yY Z);have D:=(Sx.On.ch hR.C yY Z);obtain rfl:j=hk.es.length:=by have:=é ap; have:=hR.O; omega
 have J:(⟨H2.sa,H2.sc,H2.ss,H2.ea,H2.ec,H2.es,hk.k⟩:HD).key=hk:=by have:=RP.upto_all; rw[<-hR.1]at this; exact this
 have bp:(⟨H2.sa,H2.sc,H2.ss,H2.ea,H2.ec,H2.es,hk.k⟩:HD).Ok 5000:=HD.Ok.ayQ hR.2.1 _ (ì:=H) (J.trans ay) aa.k;have D:(⟨H2.sa,H2.sc,H2.ss,H2.ea,H2.ec,H2.es,hk.k⟩:HD).mem 5000 c0 bh u:=Jl;refine ê S (qR (H:=(⟨H2.sa,H2.sc,H2.ss,H2.ea,H2.ec,H2.es,hk.k⟩:HD)) (S.kV 0) bp D (bU.below hg S.E)) ?_;rintro e u ⟨v5,rfl,d7,co⟩;have D:=Ü D co;refine⟨_,I,co,λS=>?_⟩;refine O1 S 10 [100,101,103] [] λS=>è S λS=>afA S (some 102) (Ġ (ahb (lS _ _ _ _ _ (vT d7) (dP (hv.below S.E))) (by rw[J,Ų]))) ?_;rintro e u ⟨rfl,cq⟩;refine⟨_,I,cq,λac S=>?_⟩;refine ť S λS=>O1 S 2 [100,101,103] [] λS=>ă S λS=>Ol S (.q bh 0) (.i 0) λS=>?_;exact⟨bh,(⟨H2.sa,H2.sc,H2.ss,H2.ea,H2.ec,H2.es,hk.k⟩:HD),I,Z,S.kV 0,K12 ((Ü D cq)) Z,bp,J.trans ay,S.E⟩
end
section
variable{α:Type}{K:Nat}
structure dV where
 d:Int
 e:aQ
def dV.cells(s:dV):List y9 := .i s.d::s.e.cells
def dV.v(s:dV):y9 := .agg s.cells.toArray
noncomputable def HK.step(h:HK)(d:Int)(e:bY):HK×Int:=if d = -1 then h.undo else if d=1 then h.redo else h.app e
noncomputable def HK.steps(h:HK)(l:List dV):HK:=l.foldl (λh x=>(h.step x.d x.e.key).1) h
abbrev HK.Zq{h:HK}{l:List dV}{j:Nat}(D:j<l.length){x:dV}(J:l[j]=x):h.steps (l.take (j+1))=((h.steps (l.take j)).step x.d x.e.key).1:=by
 unfold HK.steps;rw[<-List.take_append_getElem D,List.foldl_append,J]; rfl
abbrev HK.adu(h:HK)(e:bY){d:Int}(hd:(d == -1)=true):h.step d e=h.undo:=Á (by simpa using hd)
abbrev HK.adv(h:HK)(e:bY){d:Int}(D:(d == -1)=false)(hd:(d==1)=true):h.step d e=h.redo:=by
 unfold HK.step; rw[UQ (by simpa using D),Á (by simpa using hd)]
abbrev HK.ahf(h:HK)(e:bY){d:Int}(D:(d == -1)=false)(hd:(d==1)=false):h.step d e=h.app e:=by
 unfold HK.step; rw[UQ (by simpa using D),UQ (by simpa using hd)]
variable{b:Bool}{j:Nat}
abbrev adw{P:bY->Prop}(hA:ϳ P){w0 w:E5}{b c:Nat}{H:HD}{x:dV}(hP:P x.e.key)(J:Ext w0 w)(hx:Bx w b H.cells.toArray)(hb:w0.heap.size<=b)(ai:c<=b)(al:H.Ok K)(hm:H.mem K c b w)(hg:bU w)(he:gU K w x.e)(am:x.e.node.lim) :
  Nq prog 40 #[.q b 0,x.v] w λr w'=>∃(D:HD) (code:Int),r = .R (.i code)∧(D.key,code)=H.key.step x.d x.e.key∧D.Ok K∧D.mem K c b w'∧Ext w0 w'∧Ch b w w'∧Bx w' b D.cells.toArray:=by
 skip;refine Ĭ func40 ntmps40 J hx hb λS=>Â S λu b2 E3 D S=>O1 S 5 [] [.M 0 0] λS=>À S ((x.d) == -1) (λag S=>?_) λag S=>?_
 .have ah:Ext w u:=E3;have ab:=((Ch.trans (Ch.refl b w) (Ch.aY E3)));refine â S 1 I (KQ S.E (S.bx 1) hb ai al ((Ü hm E3))) ?_;rintro e u ⟨H1,code,rfl,D,J,ac,ae,aa,af⟩;rw[<-HK.adu _ x.e.key ag]at D;refine⟨_,_,I,ae,aa,af,λS=>?_⟩;refine Xe S (.i code) λS=>?_;exact⟨H1,code,I,D,J,ac,S.E,Ch.trans ab aa,S.kV 1⟩
 refine À S ((x.d)==1) (λfJ S=>?_) λfJ S=>?_
 .have ah:Ext w u:=E3;have ab:=((Ch.trans (Ch.refl b w) (Ch.aY E3)));refine â S 1 I (Zp S.E (S.bx 1) hb ai al ((Ü hm E3))) ?_;rintro e u ⟨H1,code,rfl,D,J,ac,ae,aa,af⟩;rw[<-HK.adv _ x.e.key ag fJ]at D;refine⟨_,_,I,ae,aa,af,λS=>?_⟩;refine Xe S (.i code) λS=>?_;exact⟨H1,code,I,D,J,ac,S.E,Ch.trans ab aa,S.kV 1⟩
 have ah:Ext w u:=E3;have ab:=((Ch.trans (Ch.refl b w) (Ch.aY E3)));refine O1 S 3 [] [.M 0 1] λS=>â S 1 I (rQ hA hP S.E (S.bx 1) hb ai al ((Ü hm E3)) (bU.below hg ah) (he.below ah) am) ?_;rintro e u ⟨H1,code,rfl,D,J,ac,ae,aa,af⟩;rw[<-HK.ahf _ x.e.key ag fJ]at D;refine⟨_,_,I,ae,aa,af,λS=>?_⟩;refine Xe S (.i code) λS=>?_;exact⟨H1,code,I,D,J,ac,S.E,Ch.trans ab aa,S.kV 1⟩
abbrev adx{P:bY->Prop}(hA:ϳ P){w:E5}{s:aB}{l:List dV}{a:Option Addr}{cap:Nat}(h:bQ K w s)(J:∀n∈s.ns,n.lim)(hg:bU w)(hv:s.key.valid=true)(aa:aG 56 dV.cells w (.s a l.length cap) l)(ho:∀x∈l,gU K w x.e∧x.e.node.lim∧P x.e.key) :
  Nq prog 21 #[s.v,.s a l.length cap] w λr w'=>∃(b:Nat) (H:HD),r = .R (.q b 0)∧w.heap.size<=b∧Bx w' b H.cells.toArray∧H.mem K w.heap.size b w'∧H.Ok K∧H.key=HK.steps ⟨[s.key],[],0⟩ l∧Ext w w':=by
 have D:l.length<=9223372036854775807:=aa.len;refine Ä func21 ntmps21 λS=>Â S λu b2 E3 D S=>?_;have D:=λp hp=>(S.own p hp).1.1;have kS:=S.E.size;obtain⟨c0,ao⟩:∃z:Nat,z=u.heap.size:=⟨_,I⟩;refine O1 S 2 [] [.M 0 0] λS=>ê S (RN (h.below S.E) (bU.below hg S.E) J hv) ?_;rintro e u ⟨bh,H1,rfl,ah,aq,J,⟨ai,ar⟩,E6⟩;rw[<-ao]at ah J D kS;refine⟨_,I,E6,λS=>?_⟩;have S:=S.fl;have S:=S.adopt (A:=H1.cells) aq Z (λp hp=>by have:=D p hp; omega) (λm D=>by cases D);refine ă S λS=>ĉ S (ι:=Nat×HD) (λp D w'=>(p.2.key=HK.steps ⟨[s.key],[],0⟩ (l.take p.1)∧p.2.Ok K∧p.2.mem K c0 bh w'∧p.1<=l.length)∧Sx.St w D w' 27 [(0,s.v),(1,.s a l.length cap),(2,.q b2 0),(4,(.pointer none)),(5,.q bh 0),(6,.i 0),(16,.s a l.length cap),(17,.i l.length),(18,.i p.1)] [(bh,p.2.cells),(b2,s.cells)] []) (λp=>l.length-p.1) (0,H1) (λS=>⟨⟨ar,ai,J,Î _⟩,S.qC⟩) ?_;rintro⟨j,H2⟩ ac u fQ eu hI;try dsimp only at hI
 obtain⟨D,S⟩:=hI;refine Ċ S λS=>?_;obtain⟨ae,J,af,a4⟩:=D;have kS:=S.E.size;refine À S (decide ((j:Int)<(l.length:Int))) (λD S=>?_) λD S=>?_
 .have hj:j<l.length:=by have:=Ý D; omega
  have ag:j<l.length:=hj;obtain⟨a5,a6,rfl,wC,Zu,P5,ap⟩:=ý aa (λ_=>I) (j) ag;have S:=S.view0 P5 ap;refine O1 S 2 [] [.idx j l.length,.M 2 0] (hk:=⟨ag,G⟩) λS=>Â S λu az GI a3 S=>É S 0 I λu X0 S=>?_;have Ku:=È GI X0;have ab:=ho wC (Zu▸ò hj);refine O1 S 2 [] [.M 0 0] λS=>?_;have S:=S.fl;refine â S 1 I (adw (x:=wC) hA ab.F S.E (S.bx 1) (S.old 1) ah J ((Ü af Ku)) (bU.below hg S.E) (ab.1.below S.E) ab.2.1) ?_;rintro e u ⟨H3,code,rfl,av,aw,Q5,ax,al,ay⟩;have am:H3.key=HK.steps ⟨[s.key],[],0⟩ (l.take (j+1)):=by rw[HK.Zq hj Zu,<-ae]; exact Ñ Prod.fst av
  refine⟨_,_,I,ax,al,ay,λS=>?_⟩;have tV:=(Sx.On.ch ((Ü af Ku)) al Z);refine O1 S 2 [] [.re 25 (.i (IntKind.i64.wrap ((j:Int)+1))) (.i (j+1:Nat))] (hk:=⟨(ù Z),G⟩) λS=>ċ S fQ λS=>?_;exact eu _ _ ((j+1),H3) ⟨⟨am,aw,Q5,hj⟩,(S.gK 1).qC⟩ (by show l.length-(j+1)<l.length-j; omega)
 have an:l.length<=j:=by have:=é D; omega
 rw[Ď an]at ae;refine Xe S (.q bh 0) λS=>?_;exact⟨bh,H2,I,Z,S.kV 0,K12 af Z,J,ae,S.E⟩
abbrev ahg{w:E5}{s:aB}(h:bQ K w s)(J:bU w)(D:∀n∈s.ns,n.lim)(S:s.key.valid=false) :
  Nq prog 25 #[s.v] w (Ï w (.tuple #[.pointer none,.i 18])):=
 (VN h J D).mono λe w' h=>by
  rcases h with ⟨-,h⟩ | ⟨D,-⟩
  .exact h
  .rw[S]at D; cases D
abbrev zo:∀{a b:Bool},cond a false b=true->a=false∧b=true:=by decide
abbrev abb{t:bD}(h:t.fit 20):t.lim:=⟨h.1.mono O,h.2.1.mono O,h.D.mono O,h.C.mono O,h.A.mono O,h.J.mono O⟩
abbrev Fj{r:bH}(h:((decide (12<(r.l1.length:Int)))||(decide (12<(r.l2.length:Int))))=false):r.fit 20:=by
 simp only[Ĕ,Ą]at h;exact⟨Z,Z⟩
def bD.lt(t:bD):Bool:=cond ((decide (12<(t.a.l1.length:Int)))||(decide (12<(t.a.l2.length:Int)))) (false) (cond ((decide (12<(t.b.l1.length:Int)))||(decide (12<(t.b.l2.length:Int)))) (false) (cond ((decide (12<(t.c.l1.length:Int)))||(decide (12<(t.c.l2.length:Int)))) (false) (cond ((decide (12<(t.d.l1.length:Int)))||(decide (12<(t.d.l2.length:Int)))) (false) (cond ((decide (12<(t.e.l1.length:Int)))||(decide (12<(t.e.l2.length:Int)))) (false) (cond ((decide (12<(t.f.l1.length:Int)))||(decide (12<(t.f.l2.length:Int)))) (false) (true))))))
abbrev VP{w:E5}{t:bD}(h:t.ok w) :
  Nq prog 69 #[t.v] w (Ï w (.b t.lt)):=by
 obtain⟨t0,t1,t2,D,J,t5⟩:=h;obtain⟨p0,c0,e0,-⟩:=t0.1;obtain⟨q0,d0,f0,-⟩:=t0.2;obtain⟨p1,c1,e1,-⟩:=t1.1;obtain⟨q1,d1,f1,-⟩:=t1.2;obtain⟨p2,c2,e2,-⟩:=t2.1;obtain⟨q2,d2,f2,-⟩:=t2.2;obtain⟨p3,c3,e3,-⟩:=D.1;obtain⟨q3,d3,f3,-⟩:=D.2;obtain⟨p4,c4,D,-⟩:=J.1;obtain⟨D,d4,f4,-⟩:=J.2;obtain⟨p5,c5,D,-⟩:=t5.1;obtain⟨D,J,f5,-⟩:=t5.2;refine Ä func69 ntmps69 λS=>Â S λu b2 J D S=>O1 S 13 [] [.M 0 0,.M 0 4,.M 0 8,.M 0 12,.M 0 16,.M 0 20] λS=>Â S λu b6 J D S=>Š S 6 λS=>ã S λS=>O1 S 18 [] [.M 0 1,.M 0 3] λS=>À S ((decide (12<(t.a.l1.length:Int)))||(decide (12<(t.a.l2.length:Int)))) (λqo S=>?_) λqo S=>?_
 .refine Xe S (.z) λS=>?_;exact⟨aJ (by unfold bD.lt; rw[qo]; rfl),S.E⟩
 refine ã S λS=>O1 S 18 [] [.M 0 5,.M 0 7] λS=>À S ((decide (12<(t.b.l1.length:Int)))||(decide (12<(t.b.l2.length:Int)))) (λD S=>?_) λD S=>?_
 .refine Xe S (.z) λS=>?_;exact⟨aJ (by unfold bD.lt; rw[qo,D]; rfl),S.E⟩
 refine ã S λS=>O1 S 18 [] [.M 0 9,.M 0 11] λS=>À S ((decide (12<(t.c.l1.length:Int)))||(decide (12<(t.c.l2.length:Int)))) (λJ S=>?_) λJ S=>?_
 .refine Xe S (.z) λS=>?_;exact⟨aJ (by unfold bD.lt; rw[qo,D,J]; rfl),S.E⟩
 refine ã S λS=>O1 S 18 [] [.M 0 13,.M 0 15] λS=>À S ((decide (12<(t.d.l1.length:Int)))||(decide (12<(t.d.l2.length:Int)))) (λDY S=>?_) λDY S=>?_
 .refine Xe S (.z) λS=>?_;exact⟨aJ (by unfold bD.lt; rw[qo,D,J,DY]; rfl),S.E⟩
 refine ã S λS=>O1 S 18 [] [.M 0 17,.M 0 19] λS=>À S ((decide (12<(t.e.l1.length:Int)))||(decide (12<(t.e.l2.length:Int)))) (λaa S=>?_) λaa S=>?_
 .refine Xe S (.z) λS=>?_;exact⟨aJ (by unfold bD.lt; rw[qo,D,J,DY,aa]; rfl),S.E⟩
 refine ã S λS=>O1 S 18 [] [.M 0 21,.M 0 23] λS=>À S ((decide (12<(t.f.l1.length:Int)))||(decide (12<(t.f.l2.length:Int)))) (λNy S=>?_) λNy S=>?_
 .refine Xe S (.z) λS=>?_;exact⟨aJ (by unfold bD.lt; rw[qo,D,J,DY,aa,Ny]; rfl),S.E⟩
 refine ă S λS=>Xe S (.b true) λS=>?_;exact⟨aJ (by unfold bD.lt; rw[qo,D,J,DY,aa,Ny]; rfl),S.E⟩
abbrev KT{P:Program}{w:E5}{os:List Oper}{i:Nat}{o:Oper}{ρ:Operand->y9}(ho:os[i]?=some o){t e:TypeId}{z:y9}{k bytes:Nat}(T:fM P t e z k bytes){sl sx:Nat}{ad:Addr}{y:y9}{f:α->List y9}{L:List α}
  (hs:ρ (.tmp sl) = .s (some ad) 0 0) (hx:ρ (.tmp sx)=y) (hy:aG k f w y L) (hf:∀x,(f x).length=k) (h1:∀x,(f x).all (·.oneCell')=true) (D:L.length*bytes<=140737488355328) (aa:L.length<=maxLen) {Post:y9->E5->Prop} (hK:∀J w',((L=[]∧∃ad,J = .s (some ad) 0 0)∨w'.ownsRow w.heap.size e k J L.length (L.flatMap f))->Ext w w'->Post J w')
  (S:FD os i=some (.tmp sl,.tmp sx,t,true):=by kernel_rfl):Rel.Does P o ρ w Post:=by
 cases L with
 | nil =>
  obtain⟨a,c,rfl⟩:=hy.shape;exact Ew ho T (Ç 0) hs hx (hK _ _ (.inl ⟨I,ad,I⟩) å) S
 | cons x r =>
  have hw:dQ w k (.s (some ad) 0 0) 0 []:=⟨by simp,λu hu=>(by cases hu),.inl ⟨I,some ad,0,I,λe=>(by cases e)⟩⟩;refine uF (f:=0) ho T hs hx hw (jV hy hf h1) Y (by simpa using aa) (by simpa using D) (λJ w' h hE=>hK J w' (.inr ?_) hE) S;simpa using h
abbrev _root_.Go.Sx.aoP{P:Program}{ops:Array Oper}{Q:Exit->Act->E5->Prop}{n:Nat}{w0 w:E5}{a:Act}{os:List Oper}{l:List (Nat×y9)}{bl:List (Nat×List y9)}{vs:List Sx.eX}(S:Sx.St w0 a w n l bl vs)(d:Nat){t e:TypeId}{z:y9}{k bytes ub:Nat}(T:fM P t e z k bytes){f:α->List y9}{L M:List α}{v y:y9}
  (hb:∀p∈bl,p.1<ub) (h0:w0.heap.size<=ub) (hv:(L=[]∧∃ad,v = .s (some ad) 0 0)∨w.ownsRow ub e k v L.length (L.flatMap f)) (hy:aG k f w y M) (hf:∀x,(f x).length=k) (h1:∀x,(f x).all (·.oneCell')=true) (ae:L.length+M.length<=maxLen) (D:(L.length+M.length)*bytes<=140737488355328)
  (next:∀a' w' J,(∃A c,J = .s A (L++M).length c∧aG k f w' (.s A (L++M).length c) (L++M)∧∀g o,A=some ⟨g,o,none⟩->0<(L++M).length->∀p∈bl,p.1≠g)->Sx.St w0 a' w' n ((d,J)::l) bl []->Ã P ops Q (os.drop 1) a' w')
  (hx:JE os l=some (t,v,y,some d):=by kernel_rfl) (hd:Sx.uG n (some d)=true:=by rfl):Ã P ops Q os a w:=by
 have ab:∀p∈bl,p.1<w.heap.size:=λp hp=>(S.own p hp).1.1;rcases hv with ⟨rfl,ad,rfl⟩ | hv
 .refine Zv S d T hy (by simpa using D) (λa' w' J hE hF S=>?_) hx hf h1 hd;have h:=æ hF;obtain⟨A,c,rfl⟩:=h.1.shape;refine next _ _ _ ⟨A,c,I,h.1,λg o e h0 p hp he=>?_⟩ S.kZ;subst e;rcases h.2 with h2 | ⟨g',c',af,hv,hg,hh⟩
  .exact absurd h0 (by show ¬0<M.length; omega)
  simp only[Ĉ,Æ,Ŵ]at hv;have:=ab p hp;omega
 have R:=(Č S).add (r:=⟨e,k,v,L.length,L.flatMap f⟩) hv (λb aa=>by obtain⟨x,ac⟩:∃x,(b,x)∈bl:=(by simpa[Ob]using aa); exact hb _ ac) h0;refine Ń S R 0 d I T (jV hy hf h1) ae D (λa' w' J Ó R S=>?_) hx hd;have h:=R.own _ Ö;obtain⟨A,c,D⟩:=Sx.jf h;replace D:J = .s A (L++M).length c:=D.trans (Ñ (λn=>Value.s A n c) Y);subst D;have h2:w'.ownsRow w0.heap.size e k (.s A (L++M).length c) (L++M).length ((L++M).flatMap f):=by rw[Å,ŀ]; rw[Å]at h; exact h
 refine next _ _ _ ⟨A,c,I,æ (iZ hf h2 I I),λg o e h0=>?_⟩ S;obtain⟨g',rfl⟩:=Jr h2 h0;cases e;exact(R.range Ö (show Value.s (some ⟨g,0,none⟩) (L++M).length c = .slice (some ⟨g,0,none⟩) (L.length+M.length) c by rw[Å]) 0 (cs:=[]) I).F
def ak.lt(p:ak):Bool := !(((!(p.t.lt))||(decide (30<(p.stops.length:Int))))||(decide (300<(p.img.l.length:Int))))
def aj.ϔ(n:aj):Bool:=((((((decide (24<(n.path.length:Int)))||(decide (24<(n.clip.length:Int))))||(decide (20<(n.style.dash.length:Int))))||(decide (300<(n.img.l.length:Int))))||(!(n.t.lt)))||(decide (3<(n.fill.length:Int))))||(decide (3<(n.stroke.length:Int)))
def aj.lt(n:aj):Bool := !n.ϔ&&(n.fill++n.stroke).all ak.lt
def aB.light(s:aB):Bool := !(decide (8<s.ns.length)&&decide (s.ns.length<=64))&&(s.ns.take 65).all aj.lt
abbrev akk{n:aj}(h:n.ϔ=false):n.fill.length<=3∧n.stroke.length<=3:=by
 unfold aj.ϔ at h;simp only[Ĕ,Ą]at h;omega
abbrev VQ{p:ak}(h:(((!(p.t.lt))||(decide (30<(p.stops.length:Int))))||(decide (300<(p.img.l.length:Int))))=b):p.lt = !b:=by unfold ak.lt; rw[h]
abbrev ahh{l:List aj}(h:j<l.length)(J:j<=64)(D:(l[j]).lt=false):(l.take 65).all aj.lt=false:=by
 refine zu (k:=j) (by rw[Ĳ]; omega) ?_;rw[ϟ]; exact D
abbrev aoQ{l:List aj}(D:(l.take j).all aj.lt=true)(h:¬(j<l.length∧j<=64))(J:j<=65)(hl:j<=l.length):(l.take 65).all aj.lt=true:=by
 by_cases h2:j<l.length
 .obtain rfl:j=65:=by omega
  exact D
 rw[Ď Z]at D;exact ñ.2 λx J=>ñ.1 D x (ŝ J)
abbrev Ig{n:Nat}(h:((decide ((8:Int)<(n:Int)))&&(decide ((n:Int)<=64)))=b):(decide (8<n)&&decide (n<=64))=b:=by
 rw[<-h]; congr 1<;>(apply ϸ.2; omega)
abbrev Gs{w:E5}{s:aB}(h0:aG 47 aj.cells w s.s s.ns∧∀n∈s.ns,n.ok w) :
  Nq prog 39 #[s.v] w (Ï w (.b s.light)):=by
 have D:s.ns.length<=9223372036854775807:=h0.1.len;refine Ä func39 ntmps39 λS=>?_;obtain⟨a,cap,es⟩:∃a c,s.s = .s a s.ns.length c:=⟨_,_,I⟩;have av:=h0.1;have bh:=h0.2;rw[es]at av;refine Â S λu b2 J D S=>O1 S 11 [] [.M 0 6,.re 8 s.s (.s a s.ns.length cap),.M 0 6,.re 13 s.s (.s a s.ns.length cap)] (hk:=⟨es,es,G⟩) λS=>À S ((decide (8<(s.ns.length:Int)))&&(decide ((s.ns.length:Int)<=64))) (λmO S=>?_) λmO S=>?_
 .refine Xe S (.z) λS=>?_;exact⟨aJ (by unfold aB.light; rw[Ig mO]; rfl),S.E⟩
 refine ĉ S (ι:=Nat) (λp a' w'=>((s.ns.take p).all aj.lt=true∧p<=s.ns.length∧p<=65)∧Sx.St w a' w' 114 [(0,s.v),(1,.q b2 0),(2,.z),(3,.i p)] [(b2,s.cells)] []) (λp=>s.ns.length-p) (0) (λS=>⟨⟨I,Î _,Î _⟩,S.qC⟩) ?_;rintro j ac u fQ eu hI;try dsimp only at hI
 obtain⟨hR,S⟩:=hI;refine Ċ S λS=>?_;obtain⟨am,bk,bm⟩:=hR;refine O1 S 9 [] [.M 0 6,.re 19 s.s (.s a s.ns.length cap)] (hk:=⟨es,G⟩) λS=>À S ((decide ((j:Int)<(s.ns.length:Int)))&&(decide ((j:Int)<=64))) (λaa S=>?_) λaa S=>?_
 .have hj:j<s.ns.length∧j<=64:=by have:=aa; simp at this; omega
  have J:j<s.ns.length:=hj.1;obtain⟨bo,bp,rfl,D,Zu,P5,bq⟩:=ý av (λ_=>I) (j) J;have h:=bh _ (Zu▸ò J);obtain⟨a1,c1,bw⟩:=h.2.2.2.2.1.1.shape;obtain⟨a2,c2,bz⟩:=h.2.2.2.2.2.2.2.1.1.shape;obtain⟨a3,c3,ca⟩:=h.2.2.2.2.2.2.2.2.2.1.1.shape;obtain⟨a4,c4,cb⟩:=h.2.2.2.2.2.2.2.2.2.2.2.1.1.shape;obtain⟨a5,c5,cc,-⟩:=h.2.2.2.2.2.2.2.2.2.2.1.A;obtain⟨a6,c6,cd⟩:=h.2.2.2.2.2.2.2.2.2.2.2.2.1.F.shape;have S:=S.view0 P5 bq;refine O1 S 5 [] [.M 0 6,.re 29 s.s (.s (some ⟨bo,bp,none⟩) s.ns.length cap),.idx j s.ns.length,.M 1 0] (hk:=⟨es,J,G⟩) λS=>Â S λu an GI J S=>É S 0 I λu J S=>ī S 42 [.M 0 33,.M 0 27,.M 0 40,.M 0 45,.M 0 3,.M 0 35,.M 0 42] [(_,_,(!((((decide (24<(D.path.length:Int)))||(decide (24<(D.clip.length:Int))))||(decide (20<(D.style.dash.length:Int))))||(decide (300<(D.img.l.length:Int))))),.b (D.t.lt))] [(74,.b (((((((decide (24<(D.path.length:Int)))||(decide (24<(D.clip.length:Int))))||(decide (20<(D.style.dash.length:Int))))||(decide (300<(D.img.l.length:Int))))||(!(D.t.lt)))||(decide (3<(D.fill.length:Int))))||(decide (3<(D.stroke.length:Int)))))] ⟨λu J g=>VP (t:=D.t) (h.C.below (Ip S.E J)),G⟩ λu bu S=>À S (((((((decide (24<(D.path.length:Int)))||(decide (24<(D.clip.length:Int))))||(decide (20<(D.style.dash.length:Int))))||(decide (300<(D.img.l.length:Int))))||(!(D.t.lt)))||(decide (3<(D.fill.length:Int))))||(decide (3<(D.stroke.length:Int)))) (λJ S=>?_) λJ S=>?_
  .refine Xe S (.z) λS=>?_;have ae:=Ig mO;exact⟨aJ (by unfold aB.light; rw[ae,ahh hj.1 hj.2 (by rw[Zu]; unfold aj.lt aj.ϔ; rw[J]; rfl)]; rfl),S.E⟩
  have af:D.ϔ=false:=J;have J:=akk af;have J:=λp hp=>(S.own p hp).1.1;have aw:=S.E.size;obtain⟨ub,az⟩:∃z:Nat,z=u.heap.size:=⟨_,I⟩;rw[<-az]at J aw;have ax:=h.K;have ay:=h.H;have bt:=λp hp=>(S.own p hp).1.1;have kS:=S.E.size;refine WZ S f39 9 λS iz=>?_;refine sH S 6 [(75,iC u.heap.size [] (some 0)),(78,λv w1=>(D.fill=[]∧∃ad,v = .s (some ad) 0 0)∨w1.ownsRow ub 133 40 v D.fill.length (D.fill.flatMap ak.cells))] (λr=>[.new 75 [] (some 0) r,.M 0 35,.hand 78 [(77,D.fs)],.M 0 42]) (λx=>[x 75,x 78]) (λx=>[]) [] (λx=>[(78,x 78),(80,D.ss)]) ⟨iC.mono,λ_ _ _ k h=>h.imp id λh=>Sx.dF h k,G⟩ (λx=>G) (λac u x Tt F S=>?_) (hN:=λr=>⟨⟨I,I⟩,G⟩) (hk:=λr=>⟨G,G,G⟩) (hl:=[(3,[75])]) (hH:=λx r=>⟨λo ho ρ u hs hE hρ hV F=>by obtain⟨a8,-⟩:=F; obtain⟨b,e1,-,h1⟩:=a8; exact KT ho Dv ((hρ 75 O I).trans e1) (hV (77,_) Ö) (ax.1.below (Ip S.E hE)) (λ_=>I) (λ_=>I) Z (by show D.fill.length<=9223372036854775807; omega) (λv' w' h be=>İ ho I I be (h.imp id λh=>Sx.ownsRow_base h (by rw[az]; exact hE.size))),G⟩);refine Um S λS=>?_;obtain⟨a8,ag,-⟩:=F;obtain⟨a9,bb⟩:∃z,z=x 78:=⟨_,I⟩;rw[<-bb]at S ag;try rw[<-bb]
  replace ag:(D.fill=[]∧∃ad,a9 = .s (some ad) 0 0)∨u.ownsRow ub 133 40 a9 D.fill.length (D.fill.flatMap ak.cells):=ag;refine è S λS=>Sx.aoP S 81 Dv J aw ag (ay.1.below S.E) (λ_=>I) (λ_=>I) (by show D.fill.length+D.stroke.length<=9223372036854775807; omega) Z λac u J ar S=>ÿ S λS=>?_;obtain⟨PL,ah⟩:∃z,z=D.fill++D.stroke:=⟨_,I⟩;rw[<-ah]at ar;obtain⟨a7,c7,rfl,J,bc⟩:=ar;have bv:PL.length<=9223372036854775807:=J.len;have al:∀g o,a7=some ⟨g,o,none⟩->0<PL.length->an≠g∧b2≠g:=λg o e h0=>⟨bc g o e h0 _ (Ö),bc g o e h0 _ (ļ _ (Ö))⟩;have bj:∀p∈PL,p.ok w:=λp hp=>by rw[ah]at hp; exact(ā.1 hp).elim (ax.2 p) (ay.2 p)
  refine ĉ S (ι:=Nat) (λp a' w'=>p<=PL.length∧((PL.take p).all ak.lt=true∧aG 40 ak.cells w' (.s a7 PL.length c7) PL)∧Sx.St w a' w' 114 [(0,s.v),(1,.q b2 0),(2,.z),(3,.i j),(4,.q an 0),(5,.s a7 PL.length c7),(6,.i p)] [(an,D.cells),(b2,s.cells)] []) (λp=>PL.length-p) (0) (λS=>⟨Î _,⟨I,J⟩,S.qC⟩) ?_;rintro k ac u Og bs hI;try dsimp only at hI
  obtain⟨hk,hR,S⟩:=hI;refine Ċ S λS=>?_;obtain⟨hR,J⟩:=hR;refine À S (decide ((k:Int)<(PL.length:Int))) (λab S=>?_) λab S=>?_
  .have MX:k<PL.length:=by have:=Ý ab; omega
   obtain⟨ce,cf,rfl,ai,aq,bd,br⟩:=ý J (λ_=>I) (k) MX;have ap:=bj _ (aq▸ò MX);obtain⟨r1,r2,cg⟩:=ap.A.shape;obtain⟨r3,r4,ci⟩:=ap.2.2.2.2.2.2.2.1.F.shape;have S:=S.view bd br (λp hp=>by rcases Ù.1 hp with rfl | hp; (exact(al _ _ I Z).1); rcases Ù.1 hp with rfl | hp; (exact(al _ _ I Z).2); cases hp);refine O1 S 5 [] [.idx k PL.length,.M 2 16] (hk:=⟨MX,G⟩) λS=>ð S (VP (t:=ai.t) (ap.I.below S.E)) λu bg S=>O1 S 20 [] [.idx k PL.length,.M 2 10,.idx k PL.length,.M 2 14] (hk:=⟨MX,MX,G⟩) λS=>À S (((!(ai.t.lt))||(decide (30<(ai.stops.length:Int))))||(decide (300<(ai.img.l.length:Int)))) (λao S=>?_) λao S=>?_
   .refine Xe S (.z) λS=>?_;have ae:=Ig mO;exact⟨aJ (by unfold aB.light; rw[ae,ahh hj.1 hj.2 (by rw[Zu]; unfold aj.lt; rw[af,<-ah,zu MX (by rw[aq]; exact VQ ao)]; rfl)]; rfl),S.E⟩
   refine O1 S 3 [] [.re 87 (.i (IntKind.i64.wrap ((k:Int)+1))) (.i (k+1:Nat))] (hk:=⟨ù Z,G⟩) λS=>ċ S Og λS=>?_;exact bs _ _ (k+1) ⟨Z,⟨mQ MX hR (by rw[aq]; exact VQ ao),((J.below bg))⟩,S.qC⟩ (by show _-_<_-_; omega)
  have J:D.lt=true:=by unfold aj.lt; rw[af,<-ah,yI (by have:=é ab; omega) hR]; rfl
  refine O1 S 3 [] [.re 27 (.i (IntKind.i64.wrap ((j:Int)+1))) (.i (j+1:Nat))] (hk:=⟨ù Z,G⟩) λS=>ċ S fQ λS=>?_;exact eu _ _ (j+1) ⟨⟨mQ hj.1 am (by rw[Zu]; exact J),hj.1,Z⟩,(S.gK 1).qC⟩ (by show s.ns.length-(j+1)<s.ns.length-j; omega)
 refine Xe S (.b true) λS=>?_;have ae:=Ig mO;exact⟨aJ (by unfold aB.light; rw[ae,aoQ am (by have:=aa; simp at this; omega) bm bk]; rfl),S.E⟩
