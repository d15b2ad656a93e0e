/- Package scene: edit. Package -/
import Derived.Test.YtodpgjjgaddkeaaGreatDoorPk20
set_option maxRecDepth 100000
set_option maxHeartbeats 9999999
open Go renaming World->VO,Value->aaT,Calls->abB,TypeId->aix,Addr->aGk
set_option linter.unusedVariables false
set_option linter.unusedSimpArgs false
namespace Go.Proofs.Vy
open _root_.Go.Proofs.Tryz
section
open Go.RowKit Go.Sx
variable{α:Type}{K:Nat}
def agI(s:aA)(e:aN)(code:Int)(t:aA):Prop:=
 (match fU (keys s.ns) e.key with | .error n=>code=n | .ok l=>code=0∧keys t.ns=l∧t.bg=if e.kind=5 then e.color else s.bg)∧t.w=s.w∧t.h=s.h
variable{b m i n k:Nat}{l:List aj}{w0:VO}{s t:aA}{e:aN}{v:aaT}{d code:Int}{A xs:List aaT}{rs:List Sx.Row}{F:VO->Prop}{P:aj->Prop}
abbrev nY(l:List aj)(id:Int):(nU (keys l) id = -1∧jo (keys l) id=none)∨∃i:Nat,nU (keys l) id=(i:Int)∧jo (keys l) id=some i∧i<l.length:=by
 unfold nU;cases h:jo (keys l) id with
 | none=>exact .inl ⟨I,I⟩
 | some i =>
  obtain⟨D,_⟩:=vF h;exact .inr ⟨i,I,I,by simpa using D⟩
abbrev ajQ{w:VO}{a:Act}{l:List (Nat×aaT)}{vs:List fE}(S:Sx.St w0 a w n l [(b,A)] vs)(J:w.ownsRow w0.heap.size 38 47 v m xs)(hb:v.ownBlock≠some b):Rw w0 w [(b,A)] [⟨38,47,v,m,xs⟩]:=by
 refine⟨λr D=>by obtain rfl:=aDK.1 D; exact J,λc D=>?_,?_⟩
 .unfold Ob at D;simp only[aD1,aEr,aFL,List.filterMap_nil,aDT,aDK]at D;rcases D with rfl | D
  .exact(S.bx 0).1
  cases hv:v.ownBlock with
  | none=>rw[hv]at D; cases D
  | some g=>rw[hv]at D; obtain rfl:=aDK.1 D; exact(iW J hv).2
 unfold Ob;cases hv:v.ownBlock with
 | none=>simp[hv]
 | some g=>simp[hv]; intro e; rw[e]at hb; exact hb hv
abbrev Y7{base:Nat}{bl:List (Nat×List aaT)}{r:Sx.Row}{w:VO}(h:Sx.Ow base (Ob bl (r::rs)) F w):Sx.Ow base (Ob bl rs) F w:=
 h.mono λk hk=>⟨hk.1,λD=>hk.2 (by
  rcases aDT.1 D with h | h
  .exact aFu _ h
  .refine aFb _ ?_
   rw[aFL]
   cases r.v.ownBlock
   .exact h
   .exact aEs _ h)⟩
abbrev agJ{w:VO}{B:Nat}{L:List aj}(J:w.ownsRow B 38 47 v m (L.flatMap aj.cells))(hm:m=L.length):Sx.On (λi=>v.ownBlock=some i) (kR 38 47 aj.cells B v L) w:=λw' D S =>
 aDB (fV (λ_=>I) (nC J λg D=>S g (iW J D).2 D) hm I)
abbrev Y8{w:VO}{bl:List (Nat×List aaT)}{L:List aj}(R:Rw w0 w bl (⟨38,47,v,m,L.flatMap aj.cells⟩::rs))(D:m=L.length):Sx.Ow w0.heap.size (Ob bl rs) (kR 38 47 aj.cells w0.heap.size v L) w:=by
 have J:=R.own _ aDq;refine(agJ J D).mono λi S=>⟨(iW J S).1,λD=>?_⟩;have J:=R.apart;unfold Ob at J D;rw[aFL,show(⟨38,47,v,m,L.flatMap aj.cells⟩:Sx.Row).v.ownBlock=some i from S]at J;have hd:=aEL.1 J;rcases aDT.1 D with h | h
 .exact hd.2.2 i h i Y I
 exact(aFm.1 hd.2.1).1 h
abbrev Kw{w:VO}{bl:List (Nat×List aaT)}{a:Option aGk}{c:Nat}(R:Rw w0 w bl (⟨38,47,.s a n c,n,xs⟩::rs))(hn:0<n):∃g,a=some ⟨g,0,none⟩∧∀p∈bl,p.1≠g:=by
 obtain⟨g,rfl⟩:=Ju (R.own _ aDq) hn;exact⟨g,I,(R.range aDq I 0 (cs:=[]) I).2.2⟩
abbrev Vu{g:Nat}(h:m≠i):pY (some ⟨g,0,none⟩) i m k=some ⟨g,0+i*k,none⟩:=by
 unfold pY; rw[aC9 h];show some ((⟨g,0,none⟩:aGk).add (i*k))=_;congr 1;unfold Addr.add; split<;>simp_all
def nI(d:Int)(n:aj):aj:={n with depth:=IntKind.i64.wrap (n.depth+d)}
abbrev agK(z:Int):I64 (IntKind.i64.wrap z):=by rw[aE9]; constructor<;>omega
abbrev ac0{base:Nat}{w:VO}{n:aj}(h:n.oZ base w):(nI d n).oZ base w:=⟨⟨h.1.1,h.1.2.1,agK _,h.1.2.2.2⟩,h.2⟩
abbrev ac1(l:List aj)(root to:Int):keys (l.map (nI (IntKind.i64.wrap (to-root))))=(keys l).map λn=>n.moved root to:=by
 unfold keys; rw[List.map_map,List.map_map]; rfl
abbrev Vw(l m:List aj)(i:Nat):keys (l.take i++m++l.drop i)=Gv (keys l) i (keys m):=by unfold keys Gv; simp
abbrev DZ(l:List aj)(i j:Nat):keys (l.take i++l.drop j)=vG (keys l) i j:=by unfold keys vG; simp
abbrev agL(l:List aj)(i j:Nat):keys ((l.drop i).take (j-i))=Es (keys l) i j:=by unfold keys Es; simp
abbrev Ht{m:List aj}(hl:∀n∈l,P n)(D:∀n∈m,P n)(i j:Nat):∀n∈l.take i++m++l.drop j,P n:=λn hn=>by
 rcases aDT.1 hn with h | h
 .rcases aDT.1 h with h | h
  .exact hl n (aEJ h)
  exact D n h
 exact hl n (aFP h)
abbrev Hu(hl:∀n∈l,P n)(i j:Nat):∀n∈l.take i++l.drop j,P n:=λn hn=>by
 rcases aDT.1 hn with h | h
 .exact hl n (aEJ h)
 exact hl n (aFP h)
abbrev ajR{B C D:List aaT}{o:Nat}(J:o=A.length)(hl:D.length=B.length):Sx.spl (A++(B++C)) o D=A++(D++C):=by
 subst J;unfold Sx.spl;rw[List.take_left,<-aFd,aFT,hl,aFT,aDz]
abbrev agM{L:List aj}(S:i<L.length)(m:aj):Sx.spl (L.flatMap aj.cells) (0+i*47) m.cells=(L.set i m).flatMap aj.cells:=by
 have J:L.flatMap aj.cells=(L.take i).flatMap aj.cells++(L[i].cells++(L.drop (i+1)).flatMap aj.cells):=by
  rw[<-aEn,<-aED,aGa,aEH]
 rw[J,ajR (D:=m.cells) (by rw[jF (f:=aj.cells) (k:=47) (λ_=>I),aD4,aEW Z]; omega) (show m.cells.length=L[i].cells.length from rfl),List.set_eq_take_append_cons_drop,aDb S,aED,aEn]
abbrev agN{w:VO}(h:Sx.On (λi=>w0.heap.size<=i∧i≠b∧v.ownBlock≠some i) F w):Sx.Ow w0.heap.size (Ob [(b,A)] [⟨38,47,v,m,xs⟩]) F w:=
 h.mono λi J=>⟨J.1,λD=>by
  unfold Ob at D
  simp only[aD1,aEr,aFL,List.filterMap_nil,aDT,aDK]at D
  rcases D with rfl | D
  .exact J.2.1 I
  .cases hv:v.ownBlock with
   | none=>rw[hv]at D; cases D
   | some g=>rw[hv]at D; obtain rfl:=aDK.1 D; exact J.2.2 hv⟩
abbrev Rk{base:Nat}{bl:List (Nat×List aaT)}{w:VO}(h:Sx.Ow base (Ob bl []) F w):Sx.Ow base (Ob bl [⟨38,47,.sn,0,[]⟩]) F w:=h
abbrev one_row{w:VO}{m:aj}(D:Bx w b m.cells.toArray):aI 47 aj.cells w (.s (some ⟨b,0,none⟩) 1 1) [m]:=
 ⟨_,1,I,by decide,.inr ⟨b,0,I,D.1,aDd _,λi J j S=>by
  obtain rfl:i=0:=by simpa using J
  rw[show 0+0*47+j=j by omega,D.2.1,List.getElem?_toArray]; rfl⟩⟩
abbrev agO{e:Nat}{y:aj}(h:i+k<l.length)(J:l[i+k]=y)(hk:k<e-i):(((l.drop i).take (e-i)).take k |>.map (nI d)).flatMap aj.cells++(nI d y).cells=(((l.drop i).take (e-i)).take (k+1) |>.map (nI d)).flatMap aj.cells:=by
 have D:k<((l.drop i).take (e-i)).length:=by simp; omega
 rw[aEj D,aEb,aED];congr 1;simp[J]
abbrev ac2{base:Nat}{w:VO}(h:∀n∈l,n.oZ base w)(i m:Nat):∀n∈((l.drop i).take m).map (nI d),n.oZ base w:=λn hn=>by
 obtain⟨x,D,rfl⟩:=aDJ.1 hn;exact ac0 (h x (aFP (aEJ D)))
abbrev ac3(h:∀n∈l,n.uw K)(i m:Nat):∀n∈((l.drop i).take m).map (nI d),n.uw K:=λn hn=>by
 obtain⟨x,D,rfl⟩:=aDJ.1 hn;exact h x (aFP (aEJ D))
abbrev alf(s:aA)(i:Nat)(m:aj):aA.s ⟨s.w,s.h,s.bg,s.nsa,s.nsc,s.ns.set i m⟩=s.s:=by unfold aA.s; simp
abbrev ac4(s:aA)(i:Nat)(m:aj):aA.cells ⟨s.w,s.h,s.bg,s.nsa,s.nsc,s.ns.set i m⟩=s.cells:=by unfold aA.cells; rw[alf]
abbrev aaS{m:aj}(h:∀n∈l,P n)(J:P m)(i:Nat):∀n∈l.set i m,P n:=λn hn=>by
 rcases List.mem_or_eq_of_mem_set hn with D | rfl
 .exact h n D
 exact J
abbrev Y9{w:VO}(hE:Ext w0 w)(hx:Bx w b s.cells.toArray)(hb:w0.heap.size<=b)(ho:s.own w0.heap.size w)(de:s.s.ownBlock≠some b)(df:Sx.On (λi=>w0.heap.size<=i∧i≠b∧s.s.ownBlock≠some i) (λW=>∀n∈s.ns,n.oZ w0.heap.size W) w)(hf:∀n∈s.ns,n.uw K)(he:gQ K w0 e)(a4:e.node.lim)(hn:s.ns.length<=1000) :
  abB prog 99 #[.q b 0,e.v] w λr w'=>∃(code:Int) (t:aA),r = .R (.i code)∧Ext w0 w'∧Bx w' b t.cells.toArray∧fB w0.heap.size t.s t.ns w'∧(∀n∈t.ns,n.uw K)∧agI s e code t:=by
 skip;refine AO func99 ntmps99 hE hx hb (λac S=>?_);obtain⟨a,cap,es⟩:∃a c,s.s = .s a s.ns.length c:=⟨_,_,I⟩;have cg:=ho.row;rw[es]at cg de df;have R:=ajQ S cg de;have af:=agN (A:=s.cells) (m:=s.ns.length) (xs:=s.ns.flatMap aj.cells) df;refine aCE λ_ gJ=>aEl S 3 e.cells λac u b2 E3 dh S=>apB S 1 [] [(4,.i 0)] λS=>aCC<|gJ _ _<|aDs (λ_ AB=>?_);obtain⟨R,Y6⟩:=R.bH S (aEi E3 dh);have J:=(aDB (jq (f:=aj.cells) (L:=s.ns) (λ_=>I) (R.own _ aDq) I I));refine aDj S 7 [.M 1 6,.re 15 s.s (.s a s.ns.length cap),.M 0 1] [(_,_,true,.i (nU (keys s.ns) e.id))] [(18,.i (nU (keys s.ns) e.id))] ⟨λu hC g=>Jo (id:=e.id) (J.below hC),G⟩ (hk:=⟨es,G⟩) λac u E7 S=>apB S 1 [] [(5,.i (nU (keys s.ns) e.id))] λS=>aCC<|AB _ _<|aDs λ_ Qc=>aCE λ_ Xh=>apB S 2 [.M 0 0] [(20,.i e.kind)] λS=>aCC<|Xh _ _<|aD9<|aCE λ_ xu=>apB S 2 [] [(21,.b ((e.kind)==1))] λS=>aCC (xu _ _ ?_);refine aCX S (λfJ=>?_) (λfJ=>?_)
 .refine aDs λ_ LJ=>aDs λ_ Qd=>aDj S 13 [.M 0 2,.M 0 2,.M 1 6,.re 32 s.s (.s a s.ns.length cap)] [] [(35,.b ((decide (e.index<0))||(decide ((s.ns.length:Int)<e.index))))] trivial (hk:=⟨es,G⟩) λac u xw S=>aCC (Qd _ _ ?_);refine aCX S (λqh=>?_) (λqh=>?_)
  .refine aCE λ_ xA=>apB S 1 [] [(4,.i 6)] λS=>aCC<|xA _ _<|aD6 ?_;obtain⟨R,f0⟩:=R.bH S (aDr (aDx E7) (aDx xw));refine vN S results99 ?_;exact⟨6,s,I,S.E,S.bx 1,(es▸aDD (fV (λ_=>I) (R.own _ aDq) I I) (aEx (aDR af (aDr Y6 f0)))),hf,⟨by rw[show fU (keys s.ns) e.key = .error 6 by unfold fU gK; rw[aC9 (show ¬e.key.kind=3 from λh=>by have:=(show(e.key.kind=1)from by simpa[aN.key]using fJ); omega),aDb (show(e.key.kind=1)from by simpa[aN.key]using fJ),aDb (by have:=qh; simp only[aEV,aDv]at this; rw[aEh]; exact this)]],I,I⟩⟩
  refine aDM<|LJ _ _ ?_;have bm:0<=e.index∧e.index<=(s.ns.length:Int):=by have:=qh; simp only[aDX,aDQ]at this; omega
  obtain⟨ax,ar⟩:=afe bm.1;obtain⟨R,f1⟩:=R.bH S (aDr (aDx E7) (aDx xw));have ag:=Y8 R I;have ao:=Y7 (aDR af (aDr Y6 f1));have R:=Rw.pop R;have ci:=λp hp=>(S.own p hp).1.1;have bo:=S.E.size;have fh:=R.lt;have J:=(aDB ag).1;refine al4 S [0] 11 [] [(36,.q b 0)] (λac S=>?_);refine qm S 11 [(45,λv w1=>∃m:aj,v=m.v∧m.cp u.heap.size w1∧m.strip=e.node.strip),(46,λv w1=>∃m b,v = .s (some ⟨b,0,none⟩) 1 1∧u.heap.size<=b∧Bx w1 b (aj.cells m).toArray∧Sx.On (λi=>u.heap.size<=i∧i≠b) (λW=>m.oZ u.heap.size W) w1∧m.strip=e.node.strip)] (λr=>[.M 1 6,.re 40 s.s (.s a s.ns.length cap),.M 0 2,.M 0 4,.hand 46 []]) (λx=>[x 45,x 46]) (λx=>[(_,_,true,x 45,45)]) [[]] (λx=>[(36,.q b 0),(40,.s a s.ns.length cap),(42,.i e.index),(46,x 46)]) ⟨λ_ _ _ k h=>by obtain⟨m,e,h,q⟩:=h; exact⟨m,e,h.ext k,q⟩,λv w w' k h=>by obtain⟨m,b,e,h1,h2,h3,q⟩:=h; exact⟨m,b,e,h1,h2.ext k,h3.ext k,q⟩,G⟩ (λx=>⟨by intro u hC g F; exact(clone_any (he.2.2.2.2.1.below (K00 S.E hC)) a4).mono λe w2 h=>by obtain⟨m,rfl,hx,hs,hb⟩:=h; exact⟨_,I,⟨m,I,y7 hx hC.size,hs⟩,hb⟩,G⟩) (λac u x xH F S=>?_) (hk:=λr=>⟨es,G,G⟩) (hl:=[(10,[45])]) (hH:=λx r=>⟨λo ho ρ u hs hE hρ hV F=>by obtain⟨bs,-⟩:=F; obtain⟨m,e,h,q⟩:=bs; exact ug ho hs [(45,m.v)] (aDa ((hρ 45 O I).trans e)) m.cells (some 1) (λv w' hn cb=>aC4 ho I I cb (by obtain⟨b,e2,h2,h3⟩:=hn; exact⟨m,b,e2,aDy hE.size h2,h3,Sx.On.fresh h cb h2,q⟩)),G⟩);obtain⟨bs,f2,-⟩:=F;clear bs;obtain⟨m,gq,f3,Yh,f4,hm,av⟩:=f2;rw[f3]at S;have S:=S.lq;have S:=S.adopt (A:=m.cells) f4 (aDy bo Yh) (λp hp=>by have:=ci p hp; omega) (λm hm=>by cases hm);obtain⟨R,WO⟩:=R.bH S ((aDx xH).aiW Yh);have fi:=aDS (Sx.afv R hm fh bo) λ_ h=>EF h bo;have J:=(aDB (aDR ag WO)).1;have cj:=one_row (S.bx 0);have go:=S.E.size;have gp:=R.lt;have ck:=S.E.size;have fj:=R.lt;refine aEf S (some 47) (DC J cj (i:=ax) Z Y (by simp; omega) ar) ?_;rintro r u ⟨vi,rfl,az,A8⟩;obtain⟨a9,c9,rfl⟩:=Sx.jh az;refine⟨_,I,A8,λac S=>?_⟩;have bp:=fV (f:=aj.cells) (λ_=>I) az I I;obtain⟨R,co⟩:=R.bH S (aDx A8);have fk:=aDS (Sx.bn.ow bp ck fj) λ_ h=>h.le ck;refine apB S 2 [] [(49,.q b 6)] λS=>aDh S 2 (off:=6) (v := .s a9 ((s.ns.take ax++[m]++s.ns.drop ax).length) c9) I λu di S=>aCC<|Qc _ _<|aCE λ_ Qe=>apB S 1 [] [(4,.i 0)] λS=>aCC<|Qe _ _<|aD6 ?_;obtain⟨R,bt⟩:=R.bH S (Sx.Stp.Jp di (by simp[Sx.vb]));refine vN S results99 ?_;exact⟨0,⟨s.w,s.h,s.bg,a9,c9,s.ns.take ax++[m]++s.ns.drop ax⟩,I,S.E,S.bx 2,aDD (aEx (aDR fk bt)) (aDS (aDD (aEx (aDR ao (aDr WO (aDr co bt)))) (aEx (aDR fi (aDr co bt)))) λ_ h=>Ht h.1 (λn hn=>by rw[aDK.1 hn]; exact h.2) ax ax),Ht hf (λn hn=>by rw[aDK.1 hn]; exact pz ⟨he.2.2.2.2.2,a4⟩ av) ax ax,⟨by rw[show fU (keys s.ns) e.key = .ok (Gv (keys s.ns) ax [e.node.key]) by unfold fU gK; rw[aC9 (show ¬e.key.kind=3 from λh=>by have:=(show(e.key.kind=1)from by simpa[aN.key]using fJ); omega),aDb (show(e.key.kind=1)from by simpa[aN.key]using fJ),aC9 (by rw[aEh,show e.key.index=e.index from rfl]; omega),show e.key.index.toNat=ax from by rw[show e.key.index=e.index from rfl,ar]; rfl]; rfl]; exact⟨I,by rw[Vw]; simp[keys,vJ av],by rw[aC9 (λh=>by have:=(show(e.key.kind=1)from by simpa[aN.key]using fJ); simp only[aN.key]at this; omega)]⟩,I,I⟩⟩
 refine aDs λ_ cc=>aCE λ_ dj=>apB S 2 [] [(50,.b ((e.kind)==2))] λS=>aCC (dj _ _ ?_);refine aCX S (λaa=>?_) (λaa=>?_)
 .refine aDM<|cc _ _ ?_;refine aCX S (λI9=>?_) (λI9=>?_)
  .refine aDs λ_ dk=>aCE λ_ Xw=>apB S 2 [] [(54,.b ((nU (keys s.ns) e.id)<0))] λS=>aCC (Xw _ _ ?_);refine aCX S (λQg=>?_) (λQg=>?_)
   .refine aCE λ_ dl=>apB S 1 [] [(4,.i 8)] λS=>aCC<|dl _ _<|aD6 ?_;have ae:=((nY s.ns e.id).resolve_right (λ⟨i,h,_⟩=>by have:=aDw Qg; omega)).2;obtain⟨R,f5⟩:=R.bH S (aDx E7);refine vN S results99 ?_;exact⟨8,s,I,S.E,S.bx 1,(es▸aDD (fV (λ_=>I) (R.own _ aDq) I I) (aEx (aDR af (aDr Y6 f5)))),hf,⟨by rw[show fU (keys s.ns) e.key = .error 8 by unfold fU gK; rw[aC9 (show ¬e.key.kind=3 from λh=>by have:=(show(e.key.kind=2)from by simpa[aN.key]using aa); omega),aC9 (show ¬(e.key.kind=1)from by simpa[aN.key]using fJ),aDb (show(e.key.kind=2)from by simpa[aN.key]using aa),show jo (keys s.ns) e.key.id=none from ae]],I,I⟩⟩
   refine aDM<|dk _ _<|aDs (λ_ dm=>?_);obtain⟨i,ai,ae,hi⟩:=(nY s.ns e.id).resolve_left (λh=>by have:=aDA Qg; omega);have aq:=Dn (l:=keys s.ns) (i:=i) (by simpa using hi);rw[aEh]at aq;obtain⟨R,f6⟩:=R.bH S (aDx E7);obtain⟨gb,rfl,aw⟩:=Kw R Z;have ag:=Y8 R I;have ao:=Y7 (aDR af (aDr Y6 f6));have R:=Rw.pop R;have J:=(aDB ag).1;have fm:=S.E.size;have fo:=R.lt;obtain⟨D,al⟩:∃z,z=kN (keys s.ns) i:=⟨_,I⟩;rw[<-al]at aq;have bq:=ag;refine rX S 16 [(67,λv w1=>∃v1,v = .tuple #[v1,.s (some ⟨gb,0+i*47,none⟩) (D-i) (D-i)]∧Sx.On (λj=>(w0.heap.size<=j∧j∉Ob [(b2,e.cells),(b,s.cells)] [])∨u.heap.size<=j) (kR 38 47 aj.cells w0.heap.size v1 (s.ns.take i++s.ns.drop D)) w1),(55,λv w1=>∃v1,v = .tuple #[v1,.s (some ⟨gb,0+i*47,none⟩) (D-i) (D-i)]∧Sx.On (λj=>(w0.heap.size<=j∧j∉Ob [(b2,e.cells),(b,s.cells)] [])∨u.heap.size<=j) (kR 38 47 aj.cells w0.heap.size v1 (s.ns.take i++s.ns.drop D)) w1),(68,λv w1=>Sx.On (λj=>(w0.heap.size<=j∧j∉Ob [(b2,e.cells),(b,s.cells)] [])∨u.heap.size<=j) (kR 38 47 aj.cells w0.heap.size v (s.ns.take i++s.ns.drop D)) w1),(69,λv w1=>v = .s (some ⟨gb,0+i*47,none⟩) (D-i) (D-i)),(6,λv w1=>Sx.On (λj=>(w0.heap.size<=j∧j∉Ob [(b2,e.cells),(b,s.cells)] [])∨u.heap.size<=j) (kR 38 47 aj.cells w0.heap.size v (s.ns.take i++s.ns.drop D)) w1)] (λr=>[.M 1 6,.re 59 s.s (.s (some ⟨gb,0,none⟩) s.ns.length cap),.M 1 6,.re 64 s.s (.s (some ⟨gb,0,none⟩) s.ns.length cap),.hand 55 [],.hand 68 [],.hand 69 [],.hand 6 []]) (λx=>[.i D,x 67,x 55,x 68,x 69,x 6]) (λx=>[(_,_,true,.i D,66),(_,_,true,x 67,67)]) [[],[]] (λx=>[(6,x 6),(69,x 69)]) ⟨λ_ _ _ k h=>by obtain⟨v1,e,h⟩:=h; exact⟨v1,e,h.ext k⟩,λ_ _ _ k h=>by obtain⟨v1,e,h⟩:=h; exact⟨v1,e,h.ext k⟩,λ_ _ _ k h=>h.ext k,λ_ _ _ _ h=>h,λ_ _ _ k h=>h.ext k,G⟩ (λx=>⟨by intro u hC g F; exact(NV (J.below hC) hi ai al).mono λe w2 h=>⟨_,h.1,I,h.2⟩,by intro u hC g F; exact(FI (J.below hC) (f:=i) (t:=D) Z Z Z ai).mono λe w2 h=>by obtain⟨v1,rfl,hx,hb⟩:=h; exact⟨_,I,⟨v1,by rw[Vu (show D≠i by omega)],(hx w0.heap.size _ (K00 S.E hC).size (aDn bq hC)).mono λj hj=>hj.imp_right (aDy hC.size)⟩,hb⟩,G⟩) (λac u x Xz F S=>?_) (hk:=λr=>⟨es,es,G,G,G,G,G⟩) (hl:=[(12,[67]),(13,[55]),(14,[55]),(15,[68])]) (hH:=λx r=>⟨λo ho ρ u hs hE hρ hV F=>by obtain⟨am,-⟩:=F; obtain⟨v1,e1,h1⟩:=am; exact iT ho hs [(67,.tuple #[v1,.s (some ⟨gb,0+i*47,none⟩) (D-i) (D-i)])] (aDa ((hρ 67 O I).trans e1)) (.tuple #[v1,.s (some ⟨gb,0+i*47,none⟩) (D-i) (D-i)]) (aC4 ho I I K01 ⟨v1,I,h1⟩),λo ho ρ u hs hE hρ hV F=>by obtain⟨Rl,-⟩:=F; obtain⟨v1,e1,h1⟩:=Rl; exact iT ho hs [(55,.tuple #[v1,.s (some ⟨gb,0+i*47,none⟩) (D-i) (D-i)])] (aDa ((hρ 55 O I).trans e1)) (v1) (aC4 ho I I K01 h1),λo ho ρ u hs hE hρ hV F=>by obtain⟨Rl,-⟩:=F; obtain⟨v1,e1,h1⟩:=Rl; exact iT ho hs [(55,.tuple #[v1,.s (some ⟨gb,0+i*47,none⟩) (D-i) (D-i)])] (aDa ((hρ 55 O I).trans e1)) (.s (some ⟨gb,0+i*47,none⟩) (D-i) (D-i)) (aC4 ho I I K01 I),λo ho ρ u hs hE hρ hV F=>by obtain⟨an,-⟩:=F; exact iT ho hs [(68,x 68)] (aDa (hρ 68 O I)) (x 68) (aC4 ho I I K01 an),G⟩);obtain⟨am,Rl,an,bu,F6,-⟩:=F;clear am;clear Rl;clear an;rw[bu]at S;obtain⟨R,f7⟩:=R.bH S (aDx Xz);have ah:Sx.Ow w0.heap.size (Ob [(b2,e.cells),(b,s.cells)] []) (kR 38 47 aj.cells w0.heap.size (x 6) (s.ns.take i++s.ns.drop D)) u:=F6.mono λj hj=>hj.elim id λh=>⟨aDy fm h,λhm=>by have:=fo j hm; omega⟩;obtain⟨a7,c7,e7⟩:=(aDB ah).1.shape;rw[e7]at S ah;refine apB S 1 [] [(7,.s (some ⟨gb,0+i*47,none⟩) (D-i) (D-i))] λS=>aCC<|dm _ _<|aDs λ_ gm=>aCE λ_ dq=>apB S 3 [.M 0 0] [(72,.b ((e.kind)==2))] λS=>aCC (dq _ _ ?_);refine aCX S (λa6=>?_) (λa6=>?_)
   .refine aCE λ_ dr=>apB S 4 [] [(74,.s a7 ((s.ns.take i++s.ns.drop D).length) c7),(76,.q b 6)] λS=>aDh S 1 (off:=6) (v := .s a7 ((s.ns.take i++s.ns.drop D).length) c7) I λu ds S=>aCC<|dr _ _<|aCE λ_ dt=>apB S 1 [] [(4,.i 0)] λS=>aCC<|dt _ _<|aD6 ?_;obtain⟨R,cq⟩:=R.bH S (Sx.Stp.Jp ds (by simp[Sx.vb]));refine vN S results99 ?_;exact⟨0,⟨s.w,s.h,s.bg,a7,c7,s.ns.take i++s.ns.drop D⟩,I,S.E,S.bx 1,aDD (aEx (aDR ah cq)) (aDS (aEx (aDR ao (aDr f7 cq))) λ_ h=>Hu h i D),Hu hf i D,⟨by rw[show fU (keys s.ns) e.key = .ok (vG (keys s.ns) i D) by unfold fU gK; rw[aC9 (show ¬e.key.kind=3 from λh=>by have:=(show(e.key.kind=2)from by simpa[aN.key]using aa); omega),aC9 (show ¬(e.key.kind=1)from by simpa[aN.key]using fJ),aDb (show(e.key.kind=2)from by simpa[aN.key]using aa),show jo (keys s.ns) e.key.id=some i from ae]; rw[al]]; exact⟨I,DZ ..,by rw[aC9 (λh=>by have:=(show(e.key.kind=2)from by simpa[aN.key]using aa); simp only[aN.key]at this; omega)]⟩,I,I⟩⟩
   rw[aa]at a6; cases a6
  rw[aa]at I9; cases I9
 refine aEw<|apB S 2 [] [(50,.b ((e.kind)==3))] λS=>aCC (cc _ _ ?_);refine aCX S (λBR=>?_) (λBR=>?_)
 .refine aDs λ_ du=>aCE λ_ dx=>apB S 2 [] [(54,.b ((nU (keys s.ns) e.id)<0))] λS=>aCC (dx _ _ ?_);refine aCX S (λa8=>?_) (λa8=>?_)
  .refine aCE λ_ dy=>apB S 1 [] [(4,.i 8)] λS=>aCC<|dy _ _<|aD6 ?_;have ae:=((nY s.ns e.id).resolve_right (λ⟨i,h,_⟩=>by have:=aDw a8; omega)).2;obtain⟨R,f8⟩:=R.bH S (aDx E7);refine vN S results99 ?_;exact⟨8,s,I,S.E,S.bx 1,(es▸aDD (fV (λ_=>I) (R.own _ aDq) I I) (aEx (aDR af (aDr Y6 f8)))),hf,⟨by rw[show fU (keys s.ns) e.key = .error 8 by unfold fU; rw[aDb (show(e.key.kind=3)from by simpa[aN.key]using BR),show jo (keys s.ns) e.key.id=none from ae]],I,I⟩⟩
  refine aDM<|du _ _<|aDs (λ_ dz=>?_);obtain⟨i,ai,ae,hi⟩:=(nY s.ns e.id).resolve_left (λh=>by have:=aDA a8; omega);have aq:=Dn (l:=keys s.ns) (i:=i) (by simpa using hi);rw[aEh]at aq;obtain⟨R,f9⟩:=R.bH S (aDx E7);obtain⟨gb,rfl,aw⟩:=Kw R Z;have ag:=Y8 R I;have ao:=Y7 (aDR af (aDr Y6 f9));have R:=Rw.pop R;have J:=(aDB ag).1;have fp:=S.E.size;have fq:=R.lt;obtain⟨D,al⟩:∃z,z=kN (keys s.ns) i:=⟨_,I⟩;rw[<-al]at aq;have bq:=ag;refine rX S 16 [(67,λv w1=>∃v1,v = .tuple #[v1,.s (some ⟨gb,0+i*47,none⟩) (D-i) (D-i)]∧Sx.On (λj=>(w0.heap.size<=j∧j∉Ob [(b2,e.cells),(b,s.cells)] [])∨u.heap.size<=j) (kR 38 47 aj.cells w0.heap.size v1 (s.ns.take i++s.ns.drop D)) w1),(55,λv w1=>∃v1,v = .tuple #[v1,.s (some ⟨gb,0+i*47,none⟩) (D-i) (D-i)]∧Sx.On (λj=>(w0.heap.size<=j∧j∉Ob [(b2,e.cells),(b,s.cells)] [])∨u.heap.size<=j) (kR 38 47 aj.cells w0.heap.size v1 (s.ns.take i++s.ns.drop D)) w1),(68,λv w1=>Sx.On (λj=>(w0.heap.size<=j∧j∉Ob [(b2,e.cells),(b,s.cells)] [])∨u.heap.size<=j) (kR 38 47 aj.cells w0.heap.size v (s.ns.take i++s.ns.drop D)) w1),(69,λv w1=>v = .s (some ⟨gb,0+i*47,none⟩) (D-i) (D-i)),(6,λv w1=>Sx.On (λj=>(w0.heap.size<=j∧j∉Ob [(b2,e.cells),(b,s.cells)] [])∨u.heap.size<=j) (kR 38 47 aj.cells w0.heap.size v (s.ns.take i++s.ns.drop D)) w1)] (λr=>[.M 1 6,.re 59 s.s (.s (some ⟨gb,0,none⟩) s.ns.length cap),.M 1 6,.re 64 s.s (.s (some ⟨gb,0,none⟩) s.ns.length cap),.hand 55 [],.hand 68 [],.hand 69 [],.hand 6 []]) (λx=>[.i D,x 67,x 55,x 68,x 69,x 6]) (λx=>[(_,_,true,.i D,66),(_,_,true,x 67,67)]) [[],[]] (λx=>[(6,x 6),(69,x 69)]) ⟨λ_ _ _ k h=>by obtain⟨v1,e,h⟩:=h; exact⟨v1,e,h.ext k⟩,λ_ _ _ k h=>by obtain⟨v1,e,h⟩:=h; exact⟨v1,e,h.ext k⟩,λ_ _ _ k h=>h.ext k,λ_ _ _ _ h=>h,λ_ _ _ k h=>h.ext k,G⟩ (λx=>⟨by intro u hC g F; exact(NV (J.below hC) hi ai al).mono λe w2 h=>⟨_,h.1,I,h.2⟩,by intro u hC g F; exact(FI (J.below hC) (f:=i) (t:=D) Z Z Z ai).mono λe w2 h=>by obtain⟨v1,rfl,hx,hb⟩:=h; exact⟨_,I,⟨v1,by rw[Vu (show D≠i by omega)],(hx w0.heap.size _ (K00 S.E hC).size (aDn bq hC)).mono λj hj=>hj.imp_right (aDy hC.size)⟩,hb⟩,G⟩) (λac u x d0 F S=>?_) (hk:=λr=>⟨es,es,G,G,G,G,G⟩) (hl:=[(12,[67]),(13,[55]),(14,[55]),(15,[68])]) (hH:=λx r=>⟨λo ho ρ u hs hE hρ hV F=>by obtain⟨am,-⟩:=F; obtain⟨v1,e1,h1⟩:=am; exact iT ho hs [(67,.tuple #[v1,.s (some ⟨gb,0+i*47,none⟩) (D-i) (D-i)])] (aDa ((hρ 67 O I).trans e1)) (.tuple #[v1,.s (some ⟨gb,0+i*47,none⟩) (D-i) (D-i)]) (aC4 ho I I K01 ⟨v1,I,h1⟩),λo ho ρ u hs hE hρ hV F=>by obtain⟨Rl,-⟩:=F; obtain⟨v1,e1,h1⟩:=Rl; exact iT ho hs [(55,.tuple #[v1,.s (some ⟨gb,0+i*47,none⟩) (D-i) (D-i)])] (aDa ((hρ 55 O I).trans e1)) (v1) (aC4 ho I I K01 h1),λo ho ρ u hs hE hρ hV F=>by obtain⟨Rl,-⟩:=F; obtain⟨v1,e1,h1⟩:=Rl; exact iT ho hs [(55,.tuple #[v1,.s (some ⟨gb,0+i*47,none⟩) (D-i) (D-i)])] (aDa ((hρ 55 O I).trans e1)) (.s (some ⟨gb,0+i*47,none⟩) (D-i) (D-i)) (aC4 ho I I K01 I),λo ho ρ u hs hE hρ hV F=>by obtain⟨an,-⟩:=F; exact iT ho hs [(68,x 68)] (aDa (hρ 68 O I)) (x 68) (aC4 ho I I K01 an),G⟩);obtain⟨am,Rl,an,bu,F6,-⟩:=F;clear am;clear Rl;clear an;rw[bu]at S;obtain⟨R,ay⟩:=R.bH S (aDx d0);have ah:Sx.Ow w0.heap.size (Ob [(b2,e.cells),(b,s.cells)] []) (kR 38 47 aj.cells w0.heap.size (x 6) (s.ns.take i++s.ns.drop D)) u:=F6.mono λj hj=>hj.elim id λh=>⟨aDy fp h,λhm=>by have:=fq j hm; omega⟩;obtain⟨a7,c7,e7⟩:=(aDB ah).1.shape;rw[e7]at S ah;refine apB S 1 [] [(7,.s (some ⟨gb,0+i*47,none⟩) (D-i) (D-i))] λS=>aCC<|dz _ _<|aDs λ_ d1=>aCE λ_ d2=>apB S 3 [.M 0 0] [(72,.b ((e.kind)==2))] λS=>aCC (d2 _ _ ?_);refine aCX S (λbb=>?_) (λbb=>?_)
  .rw[aa]at bb; cases bb
  refine aDM<|d1 _ _<|aDs λ_ d3=>aCE λ_ d4=>apB S 10 [.M 0 2,.M 0 2] [(86,.b ((decide (e.index<0))||(decide ((((s.ns.take i++s.ns.drop D).length:Nat):Int)<e.index))))] λS=>aCC (d4 _ _ ?_);refine aCX S (λbc=>?_) (λbc=>?_)
  .refine aCE λ_ d5=>apB S 1 [] [(4,.i 6)] λS=>aCC<|d5 _ _<|RY S results99 ?_;exact⟨6,s,I,S.E,S.bx 1,(es▸aDD (aEx (aDR ag ay)) (aEx (aDR ao ay))),hf,⟨by rw[show fU (keys s.ns) e.key = .error 6 by unfold fU; rw[aDb (show(e.key.kind=3)from by simpa[aN.key]using BR),show jo (keys s.ns) e.key.id=some i from ae]; simp only; rw[<-al,aDb (by have:=bc; simp only[aEV,aDv]at this; rw[<-DZ,aEh]; exact this)]],I,I⟩⟩
  refine aDM<|d3 _ _<|aCE λ_ d6=>apB S 1 [] [(8,.sn)] λS=>aCC<|d6 _ _<|aDs (λ_ d7=>?_);have J:=(aDB (aDR ag ay)).1;obtain⟨gs,gt,gv,ct,ga,cu⟩:=Vp.lQ J (λ_=>I) (i) hi;simp only[aDO,aDe,aEZ,true_and,and_true]at ct;obtain⟨⟨rfl,rfl⟩,rfl⟩:=ct;obtain⟨x0,ap⟩:∃z,s.ns[i]'hi=z:=⟨_,I⟩;rw[ap,show 0+(i)*47=0+i*47+0*47 by omega]at cu;have S:=S.view ga cu aw;refine aDj S 7 [.M 0 3,.idx 0 (D-i),.M 2 2] [] [(93,.i (IntKind.i64.wrap (e.depth-x0.depth)))] trivial (hk:=⟨Z,G⟩) λac u d8 S=>apB S 1 [] [(9,.i (IntKind.i64.wrap (e.depth-x0.depth)))] λS=>aCC<|d7 _ _<|aDs λ_ d9=>aCE λ_ eb=>apB S 3 [] [(94,.s (some ⟨gb,0+i*47,none⟩) (D-i) (D-i)),(95,.i (D-i:Nat)),(96,.i 0)] λS=>aCC<|eb _ _<|aD9 ?_;obtain⟨R,bv⟩:=R.bH S (aDx d8);have R:=Um R;refine Vp.loop (ι:=Nat×aaT) (λp a' w'=>p.1<=(D-i)∧(True)∧Rw w0 w' [(b2,e.cells),(b,s.cells)] [⟨38,47,p.2,p.1,((((s.ns.drop i).take (D-i)).take p.1).map (nI (IntKind.i64.wrap (e.depth-x0.depth)))).flatMap aj.cells⟩]∧Sx.Ow w0.heap.size (Ob [(b2,e.cells),(b,s.cells)] [⟨38,47,p.2,p.1,((((s.ns.drop i).take (D-i)).take p.1).map (nI (IntKind.i64.wrap (e.depth-x0.depth)))).flatMap aj.cells⟩]) (λW=>∀n∈s.ns,n.oZ w0.heap.size W) w'∧Sx.Ow w0.heap.size (Ob [(b2,e.cells),(b,s.cells)] [⟨38,47,p.2,p.1,((((s.ns.drop i).take (D-i)).take p.1).map (nI (IntKind.i64.wrap (e.depth-x0.depth)))).flatMap aj.cells⟩]) (λW=>kR 38 47 aj.cells w0.heap.size (.s (some ⟨gb,0,none⟩) s.ns.length cap) s.ns W) w'∧Sx.Ow w0.heap.size (Ob [(b2,e.cells),(b,s.cells)] [⟨38,47,p.2,p.1,((((s.ns.drop i).take (D-i)).take p.1).map (nI (IntKind.i64.wrap (e.depth-x0.depth)))).flatMap aj.cells⟩]) (λW=>kR 38 47 aj.cells w0.heap.size (.s a7 (s.ns.take i++s.ns.drop D).length c7) (s.ns.take i++s.ns.drop D) W) w'∧Sx.St w0 a' w' 158 [(0,.q b 0),(1,e.v),(3,.q b2 0),(4,.i 0),(5,.i (nU (keys s.ns) e.id)),(6,.s a7 ((s.ns.take i++s.ns.drop D).length) c7),(7,.s (some ⟨gb,0+i*47,none⟩) (D-i) (D-i)),(8,p.2),(9,.i (IntKind.i64.wrap (e.depth-x0.depth))),(20,.i e.kind),(94,.s (some ⟨gb,0+i*47,none⟩) (D-i) (D-i)),(95,.i (D-i:Nat)),(96,.i p.1)] [(b2,e.cells),(b,s.cells)] []) (λp=>(D-i)-p.1) (0,.sn) ⟨aDl _,G,R,(Rk (aDR ao (aDr ay bv))),(Rk (aDR ag (aDr ay bv))),(Rk (aDR ah bv)),S.sn⟩ ?_;rintro⟨k,v⟩ ac u hI;try dsimp only at hI
  obtain⟨hk,hR,R,cv,cw,cx,S⟩:=hI;refine aCE λ_ ed=>apB S 1 [] [(97,.b ((k:Int)<(((D-i):Nat):Int)))] λS=>aCC<|ed _ _<|aDs (λ_ ee=>?_);refine aCX S (λa3=>?_) (λa3=>?_)
  .refine aDM<|ee _ _<|aDs λ_ ef=>aD9<|aCE (λ_ eg=>?_);have fr:k<D-i:=by have:=aDw a3; omega
   have br:i+k<s.ns.length:=Z
   have J:=(aDB cw).1;obtain⟨gw,gx,gz,a5,gc,cy⟩:=Vp.lQ J (λ_=>I) (i+k) br;simp only[aDO,aDe,aEZ,true_and,and_true]at a5;obtain⟨⟨rfl,rfl⟩,rfl⟩:=a5;obtain⟨y,hy⟩:∃z,s.ns[i+k]'br=z:=⟨_,I⟩;rw[hy,show 0+(i+k)*47=0+i*47+k*47 by omega]at cy;have S:=S.view gc cy aw;refine apB S 2 [.idx k (D-i),.M 2 0] [(99,y.v)] (hk:=⟨(by have:=aDw a3; omega),G⟩) λS=>aEl S 11 (Sx.L [.i 0,.i 0,.i 0]++Sx.za++Sx.L [.sn,.i 0,.u 0,.i 0,.z,.z,.sn,.i 0,.sn,.i 0,.i 0,.i 0,.i 0,.sn,.i 0,.sn,.i 0,.i 0,.sn,.i 0]) λac u eh ei ej S=>aC7 S 0 (off:=0) (cs:=y.cells) I λu ek S=>aCC<|eg _ _<|aCE λ_ el=>apB S 5 [.M 0 2] [(103,.i (IntKind.i64.wrap (y.depth+(IntKind.i64.wrap (e.depth-x0.depth))))),(104,.q eh 2)] λS=>aDh S 0 (off:=2) (v := .i (IntKind.i64.wrap (y.depth+(IntKind.i64.wrap (e.depth-x0.depth))))) I λu eo S=>aCC<|el _ _<|aEw<|apB S 2 [.M 0 0] [(105,v),(106,.agg (Sx.L [.i y.id,.i y.kind,.i (IntKind.i64.wrap (y.depth+(IntKind.i64.wrap (e.depth-x0.depth))))]++y.t.cells++Sx.L [y.cs,.i y.aS,.u (y.dS.toNat:Int),.i y.blend,.b y.isolated,.b y.dG,y.ps,.i y.aW,y.fs]++y.style.cells++Sx.L [y.ss]++y.img.cells++Sx.L [.i y.dD]).toArray)] λS=>Sx.news S 107 1 (Sx.L [.i y.id,.i y.kind,.i (IntKind.i64.wrap (y.depth+(IntKind.i64.wrap (e.depth-x0.depth))))]++y.t.cells++Sx.L [y.cs,.i y.aS,.u (y.dS.toNat:Int),.i y.blend,.b y.isolated,.b y.dG,y.ps,.i y.aW,y.fs]++y.style.cells++Sx.L [y.ss]++y.img.cells++Sx.L [.i y.dD]) (λac u gn ep et S=>?_);obtain⟨R,bw⟩:=R.bH S (aDr (aEi ei ej) (aDr (Sx.Stp.Jp ek (by simp[Sx.vb])) (aDr (Sx.Stp.Jp eo (by simp[Sx.vb])) (aEi ep et))));refine aDf S R 0 108 I BG (oH (m:=1) (k:=47) (A:=(nI (IntKind.i64.wrap (e.depth-x0.depth)) y).cells) (S.bx 0)) (by show k+1<=9223372036854775807; omega) (by show(k+1)*656<=140737488355328; omega) λac u bd be R S=>apB S 1 [] [(8,bd)] λS=>aCC<|ef _ _<|aEw<|apB S 2 [.re 109 (.i (IntKind.i64.wrap ((k:Int)+1))) (.i (k+1:Nat))] [(96,.i (k+1:Nat))] (hk:=⟨aCS Z,G⟩) λS=>aCC ?_;have S:=S.gB 2;obtain⟨R,bz⟩:=R.bH S (aEd 2);show ∃i',_∧_;exact⟨((k+1),bd),⟨Z,G,R.as (aDc (λxs=>[(⟨38,47,bd,k+1,xs⟩:Sx.Row)]) (agO br hy fr)),(aDR cv (aDr bw (aDr be bz))),(aDR cw (aDr bw (aDr be bz))),(aDR cx (aDr bw (aDr be bz))),S.sn⟩,by show _-_<_-_; omega⟩
  refine aEz<|d9 _ _ ?_;obtain rfl:k=D-i:=by have:=aDA a3; omega
  have ft:=aDB (jq (f:=aj.cells) (L:=((s.ns.drop i).take (D-i)).map (nI (IntKind.i64.wrap (e.depth-x0.depth)))) (λ_=>I) (R.own _ aDq) (by simp; omega) (by rw[aDG (by simp; omega)]));have fu:=(aDB cx).1;have bm:0<=e.index∧e.index<=((s.ns.take i++s.ns.drop D).length:Int):=by have:=bc; simp only[aDX,aDQ]at this; omega
  obtain⟨ax,ar⟩:=afe bm.1;refine aEw<|apB S 5 [.M 0 2] [(110,.q b 0),(111,.s a7 ((s.ns.take i++s.ns.drop D).length) c7),(113,.i e.index),(114,v)] (λS=>?_);have cm:=S.E.size;have fv:=R.lt;refine aEf S (some 115) (DC fu ft (i:=ax) Z (by simp; omega) (by simp; omega) ar) ?_;rintro r u ⟨vi,rfl,az,dd⟩;obtain⟨a9,c9,rfl⟩:=Sx.jh az;refine⟨_,I,dd,λac S=>?_⟩;have bp:=fV (f:=aj.cells) (λ_=>I) az I I;obtain⟨R,gd⟩:=R.bH S (aDx dd);have fw:=aDS (Sx.bn.ow bp cm fv) λ_ h=>h.le cm;refine apB S 2 [] [(117,.q b 6)] λS=>aDh S 1 (off:=6) (v := .s a9 (((s.ns.take i++s.ns.drop D).take ax++((s.ns.drop i).take (D-i)).map (nI (IntKind.i64.wrap (e.depth-x0.depth)))++(s.ns.take i++s.ns.drop D).drop ax).length) c9) I λu ew S=>aCC<|Qc _ _<|aCE λ_ ex=>apB S 1 [] [(4,.i 0)] λS=>aCC<|ex _ _<|aD6 ?_;obtain⟨R,cz⟩:=R.bH S (Sx.Stp.Jp ew (by simp[Sx.vb]));refine vN S results99 ?_;exact⟨0,⟨s.w,s.h,s.bg,a9,c9,(s.ns.take i++s.ns.drop D).take ax++((s.ns.drop i).take (D-i)).map (nI (IntKind.i64.wrap (e.depth-x0.depth)))++(s.ns.take i++s.ns.drop D).drop ax⟩,I,S.E,S.bx 1,aDD (aEx (aDR fw cz)) (aDS (aEx (aDR cv (aDr gd cz))) λ_ h=>Ht (Hu h i D) (ac2 h i (D-i)) ax ax),Ht (Hu hf i D) (ac3 hf i (D-i)) ax ax,⟨by rw[show fU (keys s.ns) e.key = .ok (Gv (vG (keys s.ns) i D) ax ((Es (keys s.ns) i D).map λn=>n.moved x0.depth e.depth)) by unfold fU; rw[aDb (show(e.key.kind=3)from by simpa[aN.key]using BR),show jo (keys s.ns) e.key.id=some i from ae]; simp only; rw[<-al,aC9 (by rw[<-DZ,aEh,show e.key.index=e.index from rfl]; omega),show e.key.index.toNat=ax from by rw[show e.key.index=e.index from rfl,ar]; rfl,oW hi,ap]; rfl]; exact⟨I,by rw[Vw,DZ,ac1,agL],by rw[aC9 (λh=>by have:=(show(e.key.kind=3)from by simpa[aN.key]using BR); simp only[aN.key]at this; omega)]⟩,I,I⟩⟩
 refine aCE λ_ ey=>apB S 2 [] [(118,.b ((e.kind)==4))] λS=>aCC (ey _ _ ?_);refine aCX S (λab=>?_) (λab=>?_)
 .refine aDs (λ_ ez=>?_);obtain⟨R,ca⟩:=R.bH S (aDx E7);have J:=(aDB (jq (f:=aj.cells) (L:=s.ns) (λ_=>I) (R.own _ aDq) I I));refine aDj S 8 [.M 1 6,.re 123 s.s (.s a s.ns.length cap),.M 0 4] [(_,_,true,.i (nU (keys s.ns) e.node.id))] [(127,.i (nU (keys s.ns) e.node.id))] ⟨λu hC g=>Jo (id:=e.node.id) (J.below hC),G⟩ (hk:=⟨es,G⟩) λac u cd S=>apB S 1 [] [(5,.i (nU (keys s.ns) e.node.id))] λS=>aCC<|ez _ _<|aDs λ_ e3=>aCE λ_ e4=>apB S 2 [] [(129,.b ((nU (keys s.ns) e.node.id)<0))] λS=>aCC (e4 _ _ ?_);refine aCX S (λbh=>?_) (λbh=>?_)
  .refine aCE λ_ e5=>apB S 1 [] [(4,.i 8)] λS=>aCC<|e5 _ _<|aD6 ?_;have ae:=((nY s.ns e.node.id).resolve_right (λ⟨i,h,_⟩=>by have:=aDw bh; omega)).2;obtain⟨R,ge⟩:=R.bH S (aDx cd);refine vN S results99 ?_;exact⟨8,s,I,S.E,S.bx 1,(es▸aDD (fV (λ_=>I) (R.own _ aDq) I I) (aEx (aDR af (aDr Y6 (aDr ca ge))))),hf,⟨by rw[show fU (keys s.ns) e.key = .error 8 by unfold fU gK; rw[aC9 (show ¬(e.key.kind=3)from by simpa[aN.key]using BR),aC9 (show ¬(e.key.kind=1)from by simpa[aN.key]using fJ),aC9 (show ¬(e.key.kind=2)from by simpa[aN.key]using aa),aC9 (show ¬(e.key.kind=3)from by simpa[aN.key]using BR),aDb (show(e.key.kind=4)from by simpa[aN.key]using ab),show jo (keys s.ns) e.key.node.id=none from ae]],I,I⟩⟩
  refine aDM<|e3 _ _<|aDs λ_ e6=>aDs (λ_ e8=>?_);obtain⟨i,ai,ae,hi⟩:=(nY s.ns e.node.id).resolve_left (λh=>by have:=aDA bh; omega);obtain⟨R,c0⟩:=R.bH S (aDx cd);obtain⟨gb,rfl,aw⟩:=Kw R Z;have J:=(aDB (jq (f:=aj.cells) (L:=s.ns) (λ_=>I) (R.own _ aDq) I I));obtain⟨g0,g1,g2,da,gf,db⟩:=Vp.lQ J (λ_=>I) (i) hi;simp only[aDO,aDe,aEZ,true_and,and_true]at da;obtain⟨⟨rfl,rfl⟩,rfl⟩:=da;obtain⟨x0,ap⟩:∃z,s.ns[i]'hi=z:=⟨_,I⟩;rw[ap,show 0+(i)*47=0+i*47 by omega]at db;have S:=S.view gf db aw;refine aDj S 12 [.M 0 6,.M 1 6,.re 136 s.s (.s (some ⟨gb,0,none⟩) s.ns.length cap),.re 137 (.i (nU (keys s.ns) e.node.id)) (.i i),.idx i s.ns.length,.M 2 2] [] [(141,.b ((e.node.depth) != x0.depth))] trivial (hk:=⟨es,(aDc _ ai),hi,G⟩) λac u ce S=>aCC (e8 _ _ ?_);refine aCX S (λbj=>?_) (λbj=>?_)
  .refine aCE λ_ fa=>apB S 1 [] [(4,.i 2)] λS=>aCC<|fa _ _<|aD6 ?_;obtain⟨R,gg⟩:=R.bH S (aDx ce);refine vN S results99 ?_;exact⟨2,s,I,S.E,S.bx 1,(es▸aDD (fV (λ_=>I) (R.own _ aDq) I I) (aEx (aDR af (aDr Y6 (aDr ca (aDr c0 gg)))))),hf,⟨by rw[show fU (keys s.ns) e.key = .error 2 by unfold fU gK; rw[aC9 (show ¬(e.key.kind=3)from by simpa[aN.key]using BR),aC9 (show ¬(e.key.kind=1)from by simpa[aN.key]using fJ),aC9 (show ¬(e.key.kind=2)from by simpa[aN.key]using aa),aC9 (show ¬(e.key.kind=3)from by simpa[aN.key]using BR),aDb (show(e.key.kind=4)from by simpa[aN.key]using ab),show jo (keys s.ns) e.key.node.id=some i from ae]; simp only; rw[oW hi,ap,aDb (by simpa[aN.key,aj.key]using bj)]],I,I⟩⟩
  refine aDM<|e6 _ _ ?_;obtain⟨R,gh⟩:=R.bH S (aDx ce);have cn:=S.E.size;have fy:=R.lt;refine rX S 9 [(149,λv w1=>∃m:aj,v=m.v∧m.cp u.heap.size w1∧m.strip=e.node.strip)] (λr=>[.M 1 6,.re 145 s.s (.s (some ⟨gb,0,none⟩) s.ns.length cap),.re 146 (.i (nU (keys s.ns) e.node.id)) (.i i),.M 0 4,.idx i s.ns.length]) (λx=>[x 149]) (λx=>[(_,_,true,x 149,149)]) [[]] (λx=>[(149,x 149),(150,.pointer (some ⟨gb,0+i*47,none⟩))]) ⟨λ_ _ _ k h=>by obtain⟨m,e,h,q⟩:=h; exact⟨m,e,h.ext k,q⟩,G⟩ (λx=>⟨by intro u hC g F; exact(clone_any (he.2.2.2.2.1.below (K00 S.E hC)) a4).mono λe w2 h=>by obtain⟨m,rfl,hx,hs,hb⟩:=h; exact⟨_,I,⟨m,I,y7 hx hC.size,hs⟩,hb⟩,G⟩) (λac u x fb F S=>?_) (hk:=λr=>⟨es,(aDc _ ai),hi,G⟩);obtain⟨gi,-⟩:=F;obtain⟨m,em,hm,av⟩:=gi;rw[em]at S;obtain⟨R,gj⟩:=R.bH S (aDx fb);have fz:=aDS (Sx.bn.ow hm cn fy) λ_ h=>EF h cn;refine Uf S R 0 (off:=0+i*47) (cs:=m.cells) I I (by show 0+i*47+47<=_; rw[jF (f:=aj.cells) (k:=47) (λ_=>I)]; omega) (λu cf R S=>?_);have R:=R.as (aDc (λxs=>[(⟨38,47,.s (some ⟨gb,0,none⟩) s.ns.length cap,s.ns.length,xs⟩:Sx.Row)]) (agM hi m));refine aCC<|Qc _ _<|aCE λ_ fc=>apB S 1 [] [(4,.i 0)] λS=>aCC<|fc _ _<|RY S results99 ?_;exact⟨0,⟨s.w,s.h,s.bg,s.nsa,s.nsc,s.ns.set i m⟩,I,S.E,(by rw[ac4]; exact S.bx 1),aDD (by show Sx.On _ (kR _ _ _ _ (aA.s ⟨s.w,s.h,s.bg,s.nsa,s.nsc,s.ns.set i m⟩) (s.ns.set i m)) _; rw[alf,es]; exact fV (λ_=>I) (R.own _ aDq) Y I) (aDS (aDD (aEx (aDR af (aDr Y6 (aDr ca (aDr c0 (aDr gh (aDr gj cf))))))) (aEx (aDR fz cf))) λ_ h=>aaS h.1 h.2 i),aaS hf (pz ⟨he.2.2.2.2.2,a4⟩ av) i,⟨by rw[show fU (keys s.ns) e.key = .ok ((keys s.ns).set i e.node.key) by unfold fU gK; rw[aC9 (show ¬(e.key.kind=3)from by simpa[aN.key]using BR),aC9 (show ¬(e.key.kind=1)from by simpa[aN.key]using fJ),aC9 (show ¬(e.key.kind=2)from by simpa[aN.key]using aa),aC9 (show ¬(e.key.kind=3)from by simpa[aN.key]using BR),aDb (show(e.key.kind=4)from by simpa[aN.key]using ab),show jo (keys s.ns) e.key.node.id=some i from ae]; simp only; rw[oW hi,ap,aC9 (by simpa[aN.key,aj.key]using bj)]; rfl]; exact⟨I,by simp[keys,vJ av],by rw[aC9 (λh=>by have:=(show(e.key.kind=4)from by simpa[aN.key]using ab); simp only[aN.key]at this; omega)]⟩,I,I⟩⟩
 refine aCE λ_ fd=>apB S 2 [] [(151,.b ((e.kind)==5))] λS=>aCC (fd _ _ ?_);refine aCX S (λbk=>?_) (λbk=>?_)
 .refine aEw<|apB S 5 [.M 0 51] [(155,.agg e.color.cells.toArray),(157,.q b 2)] λS=>aC7 S 1 (off:=2) (cs:=e.color.cells) I λu fe S=>aCC<|Qc _ _<|aCE λ_ ff=>apB S 1 [] [(4,.i 0)] λS=>aCC<|ff _ _<|aD6 ?_;obtain⟨R,gk⟩:=R.bH S (aDr (aDx E7) (Sx.Stp.Jp fe (by simp[Sx.vb])));refine vN S results99 ?_;exact⟨0,⟨s.w,s.h,e.color,s.nsa,s.nsc,s.ns⟩,I,S.E,S.bx 1,(es▸aDD (fV (λ_=>I) (R.own _ aDq) I I) (aEx (aDR af (aDr Y6 gk))):fB _ s.s _ _),hf,⟨by rw[show fU (keys s.ns) e.key = .ok (keys s.ns) by unfold fU gK; rw[aC9 (show ¬(e.key.kind=3)from by simpa[aN.key]using BR),aC9 (show ¬(e.key.kind=1)from by simpa[aN.key]using fJ),aC9 (show ¬(e.key.kind=2)from by simpa[aN.key]using aa),aC9 (show ¬(e.key.kind=3)from by simpa[aN.key]using BR),aC9 (show ¬(e.key.kind=4)from by simpa[aN.key]using ab)]]; exact⟨I,I,by rw[aDb (by simpa using bk)]⟩,I,I⟩⟩
 refine aDM<|Qc _ _<|aCE λ_ fg=>apB S 1 [] [(4,.i 0)] λS=>aCC<|fg _ _<|aD6 ?_;obtain⟨R,gl⟩:=R.bH S (aDx E7);refine vN S results99 ?_;exact⟨0,s,I,S.E,S.bx 1,(es▸aDD (fV (λ_=>I) (R.own _ aDq) I I) (aEx (aDR af (aDr Y6 gl)))),hf,⟨by rw[show fU (keys s.ns) e.key = .ok (keys s.ns) by unfold fU gK; rw[aC9 (show ¬(e.key.kind=3)from by simpa[aN.key]using BR),aC9 (show ¬(e.key.kind=1)from by simpa[aN.key]using fJ),aC9 (show ¬(e.key.kind=2)from by simpa[aN.key]using aa),aC9 (show ¬(e.key.kind=3)from by simpa[aN.key]using BR),aC9 (show ¬(e.key.kind=4)from by simpa[aN.key]using ab)]]; exact⟨I,I,by rw[aC9 (by simpa using bk)]⟩,I,I⟩⟩
abbrev ac6{B:Nat}{D u2 S:VO}{m:aA}(h:m.own B D)(hE:Ext D u2)(hC:Ch b u2 S)(J:b<B∨D.heap.size<=b) :
  m.own B S∧m.s.ownBlock≠some b∧Sx.On (λi=>B<=i∧i≠b∧m.s.ownBlock≠some i) (λW=>∀n∈m.ns,n.oZ B W) S:=by
 have D:=Sx.dB h.row hE;have J:m.s.ownBlock≠some b:=λe=>by have:=iW h.row e; omega
 have hn:Sx.On (λi=>B<=i∧i≠b∧m.s.ownBlock≠some i) (λW=>∀n∈m.ns,n.oZ B W) S:=λw' S hk =>
  h.nodes w' (aDy (aDy hE.size hC.size) S) λk h1 h2=>by
   have S:k≠b:=Z
   have h3:k<u2.heap.size:=aDL h1 hE.size
   exact((hk k (aDL h3 hC.size) ⟨h2.1,S,h2.2⟩).trans (hC.block k h3 λe=>S (aDo e))).trans (hE.block k h1)
 exact⟨⟨nC D λg S=>hC.block g (iW D S).2 λe=>J (S.trans e),hn.mono λi D=>⟨D.1,D.2.2⟩⟩,J,hn⟩
abbrev own_base{B D:Nat}{u:VO}{m:aA}(hB:D<=B)(h:m.own B u∧m.s.ownBlock≠some b∧Sx.On (λi=>B<=i∧i≠b∧m.s.ownBlock≠some i) (λW=>∀n∈m.ns,n.oZ B W) u) :
  m.own D u∧m.s.ownBlock≠some b∧Sx.On (λi=>D<=i∧i≠b∧m.s.ownBlock≠some i) (λW=>∀n∈m.ns,n.oZ D W) u:=
 ⟨⟨bF h.1.row hB,(h.1.nodes.mono λi D=>⟨aDy hB D.1,D.2⟩).imp λ_ k n hn=>EF (k n hn) hB⟩,h.2.1,(h.2.2.mono λi D=>⟨aDy hB D.1,D.2⟩).imp λ_ k n hn=>EF (k n hn) hB⟩
def Za(base:Nat)(K:Nat)(s:aA)(e:aN)(code:Int)(t:aA)(w:VO):Prop:=
 (t.key,code)=dL s.key e.key∧fB base t.s t.ns w∧dw K w t∧∀n∈t.ns,n.uw K
abbrev sF{base:Nat}{w:VO}(h:dL s.key e.key=(.zero,code)):Za base K s e code .zero w:=
 ⟨h.symm,aDD (fV (f:=aj.cells) (L:=[]) (λ_=>I) ⟨I,.inl ⟨I,I⟩⟩ I I) (λ_ _ _ n hn=>by cases hn),Jg w,λn hn=>(by cases hn)⟩
abbrev ajT{m:aA}(hd:I64 e.depth)(D:s.key.valid=true)(hn:e.key.named=true)(hk:keys m.ns=keys s.ns)(J:agI m e code t)(S:code≠0):dL s.key e.key=(.zero,code):=by
 rw[<-NT hd];unfold P9;rw[aC9 (by simp[D]),aC9 (by simp[hn])];have D:=J.1;rw[hk]at D;rw[show s.key.ns=keys s.ns from rfl];cases hp:fU (keys s.ns) e.key with
 | error n=>rw[hp]at D; rw[show code=n from D]
 | ok l=>rw[hp]at D; exact absurd D.1 S
abbrev agU{m:aA}(hd:I64 e.depth)(D:s.key.valid=true)(hn:e.key.named=true)(hk:keys m.ns=keys s.ns)(J:m.w=s.w∧m.h=s.h∧m.bg=s.bg)(S:agI m e 0 t)(aa:∀n,fU (keys s.ns) e.key = .error n->n≠0):dL s.key e.key=if t.key.chk.1=0 then (t.key,0)else (.zero,t.key.chk.1):=by
 rw[<-NT hd];unfold P9;rw[aC9 (by simp[D]),aC9 (by simp[hn])];have D:=S.1;rw[hk]at D;rw[show s.key.ns=keys s.ns from rfl];cases hp:fU (keys s.ns) e.key with
 | error n=>rw[hp]at D; exact absurd D.symm (aa n hp)
 | ok l =>
  rw[hp]at D;have ht:s.key.with' e.key l=t.key:=by
   unfold aY.with' aA.key;rw[S.2.1,S.2.2,D.2.2,<-D.2.1,J.1,J.2.1,J.2.2];rfl
  simp only[ht]
abbrev Ky{l:List aO}{e:bI}{n:Int}(h:fU l e = .error n):n≠0:=by
 unfold fU gK at h;(repeat' split at h)<;>first | (cases h; decide) | cases h
abbrev Vx{w:VO}(h:dw K w s)(hg:bT w)(he:gQ K w e)(ah:∀n∈s.ns,n.lim)(a8:e.node.lim) :
  abB prog 62 #[s.v,e.v] w λr w'=>∃(t:aA) (code:Int),r = .R (.tuple #[t.v,.i code])∧Za w.heap.size K s e code t w'∧Ext w w':=by
 skip;refine aCG func62 ntmps62 λS=>aCF S λu b2 J D S=>aCF S λu b5 J D S=>aCF S λu b8 D J S=>adr S 2 [] [.M 2 0] λS=>aCQ S (xQ (h.below S.E) (hg.below S.E)) λu D S=>aCD S (!s.key.valid) (λRh S=>?_) (λRh S=>?_)
 .refine aCH S 0 I λu D S=>Kr S 0 I (v := .agg (aA.cells .zero).toArray) (u := .i 18) (λS=>⟨.zero,_,I,sF (by unfold dL; rw[aDb (by simpa using Rh)]),S.E⟩)
 refine adr S 1 [] [.M 1 0] λS=>aCQ S (acZ (he.below S.E)) λu D S=>aCD S (!e.key.named) (λrE S=>?_) (λrE S=>?_)
 .refine aCH S 0 I λu D S=>Kr S 0 I (v := .agg (aA.cells .zero).toArray) (u := .i 2) (λS=>⟨.zero,_,I,sF (by unfold dL; rw[aC9 (by have:=Rh; simp at this; simp[this]),aDb (by simpa using rE)]),S.E⟩)
 have ab:=S.E;have aa:=(S.bx 0).1;have aq:=(S.bx 1).1;have ar:=(S.bx 2).1;obtain⟨wc,J⟩:∃z:VO,z=u:=⟨_,I⟩;rw[<-J]at ab aa aq ar;have D:Ext wc u:=J▸K01;have hv:s.key.valid=true:=by simpa using Rh
 have ai:e.key.named=true:=by simpa using rE
 have J:s.ns.length<=64:=by have:=(aY.kU.1 hv).2.1; rwa [show s.key.ns.length=s.ns.length from aEh ..]at this
 have az:=(D).size;refine adr S 1 [] [.M 2 0] λS=>aCR S (rY (h.below S.E) ah Z) ?_;rintro e u ⟨m,rfl,a4,af,J,a5,a6,zS⟩;refine⟨_,I,zS,λS=>?_⟩;have a9:=((K00 D zS)).size;refine aCF S (λu av PS Gu S=>?_);have a3:wc.heap.size<=av:=Z
 refine aCH S 0 I (λu GH S=>?_);have zQ:=aCI (K00 zS PS) GH (by have:=zS.size; omega);have J:=And.intro J (And.intro a5 a6);have al:=(own_base az (ac6 a4 PS GH (.inr (aFI Gu.symm))));have bb:m.ns.length=s.ns.length:=by have:=aDc List.length af; simpa using this
 refine adr S 1 [] [.M 2 0] λS=>aCO S λS=>NK S (some 19) ab ((K00 D zQ)) (λp hp=>by rcases aDp.1 hp with rfl | hp; exact aa; rcases aDp.1 hp with rfl | hp; exact aq; rcases aDp.1 hp with rfl | hp; exact ar; cases hp) (Y9 (K:=K) (w0:=wc) ((K00 D zQ)) (S.kD 0) a3 al.1 al.2.1 al.2.2 (λn hn=>⟨fits_all af (λn hn=>(h.2.2.2 n hn).2) n hn,BF af ah n hn⟩) (he.below ab) a8 Z) ?_;rintro r u ⟨code,t,rfl,a7,hX,ag,ap,D⟩;refine⟨_,t.cells,I,a7,hX,λac S=>?_⟩;refine WM S (λS=>?_);have ae:I64 t.w∧I64 t.h:=by rw[D.2.1,D.2.2,J.1,J.2.1]; exact⟨h.1,h.2.1⟩
 have am:keys m.ns=keys s.ns:=BD af;refine aCD S ((code)==0) (λDX S=>?_) (λDX S=>?_)
 .refine adr S 1 [] [.M 0 0] λS=>aCQ S (FH (K:=K) (s:=t) ⟨ae.1,ae.2,fB.ok (ag) λn hn=>(ap n hn).1⟩ (hg.below S.E)) λu WA S=>aCD S ((t.key.chk.1) != 0) (λGK S=>?_) (λGK S=>?_)
  .refine aCH S 1 I (λu aw S=>?_);have S:=S.fl;have EC:=bn.ch (aDn ag WA) aw aa;have an:code=0:=by simpa using DX
   have ao:=agU he.2.2.2.1 hv ai am J (an▸D) λn h=>Ky h;refine Kr S 1 I (v := .agg (aA.cells .zero).toArray) (u := .i t.key.chk.1) (λS=>⟨.zero,_,I,sF (by rw[ao,aC9 (by simpa using GK)]),S.E⟩)
  refine adr S 1 [] [.M 0 0] λS=>aCH S 1 I (λu ax S=>?_);have xX:=bn.ch (aDn ag WA) ax aa;have an:code=0:=by simpa using DX
  have ao:=agU he.2.2.2.1 hv ai am J (an▸D) λn h=>Ky h;refine Kr S 1 I (v := .agg (aA.cells t).toArray) (u := .i 0) (λS=>⟨t,_,I,⟨by rw[ao,aDb (by simpa using GK)],fB.le (xX) ab.size,⟨ae.1,ae.2,fB.ok (xX) λn hn=>(ap n hn).1⟩,ap⟩,S.E⟩)
 have J:((code) != 0)=true:=by have:=DX; simpa using this
 refine aCD S ((code) != 0) (λI8 S=>?_) (λI8 S=>?_)
 .refine aCH S 1 I (λu ay S=>?_);have Uc:=bn.ch ag ay aa;refine Kr S 1 I (v := .agg (aA.cells .zero).toArray) (u := .i code) (λS=>⟨.zero,_,I,sF (ajT he.2.2.2.1 hv ai am D (by simpa using J)),S.E⟩)
 rw[J]at I8; cases I8
end
section
open Go.RowKit Go.Sx
variable{K:Nat}
structure HK where
 ss:List aY
 es:List bI
 k:Nat
def HK.now(h:HK):aY:=(h.ss[h.k]?).getD .zero
noncomputable def HK.put(h:HK)(e:bI):HK×Int:=if (dL h.now e).2=0 then (⟨h.ss.take (h.k+1)++[(dL h.now e).1],h.es.take h.k++[e],h.k+1⟩,0)else (h,(dL h.now e).2)
noncomputable def HK.app(h:HK)(e:bI):HK×Int:=if h.k=256 then (h,5)else h.put e
def HK.undo(h:HK):HK×Int:=if h.k=0 then (h,20)else (⟨h.ss,h.es,h.k-1⟩,0)
def HK.redo(h:HK):HK×Int:=if h.k=h.es.length then (h,20)else (⟨h.ss,h.es,h.k+1⟩,0)
structure HK.Ok (h:HK):Prop where
 hs:Hs h.ss h.es
 k:h.k<=h.es.length
 most:h.es.length<=256
abbrev HK.Ok.at{h:HK}(o:h.Ok):h.ss[h.k]?=some h.now:=by
 have:=o.hs.len;have:=o.k;unfold HK.now;rw[List.getElem?_eq_getElem Z]; rfl
abbrev HK.Ok.put{h:HK}(o:h.Ok)(hk:h.k≠256)(e:bI):(h.put e).1.Ok:=by
 unfold HK.put;have hl:=o.k;have D:=o.most;split
 .rename_i ha;exact⟨Hs.put o.hs o.at (Prod.ext I ha),(by show h.k+1<=(h.es.take h.k++[e]).length; simp; omega),(by show(h.es.take h.k++[e]).length<=256; simp; omega)⟩
 exact o
abbrev HK.Ok.app{h:HK}(o:h.Ok)(e:bI):(h.app e).1.Ok:=by
 unfold HK.app;split
 .exact o
 rename_i hk; exact o.put hk e
abbrev HK.Ok.undo{h:HK}(o:h.Ok):h.undo.1.Ok:=by
 unfold HK.undo;have:=o.k;split
 .exact o
 exact⟨o.hs,(by show h.k-1<=h.es.length; omega),o.most⟩
abbrev HK.Ok.redo{h:HK}(o:h.Ok):h.redo.1.Ok:=by
 unfold HK.redo;have:=o.k;split
 .exact o
 exact⟨o.hs,(by show h.k+1<=h.es.length; omega),o.most⟩
structure HD where
 sa:Option aGk
 sc:Nat
 ss:List aA
 ea:Option aGk
 ec:Nat
 es:List aN
 k:Nat
def HD.tl(H:HD):List aaT:=[.s H.sa H.ss.length H.sc,.s H.ea H.es.length H.ec,.i H.k]
def HD.cells(H:HD):List aaT:=[.s H.sa H.ss.length H.sc,.s H.ea H.es.length H.ec,.i H.k,.b true]
def HD.key(H:HD):HK:=⟨H.ss.map aA.key,H.es.map aN.key,H.k⟩
def HD.row(K:Nat)(H:HD)(W:VO):Prop:=(aI 7 aA.cells W (.s H.sa H.ss.length H.sc) H.ss∧∀s∈H.ss,dw K W s)∧aI 55 aN.cells W (.s H.ea H.es.length H.ec) H.es∧∀e∈H.es,gQ K W e
structure HD.Ok (K:Nat) (H:HD):Prop where
 k:H.key.Ok
 s:∀s∈H.ss,∀n∈s.ns,n.uw K
 e:∀e∈H.es,e.node.uw K
abbrev HD.mem (K c b:Nat)(H:HD)(w:VO):Prop:=Sx.On (λi=>c<=i∧i≠b) (H.row K) w
abbrev HD.Ok.len{H:HD}(h:H.Ok K):H.ss.length=H.es.length+1:=by have:=h.k.hs.len; unfold HD.key at this; simpa using this
abbrev HD.Ok.le{H:HD}(h:H.Ok K):H.k<=H.es.length∧H.es.length<=256:=by
 have D:=h.k.k;have J:=h.k.most;unfold HD.key at D J;simp only[aEh]at D J;exact⟨D,J⟩
abbrev HD.Ok.lt{H:HD}(h:H.Ok K):H.k<H.ss.length:=by have:=h.len; have:=h.le; omega
abbrev K09{H:HD}(hk:H.k<H.ss.length):H.key.now=(H.ss[H.k]).key:=by
 unfold HK.now HD.key;simp only[List.getElem?_map,List.getElem?_eq_getElem hk]; rfl
abbrev HD.Ok.val{H:HD}(h:H.Ok K){s:aA}(D:s∈H.ss):s.key.valid=true:=h.k.hs.val _ (aDJ.2 ⟨s,D,I⟩)
abbrev Kz{s:aA}(h:s.key.valid=true):s.ns.length<=64:=by
 have:=(aY.kU.1 h).2.1;rwa [show s.key.ns.length=s.ns.length from aEh ..]at this
abbrev HD.Ok.put{H:HD}(h:H.Ok K)(hk:H.k≠256){t:aA}{d:aN}{e:bI}(D:(t.key,(0:Int))=dL (H.ss[H.k]'h.lt).key e)(hd:d.key=e)(ht:∀n∈t.ns,n.uw K)(S:d.node.uw K)(sa ea:Option aGk)(sc ec:Nat) :
  HD.Ok K ⟨sa,sc,H.ss.take (H.k+1)++[t],ea,ec,H.es.take H.k++[d],H.k+1⟩∧(HD.key ⟨sa,sc,H.ss.take (H.k+1)++[t],ea,ec,H.es.take H.k++[d],H.k+1⟩,(0:Int))=H.key.put e:=by
 rw[<-K09 h.lt]at D;have e1:(HD.key ⟨sa,sc,H.ss.take (H.k+1)++[t],ea,ec,H.es.take H.k++[d],H.k+1⟩,(0:Int))=H.key.put e:=by
  unfold HK.put;rw[<-D];simp[HD.key,hd]
 refine⟨⟨?_,λs D=>?_,λx J=>?_⟩,e1⟩
 .have:=h.k.put hk e;rw[<-e1]at this;exact this
 .rcases aDT.1 D with D | D
  .exact h.s s (aEJ D)
  rw[aDK.1 D]; exact ht
 rcases aDT.1 J with J | J
 .exact h.e x (aEJ J)
 rw[aDK.1 J]; exact S
abbrev K18{h:HK}{t:aY}{n:Int}{e:bI}(D:(t,n)=dL h.now e)(hn:n≠0):(h,n)=h.put e:=by
 unfold HK.put;rw[<-D,aC9 hn]
abbrev K12{H:HD}{B:Nat->Prop}{b:Nat}{w:VO}{t:aA}{d:aN}{sa ea:Option aGk}{sc ec:Nat}(hm:Sx.On (λi=>B i∧i≠b) (H.row K) w)
  (hr:Sx.On (λi=>B i∧i≠b) (λW=>aI 7 aA.cells W (.s sa (H.ss.take (H.k+1)++[t]).length sc) (H.ss.take (H.k+1)++[t])) w) (ht:Sx.On (λi=>B i∧i≠b) (λW=>dw K W t) w)
  (D:Sx.On (λi=>B i∧i≠b) (λW=>aI 55 aN.cells W (.s ea (H.es.take H.k++[d]).length ec) (H.es.take H.k++[d])) w) (hd:Sx.On (λi=>B i∧i≠b) (λW=>gQ K W d) w) :
  Sx.On (λi=>B i∧i≠b) (HD.row K ⟨sa,sc,H.ss.take (H.k+1)++[t],ea,ec,H.es.take H.k++[d],H.k+1⟩) w:=by
 refine aDS (aDD hm (aDD hr (aDD ht (aDD D hd)))) λW ⟨⟨⟨_,S⟩,_,o2⟩,J,q2,q3,q4⟩=>⟨⟨J,λs D=>?_⟩,q3,λx J=>?_⟩
 .rcases aDT.1 D with D | D
  .exact S s (aEJ D)
  rw[aDK.1 D]; exact q2
 rcases aDT.1 J with J | J
 .exact o2 x (aEJ J)
 rw[aDK.1 J]; exact q4
abbrev K11{H:HD}{c b:Nat}{w w':VO}(hm:H.mem K c b w)(D:Ch b w w'):H.mem K c b w':=λS hs hk=>hm S (aDy D.size hs) λi J hB=>(hk i (aDL J D.size) hB).trans (D.block i J (λe=>by simp only[aDe]at e; exact hB.2 e))
abbrev OO{l m:List ak}(h:l.map ak.key=m.map ak.key)(hf:∀p∈l,p.t.fit K)(D:K<=10000)(S:∀p∈m,p.lim):∀p∈l,p.lim:=λp J=>by
 have D:p.key∈m.map ak.key:=h▸aDJ.2 ⟨p,J,I⟩;obtain⟨q,D,e⟩:=aDJ.1 D;have hl:=S q D;have D:=aDc (λx:jy=>x.stops.length) e;have S:=aDc (λx:jy=>x.img.l.length) e;exact⟨(show q.stops.length=p.stops.length from D)▸hl.1,(show q.img.l.length=p.img.l.length from S)▸hl.2.1,(hf p J).up Z⟩
abbrev aaU{n m:aj}(h:n.key=m.key)(hf:n.Ui K)(S:m.lim):n.lim:=by
 have D:n.clip.length=m.clip.length:=aDc (λx:aO=>x.clip.length) h;have D:n.path.length=m.path.length:=aDc (λx:aO=>x.path.length) h;have D:n.fill.map ak.key=m.fill.map ak.key:=aDc aO.fill h;have J:n.stroke.map ak.key=m.stroke.map ak.key:=aDc aO.stroke h;have e5:n.style.dash.length=m.style.dash.length:=aDc (λx:aO=>x.style.dash.length) h;have e6:n.img.l.length=m.img.l.length:=aDc (λx:aO=>x.img.l.length) h;have e7:n.fill.length=m.fill.length:=by simpa using aDc List.length D
 have e8:n.stroke.length=m.stroke.length:=by simpa using aDc List.length J
 obtain⟨k1,k2,k3,k4,k5,k6,k7,k8,k9⟩:=S;obtain⟨f1,f2,f3,f4,S⟩:=hf;exact⟨f1.up Z,Z,Z,Z,OO D f2 S k5,Z,Z,OO J f3 S k8,Z⟩
abbrev agW{l m:List aj}(h:l.map aj.key=m.map aj.key)(J:∀n∈l,n.Ui K)(S:∀n∈m,n.lim):∀n∈l,n.lim:=λn hn=>by
 have D:n.key∈m.map aj.key:=h▸aDJ.2 ⟨n,hn,I⟩;obtain⟨q,D,e⟩:=aDJ.1 D;exact aaU e.symm (J n hn) (S q D)
end
section
open Go.RowKit Go.Sx
variable{α:Type}{K base:Nat}{w w':VO}{e0:aix}
def Sp(e0:aix)(w w':VO):Prop:=w.heap.size<=w'.heap.size∧∀(g:Nat) (D:Array aaT) (e:aix),e≠e0->w.heap[g]?=some (.cells D e (0,0))->w'.heap[g]?=w.heap[g]?
variable{v:aaT}{e:aix}{k:Nat}{f:α->List aaT}
abbrev D5{n:Nat}(he:e≠e0)(h:Sx.Ty e k base v n w)(hs:Sp e0 w w'):Sx.Ty e k base v n w':=by
 rcases h with h | ⟨g,cap,D,S,h2,J,h4⟩
 .exact .inl h
 exact .inr ⟨g,cap,D,S,h2,(hs.2 g D e he J).trans J,h4⟩
abbrev BU{L:List α}(he:e≠e0)(h:aI k f w v L)(ht:Sx.Ty e k base v L.length w)(hs:Sp e0 w w'):aI k f w' v L:=by
 obtain⟨a,cap,rfl,D,S⟩:=h;refine⟨a,cap,I,D,?_⟩;rcases S with S | ⟨b,o,rfl,J,hl,D⟩
 .exact .inl S
 rcases ht with S | ⟨g,cap',aa,h1,h2,h3,h4⟩
 .have hL:=aEA S;subst hL;exact .inr ⟨b,o,I,aDL J hs.1,hl,λi S=>absurd S (Nat.not_lt_zero _)⟩
 simp only[aDO,aDe,aEZ,and_true,true_and]at h1;obtain⟨⟨rfl,rfl⟩,rfl⟩:=h1;exact .inr ⟨b,0,I,aDL J hs.1,hl,λi S j hj=>(World.cell?_of_block (a:=⟨b,0+i*k+j,none⟩) (hs.2 b aa e he h3)).trans (D i S j hj)⟩
abbrev aaV{L:List α}(D:e≠e0)(h:kR e k f base v L w)(J:Sp e0 w w'):kR e k f base v L w':=⟨BU D h.1 h.2 J,D5 D h.2 J⟩
abbrev KA{f:α->aaT}{L:List α}(D:e≠e0)(h:dH f w v L)(J:Sx.Ty e 1 base v L.length w)(S:Sp e0 w w'):dH f w' v L:=eX (BU D (fM h) J S)
def Odd(e0:aix):Prop:=119≠e0∧202≠e0∧178≠e0∧133≠e0∧163≠e0∧3≠e0∧38≠e0
instance:Decidable (Odd e0):=by unfold Odd; infer_instance
abbrev ET{r:bM}(D:Odd e0)(h:r.oZ base w)(J:Sp e0 w w'):r.oZ base w':=⟨⟨KA D.1 h.1.1 h.2.1 J,KA D.1 h.1.2 h.2.2 J⟩,D5 D.1 h.2.1 J,D5 D.1 h.2.2 J⟩
abbrev agX{t:bG}(D:Odd e0)(h:t.oZ base w)(J:Sp e0 w w'):t.oZ base w':=⟨ET D h.1 J,ET D h.2.1 J,ET D h.2.2.1 J,ET D h.2.2.2.1 J,ET D h.2.2.2.2.1 J,ET D h.2.2.2.2.2 J⟩
abbrev agY{p:ak}(J:Odd e0)(h:p.oZ base w)(S:Sp e0 w w'):p.oZ base w':=by
 obtain⟨ho,t1,t2,ht⟩:=h;have D:=agX J ht S;refine⟨?_,D5 J.2.1 t1 S,D5 J.2.2.1 t2 S,D⟩;unfold ak.ok at *;simp only[dI.ok]at *;obtain⟨a1,a2,a3,a4,a5,a6,a7,a8,a9,aa⟩:=ho;exact⟨a1,a2,a3,a4,BU J.2.1 a5 t1 S,a6,a7,⟨a8.1,a8.2.1,BU J.2.2.1 a8.2.2 t2 S⟩,a9,D.ok⟩
abbrev OQ{l:List ak}(D:Odd e0)(h:kW base w v l)(J:Sp e0 w w'):kW base w' v l:=⟨aaV D.2.2.2.1 h.1 J,λp S=>agY D (h.2 p S) J⟩
abbrev ajU{n:aj}(D:Odd e0)(h:n.oZ base w)(J:Sp e0 w w'):n.oZ base w':=by
 obtain⟨ho,t,c,p,f,s,d,m⟩:=h;have S:=agX D t J;have f':=OQ D f J;have s':=OQ D s J;refine⟨?_,S,D5 D.2.2.2.2.1 c J,D5 D.2.2.2.2.1 p J,f',s',D5 D.2.2.2.2.2.1 d J,D5 D.2.2.1 m J⟩;unfold aj.ok at *;simp only[dI.ok,aZ.ok]at *;obtain⟨h1,h2,h3,h4,h5,h6,h7,h8,h9,aa,⟨s1,s2,s3,s4,s5,s6,s7⟩,ab,⟨i1,i2,i3⟩,L8⟩:=ho;exact⟨h1,h2,h3,S.ok,⟨BU D.2.2.2.2.1 h5.1 c J,h5.2⟩,h6,h7,⟨BU D.2.2.2.2.1 h8.1 p J,h8.2⟩,h9,f'.ok,⟨s1,s2,s3,s4,KA D.2.2.2.2.2.1 s5 d J,s6,s7⟩,s'.ok,⟨i1,i2,BU D.2.2.1 i3 m J⟩,L8⟩
abbrev ac7{l:List aj}(D:Odd e0)(h:EG base v l w)(J:Sp e0 w w'):EG base v l w':=⟨aaV D.2.2.2.2.2.2 h.1 J,λn hn=>ajU D (h.2 n hn) J⟩
open Go.Sx Go.Rel in
abbrev _root_.Go.Sx.OT{P:Program}{w:VO}{os:List Oper}{i:Nat}{o:Oper}{ρ:Operand->aaT}(J:os[i]?=some o)(hs:Std ρ)(l:List (Nat×aaT))(hl:∀q v,l.lookup q=some v->ρ (.tmp q)=v)(A:List aaT)(ty:aix){Post:aaT->VO->Prop}(hT:∀b w',w.heap.size<=b->w'.heap[b]?=some (.cells A.toArray ty (0,0))->Bx w' b A.toArray->Ext w w'->Post (.pointer (some ⟨b,0,Option.none⟩)) w')
  (D:∀r,((os[i]?).bind λo=>xE P r [o] l).map (λq=>(q.1,q.2.1,q.2.2.1,q.2.2.2.isSome))=some (A,ty,shV Option.none r,true):=by intro r; kernel_rfl):Does P o ρ w Post:=by
 have D:=D w.heap.size;rw[J,aFi]at D;unfold xE at D;simp only at D;split at D
 .rename_i A' ty' k' hg hav hev;split at D
  .rename_i v hv;simp only[aD3,aDe,aDm]at D;obtain⟨rfl,rfl,rfl,hd⟩:=D;simp only[aDX]at hav;have hH:Holds ρ (lift l):=λq x S=>by
    rw[kG]at S;cases J:l.lookup q with
    | none=>simp[J]at S
    | some u =>
     simp only[J,aD3,aDe]at S;subst S;rw[hl q u J]; rfl
   have hc:execOp ρ o=execOp (zJ (lift l) []) o:=by
    refine execOp_congr o (λcs b S=>by rw[S]at hav; cases hav.1) λx D=>?_;have J:=hav.2;simp only[aEC,aFs]at J;obtain⟨z,S⟩:=aEq.1 (J x D);rw[gY hs (gX hH o x D) (p:=[]) I S];simp[zJ,S]
   have S:ev0 P k'=some (.value (shV Option.none w.heap.size)):=by
    unfold je at hv;split at hv
    .rename_i h; obtain J:=aDo hv; rw[h]; simp only[Gp.val.injEq]at J; rw[J]
    .cases hv
    cases hv
   have J:(execOp ρ o).run P w = .ok (.value (shV Option.none w.heap.size)) (w.alloc (.cells A'.toArray ty')):=by rw[hc,nM hev,oC S]
   unfold Does;rw[J];exact hT _ _ (aDd _) (by unfold World.alloc; exact Array.getElem?_push_size) (Iu _ _ _) (aH _ _)
  simp at D
 simp at D
end
section
open Go.RowKit Go.Sx
variable{α:Type}{K:Nat}
abbrev _root_.Go.Sx.On.ch{B:Nat->Prop}{F:VO->Prop}{w w':VO}{x:Nat}(h:Sx.On B F w)(D:Ch x w w')(hx:¬B x):Sx.On B F w':=λS hs hk =>
 h S (aDy D.size hs) λi J hB=>(hk i (aDL J D.size) hB).trans (D.block i J (λe=>by simp only[aDe]at e; exact hx (e▸hB)))
variable{c b k:Nat}{a:Option aGk}{A:Array aaT}{e:aN}{f:α->List aaT}
abbrev ata{w:VO}(h:Bx w b A):Sx.On (λi=>i=b) (λW=>Bx W b A) w:=λw' D hk =>
 have e:=hk b h.1 I
 ⟨aDL h.1 D,λi=>by rw[World.cell?_of_block (a:=⟨b,i,none⟩) e]; exact h.2.1 i,λi=>by rw[World.frozen?_of_block (a:=⟨b,i,none⟩) e]; exact h.2.2 i⟩
abbrev atb:gI prog 44 65 (.agg aA.zero.cells.toArray) 7 48:=⟨underlying44,info_parts X,I,by decide⟩
abbrev atc:gI prog 45 42 (.agg (aN.cells ⟨0,0,0,0,bQ,.none⟩).toArray) 55 696:=⟨underlying45,info_parts X,I,by decide⟩
abbrev alj{base:Nat}{e0:aix}{fz:Nat×Nat}{v:aaT}{l:List aj}{w:VO}(he:Odd e0)(h:fB base v l w)(hb:w.heap[b]?=some (.cells A e0 fz)):Sx.On (λk=>base<=k∧k≠b) (EG base v l) w:=λJ D hk=>by
 have D:b<w.heap.size:=(Array.getElem?_eq_some_iff.1 hb).1;obtain⟨S,D⟩:∃z:VO,z={J with heap:=J.heap.setIfInBounds b (.cells A e0 fz)}:=⟨_,I⟩;have hg:∀g,S.heap[g]?=if g=b then some (.cells A e0 fz)else J.heap[g]?:=λg=>by
  rw[D,Array.getElem?_setIfInBounds];by_cases e:b=g
  .rw[aDb e,aDb e.symm,aDb Z]
  rw[aC9 e,aC9 (λk=>e k.symm)]
 have aa:S.heap.size=J.heap.size:=by rw[D]; simp
 have h3:EG base v l S:=h S Z λk D hB=>by
  rw[hg];split
  .rename_i e; subst e; exact hb.symm
  rename_i e; exact hk k D ⟨hB,e⟩
 refine ac7 he h3 ⟨Z,λg S e J D=>?_⟩;rw[hg]at D |-;split at D
 .cases D; exact absurd I J
 rename_i e; rw[aC9 e]
abbrev aok{base:Nat}{w:VO}{q:aj}(h:fB base (.s a 1 c) [q] w):∃g,a=some ⟨g,0,none⟩∧base<=g∧g<w.heap.size∧w.rangeAt g 0 q.cells:=by
 have J:=(aDB h).1;obtain⟨b,o,c,S,hb,hr⟩:=Vp.lQ J.1 (λ_=>I) 0 (by show 0<1; decide);rcases J.2 with h0 | ⟨g,cap,aa,D,h2,-⟩
 .exact absurd h0 (by show ¬1=0; decide)
 simp only[aDO]at S D;have e:=D.1.symm.trans S.1;simp only[aDe,aEZ]at e;obtain⟨rfl,rfl,-⟩:=e;exact⟨g,D.1,h2,hb,hr⟩
abbrev yB{w:VO}(h:eH K w e.node)(hl:e.node.lim) :
  abB prog 36 #[e.v] w λr w'=>∃m:aj,r = .R (aN.v {e with node:=m})∧m.cp w.heap.size w'∧m.strip=e.node.strip∧Ext w w':=by
 skip;refine aCG func36 ntmps36 λS=>aCF S λu b2 J D S=>aCF S λu b5 J D S=>adr S 2 [] [.M 1 4] λS=>aCF S (λu b9 J D S=>?_);have q0:=(S.bx 0).1;have D:=(S.bx 1).1;have D:=(S.bx 2).1;have aa:=S.E.size;have D:=λp J=>(S.own p J).1.1;have ab:dw K u (⟨0,0,.none,some ⟨b9,0,none⟩,1,[e.node]⟩:aA):=⟨(show I64 0 by decide),(show I64 0 by decide),DL (f:=aj.cells) [e.node] (λ_=>I) (by simpa using S.kD 0) (by show 1<=maxLen; decide),λn hn=>by rw[aDK.1 hn]; exact h.below S.E⟩;refine aCR S (rY ab (λn hn=>by rw[aDK.1 hn]; exact hl) (by show 1<=100000; decide)) ?_;rintro e u ⟨m,rfl,ho,ah,-,-,-,qC⟩;obtain⟨mw,mh,mb,ma,mc,ml⟩:=m;obtain⟨n,rfl,ae⟩:=List.map_eq_singleton_iff.1 ah;have ac:=aDS ho.cp λ_ h=>h.2 n aDq;obtain⟨g,rfl,ai,af,ag⟩:=aok ho.cp;refine⟨_,I,qC,λS=>?_⟩;have S:=S.view af ag (λp J=>by have:=D p J; omega);refine adr S 4 [] [.M 3 0] λS=>aCH S 2 I (λu D S=>?_);have J:=(Sx.On.ch ac D Z);refine adr S 1 [] [.M 2 0] λS=>aCH S 1 I (λu D S=>?_);have wM:=(Sx.On.ch J D Z);refine aCU S 1 I (v:=aN.v {e with node:=n}) (λS=>?_);exact⟨_,I,y7 wM aa,ae,S.E⟩
abbrev HD.aol{w:VO}{s m:aA}(h:dw K w s)(hl:∀n∈s.ns,n.lim)(hv:s.key.valid=true)(D:m.ns.map aj.strip=s.ns.map aj.strip)(J:m.w=s.w)(e2:m.h=s.h)(e3:m.bg=s.bg){a:Option aGk}:HD.Ok K ⟨a,1,[m],none,0,[],0⟩∧HD.key ⟨a,1,[m],none,0,[],0⟩=⟨[s.key],[],0⟩:=by
 have S:m.key=s.key:=by unfold aA.key; rw[J,e2,e3]; exact aDc _ (BD D)
 have J:HD.key ⟨a,1,[m],none,0,[],0⟩=⟨[s.key],[],0⟩:=by unfold HD.key; rw[<-S]; rfl
 refine⟨⟨?_,λt S n hn=>?_,λe he=>(by cases he)⟩,J⟩
 .rw[J]; exact⟨Hs.new hv,aDd _,aDl _⟩
 rw[aDK.1 S]at hn;exact⟨fits_all D (λn hn=>(h.2.2.2 n hn).2) n hn,BF D hl n hn⟩
abbrev HD.ajV{w u:VO}{s m:aA}(h:dw K w s)(hl:∀n∈s.ns,n.lim)(J:m.ns.map aj.strip=s.ns.map aj.strip)(e1:m.w=s.w)(e2:m.h=s.h)(D:m.bg=s.bg){c base b g:Nat}(hm:Sx.On (λi=>base<=i∧i≠b) (EG base m.s m.ns) u)(hx:Bx u g m.cells.toArray)(hc:c<=base)(hg:c<=g)(S:g≠b):HD.mem K c b ⟨some ⟨g,0,none⟩,1,[m],none,0,[],0⟩ u:=by
 refine aDS (aDD (hm.mono λi D=>⟨aDy hc D.1,D.2⟩) ((ata hx).mono λi D=>by subst D; exact⟨hg,S⟩)) λW ⟨D,q2⟩=>⟨⟨DL (f:=aA.cells) [m] (λ_=>I) (by simpa using q2) (by show 1<=maxLen; decide),λt S=>?_⟩,dJ _ _ _,λe he=>(by cases he)⟩;rw[aDK.1 S];exact⟨e1▸h.1,e2▸h.2.1,D.1.1,λn hn=>⟨(D.2 n hn).1,fits_all J (λn hn=>(h.2.2.2 n hn).2) n hn⟩⟩
abbrev Vz{w:VO}{s:aA}(h:dw K w s)(hg:bT w)(D:∀n∈s.ns,n.lim) :
  abB prog 25 #[s.v] w λe w'=>(s.key.valid=false∧e = .R (.tuple #[.pointer none,.i 18])∧Ext w w')∨(s.key.valid=true∧∃(b:Nat) (H:HD),e = .R (.tuple #[.q b 0,.i 0])∧w.heap.size<=b∧Bx w' b H.cells.toArray∧H.mem K w.heap.size b w'∧(H.Ok K∧H.key=⟨[s.key],[],0⟩)∧Ext w w'):=by
 skip;refine aCG func25 ntmps25 λS=>aCF S λu b2 E3 J S=>adr S 3 [] [.M 0 0] λS=>aCQ S (xQ (h.below S.E) (bT.below hg S.E)) λu J S=>aCD S (!s.key.valid) (λJ S=>?_) (λJ S=>?_)
 .refine MG S ((.pointer none)) (.i 18) (λS=>?_);exact .inl ⟨by simpa using J,I,S.E⟩
 have ah:=S.E.size;have hv:s.key.valid=true:=by simpa using J
 refine adr S 1 [] [.M 0 0] λS=>aCR S (rY (h.below S.E) D (by have:=Kz hv; omega)) ?_;rintro e u ⟨m,rfl,ho,aa,ab,ac,ae,J⟩;refine⟨_,I,J,λS=>?_⟩;have zq:=(J).size;refine aCF S λu af Gn ag S=>aCF S (λu J Cm wP S=>?_);have e9:=ag;have ai:=wP;have z0:=(Gn).size;have z9:=(Cm).size;refine MG S (.q J 0) (.i 0) (λS=>?_);exact .inr ⟨hv,J,⟨some ⟨af,0,none⟩,1,[m],none,0,[],0⟩,I,Z,S.kD 0,HD.ajV h D aa ab ac ae (Sx.On.fresh ho.cp (K00 Gn Cm) Z) (S.kD 1) ah Z (λe=>by have h:=S.apart; rw[aD1,aFm]at h; exact h.1 (by simp[e])),HD.aol h D hv aa ab ac ae,S.E⟩
def ApC(P:bI->Prop):Prop:=∀{K:Nat} {w:VO} {s:aA} {e:aN},dw K w s->bT w->gQ K w e->(∀n∈s.ns,n.lim)->e.node.lim->P e.key ->
 abB prog 62 #[s.v,e.v] w λr w'=>∃(t:aA) (code:Int),r = .R (.tuple #[t.v,.i code])∧Za w.heap.size K s e code t w'∧Ext w w'
abbrev Hy{B m:Nat}{e:aix}{L:List α}{xs:List aaT}{w:VO}(D:∀x,(f x).length=k)(J:w.ownsRow B e k (.s a m c) m xs)(S:m=L.length)(hx:xs=L.flatMap f):Sx.bn B (λW=>aI k f W (.s a L.length c) L) w:=by
 subst S; exact jq D J I hx
abbrev Rq{i:Nat}{w:VO}{L:List α}(h:aI k f w (.s a L.length c) L)(D:i<=L.length)(J:∀x,(f x).length=k)(S:∀x,(f x).all (·.oneCell')=true):dR w k (.s (pY a 0 i k) i i) i ((L.take i).flatMap f):=by
 have:=kS (Ej h D (aDy D (iG h))) J S;rwa [aD4,aEW D]at this
abbrev agZ{P:bI->Prop}(hA:ApC P){w0 w:VO}{H:HD}(hP:P e.key)(hE:Ext w0 w)(hx:Bx w b H.cells.toArray)(hb:w0.heap.size<=b)(D:c<=b)(aa:H.Ok K)(hm:H.mem K c b w)(hk:H.k≠256)(hg:bT w)(he:gQ K w e)(ai:e.node.lim) :
  abB prog 34 #[.q b 0,e.v] w λr w'=>∃(D:HD) (code:Int),r = .R (.i code)∧(D.key,code)=H.key.put e.key∧D.Ok K∧D.mem K c b w'∧Ext w0 w'∧Ch b w w'∧Bx w' b D.cells.toArray:=by
 obtain⟨sn,ah⟩:∃z,H.ss[H.k]'aa.lt=z:=⟨_,I⟩;have D:sn∈H.ss:=ah▸aDI _;have av:=aa.le;have J:=aa.len;have J:=iG (aDB hm).2.1;have J:=iG (aDB hm).1.1;refine aC5 func34 ntmps34 hE hx hb λS=>aCF S (λu b2 E3 J S=>?_);have af:=λp hp=>(S.own p hp).1.1;have jw:=S.E.size;have J:=(S.bx 1).1;have Zb:Ext w u:=E3;have J:=Zb.size;refine WL S Tryz.f34 1 λS iz=>Sx.delay 6 4 8 ?_;refine qm S 8 [(11,λv w1=>∃t2:aA,v = .tuple #[t2.v,.i (dL sn.key e.key).2]∧t2.key=(dL sn.key e.key).1∧I64 t2.w∧I64 t2.h∧fB u.heap.size t2.s t2.ns w1∧∀n∈t2.ns,n.uw K),(7,λv w1=>∃t2:aA,v = .tuple #[t2.v,.i (dL sn.key e.key).2]∧t2.key=(dL sn.key e.key).1∧I64 t2.w∧I64 t2.h∧fB u.heap.size t2.s t2.ns w1∧∀n∈t2.ns,n.uw K),(12,λv w1=>∃t2:aA,v=t2.v∧t2.key=(dL sn.key e.key).1∧I64 t2.w∧I64 t2.h∧fB u.heap.size t2.s t2.ns w1∧∀n∈t2.ns,n.uw K),(13,λv w1=>v = .i (dL sn.key e.key).2),(5,λv w1=>∃b,v = .q b 0∧u.heap.size<=b∧w1.heap[b]?=some (.cells (List.toArray [.i 0,.i 0,.u 0,.u 0,.u 0,.u 0,.sn]) 65 (0,0))∧Bx w1 b (List.toArray [.i 0,.i 0,.u 0,.u 0,.u 0,.u 0,.sn]))] (λr=>[.M 0 0,.hand 7 [],.hand 12 [],.hand 13 [],.hand 5 []]) (λx=>[sn.v,x 11,x 7,x 12,x 13,x 5]) (λx=>[(_,_,true,sn.v,9),(_,_,true,x 11,11)]) [[],[]] (λx=>[(5,x 5),(12,x 12),(13,x 13)]) ⟨λ_ _ _ k h=>by obtain⟨t2,e,h1,J,h3,h4,h5⟩:=h; exact⟨t2,e,h1,J,h3,aDn h4 k,h5⟩,λ_ _ _ k h=>by obtain⟨t2,e,h1,J,h3,h4,h5⟩:=h; exact⟨t2,e,h1,J,h3,aDn h4 k,h5⟩,λ_ _ _ k h=>by obtain⟨t2,e,h1,J,h3,h4,h5⟩:=h; exact⟨t2,e,h1,J,h3,aDn h4 k,h5⟩,λ_ _ _ _ h=>h,λ_ w1 w2 k h=>by obtain⟨b,e,h1,J,h3⟩:=h; exact⟨b,e,h1,(k.block b (BX J).1).trans J,h3.ext k⟩,G⟩ (λx=>⟨by intro u hC g F; exact(Kt (ev := .s H.ea H.es.length H.ec) (r:=[.b true]) ((S.kD 1).ext hC) (aDB ((aDn hm (K00 E3 hC)))).1.1 aa.lt ah).mono λe w2 h=>⟨_,h.1,I,h.2⟩,by intro u hC g F; exact(hA (K:=K) (s:=sn) (e:=e) ((aDB ((aDn hm (K00 E3 hC)))).1.2 sn D) (bT.below hg (K00 Zb hC)) (he.below (K00 Zb hC)) (λn hn=>(aa.s sn D n hn).2) ai hP).mono λe w2 h=>by obtain⟨t2,bj,rfl,D,hb⟩:=h; exact⟨_,I,⟨t2,by rw[<-D.1],by rw[<-D.1],D.2.2.1.1,D.2.2.1.2.1,fB.le D.2.1 hC.size,D.2.2.2⟩,hb⟩,G⟩) (λac u x E6 F S=>?_) (hk:=λr=>⟨G,G,G,G,G⟩) (hl:=[(4,[11]),(5,[7]),(6,[7]),(7,[])]) (hH:=λx r=>⟨λo ho ρ u hs hE D hV F=>by obtain⟨al,-⟩:=F; exact iT ho hs [(11,x 11)] (aDa (D 11 O I)) (x 11) (aC4 ho I I K01 al),λo ho ρ u hs hE D hV F=>by obtain⟨F7,-⟩:=F; obtain⟨t2,e,J⟩:=F7; exact iT ho hs [(7,.tuple #[t2.v,.i _])] (aDa ((D 7 O I).trans e)) (t2.v) (aC4 ho I I K01 ⟨t2,I,J⟩),λo ho ρ u hs hE D hV F=>by obtain⟨F7,-⟩:=F; obtain⟨t2,e,J⟩:=F7; exact iT ho hs [(7,.tuple #[t2.v,.i _])] (aDa ((D 7 O I).trans e)) (.i _) (aC4 ho I I K01 I),λo ho ρ u hs hE D hV F=>by exact Sx.OT ho hs [] (λ_ _ h=>by cases h) [.i 0,.i 0,.u 0,.u 0,.u 0,.u 0,.sn] 65 (λb w' h1 J h3 h4=>aC4 ho I I h4 ⟨b,I,aDy hE.size h1,J,h3⟩),G⟩);refine zdb S (λS=>?_);obtain⟨al,F7,G7,OI,F5,-⟩:=F;clear al;clear F7;obtain⟨t,aq,a6,a7,a8,a9,ar⟩:=G7;rw[aq]at S;try rw[aq]
 rw[OI]at S;try rw[OI]
 obtain⟨v5,F5,bk,bb,bc⟩:=F5;rw[F5]at S;try rw[F5]
 have S:=S.lq;have S:=S.adopt (A:=[.i 0,.i 0,.u 0,.u 0,.u 0,.u 0,.sn]) bc Z (λp hp=>by have:=af p hp; omega) (λm hm=>by cases hm);have aw:=alj (e0:=65) O a9 bb;refine aCH S 0 I (λu C7 S=>?_);have E8:=aCI (K00 E3 E6) C7 (by have:=E3.size; omega);have E9:=aCI (K00 E3 E6) C7 (by have:=E3.size; omega);have Yz:=(Sx.On.ch aw C7 Z);refine aCD S (((dL sn.key e.key).2) != 0) (λae S=>?_) (λae S=>?_)
 .refine aCB S (.i ((dL sn.key e.key).2)) (λS=>?_);exact⟨H,_,I,K18 (t:=(dL sn.key e.key).1) (by rw[K09 aa.lt,ah]) (by simpa using ae),aa,((aDn hm E8)),S.E,((Ch.trans (Ch.refl b w) (Ch.aT E9))),S.kD 2⟩
 have ax:Ext w u:=E8;have bg:=(S.bx 2).1;have ay:(dL sn.key e.key).2=0:=by simpa using ae
 have bh:=(((Ch.trans (Ch.refl b w) (Ch.aT E9)))).size;refine WL S Tryz.f34 4 (λS iz=>?_);refine rX S 20 [(32,λv w1=>∃m:aj,v=aN.v {e with node:=m}∧m.cp u.heap.size w1∧m.strip=e.node.strip),(33,λv w1=>∃(m:aj) (b:Nat),v = .s (some ⟨b,0,none⟩) 1 1∧Bx w1 b (aN.cells {e with node:=m}).toArray∧m.cp u.heap.size w1∧m.strip=e.node.strip),(34,λv w1=>∃m:aj,w1.ownsRow u.heap.size 42 55 v (H.k+1) ((H.es.take H.k).flatMap aN.cells++aN.cells {e with node:=m})∧m.cp u.heap.size w1∧m.strip=e.node.strip)] (λr=>[.M 2 1,.M 2 2,.M 2 2,.slc 0 H.k H.k H.ec,.M 1 0,.hand 33 [],.hand 34 [(30,.s (pY H.ea 0 H.k 55) H.k H.k)]]) (λx=>[x 32,x 33,x 34]) (λx=>[(_,_,true,x 32,32)]) [[]] (λx=>[(34,x 34),(36,.q b 1)]) ⟨λ_ _ _ k h=>by obtain⟨m,e,h1,J⟩:=h; exact⟨m,e,aDn h1 k,J⟩,λ_ _ _ k h=>by obtain⟨m,b,e,h1,J,h3⟩:=h; exact⟨m,b,e,h1.ext k,aDn J k,h3⟩,λ_ _ _ k h=>by obtain⟨m,h1,J,h3⟩:=h; exact⟨m,Sx.dB h1 k,aDn J k,h3⟩,G⟩ (λx=>⟨by intro u hC g F; exact(yB (he.2.2.2.2.below (K00 ax hC)) ai).mono λe w2 h=>by obtain⟨m,rfl,am,ag,hb⟩:=h; exact⟨_,I,⟨m,I,y7 am hC.size,ag⟩,hb⟩,G⟩) (λac u x Cm F S=>?_) (hk:=λr=>⟨⟨aDl _,aDd _,Z⟩,G,G,G⟩) (hl:=[(16,[32]),(17,[33])]) (hH:=λx r=>⟨λo ho ρ u hs hE D hV F=>by obtain⟨an,-⟩:=F; obtain⟨m,e1,h1,J⟩:=an; exact ug ho hs [(32,aN.v {e with node:=m})] (aDa ((D 32 O I).trans e1)) (aN.cells {e with node:=m}) (some 1) (λv w' hn ab=>aC4 ho I I ab (by obtain⟨b,e2,-,h3⟩:=hn; exact⟨m,b,e2,h3,aDn h1 ab,J⟩)),λo ho ρ u hs hE D hV F=>by obtain⟨ao,-⟩:=F; obtain⟨m,b,e1,h1,J,h3⟩:=ao; exact qV ho atc (hV (30,_) aDq) ((D 33 O I).trans e1) (Rq (f:=aN.cells) (aDB (aDn ((aDn hm E8)) hE)).2.1 av.1 (λ_=>I) (λ_=>I)) (oH (m:=1) (k:=55) (A:=aN.cells {e with node:=m}) h1) O (by show H.k+1<=9223372036854775807; omega) Z (λv' w' h ab=>aC4 ho I I ab ⟨m,aDk h hE.size,aDn J ab,h3⟩),G⟩);refine Qr S (λS=>?_);obtain⟨an,ao,bd,-⟩:=F;clear an;clear ao;obtain⟨m,J,am,ag⟩:=bd;obtain⟨a4,c4,e4⟩:=Sx.jh J;rw[e4]at S J;try rw[e4]
 have ap:(H.es.take H.k++[({e with node:=m}:aN)]).length=H.k+1:=by rw[aDg,aD4,aFQ]; omega
 have az:=Hy (f:=aN.cells) (L:=H.es.take H.k++[({e with node:=m}:aN)]) (λ_=>I) J ap.symm Y;refine aCN S 2 I (λu J S=>?_);have DV:=(Sx.On.ch ((aDn hm (K00 E8 Cm))) J Z);have oG:=(aK ((Ch.trans (Ch.refl b w) (Ch.aT (K00 E9 Cm)))) J);have Bv:=(Sx.On.ch ((aDn Yz Cm)) J Z);have sW:=(Sx.On.ch az J Z);have wS:=(Sx.On.ch am J Z);have J:=(S.bx 2).1;have J:=(oG).size;have jw:=S.E.size;have af:=λp hp=>(S.own p hp).1.1;have jw:=S.E.size;refine WL S Tryz.f34 5 (λS iz=>?_);refine rX S 21 [(54,iO u.heap.size t.cells (some 1)),(55,λv w1=>w1.ownsRow u.heap.size 65 7 v (H.k+1+1) ((H.ss.take (H.k+1)).flatMap aA.cells++t.cells))] (λr=>[.M 2 0,.M 2 2,.re 46 (.i (IntKind.i64.wrap ((H.k:Int)+1))) (.i (H.k+1:Nat)),.M 2 2,.re 51 (.i (IntKind.i64.wrap ((H.k:Int)+1))) (.i (H.k+1:Nat)),.slc 0 (H.k+1) (H.k+1) H.sc,.M 0 0,.new 54 t.cells (some 1) r,.hand 55 [(52,.s (pY H.sa 0 (H.k+1) 7) (H.k+1) (H.k+1))]]) (λx=>[x 54,x 55]) (λx=>[]) [] (λx=>[(55,x 55),(57,.q b 0)]) ⟨iO.mono,λ_ _ _ k h=>Sx.dB h k,G⟩ (λx=>G) (λac u x zS F S=>?_) (hN:=λr=>⟨⟨I,I⟩,G⟩) (hk:=λr=>⟨aCS Z,aCS Z,⟨aDl _,aDd _,Z⟩,G,G,G⟩) (hl:=[(18,[54])]) (hH:=λx r=>⟨λo ho ρ u hs hE D hV F=>by obtain⟨J,-⟩:=F; obtain⟨b,e1,-,h1⟩:=J; exact qV ho atb (hV (52,_) aDq) ((D 54 O I).trans e1) (Rq (f:=aA.cells) (aDB (aDn DV hE)).1.1 aa.lt (λ_=>I) (λ_=>I)) (oH (m:=1) (k:=7) (A:=t.cells) h1) O (by show H.k+1+1<=9223372036854775807; omega) Z (λv' w' h ab=>aC4 ho I I ab (aDk h hE.size)),G⟩);refine Qr S (λS=>?_);obtain⟨J,D,-⟩:=F;obtain⟨bm,J,Gu,be⟩:=J;have S:=S.adopt (A:=t.cells) be Z (λp hp=>by have:=af p hp; omega) (λm hm=>by cases hm);obtain⟨a5,c5,J⟩:=Sx.jh D;rw[J]at S D;try rw[J]
 have J:(H.ss.take (H.k+1)++[t]).length=H.k+1+1:=by rw[aDg,aD4,aFQ]; omega
 have a3:=Hy (f:=aA.cells) (L:=H.ss.take (H.k+1)++[t]) (λ_=>I) D J.symm Y;refine aCN S 3 I (λu D S=>?_);have qH:=(Sx.On.ch ((aDn DV zS)) D Z);have Qi:=(aK ((Ch.trans oG (Ch.aT zS))) D);have vI:=(Sx.On.ch ((aDn Bv zS)) D Z);have zV:=(Sx.On.ch ((aDn sW zS)) D Z);have Eo:=(Sx.On.ch ((aDn wS zS)) D Z);have Ba:=(Sx.On.ch a3 D Z);refine adr S 7 [] [.M 3 2,.re 62 (.i (IntKind.i64.wrap ((H.k:Int)+1))) (.i (H.k+1:Nat))] (hk:=⟨aCS Z,G⟩) λS=>aCN S 3 I (λu D S=>?_);have S:=S.fl;have zX:=(Sx.On.ch qH D Z);have xU:=(aK Qi D);have Bz:=(Sx.On.ch vI D Z);have EC:=(Sx.On.ch zV D Z);have xW:=(Sx.On.ch Eo D Z);have BA:=(Sx.On.ch Ba D Z);obtain⟨p1,p2⟩:=aa.put hk (t:=t) (d:=({e with node:=m}:aN)) (e:=e.key) (by rw[ah]; exact Prod.ext a6 ay.symm) (by show bI.mk _ _ _ _ m.key _=_; rw[vJ ag]; rfl) ar (pz ⟨he.2.2.2.2.2,ai⟩ ag) a5 a4 c5 c4;refine aCB S (.i 0) (λS=>?_);exact⟨_,0,I,p2,p1,K12 zX (aEY BA λi D=>⟨Z,Z⟩) (aDS (aEY Bz λi D=>⟨Z,Z⟩) λW h=>⟨a7,a8,h.1.1,λn hn=>⟨(h.2 n hn).1,(ar n hn).1⟩⟩) (aEY EC λi D=>⟨Z,Z⟩) (aDS (aEY xW λi D=>⟨Z,Z⟩) λW h=>⟨he.1,he.2.1,he.2.2.1,he.2.2.2.1,h.1,(pz ⟨he.2.2.2.2.2,ai⟩ ag).1⟩),S.E,xU,(by show Bx _ _ (List.toArray [.s a5 (H.ss.take (H.k+1)++[t]).length c5,.s a4 (H.es.take H.k++[({e with node:=m}:aN)]).length c4,.i (H.k+1:Nat),.b true]); rw[J,ap]; exact S.kD 3)⟩
