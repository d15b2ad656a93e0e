/- Package scene: edit. Package -/
import Derived.Test.YtodpgjjgaddkeaaGreatDoorPk19
set_option maxRecDepth 100000
set_option maxHeartbeats 9999999
open Go renaming World->E5,Value->y9,Calls->Nq,TypeId->Ð,Addr->Ć
set_option linter.unusedVariables false
set_option linter.unusedSimpArgs false
open Go.RowKit Go.Sx
namespace Go.Proofs.Õ
open _root_.Go.Proofs.Tryz
section
variable{α:Type}{K:Nat}
def agN(s:aB)(e:aQ)(code:Int)(t:aB):Prop:=
 (match fV (keys s.ns) e.key with | .error n=>code=n | .ok l=>code=0∧keys t.ns=l∧t.bg=if e.kind=5 then e.color else s.bg)∧t.w=s.w∧t.h=s.h
variable{b m i n k:Nat}{l:List aj}{w0:E5}{s t:aB}{e:aQ}{v:y9}{d code:Int}{A xs:List y9}{rs:List Sx.Row}{F:E5->Prop}{P:aj->Prop}
abbrev nY(l:List aj)(id:Int):(nU (keys l) id = -1∧jT (keys l) id=none)∨∃i:Nat,nU (keys l) id=(i:Int)∧jT (keys l) id=some i∧i<l.length:=by
 unfold nU;cases h:jT (keys l) id with
 | none=>exact .inl ⟨I,I⟩
 | some i =>
  obtain⟨D,_⟩:=Bq h;exact .inr ⟨i,I,I,by simpa using D⟩
abbrev aj8{w:E5}{a:Act}{l:List (Nat×y9)}{vs:List eX}(S:Sx.St w0 a w n l [(b,A)] vs)(J:w.ownsRow w0.heap.size 38 47 v m xs)(hb:v.ownBlock≠some b):Rw w0 w [(b,A)] [⟨38,47,v,m,xs⟩]:=by
 refine⟨λr D=>by obtain rfl:=û.1 D; exact J,λc D=>?_,?_⟩
 .unfold Ob at D;simp only[đ,ĵ,ϕ,List.filterMap_nil,ā,û]at D;rcases D with rfl | D
  .exact(S.bx 0).1
  cases hv:v.ownBlock with
  | none=>rw[hv]at D; cases D
  | some g=>rw[hv]at D; obtain rfl:=û.1 D; exact(iQ J hv).2
 unfold Ob;cases hv:v.ownBlock with
 | none=>simp[hv]
 | some g=>simp[hv]; intro e; rw[e]at hb; exact hb hv
abbrev Zk{base:Nat}{bl:List (Nat×List y9)}{r:Sx.Row}{w:E5}(h:Sx.Ow base (Ob bl (r::rs)) F w):Sx.Ow base (Ob bl rs) F w:=
 h.mono λk hk=>⟨hk.1,λD=>hk.2 (by
  rcases ā.1 D with h | h
  .exact ū _ h
  .refine ś _ ?_
   rw[ϕ]
   cases r.v.ownBlock
   .exact h
   .exact ļ _ h)⟩
abbrev agO{w:E5}{B:Nat}{L:List aj}(J:w.ownsRow B 38 47 v m (L.flatMap aj.cells))(hm:m=L.length):Sx.On (λi=>v.ownBlock=some i) (kF 38 47 aj.cells B v L) w:=λw' D S =>
 æ (fK (λ_=>I) (mZ J λg D=>S g (iQ J D).2 D) hm I)
abbrev Zl{w:E5}{bl:List (Nat×List y9)}{L:List aj}(R:Rw w0 w bl (⟨38,47,v,m,L.flatMap aj.cells⟩::rs))(D:m=L.length):Sx.Ow w0.heap.size (Ob bl rs) (kF 38 47 aj.cells w0.heap.size v L) w:=by
 have J:=R.own _ Ö;refine(agO J D).mono λi S=>⟨(iQ J S).1,λD=>?_⟩;have J:=R.apart;unfold Ob at J D;rw[ϕ,show(⟨38,47,v,m,L.flatMap aj.cells⟩:Sx.Row).v.ownBlock=some i from S]at J;have hd:=ŋ.1 J;rcases ā.1 D with h | h
 .exact hd.F i h i Y I
 exact(Ż.1 hd.2.1).1 h
abbrev KJ{w:E5}{bl:List (Nat×List y9)}{a:Option Ć}{c:Nat}(R:Rw w0 w bl (⟨38,47,.s a n c,n,xs⟩::rs))(hn:0<n):∃g,a=some ⟨g,0,none⟩∧∀p∈bl,p.1≠g:=by
 obtain⟨g,rfl⟩:=Jr (R.own _ Ö) hn;exact⟨g,I,(R.range Ö I 0 (cs:=[]) I).F⟩
abbrev VI{g:Nat}(h:m≠i):um (some ⟨g,0,none⟩) i m k=some ⟨g,0+i*k,none⟩:=by
 unfold um; rw[UQ h];show some ((⟨g,0,none⟩:Ć).add (i*k))=_;congr 1;unfold Addr.add; split<;>simp_all
def nI(d:Int)(n:aj):aj:={n with depth:=IntKind.i64.wrap (n.depth+d)}
abbrev agP(z:Int):I64 (IntKind.i64.wrap z):=by rw[Ŭ]; constructor<;>omega
abbrev ac8{base:Nat}{w:E5}{n:aj}(h:n.oZ base w):(nI d n).oZ base w:=⟨⟨h.1.1,h.1.2.1,agP _,h.1.N⟩,h.2⟩
abbrev ac9(l:List aj)(root to:Int):keys (l.map (nI (IntKind.i64.wrap (to-root))))=(keys l).map λn=>n.moved root to:=by
 unfold keys; rw[List.map_map,List.map_map]; rfl
abbrev VJ(l m:List aj)(i:Nat):keys (l.take i++m++l.drop i)=GR (keys l) i (keys m):=by unfold keys GR; simp
abbrev D6(l:List aj)(i j:Nat):keys (l.take i++l.drop j)=vJ (keys l) i j:=by unfold keys vJ; simp
abbrev agQ(l:List aj)(i j:Nat):keys ((l.drop i).take (j-i))=EK (keys l) i j:=by unfold keys EK; simp
abbrev Ia{m:List aj}(hl:∀n∈l,P n)(D:∀n∈m,P n)(i j:Nat):∀n∈l.take i++m++l.drop j,P n:=λn hn=>by
 rcases ā.1 hn with h | h
 .rcases ā.1 h with h | h
  .exact hl n (ŝ h)
  exact D n h
 exact hl n (Ϭ h)
abbrev Ib(hl:∀n∈l,P n)(i j:Nat):∀n∈l.take i++l.drop j,P n:=λn hn=>by
 rcases ā.1 hn with h | h
 .exact hl n (ŝ h)
 exact hl n (Ϭ h)
abbrev aj9{B C D:List y9}{o:Nat}(J:o=A.length)(hl:D.length=B.length):Sx.spl (A++(B++C)) o D=A++(D++C):=by
 subst J;unfold Sx.spl;rw[List.take_left,<-Ÿ,ϩ,hl,ϩ,ç]
abbrev agR{L:List aj}(S:i<L.length)(m:aj):Sx.spl (L.flatMap aj.cells) (0+i*47) m.cells=(L.set i m).flatMap aj.cells:=by
 have J:L.flatMap aj.cells=(L.take i).flatMap aj.cells++(L[i].cells++(L.drop (i+1)).flatMap aj.cells):=by
  rw[<-Ķ,<-ŀ,aG7,ň]
 rw[J,aj9 (D:=m.cells) (by rw[jB (f:=aj.cells) (k:=47) (λ_=>I),Ĳ,Ε Z]; omega) (show m.cells.length=L[i].cells.length from rfl),List.set_eq_take_append_cons_drop,Á S,ŀ,Ķ]
abbrev agS{w:E5}(h:Sx.On (λi=>w0.heap.size<=i∧i≠b∧v.ownBlock≠some i) F w):Sx.Ow w0.heap.size (Ob [(b,A)] [⟨38,47,v,m,xs⟩]) F w:=
 h.mono λi J=>⟨J.1,λD=>by
  unfold Ob at D
  simp only[đ,ĵ,ϕ,List.filterMap_nil,ā,û]at D
  rcases D with rfl | D
  .exact J.2.1 I
  .cases hv:v.ownBlock with
   | none=>rw[hv]at D; cases D
   | some g=>rw[hv]at D; obtain rfl:=û.1 D; exact J.F hv⟩
abbrev RG{base:Nat}{bl:List (Nat×List y9)}{w:E5}(h:Sx.Ow base (Ob bl []) F w):Sx.Ow base (Ob bl [⟨38,47,.sn,0,[]⟩]) F w:=h
abbrev one_row{w:E5}{m:aj}(D:Bx w b m.cells.toArray):aG 47 aj.cells w (.s (some ⟨b,0,none⟩) 1 1) [m]:=
 ⟨_,1,I,by decide,.inr ⟨b,0,I,D.1,Ç _,λi J j S=>by
  obtain rfl:i=0:=by simpa using J
  rw[show 0+0*47+j=j by omega,D.2.1,List.getElem?_toArray]; rfl⟩⟩
abbrev agT{e:Nat}{y:aj}(h:i+k<l.length)(J:l[i+k]=y)(hk:k<e-i):(((l.drop i).take (e-i)).take k |>.map (nI d)).flatMap aj.cells++(nI d y).cells=(((l.drop i).take (e-i)).take (k+1) |>.map (nI d)).flatMap aj.cells:=by
 have D:k<((l.drop i).take (e-i)).length:=by simp; omega
 rw[ĸ D,Ħ,ŀ];congr 1;simp[J]
abbrev ada{base:Nat}{w:E5}(h:∀n∈l,n.oZ base w)(i m:Nat):∀n∈((l.drop i).take m).map (nI d),n.oZ base w:=λn hn=>by
 obtain⟨x,D,rfl⟩:=ô.1 hn;exact ac8 (h x (Ϭ (ŝ D)))
abbrev adb(h:∀n∈l,n.xZ K)(i m:Nat):∀n∈((l.drop i).take m).map (nI d),n.xZ K:=λn hn=>by
 obtain⟨x,D,rfl⟩:=ô.1 hn;exact h x (Ϭ (ŝ D))
abbrev alC(s:aB)(i:Nat)(m:aj):aB.s ⟨s.w,s.h,s.bg,s.nsa,s.nsc,s.ns.set i m⟩=s.s:=by unfold aB.s; simp
abbrev ade(s:aB)(i:Nat)(m:aj):aB.cells ⟨s.w,s.h,s.bg,s.nsa,s.nsc,s.ns.set i m⟩=s.cells:=by unfold aB.cells; rw[alC]
abbrev aa3{m:aj}(h:∀n∈l,P n)(J:P m)(i:Nat):∀n∈l.set i m,P n:=λn hn=>by
 rcases List.mem_or_eq_of_mem_set hn with D | rfl
 .exact h n D
 exact J
abbrev Zm{w:E5}(hE:Ext w0 w)(hx:Bx w b s.cells.toArray)(hb:w0.heap.size<=b)(ho:s.own w0.heap.size w)(df:s.s.ownBlock≠some b)(dh:Sx.On (λi=>w0.heap.size<=i∧i≠b∧s.s.ownBlock≠some i) (λW=>∀n∈s.ns,n.oZ w0.heap.size W) w)(hf:∀n∈s.ns,n.xZ K)(he:gU K w0 e)(a4:e.node.lim)(hn:s.ns.length<=1000) :
  Nq prog 99 #[.q b 0,e.v] w λr w'=>∃(code:Int) (t:aB),r = .R (.i code)∧Ext w0 w'∧Bx w' b t.cells.toArray∧fF w0.heap.size t.s t.ns w'∧(∀n∈t.ns,n.xZ K)∧agN s e code t:=by
 skip;refine BP func99 ntmps99 hE hx hb λac S=>?_;obtain⟨a,cap,es⟩:∃a c,s.s = .s a s.ns.length c:=⟨_,_,I⟩;have cg:=ho.row;rw[es]at cg df dh;have R:=aj8 S cg df;have af:=agS (A:=s.cells) (m:=s.ns.length) (xs:=s.ns.flatMap aj.cells) dh;refine YJ λ_ fQ=>Ė S 3 e.cells λac u b2 E3 di S=>Rf S 1 [] [(4,.i 0)] λS=>Rh<|fQ _ _<|Ô λ_ Bz=>?_;obtain⟨R,Y6⟩:=R.aZ S (Ĥ E3 di);have J:=(æ (iZ (f:=aj.cells) (L:=s.ns) (λ_=>I) (R.own _ Ö) I I));refine š S 7 [.M 1 6,.re 15 s.s (.s a s.ns.length cap),.M 0 1] [(_,_,true,.i (nU (keys s.ns) e.id))] [(18,.i (nU (keys s.ns) e.id))] ⟨λu hC g=>Je (id:=e.id) (J.below hC),G⟩ (hk:=⟨es,G⟩) λac u E7 S=>Rf S 1 [] [(5,.i (nU (keys s.ns) e.id))] λS=>Rh<|Bz _ _<|Ô λ_ BA=>YJ λ_ Ub=>Rf S 2 [.M 0 0] [(20,.i e.kind)] λS=>Rh<|Ub _ _<|Ě<|YJ λ_ xQ=>Rf S 2 [] [(21,.b ((e.kind)==1))] λS=>Rh (xQ _ _ ?_);refine Ā S (λfJ=>?_) λfJ=>?_
 .refine Ô λ_ Du=>Ô λ_ EL=>š S 13 [.M 0 2,.M 0 2,.M 1 6,.re 32 s.s (.s a s.ns.length cap)] [] [(35,.b ((decide (e.index<0))||(decide ((s.ns.length:Int)<e.index))))] trivial (hk:=⟨es,G⟩) λac u wR S=>Rh (EL _ _ ?_);refine Ā S (λqo=>?_) (λqo=>?_)
  .refine YJ λ_ xR=>Rf S 1 [] [(4,.i 6)] λS=>Rh<|xR _ _<|ğ ?_;obtain⟨R,fz⟩:=R.aZ S (Ì (à E7) (à wR));refine vV S results99 ?_;exact⟨6,s,I,S.E,S.bx 1,(es▸ï (fK (λ_=>I) (R.own _ Ö) I I) (ľ (þ af (Ì Y6 fz)))),hf,⟨by rw[show fV (keys s.ns) e.key = .error 6 by unfold fV jH; rw[UQ (show ¬e.key.kind=3 from λh=>by have:=(show(e.key.kind=1)from by simpa[aQ.key]using fJ); omega),Á (show(e.key.kind=1)from by simpa[aQ.key]using fJ),Á (by have:=qo; simp only[ų,Þ]at this; rw[ĭ]; exact this)]],I,I⟩⟩
  refine ú<|Du _ _ ?_;have bm:0<=e.index∧e.index<=(s.ns.length:Int):=by have:=qo; simp only[Ĕ,Ą]at this; omega
  obtain⟨ax,ar⟩:=ae5 bm.1;obtain⟨R,f0⟩:=R.aZ S (Ì (à E7) (à wR));have ag:=Zl R I;have ao:=Zk (þ af (Ì Y6 f0));have R:=Rw.pop R;have ci:=λp hp=>(S.own p hp).1.1;have bo:=S.E.size;have fg:=R.lt;have J:=(æ ag).1;refine al3 S [0] 11 [] [(36,.q b 0)] λac S=>?_;refine rJ S 11 [(45,λv w1=>∃m:aj,v=m.v∧m.cp u.heap.size w1∧m.strip=e.node.strip),(46,λv w1=>∃m b,v = .s (some ⟨b,0,none⟩) 1 1∧u.heap.size<=b∧Bx w1 b (aj.cells m).toArray∧Sx.On (λi=>u.heap.size<=i∧i≠b) (λW=>m.oZ u.heap.size W) w1∧m.strip=e.node.strip)] (λr=>[.M 1 6,.re 40 s.s (.s a s.ns.length cap),.M 0 2,.M 0 4,.hand 46 []]) (λx=>[x 45,x 46]) (λx=>[(_,_,true,x 45,45)]) [[]] (λx=>[(36,.q b 0),(40,.s a s.ns.length cap),(42,.i e.index),(46,x 46)]) ⟨λ_ _ _ k h=>by obtain⟨m,e,h,q⟩:=h; exact⟨m,e,h.ext k,q⟩,λv w w' k h=>by obtain⟨m,b,e,h1,h2,h3,q⟩:=h; exact⟨m,b,e,h1,h2.ext k,h3.ext k,q⟩,G⟩ (λx=>⟨by intro u hC g F; exact(clone_any (he.2.2.2.2.1.below (Ip S.E hC)) a4).mono λe w2 h=>by obtain⟨m,rfl,hx,hs,hb⟩:=h; exact⟨_,I,⟨m,I,Dy hx hC.size,hs⟩,hb⟩,G⟩) (λac u x xE F S=>?_) (hk:=λr=>⟨es,G,G⟩) (hl:=[(10,[45])]) (hH:=λx r=>⟨λo ho ρ u hs hE hρ hV F=>by obtain⟨bs,-⟩:=F; obtain⟨m,e,h,q⟩:=bs; exact rC ho hs [(45,m.v)] (Ľ ((hρ 45 O I).trans e)) m.cells (some 1) (λv w' hn cb=>İ ho I I cb (by obtain⟨b,e2,h2,h3⟩:=hn; exact⟨m,b,e2,ä hE.size h2,h3,Sx.On.fresh h cb h2,q⟩)),G⟩);obtain⟨bs,f1,-⟩:=F;clear bs;obtain⟨m,gp,f2,co,f3,hm,av⟩:=f1;rw[f2]at S;have S:=S.kZ;have S:=S.adopt (A:=m.cells) f3 (ä bo co) (λp hp=>by have:=ci p hp; omega) (λm hm=>by cases hm);obtain⟨R,Xa⟩:=R.aZ S ((à xE).aiZ co);have fh:=ď (Sx.afj R hm fg bo) λ_ h=>BL h bo;have J:=(æ (þ ag Xa)).1;have cj:=one_row (S.bx 0);have gn:=S.E.size;have go:=R.lt;have ck:=S.E.size;have fi:=R.lt;refine ģ S (some 47) (DF J cj (i:=ax) Z Y (by simp; omega) ar) ?_;rintro r u ⟨vi,rfl,az,Bg⟩;obtain⟨a9,c9,rfl⟩:=Sx.jf az;refine⟨_,I,Bg,λac S=>?_⟩;have bp:=fK (f:=aj.cells) (λ_=>I) az I I;obtain⟨R,cq⟩:=R.aZ S (à Bg);have fj:=ď (Sx.aU.ow bp ck fi) λ_ h=>h.le ck;refine Rf S 2 [] [(49,.q b 6)] λS=>Ĺ S 2 (off:=6) (v := .s a9 ((s.ns.take ax++[m]++s.ns.drop ax).length) c9) I λu dj S=>Rh<|BA _ _<|YJ λ_ Qn=>Rf S 1 [] [(4,.i 0)] λS=>Rh<|Qn _ _<|ğ ?_;obtain⟨R,bt⟩:=R.aZ S (Sx.Stp.Eo dj (by simp[Sx.vb]));refine vV S results99 ?_;exact⟨0,⟨s.w,s.h,s.bg,a9,c9,s.ns.take ax++[m]++s.ns.drop ax⟩,I,S.E,S.bx 2,ï (ľ (þ fj bt)) (ď (ï (ľ (þ ao (Ì Xa (Ì cq bt)))) (ľ (þ fh (Ì cq bt)))) λ_ h=>Ia h.1 (λn hn=>by rw[û.1 hn]; exact h.2) ax ax),Ia hf (λn hn=>by rw[û.1 hn]; exact vS ⟨he.2.2.2.2.2,a4⟩ av) ax ax,⟨by rw[show fV (keys s.ns) e.key = .ok (GR (keys s.ns) ax [e.node.key]) by unfold fV jH; rw[UQ (show ¬e.key.kind=3 from λh=>by have:=(show(e.key.kind=1)from by simpa[aQ.key]using fJ); omega),Á (show(e.key.kind=1)from by simpa[aQ.key]using fJ),UQ (by rw[ĭ,show e.key.index=e.index from rfl]; omega),show e.key.index.toNat=ax from by rw[show e.key.index=e.index from rfl,ar]; rfl]; rfl]; exact⟨I,by rw[VJ]; simp[keys,BK av],by rw[UQ (λh=>by have:=(show(e.key.kind=1)from by simpa[aQ.key]using fJ); simp only[aQ.key]at this; omega)]⟩,I,I⟩⟩
 refine Ô λ_ cc=>YJ λ_ IK=>Rf S 2 [] [(50,.b ((e.kind)==2))] λS=>Rh (IK _ _ ?_);refine Ā S (λaa=>?_) λaa=>?_
 .refine ú<|cc _ _ ?_;refine Ā S (λIX=>?_) (λIX=>?_)
  .refine Ô λ_ dk=>YJ λ_ Xr=>Rf S 2 [] [(54,.b ((nU (keys s.ns) e.id)<0))] λS=>Rh (Xr _ _ ?_);refine Ā S (λQo=>?_) (λQo=>?_)
   .refine YJ λ_ dl=>Rf S 1 [] [(4,.i 8)] λS=>Rh<|dl _ _<|ğ ?_;have ae:=((nY s.ns e.id).resolve_right (λ⟨i,h,_⟩=>by have:=Ý Qo; omega)).2;obtain⟨R,f4⟩:=R.aZ S (à E7);refine vV S results99 ?_;exact⟨8,s,I,S.E,S.bx 1,(es▸ï (fK (λ_=>I) (R.own _ Ö) I I) (ľ (þ af (Ì Y6 f4)))),hf,⟨by rw[show fV (keys s.ns) e.key = .error 8 by unfold fV jH; rw[UQ (show ¬e.key.kind=3 from λh=>by have:=(show(e.key.kind=2)from by simpa[aQ.key]using aa); omega),UQ (show ¬(e.key.kind=1)from by simpa[aQ.key]using fJ),Á (show(e.key.kind=2)from by simpa[aQ.key]using aa),show jT (keys s.ns) e.key.id=none from ae]],I,I⟩⟩
   refine ú<|dk _ _<|Ô λ_ dm=>?_;obtain⟨i,ai,ae,hi⟩:=(nY s.ns e.id).resolve_left (λh=>by have:=é Qo; omega);have aq:=Dq (l:=keys s.ns) (i:=i) (by simpa using hi);rw[ĭ]at aq;obtain⟨R,f5⟩:=R.aZ S (à E7);obtain⟨gb,rfl,aw⟩:=KJ R Z;have ag:=Zl R I;have ao:=Zk (þ af (Ì Y6 f5));have R:=Rw.pop R;have J:=(æ ag).1;have fk:=S.E.size;have fm:=R.lt;obtain⟨D,al⟩:∃z,z=kH (keys s.ns) i:=⟨_,I⟩;rw[<-al]at aq;have bq:=ag;refine sH S 16 [(67,λv w1=>∃v1,v = .tuple #[v1,.s (some ⟨gb,0+i*47,none⟩) (D-i) (D-i)]∧Sx.On (λj=>(w0.heap.size<=j∧j∉Ob [(b2,e.cells),(b,s.cells)] [])∨u.heap.size<=j) (kF 38 47 aj.cells w0.heap.size v1 (s.ns.take i++s.ns.drop D)) w1),(55,λv w1=>∃v1,v = .tuple #[v1,.s (some ⟨gb,0+i*47,none⟩) (D-i) (D-i)]∧Sx.On (λj=>(w0.heap.size<=j∧j∉Ob [(b2,e.cells),(b,s.cells)] [])∨u.heap.size<=j) (kF 38 47 aj.cells w0.heap.size v1 (s.ns.take i++s.ns.drop D)) w1),(68,λv w1=>Sx.On (λj=>(w0.heap.size<=j∧j∉Ob [(b2,e.cells),(b,s.cells)] [])∨u.heap.size<=j) (kF 38 47 aj.cells w0.heap.size v (s.ns.take i++s.ns.drop D)) w1),(69,λv w1=>v = .s (some ⟨gb,0+i*47,none⟩) (D-i) (D-i)),(6,λv w1=>Sx.On (λj=>(w0.heap.size<=j∧j∉Ob [(b2,e.cells),(b,s.cells)] [])∨u.heap.size<=j) (kF 38 47 aj.cells w0.heap.size v (s.ns.take i++s.ns.drop D)) w1)] (λr=>[.M 1 6,.re 59 s.s (.s (some ⟨gb,0,none⟩) s.ns.length cap),.M 1 6,.re 64 s.s (.s (some ⟨gb,0,none⟩) s.ns.length cap),.hand 55 [],.hand 68 [],.hand 69 [],.hand 6 []]) (λx=>[.i D,x 67,x 55,x 68,x 69,x 6]) (λx=>[(_,_,true,.i D,66),(_,_,true,x 67,67)]) [[],[]] (λx=>[(6,x 6),(69,x 69)]) ⟨λ_ _ _ k h=>by obtain⟨v1,e,h⟩:=h; exact⟨v1,e,h.ext k⟩,λ_ _ _ k h=>by obtain⟨v1,e,h⟩:=h; exact⟨v1,e,h.ext k⟩,λ_ _ _ k h=>h.ext k,λ_ _ _ _ h=>h,λ_ _ _ k h=>h.ext k,G⟩ (λx=>⟨by intro u hC g F; exact(Oe (J.below hC) hi ai al).mono λe w2 h=>⟨_,h.1,I,h.2⟩,by intro u hC g F; exact(FT (J.below hC) (f:=i) (t:=D) Z Z Z ai).mono λe w2 h=>by obtain⟨v1,rfl,hx,hb⟩:=h; exact⟨_,I,⟨v1,by rw[VI (show D≠i by omega)],(hx w0.heap.size _ (Ip S.E hC).size (Ü bq hC)).mono λj hj=>hj.imp_right (ä hC.size)⟩,hb⟩,G⟩) (λac u x dq F S=>?_) (hk:=λr=>⟨es,es,G,G,G,G,G⟩) (hl:=[(12,[67]),(13,[55]),(14,[55]),(15,[68])]) (hH:=λx r=>⟨λo ho ρ u hs hE hρ hV F=>by obtain⟨am,-⟩:=F; obtain⟨v1,e1,h1⟩:=am; exact jw ho hs [(67,.tuple #[v1,.s (some ⟨gb,0+i*47,none⟩) (D-i) (D-i)])] (Ľ ((hρ 67 O I).trans e1)) (.tuple #[v1,.s (some ⟨gb,0+i*47,none⟩) (D-i) (D-i)]) (İ ho I I å ⟨v1,I,h1⟩),λo ho ρ u hs hE hρ hV F=>by obtain⟨Zn,-⟩:=F; obtain⟨v1,e1,h1⟩:=Zn; exact jw ho hs [(55,.tuple #[v1,.s (some ⟨gb,0+i*47,none⟩) (D-i) (D-i)])] (Ľ ((hρ 55 O I).trans e1)) (v1) (İ ho I I å h1),λo ho ρ u hs hE hρ hV F=>by obtain⟨Zn,-⟩:=F; obtain⟨v1,e1,h1⟩:=Zn; exact jw ho hs [(55,.tuple #[v1,.s (some ⟨gb,0+i*47,none⟩) (D-i) (D-i)])] (Ľ ((hρ 55 O I).trans e1)) (.s (some ⟨gb,0+i*47,none⟩) (D-i) (D-i)) (İ ho I I å I),λo ho ρ u hs hE hρ hV F=>by obtain⟨an,-⟩:=F; exact jw ho hs [(68,x 68)] (Ľ (hρ 68 O I)) (x 68) (İ ho I I å an),G⟩);obtain⟨am,Zn,an,bu,F6,-⟩:=F;clear am;clear Zn;clear an;rw[bu]at S;obtain⟨R,f6⟩:=R.aZ S (à dq);have ah:Sx.Ow w0.heap.size (Ob [(b2,e.cells),(b,s.cells)] []) (kF 38 47 aj.cells w0.heap.size (x 6) (s.ns.take i++s.ns.drop D)) u:=F6.mono λj hj=>hj.elim id λh=>⟨ä fk h,λhm=>by have:=fm j hm; omega⟩;obtain⟨a7,c7,e7⟩:=(æ ah).1.shape;rw[e7]at S ah;refine Rf S 1 [] [(7,.s (some ⟨gb,0+i*47,none⟩) (D-i) (D-i))] λS=>Rh<|dm _ _<|Ô λ_ gl=>YJ λ_ dr=>Rf S 3 [.M 0 0] [(72,.b ((e.kind)==2))] λS=>Rh (dr _ _ ?_);refine Ā S (λa6=>?_) λa6=>?_
   .refine YJ λ_ ds=>Rf S 4 [] [(74,.s a7 ((s.ns.take i++s.ns.drop D).length) c7),(76,.q b 6)] λS=>Ĺ S 1 (off:=6) (v := .s a7 ((s.ns.take i++s.ns.drop D).length) c7) I λu TB S=>Rh<|ds _ _<|YJ λ_ dt=>Rf S 1 [] [(4,.i 0)] λS=>Rh<|dt _ _<|ğ ?_;obtain⟨R,ct⟩:=R.aZ S (Sx.Stp.Eo TB (by simp[Sx.vb]));refine vV S results99 ?_;exact⟨0,⟨s.w,s.h,s.bg,a7,c7,s.ns.take i++s.ns.drop D⟩,I,S.E,S.bx 1,ï (ľ (þ ah ct)) (ď (ľ (þ ao (Ì f6 ct))) λ_ h=>Ib h i D),Ib hf i D,⟨by rw[show fV (keys s.ns) e.key = .ok (vJ (keys s.ns) i D) by unfold fV jH; rw[UQ (show ¬e.key.kind=3 from λh=>by have:=(show(e.key.kind=2)from by simpa[aQ.key]using aa); omega),UQ (show ¬(e.key.kind=1)from by simpa[aQ.key]using fJ),Á (show(e.key.kind=2)from by simpa[aQ.key]using aa),show jT (keys s.ns) e.key.id=some i from ae]; rw[al]]; exact⟨I,D6 ..,by rw[UQ (λh=>by have:=(show(e.key.kind=2)from by simpa[aQ.key]using aa); simp only[aQ.key]at this; omega)]⟩,I,I⟩⟩
   rw[aa]at a6; cases a6
  rw[aa]at IX; cases IX
 refine į<|Rf S 2 [] [(50,.b ((e.kind)==3))] λS=>Rh (cc _ _ ?_);refine Ā S (λCj=>?_) λCj=>?_
 .refine Ô λ_ du=>YJ λ_ dx=>Rf S 2 [] [(54,.b ((nU (keys s.ns) e.id)<0))] λS=>Rh (dx _ _ ?_);refine Ā S (λa8=>?_) (λa8=>?_)
  .refine YJ λ_ dy=>Rf S 1 [] [(4,.i 8)] λS=>Rh<|dy _ _<|ğ ?_;have ae:=((nY s.ns e.id).resolve_right (λ⟨i,h,_⟩=>by have:=Ý a8; omega)).2;obtain⟨R,f7⟩:=R.aZ S (à E7);refine vV S results99 ?_;exact⟨8,s,I,S.E,S.bx 1,(es▸ï (fK (λ_=>I) (R.own _ Ö) I I) (ľ (þ af (Ì Y6 f7)))),hf,⟨by rw[show fV (keys s.ns) e.key = .error 8 by unfold fV; rw[Á (show(e.key.kind=3)from by simpa[aQ.key]using Cj),show jT (keys s.ns) e.key.id=none from ae]],I,I⟩⟩
  refine ú<|du _ _<|Ô λ_ dz=>?_;obtain⟨i,ai,ae,hi⟩:=(nY s.ns e.id).resolve_left (λh=>by have:=é a8; omega);have aq:=Dq (l:=keys s.ns) (i:=i) (by simpa using hi);rw[ĭ]at aq;obtain⟨R,f8⟩:=R.aZ S (à E7);obtain⟨gb,rfl,aw⟩:=KJ R Z;have ag:=Zl R I;have ao:=Zk (þ af (Ì Y6 f8));have R:=Rw.pop R;have J:=(æ ag).1;have fo:=S.E.size;have fp:=R.lt;obtain⟨D,al⟩:∃z,z=kH (keys s.ns) i:=⟨_,I⟩;rw[<-al]at aq;have bq:=ag;refine sH S 16 [(67,λv w1=>∃v1,v = .tuple #[v1,.s (some ⟨gb,0+i*47,none⟩) (D-i) (D-i)]∧Sx.On (λj=>(w0.heap.size<=j∧j∉Ob [(b2,e.cells),(b,s.cells)] [])∨u.heap.size<=j) (kF 38 47 aj.cells w0.heap.size v1 (s.ns.take i++s.ns.drop D)) w1),(55,λv w1=>∃v1,v = .tuple #[v1,.s (some ⟨gb,0+i*47,none⟩) (D-i) (D-i)]∧Sx.On (λj=>(w0.heap.size<=j∧j∉Ob [(b2,e.cells),(b,s.cells)] [])∨u.heap.size<=j) (kF 38 47 aj.cells w0.heap.size v1 (s.ns.take i++s.ns.drop D)) w1),(68,λv w1=>Sx.On (λj=>(w0.heap.size<=j∧j∉Ob [(b2,e.cells),(b,s.cells)] [])∨u.heap.size<=j) (kF 38 47 aj.cells w0.heap.size v (s.ns.take i++s.ns.drop D)) w1),(69,λv w1=>v = .s (some ⟨gb,0+i*47,none⟩) (D-i) (D-i)),(6,λv w1=>Sx.On (λj=>(w0.heap.size<=j∧j∉Ob [(b2,e.cells),(b,s.cells)] [])∨u.heap.size<=j) (kF 38 47 aj.cells w0.heap.size v (s.ns.take i++s.ns.drop D)) w1)] (λr=>[.M 1 6,.re 59 s.s (.s (some ⟨gb,0,none⟩) s.ns.length cap),.M 1 6,.re 64 s.s (.s (some ⟨gb,0,none⟩) s.ns.length cap),.hand 55 [],.hand 68 [],.hand 69 [],.hand 6 []]) (λx=>[.i D,x 67,x 55,x 68,x 69,x 6]) (λx=>[(_,_,true,.i D,66),(_,_,true,x 67,67)]) [[],[]] (λx=>[(6,x 6),(69,x 69)]) ⟨λ_ _ _ k h=>by obtain⟨v1,e,h⟩:=h; exact⟨v1,e,h.ext k⟩,λ_ _ _ k h=>by obtain⟨v1,e,h⟩:=h; exact⟨v1,e,h.ext k⟩,λ_ _ _ k h=>h.ext k,λ_ _ _ _ h=>h,λ_ _ _ k h=>h.ext k,G⟩ (λx=>⟨by intro u hC g F; exact(Oe (J.below hC) hi ai al).mono λe w2 h=>⟨_,h.1,I,h.2⟩,by intro u hC g F; exact(FT (J.below hC) (f:=i) (t:=D) Z Z Z ai).mono λe w2 h=>by obtain⟨v1,rfl,hx,hb⟩:=h; exact⟨_,I,⟨v1,by rw[VI (show D≠i by omega)],(hx w0.heap.size _ (Ip S.E hC).size (Ü bq hC)).mono λj hj=>hj.imp_right (ä hC.size)⟩,hb⟩,G⟩) (λac u x d0 F S=>?_) (hk:=λr=>⟨es,es,G,G,G,G,G⟩) (hl:=[(12,[67]),(13,[55]),(14,[55]),(15,[68])]) (hH:=λx r=>⟨λo ho ρ u hs hE hρ hV F=>by obtain⟨am,-⟩:=F; obtain⟨v1,e1,h1⟩:=am; exact jw ho hs [(67,.tuple #[v1,.s (some ⟨gb,0+i*47,none⟩) (D-i) (D-i)])] (Ľ ((hρ 67 O I).trans e1)) (.tuple #[v1,.s (some ⟨gb,0+i*47,none⟩) (D-i) (D-i)]) (İ ho I I å ⟨v1,I,h1⟩),λo ho ρ u hs hE hρ hV F=>by obtain⟨Zn,-⟩:=F; obtain⟨v1,e1,h1⟩:=Zn; exact jw ho hs [(55,.tuple #[v1,.s (some ⟨gb,0+i*47,none⟩) (D-i) (D-i)])] (Ľ ((hρ 55 O I).trans e1)) (v1) (İ ho I I å h1),λo ho ρ u hs hE hρ hV F=>by obtain⟨Zn,-⟩:=F; obtain⟨v1,e1,h1⟩:=Zn; exact jw ho hs [(55,.tuple #[v1,.s (some ⟨gb,0+i*47,none⟩) (D-i) (D-i)])] (Ľ ((hρ 55 O I).trans e1)) (.s (some ⟨gb,0+i*47,none⟩) (D-i) (D-i)) (İ ho I I å I),λo ho ρ u hs hE hρ hV F=>by obtain⟨an,-⟩:=F; exact jw ho hs [(68,x 68)] (Ľ (hρ 68 O I)) (x 68) (İ ho I I å an),G⟩);obtain⟨am,Zn,an,bu,F6,-⟩:=F;clear am;clear Zn;clear an;rw[bu]at S;obtain⟨R,ay⟩:=R.aZ S (à d0);have ah:Sx.Ow w0.heap.size (Ob [(b2,e.cells),(b,s.cells)] []) (kF 38 47 aj.cells w0.heap.size (x 6) (s.ns.take i++s.ns.drop D)) u:=F6.mono λj hj=>hj.elim id λh=>⟨ä fo h,λhm=>by have:=fp j hm; omega⟩;obtain⟨a7,c7,e7⟩:=(æ ah).1.shape;rw[e7]at S ah;refine Rf S 1 [] [(7,.s (some ⟨gb,0+i*47,none⟩) (D-i) (D-i))] λS=>Rh<|dz _ _<|Ô λ_ d1=>YJ λ_ d2=>Rf S 3 [.M 0 0] [(72,.b ((e.kind)==2))] λS=>Rh (d2 _ _ ?_);refine Ā S (λbb=>?_) λbb=>?_
  .rw[aa]at bb; cases bb
  refine ú<|d1 _ _<|Ô λ_ d3=>YJ λ_ d4=>Rf S 10 [.M 0 2,.M 0 2] [(86,.b ((decide (e.index<0))||(decide ((((s.ns.take i++s.ns.drop D).length:Nat):Int)<e.index))))] λS=>Rh (d4 _ _ ?_);refine Ā S (λbc=>?_) λbc=>?_
  .refine YJ λ_ d5=>Rf S 1 [] [(4,.i 6)] λS=>Rh<|d5 _ _<|Qm S results99 ?_;exact⟨6,s,I,S.E,S.bx 1,(es▸ï (ľ (þ ag ay)) (ľ (þ ao ay))),hf,⟨by rw[show fV (keys s.ns) e.key = .error 6 by unfold fV; rw[Á (show(e.key.kind=3)from by simpa[aQ.key]using Cj),show jT (keys s.ns) e.key.id=some i from ae]; simp only; rw[<-al,Á (by have:=bc; simp only[ų,Þ]at this; rw[<-D6,ĭ]; exact this)]],I,I⟩⟩
  refine ú<|d3 _ _<|YJ λ_ d6=>Rf S 1 [] [(8,.sn)] λS=>Rh<|d6 _ _<|Ô λ_ d7=>?_;have J:=(æ (þ ag ay)).1;obtain⟨gs,gt,gu,cu,f9,cv⟩:=Vp.lQ J (λ_=>I) (i) hi;simp only[Ĉ,Æ,Ŵ,true_and,and_true]at cu;obtain⟨⟨rfl,rfl⟩,rfl⟩:=cu;obtain⟨x0,ap⟩:∃z,s.ns[i]'hi=z:=⟨_,I⟩;rw[ap,show 0+(i)*47=0+i*47+0*47 by omega]at cv;have S:=S.view f9 cv aw;refine š S 7 [.M 0 3,.idx 0 (D-i),.M 2 2] [] [(93,.i (IntKind.i64.wrap (e.depth-x0.depth)))] trivial (hk:=⟨Z,G⟩) λac u d8 S=>Rf S 1 [] [(9,.i (IntKind.i64.wrap (e.depth-x0.depth)))] λS=>Rh<|d7 _ _<|Ô λ_ d9=>YJ λ_ eb=>Rf S 3 [] [(94,.s (some ⟨gb,0+i*47,none⟩) (D-i) (D-i)),(95,.i (D-i:Nat)),(96,.i 0)] λS=>Rh<|eb _ _<|Ě ?_;obtain⟨R,bv⟩:=R.aZ S (à d8);have R:=Un R;refine Vp.loop (ι:=Nat×y9) (λp a' w'=>p.1<=(D-i)∧(True)∧Rw w0 w' [(b2,e.cells),(b,s.cells)] [⟨38,47,p.2,p.1,((((s.ns.drop i).take (D-i)).take p.1).map (nI (IntKind.i64.wrap (e.depth-x0.depth)))).flatMap aj.cells⟩]∧Sx.Ow w0.heap.size (Ob [(b2,e.cells),(b,s.cells)] [⟨38,47,p.2,p.1,((((s.ns.drop i).take (D-i)).take p.1).map (nI (IntKind.i64.wrap (e.depth-x0.depth)))).flatMap aj.cells⟩]) (λW=>∀n∈s.ns,n.oZ w0.heap.size W) w'∧Sx.Ow w0.heap.size (Ob [(b2,e.cells),(b,s.cells)] [⟨38,47,p.2,p.1,((((s.ns.drop i).take (D-i)).take p.1).map (nI (IntKind.i64.wrap (e.depth-x0.depth)))).flatMap aj.cells⟩]) (λW=>kF 38 47 aj.cells w0.heap.size (.s (some ⟨gb,0,none⟩) s.ns.length cap) s.ns W) w'∧Sx.Ow w0.heap.size (Ob [(b2,e.cells),(b,s.cells)] [⟨38,47,p.2,p.1,((((s.ns.drop i).take (D-i)).take p.1).map (nI (IntKind.i64.wrap (e.depth-x0.depth)))).flatMap aj.cells⟩]) (λW=>kF 38 47 aj.cells w0.heap.size (.s a7 (s.ns.take i++s.ns.drop D).length c7) (s.ns.take i++s.ns.drop D) W) w'∧Sx.St w0 a' w' 158 [(0,.q b 0),(1,e.v),(3,.q b2 0),(4,.i 0),(5,.i (nU (keys s.ns) e.id)),(6,.s a7 ((s.ns.take i++s.ns.drop D).length) c7),(7,.s (some ⟨gb,0+i*47,none⟩) (D-i) (D-i)),(8,p.2),(9,.i (IntKind.i64.wrap (e.depth-x0.depth))),(20,.i e.kind),(94,.s (some ⟨gb,0+i*47,none⟩) (D-i) (D-i)),(95,.i (D-i:Nat)),(96,.i p.1)] [(b2,e.cells),(b,s.cells)] []) (λp=>(D-i)-p.1) (0,.sn) ⟨Î _,G,R,(RG (þ ao (Ì ay bv))),(RG (þ ag (Ì ay bv))),(RG (þ ah bv)),S.sn⟩ ?_;rintro⟨k,v⟩ ac u hI;try dsimp only at hI
  obtain⟨hk,hR,R,cw,cx,cy,S⟩:=hI;refine YJ λ_ ed=>Rf S 1 [] [(97,.b ((k:Int)<(((D-i):Nat):Int)))] λS=>Rh<|ed _ _<|Ô λ_ ee=>?_;refine Ā S (λa3=>?_) λa3=>?_
  .refine ú<|ee _ _<|Ô λ_ ef=>Ě<|YJ λ_ eg=>?_;have fq:k<D-i:=by have:=Ý a3; omega
   have br:i+k<s.ns.length:=Z
   have J:=(æ cx).1;obtain⟨gv,gw,gx,a5,ga,cz⟩:=Vp.lQ J (λ_=>I) (i+k) br;simp only[Ĉ,Æ,Ŵ,true_and,and_true]at a5;obtain⟨⟨rfl,rfl⟩,rfl⟩:=a5;obtain⟨y,hy⟩:∃z,s.ns[i+k]'br=z:=⟨_,I⟩;rw[hy,show 0+(i+k)*47=0+i*47+k*47 by omega]at cz;have S:=S.view ga cz aw;refine Rf S 2 [.idx k (D-i),.M 2 0] [(99,y.v)] (hk:=⟨(by have:=Ý a3; omega),G⟩) λS=>Ė S 11 (Sx.L [.i 0,.i 0,.i 0]++Sx.za++Sx.L [.sn,.i 0,.u 0,.i 0,.z,.z,.sn,.i 0,.sn,.i 0,.i 0,.i 0,.i 0,.sn,.i 0,.sn,.i 0,.i 0,.sn,.i 0]) λac u eh ei ej S=>Ğ S 0 (off:=0) (cs:=y.cells) I λu ek S=>Rh<|eg _ _<|YJ λ_ el=>Rf S 5 [.M 0 2] [(103,.i (IntKind.i64.wrap (y.depth+(IntKind.i64.wrap (e.depth-x0.depth))))),(104,.q eh 2)] λS=>Ĺ S 0 (off:=2) (v := .i (IntKind.i64.wrap (y.depth+(IntKind.i64.wrap (e.depth-x0.depth))))) I λu eo S=>Rh<|el _ _<|į<|Rf S 2 [.M 0 0] [(105,v),(106,.agg (Sx.L [.i y.id,.i y.kind,.i (IntKind.i64.wrap (y.depth+(IntKind.i64.wrap (e.depth-x0.depth))))]++y.t.cells++Sx.L [y.cs,.i y.aP,.u (y.dJ.toNat:Int),.i y.blend,.b y.isolated,.b y.dA,y.ps,.i y.aV,y.fs]++y.style.cells++Sx.L [y.ss]++y.img.cells++Sx.L [.i y.cZ]).toArray)] λS=>Ţ S 107 1 (Sx.L [.i y.id,.i y.kind,.i (IntKind.i64.wrap (y.depth+(IntKind.i64.wrap (e.depth-x0.depth))))]++y.t.cells++Sx.L [y.cs,.i y.aP,.u (y.dJ.toNat:Int),.i y.blend,.b y.isolated,.b y.dA,y.ps,.i y.aV,y.fs]++y.style.cells++Sx.L [y.ss]++y.img.cells++Sx.L [.i y.cZ]) λac u gm ep et S=>?_;obtain⟨R,bw⟩:=R.aZ S (Ì (Ĥ ei ej) (Ì (Sx.Stp.Eo ek (by simp[Sx.vb])) (Ì (Sx.Stp.Eo eo (by simp[Sx.vb])) (Ĥ ep et))));refine Ń S R 0 108 I yc (oK (m:=1) (k:=47) (A:=(nI (IntKind.i64.wrap (e.depth-x0.depth)) y).cells) (S.bx 0)) (by show k+1<=9223372036854775807; omega) (by show(k+1)*656<=140737488355328; omega) λac u bd be R S=>Rf S 1 [] [(8,bd)] λS=>Rh<|ef _ _<|į<|Rf S 2 [kS 109 k] [(96,.i (k+1:Nat))] (hk:=⟨ù Z,G⟩) λS=>Rh ?_;have S:=S.gK 2;obtain⟨R,bz⟩:=R.aZ S (ĥ 2);show ∃i',_∧_;exact⟨((k+1),bd),⟨Z,G,R.as (Ñ (λxs=>[(⟨38,47,bd,k+1,xs⟩:Sx.Row)]) (agT br hy fq)),(þ cw (Ì bw (Ì be bz))),(þ cx (Ì bw (Ì be bz))),(þ cy (Ì bw (Ì be bz))),S.sn⟩,by show _-_<_-_; omega⟩
  refine Ļ<|d9 _ _ ?_;obtain rfl:k=D-i:=by have:=é a3; omega
  have fr:=æ (iZ (f:=aj.cells) (L:=((s.ns.drop i).take (D-i)).map (nI (IntKind.i64.wrap (e.depth-x0.depth)))) (λ_=>I) (R.own _ Ö) (by simp; omega) (by rw[Ď (by simp; omega)]));have ft:=(æ cy).1;have bm:0<=e.index∧e.index<=((s.ns.take i++s.ns.drop D).length:Int):=by have:=bc; simp only[Ĕ,Ą]at this; omega
  obtain⟨ax,ar⟩:=ae5 bm.1;refine į<|Rf S 5 [.M 0 2] [(110,.q b 0),(111,.s a7 ((s.ns.take i++s.ns.drop D).length) c7),(113,.i e.index),(114,v)] λS=>?_;have cm:=S.E.size;have fu:=R.lt;refine ģ S (some 115) (DF ft fr (i:=ax) Z (by simp; omega) (by simp; omega) ar) ?_;rintro r u ⟨vi,rfl,az,de⟩;obtain⟨a9,c9,rfl⟩:=Sx.jf az;refine⟨_,I,de,λac S=>?_⟩;have bp:=fK (f:=aj.cells) (λ_=>I) az I I;obtain⟨R,gc⟩:=R.aZ S (à de);have fv:=ď (Sx.aU.ow bp cm fu) λ_ h=>h.le cm;refine Rf S 2 [] [(117,.q b 6)] λS=>Ĺ S 1 (off:=6) (v := .s a9 (((s.ns.take i++s.ns.drop D).take ax++((s.ns.drop i).take (D-i)).map (nI (IntKind.i64.wrap (e.depth-x0.depth)))++(s.ns.take i++s.ns.drop D).drop ax).length) c9) I λu eu S=>Rh<|BA _ _<|YJ λ_ ew=>Rf S 1 [] [(4,.i 0)] λS=>Rh<|ew _ _<|ğ ?_;obtain⟨R,c0⟩:=R.aZ S (Sx.Stp.Eo eu (by simp[Sx.vb]));refine vV S results99 ?_;exact⟨0,⟨s.w,s.h,s.bg,a9,c9,(s.ns.take i++s.ns.drop D).take ax++((s.ns.drop i).take (D-i)).map (nI (IntKind.i64.wrap (e.depth-x0.depth)))++(s.ns.take i++s.ns.drop D).drop ax⟩,I,S.E,S.bx 1,ï (ľ (þ fv c0)) (ď (ľ (þ cw (Ì gc c0))) λ_ h=>Ia (Ib h i D) (ada h i (D-i)) ax ax),Ia (Ib hf i D) (adb hf i (D-i)) ax ax,⟨by rw[show fV (keys s.ns) e.key = .ok (GR (vJ (keys s.ns) i D) ax ((EK (keys s.ns) i D).map λn=>n.moved x0.depth e.depth)) by unfold fV; rw[Á (show(e.key.kind=3)from by simpa[aQ.key]using Cj),show jT (keys s.ns) e.key.id=some i from ae]; simp only; rw[<-al,UQ (by rw[<-D6,ĭ,show e.key.index=e.index from rfl]; omega),show e.key.index.toNat=ax from by rw[show e.key.index=e.index from rfl,ar]; rfl,pJ hi,ap]; rfl]; exact⟨I,by rw[VJ,D6,ac9,agQ],by rw[UQ (λh=>by have:=(show(e.key.kind=3)from by simpa[aQ.key]using Cj); simp only[aQ.key]at this; omega)]⟩,I,I⟩⟩
 refine YJ λ_ ex=>Rf S 2 [] [(118,.b ((e.kind)==4))] λS=>Rh (ex _ _ ?_);refine Ā S (λab=>?_) λab=>?_
 .refine Ô λ_ ey=>?_;obtain⟨R,ca⟩:=R.aZ S (à E7);have J:=(æ (iZ (f:=aj.cells) (L:=s.ns) (λ_=>I) (R.own _ Ö) I I));refine š S 8 [.M 1 6,.re 123 s.s (.s a s.ns.length cap),.M 0 4] [(_,_,true,.i (nU (keys s.ns) e.node.id))] [(127,.i (nU (keys s.ns) e.node.id))] ⟨λu hC g=>Je (id:=e.node.id) (J.below hC),G⟩ (hk:=⟨es,G⟩) λac u cd S=>Rf S 1 [] [(5,.i (nU (keys s.ns) e.node.id))] λS=>Rh<|ey _ _<|Ô λ_ ez=>YJ λ_ e3=>Rf S 2 [] [(129,.b ((nU (keys s.ns) e.node.id)<0))] λS=>Rh (e3 _ _ ?_);refine Ā S (λbh=>?_) (λbh=>?_)
  .refine YJ λ_ e4=>Rf S 1 [] [(4,.i 8)] λS=>Rh<|e4 _ _<|ğ ?_;have ae:=((nY s.ns e.node.id).resolve_right (λ⟨i,h,_⟩=>by have:=Ý bh; omega)).2;obtain⟨R,gd⟩:=R.aZ S (à cd);refine vV S results99 ?_;exact⟨8,s,I,S.E,S.bx 1,(es▸ï (fK (λ_=>I) (R.own _ Ö) I I) (ľ (þ af (Ì Y6 (Ì ca gd))))),hf,⟨by rw[show fV (keys s.ns) e.key = .error 8 by unfold fV jH; rw[UQ (show ¬(e.key.kind=3)from by simpa[aQ.key]using Cj),UQ (show ¬(e.key.kind=1)from by simpa[aQ.key]using fJ),UQ (show ¬(e.key.kind=2)from by simpa[aQ.key]using aa),UQ (show ¬(e.key.kind=3)from by simpa[aQ.key]using Cj),Á (show(e.key.kind=4)from by simpa[aQ.key]using ab),show jT (keys s.ns) e.key.node.id=none from ae]],I,I⟩⟩
  refine ú<|ez _ _<|Ô λ_ e5=>Ô λ_ e6=>?_;obtain⟨i,ai,ae,hi⟩:=(nY s.ns e.node.id).resolve_left (λh=>by have:=é bh; omega);obtain⟨R,da⟩:=R.aZ S (à cd);obtain⟨gb,rfl,aw⟩:=KJ R Z;have J:=(æ (iZ (f:=aj.cells) (L:=s.ns) (λ_=>I) (R.own _ Ö) I I));obtain⟨gz,g0,g1,db,ge,dd⟩:=Vp.lQ J (λ_=>I) (i) hi;simp only[Ĉ,Æ,Ŵ,true_and,and_true]at db;obtain⟨⟨rfl,rfl⟩,rfl⟩:=db;obtain⟨x0,ap⟩:∃z,s.ns[i]'hi=z:=⟨_,I⟩;rw[ap,show 0+(i)*47=0+i*47 by omega]at dd;have S:=S.view ge dd aw;refine š S 12 [.M 0 6,.M 1 6,.re 136 s.s (.s (some ⟨gb,0,none⟩) s.ns.length cap),.re 137 (.i (nU (keys s.ns) e.node.id)) (.i i),.idx i s.ns.length,.M 2 2] [] [(141,.b ((e.node.depth) != x0.depth))] trivial (hk:=⟨es,(Ñ _ ai),hi,G⟩) λac u ce S=>Rh (e6 _ _ ?_);refine Ā S (λbj=>?_) λbj=>?_
  .refine YJ λ_ e8=>Rf S 1 [] [(4,.i 2)] λS=>Rh<|e8 _ _<|ğ ?_;obtain⟨R,gf⟩:=R.aZ S (à ce);refine vV S results99 ?_;exact⟨2,s,I,S.E,S.bx 1,(es▸ï (fK (λ_=>I) (R.own _ Ö) I I) (ľ (þ af (Ì Y6 (Ì ca (Ì da gf)))))),hf,⟨by rw[show fV (keys s.ns) e.key = .error 2 by unfold fV jH; rw[UQ (show ¬(e.key.kind=3)from by simpa[aQ.key]using Cj),UQ (show ¬(e.key.kind=1)from by simpa[aQ.key]using fJ),UQ (show ¬(e.key.kind=2)from by simpa[aQ.key]using aa),UQ (show ¬(e.key.kind=3)from by simpa[aQ.key]using Cj),Á (show(e.key.kind=4)from by simpa[aQ.key]using ab),show jT (keys s.ns) e.key.node.id=some i from ae]; simp only; rw[pJ hi,ap,Á (by simpa[aQ.key,aj.key]using bj)]],I,I⟩⟩
  refine ú<|e5 _ _ ?_;obtain⟨R,gg⟩:=R.aZ S (à ce);have cn:=S.E.size;have fw:=R.lt;refine sH S 9 [(149,λv w1=>∃m:aj,v=m.v∧m.cp u.heap.size w1∧m.strip=e.node.strip)] (λr=>[.M 1 6,.re 145 s.s (.s (some ⟨gb,0,none⟩) s.ns.length cap),.re 146 (.i (nU (keys s.ns) e.node.id)) (.i i),.M 0 4,.idx i s.ns.length]) (λx=>[x 149]) (λx=>[(_,_,true,x 149,149)]) [[]] (λx=>[(149,x 149),(150,.pointer (some ⟨gb,0+i*47,none⟩))]) ⟨λ_ _ _ k h=>by obtain⟨m,e,h,q⟩:=h; exact⟨m,e,h.ext k,q⟩,G⟩ (λx=>⟨by intro u hC g F; exact(clone_any (he.2.2.2.2.1.below (Ip S.E hC)) a4).mono λe w2 h=>by obtain⟨m,rfl,hx,hs,hb⟩:=h; exact⟨_,I,⟨m,I,Dy hx hC.size,hs⟩,hb⟩,G⟩) (λac u x fa F S=>?_) (hk:=λr=>⟨es,(Ñ _ ai),hi,G⟩);obtain⟨gh,-⟩:=F;obtain⟨m,em,hm,av⟩:=gh;rw[em]at S;obtain⟨R,gi⟩:=R.aZ S (à fa);have fy:=ď (Sx.aU.ow hm cn fw) λ_ h=>BL h cn;refine Uh S R 0 (off:=0+i*47) (cs:=m.cells) I I (by show 0+i*47+47<=_; rw[jB (f:=aj.cells) (k:=47) (λ_=>I)]; omega) λu cf R S=>?_;have R:=R.as (Ñ (λxs=>[(⟨38,47,.s (some ⟨gb,0,none⟩) s.ns.length cap,s.ns.length,xs⟩:Sx.Row)]) (agR hi m));refine Rh<|BA _ _<|YJ λ_ fb=>Rf S 1 [] [(4,.i 0)] λS=>Rh<|fb _ _<|Qm S results99 ?_;exact⟨0,⟨s.w,s.h,s.bg,s.nsa,s.nsc,s.ns.set i m⟩,I,S.E,(by rw[ade]; exact S.bx 1),ï (by show Sx.On _ (kF _ _ _ _ (aB.s ⟨s.w,s.h,s.bg,s.nsa,s.nsc,s.ns.set i m⟩) (s.ns.set i m)) _; rw[alC,es]; exact fK (λ_=>I) (R.own _ Ö) Y I) (ď (ï (ľ (þ af (Ì Y6 (Ì ca (Ì da (Ì gg (Ì gi cf))))))) (ľ (þ fy cf))) λ_ h=>aa3 h.1 h.2 i),aa3 hf (vS ⟨he.2.2.2.2.2,a4⟩ av) i,⟨by rw[show fV (keys s.ns) e.key = .ok ((keys s.ns).set i e.node.key) by unfold fV jH; rw[UQ (show ¬(e.key.kind=3)from by simpa[aQ.key]using Cj),UQ (show ¬(e.key.kind=1)from by simpa[aQ.key]using fJ),UQ (show ¬(e.key.kind=2)from by simpa[aQ.key]using aa),UQ (show ¬(e.key.kind=3)from by simpa[aQ.key]using Cj),Á (show(e.key.kind=4)from by simpa[aQ.key]using ab),show jT (keys s.ns) e.key.node.id=some i from ae]; simp only; rw[pJ hi,ap,UQ (by simpa[aQ.key,aj.key]using bj)]; rfl]; exact⟨I,by simp[keys,BK av],by rw[UQ (λh=>by have:=(show(e.key.kind=4)from by simpa[aQ.key]using ab); simp only[aQ.key]at this; omega)]⟩,I,I⟩⟩
 refine YJ λ_ fc=>Rf S 2 [] [(151,.b ((e.kind)==5))] λS=>Rh (fc _ _ ?_);refine Ā S (λbk=>?_) λbk=>?_
 .refine į<|Rf S 5 [.M 0 51] [(155,.agg e.color.cells.toArray),(157,.q b 2)] λS=>Ğ S 1 (off:=2) (cs:=e.color.cells) I λu fd S=>Rh<|BA _ _<|YJ λ_ fe=>Rf S 1 [] [(4,.i 0)] λS=>Rh<|fe _ _<|ğ ?_;obtain⟨R,gj⟩:=R.aZ S (Ì (à E7) (Sx.Stp.Eo fd (by simp[Sx.vb])));refine vV S results99 ?_;exact⟨0,⟨s.w,s.h,e.color,s.nsa,s.nsc,s.ns⟩,I,S.E,S.bx 1,(es▸ï (fK (λ_=>I) (R.own _ Ö) I I) (ľ (þ af (Ì Y6 gj))):fF _ s.s _ _),hf,⟨by rw[show fV (keys s.ns) e.key = .ok (keys s.ns) by unfold fV jH; rw[UQ (show ¬(e.key.kind=3)from by simpa[aQ.key]using Cj),UQ (show ¬(e.key.kind=1)from by simpa[aQ.key]using fJ),UQ (show ¬(e.key.kind=2)from by simpa[aQ.key]using aa),UQ (show ¬(e.key.kind=3)from by simpa[aQ.key]using Cj),UQ (show ¬(e.key.kind=4)from by simpa[aQ.key]using ab)]]; exact⟨I,I,by rw[Á (by simpa using bk)]⟩,I,I⟩⟩
 refine ú<|BA _ _<|YJ λ_ ff=>Rf S 1 [] [(4,.i 0)] λS=>Rh<|ff _ _<|ğ ?_;obtain⟨R,gk⟩:=R.aZ S (à E7);refine vV S results99 ?_;exact⟨0,s,I,S.E,S.bx 1,(es▸ï (fK (λ_=>I) (R.own _ Ö) I I) (ľ (þ af (Ì Y6 gk)))),hf,⟨by rw[show fV (keys s.ns) e.key = .ok (keys s.ns) by unfold fV jH; rw[UQ (show ¬(e.key.kind=3)from by simpa[aQ.key]using Cj),UQ (show ¬(e.key.kind=1)from by simpa[aQ.key]using fJ),UQ (show ¬(e.key.kind=2)from by simpa[aQ.key]using aa),UQ (show ¬(e.key.kind=3)from by simpa[aQ.key]using Cj),UQ (show ¬(e.key.kind=4)from by simpa[aQ.key]using ab)]]; exact⟨I,I,by rw[UQ (by simpa using bk)]⟩,I,I⟩⟩
abbrev adg{B:Nat}{D u2 S:E5}{m:aB}(h:m.own B D)(hE:Ext D u2)(hC:Ch b u2 S)(J:b<B∨D.heap.size<=b) :
  m.own B S∧m.s.ownBlock≠some b∧Sx.On (λi=>B<=i∧i≠b∧m.s.ownBlock≠some i) (λW=>∀n∈m.ns,n.oZ B W) S:=by
 have D:=Sx.dF h.row hE;have J:m.s.ownBlock≠some b:=λe=>by have:=iQ h.row e; omega
 have hn:Sx.On (λi=>B<=i∧i≠b∧m.s.ownBlock≠some i) (λW=>∀n∈m.ns,n.oZ B W) S:=λw' S hk =>
  h.nodes w' (ä (ä hE.size hC.size) S) λk h1 h2=>by
   have S:k≠b:=Z
   have h3:k<u2.heap.size:=ö h1 hE.size
   exact((hk k (ö h3 hC.size) ⟨h2.1,S,h2.2⟩).trans (hC.block k h3 λe=>S (Ò e))).trans (hE.block k h1)
 exact⟨⟨mZ D λg S=>hC.block g (iQ D S).2 λe=>J (S.trans e),hn.mono λi D=>⟨D.1,D.F⟩⟩,J,hn⟩
abbrev own_base{B D:Nat}{u:E5}{m:aB}(hB:D<=B)(h:m.own B u∧m.s.ownBlock≠some b∧Sx.On (λi=>B<=i∧i≠b∧m.s.ownBlock≠some i) (λW=>∀n∈m.ns,n.oZ B W) u) :
  m.own D u∧m.s.ownBlock≠some b∧Sx.On (λi=>D<=i∧i≠b∧m.s.ownBlock≠some i) (λW=>∀n∈m.ns,n.oZ D W) u:=
 ⟨⟨bF h.1.row hB,(h.1.nodes.mono λi D=>⟨ä hB D.1,D.2⟩).imp λ_ k n hn=>BL (k n hn) hB⟩,h.2.1,(h.F.mono λi D=>⟨ä hB D.1,D.2⟩).imp λ_ k n hn=>BL (k n hn) hB⟩
def Zo(base:Nat)(K:Nat)(s:aB)(e:aQ)(code:Int)(t:aB)(w:E5):Prop:=
 (t.key,code)=fE s.key e.key∧fF base t.s t.ns w∧bQ K w t∧∀n∈t.ns,n.xZ K
abbrev sV{base:Nat}{w:E5}(h:fE s.key e.key=(.zero,code)):Zo base K s e code .zero w:=
 ⟨h.symm,ï (fK (f:=aj.cells) (L:=[]) (λ_=>I) ⟨I,.inl ⟨I,I⟩⟩ I I) (λ_ _ _ n hn=>by cases hn),Jb w,λn hn=>(by cases hn)⟩
abbrev akc{m:aB}(hd:I64 e.depth)(D:s.key.valid=true)(hn:e.key.named=true)(hk:keys m.ns=keys s.ns)(J:agN m e code t)(S:code≠0):fE s.key e.key=(.zero,code):=by
 rw[<-Oc hd];unfold Qk;rw[UQ (by simp[D]),UQ (by simp[hn])];have D:=J.1;rw[hk]at D;rw[show s.key.ns=keys s.ns from rfl];cases hp:fV (keys s.ns) e.key with
 | error n=>rw[hp]at D; rw[show code=n from D]
 | ok l=>rw[hp]at D; exact absurd D.1 S
abbrev agZ{m:aB}(hd:I64 e.depth)(D:s.key.valid=true)(hn:e.key.named=true)(hk:keys m.ns=keys s.ns)(J:m.w=s.w∧m.h=s.h∧m.bg=s.bg)(S:agN m e 0 t)(aa:∀n,fV (keys s.ns) e.key = .error n->n≠0):fE s.key e.key=if t.key.chk.1=0 then (t.key,0)else (.zero,t.key.chk.1):=by
 rw[<-Oc hd];unfold Qk;rw[UQ (by simp[D]),UQ (by simp[hn])];have D:=S.1;rw[hk]at D;rw[show s.key.ns=keys s.ns from rfl];cases hp:fV (keys s.ns) e.key with
 | error n=>rw[hp]at D; exact absurd D.symm (aa n hp)
 | ok l =>
  rw[hp]at D;have ht:s.key.with' e.key l=t.key:=by
   unfold bG.with' aB.key;rw[S.2.1,S.F,D.F,<-D.2.1,J.1,J.2.1,J.F];rfl
  simp only[ht]
abbrev KL{l:List aO}{e:bY}{n:Int}(h:fV l e = .error n):n≠0:=by
 unfold fV jH at h;(repeat' split at h)<;>first | (cases h; decide) | cases h
abbrev VK{w:E5}(h:bQ K w s)(hg:bU w)(he:gU K w e)(ah:∀n∈s.ns,n.lim)(a8:e.node.lim) :
  Nq prog 62 #[s.v,e.v] w λr w'=>∃(t:aB) (code:Int),r = .R (.tuple #[t.v,.i code])∧Zo w.heap.size K s e code t w'∧Ext w w':=by
 skip;refine Ä func62 ntmps62 λS=>Â S λu b2 J D S=>Â S λu b5 J D S=>Â S λu b8 D J S=>O1 S 2 [] [.M 2 0] λS=>ð S (xU (h.below S.E) (hg.below S.E)) λu D S=>À S (!s.key.valid) (λRu S=>?_) λRu S=>?_
 .refine É S 0 I λu D S=>Kt S 0 I (v := .agg (aB.cells .zero).toArray) (u := .i 18) (λS=>⟨.zero,_,I,sV (by unfold fE; rw[Á (by simpa using Ru)]),S.E⟩)
 refine O1 S 1 [] [.M 1 0] λS=>ð S (acZ (he.below S.E)) λu D S=>À S (!e.key.named) (λrO S=>?_) λrO S=>?_
 .refine É S 0 I λu D S=>Kt S 0 I (v := .agg (aB.cells .zero).toArray) (u := .i 2) (λS=>⟨.zero,_,I,sV (by unfold fE; rw[UQ (by have:=Ru; simp at this; simp[this]),Á (by simpa using rO)]),S.E⟩)
 have ab:=S.E;have aa:=(S.bx 0).1;have aq:=(S.bx 1).1;have ar:=(S.bx 2).1;obtain⟨wc,J⟩:∃z:E5,z=u:=⟨_,I⟩;rw[<-J]at ab aa aq ar;have D:Ext wc u:=J▸å;have hv:s.key.valid=true:=by simpa using Ru
 have ai:e.key.named=true:=by simpa using rO
 have J:s.ns.length<=64:=by have:=(bG.lY.1 hv).2.1; rwa [show s.key.ns.length=s.ns.length from ĭ ..]at this
 have az:=(D).size;refine O1 S 1 [] [.M 2 0] λS=>ê S (sJ (h.below S.E) ah Z) ?_;rintro e u ⟨m,rfl,a4,af,J,a5,a6,ED⟩;refine⟨_,I,ED,λS=>?_⟩;have a9:=((Ip D ED)).size;refine Â S λu av WV IY S=>?_;have a3:wc.heap.size<=av:=Z
 refine É S 0 I λu SH S=>?_;have zW:=È (Ip ED WV) SH (by have:=ED.size; omega);have J:=And.intro J (And.intro a5 a6);have al:=(own_base az (adg a4 WV SH (.inr (ϛ IY.symm))));have bb:m.ns.length=s.ns.length:=by have:=Ñ List.length af; simpa using this
 refine O1 S 1 [] [.M 2 0] λS=>è S λS=>NU S (some 19) ab ((Ip D zW)) (λp hp=>by rcases Ù.1 hp with rfl | hp; exact aa; rcases Ù.1 hp with rfl | hp; exact aq; rcases Ù.1 hp with rfl | hp; exact ar; cases hp) (Zm (K:=K) (w0:=wc) ((Ip D zW)) (S.kV 0) a3 al.1 al.2.1 al.F (λn hn=>⟨fits_all af (λn hn=>(h.N n hn).2) n hn,vP af ah n hn⟩) (he.below ab) a8 Z) ?_;rintro r u ⟨code,t,rfl,a7,hX,ag,ap,D⟩;refine⟨_,t.cells,I,a7,hX,λac S=>?_⟩;refine ť S λS=>?_;have ae:I64 t.w∧I64 t.h:=by rw[D.2.1,D.F,J.1,J.2.1]; exact⟨h.1,h.2.1⟩
 have am:keys m.ns=keys s.ns:=vO af;refine À S ((code)==0) (λDY S=>?_) λDY S=>?_
 .refine O1 S 1 [] [.M 0 0] λS=>ð S (FP (K:=K) (s:=t) ⟨ae.1,ae.2,fF.ok (ag) λn hn=>(ap n hn).1⟩ (hg.below S.E)) λu Tt S=>À S ((t.key.chk.1) != 0) (λG6 S=>?_) (λG6 S=>?_)
  .refine É S 1 I λu aw S=>?_;have S:=S.fl;have Jk:=aU.ch (Ü ag Tt) aw aa;have an:code=0:=by simpa using DY
   have ao:=agZ he.C hv ai am J (an▸D) λn h=>KL h;refine Kt S 1 I (v := .agg (aB.cells .zero).toArray) (u := .i t.key.chk.1) (λS=>⟨.zero,_,I,sV (by rw[ao,UQ (by simpa using G6)]),S.E⟩)
  refine O1 S 1 [] [.M 0 0] λS=>É S 1 I λu ax S=>?_;have vN:=aU.ch (Ü ag Tt) ax aa;have an:code=0:=by simpa using DY
  have ao:=agZ he.C hv ai am J (an▸D) λn h=>KL h;refine Kt S 1 I (v := .agg (aB.cells t).toArray) (u := .i 0) (λS=>⟨t,_,I,⟨by rw[ao,Á (by simpa using G6)],fF.le (vN) ab.size,⟨ae.1,ae.2,fF.ok (vN) λn hn=>(ap n hn).1⟩,ap⟩,S.E⟩)
 have J:((code) != 0)=true:=by have:=DY; simpa using this
 refine À S ((code) != 0) (λXA S=>?_) λXA S=>?_
 .refine É S 1 I λu ay S=>?_;have MR:=aU.ch ag ay aa;refine Kt S 1 I (v := .agg (aB.cells .zero).toArray) (u := .i code) (λS=>⟨.zero,_,I,sV (akc he.C hv ai am D (by simpa using J)),S.E⟩)
 rw[J]at XA; cases XA
end
section
variable{K:Nat}
structure HK where
 ss:List bG
 es:List bY
 k:Nat
def HK.now(h:HK):bG:=(h.ss[h.k]?).getD .zero
noncomputable def HK.put(h:HK)(e:bY):HK×Int:=if (fE h.now e).2=0 then (⟨h.ss.take (h.k+1)++[(fE h.now e).1],h.es.take h.k++[e],h.k+1⟩,0)else (h,(fE h.now e).2)
noncomputable def HK.app(h:HK)(e:bY):HK×Int:=if h.k=256 then (h,5)else h.put e
def HK.undo(h:HK):HK×Int:=if h.k=0 then (h,20)else (⟨h.ss,h.es,h.k-1⟩,0)
def HK.redo(h:HK):HK×Int:=if h.k=h.es.length then (h,20)else (⟨h.ss,h.es,h.k+1⟩,0)
structure HK.Ok (h:HK):Prop where
 hs:Hs h.ss h.es
 k:h.k<=h.es.length
 most:h.es.length<=256
abbrev HK.Ok.at{h:HK}(o:h.Ok):h.ss[h.k]?=some h.now:=by
 have:=o.hs.len;have:=o.k;unfold HK.now;rw[List.getElem?_eq_getElem Z]; rfl
abbrev HK.Ok.put{h:HK}(o:h.Ok)(hk:h.k≠256)(e:bY):(h.put e).1.Ok:=by
 unfold HK.put;have hl:=o.k;have D:=o.most;split
 .rename_i ha;exact⟨Hs.put o.hs o.at (Prod.ext I ha),(by show h.k+1<=(h.es.take h.k++[e]).length; simp; omega),(by show(h.es.take h.k++[e]).length<=256; simp; omega)⟩
 exact o
abbrev HK.Ok.undo{h:HK}(o:h.Ok):h.undo.1.Ok:=by
 unfold HK.undo;have:=o.k;split
 .exact o
 exact⟨o.hs,(by show h.k-1<=h.es.length; omega),o.most⟩
abbrev HK.Ok.redo{h:HK}(o:h.Ok):h.redo.1.Ok:=by
 unfold HK.redo;have:=o.k;split
 .exact o
 exact⟨o.hs,(by show h.k+1<=h.es.length; omega),o.most⟩
structure HD where
 sa:Option Ć
 sc:Nat
 ss:List aB
 ea:Option Ć
 ec:Nat
 es:List aQ
 k:Nat
def HD.cells(H:HD):List y9:=[.s H.sa H.ss.length H.sc,.s H.ea H.es.length H.ec,.i H.k,.b true]
def HD.key(H:HD):HK:=⟨H.ss.map aB.key,H.es.map aQ.key,H.k⟩
def HD.row(K:Nat)(H:HD)(W:E5):Prop:=(aG 7 aB.cells W (.s H.sa H.ss.length H.sc) H.ss∧∀s∈H.ss,bQ K W s)∧aG 55 aQ.cells W (.s H.ea H.es.length H.ec) H.es∧∀e∈H.es,gU K W e
structure HD.Ok (K:Nat) (H:HD):Prop where
 k:H.key.Ok
 s:∀s∈H.ss,∀n∈s.ns,n.xZ K
 e:∀e∈H.es,e.node.xZ K
abbrev HD.mem (K c b:Nat)(H:HD)(w:E5):Prop:=Sx.On (λi=>c<=i∧i≠b) (H.row K) w
abbrev HD.Ok.len{H:HD}(h:H.Ok K):H.ss.length=H.es.length+1:=by have:=h.k.hs.len; unfold HD.key at this; simpa using this
abbrev HD.Ok.le{H:HD}(h:H.Ok K):H.k<=H.es.length∧H.es.length<=256:=by
 have D:=h.k.k;have J:=h.k.most;unfold HD.key at D J;simp only[ĭ]at D J;exact⟨D,J⟩
abbrev HD.Ok.lt{H:HD}(h:H.Ok K):H.k<H.ss.length:=by have:=h.len; have:=h.le; omega
abbrev K11{H:HD}(hk:H.k<H.ss.length):H.key.now=(H.ss[H.k]).key:=by
 unfold HK.now HD.key;simp only[List.getElem?_map,List.getElem?_eq_getElem hk]; rfl
abbrev HD.Ok.val{H:HD}(h:H.Ok K){s:aB}(D:s∈H.ss):s.key.valid=true:=h.k.hs.val _ (ô.2 ⟨s,D,I⟩)
abbrev KN{s:aB}(h:s.key.valid=true):s.ns.length<=64:=by
 have:=(bG.lY.1 h).2.1;rwa [show s.key.ns.length=s.ns.length from ĭ ..]at this
abbrev HD.Ok.put{H:HD}(h:H.Ok K)(hk:H.k≠256){t:aB}{d:aQ}{e:bY}(D:(t.key,(0:Int))=fE (H.ss[H.k]'h.lt).key e)(hd:d.key=e)(ht:∀n∈t.ns,n.xZ K)(S:d.node.xZ K)(sa ea:Option Ć)(sc ec:Nat) :
  HD.Ok K ⟨sa,sc,H.ss.take (H.k+1)++[t],ea,ec,H.es.take H.k++[d],H.k+1⟩∧(HD.key ⟨sa,sc,H.ss.take (H.k+1)++[t],ea,ec,H.es.take H.k++[d],H.k+1⟩,(0:Int))=H.key.put e:=by
 rw[<-K11 h.lt]at D;have e1:(HD.key ⟨sa,sc,H.ss.take (H.k+1)++[t],ea,ec,H.es.take H.k++[d],H.k+1⟩,(0:Int))=H.key.put e:=by
  unfold HK.put;rw[<-D];simp[HD.key,hd]
 refine⟨⟨?_,λs D=>?_,λx J=>?_⟩,e1⟩
 .have:=h.k.put hk e;rw[<-e1]at this;exact this
 .rcases ā.1 D with D | D
  .exact h.s s (ŝ D)
  rw[û.1 D]; exact ht
 rcases ā.1 J with J | J
 .exact h.e x (ŝ J)
 rw[û.1 J]; exact S
abbrev HK.ag1{h:HK}{t:bG}{n:Int}{e:bY}(D:(t,n)=fE h.now e)(hn:n≠0):(h,n)=h.put e:=by
 unfold HK.put;rw[<-D,UQ hn]
abbrev HD.akd{H:HD}{B:Nat->Prop}{b:Nat}{w:E5}{t:aB}{d:aQ}{sa ea:Option Ć}{sc ec:Nat}(hm:Sx.On (λi=>B i∧i≠b) (H.row K) w)
  (hr:Sx.On (λi=>B i∧i≠b) (λW=>aG 7 aB.cells W (.s sa (H.ss.take (H.k+1)++[t]).length sc) (H.ss.take (H.k+1)++[t])) w) (ht:Sx.On (λi=>B i∧i≠b) (λW=>bQ K W t) w)
  (D:Sx.On (λi=>B i∧i≠b) (λW=>aG 55 aQ.cells W (.s ea (H.es.take H.k++[d]).length ec) (H.es.take H.k++[d])) w) (hd:Sx.On (λi=>B i∧i≠b) (λW=>gU K W d) w) :
  Sx.On (λi=>B i∧i≠b) (HD.row K ⟨sa,sc,H.ss.take (H.k+1)++[t],ea,ec,H.es.take H.k++[d],H.k+1⟩) w:=by
 refine ď (ï hm (ï hr (ï ht (ï D hd)))) λW ⟨⟨⟨_,S⟩,_,o2⟩,J,q2,q3,q4⟩=>⟨⟨J,λs D=>?_⟩,q3,λx J=>?_⟩
 .rcases ā.1 D with D | D
  .exact S s (ŝ D)
  rw[û.1 D]; exact q2
 rcases ā.1 J with J | J
 .exact o2 x (ŝ J)
 rw[û.1 J]; exact q4
abbrev K09{H:HD}{c b:Nat}{w w':E5}(hm:H.mem K c b w)(D:Ch b w w'):H.mem K c b w':=λw2 S hk=>hm w2 (ä D.size S) λi J hB=>(hk i (ö J D.size) hB).trans (D.block i J (λe=>by simp only[Æ]at e; exact hB.2 e))
abbrev HD.ake{H:HD}{c b x:Nat}{w w':E5}(hm:H.mem K c b w)(D:Ch x w w')(J:x<c):H.mem K c b w':=λw2 S hk=>hm w2 (ä D.size S) λi J hB=>(hk i (ö J D.size) hB).trans (D.block i J (λe=>by simp only[Æ]at e; have:=hB.1; omega))
abbrev O8{l m:List ak}(h:l.map ak.key=m.map ak.key)(hf:∀p∈l,p.t.fit K)(D:K<=10000)(S:∀p∈m,p.lim):∀p∈l,p.lim:=λp J=>by
 have D:p.key∈m.map ak.key:=h▸ô.2 ⟨p,J,I⟩;obtain⟨q,D,e⟩:=ô.1 D;have hl:=S q D;have D:=Ñ (λx:jo=>x.stops.length) e;have S:=Ñ (λx:jo=>x.img.l.length) e;exact⟨(show q.stops.length=p.stops.length from D)▸hl.1,(show q.img.l.length=p.img.l.length from S)▸hl.2.1,(hf p J).up Z⟩
abbrev aa4{n m:aj}(h:n.key=m.key)(hf:n.Qx K)(S:m.lim):n.lim:=by
 have D:n.clip.length=m.clip.length:=Ñ (λx:aO=>x.clip.length) h;have D:n.path.length=m.path.length:=Ñ (λx:aO=>x.path.length) h;have D:n.fill.map ak.key=m.fill.map ak.key:=Ñ aO.fill h;have J:n.stroke.map ak.key=m.stroke.map ak.key:=Ñ aO.stroke h;have e5:n.style.dash.length=m.style.dash.length:=Ñ (λx:aO=>x.style.dash.length) h;have e6:n.img.l.length=m.img.l.length:=Ñ (λx:aO=>x.img.l.length) h;have e7:n.fill.length=m.fill.length:=by simpa using Ñ List.length D
 have e8:n.stroke.length=m.stroke.length:=by simpa using Ñ List.length J
 obtain⟨k1,k2,k3,k4,k5,k6,k7,k8,k9⟩:=S;obtain⟨f1,f2,f3,f4,S⟩:=hf;exact⟨f1.up Z,Z,Z,Z,O8 D f2 S k5,Z,Z,O8 J f3 S k8,Z⟩
abbrev ag2{l m:List aj}(h:l.map aj.key=m.map aj.key)(J:∀n∈l,n.Qx K)(S:∀n∈m,n.lim):∀n∈l,n.lim:=λn hn=>by
 have D:n.key∈m.map aj.key:=h▸ô.2 ⟨n,hn,I⟩;obtain⟨q,D,e⟩:=ô.1 D;exact aa4 e.symm (J n hn) (S q D)
end
section
variable{α:Type}{K base:Nat}{w w':E5}{e0:Ð}
def Sp(e0:Ð)(w w':E5):Prop:=w.heap.size<=w'.heap.size∧∀(g:Nat) (D:Array y9) (e:Ð),e≠e0->w.heap[g]?=some (.cells D e (0,0))->w'.heap[g]?=w.heap[g]?
variable{v:y9}{e:Ð}{k:Nat}{f:α->List y9}
abbrev D7{n:Nat}(he:e≠e0)(h:Sx.Ty e k base v n w)(hs:Sp e0 w w'):Sx.Ty e k base v n w':=by
 rcases h with h | ⟨g,cap,D,S,h2,J,h4⟩
 .exact .inl h
 exact .inr ⟨g,cap,D,S,h2,(hs.2 g D e he J).trans J,h4⟩
abbrev Cm{L:List α}(he:e≠e0)(h:aG k f w v L)(ht:Sx.Ty e k base v L.length w)(hs:Sp e0 w w'):aG k f w' v L:=by
 obtain⟨a,cap,rfl,D,S⟩:=h;refine⟨a,cap,I,D,?_⟩;rcases S with S | ⟨b,o,rfl,J,hl,D⟩
 .exact .inl S
 rcases ht with S | ⟨g,cap',aa,h1,h2,h3,h4⟩
 .have hL:=Ś S;subst hL;exact .inr ⟨b,o,I,ö J hs.1,hl,λi S=>absurd S (Nat.not_lt_zero _)⟩
 simp only[Ĉ,Æ,Ŵ,and_true,true_and]at h1;obtain⟨⟨rfl,rfl⟩,rfl⟩:=h1;exact .inr ⟨b,0,I,ö J hs.1,hl,λi S j hj=>(World.cell?_of_block (a:=⟨b,0+i*k+j,none⟩) (hs.2 b aa e he h3)).trans (D i S j hj)⟩
abbrev aa5{L:List α}(D:e≠e0)(h:kF e k f base v L w)(J:Sp e0 w w'):kF e k f base v L w':=⟨Cm D h.1 h.2 J,D7 D h.2 J⟩
abbrev KO{f:α->y9}{L:List α}(D:e≠e0)(h:dG f w v L)(J:Sx.Ty e 1 base v L.length w)(S:Sp e0 w w'):dG f w' v L:=dP (Cm D (eU h) J S)
def ϑ(e0:Ð):Prop:=119≠e0∧202≠e0∧178≠e0∧133≠e0∧163≠e0∧3≠e0∧38≠e0
instance:Decidable (ϑ e0):=by unfold ϑ; infer_instance
abbrev Fh{r:bH}(D:ϑ e0)(h:r.oZ base w)(J:Sp e0 w w'):r.oZ base w':=⟨⟨KO D.1 h.1.1 h.2.1 J,KO D.1 h.1.2 h.F J⟩,D7 D.1 h.2.1 J,D7 D.1 h.F J⟩
abbrev ag3{t:bD}(D:ϑ e0)(h:t.oZ base w)(J:Sp e0 w w'):t.oZ base w':=⟨Fh D h.1 J,Fh D h.2.1 J,Fh D h.D J,Fh D h.C J,Fh D h.A J,Fh D h.J J⟩
abbrev ag4{p:ak}(J:ϑ e0)(h:p.oZ base w)(S:Sp e0 w w'):p.oZ base w':=by
 obtain⟨ho,t1,t2,ht⟩:=h;have D:=ag3 J ht S;refine⟨?_,D7 J.2.1 t1 S,D7 J.D t2 S,D⟩;unfold ak.ok at *;simp only[dH.ok]at *;obtain⟨a1,a2,a3,a4,a5,a6,a7,a8,a9,aa⟩:=ho;exact⟨a1,a2,a3,a4,Cm J.2.1 a5 t1 S,a6,a7,⟨a8.1,a8.2.1,Cm J.D a8.F t2 S⟩,a9,D.ok⟩
abbrev O9{l:List ak}(D:ϑ e0)(h:kU base w v l)(J:Sp e0 w w'):kU base w' v l:=⟨aa5 D.C h.1 J,λp S=>ag4 D (h.2 p S) J⟩
abbrev akf{n:aj}(D:ϑ e0)(h:n.oZ base w)(J:Sp e0 w w'):n.oZ base w':=by
 obtain⟨ho,t,c,p,f,s,d,m⟩:=h;have S:=ag3 D t J;have f':=O9 D f J;have s':=O9 D s J;refine⟨?_,S,D7 D.A c J,D7 D.A p J,f',s',D7 D.S d J,D7 D.D m J⟩;unfold aj.ok at *;simp only[dH.ok,aX.ok]at *;obtain⟨h1,h2,h3,h4,h5,h6,h7,h8,h9,aa,⟨s1,s2,s3,s4,s5,s6,s7⟩,ab,⟨i1,i2,i3⟩,I5⟩:=ho;exact⟨h1,h2,h3,S.ok,⟨Cm D.A h5.1 c J,h5.2⟩,h6,h7,⟨Cm D.A h8.1 p J,h8.2⟩,h9,f'.ok,⟨s1,s2,s3,s4,KO D.S s5 d J,s6,s7⟩,s'.ok,⟨i1,i2,Cm D.D i3 m J⟩,I5⟩
abbrev adh{l:List aj}(D:ϑ e0)(h:EO base v l w)(J:Sp e0 w w'):EO base v l w':=⟨aa5 D.2.2.2.2.2.2 h.1 J,λn hn=>akf D (h.2 n hn) J⟩
open Go.Sx Go.Rel in
abbrev _root_.Go.Sx.adi{P:Program}{w:E5}{os:List Oper}{i:Nat}{o:Oper}{ρ:Operand->y9}(J:os[i]?=some o)(hs:Std ρ)(l:List (Nat×y9))(hl:∀q v,l.lookup q=some v->ρ (.tmp q)=v)(A:List y9)(ty:Ð){Post:y9->E5->Prop}(hT:∀b w',w.heap.size<=b->w'.heap[b]?=some (.cells A.toArray ty (0,0))->Bx w' b A.toArray->Ext w w'->Post (.pointer (some ⟨b,0,Option.none⟩)) w')
  (D:∀r,((os[i]?).bind λo=>xC P r [o] l).map (λq=>(q.1,q.2.1,q.2.2.1,q.2.2.2.isSome))=some (A,ty,Ρ Option.none r,true):=by intro r; kernel_rfl):Does P o ρ w Post:=by
 have D:=D w.heap.size;rw[J,Α]at D;unfold xC at D;simp only at D;split at D
 .rename_i A' ty' k' hg hav hev;split at D
  .rename_i v hv;simp only[ě,Æ,Ê]at D;obtain⟨rfl,rfl,rfl,hd⟩:=D;simp only[Ĕ]at hav;have hH:Holds ρ (lift l):=λq x S=>by
    rw[ku]at S;cases J:l.lookup q with
    | none=>simp[J]at S
    | some u =>
     simp only[J,ě,Æ]at S;subst S;rw[hl q u J]; rfl
   have hc:execOp ρ o=execOp (zQ (lift l) []) o:=by
    refine execOp_congr o (λcs b S=>by rw[S]at hav; cases hav.1) λx D=>?_;have J:=hav.2;simp only[Ň,Κ]at J;obtain⟨z,S⟩:=Į.1 (J x D);rw[gB hs (gG hH o x D) (p:=[]) I S];simp[zQ,S]
   have S:ev0 P k'=some (.value (Ρ Option.none w.heap.size)):=by
    unfold jd at hv;split at hv
    .rename_i h; obtain J:=Ò hv; rw[h]; simp only[GH.val.injEq]at J; rw[J]
    .cases hv
    cases hv
   have J:(execOp ρ o).run P w = .ok (.value (Ρ Option.none w.heap.size)) (w.alloc (.cells A'.toArray ty')):=by rw[hc,nK hev,oI S]
   unfold Does;rw[J];exact hT _ _ (Ç _) (by unfold World.alloc; exact Array.getElem?_push_size) (Iz _ _ _) (aI _ _)
  simp at D
 simp at D
end
section
variable{α:Type}{K:Nat}
abbrev _root_.Go.Sx.On.ch{B:Nat->Prop}{F:E5->Prop}{w w':E5}{x:Nat}(h:Sx.On B F w)(D:Ch x w w')(hx:¬B x):Sx.On B F w':=λw2 S hk =>
 h w2 (ä D.size S) λi J hB=>(hk i (ö J D.size) hB).trans (D.block i J (λe=>by simp only[Æ]at e; exact hx (e▸hB)))
variable{c b k:Nat}{a:Option Ć}{A:Array y9}{e:aQ}{f:α->List y9}
abbrev atz{w:E5}(h:Bx w b A):Sx.On (λi=>i=b) (λW=>Bx W b A) w:=λw' D hk =>
 have e:=hk b h.1 I
 ⟨ö h.1 D,λi=>by rw[World.cell?_of_block (a:=⟨b,i,none⟩) e]; exact h.2.1 i,λi=>by rw[World.frozen?_of_block (a:=⟨b,i,none⟩) e]; exact h.F i⟩
abbrev ayI:fM prog 44 65 (.agg aB.zero.cells.toArray) 7 48:=⟨underlying44,info_parts X,I,by decide⟩
abbrev ayJ:fM prog 45 42 (.agg (aQ.cells ⟨0,0,0,0,bP,.none⟩).toArray) 55 696:=⟨underlying45,info_parts X,I,by decide⟩
abbrev atA{base:Nat}{e0:Ð}{S:Nat×Nat}{v:y9}{l:List aj}{w:E5}(he:ϑ e0)(h:fF base v l w)(hb:w.heap[b]?=some (.cells A e0 S)):Sx.On (λk=>base<=k∧k≠b) (EO base v l) w:=λw2 D hk=>by
 have D:b<w.heap.size:=(Array.getElem?_eq_some_iff.1 hb).1;obtain⟨J,D⟩:∃z:E5,z={w2 with heap:=w2.heap.setIfInBounds b (.cells A e0 S)}:=⟨_,I⟩;have hg:∀g,J.heap[g]?=if g=b then some (.cells A e0 S)else w2.heap[g]?:=λg=>by
  rw[D,Array.getElem?_setIfInBounds];by_cases e:b=g
  .rw[Á e,Á e.symm,Á Z]
  rw[UQ e,UQ (λk=>e k.symm)]
 have S:J.heap.size=w2.heap.size:=by rw[D]; simp
 have h3:EO base v l J:=h J Z λk D hB=>by
  rw[hg];split
  .rename_i e; subst e; exact hb.symm
  rename_i e; exact hk k D ⟨hB,e⟩
 refine adh he h3 ⟨Z,λg S e J D=>?_⟩;rw[hg]at D |-;split at D
 .cases D; exact absurd I J
 rename_i e; rw[UQ e]
abbrev aoC{base:Nat}{w:E5}{q:aj}(h:fF base (.s a 1 c) [q] w):∃g,a=some ⟨g,0,none⟩∧base<=g∧g<w.heap.size∧w.rangeAt g 0 q.cells:=by
 have J:=(æ h).1;obtain⟨b,o,c,S,hb,hr⟩:=Vp.lQ J.1 (λ_=>I) 0 (by show 0<1; decide);rcases J.2 with h0 | ⟨g,cap,aa,D,h2,-⟩
 .exact absurd h0 (by show ¬1=0; decide)
 simp only[Ĉ]at S D;have e:=D.1.symm.trans S.1;simp only[Æ,Ŵ]at e;obtain⟨rfl,rfl,-⟩:=e;exact⟨g,D.1,h2,hb,hr⟩
abbrev KP{w:E5}(h:eH K w e.node)(hl:e.node.lim) :
  Nq prog 36 #[e.v] w λr w'=>∃m:aj,r = .R (aQ.v {e with node:=m})∧m.cp w.heap.size w'∧m.strip=e.node.strip∧Ext w w':=by
 skip;refine Ä func36 ntmps36 λS=>Â S λu b2 J D S=>Â S λu b5 J D S=>O1 S 2 [] [.M 1 4] λS=>Â S λu b9 J D S=>?_;have q0:=(S.bx 0).1;have D:=(S.bx 1).1;have D:=(S.bx 2).1;have aa:=S.E.size;have D:=λp J=>(S.own p J).1.1;have ab:bQ K u (⟨0,0,.none,some ⟨b9,0,none⟩,1,[e.node]⟩:aB):=⟨(show I64 0 by decide),(show I64 0 by decide),zf (f:=aj.cells) [e.node] (λ_=>I) (by simpa using S.kV 0) (by show 1<=maxLen; decide),λn hn=>by rw[û.1 hn]; exact h.below S.E⟩;refine ê S (sJ ab (λn hn=>by rw[û.1 hn]; exact hl) (by show 1<=100000; decide)) ?_;rintro e u ⟨m,rfl,ho,ah,-,-,-,rW⟩;obtain⟨mw,mh,mb,ma,mc,ml⟩:=m;obtain⟨n,rfl,ae⟩:=List.map_eq_singleton_iff.1 ah;have ac:=ď ho.cp λ_ h=>h.2 n Ö;obtain⟨g,rfl,ai,af,ag⟩:=aoC ho.cp;refine⟨_,I,rW,λS=>?_⟩;have S:=S.view af ag (λp J=>by have:=D p J; omega);refine O1 S 4 [] [.M 3 0] λS=>É S 2 I λu D S=>?_;have J:=(Sx.On.ch ac D Z);refine O1 S 1 [] [.M 2 0] λS=>É S 1 I λu D S=>?_;have uI:=(Sx.On.ch J D Z);refine ü S 1 I (v:=aQ.v {e with node:=n}) λS=>?_;exact⟨_,I,Dy uI aa,ae,S.E⟩
abbrev HD.aoD{w:E5}{s m:aB}(h:bQ K w s)(hl:∀n∈s.ns,n.lim)(hv:s.key.valid=true)(D:m.ns.map aj.strip=s.ns.map aj.strip)(J:m.w=s.w)(e2:m.h=s.h)(e3:m.bg=s.bg){a:Option Ć}:HD.Ok K ⟨a,1,[m],none,0,[],0⟩∧HD.key ⟨a,1,[m],none,0,[],0⟩=⟨[s.key],[],0⟩:=by
 have S:m.key=s.key:=by unfold aB.key; rw[J,e2,e3]; exact Ñ _ (vO D)
 have J:HD.key ⟨a,1,[m],none,0,[],0⟩=⟨[s.key],[],0⟩:=by unfold HD.key; rw[<-S]; rfl
 refine⟨⟨?_,λt S n hn=>?_,λe he=>(by cases he)⟩,J⟩
 .rw[J]; exact⟨Hs.new hv,Ç _,Î _⟩
 rw[û.1 S]at hn;exact⟨fits_all D (λn hn=>(h.N n hn).2) n hn,vP D hl n hn⟩
abbrev HD.akg{w u:E5}{s m:aB}(h:bQ K w s)(hl:∀n∈s.ns,n.lim)(J:m.ns.map aj.strip=s.ns.map aj.strip)(e1:m.w=s.w)(e2:m.h=s.h)(D:m.bg=s.bg){c base b g:Nat}(hm:Sx.On (λi=>base<=i∧i≠b) (EO base m.s m.ns) u)(hx:Bx u g m.cells.toArray)(hc:c<=base)(hg:c<=g)(S:g≠b):HD.mem K c b ⟨some ⟨g,0,none⟩,1,[m],none,0,[],0⟩ u:=by
 refine ď (ï (hm.mono λi D=>⟨ä hc D.1,D.2⟩) ((atz hx).mono λi D=>by subst D; exact⟨hg,S⟩)) λW ⟨D,q2⟩=>⟨⟨zf (f:=aB.cells) [m] (λ_=>I) (by simpa using q2) (by show 1<=maxLen; decide),λt S=>?_⟩,dK _ _ _,λe he=>(by cases he)⟩;rw[û.1 S];exact⟨e1▸h.1,e2▸h.2.1,D.1.1,λn hn=>⟨(D.2 n hn).1,fits_all J (λn hn=>(h.N n hn).2) n hn⟩⟩
abbrev VN{w:E5}{s:aB}(h:bQ K w s)(hg:bU w)(D:∀n∈s.ns,n.lim) :
  Nq prog 25 #[s.v] w λe w'=>(s.key.valid=false∧e = .R (.tuple #[.pointer none,.i 18])∧Ext w w')∨(s.key.valid=true∧∃(b:Nat) (H:HD),e = .R (.tuple #[.q b 0,.i 0])∧w.heap.size<=b∧Bx w' b H.cells.toArray∧H.mem K w.heap.size b w'∧(H.Ok K∧H.key=⟨[s.key],[],0⟩)∧Ext w w'):=by
 skip;refine Ä func25 ntmps25 λS=>Â S λu b2 E3 J S=>O1 S 3 [] [.M 0 0] λS=>ð S (xU (h.below S.E) (bU.below hg S.E)) λu J S=>À S (!s.key.valid) (λJ S=>?_) λJ S=>?_
 .refine Ol S ((.pointer none)) (.i 18) λS=>?_;exact .inl ⟨by simpa using J,I,S.E⟩
 have ah:=S.E.size;have hv:s.key.valid=true:=by simpa using J
 refine O1 S 1 [] [.M 0 0] λS=>ê S (sJ (h.below S.E) D (by have:=KN hv; omega)) ?_;rintro e u ⟨m,rfl,ho,aa,ab,ac,ae,J⟩;refine⟨_,I,J,λS=>?_⟩;have zq:=(J).size;refine Â S λu af GL ag S=>Â S λu J Em wZ S=>?_;have e9:=ag;have ai:=wZ;have z0:=(GL).size;have z9:=(Em).size;refine Ol S (.q J 0) (.i 0) λS=>?_;exact .inr ⟨hv,J,⟨some ⟨af,0,none⟩,1,[m],none,0,[],0⟩,I,Z,S.kV 0,HD.akg h D aa ab ac ae (Sx.On.fresh ho.cp (Ip GL Em) Z) (S.kV 1) ah Z (λe=>by have h:=S.apart; rw[đ,Ż]at h; exact h.1 (by simp[e])),HD.aoD h D hv aa ab ac ae,S.E⟩
def ϳ(P:bY->Prop):Prop:=∀{K:Nat} {w:E5} {s:aB} {e:aQ},bQ K w s->bU w->gU K w e->(∀n∈s.ns,n.lim)->e.node.lim->P e.key ->
 Nq prog 62 #[s.v,e.v] w λr w'=>∃(t:aB) (code:Int),r = .R (.tuple #[t.v,.i code])∧Zo w.heap.size K s e code t w'∧Ext w w'
abbrev aa6{B m:Nat}{e:Ð}{L:List α}{xs:List y9}{w:E5}(D:∀x,(f x).length=k)(J:w.ownsRow B e k (.s a m c) m xs)(S:m=L.length)(hx:xs=L.flatMap f):Sx.aU B (λW=>aG k f W (.s a L.length c) L) w:=by
 subst S; exact iZ D J I hx
abbrev ag5{i:Nat}{w:E5}{L:List α}(h:aG k f w (.s a L.length c) L)(D:i<=L.length)(J:∀x,(f x).length=k)(S:∀x,(f x).all (·.oneCell')=true):dQ w k (.s (um a 0 i k) i i) i ((L.take i).flatMap f):=by
 have:=jV (NT h D (ä D (kP h))) J S;rwa [Ĳ,Ε D]at this
abbrev ag6{P:bY->Prop}(hA:ϳ P){w0 w:E5}{H:HD}(hP:P e.key)(hE:Ext w0 w)(J:Bx w b H.cells.toArray)(hb:w0.heap.size<=b)(D:c<=b)(aa:H.Ok K)(hm:H.mem K c b w)(hk:H.k≠256)(hg:bU w)(he:gU K w e)(ai:e.node.lim) :
  Nq prog 34 #[.q b 0,e.v] w λr w'=>∃(D:HD) (code:Int),r = .R (.i code)∧(D.key,code)=H.key.put e.key∧D.Ok K∧D.mem K c b w'∧Ext w0 w'∧Ch b w w'∧Bx w' b D.cells.toArray:=by
 obtain⟨sn,ah⟩:∃z,H.ss[H.k]'aa.lt=z:=⟨_,I⟩;have ap:sn∈H.ss:=ah▸ò _;have aw:=aa.le;have D:=aa.len;have D:=kP (æ hm).2.1;have D:=kP (æ hm).1.1;refine Ĭ func34 ntmps34 hE J hb λS=>Â S λu b2 E3 D S=>?_;have af:=λp hp=>(S.own p hp).1.1;have kS:=S.E.size;have D:=(S.bx 1).1;have D:Ext w u:=E3;have J:=D.size;refine WZ S Tryz.f34 1 λS iz=>Sx.delay 6 4 8 ?_;refine rJ S 8 [(11,λv w1=>∃t2:aB,v = .tuple #[t2.v,.i (fE sn.key e.key).2]∧t2.key=(fE sn.key e.key).1∧I64 t2.w∧I64 t2.h∧fF u.heap.size t2.s t2.ns w1∧∀n∈t2.ns,n.xZ K),(7,λv w1=>∃t2:aB,v = .tuple #[t2.v,.i (fE sn.key e.key).2]∧t2.key=(fE sn.key e.key).1∧I64 t2.w∧I64 t2.h∧fF u.heap.size t2.s t2.ns w1∧∀n∈t2.ns,n.xZ K),(12,λv w1=>∃t2:aB,v=t2.v∧t2.key=(fE sn.key e.key).1∧I64 t2.w∧I64 t2.h∧fF u.heap.size t2.s t2.ns w1∧∀n∈t2.ns,n.xZ K),(13,λv w1=>v = .i (fE sn.key e.key).2),(5,λv w1=>∃b,v = .q b 0∧u.heap.size<=b∧w1.heap[b]?=some (.cells (List.toArray [.i 0,.i 0,.u 0,.u 0,.u 0,.u 0,.sn]) 65 (0,0))∧Bx w1 b (List.toArray [.i 0,.i 0,.u 0,.u 0,.u 0,.u 0,.sn]))] (λr=>[.M 0 0,.hand 7 [],.hand 12 [],.hand 13 [],.hand 5 []]) (λx=>[sn.v,x 11,x 7,x 12,x 13,x 5]) (λx=>[(_,_,true,sn.v,9),(_,_,true,x 11,11)]) [[],[]] (λx=>[(5,x 5),(12,x 12),(13,x 13)]) ⟨λ_ _ _ k h=>by obtain⟨t2,e,h1,J,h3,h4,h5⟩:=h; exact⟨t2,e,h1,J,h3,Ü h4 k,h5⟩,λ_ _ _ k h=>by obtain⟨t2,e,h1,J,h3,h4,h5⟩:=h; exact⟨t2,e,h1,J,h3,Ü h4 k,h5⟩,λ_ _ _ k h=>by obtain⟨t2,e,h1,J,h3,h4,h5⟩:=h; exact⟨t2,e,h1,J,h3,Ü h4 k,h5⟩,λ_ _ _ _ h=>h,λ_ w1 w2 k h=>by obtain⟨b,e,h1,J,h3⟩:=h; exact⟨b,e,h1,(k.block b (oM J).1).trans J,h3.ext k⟩,G⟩ (λx=>⟨by intro u hC g F; exact(Vr (ev := .s H.ea H.es.length H.ec) (r:=[.b true]) ((S.kV 1).ext hC) (æ ((Ü hm (Ip E3 hC)))).1.1 aa.lt ah).mono λe w2 h=>⟨_,h.1,I,h.2⟩,by intro u hC g F; exact(hA (K:=K) (s:=sn) (e:=e) ((æ ((Ü hm (Ip E3 hC)))).1.2 sn ap) (bU.below hg (Ip D hC)) (he.below (Ip D hC)) (λn hn=>(aa.s sn ap n hn).2) ai hP).mono λe w2 h=>by obtain⟨t2,bo,rfl,D,hb⟩:=h; exact⟨_,I,⟨t2,by rw[<-D.1],by rw[<-D.1],D.2.2.1.1,D.2.2.1.2.1,fF.le D.2.1 hC.size,D.N⟩,hb⟩,G⟩) (λac u x E6 F S=>?_) (hk:=λr=>⟨G,G,G,G,G⟩) (hl:=[(4,[11]),(5,[7]),(6,[7]),(7,[])]) (hH:=λx r=>⟨λo ho ρ u hs hE D hV F=>by obtain⟨al,-⟩:=F; exact jw ho hs [(11,x 11)] (Ľ (D 11 O I)) (x 11) (İ ho I I å al),λo ho ρ u hs hE D hV F=>by obtain⟨F7,-⟩:=F; obtain⟨t2,e,J⟩:=F7; exact jw ho hs [(7,.tuple #[t2.v,.i _])] (Ľ ((D 7 O I).trans e)) (t2.v) (İ ho I I å ⟨t2,I,J⟩),λo ho ρ u hs hE D hV F=>by obtain⟨F7,-⟩:=F; obtain⟨t2,e,J⟩:=F7; exact jw ho hs [(7,.tuple #[t2.v,.i _])] (Ľ ((D 7 O I).trans e)) (.i _) (İ ho I I å I),λo ho ρ u hs hE D hV F=>by exact Sx.adi ho hs [] (λ_ _ h=>by cases h) [.i 0,.i 0,.u 0,.u 0,.u 0,.u 0,.sn] 65 (λb w' h1 J h3 h4=>İ ho I I h4 ⟨b,I,ä hE.size h1,J,h3⟩),G⟩);refine zdb S λS=>?_;obtain⟨al,F7,MB,Vg,F5,-⟩:=F;clear al;clear F7;obtain⟨t,ar,a9,bb,bc,bd,av⟩:=MB;rw[ar]at S;try rw[ar]
 rw[Vg]at S;try rw[Vg]
 obtain⟨v5,F5,bp,be,bg⟩:=F5;rw[F5]at S;try rw[F5]
 have S:=S.kZ;have S:=S.adopt (A:=[.i 0,.i 0,.u 0,.u 0,.u 0,.u 0,.sn]) bg Z (λp hp=>by have:=af p hp; omega) (λm hm=>by cases hm);have ax:=atA (e0:=65) O bd be;refine É S 0 I λu C7 S=>?_;have E8:=È (Ip E3 E6) C7 (by have:=E3.size; omega);have E9:=È (Ip E3 E6) C7 (by have:=E3.size; omega);have ay:=(Sx.On.ch ax C7 Z);refine À S (((fE sn.key e.key).2) != 0) (λae S=>?_) λae S=>?_
 .refine Xe S (.i ((fE sn.key e.key).2)) λS=>?_;exact⟨H,_,I,HK.ag1 (t:=(fE sn.key e.key).1) (by rw[K11 aa.lt,ah]) (by simpa using ae),aa,((Ü hm E8)),S.E,((Ch.trans (Ch.refl b w) (Ch.aY E9))),S.kV 2⟩
 have az:Ext w u:=E8;have bk:=(S.bx 2).1;have a3:(fE sn.key e.key).2=0:=by simpa using ae
 have bm:=(((Ch.trans (Ch.refl b w) (Ch.aY E9)))).size;refine WZ S Tryz.f34 4 λS iz=>?_;refine sH S 20 [(32,λv w1=>∃m:aj,v=aQ.v {e with node:=m}∧m.cp u.heap.size w1∧m.strip=e.node.strip),(33,λv w1=>∃(m:aj) (b:Nat),v = .s (some ⟨b,0,none⟩) 1 1∧Bx w1 b (aQ.cells {e with node:=m}).toArray∧m.cp u.heap.size w1∧m.strip=e.node.strip),(34,λv w1=>∃m:aj,w1.ownsRow u.heap.size 42 55 v (H.k+1) ((H.es.take H.k).flatMap aQ.cells++aQ.cells {e with node:=m})∧m.cp u.heap.size w1∧m.strip=e.node.strip)] (λr=>[.M 2 1,.M 2 2,.M 2 2,.slc 0 H.k H.k H.ec,.M 1 0,.hand 33 [],.hand 34 [(30,.s (um H.ea 0 H.k 55) H.k H.k)]]) (λx=>[x 32,x 33,x 34]) (λx=>[(_,_,true,x 32,32)]) [[]] (λx=>[(34,x 34),(36,.q b 1)]) ⟨λ_ _ _ k h=>by obtain⟨m,e,h1,J⟩:=h; exact⟨m,e,Ü h1 k,J⟩,λ_ _ _ k h=>by obtain⟨m,b,e,h1,J,h3⟩:=h; exact⟨m,b,e,h1.ext k,Ü J k,h3⟩,λ_ _ _ k h=>by obtain⟨m,h1,J,h3⟩:=h; exact⟨m,Sx.dF h1 k,Ü J k,h3⟩,G⟩ (λx=>⟨by intro u hC g F; exact(KP (he.O.below (Ip az hC)) ai).mono λe w2 h=>by obtain⟨m,rfl,am,ag,hb⟩:=h; exact⟨_,I,⟨m,I,Dy am hC.size,ag⟩,hb⟩,G⟩) (λac u x Em F S=>?_) (hk:=λr=>⟨⟨Î _,Ç _,Z⟩,G,G,G⟩) (hl:=[(16,[32]),(17,[33])]) (hH:=λx r=>⟨λo ho ρ u hs hE D hV F=>by obtain⟨an,-⟩:=F; obtain⟨m,e1,h1,J⟩:=an; exact rC ho hs [(32,aQ.v {e with node:=m})] (Ľ ((D 32 O I).trans e1)) (aQ.cells {e with node:=m}) (some 1) (λv w' hn ab=>İ ho I I ab (by obtain⟨b,e2,-,h3⟩:=hn; exact⟨m,b,e2,h3,Ü h1 ab,J⟩)),λo ho ρ u hs hE D hV F=>by obtain⟨ao,-⟩:=F; obtain⟨m,b,e1,h1,J,h3⟩:=ao; exact uF ho ayJ (hV (30,_) Ö) ((D 33 O I).trans e1) (ag5 (f:=aQ.cells) (æ (Ü ((Ü hm E8)) hE)).2.1 aw.1 (λ_=>I) (λ_=>I)) (oK (m:=1) (k:=55) (A:=aQ.cells {e with node:=m}) h1) O (by show H.k+1<=9223372036854775807; omega) Z (λv' w' h ab=>İ ho I I ab ⟨m,Sx.ownsRow_base h hE.size,Ü J ab,h3⟩),G⟩);refine Um S λS=>?_;obtain⟨an,ao,bh,-⟩:=F;clear an;clear ao;obtain⟨m,J,am,ag⟩:=bh;obtain⟨a4,c4,e4⟩:=Sx.jf J;rw[e4]at S J;try rw[e4]
 have aq:(H.es.take H.k++[({e with node:=m}:aQ)]).length=H.k+1:=by rw[Å,Ĳ,aG8]; omega
 have a6:=aa6 (f:=aQ.cells) (L:=H.es.take H.k++[({e with node:=m}:aQ)]) (λ_=>I) J aq.symm Y;refine ë S 2 I λu J S=>?_;have J5:=(Sx.On.ch ((Ü hm (Ip E8 Em))) J Z);have pY:=(aN ((Ch.trans (Ch.refl b w) (Ch.aY (Ip E9 Em)))) J);have EM:=(Sx.On.ch ((Ü ay Em)) J Z);have vM:=(Sx.On.ch a6 J Z);have Ag:=(Sx.On.ch am J Z);have J:=(S.bx 2).1;have J:=(pY).size;have kS:=S.E.size;have af:=λp hp=>(S.own p hp).1.1;have kS:=S.E.size;refine WZ S Tryz.f34 5 λS iz=>?_;refine sH S 21 [(54,iC u.heap.size t.cells (some 1)),(55,λv w1=>w1.ownsRow u.heap.size 65 7 v (H.k+1+1) ((H.ss.take (H.k+1)).flatMap aB.cells++t.cells))] (λr=>[.M 2 0,.M 2 2,.re 46 (.i (IntKind.i64.wrap ((H.k:Int)+1))) (.i (H.k+1:Nat)),.M 2 2,.re 51 (.i (IntKind.i64.wrap ((H.k:Int)+1))) (.i (H.k+1:Nat)),.slc 0 (H.k+1) (H.k+1) H.sc,.M 0 0,.new 54 t.cells (some 1) r,.hand 55 [(52,.s (um H.sa 0 (H.k+1) 7) (H.k+1) (H.k+1))]]) (λx=>[x 54,x 55]) (λx=>[]) [] (λx=>[(55,x 55),(57,.q b 0)]) ⟨iC.mono,λ_ _ _ k h=>Sx.dF h k,G⟩ (λx=>G) (λac u x ED F S=>?_) (hN:=λr=>⟨⟨I,I⟩,G⟩) (hk:=λr=>⟨ù Z,ù Z,⟨Î _,Ç _,Z⟩,G,G,G⟩) (hl:=[(18,[54])]) (hH:=λx r=>⟨λo ho ρ u hs hE D hV F=>by obtain⟨J,-⟩:=F; obtain⟨b,e1,-,h1⟩:=J; exact uF ho ayI (hV (52,_) Ö) ((D 54 O I).trans e1) (ag5 (f:=aB.cells) (æ (Ü J5 hE)).1.1 aa.lt (λ_=>I) (λ_=>I)) (oK (m:=1) (k:=7) (A:=t.cells) h1) O (by show H.k+1+1<=9223372036854775807; omega) Z (λv' w' h ab=>İ ho I I ab (Sx.ownsRow_base h hE.size)),G⟩);refine Um S λS=>?_;obtain⟨J,D,-⟩:=F;obtain⟨bq,J,IY,bj⟩:=J;have S:=S.adopt (A:=t.cells) bj Z (λp hp=>by have:=af p hp; omega) (λm hm=>by cases hm);obtain⟨a5,c5,J⟩:=Sx.jf D;rw[J]at S D;try rw[J]
 have J:(H.ss.take (H.k+1)++[t]).length=H.k+1+1:=by rw[Å,Ĳ,aG8]; omega
 have a7:=aa6 (f:=aB.cells) (L:=H.ss.take (H.k+1)++[t]) (λ_=>I) D J.symm Y;refine ë S 3 I λu D S=>?_;have tV:=(Sx.On.ch ((Ü J5 ED)) D Z);have a8:=(aN ((Ch.trans pY (Ch.aY ED))) D);have xX:=(Sx.On.ch ((Ü EM ED)) D Z);have Dc:=(Sx.On.ch ((Ü vM ED)) D Z);have IV:=(Sx.On.ch ((Ü Ag ED)) D Z);have EG:=(Sx.On.ch a7 D Z);refine O1 S 7 [] [.M 3 2,.re 62 (.i (IntKind.i64.wrap ((H.k:Int)+1))) (.i (H.k+1:Nat))] (hk:=⟨ù Z,G⟩) λS=>ë S 3 I λu D S=>?_;have S:=S.fl;have Ah:=(Sx.On.ch tV D Z);have BH:=(aN a8 D);have EN:=(Sx.On.ch xX D Z);have Jk:=(Sx.On.ch Dc D Z);have xW:=(Sx.On.ch IV D Z);have BJ:=(Sx.On.ch EG D Z);obtain⟨p1,p2⟩:=aa.put hk (t:=t) (d:=({e with node:=m}:aQ)) (e:=e.key) (by rw[ah]; exact Prod.ext a9 a3.symm) (by show bY.mk _ _ _ _ m.key _=_; rw[BK ag]; rfl) av (vS ⟨he.J,ai⟩ ag) a5 a4 c5 c4;refine Xe S (.i 0) λS=>?_;exact⟨_,0,I,p2,p1,HD.akd Ah (Τ BJ λi D=>⟨Z,Z⟩) (ď (Τ EN λi D=>⟨Z,Z⟩) λW h=>⟨bb,bc,h.1.1,λn hn=>⟨(h.2 n hn).1,(av n hn).1⟩⟩) (Τ Jk λi D=>⟨Z,Z⟩) (ď (Τ xW λi D=>⟨Z,Z⟩) λW h=>⟨he.1,he.2.1,he.D,he.C,h.1,(vS ⟨he.J,ai⟩ ag).1⟩),S.E,BH,(by show Bx _ _ (List.toArray [.s a5 (H.ss.take (H.k+1)++[t]).length c5,.s a4 (H.es.take H.k++[({e with node:=m}:aQ)]).length c4,.i (H.k+1:Nat),.b true]); rw[J,aq]; exact S.kV 3)⟩
