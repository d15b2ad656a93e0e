/- The laws' own function: whether -/
import Derived.Test.YtodpgjjgaddkeaaGreatDoorPk21
import Derived.Test.YtodpgjjgaddkeaaGreatDoorRows
set_option maxRecDepth 100000
set_option maxHeartbeats 9999999
open Go renaming World->E5,Value->y9,Calls->Nq,TypeId->Ð
set_option linter.unusedVariables false
set_option linter.unusedSimpArgs false
open Go.Proofs.Tryz Go.RowKit Go.Sx Go.Rel Go.ChangeShapes Go.WideShapes
namespace Go.Proofs.Õ
open _root_.Go.Proofs.Tryz
section
variable{α:Type}{K:Nat}
def dV.lt(x:dV):Bool:=x.e.node.lt
def wE(s:aB)(l:List dV):Bool:=(l.take 40).all dV.lt&&(s.light&&decide (l.length<=24))
variable{s:aB}{l:List dV}{j:Nat}{w:E5}
abbrev adz{n:aj}(h:s.ns=[n]):s.light=n.lt:=by
 unfold aB.light; rw[h]; simp
abbrev akl(h:j<l.length)(J:j<40)(D:(l[j]).lt=false):wE s l=false:=by
 unfold wE;rw[zu (k:=j) (p:=dV.lt) (by rw[Ĳ]; omega) (by rw[ϟ]; exact D)]; rfl
abbrev akm(D:(l.take j).all dV.lt=true)(h:¬(j<l.length∧j<40))(J:j<=40)(hl:j<=l.length):wE s l=(s.light&&decide (l.length<=24)):=by
 have:(l.take 40).all dV.lt=true:=by
  by_cases h2:j<l.length
  .obtain rfl:j=40:=by omega
   exact D
  rw[Ď Z]at D;exact ñ.2 λx J=>ñ.1 D x (ŝ J)
 unfold wE; rw[this]; rfl
abbrev adA{n:aj}(D:aG 47 aj.cells w s.s s.ns∧∀n∈s.ns,n.ok w)(h:s.ns=[n]) :
  Nq prog 39 #[s.v] w (Ï w (.b n.lt)):=adz h▸Gs D
abbrev VR{a:Option Addr}{cap:Nat}(h0:aG 47 aj.cells w s.s s.ns∧∀n∈s.ns,n.ok w)(J:aG 56 dV.cells w (.s a l.length cap) l)(ho:∀x∈l,x.e.node.ok w) :
  Nq prog 20 #[s.v,.s a l.length cap] w (Ï w (.b (wE s l))):=by
 have D:l.length<=9223372036854775807:=J.len;refine Ä func20 ntmps20 λS=>Â S λu b2 E3 D S=>ĉ S (ι:=Nat) (λp D w'=>((l.take p).all dV.lt=true∧p<=l.length∧p<=40)∧Sx.St w D w' 33 [(0,s.v),(1,.s a l.length cap),(2,.q b2 0),(4,.z),(5,.i p)] [(b2,s.cells)] []) (λp=>l.length-p) (0) (λS=>⟨⟨I,Î _,Î _⟩,S.qC⟩) ?_;rintro j ac u fQ eu D;try dsimp only at D
 obtain⟨hR,S⟩:=D;refine Ċ S λS=>?_;obtain⟨ab,ag,ah⟩:=hR;refine À S ((decide ((j:Int)<(l.length:Int)))&&(decide ((j:Int)<40))) (λGm S=>?_) λGm S=>?_
 .have hj:j<l.length∧j<40:=by have:=Gm; simp at this; omega
  have ae:j<l.length:=hj.1;obtain⟨al,am,rfl,D,aa,BD,ai⟩:=ý J (λ_=>I) (j) ae;have S:=S.view0 BD ai;refine O1 S 6 [] [.idx j l.length,.M 1 5] (hk:=⟨ae,G⟩) λS=>Â S λu J xE VT S=>?_;have af:D.e.node.ok w:=ho _ (aa▸ò hj.1);refine ð S (adA (s:=(⟨0,0,.none,some ⟨J,0,none⟩,1,[D.e.node]⟩:aB)) (n:=D.e.node) ⟨zf (f:=aj.cells) [D.e.node] (λ_=>I) (by simpa using S.kV 0) (by show 1<=maxLen; decide),λn hn=>by rw[û.1 hn]; exact af.below S.E⟩ I) λu J S=>À S (!D.e.node.lt) (λJ S=>?_) λJ S=>?_
  .refine Xe S (.z) λS=>?_;exact⟨aJ (akl hj.1 hj.2 (by rw[aa]; exact(show D.e.node.lt=false by simpa using J))).symm,S.E⟩
  refine O1 S 3 [] [kS 15 j] (hk:=⟨ù Z,G⟩) λS=>ċ S fQ λS=>?_;exact eu _ _ (j+1) ⟨⟨mQ hj.1 ab (by rw[aa]; exact(show D.e.node.lt=true by simpa using J)),hj.1,Z⟩,(S.gK 1).qC⟩ (by show l.length-(j+1)<l.length-j; omega)
 refine O1 S 1 [] [.M 0 0] λS=>ð S (Gs ⟨h0.1.below S.E,λn hn=>(h0.2 n hn).below S.E⟩) λu D S=>Xe S (.b (s.light&&(decide ((l.length:Int)<=24)))) λS=>?_;exact⟨aJ ((akm ab (by have:=Gm; simp at this; omega) ah ag).trans (by congr 1; exact ϸ.2 Z)).symm,S.E⟩
def wF(id:Int)(t:bD):aj:=⟨id,1,0,t,none,0,[],0,255,1,false,false,none,0,[],0,none,0,[],aX.bare,none,0,[],dH.bare,0⟩
def atH:bI:=⟨0,0,0,0⟩
def ahj(id:Int)(t:bD)(b:Nat):aj:=⟨id,3,0,t,none,0,[],0,0,0,false,false,none,0,[],0,none,0,[],aX.bare,none,0,[],⟨1,1,some ⟨b,0,none⟩,1,[atH]⟩,1⟩
def TI(w:E5)(t:bD):Prop:=t.ok w∧t.Is qI
abbrev TI.below{w w':E5}{t:bD}(h:TI w t)(D:Ext w w'):TI w' t:=⟨h.1.below D,h.2⟩
abbrev TI.dZ{w w':E5}{t:bD}{b:Nat}{A:Array y9}(h:TI w t)(D:Ch b w w')(J:Bx w b A)(hA:A.toList.all D8=true:=by rfl):TI w' t:=⟨h.1.dZ D J hA,h.2⟩
abbrev bD.Is.q{t:bD}{Q:Q6}(h:t.Is Q)(hn:Di Q):t.q=Q:=by
 obtain⟨D,n1,J,S,n4,n5⟩:=hn;obtain⟨⟨a0,b0,c0,d0⟩,⟨a1,b1,c1,d1⟩,⟨a2,b2,c2,d2⟩,⟨a3,b3,c3,d3⟩,⟨a4,b4,c4,d4⟩,⟨a5,b5,c5,d5⟩⟩:=h;unfold bD.q;rw[Pm a0 b0 c0 d0 D,Pm a1 b1 c1 d1 n1,Pm a2 b2 c2 d2 J,Pm a3 b3 c3 d3 S,Pm a4 b4 c4 d4 n4,Pm a5 b5 c5 d5 n5]
abbrev bD.Is.fit{t:bD}{Q:Q6}{K:Nat}(h:t.Is Q)(hl:VU K Q):t.fit K:=by
 obtain⟨l0,l1,l2,l3,l4,l5⟩:=hl;obtain⟨D,J,S,h3,h4,h5⟩:=h;exact⟨zx D.2.1 D.N l0,zx J.2.1 J.N l1,zx S.2.1 S.N l2,zx h3.2.1 h3.N l3,zx h4.2.1 h4.N l4,zx h5.2.1 h5.N l5⟩
def VW(w:E5)(id D:Int)(nd:aj):Prop:=
 (D=1∧∃t,TI w t∧nd=wF id t)∨(D=2∧∃t,TI w t∧nd=iR id t)∨(D=3∧∃t b,TI w t∧Bx w b #[.u 0,.u 0,.u 0,.u 0]∧nd=ahj id t b)∨((D≠1∧D≠2∧D≠3)∧nd=bP)
abbrev KU(w:E5) :
  Nq prog 84 #[.i 1,.i 0,.i 0,.i 1,.agg Sx.zr.toArray,.agg Sx.zr.toArray] w λe w'=>∃x,e = .R x∧Df w.heap.size w' x qI∧Ext w w':=by
 skip;refine Ä func84 ntmps84 λS=>Ú S Sx.zr λu b2 J D S=>Ú S Sx.zr λu b5 J D S=>Ú S Sx.za λu b8 D J S=>jm S 12 [(14,λv w1=>dR w.heap.size w1 v (false,1,1)),(16,λv w1=>dR w.heap.size w1 v (false,0,1)),(18,λv w1=>dR w.heap.size w1 v (false,0,1)),(20,λv w1=>dR w.heap.size w1 v (false,1,1)),(22,λv w1=>dR w.heap.size w1 v q0),(24,λv w1=>dR w.heap.size w1 v q0)] (λr=>[.M 2 0,.M 1 0]) (λx=>[x 14,x 16,x 18,x 20,x 22,x 24]) (λx=>[(_,_,true,x 14,14),(_,_,true,x 16,16),(_,_,true,x 18,18),(_,_,true,x 20,20),(_,_,true,x 22,22),(_,_,true,x 24,24)]) [[],[],[],[],[],[]] (λx=>[(14,x 14),(16,x 16),(18,x 18),(20,x 20),(22,x 22),(24,x 24)]) ⟨λ_ _ _ k h=>h.ext k,λ_ _ _ k h=>h.ext k,λ_ _ _ k h=>h.ext k,λ_ _ _ k h=>h.ext k,λ_ _ _ k h=>h.ext k,λ_ _ _ k h=>h.ext k,G⟩ (λx=>⟨by intro u hC g F; exact(jy 1 _ O).mono λe w2 h=>by obtain⟨y,rfl,D,J⟩:=h; exact⟨_,I,aC.mono D ((Ip S.E hC)).size,J⟩,by intro u hC g F; exact(jy 0 _ O).mono λe w2 h=>by obtain⟨y,rfl,D,J⟩:=h; exact⟨_,I,aC.mono D ((Ip S.E hC)).size,J⟩,by intro u hC g F; exact(jy 0 _ O).mono λe w2 h=>by obtain⟨y,rfl,D,J⟩:=h; exact⟨_,I,aC.mono D ((Ip S.E hC)).size,J⟩,by intro u hC g F; exact(jy 1 _ O).mono λe w2 h=>by obtain⟨y,rfl,D,J⟩:=h; exact⟨_,I,aC.mono D ((Ip S.E hC)).size,J⟩,by intro u hC g F; exact(nN _ q0 1 _ (K08▸bH.toQ (bH.gW _) (bH.iO 1)) O).mono λe w2 h=>by obtain⟨y,rfl,D,J⟩:=h; exact⟨_,I,D.mono ((Ip S.E hC)).size,J⟩,by intro u hC g F; exact(nN _ q0 1 _ (K08▸bH.toQ (bH.gW _) (bH.iO 1)) O).mono λe w2 h=>by obtain⟨y,rfl,D,J⟩:=h; exact⟨_,I,D.mono ((Ip S.E hC)).size,J⟩,G⟩) λu x rW F S=>?_;obtain⟨NW,J,aa,ab,Aw,ac,-⟩:=F;obtain⟨r0,e0⟩:=aC.iR NW;rw[e0]at S NW;try rw[e0]
 obtain⟨r1,D⟩:=aC.iR J;rw[D]at S J;try rw[D]
 obtain⟨r2,D⟩:=aC.iR aa;rw[D]at S aa;try rw[D]
 obtain⟨r3,D⟩:=aC.iR ab;rw[D]at S ab;try rw[D]
 obtain⟨r4,D⟩:=aC.iR Aw;rw[D]at S Aw;try rw[D]
 obtain⟨r5,D⟩:=aC.iR ac;rw[D]at S ac;try rw[D]
 have Me:=S.bx 0;refine í S 0 (off:=0) (cs:=(r0.cells++r1.cells++r2.cells++r3.cells++r4.cells++r5.cells)) I λu D S=>?_;have oU:=aC.dZ NW D Me;have Aa:=aC.dZ J D Me;have J:=aC.dZ aa D Me;have J5:=aC.dZ ab D Me;have pY:=aC.dZ Aw D Me;have EM:=aC.dZ ac D Me;refine ü S 0 I (v := .agg (r0.cells++r1.cells++r2.cells++r3.cells++r4.cells++r5.cells).toArray) λS=>?_;exact⟨_,I,⟨⟨r0,r1,r2,r3,r4,r5⟩,I,oU,Aa,J,J5,pY,EM⟩,S.E⟩
abbrev G7(w:E5) :
  Nq prog 52 #[] w λe w'=>∃t:bD,e = .R t.v∧TI w' t∧Ext w w':=by
 skip;refine Ä func52 ntmps52 λS=>Ú S Sx.za λu b2 J D S=>ê S (KU _) ?_;rintro e u ⟨x,rfl,D,J⟩;obtain⟨m,rfl,D⟩:=D;obtain⟨t,e,ho,hi⟩:=Xz D;rw[e];refine⟨_,I,J,λS=>?_⟩;have X8:=S.bx 0;refine í S 0 (off:=0) (cs:=t.cells) I λu J S=>?_;have D:=TI.dZ (⟨ho,hi⟩:TI _ t) J X8;refine ü S 0 I (v:=t.v) λS=>?_;exact⟨t,I,D,S.E⟩
end
section
variable{α:Type}
theorem VX{β γ:Type}{f:β->Option γ}:∀{l:List β} {cs:List γ},l.mapM f=some cs->cs.length=l.length∧∀(j:Nat) (x:β),l[j]?=some x->f x=cs[j]?
 | [],cs,h=>by
  simp at h; subst h; exact⟨I,λj x h=>by simp at h⟩
 | a::l,cs,h=>by
  simp only[List.mapM_cons,Option.bind_eq_bind,Option.bind_eq_some_iff,Option.pure_def,Æ]at h
  obtain⟨y,J,ys,D,rfl⟩:=h
  obtain⟨S,h2⟩:=VX D
  refine⟨by simp[S],λj x D=>?_⟩
  cases j with
  | zero=>simp only[List.getElem?_cons_zero,Æ]at D; subst D; simpa using J
  | succ j=>simpa using h2 j x (by simpa using D)
abbrev akn{w:E5}{a:Addr}{k:Nat}{cs:List y9}(h:w.cells? 0 a k=some cs):cs.length=k∧∀j,j<k->w.cell? (a.add j)=cs[j]?:=by
 simp only[World.cells?,Î,if_true]at h;obtain⟨J,S⟩:=VX h;exact⟨by simpa using J,λj D=>S j j (by simp[D])⟩
abbrev KW{f:α->y9}{w:E5}{v:y9}{l:List α}(h:aG 1 (λx=>[f x]) w v l):dG f w v l:=by
 obtain⟨a,cap,D,J,h⟩:=h;refine⟨a,cap,D,J,?_⟩;rcases h with h | ⟨b,o,S,D,hl,hc⟩
 .exact .inl h
 exact .inr ⟨b,o,S,D,hl,λi J=>by simpa using hc i J 0 Z⟩
section
variable{H:Type}{enc:Ð×y9->H}{P:Program}{W:E5}{sp:Nat->Bool}{held:Bool}{n:Nat}{cs:List y9}{y:DataW H×List MemPlace}
abbrev atI{e:Ð}{k:IntKind}(D:P.underlying e=some (.int k))(h:DataW.trod enc P W 0 sp held n e cs=some y):∃x,cs=[.int k x]∧(Lit.int k x).wf=true:=by
 cases n with
 | zero=>simp[DataW.trod]at h
 | succ n =>
  simp only[DataW.trod,D]at h;split at h<;>simp_all
abbrev ahk{e:Ð}(D:P.underlying e=some .bool)(h:DataW.trod enc P W 0 sp held n e cs=some y):∃b,cs=[.b b]:=by
 cases n with
 | zero=>simp[DataW.trod]at h
 | succ n =>
  simp only[DataW.trod,D]at h;split at h<;>simp_all
end
section
variable{H:Type}{enc:Ð×y9->H}{W:E5}{sp:Nat->Bool}{held:Bool}{n:Nat}{cs:List y9}{y:DataW H×List MemPlace}
end
abbrev aed{W:E5}(D:handlesMet prog [("errors.errorType",YtodpgjjgaddkeaaGreatDoor.Rows.laid_errors_errorType)] W):bU W:=by
 have h3:=D _ (û.2 I);obtain⟨J,u,ty,e1,e2,aa,S,D⟩:∃J u ty,YtodpgjjgaddkeaaGreatDoor.Rows.laid_errors_errorType.handleName?=some J∧(prog.cutTypes.find? (·.1 == "internal/reflectlite.rtype")).map (·.2)=some u∧ty<prog.types.size∧prog.rowNamed ty J=true ∧
  W.var? prog "errors.errorType" = some #[.iface u (.agg #[typeHandle prog ty])]:=h3
 have hu:u=296:=Ò (e2.symm.trans X);have hn:J=[101,114,114,111,114]:=Ò (e1.symm.trans X);have J:((List.range prog.types.size).all λt => !prog.rowNamed t [101,114,114,111,114]||t==210)=true:=by kernel_rfl
 rw[ñ]at J;have h4:=J ty (Ϣ.2 aa);rw[hn]at S;rw[S]at h4;have J:ty=210:=by simpa using h4
 subst hu J;unfold World.var? at D;rw[show prog.globalNamed "errors.errorType" = some 0 by kernel_rfl,Α]at D;cases hh:W.heap[(0 : Nat)]? with
 | none=>rw[hh]at D; cases D
 | some o =>
  rw[hh]at D;have J:0 < W.heap.size:=(Array.getElem?_eq_some_iff.1 hh).1;cases o with
  | cells c t fz =>
   simp only[Æ]at D;refine⟨J,λj v S=>?_⟩;have:j=0:=by
    have:=(List.getElem?_eq_some_iff.1 S).1;simp at this; exact this
   subst this;simp only[World.cell?,hh];rw[D];simpa[typeHandle]using S
  | _=>cases D
end
section
variable{α:Type}{K:Nat}
abbrev TI.fit{w:E5}{t:bD}(h:TI w t)(D:1<=K):t.fit K:=by
 obtain⟨J,S,h3,h4,h5,h6⟩:=h.2.fit aoT;exact⟨J.mono D,S.mono D,h3.mono D,h4.mono D,h5.mono D,h6.mono D⟩
abbrev VW.ok{w:E5}{id J:Int}{nd:aj}(h:VW w id J nd)(hi:I64 id)(hK:1<=K)(D:K<=10000):eH K w nd:=by
 rcases h with ⟨-,t,J,rfl⟩ | ⟨-,t,J,rfl⟩ | ⟨-,t,b,J,hb,rfl⟩ | ⟨-,rfl⟩
 .exact⟨⟨hi,(show I64 1 by decide),fC,J.1,qj w,fC,(show I64 1 by decide),qj w,fC,lU w,aX.gX w,lU w,dH.gX w,fC⟩,J.fit hK,λp S=>(by cases S),λp S=>(by cases S),hK,D⟩
 .exact adB hi J.1 (J.fit (Ç 1)) hK D
 .refine⟨⟨hi,(show I64 3 by decide),fC,J.1,qj w,fC,fC,qj w,fC,lU w,aX.gX w,lU w,⟨(show I64 1 by decide),(show I64 1 by decide),?_⟩,(show I64 1 by decide)⟩,J.fit hK,λp S=>(by cases S),λp S=>(by cases S),hK,D⟩;refine⟨some ⟨b,0,none⟩,1,I,by decide,.inr ⟨b,0,I,hb.1,Ç _,λi hi j J=>?_⟩⟩;obtain rfl:i=0:=by simp[ahj]at hi; exact hi
  have:=hb.2.1 j;rw[show 0+0*4+j=j by omega,this];show _=(bI.cells atH)[j]?;rw[<-List.getElem?_toArray];rfl
 exact iq w hK D
abbrev VW.check{w:E5}{id D:Int}{nd:aj}(h:VW w id D nd):(nd.checkN==0)=((((decide (1<=id))&&(decide (id<=1073741824)))&&(decide (1<=D)))&&(decide (D<=3))):=by
 have D:qI.valid=true:=by decide
 have hd:qB qI.Gt q0=false:=by decide
 have key:∀(n:aj),n.iE=[(false,2),((((decide (id<1))||(decide (1073741824<id)))||false)||false,6),(!n.t.q.valid,5),(qB n.t.q.Gt q0,9),(false,10),(false,17)]->n.t.q=qI->n.rG=0->(n.checkN==0)=((decide (1<=id))&&(decide (id<=1073741824))):=by
  intro n J S ho;unfold aj.checkN;rw[J,S,D,hd,ho];rw[ŉ];by_cases h1:id<1
  .simp[badL,nT,h1]; omega
  by_cases h2:1073741824<id
  .simp[badL,nT,h2];try omega
  simp[badL,nT,h1,h2]; omega
 rcases h with ⟨rfl,t,D,rfl⟩ | ⟨rfl,t,D,rfl⟩ | ⟨rfl,t,b,D,-,rfl⟩ | ⟨⟨k1,J,S⟩,rfl⟩
 .rw[key _ I (D.2.q RQ) I]; simp
 .rw[key _ I (D.2.q RQ) I]; simp
 .rw[key _ I (D.2.q RQ) I]; simp
 rw[RS];symm;rw[ŉ];simp only[Û,Þ,ß];omega
abbrev ako{w:E5}{a b:aj}(h:eH K w a)(h':eH K w b):Nq prog 37 #[a.v,b.v] w (Ï w (.b (a.key=b.key))):=by
 rw[<-aiW h.nrm h'.nrm]; exact Qh h h'
abbrev Gu{w:E5}{s t:aB}(h:bQ K w s)(h':bQ K w t) :
  Nq prog 16 #[s.v,t.v] w (Ï w (.b (s.key=t.key))):=by
 have D:s.ns.length<=9223372036854775807:=h.D.len;refine Ä func16 ntmps16 λS=>?_;obtain⟨a,cap,es⟩:∃a c,s.s = .s a s.ns.length c:=⟨_,_,I⟩;have hr:=h.D;rw[es]at hr;obtain⟨d,cap',et⟩:∃a c,t.s = .s a t.ns.length c:=⟨_,_,I⟩;have ae:=h'.D;rw[et]at ae;refine Â S λu b2 J D S=>Â S λu b5 J D S=>O1 S 29 [] [.M 1 0,.M 0 0,.M 1 1,.M 0 1,.M 1 2,.M 0 2,.cmp .neq 40 (.tmp 20) (.tmp 22) (.agg #[.u (s.bg.r.toNat:Int),.u (s.bg.g.toNat:Int),.u (s.bg.b.toNat:Int),.u (s.bg.a.toNat:Int)]) (.agg #[.u (t.bg.r.toNat:Int),.u (t.bg.g.toNat:Int),.u (t.bg.b.toNat:Int),.u (t.bg.a.toNat:Int)]) (.b (!decide (s.bg=t.bg))),.M 1 6,.re 27 s.s (.s a s.ns.length cap),.M 0 6,.re 30 t.s (.s d t.ns.length cap')] (hk:=⟨(ı (λ_=>amu s.bg t.bg _) X),es,et,G⟩) λS=>À S (((((s.w) != t.w)||((s.h) != t.h))||(!decide (s.bg=t.bg)))||(((s.ns.length:Int)) != (t.ns.length:Int))) (λfD S=>?_) λfD S=>?_
 .refine Xe S (.z) λS=>?_;exact⟨aJ (apQ fD),S.E⟩
 refine ĉ S (ι:=Nat) (λp D w'=>p<=s.ns.length∧((keys s.ns).take p=(keys t.ns).take p)∧Sx.St w D w' 53 [(0,s.v),(1,t.v),(2,.q b2 0),(3,.q b5 0),(4,.z),(5,.i p)] [(b5,t.cells),(b2,s.cells)] []) (λp=>s.ns.length-p) (0) (λS=>⟨Î _,I,S.qC⟩) ?_;rintro k J u fQ eu D;try dsimp only at D
 obtain⟨hk,hR,S⟩:=D;refine Ċ S λS=>O1 S 5 [] [.M 1 6,.re 36 s.s (.s a s.ns.length cap)] (hk:=⟨es,G⟩) λS=>À S (decide ((k:Int)<(s.ns.length:Int))) (λD S=>?_) λD S=>?_
 .have tH:k<s.ns.length:=by have:=Ý D; omega
  obtain⟨af,ag,rfl,pF,J,IY,TP⟩:=ý hr (λ_=>I) (k) tH;have S:=S.view0 IY TP;have Bl:k<t.ns.length:=by have:=afc fD; have:=Ý D; omega
  obtain⟨ah,ai,rfl,ab,aa,al,am⟩:=ý ae (λ_=>I) (k) Bl;have S:=S.view0 al am;refine ć S 12 [.M 1 6,.re 42 s.s (.s (some ⟨af,ag,none⟩) s.ns.length cap),.idx k s.ns.length,.M 3 0,.M 0 6,.re 47 t.s (.s (some ⟨ah,ai,none⟩) t.ns.length cap'),.idx k t.ns.length,.M 2 0] [(_,_,true,.b (pF.key=ab.key))] [(52,.b (!(decide (pF.key=ab.key))))] ⟨λu hC g=>ako ((h.N _ (J▸ò tH)).below (Ip S.E hC)) ((h'.N _ (aa▸ò Bl)).below (Ip S.E hC)),G⟩ (hk:=⟨es,tH,et,Bl,G⟩) λu Md S=>À S (!(decide (pF.key=ab.key))) (λvI S=>?_) λvI S=>?_
  .refine Xe S (.z) λS=>?_;exact⟨aJ (ak0 fD (apP tH Bl J aa vI)),S.E⟩
  refine O1 S 3 [] [kS 40 k] (hk:=⟨ù Z,G⟩) λS=>ċ S fQ λS=>?_;exact eu _ _ (k+1) ⟨Z,(aiX tH Bl hR J aa vI),S.qC⟩ (by show _-_<_-_; omega)
 refine Xe S (.b true) λS=>?_;exact⟨aJ (ak0 fD (amv (by have:=é D; omega) (afc fD) hR)),S.E⟩
end
section
variable{α:Type}
section
variable{H:Type}{enc:Ð×y9->H}{W:E5}{sp:Nat->Bool}{held:Bool}{n:Nat}{cs:List y9}{y:DataW H×List MemPlace}
def aB.ok(W:E5)(s:aB):Prop:=I64 s.w∧I64 s.h∧aG 47 aj.cells W s.s s.ns∧∀n∈s.ns,n.ok W
def aQ.ok(W:E5)(e:aQ):Prop:=I64 e.kind∧I64 e.id∧I64 e.index∧I64 e.depth∧e.node.ok W
end
end
section
variable{α:Type}{K:Nat}
abbrev K13{t:bD}(h:t.lt=true):t.fit 20:=by
 unfold bD.lt at h;obtain⟨D,h⟩:=zo h;obtain⟨J,h⟩:=zo h;obtain⟨S,h⟩:=zo h;obtain⟨h3,h⟩:=zo h;obtain⟨h4,h⟩:=zo h;obtain⟨h5,h⟩:=zo h;exact⟨Fj D,Fj J,Fj S,Fj h3,Fj h4,Fj h5⟩
abbrev ak.D9{p:ak}(h:p.lt=true):p.t.fit 20∧p.lim:=by
 unfold ak.lt at h;simp only[Ŏ,Ĕ,Ň,Ą]at h;have:=K13 h.1.1;exact⟨this,Z,Z,abb this⟩
abbrev aj.D9{w:E5}{n:aj}(h:n.lt=true)(ho:n.ok w):eH 20 w n∧n.lim:=by
 unfold aj.lt aj.ϔ at h;simp only[Û,Ŏ,Ĕ,Ň,Ą,ñ,ā]at h;obtain⟨⟨⟨⟨⟨⟨⟨S,h2⟩,h3⟩,h4⟩,D⟩,h6⟩,h7⟩,J⟩:=h;have S:=K13 D;exact⟨⟨ho,S,λp D=>(ak.D9 (J p (.inl D))).1,λp D=>(ak.D9 (J p (.inr D))).1,by decide,by decide⟩,abb S,Z,Z,Z,λp D=>(ak.D9 (J p (.inl D))).2,Z,Z,λp D=>(ak.D9 (J p (.inr D))).2,Z⟩
abbrev aB.ahm{w:E5}{s:aB}(h:s.light=true)(D:s.ok w)(hl:s.ns.length<=64):bQ 20 w s∧∀n∈s.ns,n.lim:=by
 unfold aB.light at h;simp only[Û,ñ]at h;rw[Ď Z]at h;exact⟨⟨D.1,D.2.1,D.D,λn hn=>(aj.D9 (h.2 n hn) (D.N n hn)).1⟩,λn hn=>(aj.D9 (h.2 n hn) (D.N n hn)).2⟩
variable{s:aB}{w:E5}{lv:y9}
abbrev Zw{l:List dV}(h:wE s l=true):s.light=true∧l.length<=24∧∀x∈l,x.e.node.lt=true:=by
 unfold wE at h;simp only[Û,Þ]at h;refine⟨h.2.1,h.F,λx D=>?_⟩;have:=h.1;rw[Ď Z]at this;exact ñ.1 this x D
def dV.ok(W:E5)(x:dV):Prop:=I64 x.d∧x.e.ok W
abbrev step_ok{x:dV}(h:x.e.node.lt=true)(D:x.ok w):gU 20 w x.e∧x.e.node.lim:=
 ⟨⟨D.2.1,D.D,D.C,D.A,(aj.D9 h D.J).1⟩,(aj.D9 h D.J).2⟩
abbrev ahn(hl:64<s.ns.length) :
  Nq prog 83 #[s.v] w λr w'=>∃c i:Int,(c==0)=false∧r = .R (.tuple #[.i c,.i i])∧Ext w w':=by
 skip;refine Ä func83 ntmps83 λS=>?_;obtain⟨a,cap,es⟩:∃a c,s.s = .s a s.ns.length c:=⟨_,_,I⟩;refine Â S λu b2 J D S=>O1 S 20 [] [.M 0 0,.M 0 0,.M 0 1,.M 0 1] λS=>À S ((((decide (s.w<1))||(decide (256<s.w)))||(decide (s.h<1)))||(decide (256<s.h))) (λD S=>?_) λD S=>?_
 .refine Ol S (.i 6) (.i 0) λS=>?_;exact⟨6,0,O,I,S.E⟩
 refine O1 S 4 [] [.M 0 6,.re 28 s.s (.s a s.ns.length cap),.re 30 (.b ((64:Int)<(s.ns.length:Int))) (.b true)] (hk:=⟨es,(Ñ Value.b (ņ Z)),G⟩) λS=>ã S λS=>Ol S (.i 5) (.i 64) λS=>?_;exact⟨5,64,O,I,S.E⟩
abbrev aho(hl:64<s.ns.length) :
  Nq prog 51 #[s.v] w (Ï w (.z)):=by
 skip;refine Ä func51 ntmps51 λS=>Â S λu b2 J D S=>O1 S 2 [] [.M 0 0] λS=>ê S (ahn hl) ?_;rintro e u ⟨c,i,D,rfl,J⟩;refine⟨_,I,J,λS=>?_⟩;refine O1 S 8 [] [.re 11 (.b (c==0)) (.z)] (hk:=⟨(Ñ Value.b D),G⟩) λS=>Xe S (.z) λS=>?_;exact⟨I,S.E⟩
abbrev atJ(hl:64<s.ns.length) :
  Nq prog 25 #[s.v] w (Ï w (.tuple #[.pointer none,.i 18])):=by
 skip;refine Ä func25 ntmps25 λS=>Â S λu b2 J D S=>O1 S 3 [] [.M 0 0] λS=>ð S (aho hl) λu D S=>ã S λS=>Ol S ((.pointer none)) (.i 18) λS=>?_;exact⟨I,S.E⟩
abbrev aoU(hN:∀u,Ext w u->Nq prog 25 #[s.v] u (Ï u (.tuple #[.pointer none,.i 18]))) :
  Nq prog 21 #[s.v,lv] w (Ï w (.pointer none)):=by
 skip;refine Ä func21 ntmps21 λS=>Â S λu b2 J D S=>O1 S 2 [] [.M 0 0] λS=>ð S (hN _ S.E) λu D S=>ã S λS=>Xe S ((.pointer none)) λS=>?_;exact⟨I,S.E⟩
abbrev aoV(J:s.ns.length<=64->bQ 20 w s∧∀n∈s.ns,n.lim)(S:bU w)(hv:s.key.valid=false) :
  Nq prog 21 #[s.v,lv] w (Ï w (.pointer none)):=by
 refine aoU λu D=>?_;by_cases hl:s.ns.length<=64
 .obtain⟨h1,h2⟩:=J hl;exact ahg (h1.below D) (bU.below S D) h2 hv
 exact atJ Z
end
section
variable{W:E5}{t e:Ð}{cs:List y9}
def Td(W:E5)(t:Ð)(cs:List y9):Prop:=∃(H:Type) (enc:Ð×y9->H) (n:Nat) (y:DataW H×List MemPlace),DataW.trod enc prog W 0 (λ_=>true) true n t cs=some y∧∀x∈y.1.weights prog t,x<=reachBytes
def TdL(W:E5):List Ð->List y9->Prop
 | [],cs=>cs=[]
 | t::ts,cs=>∃p q,cs=p++q∧Td W t p∧TdL W ts q
noncomputable def ahp:List Field->Nat->Option Nat
 | [],o=>some o
 | f::r,o=>if f.offset=o then ahp r (o+prog.cellsOf f.type)else none
theorem ahq{H:Type}{enc:Ð×y9->H}{n:Nat}:∀{l:List Field} {o:Nat} {xs:List (DataW H×List MemPlace)},ahp l o=some cs.length->xs.length=l.length ->
  (∀(i:Nat) (f:Field),l[i]?=some f->DataW.trod enc prog W 0 (λ_=>true) true n f.type ((cs.drop f.offset).take (prog.cellsOf f.type))=xs[i]?) ->
  (∀x∈DataW.weightsEach prog (l.map (·.type)) (xs.map (·.1)),x<=reachBytes)->TdL W (l.map (·.type)) (cs.drop o)
 | [],o,xs,h,_,_,_=>by
  simp only[ahp,Æ]at h
  show cs.drop o=[]
  rw[h,List.drop_length]
 | f::r,o,[],_,h,_,_=>by cases h
 | f::r,o,y::ys,h,hl,D,hw=>by
  simp only[ahp]at h
  split at h
  .rename_i ho
   simp only[đ,DataW.weightsEach,ā]at hw
   refine⟨(cs.drop o).take (prog.cellsOf f.type),cs.drop (o+prog.cellsOf f.type),by rw[<-Ÿ,ň],⟨H,enc,n,y,ho▸D 0 f I,λx D=>hw x (.inl D)⟩,ahq h (by simpa using hl) (λi J S=>D (i+1) J S) λx D=>hw x (.inr D)⟩
  .cases h
abbrev iI{fs:Array Field}(J:prog.underlying t=some (.struct fs))(h:Td W t cs)(ho:ahp fs.toList 0=some (prog.cellsOf t):=by kernel_rfl):TdL W (fs.toList.map (·.type)) cs:=by
 obtain⟨H,enc,n,y,h,hw⟩:=h;obtain⟨xs,n',rfl,rfl,hl,D,S⟩:=DataW.trod_struct J h;simp only[DataW.weights,J]at hw;exact ahq (hl▸ho) (by simpa using D) (λi f J=>S i f (by simpa using J)) hw
theorem ahr{H:Type}{d:DataW H}:∀{l:List (DataW H)},d∈l->∀x∈d.weights prog e,x∈DataW.weightsAll prog e l
 | z::l,h,x,hx=>by
  simp only[DataW.weightsAll,ā]
  rcases Ù.1 h with rfl | h
  .exact .inl hx
  .exact .inr (ahr h x hx)
abbrev yJ{α:Type}(k b:Nat)(J:prog.underlying t=some (.slice e))(f:α->List y9)(ok:α->Prop)(hR:∀cs,Td W e cs->∃m,cs=f m∧ok m)(h:Td W t cs)(ae:0<k:=by decide)(hn:prog.cellsOf e=k:=by kernel_rfl)(hb:prog.bytesOf e=b:=by kernel_rfl) :
  ∃a cap l,cs=[.s a (List.length l) cap]∧aG k f W (.s a l.length cap) l∧(∀x∈l,ok x)∧l.length*b<=140737488351232:=by
 obtain⟨H,enc,n,y,h,hw⟩:=h;rcases DataW.trod_slice J h with ⟨rfl,_⟩ | ⟨ad,len,cap,D,rest,n,rfl,rfl,rfl,_,hl,hm,aa,ab,hr,_⟩
 .exact⟨none,0,[],I,dK _ _ _,(λx S=>by cases S),by simp⟩
 rw[hn]at ab;simp only[DataW.weights,J,Ù,ā,ĭ]at hw;obtain⟨l,D,hq⟩:=SQ (Q:=λi m=>ok m∧∀j,j<k->W.cell? ((ad.add (i*k)).add j)=(f m)[j]?∧(f m).length=k) len λi hi=>by
  have J:=ab i hi;rw[List.getElem?_eq_getElem Z,Option.bind_eq_some_iff]at J;obtain⟨cs,ac,J⟩:=J;obtain⟨h1,h2⟩:=akn ac;obtain⟨m,rfl,hm⟩:=hR cs ⟨H,enc,n,_,J,λx S=>hw x (.inr (.inl (ahr (ô.2 ⟨_,ò _,I⟩) x S)))⟩;exact⟨m,hm,λj hj=>⟨h2 j hj,h1⟩⟩
 refine⟨some ad,cap,l,by rw[D],⟨some ad,cap,I,Z,?_⟩,λx S=>?_,?_⟩
 .rcases ė l.length with h0 | h0
  .left; exact⟨Ś h0,by simp⟩
  right;obtain⟨hc,af⟩:=(hq 0 h0).2 0 ae;rw[List.getElem?_eq_getElem Z]at hc;have J:(ad.add (0*k)).add 0=ad:=by simp[Addr.add]
  rw[J]at hc;have J:=cell_spot hc;refine⟨ad.block,ad.off,?_,cell_lt hc,Z,λi hi j hj=>?_⟩
  .obtain⟨b,o,s⟩:=ad; simp at J; subst J; rfl
  have:=((hq i hi).2 j hj).1;rw[aen J,aen I]at this;exact this
 .obtain⟨i,hi,rfl⟩:=List.getElem_of_mem S;exact(hq i hi).1
 have h1:=hw _ (.inl I);rw[hb,aa,(hr I).1]at h1;have h2:len*b<=(len+(cap-len))*b:=ō b Z;have J:l.length=len:=D;rw[J];unfold reachBytes at h1;omega
abbrev aoW{k:IntKind}(D:prog.underlying e=some (.int k))(h:Td W e cs):∃x,cs=[.int k x]∧(Lit.int k x).wf=true:=by
 obtain⟨H,enc,n,y,h,-⟩:=h;exact atI D h
abbrev oq(h:Td W 3 cs):∃x,cs=[.i x]∧I64 x:=by
 obtain⟨x,D,J⟩:=aoW underlying3 h;exact⟨x,D,bounds_i64 J⟩
abbrev Ea(h:Td W 5 cs):∃x:UInt8,cs=[gY x]:=by
 obtain⟨x,rfl,J⟩:=aoW underlying5 h;exact(alY J).imp λc D=>by rw[D]
abbrev aoX(h:Td W 119 cs):∃x:UInt32,cs=[bn x]:=by
 obtain⟨x,rfl,J⟩:=aoW underlying119 h;exact(aiB J).imp λc D=>by rw[D]
abbrev RU(h:Td W 4 cs):∃b,cs=[.b b]:=by
 obtain⟨H,enc,n,y,h,-⟩:=h;exact ahk underlying4 h
abbrev ahs(h:Td W 24 cs):∃b a k l,cs=[.b b,.s a (List.length l) k]∧aH W (.s a l.length k) l∧l.length<=35184372088832:=by
 obtain⟨_,_,rfl,D,_,_,rfl,J,rfl⟩:=iI underlying24 h;obtain⟨x,rfl⟩:=RU D;obtain⟨a,k,l,rfl,r,-,z⟩:=yJ 1 4 underlying22 (λx:UInt32=>[bn x]) (λ_=>True) (λcs h=>(aoX h).imp λ_ h=>⟨h,G⟩) J;exact⟨x,a,k,l,I,KW r,Z⟩
abbrev Fp(h:Td W 26 cs):∃m:bH,cs=m.cells∧m.ok W∧m.lim:=by
 obtain⟨_,_,rfl,D,_,_,rfl,J,rfl⟩:=iI underlying26 h;obtain⟨b0,a0,S,l0,rfl,w0,z0⟩:=ahs D;obtain⟨b1,a1,k1,D,rfl,w1,z1⟩:=ahs J;exact⟨⟨b0,a0,S,l0,b1,a1,k1,D⟩,I,⟨w0,w1⟩,z0,z1⟩
abbrev aht(h:Td W 28 cs):∃m:bD,cs=m.cells∧m.ok W∧m.lim:=by
 obtain⟨_,_,rfl,D,_,_,rfl,J,_,_,rfl,S,_,_,rfl,h3,_,_,rfl,h4,_,_,rfl,h5,rfl⟩:=iI underlying28 h;obtain⟨m0,rfl,w0,z0⟩:=Fp D;obtain⟨D,rfl,w1,z1⟩:=Fp J;obtain⟨J,rfl,w2,z2⟩:=Fp S;obtain⟨S,rfl,w3,z3⟩:=Fp h3;obtain⟨m4,rfl,w4,z4⟩:=Fp h4;obtain⟨m5,rfl,w5,z5⟩:=Fp h5;exact⟨⟨m0,D,J,S,m4,m5⟩,by kernel_rfl,⟨w0,w1,w2,w3,w4,w5⟩,z0,z1,z2,z3,z4,z5⟩
abbrev VY(h:Td W 130 cs):∃m:kG,cs=[.i m.x,.i m.y]∧m.ok:=by
 obtain⟨_,_,rfl,D,_,_,rfl,J,rfl⟩:=iI underlying130 h;obtain⟨x0,rfl,w0⟩:=oq D;obtain⟨x1,rfl,w1⟩:=oq J;exact⟨⟨x0,x1⟩,I,w0,w1⟩
abbrev Eb(h:Td W 40 cs):∃m:bI,cs=m.cells:=by
 obtain⟨_,_,rfl,D,_,_,rfl,J,_,_,rfl,S,_,_,rfl,h3,rfl⟩:=iI underlying40 h;obtain⟨x0,rfl⟩:=Ea D;obtain⟨x1,rfl⟩:=Ea J;obtain⟨D,rfl⟩:=Ea S;obtain⟨J,rfl⟩:=Ea h3;exact⟨⟨x0,x1,D,J⟩,I⟩
abbrev ahu(h:Td W 178 cs):∃m:bI,cs=m.cells∧True:=by
 obtain⟨_,_,rfl,D,_,_,rfl,J,_,_,rfl,S,_,_,rfl,h3,rfl⟩:=iI underlying178 h;obtain⟨x0,rfl⟩:=Ea D;obtain⟨x1,rfl⟩:=Ea J;obtain⟨D,rfl⟩:=Ea S;obtain⟨J,rfl⟩:=Ea h3;exact⟨⟨x0,x1,D,J⟩,I,G⟩
abbrev akp(h:Td W 202 cs):∃m:dI,cs=m.cells∧m.ok:=by
 obtain⟨_,_,rfl,D,_,_,rfl,J,rfl⟩:=iI underlying202 h;obtain⟨x0,rfl,w0⟩:=oq D;obtain⟨D,rfl⟩:=Eb J;exact⟨⟨x0,D⟩,I,w0⟩
abbrev aoY(h:Td W 163 cs):∃m:dL,cs=m.cells∧m.ok:=by
 obtain⟨_,_,rfl,D,_,_,rfl,J,_,_,rfl,S,_,_,rfl,h3,rfl⟩:=iI underlying163 h;obtain⟨x0,rfl,w0⟩:=oq D;obtain⟨D,rfl,w1⟩:=VY J;obtain⟨J,rfl,w2⟩:=VY S;obtain⟨S,rfl,w3⟩:=VY h3;exact⟨⟨x0,D,J,S⟩,I,w0,w1,w2,w3⟩
abbrev abd(h:Td W 29 cs):∃a cap l,cs=[.s a (List.length l) cap]∧aG 7 dL.cells W (.s a l.length cap) l∧(∀x∈l,x.ok)∧l.length*56<=140737488351232:=
 yJ 7 56 underlying29 dL.cells dL.ok (λcs h=>aoY h) h
abbrev ahv(h:Td W 36 cs):∃m:dH,cs=m.cells∧m.ok W∧m.l.length<=35184372088832:=by
 obtain⟨_,_,rfl,D,_,_,rfl,J,_,_,rfl,S,rfl⟩:=iI underlying36 h;obtain⟨x0,rfl,w0⟩:=oq D;obtain⟨x1,rfl,w1⟩:=oq J;obtain⟨a,k,l,rfl,r,-,z⟩:=yJ 4 4 underlying34 bI.cells (λ_=>True) (λcs h=>ahu h) S;exact⟨⟨x0,x1,a,k,l⟩,I,⟨w0,w1,r⟩,by show l.length<=_; omega⟩
abbrev ahw(h:Td W 33 cs):∃m:aX,cs=m.cells∧m.ok W∧m.dash.length<=17592186044416:=by
 obtain⟨_,_,rfl,D,_,_,rfl,J,_,_,rfl,S,_,_,rfl,h3,_,_,rfl,h4,_,_,rfl,h5,rfl⟩:=iI underlying33 h;obtain⟨x0,rfl,w0⟩:=oq D;obtain⟨x1,rfl,w1⟩:=oq J;obtain⟨D,rfl,w2⟩:=oq S;obtain⟨J,rfl,S⟩:=oq h3;obtain⟨a,k,l,rfl,r,w,z⟩:=yJ 1 8 underlying31 (λx:Int=>[Ac x]) I64 (λcs h=>oq h) h4;obtain⟨x5,rfl,w5⟩:=oq h5;exact⟨⟨x0,x1,D,J,a,k,l,x5⟩,I,⟨w0,w1,w2,S,KW r,w,w5⟩,by show l.length<=_; omega⟩
abbrev ahx(h:Td W 133 cs):∃m:ak,cs=m.cells∧m.ok W∧m.lim:=by
 obtain⟨_,_,rfl,D,_,_,rfl,J,_,_,rfl,S,_,_,rfl,h3,_,_,rfl,h4,_,_,rfl,h5,_,_,rfl,h6,_,_,rfl,h7,_,_,rfl,h8,_,_,rfl,h9,rfl⟩:=iI underlying133 h;obtain⟨x0,rfl,w0⟩:=oq D;obtain⟨D,rfl⟩:=Eb J;obtain⟨J,rfl,w2⟩:=VY S;obtain⟨S,rfl,w3⟩:=VY h3;obtain⟨x4,rfl,w4⟩:=oq h4;obtain⟨a,k,l,rfl,r,w,z⟩:=yJ 5 16 underlying131 dI.cells dI.ok (λcs h=>akp h) h5;obtain⟨x6,rfl,w6⟩:=oq h6;obtain⟨m7,rfl,w7,z7⟩:=ahv h7;obtain⟨x8,rfl,w8⟩:=oq h8;obtain⟨m9,rfl,w9,z9⟩:=aht h9;exact⟨⟨x0,D,J,S,x4,a,k,l,x6,m7,x8,m9⟩,by kernel_rfl,⟨w0,w2,w3,w4,r,w,w6,w7,w8,w9⟩,by show l.length<=_; omega,z7,z9⟩
abbrev Pn(h:Td W 30 cs):∃a cap l,cs=[.s a (List.length l) cap]∧aG 40 ak.cells W (.s a l.length cap) l∧(∀x∈l,x.ok W∧x.lim)∧l.length*520<=140737488351232:=
 yJ 40 520 underlying30 ak.cells (λx=>x.ok W∧x.lim) (λcs h=>ahx h) h
abbrev abe(h:Td W 38 cs):∃m:aj,cs=m.cells∧m.ok W∧m.lim:=by
 obtain⟨_,_,rfl,J,_,_,rfl,h1,_,_,rfl,h2,_,_,rfl,h3,_,_,rfl,h4,_,_,rfl,h5,_,_,rfl,h6,_,_,rfl,h7,_,_,rfl,h8,_,_,rfl,h9,_,_,rfl,D,_,_,rfl,S,_,_,rfl,ae,_,_,rfl,af,_,_,rfl,I5,_,_,rfl,ag,_,_,rfl,ah,rfl⟩:=iI underlying38 h;obtain⟨x0,rfl,w0⟩:=oq J;obtain⟨x1,rfl,w1⟩:=oq h1;obtain⟨x2,rfl,w2⟩:=oq h2;obtain⟨m3,rfl,w3,z3⟩:=aht h3;obtain⟨a4,k4,l4,rfl,r4,w4,J⟩:=abd h4;obtain⟨x5,rfl,w5⟩:=oq h5;obtain⟨x6,rfl⟩:=Ea h6;obtain⟨x7,rfl,w7⟩:=oq h7;obtain⟨x8,rfl⟩:=RU h8;obtain⟨x9,rfl⟩:=RU h9;obtain⟨ai,al,J,rfl,am,an,bc⟩:=abd D;obtain⟨ao,rfl,ap⟩:=oq S;obtain⟨aq,ar,S,rfl,av,aa,D⟩:=Pn ae;obtain⟨aw,rfl,ax,ay⟩:=ahw af;obtain⟨az,a3,ab,rfl,a5,ac,D⟩:=Pn I5;obtain⟨a6,rfl,a7,a8⟩:=ahv ag;obtain⟨a9,rfl,bb⟩:=oq ah;exact⟨⟨x0,x1,x2,m3,a4,k4,l4,x5,x6,x7,x8,x9,ai,al,J,ao,aq,ar,S,aw,az,a3,ab,a6,a9⟩,by kernel_rfl,⟨w0,w1,w2,w3,⟨r4,w4⟩,w5,w7,⟨am,an⟩,ap,⟨av,λp D=>(aa p D).1⟩,ax,⟨a5,λp D=>(ac p D).1⟩,a7,bb⟩,z3,by show l4.length<=_; omega,by show J.length<=_; omega,by show S.length<=_; omega,λp D=>(aa p D).2,ay,by show ab.length<=_; omega,λp D=>(ac p D).2,a8⟩
abbrev aef(h:Td W 65 cs):∃m:aB,cs=m.cells∧m.ok W∧(∀n∈m.ns,n.lim)∧m.ns.length<=214538854200:=by
 obtain⟨_,_,rfl,D,_,_,rfl,J,_,_,rfl,S,_,_,rfl,h3,rfl⟩:=iI underlying65 h;obtain⟨x0,rfl,w0⟩:=oq D;obtain⟨x1,rfl,w1⟩:=oq J;obtain⟨D,rfl⟩:=Eb S;obtain⟨a,k,l,rfl,r,w,z⟩:=yJ 47 656 underlying63 aj.cells (λn=>n.ok W∧n.lim) (λcs h=>abe h) h3;exact⟨⟨x0,x1,D,a,k,l⟩,by kernel_rfl,⟨w0,w1,r,λn hn=>(w n hn).1⟩,λn hn=>(w n hn).2,by show l.length<=_; omega⟩
abbrev ZX(h:Td W 42 cs):∃m:aQ,cs=m.cells∧m.ok W:=by
 obtain⟨_,_,rfl,D,_,_,rfl,J,_,_,rfl,S,_,_,rfl,h3,_,_,rfl,h4,_,_,rfl,h5,rfl⟩:=iI underlying42 h;obtain⟨x0,rfl,w0⟩:=oq D;obtain⟨x1,rfl,w1⟩:=oq J;obtain⟨D,rfl,w2⟩:=oq S;obtain⟨J,rfl,S⟩:=oq h3;obtain⟨m4,rfl,w4,-⟩:=abe h4;obtain⟨m5,rfl⟩:=Eb h5;exact⟨⟨x0,x1,D,J,m4,m5⟩,by kernel_rfl,w0,w1,w2,S,w4⟩
abbrev akq(h:Td W 75 cs):∃m:dV,cs=m.cells∧m.ok W:=by
 obtain⟨_,_,rfl,D,_,_,rfl,J,rfl⟩:=iI underlying75 h;obtain⟨x0,rfl,w0⟩:=oq D;obtain⟨D,rfl,w1⟩:=ZX J;exact⟨⟨x0,D⟩,by kernel_rfl,w0,w1⟩
section
variable{H:Type}{enc:Ð×y9->H}{base:Nat}{v:y9}{d:DataW H}{p:List MemPlace}(hw:∀x∈d.weights prog t,x<=reachBytes)(h:DataW.Trod enc prog W 0 (λ_=>true) true t v d p)
include hw h
abbrev alK:Td W t v.cells.toList:=by
 obtain⟨n,h⟩:=h;exact⟨H,enc,n,(d,p),h,hw⟩
abbrev aee{α:Type}{f:α->List y9}{ok:α->Prop}{fs:Array Field}(J:prog.underlying t=some (.struct fs))(S:Value.okWide prog W .any base t v)(hR:∀cs,Td W t cs->∃m,cs=f m∧ok m):∃m,v = .agg (f m).toArray∧ok m:=by
 obtain⟨cs,rfl,D⟩:=okWide_struct J S;obtain⟨l⟩:=cs;obtain⟨m,D,J⟩:=hR l (alK hw h);exact⟨m,by rw[<-D],J⟩
end
abbrev aeg{H:Type}{enc:Ð×y9->H}{base:Nat}{v:y9}{d:DataW H}{p:List MemPlace}(hw:∀x∈d.weights prog 70,x<=reachBytes)(h:DataW.Trod enc prog W 0 (λ_=>true) true 70 v d p)(D:Value.okWide prog W .any base 70 v) :
  ∃a cap l,v = .s a (List.length l) cap∧aG 56 dV.cells W (.s a l.length cap) l∧(∀x∈l,x.ok W)∧l.length*704<=140737488351232:=by
 obtain⟨a,len,cap,rfl⟩:=okWide_slice underlying70 D;obtain⟨a1,k1,D,J,S,w1,z1⟩:=yJ 56 704 underlying70 dV.cells (λe=>e.ok W) (λcs h=>akq h) (alK hw h);exact⟨a1,k1,D,by simpa[Value.cells]using J,S,w1,z1⟩
abbrev PU{H:Type}{ts:List Ð}{d:DataW H}{D:List (DataW H)}(h:∀x∈DataW.weightsEach prog (t::ts) (d::D),x<=reachBytes):(∀x∈d.weights prog t,x<=reachBytes)∧∀x∈DataW.weightsEach prog ts D,x<=reachBytes:=
 ⟨λx D=>h x (ū _ D),λx D=>h x (ś _ D)⟩
end
section
structure Pg (n:aO):Prop where
 c:n.chk=0
 i:n.id=1
 k:n.kind=1
 d:n.depth=0
def CB(n:aO)(c:bI):bG:=⟨2,1,c,[n]⟩
abbrev Pg.valid{n:aO}(h:Pg n)(c:bI):(CB n c).valid=true:=by
 rw[bG.lY];refine⟨(by show(1:Int)<=2∧(2:Int)<=256∧(1:Int)<=1∧(1:Int)<=256; decide),(by show 1<=64; omega),?_,G⟩;exact FN.2 ⟨h.c,λκ D=>(by cases D),by rw[h.d]; exact Int.le_refl _⟩
def KX(c:bI):bY:=⟨5,0,0,0,.zero,c⟩
abbrev adC{s:bG}(h:s.valid=true)(c:bI):(⟨s.w,s.h,c,s.ns⟩:bG).valid=true:=by
 rw[bG.lY]at h |-;exact h
abbrev adD{s:bG}(h:s.valid=true)(c:bI):fE s (KX c)=(⟨s.w,s.h,c,s.ns⟩,0):=
 abR h (by simp[bY.named,KX]) (by simp[jH,KX]) (adC h c)
abbrev Pg.rm9{n:aO}(h:Pg n)(c:bI):fE (CB n c) (.remove 9)=(.zero,8):=by
 have J:jT (CB n c).ns 9=none:=XE.2 λκ D=>by rw[û.1 D,h.i]; decide
 unfold fE;rw[UQ (by rw[h.valid c]; decide),UQ (by simp[bY.named,bY.remove])];have:jH (CB n c).ns (.remove 9) = .error 8:=by
  unfold jH;rw[UQ O,Á (show(bY.remove 9).kind=2 from rfl),show(bY.remove 9).id=9 from rfl,J]
 rw[this]
end
section
open En
variable{α:Type}{K:Nat}
def VZ:aO:=⟨1,1,0,qI,[],0,255,1,false,false,[],0,[],aX.bare.key,[],dH.bare.key,0⟩
def yK(w:E5)(m:aB):Prop:=bQ 20 w m∧(∀n∈m.ns,n.lim)∧m.key=CB VZ .none∧Pg VZ
abbrev yK.below{w w':E5}{m:aB}(h:yK w m)(D:Ext w w'):yK w' m:=⟨h.1.below D,h.2⟩
variable{w:E5}{b:Nat}{m:aB}
abbrev akr{t:bD}(J:TI w t)(S:Bx w b (wF 1 t).cells.toArray):yK w ⟨2,1,.none,some ⟨b,0,none⟩,1,[wF 1 t]⟩:=by
 have hd:VW w 1 1 (wF 1 t) := .inl ⟨I,t,J,I⟩;have hk:(wF 1 t).key=VZ:=by unfold aj.key VZ wF; rw[J.2.q RQ]; rfl
 have D:(wF 1 t).checkN=0:=by have:=hd.check; simpa using this
 refine⟨⟨(show I64 2 by decide),(show I64 1 by decide),zf (f:=aj.cells) [wF 1 t] (λ_=>I) (by simpa using S) (by show 1<=maxLen; decide),λn hn=>by rw[û.1 hn]; exact hd.ok O O O⟩,λn hn=>?_,by unfold aB.key CB; rw[<-hk]; rfl,⟨by rw[<-hk,kY]; exact D,I,I,I⟩⟩;rw[û.1 hn];exact⟨(J.fit (Ç 1)).up O,Î _,Î _,Î _,(λp D=>by cases D),Î _,Î _,(λp D=>by cases D),Î _⟩
def EdS(k:bY):Prop:=k.kind=2∨k.kind=5
abbrev KY{f:FuncId}{args:Array y9}{v D:y9}(h:Nq prog f args w (Ï w v))(J:v=D):Nq prog f args w (Ï w D):=J▸h
abbrev atK{a n:Nat}{H:HD}{h:HK}(D:Bx w b H.cells.toArray)(hk:H.key=h)(J:h.k=a)(hn:h.es.length=n) :
  Nq prog 9 #[.q b 0] w (Ï w (.tuple #[.i a,.i n])):=by
 subst hk J hn;exact KY (agB (sv := .s H.sa H.ss.length H.sc) (ea:=H.ea) (ec:=H.ec) D) (by simp[HD.key])
abbrev aoZ{v:y9}(h:∃t:aB,v=t.v∧yK w t)(J:bQ 20 w m)(hk:m.key=CB VZ .none) :
  Nq prog 16 #[m.v,v] w (Ï w (.b true)):=by
 obtain⟨t,rfl,D⟩:=h;exact KY (Gu J D.1) (by rw[hk,D.D]; simp)
abbrev ahy(w:E5){k i:Int}{c:bI}(hk:I64 k)(J:I64 i)(D:1<=K∧K<=10000):gU K w ⟨k,i,0,0,bP,c⟩:=⟨hk,J,(show I64 0 by decide),(show I64 0 by decide),iq w D.1 D.2⟩
abbrev V3:bP.lim:=⟨(iq (K:=20) default O O).2.1.up O,Î _,Î _,Î _,(λp D=>by cases D),Î _,Î _,(λp D=>by cases D),Î _⟩
abbrev K14{h:HK}{e:bY}{t:bG}{c:Int}(hk:h.k≠256)(D:fE h.now e=(t,c)):h.app e=if c=0 then (⟨h.ss.take (h.k+1)++[t],h.es.take h.k++[e],h.k+1⟩,0)else (h,c):=by
 unfold HK.app HK.put;rw[UQ hk,D]
abbrev ao0{n:aO}(h:Pg n)(c:bI):HK.app ⟨[CB n .none],[],0⟩ (KX c)=(⟨[CB n .none,CB n c],[KX c],1⟩,0):=by
 rw[K14 (h:=⟨[CB n .none],[],0⟩) (t:=CB n c) (c:=0) (by show(0:Nat)≠256; decide) (adD (s:=CB n .none) (h.valid _) c),Á I]; rfl
abbrev atL{n:aO}(h:Pg n)(c:bI)(es:List bY):HK.app ⟨[CB n .none,CB n c],es,1⟩ (.remove 9)=(⟨[CB n .none,CB n c],es,1⟩,8):=by
 rw[K14 (h:=⟨[CB n .none,CB n c],es,1⟩) (t := .zero) (c:=8) (by show(1:Nat)≠256; decide) (h.rm9 c),UQ O]
abbrev V4(w:E5) :
  Nq prog 26 #[] w λe w'=>∃m:aB,e = .R m.v∧yK w' m∧Ext w w':=by
 skip;refine Ä func26 ntmps26 λS=>Ú S [.i 0,.i 0,.u 0,.u 0,.u 0,.u 0,.sn] λu b2 J D S=>ê S (G7 _) ?_;rintro e u ⟨t,rfl,ht,D⟩;refine⟨_,I,D,λS=>?_⟩;refine Ú S (Sx.L [.i 1,.i 1,.i 0]++t.cells++Sx.L [.sn,.i 0,.u 255,.i 1,.z,.z,.sn,.i 0,.sn,.i 0,.i 0,.i 0,.i 0,.sn,.i 0,.sn,.i 0,.i 0,.sn,.i 0]) λu b7 J D S=>?_;have TJ:=S.bx 1;refine í S 1 (off:=0) (cs:=[.i 2,.i 1,.u 0,.u 0,.u 0,.u 0,.s (some ⟨b7,0,none⟩) 1 1]) I λu D S=>?_;have wY:=TI.dZ (ht.below J) D TJ;refine ü S 1 I (v:=aB.v ⟨2,1,.none,some ⟨b7,0,none⟩,1,[wF 1 t]⟩) λS=>?_;exact⟨_,I,akr wY (S.kV 0),S.E⟩
abbrev ahA{base:Nat}(J:fF base m.s m.ns w)(D:bQ K w m)(hl:∀n∈m.ns,n.xZ K):Sx.aU base (λW=>bQ K W m∧∀n∈m.ns,n.lim) w:=
 ď J λW h=>⟨⟨D.1,D.2.1,h.1.1,λn hn=>⟨(h.2 n hn).1,(hl n hn).1⟩⟩,λn hn=>(hl n hn).2⟩
abbrev zy{P:bY->Prop}(hA:ϳ P)(hS:∀e,EdS e->P e)(hg:bU w) :
  Nq prog 19 #[] w (Ï w (.b true)):=by
 skip;refine Ä func19 ntmps19 λS=>ê S (V4 _) ?_;rintro e u ⟨p,rfl,hp,D⟩;refine⟨_,I,D,λS=>?_⟩;have aa:=λp hp=>(S.own p hp).1.1;have kS:=S.E.size;obtain⟨c0,a8⟩:∃z:Nat,z=u.heap.size:=⟨_,I⟩;have D:=hp;refine ê S (RN D.1 (bU.below hg S.E) D.2.1 (by rw[D.D]; exact D.N.valid _)) ?_;rintro e u ⟨bh,H1,rfl,J,be,af,⟨al,am⟩,E4⟩;rw[<-a8]at J af aa kS;rw[D.D]at am;refine⟨_,I,E4,λS=>?_⟩;have S:=S.fl;have S:=S.adopt (A:=H1.cells) be Z (λp hp=>by have:=aa p hp; omega) (λm hm=>by cases hm);refine O1 S 11 [25,26] [] λS=>ă S λS=>Â S λu b8 E9 Bf S=>É S 0 I λu a3 S=>?_;have rW:=È E9 a3;refine O1 S 3 [] [.M 0 0] λS=>?_;have S:=S.fl;refine â S 1 I (rQ hA (hS _ (show EdS _ from .inr I)) S.E (S.bx 1) (S.old 1) J al ((Ü af rW)) (e:=⟨5,0,0,0,bP,⟨255,0,0,255⟩⟩) (bU.below hg S.E) (ahy _ O O O) V3) ?_;rintro e u ⟨H2,cd,rfl,bj,an,ao,bk,ap,bm⟩;obtain⟨a9,rfl⟩:=ϗ (bj.trans (show _=((⟨[CB VZ .none,CB VZ ⟨255,0,0,255⟩],[KX ⟨255,0,0,255⟩],1⟩:HK),(0:Int))from by rw[am]; exact ao0 D.N ⟨255,0,0,255⟩));refine⟨_,_,I,bk,ap,bm,λS=>?_⟩;have xG:=(Sx.On.ch ((Ü af rW)) ap Z);have S:=S.fl;refine â S 1 I (rQ hA (hS _ (show EdS _ from .inl I)) S.E (S.bx 1) (S.old 1) J an ao (e:=⟨2,9,0,0,bP,.none⟩) (bU.below hg S.E) (ahy _ O O O) V3) ?_;rintro e u ⟨H3,cd,rfl,bo,bp,Q5,bq,aq,br⟩;obtain⟨bb,rfl⟩:=ϗ (bo.trans (show _=((⟨[CB VZ .none,CB VZ ⟨255,0,0,255⟩],[KX ⟨255,0,0,255⟩],1⟩:HK),(8:Int))from by rw[a9]; exact atL D.N ⟨255,0,0,255⟩ _));refine⟨_,_,I,bq,aq,br,λS=>?_⟩;have D:=(Sx.On.ch ao aq Z);have S:=S.fl;refine â S 1 I (KQ S.E (S.bx 1) (S.old 1) J bp Q5) ?_;rintro e u ⟨H4,cd,rfl,bs,ar,D,bt,av,bv⟩;obtain⟨ai,rfl⟩:=ϗ (bs.trans (show _=((⟨[CB VZ .none,CB VZ ⟨255,0,0,255⟩],[KX ⟨255,0,0,255⟩],0⟩:HK),(0:Int))from by rw[bb]; exact I));refine⟨_,_,I,bt,av,bv,λS=>?_⟩;have J5:=(Sx.On.ch Q5 av Z);have ct:=(S.bx 0).1;have cu:=(S.bx 1).1;refine ê S (sW (S.kV 1) ar D) ?_;rintro e u ⟨q,rfl,bw,bz,aw,ca,zV⟩;rw[ai]at aw;have Zh:=ahA bw bz ca;refine⟨_,I,zV,λS=>?_⟩;refine Â S λu a4 L6 P5 S=>É S 0 I λu Hr S=>?_;have GI:=È (Ip zV L6) Hr (by have:=zV.size; omega);have WV:=È L6 Hr;have S:=S.fl;refine â S 2 I (KQ S.E (S.bx 2) (S.old 2) J ar ((Ü D GI))) ?_;rintro e u ⟨H5,cd,rfl,cb,cc,ax,ce,ag,cf⟩;obtain⟨bc,rfl⟩:=ϗ (cb.trans (show _=((⟨[CB VZ .none,CB VZ ⟨255,0,0,255⟩],[KX ⟨255,0,0,255⟩],0⟩:HK),(20:Int))from by rw[ai]; exact I));refine⟨_,_,I,ce,ag,cf,λS=>?_⟩;have EF:=(Sx.On.ch ((Ü D GI)) ag Z);have tV:=(Sx.On.ch ((Ü Zh WV)) ag Z);have S:=S.fl;refine â S 2 I (Zp S.E (S.bx 2) (S.old 2) J cc ax) ?_;rintro e u ⟨H6,cd,rfl,D,cg,ay,Yn,DJ,Yo⟩;obtain⟨bd,rfl⟩:=ϗ (D.trans (show _=((⟨[CB VZ .none,CB VZ ⟨255,0,0,255⟩],[KX ⟨255,0,0,255⟩],1⟩:HK),(0:Int))from by rw[bc]; exact I));refine⟨_,_,I,Yn,DJ,Yo,λS=>?_⟩;have D:=(Sx.On.ch ax DJ Z);have Dc:=(Sx.On.ch tV DJ Z);have S:=S.fl;refine â S 2 I (Zp S.E (S.bx 2) (S.old 2) J cg ay) ?_;rintro e u ⟨H7,cd,rfl,ci,ah,D,cj,J,ck⟩;obtain⟨ab,rfl⟩:=ϗ (ci.trans (show _=((⟨[CB VZ .none,CB VZ ⟨255,0,0,255⟩],[KX ⟨255,0,0,255⟩],1⟩:HK),(20:Int))from by rw[bd]; exact I));refine⟨_,_,I,cj,J,ck,λS=>?_⟩;have EG:=(Sx.On.ch ay J Z);have Af:=(Sx.On.ch Dc J Z);refine ð S (atK (S.kV 2) ab I I) λu J S=>ê S (qR (S.kV 2) ah ((Ü D J)) (bU.below hg S.E)) ?_;rintro e u ⟨vb,rfl,cm,Mc⟩;refine⟨_,I,Mc,λS=>?_⟩;have aa:=λp hp=>(S.own p hp).1.1;have kS:=S.E.size;have a5:=æ ((Ü D (Ip J Mc)));refine ê S (Pj hA (by rw[ab]; intro e he; rw[û.1 he]; exact hS _ (.inr I)) (rowB cm) ah O a5 (bU.below hg S.E)) ?_;rintro e u ⟨bu,ì,rfl,cw,cn,ae,co,az,SC⟩;refine⟨_,I,SC,λS=>?_⟩;have S:=S.adopt (A:=ì.cells) cn Z (λp hp=>by have:=aa p hp; omega) (λm hm=>by cases hm);refine ă S λS=>?_;have cv:=S.E;have a6:=((Ü D (Ip J (Ip Mc SC))));have ae:=ae;have a7:=æ ((Ü Af (Ip J (Ip Mc SC))));rw[ab]at az;have S:=S.fl;refine WZ S f19 17 λS D=>?_;have S:=S.sub [(1,.q bh 0),(3,.q b8 0),(4,.i 0),(5,.i 8),(6,.i 0),(7,.q a4 0),(8,.i 20),(9,.i 0),(10,.i 20),(11,.i 1),(12,.i 1),(14,.i 0),(15,.q bu 0),(16,.i 0)];refine OD S 58 (Rel.is (.i 0)::Rel.is (.b true)::Rel.is (.b true)::Rel.is (.i 8)::Rel.is (.b true)::Rel.is (.b true)::Rel.is (.b true)::Rel.is (.i 0)::Rel.is (.b true)::Rel.is (.b true)::Rel.is (.b true)::Rel.is (q.v)::(λv w1=>∃m:aB,v=m.v∧yK w1 m)::Rel.is (.b true)::Rel.is (.b true)::Rel.is (.b true)::Rel.is (.i 20)::Rel.is (.b true)::Rel.is (.b true)::Rel.is (.b true)::Rel.is (.i 0)::Rel.is (.b true)::Rel.is (.b true)::Rel.is (.b true)::Rel.is (.i 20)::Rel.is (.b true)::Rel.is (.b true)::Rel.is (.b true)::Rel.is (.q bh 0)::(λv w1=>∃m:aB,v=m.v∧m.bg=⟨255,0,0,255⟩)::Rel.is (.agg #[.u 255,.u 0,.u 0,.u 255])::Rel.is (.agg #[.u 255,.u 0,.u 0,.u 255])::Rel.is (.b true)::Rel.is (.b true)::Rel.is (.b true)::Rel.is (.i 1)::Rel.is (.b true)::Rel.is (.b true)::Rel.is (.b true)::Rel.is (.i 1)::Rel.is (.b true)::Rel.is (.b true)::Rel.is (.b true)::Rel.is (.i 0)::Rel.is (.b true)::Rel.is (.b true)::Rel.is (.b true)::Rel.is (.i 0)::Rel.is (.b true)::Rel.is (.b true)::Rel.is (.b true)::Rel.is (.q bu 0)::(λv w1=>∃m:aB,v=m.v∧m.bg=⟨255,0,0,255⟩)::Rel.is (.agg #[.u 255,.u 0,.u 0,.u 255])::Rel.is (.agg #[.u 255,.u 0,.u 0,.u 255])::Rel.is (.b true)::Rel.is (.b true)::Rel.is (.b true)::[]) 57 0 (.b true) ⟨aA _,aA _,aA _,aA _,aA _,aA _,aA _,aA _,aA _,aA _,aA _,aA _,λ_ _ _ k h=>by obtain⟨m,e,h⟩:=h; exact⟨m,e,h.below k⟩,aA _,aA _,aA _,aA _,aA _,aA _,aA _,aA _,aA _,aA _,aA _,aA _,aA _,aA _,aA _,aA _,λ_ _ _ k h=>by obtain⟨m,e,h⟩:=h; exact⟨m,e,h⟩,aA _,aA _,aA _,aA _,aA _,aA _,aA _,aA _,aA _,aA _,aA _,aA _,aA _,aA _,aA _,aA _,aA _,aA _,aA _,aA _,aA _,aA _,λ_ _ _ k h=>by obtain⟨m,e,h⟩:=h; exact⟨m,e,h⟩,aA _,aA _,aA _,aA _,aA _,G⟩ ⟨λρ u1 J ho hC D=>Ø J [(4,.i 0)] ⟨(ho 4 I).trans (S.s.ev I),G⟩,
  λρ u1 J ho hC D=>Ø J [(63,.i 0)] ⟨D.1 I,G⟩,
  λρ u1 J ho hC D=>Ø J [(64,.b true)] ⟨D.1 I,G⟩,
  λρ u1 J ho hC D=>⟨λ_=>Ø J [(5,.i 8)] ⟨(ho 5 I).trans (S.s.ev I),G⟩,λhn=>absurd (D.1 I) hn⟩,
  λρ u1 J ho hC D=>⟨λ_=>Ø J [(66,.i 8)] ⟨D.1 I,G⟩,λhn=>absurd (D.2.1 I) hn⟩,
  λρ u1 J ho hC D=>Ø J [(65,.b true),(67,.b true)] ⟨D.1 I,D.2.1 I,G⟩,
  λρ u1 J ho hC D=>Ø J [(68,.b true)] ⟨D.1 I,G⟩,
  λρ u1 J ho hC D=>⟨λ_=>Ø J [(6,.i 0)] ⟨(ho 6 I).trans (S.s.ev I),G⟩,λhn=>absurd (D.1 I) hn⟩,
  λρ u1 J ho hC D=>⟨λ_=>Ø J [(70,.i 0)] ⟨D.1 I,G⟩,λhn=>absurd (D.2.1 I) hn⟩,
  λρ u1 J ho hC D=>Ø J [(69,.b true),(71,.b true)] ⟨D.1 I,D.2.1 I,G⟩,
  λρ u1 J ho hC D=>Ø J [(72,.b true)] ⟨D.1 I,G⟩,
  λρ u1 J ho hC D=>⟨λ_=>W9 ((ho 7 I).trans (S.s.ev I)) (((S.bx 1).ext hC).range 0 7 I),λhn=>absurd (D.1 I) hn⟩,
  λρ u1 J ho hC D=>⟨λ_=>Sx.dc (T:=λv w1=>∃m:aB,v=m.v∧yK w1 m) J [] trivial ((V4 _).mono λe w2 ⟨m,h1,h2,h3⟩=>⟨_,h1,h3,m,I,h2⟩),λhn=>absurd (D.1 I) hn⟩,
  λρ u1 J ho hC D=>⟨λ_=>Sx.dc (T:=Rel.is (.b true)) J [(74,q.v),(75,ρ (.tmp 75))] ⟨D.1 I,I,G⟩ ((aoZ (D.2.1 I) (a7.1.below hC) aw).mono λe w2 h=>⟨_,h.1,h.2,I⟩),λhn=>absurd (D.C I) hn⟩,
  λρ u1 J ho hC D=>Ø J [(73,.b true),(76,.b true)] ⟨D.1 I,D.2.1 I,G⟩,
  λρ u1 J ho hC D=>Ø J [(77,.b true)] ⟨D.1 I,G⟩,
  λρ u1 J ho hC D=>⟨λ_=>Ø J [(8,.i 20)] ⟨(ho 8 I).trans (S.s.ev I),G⟩,λhn=>absurd (D.1 I) hn⟩,
  λρ u1 J ho hC D=>⟨λ_=>Ø J [(79,.i 20)] ⟨D.1 I,G⟩,λhn=>absurd (D.2.1 I) hn⟩,
  λρ u1 J ho hC D=>Ø J [(78,.b true),(80,.b true)] ⟨D.1 I,D.2.1 I,G⟩,
  λρ u1 J ho hC D=>Ø J [(81,.b true)] ⟨D.1 I,G⟩,
  λρ u1 J ho hC D=>⟨λ_=>Ø J [(9,.i 0)] ⟨(ho 9 I).trans (S.s.ev I),G⟩,λhn=>absurd (D.1 I) hn⟩,
  λρ u1 J ho hC D=>⟨λ_=>Ø J [(83,.i 0)] ⟨D.1 I,G⟩,λhn=>absurd (D.2.1 I) hn⟩,
  λρ u1 J ho hC D=>Ø J [(82,.b true),(84,.b true)] ⟨D.1 I,D.2.1 I,G⟩,
  λρ u1 J ho hC D=>Ø J [(85,.b true)] ⟨D.1 I,G⟩,
  λρ u1 J ho hC D=>⟨λ_=>Ø J [(10,.i 20)] ⟨(ho 10 I).trans (S.s.ev I),G⟩,λhn=>absurd (D.1 I) hn⟩,
  λρ u1 J ho hC D=>⟨λ_=>Ø J [(87,.i 20)] ⟨D.1 I,G⟩,λhn=>absurd (D.2.1 I) hn⟩,
  λρ u1 J ho hC D=>Ø J [(86,.b true),(88,.b true)] ⟨D.1 I,D.2.1 I,G⟩,
  λρ u1 J ho hC D=>Ø J [(89,.b true)] ⟨D.1 I,G⟩,
  λρ u1 J ho hC D=>⟨λ_=>Ø J [(1,.q bh 0)] ⟨(ho 1 I).trans (S.s.ev I),G⟩,λhn=>absurd (D.1 I) hn⟩,
  λρ u1 J ho hC D=>⟨λ_=>Sx.dc (T:=λv w1=>∃m:aB,v=m.v∧m.bg=⟨255,0,0,255⟩) J [(91,.q bh 0)] ⟨D.1 I,G⟩ ((sW ((S.bx 3).ext hC) ah (Ü a6 hC)).mono λe w2 ⟨m,h1,h2,h3,h4,h5,h6⟩=>⟨_,h1,h6,m,I,by rw[ab]at h4; exact Ñ bG.bg h4⟩),λhn=>absurd (D.2.1 I) hn⟩,
  λρ u1 J ho hC D=>⟨λ_=>(by obtain⟨⟨mw,mh,mb,ma,mc,ml⟩,em,hb⟩:=(D.1 I); obtain rfl:mb=_:=hb; exact Ø J [(92,aB.v ⟨mw,mh,_,ma,mc,ml⟩)] ⟨em,G⟩),λhn=>absurd (D.2.1 I) hn⟩,
  λρ u1 J ho hC D=>⟨λ_=>W9 ((ho 3 I).trans (S.s.ev I)) (((S.bx 2).ext hC).range 0 4 I),λhn=>absurd (D.1 I) hn⟩,
  λρ u1 J ho hC D=>⟨λ_=>Ø J [(93,.agg #[.u 255,.u 0,.u 0,.u 255]),(94,.agg #[.u 255,.u 0,.u 0,.u 255])] ⟨D.1 I,D.2.1 I,G⟩,λhn=>absurd (D.D I) hn⟩,
  λρ u1 J ho hC D=>Ø J [(90,.b true),(95,.b true)] ⟨D.1 I,D.2.1 I,G⟩,
  λρ u1 J ho hC D=>Ø J [(96,.b true)] ⟨D.1 I,G⟩,
  λρ u1 J ho hC D=>⟨λ_=>Ø J [(11,.i 1)] ⟨(ho 11 I).trans (S.s.ev I),G⟩,λhn=>absurd (D.1 I) hn⟩,
  λρ u1 J ho hC D=>⟨λ_=>Ø J [(98,.i 1)] ⟨D.1 I,G⟩,λhn=>absurd (D.2.1 I) hn⟩,
  λρ u1 J ho hC D=>Ø J [(97,.b true),(99,.b true)] ⟨D.1 I,D.2.1 I,G⟩,
  λρ u1 J ho hC D=>Ø J [(100,.b true)] ⟨D.1 I,G⟩,
  λρ u1 J ho hC D=>⟨λ_=>Ø J [(12,.i 1)] ⟨(ho 12 I).trans (S.s.ev I),G⟩,λhn=>absurd (D.1 I) hn⟩,
  λρ u1 J ho hC D=>⟨λ_=>Ø J [(102,.i 1)] ⟨D.1 I,G⟩,λhn=>absurd (D.2.1 I) hn⟩,
  λρ u1 J ho hC D=>Ø J [(101,.b true),(103,.b true)] ⟨D.1 I,D.2.1 I,G⟩,
  λρ u1 J ho hC D=>Ø J [(104,.b true)] ⟨D.1 I,G⟩,
  λρ u1 J ho hC D=>⟨λ_=>Ø J [(14,.i 0)] ⟨(ho 14 I).trans (S.s.ev I),G⟩,λhn=>absurd (D.1 I) hn⟩,
  λρ u1 J ho hC D=>⟨λ_=>Ø J [(106,.i 0)] ⟨D.1 I,G⟩,λhn=>absurd (D.2.1 I) hn⟩,
  λρ u1 J ho hC D=>Ø J [(105,.b true),(107,.b true)] ⟨D.1 I,D.2.1 I,G⟩,
  λρ u1 J ho hC D=>Ø J [(108,.b true)] ⟨D.1 I,G⟩,
  λρ u1 J ho hC D=>⟨λ_=>Ø J [(16,.i 0)] ⟨(ho 16 I).trans (S.s.ev I),G⟩,λhn=>absurd (D.1 I) hn⟩,
  λρ u1 J ho hC D=>⟨λ_=>Ø J [(110,.i 0)] ⟨D.1 I,G⟩,λhn=>absurd (D.2.1 I) hn⟩,
  λρ u1 J ho hC D=>Ø J [(109,.b true),(111,.b true)] ⟨D.1 I,D.2.1 I,G⟩,
  λρ u1 J ho hC D=>Ø J [(112,.b true)] ⟨D.1 I,G⟩,
  λρ u1 J ho hC D=>⟨λ_=>Ø J [(15,.q bu 0)] ⟨(ho 15 I).trans (S.s.ev I),G⟩,λhn=>absurd (D.1 I) hn⟩,
  λρ u1 J ho hC D=>⟨λ_=>Sx.dc (T:=λv w1=>∃m:aB,v=m.v∧m.bg=⟨255,0,0,255⟩) J [(114,.q bu 0)] ⟨D.1 I,G⟩ ((sW ((S.bx 0).ext hC) co (Ü ae hC)).mono λe w2 ⟨m,h1,h2,h3,h4,h5,h6⟩=>⟨_,h1,h6,m,I,by rw[az]at h4; exact Ñ bG.bg h4⟩),λhn=>absurd (D.2.1 I) hn⟩,
  λρ u1 J ho hC D=>⟨λ_=>(by obtain⟨⟨mw,mh,mb,ma,mc,ml⟩,em,hb⟩:=(D.1 I); obtain rfl:mb=_:=hb; exact Ø J [(115,aB.v ⟨mw,mh,_,ma,mc,ml⟩)] ⟨em,G⟩),λhn=>absurd (D.2.1 I) hn⟩,
  λρ u1 J ho hC D=>⟨λ_=>W9 ((ho 3 I).trans (S.s.ev I)) (((S.bx 2).ext hC).range 0 4 I),λhn=>absurd (D.1 I) hn⟩,
  λρ u1 J ho hC D=>⟨λ_=>Ø J [(116,.agg #[.u 255,.u 0,.u 0,.u 255]),(117,.agg #[.u 255,.u 0,.u 0,.u 255])] ⟨D.1 I,D.2.1 I,G⟩,λhn=>absurd (D.D I) hn⟩,
  λρ u1 J ho hC D=>Ø J [(113,.b true),(118,.b true)] ⟨D.1 I,D.2.1 I,G⟩,
  λρ u1 J ho hC D=>Ø J [(119,.b true)] ⟨D.1 I,G⟩,G⟩ (λac u cq S=>?_) I
 refine ϱ S 58 λS=>Xe S (.b true) λS=>?_;exact⟨I,S.E⟩
end
section
open En
variable{K:Nat}
abbrev wH:ϳ λ_=>True:=λh J S hl D _=>VK h J S hl D
abbrev aB.ok.below{w w':E5}{s:aB}(h:s.ok w)(D:Ext w w'):s.ok w':=⟨h.1,h.2.1,h.D.below D,λn hn=>(h.N n hn).below D⟩
abbrev ahB{w:E5}{m:aB}{v:y9}{κ:bG}(h:∃t:aB,v=t.v∧bQ 5000 w t∧t.key=κ)(S:bQ K w m)(hK:K<=5000)(hk:m.key=κ) :
  Nq prog 16 #[v,m.v] w (Ï w (.b true)):=by
 obtain⟨t,rfl,J,D⟩:=h;exact KY (Gu J (S.up hK O)) (by rw[hk,D]; simp)
end
section
variable{α:Type}{K:Nat}
variable{w:E5}
abbrev Ec{n:Bool}{v:y9}{l:List UInt32}(h:aG 1 pW w v l)(hl:l.length<=35184372088832) :
  Nq prog 163 #[.agg #[.b n,v]] w λe w'=>∃a c,e = .R (.agg #[.b n,.s a l.length c])∧Cp 119 1 pW w.heap.size (.s a l.length c) l w'∧Ext w w':=by
 obtain⟨a0,c0,rfl⟩:=h.shape;refine Ņ func163 ntmps163 λJ S=>YJ λ_ D=>Ė S 1 [.b n,.s a0 l.length c0] λJ u b2 E3 ab S=>Ė S 2 [.z,.sn] λJ u b5 E6 ae S=>Rh<|D _ _<|Ô λ_ BA=>?_;have D:=S.E.size;have z0:=(S.bx 0).1;refine Go.Rel.wp_region 7 X (by rw[S.s.size]; kernel_rfl) Ext (λw'=>Ext u w')
  [Rel.is (.q b2 0),
  Rel.is (.b n),
  (λv w'=>∃b,v = .s (some ⟨b,0,none⟩) 0 0),
  Rel.is (.q b2 1),
  Rel.is (.s a0 l.length c0),
  (λv w'=>Cp 119 1 pW u.heap.size v l w'),
  (λv w'=>∃s,v = .agg #[.b n,s]∧Cp 119 1 pW u.heap.size s l w')]
  ?_ ?_ ?_ ⟨?_,?_,?_,?_,?_,?_,?_,G⟩ ?_
 .exact below_drewN (ø _ _) 1
 .exact λ_ _ h k=>Ip h k
 .exact CV.mem ⟨aA _,aA _,λ_ _ _ _ h=>h,aA _,aA _,λ_ _ _ k h=>h.ext k,λ_ _ _ k h=>by obtain⟨s,e,h⟩:=h; exact⟨s,e,h.ext k⟩,G⟩
 .intro ρ w' D ho hC hd;have h1:ρ (.tmp 1) = .q b2 0:=(ho 1 I).trans (S.s.ev I);exact xA (u := .q b2 0) (by simp[go_sem,h1]) å I
 .intro ρ w' D ho hC hd;have h3:ρ (.tmp 3) = .q b2 0:=hd.1 I;exact IB I h3 ((S.bx 1).ext hC) I underlying4 I å I
 .intro ρ w' D ho hC hd;refine Hl (T:=λv w'=>∃b,v = .s (some ⟨b,0,none⟩) 0 0) (u := .s (some ⟨w'.heap.size,0,none⟩) 0 0) (w1:=w'.alloc (.cells #[] 119)) (by simp[go_sem]) (aI _ _) ⟨_,I⟩
 .intro ρ w' D ho hC hd;have h1:ρ (.tmp 1) = .q b2 0:=(ho 1 I).trans (S.s.ev I);exact xA (u := .q b2 1) (by simp[go_sem,h1]) å I
 .intro ρ w' D ho hC hd;have h6:ρ (.tmp 6) = .q b2 1:=hd.1 I;exact IB I h6 ((S.bx 1).ext hC) I underlying22 I å I
 .intro ρ w' D ho hC hd;have h5:∃b,(ρ (.tmp 5)) = .s (some ⟨b,0,none⟩) 0 0:=hd.1 I;have h7:ρ (.tmp 7) = .s a0 l.length c0:=hd.2.1 I;obtain⟨b,hb⟩:=h5;exact adE (F:=λv w'=>Cp 119 1 pW u.heap.size v l w') I mD hb (h.below (Ip S.E hC)) h7 (λ_=>I) (λ_=>I) Z λv' w1 q2 q3=>Cp.mono q2 hC.size
 .intro ρ w' D ho hC hd;have h4:ρ (.tmp 4) = .b n:=hd.1 I;have h8:Cp 119 1 pW u.heap.size (ρ (.tmp 8)) l w':=hd.2.1 I;obtain⟨a,c,e⟩:=Cp.shape h8;exact Hl (T:=λv w'=>∃s,v = .agg #[.b n,s]∧Cp 119 1 pW u.heap.size s l w') (u := .agg #[.b n,.s a l.length c]) (w1:=w') (by simp[go_sem,h4,e]) å ⟨_,I,by rw[<-e]; exact h8⟩
 intro u E9;refine Vp.aeu _ _ _ _ S.s I ?_;rintro _ rfl _ rfl af ag _ rfl _ rfl ah ai al aa;intro J s;have S:=(S.grow E9).act s;clear s;change wpList _ _ _ (List.drop 7 _) _ _;obtain⟨J,rfl,D⟩:=aa;obtain⟨a,c,rfl⟩:=Cp.shape D;refine Ğ S 0 (off:=0) (cs:=[.b n,.s a l.length c]) I λu J S=>?_;have uI:=aU.ch D J Z;refine Rh<|BA _ _<|rtc S 0 results163 I (v := .agg #[.b n,.s a l.length c]) ?_;exact⟨a,c,I,Cp.mono uI Z,S.E⟩
abbrev l9{r:bH}(h:r.ok w)(hl:r.l1.length<=35184372088832∧r.l2.length<=35184372088832) :
  Nq prog 111 #[r.v] w λe w'=>∃m:bH,e = .R m.v∧m.cp w.heap.size w'∧m.strip=r.strip∧Ext w w':=by
 skip;refine Ņ func111 ntmps111 λJ S=>YJ λ_ D=>Ė S 1 r.cells λJ u b2 E3 aa S=>Ė S 2 Sx.zr λJ u b5 E6 ab S=>Rh<|D _ _<|Ô λ_ BA=>?_;have D:=S.E.size;have z0:=(S.bx 0).1;refine sH S 6 [(5,λv w1=>∃a c,v = .agg #[.b r.n1,.s a r.l1.length c]∧Cp 119 1 pW u.heap.size (.s a r.l1.length c) r.l1 w1),(8,λv w1=>∃a c,v = .agg #[.b r.n2,.s a r.l2.length c]∧Cp 119 1 pW u.heap.size (.s a r.l2.length c) r.l2 w1)] (λr=>[.M 1 0,.M 1 2]) (λx=>[x 5,x 8]) (λx=>[(_,_,true,x 5,5),(_,_,true,x 8,8)]) [[],[]] (λx=>[(5,x 5),(8,x 8)]) ⟨λ_ _ _ k h=>by obtain⟨a,c,e,h⟩:=h; exact⟨a,c,e,h.ext k⟩,λ_ _ _ k h=>by obtain⟨a,c,e,h⟩:=h; exact⟨a,c,e,h.ext k⟩,G⟩ (λx=>⟨by intro u D g F; exact(Ec (n:=r.n1) (v:=r.s1) (l:=r.l1) ((eU (f:=bn) h.1).below (Ip S.E D)) hl.1).mono λe w2 h=>by obtain⟨a,c,rfl,hx,hb⟩:=h; exact⟨_,I,⟨a,c,I,hx.mono D.size⟩,hb⟩,by intro u D g F; exact(Ec (n:=r.n2) (v:=r.s2) (l:=r.l2) ((eU (f:=bn) h.2).below (Ip S.E D)) hl.2).mono λe w2 h=>by obtain⟨a,c,rfl,hx,hb⟩:=h; exact⟨_,I,⟨a,c,I,hx.mono D.size⟩,hb⟩,G⟩) λJ u x E9 F S=>?_;obtain⟨J,F8,-⟩:=F;obtain⟨a1,c1,D,J⟩:=J;rw[D]at S;obtain⟨a2,c2,D,F8⟩:=F8;rw[D]at S;refine Rf S 1 [] [(9,.agg #[.b r.n1,.s a1 r.l1.length c1,.b r.n2,.s a2 r.l2.length c2])] λS=>Ğ S 0 (off:=0) (cs:=[.b r.n1,.s a1 r.l1.length c1,.b r.n2,.s a2 r.l2.length c2]) I λu D S=>?_;have Dw:=aU.ch J D Z;have J:=aU.ch F8 D Z;refine Rh<|BA _ _<|rtc S 0 results111 I (v := .agg #[.b r.n1,.s a1 r.l1.length c1,.b r.n2,.s a2 r.l2.length c2]) ?_;exact⟨⟨r.n1,a1,c1,r.l1,r.n2,a2,c2,r.l2⟩,I,kJ (BF (r:=⟨r.n1,a1,c1,r.l1,r.n2,a2,c2,r.l2⟩) Dw J) Z,I,S.E⟩
abbrev Ed{t:bD}(h:t.ok w)(hl:t.lim) :
  Nq prog 71 #[t.v] w λe w'=>∃m:bD,e = .R m.v∧m.cp w.heap.size w'∧m.strip=t.strip∧Ext w w':=by
 obtain⟨h0,h1,h2,h3,h4,h5⟩:=h;obtain⟨J,ab,ae,af,ag,ah⟩:=aaq hl;refine Ņ func71 ntmps71 λac S=>YJ λ_ D=>Ė S 1 t.cells λac u b2 E3 ai S=>Ė S 2 Sx.za λac u b5 E6 al S=>Rh<|D _ _<|Ô λ_ BA=>?_;have D:=S.E.size;have z0:=(S.bx 0).1;refine sH S 18 [(5,λv w1=>∃m:bH,v=m.v∧m.cp u.heap.size w1∧m.strip=t.a.strip),(8,λv w1=>∃m:bH,v=m.v∧m.cp u.heap.size w1∧m.strip=t.b.strip),(11,λv w1=>∃m:bH,v=m.v∧m.cp u.heap.size w1∧m.strip=t.c.strip),(14,λv w1=>∃m:bH,v=m.v∧m.cp u.heap.size w1∧m.strip=t.d.strip),(17,λv w1=>∃m:bH,v=m.v∧m.cp u.heap.size w1∧m.strip=t.e.strip),(20,λv w1=>∃m:bH,v=m.v∧m.cp u.heap.size w1∧m.strip=t.f.strip)] (λr=>[.M 1 0,.M 1 4,.M 1 8,.M 1 12,.M 1 16,.M 1 20]) (λx=>[x 5,x 8,x 11,x 14,x 17,x 20]) (λx=>[(_,_,true,x 5,5),(_,_,true,x 8,8),(_,_,true,x 11,11),(_,_,true,x 14,14),(_,_,true,x 17,17),(_,_,true,x 20,20)]) [[],[],[],[],[],[]] (λx=>[(5,x 5),(8,x 8),(11,x 11),(14,x 14),(17,x 17),(20,x 20)]) ⟨λ_ _ _ k h=>by obtain⟨m,e,h,q⟩:=h; exact⟨m,e,h.ext k,q⟩,λ_ _ _ k h=>by obtain⟨m,e,h,q⟩:=h; exact⟨m,e,h.ext k,q⟩,λ_ _ _ k h=>by obtain⟨m,e,h,q⟩:=h; exact⟨m,e,h.ext k,q⟩,λ_ _ _ k h=>by obtain⟨m,e,h,q⟩:=h; exact⟨m,e,h.ext k,q⟩,λ_ _ _ k h=>by obtain⟨m,e,h,q⟩:=h; exact⟨m,e,h.ext k,q⟩,λ_ _ _ k h=>by obtain⟨m,e,h,q⟩:=h; exact⟨m,e,h.ext k,q⟩,G⟩ (λx=>⟨by intro u D g F; exact(l9 (r:=t.a) (h0.below (Ip S.E D)) J).mono λe w2 h=>by obtain⟨m,rfl,J,hs,hb⟩:=h; exact⟨_,I,⟨m,I,kJ J D.size,hs⟩,hb⟩,by intro u D g F; exact(l9 (r:=t.b) (h1.below (Ip S.E D)) ab).mono λe w2 h=>by obtain⟨m,rfl,J,hs,hb⟩:=h; exact⟨_,I,⟨m,I,kJ J D.size,hs⟩,hb⟩,by intro u D g F; exact(l9 (r:=t.c) (h2.below (Ip S.E D)) ae).mono λe w2 h=>by obtain⟨m,rfl,J,hs,hb⟩:=h; exact⟨_,I,⟨m,I,kJ J D.size,hs⟩,hb⟩,by intro u D g F; exact(l9 (r:=t.d) (h3.below (Ip S.E D)) af).mono λe w2 h=>by obtain⟨m,rfl,J,hs,hb⟩:=h; exact⟨_,I,⟨m,I,kJ J D.size,hs⟩,hb⟩,by intro u D g F; exact(l9 (r:=t.e) (h4.below (Ip S.E D)) ag).mono λe w2 h=>by obtain⟨m,rfl,J,hs,hb⟩:=h; exact⟨_,I,⟨m,I,kJ J D.size,hs⟩,hb⟩,by intro u D g F; exact(l9 (r:=t.f) (h5.below (Ip S.E D)) ah).mono λe w2 h=>by obtain⟨m,rfl,J,hs,hb⟩:=h; exact⟨_,I,⟨m,I,kJ J D.size,hs⟩,hb⟩,G⟩) λac u x E9 F S=>?_;obtain⟨F5,F8,J,NW,MI,aa,-⟩:=F;obtain⟨m0,e0,F5,s0⟩:=F5;rw[e0]at S;obtain⟨m1,D,F8,s1⟩:=F8;rw[D]at S;obtain⟨m2,D,J,s2⟩:=J;rw[D]at S;obtain⟨m3,D,NW,s3⟩:=NW;rw[D]at S;obtain⟨m4,D,MI,s4⟩:=MI;rw[D]at S;obtain⟨m5,D,aa,s5⟩:=aa;rw[D]at S;refine Rf S 1 [] [(21,.agg (m0.cells++m1.cells++m2.cells++m3.cells++m4.cells++m5.cells).toArray)] λS=>Ğ S 0 (off:=0) (cs:=(m0.cells++m1.cells++m2.cells++m3.cells++m4.cells++m5.cells)) I λu D S=>?_;have Dw:=aU.ch F5 D Z;have wY:=aU.ch F8 D Z;have XB:=aU.ch J D Z;have J:=aU.ch NW D Z;have oU:=aU.ch MI D Z;have Aa:=aU.ch aa D Z;refine Rh<|BA _ _<|rtc S 0 results71 I (v := .agg (m0.cells++m1.cells++m2.cells++m3.cells++m4.cells++m5.cells).toArray) ?_;exact⟨⟨m0,m1,m2,m3,m4,m5⟩,I,afe (t:=⟨m0,m1,m2,m3,m4,m5⟩) (kJ Dw Z) (kJ wY Z) (kJ XB Z) (kJ J Z) (kJ oU Z) (kJ Aa Z),by unfold bD.strip; rw[s0,s1,s2,s3,s4,s5],S.E⟩
abbrev wX{v:y9}{l:List ak}(h:iY w v l)(hl:l.length<=270649016067)(bu:∀p∈l,p.lim) :
  Nq prog 72 #[v] w λe w'=>∃D J,e = .R D∧pX w.heap.size D J w'∧J.map ak.strip=l.map ak.strip∧Ext w w':=by
 obtain⟨a,cap,rfl⟩:=h.1.shape;refine Ņ func72 ntmps72 λJ S=>YJ λ_ D=>Rf S 1 [] [(2,.sn)] λS=>Rh<|D _ _<|YJ λ_ Og=>?_;have R:=Č S;refine Υ S R 6 0 133 40 [] λJ u D E4 X5 R S=>Rf S 1 [] [(3,D)] λS=>Rh<|Og _ _<|Ô λ_ XK=>YJ λ_ UA=>Rf S 1 [] [(4,.i 0)] λS=>Rh<|UA _ _<|Ě ?_;refine Vp.loop (ι:=Nat×y9×List ak) (λp a' w'=>p.1<=l.length∧(p.2.2.map ak.strip=(l.take p.1).map ak.strip)∧Rw w w' [] [⟨133,40,p.2.1,p.1,p.2.2.flatMap ak.cells⟩]∧Sx.Ow w.heap.size (Ob [] [⟨133,40,p.2.1,p.1,p.2.2.flatMap ak.cells⟩]) (λW=>∀z∈p.2.2,z.oZ w.heap.size W) w'∧Sx.St w a' w' 38 [(0,.s a l.length cap),(2,.sn),(3,p.2.1),(4,.i p.1)] [] []) (λp=>l.length-p.1) (0,D,[]) ⟨Î _,I,R,(λ_ _ _ z hz=>by cases hz),S.sn⟩ ?_;rintro⟨k,v,M⟩ J u hI;try dsimp only at hI
 obtain⟨hk,hR,R,Ad,S⟩:=hI;refine Ô λ_ D=>YJ λ_ Ub=>Rf S 4 [] [(10,.b ((k:Int)<(l.length:Int)))] λS=>Rh (Ub _ _ ?_);refine Ā S (λfD=>?_) λfD=>?_
 .refine ú<|D _ _<|Ô λ_ Jz=>Ě<|YJ λ_ Du=>?_;have GN:k<l.length:=by have:=Ý fD; omega
  obtain⟨ca,cb,rfl,D,TM,bp,bq⟩:=ý h.1 (λ_=>I) (k) GN;have aa:=h.2 _ (TM▸ò GN);have ag:=bu _ (TM▸ò GN);have S:=S.view0 bp bq;refine Rf S 4 [.idx k l.length,.M 0 0] [(16,D.v)] (hk:=⟨GN,G⟩) λS=>Ė S 5 (Sx.L [.i 0,.u 0,.u 0,.u 0,.u 0,.i 0,.i 0,.i 0,.i 0,.i 0,.sn,.i 0,.i 0,.i 0,.sn,.i 0]++Sx.za) λJ u ae L6 P5 S=>Ğ S 0 (off:=0) (cs:=D.cells) I λu Hr S=>Rh<|Du _ _<|YJ λ_ aw=>Ţ S 17 0 [] λJ u ax ay az S=>Rf S 2 [.M 1 10] [(19,D.sv)] λS=>?_;obtain⟨R,br⟩:=R.aZ S (Ì (Ĥ L6 P5) (Ì (Sx.Stp.Eo Hr (by simp[Sx.vb])) (Ĥ ay az)));have ao:=S.E.size;have be:=R.lt;refine Zv S (ad:=⟨ax,0,none⟩) 20 XP (aa.2.2.2.2.1.below S.E) (by have:=ag.1; omega) λJ u bv a3 al S=>?_;obtain⟨a1,c1,rfl⟩:=Cp.shape al;obtain⟨R,bs⟩:=R.aZ S (à a3);have bg:=ď (Sx.aU.ow al ao be) λ_ h=>h.le ao;refine Rf S 1 [] [(21,.q ae 10)] λS=>Ĺ S 1 (off:=10) (v := .s a1 D.stops.length c1) I λu a4 S=>Rh<|aw _ _<|YJ λ_ IK=>Ţ S 22 0 [] λJ u a5 a6 a7 S=>Rf S 3 [.M 2 14] [(25,D.img.s)] λS=>?_;obtain⟨R,ar⟩:=R.aZ S (Ì (Sx.Stp.Eo a4 (by simp[Sx.vb])) (Ĥ a6 a7));have ap:=S.E.size;have bh:=R.lt;refine Zv S (ad:=⟨a5,0,none⟩) 26 aap (aa.2.2.2.2.2.2.2.1.2.2.below S.E) (by have:=ag.2.1; omega) λJ u bw Xv am S=>?_;obtain⟨a2,c2,rfl⟩:=Cp.shape am;obtain⟨R,av⟩:=R.aZ S (à Xv);have bj:=ď (Sx.aU.ow am ap bh) λ_ h=>h.le ap;refine Rf S 2 [] [(28,.q ae 14)] λS=>Ĺ S 2 (off:=14) (v := .s a2 D.img.l.length c2) I λu a8 S=>Rh<|IK _ _<|YJ λ_ a9=>Rf S 2 [.M 2 16] [(30,D.t.v)] λS=>?_;obtain⟨R,ah⟩:=R.aZ S (Sx.Stp.Eo a8 (by simp[Sx.vb]));have aq:=S.E.size;have bk:=R.lt;refine ģ S (some 31) (Ed (aa.2.2.2.2.2.2.2.2.2.below S.E) ag.2.2) ?_;rintro e u ⟨t,rfl,ht,bt,Y3⟩;refine⟨_,I,Y3,λJ S=>?_⟩;obtain⟨R,ai⟩:=R.aZ S (à Y3);have bm:=ď (Sx.aU.ow ht aq bk) λ_ h=>h.le aq;refine Rf S 1 [] [(32,.q ae 16)] λS=>Ğ S 2 (off:=16) (cs:=t.cells) I λu bb S=>Rh<|a9 _ _<|į<|Rf S 2 [.M 2 0] [(33,v),(34,.agg (Sx.L [.i D.kind]++D.color.cells++Sx.L [.i D.p0.x,.i D.p0.y,.i D.p1.x,.i D.p1.y,.i D.bW,.s a1 D.stops.length c1,.i D.spread,.i D.img.w,.i D.img.h,.s a2 D.img.l.length c2,.i D.cZ]++t.cells).toArray)] λS=>Ţ S 35 1 (Sx.L [.i D.kind]++D.color.cells++Sx.L [.i D.p0.x,.i D.p0.y,.i D.p1.x,.i D.p1.y,.i D.bW,.s a1 D.stops.length c1,.i D.spread,.i D.img.w,.i D.img.h,.s a2 D.img.l.length c2,.i D.cZ]++t.cells) λJ u bz bc bd S=>?_;obtain⟨R,ab⟩:=R.aZ S (Ì (Sx.Stp.Eo bb (by simp[Sx.vb])) (Ĥ bc bd));have bo:=Uf aa (þ bg (Ì ar (Ì av (Ì ah (Ì ai ab))))) (þ bj (Ì ah (Ì ai ab))) (þ bm ab);have hM:M.length=k:=by have:=Ñ List.length hR; simp at this; omega
  refine Ń S R 0 36 I Dv (oK (m:=1) (k:=40) (A:=(D.re a1 c1 a2 c2 t).cells) (S.bx 0)) (by show k+1<=9223372036854775807; omega) (by show(k+1)*520<=140737488355328; omega) λJ u af an R S=>Rf S 1 [] [(3,af)] λS=>Rh<|Jz _ _<|į<|Rf S 3 [kS 12 k] [(4,.i (k+1:Nat))] (hk:=⟨ù Z,G⟩) λS=>Rh ?_;have S:=S.gK 4;obtain⟨R,J⟩:=R.aZ S (ĥ 4);show ∃i',_∧_;exact⟨((k+1),af,M++[D.re a1 c1 a2 c2 t]),⟨Z,(Jq GN TM hR (by show(D.re a1 c1 a2 c2 t).strip=D.strip; unfold ak.strip ak.re; rw[bt]; rfl)),R.as (Ñ (λxs=>[(⟨133,40,af,k+1,xs⟩:Sx.Row)]) (show M.flatMap ak.cells++(D.re a1 c1 a2 c2 t).cells=(M++[D.re a1 c1 a2 c2 t]).flatMap ak.cells by simp)),ď (ï (þ Ad (Ì br (Ì bs (Ì ar (Ì av (Ì ah (Ì ai (Ì ab (Ì an J))))))))) (þ bo (Ì an J))) λ_ h=>Ug h.1 h.2,S.sn⟩,by show _-_<_-_; omega⟩
 refine Ļ<|XK _ _<|YJ λ_ D=>Rf S 2 [] [(2,v)] λS=>Rh<|D _ _<|Qm S results72 ?_;have hk:=é fD;obtain rfl:k=l.length:=by omega
 exact⟨_,M,I,ï (fK (λ_=>I) (R.own _ Ö) (by have:=Ñ List.length hR; simp at this; exact this.symm) I) (ľ Ad),by simpa using hR,S.E⟩
abbrev V5{nd:aj}(h:nd.ok w)(hl:nd.lim) :
  Nq prog 42 #[nd.v] w λe w'=>∃m:aj,e = .R m.v∧m.cp w.heap.size w'∧m.strip=nd.strip∧Ext w w':=by
 skip;refine Ņ func42 ntmps42 λD S=>YJ λ_ J=>Ė S 1 nd.cells λD u b2 E3 aq S=>Ė S 2 (Sx.L [.i 0,.i 0,.i 0]++Sx.za++Sx.L [.sn,.i 0,.u 0,.i 0,.z,.z,.sn,.i 0,.sn,.i 0,.i 0,.i 0,.i 0,.sn,.i 0,.sn,.i 0,.i 0,.sn,.i 0]) λD u b5 E6 ar S=>Rh<|J _ _<|YJ λ_ BA=>Rf S 1 [.M 1 0] [(4,nd.v)] λS=>Ė S 3 (Sx.L [.i 0,.i 0,.i 0]++Sx.za++Sx.L [.sn,.i 0,.u 0,.i 0,.z,.z,.sn,.i 0,.sn,.i 0,.i 0,.i 0,.i 0,.sn,.i 0,.sn,.i 0,.i 0,.sn,.i 0]) λD u b9 SE J S=>Ğ S 0 (off:=0) (cs:=nd.cells) I λu J S=>Rh<|BA _ _<|YJ λ_ EL=>?_;have y:=S.E.size;have z0:=(S.bx 0).1;have z1:=(S.bx 1).1;have z2:=(S.bx 2).1;refine Rf S 2 [.M 2 3] [(6,nd.t.v)] λS=>ģ S (some 7) (Ed (h.C.below S.E) hl.1) ?_;rintro e u ⟨t,rfl,ht,hs,J⟩;refine⟨_,I,J,λD S=>?_⟩;refine Rf S 1 [] [(8,.q b9 3)] λS=>Ğ S 0 (off:=3) (cs:=t.cells) I λu J S=>?_;have Aa:=aU.ch ht J Z;refine Rh<|EL _ _<|YJ λ_ Ez=>Ţ S 9 0 [] λD u J Md av S=>Rf S 2 [.M 3 27] [(11,nd.cs)] λS=>?_;have y:=S.E.size;have z0:=(S.bx 0).1;have z1:=(S.bx 1).1;have z2:=(S.bx 2).1;have z3:=(S.bx 3).1;refine Zv S (ad:=⟨J,0,none⟩) 12 aao (h.2.2.2.2.1.1.below S.E) (by have:=hl.2.1; omega) λD u aw L6 J S=>?_;obtain⟨a1,c1,rfl⟩:=Cp.shape J;refine Rf S 1 [] [(13,.q b9 27)] λS=>Ĺ S 1 (off:=27) (v := .s a1 nd.clip.length c1) I λu Hr S=>?_;have BI:=aU.ch (Aa.ext (Ip Md L6)) Hr Z;have Dz:=aU.ch J Hr Z;refine Rh<|Ez _ _<|YJ λ_ af=>Ţ S 14 0 [] λD u J zW V6 S=>Rf S 2 [.M 4 33] [(16,nd.ps)] λS=>?_;have y:=S.E.size;have z0:=(S.bx 0).1;have z1:=(S.bx 1).1;have z2:=(S.bx 2).1;have z3:=(S.bx 3).1;have z4:=(S.bx 4).1;refine Zv S (ad:=⟨J,0,none⟩) 17 aao (h.2.2.2.2.2.2.2.1.1.below S.E) (by have:=hl.D; omega) λD u J Oo aa S=>?_;obtain⟨a2,c2,rfl⟩:=Cp.shape aa;refine Rf S 1 [] [(18,.q b9 33)] λS=>Ĺ S 2 (off:=33) (v := .s a2 nd.path.length c2) I λu J S=>?_;have Af:=aU.ch (BI.ext (Ip zW Oo)) J Z;have al:=aU.ch (Dz.ext (Ip zW Oo)) J Z;have Ah:=aU.ch aa J Z;refine Rh<|af _ _<|YJ λ_ IK=>?_;have y:=S.E.size;have z0:=(S.bx 0).1;have z1:=(S.bx 1).1;have z2:=(S.bx 2).1;have z3:=(S.bx 3).1;have z4:=(S.bx 4).1;refine Rf S 2 [.M 4 35] [(20,nd.fs)] λS=>ģ S (some 21) (wX (h.K.below S.E) hl.C hl.A) ?_;rintro e u ⟨v,l3,rfl,h3,s3,Mc⟩;obtain⟨a3,c3,rfl⟩:=(æ h3).1.1.shape;refine⟨_,I,Mc,λD S=>?_⟩;refine Rf S 1 [] [(22,.q b9 35)] λS=>Ĺ S 2 (off:=35) (v := .s a3 l3.length c3) I λu J S=>?_;have xW:=aU.ch (Af.ext Mc) J Z;have BJ:=aU.ch (al.ext Mc) J Z;have vN:=aU.ch (Ah.ext Mc) J Z;have Jt:=aU.ch h3 J Z;refine Rh<|IK _ _<|YJ λ_ XO=>?_;have y:=S.E.size;have z0:=(S.bx 0).1;have z1:=(S.bx 1).1;have z2:=(S.bx 2).1;have z3:=(S.bx 3).1;have z4:=(S.bx 4).1;refine Rf S 2 [.M 4 42] [(24,nd.ss)] λS=>ģ S (some 25) (wX (h.H.below S.E) hl.U hl.G) ?_;rintro e u ⟨v,l4,rfl,h4,s4,Xv⟩;obtain⟨a4,c4,rfl⟩:=(æ h4).1.1.shape;refine⟨_,I,Xv,λD S=>?_⟩;refine Rf S 1 [] [(26,.q b9 42)] λS=>Ĺ S 2 (off:=42) (v := .s a4 l4.length c4) I λu J S=>?_;have Ui:=aU.ch (xW.ext Xv) J Z;have MR:=aU.ch (BJ.ext Xv) J Z;have P7:=aU.ch (vN.ext Xv) J Z;have EC:=aU.ch (Jt.ext Xv) J Z;have Dx:=aU.ch h4 J Z;refine Rh<|XO _ _<|YJ λ_ ag=>Ţ S 27 0 [] λD u J Y3 ax S=>Rf S 3 [.M 5 40] [(30,nd.style.s)] λS=>?_;have y:=S.E.size;have z0:=(S.bx 0).1;have z1:=(S.bx 1).1;have z2:=(S.bx 2).1;have z3:=(S.bx 3).1;have z4:=(S.bx 4).1;have z5:=(S.bx 5).1;refine Zv S (ad:=⟨J,0,none⟩) 31 afd ((eU (f:=Ac) h.2.2.2.2.2.2.2.2.2.2.1.A).below S.E) (by have:=hl.S; omega) λD u ay J ab S=>?_;obtain⟨a5,c5,rfl⟩:=Cp.shape ab;refine Rf S 2 [] [(33,.q b9 40)] λS=>Ĺ S 3 (off:=40) (v := .s a5 nd.style.dash.length c5) I λu IL S=>?_;have Ae:=aU.ch (Ui.ext (Ip Y3 J)) IL Z;have zX:=aU.ch (MR.ext (Ip Y3 J)) IL Z;have vF:=aU.ch (P7.ext (Ip Y3 J)) IL Z;have Ue:=aU.ch (EC.ext (Ip Y3 J)) IL Z;have MS:=aU.ch (Dx.ext (Ip Y3 J)) IL Z;have P9:=aU.ch ab IL Z;refine Rh<|ag _ _<|YJ λ_ ah=>Ţ S 34 0 [] λD u ai J az S=>Rf S 3 [.M 6 45] [(37,nd.img.s)] λS=>?_;have y:=S.E.size;have z0:=(S.bx 0).1;have z1:=(S.bx 1).1;have z2:=(S.bx 2).1;have z3:=(S.bx 3).1;have z4:=(S.bx 4).1;have z5:=(S.bx 5).1;have z6:=(S.bx 6).1;refine Zv S (ad:=⟨ai,0,none⟩) 38 aap (h.2.2.2.2.2.2.2.2.2.2.2.2.1.F.below S.E) (by have:=hl.2.2.2.2.2.2.2.2; omega) λD u a7 GV ae S=>?_;obtain⟨a6,c6,rfl⟩:=Cp.shape ae;refine Rf S 2 [] [(40,.q b9 45)] λS=>Ĺ S 4 (off:=45) (v := .s a6 nd.img.l.length c6) I λu D S=>?_;have Ya:=aU.ch (Ae.ext (Ip J GV)) D Z;have Jl:=aU.ch (zX.ext (Ip J GV)) D Z;have Jm:=aU.ch (vF.ext (Ip J GV)) D Z;have Jo:=aU.ch (Ue.ext (Ip J GV)) D Z;have Yb:=aU.ch (MS.ext (Ip J GV)) D Z;have am:=aU.ch (P9.ext (Ip J GV)) D Z;have an:=aU.ch ae D Z;refine Rh<|ah _ _<|YJ λ_ J=>Rf S 1 [.M 4 0] [(41,.agg (Sx.L [.i nd.id,.i nd.kind,.i nd.depth]++t.cells++Sx.L [.s a1 nd.clip.length c1,.i nd.aP,.u (nd.dJ.toNat:Int),.i nd.blend,.b nd.isolated,.b nd.dA,.s a2 nd.path.length c2,.i nd.aV,.s a3 l3.length c3,.i nd.style.width,.i nd.style.join,.i nd.style.cap,.i nd.style.eP,.s a5 nd.style.dash.length c5,.i nd.style.phase,.s a4 l4.length c4,.i nd.img.w,.i nd.img.h,.s a6 nd.img.l.length c6,.i nd.cZ]).toArray)] λS=>Ğ S 5 (off:=0) (cs:=(Sx.L [.i nd.id,.i nd.kind,.i nd.depth]++t.cells++Sx.L [.s a1 nd.clip.length c1,.i nd.aP,.u (nd.dJ.toNat:Int),.i nd.blend,.b nd.isolated,.b nd.dA,.s a2 nd.path.length c2,.i nd.aV,.s a3 l3.length c3,.i nd.style.width,.i nd.style.join,.i nd.style.cap,.i nd.style.eP,.s a5 nd.style.dash.length c5,.i nd.style.phase,.s a4 l4.length c4,.i nd.img.w,.i nd.img.h,.s a6 nd.img.l.length c6,.i nd.cZ])) I λu D S=>?_;have YL:=aU.ch Ya D Z;have ao:=aU.ch Jl D Z;have MV:=aU.ch Jm D Z;have Qr:=aU.ch Jo D Z;have Qs:=aU.ch Yb D Z;have Yc:=aU.ch am D Z;have ap:=aU.ch an D Z;refine Rh<|J _ _<|rtc S 5 results42 I (v := .agg (Sx.L [.i nd.id,.i nd.kind,.i nd.depth]++t.cells++Sx.L [.s a1 nd.clip.length c1,.i nd.aP,.u (nd.dJ.toNat:Int),.i nd.blend,.b nd.isolated,.b nd.dA,.s a2 nd.path.length c2,.i nd.aV,.s a3 l3.length c3,.i nd.style.width,.i nd.style.join,.i nd.style.cap,.i nd.style.eP,.s a5 nd.style.dash.length c5,.i nd.style.phase,.s a4 l4.length c4,.i nd.img.w,.i nd.img.h,.s a6 nd.img.l.length c6,.i nd.cZ]).toArray) ?_;exact⟨⟨nd.id,nd.kind,nd.depth,t,a1,c1,nd.clip,nd.aP,nd.dJ,nd.blend,nd.isolated,nd.dA,a2,c2,nd.path,nd.aV,a3,c3,l3,⟨nd.style.width,nd.style.join,nd.style.cap,nd.style.eP,a5,c5,nd.style.dash,nd.style.phase⟩,a4,c4,l4,⟨nd.img.w,nd.img.h,a6,c6,nd.img.l⟩,nd.cZ⟩,I,aar h I I I I I I I I I I I (XQ YL Z) (Cp.mono ao Z) (Cp.mono MV Z) (qO Qr Z) (qO Qs Z) (Cp.mono Yc Z) (Cp.mono ap Z),by unfold aj.strip; rw[hs,s3,s4]; rfl,S.E⟩
