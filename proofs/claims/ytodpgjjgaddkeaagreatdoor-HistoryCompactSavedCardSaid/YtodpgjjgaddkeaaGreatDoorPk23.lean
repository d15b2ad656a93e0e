/- The laws' own function: whether -/
import Derived.Test.YtodpgjjgaddkeaaGreatDoorPk22
set_option maxRecDepth 100000
set_option maxHeartbeats 9999999
open Go renaming World->VO,Value->aaT,Calls->abB,Addr->aGk
open Go.Proofs.Tryz
set_option linter.unusedVariables false
set_option linter.unusedSimpArgs false
namespace Go.Proofs.Vy
open _root_.Go.Proofs.Tryz
section
open Go.RowKit Go.Sx Go.Rel
variable{α:Type}{K:Nat}
def jd.lt(x:jd):Bool:=x.e.node.lt
def vY(s:aA)(l:List jd):Bool:=(l.take 40).all jd.lt&&(s.light&&decide (l.length<=24))
variable{w:VO}{j:Nat}{lv:aaT}
abbrev adl{s:aA}{n:aj}(h:s.ns=[n]):s.light=n.lt:=by
 unfold aA.light; rw[h]; simp
abbrev aj0{s:aA}{l:List jd}(h:j<l.length)(J:j<40)(D:(l[j]).lt=false):vY s l=false:=by
 unfold vY;rw[zo (k:=j) (p:=jd.lt) (by rw[aD4]; omega) (by rw[aFC]; exact D)]; rfl
abbrev aj1{s:aA}{l:List jd}(D:(l.take j).all jd.lt=true)(h:¬(j<l.length∧j<40))(J:j<=40)(hl:j<=l.length):vY s l=(s.light&&decide (l.length<=24)):=by
 have:(l.take 40).all jd.lt=true:=by
  by_cases h2:j<l.length
  .obtain rfl:j=40:=by omega
   exact D
  rw[aDG Z]at D;exact aDF.2 λx J=>aDF.1 D x (aEJ J)
 unfold vY; rw[this]; rfl
abbrev adn{s:aA}{n:aj}(D:aI 47 aj.cells w s.s s.ns∧∀n∈s.ns,n.ok w)(h:s.ns=[n]) :
  abB prog 39 #[s.v] w (VH w (.b n.lt)):=adl h▸FZ D
abbrev VE{s:aA}{l:List jd}{a:Option aGk}{cap:Nat}(h0:aI 47 aj.cells w s.s s.ns∧∀n∈s.ns,n.ok w)(J:aI 56 jd.cells w (.s a l.length cap) l)(ho:∀x∈l,x.e.node.ok w) :
  abB prog 20 #[s.v,.s a l.length cap] w (VH w (.b (vY s l))):=by
 have D:l.length<=9223372036854775807:=J.len;refine aCG func20 ntmps20 λS=>aCF S λu b2 E3 D S=>aCZ S (ι:=Nat) (λp D w'=>((l.take p).all jd.lt=true∧p<=l.length∧p<=40)∧Sx.St w D w' 33 [(0,s.v),(1,.s a l.length cap),(2,.q b2 0),(4,.z),(5,.i p)] [(b2,s.cells)] []) (λp=>l.length-p) (0) (λS=>⟨⟨I,aDl _,aDl _⟩,S.qc⟩) ?_;rintro j ac u gJ dW D;try dsimp only at D
 obtain⟨hR,S⟩:=D;refine aC0 S (λS=>?_);obtain⟨ab,ag,ah⟩:=hR;refine aCD S ((decide ((j:Int)<(l.length:Int)))&&(decide ((j:Int)<40))) (λFY S=>?_) (λFY S=>?_)
 .have hj:j<l.length∧j<40:=by have:=FY; simp at this; omega
  have ae:j<l.length:=hj.1;obtain⟨al,am,rfl,D,aa,Dv,ai⟩:=aDN J (λ_=>I) (j) ae;have S:=S.view0 Dv ai;refine adr S 6 [] [.idx j l.length,.M 1 5] (hk:=⟨ae,G⟩) λS=>aCF S (λu J xH VF S=>?_);have af:D.e.node.ok w:=ho _ (aa▸aDI hj.1);refine aCQ S (adn (s:=(⟨0,0,.none,some ⟨J,0,none⟩,1,[D.e.node]⟩:aA)) (n:=D.e.node) ⟨DL (f:=aj.cells) [D.e.node] (λ_=>I) (by simpa using S.kD 0) (by show 1<=maxLen; decide),λn hn=>by rw[aDK.1 hn]; exact af.below S.E⟩ I) λu J S=>aCD S (!D.e.node.lt) (λJ S=>?_) (λJ S=>?_)
  .refine aCB S (.z) (λS=>?_);exact⟨aJ (aj0 hj.1 hj.2 (by rw[aa]; exact(show D.e.node.lt=false by simpa using J))).symm,S.E⟩
  refine adr S 3 [] [.re 15 (.i (IntKind.i64.wrap ((j:Int)+1))) (.i (j+1:Nat))] (hk:=⟨aCS Z,G⟩) λS=>aCY S gJ (λS=>?_);exact dW _ _ (j+1) ⟨⟨mV hj.1 ab (by rw[aa]; exact(show D.e.node.lt=true by simpa using J)),hj.1,Z⟩,(S.gB 1).qc⟩ (by show l.length-(j+1)<l.length-j; omega)
 refine adr S 1 [] [.M 0 0] λS=>aCQ S (FZ ⟨h0.1.below S.E,λn hn=>(h0.2 n hn).below S.E⟩) λu D S=>aCB S (.b (s.light&&(decide ((l.length:Int)<=24)))) (λS=>?_);exact⟨aJ ((aj1 ab (by have:=FY; simp at this; omega) ah ag).trans (by congr 1; exact aF1.2 Z)).symm,S.E⟩
def vZ(id:Int)(t:bG):aj:=⟨id,1,0,t,none,0,[],0,255,1,false,false,none,0,[],0,none,0,[],aZ.bare,none,0,[],dI.bare,0⟩
def atl:bJ:=⟨0,0,0,0⟩
def ahd(id:Int)(t:bG)(b:Nat):aj:=⟨id,3,0,t,none,0,[],0,0,0,false,false,none,0,[],0,none,0,[],aZ.bare,none,0,[],⟨1,1,some ⟨b,0,none⟩,1,[atl]⟩,1⟩
def TI(w:VO)(t:bG):Prop:=t.ok w∧t.Is qI
abbrev TI.below{w w':VO}{t:bG}(h:TI w t)(D:Ext w w'):TI w' t:=⟨h.1.below D,h.2⟩
abbrev TI.eF{w w':VO}{t:bG}{b:Nat}{A:Array aaT}(h:TI w t)(D:Ch b w w')(J:Bx w b A)(hA:A.toList.all CW=true:=by rfl):TI w' t:=⟨h.1.eF D J hA,h.2⟩
abbrev bG.Is.q{t:bG}{Q:Q6}(h:t.Is Q)(hn:CU Q):t.q=Q:=by
 obtain⟨D,n1,J,S,n4,n5⟩:=hn;obtain⟨⟨a0,b0,c0,d0⟩,⟨a1,b1,c1,d1⟩,⟨a2,b2,c2,d2⟩,⟨a3,b3,c3,d3⟩,⟨a4,b4,c4,d4⟩,⟨a5,b5,c5,d5⟩⟩:=h;unfold bG.q;rw[Nz a0 b0 c0 d0 D,Nz a1 b1 c1 d1 n1,Nz a2 b2 c2 d2 J,Nz a3 b3 c3 d3 S,Nz a4 b4 c4 d4 n4,Nz a5 b5 c5 d5 n5]
abbrev bG.Is.fit{t:bG}{Q:Q6}{K:Nat}(h:t.Is Q)(hl:Tf K Q):t.fit K:=by
 obtain⟨l0,l1,l2,l3,l4,l5⟩:=hl;obtain⟨D,J,S,h3,h4,h5⟩:=h;exact⟨yQ D.2.1 D.2.2.2 l0,yQ J.2.1 J.2.2.2 l1,yQ S.2.1 S.2.2.2 l2,yQ h3.2.1 h3.2.2.2 l3,yQ h4.2.1 h4.2.2.2 l4,yQ h5.2.1 h5.2.2.2 l5⟩
def VG(w:VO)(id D:Int)(nd:aj):Prop:=
 (D=1∧∃t,TI w t∧nd=vZ id t)∨(D=2∧∃t,TI w t∧nd=iV id t)∨(D=3∧∃t b,TI w t∧Bx w b #[.u 0,.u 0,.u 0,.u 0]∧nd=ahd id t b)∨((D≠1∧D≠2∧D≠3)∧nd=bQ)
abbrev KE(w:VO) :
  abB prog 84 #[.i 1,.i 0,.i 0,.i 1,.agg Sx.zr.toArray,.agg Sx.zr.toArray] w λe w'=>∃x,e = .R x∧CZ w.heap.size w' x qI∧Ext w w':=by
 skip;refine aCG func84 ntmps84 λS=>aCJ S Sx.zr λu b2 J D S=>aCJ S Sx.zr λu b5 J D S=>aCJ S Sx.za λu b8 D J S=>jm S 12 [(14,λv w1=>dQ w.heap.size w1 v (false,1,1)),(16,λv w1=>dQ w.heap.size w1 v (false,0,1)),(18,λv w1=>dQ w.heap.size w1 v (false,0,1)),(20,λv w1=>dQ w.heap.size w1 v (false,1,1)),(22,λv w1=>dQ w.heap.size w1 v q0),(24,λv w1=>dQ w.heap.size w1 v q0)] (λr=>[.M 2 0,.M 1 0]) (λx=>[x 14,x 16,x 18,x 20,x 22,x 24]) (λx=>[(_,_,true,x 14,14),(_,_,true,x 16,16),(_,_,true,x 18,18),(_,_,true,x 20,20),(_,_,true,x 22,22),(_,_,true,x 24,24)]) [[],[],[],[],[],[]] (λx=>[(14,x 14),(16,x 16),(18,x 18),(20,x 20),(22,x 22),(24,x 24)]) ⟨λ_ _ _ k h=>h.ext k,λ_ _ _ k h=>h.ext k,λ_ _ _ k h=>h.ext k,λ_ _ _ k h=>h.ext k,λ_ _ _ k h=>h.ext k,λ_ _ _ k h=>h.ext k,G⟩ (λx=>⟨by intro u hC g F; exact(jD 1 _ O).mono λe w2 h=>by obtain⟨y,rfl,D,J⟩:=h; exact⟨_,I,aC.mono D ((K00 S.E hC)).size,J⟩,by intro u hC g F; exact(jD 0 _ O).mono λe w2 h=>by obtain⟨y,rfl,D,J⟩:=h; exact⟨_,I,aC.mono D ((K00 S.E hC)).size,J⟩,by intro u hC g F; exact(jD 0 _ O).mono λe w2 h=>by obtain⟨y,rfl,D,J⟩:=h; exact⟨_,I,aC.mono D ((K00 S.E hC)).size,J⟩,by intro u hC g F; exact(jD 1 _ O).mono λe w2 h=>by obtain⟨y,rfl,D,J⟩:=h; exact⟨_,I,aC.mono D ((K00 S.E hC)).size,J⟩,by intro u hC g F; exact(nO _ q0 1 _ (K08▸bM.toQ (bM.gW _) (bM.iM 1)) O).mono λe w2 h=>by obtain⟨y,rfl,D,J⟩:=h; exact⟨_,I,D.mono ((K00 S.E hC)).size,J⟩,by intro u hC g F; exact(nO _ q0 1 _ (K08▸bM.toQ (bM.gW _) (bM.iM 1)) O).mono λe w2 h=>by obtain⟨y,rfl,D,J⟩:=h; exact⟨_,I,D.mono ((K00 S.E hC)).size,J⟩,G⟩) (λu x qC F S=>?_);obtain⟨WE,J,aa,ab,Ai,ac,-⟩:=F;obtain⟨r0,e0⟩:=aC.iV WE;rw[e0]at S WE;try rw[e0]
 obtain⟨r1,D⟩:=aC.iV J;rw[D]at S J;try rw[D]
 obtain⟨r2,D⟩:=aC.iV aa;rw[D]at S aa;try rw[D]
 obtain⟨r3,D⟩:=aC.iV ab;rw[D]at S ab;try rw[D]
 obtain⟨r4,D⟩:=aC.iV Ai;rw[D]at S Ai;try rw[D]
 obtain⟨r5,D⟩:=aC.iV ac;rw[D]at S ac;try rw[D]
 have LG:=S.bx 0;refine aCP S 0 (off:=0) (cs:=(r0.cells++r1.cells++r2.cells++r3.cells++r4.cells++r5.cells)) I (λu D S=>?_);have pV:=aC.eF WE D LG;have Gt:=aC.eF J D LG;have J:=aC.eF aa D LG;have DV:=aC.eF ab D LG;have oG:=aC.eF Ai D LG;have Bv:=aC.eF ac D LG;refine aCU S 0 I (v := .agg (r0.cells++r1.cells++r2.cells++r3.cells++r4.cells++r5.cells).toArray) (λS=>?_);exact⟨_,I,⟨⟨r0,r1,r2,r3,r4,r5⟩,I,pV,Gt,J,DV,oG,Bv⟩,S.E⟩
abbrev GL(w:VO) :
  abB prog 52 #[] w λe w'=>∃t:bG,e = .R t.v∧TI w' t∧Ext w w':=by
 skip;refine aCG func52 ntmps52 λS=>aCJ S Sx.za λu b2 J D S=>aCR S (KE _) ?_;rintro e u ⟨x,rfl,D,J⟩;obtain⟨m,rfl,D⟩:=D;obtain⟨t,e,ho,hi⟩:=XB D;rw[e];refine⟨_,I,J,λS=>?_⟩;have X8:=S.bx 0;refine aCP S 0 (off:=0) (cs:=t.cells) I (λu J S=>?_);have D:=TI.eF (⟨ho,hi⟩:TI _ t) J X8;refine aCU S 0 I (v:=t.v) (λS=>?_);exact⟨t,I,D,S.E⟩
abbrev TI.fit{w:VO}{t:bG}(h:TI w t)(D:1<=K):t.fit K:=by
 obtain⟨J,S,h3,h4,h5,h6⟩:=h.2.fit al2;exact⟨J.mono D,S.mono D,h3.mono D,h4.mono D,h5.mono D,h6.mono D⟩
abbrev VG.ok{w:VO}{id J:Int}{nd:aj}(h:VG w id J nd)(hi:I64 id)(hK:1<=K)(D:K<=10000):eH K w nd:=by
 rcases h with ⟨-,t,J,rfl⟩ | ⟨-,t,J,rfl⟩ | ⟨-,t,b,J,hb,rfl⟩ | ⟨-,rfl⟩
 .exact⟨⟨hi,(show I64 1 by decide),fC,J.1,pU w,fC,(show I64 1 by decide),pU w,fC,lK w,aZ.gV w,lK w,dI.gV w,fC⟩,J.fit hK,λp S=>(by cases S),λp S=>(by cases S),hK,D⟩
 .exact abC hi J.1 (J.fit (aDd 1)) hK D
 .refine⟨⟨hi,(show I64 3 by decide),fC,J.1,pU w,fC,fC,pU w,fC,lK w,aZ.gV w,lK w,⟨(show I64 1 by decide),(show I64 1 by decide),?_⟩,(show I64 1 by decide)⟩,J.fit hK,λp S=>(by cases S),λp S=>(by cases S),hK,D⟩;refine⟨some ⟨b,0,none⟩,1,I,by decide,.inr ⟨b,0,I,hb.1,aDd _,λi hi j J=>?_⟩⟩;obtain rfl:i=0:=by simp[ahd]at hi; exact hi
  have:=hb.2.1 j;rw[show 0+0*4+j=j by omega,this];show _=(bJ.cells atl)[j]?;rw[<-List.getElem?_toArray];rfl
 exact iC w hK D
abbrev VG.check{w:VO}{id D:Int}{nd:aj}(h:VG w id D nd):(nd.checkN==0)=((((decide (1<=id))&&(decide (id<=1073741824)))&&(decide (1<=D)))&&(decide (D<=3))):=by
 have D:qI.valid=true:=by decide
 have hd:qx qI.Fp q0=false:=by decide
 have key:∀(n:aj),n.iF=[(false,2),((((decide (id<1))||(decide (1073741824<id)))||false)||false,6),(!n.t.q.valid,5),(qx n.t.q.Fp q0,9),(false,10),(false,17)]->n.t.q=qI->n.qR=0->(n.checkN==0)=((decide (1<=id))&&(decide (id<=1073741824))):=by
  intro n J S ho;unfold aj.checkN;rw[J,S,D,hd,ho];rw[aEI];by_cases h1:id<1
  .simp[badL,nK,h1]; omega
  by_cases h2:1073741824<id
  .simp[badL,nK,h2];try omega
  simp[badL,nK,h1,h2]; omega
 rcases h with ⟨rfl,t,D,rfl⟩ | ⟨rfl,t,D,rfl⟩ | ⟨rfl,t,b,D,-,rfl⟩ | ⟨⟨k1,J,S⟩,rfl⟩
 .rw[key _ I (D.2.q PE) I]; simp
 .rw[key _ I (D.2.q PE) I]; simp
 .rw[key _ I (D.2.q PE) I]; simp
 rw[PG];symm;rw[aEI];simp only[aDt,aDv,aDu];omega
abbrev aj2{a b:aj}(h:eH K w a)(h':eH K w b):abB prog 37 #[a.v,b.v] w (VH w (.b (a.key=b.key))):=by
 rw[<-aiL h.nrm h'.nrm]; exact P6 h h'
abbrev Gf{s t:aA}(h:dw K w s)(h':dw K w t) :
  abB prog 16 #[s.v,t.v] w (VH w (.b (s.key=t.key))):=by
 have D:s.ns.length<=9223372036854775807:=h.2.2.1.len;refine aCG func16 ntmps16 (λS=>?_);obtain⟨a,cap,es⟩:∃a c,s.s = .s a s.ns.length c:=⟨_,_,I⟩;have hr:=h.2.2.1;rw[es]at hr;obtain⟨d,cap',et⟩:∃a c,t.s = .s a t.ns.length c:=⟨_,_,I⟩;have ae:=h'.2.2.1;rw[et]at ae;refine aCF S λu b2 J D S=>aCF S λu b5 J D S=>adr S 29 [] [.M 1 0,.M 0 0,.M 1 1,.M 0 1,.M 1 2,.M 0 2,.cmp .neq 40 (.tmp 20) (.tmp 22) (.agg #[.u (s.bg.r.toNat:Int),.u (s.bg.g.toNat:Int),.u (s.bg.b.toNat:Int),.u (s.bg.a.toNat:Int)]) (.agg #[.u (t.bg.r.toNat:Int),.u (t.bg.g.toNat:Int),.u (t.bg.b.toNat:Int),.u (t.bg.a.toNat:Int)]) (.b (!decide (s.bg=t.bg))),.M 1 6,.re 27 s.s (.s a s.ns.length cap),.M 0 6,.re 30 t.s (.s d t.ns.length cap')] (hk:=⟨(aEg (λ_=>amu s.bg t.bg _) X),es,et,G⟩) λS=>aCD S (((((s.w) != t.w)||((s.h) != t.h))||(!decide (s.bg=t.bg)))||(((s.ns.length:Int)) != (t.ns.length:Int))) (λfK S=>?_) (λfK S=>?_)
 .refine aCB S (.z) (λS=>?_);exact⟨aJ (apF fK),S.E⟩
 refine aCZ S (ι:=Nat) (λp D w'=>p<=s.ns.length∧((keys s.ns).take p=(keys t.ns).take p)∧Sx.St w D w' 53 [(0,s.v),(1,t.v),(2,.q b2 0),(3,.q b5 0),(4,.z),(5,.i p)] [(b5,t.cells),(b2,s.cells)] []) (λp=>s.ns.length-p) (0) (λS=>⟨aDl _,I,S.qc⟩) ?_;rintro k J u gJ dW D;try dsimp only at D
 obtain⟨hk,hR,S⟩:=D;refine aC0 S λS=>adr S 5 [] [.M 1 6,.re 36 s.s (.s a s.ns.length cap)] (hk:=⟨es,G⟩) λS=>aCD S (decide ((k:Int)<(s.ns.length:Int))) (λD S=>?_) (λD S=>?_)
 .have wO:k<s.ns.length:=by have:=aDw D; omega
  obtain⟨af,ag,rfl,lN,J,Gu,L6⟩:=aDN hr (λ_=>I) (k) wO;have S:=S.view0 Gu L6;have Bh:k<t.ns.length:=by have:=afl fK; have:=aDw D; omega
  obtain⟨ah,ai,rfl,ab,aa,al,am⟩:=aDN ae (λ_=>I) (k) Bh;have S:=S.view0 al am;refine aCV S 12 [.M 1 6,.re 42 s.s (.s (some ⟨af,ag,none⟩) s.ns.length cap),.idx k s.ns.length,.M 3 0,.M 0 6,.re 47 t.s (.s (some ⟨ah,ai,none⟩) t.ns.length cap'),.idx k t.ns.length,.M 2 0] [(_,_,true,.b (lN.key=ab.key))] [(52,.b (!(decide (lN.key=ab.key))))] ⟨λu hC g=>aj2 ((h.2.2.2 _ (J▸aDI wO)).below (K00 S.E hC)) ((h'.2.2.2 _ (aa▸aDI Bh)).below (K00 S.E hC)),G⟩ (hk:=⟨es,wO,et,Bh,G⟩) λu Ny S=>aCD S (!(decide (lN.key=ab.key))) (λvC S=>?_) (λvC S=>?_)
  .refine aCB S (.z) (λS=>?_);exact⟨aJ (akI fK (apE wO Bh J aa vC)),S.E⟩
  refine adr S 3 [] [.re 40 (.i (IntKind.i64.wrap ((k:Int)+1))) (.i (k+1:Nat))] (hk:=⟨aCS Z,G⟩) λS=>aCY S gJ (λS=>?_);exact dW _ _ (k+1) ⟨Z,(aiS wO Bh hR J aa vC),S.qc⟩ (by show _-_<_-_; omega)
 refine aCB S (.b true) (λS=>?_);exact⟨aJ (akI fK (amv (by have:=aDA D; omega) (afl fK) hR)),S.E⟩
abbrev K14{t:bG}(h:t.lt=true):t.fit 20:=by
 unfold bG.lt at h;obtain⟨D,h⟩:=zi h;obtain⟨J,h⟩:=zi h;obtain⟨S,h⟩:=zi h;obtain⟨h3,h⟩:=zi h;obtain⟨h4,h⟩:=zi h;obtain⟨h5,h⟩:=zi h;exact⟨EX D,EX J,EX S,EX h3,EX h4,EX h5⟩
abbrev ak.D7{p:ak}(h:p.lt=true):p.t.fit 20∧p.lim:=by
 unfold ak.lt at h;simp only[aEG,aDX,aEC,aDQ]at h;have:=K14 h.1.1;exact⟨this,Z,Z,aaZ this⟩
abbrev aj.D7{w:VO}{n:aj}(h:n.lt=true)(ho:n.ok w):eH 20 w n∧n.lim:=by
 unfold aj.lt aj.lt0 at h;simp only[aDt,aEG,aDX,aEC,aDQ,aDF,aDT]at h;obtain⟨⟨⟨⟨⟨⟨⟨S,h2⟩,h3⟩,h4⟩,D⟩,h6⟩,h7⟩,J⟩:=h;have S:=K14 D;exact⟨⟨ho,S,λp D=>(ak.D7 (J p (.inl D))).1,λp D=>(ak.D7 (J p (.inr D))).1,by decide,by decide⟩,aaZ S,Z,Z,Z,λp D=>(ak.D7 (J p (.inl D))).2,Z,Z,λp D=>(ak.D7 (J p (.inr D))).2,Z⟩
abbrev K19{w:VO}{s:aA}(h:s.light=true)(D:s.ok w)(hl:s.ns.length<=64):dw 20 w s∧∀n∈s.ns,n.lim:=by
 unfold aA.light at h;simp only[aDt,aDF]at h;rw[aDG Z]at h;exact⟨⟨D.1,D.2.1,D.2.2.1,λn hn=>(aj.D7 (h.2 n hn) (D.2.2.2 n hn)).1⟩,λn hn=>(aj.D7 (h.2 n hn) (D.2.2.2 n hn)).2⟩
abbrev Zg{s:aA}{l:List jd}(h:vY s l=true):s.light=true∧l.length<=24∧∀x∈l,x.e.node.lt=true:=by
 unfold vY at h;simp only[aDt,aDv]at h;refine⟨h.2.1,h.2.2,λx D=>?_⟩;have:=h.1;rw[aDG Z]at this;exact aDF.1 this x D
def jd.ok(W:VO)(x:jd):Prop:=I64 x.d∧x.e.ok W
abbrev step_ok{x:jd}(h:x.e.node.lt=true)(D:x.ok w):gQ 20 w x.e∧x.e.node.lim:=
 ⟨⟨D.2.1,D.2.2.1,D.2.2.2.1,D.2.2.2.2.1,(aj.D7 h D.2.2.2.2.2).1⟩,(aj.D7 h D.2.2.2.2.2).2⟩
abbrev ahf{s:aA}(hl:64<s.ns.length) :
  abB prog 83 #[s.v] w λr w'=>∃c i:Int,(c==0)=false∧r = .R (.tuple #[.i c,.i i])∧Ext w w':=by
 skip;refine aCG func83 ntmps83 (λS=>?_);obtain⟨a,cap,es⟩:∃a c,s.s = .s a s.ns.length c:=⟨_,_,I⟩;refine aCF S λu b2 J D S=>adr S 20 [] [.M 0 0,.M 0 0,.M 0 1,.M 0 1] λS=>aCD S ((((decide (s.w<1))||(decide (256<s.w)))||(decide (s.h<1)))||(decide (256<s.h))) (λD S=>?_) (λD S=>?_)
 .refine MG S (.i 6) (.i 0) (λS=>?_);exact⟨6,0,O,I,S.E⟩
 refine adr S 4 [] [.M 0 6,.re 28 s.s (.s a s.ns.length cap),.re 30 (.b ((64:Int)<(s.ns.length:Int))) (.b true)] (hk:=⟨es,(aDc Value.b (aEy Z)),G⟩) λS=>aCM S λS=>MG S (.i 5) (.i 64) (λS=>?_);exact⟨5,64,O,I,S.E⟩
abbrev ahg{s:aA}(hl:64<s.ns.length) :
  abB prog 51 #[s.v] w (VH w (.z)):=by
 skip;refine aCG func51 ntmps51 λS=>aCF S λu b2 J D S=>adr S 2 [] [.M 0 0] λS=>aCR S (ahf hl) ?_;rintro e u ⟨c,i,D,rfl,J⟩;refine⟨_,I,J,λS=>?_⟩;refine adr S 8 [] [.re 11 (.b (c==0)) (.z)] (hk:=⟨(aDc Value.b D),G⟩) λS=>aCB S (.z) (λS=>?_);exact⟨I,S.E⟩
abbrev atm{s:aA}(hl:64<s.ns.length) :
  abB prog 25 #[s.v] w (VH w (.tuple #[.pointer none,.i 18])):=by
 skip;refine aCG func25 ntmps25 λS=>aCF S λu b2 J D S=>adr S 3 [] [.M 0 0] λS=>aCQ S (ahg hl) λu D S=>aCM S λS=>MG S ((.pointer none)) (.i 18) (λS=>?_);exact⟨I,S.E⟩
abbrev aoB{s:aA}(hN:∀u,Ext w u->abB prog 25 #[s.v] u (VH u (.tuple #[.pointer none,.i 18]))) :
  abB prog 21 #[s.v,lv] w (VH w (.pointer none)):=by
 skip;refine aCG func21 ntmps21 λS=>aCF S λu b2 J D S=>adr S 2 [] [.M 0 0] λS=>aCQ S (hN _ S.E) λu D S=>aCM S λS=>aCB S ((.pointer none)) (λS=>?_);exact⟨I,S.E⟩
abbrev aoC{s:aA}(J:s.light=true)(S:s.ok w)(hg:bT w)(hv:s.key.valid=false) :
  abB prog 21 #[s.v,lv] w (VH w (.pointer none)):=by
 refine aoB λu D=>?_;by_cases hl:s.ns.length<=64
 .obtain⟨h1,h2⟩:=K19 J S hl;exact ag9 (h1.below D) (bT.below hg D) h2 hv
 exact atm Z
end
section
open Go.RowKit Go.ChangeShapes Go.WideShapes Go.Sx Go.Rel
section
variable{H:Type}{enc:TypeId×aaT->H}{W:VO}{sp:Nat->Bool}{held:Bool}{n:Nat}{cs:List aaT}{y:DataW H×List MemPlace}
abbrev ahh(h:DataW.trod enc prog W 0 sp held n 75 cs=some y):∃m:jd,cs=m.cells∧m.ok W:=by
 obtain⟨xs,S,rfl,hx,hl,D,J⟩:=aEX underlying75 h;have hl:cs.length=56:=hl.trans X;obtain⟨x0,c0,w0⟩:=eP underlying3 (kZ (cs:=cs) (off:=0) (k:=1) (J 0 _ I) D O X).choose_spec;obtain⟨S,c1,w1⟩:=ae8 (kZ (cs:=cs) (off:=1) (k:=55) (J 1 _ I) D O X).choose_spec;have D:=(show cs=(cs.drop 0).take 56 by rw[aEo,aDG Z]).trans (aX cs 0 1 1 55 56 I I);rw[c0,c1]at D;exact⟨⟨x0,S⟩,D.trans X,w0,w1⟩
structure KF where
 a:Option aGk
 c:Nat
 l:List jd
def KF.v(m:KF):aaT := .s m.a m.l.length m.c
def KF.ok(W:VO)(m:KF):Prop:=aI 56 jd.cells W m.v m.l∧∀x∈m.l,x.ok W
abbrev WZ{base:Nat}{v:aaT}{d:DataW H}{p:List MemPlace}(D:Value.okWide prog W .any base 70 v)(h:DataW.Trod enc prog W 0 sp held 70 v d p):∃m:KF,v=m.v∧m.ok W:=by
 obtain⟨a,len,cap,rfl⟩:=okWide_slice underlying70 D;obtain⟨D,J⟩:=h;have J:DataW.trod enc prog W 0 sp held D 70 [.s a len cap]=some (d,p):=by simpa[Value.cells]using J
 obtain⟨a1,k1,D,S,r1,w1⟩:=pO (k:=56) underlying70 O X jd.cells (λe=>e.ok W) (λn cs y h=>ahh h) J;have J:Value.s a len cap = .s a1 D.length k1:=by simpa using S
 exact⟨⟨a1,k1,D⟩,J,r1,w1⟩
end
end
section
open Go.RowKit Go.Sx Go.Rel
variable{α:Type}{K:Nat}
abbrev OW{P:bI->Prop}(hA:ApC P){w0 w:VO}{b:Nat}{H:HD}{e:aN}(hP:P e.key)(hE:Ext w0 w)(hx:Bx w b H.tl.toArray)(hb:w0.heap.size<=b){B:Nat->Prop}(hB:∀i,w.heap.size<=i->B i)(aa:H.Ok K)(hm:Sx.On (λi=>B i∧i≠b) (H.row K) w)(hk:H.k≠256)(hg:bT w)(he:gQ K w e)(ai:e.node.lim) :
  abB prog 34 #[.q b 0,e.v] w λr w'=>∃(D:HD) (code:Int),r = .R (.i code)∧(D.key,code)=H.key.put e.key∧D.Ok K∧Sx.On (λi=>B i∧i≠b) (D.row K) w'∧Ext w0 w'∧Ch b w w'∧Bx w' b D.tl.toArray:=by
 obtain⟨sn,ah⟩:∃z,H.ss[H.k]'aa.lt=z:=⟨_,I⟩;have D:sn∈H.ss:=ah▸aDI _;have av:=aa.le;have J:=aa.len;have J:=iG (aDB hm).2.1;have J:=iG (aDB hm).1.1;refine aC5 func34 ntmps34 hE hx hb λS=>aCF S (λu b2 E3 J S=>?_);have af:=λp hp=>(S.own p hp).1.1;have jw:=S.E.size;have J:=(S.bx 1).1;have Zb:Ext w u:=E3;have J:=Zb.size;refine WL S f34 1 λS iz=>Sx.delay 6 4 8 ?_;refine qm S 8 [(11,λv w1=>∃t2:aA,v = .tuple #[t2.v,.i (dL sn.key e.key).2]∧t2.key=(dL sn.key e.key).1∧I64 t2.w∧I64 t2.h∧fB u.heap.size t2.s t2.ns w1∧∀n∈t2.ns,n.uw K),(7,λv w1=>∃t2:aA,v = .tuple #[t2.v,.i (dL sn.key e.key).2]∧t2.key=(dL sn.key e.key).1∧I64 t2.w∧I64 t2.h∧fB u.heap.size t2.s t2.ns w1∧∀n∈t2.ns,n.uw K),(12,λv w1=>∃t2:aA,v=t2.v∧t2.key=(dL sn.key e.key).1∧I64 t2.w∧I64 t2.h∧fB u.heap.size t2.s t2.ns w1∧∀n∈t2.ns,n.uw K),(13,λv w1=>v = .i (dL sn.key e.key).2),(5,λv w1=>∃b,v = .q b 0∧u.heap.size<=b∧w1.heap[b]?=some (.cells (List.toArray [.i 0,.i 0,.u 0,.u 0,.u 0,.u 0,.sn]) 65 (0,0))∧Bx w1 b (List.toArray [.i 0,.i 0,.u 0,.u 0,.u 0,.u 0,.sn]))] (λr=>[.M 0 0,.hand 7 [],.hand 12 [],.hand 13 [],.hand 5 []]) (λx=>[sn.v,x 11,x 7,x 12,x 13,x 5]) (λx=>[(_,_,true,sn.v,9),(_,_,true,x 11,11)]) [[],[]] (λx=>[(5,x 5),(12,x 12),(13,x 13)]) ⟨λ_ _ _ k h=>by obtain⟨t2,e,h1,J,h3,h4,h5⟩:=h; exact⟨t2,e,h1,J,h3,aDn h4 k,h5⟩,λ_ _ _ k h=>by obtain⟨t2,e,h1,J,h3,h4,h5⟩:=h; exact⟨t2,e,h1,J,h3,aDn h4 k,h5⟩,λ_ _ _ k h=>by obtain⟨t2,e,h1,J,h3,h4,h5⟩:=h; exact⟨t2,e,h1,J,h3,aDn h4 k,h5⟩,λ_ _ _ _ h=>h,λ_ w1 w2 k h=>by obtain⟨b,e,h1,J,h3⟩:=h; exact⟨b,e,h1,(k.block b (BX J).1).trans J,h3.ext k⟩,G⟩ (λx=>⟨by intro u hC g F; exact(Kt (ev := .s H.ea H.es.length H.ec) (r:=[]) ((S.kD 1).ext hC) (aDB ((aDn hm (K00 E3 hC)))).1.1 aa.lt ah).mono λe w2 h=>⟨_,h.1,I,h.2⟩,by intro u hC g F; exact(hA (K:=K) (s:=sn) (e:=e) ((aDB ((aDn hm (K00 E3 hC)))).1.2 sn D) (bT.below hg (K00 Zb hC)) (he.below (K00 Zb hC)) (λn hn=>(aa.s sn D n hn).2) ai hP).mono λe w2 h=>by obtain⟨t2,bj,rfl,D,hb⟩:=h; exact⟨_,I,⟨t2,by rw[<-D.1],by rw[<-D.1],D.2.2.1.1,D.2.2.1.2.1,fB.le D.2.1 hC.size,D.2.2.2⟩,hb⟩,G⟩) (λac u x E6 F S=>?_) (hk:=λr=>⟨G,G,G,G,G⟩) (hl:=[(4,[11]),(5,[7]),(6,[7]),(7,[])]) (hH:=λx r=>⟨λo ho ρ u hs hE D hV F=>by obtain⟨al,-⟩:=F; exact iT ho hs [(11,x 11)] (aDa (D 11 O I)) (x 11) (aC4 ho I I K01 al),λo ho ρ u hs hE D hV F=>by obtain⟨F7,-⟩:=F; obtain⟨t2,e,J⟩:=F7; exact iT ho hs [(7,.tuple #[t2.v,.i _])] (aDa ((D 7 O I).trans e)) (t2.v) (aC4 ho I I K01 ⟨t2,I,J⟩),λo ho ρ u hs hE D hV F=>by obtain⟨F7,-⟩:=F; obtain⟨t2,e,J⟩:=F7; exact iT ho hs [(7,.tuple #[t2.v,.i _])] (aDa ((D 7 O I).trans e)) (.i _) (aC4 ho I I K01 I),λo ho ρ u hs hE D hV F=>by exact Sx.OT ho hs [] (λ_ _ h=>by cases h) [.i 0,.i 0,.u 0,.u 0,.u 0,.u 0,.sn] 65 (λb w' h1 J h3 h4=>aC4 ho I I h4 ⟨b,I,aDy hE.size h1,J,h3⟩),G⟩);refine zdb S (λS=>?_);obtain⟨al,F7,G7,OI,F5,-⟩:=F;clear al;clear F7;obtain⟨t,aq,a6,a7,a8,a9,ar⟩:=G7;rw[aq]at S;try rw[aq]
 rw[OI]at S;try rw[OI]
 obtain⟨v5,F5,bk,bb,bc⟩:=F5;rw[F5]at S;try rw[F5]
 have S:=S.lq;have S:=S.adopt (A:=[.i 0,.i 0,.u 0,.u 0,.u 0,.u 0,.sn]) bc Z (λp hp=>by have:=af p hp; omega) (λm hm=>by cases hm);have aw:=alj (e0:=65) O a9 bb;refine aCH S 0 I (λu C7 S=>?_);have E8:=aCI (K00 E3 E6) C7 (by have:=E3.size; omega);have E9:=aCI (K00 E3 E6) C7 (by have:=E3.size; omega);have Yz:=(Sx.On.ch aw C7 Z);refine aCD S (((dL sn.key e.key).2) != 0) (λae S=>?_) (λae S=>?_)
 .refine aCB S (.i ((dL sn.key e.key).2)) (λS=>?_);exact⟨H,_,I,K18 (t:=(dL sn.key e.key).1) (by rw[K09 aa.lt,ah]) (by simpa using ae),aa,((aDn hm E8)),S.E,((Ch.trans (Ch.refl b w) (Ch.aT E9))),S.kD 2⟩
 have ax:Ext w u:=E8;have bg:=(S.bx 2).1;have ay:(dL sn.key e.key).2=0:=by simpa using ae
 have bh:=(((Ch.trans (Ch.refl b w) (Ch.aT E9)))).size;refine WL S f34 4 (λS iz=>?_);refine rX S 20 [(32,λv w1=>∃m:aj,v=aN.v {e with node:=m}∧m.cp u.heap.size w1∧m.strip=e.node.strip),(33,λv w1=>∃(m:aj) (b:Nat),v = .s (some ⟨b,0,none⟩) 1 1∧Bx w1 b (aN.cells {e with node:=m}).toArray∧m.cp u.heap.size w1∧m.strip=e.node.strip),(34,λv w1=>∃m:aj,w1.ownsRow u.heap.size 42 55 v (H.k+1) ((H.es.take H.k).flatMap aN.cells++aN.cells {e with node:=m})∧m.cp u.heap.size w1∧m.strip=e.node.strip)] (λr=>[.M 2 1,.M 2 2,.M 2 2,.slc 0 H.k H.k H.ec,.M 1 0,.hand 33 [],.hand 34 [(30,.s (pY H.ea 0 H.k 55) H.k H.k)]]) (λx=>[x 32,x 33,x 34]) (λx=>[(_,_,true,x 32,32)]) [[]] (λx=>[(34,x 34),(36,.q b 1)]) ⟨λ_ _ _ k h=>by obtain⟨m,e,h1,J⟩:=h; exact⟨m,e,aDn h1 k,J⟩,λ_ _ _ k h=>by obtain⟨m,b,e,h1,J,h3⟩:=h; exact⟨m,b,e,h1.ext k,aDn J k,h3⟩,λ_ _ _ k h=>by obtain⟨m,h1,J,h3⟩:=h; exact⟨m,Sx.dB h1 k,aDn J k,h3⟩,G⟩ (λx=>⟨by intro u hC g F; exact(yB (he.2.2.2.2.below (K00 ax hC)) ai).mono λe w2 h=>by obtain⟨m,rfl,am,ag,hb⟩:=h; exact⟨_,I,⟨m,I,y7 am hC.size,ag⟩,hb⟩,G⟩) (λac u x Cm F S=>?_) (hk:=λr=>⟨⟨aDl _,aDd _,Z⟩,G,G,G⟩) (hl:=[(16,[32]),(17,[33])]) (hH:=λx r=>⟨λo ho ρ u hs hE D hV F=>by obtain⟨an,-⟩:=F; obtain⟨m,e1,h1,J⟩:=an; exact ug ho hs [(32,aN.v {e with node:=m})] (aDa ((D 32 O I).trans e1)) (aN.cells {e with node:=m}) (some 1) (λv w' hn ab=>aC4 ho I I ab (by obtain⟨b,e2,-,h3⟩:=hn; exact⟨m,b,e2,h3,aDn h1 ab,J⟩)),λo ho ρ u hs hE D hV F=>by obtain⟨ao,-⟩:=F; obtain⟨m,b,e1,h1,J,h3⟩:=ao; exact qV ho atc (hV (30,_) aDq) ((D 33 O I).trans e1) (Rq (f:=aN.cells) (aDB (aDn ((aDn hm E8)) hE)).2.1 av.1 (λ_=>I) (λ_=>I)) (oH (m:=1) (k:=55) (A:=aN.cells {e with node:=m}) h1) O (by show H.k+1<=9223372036854775807; omega) Z (λv' w' h ab=>aC4 ho I I ab ⟨m,aDk h hE.size,aDn J ab,h3⟩),G⟩);refine Qr S (λS=>?_);obtain⟨an,ao,bd,-⟩:=F;clear an;clear ao;obtain⟨m,J,am,ag⟩:=bd;obtain⟨a4,c4,e4⟩:=Sx.jh J;rw[e4]at S J;try rw[e4]
 have ap:(H.es.take H.k++[({e with node:=m}:aN)]).length=H.k+1:=by rw[aDg,aD4,aFQ]; omega
 have az:=Hy (f:=aN.cells) (L:=H.es.take H.k++[({e with node:=m}:aN)]) (λ_=>I) J ap.symm Y;refine aCN S 2 I (λu J S=>?_);have DV:=(Sx.On.ch ((aDn hm (K00 E8 Cm))) J (λh=>h.2 I));have oG:=(aK ((Ch.trans (Ch.refl b w) (Ch.aT (K00 E9 Cm)))) J);have Bv:=(Sx.On.ch ((aDn Yz Cm)) J Z);have sW:=(Sx.On.ch az J Z);have wS:=(Sx.On.ch am J Z);have J:=(S.bx 2).1;have J:=(oG).size;have jw:=S.E.size;have af:=λp hp=>(S.own p hp).1.1;have jw:=S.E.size;refine WL S f34 5 (λS iz=>?_);refine rX S 21 [(54,iO u.heap.size t.cells (some 1)),(55,λv w1=>w1.ownsRow u.heap.size 65 7 v (H.k+1+1) ((H.ss.take (H.k+1)).flatMap aA.cells++t.cells))] (λr=>[.M 2 0,.M 2 2,.re 46 (.i (IntKind.i64.wrap ((H.k:Int)+1))) (.i (H.k+1:Nat)),.M 2 2,.re 51 (.i (IntKind.i64.wrap ((H.k:Int)+1))) (.i (H.k+1:Nat)),.slc 0 (H.k+1) (H.k+1) H.sc,.M 0 0,.new 54 t.cells (some 1) r,.hand 55 [(52,.s (pY H.sa 0 (H.k+1) 7) (H.k+1) (H.k+1))]]) (λx=>[x 54,x 55]) (λx=>[]) [] (λx=>[(55,x 55),(57,.q b 0)]) ⟨iO.mono,λ_ _ _ k h=>Sx.dB h k,G⟩ (λx=>G) (λac u x zS F S=>?_) (hN:=λr=>⟨⟨I,I⟩,G⟩) (hk:=λr=>⟨aCS Z,aCS Z,⟨aDl _,aDd _,Z⟩,G,G,G⟩) (hl:=[(18,[54])]) (hH:=λx r=>⟨λo ho ρ u hs hE D hV F=>by obtain⟨J,-⟩:=F; obtain⟨b,e1,-,h1⟩:=J; exact qV ho atb (hV (52,_) aDq) ((D 54 O I).trans e1) (Rq (f:=aA.cells) (aDB (aDn DV hE)).1.1 aa.lt (λ_=>I) (λ_=>I)) (oH (m:=1) (k:=7) (A:=t.cells) h1) O (by show H.k+1+1<=9223372036854775807; omega) Z (λv' w' h ab=>aC4 ho I I ab (aDk h hE.size)),G⟩);refine Qr S (λS=>?_);obtain⟨J,D,-⟩:=F;obtain⟨bm,J,Gu,be⟩:=J;have S:=S.adopt (A:=t.cells) be Z (λp hp=>by have:=af p hp; omega) (λm hm=>by cases hm);obtain⟨a5,c5,J⟩:=Sx.jh D;rw[J]at S D;try rw[J]
 have J:(H.ss.take (H.k+1)++[t]).length=H.k+1+1:=by rw[aDg,aD4,aFQ]; omega
 have a3:=Hy (f:=aA.cells) (L:=H.ss.take (H.k+1)++[t]) (λ_=>I) D J.symm Y;refine aCN S 3 I (λu D S=>?_);have qH:=(Sx.On.ch ((aDn DV zS)) D (λh=>h.2 I));have Qi:=(aK ((Ch.trans oG (Ch.aT zS))) D);have vI:=(Sx.On.ch ((aDn Bv zS)) D Z);have zV:=(Sx.On.ch ((aDn sW zS)) D Z);have Eo:=(Sx.On.ch ((aDn wS zS)) D Z);have Ba:=(Sx.On.ch a3 D Z);refine adr S 7 [] [.M 3 2,.re 62 (.i (IntKind.i64.wrap ((H.k:Int)+1))) (.i (H.k+1:Nat))] (hk:=⟨aCS Z,G⟩) λS=>aCN S 3 I (λu D S=>?_);have S:=S.fl;have zX:=(Sx.On.ch qH D (λh=>h.2 I));have xU:=(aK Qi D);have Bz:=(Sx.On.ch vI D Z);have EC:=(Sx.On.ch zV D Z);have xW:=(Sx.On.ch Eo D Z);have BA:=(Sx.On.ch Ba D Z);obtain⟨p1,p2⟩:=aa.put hk (t:=t) (d:=({e with node:=m}:aN)) (e:=e.key) (by rw[ah]; exact Prod.ext a6 ay.symm) (by show bI.mk _ _ _ _ m.key _=_; rw[vJ ag]; rfl) ar (pz ⟨he.2.2.2.2.2,ai⟩ ag) a5 a4 c5 c4;refine aCB S (.i 0) (λS=>?_);exact⟨_,0,I,p2,p1,K12 zX (aEY BA λi D=>⟨hB i Z,Z⟩) (aDS (aEY Bz λi D=>⟨hB i Z,Z⟩) λW h=>⟨a7,a8,h.1.1,λn hn=>⟨(h.2 n hn).1,(ar n hn).1⟩⟩) (aEY EC λi D=>⟨hB i Z,Z⟩) (aDS (aEY xW λi D=>⟨hB i Z,Z⟩) λW h=>⟨he.1,he.2.1,he.2.2.1,he.2.2.2.1,h.1,(pz ⟨he.2.2.2.2.2,ai⟩ ag).1⟩),S.E,xU,(by show Bx _ _ (List.toArray [.s a5 (H.ss.take (H.k+1)++[t]).length c5,.s a4 (H.es.take H.k++[({e with node:=m}:aN)]).length c4,.i (H.k+1:Nat)]); rw[J,ap]; exact S.kD 3)⟩
end
section
def bI.over(e f:bI):Bool:=(e.kind==f.kind)&&((e.kind==5)||((e.kind==4)&&(e.node.id==f.node.id)))
abbrev Zh{s a b:aY}{e f:bI}(h:dL s e=(a,0))(k:dL a f=(b,0))(ho:f.over e=true):dL s f=(b,0):=by
 obtain⟨h1,J,l,D,rfl,h5⟩:=yU h;obtain⟨k1,k2,m,J,rfl,k5⟩:=yU k;unfold bI.over at ho;simp only[aDt,aEV,aDu]at ho;obtain⟨hk,S⟩:=ho;rcases S with S | ⟨S,aa⟩
 .have e1:gK s.ns e = .ok s.ns:=by unfold gK; rw[aC9 Z,aC9 Z,aC9 Z,aC9 Z]
  rw[e1,aFa]at D;subst D;have e2:gK (s.with' e s.ns).ns f = .ok s.ns:=by unfold gK; rw[aC9 Z,aC9 Z,aC9 Z,aC9 Z]; rfl
  rw[e2,aFa]at J;subst J;have e3:gK s.ns f = .ok s.ns:=by unfold gK; rw[aC9 Z,aC9 Z,aC9 Z,aC9 Z]
  have e4:(s.with' e s.ns).with' f s.ns=s.with' f s.ns:=by unfold aY.with'; simp[S]
  rw[e4]at k5 |-;exact Et h1 k2 e3 k5
 unfold gK at D J;rw[aC9 Z,aC9 Z,aC9 Z,aDb Z]at D;rw[aC9 Z,aC9 Z,aC9 Z,aDb S]at J;cases hf:jo s.ns e.node.id with
 | none=>rw[hf]at D; cases D
 | some i =>
  rw[hf]at D;simp only at D;split at D
  .cases D
  rename_i hd;simp only[aFa]at D;subst D;obtain⟨hi,D⟩:=vF hf;have D:(s.with' e (s.ns.set i e.node)).ns=s.ns.set i e.node:=I;have ab:jo (s.ns.set i e.node) f.node.id=some i:=by
   have hn:=(Bo.1 (aY.kU.1 h5).2.2).2.1;have:=ae5 (l:=s.ns.set i e.node) (i:=i) hn (by simpa using hi);rw[List.getElem_set_self,<-aa]at this;exact this
  rw[D,ab]at J;simp only at J;split at J
  .cases J
  rename_i ac;simp only[aFa]at J;subst J;have D:Bl (s.ns.set i e.node) i=e.node.depth:=by unfold Bl; simp[hi]
  rw[D]at ac;have e3:gK s.ns f = .ok (s.ns.set i f.node):=by
   unfold gK;rw[aC9 Z,aC9 Z,aC9 Z,aDb S,aa,hf];simp only;rw[aC9 Z]
  have e4:(s.with' e (s.ns.set i e.node)).with' f ((s.ns.set i e.node).set i f.node)=s.with' f (s.ns.set i f.node):=by
   unfold aY.with'; simp only[List.set_set,aC9 (show ¬e.kind=5 by omega),aC9 (show ¬f.kind=5 by omega)]
  rw[e4]at k5 |-;exact Et h1 k2 e3 k5
noncomputable def cmpL(n:HK):List bI->HK
 | []=>n
 | [e]=>(n.put e).1
 | e::f::r=>if f.over e then cmpL n (f::r)else cmpL (n.put e).1 (f::r)
noncomputable def HK.compact(h:HK):HK:=cmpL ⟨h.ss.take 1,[],0⟩ (h.es.take h.k)
structure Am (ss:List aY) (kept:List bI) (i:Nat) (n:HK):Prop where
 ok:n.Ok
 k:n.k=n.es.length
 le:n.es.length<=i
 next:∀e t,kept[i]?=some e->ss[i+1]?=some t->dL n.now e=(t,0)
 fin:i=kept.length->ss[i]?=some n.now
 s0:n.ss[0]?=ss[0]?
abbrev HK.aj3{n:HK}(o:n.Ok){e:bI}{t:aY}(h:dL n.now e=(t,0)):(n.put e).1=⟨n.ss.take (n.k+1)++[t],n.es.take n.k++[e],n.k+1⟩∧(n.put e).2=0∧(n.put e).1.now=t:=by
 have hl:=o.hs.len;have hk:=o.k;have D:n.put e=(⟨n.ss.take (n.k+1)++[t],n.es.take n.k++[e],n.k+1⟩,0):=by unfold HK.put; rw[h,aDb I]
 rw[D];refine⟨I,I,?_⟩;have D:(n.ss.take (n.k+1)).length=n.k+1:=by rw[aD4]; omega
 show(((n.ss.take (n.k+1)++[t])[n.k+1]?).getD .zero)=t;rw[List.getElem?_append_right Z,D,aE5]; rfl
abbrev Am.start{ss:List aY}{es:List bI}(h:Hs ss es){k:Nat}(hk:k<=es.length):Am ss (es.take k) 0 ⟨ss.take 1,[],0⟩:=by
 have hl:=h.len;obtain⟨s,r,rfl⟩:∃s r,ss=s::r:=by cases ss with | nil=>simp at hl | cons s r=>exact⟨s,r,I⟩
 refine⟨⟨Hs.new (h.val s aDq),aDd _,aDl _⟩,I,aDd _,λe t D ht=>?_,λ_=>rfl,I⟩;have J:es[0]?=some e:=by
  rw[List.getElem?_take]at D;split at D
  .exact D
  cases D
 obtain⟨a,b,S,h2,D⟩:=h.step 0 e J;rw[ht,aDe]at h2;rw[<-h2]at D;simp only[List.getElem?_cons_zero,aDe]at S;rw[<-S]at D;exact D
abbrev Am.skip{ss:List aY}{es:List bI}(h:Hs ss es){k i:Nat}{n:HK}(c:Am ss (es.take k) i n){e f:bI}(J:i+1<(es.take k).length)(he:(es.take k)[i]?=some e)(D:(es.take k)[i+1]?=some f)(ho:f.over e=true):Am ss (es.take k) (i+1) n:=by
 have hl:=h.len;simp only[aD4]at J;have J:es[i+1]?=some f:=by rw[List.getElem?_take]at D; split at D; exact D; cases D
 obtain⟨a,b,h1,S,h3⟩:=h.step (i+1) f J;refine⟨c.ok,c.k,by have:=c.le; omega,λx t J ht=>?_,λhh=>(by simp only[aD4]at hh; omega),c.s0⟩;rw[D,aDe]at J;subst J;rw[ht,aDe]at S;subst S;exact Zh (c.next e a he h1) h3 ho
abbrev Am.put{ss:List aY}{es:List bI}(h:Hs ss es){k i:Nat}{n:HK}(c:Am ss (es.take k) i n){e:bI}(D:(es.take k)[i]?=some e)(J:es.length<=256):Am ss (es.take k) (i+1) (n.put e).1∧(n.put e).2=0:=by
 have hl:=h.len;have J:=(List.getElem?_eq_some_iff.1 D).1;simp only[aD4]at J;have J:es[i]?=some e:=by rw[List.getElem?_take]at D; split at D; exact D; cases D
 obtain⟨a,b,h1,S,h3⟩:=h.step i e J;have J:=c.next e b D S;obtain⟨p1,p2,p3⟩:=HK.aj3 c.ok J;have D:=c.le;have hk:=c.k;have D:=c.ok.hs.len;refine⟨⟨c.ok.put Z e,by rw[p1]; simp; omega,by rw[p1]; simp; omega,λx t D ht=>?_,λ_=>by rw[p3]; exact S,?_⟩,p2⟩
 .rw[p3];have J:es[i+1]?=some x:=by rw[List.getElem?_take]at D; split at D; exact D; cases D
  obtain⟨a',b',k1,D,k3⟩:=h.step (i+1) x J;rw[S,aDe]at k1;rw[ht,aDe]at D;rw[k1,D]; exact k3
 rw[p1];have:(n.ss.take (n.k+1)).length=n.k+1:=by rw[aD4]; omega
 rw[List.getElem?_append_left Z,List.getElem?_take_of_lt Z];exact c.s0
structure wu (h:HK) (i:Nat) (n:HK):Prop where
 st:Am h.ss (h.es.take h.k) i n
 run:cmpL n ((h.es.take h.k).drop i)=h.compact
 ok:h.Ok
abbrev wu.start{h:HK}(o:h.Ok):wu h 0 ⟨h.ss.take 1,[],0⟩:=⟨Am.start o.hs o.k,I,o⟩
abbrev uK{α:Type}{l:List α}{i:Nat}{e:α}(h:l[i]?=some e):l.drop i=e::l.drop (i+1):=by
 obtain⟨D,rfl⟩:=List.getElem?_eq_some_iff.1 h;exact aEu D
abbrev wu.skip{h n:HK}{i:Nat}{e f:bI}(c:wu h i n)(J:(h.es.take h.k)[i]?=some e)(D:(h.es.take h.k)[i+1]?=some f)(S:f.over e=true):wu h (i+1) n:=by
 refine⟨c.st.skip c.ok.hs (List.getElem?_eq_some_iff.1 D).1 J D S,?_,c.ok⟩;rw[<-c.run,uK J,uK D];show _=if f.over e then _ else _
 rw[aDb S]
abbrev wu.put{h n:HK}{i:Nat}{e:bI}(c:wu h i n)(D:(h.es.take h.k)[i]?=some e)(ho:∀f,(h.es.take h.k)[i+1]?=some f->f.over e=false):wu h (i+1) (n.put e).1∧(n.put e).2=0∧n.k≠256:=by
 obtain⟨J,S⟩:=c.st.put c.ok.hs D c.ok.most;refine⟨⟨J,?_,c.ok⟩,S,?_⟩
 .rw[<-c.run,uK D];cases hd:(h.es.take h.k)[i+1]? with
  | none=>rw[aEB (List.getElem?_eq_none_iff.1 hd)]; rfl
  | some f =>
   rw[uK hd];show _=if f.over e then _ else _
   rw[aC9 (by rw[ho f hd]; decide)]
 have J:=(List.getElem?_eq_some_iff.1 D).1;have D:=c.st.k;have D:=c.st.le;have D:=c.ok.most;simp only[aD4]at J;omega
abbrev wu.fin{h n:HK}{i:Nat}(c:wu h i n)(D:i=(h.es.take h.k).length):n=h.compact:=by
 rw[<-c.run,aEB Z]; rfl
end
section
open Go.RowKit Go.Sx Go.Rel
variable{α:Type}{K:Nat}
variable{w:VO}{b ec:Nat}{ea:Option aGk}{es:List aN}{s0:aA}
abbrev Ia{g o:Nat}{cs:List aaT}{A:Array aaT}(J:Bx w b A)(D:w.rangeAt g o cs)(hl:A.size<cs.length):b≠g:=λe=>by
 subst e;have h:=D (cs.length-1) _ (List.getElem?_eq_getElem Z);have D:=J.2.1 (o+(cs.length-1));rw[Array.getElem?_eq_none Z]at D;exact absurd (D.symm.trans h) Y
abbrev ado{ss:List α}(h:0<ss.length):∃s0,ss.take 1=[s0]:=by
 cases ss with
 | nil=>cases h
 | cons s r=>exact⟨s,I⟩
abbrev aa0{D:Option aGk}{L:List aN}(h:aI 55 aN.cells w (.s ea es.length ec) es)(J:L=es.take L.length)(hk:pY ea 0 ec 55=D):aI 55 aN.cells w (.s D L.length ec) L:=by
 have D:=iG h;have hl:L.length<=es.length:=by rw[J,aD4]; omega
 have:=oU h (aDl L.length) hl (aDy hl D) (aDd ec);simp only[Nat.sub_zero,aEo,hk,<-J]at this;exact this
abbrev ahi{W:VO}{sa:Option aGk}{sc k:Nat}{ss:List aA}(h:HD.row K ⟨sa,sc,ss,ea,ec,es,k⟩ W)(J:ss.take 1=[s0]):HD.row K ⟨pY sa 0 1 7,1,[s0],none,0,[],0⟩ W:=by
 have hl:1<=ss.length:=by cases ss with | nil=>simp at J | cons s r=>simp
 have S:=Ej h.1.1 hl (aDy hl (iG h.1.1));rw[J]at S;refine⟨⟨S,λs D=>?_⟩,dJ _ _ _,λe S=>(by cases S)⟩;rw[<-J]at D;exact h.1.2 s (aEJ D)
abbrev aj6{H:HD}(h:H.Ok K)(D:H.ss.take 1=[s0])(a:Option aGk):HD.Ok K ⟨a,1,[s0],none,0,[],0⟩:=by
 have J:s0∈H.ss:=aEJ (by rw[D]; exact aDq);refine⟨⟨Hs.new (h.val J),aDd _,aDl _⟩,λs D=>?_,λe S=>(by cases S)⟩;rw[aDK.1 D]; exact h.s s0 J
abbrev Ry{P:bI->Prop}(hA:ApC P){w0:VO}{c:Nat}{H:HD}(hE:Ext w0 w)(hx:Bx w b H.cells.toArray)(hb:w0.heap.size<=b)(D:c<=b)(ai:H.Ok K)(hm:H.mem K c b w)(hP:∀e∈H.es,P e.key)(hg:bT w0) :
  abB prog 11 #[.q b 0] w λr w'=>∃D:HD,r = .R (.tuple #[.i ((H.es.length:Int)-(D.es.length:Int)),.i 0])∧D.key=H.key.compact∧D.Ok K∧D.mem K c b w'∧Ext w0 w'∧Ch b w w'∧Bx w' b D.cells.toArray:=by
 obtain⟨sa,sc,ss,ea,ec,es,J⟩:=H;have bc:=ai.le;have D:=ai.len;simp only at bc D;obtain⟨L,af⟩:∃L,L=es.take J:=⟨_,I⟩;have D:J=L.length:=by rw[af,aD4]; omega
 subst D;have D:es.length<=ec:=iG (aDB hm).2.1;have D:ss.length<=sc:=iG (aDB hm).1.1;obtain⟨ka,ax⟩:∃z,pY ea 0 ec 55=z:=⟨_,I⟩;obtain⟨s0,D⟩:∃s0,ss.take 1=[s0]:=ado Z;obtain⟨h,hh⟩:∃z,z=HD.key ⟨sa,sc,ss,ea,ec,es,L.length⟩:=⟨_,I⟩;have am:h.es.take h.k=L.map aN.key:=by rw[hh]; exact(List.map_take ..).symm.trans (aDc _ af.symm)
 have J:=aj6 ai D (pY sa 0 1 7);have a6:wu h 0 (HD.key ⟨pY sa 0 1 7,1,[s0],none,0,[],0⟩):=by have:=wu.start (hh▸ai.k:h.Ok); rw[show h.ss.take 1=[s0.key]from by rw[hh]; exact(List.map_take ..).symm.trans (aDc _ D)]at this; exact this
 rw[<-hh];refine aC5 func11 ntmps11 hE hx hb λS=>mD S (pJ (S.bx 0)) λS=>aCT S λS=>adr S 7 [] [.M 0 0,.slc 0 1 1 sc] (hk:=⟨⟨aDl _,aDd _,Z⟩,G⟩) λS=>aCF S λu b5 E6 bk S=>aCH S 0 I (λu C8 S=>?_);have E9:=aCI E6 C8;have Pv:=aCI E6 C8;refine aCV S 11 [.M 1 1,.M 1 2,.slc 0 L.length ec ec,.re 29 (.s (pY ea 0 ec 55) L.length ec) (.s ka L.length ec)] [] [(29,.s ka L.length ec)] trivial (λu qC S=>?_) (hk:=⟨⟨aDl _,Z,aDd _⟩,(by rw[ax]),G⟩);have bd:w.heap.size<=b5:=Z
 have bm:=hb;have be:=aDS (Sx.On.fresh hm (K00 E9 qC) bd) λW h=>(⟨ahi h D,h⟩:HD.row K ⟨pY sa 0 1 7,1,[s0],none,0,[],0⟩ W∧HD.row K ⟨sa,sc,ss,ea,ec,es,L.length⟩ W);have D:=((Ch.trans (Ch.refl b w) (Ch.aT (K00 Pv qC))));refine aCZ S (ι:=Nat×HD) (λp a' w'=>(wu h p.1 p.2.key∧p.2.Ok K∧p.1<=L.length∧Sx.On (λi=>(c<=i∧i≠b)∧i≠b5) (λW=>HD.row K p.2 W∧HD.row K ⟨sa,sc,ss,ea,ec,es,L.length⟩ W) w'∧Ch b w w')∧Sx.St w0 a' w' 72 [(0,.q b 0),(2,.i 0),(3,.i 0),(4,.q b5 0),(5,.s ka L.length ec),(30,.s ka L.length ec),(31,.i L.length),(32,.i p.1)] [(b5,[.s p.2.sa p.2.ss.length p.2.sc,.s p.2.ea p.2.es.length p.2.ec,.i p.2.k]),(b,[.s sa ss.length sc,.s ea es.length ec,.i L.length,.b true])] []) (λp=>L.length-p.1) (0,⟨pY sa 0 1 7,1,[s0],none,0,[],0⟩) (λS=>⟨⟨a6,J,aDl _,be,D⟩,S.qc⟩) ?_;rintro⟨j,N⟩ ac u gJ dW hI;try dsimp only at hI
 obtain⟨J,S⟩:=hI;refine aC0 S (λS=>?_);obtain⟨ag,ae,bo,D,Yc⟩:=J;have J:=S.E.size;refine aCD S (decide ((j:Int)<(L.length:Int))) (λal S=>?_) (λal S=>?_)
 .have hj:j<L.length:=by have:=aDw al; omega
  have an:=aa0 (aDB D).2.2.1 af ax;have wO:j<L.length:=hj;obtain⟨bh,bp,rfl,J,ao,Gu,L6⟩:=aDN an (λ_=>I) (j) wO;have S:=S.view Gu L6 (λp hp=>by rcases aDp.1 hp with rfl | hp; (exact Ia (A:=List.toArray [.s N.sa N.ss.length N.sc,.s N.ea N.es.length N.ec,.i N.k]) (S.kD 0) L6 (show 3<55 by decide)); rcases aDp.1 hp with rfl | hp; (exact Ia (A:=List.toArray [.s sa ss.length sc,.s ea es.length ec,.i L.length,.b true]) (S.kD 1) L6 (show 4<55 by decide)); cases hp);refine adr S 3 [] [.idx j L.length,.M 2 0] (hk:=⟨wO,G⟩) λS=>aCF S λu bb zQ VI S=>aCH S 0 I (λu a4 S=>?_);have JB:=aCI zQ a4;have aq:=aCI zQ a4;have ar:(h.es.take h.k)[j]?=some J.key:=by rw[am,List.getElem?_map,List.getElem?_eq_getElem hj,ao]; rfl
  have an:=aa0 (aDB ((aDn D JB))).2.2.1 af ax;by_cases hjl:j+1<L.length
  .have atn:(j+1)<L.length:=hjl;obtain⟨ah,a9,bj,ay⟩:=Vp.apR an (λ_=>I) ((j+1)) atn;have S:=S.view bj ay (λp hp=>by rcases aDp.1 hp with rfl | hp; (show bb≠bh; omega); rcases aDp.1 hp with rfl | hp; (exact Ia (A:=List.toArray [.s N.sa N.ss.length N.sc,.s N.ea N.es.length N.ec,.i N.k]) (S.kD 1) ay (show 3<55 by decide)); rcases aDp.1 hp with rfl | hp; (exact Ia (A:=List.toArray [.s sa ss.length sc,.s ea es.length ec,.i L.length,.b true]) (S.kD 2) ay (show 4<55 by decide)); cases hp);refine aCV S 14 [.re 38 (.i (IntKind.i64.wrap ((j:Int)+1))) (.i (j+1:Nat)),.re 41 (.b (((j+1:Nat):Int)<(L.length:Int))) (.b true),.re 45 (.i (IntKind.i64.wrap ((j:Int)+1))) (.i (j+1:Nat)),.idx (j+1) L.length,.M 3 0,.M 0 0] [(_,_,true,.b (aN.over ah J))] [(50,.b (aN.over ah J))] ⟨λu hC g=>acW,G⟩ (hk:=⟨(aCS Z),(aDc Value.b (aEy Z)),(aCS Z),atn,G⟩) λu G8 S=>aCD S ((aN.over ah J)) (λD6 S=>?_) (λD6 S=>?_)
   .refine adr S 2 [] [.re 56 (.i (IntKind.i64.wrap ((j:Int)+1))) (.i (j+1:Nat))] (hk:=⟨(aCS Z),G⟩) λS=>aCY S gJ (λS=>?_);exact dW _ _ ((j+1),N) ⟨⟨ag.skip (f:=ah.key) ar (by rw[am,List.getElem?_map,List.getElem?_eq_getElem hjl,a9]; rfl) (show aN.over ah J=true from by simpa using D6),ae,hj,((aDn D (K00 JB G8))),((Ch.trans Yc (Ch.aT (K00 aq G8))))⟩,(S.gB 1).qc⟩ (by show L.length-(j+1)<L.length-j; omega)
   have aa:J∈es:=aEJ (af▸ao▸aDI hj);have av:∀f,(h.es.take h.k)[j+1]?=some f->f.over J.key=false:=λf hf=>by rw[am,List.getElem?_map,List.getElem?_eq_getElem hjl,a9]at hf; cases hf; exact(show aN.over ah J=false from by simpa using D6)
   have bg:=(S.bx 2).1;have ab:=ag.put ar av;have a7:=((aDn D (K00 JB G8)));refine adr S 1 [] [.M 0 0] λS=>aCL S 1 I (OW hA (hP J aa) S.E (S.bx 1) (S.old 1) (B:=λi=>c<=i∧i≠b) (λi hi=>by omega) ae (aDS ((aDn D (K00 JB G8))) λW h=>h.1) (by have:=ab.2.2; exact this) (bT.below hg S.E) ((aDB ((aDn D (K00 JB G8)))).2.2.2 J aa) (ai.e J aa).2) ?_;rintro e u ⟨N1,code,rfl,ap,KD,UK,az,MV,a3⟩;obtain rfl:code=0:=(aDc Prod.snd ap).trans ab.2.1;have aw:wu h (j+1) N1.key:=by rw[show N1.key=_ from aDc Prod.fst ap]; exact ab.1
   refine⟨_,_,I,az,MV,a3,λS=>?_⟩;have LU:=(Sx.On.ch ((aDn D (K00 JB G8))) MV Z);have Ug:=(aK ((Ch.trans Yc (Ch.aT (K00 aq G8)))) MV);refine aCT S λS=>adr S 2 [] [.re 56 (.i (IntKind.i64.wrap ((j:Int)+1))) (.i (j+1:Nat))] (hk:=⟨(aCS Z),G⟩) λS=>aCY S gJ (λS=>?_);exact dW _ _ ((j+1),N1) ⟨⟨aw,KD,hj,aDD UK (aDS LU λW h=>h.2),Ug⟩,(S.gB 1).qc⟩ (by show L.length-(j+1)<L.length-j; omega)
  refine aCV S 14 [.re 38 (.i (IntKind.i64.wrap ((j:Int)+1))) (.i (j+1:Nat)),.re 41 (.b (((j+1:Nat):Int)<(L.length:Int))) (.z),.dead 43 (.z),.dead 44 (.z),.dead 45 (.z),.dead 46 (.z),.dead 47 (.z),.dead 48 (.z),.dead 49 (.z)] [] [(50,.z)] trivial (hk:=⟨(aCS Z),(aDc Value.b (aER Z)),G⟩) λu Xz S=>aCT S (λS=>?_);have aa:J∈es:=aEJ (af▸ao▸aDI hj);have av:∀f,(h.es.take h.k)[j+1]?=some f->f.over J.key=false:=λf hf=>by rw[am,List.getElem?_map,List.getElem?_eq_none Z]at hf; cases hf
  have bg:=(S.bx 2).1;have ab:=ag.put ar av;have a7:=((aDn D (K00 JB Xz)));refine adr S 1 [] [.M 0 0] λS=>aCL S 1 I (OW hA (hP J aa) S.E (S.bx 1) (S.old 1) (B:=λi=>c<=i∧i≠b) (λi hi=>by omega) ae (aDS ((aDn D (K00 JB Xz))) λW h=>h.1) (by have:=ab.2.2; exact this) (bT.below hg S.E) ((aDB ((aDn D (K00 JB Xz)))).2.2.2 J aa) (ai.e J aa).2) ?_;rintro e u ⟨N1,code,rfl,ap,KD,UK,az,MV,a3⟩;obtain rfl:code=0:=(aDc Prod.snd ap).trans ab.2.1;have aw:wu h (j+1) N1.key:=by rw[show N1.key=_ from aDc Prod.fst ap]; exact ab.1
  refine⟨_,_,I,az,MV,a3,λS=>?_⟩;have J:=(Sx.On.ch ((aDn D (K00 JB Xz))) MV Z);have Dx:=(aK ((Ch.trans Yc (Ch.aT (K00 aq Xz)))) MV);refine aCT S λS=>adr S 2 [] [.re 56 (.i (IntKind.i64.wrap ((j:Int)+1))) (.i (j+1:Nat))] (hk:=⟨(aCS Z),G⟩) λS=>aCY S gJ (λS=>?_);exact dW _ _ ((j+1),N1) ⟨⟨aw,KD,hj,aDD UK (aDS J λW h=>h.2),Dx⟩,(S.gB 1).qc⟩ (by show L.length-(j+1)<L.length-j; omega)
 have J:j=L.length:=by have:=aDA al; omega
 have a8:=ag.fin (by rw[am,aEh]; exact J);have J:=ag.1.le;have J:N.es.length<=j:=by have:=ag.1.le; unfold HD.key at this; simpa using this
 refine aCV S 10 [.M 1 1,.M 0 1,Sx.kw 66 ((es.length:Int)-(N.es.length:Int))] [] [(66,.i ((es.length:Int)-(N.es.length:Int)))] trivial (hk:=⟨ae9 Z,G⟩) λu J S=>adr S 5 [] [.M 0 0] λS=>aCH S 1 I (λu a5 S=>?_);have I4:=(Sx.On.ch ((aDn D J)) a5 Z);have D:=(aK ((Ch.trans Yc (Ch.aT J))) a5);refine MG S (.i ((es.length:Int)-(N.es.length:Int))) (.i 0) (λS=>?_);exact⟨N,I,a8,ae,aEY (aDS I4 λW h=>h.1) (λi hi=>hi.1),S.E,D,S.kD 1⟩
end
section
structure Pg (n:aO):Prop where
 c:n.chk=0
 i:n.id=1
 k:n.kind=1
 d:n.depth=0
def BZ(n:aO)(c:bJ):aY:=⟨2,1,c,[n]⟩
abbrev Pg.valid{n:aO}(h:Pg n)(c:bJ):(BZ n c).valid=true:=by
 rw[aY.kU];refine⟨(by show(1:Int)<=2∧(2:Int)<=256∧(1:Int)<=1∧(1:Int)<=256; decide),(by show 1<=64; omega),?_,G⟩;exact FC.2 ⟨h.c,λκ D=>(by cases D),by rw[h.d]; exact Int.le_refl _⟩
def KG(c:bJ):bI:=⟨5,0,0,0,.zero,c⟩
abbrev adq{s:aY}(h:s.valid=true)(c:bJ):(⟨s.w,s.h,c,s.ns⟩:aY).valid=true:=by
 rw[aY.kU]at h |-;exact h
abbrev ads{s:aY}(h:s.valid=true)(c:bJ):dL s (KG c)=(⟨s.w,s.h,c,s.ns⟩,0):=
 Et h (by simp[bI.named,KG]) (by simp[gK,KG]) (adq h c)
abbrev Pg.rm9{n:aO}(h:Pg n)(c:bJ):dL (BZ n c) (.remove 9)=(.zero,8):=by
 have J:jo (BZ n c).ns 9=none:=XE.2 λκ D=>by rw[aDK.1 D,h.i]; decide
 unfold dL;rw[aC9 (by rw[h.valid c]; decide),aC9 (by simp[bI.named,bI.remove])];have:gK (BZ n c).ns (.remove 9) = .error 8:=by
  unfold gK;rw[aC9 O,aDb (show(bI.remove 9).kind=2 from rfl),show(bI.remove 9).id=9 from rfl,J]
 rw[this]
end
section
open Go.RowKit En Go.Sx Go.Rel
variable{α:Type}{K:Nat}
def VJ:aO:=⟨1,1,0,qI,[],0,255,1,false,false,[],0,[],aZ.bare.key,[],dI.bare.key,0⟩
def yD(w:VO)(m:aA):Prop:=dw 20 w m∧(∀n∈m.ns,n.lim)∧m.key=BZ VJ .none∧Pg VJ
abbrev yD.below{w w':VO}{m:aA}(h:yD w m)(D:Ext w w'):yD w' m:=⟨h.1.below D,h.2⟩
variable{w:VO}{b:Nat}{m:aA}
abbrev aj7{t:bG}(J:TI w t)(S:Bx w b (vZ 1 t).cells.toArray):yD w ⟨2,1,.none,some ⟨b,0,none⟩,1,[vZ 1 t]⟩:=by
 have hd:VG w 1 1 (vZ 1 t) := .inl ⟨I,t,J,I⟩;have hk:(vZ 1 t).key=VJ:=by unfold aj.key VJ vZ; rw[J.2.q PE]; rfl
 have D:(vZ 1 t).checkN=0:=by have:=hd.check; simpa using this
 refine⟨⟨(show I64 2 by decide),(show I64 1 by decide),DL (f:=aj.cells) [vZ 1 t] (λ_=>I) (by simpa using S) (by show 1<=maxLen; decide),λn hn=>by rw[aDK.1 hn]; exact hd.ok O O O⟩,λn hn=>?_,by unfold aA.key BZ; rw[<-hk]; rfl,⟨by rw[<-hk,lg]; exact D,I,I,I⟩⟩;rw[aDK.1 hn];exact⟨(J.fit (aDd 1)).up O,aDl _,aDl _,aDl _,(λp D=>by cases D),aDl _,aDl _,(λp D=>by cases D),aDl _⟩
def EdS(k:bI):Prop:=k.kind=2∨k.kind=5
abbrev KH{f:FuncId}{args:Array aaT}{v D:aaT}(h:abB prog f args w (VH w v))(J:v=D):abB prog f args w (VH w D):=J▸h
abbrev alp{a n:Nat}{H:HD}{h:HK}(D:Bx w b H.cells.toArray)(hk:H.key=h)(J:h.k=a)(hn:h.es.length=n) :
  abB prog 9 #[.q b 0] w (VH w (.tuple #[.i a,.i n])):=by
 subst hk J hn;exact KH (agG (sv := .s H.sa H.ss.length H.sc) (ea:=H.ea) (ec:=H.ec) D) (by simp[HD.key])
abbrev aoE{v:aaT}(h:∃t:aA,v=t.v∧yD w t)(J:dw 20 w m)(hk:m.key=BZ VJ .none) :
  abB prog 16 #[m.v,v] w (VH w (.b true)):=by
 obtain⟨t,rfl,D⟩:=h;exact KH (Gf J D.1) (by rw[hk,D.2.2.1]; simp)
abbrev ahj(w:VO){k i:Int}{c:bJ}(hk:I64 k)(J:I64 i)(D:1<=K∧K<=10000):gQ K w ⟨k,i,0,0,bQ,c⟩:=⟨hk,J,(show I64 0 by decide),(show I64 0 by decide),iC w D.1 D.2⟩
abbrev VK:bQ.lim:=⟨(iC (K:=20) default O O).2.1.up O,aDl _,aDl _,aDl _,(λp D=>by cases D),aDl _,aDl _,(λp D=>by cases D),aDl _⟩
abbrev K15{h:HK}{e:bI}{t:aY}{c:Int}(hk:h.k≠256)(D:dL h.now e=(t,c)):h.app e=if c=0 then (⟨h.ss.take (h.k+1)++[t],h.es.take h.k++[e],h.k+1⟩,0)else (h,c):=by
 unfold HK.app HK.put;rw[aC9 hk,D]
abbrev aoF{n:aO}(h:Pg n)(c:bJ):HK.app ⟨[BZ n .none],[],0⟩ (KG c)=(⟨[BZ n .none,BZ n c],[KG c],1⟩,0):=by
 rw[K15 (h:=⟨[BZ n .none],[],0⟩) (t:=BZ n c) (c:=0) (by show(0:Nat)≠256; decide) (ads (s:=BZ n .none) (h.valid _) c),aDb I]; rfl
abbrev atp{n:aO}(h:Pg n)(c:bJ)(es:List bI):HK.app ⟨[BZ n .none,BZ n c],es,1⟩ (.remove 9)=(⟨[BZ n .none,BZ n c],es,1⟩,8):=by
 rw[K15 (h:=⟨[BZ n .none,BZ n c],es,1⟩) (t := .zero) (c:=8) (by show(1:Nat)≠256; decide) (h.rm9 c),aC9 O]
abbrev VN(w:VO) :
  abB prog 26 #[] w λe w'=>∃m:aA,e = .R m.v∧yD w' m∧Ext w w':=by
 skip;refine aCG func26 ntmps26 λS=>aCJ S [.i 0,.i 0,.u 0,.u 0,.u 0,.u 0,.sn] λu b2 J D S=>aCR S (GL _) ?_;rintro e u ⟨t,rfl,ht,D⟩;refine⟨_,I,D,λS=>?_⟩;refine aCJ S (Sx.L [.i 1,.i 1,.i 0]++t.cells++Sx.L [.sn,.i 0,.u 255,.i 1,.z,.z,.sn,.i 0,.sn,.i 0,.i 0,.i 0,.i 0,.sn,.i 0,.sn,.i 0,.i 0,.sn,.i 0]) (λu b7 J D S=>?_);have WG:=S.bx 1;refine aCP S 1 (off:=0) (cs:=[.i 2,.i 1,.u 0,.u 0,.u 0,.u 0,.s (some ⟨b7,0,none⟩) 1 1]) I (λu D S=>?_);have Dc:=TI.eF (ht.below J) D WG;refine aCU S 1 I (v:=aA.v ⟨2,1,.none,some ⟨b7,0,none⟩,1,[vZ 1 t]⟩) (λS=>?_);exact⟨_,I,aj7 Dc (S.kD 0),S.E⟩
abbrev ahl{base:Nat}(J:fB base m.s m.ns w)(D:dw K w m)(hl:∀n∈m.ns,n.uw K):bn base (λW=>dw K W m∧∀n∈m.ns,n.lim) w:=
 aDS J λW h=>⟨⟨D.1,D.2.1,h.1.1,λn hn=>⟨(h.2 n hn).1,(hl n hn).1⟩⟩,λn hn=>(hl n hn).2⟩
abbrev EY{P:bI->Prop}(hA:ApC P)(hS:∀e,EdS e->P e)(hg:bT w) :
  abB prog 19 #[] w (VH w (.b true)):=by
 skip;refine aCG func19 ntmps19 λS=>aCR S (VN _) ?_;rintro e u ⟨p,rfl,hp,D⟩;refine⟨_,I,D,λS=>?_⟩;have aa:=λp hp=>(S.own p hp).1.1;have jw:=S.E.size;obtain⟨c0,a8⟩:∃z:Nat,z=u.heap.size:=⟨_,I⟩;have D:=hp;refine aCR S (Ru D.1 (bT.below hg S.E) D.2.1 (by rw[D.2.2.1]; exact D.2.2.2.valid _)) ?_;rintro e u ⟨bh,H1,rfl,J,be,af,⟨al,am⟩,E4⟩;rw[<-a8]at J af aa jw;rw[D.2.2.1]at am;refine⟨_,I,E4,λS=>?_⟩;have S:=S.fl;have S:=S.adopt (A:=H1.cells) be Z (λp hp=>by have:=aa p hp; omega) (λm hm=>by cases hm);refine adr S 11 [25,26] [] λS=>aCT S λS=>aCF S λu b8 E9 AL S=>aCH S 0 I (λu a3 S=>?_);have qC:=aCI E9 a3;refine adr S 3 [] [.M 0 0] (λS=>?_);have S:=S.fl;refine aCL S 1 I (vW hA (hS _ (show EdS _ from .inr I)) S.E (S.bx 1) (S.old 1) J al ((aDn af qC)) (e:=⟨5,0,0,0,bQ,⟨255,0,0,255⟩⟩) (bT.below hg S.E) (ahj _ O O O) VK) ?_;rintro e u ⟨H2,cd,rfl,bj,an,ao,bk,ap,bm⟩;obtain⟨a9,rfl⟩:=aFt (bj.trans (show _=((⟨[BZ VJ .none,BZ VJ ⟨255,0,0,255⟩],[KG ⟨255,0,0,255⟩],1⟩:HK),(0:Int))from by rw[am]; exact aoF D.2.2.2 ⟨255,0,0,255⟩));refine⟨_,_,I,bk,ap,bm,λS=>?_⟩;have Bc:=(Sx.On.ch ((aDn af qC)) ap Z);have S:=S.fl;refine aCL S 1 I (vW hA (hS _ (show EdS _ from .inl I)) S.E (S.bx 1) (S.old 1) J an ao (e:=⟨2,9,0,0,bQ,.none⟩) (bT.below hg S.E) (ahj _ O O O) VK) ?_;rintro e u ⟨H3,cd,rfl,bo,KD,UK,bp,aq,bq⟩;obtain⟨bb,rfl⟩:=aFt (bo.trans (show _=((⟨[BZ VJ .none,BZ VJ ⟨255,0,0,255⟩],[KG ⟨255,0,0,255⟩],1⟩:HK),(8:Int))from by rw[a9]; exact atp D.2.2.2 ⟨255,0,0,255⟩ _));refine⟨_,_,I,bp,aq,bq,λS=>?_⟩;have D:=(Sx.On.ch ao aq Z);have S:=S.fl;refine aCL S 1 I (KC S.E (S.bx 1) (S.old 1) J KD UK) ?_;rintro e u ⟨H4,cd,rfl,br,ar,D,bs,av,bt⟩;obtain⟨ai,rfl⟩:=aFt (br.trans (show _=((⟨[BZ VJ .none,BZ VJ ⟨255,0,0,255⟩],[KG ⟨255,0,0,255⟩],0⟩:HK),(0:Int))from by rw[bb]; exact I));refine⟨_,_,I,bs,av,bt,λS=>?_⟩;have DV:=(Sx.On.ch UK av Z);have co:=(S.bx 0).1;have cq:=(S.bx 1).1;refine aCR S (zf (S.kD 1) ar D) ?_;rintro e u ⟨q,rfl,bv,bw,aw,bz,zO⟩;rw[ai]at aw;have WX:=ahl bv bw bz;refine⟨_,I,zO,λS=>?_⟩;refine aCF S λu a4 RZ Xk S=>aCH S 0 I (λu PO S=>?_);have Gq:=aCI (K00 zO RZ) PO (by have:=zO.size; omega);have PS:=aCI RZ PO;have S:=S.fl;refine aCL S 2 I (KC S.E (S.bx 2) (S.old 2) J ar ((aDn D Gq))) ?_;rintro e u ⟨H5,cd,rfl,ca,cb,ax,cc,ag,ce⟩;obtain⟨bc,rfl⟩:=aFt (ca.trans (show _=((⟨[BZ VJ .none,BZ VJ ⟨255,0,0,255⟩],[KG ⟨255,0,0,255⟩],0⟩:HK),(20:Int))from by rw[ai]; exact I));refine⟨_,_,I,cc,ag,ce,λS=>?_⟩;have Em:=(Sx.On.ch ((aDn D Gq)) ag Z);have qH:=(Sx.On.ch ((aDn WX PS)) ag Z);have S:=S.fl;refine aCL S 2 I (Zc S.E (S.bx 2) (S.old 2) J cb ax) ?_;rintro e u ⟨H6,cd,rfl,D,cf,ay,Yk,DF,Yl⟩;obtain⟨bd,rfl⟩:=aFt (D.trans (show _=((⟨[BZ VJ .none,BZ VJ ⟨255,0,0,255⟩],[KG ⟨255,0,0,255⟩],1⟩:HK),(0:Int))from by rw[bc]; exact I));refine⟨_,_,I,Yk,DF,Yl,λS=>?_⟩;have D:=(Sx.On.ch ax DF Z);have zV:=(Sx.On.ch qH DF Z);have S:=S.fl;refine aCL S 2 I (Zc S.E (S.bx 2) (S.old 2) J cf ay) ?_;rintro e u ⟨H7,cd,rfl,cg,ah,D,ci,J,cj⟩;obtain⟨ab,rfl⟩:=aFt (cg.trans (show _=((⟨[BZ VJ .none,BZ VJ ⟨255,0,0,255⟩],[KG ⟨255,0,0,255⟩],1⟩:HK),(20:Int))from by rw[bd]; exact I));refine⟨_,_,I,ci,J,cj,λS=>?_⟩;have Ba:=(Sx.On.ch ay J Z);have Dz:=(Sx.On.ch zV J Z);refine aCQ S (alp (S.kD 2) ab I I) λu J S=>aCR S (EW (S.kD 2) ah ((aDn D J)) (bT.below hg S.E)) ?_;rintro e u ⟨vb,rfl,ck,TL⟩;refine⟨_,I,TL,λS=>?_⟩;have aa:=λp hp=>(S.own p hp).1.1;have jw:=S.E.size;have a5:=aDB ((aDn D (K00 J TL)));refine aCR S (OV hA (by rw[ab]; intro e he; rw[aDK.1 he]; exact hS _ (.inr I)) (rowB ck) ah O a5 (bT.below hg S.E)) ?_;rintro e u ⟨bu,A02,rfl,cu,cm,ae,Zd,az,Si⟩;refine⟨_,I,Si,λS=>?_⟩;have S:=S.adopt (A:=A02.cells) cm Z (λp hp=>by have:=aa p hp; omega) (λm hm=>by cases hm);refine aCT S (λS=>?_);have ct:=S.E;have a6:=((aDn D (K00 J (K00 TL Si))));have ae:=ae;have a7:=aDB ((aDn Dz (K00 J (K00 TL Si))));rw[ab]at az;have S:=S.fl;refine WL S f19 17 (λS D=>?_);have S:=S.sub [(1,.q bh 0),(3,.q b8 0),(4,.i 0),(5,.i 8),(6,.i 0),(7,.q a4 0),(8,.i 20),(9,.i 0),(10,.i 20),(11,.i 1),(12,.i 1),(14,.i 0),(15,.q bu 0),(16,.i 0)];refine aaF S 58 (Rel.is (.i 0)::Rel.is (.b true)::Rel.is (.b true)::Rel.is (.i 8)::Rel.is (.b true)::Rel.is (.b true)::Rel.is (.b true)::Rel.is (.i 0)::Rel.is (.b true)::Rel.is (.b true)::Rel.is (.b true)::Rel.is (q.v)::(λv w1=>∃m:aA,v=m.v∧yD w1 m)::Rel.is (.b true)::Rel.is (.b true)::Rel.is (.b true)::Rel.is (.i 20)::Rel.is (.b true)::Rel.is (.b true)::Rel.is (.b true)::Rel.is (.i 0)::Rel.is (.b true)::Rel.is (.b true)::Rel.is (.b true)::Rel.is (.i 20)::Rel.is (.b true)::Rel.is (.b true)::Rel.is (.b true)::Rel.is (.q bh 0)::(λv w1=>∃m:aA,v=m.v∧m.bg=⟨255,0,0,255⟩)::Rel.is (.agg #[.u 255,.u 0,.u 0,.u 255])::Rel.is (.agg #[.u 255,.u 0,.u 0,.u 255])::Rel.is (.b true)::Rel.is (.b true)::Rel.is (.b true)::Rel.is (.i 1)::Rel.is (.b true)::Rel.is (.b true)::Rel.is (.b true)::Rel.is (.i 1)::Rel.is (.b true)::Rel.is (.b true)::Rel.is (.b true)::Rel.is (.i 0)::Rel.is (.b true)::Rel.is (.b true)::Rel.is (.b true)::Rel.is (.i 0)::Rel.is (.b true)::Rel.is (.b true)::Rel.is (.b true)::Rel.is (.q bu 0)::(λv w1=>∃m:aA,v=m.v∧m.bg=⟨255,0,0,255⟩)::Rel.is (.agg #[.u 255,.u 0,.u 0,.u 255])::Rel.is (.agg #[.u 255,.u 0,.u 0,.u 255])::Rel.is (.b true)::Rel.is (.b true)::Rel.is (.b true)::[]) 57 0 (.b true) ⟨aB _,aB _,aB _,aB _,aB _,aB _,aB _,aB _,aB _,aB _,aB _,aB _,λ_ _ _ k h=>by obtain⟨m,e,h⟩:=h; exact⟨m,e,h.below k⟩,aB _,aB _,aB _,aB _,aB _,aB _,aB _,aB _,aB _,aB _,aB _,aB _,aB _,aB _,aB _,aB _,λ_ _ _ k h=>by obtain⟨m,e,h⟩:=h; exact⟨m,e,h⟩,aB _,aB _,aB _,aB _,aB _,aB _,aB _,aB _,aB _,aB _,aB _,aB _,aB _,aB _,aB _,aB _,aB _,aB _,aB _,aB _,aB _,aB _,λ_ _ _ k h=>by obtain⟨m,e,h⟩:=h; exact⟨m,e,h⟩,aB _,aB _,aB _,aB _,aB _,G⟩ ⟨λρ u1 J ho hC D=>aCK J [(4,.i 0)] ⟨(ho 4 I).trans (S.s.ev I),G⟩,
  λρ u1 J ho hC D=>aCK J [(63,.i 0)] ⟨D.1 I,G⟩,
  λρ u1 J ho hC D=>aCK J [(64,.b true)] ⟨D.1 I,G⟩,
  λρ u1 J ho hC D=>⟨λ_=>aCK J [(5,.i 8)] ⟨(ho 5 I).trans (S.s.ev I),G⟩,λhn=>absurd (D.1 I) hn⟩,
  λρ u1 J ho hC D=>⟨λ_=>aCK J [(66,.i 8)] ⟨D.1 I,G⟩,λhn=>absurd (D.2.1 I) hn⟩,
  λρ u1 J ho hC D=>aCK J [(65,.b true),(67,.b true)] ⟨D.1 I,D.2.1 I,G⟩,
  λρ u1 J ho hC D=>aCK J [(68,.b true)] ⟨D.1 I,G⟩,
  λρ u1 J ho hC D=>⟨λ_=>aCK J [(6,.i 0)] ⟨(ho 6 I).trans (S.s.ev I),G⟩,λhn=>absurd (D.1 I) hn⟩,
  λρ u1 J ho hC D=>⟨λ_=>aCK J [(70,.i 0)] ⟨D.1 I,G⟩,λhn=>absurd (D.2.1 I) hn⟩,
  λρ u1 J ho hC D=>aCK J [(69,.b true),(71,.b true)] ⟨D.1 I,D.2.1 I,G⟩,
  λρ u1 J ho hC D=>aCK J [(72,.b true)] ⟨D.1 I,G⟩,
  λρ u1 J ho hC D=>⟨λ_=>dld ((ho 7 I).trans (S.s.ev I)) (((S.bx 1).ext hC).range 0 7 I),λhn=>absurd (D.1 I) hn⟩,
  λρ u1 J ho hC D=>⟨λ_=>Sx.dc (T:=λv w1=>∃m:aA,v=m.v∧yD w1 m) J [] trivial ((VN _).mono λe w2 ⟨m,h1,h2,h3⟩=>⟨_,h1,h3,m,I,h2⟩),λhn=>absurd (D.1 I) hn⟩,
  λρ u1 J ho hC D=>⟨λ_=>Sx.dc (T:=Rel.is (.b true)) J [(74,q.v),(75,ρ (.tmp 75))] ⟨D.1 I,I,G⟩ ((aoE (D.2.1 I) (a7.1.below hC) aw).mono λe w2 h=>⟨_,h.1,h.2,I⟩),λhn=>absurd (D.2.2.2.1 I) hn⟩,
  λρ u1 J ho hC D=>aCK J [(73,.b true),(76,.b true)] ⟨D.1 I,D.2.1 I,G⟩,
  λρ u1 J ho hC D=>aCK J [(77,.b true)] ⟨D.1 I,G⟩,
  λρ u1 J ho hC D=>⟨λ_=>aCK J [(8,.i 20)] ⟨(ho 8 I).trans (S.s.ev I),G⟩,λhn=>absurd (D.1 I) hn⟩,
  λρ u1 J ho hC D=>⟨λ_=>aCK J [(79,.i 20)] ⟨D.1 I,G⟩,λhn=>absurd (D.2.1 I) hn⟩,
  λρ u1 J ho hC D=>aCK J [(78,.b true),(80,.b true)] ⟨D.1 I,D.2.1 I,G⟩,
  λρ u1 J ho hC D=>aCK J [(81,.b true)] ⟨D.1 I,G⟩,
  λρ u1 J ho hC D=>⟨λ_=>aCK J [(9,.i 0)] ⟨(ho 9 I).trans (S.s.ev I),G⟩,λhn=>absurd (D.1 I) hn⟩,
  λρ u1 J ho hC D=>⟨λ_=>aCK J [(83,.i 0)] ⟨D.1 I,G⟩,λhn=>absurd (D.2.1 I) hn⟩,
  λρ u1 J ho hC D=>aCK J [(82,.b true),(84,.b true)] ⟨D.1 I,D.2.1 I,G⟩,
  λρ u1 J ho hC D=>aCK J [(85,.b true)] ⟨D.1 I,G⟩,
  λρ u1 J ho hC D=>⟨λ_=>aCK J [(10,.i 20)] ⟨(ho 10 I).trans (S.s.ev I),G⟩,λhn=>absurd (D.1 I) hn⟩,
  λρ u1 J ho hC D=>⟨λ_=>aCK J [(87,.i 20)] ⟨D.1 I,G⟩,λhn=>absurd (D.2.1 I) hn⟩,
  λρ u1 J ho hC D=>aCK J [(86,.b true),(88,.b true)] ⟨D.1 I,D.2.1 I,G⟩,
  λρ u1 J ho hC D=>aCK J [(89,.b true)] ⟨D.1 I,G⟩,
  λρ u1 J ho hC D=>⟨λ_=>aCK J [(1,.q bh 0)] ⟨(ho 1 I).trans (S.s.ev I),G⟩,λhn=>absurd (D.1 I) hn⟩,
  λρ u1 J ho hC D=>⟨λ_=>Sx.dc (T:=λv w1=>∃m:aA,v=m.v∧m.bg=⟨255,0,0,255⟩) J [(91,.q bh 0)] ⟨D.1 I,G⟩ ((zf ((S.bx 3).ext hC) ah (aDn a6 hC)).mono λe w2 ⟨m,h1,h2,h3,h4,h5,h6⟩=>⟨_,h1,h6,m,I,by rw[ab]at h4; exact aDc aY.bg h4⟩),λhn=>absurd (D.2.1 I) hn⟩,
  λρ u1 J ho hC D=>⟨λ_=>(by obtain⟨⟨mw,mh,mb,ma,mc,ml⟩,em,hb⟩:=(D.1 I); obtain rfl:mb=_:=hb; exact aCK J [(92,aA.v ⟨mw,mh,_,ma,mc,ml⟩)] ⟨em,G⟩),λhn=>absurd (D.2.1 I) hn⟩,
  λρ u1 J ho hC D=>⟨λ_=>dld ((ho 3 I).trans (S.s.ev I)) (((S.bx 2).ext hC).range 0 4 I),λhn=>absurd (D.1 I) hn⟩,
  λρ u1 J ho hC D=>⟨λ_=>aCK J [(93,.agg #[.u 255,.u 0,.u 0,.u 255]),(94,.agg #[.u 255,.u 0,.u 0,.u 255])] ⟨D.1 I,D.2.1 I,G⟩,λhn=>absurd (D.2.2.1 I) hn⟩,
  λρ u1 J ho hC D=>aCK J [(90,.b true),(95,.b true)] ⟨D.1 I,D.2.1 I,G⟩,
  λρ u1 J ho hC D=>aCK J [(96,.b true)] ⟨D.1 I,G⟩,
  λρ u1 J ho hC D=>⟨λ_=>aCK J [(11,.i 1)] ⟨(ho 11 I).trans (S.s.ev I),G⟩,λhn=>absurd (D.1 I) hn⟩,
  λρ u1 J ho hC D=>⟨λ_=>aCK J [(98,.i 1)] ⟨D.1 I,G⟩,λhn=>absurd (D.2.1 I) hn⟩,
  λρ u1 J ho hC D=>aCK J [(97,.b true),(99,.b true)] ⟨D.1 I,D.2.1 I,G⟩,
  λρ u1 J ho hC D=>aCK J [(100,.b true)] ⟨D.1 I,G⟩,
  λρ u1 J ho hC D=>⟨λ_=>aCK J [(12,.i 1)] ⟨(ho 12 I).trans (S.s.ev I),G⟩,λhn=>absurd (D.1 I) hn⟩,
  λρ u1 J ho hC D=>⟨λ_=>aCK J [(102,.i 1)] ⟨D.1 I,G⟩,λhn=>absurd (D.2.1 I) hn⟩,
  λρ u1 J ho hC D=>aCK J [(101,.b true),(103,.b true)] ⟨D.1 I,D.2.1 I,G⟩,
  λρ u1 J ho hC D=>aCK J [(104,.b true)] ⟨D.1 I,G⟩,
  λρ u1 J ho hC D=>⟨λ_=>aCK J [(14,.i 0)] ⟨(ho 14 I).trans (S.s.ev I),G⟩,λhn=>absurd (D.1 I) hn⟩,
  λρ u1 J ho hC D=>⟨λ_=>aCK J [(106,.i 0)] ⟨D.1 I,G⟩,λhn=>absurd (D.2.1 I) hn⟩,
  λρ u1 J ho hC D=>aCK J [(105,.b true),(107,.b true)] ⟨D.1 I,D.2.1 I,G⟩,
  λρ u1 J ho hC D=>aCK J [(108,.b true)] ⟨D.1 I,G⟩,
  λρ u1 J ho hC D=>⟨λ_=>aCK J [(16,.i 0)] ⟨(ho 16 I).trans (S.s.ev I),G⟩,λhn=>absurd (D.1 I) hn⟩,
  λρ u1 J ho hC D=>⟨λ_=>aCK J [(110,.i 0)] ⟨D.1 I,G⟩,λhn=>absurd (D.2.1 I) hn⟩,
  λρ u1 J ho hC D=>aCK J [(109,.b true),(111,.b true)] ⟨D.1 I,D.2.1 I,G⟩,
  λρ u1 J ho hC D=>aCK J [(112,.b true)] ⟨D.1 I,G⟩,
  λρ u1 J ho hC D=>⟨λ_=>aCK J [(15,.q bu 0)] ⟨(ho 15 I).trans (S.s.ev I),G⟩,λhn=>absurd (D.1 I) hn⟩,
  λρ u1 J ho hC D=>⟨λ_=>Sx.dc (T:=λv w1=>∃m:aA,v=m.v∧m.bg=⟨255,0,0,255⟩) J [(114,.q bu 0)] ⟨D.1 I,G⟩ ((zf ((S.bx 0).ext hC) Zd (aDn ae hC)).mono λe w2 ⟨m,h1,h2,h3,h4,h5,h6⟩=>⟨_,h1,h6,m,I,by rw[az]at h4; exact aDc aY.bg h4⟩),λhn=>absurd (D.2.1 I) hn⟩,
  λρ u1 J ho hC D=>⟨λ_=>(by obtain⟨⟨mw,mh,mb,ma,mc,ml⟩,em,hb⟩:=(D.1 I); obtain rfl:mb=_:=hb; exact aCK J [(115,aA.v ⟨mw,mh,_,ma,mc,ml⟩)] ⟨em,G⟩),λhn=>absurd (D.2.1 I) hn⟩,
  λρ u1 J ho hC D=>⟨λ_=>dld ((ho 3 I).trans (S.s.ev I)) (((S.bx 2).ext hC).range 0 4 I),λhn=>absurd (D.1 I) hn⟩,
  λρ u1 J ho hC D=>⟨λ_=>aCK J [(116,.agg #[.u 255,.u 0,.u 0,.u 255]),(117,.agg #[.u 255,.u 0,.u 0,.u 255])] ⟨D.1 I,D.2.1 I,G⟩,λhn=>absurd (D.2.2.1 I) hn⟩,
  λρ u1 J ho hC D=>aCK J [(113,.b true),(118,.b true)] ⟨D.1 I,D.2.1 I,G⟩,
  λρ u1 J ho hC D=>aCK J [(119,.b true)] ⟨D.1 I,G⟩,G⟩ (λac u cn S=>?_) I
 refine zdF S 58 λS=>aCB S (.b true) (λS=>?_);exact⟨I,S.E⟩
end
section
abbrev wu.toEnd{h:HK}:∀(L:List bI) {n:HK} {i:Nat},wu h i n->i<=(h.es.take h.k).length->(h.es.take h.k).drop i=L->wu h (h.es.take h.k).length h.compact:=by
 intro L;induction L with
 | nil =>
  intro n i c D J;have D:i=(h.es.take h.k).length:=Nat.le_antisymm D (List.drop_eq_nil_iff.1 J);rw[<-c.fin D,<-D]; exact c
 | cons e r ih =>
  intro n i c D J;have S:(h.es.take h.k)[i]?=some e:=by have:=aDc (λl=>l[0]?) J; simpa using this
  have hr:=J;rw[uK S,aDP]at hr;have D:=(List.getElem?_eq_some_iff.1 S).1;cases hf:(h.es.take h.k)[i+1]? with
  | none=>exact ih (c.put S λf J=>by rw[hf]at J; cases J).1 D hr.2
  | some f =>
   by_cases ho:f.over e=true
   .exact ih (c.skip S hf ho) D hr.2
   exact ih (c.put S λg J=>by rw[hf]at J; cases J; simpa using ho).1 D hr.2
abbrev HK.Ok.cmp{h:HK}(o:h.Ok):h.compact.Ok∧h.compact.k=h.compact.es.length∧h.compact.es.length<=h.es.length∧h.compact.now=h.now∧h.compact.ss[0]?=h.ss[0]?:=by
 have c:=(wu.start o).toEnd _ (aDl _) I;have hl:(h.es.take h.k).length=h.k:=by rw[aD4,aEW o.k]
 have D:=c.st.fin I;have J:=c.st.le;rw[hl]at D J;rw[o.at,aDe]at D;exact⟨c.st.ok,c.st.k,aDy J o.k,D.symm,c.st.s0⟩
abbrev HK.Ok.step{h:HK}(o:h.Ok)(d:Int)(e:bI):(h.step d e).1.Ok:=by
 unfold HK.step;split
 .exact o.undo
 split
 .exact o.redo
 exact o.app e
abbrev HK.Ok.aj8{h:HK}(o:h.Ok)(d:Int)(e:bI):(h.step d e).1.ss[0]?=h.ss[0]?∧(h.step d e).1.es.length<=h.es.length+1:=by
 have hl:=o.hs.len;unfold HK.step;split
 .unfold HK.undo; split<;>exact⟨I,Nat.le_succ _⟩
 split
 .unfold HK.redo; split<;>exact⟨I,Nat.le_succ _⟩
 unfold HK.app;split
 .exact⟨I,Nat.le_succ _⟩
 unfold HK.put;split
 .have hk:=o.k;refine⟨?_,by show(h.es.take h.k++[e]).length<=_; simp; omega⟩;show(h.ss.take (h.k+1)++[_])[0]?=_;rw[List.getElem?_append_left (by simp; omega),List.getElem?_take_of_lt Z]
 exact⟨I,Nat.le_succ _⟩
abbrev HK.Ok.steps{h:HK}(o:h.Ok)(l:List jd):(h.steps l).Ok∧(h.steps l).ss[0]?=h.ss[0]?∧(h.steps l).es.length<=h.es.length+l.length:=by
 induction l generalizing h with
 | nil=>exact⟨o,I,aDd _⟩
 | cons x l ih =>
  obtain⟨D,J,S⟩:=ih (o.step x.d x.e.key);obtain⟨h4,h5⟩:=o.aj8 x.d x.e.key;exact⟨D,J.trans h4,by simp only[aDU]; exact aDy S Z⟩
abbrev HK.ahm{s:aY}(D:s.valid=true):HK.Ok ⟨[s],[],0⟩:=⟨Hs.new D,aDd _,aDl _⟩
def HK.back(h:HK)(i:Nat):HK:=⟨h.ss,h.es,h.k-i⟩
abbrev HK.adt{h:HK}{i:Nat}(D:i<h.k):(h.back i).undo=(h.back (i+1),0):=by
 unfold HK.undo;rw[aC9 (show ¬(h.back i).k=0 from by show ¬h.k-i=0; omega)];unfold HK.back;simp only[Nat.sub_sub]
abbrev K20{h:HK}{s:aY}(D:h.ss[0]?=some s):(h.back h.k).now=s∧(h.back h.k).undo=(h.back h.k,20):=by
 have:(h.back h.k).k=0:=aE5 _;refine⟨?_,aDb this⟩;unfold HK.now;rw[this];show(h.ss[0]?).getD _=s;rw[D]; rfl
end
section
open Go.RowKit En Go.Sx Go.Rel
variable{K:Nat}
abbrev zu:ApC λ_=>True:=λh J S hl D _=>Vx h J S hl D
abbrev aA.ok.below{w w':VO}{s:aA}(h:s.ok w)(D:Ext w w'):s.ok w':=⟨h.1,h.2.1,h.2.2.1.below D,λn hn=>(h.2.2.2 n hn).below D⟩
abbrev alq{w:VO}{m:aA}{v:aaT}{κ:aY}(h:∃t:aA,v=t.v∧dw 5000 w t∧t.key=κ)(S:dw K w m)(hK:K<=5000)(hk:m.key=κ) :
  abB prog 16 #[v,m.v] w (VH w (.b true)):=by
 obtain⟨t,rfl,J,D⟩:=h;exact KH (Gf J (S.up hK O)) (by rw[hk,D]; simp)
abbrev tN{w:VO}{s:aA}{l:List jd}{a:Option aGk}{cap:Nat}(J:s.ok w)(ae:aI 56 jd.cells w (.s a l.length cap) l)(hx:∀x∈l,x.ok w)(hg:bT w) :
  abB prog 7 #[s.v,.s a l.length cap] w (VH w (.b true)):=by
 have D:l.length<=9223372036854775807:=ae.len;refine aCG func7 ntmps7 λS=>aCF S λu b2 E3 D S=>adr S 3 [] [.M 0 0] λS=>aCQ S (VE ⟨J.2.2.1.below S.E,λn hn=>(J.2.2.2 n hn).below S.E⟩ (ae.below S.E) (λx aa=>(hx x aa).2.2.2.2.2.below S.E)) λu D S=>aCD S (!(vY s l)) (λD S=>?_) (λD S=>?_)
 .refine aCQ S (EY (P:=λ_=>True) zu (λ_ _=>G) (bT.below hg S.E)) λu Pv S=>aCB S (.b true) (λS=>?_);exact⟨I,S.E⟩
 have hL:vY s l=true:=by simpa using D
 obtain⟨h1,h2,h3⟩:=Zg hL;cases hv:s.key.valid
 .refine adr S 2 [] [.M 0 0] λS=>aCQ S (aoC (lv := .s a l.length cap) h1 (J.below S.E) (bT.below hg S.E) hv) λu D S=>aCM S λS=>aCQ S (EY (P:=λ_=>True) zu (λ_ _=>G) (bT.below hg S.E)) λu D S=>aCB S (.b true) (λS=>?_);exact⟨I,S.E⟩
 obtain⟨ho,ar⟩:=K19 h1 J (Kz hv);have D:=λp hp=>(S.own p hp).1.1;have jw:=S.E.size;obtain⟨c0,a8⟩:∃z:Nat,z=u.heap.size:=⟨_,I⟩;refine adr S 2 [] [.M 0 0] λS=>aCR S (adi (P:=λ_=>True) zu (ho.below S.E) ar (bT.below hg S.E) hv (ae.below S.E) (λx aa=>⟨(step_ok (h3 x aa) (hx x aa)).1.below S.E,(step_ok (h3 x aa) (hx x aa)).2,G⟩)) ?_;rintro e u ⟨bh,H1,rfl,aw,bj,af,ab,bk,yP⟩;rw[<-a8]at aw af D jw;refine⟨_,I,yP,λS=>?_⟩;have S:=S.fl;have S:=S.adopt (A:=H1.cells) bj Z (λp hp=>by have:=D p hp; omega) (λm hm=>by cases hm);refine aCT S (λS=>?_);have ci:=(S.bx 0).1;have cj:=(S.bx 1).1;refine aCR S (zf (S.kD 0) ab af) ?_;rintro e u ⟨q,rfl,bm,bo,bp,bq,xH⟩;have WX:=ahl bm bo bq;refine⟨_,I,xH,λS=>?_⟩;refine aCF S λu ah WI Yh S=>aCH S 0 I (λu WC S=>?_);have PS:=aCI (K00 xH WI) WC (by have:=xH.size; omega);have az:=aCI WI WC;have S:=S.fl;refine aCL S 1 I (Ry (P:=λ_=>True) zu S.E (S.bx 1) (S.old 1) aw ab ((aDn af PS)) (λ_ _=>G) hg) ?_;rintro e u ⟨H2,rfl,br,ag,ax,bs,am,bt⟩;refine⟨_,_,I,bs,am,bt,λS=>?_⟩;obtain⟨g1,g2,g3,g4,g5⟩:=ab.k.cmp;rw[<-br]at g1 g2 g3 g4 g5;obtain⟨f1,f2,f3⟩:=(HK.ahm hv).steps l;rw[<-bk]at f1 f2 f3;have aq:H2.key.ss[0]?=some s.key:=g5.trans f2;obtain⟨kk,ai⟩:∃z,H2.key.k=z:=⟨_,I⟩;have a3:H2.key.es.length=kk:=g2.symm.trans ai;have ck:kk<=l.length:=by have:H1.key.es.length<=0+l.length:=f3; omega
 have qH:=(Sx.On.ch ((aDn af PS)) am Z);have Qi:=(Sx.On.ch ((aDn WX az)) am Z);refine aCR S (EW (S.kD 1) ag ax (bT.below hg S.E)) ?_;rintro e u ⟨vb,rfl,bv,JB⟩;refine⟨_,I,JB,λS=>?_⟩;have D:=λp hp=>(S.own p hp).1.1;have jw:=S.E.size;have a4:=aDB ((aDn ax JB));obtain⟨c1,a9⟩:∃z:Nat,z=u.heap.size:=⟨_,I⟩;refine aCR S (OV (P:=λ_=>True) zu (λ_ _=>G) (rowB bv) ag O a4 (bT.below hg S.E)) ?_;rintro e u ⟨bu,A02,rfl,an,bw,ao,Zd,ap,WA⟩;rw[<-a9]at an ao D jw;refine⟨_,I,WA,λS=>?_⟩;have S:=S.adopt (A:=A02.cells) bw Z (λp hp=>by have:=D p hp; omega) (λm hm=>by cases hm);have a5:=ao;have a6:=aDB ((aDn Qi (K00 JB WA)));have S:=S.fl;refine WL S f7 10 (λS D=>?_);have S:=S.sub [(0,s.v),(1,.s a l.length cap),(2,.q b2 0),(4,.z),(5,.q bh 0),(6,.q ah 0),(7,vb),(8,.i 0),(9,.q bu 0),(10,.i 0)];refine aaF S 17 [Rel.is (.i 0),Rel.is (.z),Rel.is (.z),Rel.is (.i 0),Rel.is (.z),Rel.is (.z),Rel.is (.z),Rel.is (.q bu 0),Rel.is (.z),Rel.is (.z),Rel.is (.z),Rel.is (.q bu 0),(λv w1=>∃t:aA,v=t.v∧dw 5000 w1 t∧t.key=H1.key.now),Rel.is (q.v),Rel.is (.b true),Rel.is (.z),Rel.is (.z)] 16 54 (.z) ⟨aB _,aB _,aB _,aB _,aB _,aB _,aB _,aB _,aB _,aB _,aB _,aB _,λ_ _ _ k h=>by obtain⟨t,e,h1,h2⟩:=h; exact⟨t,e,h1.below k,h2⟩,aB _,aB _,aB _,aB _,G⟩ ⟨λρ u1 J ho hC D=>aCK J [(8,.i 0)] ⟨(ho 8 I).trans (S.s.ev I),G⟩,
  λρ u1 J ho hC D=>aCK J [(38,.i 0)] ⟨D.1 I,G⟩,
  λρ u1 J ho hC D=>aCK J [(39,.z)] ⟨D.1 I,G⟩,
  λρ u1 J ho hC D=>⟨λ_=>aCK J [(10,.i 0)] ⟨(ho 10 I).trans (S.s.ev I),G⟩,λhn=>absurd (D.1 I) hn⟩,
  λρ u1 J ho hC D=>⟨λ_=>aCK J [(41,.i 0)] ⟨D.1 I,G⟩,λhn=>absurd (D.2.1 I) hn⟩,
  λρ u1 J ho hC D=>aCK J [(40,.z),(42,.z)] ⟨D.1 I,D.2.1 I,G⟩,
  λρ u1 J ho hC D=>aCK J [(43,.z)] ⟨D.1 I,G⟩,
  λρ u1 J ho hC D=>⟨λ_=>aCK J [(9,.q bu 0)] ⟨(ho 9 I).trans (S.s.ev I),G⟩,λhn=>absurd (D.1 I) hn⟩,
  λρ u1 J ho hC D=>⟨λ_=>aCK J [(45,.q bu 0)] ⟨D.1 I,G⟩,λhn=>absurd (D.2.1 I) hn⟩,
  λρ u1 J ho hC D=>aCK J [(44,.z),(46,.z)] ⟨D.1 I,D.2.1 I,G⟩,
  λρ u1 J ho hC D=>aCK J [(47,.z)] ⟨D.1 I,G⟩,
  λρ u1 J ho hC D=>⟨λ_=>aCK J [(9,.q bu 0)] ⟨(ho 9 I).trans (S.s.ev I),G⟩,λhn=>absurd (D.1 I) hn⟩,
  λρ u1 J ho hC D=>⟨λ_=>Sx.dc (T:=λv w1=>∃t:aA,v=t.v∧dw 5000 w1 t∧t.key=H1.key.now) J [(49,.q bu 0)] ⟨D.1 I,G⟩ ((zf ((S.bx 0).ext hC) Zd (aDn a5 hC)).mono λe w2 ⟨m,h1,h2,h3,h4,h5,h6⟩=>⟨_,h1,h6,m,I,h3,by rw[ap,g4]at h4; exact h4⟩),λhn=>absurd (D.2.1 I) hn⟩,
  λρ u1 J ho hC D=>⟨λ_=>dld ((ho 6 I).trans (S.s.ev I)) (((S.bx 1).ext hC).range 0 7 I),λhn=>absurd (D.1 I) hn⟩,
  λρ u1 J ho hC D=>⟨λ_=>Sx.dc (T:=Rel.is (.b true)) J [(50,ρ (.tmp 50)),(51,q.v)] ⟨I,D.2.1 I,G⟩ ((alq (D.1 I) (a6.1.below hC) O bp).mono λe w2 h=>⟨_,h.1,h.2,I⟩),λhn=>absurd (D.2.2.2.1 I) hn⟩,
  λρ u1 J ho hC D=>⟨λ_=>aCK J [(52,.b true)] ⟨D.1 I,G⟩,λhn=>absurd (D.2.1 I) hn⟩,
  λρ u1 J ho hC D=>aCK J [(48,.z),(53,.z)] ⟨D.1 I,D.2.1 I,G⟩,G⟩ (λac u Gs S=>?_) I
 refine zdF S 17 λS=>aCT S λS=>aCQ S (alp (S.kD 0) ap ai a3) λu D S=>adr S 14 [64,65,66,67] [.re 62 (.b ((kk:Int) != (kk:Int))) (.z),.re 67 (.b ((l.length:Int)<(kk:Int))) (.z)] (hk:=⟨(aDc Value.b Y),(aDc Value.b (aER Z)),G⟩) λS=>aCT S λS=>aCZ S (ι:=Nat×HD) (λp J w'=>(p.2.key=H2.key.back p.1∧p.2.Ok 5000∧p.2.mem 5000 c1 bu w'∧p.1<=kk)∧Sx.St w J w' 88 [(0,s.v),(1,.s a l.length cap),(2,.q b2 0),(4,.z),(5,.q bh 0),(6,.q ah 0),(7,vb),(8,.i 0),(9,.q bu 0),(10,.i 0),(11,.i kk),(12,.i kk),(69,.i kk),(70,.i p.1)] [(bu,p.2.cells),(ah,q.cells),(bh,H2.cells),(b2,s.cells)] []) (λp=>kk-p.1) (0,A02) (λS=>⟨⟨ap,Zd,((aDn ao (K00 Gs D))),aDl _⟩,S.qc⟩) ?_;rintro⟨i,G2⟩ ac u gJ dW hI;try dsimp only at hI
 obtain⟨hR,S⟩:=hI;refine aC0 S (λS=>?_);obtain⟨D,J,al,cm⟩:=hR;have jw:=S.E.size;refine aCD S (decide ((i:Int)<(kk:Int))) (λI8 S=>?_) (λI8 S=>?_)
 .have hi:i<kk:=by have:=aDw I8; omega
  have S:=S.fl;refine aCL S 0 I (KC S.E (S.bx 0) (S.old 0) an J al) ?_;rintro e u ⟨G3,cd,rfl,bz,KD,UK,ca,cb,cc⟩;obtain⟨bb,rfl⟩:=aFt (bz.trans (show _=((H2.key.back (i+1):HK),(0:Int))from by rw[D]; exact HK.adt (by rw[ai]; exact hi)));refine⟨_,_,I,ca,cb,cc,λS=>?_⟩;refine aCT S λS=>adr S 2 [] [.re 75 (.i (IntKind.i64.wrap ((i:Int)+1))) (.i (i+1:Nat))] (hk:=⟨(aCS Z),G⟩) λS=>aCY S gJ (λS=>?_);exact dW _ _ ((i+1),G3) ⟨⟨bb,KD,UK,hi⟩,S.qc⟩ (by show kk-(i+1)<kk-i; omega)
 have a7:i=H2.key.k:=by have:=aDA I8; omega
 rw[a7]at D;refine jm S 3 [(77,λv w1=>∃t:aA,v=t.v∧dw 5000 w1 t∧t.key=s.key)] (λr=>[.M 3 0]) (λx=>[x 77]) (λx=>[(_,_,true,x 77,77)]) [[]] (λx=>[(77,x 77),(78,s.v)]) ⟨λ_ _ _ k h=>by obtain⟨t,e,h1,h2⟩:=h; exact⟨t,e,h1.below k,h2⟩,G⟩ (λx=>⟨by intro u hC g F; exact(zf ((S.kD 0).ext hC) J ((aDn al hC))).mono λe w2 h=>by obtain⟨t,rfl,cn,bc,av,co,hb⟩:=h; exact⟨_,I,⟨t,I,bc,by rw[D]at av; exact av.trans (K20 aq).1⟩,hb⟩,G⟩) (λu x Xz F S=>?_);obtain⟨bd,-⟩:=F;obtain⟨t,et,be,bg⟩:=bd;rw[et]at S;try rw[et]
 refine aCQ S (alq ⟨t,I,be,bg⟩ (ho.below S.E) O I) λu ay S=>adr S 2 [81,83] [] (λS=>?_);have S:=S.fl;refine aCO S λS=>ag3 S 0 (some 82) I (KC S.E (S.kD 0) (S.old 0) an J ((aDn al (K00 Xz ay)))) ?_;rintro e u ⟨G4,cd,rfl,J,ct,cu,ce,cf,cg⟩;obtain⟨cq,rfl⟩:=aFt (J.trans (show _=((H2.key.back H2.key.k:HK),(20:Int))from by rw[D]; exact(K20 aq).2));refine⟨_,_,I,ce,cf,cg,λac S=>?_⟩;refine WM S λS=>adr S 3 [81,83] [] λS=>aCO S λS=>Yq S (some 86) (EY (P:=λ_=>True) zu (λ_ _=>G) (bT.below hg S.E)) ?_;rintro e u ⟨rfl,D⟩;refine⟨_,I,D,λac S=>?_⟩;refine WM S λS=>adr S 2 [81,83] [] λS=>aCB S (.b true) (λS=>?_);exact⟨I,S.E⟩
