/- Package scene: what it asks of -/
import Derived.Test.YtodpgjjgaddkeaaGreatDoorPk11
set_option maxRecDepth 100000
set_option maxHeartbeats 9999999
open Go renaming World->E5,Value->y9,Calls->Nq,TypeId->Ð
set_option linter.unusedVariables false
set_option linter.unusedSimpArgs false
namespace Go.Proofs.Õ
open _root_.Go.Proofs.Tryz
section
open Go.RowKit Go.Sx
variable{α:Type}{K:Nat}
abbrev keys (l:List aj):List aO:=l.map aj.key
variable{w w1:E5}{v:y9}{k base i c b0 n o cap t:Nat}{a a1 a2:Option Addr}{z id:Int}{pre:List aO}{f:α->List y9}{l:List UInt8}{s:bG}{M q:List α}{cs:List y9}
abbrev pJ{l:List aj}(h:i<l.length):EI (keys l) i=l[i].depth:=by
 rw[Dp (by simpa using h)]; simp[keys,aj.key]
abbrev ae5(h:0<=z):∃i:Nat,z=(i:Int):=⟨z.toNat,Z⟩
abbrev ae6{l:List aj}(hk:k<l.length)(h:l[k].id=id)(J:∀(j:Nat) (D:j<l.length),j<k->l[j].id≠id):nU (keys l) id=(k:Int):=by
 have:jT (keys l) id=some k:=by
  unfold jT;rw[List.findIdx?_eq_some_iff_getElem];refine⟨by simpa using hk,by simpa[keys,aj.key]using h,λj D=>?_⟩;have:=J j Z D;simpa[keys,aj.key]using this
 unfold nU; rw[this]
abbrev XI{l:List aj}(S:∀(j:Nat) (J:j<l.length),l[j].id≠id):nU (keys l) id = -1:=by
 have:jT (keys l) id=none:=by
  unfold jT;rw[List.findIdx?_eq_none_iff];intro κ D;obtain⟨n,hn,rfl⟩:=ô.1 D;obtain⟨j,J,rfl⟩:=List.getElem_of_mem hn;simpa[aj.key]using S j J
 unfold nU; rw[this]
abbrev abU{l:List aj}(hk:k<l.length)(J:∀(j:Nat) (D:j<l.length),j<k->l[j].id≠id)(h:l[k].id≠id):∀(j:Nat) (D:j<l.length),j<k+1->l[j].id≠id:=λj D S=>by
 by_cases e:j=k
 .subst e; exact h
 exact J j D Z
abbrev ae7(h:((((decide (s.w<1))||(decide (256<s.w)))||(decide (s.h<1)))||(decide (256<s.h)))=true):s.chk=(6,0):=by
 unfold bG.chk;rw[Á (by simpa[or_assoc]using h)]
abbrev uK(h:((((decide (s.w<1))||(decide (256<s.w)))||(decide (s.h<1)))||(decide (256<s.h)))=false):s.chk=if 64<s.ns.length then (5,64)else jk [] s.ns:=by
 unfold bG.chk;rw[UQ (by simpa[or_assoc,and_assoc]using h)]
abbrev Jc{l:List aO}(hk:k<l.length):jk (l.take k) (l.drop k)=if jq (l.take k) l[k]=0 then jk (l.take (k+1)) (l.drop (k+1))else (jq (l.take k) l[k],(k:Int)):=by
 rw[ń hk,ĸ hk];conv=>lhs; unfold jk
 rw[Ĳ,Ε Z]
abbrev Jd{l:List aj}(hk:k<l.length){x:aj}(D:l[k]=x):(keys l)[k]'(by simpa using hk)=x.key:=by simp[keys,D]
abbrev Ql(l:List aj)(k:Nat)(id:Int):((l.take k).map aj.id).any (· == id)=((keys l).take k).any λκ=>κ.id==id:=by
 rw[<-List.map_take,List.any_map,List.any_map]; rfl
structure xP (l:List aj) (k:Nat) (m:Int):Prop where
 all:jk [] (keys l)=jk ((keys l).take k) ((keys l).drop k)
 room:m=FM ((keys l).take k)
abbrev xP.start(l:List aj):xP l 0 0:=⟨by simp,I⟩
abbrev xP.bad{l:List aj}{k:Nat}{m n:Int}{x:aj}(h:xP l k m)(hk:k<l.length)(D:l[k]=x)(hw:jq ((keys l).take k) x.key=n)(hn:n≠0):jk [] (keys l)=(n,(k:Int)):=by
 rw[h.all,Jc (by simpa using hk),Jd hk D,hw,UQ hn]
abbrev xP.next{l:List aj}{k:Nat}{m D:Int}{x:aj}(h:xP l k m)(hk:k<l.length)(J:l[k]=x)(hw:jq ((keys l).take k) x.key=0)(S:D=if x.kind=1 then x.depth+1 else x.depth):xP l (k+1) D:=by
 have D:k<(keys l).length:=by simpa using hk
 refine⟨?_,?_⟩
 .rw[h.all,Jc D,Jd hk J,hw,Á I]
 rw[ĸ D,XG,Jd hk J,S]; rfl
abbrev xP.done{l:List aj}{k:Nat}{m:Int}(h:xP l k m)(hk:l.length<=k):jk [] (keys l)=(0,0):=by
 rw[h.all,Ō (by simpa using hk)]; rfl
abbrev XJ{x:aj}(h:x.checkN≠0):jq pre x.key=x.checkN:=by rw[<-kY]at h |-; exact Ja h
abbrev abV{x:aj}(h:x.checkN=0)(D:pre.any (λκ=>κ.id==x.id)=true):jq pre x.key=7:=by
 unfold jq;rw[kY,h,UQ Y,Á (show(pre.any λκ=>κ.id==x.key.id)=true from D)]
abbrev TY{x:aj}(h:x.checkN=0)(D:pre.any (λκ=>κ.id==x.id)=false)(J:FM pre<x.depth):jq pre x.key=17:=by
 unfold jq;rw[kY,h,UQ Y,UQ (by rw[show x.key.id=x.id from rfl,D]; simp),UQ (by show ¬x.depth<=_; omega)]
abbrev Ua{x:aj}(h:x.checkN=0)(D:pre.any (λκ=>κ.id==x.id)=false)(J:x.depth<=FM pre):jq pre x.key=0:=by
 unfold jq;rw[kY,h,UQ Y,UQ (by rw[show x.key.id=x.id from rfl,D]; simp),Á (by exact J)]
abbrev abW(w:E5):(zeroValue 4).run prog w = .ok (.z) w:=oI X
abbrev Oe{l:List aj}(h:aG 47 aj.cells w v l)(D:i<l.length)(J:z=(i:Int)){r:Nat}(hr:r=kH (keys l) i) :
  Nq prog 148 #[v,.i z] w (Ï w (.i r)):=by
 subst J hr;obtain⟨a,cap,rfl⟩:=h.shape;have J:l.length<=9223372036854775807:=h.len;refine Ņ func148 ntmps148 λac S=>YJ λ_ J=>Rf S 1 [] [(4,.i 0)] λS=>Rh<|J _ _<|YJ λ_ Og=>Rf S 3 [kS 7 i] [(5,.i (i+1:Nat))] (hk:=⟨ù Z,G⟩) λS=>Rh<|Og _ _<|Ô λ_ κ3=>Ě ?_;refine Vp.loop (ι:=Nat) (λp J w'=>(i<p∧p<=l.length∧∀j,i<j->j<p->EI (keys l) i<EI (keys l) j)∧Sx.St w J w' 28 [(0,.s a l.length cap),(1,.i i),(4,.i 0),(5,.i p)] [] []) (λp=>l.length-p) ((i+1)) ⟨⟨Z,Z,λj h1 h2=>by omega⟩,S.sn⟩ ?_;rintro k ac u hI;try dsimp only at hI
 obtain⟨J,S⟩:=hI;refine Ô λ_ Ζ=>Ô λ_ Bz=>?_;rcases ĩ k l.length with hk | hk
 .have ek:decide ((k:Int)<(l.length:Int))=true:=ņ Z;obtain⟨b1,o1,c1,aa,ah,ab⟩:=Vp.lQ h (λ_=>I) i D;simp only[Ĉ,true_and]at aa;obtain⟨rfl,rfl⟩:=aa;obtain⟨b2,o2,c2,ae,ai,af⟩:=Vp.lQ h (λ_=>I) k hk;simp only[Ĉ,Æ,Ŵ,true_and,and_true]at ae;obtain⟨⟨rfl,rfl⟩,rfl⟩:=ae;obtain⟨x,hx⟩:∃z,l[i]=z:=⟨_,I⟩;rw[hx]at ab;obtain⟨y,hy⟩:∃z,l[k]=z:=⟨_,I⟩;rw[hy]at af;have S:=S.view0 ah ab;have S:=S.view0 ai af;refine š S 17 [.re 11 (.b ((k:Int)<(l.length:Int))) (.b true),.idx k l.length,.M 0 2,.idx i l.length,.M 1 2] [] [(24,.b (x.depth<y.depth))] trivial (hk:=⟨(Ñ Value.b ek),hk,D,G⟩) λac u E6 S=>Rh (Bz _ _ ?_);refine Ā S (λmO=>?_) (λmO=>?_)
  .refine ú<|Ζ _ _<|Ě<|į<|Rf S 3 [kS 26 k] [(5,.i (k+1:Nat))] (hk:=⟨ù Z,G⟩) λS=>Rh ?_;show ∃i',_∧_;exact⟨(k+1),⟨⟨Z,Z,λj h1 h2=>by
    by_cases e:j=k
    .subst e; rw[pJ D,pJ hk,hx,hy]; have:=Ý mO; omega
    exact J.F j h1 Z⟩,S.sn⟩,by show l.length-(k+1)<l.length-k; omega⟩
  refine Ļ<|κ3 _ _<|YJ λ_ BA=>Rf S 2 [] [(4,.i k)] λS=>Rh<|BA _ _<|Qm S results148 ?_;have he:kH (keys l) i=k:=by
   rw[I8 (by simpa using D)];exact aan (by simpa using D) J.1 (by simpa using J.2.1) J.F (λhk=>by rw[pJ D,pJ (by simpa using hk),hx,hy]; have:=é mO; omega)
  exact⟨by rw[he],S.E⟩
 have ek:decide ((k:Int)<(l.length:Int))=false:=Ŝ Z;refine š S 17 [.re 11 (.b ((k:Int)<(l.length:Int))) (.z),.dead 13 (.z),.dead 14 (.z),.dead 15 (.z),.dead 16 (.z),.dead 17 (.z),.dead 18 (.z),.dead 19 (.z),.dead 20 (.z),.dead 21 (.z),.dead 22 (.z),.dead 23 (.z)] [] [(24,.z)] trivial (hk:=⟨(Ñ Value.b ek),G⟩) λac u E9 S=>Rh<|Bz _ _<|FH S<|Ļ<|κ3 _ _<|YJ λ_ xQ=>Rf S 2 [] [(4,.i k)] λS=>Rh<|xQ _ _<|Qm S results148 ?_;have he:kH (keys l) i=k:=by
  rw[I8 (by simpa using D)];exact aan (by simpa using D) J.1 (by simpa using J.2.1) J.F (λag=>by simp at ag; omega)
 exact⟨by rw[he],S.E⟩
abbrev Je{l:List aj}(h:aG 47 aj.cells w v l) :
  Nq prog 145 #[v,.i id] w (Ï w (.i (nU (keys l) id))):=by
 obtain⟨a,cap,rfl⟩:=h.shape;have D:l.length<=9223372036854775807:=h.len;refine Ä func145 ntmps145 λS=>ĉ S (ι:=Nat) (λp D w'=>p<=l.length∧(∀(j:Nat) (hj:j<l.length),j<p->l[j].id≠id)∧Sx.St w D w' 20 [(0,.s a l.length cap),(1,.i id),(4,.i 0),(7,.s a l.length cap),(8,.i l.length),(9,.i p)] [] []) (λp=>l.length-p) (0) (λS=>⟨Î _,λj hj h=>by omega,S.qC⟩) ?_;rintro k J u fQ eu D;try dsimp only at D
 obtain⟨hk,hR,S⟩:=D;refine Ċ S λS=>À S (decide ((k:Int)<(l.length:Int))) (λJ S=>?_) λJ S=>?_
 .have gV:k<l.length:=by have:=Ý J; omega
  obtain⟨b9,ab,rfl,aa,jU,D,vK⟩:=ý h (λ_=>I) (k) gV;have S:=S.view0 D vK;refine O1 S 3 [] [.idx k l.length,.M 0 0] (hk:=⟨gV,G⟩) λS=>Â S λu D zU BD S=>É S 0 I λu D S=>O1 S 4 [] [.M 0 0] λS=>À S ((aa.id)==id) (λD S=>?_) λD S=>?_
  .refine Xe S (.i k) λS=>?_;exact⟨by rw[ae6 gV (by rw[jU]; simpa using D) hR],S.E⟩
  refine O1 S 2 [] [kS 19 k] (hk:=⟨ù Z,G⟩) λS=>ċ S fQ λS=>?_;exact eu _ _ (k+1) ⟨Z,(abU gV hR (by rw[jU]; simpa using D)),(S.gK 1).qC⟩ (by show _-_<_-_; omega)
 refine Xe S (.i (-1)) λS=>?_;have hk:=é J;exact⟨by rw[XI (λj hj=>hR j hj Z)],S.E⟩
abbrev ae8{l:List aj}{x:aj}(hk:k<l.length)(D:l[k]=x):(l.take k).map aj.id++[x.id]=(l.take (k+1)).map aj.id:=by
 rw[ĸ hk,Ħ,D]; rfl
abbrev FP{s:aB}(h:bQ K w s)(hg:bU w) :
  Nq prog 83 #[s.v] w (Ï w (.tuple #[.i s.key.chk.1,.i s.key.chk.2])):=by
 have D:s.ns.length<=9223372036854775807:=h.D.len;refine Ņ func83 ntmps83 λac S=>?_;obtain⟨a,cap,es⟩:∃a c,s.s = .s a s.ns.length c:=⟨_,_,I⟩;have hr:=h.D;rw[es]at hr;refine YJ λ_ D=>Ė S 1 s.cells λac u b2 E3 J S=>Rf S 2 [] [(2,.i 0),(3,.i 0)] λS=>Rh<|D _ _<|Ô λ_ J=>YJ λ_ D=>Rf S 18 [.M 0 0,.M 0 0,.M 0 1,.M 0 1] [(26,.b ((((decide (s.w<1))||(decide (256<s.w)))||(decide (s.h<1)))||(decide (256<s.h))))] λS=>Rh (D _ _ ?_);refine Ā S (λmO=>?_) λmO=>?_
 .refine YJ λ_ D=>Rf S 2 [] [(2,.i 6),(3,.i 0)] λS=>Rh<|D _ _<|rt2 S results83 ?_;exact⟨by rw[ae7 (s:=s.key) mO],S.E⟩
 refine ú<|J _ _<|Ô λ_ D=>YJ λ_ J=>Rf S 4 [.M 0 6,.re 28 s.s (.s a s.ns.length cap)] [(30,.b (64<(s.ns.length:Int)))] (hk:=⟨es,G⟩) λS=>Rh (J _ _ ?_);refine Ā S (λfJ=>?_) λfJ=>?_
 .refine YJ λ_ J=>Rf S 2 [] [(2,.i 5),(3,.i 64)] λS=>Rh<|J _ _<|ğ ?_;have hq:=uK (s:=s.key) mO;rw[show s.key.ns=keys s.ns from rfl,ĭ]at hq;refine MP S results83 ?_;exact⟨by rw[hq,Á (by have:=Ý fJ; omega)],S.E⟩
 refine ú<|D _ _<|YJ λ_ J=>?_;have D:=S.E.size;have D:=(S.bx 0).1;refine auI S 31 λac u b E0 hb D S=>?_;have R:=Č S;have ae:w.heap.size<=b∧b≠b2:=⟨Z,Z⟩;have MQ:Sx.Ow _ (Ob [(b2,s.cells)] []) (λW=>mP prog 3 4 W b []) _:=Τ (TW (D _ _)) λi hi=>by subst hi; exact⟨ae.1,by simpa[Ob]using ae.2⟩
 refine Rf S 1 [] [(4,.map (some b))] λS=>Rh<|J _ _<|YJ λ_ D=>Rf S 1 [] [(5,.i 0)] λS=>Rh<|D _ _<|Ô λ_ Ey=>YJ λ_ D=>Rf S 4 [.M 0 6,.re 33 s.s (.s a s.ns.length cap)] [(33,.s a s.ns.length cap),(34,.i s.ns.length),(35,.i 0)] (hk:=⟨es,G⟩) λS=>Rh<|D _ _<|Ě ?_;refine Vp.loop (ι:=Nat×Int) (λp D w'=>p.1<=s.ns.length∧(xP s.ns p.1 p.2)∧Rw w w' [(b2,s.cells)] []∧Sx.Ow w.heap.size (Ob [(b2,s.cells)] []) (λW=>mP prog 3 4 W b ((s.ns.take p.1).map aj.id)) w'∧Sx.St w D w' 67 [(0,s.v),(1,.q b2 0),(2,.i 0),(3,.i 0),(4,.map (some b)),(5,.i p.2),(33,.s a s.ns.length cap),(34,.i s.ns.length),(35,.i p.1)] [(b2,s.cells)] []) (λp=>s.ns.length-p.1) (0,0) ⟨Î _,xP.start _,R,MQ,S.sn⟩ ?_;rintro⟨k,m⟩ ac u hI;try dsimp only at hI
 obtain⟨hk,hR,R,Ad,S⟩:=hI;refine YJ λ_ D=>Rf S 1 [] [(36,.b ((k:Int)<(s.ns.length:Int)))] λS=>Rh<|D _ _<|Ô λ_ J=>?_;refine Ā S (λab=>?_) λab=>?_
 .refine ú<|J _ _<|Ô λ_ ag=>Ě<|YJ λ_ J=>?_;have D:=(æ (Ad)).lt;have mM:k<s.ns.length:=by have:=Ý ab; omega
  obtain⟨a7,a8,rfl,D,rF,ML,Qe⟩:=ý hr (λ_=>I) (k) mM;have al:=h.N _ (rF▸ò mM);have S:=S.view0 ML Qe;refine Rf S 3 [.idx k s.ns.length,.M 1 0] [(37,.i k),(39,D.v)] (hk:=⟨mM,G⟩) λS=>Ė S 7 (Sx.L [.i 0,.i 0,.i 0]++Sx.za++Sx.L [.sn,.i 0,.u 0,.i 0,.z,.z,.sn,.i 0,.sn,.i 0,.i 0,.i 0,.i 0,.sn,.i 0,.sn,.i 0,.i 0,.sn,.i 0]) λac u ah Bg an S=>Rf S 1 [] [(6,.i k)] λS=>Ğ S 0 (off:=0) (cs:=D.cells) I λu P6 S=>?_;have a3:b≠ah:=Z
  refine Rh<|J _ _<|Ô λ_ XM=>YJ λ_ Qn=>Rf S 1 [.M 0 0] [(40,D.v)] λS=>CY S 41 (Ar ((h.N _ (rF▸ò mM)).below S.E) (hg.below S.E)) λac u WW S=>Rf S 1 [] [(8,.i D.checkN)] λS=>Rh<|Qn _ _<|YJ λ_ J=>Rf S 2 [] [(43,.b ((D.checkN) != 0))] λS=>Rh (J _ _ ?_);refine Ā S (λJ=>?_) λJ=>?_
  .refine YJ λ_ ao=>Rf S 4 [] [(2,.i D.checkN),(3,.i k)] λS=>Rh<|ao _ _<|ğ ?_;have hq:=uK (s:=s.key) mO;rw[show s.key.ns=keys s.ns from rfl,ĭ]at hq;refine MP S results83 ?_;rw[UQ (by have:=é fJ; omega)]at hq;exact⟨by rw[hq,hR.bad mM rF (XJ (by simpa using J)) (by simpa using J)],S.E⟩
  refine ú<|XM _ _<|Ô λ_ ap=>YJ λ_ aq=>Rf S 3 [.M 0 0] [(46,.map (some b)),(48,.i D.id)] λS=>?_;obtain⟨R,am⟩:=R.aZ S (Ì (Ĥ Bg an) (Ì (Sx.Stp.Eo P6 (by simp[Sx.vb])) (à WW)));have af:=æ ((þ Ad am));refine apN S 49 af underlying3 underlying4 underlying194 (abW _) (al.1.1) λac S=>Rh (aq _ _ ?_);refine Ā S (λQo=>?_) λQo=>?_
  .refine YJ λ_ ar=>Rf S 3 [] [(2,.i 7),(3,.i k)] λS=>Rh<|ar _ _<|ğ ?_;have hq:=uK (s:=s.key) mO;rw[show s.key.ns=keys s.ns from rfl,ĭ]at hq;refine MP S results83 ?_;rw[UQ (by have:=é fJ; omega)]at hq;exact⟨by rw[hq,hR.bad mM rF (abV (by simpa using J) (by rw[<-Ql]; exact Qo)) O],S.E⟩
  refine ú<|ap _ _<|Ô λ_ XO=>YJ λ_ av=>Rf S 4 [.M 0 2] [(54,.b (m<D.depth))] λS=>Rh (av _ _ ?_);refine Ā S (λaa=>?_) λaa=>?_
  .refine YJ λ_ aw=>Rf S 3 [] [(2,.i 17),(3,.i k)] λS=>Rh<|aw _ _<|ğ ?_;have hq:=uK (s:=s.key) mO;rw[show s.key.ns=keys s.ns from rfl,ĭ]at hq;refine MP S results83 ?_;rw[UQ (by have:=é fJ; omega)]at hq;exact⟨by rw[hq,hR.bad mM rF (TY (by simpa using J) (by rw[<-Ql]; exact Qo) (by have:=Ý aa; rw[<-hR.room]; omega)) O],S.E⟩
  refine ú<|XO _ _<|YJ λ_ ax=>Rf S 3 [.M 0 0] [(56,.map (some b)),(58,.i D.id)] λS=>?_;have af:=æ ((þ Ad am));refine auK S af (S.E.size |> λ_=>ae.1) underlying3 underlying4 underlying194 (by rw[ĭ,Ĳ]; show _<9223372036854775807; omega) al.1.1 λu ai a6 S=>?_;have R:=Č S;have MQ:Sx.Ow w.heap.size (Ob [(ah,D.cells),(b2,s.cells)] []) (λW=>mP prog 3 4 W b ((s.ns.take (k+1)).map aj.id)) u:=by
   rw[ae8 mM rF]at ai;exact Τ (TW ai) λi hi=>by subst hi; exact⟨ae.1,by simpa[Ob]using ⟨a3,ae.2⟩⟩
  refine Rh<|ax _ _<|YJ λ_ ay=>Rf S 3 [.M 0 2] [(5,.i D.depth)] λS=>Rh<|ay _ _<|YJ λ_ az=>Rf S 3 [.M 0 1] [(63,.b ((D.kind)==1))] λS=>Rh (az _ _ ?_);refine Ā S (λtN=>?_) λtN=>?_
  .refine į<|Rf S 3 [Sx.kw 65 (D.depth+1)] [(5,.i (D.depth+1))] (hk:=⟨akY (by have:=qG (n:=D) (by simpa using J); omega),G⟩) λS=>Rh<|ag _ _<|į<|Rf S 2 [kS 66 k] [(35,.i (k+1:Nat))] (hk:=⟨ù Z,G⟩) λS=>Rh ?_;have S:=S.gK 1;obtain⟨R,a4⟩:=R.aZ S (ĥ 1);show ∃i',_∧_;exact⟨((k+1),(D.depth+1)),⟨Z,hR.next mM rF (Ua (by simpa using J) (by rw[<-Ql]; exact Qo) (by have:=é aa; rw[<-hR.room]; omega)) (by rw[Á (by simpa using tN)]),R,(þ MQ a4),S.sn⟩,by show _-_<_-_; omega⟩
  refine ú<|ag _ _<|į<|Rf S 2 [kS 66 k] [(35,.i (k+1:Nat))] (hk:=⟨ù Z,G⟩) λS=>Rh ?_;have S:=S.gK 1;obtain⟨R,a5⟩:=R.aZ S (ĥ 1);show ∃i',_∧_;exact⟨((k+1),D.depth),⟨Z,hR.next mM rF (Ua (by simpa using J) (by rw[<-Ql]; exact Qo) (by have:=é aa; rw[<-hR.room]; omega)) (by rw[UQ (by simpa using tN)]),R,(þ MQ a5),S.sn⟩,by show _-_<_-_; omega⟩
 refine Ļ<|Ey _ _<|YJ λ_ D=>Rf S 2 [] [(2,.i 0),(3,.i 0)] λS=>Rh<|D _ _<|ğ ?_;have hq:=uK (s:=s.key) mO;rw[show s.key.ns=keys s.ns from rfl,ĭ]at hq;refine MP S results83 ?_;rw[UQ (by have:=é fJ; omega)]at hq;exact⟨by rw[hq,hR.done (by have:=é ab; omega)],S.E⟩
abbrev eH.ϣ{w w':E5}{a b:aj}(h:eH K w a)(h':eH K w' b):a.ϣ b=decide (a.key=b.key):=aiV h.nrm h'.nrm
abbrev Qp(c d:bI):(((c.r.toNat:Int)==d.r.toNat)&&(((c.g.toNat:Int)==d.g.toNat)&&(((c.b.toNat:Int)==d.b.toNat)&&((c.a.toNat:Int)==d.a.toNat))))=decide (c=d):=by
 rw[ŉ];simp only[Û,ß,EH,Þ];exact aak
abbrev ams(c d:bI)(w:E5):(binOp .eql 40 (.agg c.cells.toArray) (.agg d.cells.toArray)).run prog w = .ok (.b (c=d)) w:=by
 rw[<-Qp]; exact aeY ..
abbrev akZ(a b c d e f g h:Int)(w:E5):(binOp .neq 40 (.agg #[.u a,.u b,.u c,.u d]) (.agg #[.u e,.u f,.u g,.u h])).run prog w = .ok (.b (!((a==e)&&((b==f)&&((c==g)&&(d==h)))))) w:=by
 simp[go_sem];(repeat' split)<;>simp_all
abbrev amu(c d:bI)(w:E5):(binOp .neq 40 (.agg c.cells.toArray) (.agg d.cells.toArray)).run prog w = .ok (.b (!decide (c=d))) w:=by
 rw[<-Qp]; exact akZ ..
abbrev amv{l m:List aj}(hk:l.length<=k)(h:l.length=m.length)(D:(keys l).take k=(keys m).take k):true=decide (keys l=keys m):=by
 rw[Ď (by simpa using hk),Ď (by simpa using (show m.length<=k by omega))]at D;simp[D]
abbrev aiX{l m:List aj}(D:k<l.length)(J:k<m.length)(S:(keys l).take k=(keys m).take k){x y:aj}(hx:l[k]=x)(hy:m[k]=y)(h:(!decide (x.key=y.key))=false):(keys l).take (k+1)=(keys m).take (k+1):=by
 rw[ĸ (by simpa using D),ĸ (by simpa using J),S,Jd D hx,Jd J hy];simp at h;rw[h]
abbrev apP{l m:List aj}(D:k<l.length)(J:k<m.length){x y:aj}(S:l[k]=x)(hy:m[k]=y)(h:(!decide (x.key=y.key))=true):false=decide (keys l=keys m):=by
 symm;rw[Ą];intro e;have:=Ñ (·[k]?) e;simp only[keys,List.getElem?_map,List.getElem?_eq_getElem D,List.getElem?_eq_getElem J,S,hy,ě,Æ]at this;simp[this]at h
abbrev apQ{s t:aB}(h:((((s.w) != t.w)||((s.h) != t.h))||(!decide (s.bg=t.bg))||((s.ns.length:Int) != (t.ns.length:Int)))=true):false=decide (s.key=t.key):=by
 symm;rw[Ą];intro e;simp only[aB.key,bG.mk.injEq]at e;have hl:=Ñ List.length e.N;simp at hl;simp[e.1,e.2.1,e.D,hl]at h
abbrev afc{s t:aB}(h:((((s.w) != t.w)||((s.h) != t.h))||(!decide (s.bg=t.bg))||((s.ns.length:Int) != (t.ns.length:Int)))=false):s.ns.length=t.ns.length:=by
 simp at h; omega
abbrev ak0{s t:aB}{b:Bool}(h:((((s.w) != t.w)||((s.h) != t.h))||(!decide (s.bg=t.bg))||((s.ns.length:Int) != (t.ns.length:Int)))=false)(D:b=decide (keys s.ns=keys t.ns)):b=decide (s.key=t.key):=by
 rw[D];simp at h;simp[aB.key,h]
abbrev yZ{a b:aj}(h:eH K w a)(h':eH K w b):Nq prog 95 #[a.v,b.v] w (Ï w (.b (a.key=b.key))):=by
 rw[<-h.ϣ h']; exact MK h h'
abbrev xU{s:aB}(h:bQ K w s)(J:bU w) :
  Nq prog 51 #[s.v] w (Ï w (.b s.key.valid)):=by
 skip;refine Ä func51 ntmps51 λS=>Â S λu b2 E3 D S=>O1 S 2 [] [.M 0 0] λS=>ð S (FP (h.below S.E) (J.below S.E)) λu D S=>Xe S (.b ((s.key.chk.1)==0)) λS=>?_;exact⟨I,S.E⟩
abbrev aao:fM prog 29 163 (.agg #[.i 0,.i 0,.i 0,.i 0,.i 0,.i 0,.i 0]) 7 56:=⟨underlying29,info_parts X,I,by decide⟩
abbrev XP:fM prog 131 202 (.agg #[.i 0,.u 0,.u 0,.u 0,.u 0]) 5 16:=⟨underlying131,info_parts X,I,by decide⟩
abbrev aap:fM prog 34 178 (.agg #[.u 0,.u 0,.u 0,.u 0]) 4 4:=⟨underlying34,info_parts X,I,by decide⟩
abbrev afd:fM prog 31 3 (.i 0) 1 8:=⟨underlying31,info_parts X,I,by decide⟩
abbrev Dv:fM prog 30 133 (.agg (Sx.L [.i 0,.u 0,.u 0,.u 0,.u 0,.i 0,.i 0,.i 0,.i 0,.i 0,.sn,.i 0,.i 0,.i 0,.sn,.i 0]++Sx.za).toArray) 40 520:=⟨underlying30,info_parts X,I,by decide⟩
def Cp(e:Ð)(k:Nat)(f:α->List y9)(base:Nat)(v:y9)(L:List α)(w:E5):Prop:=Sx.aU base (kF e k f base v L) w
abbrev Cp.ext{e:Ð}{k:Nat}{f:α->List y9}{base:Nat}{v:y9}{L:List α}{w w':E5}(h:Cp e k f base v L w)(D:Ext w w'):Cp e k f base v L w':=Ü h D
abbrev Cp.mono{e:Ð}{k:Nat}{f:α->List y9}{base b0:Nat}{v:y9}{L:List α}{w:E5}(h:Cp e k f base v L w)(D:b0<=base):Cp e k f b0 v L w:=ď (Sx.aU.le h D) λ_ h=>h.le D
abbrev Cp.shape{e:Ð}{k:Nat}{f:α->List y9}{base:Nat}{v:y9}{L:List α}{w:E5}(h:Cp e k f base v L w):∃a c,v = .s a L.length c:=(æ h).1.shape
abbrev Jf(e:Ð)(k:Nat)(f:α->List y9)(base:Nat)(w:E5):Cp e k f base (.sn) [] w:=λw' _ _=>⟨dK k f w',.inl I⟩
abbrev qN{L:List α}(h:aG k f w (.s none n c) L):L=[]:=by
 obtain⟨a,cap,e,D,h⟩:=h;simp only[Ĉ]at e;obtain⟨rfl,rfl,rfl⟩:=e;rcases h with ⟨h,_⟩ | ⟨b,o,h,_⟩
 .exact h
 cases h
abbrev kT{L:List α}(h:aG k f w (.s none n c) L):c=0:=by
 obtain⟨a,cap,e,D,h⟩:=h;simp only[Ĉ]at e;obtain⟨rfl,rfl,rfl⟩:=e;rcases h with ⟨_,h⟩ | ⟨b,o,h,_⟩
 .exact h I
 cases h
abbrev aU.ch{base b:Nat}{F:E5->Prop}{w w':E5}(h:Sx.aU base F w)(S:Ch b w w')(D:b<base):Sx.aU base F w':=λw2 hs hk =>
 h w2 (ä S.size hs) λk D J=>(hk k (ö D S.size) J).trans (S.block k D λe=>by simp only[Æ]at e; omega)
abbrev dP{f:α->y9}{l:List α}(h:aG 1 (λx=>[f x]) w v l):dG f w v l:=by
 obtain⟨a,cap,D,J,h⟩:=h;refine⟨a,cap,D,J,?_⟩;rcases h with h | ⟨b,o,S,D,hl,hc⟩
 .exact .inl h
 exact .inr ⟨b,o,S,D,hl,λi J=>by have:=hc i J 0 Z; simpa using this⟩
def bH.strip(r:bH):bH:=⟨r.n1,Option.none,0,r.l1,r.n2,Option.none,0,r.l2⟩
def bD.strip(t:bD):bD:=⟨t.a.strip,t.b.strip,t.c.strip,t.d.strip,t.e.strip,t.f.strip⟩
def dH.strip(m:dH):dH:=⟨m.w,m.h,Option.none,0,m.l⟩
def ak.strip(p:ak):ak:=⟨p.kind,p.color,p.p0,p.p1,p.bW,Option.none,0,p.stops,p.spread,p.img.strip,p.cZ,p.t.strip⟩
def aX.strip(p:aX):aX:=⟨p.width,p.join,p.cap,p.eP,Option.none,0,p.dash,p.phase⟩
def aj.strip(n:aj):aj:=⟨n.id,n.kind,n.depth,n.t.strip,Option.none,0,n.clip,n.aP,n.dJ,n.blend,n.isolated,n.dA,Option.none,0,n.path,n.aV,Option.none,0,n.fill.map ak.strip,n.style.strip,Option.none,0,n.stroke.map ak.strip,n.img.strip,n.cZ⟩
abbrev pW:UInt32->List y9:=λx=>[bn x]
def bH.oZ(base:Nat)(r:bH)(w:E5):Prop:=r.ok w∧Sx.Ty 119 1 base r.s1 r.l1.length w∧Sx.Ty 119 1 base r.s2 r.l2.length w
def bD.oZ(base:Nat)(t:bD)(w:E5):Prop:=t.a.oZ base w∧t.b.oZ base w∧t.c.oZ base w∧t.d.oZ base w∧t.e.oZ base w∧t.f.oZ base w
def ak.oZ(base:Nat)(p:ak)(w:E5):Prop:=p.ok w∧Sx.Ty 202 5 base p.sv p.stops.length w∧Sx.Ty 178 4 base p.img.s p.img.l.length w∧p.t.oZ base w
def kU(base:Nat)(w:E5)(v:y9)(l:List ak):Prop:=kF 133 40 ak.cells base v l w∧∀p∈l,p.oZ base w
def aj.oZ(base:Nat)(n:aj)(w:E5):Prop:=n.ok w∧n.t.oZ base w∧Sx.Ty 163 7 base n.cs n.clip.length w∧Sx.Ty 163 7 base n.ps n.path.length w∧kU base w n.fs n.fill∧kU base w n.ss n.stroke∧Sx.Ty 3 1 base n.style.s n.style.dash.length w∧Sx.Ty 178 4 base n.img.s n.img.l.length w
abbrev bH.oZ.le{base b0:Nat}{r:bH}{w:E5}(h:r.oZ base w)(D:b0<=base):r.oZ b0 w:=⟨h.1,h.2.1.le D,h.F.le D⟩
abbrev bD.oZ.le{base b0:Nat}{t:bD}{w:E5}(h:t.oZ base w)(D:b0<=base):t.oZ b0 w:=⟨h.1.le D,h.2.1.le D,h.D.le D,h.C.le D,h.A.le D,h.J.le D⟩
abbrev bD.oZ.ok{base:Nat}{t:bD}{w:E5}(h:t.oZ base w):t.ok w:=⟨h.1.1,h.2.1.1,h.2.2.1.1,h.2.2.2.1.1,h.2.2.2.2.1.1,h.S⟩
abbrev ak.oZ.le{base b0:Nat}{p:ak}{w:E5}(h:p.oZ base w)(D:b0<=base):p.oZ b0 w:=⟨h.1,h.2.1.le D,h.D.le D,h.N.le D⟩
abbrev kU.le{base b0:Nat}{w:E5}{v:y9}{l:List ak}(h:kU base w v l)(D:b0<=base):kU b0 w v l:=⟨h.1.le D,λp J=>(h.2 p J).le D⟩
abbrev kU.ok{base:Nat}{w:E5}{v:y9}{l:List ak}(h:kU base w v l):iY w v l:=⟨h.1.1,λp D=>(h.2 p D).1⟩
abbrev bH.cp (base:Nat)(r:bH)(w:E5):Prop:=Sx.aU base (λW=>r.oZ base W) w
abbrev bD.cp (base:Nat)(t:bD)(w:E5):Prop:=Sx.aU base (λW=>t.oZ base W) w
abbrev pX (base:Nat)(v:y9)(l:List ak)(w:E5):Prop:=Sx.aU base (λW=>kU base W v l) w
abbrev kJ{r:bH}(h:r.cp base w)(D:b0<=base):r.cp b0 w:=ď (Sx.aU.le h D) λ_ h=>h.le D
abbrev XQ{t:bD}(h:t.cp base w)(D:b0<=base):t.cp b0 w:=ď (Sx.aU.le h D) λ_ h=>h.le D
abbrev qO{l:List ak}(h:pX base v l w)(D:b0<=base):pX b0 v l w:=ď (Sx.aU.le h D) λ_ h=>h.le D
def bH.lim(r:bH):Prop:=r.fit 35184372088832
def bD.lim(t:bD):Prop:=t.fit 35184372088832
abbrev y7{r:bH}(h:r.fit 35184372088832):r.l1.length<=35184372088832∧r.l2.length<=35184372088832:=⟨by have:=h.1; omega,by have:=h.2; omega⟩
abbrev aaq{t:bD}(h:t.lim):(t.a.l1.length<=35184372088832∧t.a.l2.length<=35184372088832)∧(t.b.l1.length<=35184372088832∧t.b.l2.length<=35184372088832)∧(t.c.l1.length<=35184372088832∧t.c.l2.length<=35184372088832)∧(t.d.l1.length<=35184372088832∧t.d.l2.length<=35184372088832)∧(t.e.l1.length<=35184372088832∧t.e.l2.length<=35184372088832)∧(t.f.l1.length<=35184372088832∧t.f.l2.length<=35184372088832):=
 ⟨y7 h.1,y7 h.2.1,y7 h.D,y7 h.C,y7 h.A,y7 h.J⟩
abbrev XR{L:List UInt32}(h:aG 1 (λx=>[bn x]) w v L):dQ w 1 v L.length (L.flatMap (λx=>[bn x])):=jV h (λ_=>I) λ_=>rfl
abbrev XT{L:List UInt32}(h:aG 1 (λx=>[bn x]) w v L)(hl:L.length<=35184372088832) :
  Nq prog 200 #[v] w λe w'=>∃D,e = .R D∧Cp 119 1 (λx=>[bn x]) w.heap.size D L w'∧Ext w w':=by
 obtain⟨a,c,rfl⟩:=h.shape;cases a with
 | none =>
  obtain rfl:L=[]:=qN h;obtain rfl:=kT h;refine Ä func200 ntmps200 λS=>ã S λS=>Xe S (.sn) λS=>?_;exact⟨_,I,Jf _ _ _ _ _,S.E⟩
 | some p =>
  refine Ä func200 ntmps200 λS=>ă S λS=>?_;have R:=Č S;refine è S λS=>Υ S R 5 0 119 1 [] λD u J E6 X7 R S=>ÿ S λS=>è S λS=>Ń S R 0 7 I mD (XR (h.below S.E)) (by show 0+L.length<=9223372036854775807; omega) (by show(0+L.length)*_<=140737488355328; omega) λD u J X9 R S=>ÿ S λS=>Xe S J λS=>?_;exact⟨_,I,fK (λ_=>I) (R.own _ Ö) (Ī _) (Ģ _),S.E⟩
abbrev XU{L:List dL}(h:aG 7 dL.cells w v L):dQ w 7 v L.length (L.flatMap dL.cells):=jV h (λ_=>I) λ_=>rfl
abbrev Jg{L:List dL}(h:aG 7 dL.cells w v L)(hl:L.length<=2513169434916) :
  Nq prog 101 #[v] w λe w'=>∃D,e = .R D∧Cp 163 7 dL.cells w.heap.size D L w'∧Ext w w':=by
 obtain⟨a,c,rfl⟩:=h.shape;cases a with
 | none =>
  obtain rfl:L=[]:=qN h;obtain rfl:=kT h;refine Ä func101 ntmps101 λS=>ã S λS=>Xe S (.sn) λS=>?_;exact⟨_,I,Jf _ _ _ _ _,S.E⟩
 | some p =>
  refine Ä func101 ntmps101 λS=>ă S λS=>?_;have R:=Č S;refine è S λS=>Υ S R 5 0 163 7 [] λD u J E6 X7 R S=>ÿ S λS=>è S λS=>Ń S R 0 7 I aao (XU (h.below S.E)) (by show 0+L.length<=9223372036854775807; omega) (by show(0+L.length)*_<=140737488355328; omega) λD u J X9 R S=>ÿ S λS=>Xe S J λS=>?_;exact⟨_,I,fK (λ_=>I) (R.own _ Ö) (Ī _) (Ģ _),S.E⟩
abbrev Uc{L:List dI}(h:aG 5 dI.cells w v L):dQ w 5 v L.length (L.flatMap dI.cells):=jV h (λ_=>I) λ_=>rfl
abbrev Ud{L:List dI}(h:aG 5 dI.cells w v L)(hl:L.length<=8796093022208) :
  Nq prog 151 #[v] w λe w'=>∃D,e = .R D∧Cp 202 5 dI.cells w.heap.size D L w'∧Ext w w':=by
 obtain⟨a,c,rfl⟩:=h.shape;cases a with
 | none =>
  obtain rfl:L=[]:=qN h;obtain rfl:=kT h;refine Ä func151 ntmps151 λS=>ã S λS=>Xe S (.sn) λS=>?_;exact⟨_,I,Jf _ _ _ _ _,S.E⟩
 | some p =>
  refine Ä func151 ntmps151 λS=>ă S λS=>?_;have R:=Č S;refine è S λS=>Υ S R 5 0 202 5 [] λD u J E6 X7 R S=>ÿ S λS=>è S λS=>Ń S R 0 7 I XP (Uc (h.below S.E)) (by show 0+L.length<=9223372036854775807; omega) (by show(0+L.length)*_<=140737488355328; omega) λD u J X9 R S=>ÿ S λS=>Xe S J λS=>?_;exact⟨_,I,fK (λ_=>I) (R.own _ Ö) (Ī _) (Ģ _),S.E⟩
abbrev XV{L:List bI}(h:aG 4 bI.cells w v L):dQ w 4 v L.length (L.flatMap bI.cells):=jV h (λ_=>I) λ_=>rfl
abbrev Jh{L:List bI}(h:aG 4 bI.cells w v L)(hl:L.length<=35184372088832) :
  Nq prog 104 #[v] w λe w'=>∃D,e = .R D∧Cp 178 4 bI.cells w.heap.size D L w'∧Ext w w':=by
 obtain⟨a,c,rfl⟩:=h.shape;cases a with
 | none =>
  obtain rfl:L=[]:=qN h;obtain rfl:=kT h;refine Ä func104 ntmps104 λS=>ã S λS=>Xe S (.sn) λS=>?_;exact⟨_,I,Jf _ _ _ _ _,S.E⟩
 | some p =>
  refine Ä func104 ntmps104 λS=>ă S λS=>?_;have R:=Č S;refine è S λS=>Υ S R 5 0 178 4 [] λD u J E6 X7 R S=>ÿ S λS=>è S λS=>Ń S R 0 7 I aap (XV (h.below S.E)) (by show 0+L.length<=9223372036854775807; omega) (by show(0+L.length)*_<=140737488355328; omega) λD u J X9 R S=>ÿ S λS=>Xe S J λS=>?_;exact⟨_,I,fK (λ_=>I) (R.own _ Ö) (Ī _) (Ģ _),S.E⟩
abbrev XW{L:List Int}(h:aG 1 (λx=>[Ac x]) w v L):dQ w 1 v L.length (L.flatMap (λx=>[Ac x])):=jV h (λ_=>I) λ_=>rfl
abbrev XY{L:List Int}(h:aG 1 (λx=>[Ac x]) w v L)(hl:L.length<=17592186044416) :
  Nq prog 103 #[v] w λe w'=>∃D,e = .R D∧Cp 3 1 (λx=>[Ac x]) w.heap.size D L w'∧Ext w w':=by
 obtain⟨a,c,rfl⟩:=h.shape;cases a with
 | none =>
  obtain rfl:L=[]:=qN h;obtain rfl:=kT h;refine Ä func103 ntmps103 λS=>ã S λS=>Xe S (.sn) λS=>?_;exact⟨_,I,Jf _ _ _ _ _,S.E⟩
 | some p =>
  refine Ä func103 ntmps103 λS=>ă S λS=>?_;have R:=Č S;refine è S λS=>Υ S R 5 0 3 1 [] λD u J E6 X7 R S=>ÿ S λS=>è S λS=>Ń S R 0 7 I afd (XW (h.below S.E)) (by show 0+L.length<=9223372036854775807; omega) (by show(0+L.length)*_<=140737488355328; omega) λD u J X9 R S=>ÿ S λS=>Xe S J λS=>?_;exact⟨_,I,fK (λ_=>I) (R.own _ Ö) (Ī _) (Ģ _),S.E⟩
abbrev iV{n:Bool}{l:List UInt32}(h:aG 1 pW w v l)(hl:l.length<=35184372088832) :
  Nq prog 149 #[.agg #[.b n,v]] w λe w'=>∃a c,e = .R (.agg #[.b n,.s a l.length c])∧Cp 119 1 pW w.heap.size (.s a l.length c) l w'∧Ext w w':=by
 obtain⟨a0,c0,rfl⟩:=h.shape;refine Ä func149 ntmps149 λS=>Â S λu b2 J D S=>Â S λu b5 J D S=>?_;have D:=S.E.size;have z0:=(S.bx 0).1;refine jm S 5 [(7,λv w1=>Cp 119 1 pW u.heap.size v l w1)] (λr=>[.M 1 0,.M 1 1]) (λx=>[x 7]) (λx=>[(_,_,true,x 7,7)]) [[]] (λx=>[(4,.b n),(7,x 7)]) ⟨λ_ _ _ k h=>h.ext k,G⟩ (λx=>⟨by intro u D g F; exact(XT (h.below (Ip S.E D)) hl).mono λe w2 h=>by obtain⟨y,rfl,J,hb⟩:=h; exact⟨_,I,J.mono D.size,hb⟩,G⟩) λu x E9 F S=>?_;obtain⟨J,-⟩:=F;obtain⟨a1,c1,D⟩:=Cp.shape J;rw[D]at S J;try rw[D]
 refine É S 0 I λu D S=>?_;have Dw:=aU.ch J D Z;refine ü S 0 I (v := .agg #[.b n,.s a1 l.length c1]) λS=>?_;exact⟨a1,c1,I,Cp.mono Dw Z,S.E⟩
abbrev BF{r:bH}(D:Cp 119 1 pW base r.s1 r.l1 w)(J:Cp 119 1 pW base r.s2 r.l2 w):r.cp base w:=ď (ï D J) λ_ h=>⟨⟨dP h.1.1,dP h.2.1⟩,h.1.2,h.F⟩
abbrev afe{t:bD}(D:t.a.cp base w)(J:t.b.cp base w)(S:t.c.cp base w)(h3:t.d.cp base w)(h4:t.e.cp base w)(h5:t.f.cp base w):t.cp base w:=ï D (ï J (ï S (ï h3 (ï h4 h5))))
abbrev Au{t:bD}(h:t.ok w)(hl:t.lim) :
  Nq prog 100 #[t.v] w λe w'=>∃D:bD,e = .R D.v∧D.cp w.heap.size w'∧D.strip=t.strip∧Ext w w':=by
 obtain⟨h0,h1,h2,h3,h4,h5⟩:=h;obtain⟨D,bc,bd,be,bg,bh⟩:=aaq hl;refine Ņ func100 ntmps100 λac S=>YJ λ_ J=>Ė S 1 t.cells λac u b2 E3 da S=>Ė S 2 Sx.za λac u b5 E6 db S=>Rh<|J _ _<|Ô λ_ BA=>YJ λ_ J=>Rf S 6 [] [(5,.q b2 0),(6,.q b2 4),(7,.q b2 8),(8,.q b2 12),(9,.q b2 16),(10,.q b2 20)] λS=>Ţ S 11 6 [.q b2 0,.q b2 4,.q b2 8,.q b2 12,.q b2 16,.q b2 20] λac u b10 BG Ji S=>Rf S 2 [] [(12,.i 6),(13,.i 0)] λS=>Rh<|J _ _<|Ě<|wp_loop_rounds 7 ?_;rw[χ];refine YJ λ_ J=>Rf S 1 [] [(14,.b true)] λS=>Rh<|J _ _<|Ô λ_ uH=>Jj S<|ú<|uH _ _<|Ô λ_ Ey=>Ě<|YJ λ_ J=>Rf S 3 [.M 0 0] [(4,.q b2 0)] λS=>Rh (J _ _ ?_);have J:=S.E.size;have z1:=(S.bx 1).1;have z2:=(S.bx 2).1;refine Sx.hoist [0] 11<|rJ S 11 [(22,λv w1=>∃a c,v = .agg #[.b t.a.n1,.s a t.a.l1.length c]∧Cp 119 1 pW u.heap.size (.s a t.a.l1.length c) t.a.l1 w1),(27,λv w1=>∃a c,v = .agg #[.b t.a.n2,.s a t.a.l2.length c]∧Cp 119 1 pW u.heap.size (.s a t.a.l2.length c) t.a.l2 w1)] (λr=>[.M 2 0,.M 2 2]) (λx=>[x 22,x 27]) (λx=>[(_,_,true,x 22,22),(_,_,true,x 27,27)]) [[],[]] (λx=>[(17,.q b2 0),(22,x 22),(27,x 27)]) ⟨λ_ _ _ k h=>by obtain⟨a,c,e,h⟩:=h; exact⟨a,c,e,h.ext k⟩,λ_ _ _ k h=>by obtain⟨a,c,e,h⟩:=h; exact⟨a,c,e,h.ext k⟩,G⟩ (λx=>⟨by intro u J g F; exact(iV (n:=t.a.n1) (v:=t.a.s1) (l:=t.a.l1) ((eU (f:=bn) h0.1).below (Ip S.E J)) (D.1)).mono λe w2 h=>by obtain⟨a,c,rfl,hx,hb⟩:=h; exact⟨_,I,⟨a,c,I,hx.mono J.size⟩,hb⟩,by intro u J g F; exact(iV (n:=t.a.n2) (v:=t.a.s2) (l:=t.a.l2) ((eU (f:=bn) h0.2).below (Ip S.E J)) (D.2)).mono λe w2 h=>by obtain⟨a,c,rfl,hx,hb⟩:=h; exact⟨_,I,⟨a,c,I,hx.mono J.size⟩,hb⟩,G⟩) λac u x D F S=>?_;obtain⟨Aw,D,-⟩:=F;obtain⟨aa,ab,co,Aw⟩:=Aw;rw[co]at S;obtain⟨ae,af,cq,D⟩:=D;rw[cq]at S;refine Rf S 2 [] [(28,.agg #[.b t.a.n1,.s aa t.a.l1.length ab,.b t.a.n2,.s ae t.a.l2.length af]),(29,.q b2 0)] λS=>Ğ S 2 (off:=0) (cs:=[.b t.a.n1,.s aa t.a.l1.length ab,.b t.a.n2,.s ae t.a.l2.length af]) I λu bb S=>?_;have pY:=aU.ch Aw bb Z;have EM:=aU.ch D bb Z;have cc:=(BF (r:=⟨t.a.n1,aa,ab,t.a.l1,t.a.n2,ae,af,t.a.l2⟩) pY EM);refine Rh<|Ey _ _<|į<|Rf S 2 [] [(13,.i 1)] λS=>Rh ?_;show Code.rounds _ _ _ 6 _ _;rw[χ];refine YJ λ_ bj=>Rf S 1 [] [(14,.b true)] λS=>Rh<|bj _ _<|Ô λ_ bk=>Jj S<|ú<|bk _ _<|Ô λ_ XZ=>Ě<|YJ λ_ bm=>Rf S 3 [.M 0 1] [(4,.q b2 4)] λS=>Rh (bm _ _ ?_);have y1:=S.E.size;have z1:=(S.bx 1).1;have z2:=(S.bx 2).1;refine Sx.hoist [0] 11<|rJ S 11 [(22,λv w1=>∃a c,v = .agg #[.b t.b.n1,.s a t.b.l1.length c]∧Cp 119 1 pW u.heap.size (.s a t.b.l1.length c) t.b.l1 w1),(27,λv w1=>∃a c,v = .agg #[.b t.b.n2,.s a t.b.l2.length c]∧Cp 119 1 pW u.heap.size (.s a t.b.l2.length c) t.b.l2 w1)] (λr=>[.M 2 4,.M 2 6]) (λx=>[x 22,x 27]) (λx=>[(_,_,true,x 22,22),(_,_,true,x 27,27)]) [[],[]] (λx=>[(17,.q b2 4),(22,x 22),(27,x 27)]) ⟨λ_ _ _ k h=>by obtain⟨a,c,e,h⟩:=h; exact⟨a,c,e,h.ext k⟩,λ_ _ _ k h=>by obtain⟨a,c,e,h⟩:=h; exact⟨a,c,e,h.ext k⟩,G⟩ (λx=>⟨by intro u J g F; exact(iV (n:=t.b.n1) (v:=t.b.s1) (l:=t.b.l1) ((eU (f:=bn) h1.1).below (Ip S.E J)) (bc.1)).mono λe w2 h=>by obtain⟨a,c,rfl,hx,hb⟩:=h; exact⟨_,I,⟨a,c,I,hx.mono J.size⟩,hb⟩,by intro u J g F; exact(iV (n:=t.b.n2) (v:=t.b.s2) (l:=t.b.l2) ((eU (f:=bn) h1.2).below (Ip S.E J)) (bc.2)).mono λe w2 h=>by obtain⟨a,c,rfl,hx,hb⟩:=h; exact⟨_,I,⟨a,c,I,hx.mono J.size⟩,hb⟩,G⟩) λac u x WV F S=>?_;obtain⟨Aw,D,-⟩:=F;obtain⟨ag,ah,ct,Aw⟩:=Aw;rw[ct]at S;obtain⟨ai,al,cu,D⟩:=D;rw[cu]at S;refine Rf S 2 [] [(28,.agg #[.b t.b.n1,.s ag t.b.l1.length ah,.b t.b.n2,.s ai t.b.l2.length al]),(29,.q b2 4)] λS=>Ğ S 2 (off:=4) (cs:=[.b t.b.n1,.s ag t.b.l1.length ah,.b t.b.n2,.s ai t.b.l2.length al]) I λu X0 S=>?_;have EF:=aU.ch (cc.ext WV) X0 Z;have tV:=aU.ch Aw X0 Z;have cd:=aU.ch D X0 Z;have ce:=(BF (r:=⟨t.b.n1,ag,ah,t.b.l1,t.b.n2,ai,al,t.b.l2⟩) tV cd);refine Rh<|XZ _ _<|į<|Rf S 2 [] [(13,.i 2)] λS=>Rh ?_;show Code.rounds _ _ _ 5 _ _;rw[χ];refine YJ λ_ bo=>Rf S 1 [] [(14,.b true)] λS=>Rh<|bo _ _<|Ô λ_ Qq=>Jj S<|ú<|Qq _ _<|Ô λ_ XM=>Ě<|YJ λ_ Qn=>Rf S 3 [.M 0 2] [(4,.q b2 8)] λS=>Rh (Qn _ _ ?_);have y2:=S.E.size;have z1:=(S.bx 1).1;have z2:=(S.bx 2).1;refine Sx.hoist [0] 11<|rJ S 11 [(22,λv w1=>∃a c,v = .agg #[.b t.c.n1,.s a t.c.l1.length c]∧Cp 119 1 pW u.heap.size (.s a t.c.l1.length c) t.c.l1 w1),(27,λv w1=>∃a c,v = .agg #[.b t.c.n2,.s a t.c.l2.length c]∧Cp 119 1 pW u.heap.size (.s a t.c.l2.length c) t.c.l2 w1)] (λr=>[.M 2 8,.M 2 10]) (λx=>[x 22,x 27]) (λx=>[(_,_,true,x 22,22),(_,_,true,x 27,27)]) [[],[]] (λx=>[(17,.q b2 8),(22,x 22),(27,x 27)]) ⟨λ_ _ _ k h=>by obtain⟨a,c,e,h⟩:=h; exact⟨a,c,e,h.ext k⟩,λ_ _ _ k h=>by obtain⟨a,c,e,h⟩:=h; exact⟨a,c,e,h.ext k⟩,G⟩ (λx=>⟨by intro u J g F; exact(iV (n:=t.c.n1) (v:=t.c.s1) (l:=t.c.l1) ((eU (f:=bn) h2.1).below (Ip S.E J)) (bd.1)).mono λe w2 h=>by obtain⟨a,c,rfl,hx,hb⟩:=h; exact⟨_,I,⟨a,c,I,hx.mono J.size⟩,hb⟩,by intro u J g F; exact(iV (n:=t.c.n2) (v:=t.c.s2) (l:=t.c.l2) ((eU (f:=bn) h2.2).below (Ip S.E J)) (bd.2)).mono λe w2 h=>by obtain⟨a,c,rfl,hx,hb⟩:=h; exact⟨_,I,⟨a,c,I,hx.mono J.size⟩,hb⟩,G⟩) λac u x WW F S=>?_;obtain⟨Aw,D,-⟩:=F;obtain⟨am,an,cv,Aw⟩:=Aw;rw[cv]at S;obtain⟨ao,WX,cw,D⟩:=D;rw[cw]at S;refine Rf S 2 [] [(28,.agg #[.b t.c.n1,.s am t.c.l1.length an,.b t.c.n2,.s ao t.c.l2.length WX]),(29,.q b2 8)] λS=>Ğ S 2 (off:=8) (cs:=[.b t.c.n1,.s am t.c.l1.length an,.b t.c.n2,.s ao t.c.l2.length WX]) I λu a8 S=>?_;have BH:=aU.ch (EF.ext WW) a8 Z;have EN:=aU.ch (ce.ext WW) a8 Z;have Jk:=aU.ch Aw a8 Z;have xW:=aU.ch D a8 Z;have cf:=(BF (r:=⟨t.c.n1,am,an,t.c.l1,t.c.n2,ao,WX,t.c.l2⟩) Jk xW);refine Rh<|XM _ _<|į<|Rf S 2 [] [(13,.i 3)] λS=>Rh ?_;show Code.rounds _ _ _ 4 _ _;rw[χ];refine YJ λ_ bp=>Rf S 1 [] [(14,.b true)] λS=>Rh<|bp _ _<|Ô λ_ bq=>Jj S<|ú<|bq _ _<|Ô λ_ XO=>Ě<|YJ λ_ br=>Rf S 3 [.M 0 3] [(4,.q b2 12)] λS=>Rh (br _ _ ?_);have y3:=S.E.size;have z1:=(S.bx 1).1;have z2:=(S.bx 2).1;refine Sx.hoist [0] 11<|rJ S 11 [(22,λv w1=>∃a c,v = .agg #[.b t.d.n1,.s a t.d.l1.length c]∧Cp 119 1 pW u.heap.size (.s a t.d.l1.length c) t.d.l1 w1),(27,λv w1=>∃a c,v = .agg #[.b t.d.n2,.s a t.d.l2.length c]∧Cp 119 1 pW u.heap.size (.s a t.d.l2.length c) t.d.l2 w1)] (λr=>[.M 2 12,.M 2 14]) (λx=>[x 22,x 27]) (λx=>[(_,_,true,x 22,22),(_,_,true,x 27,27)]) [[],[]] (λx=>[(17,.q b2 12),(22,x 22),(27,x 27)]) ⟨λ_ _ _ k h=>by obtain⟨a,c,e,h⟩:=h; exact⟨a,c,e,h.ext k⟩,λ_ _ _ k h=>by obtain⟨a,c,e,h⟩:=h; exact⟨a,c,e,h.ext k⟩,G⟩ (λx=>⟨by intro u J g F; exact(iV (n:=t.d.n1) (v:=t.d.s1) (l:=t.d.l1) ((eU (f:=bn) h3.1).below (Ip S.E J)) (be.1)).mono λe w2 h=>by obtain⟨a,c,rfl,hx,hb⟩:=h; exact⟨_,I,⟨a,c,I,hx.mono J.size⟩,hb⟩,by intro u J g F; exact(iV (n:=t.d.n2) (v:=t.d.s2) (l:=t.d.l2) ((eU (f:=bn) h3.2).below (Ip S.E J)) (be.2)).mono λe w2 h=>by obtain⟨a,c,rfl,hx,hb⟩:=h; exact⟨_,I,⟨a,c,I,hx.mono J.size⟩,hb⟩,G⟩) λac u x a9 F S=>?_;obtain⟨Aw,D,-⟩:=F;obtain⟨ap,aq,cx,Aw⟩:=Aw;rw[cx]at S;obtain⟨ar,av,cy,D⟩:=D;rw[cy]at S;refine Rf S 2 [] [(28,.agg #[.b t.d.n1,.s ap t.d.l1.length aq,.b t.d.n2,.s ar t.d.l2.length av]),(29,.q b2 12)] λS=>Ğ S 2 (off:=12) (cs:=[.b t.d.n1,.s ap t.d.l1.length aq,.b t.d.n2,.s ar t.d.l2.length av]) I λu a7 S=>?_;have MR:=aU.ch (BH.ext a9) a7 Z;have P7:=aU.ch (EN.ext a9) a7 Z;have EC:=aU.ch (cf.ext a9) a7 Z;have Dx:=aU.ch Aw a7 Z;have GU:=aU.ch D a7 Z;have cg:=(BF (r:=⟨t.d.n1,ap,aq,t.d.l1,t.d.n2,ar,av,t.d.l2⟩) Dx GU);refine Rh<|XO _ _<|į<|Rf S 2 [] [(13,.i 4)] λS=>Rh ?_;show Code.rounds _ _ _ 3 _ _;rw[χ];refine YJ λ_ bs=>Rf S 1 [] [(14,.b true)] λS=>Rh<|bs _ _<|Ô λ_ bt=>Jj S<|ú<|bt _ _<|Ô λ_ bu=>Ě<|YJ λ_ bv=>Rf S 3 [.M 0 4] [(4,.q b2 16)] λS=>Rh (bv _ _ ?_);have y4:=S.E.size;have z1:=(S.bx 1).1;have z2:=(S.bx 2).1;refine Sx.hoist [0] 11<|rJ S 11 [(22,λv w1=>∃a c,v = .agg #[.b t.e.n1,.s a t.e.l1.length c]∧Cp 119 1 pW u.heap.size (.s a t.e.l1.length c) t.e.l1 w1),(27,λv w1=>∃a c,v = .agg #[.b t.e.n2,.s a t.e.l2.length c]∧Cp 119 1 pW u.heap.size (.s a t.e.l2.length c) t.e.l2 w1)] (λr=>[.M 2 16,.M 2 18]) (λx=>[x 22,x 27]) (λx=>[(_,_,true,x 22,22),(_,_,true,x 27,27)]) [[],[]] (λx=>[(17,.q b2 16),(22,x 22),(27,x 27)]) ⟨λ_ _ _ k h=>by obtain⟨a,c,e,h⟩:=h; exact⟨a,c,e,h.ext k⟩,λ_ _ _ k h=>by obtain⟨a,c,e,h⟩:=h; exact⟨a,c,e,h.ext k⟩,G⟩ (λx=>⟨by intro u J g F; exact(iV (n:=t.e.n1) (v:=t.e.s1) (l:=t.e.l1) ((eU (f:=bn) h4.1).below (Ip S.E J)) (bg.1)).mono λe w2 h=>by obtain⟨a,c,rfl,hx,hb⟩:=h; exact⟨_,I,⟨a,c,I,hx.mono J.size⟩,hb⟩,by intro u J g F; exact(iV (n:=t.e.n2) (v:=t.e.s2) (l:=t.e.l2) ((eU (f:=bn) h4.2).below (Ip S.E J)) (bg.2)).mono λe w2 h=>by obtain⟨a,c,rfl,hx,hb⟩:=h; exact⟨_,I,⟨a,c,I,hx.mono J.size⟩,hb⟩,G⟩) λac u x X3 F S=>?_;obtain⟨Aw,D,-⟩:=F;obtain⟨aw,ax,cz,Aw⟩:=Aw;rw[cz]at S;obtain⟨ay,az,c0,D⟩:=D;rw[c0]at S;refine Rf S 2 [] [(28,.agg #[.b t.e.n1,.s aw t.e.l1.length ax,.b t.e.n2,.s ay t.e.l2.length az]),(29,.q b2 16)] λS=>Ğ S 2 (off:=16) (cs:=[.b t.e.n1,.s aw t.e.l1.length ax,.b t.e.n2,.s ay t.e.l2.length az]) I λu IL S=>?_;have Ae:=aU.ch (MR.ext X3) IL Z;have zX:=aU.ch (P7.ext X3) IL Z;have vF:=aU.ch (EC.ext X3) IL Z;have Ue:=aU.ch (cg.ext X3) IL Z;have MS:=aU.ch Aw IL Z;have P9:=aU.ch D IL Z;have ci:=(BF (r:=⟨t.e.n1,aw,ax,t.e.l1,t.e.n2,ay,az,t.e.l2⟩) MS P9);refine Rh<|bu _ _<|į<|Rf S 2 [] [(13,.i 5)] λS=>Rh ?_;show Code.rounds _ _ _ 2 _ _;rw[χ];refine YJ λ_ bw=>Rf S 1 [] [(14,.b true)] λS=>Rh<|bw _ _<|Ô λ_ bz=>Jj S<|ú<|bz _ _<|Ô λ_ ca=>Ě<|YJ λ_ cb=>Rf S 3 [.M 0 5] [(4,.q b2 20)] λS=>Rh (cb _ _ ?_);have y5:=S.E.size;have z1:=(S.bx 1).1;have z2:=(S.bx 2).1;refine Sx.hoist [0] 11<|rJ S 11 [(22,λv w1=>∃a c,v = .agg #[.b t.f.n1,.s a t.f.l1.length c]∧Cp 119 1 pW u.heap.size (.s a t.f.l1.length c) t.f.l1 w1),(27,λv w1=>∃a c,v = .agg #[.b t.f.n2,.s a t.f.l2.length c]∧Cp 119 1 pW u.heap.size (.s a t.f.l2.length c) t.f.l2 w1)] (λr=>[.M 2 20,.M 2 22]) (λx=>[x 22,x 27]) (λx=>[(_,_,true,x 22,22),(_,_,true,x 27,27)]) [[],[]] (λx=>[(17,.q b2 20),(22,x 22),(27,x 27)]) ⟨λ_ _ _ k h=>by obtain⟨a,c,e,h⟩:=h; exact⟨a,c,e,h.ext k⟩,λ_ _ _ k h=>by obtain⟨a,c,e,h⟩:=h; exact⟨a,c,e,h.ext k⟩,G⟩ (λx=>⟨by intro u J g F; exact(iV (n:=t.f.n1) (v:=t.f.s1) (l:=t.f.l1) ((eU (f:=bn) h5.1).below (Ip S.E J)) (bh.1)).mono λe w2 h=>by obtain⟨a,c,rfl,hx,hb⟩:=h; exact⟨_,I,⟨a,c,I,hx.mono J.size⟩,hb⟩,by intro u J g F; exact(iV (n:=t.f.n2) (v:=t.f.s2) (l:=t.f.l2) ((eU (f:=bn) h5.2).below (Ip S.E J)) (bh.2)).mono λe w2 h=>by obtain⟨a,c,rfl,hx,hb⟩:=h; exact⟨_,I,⟨a,c,I,hx.mono J.size⟩,hb⟩,G⟩) λac u x GV F S=>?_;obtain⟨Aw,D,-⟩:=F;obtain⟨a3,a4,J,Aw⟩:=Aw;rw[J]at S;obtain⟨a5,a6,J,D⟩:=D;rw[J]at S;refine Rf S 2 [] [(28,.agg #[.b t.f.n1,.s a3 t.f.l1.length a4,.b t.f.n2,.s a5 t.f.l2.length a6]),(29,.q b2 20)] λS=>Ğ S 2 (off:=20) (cs:=[.b t.f.n1,.s a3 t.f.l1.length a4,.b t.f.n2,.s a5 t.f.l2.length a6]) I λu J S=>?_;have X4:=aU.ch (Ae.ext GV) J Z;have Ya:=aU.ch (zX.ext GV) J Z;have Jl:=aU.ch (vF.ext GV) J Z;have Jm:=aU.ch (Ue.ext GV) J Z;have Jo:=aU.ch (ci.ext GV) J Z;have Yb:=aU.ch Aw J Z;have cj:=aU.ch D J Z;have ck:=(BF (r:=⟨t.f.n1,a3,a4,t.f.l1,t.f.n2,a5,a6,t.f.l2⟩) Yb cj);refine Rh<|ca _ _<|į<|Rf S 2 [] [(13,.i 6)] λS=>Rh ?_;show Code.rounds _ _ _ 1 _ _;rw[χ];refine YJ λ_ D=>Rf S 1 [] [(14,.z)] λS=>Rh<|D _ _<|Ô λ_ J=>FH S<|Ļ<|BA _ _<|YJ λ_ J=>Rf S 1 [.M 2 0] [(31,.agg #[.b t.a.n1,.s aa t.a.l1.length ab,.b t.a.n2,.s ae t.a.l2.length af,.b t.b.n1,.s ag t.b.l1.length ah,.b t.b.n2,.s ai t.b.l2.length al,.b t.c.n1,.s am t.c.l1.length an,.b t.c.n2,.s ao t.c.l2.length WX,.b t.d.n1,.s ap t.d.l1.length aq,.b t.d.n2,.s ar t.d.l2.length av,.b t.e.n1,.s aw t.e.l1.length ax,.b t.e.n2,.s ay t.e.l2.length az,.b t.f.n1,.s a3 t.f.l1.length a4,.b t.f.n2,.s a5 t.f.l2.length a6])] λS=>Ğ S 1 (off:=0) (cs:=[.b t.a.n1,.s aa t.a.l1.length ab,.b t.a.n2,.s ae t.a.l2.length af,.b t.b.n1,.s ag t.b.l1.length ah,.b t.b.n2,.s ai t.b.l2.length al,.b t.c.n1,.s am t.c.l1.length an,.b t.c.n2,.s ao t.c.l2.length WX,.b t.d.n1,.s ap t.d.l1.length aq,.b t.d.n2,.s ar t.d.l2.length av,.b t.e.n1,.s aw t.e.l1.length ax,.b t.e.n2,.s ay t.e.l2.length az,.b t.f.n1,.s a3 t.f.l1.length a4,.b t.f.n2,.s a5 t.f.l2.length a6]) I λu D S=>?_;have MV:=aU.ch X4 D Z;have Qr:=aU.ch Ya D Z;have Qs:=aU.ch Jl D Z;have Yc:=aU.ch Jm D Z;have cm:=aU.ch Jo D Z;have cn:=aU.ch ck D Z;refine Rh<|J _ _<|rtc S 1 results100 I (v := .agg #[.b t.a.n1,.s aa t.a.l1.length ab,.b t.a.n2,.s ae t.a.l2.length af,.b t.b.n1,.s ag t.b.l1.length ah,.b t.b.n2,.s ai t.b.l2.length al,.b t.c.n1,.s am t.c.l1.length an,.b t.c.n2,.s ao t.c.l2.length WX,.b t.d.n1,.s ap t.d.l1.length aq,.b t.d.n2,.s ar t.d.l2.length av,.b t.e.n1,.s aw t.e.l1.length ax,.b t.e.n2,.s ay t.e.l2.length az,.b t.f.n1,.s a3 t.f.l1.length a4,.b t.f.n2,.s a5 t.f.l2.length a6]) ?_;exact⟨⟨⟨t.a.n1,aa,ab,t.a.l1,t.a.n2,ae,af,t.a.l2⟩,⟨t.b.n1,ag,ah,t.b.l1,t.b.n2,ai,al,t.b.l2⟩,⟨t.c.n1,am,an,t.c.l1,t.c.n2,ao,WX,t.c.l2⟩,⟨t.d.n1,ap,aq,t.d.l1,t.d.n2,ar,av,t.d.l2⟩,⟨t.e.n1,aw,ax,t.e.l1,t.e.n2,ay,az,t.e.l2⟩,⟨t.f.n1,a3,a4,t.f.l1,t.f.n2,a5,a6,t.f.l2⟩⟩,I,afe (kJ MV Z) (kJ Qr Z) (kJ Qs Z) (kJ Yc Z) (kJ cm Z) (kJ cn Z),I,S.E⟩
abbrev aiY{x:α}(D:M.length=i)(J:∀x,(f x).length=k):(((M++x::q).flatMap f).drop (0+i*k)).take (f x).length=f x:=by
 rw[ŀ,List.drop_append,jB J,D,Ō (by rw[jB J,D]; omega),show 0+i*k-i*k=0 by omega,Ģ,Ϻ,Ķ,List.take_left]
abbrev Jp{B:List y9}(D:M.length=i)(J:∀x,(f x).length=k)(S:o+cs.length<=B.length):Sx.spl (M.flatMap f++(B++q.flatMap f)) (0+i*k+o) cs=M.flatMap f++(Sx.spl B o cs++q.flatMap f):=by
 have hl:(M.flatMap f).length=i*k:=by rw[jB J,D]
 unfold Sx.spl;rw[List.take_append,List.drop_append,hl,Ď Z,Ō Z,Ģ,show 0+i*k+o-i*k=o by omega,show 0+i*k+o+cs.length-i*k=o+cs.length by omega,List.take_append_of_le_length Z,List.drop_append_of_le_length S];simp only[ç]
abbrev Ht{A:List y9}(h:o+cs.length<=A.length):(Sx.spl A o cs).length=A.length:=by unfold Sx.spl; simp; omega
def ak.re(x:ak)(a1:Option Addr)(c1:Nat)(a2:Option Addr)(c2:Nat)(t:bD):ak:=⟨x.kind,x.color,x.p0,x.p1,x.bW,a1,c1,x.stops,x.spread,⟨x.img.w,x.img.h,a2,c2,x.img.l⟩,x.cZ,t⟩
abbrev Uf{B:Nat->Prop}{x:ak}{c1 c2:Nat}{t:bD}(D:x.ok w1)(J:Sx.On B (kF 202 5 dI.cells base (.s a1 x.stops.length c1) x.stops) w)(S:Sx.On B (kF 178 4 bI.cells base (.s a2 x.img.l.length c2) x.img.l) w)(h3:Sx.On B (λw=>t.oZ base w) w):Sx.On B (λw=>(x.re a1 c1 a2 c2 t).oZ base w) w:=
 ď (ï J (ï S h3)) λ_ h=>⟨⟨D.1,D.2.1,D.D,D.C,h.1.1,D.S,D.U,⟨D.2.2.2.2.2.2.2.1.1,D.2.2.2.2.2.2.2.1.2.1,h.2.1.1⟩,D.T,h.F.ok⟩,h.1.2,h.2.1.2,h.F⟩
abbrev afi{x:ak}{c1 c2:Nat}{t:bD}:Sx.spl (Sx.spl (Sx.spl x.cells 10 [.s a1 x.stops.length c1]) 14 [.s a2 x.img.l.length c2]) 16 t.cells=(x.re a1 c1 a2 c2 t).cells:=rfl
def ak.lim(p:ak):Prop:=p.stops.length<=8796093022208∧p.img.l.length<=35184372088832∧p.t.lim
abbrev Ug{P:ak->Prop}{M:List ak}{x:ak}(h:∀p∈M,P p)(J:P x):∀p∈M++[x],P p:=λp D=>by
 rcases ā.1 D with D | D
 .exact h p D
 rw[û.1 D]; exact J
abbrev Jq{l M:List ak}{x y:ak}(hk:k<l.length)(D:l[k]=x)(h:M.map ak.strip=(l.take k).map ak.strip)(J:y.strip=x.strip):(M++[y]).map ak.strip=(l.take (k+1)).map ak.strip:=by
 rw[ĸ hk,Ħ,Ħ,h,D]; simp[J]
abbrev Qu{L:List ak}(h:aG 40 ak.cells w v L):dQ w 40 v L.length (L.flatMap ak.cells):=jV h (λ_=>I) λ_=>rfl
abbrev Qv{L:List ak}(h:aG 40 ak.cells w v L)(hl:L.length<=270649016067) :
  Nq prog 150 #[v] w λe w'=>∃D,e = .R D∧w'.ownsRow w.heap.size 133 40 D L.length (L.flatMap ak.cells)∧Ext w w':=by
 obtain⟨a,c,rfl⟩:=h.shape;cases a with
 | none =>
  obtain rfl:L=[]:=qN h;obtain rfl:=kT h;refine Ä func150 ntmps150 λS=>ã S λS=>Xe S (.sn) λS=>?_;exact⟨_,I,⟨by simp,.inl ⟨I,I⟩⟩,S.E⟩
 | some p =>
  refine Ä func150 ntmps150 λS=>ă S λS=>?_;have R:=Č S;refine è S λS=>Υ S R 5 0 133 40 [] λD u J E6 X7 R S=>ÿ S λS=>è S λS=>Ń S R 0 7 I Dv (Qu (h.below S.E)) (by show 0+L.length<=9223372036854775807; omega) (by show(0+L.length)*_<=140737488355328; omega) λD u J X9 R S=>ÿ S λS=>Xe S J λS=>?_;have D:=R.own _ Ö;refine⟨_,I,?_,S.E⟩;simpa using D
abbrev Jr{B:Nat}{e:Ð}{xs:List y9}(h:w.ownsRow B e k (.s a n c) n xs)(hn:0<n):∃g,a=some ⟨g,0,none⟩:=by
 obtain⟨J,⟨e,S⟩ | ⟨g,cap,D,e,_⟩⟩:=h
 .omega
 simp only[Ĉ]at e; exact⟨g,e.1⟩
abbrev Js{l:List ak}(h:iY w v l)(hl:l.length<=270649016067)(al:∀p∈l,p.lim) :
  Nq prog 102 #[v] w λe w'=>∃D J,e = .R D∧pX w.heap.size D J w'∧J.map ak.strip=l.map ak.strip∧Ext w w':=by
 obtain⟨a,cap,rfl⟩:=h.1.shape;refine Ä func102 ntmps102 λS=>?_;have R:=Č S;have q0:=S.E.size;refine ê S (Qv (h.1.below S.E) hl) ?_;rintro e u ⟨v,rfl,D,J⟩;refine⟨_,I,J,λS=>?_⟩;have R:=(R.ext J).add (r:=⟨133,40,v,l.length,l.flatMap ak.cells⟩) D R.lt q0;obtain⟨a1,c1,rfl⟩:=Sx.jf D;refine ĉ S (ι:=Nat×List ak) (λp D w'=>p.1<=l.length∧(p.2.map ak.strip=(l.take p.1).map ak.strip)∧Rw w w' [] [⟨133,40,.s a1 l.length c1,l.length,(p.2++l.drop p.1).flatMap ak.cells⟩]∧Sx.Ow w.heap.size (Ob [] [⟨133,40,.s a1 l.length c1,l.length,(p.2++l.drop p.1).flatMap ak.cells⟩]) (λW=>∀z∈p.2,z.oZ w.heap.size W) w'∧Sx.St w D w' 44 [(0,.s a l.length cap),(2,.sn),(3,.s a1 l.length c1),(9,.i l.length),(10,.i p.1)] [] []) (λp=>l.length-p.1) (0,[]) (λS=>⟨Î _,I,R,(λ_ _ _ z D=>by cases D),S.sn⟩) ?_;rintro⟨k,M⟩ ac u fQ eu hI;try dsimp only at hI
 obtain⟨hk,hR,R,Ad,S⟩:=hI;refine Ċ S λS=>À S (decide ((k:Int)<(l.length:Int))) (λmO S=>?_) λmO S=>?_
 .have hk:k<l.length:=by have:=Ý mO; omega
  obtain⟨y,J⟩:∃y,l[k]=y:=⟨_,I⟩;have hd:l.drop k=y::l.drop (k+1):=by rw[<-J]; exact ń hk
  have hM:M.length=k:=by have:=Ñ List.length hR; simp at this; omega
  obtain⟨g,rfl⟩:=Jr (R.own _ Ö) (by show 0<l.length; omega);have D:=h.2 y (J▸ò hk);have aa:=al y (J▸ò hk);obtain⟨hr,hg,hn⟩:=R.range Ö I (0+k*40) (cs:=y.cells) (by show(List.drop _ ((M++l.drop k).flatMap ak.cells)).take _=_; rw[hd]; exact aiY hM (λ_=>I));have S:=S.view hg hr hn;have q1:=S.E.size;have q2:=R.lt;refine O1 S 6 [] [.idx k l.length] (hk:=⟨hk,G⟩) λS=>Sx.zd S λS id=>Sx.hoist [1,2] 19<|rJ S 19 [(23,λv w1=>Cp 202 5 dI.cells u.heap.size v y.stops w1),(29,λv w1=>Cp 178 4 bI.cells u.heap.size v y.img.l w1),(34,λv w1=>∃t:bD,v=t.v∧t.cp u.heap.size w1∧t.strip=y.t.strip)] (λr=>[.M 0 10,.M 0 14,.M 0 16]) (λx=>[x 23,x 29,x 34]) (λx=>[(_,_,true,x 23,23),(_,_,true,x 29,29),(_,_,true,x 34,34)]) [[],[],[]] (λx=>[(16,.pointer (some ⟨g,0+k*40,none⟩)),(17,.pointer (some ⟨g,0+k*40,none⟩)),(18,.pointer (some ⟨g,0+k*40,none⟩)),(23,x 23),(29,x 29),(34,x 34)]) ⟨λ_ _ _ k h=>h.ext k,λ_ _ _ k h=>h.ext k,λ_ _ _ k h=>by obtain⟨t,e,h,q⟩:=h; exact⟨t,e,h.ext k,q⟩,G⟩ (λx=>⟨by intro u hC g F; exact(Ud (D.A.below (Ip S.E hC)) aa.1).mono λe w2 h=>by obtain⟨v,rfl,J,hb⟩:=h; exact⟨_,I,J.mono hC.size,hb⟩,by intro u hC g F; exact(Jh (D.2.2.2.2.2.2.2.1.F.below (Ip S.E hC)) aa.2.1).mono λe w2 h=>by obtain⟨v,rfl,J,hb⟩:=h; exact⟨_,I,J.mono hC.size,hb⟩,by intro u hC g F; exact(Au (D.I.below (Ip S.E hC)) aa.F).mono λe w2 h=>by obtain⟨t,rfl,J,ht,hb⟩:=h; exact⟨_,I,⟨t,I,XQ J hC.size,ht⟩,hb⟩,G⟩) λac u x BG F S=>zdb S λS=>?_;obtain⟨ab,ae,af,-⟩:=F;obtain⟨b1,d1,e1⟩:=Cp.shape ab;rw[e1]at S ab;try rw[e1]
  obtain⟨b2,d2,e2⟩:=Cp.shape ae;rw[e2]at S ae;try rw[e2]
  obtain⟨t,e3,af,ht⟩:=af;rw[e3]at S;try rw[e3]
  obtain⟨R,ai⟩:=R.aZ S (à BG);have G0:Sx.Ow _ _ (λW=>(y.re b1 d1 b2 d2 t).oZ w.heap.size W) _:=ď (Sx.aU.ow (Uf D ab ae af) q1 q2) λ_ h=>h.le q1;have D:((M++l.drop k).flatMap ak.cells).length=l.length*40:=by rw[jB (f:=ak.cells) (k:=40) (λ_=>I)]; simp; omega
  have am:k*40+40<=l.length*40:=Z
  refine è S λS=>Oh S R 0 (off:=0+k*40+10) (v := .s b1 y.stops.length d1) I I (by show 0+k*40+10+1<=_; rw[D]; omega) λu ag R S=>zo0 S λS=>è S λS=>Oh S R 0 (off:=0+k*40+14) (v := .s b2 y.img.l.length d2) I I (by show 0+k*40+14+1<=_; rw[Ht (by show 0+k*40+10+1<=_; rw[D]; omega),D]; omega) λu Me R S=>zo0 S λS=>è S λS=>Uh S R 0 (off:=0+k*40+16) (cs:=t.cells) I I (by show 0+k*40+16+24<=_; rw[Ht (by show 0+k*40+14+1<=_; rw[Ht (by show 0+k*40+10+1<=_; rw[D]; omega),D]; omega),Ht (by show 0+k*40+10+1<=_; rw[D]; omega),D]; omega) λu D R S=>zo0 S λS=>O1 S 2 [] [kS 42 k] (hk:=⟨ù Z,G⟩) λS=>ċ S fQ λS=>?_;have ah:Sx.spl (Sx.spl (Sx.spl ((M++l.drop k).flatMap ak.cells) (0+k*40+10) [.s b1 y.stops.length d1]) (0+k*40+14) [.s b2 y.img.l.length d2]) (0+k*40+16) t.cells=((M++[y.re b1 d1 b2 d2 t])++l.drop (k+1)).flatMap ak.cells:=by
   rw[show(M++[y.re b1 d1 b2 d2 t])++l.drop (k+1)=M++(y.re b1 d1 b2 d2 t::l.drop (k+1)) by simp,hd,ŀ,ŀ,Ķ,Ķ,Jp (k:=40) (f:=ak.cells) hM (λ_=>I) (Ý X),Jp (k:=40) (f:=ak.cells) hM (λ_=>I) (Ý X),Jp (k:=40) (f:=ak.cells) hM (λ_=>I) (Ý X),afi]
  exact eu _ _ ((k+1),M++[y.re b1 d1 b2 d2 t]) ⟨Z,(Jq hk J hR (by show(y.re b1 d1 b2 d2 t).strip=y.strip; unfold ak.strip ak.re; rw[ht]; rfl)),R.as (Ñ (λxs=>[(⟨133,40,.s (some ⟨g,0,none⟩) l.length c1,l.length,xs⟩:Sx.Row)]) ah),ď (ï (þ Ad (Ì ai (Ì ag (Ì Me D)))) (þ G0 (Ì ag (Ì Me D)))) λ_ h=>Ug h.1 h.2,S.sn⟩ (by show _-_<_-_; omega)
 refine Xe S (.s a1 l.length c1) λS=>?_;have hk:=é mO;obtain rfl:k=l.length:=by omega
 exact⟨_,M,I,ï (fK (λ_=>I) (R.own _ Ö) (by have:=Ñ List.length hR; simp at this; exact this.symm) Y) (ľ Ad),by simpa using hR,S.E⟩
def aj.lim(n:aj):Prop:=n.t.lim∧n.clip.length<=2513169434916∧n.path.length<=2513169434916∧n.fill.length<=270649016067∧(∀p∈n.fill,p.lim)∧n.style.dash.length<=17592186044416∧n.stroke.length<=270649016067∧(∀p∈n.stroke,p.lim)∧n.img.l.length<=35184372088832
abbrev aj.cp (base:Nat)(n:aj)(w:E5):Prop:=Sx.aU base (λW=>n.oZ base W) w
abbrev Dy{n:aj}(h:n.cp base w)(D:b0<=base):n.cp b0 w:=ď (Sx.aU.le h D) λ_ h=>⟨h.1,h.2.1.le D,h.D.le D,h.C.le D,h.A.le D,h.S.le D,h.U.le D,h.2.2.2.2.2.2.2.le D⟩
abbrev aar{n m:aj}(h:n.ok w1)(e1:m.id=n.id)(e2:m.kind=n.kind)(e3:m.depth=n.depth)(e4:m.clip=n.clip)(e5:m.aP=n.aP)(e6:m.blend=n.blend)(e7:m.path=n.path)(e8:m.aV=n.aV)(J:m.style.key=n.style.key)(S:m.img.key=n.img.key)(ac:m.cZ=n.cZ)
  (h1:m.t.cp base w) (h2:Cp 163 7 dL.cells base m.cs m.clip w) (h3:Cp 163 7 dL.cells base m.ps m.path w) (h4:pX base m.fs m.fill w) (h5:pX base m.ss m.stroke w) (h6:Cp 3 1 (λx=>[Ac x]) base m.style.s m.style.dash w) (h7:Cp 178 4 bI.cells base m.img.s m.img.l w):m.cp base w:=by
 obtain⟨k1,k2,k3,k4,k5,k6,k7,k8,k9,ae,D,af,aa,ab⟩:=h;simp only[aX.key,kW.mk.injEq]at J;simp only[dH.key,oW.mk.injEq]at S;refine ď (ï h1 (ï h2 (ï h3 (ï h4 (ï h5 (ï h6 h7)))))) λW ⟨q1,q2,q3,q4,q5,q6,q7⟩=>⟨?_,q1,q2.2,q3.2,q4,q5,q6.2,q7.2⟩;refine⟨e1▸k1,e2▸k2,e3▸k3,q1.ok,⟨q2.1,?_⟩,e5▸k6,e6▸k7,⟨q3.1,?_⟩,e8▸k9,q4.ok,⟨?_,?_,?_,?_,dP q6.1,?_,?_⟩,q5.ok,⟨?_,?_,q7.1⟩,ac▸ab⟩
 .rw[e4]; exact k5.2
 .rw[e7]; exact k8.2
 .rw[J.1]; exact D.1
 .rw[J.2.1]; exact D.2.1
 .rw[J.D]; exact D.D
 .rw[J.C]; exact D.C
 .rw[J.A]; exact D.S
 .rw[J.J]; exact D.2.2.2.2.2.2
 .rw[S.1]; exact aa.1
 rw[S.2.1]; exact aa.2.1
abbrev clone_any{nd:aj}(h:nd.ok w)(hl:nd.lim) :
  Nq prog 63 #[nd.v] w λe w'=>∃m:aj,e = .R m.v∧m.cp w.heap.size w'∧m.strip=nd.strip∧Ext w w':=by
 skip;refine Ä func63 ntmps63 λS=>Â S λu b2 J D S=>Â S λu b5 J D S=>?_;have y:=S.E.size;have z0:=(S.bx 0).1;have z1:=(S.bx 1).1;refine O1 S 2 [] [.M 1 3] λS=>ê S (Au (h.C.below S.E) hl.1) ?_;rintro e u ⟨t,rfl,J,hs,D⟩;refine⟨_,I,D,λS=>?_⟩;refine É S 1 I λu D S=>?_;have Dw:=aU.ch J D Z;have y:=S.E.size;have z0:=(S.bx 0).1;have z1:=(S.bx 1).1;refine jm S 7 [(9,λv w1=>Cp 163 7 dL.cells u.heap.size v nd.clip w1),(12,λv w1=>Cp 163 7 dL.cells u.heap.size v nd.path w1)] (λr=>[.M 1 27,.M 1 33]) (λx=>[x 9,x 12]) (λx=>[(_,_,true,x 9,9),(_,_,true,x 12,12)]) [[],[]] (λx=>[(9,x 9),(12,x 12),(13,.q b2 27)]) ⟨λ_ _ _ k h=>h.ext k,λ_ _ _ k h=>h.ext k,G⟩ (λx=>⟨by intro u D g F; exact(Jg (h.2.2.2.2.1.1.below (Ip S.E D)) hl.2.1).mono λe w2 h=>by obtain⟨v,rfl,J,hb⟩:=h; exact⟨_,I,J.mono D.size,hb⟩,by intro u D g F; exact(Jg (h.2.2.2.2.2.2.2.1.1.below (Ip S.E D)) hl.D).mono λe w2 h=>by obtain⟨v,rfl,J,hb⟩:=h; exact⟨_,I,J.mono D.size,hb⟩,G⟩) λu x GL F S=>?_;obtain⟨F9,MB,-⟩:=F;obtain⟨a1,c1,e1⟩:=Cp.shape F9;rw[e1]at S F9;try rw[e1]
 obtain⟨a2,c2,e2⟩:=Cp.shape MB;rw[e2]at S MB;try rw[e2]
 refine ë S 1 I λu ab S=>?_;have oU:=aU.ch (Dw.ext GL) ab Z;have Aa:=aU.ch F9 ab Z;have uI:=aU.ch MB ab Z;refine ë S 1 I λu ac S=>?_;have pY:=aU.ch oU ac Z;have EM:=aU.ch Aa ac Z;have vM:=aU.ch uI ac Z;have y:=S.E.size;have z0:=(S.bx 0).1;have z1:=(S.bx 1).1;refine jm S 7 [(17,λv w1=>∃l,pX u.heap.size v l w1∧l.map ak.strip=nd.fill.map ak.strip),(20,λv w1=>∃l,pX u.heap.size v l w1∧l.map ak.strip=nd.stroke.map ak.strip)] (λr=>[.M 1 35,.M 1 42]) (λx=>[x 17,x 20]) (λx=>[(_,_,true,x 17,17),(_,_,true,x 20,20)]) [[],[]] (λx=>[(17,x 17),(20,x 20),(21,.q b2 35)]) ⟨λ_ _ _ k h=>by obtain⟨l,h,e⟩:=h; exact⟨l,h.ext k,e⟩,λ_ _ _ k h=>by obtain⟨l,h,e⟩:=h; exact⟨l,h.ext k,e⟩,G⟩ (λx=>⟨by intro u D g F; exact(Js (h.K.below (Ip S.E D)) hl.C hl.A).mono λe w2 h=>by obtain⟨v,l,rfl,J,hs,hb⟩:=h; exact⟨_,I,⟨l,qO J D.size,hs⟩,hb⟩,by intro u D g F; exact(Js (h.H.below (Ip S.E D)) hl.U hl.G).mono λe w2 h=>by obtain⟨v,l,rfl,J,hs,hb⟩:=h; exact⟨_,I,⟨l,qO J D.size,hs⟩,hb⟩,G⟩) λu x ae F S=>?_;obtain⟨MI,aa,-⟩:=F;obtain⟨l3,MI,s3⟩:=MI;obtain⟨a3,c3,e3⟩:=(æ MI).1.1.shape;rw[e3]at S MI;try rw[e3]
 obtain⟨l4,aa,s4⟩:=aa;obtain⟨a4,c4,e4⟩:=(æ aa).1.1.shape;rw[e4]at S aa;try rw[e4]
 refine ë S 1 I λu Hr S=>?_;have S:=S.fl;have BI:=aU.ch (pY.ext ae) Hr Z;have Dz:=aU.ch (EM.ext ae) Hr Z;have zY:=aU.ch (vM.ext ae) Hr Z;have EF:=aU.ch MI Hr Z;have tV:=aU.ch aa Hr Z;refine ë S 1 I λu L8 S=>?_;have xX:=aU.ch BI L8 Z;have Dc:=aU.ch Dz L8 Z;have IV:=aU.ch zY L8 Z;have EG:=aU.ch EF L8 Z;have Af:=aU.ch tV L8 Z;have y:=S.E.size;have z0:=(S.bx 0).1;have z1:=(S.bx 1).1;refine jm S 10 [(26,λv w1=>Cp 3 1 (λx=>[Ac x]) u.heap.size v nd.style.dash w1),(30,λv w1=>Cp 178 4 bI.cells u.heap.size v nd.img.l w1)] (λr=>[.M 1 40,.M 1 45]) (λx=>[x 26,x 30]) (λx=>[(_,_,true,x 26,26),(_,_,true,x 30,30)]) [[],[]] (λx=>[(26,x 26),(30,x 30),(32,.q b2 40)]) ⟨λ_ _ _ k h=>h.ext k,λ_ _ _ k h=>h.ext k,G⟩ (λx=>⟨by intro u D g F; exact(XY ((eU (f:=Ac) h.2.2.2.2.2.2.2.2.2.2.1.A).below (Ip S.E D)) hl.S).mono λe w2 h=>by obtain⟨v,rfl,J,hb⟩:=h; exact⟨_,I,J.mono D.size,hb⟩,by intro u D g F; exact(Jh (h.2.2.2.2.2.2.2.2.2.2.2.2.1.F.below (Ip S.E D)) hl.2.2.2.2.2.2.2.2).mono λe w2 h=>by obtain⟨v,rfl,J,hb⟩:=h; exact⟨_,I,J.mono D.size,hb⟩,G⟩) λu x GK F S=>?_;obtain⟨J,af,-⟩:=F;obtain⟨a5,c5,D⟩:=Cp.shape J;rw[D]at S J;try rw[D]
 obtain⟨a6,c6,D⟩:=Cp.shape af;rw[D]at S af;try rw[D]
 refine ë S 1 I λu D S=>?_;have EN:=aU.ch (xX.ext GK) D Z;have Jk:=aU.ch (Dc.ext GK) D Z;have xW:=aU.ch (IV.ext GK) D Z;have BJ:=aU.ch (EG.ext GK) D Z;have vN:=aU.ch (Af.ext GK) D Z;have Jt:=aU.ch J D Z;have J:=aU.ch af D Z;refine ë S 1 I λu D S=>?_;have Tv:=aU.ch EN D Z;have Ui:=aU.ch Jk D Z;have MR:=aU.ch xW D Z;have P7:=aU.ch BJ D Z;have EC:=aU.ch vN D Z;have Dx:=aU.ch Jt D Z;have GU:=aU.ch J D Z;refine O1 S 1 [] [.M 1 0] λS=>É S 0 I λu D S=>?_;have S:=S.fl;have J:=aU.ch Tv D Z;have Uj:=aU.ch Ui D Z;have CZ:=aU.ch MR D Z;have P8:=aU.ch P7 D Z;have Qw:=aU.ch EC D Z;have Ae:=aU.ch Dx D Z;have zX:=aU.ch GU D Z;refine ü S 0 I (v := .agg (Sx.L [.i nd.id,.i nd.kind,.i nd.depth]++t.cells++Sx.L [.s a1 nd.clip.length c1,.i nd.aP,.u (nd.dJ.toNat:Int),.i nd.blend,.b nd.isolated,.b nd.dA,.s a2 nd.path.length c2,.i nd.aV,.s a3 l3.length c3,.i nd.style.width,.i nd.style.join,.i nd.style.cap,.i nd.style.eP,.s a5 nd.style.dash.length c5,.i nd.style.phase,.s a4 l4.length c4,.i nd.img.w,.i nd.img.h,.s a6 nd.img.l.length c6,.i nd.cZ]).toArray) λS=>?_;exact⟨⟨nd.id,nd.kind,nd.depth,t,a1,c1,nd.clip,nd.aP,nd.dJ,nd.blend,nd.isolated,nd.dA,a2,c2,nd.path,nd.aV,a3,c3,l3,⟨nd.style.width,nd.style.join,nd.style.cap,nd.style.eP,a5,c5,nd.style.dash,nd.style.phase⟩,a4,c4,l4,⟨nd.img.w,nd.img.h,a6,c6,nd.img.l⟩,nd.cZ⟩,I,aar h I I I I I I I I I I I (XQ J Z) (Cp.mono Uj Z) (Cp.mono CZ Z) (qO P8 Z) (qO Qw Z) (Cp.mono Ae Z) (Cp.mono zX Z),by unfold aj.strip; rw[hs,s3,s4]; rfl,S.E⟩
abbrev xY(n:aj):n.strip.key=n.key:=by
 unfold aj.key aj.strip;simp only[List.map_map];rfl
abbrev BK{a b:aj}(h:a.strip=b.strip):a.key=b.key:=by rw[<-xY a,<-xY b,h]
abbrev vO{l m:List aj}(h:l.map aj.strip=m.map aj.strip):l.map aj.key=m.map aj.key:=by
 have e:∀l:List aj,l.map aj.key=(l.map aj.strip).map aj.key:=λl=>by
  rw[List.map_map];exact List.map_congr_left λn _=>(xY n).symm
 rw[e l,e m,h]
abbrev Ju{l m:List ak}(h:l.map ak.strip=m.map ak.strip)(hf:∀p∈m,p.t.fit K):∀p∈l,p.t.fit K:=λp D=>by
 have J:p.strip∈m.map ak.strip:=h▸ô.2 ⟨p,D,I⟩;obtain⟨q,S,e⟩:=ô.1 J;have D:q.strip.t.fit K:=hf q S;rw[e]at D;exact D
abbrev Jv{a b:aj}(h:a.strip=b.strip):a.t.strip=b.t.strip∧a.fill.map ak.strip=b.fill.map ak.strip∧a.stroke.map ak.strip=b.stroke.map ak.strip:=by
 unfold aj.strip at h;simp only[aj.mk.injEq]at h;exact⟨h.C,h.V,h.2.2.2.2.2.2.2.2.2.2.2.2.2.2.2.2.2.2.2.2.2.2.1⟩
def aj.Qx(K:Nat)(n:aj):Prop:=n.t.fit K∧(∀p∈n.fill,p.t.fit K)∧(∀p∈n.stroke,p.t.fit K)∧1<=K∧K<=10000
abbrev Oi{a b:aj}(h:a.Qx K)(D:b.strip=a.strip):b.Qx K:=by
 obtain⟨J,S,h3⟩:=Jv D;have D:a.t.strip.fit K:=h.1;exact⟨by rw[<-J]at D; exact D,Ju S h.2.1,Ju h3 h.D,h.N⟩
abbrev fits_all{l m:List aj}(J:m.map aj.strip=l.map aj.strip)(h:∀n∈l,n.Qx K):∀n∈m,n.Qx K:=λn hn=>by
 have D:n.strip∈l.map aj.strip:=J▸ô.2 ⟨n,hn,I⟩;obtain⟨q,J,e⟩:=ô.1 D;exact Oi (h q J) e.symm
abbrev uM{l m:List ak}(S:m.map ak.strip=l.map ak.strip)(h:∀p∈l,p.lim):∀p∈m,p.lim:=λp D=>by
 have J:p.strip∈l.map ak.strip:=S▸ô.2 ⟨p,D,I⟩;obtain⟨q,S,e⟩:=ô.1 J;have D:q.strip.lim:=h q S;rw[e]at D;exact D
abbrev Oj{a b:aj}(h:a.lim)(D:b.strip=a.strip):b.lim:=by
 obtain⟨h1,S,h3⟩:=Jv D;have J:b.fill.length=a.fill.length:=by have:=Ñ List.length S; simpa using this
 have J:b.stroke.length=a.stroke.length:=by have:=Ñ List.length h3; simpa using this
 unfold aj.strip at D;simp only[aj.mk.injEq,aX.strip,aX.mk.injEq,dH.strip,dH.mk.injEq]at D;obtain⟨k1,k2,k3,J,k5,k6,k7,k8,k9⟩:=h;have J:a.t.strip.lim:=k1;rw[<-h1]at J;refine⟨J,?_,?_,Z,uM S k5,?_,Z,uM h3 k8,?_⟩;all_goals simp only[D]; first | exact k2 | exact k3 | exact k6 | exact k9
abbrev vP{l m:List aj}(J:m.map aj.strip=l.map aj.strip)(h:∀n∈l,n.lim):∀n∈m,n.lim:=λn hn=>by
 have D:n.strip∈l.map aj.strip:=J▸ô.2 ⟨n,hn,I⟩;obtain⟨q,J,e⟩:=ô.1 D;exact Oj (h q J) e.symm
abbrev aj.xZ (K:Nat)(n:aj):Prop:=n.Qx K∧n.lim
abbrev vS{a b:aj}(h:a.xZ K)(D:b.strip=a.strip):b.xZ K:=⟨Oi h.1 D,Oj h.2 D⟩
abbrev yc:fM prog 63 38 (.agg bP.cells.toArray) 47 656:=⟨underlying63,info_parts X,I,by decide⟩
abbrev yg{L:List aj}(h:aG 47 aj.cells w v L):dQ w 47 v L.length (L.flatMap aj.cells):=jV h (λ_=>I) λ_=>rfl
abbrev BL{n:aj}(h:n.oZ base w)(D:b0<=base):n.oZ b0 w:=⟨h.1,h.2.1.le D,h.D.le D,h.C.le D,h.A.le D,h.S.le D,h.U.le D,h.2.2.2.2.2.2.2.le D⟩
def EO(base:Nat)(v:y9)(l:List aj)(w:E5):Prop:=kF 38 47 aj.cells base v l w∧∀n∈l,n.oZ base w
abbrev fF (base:Nat)(v:y9)(l:List aj)(w:E5):Prop:=Sx.aU base (EO base v l) w
structure aB.own (base:Nat) (m:aB) (w:E5):Prop where
 row:w.ownsRow base 38 47 m.s m.ns.length (m.ns.flatMap aj.cells)
 nodes:Sx.On (λi=>base<=i∧m.s.ownBlock≠some i) (λW=>∀n∈m.ns,n.oZ base W) w
abbrev aB.own.cp{base:Nat}{m:aB}{w:E5}(h:m.own base w):fF base m.s m.ns w:=ï (fK (λ_=>I) h.row I I) (h.nodes.mono λ_ h=>h.1)
abbrev fF.ok{base:Nat}{v:y9}{l:List aj}{w:E5}(h:fF base v l w)(D:∀n∈l,n.Qx K):yX K w v l:=⟨(æ h).1.1,λn hn=>⟨((æ h).2 n hn).1,D n hn⟩⟩
abbrev fF.le{base b0:Nat}{v:y9}{l:List aj}{w:E5}(h:fF base v l w)(D:b0<=base):fF b0 v l w:=ď (Sx.aU.le h D) λ_ h=>⟨h.1.le D,λn hn=>BL (h.2 n hn) D⟩
abbrev DC{P:aj->Prop}{M:List aj}{x:aj}(h:∀p∈M,P p)(J:P x):∀p∈M++[x],P p:=λp D=>by
 rcases ā.1 D with D | D
 .exact h p D
 rw[û.1 D]; exact J
abbrev FQ{l M:List aj}{x y:aj}(hk:k<l.length)(D:l[k]=x)(h:M.map aj.strip=(l.take k).map aj.strip)(J:y.strip=x.strip):(M++[y]).map aj.strip=(l.take (k+1)).map aj.strip:=by
 rw[ĸ hk,Ħ,Ħ,h,D]; simp[J]
abbrev Yd{L:List aj}(h:aG 47 aj.cells w (.s a L.length c) L)(D:i<=L.length):aG 47 aj.cells w (.s (um a 0 i 47) i i) (L.take i):=NT h D (ä D (kP h))
abbrev Uk{L:List aj}(h:aG 47 aj.cells w (.s a L.length c) L)(D:i<=L.length):dQ w 47 (.s (um a 0 i 47) i i) i ((L.take i).flatMap aj.cells):=by
 have:=yg (Yd h D);rwa [Ĳ,Ε D]at this
abbrev Ul{L:List aj}(h:aG 47 aj.cells w (.s a L.length c) L)(D:i<=L.length):dQ w 47 (.s (um a i c 47) (L.length-i) (c-i)) (L.length-i) ((L.drop i).flatMap aj.cells):=by
 have:=yg (abH h D (kP h));rwa [Ş]at this
abbrev DF{D vm:y9}{L M:List aj}(hl:aG 47 aj.cells w D L)(hm:aG 47 aj.cells w vm M)(J:i<=L.length)(ae:0<M.length)(hn:L.length+M.length<=100000)(hz:z=(i:Int)) :
  Nq prog 146 #[D,.i z,vm] w λe w'=>∃v',e = .R v'∧w'.ownsRow w.heap.size 38 47 v' (L.take i++M++L.drop i).length ((L.take i++M++L.drop i).flatMap aj.cells)∧Ext w w':=by
 subst hz;obtain⟨a,cap,rfl⟩:=hl.shape;have D:=kP hl;have ab:i<=cap:=ä J D;refine Ä func146 ntmps146 λS=>O1 S 6 [] [.slc 0 i i cap] (hk:=⟨⟨Î _,Ç _,ab⟩,G⟩) λS=>WZ S Tryz.f146 2 λS iz=>?_;refine sH S 6 [(14,λv w1=>w1.ownsRow w.heap.size 38 47 v (i+M.length) ((L.take i++M).flatMap aj.cells))] (λr=>[.hand 14 [(12,.s (um a 0 i 47) i i),(13,vm)],.slc i L.length cap cap]) (λx=>[x 14]) (λx=>[]) [] (λx=>[(14,x 14),(17,.s (um a i cap 47) (L.length-i) (cap-i))]) ⟨λ_ _ _ k h=>Sx.dF h k,G⟩ (λx=>G) (λac u x E4 F S=>?_) (hk:=λr=>⟨G,⟨J,D,Ç _⟩,G⟩) (hl:=[(2,[])]) (hH:=λx r=>⟨λo D ρ u hs hE hρ hV F=>by exact uF D yc (hV (12,_) Ö) (hV (13,_) (ļ _ Ö)) (Uk (hl.below (Ip S.E hE)) J) (yg (hm.below (Ip S.E hE))) ae (by show i+M.length<=9223372036854775807; omega) Z (λv' w' h aa=>İ D I I aa (by rw[<-ŀ]at h; exact Sx.ownsRow_base h (Ip S.E hE).size)),G⟩);refine Um S λS=>?_;obtain⟨NW,-⟩:=F;have R:=(Č S).add (r:=⟨38,47,_,i+M.length,(L.take i++M).flatMap aj.cells⟩) NW (λb hb=>by cases hb) (Ç _);obtain⟨a1,c1,e1⟩:=Sx.jf NW;rw[e1]at S R;try rw[e1]
 refine è S λS=>Ń S R 0 18 I yc (Ul (hl.below S.E) J) (by show i+M.length+(L.length-i)<=9223372036854775807; omega) (by show(i+M.length+(L.length-i))*656<=140737488355328; omega) λac u J X6 R S=>ÿ S λS=>Xe S J λS=>?_;have D:=R.own _ Ö;rw[<-ŀ]at D;exact⟨_,I,by rw[show(L.take i++M++L.drop i).length=i+M.length+(L.length-i) by simp; omega]; exact D,S.E⟩
abbrev ab1{u:E5}{os:List Oper}{o:Oper}{ρ:Operand->y9}(ho:os[i]?=some o){L:List aj}{f:Nat}(hs:ρ (.tmp 13) = .s (um a 0 f 47) f f)(hx:ρ (.tmp 16) = .s (um a t cap 47) (L.length-t) (cap-t))
  (hl:aG 47 aj.cells w (.s a L.length cap) L) (J:f<t) (ht:t<=L.length) (hn:L.length<=100000) (D:Ext w u) {Post:y9->E5->Prop} (hK:∀v w',Ext u w'->(∀base B,base<=w.heap.size->Sx.On B (kF 38 47 aj.cells base (.s a L.length cap) L) w->Sx.On (λi=>B i∨w.heap.size<=i) (kF 38 47 aj.cells base v (L.take f++L.drop t)) w')->Post v w') (J:FD os i=some (.tmp 13,.tmp 16,63,true):=by kernel_rfl) :
  Rel.Does prog o ρ u Post:=by
 have S:=kP hl;rcases ĩ t L.length with h | h
 .have hlen:(L.take f++L.drop t).length=f+(L.length-t):=by simp; omega
  refine uF ho yc hs hx (Uk (hl.below D) Z) (Ul (hl.below D) ht) Z (by show f+(L.length-t)<=9223372036854775807; omega) Z (λv' w' h S=>hK v' w' S λbase B hb hd=>?_) J;rw[<-ŀ]at h;exact ď (Τ (fK (f:=aj.cells) (λ_=>I) h hlen.symm I) λi S => .inr (ä D.size S)) λ_ h=>h.le (ä hb D.size)
 have S:L.length-t=0:=Z
 rw[S]at hx;refine Ew ho yc (Ç f) hs hx (hK _ _ å λbase B hb hd=>?_) J;rw[Ō h,ĳ,aeG];exact ď (Τ (Ü hd D) λ_ h => .inl h) λ_ h=>Xm h Z (Ç f) Z
abbrev FT{L:List aj}(hl:aG 47 aj.cells w (.s a L.length cap) L){f:Nat}(ab:f<t)(ht:t<=L.length)(hn:L.length<=100000)(D:z=(f:Int)) :
  Nq prog 147 #[.s a L.length cap,.i z,.i t] w λe w'=>∃v1,e = .R (.tuple #[v1,.s (um a f t 47) (t-f) (t-f)])∧(∀base B,base<=w.heap.size->Sx.On B (kF 38 47 aj.cells base (.s a L.length cap) L) w->Sx.On (λi=>B i∨w.heap.size<=i) (kF 38 47 aj.cells base v1 (L.take f++L.drop t)) w')∧Ext w w':=by
 subst D;have J:=kP hl;refine Ä func147 ntmps147 λS=>O1 S 7 [] [.slc 0 f f cap] (hk:=⟨⟨Î _,Ç _,Z⟩,G⟩) λS=>WZ S Tryz.f147 2 λS D=>?_;refine sH S 11 [(17,λv w1=>∀base B,base<=w.heap.size->Sx.On B (kF 38 47 aj.cells base (.s a L.length cap) L) w->Sx.On (λi=>B i∨w.heap.size<=i) (kF 38 47 aj.cells base v (L.take f++L.drop t)) w1),(6,λv w1=>∀base B,base<=w.heap.size->Sx.On B (kF 38 47 aj.cells base (.s a L.length cap) L) w->Sx.On (λi=>B i∨w.heap.size<=i) (kF 38 47 aj.cells base v (L.take f++L.drop t)) w1)] (λr=>[.slc t L.length cap cap,.hand 17 [(13,.s (um a 0 f 47) f f),(16,.s (um a t cap 47) (L.length-t) (cap-t))],.slc f t t cap,.hand 6 []]) (λx=>[x 17,x 6]) (λx=>[]) [] (λx=>[(6,x 6),(22,.s (um a f t 47) (t-f) (t-f))]) ⟨λ_ _ _ k h base B D hd=>Ü (h base B D hd) k,λ_ _ _ k h base B D hd=>Ü (h base B D hd) k,G⟩ (λx=>G) (λD u x E4 F S=>?_) (hk:=λr=>⟨⟨ht,J,Ç _⟩,G,⟨Z,Ç _,Z⟩,G,G⟩) (hl:=[(4,[]),(10,[17])]) (hH:=λx r=>⟨λo D ρ u hs hE J hV F=>by exact ab1 D (hV (13,_) Ö) (hV (16,_) (ļ _ Ö)) hl ab ht hn (Ip S.E hE) (λv' w' aa h=>İ D I I aa h),λo D ρ u hs hE J hV F=>by obtain⟨MI,-⟩:=F; exact jw D hs [(17,x 17)] (Ľ (J 17 O I)) (x 17) (İ D I I å MI),G⟩);refine Um S λS=>?_;obtain⟨MI,D,-⟩:=F;refine Ol S (x 6) (.s (um a f t 47) (t-f) (t-f)) λS=>?_;exact⟨_,I,D,S.E⟩
abbrev Un{w0:E5}{bl:List (Nat×List y9)}(R:Rw w0 w bl []):Rw w0 w bl [⟨38,47,.sn,0,[]⟩]:=
 ⟨λr D=>by obtain rfl:=û.1 D; exact⟨I,.inl ⟨I,I⟩⟩,R.lt,R.apart⟩
abbrev _root_.Go.Sx.On.fresh{B:Nat->Prop}{F:E5->Prop}{w w':E5}{b:Nat}(h:Sx.On B F w)(S:Ext w w')(D:w.heap.size<=b):Sx.On (λi=>B i∧i≠b) F w':=λw2 hs hk =>
 h w2 (ä S.size hs) λk D J=>(hk k (ö D S.size) ⟨J,Z⟩).trans (S.block k D)
abbrev _root_.Go.Sx.afj{w0 w:E5}{b:Nat}{A:List y9}{bl:List (Nat×List y9)}{rs:List Sx.Row}{F:E5->Prop}{D:Nat}(R:Rw w0 w ((b,A)::bl) rs)(h:Sx.On (λi=>D<=i∧i≠b) F w)(J:∀k∈Ob bl rs,k<D)(q0:w0.heap.size<=D):Sx.Ow w0.heap.size (Ob ((b,A)::bl) rs) F w:=
 h.mono λk hk=>⟨ä q0 hk.1,λD=>(Ù.1 D).elim (λe=>hk.2 e) λD=>by have:=J k D; omega⟩
abbrev sJ{s:aB}(h:bQ K w s)(al:∀n∈s.ns,n.lim)(hn:s.ns.length<=100000) :
  Nq prog 35 #[s.v] w λe w'=>∃m:aB,e = .R m.v∧m.own w.heap.size w'∧m.ns.map aj.strip=s.ns.map aj.strip∧m.w=s.w∧m.h=s.h∧m.bg=s.bg∧Ext w w':=by
 have D:s.ns.length<=9223372036854775807:=Z
 refine Ä func35 ntmps35 λS=>?_;obtain⟨a,cap,es⟩:∃a c,s.s = .s a s.ns.length c:=⟨_,_,I⟩;have J:=h.2.2.1;rw[es]at J;refine Ú S s.cells λu b2 E3 D S=>Ú S [.i 0,.i 0,.u 0,.u 0,.u 0,.u 0,.sn] λu b5 E6 D S=>O1 S 1 [] [.M 1 0] λS=>Ú S [.i 0,.i 0,.u 0,.u 0,.u 0,.u 0,.sn] λu b9 SE D S=>í S 0 (off:=0) (cs:=s.cells) I λu D S=>Ye S 0 (off:=6) (v := .sn) I λu D S=>?_;have R:=Č S;have R:=Un R;refine O1 S 4 [] [.M 2 6,.re 9 s.s (.s a s.ns.length cap)] (hk:=⟨es,G⟩) λS=>ĉ S (ι:=Nat×y9×List aj) (λp D w'=>p.1<=s.ns.length∧(p.2.2.map aj.strip=(s.ns.take p.1).map aj.strip)∧Rw w w' [(b9,(Sx.L [.i s.w,.i s.h]++s.bg.cells++Sx.L [p.2.1])),(b5,[.i 0,.i 0,.u 0,.u 0,.u 0,.u 0,.sn]),(b2,s.cells)] [⟨38,47,p.2.1,p.1,p.2.2.flatMap aj.cells⟩]∧Sx.Ow w.heap.size (Ob [(b9,(Sx.L [.i s.w,.i s.h]++s.bg.cells++Sx.L [p.2.1])),(b5,[.i 0,.i 0,.u 0,.u 0,.u 0,.u 0,.sn]),(b2,s.cells)] [⟨38,47,p.2.1,p.1,p.2.2.flatMap aj.cells⟩]) (λW=>∀z∈p.2.2,z.oZ w.heap.size W) w'∧Sx.St w D w' 24 [(0,s.v),(1,.q b2 0),(2,.q b5 0),(3,.q b9 0),(9,.s a s.ns.length cap),(10,.i s.ns.length),(11,.i p.1)] [(b9,(Sx.L [.i s.w,.i s.h]++s.bg.cells++Sx.L [p.2.1])),(b5,[.i 0,.i 0,.u 0,.u 0,.u 0,.u 0,.sn]),(b2,s.cells)] []) (λp=>s.ns.length-p.1) (0,.sn,[]) (λS=>⟨Î _,I,R,(λ_ _ _ z D=>by cases D),S.sn⟩) ?_;rintro⟨k,v,M⟩ ac u fQ eu hI;try dsimp only at hI
 obtain⟨hk,hR,R,Ad,S⟩:=hI;refine Ċ S λS=>À S (decide ((k:Int)<(s.ns.length:Int))) (λD S=>?_) λD S=>?_
 .have mM:k<s.ns.length:=by have:=Ý D; omega
  obtain⟨az,a3,rfl,aa,rF,ML,Qe⟩:=ý J (λ_=>I) (k) mM;have S:=S.view0 ML Qe;refine O1 S 2 [] [.idx k s.ns.length,.M 3 0] (hk:=⟨mM,G⟩) λS=>Ú S (Sx.L [.i 0,.i 0,.i 0]++Sx.za++Sx.L [.sn,.i 0,.u 0,.i 0,.z,.z,.sn,.i 0,.sn,.i 0,.i 0,.i 0,.i 0,.sn,.i 0,.sn,.i 0,.i 0,.sn,.i 0]) λu ay Bg J S=>í S 0 (off:=0) (cs:=aa.cells) I λu P6 S=>?_;have af:=λp hp=>(S.own p hp).1.1;obtain⟨R,aq⟩:=R.aZ S (Ì (Ĥ Bg J) (Sx.Stp.Eo P6));have J:=S.E.size;have ao:=R.lt;refine WZ S Tryz.f35 6 λS iz=>?_;refine sH S 5 [(18,λv w1=>∃m:aj,v=m.v∧m.cp u.heap.size w1∧m.strip=aa.strip),(19,λv w1=>∃m b,v = .s (some ⟨b,0,none⟩) 1 1∧u.heap.size<=b∧Bx w1 b (aj.cells m).toArray∧Sx.On (λi=>u.heap.size<=i∧i≠b) (λW=>m.oZ u.heap.size W) w1∧m.strip=aa.strip)] (λr=>[.M 1 6,.M 0 0,.hand 19 []]) (λx=>[x 18,x 19]) (λx=>[(_,_,true,x 18,18)]) [[]] (λx=>[(16,v),(19,x 19)]) ⟨λ_ _ _ k h=>by obtain⟨m,e,h,q⟩:=h; exact⟨m,e,h.ext k,q⟩,λv w w' k h=>by obtain⟨m,b,e,h1,h2,h3,q⟩:=h; exact⟨m,b,e,h1,h2.ext k,h3.ext k,q⟩,G⟩ (λx=>⟨by intro u hC g F; exact(clone_any ((h.2.2.2 _ (rF▸ò mM)).1.below (Ip S.E hC)) (al _ (rF▸ò mM))).mono λe w2 h=>by obtain⟨m,rfl,hx,hs,hb⟩:=h; exact⟨_,I,⟨m,I,Dy hx hC.size,hs⟩,hb⟩,G⟩) (λac u x GK F S=>?_) (hk:=λr=>⟨G,G⟩) (hl:=[(4,[18])]) (hH:=λx r=>⟨λo ho ρ u hs hE hρ hV F=>by obtain⟨ab,-⟩:=F; obtain⟨m,e,h,q⟩:=ab; exact rC ho hs [(18,m.v)] (Ľ ((hρ 18 O I).trans e)) m.cells (some 1) (λv w' hn ae=>İ ho I I ae (by obtain⟨b,e2,h2,h3⟩:=hn; exact⟨m,b,e2,ä hE.size h2,h3,Sx.On.fresh h ae h2,q⟩)),G⟩);refine Um S λS=>?_;obtain⟨ab,ar,-⟩:=F;clear ab;obtain⟨m,a4,ag,ah,av,hm,aw⟩:=ar;rw[ag]at S;try rw[ag]
  have S:=S.kZ;have S:=S.adopt (A:=m.cells) av (ä J ah) (λp hp=>by have:=af p hp; omega) (λm hm=>by cases hm);obtain⟨R,ax⟩:=R.aZ S ((à GK).aiZ ah);have ap:=ď (Sx.afj R hm ao J) λ_ h=>BL h J;have hM:M.length=k:=by have:=Ñ List.length hR; simp at this; omega
  refine è S λS=>Ń S R 0 20 I yc (oK (m:=1) (k:=47) (A:=m.cells) (S.bx 0)) (by show k+1<=9223372036854775807; omega) (by show(k+1)*656<=140737488355328; omega) λac u am J R S=>ÿ S λS=>?_;obtain⟨a8,c8,e8⟩:=Sx.jf (R.own _ Ö);replace e8:am = .s a8 (k+1) c8:=e8;subst e8;refine Ye S 2 (off:=6) (v := .s a8 (k+1) c8) I λu an S=>?_;have S:=S.fl;refine O1 S 2 [] [kS 22 k] (λS=>?_) (hk:=⟨ù Z,G⟩);have S:=S.gK 2;obtain⟨R,ai⟩:=R.aZ S (Ì (Sx.Stp.Eo an) (ĥ 2));refine ċ S fQ λS=>?_;exact eu _ _ ((k+1),.s a8 (k+1) c8,M++[m]) ⟨Z,(FQ mM rF hR aw),R.as (Ñ (λxs=>[(⟨38,47,.s a8 (k+1) c8,k+1,xs⟩:Sx.Row)]) (show M.flatMap aj.cells++m.cells=(M++[m]).flatMap aj.cells by simp)),ď (ï (þ Ad (Ì aq (Ì ax (Ì J ai)))) (þ ap (Ì J ai))) λ_ h=>DC h.1 h.2,S.sn⟩ (by show _-_<_-_; omega)
 have hk:=é D;obtain rfl:k=s.ns.length:=by omega
 rw[ħ]at hR;have hM:M.length=s.ns.length:=by have:=Ñ List.length hR; simpa using this
 have hF:=Ad;rw[<-hM]at R;obtain⟨a1,c1,D⟩:=Sx.jf (R.own _ Ö);replace D:v = .s a1 M.length c1:=D;subst D;refine O1 S 1 [] [.M 0 0] λS=>í S 1 (off:=0) (cs:=(Sx.L [.i s.w,.i s.h]++s.bg.cells++Sx.L [.s a1 M.length c1])) I λu D S=>?_;obtain⟨R,J⟩:=R.aZ S (Sx.Stp.Eo D);have hF:=(þ Ad J);have ho:=R.own _ Ö;refine ü S 1 I (v := .agg (aB.cells ⟨s.w,s.h,s.bg,a1,c1,M⟩).toArray) λS=>?_;exact⟨⟨s.w,s.h,s.bg,a1,c1,M⟩,I,⟨ho,hF.mono λi D=>⟨D.1,λe=>D.2 (jh Ö e)⟩⟩,hR,I,I,I,S.E⟩
abbrev OwnB (base:Nat)(w:E5)(v:y9)(l:List UInt8):Prop:=w.ownsRow base 5 1 v l.length (l.map gY)
abbrev Qy(l:List UInt8):l.flatMap (λn:UInt8=>[gY n])=l.map gY:=by induction l<;>simp_all
abbrev rowB(h:OwnB base w v l):aG 1 (λn:UInt8=>[gY n]) w v l:=æ (iZ (f:=λn:UInt8=>[gY n]) (L:=l) (λ_=>I) h I (Qy l).symm)
abbrev jW(h:OwnB base w v l):dQ w 1 v l.length (l.map gY):=by
 have:=jV (rowB h) (λ_=>I) (λ_=>I);rwa [Qy]at this
abbrev vT(h:OwnB base w v l):bK w v l:=dP (rowB h)
abbrev wrap_u64(h:n<18446744073709551616):Value.int .u64 (IntKind.u64.wrap (n:Int)) = .int .u64 (n:Int):=by
 congr 1;rw[ŏ];omega
