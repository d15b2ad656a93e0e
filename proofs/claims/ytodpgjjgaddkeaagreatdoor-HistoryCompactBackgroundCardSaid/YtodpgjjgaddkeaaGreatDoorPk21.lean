/- Package scene: what it asks of scenes. Package scene: -/
import Derived.Test.YtodpgjjgaddkeaaGreatDoorPk20
set_option maxHeartbeats 3200000
set_option maxRecDepth 100000
set_option linter.unusedVariables false
set_option linter.unusedSimpArgs false
namespace Go.Proofs.YtodpgjjgaddkeaaGreatDoor
open _root_.Go.Proofs.Tryz
section
open Go.RowKit Go.Sx
variable{α:Type}{K:Nat}
abbrev keys (l:List aj):List aQ:=l.map aj.key
variable{w:World}{v:Value}{k base b0 i n c:Nat}{s t:aH}{id:Int}{pre:List aQ}{f:α->List Value}
theorem yu{l:List aj}(h:i<l.length):Cc (keys l) i=l[i].depth:=by
 rw[YH (by simpa using h)]; simp[keys,aj.key]
theorem adQ{l:List aj}(hk:k<l.length)(h:l[k].id=id)(hR:∀(j:Nat) (hj:j<l.length),j<k->l[j].id≠id):wW (keys l) id=(k:Int):=by
 have:jM (keys l) id=some k:=by
  unfold jM;rw[List.findIdx?_eq_some_iff_getElem];refine⟨by simpa using hk,by simpa[keys,aj.key]using h,λj hj=>?_⟩;have:=hR j Z hj;simpa[keys,aj.key]using this
 unfold wW; rw[this]
theorem Wj{l:List aj}(hR:∀(j:Nat) (hj:j<l.length),l[j].id≠id):wW (keys l) id = -1:=by
 have:jM (keys l) id=none:=by
  unfold jM;rw[List.findIdx?_eq_none_iff];intro κ hκ;obtain⟨n,hn,rfl⟩:=aAi.1 hκ;obtain⟨j,hj,rfl⟩:=List.getElem_of_mem hn;simpa[aj.key]using hR j hj
 unfold wW; rw[this]
theorem aaN{l:List aj}(hk:k<l.length)(hR:∀(j:Nat) (hj:j<l.length),j<k->l[j].id≠id)(h:l[k].id≠id):∀(j:Nat) (hj:j<l.length),j<k+1->l[j].id≠id:=λj hj h1=>by
 by_cases e:j=k
 .subst e; exact h
 exact hR j hj Z
theorem adR{s:aX}(h:((((decide (s.w<1))||(decide (256<s.w)))||(decide (s.h<1)))||(decide (256<s.h)))=true):s.chk=(6,0):=by
 unfold aX.chk;rw[azQ (by simpa[or_assoc]using h)]
theorem tH{s:aX}(h:((((decide (s.w<1))||(decide (256<s.w)))||(decide (s.h<1)))||(decide (256<s.h)))=false):s.chk=if 64<s.ns.length then (5,64)else jV [] s.ns:=by
 unfold aX.chk;rw[azP (by simpa[or_assoc,and_assoc]using h)]
theorem Iq{l:List aQ}(hk:k<l.length):jV (l.take k) (l.drop k)=if jU (l.take k) l[k]=0 then jV (l.take (k+1)) (l.drop (k+1))else (jU (l.take k) l[k],(k:Int)):=by
 rw[aAZ hk,aAU hk];conv=>lhs; unfold jV
 rw[aAN,aBw Z]
theorem Ir{l:List aj}(hk:k<l.length){x:aj}(hx:l[k]=x):(keys l)[k]'(by simpa using hk)=x.key:=by simp[keys,hx]
theorem Ou(l:List aj)(k:Nat)(id:Int):((l.take k).map aj.id).any (· == id)=((keys l).take k).any λκ=>κ.id==id:=by
 rw[<-List.map_take,List.any_map,List.any_map]; rfl
structure wX (l:List aj) (k:Nat) (m:Int):Prop where
 all:jV [] (keys l)=jV ((keys l).take k) ((keys l).drop k)
 room:m=Es ((keys l).take k)
theorem wX.start(l:List aj):wX l 0 0:=⟨by simp,I⟩
theorem wX.bad{l:List aj}{k:Nat}{m n:Int}{x:aj}(h:wX l k m)(hk:k<l.length)(hx:l[k]=x)(hw:jU ((keys l).take k) x.key=n)(hn:n≠0):jV [] (keys l)=(n,(k:Int)):=by
 rw[h.all,Iq (by simpa using hk),Ir hk hx,hw,azP hn]
theorem wX.next{l:List aj}{k:Nat}{m m':Int}{x:aj}(h:wX l k m)(hk:k<l.length)(hx:l[k]=x)(hw:jU ((keys l).take k) x.key=0)(hm:m'=if x.kind=1 then x.depth+1 else x.depth):wX l (k+1) m':=by
 have hk':k<(keys l).length:=by simpa using hk
 refine⟨?_,?_⟩
 .rw[h.all,Iq hk',Ir hk hx,hw,azQ I]
 rw[aAU hk',Wh,Ir hk hx,hm]; rfl
theorem wX.done{l:List aj}{k:Nat}{m:Int}(h:wX l k m)(hk:l.length<=k):jV [] (keys l)=(0,0):=by
 rw[h.all,aA7 (by simpa using hk)]; rfl
theorem Wn{x:aj}(h:x.checkN≠0):jU pre x.key=x.checkN:=by rw[<-lG]at h |-; exact V9 h
theorem aaO{x:aj}(h:x.checkN=0)(h2:pre.any (λκ=>κ.id==x.id)=true):jU pre x.key=7:=by
 unfold jU;rw[lG,h,azP Y,azQ (show(pre.any λκ=>κ.id==x.key.id)=true from h2)]
theorem Sm{x:aj}(h:x.checkN=0)(h2:pre.any (λκ=>κ.id==x.id)=false)(h3:Es pre<x.depth):jU pre x.key=17:=by
 unfold jU;rw[lG,h,azP Y,azP (by rw[show x.key.id=x.id from rfl,h2]; simp),azP (by show ¬x.depth<=_; omega)]
theorem Sr{x:aj}(h:x.checkN=0)(h2:pre.any (λκ=>κ.id==x.id)=false)(h3:x.depth<=Es pre):jU pre x.key=0:=by
 unfold jU;rw[lG,h,azP Y,azP (by rw[show x.key.id=x.id from rfl,h2]; simp),azQ (by exact h3)]
theorem aaP(w:World):(zeroValue 4).run prog w = .ok (.z) w:=nO X
theorem aaQ{l:List aj}(h:aJ 47 aj.cells w v l)(hi:i<l.length){z:Int}(hz:z=(i:Int)){r:Nat}(hr:r=yT (keys l) i) :
  Calls prog 148 #[v,.i z] w λe w'=>e = .returned (.i r)∧Ext w w':=by
 subst hz hr;obtain⟨a,cap,rfl⟩:=h.shape;have hmax:l.length<=9223372036854775807:=h.len;refine azX func148 ntmps148 λac S=>azn λ_ gQ=>azk S 1 [] [(4,.i 0)] λS=>azl<|gQ _ _<|azn λ_ U1=>azk S 3 [.re 7 (.i (IntKind.i64.wrap ((i:Int)+1))) (.i (i+1:Nat))] [(5,.i (i+1:Nat))] (hk:=⟨azA Z,G⟩) λS=>azl<|U1 _ _<|az8 λ_ κ3=>aAM ?_;refine Vp.loop (ι:=Nat) (λp a' w'=>(i<p∧p<=l.length∧∀j,i<j->j<p->Cc (keys l) i<Cc (keys l) j)∧Sx.St w a' w' 28 [(0,.slice a l.length cap),(1,.i i),(4,.i 0),(5,.i p)] [] []) (λp=>l.length-p) ((i+1)) ⟨⟨Z,Z,λj h1 h2=>by omega⟩,S.sn⟩ ?_;rintro k ac u hI;try dsimp only at hI
 obtain⟨hR,S⟩:=hI;refine az8 λ_ κ4=>az8 (λ_ BN=>?_);rcases aAH k l.length with hk | hk
 .have ek:decide ((k:Int)<(l.length:Int))=true:=aA6 Z;obtain⟨b1,o1,c1,hv1,hb1,hr1⟩:=Vp.rG h (λ_=>I) i hi;simp only[aAq,true_and]at hv1;obtain⟨rfl,rfl⟩:=hv1;obtain⟨b2,o2,c2,hv2,hb2,hr2⟩:=Vp.rG h (λ_=>I) k hk;simp only[aAq,azT,aBV,true_and,and_true]at hv2;obtain⟨⟨rfl,rfl⟩,rfl⟩:=hv2;obtain⟨x,hx⟩:∃z,l[i]=z:=⟨_,I⟩;rw[hx]at hr1;obtain⟨y,hy⟩:∃z,l[k]=z:=⟨_,I⟩;rw[hy]at hr2;have S:=S.view0 hb1 hr1;have S:=S.view0 hb2 hr2;refine Sx.draw S 17 [.re 11 (.bool ((k:Int)<(l.length:Int))) (.bool true),.idx k l.length,.mem 0 2,.idx i l.length,.mem 1 2] [] [(24,.bool (x.depth<y.depth))] trivial (hk:=⟨(az0 Value.bool ek),hk,hi,G⟩) λac u E6 S=>azl (BN _ _ ?_);refine azM S (λnJ=>?_) (λnJ=>?_)
  .refine aAs<|κ4 _ _<|aAM<|aBo<|azk S 3 [.re 26 (.i (IntKind.i64.wrap ((k:Int)+1))) (.i (k+1:Nat))] [(5,.i (k+1:Nat))] (hk:=⟨azA Z,G⟩) λS=>azl ?_;show ∃i',_∧_;exact⟨(k+1),⟨⟨Z,Z,λj h1 h2=>by
    by_cases e:j=k
    .subst e; rw[yu hi,yu hk,hx,hy]; have:=az9 nJ; omega
    exact hR.2.2 j h1 Z⟩,S.sn⟩,by show l.length-(k+1)<l.length-k; omega⟩
  refine aA8<|κ3 _ _<|azn λ_ κ8=>azk S 2 [] [(4,.i k)] λS=>azl<|κ8 _ _<|U0 S results148 ?_;have he:yT (keys l) i=k:=by
   rw[RZ (by simpa using hi)];exact YG (by simpa using hi) hR.1 (by simpa using hR.2.1) hR.2.2 (λhk=>by rw[yu hi,yu (by simpa using hk),hx,hy]; have:=aAd nJ; omega)
  exact⟨by rw[he],S.E⟩
 have ek:decide ((k:Int)<(l.length:Int))=false:=aBp Z;refine Sx.draw S 17 [.re 11 (.bool ((k:Int)<(l.length:Int))) (.z),.dead 13 (.z),.dead 14 (.z),.dead 15 (.z),.dead 16 (.z),.dead 17 (.z),.dead 18 (.z),.dead 19 (.z),.dead 20 (.z),.dead 21 (.z),.dead 22 (.z),.dead 23 (.z)] [] [(24,.z)] trivial (hk:=⟨(az0 Value.bool ek),G⟩) λac u E9 S=>azl<|BN _ _<|Ei S<|aA8<|κ3 _ _<|azn λ_ Ah=>azk S 2 [] [(4,.i k)] λS=>azl<|Ah _ _<|U0 S results148 ?_;have he:yT (keys l) i=k:=by
  rw[RZ (by simpa using hi)];exact YG (by simpa using hi) hR.1 (by simpa using hR.2.1) hR.2.2 (λhk2=>by simp at hk2; omega)
 exact⟨by rw[he],S.E⟩
theorem Wp{l:List aj}(h:aJ 47 aj.cells w v l) :
  Calls prog 145 #[v,.i id] w λe w'=>e = .returned (.i (wW (keys l) id))∧Ext w w':=by
 obtain⟨a,cap,rfl⟩:=h.shape;have hmax:l.length<=9223372036854775807:=h.len;refine azp func145 ntmps145 λS=>azI S (ι:=Nat) (λp a' w'=>p<=l.length∧(∀(j:Nat) (hj:j<l.length),j<p->l[j].id≠id)∧Sx.St w a' w' 20 [(0,.slice a l.length cap),(1,.i id),(4,.i 0),(7,.slice a l.length cap),(8,.i l.length),(9,.i p)] [] []) (λp=>l.length-p) (0) (λS=>⟨azZ _,λj hj h=>by omega,S.qM⟩) ?_;rintro k ac u gQ eu hI;try dsimp only at hI
 obtain⟨hk,hR,S⟩:=hI;refine azJ S λS=>azm S (decide ((k:Int)<(l.length:Int))) (λhc6 S=>?_) (λhc6 S=>?_)
 .have gq:k<l.length:=by have:=az9 hc6; omega
  obtain⟨b9,o10,rfl,x15,jC,hb16,uF⟩:=aAo h (λ_=>I) (k) gq;have S:=S.view0 hb16 uF;refine adr S 3 [] [.idx k l.length,.mem 0 0] (hk:=⟨gq,G⟩) λS=>azo S λu b17 zL Fe S=>azq S 0 I λu y8 S=>adr S 4 [] [.mem 0 0] λS=>azm S ((x15.id)==id) (λhc22 S=>?_) (λhc22 S=>?_)
  .refine apB S (.i k) (λS=>?_);exact⟨by rw[adQ gq (by rw[jC]; simpa using hc22) hR],S.E⟩
  refine adr S 2 [] [.re 19 (.i (IntKind.i64.wrap ((k:Int)+1))) (.i (k+1:Nat))] (hk:=⟨azA Z,G⟩) λS=>azG S gQ (λS=>?_);exact eu _ _ (k+1) ⟨Z,(aaN gq hR (by rw[jC]; simpa using hc22)),(S.gW 1).qM⟩ (by show _-_<_-_; omega)
 refine apB S (.i (-1)) (λS=>?_);have hk:=aAd hc6;exact⟨by rw[Wj (λj hj=>hR j hj Z)],S.E⟩
theorem adS{l:List aj}{x:aj}(hk:k<l.length)(hx:l[k]=x):(l.take k).map aj.id++[x.id]=(l.take (k+1)).map aj.id:=by
 rw[aAU hk,aAL,hx]; rfl
theorem Eu(h:dL K w s)(hg:dw w) :
  Calls prog 83 #[s.v] w λe w'=>e = .returned (.tuple #[.i s.key.chk.1,.i s.key.chk.2])∧Ext w w':=by
 have hmax:s.ns.length<=9223372036854775807:=h.2.2.1.len;refine azX func83 ntmps83 (λac S=>?_);obtain⟨a,cap,es⟩:∃a c,s.s = .slice a s.ns.length c:=⟨_,_,I⟩;have hr:=h.2.2.1;rw[es]at hr;refine azn λ_ gQ=>qO S 1 s.cells λac u b2 E3 hb4 S=>azk S 2 [] [(2,.i 0),(3,.i 0)] λS=>azl<|gQ _ _<|az8 λ_ BN=>azn λ_ κ6=>azk S 18 [.mem 0 0,.mem 0 0,.mem 0 1,.mem 0 1] [(26,.bool ((((decide (s.w<1))||(decide (256<s.w)))||(decide (s.h<1)))||(decide (256<s.h))))] λS=>azl (κ6 _ _ ?_);refine azM S (λnJ=>?_) (λnJ=>?_)
 .refine azn λ_ κ8=>azk S 2 [] [(2,.i 6),(3,.i 0)] λS=>azl<|κ8 _ _<|rt2 S results83 ?_;exact⟨by rw[adR (s:=s.key) nJ],S.E⟩
 refine aAs<|BN _ _<|az8 λ_ κ9=>azn λ_ Ah=>azk S 4 [.mem 0 6,.re 28 s.s (.slice a s.ns.length cap)] [(30,.bool (64<(s.ns.length:Int)))] (hk:=⟨es,G⟩) λS=>azl (Ah _ _ ?_);refine azM S (λgV=>?_) (λgV=>?_)
 .refine azn λ_ Rz=>azk S 2 [] [(2,.i 5),(3,.i 64)] λS=>azl<|Rz _ _<|Vp.rt ?_;have hq:=tH (s:=s.key) nJ;rw[show s.key.ns=keys s.ns from rfl,aA5]at hq;refine KC S results83 ?_;exact⟨by rw[hq,azQ (by have:=az9 gV; omega)],S.E⟩
 refine aAs<|κ9 _ _<|azn (λ_ Wq=>?_);have hold:=S.E.size;have avP:=(S.bx 0).1;refine arh S 31 (λac u b E0 hb hM S=>?_);have R:=aAy S;have hbo:w.heap.size<=b∧b≠b2:=⟨Z,Z⟩;have KD:Sx.Ow _ (Ob [(b2,s.cells)] []) (λW=>lW prog 3 4 W b []) _:=aBu (Sl (hM _ _)) λi hi=>by subst hi; exact⟨hbo.1,by simpa[Ob]using hbo.2⟩
 refine azk S 1 [] [(4,.map (some b))] λS=>azl<|Wq _ _<|azn λ_ vP=>azk S 1 [] [(5,.i 0)] λS=>azl<|vP _ _<|az8 λ_ Ib=>azn λ_ Ai=>azk S 4 [.mem 0 6,.re 33 s.s (.slice a s.ns.length cap)] [(33,.slice a s.ns.length cap),(34,.i s.ns.length),(35,.i 0)] (hk:=⟨es,G⟩) λS=>azl<|Ai _ _<|aAM ?_;refine Vp.loop (ι:=Nat×Int) (λp a' w'=>p.1<=s.ns.length∧(wX s.ns p.1 p.2)∧Rw w w' [(b2,s.cells)] []∧Sx.Ow w.heap.size (Ob [(b2,s.cells)] []) (λW=>lW prog 3 4 W b ((s.ns.take p.1).map aj.id)) w'∧Sx.St w a' w' 67 [(0,s.v),(1,.q b2 0),(2,.i 0),(3,.i 0),(4,.map (some b)),(5,.i p.2),(33,.slice a s.ns.length cap),(34,.i s.ns.length),(35,.i p.1)] [(b2,s.cells)] []) (λp=>s.ns.length-p.1) (0,0) ⟨azZ _,wX.start _,R,KD,S.sn⟩ ?_;rintro⟨k,m⟩ ac u hI;try dsimp only at hI
 obtain⟨hk,hR,R,KE,S⟩:=hI;refine azn λ_ Oa=>azk S 1 [] [(36,.bool ((k:Int)<(s.ns.length:Int)))] λS=>azl<|Oa _ _<|az8 (λ_ VI=>?_);refine azM S (λhc19=>?_) (λhc19=>?_)
 .refine aAs<|VI _ _<|az8 λ_ aax=>aAM<|azn (λ_ adx=>?_);have hMl:=(aAj (KE)).lt;have lM:k<s.ns.length:=by have:=az9 hc19; omega
  obtain⟨b22,o23,rfl,x28,qo,JQ,Nw⟩:=aAo hr (λ_=>I) (k) lM;have hxo:=h.2.2.2 _ (qo▸aAl lM);have S:=S.view0 JQ Nw;refine azk S 3 [.idx k s.ns.length,.mem 1 0] [(37,.i k),(39,x28.v)] (hk:=⟨lM,G⟩) λS=>qO S 7 (Sx.L [.i 0,.i 0,.i 0]++Sx.za++Sx.L [.sn,.i 0,.u 0,.i 0,.z,.z,.sn,.i 0,.sn,.i 0,.i 0,.i 0,.i 0,.sn,.i 0,.sn,.i 0,.i 0,.sn,.i 0]) λac u b30 Df aap S=>azk S 1 [] [(6,.i k)] λS=>azR S 0 (off:=0) (cs:=x28.cells) I (λu NZ S=>?_);have hbn:b≠b30:=Z
  refine azl<|adx _ _<|az8 λ_ Ws=>azn λ_ Wu=>azk S 1 [.mem 0 0] [(40,x28.v)] λS=>BO S 41 (zf ((h.2.2.2 _ (qo▸aAl lM)).below S.E) (hg.below S.E)) λac u FQ S=>azk S 1 [] [(8,.i x28.checkN)] λS=>azl<|Wu _ _<|azn λ_ akh=>azk S 2 [] [(43,.bool ((x28.checkN) != 0))] λS=>azl (akh _ _ ?_);refine azM S (λhc38=>?_) (λhc38=>?_)
  .refine azn λ_ aj8=>azk S 4 [] [(2,.i x28.checkN),(3,.i k)] λS=>azl<|aj8 _ _<|Vp.rt ?_;have hq:=tH (s:=s.key) nJ;rw[show s.key.ns=keys s.ns from rfl,aA5]at hq;refine KC S results83 ?_;rw[azP (by have:=aAd gV; omega)]at hq;exact⟨by rw[hq,hR.bad lM qo (Wn (by simpa using hc38)) (by simpa using hc38)],S.E⟩
  refine aAs<|Ws _ _<|az8 λ_ aki=>azn λ_ ark=>azk S 3 [.mem 0 0] [(46,.map (some b)),(48,.i x28.id)] (λS=>?_);obtain⟨R,Y42⟩:=R.bQ S (aAc (aAX Df aap) (aAc (Sx.Stp.Ov NZ (by simp[Sx.vb])) (aAg FQ)));have hMn:=aAj ((aBf KE Y42));refine ana S 49 hMn underlying3 underlying4 underlying194 (aaP _) (hxo.1.1) λac S=>azl (ark _ _ ?_);refine azM S (λadT=>?_) (λadT=>?_)
  .refine azn λ_ agO=>azk S 3 [] [(2,.i 7),(3,.i k)] λS=>azl<|agO _ _<|Vp.rt ?_;have hq:=tH (s:=s.key) nJ;rw[show s.key.ns=keys s.ns from rfl,aA5]at hq;refine KC S results83 ?_;rw[azP (by have:=aAd gV; omega)]at hq;exact⟨by rw[hq,hR.bad lM qo (aaO (by simpa using hc38) (by rw[<-Ou]; exact adT)) O],S.E⟩
  refine aAs<|aki _ _<|az8 λ_ adU=>azn λ_ akj=>azk S 4 [.mem 0 2] [(54,.bool (m<x28.depth))] λS=>azl (akj _ _ ?_);refine azM S (λhc47=>?_) (λhc47=>?_)
  .refine azn λ_ arl=>azk S 3 [] [(2,.i 17),(3,.i k)] λS=>azl<|arl _ _<|Vp.rt ?_;have hq:=tH (s:=s.key) nJ;rw[show s.key.ns=keys s.ns from rfl,aA5]at hq;refine KC S results83 ?_;rw[azP (by have:=aAd gV; omega)]at hq;exact⟨by rw[hq,hR.bad lM qo (Sm (by simpa using hc38) (by rw[<-Ou]; exact adT) (by have:=az9 hc47; rw[<-hR.room]; omega)) O],S.E⟩
  refine aAs<|adU _ _<|azn λ_ arn=>azk S 3 [.mem 0 0] [(56,.map (some b)),(58,.i x28.id)] (λS=>?_);have hMn:=aAj ((aBf KE Y42));refine arj S hMn (S.E.size |> λ_=>hbo.1) underlying3 underlying4 underlying194 (by rw[aA5,aAN]; show _<9223372036854775807; omega) hxo.1.1 (λu hM2 hgr S=>?_);have R:=aAy S;have KD:Sx.Ow w.heap.size (Ob [(b30,x28.cells),(b2,s.cells)] []) (λW=>lW prog 3 4 W b ((s.ns.take (k+1)).map aj.id)) u:=by
   rw[adS lM qo]at hM2;exact aBu (Sl hM2) λi hi=>by subst hi; exact⟨hbo.1,by simpa[Ob]using ⟨hbn,hbo.2⟩⟩
  refine azl<|arn _ _<|azn λ_ akk=>azk S 3 [.mem 0 2] [(5,.i x28.depth)] λS=>azl<|akk _ _<|azn λ_ aro=>azk S 3 [.mem 0 1] [(63,.bool ((x28.kind)==1))] λS=>azl (aro _ _ ?_);refine azM S (λsD=>?_) (λsD=>?_)
  .refine aBo<|azk S 3 [Sx.kw 65 (x28.depth+1)] [(5,.i (x28.depth+1))] (hk:=⟨adA (by have:=Cb (n:=x28) (by simpa using hc38); omega),G⟩) λS=>azl<|aax _ _<|aBo<|azk S 2 [.re 66 (.i (IntKind.i64.wrap ((k:Int)+1))) (.i (k+1:Nat))] [(35,.i (k+1:Nat))] (hk:=⟨azA Z,G⟩) λS=>azl ?_;have S:=S.gW 1;obtain⟨R,Y53⟩:=R.bQ S (aAO 1);show ∃i',_∧_;exact⟨((k+1),(x28.depth+1)),⟨Z,hR.next lM qo (Sr (by simpa using hc38) (by rw[<-Ou]; exact adT) (by have:=aAd hc47; rw[<-hR.room]; omega)) (by rw[azQ (by simpa using sD)]),R,(aBf KD Y53),S.sn⟩,by show _-_<_-_; omega⟩
  refine aAs<|aax _ _<|aBo<|azk S 2 [.re 66 (.i (IntKind.i64.wrap ((k:Int)+1))) (.i (k+1:Nat))] [(35,.i (k+1:Nat))] (hk:=⟨azA Z,G⟩) λS=>azl ?_;have S:=S.gW 1;obtain⟨R,Y54⟩:=R.bQ S (aAO 1);show ∃i',_∧_;exact⟨((k+1),x28.depth),⟨Z,hR.next lM qo (Sr (by simpa using hc38) (by rw[<-Ou]; exact adT) (by have:=aAd hc47; rw[<-hR.room]; omega)) (by rw[azP (by simpa using sD)]),R,(aBf KD Y54),S.sn⟩,by show _-_<_-_; omega⟩
 refine aA8<|Ib _ _<|azn λ_ akl=>azk S 2 [] [(2,.i 0),(3,.i 0)] λS=>azl<|akl _ _<|Vp.rt ?_;have hq:=tH (s:=s.key) nJ;rw[show s.key.ns=keys s.ns from rfl,aA5]at hq;refine KC S results83 ?_;rw[azP (by have:=aAd gV; omega)]at hq;exact⟨by rw[hq,hR.done (by have:=aAd hc19; omega)],S.E⟩
theorem eG.eqP{w w':World}{a b:aj}(h:eG K w a)(h':eG K w' b):a.eqP b=decide (a.key=b.key):=agK h.nrm h'.nrm
theorem Ox(c d:bD):(((c.r.toNat:Int)==d.r.toNat)&&(((c.g.toNat:Int)==d.g.toNat)&&(((c.b.toNat:Int)==d.b.toNat)&&((c.a.toNat:Int)==d.a.toNat))))=decide (c=d):=by
 rw[aA9];simp only[az7,az4,DC,az6];exact YD
theorem akm(c d:bD)(w:World):(binOp .eql 40 (.agg c.cells.toArray) (.agg d.cells.toArray)).run prog w = .ok (.bool (c=d)) w:=by
 rw[<-Ox]; exact ab6 ..
theorem aiu(a b c d e f g h:Int)(w:World):(binOp .neq 40 (.agg #[.u a,.u b,.u c,.u d]) (.agg #[.u e,.u f,.u g,.u h])).run prog w = .ok (.bool (!((a==e)&&((b==f)&&((c==g)&&(d==h)))))) w:=by
 simp[go_sem];(repeat' split)<;>simp_all
theorem akn(c d:bD)(w:World):(binOp .neq 40 (.agg c.cells.toArray) (.agg d.cells.toArray)).run prog w = .ok (.bool (!decide (c=d))) w:=by
 rw[<-Ox]; exact aiu ..
theorem ako{l m:List aj}(hk:l.length<=k)(h:l.length=m.length)(hR:(keys l).take k=(keys m).take k):true=decide (keys l=keys m):=by
 rw[aAv (by simpa using hk),aAv (by simpa using (show m.length<=k by omega))]at hR;simp[hR]
theorem agP{l m:List aj}(h1:k<l.length)(h2:k<m.length)(hR:(keys l).take k=(keys m).take k){x y:aj}(hx:l[k]=x)(hy:m[k]=y)(h:(!decide (x.key=y.key))=false):(keys l).take (k+1)=(keys m).take (k+1):=by
 rw[aAU (by simpa using h1),aAU (by simpa using h2),hR,Ir h1 hx,Ir h2 hy];simp at h;rw[h]
theorem anc{l m:List aj}(h1:k<l.length)(h2:k<m.length){x y:aj}(hx:l[k]=x)(hy:m[k]=y)(h:(!decide (x.key=y.key))=true):false=decide (keys l=keys m):=by
 symm;rw[aAt];intro e;have:=az0 (·[k]?) e;simp only[keys,List.getElem?_map,List.getElem?_eq_getElem h1,List.getElem?_eq_getElem h2,hx,hy,aAF,azT]at this;simp[this]at h
theorem ane(h:((((s.w) != t.w)||((s.h) != t.h))||(!decide (s.bg=t.bg))||((s.ns.length:Int) != (t.ns.length:Int)))=true):false=decide (s.key=t.key):=by
 symm;rw[aAt];intro e;simp only[aH.key,aX.mk.injEq]at e;have hl:=az0 List.length e.2.2.2;simp at hl;simp[e.1,e.2.1,e.2.2.1,hl]at h
theorem adV(h:((((s.w) != t.w)||((s.h) != t.h))||(!decide (s.bg=t.bg))||((s.ns.length:Int) != (t.ns.length:Int)))=false):s.ns.length=t.ns.length:=by
 simp at h; omega
theorem aiv{b:Bool}(h:((((s.w) != t.w)||((s.h) != t.h))||(!decide (s.bg=t.bg))||((s.ns.length:Int) != (t.ns.length:Int)))=false)(hb:b=decide (keys s.ns=keys t.ns)):b=decide (s.key=t.key):=by
 rw[hb];simp at h;simp[aH.key,h]
theorem yw{a b:aj}(h:eG K w a)(h':eG K w b):Calls prog 95 #[a.v,b.v] w λe w'=>e = .returned (.bool (a.key=b.key))∧Ext w w':=by
 rw[<-h.eqP h']; exact Kw h h'
set_option maxRecDepth 100000 in
set_option maxHeartbeats 1600000 in
theorem wY(h:dL K w s)(hg:dw w) :
  Calls prog 51 #[s.v] w λe w'=>e = .returned (.bool s.key.valid)∧Ext w w':=by
 skip;refine azp func51 ntmps51 λS=>azo S λu b2 E3 hb4 S=>adr S 2 [] [.mem 0 0] λS=>azB S (Eu (h.below S.E) (hg.below S.E)) λu E6 S=>apB S (.bool ((s.key.chk.1)==0)) (λS=>?_);exact⟨I,S.E⟩
theorem aiw:iK prog 29 163 (.agg #[.i 0,.i 0,.i 0,.i 0,.i 0,.i 0,.i 0]) 7 56:=⟨underlying29,info_parts X,I,by decide⟩
theorem adW:iK prog 131 202 (.agg #[.i 0,.u 0,.u 0,.u 0,.u 0]) 5 16:=⟨underlying131,info_parts X,I,by decide⟩
theorem aix:iK prog 34 178 (.agg #[.u 0,.u 0,.u 0,.u 0]) 4 4:=⟨underlying34,info_parts X,I,by decide⟩
theorem aiy:iK prog 31 3 (.i 0) 1 8:=⟨underlying31,info_parts X,I,by decide⟩
theorem YI:iK prog 30 133 (.agg (Sx.L [.i 0,.u 0,.u 0,.u 0,.u 0,.i 0,.i 0,.i 0,.i 0,.i 0,.sn,.i 0,.i 0,.i 0,.sn,.i 0]++Sx.za).toArray) 40 520:=⟨underlying30,info_parts X,I,by decide⟩
def Cp(e:TypeId)(k:Nat)(f:α->List Value)(base:Nat)(v:Value)(L:List α)(w:World):Prop:=Sx.aY base (nY e k f base v L) w
theorem Cp.ext{e:TypeId}{k:Nat}{f:α->List Value}{base:Nat}{v:Value}{L:List α}{w w':World}(h:Cp e k f base v L w)(hE:Ext w w'):Cp e k f base v L w':=az3 h hE
theorem Cp.mono{e:TypeId}{k:Nat}{f:α->List Value}{base b0:Nat}{v:Value}{L:List α}{w:World}(h:Cp e k f base v L w)(hb:b0<=base):Cp e k f b0 v L w:=aAD (Sx.aY.le h hb) λ_ h=>h.le hb
theorem Cp.shape{e:TypeId}{k:Nat}{f:α->List Value}{base:Nat}{v:Value}{L:List α}{w:World}(h:Cp e k f base v L w):∃a c,v = .slice a L.length c:=(aAj h).1.shape
theorem Iu(e:TypeId)(k:Nat)(f:α->List Value)(base:Nat)(w:World):Cp e k f base (.sn) [] w:=λw' _ _=>⟨dI k f w',.inl I⟩
theorem qg{L:List α}(h:aJ k f w (.slice none n c) L):L=[]:=by
 obtain⟨a,cap,e,hm,h⟩:=h;simp only[aAq]at e;obtain⟨rfl,rfl,rfl⟩:=e;rcases h with ⟨h,_⟩ | ⟨b,o,h,_⟩
 .exact h
 cases h
theorem kF{L:List α}(h:aJ k f w (.slice none n c) L):c=0:=by
 obtain⟨a,cap,e,hm,h⟩:=h;simp only[aAq]at e;obtain⟨rfl,rfl,rfl⟩:=e;rcases h with ⟨_,h⟩ | ⟨b,o,h,_⟩
 .exact h I
 cases h
theorem aY.ch{base b:Nat}{F:World->Prop}{w w':World}(h:Sx.aY base F w)(hc:Ch b w w')(hb:b<base):Sx.aY base F w':=λw2 hs hk =>
 h w2 (aAa hc.size hs) λk hk1 hk2=>(hk k (aAk hk1 hc.size) hk2).trans (hc.block k hk1 λe=>by simp only[azT]at e; omega)
theorem eH{f:α->Value}{l:List α}(h:aJ 1 (λx=>[f x]) w v l):dG f w v l:=by
 obtain⟨a,cap,hv,hm,h⟩:=h;refine⟨a,cap,hv,hm,?_⟩;rcases h with h | ⟨b,o,ha,hlt,hl,hc⟩
 .exact .inl h
 exact .inr ⟨b,o,ha,hlt,hl,λi hi=>by have:=hc i hi 0 Z; simpa using this⟩
def bJ.strip(r:bJ):bJ:=⟨r.n1,Option.none,0,r.l1,r.n2,Option.none,0,r.l2⟩
def bH.strip(t:bH):bH:=⟨t.a.strip,t.b.strip,t.c.strip,t.d.strip,t.e.strip,t.f.strip⟩
def dF.strip(m:dF):dF:=⟨m.w,m.h,Option.none,0,m.l⟩
def ak.strip(p:ak):ak:=⟨p.kind,p.color,p.p0,p.p1,p.bT,Option.none,0,p.stops,p.spread,p.img.strip,p.cO,p.t.strip⟩
def aV.strip(p:aV):aV:=⟨p.width,p.join,p.cap,p.fB,Option.none,0,p.dash,p.phase⟩
def aj.strip(n:aj):aj:=⟨n.id,n.kind,n.depth,n.t.strip,Option.none,0,n.clip,n.aS,n.dR,n.blend,n.isolated,n.dH,Option.none,0,n.path,n.aW,Option.none,0,n.fill.map ak.strip,n.style.strip,Option.none,0,n.stroke.map ak.strip,n.img.strip,n.cO⟩
abbrev wZ:UInt32->List Value:=λx=>[bn x]
def bJ.pU(base:Nat)(r:bJ)(w:World):Prop:=r.ok w∧Sx.Ty 119 1 base r.s1 r.l1.length w∧Sx.Ty 119 1 base r.s2 r.l2.length w
def bH.pU(base:Nat)(t:bH)(w:World):Prop:=t.a.pU base w∧t.b.pU base w∧t.c.pU base w∧t.d.pU base w∧t.e.pU base w∧t.f.pU base w
def ak.pU(base:Nat)(p:ak)(w:World):Prop:=p.ok w∧Sx.Ty 202 5 base p.sv p.stops.length w∧Sx.Ty 178 4 base p.img.s p.img.l.length w∧p.t.pU base w
def kG(base:Nat)(w:World)(v:Value)(l:List ak):Prop:=nY 133 40 ak.cells base v l w∧∀p∈l,p.pU base w
def aj.pU(base:Nat)(n:aj)(w:World):Prop:=n.ok w∧n.t.pU base w∧Sx.Ty 163 7 base n.cs n.clip.length w∧Sx.Ty 163 7 base n.ps n.path.length w∧kG base w n.fs n.fill∧kG base w n.ss n.stroke∧Sx.Ty 3 1 base n.style.s n.style.dash.length w∧Sx.Ty 178 4 base n.img.s n.img.l.length w
theorem bJ.pU.le{base b0:Nat}{r:bJ}{w:World}(h:r.pU base w)(hb:b0<=base):r.pU b0 w:=⟨h.1,h.2.1.le hb,h.2.2.le hb⟩
theorem bH.pU.le{base b0:Nat}{t:bH}{w:World}(h:t.pU base w)(hb:b0<=base):t.pU b0 w:=⟨h.1.le hb,h.2.1.le hb,h.2.2.1.le hb,h.2.2.2.1.le hb,h.2.2.2.2.1.le hb,h.2.2.2.2.2.le hb⟩
theorem bH.pU.ok{base:Nat}{t:bH}{w:World}(h:t.pU base w):t.ok w:=⟨h.1.1,h.2.1.1,h.2.2.1.1,h.2.2.2.1.1,h.2.2.2.2.1.1,h.2.2.2.2.2.1⟩
theorem ak.pU.le{base b0:Nat}{p:ak}{w:World}(h:p.pU base w)(hb:b0<=base):p.pU b0 w:=⟨h.1,h.2.1.le hb,h.2.2.1.le hb,h.2.2.2.le hb⟩
theorem kG.le{base b0:Nat}{w:World}{v:Value}{l:List ak}(h:kG base w v l)(hb:b0<=base):kG b0 w v l:=⟨h.1.le hb,λp hp=>(h.2 p hp).le hb⟩
theorem kG.ok{base:Nat}{w:World}{v:Value}{l:List ak}(h:kG base w v l):iV w v l:=⟨h.1.1,λp hp=>(h.2 p hp).1⟩
abbrev bJ.cp (base:Nat)(r:bJ)(w:World):Prop:=Sx.aY base (λW=>r.pU base W) w
abbrev bH.cp (base:Nat)(t:bH)(w:World):Prop:=Sx.aY base (λW=>t.pU base W) w
abbrev qH (base:Nat)(v:Value)(l:List ak)(w:World):Prop:=Sx.aY base (λW=>kG base W v l) w
theorem DF{r:bJ}(h:r.cp base w)(hb:b0<=base):r.cp b0 w:=aAD (Sx.aY.le h hb) λ_ h=>h.le hb
theorem adX{t:bH}(h:t.cp base w)(hb:b0<=base):t.cp b0 w:=aAD (Sx.aY.le h hb) λ_ h=>h.le hb
theorem yx{l:List ak}(h:qH base v l w)(hb:b0<=base):qH b0 v l w:=aAD (Sx.aY.le h hb) λ_ h=>h.le hb
def bH.lim(t:bH):Prop:=t.fit 1000000
theorem yA{r:bJ}(h:r.fit 1000000):r.l1.length<=10000000∧r.l2.length<=10000000:=⟨by have:=h.1; omega,by have:=h.2; omega⟩
theorem agQ{t:bH}(h:t.lim):(t.a.l1.length<=10000000∧t.a.l2.length<=10000000)∧(t.b.l1.length<=10000000∧t.b.l2.length<=10000000)∧(t.c.l1.length<=10000000∧t.c.l2.length<=10000000)∧(t.d.l1.length<=10000000∧t.d.l2.length<=10000000)∧(t.e.l1.length<=10000000∧t.e.l2.length<=10000000)∧(t.f.l1.length<=10000000∧t.f.l2.length<=10000000):=
 ⟨yA h.1,yA h.2.1,yA h.2.2.1,yA h.2.2.2.1,yA h.2.2.2.2.1,yA h.2.2.2.2.2⟩
theorem Wv{L:List UInt32}(h:aJ 1 (λx=>[bn x]) w v L):dQ w 1 v L.length (L.flatMap (λx=>[bn x])):=nR h (λ_=>I) λ_=>rfl
theorem Wx{L:List UInt32}(h:aJ 1 (λx=>[bn x]) w v L)(hl:L.length<=10000000) :
  Calls prog 200 #[v] w λe w'=>∃v',e = .returned v'∧Cp 119 1 (λx=>[bn x]) w.heap.size v' L w'∧Ext w w':=by
 obtain⟨a,c,rfl⟩:=h.shape;cases a with
 | none =>
  obtain rfl:L=[]:=qg h;obtain rfl:=kF h;refine azp func200 ntmps200 λS=>azy S λS=>apB S (.sn) (λS=>?_);exact⟨_,I,Iu _ _ _ _ _,S.E⟩
 | some p =>
  refine azp func200 ntmps200 λS=>azE S (λS=>?_);have R:=aAy S;refine azw S λS=>Sx.newRow S R 5 0 119 1 [] λac u v5 E6 X7 R S=>azF S λS=>azw S λS=>Sx.app S R 0 7 I lT (Wv (h.below S.E)) (by show 0+L.length<=9223372036854775807; omega) (by show(0+L.length)*_<=140737488355328; omega) λac u v8 X9 R S=>azF S λS=>apB S v8 (λS=>?_);exact⟨_,I,kC (λ_=>I) (R.own _ az5) (aAK _) (aAR _),S.E⟩
theorem Wy{L:List dN}(h:aJ 7 dN.cells w v L):dQ w 7 v L.length (L.flatMap dN.cells):=nR h (λ_=>I) λ_=>rfl
theorem Iw{L:List dN}(h:aJ 7 dN.cells w v L)(hl:L.length<=10000000) :
  Calls prog 101 #[v] w λe w'=>∃v',e = .returned v'∧Cp 163 7 dN.cells w.heap.size v' L w'∧Ext w w':=by
 obtain⟨a,c,rfl⟩:=h.shape;cases a with
 | none =>
  obtain rfl:L=[]:=qg h;obtain rfl:=kF h;refine azp func101 ntmps101 λS=>azy S λS=>apB S (.sn) (λS=>?_);exact⟨_,I,Iu _ _ _ _ _,S.E⟩
 | some p =>
  refine azp func101 ntmps101 λS=>azE S (λS=>?_);have R:=aAy S;refine azw S λS=>Sx.newRow S R 5 0 163 7 [] λac u v5 E6 X7 R S=>azF S λS=>azw S λS=>Sx.app S R 0 7 I aiw (Wy (h.below S.E)) (by show 0+L.length<=9223372036854775807; omega) (by show(0+L.length)*_<=140737488355328; omega) λac u v8 X9 R S=>azF S λS=>apB S v8 (λS=>?_);exact⟨_,I,kC (λ_=>I) (R.own _ az5) (aAK _) (aAR _),S.E⟩
theorem Sv{L:List dK}(h:aJ 5 dK.cells w v L):dQ w 5 v L.length (L.flatMap dK.cells):=nR h (λ_=>I) λ_=>rfl
theorem Sz{L:List dK}(h:aJ 5 dK.cells w v L)(hl:L.length<=10000000) :
  Calls prog 151 #[v] w λe w'=>∃v',e = .returned v'∧Cp 202 5 dK.cells w.heap.size v' L w'∧Ext w w':=by
 obtain⟨a,c,rfl⟩:=h.shape;cases a with
 | none =>
  obtain rfl:L=[]:=qg h;obtain rfl:=kF h;refine azp func151 ntmps151 λS=>azy S λS=>apB S (.sn) (λS=>?_);exact⟨_,I,Iu _ _ _ _ _,S.E⟩
 | some p =>
  refine azp func151 ntmps151 λS=>azE S (λS=>?_);have R:=aAy S;refine azw S λS=>Sx.newRow S R 5 0 202 5 [] λac u v5 E6 X7 R S=>azF S λS=>azw S λS=>Sx.app S R 0 7 I adW (Sv (h.below S.E)) (by show 0+L.length<=9223372036854775807; omega) (by show(0+L.length)*_<=140737488355328; omega) λac u v8 X9 R S=>azF S λS=>apB S v8 (λS=>?_);exact⟨_,I,kC (λ_=>I) (R.own _ az5) (aAK _) (aAR _),S.E⟩
theorem WA{L:List bD}(h:aJ 4 bD.cells w v L):dQ w 4 v L.length (L.flatMap bD.cells):=nR h (λ_=>I) λ_=>rfl
theorem Iy{L:List bD}(h:aJ 4 bD.cells w v L)(hl:L.length<=10000000) :
  Calls prog 104 #[v] w λe w'=>∃v',e = .returned v'∧Cp 178 4 bD.cells w.heap.size v' L w'∧Ext w w':=by
 obtain⟨a,c,rfl⟩:=h.shape;cases a with
 | none =>
  obtain rfl:L=[]:=qg h;obtain rfl:=kF h;refine azp func104 ntmps104 λS=>azy S λS=>apB S (.sn) (λS=>?_);exact⟨_,I,Iu _ _ _ _ _,S.E⟩
 | some p =>
  refine azp func104 ntmps104 λS=>azE S (λS=>?_);have R:=aAy S;refine azw S λS=>Sx.newRow S R 5 0 178 4 [] λac u v5 E6 X7 R S=>azF S λS=>azw S λS=>Sx.app S R 0 7 I aix (WA (h.below S.E)) (by show 0+L.length<=9223372036854775807; omega) (by show(0+L.length)*_<=140737488355328; omega) λac u v8 X9 R S=>azF S λS=>apB S v8 (λS=>?_);exact⟨_,I,kC (λ_=>I) (R.own _ az5) (aAK _) (aAR _),S.E⟩
theorem WB{L:List Int}(h:aJ 1 (λx=>[Bh x]) w v L):dQ w 1 v L.length (L.flatMap (λx=>[Bh x])):=nR h (λ_=>I) λ_=>rfl
theorem WC{L:List Int}(h:aJ 1 (λx=>[Bh x]) w v L)(hl:L.length<=10000000) :
  Calls prog 103 #[v] w λe w'=>∃v',e = .returned v'∧Cp 3 1 (λx=>[Bh x]) w.heap.size v' L w'∧Ext w w':=by
 obtain⟨a,c,rfl⟩:=h.shape;cases a with
 | none =>
  obtain rfl:L=[]:=qg h;obtain rfl:=kF h;refine azp func103 ntmps103 λS=>azy S λS=>apB S (.sn) (λS=>?_);exact⟨_,I,Iu _ _ _ _ _,S.E⟩
 | some p =>
  refine azp func103 ntmps103 λS=>azE S (λS=>?_);have R:=aAy S;refine azw S λS=>Sx.newRow S R 5 0 3 1 [] λac u v5 E6 X7 R S=>azF S λS=>azw S λS=>Sx.app S R 0 7 I aiy (WB (h.below S.E)) (by show 0+L.length<=9223372036854775807; omega) (by show(0+L.length)*_<=140737488355328; omega) λac u v8 X9 R S=>azF S λS=>apB S v8 (λS=>?_);exact⟨_,I,kC (λ_=>I) (R.own _ az5) (aAK _) (aAR _),S.E⟩
theorem iQ{n:Bool}{l:List UInt32}(h:aJ 1 wZ w v l)(hl:l.length<=10000000) :
  Calls prog 149 #[.agg #[.bool n,v]] w λe w'=>∃a c,e = .returned (.agg #[.bool n,.slice a l.length c])∧Cp 119 1 wZ w.heap.size (.slice a l.length c) l w'∧Ext w w':=by
 obtain⟨a0,c0,rfl⟩:=h.shape;refine azp func149 ntmps149 λS=>azo S λu b2 E3 hb4 S=>azo S (λu b5 E6 hb7 S=>?_);have y0:=S.E.size;have z0:=(S.bx 0).1;refine jd S 5 [(7,λv w1=>Cp 119 1 wZ u.heap.size v l w1)] (λr=>[.mem 1 0,.mem 1 1]) (λx=>[x 7]) (λx=>[(_,_,true,x 7,7)]) [[]] (λx=>[(4,.bool n),(7,x 7)]) ⟨λ_ _ _ k h=>h.ext k,G⟩ (λx=>⟨by intro u hC g F; exact(Wx (h.below (K00 S.E hC)) hl).mono λe w2 h=>by obtain⟨y,rfl,hx,hb⟩:=h; exact⟨_,I,hx.mono hC.size,hb⟩,G⟩) (λu x E9 F S=>?_);obtain⟨F7,-⟩:=F;obtain⟨a1,c1,e1⟩:=Cp.shape F7;rw[e1]at S F7;try rw[e1]
 refine azq S 0 I (λu C10 S=>?_);have JX:=aY.ch F7 C10 Z;refine azC S 0 I (v := .agg #[.bool n,.slice a1 l.length c1]) (λS=>?_);exact⟨a1,c1,I,Cp.mono JX Z,S.E⟩
theorem DI{r:bJ}(h1:Cp 119 1 wZ base r.s1 r.l1 w)(h2:Cp 119 1 wZ base r.s2 r.l2 w):r.cp base w:=aAD (aAm h1 h2) λ_ h=>⟨⟨eH h.1.1,eH h.2.1⟩,h.1.2,h.2.2⟩
theorem akp{t:bH}(h0:t.a.cp base w)(h1:t.b.cp base w)(h2:t.c.cp base w)(h3:t.d.cp base w)(h4:t.e.cp base w)(h5:t.f.cp base w):t.cp base w:=aAm h0 (aAm h1 (aAm h2 (aAm h3 (aAm h4 h5))))
theorem zx{t:bH}(h:t.ok w)(hl:t.lim) :
  Calls prog 100 #[t.v] w λe w'=>∃t':bH,e = .returned t'.v∧t'.cp w.heap.size w'∧t'.strip=t.strip∧Ext w w':=by
 obtain⟨h0,h1,h2,h3,h4,h5⟩:=h;obtain⟨hl0,hl1,hl2,hl3,hl4,hl5⟩:=agQ hl;refine azX func100 ntmps100 λac S=>azn λ_ gQ=>qO S 1 t.cells λac u b2 E3 hb4 S=>qO S 2 Sx.za λac u b5 E6 hb7 S=>azl<|gQ _ _<|az8 λ_ κ8=>azn λ_ κ9=>azk S 6 [] [(5,.q b2 0),(6,.q b2 4),(7,.q b2 8),(8,.q b2 12),(9,.q b2 16),(10,.q b2 20)] λS=>Sx.news S 11 6 [.q b2 0,.q b2 4,.q b2 8,.q b2 12,.q b2 16,.q b2 20] λac u b10 Bc Ho S=>azk S 2 [] [(12,.i 6),(13,.i 0)] λS=>azl<|κ9 _ _<|aAM<|wp_loop_rounds 7 ?_;rw[aB5];refine azn λ_ Wq=>azk S 1 [] [(14,.bool true)] λS=>azl<|Wq _ _<|az8 λ_ vP=>Ia S<|aAs<|vP _ _<|az8 λ_ Ib=>aAM<|azn λ_ Ai=>azk S 3 [.mem 0 0] [(4,.q b2 0)] λS=>azl (Ai _ _ ?_);have y0:=S.E.size;have z1:=(S.bx 1).1;have z2:=(S.bx 2).1;refine Sx.hoist [0] 11<|qJ S 11 [(22,λv w1=>∃a c,v = .agg #[.bool t.a.n1,.slice a t.a.l1.length c]∧Cp 119 1 wZ u.heap.size (.slice a t.a.l1.length c) t.a.l1 w1),(27,λv w1=>∃a c,v = .agg #[.bool t.a.n2,.slice a t.a.l2.length c]∧Cp 119 1 wZ u.heap.size (.slice a t.a.l2.length c) t.a.l2 w1)] (λr=>[.mem 2 0,.mem 2 2]) (λx=>[x 22,x 27]) (λx=>[(_,_,true,x 22,22),(_,_,true,x 27,27)]) [[],[]] (λx=>[(17,.q b2 0),(22,x 22),(27,x 27)]) ⟨λ_ _ _ k h=>by obtain⟨a,c,e,h⟩:=h; exact⟨a,c,e,h.ext k⟩,λ_ _ _ k h=>by obtain⟨a,c,e,h⟩:=h; exact⟨a,c,e,h.ext k⟩,G⟩ (λx=>⟨by intro u hC g F; exact(iQ (n:=t.a.n1) (v:=t.a.s1) (l:=t.a.l1) ((fH (f:=bn) h0.1).below (K00 S.E hC)) (hl0.1)).mono λe w2 h=>by obtain⟨a,c,rfl,hx,hb⟩:=h; exact⟨_,I,⟨a,c,I,hx.mono hC.size⟩,hb⟩,by intro u hC g F; exact(iQ (n:=t.a.n2) (v:=t.a.s2) (l:=t.a.l2) ((fH (f:=bn) h0.2).below (K00 S.E hC)) (hl0.2)).mono λe w2 h=>by obtain⟨a,c,rfl,hx,hb⟩:=h; exact⟨_,I,⟨a,c,I,hx.mono hC.size⟩,hb⟩,G⟩) (λac u x yZ F S=>?_);obtain⟨zy,F27,-⟩:=F;obtain⟨a01,c01,e01,zy⟩:=zy;rw[e01]at S;obtain⟨a02,c02,e02,F27⟩:=F27;rw[e02]at S;refine azk S 2 [] [(28,.agg #[.bool t.a.n1,.slice a01 t.a.l1.length c01,.bool t.a.n2,.slice a02 t.a.l2.length c02]),(29,.q b2 0)] λS=>azR S 2 (off:=0) (cs:=[.bool t.a.n1,.slice a01 t.a.l1.length c01,.bool t.a.n2,.slice a02 t.a.l2.length c02]) I (λu C18 S=>?_);have nN:=aY.ch zy C18 Z;have Ac:=aY.ch F27 C18 Z;have G21:=(DI (r:=⟨t.a.n1,a01,c01,t.a.l1,t.a.n2,a02,c02,t.a.l2⟩) nN Ac);refine azl<|Ib _ _<|aBo<|azk S 2 [] [(13,.i 1)] λS=>azl ?_;show Code.rounds _ _ _ 6 _ _;rw[aB5];refine azn λ_ arp=>azk S 1 [] [(14,.bool true)] λS=>azl<|arp _ _<|az8 λ_ adY=>Ia S<|aAs<|adY _ _<|az8 λ_ WE=>aAM<|azn λ_ arq=>azk S 3 [.mem 0 1] [(4,.q b2 4)] λS=>azl (arq _ _ ?_);have y1:=S.E.size;have z1:=(S.bx 1).1;have z2:=(S.bx 2).1;refine Sx.hoist [0] 11<|qJ S 11 [(22,λv w1=>∃a c,v = .agg #[.bool t.b.n1,.slice a t.b.l1.length c]∧Cp 119 1 wZ u.heap.size (.slice a t.b.l1.length c) t.b.l1 w1),(27,λv w1=>∃a c,v = .agg #[.bool t.b.n2,.slice a t.b.l2.length c]∧Cp 119 1 wZ u.heap.size (.slice a t.b.l2.length c) t.b.l2 w1)] (λr=>[.mem 2 4,.mem 2 6]) (λx=>[x 22,x 27]) (λx=>[(_,_,true,x 22,22),(_,_,true,x 27,27)]) [[],[]] (λx=>[(17,.q b2 4),(22,x 22),(27,x 27)]) ⟨λ_ _ _ k h=>by obtain⟨a,c,e,h⟩:=h; exact⟨a,c,e,h.ext k⟩,λ_ _ _ k h=>by obtain⟨a,c,e,h⟩:=h; exact⟨a,c,e,h.ext k⟩,G⟩ (λx=>⟨by intro u hC g F; exact(iQ (n:=t.b.n1) (v:=t.b.s1) (l:=t.b.l1) ((fH (f:=bn) h1.1).below (K00 S.E hC)) (hl1.1)).mono λe w2 h=>by obtain⟨a,c,rfl,hx,hb⟩:=h; exact⟨_,I,⟨a,c,I,hx.mono hC.size⟩,hb⟩,by intro u hC g F; exact(iQ (n:=t.b.n2) (v:=t.b.s2) (l:=t.b.l2) ((fH (f:=bn) h1.2).below (K00 S.E hC)) (hl1.2)).mono λe w2 h=>by obtain⟨a,c,rfl,hx,hb⟩:=h; exact⟨_,I,⟨a,c,I,hx.mono hC.size⟩,hb⟩,G⟩) (λac u x UU F S=>?_);obtain⟨zy,F27,-⟩:=F;obtain⟨a11,c11,e11,zy⟩:=zy;rw[e11]at S;obtain⟨a12,c12,e12,F27⟩:=F27;rw[e12]at S;refine azk S 2 [] [(28,.agg #[.bool t.b.n1,.slice a11 t.b.l1.length c11,.bool t.b.n2,.slice a12 t.b.l2.length c12]),(29,.q b2 4)] λS=>azR S 2 (off:=4) (cs:=[.bool t.b.n1,.slice a11 t.b.l1.length c11,.bool t.b.n2,.slice a12 t.b.l2.length c12]) I (λu C27 S=>?_);have Dz:=aY.ch (G21.ext UU) C27 Z;have qR:=aY.ch zy C27 Z;have WG:=aY.ch F27 C27 Z;have G31:=(DI (r:=⟨t.b.n1,a11,c11,t.b.l1,t.b.n2,a12,c12,t.b.l2⟩) qR WG);refine azl<|WE _ _<|aBo<|azk S 2 [] [(13,.i 2)] λS=>azl ?_;show Code.rounds _ _ _ 5 _ _;rw[aB5];refine azn λ_ ars=>azk S 1 [] [(14,.bool true)] λS=>azl<|ars _ _<|az8 λ_ Oy=>Ia S<|aAs<|Oy _ _<|az8 λ_ Ws=>aAM<|azn λ_ Wu=>azk S 3 [.mem 0 2] [(4,.q b2 8)] λS=>azl (Wu _ _ ?_);have y2:=S.E.size;have z1:=(S.bx 1).1;have z2:=(S.bx 2).1;refine Sx.hoist [0] 11<|qJ S 11 [(22,λv w1=>∃a c,v = .agg #[.bool t.c.n1,.slice a t.c.l1.length c]∧Cp 119 1 wZ u.heap.size (.slice a t.c.l1.length c) t.c.l1 w1),(27,λv w1=>∃a c,v = .agg #[.bool t.c.n2,.slice a t.c.l2.length c]∧Cp 119 1 wZ u.heap.size (.slice a t.c.l2.length c) t.c.l2 w1)] (λr=>[.mem 2 8,.mem 2 10]) (λx=>[x 22,x 27]) (λx=>[(_,_,true,x 22,22),(_,_,true,x 27,27)]) [[],[]] (λx=>[(17,.q b2 8),(22,x 22),(27,x 27)]) ⟨λ_ _ _ k h=>by obtain⟨a,c,e,h⟩:=h; exact⟨a,c,e,h.ext k⟩,λ_ _ _ k h=>by obtain⟨a,c,e,h⟩:=h; exact⟨a,c,e,h.ext k⟩,G⟩ (λx=>⟨by intro u hC g F; exact(iQ (n:=t.c.n1) (v:=t.c.s1) (l:=t.c.l1) ((fH (f:=bn) h2.1).below (K00 S.E hC)) (hl2.1)).mono λe w2 h=>by obtain⟨a,c,rfl,hx,hb⟩:=h; exact⟨_,I,⟨a,c,I,hx.mono hC.size⟩,hb⟩,by intro u hC g F; exact(iQ (n:=t.c.n2) (v:=t.c.s2) (l:=t.c.l2) ((fH (f:=bn) h2.2).below (K00 S.E hC)) (hl2.2)).mono λe w2 h=>by obtain⟨a,c,rfl,hx,hb⟩:=h; exact⟨_,I,⟨a,c,I,hx.mono hC.size⟩,hb⟩,G⟩) (λac u x FQ F S=>?_);obtain⟨zy,F27,-⟩:=F;obtain⟨a21,c21,e21,zy⟩:=zy;rw[e21]at S;obtain⟨a22,UW,e22,F27⟩:=F27;rw[e22]at S;refine azk S 2 [] [(28,.agg #[.bool t.c.n1,.slice a21 t.c.l1.length c21,.bool t.c.n2,.slice a22 t.c.l2.length UW]),(29,.q b2 8)] λS=>azR S 2 (off:=8) (cs:=[.bool t.c.n1,.slice a21 t.c.l1.length c21,.bool t.c.n2,.slice a22 t.c.l2.length UW]) I (λu C37 S=>?_);have wH:=aY.ch (Dz.ext FQ) C37 Z;have Ad:=aY.ch (G31.ext FQ) C37 Z;have Dt:=aY.ch zy C37 Z;have wI:=aY.ch F27 C37 Z;have G42:=(DI (r:=⟨t.c.n1,a21,c21,t.c.l1,t.c.n2,a22,UW,t.c.l2⟩) Dt wI);refine azl<|Ws _ _<|aBo<|azk S 2 [] [(13,.i 3)] λS=>azl ?_;show Code.rounds _ _ _ 4 _ _;rw[aB5];refine azn λ_ aru=>azk S 1 [] [(14,.bool true)] λS=>azl<|aru _ _<|az8 λ_ agO=>Ia S<|aAs<|agO _ _<|az8 λ_ adU=>aAM<|azn λ_ akj=>azk S 3 [.mem 0 3] [(4,.q b2 12)] λS=>azl (akj _ _ ?_);have y3:=S.E.size;have z1:=(S.bx 1).1;have z2:=(S.bx 2).1;refine Sx.hoist [0] 11<|qJ S 11 [(22,λv w1=>∃a c,v = .agg #[.bool t.d.n1,.slice a t.d.l1.length c]∧Cp 119 1 wZ u.heap.size (.slice a t.d.l1.length c) t.d.l1 w1),(27,λv w1=>∃a c,v = .agg #[.bool t.d.n2,.slice a t.d.l2.length c]∧Cp 119 1 wZ u.heap.size (.slice a t.d.l2.length c) t.d.l2 w1)] (λr=>[.mem 2 12,.mem 2 14]) (λx=>[x 22,x 27]) (λx=>[(_,_,true,x 22,22),(_,_,true,x 27,27)]) [[],[]] (λx=>[(17,.q b2 12),(22,x 22),(27,x 27)]) ⟨λ_ _ _ k h=>by obtain⟨a,c,e,h⟩:=h; exact⟨a,c,e,h.ext k⟩,λ_ _ _ k h=>by obtain⟨a,c,e,h⟩:=h; exact⟨a,c,e,h.ext k⟩,G⟩ (λx=>⟨by intro u hC g F; exact(iQ (n:=t.d.n1) (v:=t.d.s1) (l:=t.d.l1) ((fH (f:=bn) h3.1).below (K00 S.E hC)) (hl3.1)).mono λe w2 h=>by obtain⟨a,c,rfl,hx,hb⟩:=h; exact⟨_,I,⟨a,c,I,hx.mono hC.size⟩,hb⟩,by intro u hC g F; exact(iQ (n:=t.d.n2) (v:=t.d.s2) (l:=t.d.l2) ((fH (f:=bn) h3.2).below (K00 S.E hC)) (hl3.2)).mono λe w2 h=>by obtain⟨a,c,rfl,hx,hb⟩:=h; exact⟨_,I,⟨a,c,I,hx.mono hC.size⟩,hb⟩,G⟩) (λac u x E47 F S=>?_);obtain⟨zy,F27,-⟩:=F;obtain⟨a31,c31,e31,zy⟩:=zy;rw[e31]at S;obtain⟨a32,c32,e32,F27⟩:=F27;rw[e32]at S;refine azk S 2 [] [(28,.agg #[.bool t.d.n1,.slice a31 t.d.l1.length c31,.bool t.d.n2,.slice a32 t.d.l2.length c32]),(29,.q b2 12)] λS=>azR S 2 (off:=12) (cs:=[.bool t.d.n1,.slice a31 t.d.l1.length c31,.bool t.d.n2,.slice a32 t.d.l2.length c32]) I (λu C48 S=>?_);have SA:=aY.ch (wH.ext E47) C48 Z;have VY:=aY.ch (Ad.ext E47) C48 Z;have Hr:=aY.ch (G42.ext E47) C48 Z;have BK:=aY.ch zy C48 Z;have BL:=aY.ch F27 C48 Z;have G54:=(DI (r:=⟨t.d.n1,a31,c31,t.d.l1,t.d.n2,a32,c32,t.d.l2⟩) BK BL);refine azl<|adU _ _<|aBo<|azk S 2 [] [(13,.i 4)] λS=>azl ?_;show Code.rounds _ _ _ 3 _ _;rw[aB5];refine azn λ_ akl=>azk S 1 [] [(14,.bool true)] λS=>azl<|akl _ _<|az8 λ_ arv=>Ia S<|aAs<|arv _ _<|az8 λ_ arw=>aAM<|azn λ_ arx=>azk S 3 [.mem 0 4] [(4,.q b2 16)] λS=>azl (arx _ _ ?_);have y4:=S.E.size;have z1:=(S.bx 1).1;have z2:=(S.bx 2).1;refine Sx.hoist [0] 11<|qJ S 11 [(22,λv w1=>∃a c,v = .agg #[.bool t.e.n1,.slice a t.e.l1.length c]∧Cp 119 1 wZ u.heap.size (.slice a t.e.l1.length c) t.e.l1 w1),(27,λv w1=>∃a c,v = .agg #[.bool t.e.n2,.slice a t.e.l2.length c]∧Cp 119 1 wZ u.heap.size (.slice a t.e.l2.length c) t.e.l2 w1)] (λr=>[.mem 2 16,.mem 2 18]) (λx=>[x 22,x 27]) (λx=>[(_,_,true,x 22,22),(_,_,true,x 27,27)]) [[],[]] (λx=>[(17,.q b2 16),(22,x 22),(27,x 27)]) ⟨λ_ _ _ k h=>by obtain⟨a,c,e,h⟩:=h; exact⟨a,c,e,h.ext k⟩,λ_ _ _ k h=>by obtain⟨a,c,e,h⟩:=h; exact⟨a,c,e,h.ext k⟩,G⟩ (λx=>⟨by intro u hC g F; exact(iQ (n:=t.e.n1) (v:=t.e.s1) (l:=t.e.l1) ((fH (f:=bn) h4.1).below (K00 S.E hC)) (hl4.1)).mono λe w2 h=>by obtain⟨a,c,rfl,hx,hb⟩:=h; exact⟨_,I,⟨a,c,I,hx.mono hC.size⟩,hb⟩,by intro u hC g F; exact(iQ (n:=t.e.n2) (v:=t.e.s2) (l:=t.e.l2) ((fH (f:=bn) h4.2).below (K00 S.E hC)) (hl4.2)).mono λe w2 h=>by obtain⟨a,c,rfl,hx,hb⟩:=h; exact⟨_,I,⟨a,c,I,hx.mono hC.size⟩,hb⟩,G⟩) (λac u x E59 F S=>?_);obtain⟨zy,F27,-⟩:=F;obtain⟨a41,c41,e41,zy⟩:=zy;rw[e41]at S;obtain⟨a42,c42,e42,F27⟩:=F27;rw[e42]at S;refine azk S 2 [] [(28,.agg #[.bool t.e.n1,.slice a41 t.e.l1.length c41,.bool t.e.n2,.slice a42 t.e.l2.length c42]),(29,.q b2 16)] λS=>azR S 2 (off:=16) (cs:=[.bool t.e.n1,.slice a41 t.e.l1.length c41,.bool t.e.n2,.slice a42 t.e.l2.length c42]) I (λu U2 S=>?_);have Cm:=aY.ch (SA.ext E59) U2 Z;have BU:=aY.ch (VY.ext E59) U2 Z;have wU:=aY.ch (Hr.ext E59) U2 Z;have aaR:=aY.ch (G54.ext E59) U2 Z;have SB:=aY.ch zy U2 Z;have VZ:=aY.ch F27 U2 Z;have G67:=(DI (r:=⟨t.e.n1,a41,c41,t.e.l1,t.e.n2,a42,c42,t.e.l2⟩) SB VZ);refine azl<|arw _ _<|aBo<|azk S 2 [] [(13,.i 5)] λS=>azl ?_;show Code.rounds _ _ _ 2 _ _;rw[aB5];refine azn λ_ arz=>azk S 1 [] [(14,.bool true)] λS=>azl<|arz _ _<|az8 λ_ akq=>Ia S<|aAs<|akq _ _<|az8 λ_ arA=>aAM<|azn λ_ arB=>azk S 3 [.mem 0 5] [(4,.q b2 20)] λS=>azl (arB _ _ ?_);have y5:=S.E.size;have z1:=(S.bx 1).1;have z2:=(S.bx 2).1;refine Sx.hoist [0] 11<|qJ S 11 [(22,λv w1=>∃a c,v = .agg #[.bool t.f.n1,.slice a t.f.l1.length c]∧Cp 119 1 wZ u.heap.size (.slice a t.f.l1.length c) t.f.l1 w1),(27,λv w1=>∃a c,v = .agg #[.bool t.f.n2,.slice a t.f.l2.length c]∧Cp 119 1 wZ u.heap.size (.slice a t.f.l2.length c) t.f.l2 w1)] (λr=>[.mem 2 20,.mem 2 22]) (λx=>[x 22,x 27]) (λx=>[(_,_,true,x 22,22),(_,_,true,x 27,27)]) [[],[]] (λx=>[(17,.q b2 20),(22,x 22),(27,x 27)]) ⟨λ_ _ _ k h=>by obtain⟨a,c,e,h⟩:=h; exact⟨a,c,e,h.ext k⟩,λ_ _ _ k h=>by obtain⟨a,c,e,h⟩:=h; exact⟨a,c,e,h.ext k⟩,G⟩ (λx=>⟨by intro u hC g F; exact(iQ (n:=t.f.n1) (v:=t.f.s1) (l:=t.f.l1) ((fH (f:=bn) h5.1).below (K00 S.E hC)) (hl5.1)).mono λe w2 h=>by obtain⟨a,c,rfl,hx,hb⟩:=h; exact⟨_,I,⟨a,c,I,hx.mono hC.size⟩,hb⟩,by intro u hC g F; exact(iQ (n:=t.f.n2) (v:=t.f.s2) (l:=t.f.l2) ((fH (f:=bn) h5.2).below (K00 S.E hC)) (hl5.2)).mono λe w2 h=>by obtain⟨a,c,rfl,hx,hb⟩:=h; exact⟨_,I,⟨a,c,I,hx.mono hC.size⟩,hb⟩,G⟩) (λac u x E72 F S=>?_);obtain⟨zy,F27,-⟩:=F;obtain⟨a51,c51,e51,zy⟩:=zy;rw[e51]at S;obtain⟨a52,c52,e52,F27⟩:=F27;rw[e52]at S;refine azk S 2 [] [(28,.agg #[.bool t.f.n1,.slice a51 t.f.l1.length c51,.bool t.f.n2,.slice a52 t.f.l2.length c52]),(29,.q b2 20)] λS=>azR S 2 (off:=20) (cs:=[.bool t.f.n1,.slice a51 t.f.l1.length c51,.bool t.f.n2,.slice a52 t.f.l2.length c52]) I (λu C73 S=>?_);have WH:=aY.ch (Cm.ext E72) C73 Z;have adZ:=aY.ch (BU.ext E72) C73 Z;have Oz:=aY.ch (wU.ext E72) C73 Z;have OA:=aY.ch (aaR.ext E72) C73 Z;have OB:=aY.ch (G67.ext E72) C73 Z;have ad1:=aY.ch zy C73 Z;have arC:=aY.ch F27 C73 Z;have G81:=(DI (r:=⟨t.f.n1,a51,c51,t.f.l1,t.f.n2,a52,c52,t.f.l2⟩) ad1 arC);refine azl<|arA _ _<|aBo<|azk S 2 [] [(13,.i 6)] λS=>azl ?_;show Code.rounds _ _ _ 1 _ _;rw[aB5];refine azn λ_ arD=>azk S 1 [] [(14,.z)] λS=>azl<|arD _ _<|az8 λ_ axN=>Ei S<|aA8<|κ8 _ _<|azn λ_ arE=>azk S 1 [.mem 2 0] [(31,.agg #[.bool t.a.n1,.slice a01 t.a.l1.length c01,.bool t.a.n2,.slice a02 t.a.l2.length c02,.bool t.b.n1,.slice a11 t.b.l1.length c11,.bool t.b.n2,.slice a12 t.b.l2.length c12,.bool t.c.n1,.slice a21 t.c.l1.length c21,.bool t.c.n2,.slice a22 t.c.l2.length UW,.bool t.d.n1,.slice a31 t.d.l1.length c31,.bool t.d.n2,.slice a32 t.d.l2.length c32,.bool t.e.n1,.slice a41 t.e.l1.length c41,.bool t.e.n2,.slice a42 t.e.l2.length c42,.bool t.f.n1,.slice a51 t.f.l1.length c51,.bool t.f.n2,.slice a52 t.f.l2.length c52])] λS=>azR S 1 (off:=0) (cs:=[.bool t.a.n1,.slice a01 t.a.l1.length c01,.bool t.a.n2,.slice a02 t.a.l2.length c02,.bool t.b.n1,.slice a11 t.b.l1.length c11,.bool t.b.n2,.slice a12 t.b.l2.length c12,.bool t.c.n1,.slice a21 t.c.l1.length c21,.bool t.c.n2,.slice a22 t.c.l2.length UW,.bool t.d.n1,.slice a31 t.d.l1.length c31,.bool t.d.n2,.slice a32 t.d.l2.length c32,.bool t.e.n1,.slice a41 t.e.l1.length c41,.bool t.e.n2,.slice a42 t.e.l2.length c42,.bool t.f.n1,.slice a51 t.f.l1.length c51,.bool t.f.n2,.slice a52 t.f.l2.length c52]) I (λu C85 S=>?_);have Ri:=aY.ch WH C85 Z;have VB:=aY.ch adZ C85 Z;have VD:=aY.ch Oz C85 Z;have ac8:=aY.ch OA C85 Z;have arF:=aY.ch OB C85 Z;have akr:=aY.ch G81 C85 Z;refine azl<|arE _ _<|rtc S 1 results100 I (v := .agg #[.bool t.a.n1,.slice a01 t.a.l1.length c01,.bool t.a.n2,.slice a02 t.a.l2.length c02,.bool t.b.n1,.slice a11 t.b.l1.length c11,.bool t.b.n2,.slice a12 t.b.l2.length c12,.bool t.c.n1,.slice a21 t.c.l1.length c21,.bool t.c.n2,.slice a22 t.c.l2.length UW,.bool t.d.n1,.slice a31 t.d.l1.length c31,.bool t.d.n2,.slice a32 t.d.l2.length c32,.bool t.e.n1,.slice a41 t.e.l1.length c41,.bool t.e.n2,.slice a42 t.e.l2.length c42,.bool t.f.n1,.slice a51 t.f.l1.length c51,.bool t.f.n2,.slice a52 t.f.l2.length c52]) ?_;exact⟨⟨⟨t.a.n1,a01,c01,t.a.l1,t.a.n2,a02,c02,t.a.l2⟩,⟨t.b.n1,a11,c11,t.b.l1,t.b.n2,a12,c12,t.b.l2⟩,⟨t.c.n1,a21,c21,t.c.l1,t.c.n2,a22,UW,t.c.l2⟩,⟨t.d.n1,a31,c31,t.d.l1,t.d.n2,a32,c32,t.d.l2⟩,⟨t.e.n1,a41,c41,t.e.l1,t.e.n2,a42,c42,t.e.l2⟩,⟨t.f.n1,a51,c51,t.f.l1,t.f.n2,a52,c52,t.f.l2⟩⟩,I,akp (DF Ri Z) (DF VB Z) (DF VD Z) (DF ac8 Z) (DF arF Z) (DF akr Z),I,S.E⟩
