/- Package scene: what it asks of scenes. Package scene: -/
import Derived.Test.YtodpgjjgaddkeaaGreatDoorPk18
set_option maxHeartbeats 3200000
set_option maxRecDepth 100000
set_option linter.unusedVariables false
set_option linter.unusedSimpArgs false
namespace Go.Proofs.YtodpgjjgaddkeaaGreatDoor
open _root_.Go.Proofs.Tryz
section
open Go.RowKit
variable{α:Type}{K:Nat}
abbrev keys (l:List aj):List aQ:=l.map aj.key
theorem xP{l:List aj}{i:Nat}(h:i<l.length):ET (keys l) i=l[i].depth:=by
 rw[Yt (by simpa using h)]; simp[keys,aj.key]
theorem adG{l:List aj}{id:Int}{k:Nat}(hk:k<l.length)(h:l[k].id=id)(hR:∀(j:Nat) (hj:j<l.length),j<k→l[j].id≠id):wM (keys l) id=(k:Int):=by
 have:nC (keys l) id=some k:=by
  unfold nC;rw[List.findIdx?_eq_some_iff_getElem];refine⟨by simpa using hk,by simpa[keys,aj.key]using h,fun j hj=>?_⟩;have:=hR j (by omega) hj;simpa[keys,aj.key]using this
 unfold wM; rw[this]
theorem VT{l:List aj}{id:Int}(hR:∀(j:Nat) (hj:j<l.length),l[j].id≠id):wM (keys l) id = -1:=by
 have:nC (keys l) id=none:=by
  unfold nC;rw[List.findIdx?_eq_none_iff];intro κ hκ;obtain⟨n,hn,rfl⟩:=az9.1 hκ;obtain⟨j,hj,rfl⟩:=List.getElem_of_mem hn;simpa[aj.key]using hR j hj
 unfold wM; rw[this]
theorem aaD{l:List aj}{id:Int}{k:Nat}(hk:k<l.length)(hR:∀(j:Nat) (hj:j<l.length),j<k→l[j].id≠id)(h:l[k].id≠id):∀(j:Nat) (hj:j<l.length),j<k+1→l[j].id≠id:=fun j hj h1=>by
 by_cases e:j=k
 ·subst e; exact h
 exact hR j hj (by omega)
theorem adH{s:bD}(h:((((decide (s.w<1))||(decide (256<s.w)))||(decide (s.h<1)))||(decide (256<s.h)))=true):s.chk=(6,0):=by
 unfold bD.chk;rw[azI (by simpa[or_assoc]using h)]
theorem tJ{s:bD}(h:((((decide (s.w<1))||(decide (256<s.w)))||(decide (s.h<1)))||(decide (256<s.h)))=false):s.chk=if 64<s.ns.length then (5,64)else jR [] s.ns:=by
 unfold bD.chk;rw[azG (by simpa[or_assoc,and_assoc]using h)]
theorem Ig{l:List aQ}{k:Nat}(hk:k<l.length):jR (l.take k) (l.drop k)=if jQ (l.take k) l[k]=0 then jR (l.take (k+1)) (l.drop (k+1))else (jQ (l.take k) l[k],(k:Int)):=by
 rw[aAR hk,aAJ hk];conv=>lhs; unfold jR
 rw[aBa,aBk (by omega)]
theorem Ih{l:List aj}{k:Nat}(hk:k<l.length){x:aj}(hx:l[k]=x):(keys l)[k]'(by simpa using hk)=x.key:=by simp[keys,hx]
theorem Oa(l:List aj)(k:Nat)(id:Int):((l.take k).map aj.id).any (· == id)=((keys l).take k).any fun κ=>κ.id==id:=by
 rw[←List.map_take,List.any_map,List.any_map]; rfl
structure wO (l:List aj) (k:Nat) (m:Int):Prop where
 all:jR [] (keys l)=jR ((keys l).take k) ((keys l).drop k)
 room:m=Ec ((keys l).take k)
theorem wO.start(l:List aj):wO l 0 0:=⟨by simp,rfl⟩
theorem wO.bad{l:List aj}{k:Nat}{m n:Int}{x:aj}(h:wO l k m)(hk:k<l.length)(hx:l[k]=x)(hw:jQ ((keys l).take k) x.key=n)(hn:n≠0):jR [] (keys l)=(n,(k:Int)):=by
 rw[h.all,Ig (by simpa using hk),Ih hk hx,hw,azG hn]
theorem wO.next{l:List aj}{k:Nat}{m m':Int}{x:aj}(h:wO l k m)(hk:k<l.length)(hx:l[k]=x)(hw:jQ ((keys l).take k) x.key=0)(hm:m'=if x.kind=1 then x.depth+1 else x.depth):wO l (k+1) m':=by
 have hk':k<(keys l).length:=by simpa using hk
 refine⟨?_,?_⟩
 ·rw[h.all,Ig hk',Ih hk hx,hw,azI rfl]
 rw[aAJ hk',VQ,Ih hk hx,hm]; rfl
theorem wO.done{l:List aj}{k:Nat}{m:Int}(h:wO l k m)(hk:l.length≤k):jR [] (keys l)=(0,0):=by
 rw[h.all,aA4 (by simpa using hk)]; rfl
theorem VU{pre:List aQ}{x:aj}(h:x.checkN≠0):jQ pre x.key=x.checkN:=by rw[←kZ]at h ⊢; exact VP h
theorem aaE{pre:List aQ}{x:aj}(h:x.checkN=0)(h2:pre.any (fun κ=>κ.id==x.id)=true):jQ pre x.key=7:=by
 unfold jQ;rw[kZ,h,azG (by simp),azI (show(pre.any fun κ=>κ.id==x.key.id)=true from h2)]
theorem RF{pre:List aQ}{x:aj}(h:x.checkN=0)(h2:pre.any (fun κ=>κ.id==x.id)=false)(h3:Ec pre<x.depth):jQ pre x.key=17:=by
 unfold jQ;rw[kZ,h,azG (by simp),azG (by rw[show x.key.id=x.id from rfl,h2]; simp),azG (by show ¬x.depth≤_; omega)]
theorem RG{pre:List aQ}{x:aj}(h:x.checkN=0)(h2:pre.any (fun κ=>κ.id==x.id)=false)(h3:x.depth≤Ec pre):jQ pre x.key=0:=by
 unfold jQ;rw[kZ,h,azG (by simp),azG (by rw[show x.key.id=x.id from rfl,h2]; simp),azI (by exact h3)]
theorem aaF(w:World):(zeroValue 4).run prog w = .ok (.z) w:=Sx.nN (by kernel_rfl)
theorem aaG{w:World}{v:Value}{l:List aj}(h:aI 47 aj.cells w v l){i:Nat}(hi:i<l.length){z:Int}(hz:z=(i:Int)){r:Nat}(hr:r=yE (keys l) i) :
  Calls prog 148 #[v,.i z] w fun e w'=>e = .returned (.i r)∧Ext w w':=by
 subst hz hr;obtain⟨a,cap,rfl⟩:=h.shape;have hmax:l.length≤9223372036854775807:=h.len;refine azN func148 ntmps148 fun ac S=>azc fun _ gW=>apB S 1 [] [(4,.i 0)] fun S=>aza<|gW _ _<|azc fun _ Yh=>apB S 3 [.re 7 (.i (IntKind.i64.wrap ((i:Int)+1))) (.i (i+1:Nat))] [(5,.i (i+1:Nat))] (hk:=⟨azt (by omega),trivial⟩) fun S=>aza<|Yh _ _<|azX fun _ κ3=>aAC ?_;refine Vp.loop (ι:=Nat) (fun p a' w'=>(i<p∧p≤l.length∧∀j,i<j→j<p→ET (keys l) i<ET (keys l) j)∧Sx.St w a' w' 28 [(0,.slice a l.length cap),(1,.i i),(4,.i 0),(5,.i p)] [] []) (fun p=>l.length-p) ((i+1)) ⟨⟨by omega,by omega,fun j h1 h2=>by omega⟩,S.sn⟩ ?_;rintro k ac u hI;try dsimp only at hI
 obtain⟨hR,S⟩:=hI;refine azX fun _ κ4=>azX (fun _ Bg=>?_);rcases aAx k l.length with hk | hk
 ·have ek:decide ((k:Int)<(l.length:Int))=true:=aAW (by omega);obtain⟨b1,o1,c1,hv1,hb1,hr1⟩:=Vp.rF h (fun _=>rfl) i hi;simp only[aAg,true_and]at hv1;obtain⟨rfl,rfl⟩:=hv1;obtain⟨b2,o2,c2,hv2,hb2,hr2⟩:=Vp.rF h (fun _=>rfl) k hk;simp only[aAg,azK,aBI,true_and,and_true]at hv2;obtain⟨⟨rfl,rfl⟩,rfl⟩:=hv2;obtain⟨x,hx⟩:∃z,l[i]=z:=⟨_,rfl⟩;rw[hx]at hr1;obtain⟨y,hy⟩:∃z,l[k]=z:=⟨_,rfl⟩;rw[hy]at hr2;have S:=S.view0 hb1 hr1;have S:=S.view0 hb2 hr2;refine Sx.draw S 17 [.re 11 (.bool ((k:Int)<(l.length:Int))) (.bool true),.idx k l.length,.mem 0 2,.idx i l.length,.mem 1 2] [] [(24,.bool (x.depth<y.depth))] trivial (hk:=⟨(azT Value.bool ek),hk,hi,trivial⟩) fun ac u E6 S=>aza (Bg _ _ ?_);refine azC S (fun nJ=>?_) (fun nJ=>?_)
  ·refine aAi<|κ4 _ _<|aAC<|aBe<|apB S 3 [.re 26 (.i (IntKind.i64.wrap ((k:Int)+1))) (.i (k+1:Nat))] [(5,.i (k+1:Nat))] (hk:=⟨azt (by omega),trivial⟩) fun S=>aza ?_;show ∃i',_∧_;exact⟨(k+1),⟨⟨by omega,by omega,fun j h1 h2=>by
    by_cases e:j=k
    ·subst e; rw[xP hi,xP hk,hx,hy]; have:=azZ nJ; omega
    exact hR.2.2 j h1 (by omega)⟩,S.sn⟩,by show l.length-(k+1)<l.length-k; omega⟩
  refine aAU<|κ3 _ _<|azc fun _ κ8=>apB S 2 [] [(4,.i k)] fun S=>aza<|κ8 _ _<|Sx.UD S results148 ?_;have he:yE (keys l) i=k:=by
   rw[Rx (by simpa using hi)];exact Yr (by simpa using hi) hR.1 (by simpa using hR.2.1) hR.2.2 (fun hk=>by rw[xP hi,xP (by simpa using hk),hx,hy]; have:=az4 nJ; omega)
  exact⟨by rw[he],S.E⟩
 have ek:decide ((k:Int)<(l.length:Int))=false:=aBj (by omega);refine Sx.draw S 17 [.re 11 (.bool ((k:Int)<(l.length:Int))) (.z),.dead 13 (.z),.dead 14 (.z),.dead 15 (.z),.dead 16 (.z),.dead 17 (.z),.dead 18 (.z),.dead 19 (.z),.dead 20 (.z),.dead 21 (.z),.dead 22 (.z),.dead 23 (.z)] [] [(24,.z)] trivial (hk:=⟨(azT Value.bool ek),trivial⟩) fun ac u E9 S=>aza<|Bg _ _<|Sx.D7 S<|aAU<|κ3 _ _<|azc fun _ zD=>apB S 2 [] [(4,.i k)] fun S=>aza<|zD _ _<|Sx.UD S results148 ?_;have he:yE (keys l) i=k:=by
  rw[Rx (by simpa using hi)];exact Yr (by simpa using hi) hR.1 (by simpa using hR.2.1) hR.2.2 (fun hk2=>by simp at hk2; omega)
 exact⟨by rw[he],S.E⟩
theorem VW{w:World}{v:Value}{l:List aj}(h:aI 47 aj.cells w v l){id:Int} :
  Calls prog 145 #[v,.i id] w fun e w'=>e = .returned (.i (wM (keys l) id))∧Ext w w':=by
 obtain⟨a,cap,rfl⟩:=h.shape;have hmax:l.length≤9223372036854775807:=h.len;refine aze func145 ntmps145 fun S=>azw S (ι:=Nat) (fun p a' w'=>p≤l.length∧(∀(j:Nat) (hj:j<l.length),j<p→l[j].id≠id)∧Sx.St w a' w' 20 [(0,.slice a l.length cap),(1,.i id),(4,.i 0),(7,.slice a l.length cap),(8,.i l.length),(9,.i p)] [] []) (fun p=>l.length-p) (0) (fun S=>⟨azQ _,fun j hj h=>by omega,S.sN⟩) ?_;rintro k ac u gW eH hI;try dsimp only at hI
 obtain⟨hk,hR,S⟩:=hI;refine azx S fun S=>azb S (decide ((k:Int)<(l.length:Int))) (fun hc6 S=>?_) (fun hc6 S=>?_)
 ·have fZ:k<l.length:=by have:=azZ hc6; omega
  obtain⟨b9,o10,rfl,x15,jy,hb16,uF⟩:=aAe h (fun _=>rfl) (k) fZ;have S:=S.view0 hb16 uF;refine adr S 3 [] [.idx k l.length,.mem 0 0] (hk:=⟨fZ,trivial⟩) fun S=>azd S fun u b17 yV EU S=>azf S 0 rfl fun u yL S=>adr S 4 [] [.mem 0 0] fun S=>azb S ((x15.id)==id) (fun hc22 S=>?_) (fun hc22 S=>?_)
  ·refine ay9 S (.i k) (fun S=>?_);exact⟨by rw[adG fZ (by rw[jy]; simpa using hc22) hR],S.E⟩
  refine adr S 2 [] [.re 19 (.i (IntKind.i64.wrap ((k:Int)+1))) (.i (k+1:Nat))] (hk:=⟨azt (by omega),trivial⟩) fun S=>azy S gW (fun S=>?_);exact eH _ _ (k+1) ⟨by omega,(aaD fZ hR (by rw[jy]; simpa using hc22)),(S.iH 1).sN⟩ (by show _-_<_-_; omega)
 refine ay9 S (.i (-1)) (fun S=>?_);have hk:=az4 hc6;exact⟨by rw[VT (fun j hj=>hR j hj (by omega))],S.E⟩
theorem adI{l:List aj}{k:Nat}{x:aj}(hk:k<l.length)(hx:l[k]=x):(l.take k).map aj.id++[x.id]=(l.take (k+1)).map aj.id:=by
 rw[aAJ hk,aAB,hx]; rfl
theorem Ee{w:World}{s:aJ}(h:dJ K w s)(hg:dw w) :
  Calls prog 83 #[s.v] w fun e w'=>e = .returned (.tuple #[.i s.key.chk.1,.i s.key.chk.2])∧Ext w w':=by
 have hmax:s.ns.length≤9223372036854775807:=h.2.2.1.len;refine azN func83 ntmps83 (fun ac S=>?_);obtain⟨a,cap,es⟩:∃a c,s.s = .slice a s.ns.length c:=⟨_,_,rfl⟩;have hr:=h.2.2.1;rw[es]at hr;refine azc fun _ gW=>Sx.qO S 1 s.cells fun ac u b2 E3 hb4 S=>apB S 2 [] [(2,.i 0),(3,.i 0)] fun S=>aza<|gW _ _<|azX fun _ Bg=>azc fun _ κ6=>apB S 18 [.mem 0 0,.mem 0 0,.mem 0 1,.mem 0 1] [(26,.bool ((((decide (s.w<1))||(decide (256<s.w)))||(decide (s.h<1)))||(decide (256<s.h))))] fun S=>aza (κ6 _ _ ?_);refine azC S (fun nJ=>?_) (fun nJ=>?_)
 ·refine azc fun _ κ8=>apB S 2 [] [(2,.i 6),(3,.i 0)] fun S=>aza<|κ8 _ _<|Sx.rt2 S results83 ?_;exact⟨by rw[adH (s:=s.key) nJ],S.E⟩
 refine aAi<|Bg _ _<|azX fun _ κ9=>azc fun _ zD=>apB S 4 [.mem 0 6,.re 28 s.s (.slice a s.ns.length cap)] [(30,.bool (64<(s.ns.length:Int)))] (hk:=⟨es,trivial⟩) fun S=>aza (zD _ _ ?_);refine azC S (fun gU=>?_) (fun gU=>?_)
 ·refine azc fun _ QX=>apB S 2 [] [(2,.i 5),(3,.i 64)] fun S=>aza<|QX _ _<|Vp.rt ?_;have hq:=tJ (s:=s.key) nJ;rw[show s.key.ns=keys s.ns from rfl,aA1]at hq;refine Sx.J5 S results83 ?_;exact⟨by rw[hq,azI (by have:=azZ gU; omega)],S.E⟩
 refine aAi<|κ9 _ _<|azc (fun _ VX=>?_);have hold:=S.E.size;have avC:=(S.bx 0).1;refine Sx.aqY S 31 (fun ac u b E0 hb hM S=>?_);have R:=aAo S;have hbo:w.heap.size≤b∧b≠b2:=⟨by omega,by omega⟩;have J7:Sx.Ow _ (Sx.Ob [(b2,s.cells)] []) (fun W=>lN prog 3 4 W b []) _:=aBL (Sx.RD (hM _ _)) fun i hi=>by subst hi; exact⟨hbo.1,by simpa[Sx.Ob]using hbo.2⟩
 refine apB S 1 [] [(4,.map (some b))] fun S=>aza<|VX _ _<|azc fun _ vN=>apB S 1 [] [(5,.i 0)] fun S=>aza<|vN _ _<|azX fun _ Hq=>azc fun _ zG=>apB S 4 [.mem 0 6,.re 33 s.s (.slice a s.ns.length cap)] [(33,.slice a s.ns.length cap),(34,.i s.ns.length),(35,.i 0)] (hk:=⟨es,trivial⟩) fun S=>aza<|zG _ _<|aAC ?_;refine Vp.loop (ι:=Nat×Int) (fun p a' w'=>p.1≤s.ns.length∧(wO s.ns p.1 p.2)∧Sx.Rw w w' [(b2,s.cells)] []∧Sx.Ow w.heap.size (Sx.Ob [(b2,s.cells)] []) (fun W=>lN prog 3 4 W b ((s.ns.take p.1).map aj.id)) w'∧Sx.St w a' w' 67 [(0,s.v),(1,.q b2 0),(2,.i 0),(3,.i 0),(4,.map (some b)),(5,.i p.2),(33,.slice a s.ns.length cap),(34,.i s.ns.length),(35,.i p.1)] [(b2,s.cells)] []) (fun p=>s.ns.length-p.1) (0,0) ⟨azQ _,wO.start _,R,J7,S.sn⟩ ?_;rintro⟨k,m⟩ ac u hI;try dsimp only at hI
 obtain⟨hk,hR,R,J8,S⟩:=hI;refine azc fun _ NJ=>apB S 1 [] [(36,.bool ((k:Int)<(s.ns.length:Int)))] fun S=>aza<|NJ _ _<|azX (fun _ Vq=>?_);refine azC S (fun hc19=>?_) (fun hc19=>?_)
 ·refine aAi<|Vq _ _<|azX fun _ aal=>aAC<|azc (fun _ adf=>?_);have hMl:=(aAj (J8)).lt;have lH:k<s.ns.length:=by have:=azZ hc19; omega
  obtain⟨b22,o23,rfl,x28,qE,JK,NY⟩:=aAe hr (fun _=>rfl) (k) lH;have hxo:=h.2.2.2 _ (qE▸aAc lH);have S:=S.view0 JK NY;refine apB S 3 [.idx k s.ns.length,.mem 1 0] [(37,.i k),(39,x28.v)] (hk:=⟨lH,trivial⟩) fun S=>Sx.qO S 7 (Sx.L [.i 0,.i 0,.i 0]++Sx.za++Sx.L [.sn,.i 0,.u 0,.i 0,.z,.z,.sn,.i 0,.sn,.i 0,.i 0,.i 0,.i 0,.sn,.i 0,.sn,.i 0,.i 0,.sn,.i 0]) fun ac u b30 CB Z9 S=>apB S 1 [] [(6,.i k)] fun S=>azH S 0 (off:=0) (cs:=x28.cells) rfl (fun u Nz S=>?_);have hbn:b≠b30:=by omega
  refine aza<|adf _ _<|azX fun _ VY=>azc fun _ VZ=>apB S 1 [.mem 0 0] [(40,x28.v)] fun S=>Sx.Bh S 41 (yM ((h.2.2.2 _ (qE▸aAc lH)).below S.E) (hg.below S.E)) fun ac u UE S=>apB S 1 [] [(8,.i x28.checkN)] fun S=>aza<|VZ _ _<|azc fun _ aj9=>apB S 2 [] [(43,.bool ((x28.checkN) != 0))] fun S=>aza (aj9 _ _ ?_);refine azC S (fun hc38=>?_) (fun hc38=>?_)
  ·refine azc fun _ ajT=>apB S 4 [] [(2,.i x28.checkN),(3,.i k)] fun S=>aza<|ajT _ _<|Vp.rt ?_;have hq:=tJ (s:=s.key) nJ;rw[show s.key.ns=keys s.ns from rfl,aA1]at hq;refine Sx.J5 S results83 ?_;rw[azG (by have:=az4 gU; omega)]at hq;exact⟨by rw[hq,hR.bad lH qE (VU (by simpa using hc38)) (by simpa using hc38)],S.E⟩
  refine aAi<|VY _ _<|azX fun _ akb=>azc fun _ aq1=>apB S 3 [.mem 0 0] [(46,.map (some b)),(48,.i x28.id)] (fun S=>?_);obtain⟨R,Y42⟩:=R.bP S (az2 (aAM CB Z9) (az2 (Sx.Stp.Oc Nz (by simp[Sx.vb])) (az7 UE)));have hMn:=aAj ((aA2 J8 Y42));refine Sx.amY S 49 hMn underlying3 underlying4 underlying194 (aaF _) (hxo.1.1) fun ac S=>aza (aq1 _ _ ?_);refine azC S (fun adJ=>?_) (fun adJ=>?_)
  ·refine azc fun _ agK=>apB S 3 [] [(2,.i 7),(3,.i k)] fun S=>aza<|agK _ _<|Vp.rt ?_;have hq:=tJ (s:=s.key) nJ;rw[show s.key.ns=keys s.ns from rfl,aA1]at hq;refine Sx.J5 S results83 ?_;rw[azG (by have:=az4 gU; omega)]at hq;exact⟨by rw[hq,hR.bad lH qE (aaE (by simpa using hc38) (by rw[←Oa]; exact adJ)) (by decide)],S.E⟩
  refine aAi<|akb _ _<|azX fun _ adK=>azc fun _ akc=>apB S 4 [.mem 0 2] [(54,.bool (m<x28.depth))] fun S=>aza (akc _ _ ?_);refine azC S (fun hc47=>?_) (fun hc47=>?_)
  ·refine azc fun _ aq2=>apB S 3 [] [(2,.i 17),(3,.i k)] fun S=>aza<|aq2 _ _<|Vp.rt ?_;have hq:=tJ (s:=s.key) nJ;rw[show s.key.ns=keys s.ns from rfl,aA1]at hq;refine Sx.J5 S results83 ?_;rw[azG (by have:=az4 gU; omega)]at hq;exact⟨by rw[hq,hR.bad lH qE (RF (by simpa using hc38) (by rw[←Oa]; exact adJ) (by have:=azZ hc47; rw[←hR.room]; omega)) (by decide)],S.E⟩
  refine aAi<|adK _ _<|azc fun _ aq3=>apB S 3 [.mem 0 0] [(56,.map (some b)),(58,.i x28.id)] (fun S=>?_);have hMn:=aAj ((aA2 J8 Y42));refine Sx.aq0 S hMn (S.E.size |> fun _=>hbo.1) underlying3 underlying4 underlying194 (by rw[aA1,aBa]; show _<9223372036854775807; omega) hxo.1.1 (fun u hM2 hgr S=>?_);have R:=aAo S;have J7:Sx.Ow w.heap.size (Sx.Ob [(b30,x28.cells),(b2,s.cells)] []) (fun W=>lN prog 3 4 W b ((s.ns.take (k+1)).map aj.id)) u:=by
   rw[adI lH qE]at hM2;exact aBL (Sx.RD hM2) fun i hi=>by subst hi; exact⟨hbo.1,by simpa[Sx.Ob]using ⟨hbn,hbo.2⟩⟩
  refine aza<|aq3 _ _<|azc fun _ akd=>apB S 3 [.mem 0 2] [(5,.i x28.depth)] fun S=>aza<|akd _ _<|azc fun _ aq4=>apB S 3 [.mem 0 1] [(63,.bool ((x28.kind)==1))] fun S=>aza (aq4 _ _ ?_);refine azC S (fun rZ=>?_) (fun rZ=>?_)
  ·refine aBe<|apB S 3 [Sx.kw 65 (x28.depth+1)] [(5,.i (x28.depth+1))] (hk:=⟨Sx.ail (by have:=BH (n:=x28) (by simpa using hc38); omega),trivial⟩) fun S=>aza<|aal _ _<|aBe<|apB S 2 [.re 66 (.i (IntKind.i64.wrap ((k:Int)+1))) (.i (k+1:Nat))] [(35,.i (k+1:Nat))] (hk:=⟨azt (by omega),trivial⟩) fun S=>aza ?_;have S:=S.iH 1;obtain⟨R,Y53⟩:=R.bP S (aAE 1);show ∃i',_∧_;exact⟨((k+1),(x28.depth+1)),⟨by omega,hR.next lH qE (RG (by simpa using hc38) (by rw[←Oa]; exact adJ) (by have:=az4 hc47; rw[←hR.room]; omega)) (by rw[azI (by simpa using rZ)]),R,(aA2 J7 Y53),S.sn⟩,by show _-_<_-_; omega⟩
  refine aAi<|aal _ _<|aBe<|apB S 2 [.re 66 (.i (IntKind.i64.wrap ((k:Int)+1))) (.i (k+1:Nat))] [(35,.i (k+1:Nat))] (hk:=⟨azt (by omega),trivial⟩) fun S=>aza ?_;have S:=S.iH 1;obtain⟨R,Y54⟩:=R.bP S (aAE 1);show ∃i',_∧_;exact⟨((k+1),x28.depth),⟨by omega,hR.next lH qE (RG (by simpa using hc38) (by rw[←Oa]; exact adJ) (by have:=az4 hc47; rw[←hR.room]; omega)) (by rw[azG (by simpa using rZ)]),R,(aA2 J7 Y54),S.sn⟩,by show _-_<_-_; omega⟩
 refine aAU<|Hq _ _<|azc fun _ ake=>apB S 2 [] [(2,.i 0),(3,.i 0)] fun S=>aza<|ake _ _<|Vp.rt ?_;have hq:=tJ (s:=s.key) nJ;rw[show s.key.ns=keys s.ns from rfl,aA1]at hq;refine Sx.J5 S results83 ?_;rw[azG (by have:=az4 gU; omega)]at hq;exact⟨by rw[hq,hR.done (by have:=az4 hc19; omega)],S.E⟩
theorem eu.eqP{w w':World}{a b:aj}(h:eu K w a)(h':eu K w' b):a.eqP b=decide (a.key=b.key):=agG h.nrm h'.nrm
theorem Oe(c d:bC):(((c.r.toNat:Int)==d.r.toNat)&&(((c.g.toNat:Int)==d.g.toNat)&&(((c.b.toNat:Int)==d.b.toNat)&&((c.a.toNat:Int)==d.a.toNat))))=decide (c=d):=by
 rw[aAV];simp only[azY,azU,Dk,azW];exact Yo
theorem akf(c d:bC)(w:World):(binOp .eql 40 (.agg c.cells.toArray) (.agg d.cells.toArray)).run prog w = .ok (.bool (c=d)) w:=by
 rw[←Oe]; exact acM ..
theorem aip(a b c d e f g h:Int)(w:World):(binOp .neq 40 (.agg #[.u a,.u b,.u c,.u d]) (.agg #[.u e,.u f,.u g,.u h])).run prog w = .ok (.bool (!((a==e)&&((b==f)&&((c==g)&&(d==h)))))) w:=by
 simp[go_sem];(repeat' split)<;>simp_all
theorem adL(c d:bC)(w:World):(binOp .neq 40 (.agg c.cells.toArray) (.agg d.cells.toArray)).run prog w = .ok (.bool (!decide (c=d))) w:=by
 rw[←Oe]; exact aip ..
theorem akg{l m:List aj}{k:Nat}(hk:l.length≤k)(h:l.length=m.length)(hR:(keys l).take k=(keys m).take k):true=decide (keys l=keys m):=by
 rw[aAp (by simpa using hk),aAp (by simpa using (show m.length≤k by omega))]at hR;simp[hR]
theorem agL{l m:List aj}{k:Nat}(h1:k<l.length)(h2:k<m.length)(hR:(keys l).take k=(keys m).take k){x y:aj}(hx:l[k]=x)(hy:m[k]=y)(h:(!decide (x.key=y.key))=false):(keys l).take (k+1)=(keys m).take (k+1):=by
 rw[aAJ (by simpa using h1),aAJ (by simpa using h2),hR,Ih h1 hx,Ih h2 hy];simp at h;rw[h]
theorem am0{l m:List aj}{k:Nat}(h1:k<l.length)(h2:k<m.length){x y:aj}(hx:l[k]=x)(hy:m[k]=y)(h:(!decide (x.key=y.key))=true):false=decide (keys l=keys m):=by
 symm;rw[aAk];intro e;have:=azT (·[k]?) e;simp only[keys,List.getElem?_map,List.getElem?_eq_getElem h1,List.getElem?_eq_getElem h2,hx,hy,aAv,azK]at this;simp[this]at h
theorem am1{s t:aJ}(h:((((s.w) != t.w)||((s.h) != t.h))||(!decide (s.bg=t.bg))||((s.ns.length:Int) != (t.ns.length:Int)))=true):false=decide (s.key=t.key):=by
 symm;rw[aAk];intro e;simp only[aJ.key,bD.mk.injEq]at e;have hl:=azT List.length e.2.2.2;simp at hl;simp[e.1,e.2.1,e.2.2.1,hl]at h
theorem adM{s t:aJ}(h:((((s.w) != t.w)||((s.h) != t.h))||(!decide (s.bg=t.bg))||((s.ns.length:Int) != (t.ns.length:Int)))=false):s.ns.length=t.ns.length:=by
 simp at h; omega
theorem aiq{s t:aJ}{b:Bool}(h:((((s.w) != t.w)||((s.h) != t.h))||(!decide (s.bg=t.bg))||((s.ns.length:Int) != (t.ns.length:Int)))=false)(hb:b=decide (keys s.ns=keys t.ns)):b=decide (s.key=t.key):=by
 rw[hb];simp at h;simp[aJ.key,h]
theorem xQ{w:World}{a b:aj}(h:eu K w a)(h':eu K w b):Calls prog 95 #[a.v,b.v] w fun e w'=>e = .returned (.bool (a.key=b.key))∧Ext w w':=by
 rw[←h.eqP h']; exact JX h h'
set_option maxRecDepth 100000 in
set_option maxHeartbeats 1600000 in
theorem wP{w:World}{s:aJ}(h:dJ K w s)(hg:dw w) :
  Calls prog 51 #[s.v] w fun e w'=>e = .returned (.bool s.key.valid)∧Ext w w':=by
 skip;refine aze func51 ntmps51 fun S=>azd S fun u b2 E3 hb4 S=>adr S 2 [] [.mem 0 0] fun S=>azp S (Ee (h.below S.E) (hg.below S.E)) fun u E6 S=>ay9 S (.bool ((s.key.chk.1)==0)) (fun S=>?_);exact⟨rfl,S.E⟩
theorem air:iI prog 29 163 (.agg #[.i 0,.i 0,.i 0,.i 0,.i 0,.i 0,.i 0]) 7 56:=⟨underlying29,info_parts (by kernel_rfl),rfl,by decide⟩
theorem adN:iI prog 131 202 (.agg #[.i 0,.u 0,.u 0,.u 0,.u 0]) 5 16:=⟨underlying131,info_parts (by kernel_rfl),rfl,by decide⟩
theorem ais:iI prog 34 178 (.agg #[.u 0,.u 0,.u 0,.u 0]) 4 4:=⟨underlying34,info_parts (by kernel_rfl),rfl,by decide⟩
theorem ait:iI prog 31 3 (.i 0) 1 8:=⟨underlying31,info_parts (by kernel_rfl),rfl,by decide⟩
theorem Yu:iI prog 30 133 (.agg (Sx.L [.i 0,.u 0,.u 0,.u 0,.u 0,.i 0,.i 0,.i 0,.i 0,.i 0,.sn,.i 0,.i 0,.i 0,.sn,.i 0]++Sx.za).toArray) 40 520:=⟨underlying30,info_parts (by kernel_rfl),rfl,by decide⟩
def Cp(e:TypeId)(k:Nat)(f:α→List Value)(base:Nat)(v:Value)(L:List α)(w:World):Prop:=Sx.aU base (Sx.nZ e k f base v L) w
theorem Cp.ext{e:TypeId}{k:Nat}{f:α→List Value}{base:Nat}{v:Value}{L:List α}{w w':World}(h:Cp e k f base v L w)(hE:Ext w w'):Cp e k f base v L w':=az1 h hE
theorem Cp.mono{e:TypeId}{k:Nat}{f:α→List Value}{base b0:Nat}{v:Value}{L:List α}{w:World}(h:Cp e k f base v L w)(hb:b0≤base):Cp e k f b0 v L w:=aAF (Sx.aU.le h hb) fun _ h=>h.le hb
theorem Cp.shape{e:TypeId}{k:Nat}{f:α→List Value}{base:Nat}{v:Value}{L:List α}{w:World}(h:Cp e k f base v L w):∃a c,v = .slice a L.length c:=(aAj h).1.shape
theorem Ii(e:TypeId)(k:Nat)(f:α→List Value)(base:Nat)(w:World):Cp e k f base (.sn) [] w:=fun w' _ _=>⟨dI k f w',.inl rfl⟩
theorem pX{k:Nat}{f:α→List Value}{w:World}{n c:Nat}{L:List α}(h:aI k f w (.slice none n c) L):L=[]:=by
 obtain⟨a,cap,e,hm,h⟩:=h;simp only[aAg]at e;obtain⟨rfl,rfl,rfl⟩:=e;rcases h with ⟨h,_⟩ | ⟨b,o,h,_⟩
 ·exact h
 cases h
theorem jX{k:Nat}{f:α→List Value}{w:World}{n c:Nat}{L:List α}(h:aI k f w (.slice none n c) L):c=0:=by
 obtain⟨a,cap,e,hm,h⟩:=h;simp only[aAg]at e;obtain⟨rfl,rfl,rfl⟩:=e;rcases h with ⟨_,h⟩ | ⟨b,o,h,_⟩
 ·exact h rfl
 cases h
theorem aU.ch{base b:Nat}{F:World→Prop}{w w':World}(h:Sx.aU base F w)(hc:Ch b w w')(hb:b<base):Sx.aU base F w':=fun w2 hs hk =>
 h w2 (az3 hc.size hs) fun k hk1 hk2=>(hk k (aAa hk1 hc.size) hk2).trans (hc.block k hk1 fun e=>by simp only[azK]at e; omega)
theorem eF{f:α→Value}{w:World}{v:Value}{l:List α}(h:aI 1 (fun x=>[f x]) w v l):dD f w v l:=by
 obtain⟨a,cap,hv,hm,h⟩:=h;refine⟨a,cap,hv,hm,?_⟩;rcases h with h | ⟨b,o,ha,hlt,hl,hc⟩
 ·exact .inl h
 exact .inr ⟨b,o,ha,hlt,hl,fun i hi=>by have:=hc i hi 0 (by omega); simpa using this⟩
def bI.strip(r:bI):bI:=⟨r.n1,Option.none,0,r.l1,r.n2,Option.none,0,r.l2⟩
def bG.strip(t:bG):bG:=⟨t.a.strip,t.b.strip,t.c.strip,t.d.strip,t.e.strip,t.f.strip⟩
def dB.strip(m:dB):dB:=⟨m.w,m.h,Option.none,0,m.l⟩
def ak.strip(p:ak):ak:=⟨p.kind,p.color,p.p0,p.p1,p.bT,Option.none,0,p.stops,p.spread,p.img.strip,p.cZ,p.t.strip⟩
def aS.strip(p:aS):aS:=⟨p.width,p.join,p.cap,p.eU,Option.none,0,p.dash,p.phase⟩
def aj.strip(n:aj):aj:=⟨n.id,n.kind,n.depth,n.t.strip,Option.none,0,n.clip,n.aP,n.dQ,n.blend,n.isolated,n.dF,Option.none,0,n.path,n.aT,Option.none,0,n.fill.map ak.strip,n.style.strip,Option.none,0,n.stroke.map ak.strip,n.img.strip,n.cZ⟩
abbrev wQ:UInt32→List Value:=fun x=>[aX x]
def bI.pO(base:Nat)(r:bI)(w:World):Prop:=r.ok w∧Sx.Ty 119 1 base r.s1 r.l1.length w∧Sx.Ty 119 1 base r.s2 r.l2.length w
def bG.pO(base:Nat)(t:bG)(w:World):Prop:=t.a.pO base w∧t.b.pO base w∧t.c.pO base w∧t.d.pO base w∧t.e.pO base w∧t.f.pO base w
def ak.pO(base:Nat)(p:ak)(w:World):Prop:=p.ok w∧Sx.Ty 202 5 base p.sv p.stops.length w∧Sx.Ty 178 4 base p.img.s p.img.l.length w∧p.t.pO base w
def jY(base:Nat)(w:World)(v:Value)(l:List ak):Prop:=Sx.nZ 133 40 ak.cells base v l w∧∀p∈l,p.pO base w
def aj.pO(base:Nat)(n:aj)(w:World):Prop:=n.ok w∧n.t.pO base w∧Sx.Ty 163 7 base n.cs n.clip.length w∧Sx.Ty 163 7 base n.ps n.path.length w∧jY base w n.fs n.fill∧jY base w n.ss n.stroke∧Sx.Ty 3 1 base n.style.s n.style.dash.length w∧Sx.Ty 178 4 base n.img.s n.img.l.length w
theorem bI.pO.le{base b0:Nat}{r:bI}{w:World}(h:r.pO base w)(hb:b0≤base):r.pO b0 w:=⟨h.1,h.2.1.le hb,h.2.2.le hb⟩
theorem bG.pO.le{base b0:Nat}{t:bG}{w:World}(h:t.pO base w)(hb:b0≤base):t.pO b0 w:=⟨h.1.le hb,h.2.1.le hb,h.2.2.1.le hb,h.2.2.2.1.le hb,h.2.2.2.2.1.le hb,h.2.2.2.2.2.le hb⟩
theorem bG.pO.ok{base:Nat}{t:bG}{w:World}(h:t.pO base w):t.ok w:=⟨h.1.1,h.2.1.1,h.2.2.1.1,h.2.2.2.1.1,h.2.2.2.2.1.1,h.2.2.2.2.2.1⟩
theorem ak.pO.le{base b0:Nat}{p:ak}{w:World}(h:p.pO base w)(hb:b0≤base):p.pO b0 w:=⟨h.1,h.2.1.le hb,h.2.2.1.le hb,h.2.2.2.le hb⟩
theorem jY.le{base b0:Nat}{w:World}{v:Value}{l:List ak}(h:jY base w v l)(hb:b0≤base):jY b0 w v l:=⟨h.1.le hb,fun p hp=>(h.2 p hp).le hb⟩
theorem jY.ok{base:Nat}{w:World}{v:Value}{l:List ak}(h:jY base w v l):iV w v l:=⟨h.1.1,fun p hp=>(h.2 p hp).1⟩
abbrev bI.cp (base:Nat)(r:bI)(w:World):Prop:=Sx.aU base (fun W=>r.pO base W) w
abbrev bG.cp (base:Nat)(t:bG)(w:World):Prop:=Sx.aU base (fun W=>t.pO base W) w
abbrev qH (base:Nat)(v:Value)(l:List ak)(w:World):Prop:=Sx.aU base (fun W=>jY base W v l) w
theorem Dl{base b0:Nat}{r:bI}{w:World}(h:r.cp base w)(hb:b0≤base):r.cp b0 w:=aAF (Sx.aU.le h hb) fun _ h=>h.le hb
theorem adO{base b0:Nat}{t:bG}{w:World}(h:t.cp base w)(hb:b0≤base):t.cp b0 w:=aAF (Sx.aU.le h hb) fun _ h=>h.le hb
theorem xR{base b0:Nat}{v:Value}{l:List ak}{w:World}(h:qH base v l w)(hb:b0≤base):qH b0 v l w:=aAF (Sx.aU.le h hb) fun _ h=>h.le hb
def bG.lim(t:bG):Prop:=t.fit 1000000
theorem xU{r:bI}(h:r.fit 1000000):r.l1.length≤10000000∧r.l2.length≤10000000:=⟨by have:=h.1; omega,by have:=h.2; omega⟩
theorem agM{t:bG}(h:t.lim):(t.a.l1.length≤10000000∧t.a.l2.length≤10000000)∧(t.b.l1.length≤10000000∧t.b.l2.length≤10000000)∧(t.c.l1.length≤10000000∧t.c.l2.length≤10000000)∧(t.d.l1.length≤10000000∧t.d.l2.length≤10000000)∧(t.e.l1.length≤10000000∧t.e.l2.length≤10000000)∧(t.f.l1.length≤10000000∧t.f.l2.length≤10000000):=
 ⟨xU h.1,xU h.2.1,xU h.2.2.1,xU h.2.2.2.1,xU h.2.2.2.2.1,xU h.2.2.2.2.2⟩
theorem V3{w:World}{v:Value}{L:List UInt32}(h:aI 1 (fun x=>[aX x]) w v L):dP w 1 v L.length (L.flatMap (fun x=>[aX x])):=Sx.nR h (fun _=>rfl) fun _=>rfl
theorem V4{w:World}{v:Value}{L:List UInt32}(h:aI 1 (fun x=>[aX x]) w v L)(hl:L.length≤10000000) :
  Calls prog 200 #[v] w fun e w'=>∃v',e = .returned v'∧Cp 119 1 (fun x=>[aX x]) w.heap.size v' L w'∧Ext w w':=by
 obtain⟨a,c,rfl⟩:=h.shape;cases a with
 | none =>
  obtain rfl:L=[]:=pX h;obtain rfl:=jX h;refine aze func200 ntmps200 fun S=>azn S fun S=>ay9 S (.sn) (fun S=>?_);exact⟨_,rfl,Ii _ _ _ _ _,S.E⟩
 | some p =>
  refine aze func200 ntmps200 fun S=>azu S (fun S=>?_);have R:=aAo S;refine azl S fun S=>Sx.newRow S R 5 0 119 1 [] fun ac u v5 E6 X7 R S=>azr S fun S=>azl S fun S=>Sx.app S R 0 7 rfl lI (V3 (h.below S.E)) (by show 0+L.length≤9223372036854775807; omega) (by show(0+L.length)*_≤140737488355328; omega) fun ac u v8 X9 R S=>azr S fun S=>ay9 S v8 (fun S=>?_);exact⟨_,rfl,Sx.jV (fun _=>rfl) (R.own _ azV) (aAD _) (aAH _),S.E⟩
theorem V5{w:World}{v:Value}{L:List dM}(h:aI 7 dM.cells w v L):dP w 7 v L.length (L.flatMap dM.cells):=Sx.nR h (fun _=>rfl) fun _=>rfl
theorem Ij{w:World}{v:Value}{L:List dM}(h:aI 7 dM.cells w v L)(hl:L.length≤10000000) :
  Calls prog 101 #[v] w fun e w'=>∃v',e = .returned v'∧Cp 163 7 dM.cells w.heap.size v' L w'∧Ext w w':=by
 obtain⟨a,c,rfl⟩:=h.shape;cases a with
 | none =>
  obtain rfl:L=[]:=pX h;obtain rfl:=jX h;refine aze func101 ntmps101 fun S=>azn S fun S=>ay9 S (.sn) (fun S=>?_);exact⟨_,rfl,Ii _ _ _ _ _,S.E⟩
 | some p =>
  refine aze func101 ntmps101 fun S=>azu S (fun S=>?_);have R:=aAo S;refine azl S fun S=>Sx.newRow S R 5 0 163 7 [] fun ac u v5 E6 X7 R S=>azr S fun S=>azl S fun S=>Sx.app S R 0 7 rfl air (V5 (h.below S.E)) (by show 0+L.length≤9223372036854775807; omega) (by show(0+L.length)*_≤140737488355328; omega) fun ac u v8 X9 R S=>azr S fun S=>ay9 S v8 (fun S=>?_);exact⟨_,rfl,Sx.jV (fun _=>rfl) (R.own _ azV) (aAD _) (aAH _),S.E⟩
theorem RH{w:World}{v:Value}{L:List dH}(h:aI 5 dH.cells w v L):dP w 5 v L.length (L.flatMap dH.cells):=Sx.nR h (fun _=>rfl) fun _=>rfl
theorem RI{w:World}{v:Value}{L:List dH}(h:aI 5 dH.cells w v L)(hl:L.length≤10000000) :
  Calls prog 151 #[v] w fun e w'=>∃v',e = .returned v'∧Cp 202 5 dH.cells w.heap.size v' L w'∧Ext w w':=by
 obtain⟨a,c,rfl⟩:=h.shape;cases a with
 | none =>
  obtain rfl:L=[]:=pX h;obtain rfl:=jX h;refine aze func151 ntmps151 fun S=>azn S fun S=>ay9 S (.sn) (fun S=>?_);exact⟨_,rfl,Ii _ _ _ _ _,S.E⟩
 | some p =>
  refine aze func151 ntmps151 fun S=>azu S (fun S=>?_);have R:=aAo S;refine azl S fun S=>Sx.newRow S R 5 0 202 5 [] fun ac u v5 E6 X7 R S=>azr S fun S=>azl S fun S=>Sx.app S R 0 7 rfl adN (RH (h.below S.E)) (by show 0+L.length≤9223372036854775807; omega) (by show(0+L.length)*_≤140737488355328; omega) fun ac u v8 X9 R S=>azr S fun S=>ay9 S v8 (fun S=>?_);exact⟨_,rfl,Sx.jV (fun _=>rfl) (R.own _ azV) (aAD _) (aAH _),S.E⟩
theorem V6{w:World}{v:Value}{L:List bC}(h:aI 4 bC.cells w v L):dP w 4 v L.length (L.flatMap bC.cells):=Sx.nR h (fun _=>rfl) fun _=>rfl
theorem Ik{w:World}{v:Value}{L:List bC}(h:aI 4 bC.cells w v L)(hl:L.length≤10000000) :
  Calls prog 104 #[v] w fun e w'=>∃v',e = .returned v'∧Cp 178 4 bC.cells w.heap.size v' L w'∧Ext w w':=by
 obtain⟨a,c,rfl⟩:=h.shape;cases a with
 | none =>
  obtain rfl:L=[]:=pX h;obtain rfl:=jX h;refine aze func104 ntmps104 fun S=>azn S fun S=>ay9 S (.sn) (fun S=>?_);exact⟨_,rfl,Ii _ _ _ _ _,S.E⟩
 | some p =>
  refine aze func104 ntmps104 fun S=>azu S (fun S=>?_);have R:=aAo S;refine azl S fun S=>Sx.newRow S R 5 0 178 4 [] fun ac u v5 E6 X7 R S=>azr S fun S=>azl S fun S=>Sx.app S R 0 7 rfl ais (V6 (h.below S.E)) (by show 0+L.length≤9223372036854775807; omega) (by show(0+L.length)*_≤140737488355328; omega) fun ac u v8 X9 R S=>azr S fun S=>ay9 S v8 (fun S=>?_);exact⟨_,rfl,Sx.jV (fun _=>rfl) (R.own _ azV) (aAD _) (aAH _),S.E⟩
theorem V7{w:World}{v:Value}{L:List Int}(h:aI 1 (fun x=>[AA x]) w v L):dP w 1 v L.length (L.flatMap (fun x=>[AA x])):=Sx.nR h (fun _=>rfl) fun _=>rfl
theorem V8{w:World}{v:Value}{L:List Int}(h:aI 1 (fun x=>[AA x]) w v L)(hl:L.length≤10000000) :
  Calls prog 103 #[v] w fun e w'=>∃v',e = .returned v'∧Cp 3 1 (fun x=>[AA x]) w.heap.size v' L w'∧Ext w w':=by
 obtain⟨a,c,rfl⟩:=h.shape;cases a with
 | none =>
  obtain rfl:L=[]:=pX h;obtain rfl:=jX h;refine aze func103 ntmps103 fun S=>azn S fun S=>ay9 S (.sn) (fun S=>?_);exact⟨_,rfl,Ii _ _ _ _ _,S.E⟩
 | some p =>
  refine aze func103 ntmps103 fun S=>azu S (fun S=>?_);have R:=aAo S;refine azl S fun S=>Sx.newRow S R 5 0 3 1 [] fun ac u v5 E6 X7 R S=>azr S fun S=>azl S fun S=>Sx.app S R 0 7 rfl ait (V7 (h.below S.E)) (by show 0+L.length≤9223372036854775807; omega) (by show(0+L.length)*_≤140737488355328; omega) fun ac u v8 X9 R S=>azr S fun S=>ay9 S v8 (fun S=>?_);exact⟨_,rfl,Sx.jV (fun _=>rfl) (R.own _ azV) (aAD _) (aAH _),S.E⟩
theorem iM{w:World}{n:Bool}{v:Value}{l:List UInt32}(h:aI 1 wQ w v l)(hl:l.length≤10000000) :
  Calls prog 149 #[.agg #[.bool n,v]] w fun e w'=>∃a c,e = .returned (.agg #[.bool n,.slice a l.length c])∧Cp 119 1 wQ w.heap.size (.slice a l.length c) l w'∧Ext w w':=by
 obtain⟨a0,c0,rfl⟩:=h.shape;refine aze func149 ntmps149 fun S=>azd S fun u b2 E3 hb4 S=>azd S (fun u b5 E6 hb7 S=>?_);have y0:=S.E.size;have z0:=(S.bx 0).1;refine Sx.iZ S 5 [(7,fun v w1=>Cp 119 1 wQ u.heap.size v l w1)] (fun r=>[.mem 1 0,.mem 1 1]) (fun x=>[x 7]) (fun x=>[(_,_,true,x 7,7)]) [[]] (fun x=>[(4,.bool n),(7,x 7)]) ⟨fun _ _ _ k h=>h.ext k,trivial⟩ (fun x=>⟨by intro u hC g F; exact(V4 (h.below (Ext.trans' S.E hC)) hl).mono fun e w2 h=>by obtain⟨y,rfl,hx,hb⟩:=h; exact⟨_,rfl,hx.mono hC.size,hb⟩,trivial⟩) (fun u x E9 F S=>?_);obtain⟨F7,-⟩:=F;obtain⟨a1,c1,e1⟩:=Cp.shape F7;rw[e1]at S F7;try rw[e1]
 refine azf S 0 rfl (fun u C10 S=>?_);have JG:=aU.ch F7 C10 (by omega);refine azq S 0 rfl (v := .agg #[.bool n,.slice a1 l.length c1]) (fun S=>?_);exact⟨a1,c1,rfl,Cp.mono JG (by omega),S.E⟩
theorem Dn{base:Nat}{r:bI}{w:World}(h1:Cp 119 1 wQ base r.s1 r.l1 w)(h2:Cp 119 1 wQ base r.s2 r.l2 w):r.cp base w:=aAF (aAd h1 h2) fun _ h=>⟨⟨eF h.1.1,eF h.2.1⟩,h.1.2,h.2.2⟩
theorem akh{base:Nat}{t:bG}{w:World}(h0:t.a.cp base w)(h1:t.b.cp base w)(h2:t.c.cp base w)(h3:t.d.cp base w)(h4:t.e.cp base w)(h5:t.f.cp base w):t.cp base w:=aAd h0 (aAd h1 (aAd h2 (aAd h3 (aAd h4 h5))))
theorem yQ{w:World}{t:bG}(h:t.ok w)(hl:t.lim) :
  Calls prog 100 #[t.v] w fun e w'=>∃t':bG,e = .returned t'.v∧t'.cp w.heap.size w'∧t'.strip=t.strip∧Ext w w':=by
 obtain⟨h0,h1,h2,h3,h4,h5⟩:=h;obtain⟨hl0,hl1,hl2,hl3,hl4,hl5⟩:=agM hl;refine azN func100 ntmps100 fun ac S=>azc fun _ gW=>Sx.qO S 1 t.cells fun ac u b2 E3 hb4 S=>Sx.qO S 2 Sx.za fun ac u b5 E6 hb7 S=>aza<|gW _ _<|azX fun _ κ8=>azc fun _ κ9=>apB S 6 [] [(5,.q b2 0),(6,.q b2 4),(7,.q b2 8),(8,.q b2 12),(9,.q b2 16),(10,.q b2 20)] fun S=>Sx.news S 11 6 [.q b2 0,.q b2 4,.q b2 8,.q b2 12,.q b2 16,.q b2 20] fun ac u b10 Au GV S=>apB S 2 [] [(12,.i 6),(13,.i 0)] fun S=>aza<|κ9 _ _<|aAC<|wp_loop_rounds 7 ?_;rw[aBT];refine azc fun _ VX=>apB S 1 [] [(14,.bool true)] fun S=>aza<|VX _ _<|azX fun _ vN=>Sx.Ho S<|aAi<|vN _ _<|azX fun _ Hq=>aAC<|azc fun _ zG=>apB S 3 [.mem 0 0] [(4,.q b2 0)] fun S=>aza (zG _ _ ?_);have y0:=S.E.size;have z1:=(S.bx 1).1;have z2:=(S.bx 2).1;refine Sx.hoist [0] 11<|Sx.sF S 11 [(22,fun v w1=>∃a c,v = .agg #[.bool t.a.n1,.slice a t.a.l1.length c]∧Cp 119 1 wQ u.heap.size (.slice a t.a.l1.length c) t.a.l1 w1),(27,fun v w1=>∃a c,v = .agg #[.bool t.a.n2,.slice a t.a.l2.length c]∧Cp 119 1 wQ u.heap.size (.slice a t.a.l2.length c) t.a.l2 w1)] (fun r=>[.mem 2 0,.mem 2 2]) (fun x=>[x 22,x 27]) (fun x=>[(_,_,true,x 22,22),(_,_,true,x 27,27)]) [[],[]] (fun x=>[(17,.q b2 0),(22,x 22),(27,x 27)]) ⟨fun _ _ _ k h=>by obtain⟨a,c,e,h⟩:=h; exact⟨a,c,e,h.ext k⟩,fun _ _ _ k h=>by obtain⟨a,c,e,h⟩:=h; exact⟨a,c,e,h.ext k⟩,trivial⟩ (fun x=>⟨by intro u hC g F; exact(iM (n:=t.a.n1) (v:=t.a.s1) (l:=t.a.l1) ((fE (f:=aX) h0.1).below (Ext.trans' S.E hC)) (hl0.1)).mono fun e w2 h=>by obtain⟨a,c,rfl,hx,hb⟩:=h; exact⟨_,rfl,⟨a,c,rfl,hx.mono hC.size⟩,hb⟩,by intro u hC g F; exact(iM (n:=t.a.n2) (v:=t.a.s2) (l:=t.a.l2) ((fE (f:=aX) h0.2).below (Ext.trans' S.E hC)) (hl0.2)).mono fun e w2 h=>by obtain⟨a,c,rfl,hx,hb⟩:=h; exact⟨_,rfl,⟨a,c,rfl,hx.mono hC.size⟩,hb⟩,trivial⟩) (fun ac u x yJ F S=>?_);obtain⟨yR,F27,-⟩:=F;obtain⟨a01,c01,e01,yR⟩:=yR;rw[e01]at S;obtain⟨a02,c02,e02,F27⟩:=F27;rw[e02]at S;refine apB S 2 [] [(28,.agg #[.bool t.a.n1,.slice a01 t.a.l1.length c01,.bool t.a.n2,.slice a02 t.a.l2.length c02]),(29,.q b2 0)] fun S=>azH S 2 (off:=0) (cs:=[.bool t.a.n1,.slice a01 t.a.l1.length c01,.bool t.a.n2,.slice a02 t.a.l2.length c02]) rfl (fun u C18 S=>?_);have oO:=aU.ch yR C18 (by omega);have CW:=aU.ch F27 C18 (by omega);have G21:=(Dn (r:=⟨t.a.n1,a01,c01,t.a.l1,t.a.n2,a02,c02,t.a.l2⟩) oO CW);refine aza<|Hq _ _<|aBe<|apB S 2 [] [(13,.i 1)] fun S=>aza ?_;show Code.rounds _ _ _ 6 _ _;rw[aBT];refine azc fun _ aq5=>apB S 1 [] [(14,.bool true)] fun S=>aza<|aq5 _ _<|azX fun _ adP=>Sx.Ho S<|aAi<|adP _ _<|azX fun _ V9=>aAC<|azc fun _ aq6=>apB S 3 [.mem 0 1] [(4,.q b2 4)] fun S=>aza (aq6 _ _ ?_);have y1:=S.E.size;have z1:=(S.bx 1).1;have z2:=(S.bx 2).1;refine Sx.hoist [0] 11<|Sx.sF S 11 [(22,fun v w1=>∃a c,v = .agg #[.bool t.b.n1,.slice a t.b.l1.length c]∧Cp 119 1 wQ u.heap.size (.slice a t.b.l1.length c) t.b.l1 w1),(27,fun v w1=>∃a c,v = .agg #[.bool t.b.n2,.slice a t.b.l2.length c]∧Cp 119 1 wQ u.heap.size (.slice a t.b.l2.length c) t.b.l2 w1)] (fun r=>[.mem 2 4,.mem 2 6]) (fun x=>[x 22,x 27]) (fun x=>[(_,_,true,x 22,22),(_,_,true,x 27,27)]) [[],[]] (fun x=>[(17,.q b2 4),(22,x 22),(27,x 27)]) ⟨fun _ _ _ k h=>by obtain⟨a,c,e,h⟩:=h; exact⟨a,c,e,h.ext k⟩,fun _ _ _ k h=>by obtain⟨a,c,e,h⟩:=h; exact⟨a,c,e,h.ext k⟩,trivial⟩ (fun x=>⟨by intro u hC g F; exact(iM (n:=t.b.n1) (v:=t.b.s1) (l:=t.b.l1) ((fE (f:=aX) h1.1).below (Ext.trans' S.E hC)) (hl1.1)).mono fun e w2 h=>by obtain⟨a,c,rfl,hx,hb⟩:=h; exact⟨_,rfl,⟨a,c,rfl,hx.mono hC.size⟩,hb⟩,by intro u hC g F; exact(iM (n:=t.b.n2) (v:=t.b.s2) (l:=t.b.l2) ((fE (f:=aX) h1.2).below (Ext.trans' S.E hC)) (hl1.2)).mono fun e w2 h=>by obtain⟨a,c,rfl,hx,hb⟩:=h; exact⟨_,rfl,⟨a,c,rfl,hx.mono hC.size⟩,hb⟩,trivial⟩) (fun ac u x Ux F S=>?_);obtain⟨yR,F27,-⟩:=F;obtain⟨a11,c11,e11,yR⟩:=yR;rw[e11]at S;obtain⟨a12,c12,e12,F27⟩:=F27;rw[e12]at S;refine apB S 2 [] [(28,.agg #[.bool t.b.n1,.slice a11 t.b.l1.length c11,.bool t.b.n2,.slice a12 t.b.l2.length c12]),(29,.q b2 4)] fun S=>azH S 2 (off:=4) (cs:=[.bool t.b.n1,.slice a11 t.b.l1.length c11,.bool t.b.n2,.slice a12 t.b.l2.length c12]) rfl (fun u C27 S=>?_);have Di:=aU.ch (G21.ext Ux) C27 (by omega);have tK:=aU.ch yR C27 (by omega);have adQ:=aU.ch F27 C27 (by omega);have G31:=(Dn (r:=⟨t.b.n1,a11,c11,t.b.l1,t.b.n2,a12,c12,t.b.l2⟩) tK adQ);refine aza<|V9 _ _<|aBe<|apB S 2 [] [(13,.i 2)] fun S=>aza ?_;show Code.rounds _ _ _ 5 _ _;rw[aBT];refine azc fun _ aq7=>apB S 1 [] [(14,.bool true)] fun S=>aza<|aq7 _ _<|azX fun _ Og=>Sx.Ho S<|aAi<|Og _ _<|azX fun _ VY=>aAC<|azc fun _ VZ=>apB S 3 [.mem 0 2] [(4,.q b2 8)] fun S=>aza (VZ _ _ ?_);have y2:=S.E.size;have z1:=(S.bx 1).1;have z2:=(S.bx 2).1;refine Sx.hoist [0] 11<|Sx.sF S 11 [(22,fun v w1=>∃a c,v = .agg #[.bool t.c.n1,.slice a t.c.l1.length c]∧Cp 119 1 wQ u.heap.size (.slice a t.c.l1.length c) t.c.l1 w1),(27,fun v w1=>∃a c,v = .agg #[.bool t.c.n2,.slice a t.c.l2.length c]∧Cp 119 1 wQ u.heap.size (.slice a t.c.l2.length c) t.c.l2 w1)] (fun r=>[.mem 2 8,.mem 2 10]) (fun x=>[x 22,x 27]) (fun x=>[(_,_,true,x 22,22),(_,_,true,x 27,27)]) [[],[]] (fun x=>[(17,.q b2 8),(22,x 22),(27,x 27)]) ⟨fun _ _ _ k h=>by obtain⟨a,c,e,h⟩:=h; exact⟨a,c,e,h.ext k⟩,fun _ _ _ k h=>by obtain⟨a,c,e,h⟩:=h; exact⟨a,c,e,h.ext k⟩,trivial⟩ (fun x=>⟨by intro u hC g F; exact(iM (n:=t.c.n1) (v:=t.c.s1) (l:=t.c.l1) ((fE (f:=aX) h2.1).below (Ext.trans' S.E hC)) (hl2.1)).mono fun e w2 h=>by obtain⟨a,c,rfl,hx,hb⟩:=h; exact⟨_,rfl,⟨a,c,rfl,hx.mono hC.size⟩,hb⟩,by intro u hC g F; exact(iM (n:=t.c.n2) (v:=t.c.s2) (l:=t.c.l2) ((fE (f:=aX) h2.2).below (Ext.trans' S.E hC)) (hl2.2)).mono fun e w2 h=>by obtain⟨a,c,rfl,hx,hb⟩:=h; exact⟨_,rfl,⟨a,c,rfl,hx.mono hC.size⟩,hb⟩,trivial⟩) (fun ac u x UE F S=>?_);obtain⟨yR,F27,-⟩:=F;obtain⟨a21,c21,e21,yR⟩:=yR;rw[e21]at S;obtain⟨a22,Uy,e22,F27⟩:=F27;rw[e22]at S;refine apB S 2 [] [(28,.agg #[.bool t.c.n1,.slice a21 t.c.l1.length c21,.bool t.c.n2,.slice a22 t.c.l2.length Uy]),(29,.q b2 8)] fun S=>azH S 2 (off:=8) (cs:=[.bool t.c.n1,.slice a21 t.c.l1.length c21,.bool t.c.n2,.slice a22 t.c.l2.length Uy]) rfl (fun u C37 S=>?_);have zu:=aU.ch (Di.ext UE) C37 (by omega);have CX:=aU.ch (G31.ext UE) C37 (by omega);have GX:=aU.ch yR C37 (by omega);have zx:=aU.ch F27 C37 (by omega);have G42:=(Dn (r:=⟨t.c.n1,a21,c21,t.c.l1,t.c.n2,a22,Uy,t.c.l2⟩) GX zx);refine aza<|VY _ _<|aBe<|apB S 2 [] [(13,.i 3)] fun S=>aza ?_;show Code.rounds _ _ _ 4 _ _;rw[aBT];refine azc fun _ aq8=>apB S 1 [] [(14,.bool true)] fun S=>aza<|aq8 _ _<|azX fun _ agK=>Sx.Ho S<|aAi<|agK _ _<|azX fun _ adK=>aAC<|azc fun _ akc=>apB S 3 [.mem 0 3] [(4,.q b2 12)] fun S=>aza (akc _ _ ?_);have y3:=S.E.size;have z1:=(S.bx 1).1;have z2:=(S.bx 2).1;refine Sx.hoist [0] 11<|Sx.sF S 11 [(22,fun v w1=>∃a c,v = .agg #[.bool t.d.n1,.slice a t.d.l1.length c]∧Cp 119 1 wQ u.heap.size (.slice a t.d.l1.length c) t.d.l1 w1),(27,fun v w1=>∃a c,v = .agg #[.bool t.d.n2,.slice a t.d.l2.length c]∧Cp 119 1 wQ u.heap.size (.slice a t.d.l2.length c) t.d.l2 w1)] (fun r=>[.mem 2 12,.mem 2 14]) (fun x=>[x 22,x 27]) (fun x=>[(_,_,true,x 22,22),(_,_,true,x 27,27)]) [[],[]] (fun x=>[(17,.q b2 12),(22,x 22),(27,x 27)]) ⟨fun _ _ _ k h=>by obtain⟨a,c,e,h⟩:=h; exact⟨a,c,e,h.ext k⟩,fun _ _ _ k h=>by obtain⟨a,c,e,h⟩:=h; exact⟨a,c,e,h.ext k⟩,trivial⟩ (fun x=>⟨by intro u hC g F; exact(iM (n:=t.d.n1) (v:=t.d.s1) (l:=t.d.l1) ((fE (f:=aX) h3.1).below (Ext.trans' S.E hC)) (hl3.1)).mono fun e w2 h=>by obtain⟨a,c,rfl,hx,hb⟩:=h; exact⟨_,rfl,⟨a,c,rfl,hx.mono hC.size⟩,hb⟩,by intro u hC g F; exact(iM (n:=t.d.n2) (v:=t.d.s2) (l:=t.d.l2) ((fE (f:=aX) h3.2).below (Ext.trans' S.E hC)) (hl3.2)).mono fun e w2 h=>by obtain⟨a,c,rfl,hx,hb⟩:=h; exact⟨_,rfl,⟨a,c,rfl,hx.mono hC.size⟩,hb⟩,trivial⟩) (fun ac u x E47 F S=>?_);obtain⟨yR,F27,-⟩:=F;obtain⟨a31,c31,e31,yR⟩:=yR;rw[e31]at S;obtain⟨a32,c32,e32,F27⟩:=F27;rw[e32]at S;refine apB S 2 [] [(28,.agg #[.bool t.d.n1,.slice a31 t.d.l1.length c31,.bool t.d.n2,.slice a32 t.d.l2.length c32]),(29,.q b2 12)] fun S=>azH S 2 (off:=12) (cs:=[.bool t.d.n1,.slice a31 t.d.l1.length c31,.bool t.d.n2,.slice a32 t.d.l2.length c32]) rfl (fun u C48 S=>?_);have RJ:=aU.ch (zu.ext E47) C48 (by omega);have VE:=aU.ch (CX.ext E47) C48 (by omega);have GZ:=aU.ch (G42.ext E47) C48 (by omega);have EK:=aU.ch yR C48 (by omega);have EL:=aU.ch F27 C48 (by omega);have G54:=(Dn (r:=⟨t.d.n1,a31,c31,t.d.l1,t.d.n2,a32,c32,t.d.l2⟩) EK EL);refine aza<|adK _ _<|aBe<|apB S 2 [] [(13,.i 4)] fun S=>aza ?_;show Code.rounds _ _ _ 3 _ _;rw[aBT];refine azc fun _ ake=>apB S 1 [] [(14,.bool true)] fun S=>aza<|ake _ _<|azX fun _ aq9=>Sx.Ho S<|aAi<|aq9 _ _<|azX fun _ ara=>aAC<|azc fun _ arb=>apB S 3 [.mem 0 4] [(4,.q b2 16)] fun S=>aza (arb _ _ ?_);have y4:=S.E.size;have z1:=(S.bx 1).1;have z2:=(S.bx 2).1;refine Sx.hoist [0] 11<|Sx.sF S 11 [(22,fun v w1=>∃a c,v = .agg #[.bool t.e.n1,.slice a t.e.l1.length c]∧Cp 119 1 wQ u.heap.size (.slice a t.e.l1.length c) t.e.l1 w1),(27,fun v w1=>∃a c,v = .agg #[.bool t.e.n2,.slice a t.e.l2.length c]∧Cp 119 1 wQ u.heap.size (.slice a t.e.l2.length c) t.e.l2 w1)] (fun r=>[.mem 2 16,.mem 2 18]) (fun x=>[x 22,x 27]) (fun x=>[(_,_,true,x 22,22),(_,_,true,x 27,27)]) [[],[]] (fun x=>[(17,.q b2 16),(22,x 22),(27,x 27)]) ⟨fun _ _ _ k h=>by obtain⟨a,c,e,h⟩:=h; exact⟨a,c,e,h.ext k⟩,fun _ _ _ k h=>by obtain⟨a,c,e,h⟩:=h; exact⟨a,c,e,h.ext k⟩,trivial⟩ (fun x=>⟨by intro u hC g F; exact(iM (n:=t.e.n1) (v:=t.e.s1) (l:=t.e.l1) ((fE (f:=aX) h4.1).below (Ext.trans' S.E hC)) (hl4.1)).mono fun e w2 h=>by obtain⟨a,c,rfl,hx,hb⟩:=h; exact⟨_,rfl,⟨a,c,rfl,hx.mono hC.size⟩,hb⟩,by intro u hC g F; exact(iM (n:=t.e.n2) (v:=t.e.s2) (l:=t.e.l2) ((fE (f:=aX) h4.2).below (Ext.trans' S.E hC)) (hl4.2)).mono fun e w2 h=>by obtain⟨a,c,rfl,hx,hb⟩:=h; exact⟨_,rfl,⟨a,c,rfl,hx.mono hC.size⟩,hb⟩,trivial⟩) (fun ac u x E59 F S=>?_);obtain⟨yR,F27,-⟩:=F;obtain⟨a41,c41,e41,yR⟩:=yR;rw[e41]at S;obtain⟨a42,c42,e42,F27⟩:=F27;rw[e42]at S;refine apB S 2 [] [(28,.agg #[.bool t.e.n1,.slice a41 t.e.l1.length c41,.bool t.e.n2,.slice a42 t.e.l2.length c42]),(29,.q b2 16)] fun S=>azH S 2 (off:=16) (cs:=[.bool t.e.n1,.slice a41 t.e.l1.length c41,.bool t.e.n2,.slice a42 t.e.l2.length c42]) rfl (fun u UF S=>?_);have BL:=aU.ch (RJ.ext E59) UF (by omega);have Bv:=aU.ch (VE.ext E59) UF (by omega);have wK:=aU.ch (GZ.ext E59) UF (by omega);have aaH:=aU.ch (G54.ext E59) UF (by omega);have RN:=aU.ch yR UF (by omega);have VF:=aU.ch F27 UF (by omega);have G67:=(Dn (r:=⟨t.e.n1,a41,c41,t.e.l1,t.e.n2,a42,c42,t.e.l2⟩) RN VF);refine aza<|ara _ _<|aBe<|apB S 2 [] [(13,.i 5)] fun S=>aza ?_;show Code.rounds _ _ _ 2 _ _;rw[aBT];refine azc fun _ ard=>apB S 1 [] [(14,.bool true)] fun S=>aza<|ard _ _<|azX fun _ aki=>Sx.Ho S<|aAi<|aki _ _<|azX fun _ arf=>aAC<|azc fun _ arh=>apB S 3 [.mem 0 5] [(4,.q b2 20)] fun S=>aza (arh _ _ ?_);have y5:=S.E.size;have z1:=(S.bx 1).1;have z2:=(S.bx 2).1;refine Sx.hoist [0] 11<|Sx.sF S 11 [(22,fun v w1=>∃a c,v = .agg #[.bool t.f.n1,.slice a t.f.l1.length c]∧Cp 119 1 wQ u.heap.size (.slice a t.f.l1.length c) t.f.l1 w1),(27,fun v w1=>∃a c,v = .agg #[.bool t.f.n2,.slice a t.f.l2.length c]∧Cp 119 1 wQ u.heap.size (.slice a t.f.l2.length c) t.f.l2 w1)] (fun r=>[.mem 2 20,.mem 2 22]) (fun x=>[x 22,x 27]) (fun x=>[(_,_,true,x 22,22),(_,_,true,x 27,27)]) [[],[]] (fun x=>[(17,.q b2 20),(22,x 22),(27,x 27)]) ⟨fun _ _ _ k h=>by obtain⟨a,c,e,h⟩:=h; exact⟨a,c,e,h.ext k⟩,fun _ _ _ k h=>by obtain⟨a,c,e,h⟩:=h; exact⟨a,c,e,h.ext k⟩,trivial⟩ (fun x=>⟨by intro u hC g F; exact(iM (n:=t.f.n1) (v:=t.f.s1) (l:=t.f.l1) ((fE (f:=aX) h5.1).below (Ext.trans' S.E hC)) (hl5.1)).mono fun e w2 h=>by obtain⟨a,c,rfl,hx,hb⟩:=h; exact⟨_,rfl,⟨a,c,rfl,hx.mono hC.size⟩,hb⟩,by intro u hC g F; exact(iM (n:=t.f.n2) (v:=t.f.s2) (l:=t.f.l2) ((fE (f:=aX) h5.2).below (Ext.trans' S.E hC)) (hl5.2)).mono fun e w2 h=>by obtain⟨a,c,rfl,hx,hb⟩:=h; exact⟨_,rfl,⟨a,c,rfl,hx.mono hC.size⟩,hb⟩,trivial⟩) (fun ac u x E72 F S=>?_);obtain⟨yR,F27,-⟩:=F;obtain⟨a51,c51,e51,yR⟩:=yR;rw[e51]at S;obtain⟨a52,c52,e52,F27⟩:=F27;rw[e52]at S;refine apB S 2 [] [(28,.agg #[.bool t.f.n1,.slice a51 t.f.l1.length c51,.bool t.f.n2,.slice a52 t.f.l2.length c52]),(29,.q b2 20)] fun S=>azH S 2 (off:=20) (cs:=[.bool t.f.n1,.slice a51 t.f.l1.length c51,.bool t.f.n2,.slice a52 t.f.l2.length c52]) rfl (fun u C73 S=>?_);have Wh:=aU.ch (BL.ext E72) C73 (by omega);have adR:=aU.ch (Bv.ext E72) C73 (by omega);have Oh:=aU.ch (wK.ext E72) C73 (by omega);have Oi:=aU.ch (aaH.ext E72) C73 (by omega);have Oj:=aU.ch (G67.ext E72) C73 (by omega);have adS:=aU.ch yR C73 (by omega);have ari:=aU.ch F27 C73 (by omega);have G81:=(Dn (r:=⟨t.f.n1,a51,c51,t.f.l1,t.f.n2,a52,c52,t.f.l2⟩) adS ari);refine aza<|arf _ _<|aBe<|apB S 2 [] [(13,.i 6)] fun S=>aza ?_;show Code.rounds _ _ _ 1 _ _;rw[aBT];refine azc fun _ arj=>apB S 1 [] [(14,.z)] fun S=>aza<|arj _ _<|azX fun _ axB=>Sx.D7 S<|aAU<|κ8 _ _<|azc fun _ ark=>apB S 1 [.mem 2 0] [(31,.agg #[.bool t.a.n1,.slice a01 t.a.l1.length c01,.bool t.a.n2,.slice a02 t.a.l2.length c02,.bool t.b.n1,.slice a11 t.b.l1.length c11,.bool t.b.n2,.slice a12 t.b.l2.length c12,.bool t.c.n1,.slice a21 t.c.l1.length c21,.bool t.c.n2,.slice a22 t.c.l2.length Uy,.bool t.d.n1,.slice a31 t.d.l1.length c31,.bool t.d.n2,.slice a32 t.d.l2.length c32,.bool t.e.n1,.slice a41 t.e.l1.length c41,.bool t.e.n2,.slice a42 t.e.l2.length c42,.bool t.f.n1,.slice a51 t.f.l1.length c51,.bool t.f.n2,.slice a52 t.f.l2.length c52])] fun S=>azH S 1 (off:=0) (cs:=[.bool t.a.n1,.slice a01 t.a.l1.length c01,.bool t.a.n2,.slice a02 t.a.l2.length c02,.bool t.b.n1,.slice a11 t.b.l1.length c11,.bool t.b.n2,.slice a12 t.b.l2.length c12,.bool t.c.n1,.slice a21 t.c.l1.length c21,.bool t.c.n2,.slice a22 t.c.l2.length Uy,.bool t.d.n1,.slice a31 t.d.l1.length c31,.bool t.d.n2,.slice a32 t.d.l2.length c32,.bool t.e.n1,.slice a41 t.e.l1.length c41,.bool t.e.n2,.slice a42 t.e.l2.length c42,.bool t.f.n1,.slice a51 t.f.l1.length c51,.bool t.f.n2,.slice a52 t.f.l2.length c52]) rfl (fun u C85 S=>?_);have QL:=aU.ch Wh C85 (by omega);have Vj:=aU.ch adR C85 (by omega);have Vk:=aU.ch Oh C85 (by omega);have acU:=aU.ch Oi C85 (by omega);have arl:=aU.ch Oj C85 (by omega);have akj:=aU.ch G81 C85 (by omega);refine aza<|ark _ _<|Sx.rtc S 1 results100 rfl (v := .agg #[.bool t.a.n1,.slice a01 t.a.l1.length c01,.bool t.a.n2,.slice a02 t.a.l2.length c02,.bool t.b.n1,.slice a11 t.b.l1.length c11,.bool t.b.n2,.slice a12 t.b.l2.length c12,.bool t.c.n1,.slice a21 t.c.l1.length c21,.bool t.c.n2,.slice a22 t.c.l2.length Uy,.bool t.d.n1,.slice a31 t.d.l1.length c31,.bool t.d.n2,.slice a32 t.d.l2.length c32,.bool t.e.n1,.slice a41 t.e.l1.length c41,.bool t.e.n2,.slice a42 t.e.l2.length c42,.bool t.f.n1,.slice a51 t.f.l1.length c51,.bool t.f.n2,.slice a52 t.f.l2.length c52]) ?_;exact⟨⟨⟨t.a.n1,a01,c01,t.a.l1,t.a.n2,a02,c02,t.a.l2⟩,⟨t.b.n1,a11,c11,t.b.l1,t.b.n2,a12,c12,t.b.l2⟩,⟨t.c.n1,a21,c21,t.c.l1,t.c.n2,a22,Uy,t.c.l2⟩,⟨t.d.n1,a31,c31,t.d.l1,t.d.n2,a32,c32,t.d.l2⟩,⟨t.e.n1,a41,c41,t.e.l1,t.e.n2,a42,c42,t.e.l2⟩,⟨t.f.n1,a51,c51,t.f.l1,t.f.n2,a52,c52,t.f.l2⟩⟩,rfl,akh (Dl QL (by omega)) (Dl Vj (by omega)) (Dl Vk (by omega)) (Dl acU (by omega)) (Dl arl (by omega)) (Dl akj (by omega)),rfl,S.E⟩
end
end Go.Proofs.YtodpgjjgaddkeaaGreatDoor
