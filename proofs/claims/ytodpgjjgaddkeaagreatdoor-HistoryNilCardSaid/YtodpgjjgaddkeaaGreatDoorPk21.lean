/- Package scene: what it asks of scenes. Package scene: -/
import Derived.Test.YtodpgjjgaddkeaaGreatDoorPk20
set_option maxHeartbeats 3200000
set_option maxRecDepth 100000
set_option linter.unusedVariables false
set_option linter.unusedSimpArgs false
namespace Go.Proofs.YtodpgjjgaddkeaaGreatDoor
open _root_.Go.Proofs.Tryz
section
open Go.RowKit
variable{α:Type}{K:Nat}
abbrev keys (l:List aj):List aQ:=l.map aj.key
theorem xG{l:List aj}{i:Nat}(h:i<l.length):EJ (keys l) i=l[i].depth:=by
 rw[Yl (by simpa using h)]; simp[keys,aj.key]
theorem adD{l:List aj}{id:Int}{k:Nat}(hk:k<l.length)(h:l[k].id=id)(hR:∀(j:Nat) (hj:j<l.length),j<k→l[j].id≠id):wF (keys l) id=(k:Int):=by
 have:mZ (keys l) id=some k:=by
  unfold mZ;rw[List.findIdx?_eq_some_iff_getElem];refine⟨by simpa using hk,by simpa[keys,aj.key]using h,fun j hj=>?_⟩;have:=hR j (by omega) hj;simpa[keys,aj.key]using this
 unfold wF; rw[this]
theorem VR{l:List aj}{id:Int}(hR:∀(j:Nat) (hj:j<l.length),l[j].id≠id):wF (keys l) id = -1:=by
 have:mZ (keys l) id=none:=by
  unfold mZ;rw[List.findIdx?_eq_none_iff];intro κ hκ;obtain⟨n,hn,rfl⟩:=azX.1 hκ;obtain⟨j,hj,rfl⟩:=List.getElem_of_mem hn;simpa[aj.key]using hR j hj
 unfold wF; rw[this]
theorem aax{l:List aj}{id:Int}{k:Nat}(hk:k<l.length)(hR:∀(j:Nat) (hj:j<l.length),j<k→l[j].id≠id)(h:l[k].id≠id):∀(j:Nat) (hj:j<l.length),j<k+1→l[j].id≠id:=fun j hj h1=>by
 by_cases e:j=k
 ·subst e; exact h
 exact hR j hj (by omega)
theorem adE{s:bD}(h:((((decide (s.w<1))||(decide (256<s.w)))||(decide (s.h<1)))||(decide (256<s.h)))=true):s.chk=(6,0):=by
 unfold bD.chk;rw[azv (by simpa[or_assoc]using h)]
theorem sS{s:bD}(h:((((decide (s.w<1))||(decide (256<s.w)))||(decide (s.h<1)))||(decide (256<s.h)))=false):s.chk=if 64<s.ns.length then (5,64)else jR [] s.ns:=by
 unfold bD.chk;rw[azu (by simpa[or_assoc,and_assoc]using h)]
theorem Hu{l:List aQ}{k:Nat}(hk:k<l.length):jR (l.take k) (l.drop k)=if jQ (l.take k) l[k]=0 then jR (l.take (k+1)) (l.drop (k+1))else (jQ (l.take k) l[k],(k:Int)):=by
 rw[aAG hk,aAz hk];conv=>lhs; unfold jR
 rw[aAZ,aA8 (by omega)]
theorem Hw{l:List aj}{k:Nat}(hk:k<l.length){x:aj}(hx:l[k]=x):(keys l)[k]'(by simpa using hk)=x.key:=by simp[keys,hx]
theorem Oc(l:List aj)(k:Nat)(id:Int):((l.take k).map aj.id).any (· == id)=((keys l).take k).any fun κ=>κ.id==id:=by
 rw[←List.map_take,List.any_map,List.any_map]; rfl
structure wG (l:List aj) (k:Nat) (m:Int):Prop where
 all:jR [] (keys l)=jR ((keys l).take k) ((keys l).drop k)
 room:m=DW ((keys l).take k)
theorem wG.start(l:List aj):wG l 0 0:=⟨by simp,rfl⟩
theorem wG.bad{l:List aj}{k:Nat}{m n:Int}{x:aj}(h:wG l k m)(hk:k<l.length)(hx:l[k]=x)(hw:jQ ((keys l).take k) x.key=n)(hn:n≠0):jR [] (keys l)=(n,(k:Int)):=by
 rw[h.all,Hu (by simpa using hk),Hw hk hx,hw,azu hn]
theorem wG.next{l:List aj}{k:Nat}{m m':Int}{x:aj}(h:wG l k m)(hk:k<l.length)(hx:l[k]=x)(hw:jQ ((keys l).take k) x.key=0)(hm:m'=if x.kind=1 then x.depth+1 else x.depth):wG l (k+1) m':=by
 have hk':k<(keys l).length:=by simpa using hk
 refine⟨?_,?_⟩
 ·rw[h.all,Hu hk',Hw hk hx,hw,azv rfl]
 rw[aAz hk',VP,Hw hk hx,hm]; rfl
theorem wG.done{l:List aj}{k:Nat}{m:Int}(h:wG l k m)(hk:l.length≤k):jR [] (keys l)=(0,0):=by
 rw[h.all,aAS (by simpa using hk)]; rfl
theorem VT{pre:List aQ}{x:aj}(h:x.checkN≠0):jQ pre x.key=x.checkN:=by rw[←lq]at h ⊢; exact VO h
theorem aay{pre:List aQ}{x:aj}(h:x.checkN=0)(h2:pre.any (fun κ=>κ.id==x.id)=true):jQ pre x.key=7:=by
 unfold jQ;rw[lq,h,azu (by simp),azv (show(pre.any fun κ=>κ.id==x.key.id)=true from h2)]
theorem Ry{pre:List aQ}{x:aj}(h:x.checkN=0)(h2:pre.any (fun κ=>κ.id==x.id)=false)(h3:DW pre<x.depth):jQ pre x.key=17:=by
 unfold jQ;rw[lq,h,azu (by simp),azu (by rw[show x.key.id=x.id from rfl,h2]; simp),azu (by show ¬x.depth≤_; omega)]
theorem Rz{pre:List aQ}{x:aj}(h:x.checkN=0)(h2:pre.any (fun κ=>κ.id==x.id)=false)(h3:x.depth≤DW pre):jQ pre x.key=0:=by
 unfold jQ;rw[lq,h,azu (by simp),azu (by rw[show x.key.id=x.id from rfl,h2]; simp),azv (by exact h3)]
theorem aaz(w:World):(zeroValue 4).run prog w = .ok (.z) w:=Sx.nJ (by kernel_rfl)
theorem aaA{w:World}{v:Value}{l:List aj}(h:aJ 47 aj.cells w v l){i:Nat}(hi:i<l.length){z:Int}(hz:z=(i:Int)){r:Nat}(hr:r=yj (keys l) i) :
  Calls prog 148 #[v,.i z] w fun e w'=>e = .returned (.i r)∧Ext w w':=by
 subst hz hr;obtain⟨a,cap,rfl⟩:=h.shape;have hmax:l.length≤9223372036854775807:=h.len;refine azD func148 ntmps148 fun ac S=>ay1 fun _ ig=>ayY S 1 [] [(4,.i 0)] fun S=>ayZ<|ig _ _<|ay1 fun _ Yb=>ayY S 3 [.re 7 (.i (IntKind.i64.wrap ((i:Int)+1))) (.i (i+1:Nat))] [(5,.i (i+1:Nat))] (hk:=⟨azj (by omega),trivial⟩) fun S=>ayZ<|Yb _ _<|azL fun _ κ3=>aAp ?_;refine Vp.loop (ι:=Nat) (fun p a' w'=>(i<p∧p≤l.length∧∀j,i<j→j<p→EJ (keys l) i<EJ (keys l) j)∧Sx.St w a' w' 28 [(0,.slice a l.length cap),(1,.i i),(4,.i 0),(5,.i p)] [] []) (fun p=>l.length-p) ((i+1)) ⟨⟨by omega,by omega,fun j h1 h2=>by omega⟩,S.sn⟩ ?_;rintro k ac u hI;try dsimp only at hI
 obtain⟨hR,S⟩:=hI;refine azL fun _ κ4=>azL (fun _ AX=>?_);rcases aAl k l.length with hk | hk
 ·have ek:decide ((k:Int)<(l.length:Int))=true:=aAN (by omega);obtain⟨b1,o1,c1,hv1,hb1,hr1⟩:=Vp.qW h (fun _=>rfl) i hi;simp only[az4,true_and]at hv1;obtain⟨rfl,rfl⟩:=hv1;obtain⟨b2,o2,c2,hv2,hb2,hr2⟩:=Vp.qW h (fun _=>rfl) k hk;simp only[az4,azy,aBv,true_and,and_true]at hv2;obtain⟨⟨rfl,rfl⟩,rfl⟩:=hv2;obtain⟨x,hx⟩:∃z,l[i]=z:=⟨_,rfl⟩;rw[hx]at hr1;obtain⟨y,hy⟩:∃z,l[k]=z:=⟨_,rfl⟩;rw[hy]at hr2;have S:=S.view0 hb1 hr1;have S:=S.view0 hb2 hr2;refine Sx.draw S 17 [.re 11 (.bool ((k:Int)<(l.length:Int))) (.bool true),.idx k l.length,.mem 0 2,.idx i l.length,.mem 1 2] [] [(24,.bool (x.depth<y.depth))] trivial (hk:=⟨(azH Value.bool ek),hk,hi,trivial⟩) fun ac u E6 S=>ayZ (AX _ _ ?_);refine azq S (fun nH=>?_) (fun nH=>?_)
  ·refine az6<|κ4 _ _<|aAp<|aA2<|ayY S 3 [.re 26 (.i (IntKind.i64.wrap ((k:Int)+1))) (.i (k+1:Nat))] [(5,.i (k+1:Nat))] (hk:=⟨azj (by omega),trivial⟩) fun S=>ayZ ?_;show ∃i',_∧_;exact⟨(k+1),⟨⟨by omega,by omega,fun j h1 h2=>by
    by_cases e:j=k
    ·subst e; rw[xG hi,xG hk,hx,hy]; have:=azN nH; omega
    exact hR.2.2 j h1 (by omega)⟩,S.sn⟩,by show l.length-(k+1)<l.length-k; omega⟩
  refine aAJ<|κ3 _ _<|ay1 fun _ κ8=>ayY S 2 [] [(4,.i k)] fun S=>ayZ<|κ8 _ _<|Sx.Uu S results148 ?_;have he:yj (keys l) i=k:=by
   rw[Rq (by simpa using hi)];exact Yk (by simpa using hi) hR.1 (by simpa using hR.2.1) hR.2.2 (fun hk=>by rw[xG hi,xG (by simpa using hk),hx,hy]; have:=azR nH; omega)
  exact⟨by rw[he],S.E⟩
 have ek:decide ((k:Int)<(l.length:Int))=false:=aA7 (by omega);refine Sx.draw S 17 [.re 11 (.bool ((k:Int)<(l.length:Int))) (.z),.dead 13 (.z),.dead 14 (.z),.dead 15 (.z),.dead 16 (.z),.dead 17 (.z),.dead 18 (.z),.dead 19 (.z),.dead 20 (.z),.dead 21 (.z),.dead 22 (.z),.dead 23 (.z)] [] [(24,.z)] trivial (hk:=⟨(azH Value.bool ek),trivial⟩) fun ac u E9 S=>ayZ<|AX _ _<|Sx.DR S<|aAJ<|κ3 _ _<|ay1 fun _ zy=>ayY S 2 [] [(4,.i k)] fun S=>ayZ<|zy _ _<|Sx.Uu S results148 ?_;have he:yj (keys l) i=k:=by
  rw[Rq (by simpa using hi)];exact Yk (by simpa using hi) hR.1 (by simpa using hR.2.1) hR.2.2 (fun hk2=>by simp at hk2; omega)
 exact⟨by rw[he],S.E⟩
theorem VU{w:World}{v:Value}{l:List aj}(h:aJ 47 aj.cells w v l){id:Int} :
  Calls prog 145 #[v,.i id] w fun e w'=>e = .returned (.i (wF (keys l) id))∧Ext w w':=by
 obtain⟨a,cap,rfl⟩:=h.shape;have hmax:l.length≤9223372036854775807:=h.len;refine ay3 func145 ntmps145 fun S=>azm S (ι:=Nat) (fun p a' w'=>p≤l.length∧(∀(j:Nat) (hj:j<l.length),j<p→l[j].id≠id)∧Sx.St w a' w' 20 [(0,.slice a l.length cap),(1,.i id),(4,.i 0),(7,.slice a l.length cap),(8,.i l.length),(9,.i p)] [] []) (fun p=>l.length-p) (0) (fun S=>⟨azB _,fun j hj h=>by omega,S.uU⟩) ?_;rintro k ac u ig eU hI;try dsimp only at hI
 obtain⟨hk,hR,S⟩:=hI;refine azn S fun S=>ay0 S (decide ((k:Int)<(l.length:Int))) (fun hc6 S=>?_) (fun hc6 S=>?_)
 ·have fZ:k<l.length:=by have:=azN hc6; omega
  obtain⟨b9,o10,rfl,x15,jy,hb16,uh⟩:=az2 h (fun _=>rfl) (k) fZ;have S:=S.view0 hb16 uh;refine adr S 3 [] [.idx k l.length,.mem 0 0] (hk:=⟨fZ,trivial⟩) fun S=>ay2 S fun u b17 yw EK S=>ay4 S 0 rfl fun u yG S=>adr S 4 [] [.mem 0 0] fun S=>ay0 S ((x15.id)==id) (fun hc22 S=>?_) (fun hc22 S=>?_)
  ·refine apB S (.i k) (fun S=>?_);exact⟨by rw[adD fZ (by rw[jy]; simpa using hc22) hR],S.E⟩
  refine adr S 2 [] [.re 19 (.i (IntKind.i64.wrap ((k:Int)+1))) (.i (k+1:Nat))] (hk:=⟨azj (by omega),trivial⟩) fun S=>azo S ig (fun S=>?_);exact eU _ _ (k+1) ⟨by omega,(aax fZ hR (by rw[jy]; simpa using hc22)),(S.iH 1).uU⟩ (by show _-_<_-_; omega)
 refine apB S (.i (-1)) (fun S=>?_);have hk:=azR hc6;exact⟨by rw[VR (fun j hj=>hR j hj (by omega))],S.E⟩
theorem adF{l:List aj}{k:Nat}{x:aj}(hk:k<l.length)(hx:l[k]=x):(l.take k).map aj.id++[x.id]=(l.take (k+1)).map aj.id:=by
 rw[aAz hk,aAo,hx]; rfl
theorem DY{w:World}{s:aI}(h:dI K w s)(hg:dO w) :
  Calls prog 83 #[s.v] w fun e w'=>e = .returned (.tuple #[.i s.key.chk.1,.i s.key.chk.2])∧Ext w w':=by
 have hmax:s.ns.length≤9223372036854775807:=h.2.2.1.len;refine azD func83 ntmps83 (fun ac S=>?_);obtain⟨a,cap,es⟩:∃a c,s.s = .slice a s.ns.length c:=⟨_,_,rfl⟩;have hr:=h.2.2.1;rw[es]at hr;refine ay1 fun _ ig=>Sx.qG S 1 s.cells fun ac u b2 E3 hb4 S=>ayY S 2 [] [(2,.i 0),(3,.i 0)] fun S=>ayZ<|ig _ _<|azL fun _ AX=>ay1 fun _ κ6=>ayY S 18 [.mem 0 0,.mem 0 0,.mem 0 1,.mem 0 1] [(26,.bool ((((decide (s.w<1))||(decide (256<s.w)))||(decide (s.h<1)))||(decide (256<s.h))))] fun S=>ayZ (κ6 _ _ ?_);refine azq S (fun nH=>?_) (fun nH=>?_)
 ·refine ay1 fun _ κ8=>ayY S 2 [] [(2,.i 6),(3,.i 0)] fun S=>ayZ<|κ8 _ _<|Sx.rt2 S results83 ?_;exact⟨by rw[adE (s:=s.key) nH],S.E⟩
 refine az6<|AX _ _<|azL fun _ κ9=>ay1 fun _ zy=>ayY S 4 [.mem 0 6,.re 28 s.s (.slice a s.ns.length cap)] [(30,.bool (64<(s.ns.length:Int)))] (hk:=⟨es,trivial⟩) fun S=>ayZ (zy _ _ ?_);refine azq S (fun gU=>?_) (fun gU=>?_)
 ·refine ay1 fun _ QV=>ayY S 2 [] [(2,.i 5),(3,.i 64)] fun S=>ayZ<|QV _ _<|Vp.rt ?_;have hq:=sS (s:=s.key) nH;rw[show s.key.ns=keys s.ns from rfl,aAQ]at hq;refine Sx.JY S results83 ?_;exact⟨by rw[hq,azv (by have:=azN gU; omega)],S.E⟩
 refine az6<|κ9 _ _<|ay1 (fun _ VW=>?_);have hold:=S.E.size;have avq:=(S.bx 0).1;refine Sx.aqR S 31 (fun ac u b E0 hb hM S=>?_);have R:=aAc S;have hbo:w.heap.size≤b∧b≠b2:=⟨by omega,by omega⟩;have JZ:Sx.Ow _ (Sx.Ob [(b2,s.cells)] []) (fun W=>lQ prog 3 4 W b []) _:=aBz (Sx.Rx (hM _ _)) fun i hi=>by subst hi; exact⟨hbo.1,by simpa[Sx.Ob]using hbo.2⟩
 refine ayY S 1 [] [(4,.map (some b))] fun S=>ayZ<|VW _ _<|ay1 fun _ vw=>ayY S 1 [] [(5,.i 0)] fun S=>ayZ<|vw _ _<|azL fun _ G8=>ay1 fun _ zB=>ayY S 4 [.mem 0 6,.re 33 s.s (.slice a s.ns.length cap)] [(33,.slice a s.ns.length cap),(34,.i s.ns.length),(35,.i 0)] (hk:=⟨es,trivial⟩) fun S=>ayZ<|zB _ _<|aAp ?_;refine Vp.loop (ι:=Nat×Int) (fun p a' w'=>p.1≤s.ns.length∧(wG s.ns p.1 p.2)∧Sx.Rw w w' [(b2,s.cells)] []∧Sx.Ow w.heap.size (Sx.Ob [(b2,s.cells)] []) (fun W=>lQ prog 3 4 W b ((s.ns.take p.1).map aj.id)) w'∧Sx.St w a' w' 67 [(0,s.v),(1,.q b2 0),(2,.i 0),(3,.i 0),(4,.map (some b)),(5,.i p.2),(33,.slice a s.ns.length cap),(34,.i s.ns.length),(35,.i p.1)] [(b2,s.cells)] []) (fun p=>s.ns.length-p.1) (0,0) ⟨azB _,wG.start _,R,JZ,S.sn⟩ ?_;rintro⟨k,m⟩ ac u hI;try dsimp only at hI
 obtain⟨hk,hR,R,J3,S⟩:=hI;refine ay1 fun _ NS=>ayY S 1 [] [(36,.bool ((k:Int)<(s.ns.length:Int)))] fun S=>ayZ<|NS _ _<|azL (fun _ Vo=>?_);refine azq S (fun hc19=>?_) (fun hc19=>?_)
 ·refine az6<|Vo _ _<|azL fun _ aai=>aAp<|ay1 (fun _ adk=>?_);have hMl:=(az8 (J3)).lt;have lH:k<s.ns.length:=by have:=azN hc19; omega
  obtain⟨b22,o23,rfl,x28,pY,Jy,MR⟩:=az2 hr (fun _=>rfl) (k) lH;have hxo:=h.2.2.2 _ (pY▸azZ lH);have S:=S.view0 Jy MR;refine ayY S 3 [.idx k s.ns.length,.mem 1 0] [(37,.i k),(39,x28.v)] (hk:=⟨lH,trivial⟩) fun S=>Sx.qG S 7 (Sx.L [.i 0,.i 0,.i 0]++Sx.za++Sx.L [.sn,.i 0,.u 0,.i 0,.z,.z,.sn,.i 0,.sn,.i 0,.i 0,.i 0,.i 0,.sn,.i 0,.sn,.i 0,.i 0,.sn,.i 0]) fun ac u b30 Ah Z4 S=>ayY S 1 [] [(6,.i k)] fun S=>azw S 0 (off:=0) (cs:=x28.cells) rfl (fun u NK S=>?_);have hbn:b≠b30:=by omega
  refine ayZ<|adk _ _<|azL fun _ VX=>ay1 fun _ VY=>ayY S 1 [.mem 0 0] [(40,x28.v)] fun S=>Sx.AY S 41 (yH ((h.2.2.2 _ (pY▸azZ lH)).below S.E) (hg.below S.E)) fun ac u Uw S=>ayY S 1 [] [(8,.i x28.checkN)] fun S=>ayZ<|VY _ _<|ay1 fun _ ajW=>ayY S 2 [] [(43,.bool ((x28.checkN) != 0))] fun S=>ayZ (ajW _ _ ?_);refine azq S (fun hc38=>?_) (fun hc38=>?_)
  ·refine ay1 fun _ ajO=>ayY S 4 [] [(2,.i x28.checkN),(3,.i k)] fun S=>ayZ<|ajO _ _<|Vp.rt ?_;have hq:=sS (s:=s.key) nH;rw[show s.key.ns=keys s.ns from rfl,aAQ]at hq;refine Sx.JY S results83 ?_;rw[azu (by have:=azR gU; omega)]at hq;exact⟨by rw[hq,hR.bad lH pY (VT (by simpa using hc38)) (by simpa using hc38)],S.E⟩
  refine az6<|VX _ _<|azL fun _ ajX=>ay1 fun _ aqU=>ayY S 3 [.mem 0 0] [(46,.map (some b)),(48,.i x28.id)] (fun S=>?_);obtain⟨R,Y42⟩:=R.bP S (azP (aAB Ah Z4) (azP (Sx.Stp.Oe NK (by simp[Sx.vb])) (azV Uw)));have hMn:=az8 ((aAR J3 Y42));refine Sx.amR S 49 hMn underlying3 underlying4 underlying194 (aaz _) (hxo.1.1) fun ac S=>ayZ (aqU _ _ ?_);refine azq S (fun adG=>?_) (fun adG=>?_)
  ·refine ay1 fun _ agD=>ayY S 3 [] [(2,.i 7),(3,.i k)] fun S=>ayZ<|agD _ _<|Vp.rt ?_;have hq:=sS (s:=s.key) nH;rw[show s.key.ns=keys s.ns from rfl,aAQ]at hq;refine Sx.JY S results83 ?_;rw[azu (by have:=azR gU; omega)]at hq;exact⟨by rw[hq,hR.bad lH pY (aay (by simpa using hc38) (by rw[←Oc]; exact adG)) (by decide)],S.E⟩
  refine az6<|ajX _ _<|azL fun _ adH=>ay1 fun _ ajY=>ayY S 4 [.mem 0 2] [(54,.bool (m<x28.depth))] fun S=>ayZ (ajY _ _ ?_);refine azq S (fun hc47=>?_) (fun hc47=>?_)
  ·refine ay1 fun _ aqV=>ayY S 3 [] [(2,.i 17),(3,.i k)] fun S=>ayZ<|aqV _ _<|Vp.rt ?_;have hq:=sS (s:=s.key) nH;rw[show s.key.ns=keys s.ns from rfl,aAQ]at hq;refine Sx.JY S results83 ?_;rw[azu (by have:=azR gU; omega)]at hq;exact⟨by rw[hq,hR.bad lH pY (Ry (by simpa using hc38) (by rw[←Oc]; exact adG) (by have:=azN hc47; rw[←hR.room]; omega)) (by decide)],S.E⟩
  refine az6<|adH _ _<|ay1 fun _ aqW=>ayY S 3 [.mem 0 0] [(56,.map (some b)),(58,.i x28.id)] (fun S=>?_);have hMn:=az8 ((aAR J3 Y42));refine Sx.aqT S hMn (S.E.size |> fun _=>hbo.1) underlying3 underlying4 underlying194 (by rw[aAQ,aAZ]; show _<9223372036854775807; omega) hxo.1.1 (fun u hM2 hgr S=>?_);have R:=aAc S;have JZ:Sx.Ow w.heap.size (Sx.Ob [(b30,x28.cells),(b2,s.cells)] []) (fun W=>lQ prog 3 4 W b ((s.ns.take (k+1)).map aj.id)) u:=by
   rw[adF lH pY]at hM2;exact aBz (Sx.Rx hM2) fun i hi=>by subst hi; exact⟨hbo.1,by simpa[Sx.Ob]using ⟨hbn,hbo.2⟩⟩
  refine ayZ<|aqW _ _<|ay1 fun _ ajZ=>ayY S 3 [.mem 0 2] [(5,.i x28.depth)] fun S=>ayZ<|ajZ _ _<|ay1 fun _ aqX=>ayY S 3 [.mem 0 1] [(63,.bool ((x28.kind)==1))] fun S=>ayZ (aqX _ _ ?_);refine azq S (fun rP=>?_) (fun rP=>?_)
  ·refine aA2<|ayY S 3 [Sx.kw 65 (x28.depth+1)] [(5,.i (x28.depth+1))] (hk:=⟨Sx.ah5 (by have:=Bj (n:=x28) (by simpa using hc38); omega),trivial⟩) fun S=>ayZ<|aai _ _<|aA2<|ayY S 2 [.re 66 (.i (IntKind.i64.wrap ((k:Int)+1))) (.i (k+1:Nat))] [(35,.i (k+1:Nat))] (hk:=⟨azj (by omega),trivial⟩) fun S=>ayZ ?_;have S:=S.iH 1;obtain⟨R,Y53⟩:=R.bP S (aAr 1);show ∃i',_∧_;exact⟨((k+1),(x28.depth+1)),⟨by omega,hR.next lH pY (Rz (by simpa using hc38) (by rw[←Oc]; exact adG) (by have:=azR hc47; rw[←hR.room]; omega)) (by rw[azv (by simpa using rP)]),R,(aAR JZ Y53),S.sn⟩,by show _-_<_-_; omega⟩
  refine az6<|aai _ _<|aA2<|ayY S 2 [.re 66 (.i (IntKind.i64.wrap ((k:Int)+1))) (.i (k+1:Nat))] [(35,.i (k+1:Nat))] (hk:=⟨azj (by omega),trivial⟩) fun S=>ayZ ?_;have S:=S.iH 1;obtain⟨R,Y54⟩:=R.bP S (aAr 1);show ∃i',_∧_;exact⟨((k+1),x28.depth),⟨by omega,hR.next lH pY (Rz (by simpa using hc38) (by rw[←Oc]; exact adG) (by have:=azR hc47; rw[←hR.room]; omega)) (by rw[azu (by simpa using rP)]),R,(aAR JZ Y54),S.sn⟩,by show _-_<_-_; omega⟩
 refine aAJ<|G8 _ _<|ay1 fun _ aj0=>ayY S 2 [] [(2,.i 0),(3,.i 0)] fun S=>ayZ<|aj0 _ _<|Vp.rt ?_;have hq:=sS (s:=s.key) nH;rw[show s.key.ns=keys s.ns from rfl,aAQ]at hq;refine Sx.JY S results83 ?_;rw[azu (by have:=azR gU; omega)]at hq;exact⟨by rw[hq,hR.done (by have:=azR hc19; omega)],S.E⟩
theorem eu.eqP{w w':World}{a b:aj}(h:eu K w a)(h':eu K w' b):a.eqP b=decide (a.key=b.key):=agz h.nrm h'.nrm
theorem Og(c d:bG):(((c.r.toNat:Int)==d.r.toNat)&&(((c.g.toNat:Int)==d.g.toNat)&&(((c.b.toNat:Int)==d.b.toNat)&&((c.a.toNat:Int)==d.a.toNat))))=decide (c=d):=by
 rw[aAM];simp only[azM,azI,CU,azK];exact Yh
theorem aj1(c d:bG)(w:World):(binOp .eql 40 (.agg c.cells.toArray) (.agg d.cells.toArray)).run prog w = .ok (.bool (c=d)) w:=by
 rw[←Og]; exact abP ..
theorem ah8(a b c d e f g h:Int)(w:World):(binOp .neq 40 (.agg #[.u a,.u b,.u c,.u d]) (.agg #[.u e,.u f,.u g,.u h])).run prog w = .ok (.bool (!((a==e)&&((b==f)&&((c==g)&&(d==h)))))) w:=by
 simp[go_sem];(repeat' split)<;>simp_all
theorem aj2(c d:bG)(w:World):(binOp .neq 40 (.agg c.cells.toArray) (.agg d.cells.toArray)).run prog w = .ok (.bool (!decide (c=d))) w:=by
 rw[←Og]; exact ah8 ..
theorem aj3{l m:List aj}{k:Nat}(hk:l.length≤k)(h:l.length=m.length)(hR:(keys l).take k=(keys m).take k):true=decide (keys l=keys m):=by
 rw[aAh (by simpa using hk),aAh (by simpa using (show m.length≤k by omega))]at hR;simp[hR]
theorem agE{l m:List aj}{k:Nat}(h1:k<l.length)(h2:k<m.length)(hR:(keys l).take k=(keys m).take k){x y:aj}(hx:l[k]=x)(hy:m[k]=y)(h:(!decide (x.key=y.key))=false):(keys l).take (k+1)=(keys m).take (k+1):=by
 rw[aAz (by simpa using h1),aAz (by simpa using h2),hR,Hw h1 hx,Hw h2 hy];simp at h;rw[h]
theorem amT{l m:List aj}{k:Nat}(h1:k<l.length)(h2:k<m.length){x y:aj}(hx:l[k]=x)(hy:m[k]=y)(h:(!decide (x.key=y.key))=true):false=decide (keys l=keys m):=by
 symm;rw[az7];intro e;have:=azH (·[k]?) e;simp only[keys,List.getElem?_map,List.getElem?_eq_getElem h1,List.getElem?_eq_getElem h2,hx,hy,aAj,azy]at this;simp[this]at h
theorem amU{s t:aI}(h:((((s.w) != t.w)||((s.h) != t.h))||(!decide (s.bg=t.bg))||((s.ns.length:Int) != (t.ns.length:Int)))=true):false=decide (s.key=t.key):=by
 symm;rw[az7];intro e;simp only[aI.key,bD.mk.injEq]at e;have hl:=azH List.length e.2.2.2;simp at hl;simp[e.1,e.2.1,e.2.2.1,hl]at h
theorem adI{s t:aI}(h:((((s.w) != t.w)||((s.h) != t.h))||(!decide (s.bg=t.bg))||((s.ns.length:Int) != (t.ns.length:Int)))=false):s.ns.length=t.ns.length:=by
 simp at h; omega
theorem ah9{s t:aI}{b:Bool}(h:((((s.w) != t.w)||((s.h) != t.h))||(!decide (s.bg=t.bg))||((s.ns.length:Int) != (t.ns.length:Int)))=false)(hb:b=decide (keys s.ns=keys t.ns)):b=decide (s.key=t.key):=by
 rw[hb];simp at h;simp[aI.key,h]
theorem xH{w:World}{a b:aj}(h:eu K w a)(h':eu K w b):Calls prog 95 #[a.v,b.v] w fun e w'=>e = .returned (.bool (a.key=b.key))∧Ext w w':=by
 rw[←h.eqP h']; exact JU h h'
set_option maxRecDepth 100000 in
set_option maxHeartbeats 1600000 in
theorem wH{w:World}{s:aI}(h:dI K w s)(hg:dO w) :
  Calls prog 51 #[s.v] w fun e w'=>e = .returned (.bool s.key.valid)∧Ext w w':=by
 skip;refine ay3 func51 ntmps51 fun S=>ay2 S fun u b2 E3 hb4 S=>adr S 2 [] [.mem 0 0] fun S=>azd S (DY (h.below S.E) (hg.below S.E)) fun u E6 S=>apB S (.bool ((s.key.chk.1)==0)) (fun S=>?_);exact⟨rfl,S.E⟩
theorem aia:iI prog 29 163 (.agg #[.i 0,.i 0,.i 0,.i 0,.i 0,.i 0,.i 0]) 7 56:=⟨underlying29,info_parts (by kernel_rfl),rfl,by decide⟩
theorem adJ:iI prog 131 202 (.agg #[.i 0,.u 0,.u 0,.u 0,.u 0]) 5 16:=⟨underlying131,info_parts (by kernel_rfl),rfl,by decide⟩
theorem aib:iI prog 34 178 (.agg #[.u 0,.u 0,.u 0,.u 0]) 4 4:=⟨underlying34,info_parts (by kernel_rfl),rfl,by decide⟩
theorem aic:iI prog 31 3 (.i 0) 1 8:=⟨underlying31,info_parts (by kernel_rfl),rfl,by decide⟩
theorem Ym:iI prog 30 133 (.agg (Sx.L [.i 0,.u 0,.u 0,.u 0,.u 0,.i 0,.i 0,.i 0,.i 0,.i 0,.sn,.i 0,.i 0,.i 0,.sn,.i 0]++Sx.za).toArray) 40 520:=⟨underlying30,info_parts (by kernel_rfl),rfl,by decide⟩
def Cp(e:TypeId)(k:Nat)(f:α→List Value)(base:Nat)(v:Value)(L:List α)(w:World):Prop:=Sx.aU base (Sx.nX e k f base v L) w
theorem Cp.ext{e:TypeId}{k:Nat}{f:α→List Value}{base:Nat}{v:Value}{L:List α}{w w':World}(h:Cp e k f base v L w)(hE:Ext w w'):Cp e k f base v L w':=azT h hE
theorem Cp.mono{e:TypeId}{k:Nat}{f:α→List Value}{base b0:Nat}{v:Value}{L:List α}{w:World}(h:Cp e k f base v L w)(hb:b0≤base):Cp e k f b0 v L w:=aAs (Sx.aU.le h hb) fun _ h=>h.le hb
theorem Cp.shape{e:TypeId}{k:Nat}{f:α→List Value}{base:Nat}{v:Value}{L:List α}{w:World}(h:Cp e k f base v L w):∃a c,v = .slice a L.length c:=(az8 h).1.shape
theorem Hy(e:TypeId)(k:Nat)(f:α→List Value)(base:Nat)(w:World):Cp e k f base (.sn) [] w:=fun w' _ _=>⟨dH k f w',.inl rfl⟩
theorem pV{k:Nat}{f:α→List Value}{w:World}{n c:Nat}{L:List α}(h:aJ k f w (.slice none n c) L):L=[]:=by
 obtain⟨a,cap,e,hm,h⟩:=h;simp only[az4]at e;obtain⟨rfl,rfl,rfl⟩:=e;rcases h with ⟨h,_⟩ | ⟨b,o,h,_⟩
 ·exact h
 cases h
theorem jX{k:Nat}{f:α→List Value}{w:World}{n c:Nat}{L:List α}(h:aJ k f w (.slice none n c) L):c=0:=by
 obtain⟨a,cap,e,hm,h⟩:=h;simp only[az4]at e;obtain⟨rfl,rfl,rfl⟩:=e;rcases h with ⟨_,h⟩ | ⟨b,o,h,_⟩
 ·exact h rfl
 cases h
theorem aU.ch{base b:Nat}{F:World→Prop}{w w':World}(h:Sx.aU base F w)(hc:Ch b w w')(hb:b<base):Sx.aU base F w':=fun w2 hs hk =>
 h w2 (azQ hc.size hs) fun k hk1 hk2=>(hk k (azY hk1 hc.size) hk2).trans (hc.block k hk1 fun e=>by simp only[azy]at e; omega)
theorem eF{f:α→Value}{w:World}{v:Value}{l:List α}(h:aJ 1 (fun x=>[f x]) w v l):dB f w v l:=by
 obtain⟨a,cap,hv,hm,h⟩:=h;refine⟨a,cap,hv,hm,?_⟩;rcases h with h | ⟨b,o,ha,hlt,hl,hc⟩
 ·exact .inl h
 exact .inr ⟨b,o,ha,hlt,hl,fun i hi=>by have:=hc i hi 0 (by omega); simpa using this⟩
def bI.strip(r:bI):bI:=⟨r.n1,Option.none,0,r.l1,r.n2,Option.none,0,r.l2⟩
def bF.strip(t:bF):bF:=⟨t.a.strip,t.b.strip,t.c.strip,t.d.strip,t.e.strip,t.f.strip⟩
def dA.strip(m:dA):dA:=⟨m.w,m.h,Option.none,0,m.l⟩
def ak.strip(p:ak):ak:=⟨p.kind,p.color,p.p0,p.p1,p.bQ,Option.none,0,p.stops,p.spread,p.img.strip,p.cZ,p.t.strip⟩
def aS.strip(p:aS):aS:=⟨p.width,p.join,p.cap,p.eX,Option.none,0,p.dash,p.phase⟩
def aj.strip(n:aj):aj:=⟨n.id,n.kind,n.depth,n.t.strip,Option.none,0,n.clip,n.aP,n.dQ,n.blend,n.isolated,n.dD,Option.none,0,n.path,n.aT,Option.none,0,n.fill.map ak.strip,n.style.strip,Option.none,0,n.stroke.map ak.strip,n.img.strip,n.cZ⟩
abbrev wI:UInt32→List Value:=fun x=>[aW x]
def bI.pK(base:Nat)(r:bI)(w:World):Prop:=r.ok w∧Sx.Ty 119 1 base r.s1 r.l1.length w∧Sx.Ty 119 1 base r.s2 r.l2.length w
def bF.pK(base:Nat)(t:bF)(w:World):Prop:=t.a.pK base w∧t.b.pK base w∧t.c.pK base w∧t.d.pK base w∧t.e.pK base w∧t.f.pK base w
def ak.pK(base:Nat)(p:ak)(w:World):Prop:=p.ok w∧Sx.Ty 202 5 base p.sv p.stops.length w∧Sx.Ty 178 4 base p.img.s p.img.l.length w∧p.t.pK base w
def jY(base:Nat)(w:World)(v:Value)(l:List ak):Prop:=Sx.nX 133 40 ak.cells base v l w∧∀p∈l,p.pK base w
def aj.pK(base:Nat)(n:aj)(w:World):Prop:=n.ok w∧n.t.pK base w∧Sx.Ty 163 7 base n.cs n.clip.length w∧Sx.Ty 163 7 base n.ps n.path.length w∧jY base w n.fs n.fill∧jY base w n.ss n.stroke∧Sx.Ty 3 1 base n.style.s n.style.dash.length w∧Sx.Ty 178 4 base n.img.s n.img.l.length w
theorem bI.pK.le{base b0:Nat}{r:bI}{w:World}(h:r.pK base w)(hb:b0≤base):r.pK b0 w:=⟨h.1,h.2.1.le hb,h.2.2.le hb⟩
theorem bF.pK.le{base b0:Nat}{t:bF}{w:World}(h:t.pK base w)(hb:b0≤base):t.pK b0 w:=⟨h.1.le hb,h.2.1.le hb,h.2.2.1.le hb,h.2.2.2.1.le hb,h.2.2.2.2.1.le hb,h.2.2.2.2.2.le hb⟩
theorem bF.pK.ok{base:Nat}{t:bF}{w:World}(h:t.pK base w):t.ok w:=⟨h.1.1,h.2.1.1,h.2.2.1.1,h.2.2.2.1.1,h.2.2.2.2.1.1,h.2.2.2.2.2.1⟩
theorem ak.pK.le{base b0:Nat}{p:ak}{w:World}(h:p.pK base w)(hb:b0≤base):p.pK b0 w:=⟨h.1,h.2.1.le hb,h.2.2.1.le hb,h.2.2.2.le hb⟩
theorem jY.le{base b0:Nat}{w:World}{v:Value}{l:List ak}(h:jY base w v l)(hb:b0≤base):jY b0 w v l:=⟨h.1.le hb,fun p hp=>(h.2 p hp).le hb⟩
theorem jY.ok{base:Nat}{w:World}{v:Value}{l:List ak}(h:jY base w v l):iU w v l:=⟨h.1.1,fun p hp=>(h.2 p hp).1⟩
abbrev bI.cp (base:Nat)(r:bI)(w:World):Prop:=Sx.aU base (fun W=>r.pK base W) w
abbrev bF.cp (base:Nat)(t:bF)(w:World):Prop:=Sx.aU base (fun W=>t.pK base W) w
abbrev qx (base:Nat)(v:Value)(l:List ak)(w:World):Prop:=Sx.aU base (fun W=>jY base W v l) w
theorem CV{base b0:Nat}{r:bI}{w:World}(h:r.cp base w)(hb:b0≤base):r.cp b0 w:=aAs (Sx.aU.le h hb) fun _ h=>h.le hb
theorem adK{base b0:Nat}{t:bF}{w:World}(h:t.cp base w)(hb:b0≤base):t.cp b0 w:=aAs (Sx.aU.le h hb) fun _ h=>h.le hb
theorem xI{base b0:Nat}{v:Value}{l:List ak}{w:World}(h:qx base v l w)(hb:b0≤base):qx b0 v l w:=aAs (Sx.aU.le h hb) fun _ h=>h.le hb
def bF.lim(t:bF):Prop:=t.fit 1000000
theorem xJ{r:bI}(h:r.fit 1000000):r.l1.length≤10000000∧r.l2.length≤10000000:=⟨by have:=h.1; omega,by have:=h.2; omega⟩
theorem agF{t:bF}(h:t.lim):(t.a.l1.length≤10000000∧t.a.l2.length≤10000000)∧(t.b.l1.length≤10000000∧t.b.l2.length≤10000000)∧(t.c.l1.length≤10000000∧t.c.l2.length≤10000000)∧(t.d.l1.length≤10000000∧t.d.l2.length≤10000000)∧(t.e.l1.length≤10000000∧t.e.l2.length≤10000000)∧(t.f.l1.length≤10000000∧t.f.l2.length≤10000000):=
 ⟨xJ h.1,xJ h.2.1,xJ h.2.2.1,xJ h.2.2.2.1,xJ h.2.2.2.2.1,xJ h.2.2.2.2.2⟩
theorem VZ{w:World}{v:Value}{L:List UInt32}(h:aJ 1 (fun x=>[aW x]) w v L):dP w 1 v L.length (L.flatMap (fun x=>[aW x])):=Sx.nM h (fun _=>rfl) fun _=>rfl
theorem V3{w:World}{v:Value}{L:List UInt32}(h:aJ 1 (fun x=>[aW x]) w v L)(hl:L.length≤10000000) :
  Calls prog 200 #[v] w fun e w'=>∃v',e = .returned v'∧Cp 119 1 (fun x=>[aW x]) w.heap.size v' L w'∧Ext w w':=by
 obtain⟨a,c,rfl⟩:=h.shape;cases a with
 | none =>
  obtain rfl:L=[]:=pV h;obtain rfl:=jX h;refine ay3 func200 ntmps200 fun S=>ay8 S fun S=>apB S (.sn) (fun S=>?_);exact⟨_,rfl,Hy _ _ _ _ _,S.E⟩
 | some p =>
  refine ay3 func200 ntmps200 fun S=>azg S (fun S=>?_);have R:=aAc S;refine ay7 S fun S=>Sx.newRow S R 5 0 119 1 [] fun ac u v5 E6 X7 R S=>azh S fun S=>ay7 S fun S=>Sx.app S R 0 7 rfl lK (VZ (h.below S.E)) (by show 0+L.length≤9223372036854775807; omega) (by show(0+L.length)*_≤140737488355328; omega) fun ac u v8 X9 R S=>azh S fun S=>apB S v8 (fun S=>?_);exact⟨_,rfl,Sx.jV (fun _=>rfl) (R.own _ azJ) (aAq _) (aAv _),S.E⟩
theorem V4{w:World}{v:Value}{L:List dL}(h:aJ 7 dL.cells w v L):dP w 7 v L.length (L.flatMap dL.cells):=Sx.nM h (fun _=>rfl) fun _=>rfl
theorem Hz{w:World}{v:Value}{L:List dL}(h:aJ 7 dL.cells w v L)(hl:L.length≤10000000) :
  Calls prog 101 #[v] w fun e w'=>∃v',e = .returned v'∧Cp 163 7 dL.cells w.heap.size v' L w'∧Ext w w':=by
 obtain⟨a,c,rfl⟩:=h.shape;cases a with
 | none =>
  obtain rfl:L=[]:=pV h;obtain rfl:=jX h;refine ay3 func101 ntmps101 fun S=>ay8 S fun S=>apB S (.sn) (fun S=>?_);exact⟨_,rfl,Hy _ _ _ _ _,S.E⟩
 | some p =>
  refine ay3 func101 ntmps101 fun S=>azg S (fun S=>?_);have R:=aAc S;refine ay7 S fun S=>Sx.newRow S R 5 0 163 7 [] fun ac u v5 E6 X7 R S=>azh S fun S=>ay7 S fun S=>Sx.app S R 0 7 rfl aia (V4 (h.below S.E)) (by show 0+L.length≤9223372036854775807; omega) (by show(0+L.length)*_≤140737488355328; omega) fun ac u v8 X9 R S=>azh S fun S=>apB S v8 (fun S=>?_);exact⟨_,rfl,Sx.jV (fun _=>rfl) (R.own _ azJ) (aAq _) (aAv _),S.E⟩
theorem RD{w:World}{v:Value}{L:List dG}(h:aJ 5 dG.cells w v L):dP w 5 v L.length (L.flatMap dG.cells):=Sx.nM h (fun _=>rfl) fun _=>rfl
theorem RF{w:World}{v:Value}{L:List dG}(h:aJ 5 dG.cells w v L)(hl:L.length≤10000000) :
  Calls prog 151 #[v] w fun e w'=>∃v',e = .returned v'∧Cp 202 5 dG.cells w.heap.size v' L w'∧Ext w w':=by
 obtain⟨a,c,rfl⟩:=h.shape;cases a with
 | none =>
  obtain rfl:L=[]:=pV h;obtain rfl:=jX h;refine ay3 func151 ntmps151 fun S=>ay8 S fun S=>apB S (.sn) (fun S=>?_);exact⟨_,rfl,Hy _ _ _ _ _,S.E⟩
 | some p =>
  refine ay3 func151 ntmps151 fun S=>azg S (fun S=>?_);have R:=aAc S;refine ay7 S fun S=>Sx.newRow S R 5 0 202 5 [] fun ac u v5 E6 X7 R S=>azh S fun S=>ay7 S fun S=>Sx.app S R 0 7 rfl adJ (RD (h.below S.E)) (by show 0+L.length≤9223372036854775807; omega) (by show(0+L.length)*_≤140737488355328; omega) fun ac u v8 X9 R S=>azh S fun S=>apB S v8 (fun S=>?_);exact⟨_,rfl,Sx.jV (fun _=>rfl) (R.own _ azJ) (aAq _) (aAv _),S.E⟩
theorem V5{w:World}{v:Value}{L:List bG}(h:aJ 4 bG.cells w v L):dP w 4 v L.length (L.flatMap bG.cells):=Sx.nM h (fun _=>rfl) fun _=>rfl
theorem H8{w:World}{v:Value}{L:List bG}(h:aJ 4 bG.cells w v L)(hl:L.length≤10000000) :
  Calls prog 104 #[v] w fun e w'=>∃v',e = .returned v'∧Cp 178 4 bG.cells w.heap.size v' L w'∧Ext w w':=by
 obtain⟨a,c,rfl⟩:=h.shape;cases a with
 | none =>
  obtain rfl:L=[]:=pV h;obtain rfl:=jX h;refine ay3 func104 ntmps104 fun S=>ay8 S fun S=>apB S (.sn) (fun S=>?_);exact⟨_,rfl,Hy _ _ _ _ _,S.E⟩
 | some p =>
  refine ay3 func104 ntmps104 fun S=>azg S (fun S=>?_);have R:=aAc S;refine ay7 S fun S=>Sx.newRow S R 5 0 178 4 [] fun ac u v5 E6 X7 R S=>azh S fun S=>ay7 S fun S=>Sx.app S R 0 7 rfl aib (V5 (h.below S.E)) (by show 0+L.length≤9223372036854775807; omega) (by show(0+L.length)*_≤140737488355328; omega) fun ac u v8 X9 R S=>azh S fun S=>apB S v8 (fun S=>?_);exact⟨_,rfl,Sx.jV (fun _=>rfl) (R.own _ azJ) (aAq _) (aAv _),S.E⟩
theorem V6{w:World}{v:Value}{L:List Int}(h:aJ 1 (fun x=>[Ak x]) w v L):dP w 1 v L.length (L.flatMap (fun x=>[Ak x])):=Sx.nM h (fun _=>rfl) fun _=>rfl
theorem V7{w:World}{v:Value}{L:List Int}(h:aJ 1 (fun x=>[Ak x]) w v L)(hl:L.length≤10000000) :
  Calls prog 103 #[v] w fun e w'=>∃v',e = .returned v'∧Cp 3 1 (fun x=>[Ak x]) w.heap.size v' L w'∧Ext w w':=by
 obtain⟨a,c,rfl⟩:=h.shape;cases a with
 | none =>
  obtain rfl:L=[]:=pV h;obtain rfl:=jX h;refine ay3 func103 ntmps103 fun S=>ay8 S fun S=>apB S (.sn) (fun S=>?_);exact⟨_,rfl,Hy _ _ _ _ _,S.E⟩
 | some p =>
  refine ay3 func103 ntmps103 fun S=>azg S (fun S=>?_);have R:=aAc S;refine ay7 S fun S=>Sx.newRow S R 5 0 3 1 [] fun ac u v5 E6 X7 R S=>azh S fun S=>ay7 S fun S=>Sx.app S R 0 7 rfl aic (V6 (h.below S.E)) (by show 0+L.length≤9223372036854775807; omega) (by show(0+L.length)*_≤140737488355328; omega) fun ac u v8 X9 R S=>azh S fun S=>apB S v8 (fun S=>?_);exact⟨_,rfl,Sx.jV (fun _=>rfl) (R.own _ azJ) (aAq _) (aAv _),S.E⟩
theorem iM{w:World}{n:Bool}{v:Value}{l:List UInt32}(h:aJ 1 wI w v l)(hl:l.length≤10000000) :
  Calls prog 149 #[.agg #[.bool n,v]] w fun e w'=>∃a c,e = .returned (.agg #[.bool n,.slice a l.length c])∧Cp 119 1 wI w.heap.size (.slice a l.length c) l w'∧Ext w w':=by
 obtain⟨a0,c0,rfl⟩:=h.shape;refine ay3 func149 ntmps149 fun S=>ay2 S fun u b2 E3 hb4 S=>ay2 S (fun u b5 E6 hb7 S=>?_);have y0:=S.E.size;have z0:=(S.bx 0).1;refine Sx.jc S 5 [(7,fun v w1=>Cp 119 1 wI u.heap.size v l w1)] (fun r=>[.mem 1 0,.mem 1 1]) (fun x=>[x 7]) (fun x=>[(_,_,true,x 7,7)]) [[]] (fun x=>[(4,.bool n),(7,x 7)]) ⟨fun _ _ _ k h=>h.ext k,trivial⟩ (fun x=>⟨by intro u hC g F; exact(V3 (h.below (Ext.trans' S.E hC)) hl).mono fun e w2 h=>by obtain⟨y,rfl,hx,hb⟩:=h; exact⟨_,rfl,hx.mono hC.size,hb⟩,trivial⟩) (fun u x E9 F S=>?_);obtain⟨F7,-⟩:=F;obtain⟨a1,c1,e1⟩:=Cp.shape F7;rw[e1]at S F7;try rw[e1]
 refine ay4 S 0 rfl (fun u C10 S=>?_);have JD:=aU.ch F7 C10 (by omega);refine azf S 0 rfl (v := .agg #[.bool n,.slice a1 l.length c1]) (fun S=>?_);exact⟨a1,c1,rfl,Cp.mono JD (by omega),S.E⟩
theorem CW{base:Nat}{r:bI}{w:World}(h1:Cp 119 1 wI base r.s1 r.l1 w)(h2:Cp 119 1 wI base r.s2 r.l2 w):r.cp base w:=aAs (az1 h1 h2) fun _ h=>⟨⟨eF h.1.1,eF h.2.1⟩,h.1.2,h.2.2⟩
theorem aj6{base:Nat}{t:bF}{w:World}(h0:t.a.cp base w)(h1:t.b.cp base w)(h2:t.c.cp base w)(h3:t.d.cp base w)(h4:t.e.cp base w)(h5:t.f.cp base w):t.cp base w:=az1 h0 (az1 h1 (az1 h2 (az1 h3 (az1 h4 h5))))
theorem yL{w:World}{t:bF}(h:t.ok w)(hl:t.lim) :
  Calls prog 100 #[t.v] w fun e w'=>∃t':bF,e = .returned t'.v∧t'.cp w.heap.size w'∧t'.strip=t.strip∧Ext w w':=by
 obtain⟨h0,h1,h2,h3,h4,h5⟩:=h;obtain⟨hl0,hl1,hl2,hl3,hl4,hl5⟩:=agF hl;refine azD func100 ntmps100 fun ac S=>ay1 fun _ ig=>Sx.qG S 1 t.cells fun ac u b2 E3 hb4 S=>Sx.qG S 2 Sx.za fun ac u b5 E6 hb7 S=>ayZ<|ig _ _<|azL fun _ κ8=>ay1 fun _ κ9=>ayY S 6 [] [(5,.q b2 0),(6,.q b2 4),(7,.q b2 8),(8,.q b2 12),(9,.q b2 16),(10,.q b2 20)] fun S=>Sx.news S 11 6 [.q b2 0,.q b2 4,.q b2 8,.q b2 12,.q b2 16,.q b2 20] fun ac u b10 zo Ew S=>ayY S 2 [] [(12,.i 6),(13,.i 0)] fun S=>ayZ<|κ9 _ _<|aAp<|wp_loop_rounds 7 ?_;rw[aBH];refine ay1 fun _ VW=>ayY S 1 [] [(14,.bool true)] fun S=>ayZ<|VW _ _<|azL fun _ vw=>Sx.G7 S<|az6<|vw _ _<|azL fun _ G8=>aAp<|ay1 fun _ zB=>ayY S 3 [.mem 0 0] [(4,.q b2 0)] fun S=>ayZ (zB _ _ ?_);have y0:=S.E.size;have z1:=(S.bx 1).1;have z2:=(S.bx 2).1;refine Sx.hoist [0] 11<|Sx.rV S 11 [(22,fun v w1=>∃a c,v = .agg #[.bool t.a.n1,.slice a t.a.l1.length c]∧Cp 119 1 wI u.heap.size (.slice a t.a.l1.length c) t.a.l1 w1),(27,fun v w1=>∃a c,v = .agg #[.bool t.a.n2,.slice a t.a.l2.length c]∧Cp 119 1 wI u.heap.size (.slice a t.a.l2.length c) t.a.l2 w1)] (fun r=>[.mem 2 0,.mem 2 2]) (fun x=>[x 22,x 27]) (fun x=>[(_,_,true,x 22,22),(_,_,true,x 27,27)]) [[],[]] (fun x=>[(17,.q b2 0),(22,x 22),(27,x 27)]) ⟨fun _ _ _ k h=>by obtain⟨a,c,e,h⟩:=h; exact⟨a,c,e,h.ext k⟩,fun _ _ _ k h=>by obtain⟨a,c,e,h⟩:=h; exact⟨a,c,e,h.ext k⟩,trivial⟩ (fun x=>⟨by intro u hC g F; exact(iM (n:=t.a.n1) (v:=t.a.s1) (l:=t.a.l1) ((fE (f:=aW) h0.1).below (Ext.trans' S.E hC)) (hl0.1)).mono fun e w2 h=>by obtain⟨a,c,rfl,hx,hb⟩:=h; exact⟨_,rfl,⟨a,c,rfl,hx.mono hC.size⟩,hb⟩,by intro u hC g F; exact(iM (n:=t.a.n2) (v:=t.a.s2) (l:=t.a.l2) ((fE (f:=aW) h0.2).below (Ext.trans' S.E hC)) (hl0.2)).mono fun e w2 h=>by obtain⟨a,c,rfl,hx,hb⟩:=h; exact⟨_,rfl,⟨a,c,rfl,hx.mono hC.size⟩,hb⟩,trivial⟩) (fun ac u x yE F S=>?_);obtain⟨yM,F27,-⟩:=F;obtain⟨a01,c01,e01,yM⟩:=yM;rw[e01]at S;obtain⟨a02,c02,e02,F27⟩:=F27;rw[e02]at S;refine ayY S 2 [] [(28,.agg #[.bool t.a.n1,.slice a01 t.a.l1.length c01,.bool t.a.n2,.slice a02 t.a.l2.length c02]),(29,.q b2 0)] fun S=>azw S 2 (off:=0) (cs:=[.bool t.a.n1,.slice a01 t.a.l1.length c01,.bool t.a.n2,.slice a02 t.a.l2.length c02]) rfl (fun u C18 S=>?_);have oM:=aU.ch yM C18 (by omega);have Cj:=aU.ch F27 C18 (by omega);have G21:=(CW (r:=⟨t.a.n1,a01,c01,t.a.l1,t.a.n2,a02,c02,t.a.l2⟩) oM Cj);refine ayZ<|G8 _ _<|aA2<|ayY S 2 [] [(13,.i 1)] fun S=>ayZ ?_;show Code.rounds _ _ _ 6 _ _;rw[aBH];refine ay1 fun _ aqY=>ayY S 1 [] [(14,.bool true)] fun S=>ayZ<|aqY _ _<|azL fun _ adL=>Sx.G7 S<|az6<|adL _ _<|azL fun _ V8=>aAp<|ay1 fun _ aqZ=>ayY S 3 [.mem 0 1] [(4,.q b2 4)] fun S=>ayZ (aqZ _ _ ?_);have y1:=S.E.size;have z1:=(S.bx 1).1;have z2:=(S.bx 2).1;refine Sx.hoist [0] 11<|Sx.rV S 11 [(22,fun v w1=>∃a c,v = .agg #[.bool t.b.n1,.slice a t.b.l1.length c]∧Cp 119 1 wI u.heap.size (.slice a t.b.l1.length c) t.b.l1 w1),(27,fun v w1=>∃a c,v = .agg #[.bool t.b.n2,.slice a t.b.l2.length c]∧Cp 119 1 wI u.heap.size (.slice a t.b.l2.length c) t.b.l2 w1)] (fun r=>[.mem 2 4,.mem 2 6]) (fun x=>[x 22,x 27]) (fun x=>[(_,_,true,x 22,22),(_,_,true,x 27,27)]) [[],[]] (fun x=>[(17,.q b2 4),(22,x 22),(27,x 27)]) ⟨fun _ _ _ k h=>by obtain⟨a,c,e,h⟩:=h; exact⟨a,c,e,h.ext k⟩,fun _ _ _ k h=>by obtain⟨a,c,e,h⟩:=h; exact⟨a,c,e,h.ext k⟩,trivial⟩ (fun x=>⟨by intro u hC g F; exact(iM (n:=t.b.n1) (v:=t.b.s1) (l:=t.b.l1) ((fE (f:=aW) h1.1).below (Ext.trans' S.E hC)) (hl1.1)).mono fun e w2 h=>by obtain⟨a,c,rfl,hx,hb⟩:=h; exact⟨_,rfl,⟨a,c,rfl,hx.mono hC.size⟩,hb⟩,by intro u hC g F; exact(iM (n:=t.b.n2) (v:=t.b.s2) (l:=t.b.l2) ((fE (f:=aW) h1.2).below (Ext.trans' S.E hC)) (hl1.2)).mono fun e w2 h=>by obtain⟨a,c,rfl,hx,hb⟩:=h; exact⟨_,rfl,⟨a,c,rfl,hx.mono hC.size⟩,hb⟩,trivial⟩) (fun ac u x Un F S=>?_);obtain⟨yM,F27,-⟩:=F;obtain⟨a11,c11,e11,yM⟩:=yM;rw[e11]at S;obtain⟨a12,c12,e12,F27⟩:=F27;rw[e12]at S;refine ayY S 2 [] [(28,.agg #[.bool t.b.n1,.slice a11 t.b.l1.length c11,.bool t.b.n2,.slice a12 t.b.l2.length c12]),(29,.q b2 4)] fun S=>azw S 2 (off:=4) (cs:=[.bool t.b.n1,.slice a11 t.b.l1.length c11,.bool t.b.n2,.slice a12 t.b.l2.length c12]) rfl (fun u C27 S=>?_);have CQ:=aU.ch (G21.ext Un) C27 (by omega);have sU:=aU.ch yM C27 (by omega);have adM:=aU.ch F27 C27 (by omega);have G31:=(CW (r:=⟨t.b.n1,a11,c11,t.b.l1,t.b.n2,a12,c12,t.b.l2⟩) sU adM);refine ayZ<|V8 _ _<|aA2<|ayY S 2 [] [(13,.i 2)] fun S=>ayZ ?_;show Code.rounds _ _ _ 5 _ _;rw[aBH];refine ay1 fun _ aq0=>ayY S 1 [] [(14,.bool true)] fun S=>ayZ<|aq0 _ _<|azL fun _ Oh=>Sx.G7 S<|az6<|Oh _ _<|azL fun _ VX=>aAp<|ay1 fun _ VY=>ayY S 3 [.mem 0 2] [(4,.q b2 8)] fun S=>ayZ (VY _ _ ?_);have y2:=S.E.size;have z1:=(S.bx 1).1;have z2:=(S.bx 2).1;refine Sx.hoist [0] 11<|Sx.rV S 11 [(22,fun v w1=>∃a c,v = .agg #[.bool t.c.n1,.slice a t.c.l1.length c]∧Cp 119 1 wI u.heap.size (.slice a t.c.l1.length c) t.c.l1 w1),(27,fun v w1=>∃a c,v = .agg #[.bool t.c.n2,.slice a t.c.l2.length c]∧Cp 119 1 wI u.heap.size (.slice a t.c.l2.length c) t.c.l2 w1)] (fun r=>[.mem 2 8,.mem 2 10]) (fun x=>[x 22,x 27]) (fun x=>[(_,_,true,x 22,22),(_,_,true,x 27,27)]) [[],[]] (fun x=>[(17,.q b2 8),(22,x 22),(27,x 27)]) ⟨fun _ _ _ k h=>by obtain⟨a,c,e,h⟩:=h; exact⟨a,c,e,h.ext k⟩,fun _ _ _ k h=>by obtain⟨a,c,e,h⟩:=h; exact⟨a,c,e,h.ext k⟩,trivial⟩ (fun x=>⟨by intro u hC g F; exact(iM (n:=t.c.n1) (v:=t.c.s1) (l:=t.c.l1) ((fE (f:=aW) h2.1).below (Ext.trans' S.E hC)) (hl2.1)).mono fun e w2 h=>by obtain⟨a,c,rfl,hx,hb⟩:=h; exact⟨_,rfl,⟨a,c,rfl,hx.mono hC.size⟩,hb⟩,by intro u hC g F; exact(iM (n:=t.c.n2) (v:=t.c.s2) (l:=t.c.l2) ((fE (f:=aW) h2.2).below (Ext.trans' S.E hC)) (hl2.2)).mono fun e w2 h=>by obtain⟨a,c,rfl,hx,hb⟩:=h; exact⟨_,rfl,⟨a,c,rfl,hx.mono hC.size⟩,hb⟩,trivial⟩) (fun ac u x Uw F S=>?_);obtain⟨yM,F27,-⟩:=F;obtain⟨a21,c21,e21,yM⟩:=yM;rw[e21]at S;obtain⟨a22,Uo,e22,F27⟩:=F27;rw[e22]at S;refine ayY S 2 [] [(28,.agg #[.bool t.c.n1,.slice a21 t.c.l1.length c21,.bool t.c.n2,.slice a22 t.c.l2.length Uo]),(29,.q b2 8)] fun S=>azw S 2 (off:=8) (cs:=[.bool t.c.n1,.slice a21 t.c.l1.length c21,.bool t.c.n2,.slice a22 t.c.l2.length Uo]) rfl (fun u C37 S=>?_);have zf:=aU.ch (CQ.ext Uw) C37 (by omega);have CB:=aU.ch (G31.ext Uw) C37 (by omega);have GI:=aU.ch yM C37 (by omega);have zi:=aU.ch F27 C37 (by omega);have G42:=(CW (r:=⟨t.c.n1,a21,c21,t.c.l1,t.c.n2,a22,Uo,t.c.l2⟩) GI zi);refine ayZ<|VX _ _<|aA2<|ayY S 2 [] [(13,.i 3)] fun S=>ayZ ?_;show Code.rounds _ _ _ 4 _ _;rw[aBH];refine ay1 fun _ aq1=>ayY S 1 [] [(14,.bool true)] fun S=>ayZ<|aq1 _ _<|azL fun _ agD=>Sx.G7 S<|az6<|agD _ _<|azL fun _ adH=>aAp<|ay1 fun _ ajY=>ayY S 3 [.mem 0 3] [(4,.q b2 12)] fun S=>ayZ (ajY _ _ ?_);have y3:=S.E.size;have z1:=(S.bx 1).1;have z2:=(S.bx 2).1;refine Sx.hoist [0] 11<|Sx.rV S 11 [(22,fun v w1=>∃a c,v = .agg #[.bool t.d.n1,.slice a t.d.l1.length c]∧Cp 119 1 wI u.heap.size (.slice a t.d.l1.length c) t.d.l1 w1),(27,fun v w1=>∃a c,v = .agg #[.bool t.d.n2,.slice a t.d.l2.length c]∧Cp 119 1 wI u.heap.size (.slice a t.d.l2.length c) t.d.l2 w1)] (fun r=>[.mem 2 12,.mem 2 14]) (fun x=>[x 22,x 27]) (fun x=>[(_,_,true,x 22,22),(_,_,true,x 27,27)]) [[],[]] (fun x=>[(17,.q b2 12),(22,x 22),(27,x 27)]) ⟨fun _ _ _ k h=>by obtain⟨a,c,e,h⟩:=h; exact⟨a,c,e,h.ext k⟩,fun _ _ _ k h=>by obtain⟨a,c,e,h⟩:=h; exact⟨a,c,e,h.ext k⟩,trivial⟩ (fun x=>⟨by intro u hC g F; exact(iM (n:=t.d.n1) (v:=t.d.s1) (l:=t.d.l1) ((fE (f:=aW) h3.1).below (Ext.trans' S.E hC)) (hl3.1)).mono fun e w2 h=>by obtain⟨a,c,rfl,hx,hb⟩:=h; exact⟨_,rfl,⟨a,c,rfl,hx.mono hC.size⟩,hb⟩,by intro u hC g F; exact(iM (n:=t.d.n2) (v:=t.d.s2) (l:=t.d.l2) ((fE (f:=aW) h3.2).below (Ext.trans' S.E hC)) (hl3.2)).mono fun e w2 h=>by obtain⟨a,c,rfl,hx,hb⟩:=h; exact⟨_,rfl,⟨a,c,rfl,hx.mono hC.size⟩,hb⟩,trivial⟩) (fun ac u x E47 F S=>?_);obtain⟨yM,F27,-⟩:=F;obtain⟨a31,c31,e31,yM⟩:=yM;rw[e31]at S;obtain⟨a32,c32,e32,F27⟩:=F27;rw[e32]at S;refine ayY S 2 [] [(28,.agg #[.bool t.d.n1,.slice a31 t.d.l1.length c31,.bool t.d.n2,.slice a32 t.d.l2.length c32]),(29,.q b2 12)] fun S=>azw S 2 (off:=12) (cs:=[.bool t.d.n1,.slice a31 t.d.l1.length c31,.bool t.d.n2,.slice a32 t.d.l2.length c32]) rfl (fun u C48 S=>?_);have RG:=aU.ch (zf.ext E47) C48 (by omega);have VD:=aU.ch (CB.ext E47) C48 (by omega);have GL:=aU.ch (G42.ext E47) C48 (by omega);have Ez:=aU.ch yM C48 (by omega);have EC:=aU.ch F27 C48 (by omega);have G54:=(CW (r:=⟨t.d.n1,a31,c31,t.d.l1,t.d.n2,a32,c32,t.d.l2⟩) Ez EC);refine ayZ<|adH _ _<|aA2<|ayY S 2 [] [(13,.i 4)] fun S=>ayZ ?_;show Code.rounds _ _ _ 3 _ _;rw[aBH];refine ay1 fun _ aj0=>ayY S 1 [] [(14,.bool true)] fun S=>ayZ<|aj0 _ _<|azL fun _ aq2=>Sx.G7 S<|az6<|aq2 _ _<|azL fun _ aq3=>aAp<|ay1 fun _ aq4=>ayY S 3 [.mem 0 4] [(4,.q b2 16)] fun S=>ayZ (aq4 _ _ ?_);have y4:=S.E.size;have z1:=(S.bx 1).1;have z2:=(S.bx 2).1;refine Sx.hoist [0] 11<|Sx.rV S 11 [(22,fun v w1=>∃a c,v = .agg #[.bool t.e.n1,.slice a t.e.l1.length c]∧Cp 119 1 wI u.heap.size (.slice a t.e.l1.length c) t.e.l1 w1),(27,fun v w1=>∃a c,v = .agg #[.bool t.e.n2,.slice a t.e.l2.length c]∧Cp 119 1 wI u.heap.size (.slice a t.e.l2.length c) t.e.l2 w1)] (fun r=>[.mem 2 16,.mem 2 18]) (fun x=>[x 22,x 27]) (fun x=>[(_,_,true,x 22,22),(_,_,true,x 27,27)]) [[],[]] (fun x=>[(17,.q b2 16),(22,x 22),(27,x 27)]) ⟨fun _ _ _ k h=>by obtain⟨a,c,e,h⟩:=h; exact⟨a,c,e,h.ext k⟩,fun _ _ _ k h=>by obtain⟨a,c,e,h⟩:=h; exact⟨a,c,e,h.ext k⟩,trivial⟩ (fun x=>⟨by intro u hC g F; exact(iM (n:=t.e.n1) (v:=t.e.s1) (l:=t.e.l1) ((fE (f:=aW) h4.1).below (Ext.trans' S.E hC)) (hl4.1)).mono fun e w2 h=>by obtain⟨a,c,rfl,hx,hb⟩:=h; exact⟨_,rfl,⟨a,c,rfl,hx.mono hC.size⟩,hb⟩,by intro u hC g F; exact(iM (n:=t.e.n2) (v:=t.e.s2) (l:=t.e.l2) ((fE (f:=aW) h4.2).below (Ext.trans' S.E hC)) (hl4.2)).mono fun e w2 h=>by obtain⟨a,c,rfl,hx,hb⟩:=h; exact⟨_,rfl,⟨a,c,rfl,hx.mono hC.size⟩,hb⟩,trivial⟩) (fun ac u x Z5 F S=>?_);obtain⟨yM,F27,-⟩:=F;obtain⟨a41,c41,e41,yM⟩:=yM;rw[e41]at S;obtain⟨a42,c42,e42,F27⟩:=F27;rw[e42]at S;refine ayY S 2 [] [(28,.agg #[.bool t.e.n1,.slice a41 t.e.l1.length c41,.bool t.e.n2,.slice a42 t.e.l2.length c42]),(29,.q b2 16)] fun S=>azw S 2 (off:=16) (cs:=[.bool t.e.n1,.slice a41 t.e.l1.length c41,.bool t.e.n2,.slice a42 t.e.l2.length c42]) rfl (fun u Ux S=>?_);have Bv:=aU.ch (RG.ext Z5) Ux (by omega);have Bf:=aU.ch (VD.ext Z5) Ux (by omega);have wC:=aU.ch (GL.ext Z5) Ux (by omega);have aaB:=aU.ch (G54.ext Z5) Ux (by omega);have RH:=aU.ch yM Ux (by omega);have VE:=aU.ch F27 Ux (by omega);have G67:=(CW (r:=⟨t.e.n1,a41,c41,t.e.l1,t.e.n2,a42,c42,t.e.l2⟩) RH VE);refine ayZ<|aq3 _ _<|aA2<|ayY S 2 [] [(13,.i 5)] fun S=>ayZ ?_;show Code.rounds _ _ _ 2 _ _;rw[aBH];refine ay1 fun _ aq5=>ayY S 1 [] [(14,.bool true)] fun S=>ayZ<|aq5 _ _<|azL fun _ aj7=>Sx.G7 S<|az6<|aj7 _ _<|azL fun _ aq6=>aAp<|ay1 fun _ aq7=>ayY S 3 [.mem 0 5] [(4,.q b2 20)] fun S=>ayZ (aq7 _ _ ?_);have y5:=S.E.size;have z1:=(S.bx 1).1;have z2:=(S.bx 2).1;refine Sx.hoist [0] 11<|Sx.rV S 11 [(22,fun v w1=>∃a c,v = .agg #[.bool t.f.n1,.slice a t.f.l1.length c]∧Cp 119 1 wI u.heap.size (.slice a t.f.l1.length c) t.f.l1 w1),(27,fun v w1=>∃a c,v = .agg #[.bool t.f.n2,.slice a t.f.l2.length c]∧Cp 119 1 wI u.heap.size (.slice a t.f.l2.length c) t.f.l2 w1)] (fun r=>[.mem 2 20,.mem 2 22]) (fun x=>[x 22,x 27]) (fun x=>[(_,_,true,x 22,22),(_,_,true,x 27,27)]) [[],[]] (fun x=>[(17,.q b2 20),(22,x 22),(27,x 27)]) ⟨fun _ _ _ k h=>by obtain⟨a,c,e,h⟩:=h; exact⟨a,c,e,h.ext k⟩,fun _ _ _ k h=>by obtain⟨a,c,e,h⟩:=h; exact⟨a,c,e,h.ext k⟩,trivial⟩ (fun x=>⟨by intro u hC g F; exact(iM (n:=t.f.n1) (v:=t.f.s1) (l:=t.f.l1) ((fE (f:=aW) h5.1).below (Ext.trans' S.E hC)) (hl5.1)).mono fun e w2 h=>by obtain⟨a,c,rfl,hx,hb⟩:=h; exact⟨_,rfl,⟨a,c,rfl,hx.mono hC.size⟩,hb⟩,by intro u hC g F; exact(iM (n:=t.f.n2) (v:=t.f.s2) (l:=t.f.l2) ((fE (f:=aW) h5.2).below (Ext.trans' S.E hC)) (hl5.2)).mono fun e w2 h=>by obtain⟨a,c,rfl,hx,hb⟩:=h; exact⟨_,rfl,⟨a,c,rfl,hx.mono hC.size⟩,hb⟩,trivial⟩) (fun ac u x E72 F S=>?_);obtain⟨yM,F27,-⟩:=F;obtain⟨a51,c51,e51,yM⟩:=yM;rw[e51]at S;obtain⟨a52,c52,e52,F27⟩:=F27;rw[e52]at S;refine ayY S 2 [] [(28,.agg #[.bool t.f.n1,.slice a51 t.f.l1.length c51,.bool t.f.n2,.slice a52 t.f.l2.length c52]),(29,.q b2 20)] fun S=>azw S 2 (off:=20) (cs:=[.bool t.f.n1,.slice a51 t.f.l1.length c51,.bool t.f.n2,.slice a52 t.f.l2.length c52]) rfl (fun u C73 S=>?_);have V9:=aU.ch (Bv.ext E72) C73 (by omega);have adN:=aU.ch (Bf.ext E72) C73 (by omega);have Oi:=aU.ch (wC.ext E72) C73 (by omega);have Oj:=aU.ch (aaB.ext E72) C73 (by omega);have Ol:=aU.ch (G67.ext E72) C73 (by omega);have adO:=aU.ch yM C73 (by omega);have aq8:=aU.ch F27 C73 (by omega);have G81:=(CW (r:=⟨t.f.n1,a51,c51,t.f.l1,t.f.n2,a52,c52,t.f.l2⟩) adO aq8);refine ayZ<|aq6 _ _<|aA2<|ayY S 2 [] [(13,.i 6)] fun S=>ayZ ?_;show Code.rounds _ _ _ 1 _ _;rw[aBH];refine ay1 fun _ aq9=>ayY S 1 [] [(14,.z)] fun S=>ayZ<|aq9 _ _<|azL fun _ axp=>Sx.DR S<|aAJ<|κ8 _ _<|ay1 fun _ ara=>ayY S 1 [.mem 2 0] [(31,.agg #[.bool t.a.n1,.slice a01 t.a.l1.length c01,.bool t.a.n2,.slice a02 t.a.l2.length c02,.bool t.b.n1,.slice a11 t.b.l1.length c11,.bool t.b.n2,.slice a12 t.b.l2.length c12,.bool t.c.n1,.slice a21 t.c.l1.length c21,.bool t.c.n2,.slice a22 t.c.l2.length Uo,.bool t.d.n1,.slice a31 t.d.l1.length c31,.bool t.d.n2,.slice a32 t.d.l2.length c32,.bool t.e.n1,.slice a41 t.e.l1.length c41,.bool t.e.n2,.slice a42 t.e.l2.length c42,.bool t.f.n1,.slice a51 t.f.l1.length c51,.bool t.f.n2,.slice a52 t.f.l2.length c52])] fun S=>azw S 1 (off:=0) (cs:=[.bool t.a.n1,.slice a01 t.a.l1.length c01,.bool t.a.n2,.slice a02 t.a.l2.length c02,.bool t.b.n1,.slice a11 t.b.l1.length c11,.bool t.b.n2,.slice a12 t.b.l2.length c12,.bool t.c.n1,.slice a21 t.c.l1.length c21,.bool t.c.n2,.slice a22 t.c.l2.length Uo,.bool t.d.n1,.slice a31 t.d.l1.length c31,.bool t.d.n2,.slice a32 t.d.l2.length c32,.bool t.e.n1,.slice a41 t.e.l1.length c41,.bool t.e.n2,.slice a42 t.e.l2.length c42,.bool t.f.n1,.slice a51 t.f.l1.length c51,.bool t.f.n2,.slice a52 t.f.l2.length c52]) rfl (fun u C85 S=>?_);have QJ:=aU.ch V9 C85 (by omega);have Vg:=aU.ch adN C85 (by omega);have Vh:=aU.ch Oi C85 (by omega);have acY:=aU.ch Oj C85 (by omega);have arb:=aU.ch Ol C85 (by omega);have aj8:=aU.ch G81 C85 (by omega);refine ayZ<|ara _ _<|Sx.rtc S 1 results100 rfl (v := .agg #[.bool t.a.n1,.slice a01 t.a.l1.length c01,.bool t.a.n2,.slice a02 t.a.l2.length c02,.bool t.b.n1,.slice a11 t.b.l1.length c11,.bool t.b.n2,.slice a12 t.b.l2.length c12,.bool t.c.n1,.slice a21 t.c.l1.length c21,.bool t.c.n2,.slice a22 t.c.l2.length Uo,.bool t.d.n1,.slice a31 t.d.l1.length c31,.bool t.d.n2,.slice a32 t.d.l2.length c32,.bool t.e.n1,.slice a41 t.e.l1.length c41,.bool t.e.n2,.slice a42 t.e.l2.length c42,.bool t.f.n1,.slice a51 t.f.l1.length c51,.bool t.f.n2,.slice a52 t.f.l2.length c52]) ?_;exact⟨⟨⟨t.a.n1,a01,c01,t.a.l1,t.a.n2,a02,c02,t.a.l2⟩,⟨t.b.n1,a11,c11,t.b.l1,t.b.n2,a12,c12,t.b.l2⟩,⟨t.c.n1,a21,c21,t.c.l1,t.c.n2,a22,Uo,t.c.l2⟩,⟨t.d.n1,a31,c31,t.d.l1,t.d.n2,a32,c32,t.d.l2⟩,⟨t.e.n1,a41,c41,t.e.l1,t.e.n2,a42,c42,t.e.l2⟩,⟨t.f.n1,a51,c51,t.f.l1,t.f.n2,a52,c52,t.f.l2⟩⟩,rfl,aj6 (CV QJ (by omega)) (CV Vg (by omega)) (CV Vh (by omega)) (CV acY (by omega)) (CV arb (by omega)) (CV aj8 (by omega)),rfl,S.E⟩
end
end Go.Proofs.YtodpgjjgaddkeaaGreatDoor
