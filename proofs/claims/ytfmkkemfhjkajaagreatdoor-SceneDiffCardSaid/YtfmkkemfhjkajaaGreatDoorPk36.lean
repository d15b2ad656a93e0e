/- Package scene: what it asks of scenes. Package scene: -/
import Derived.Test.YtfmkkemfhjkajaaGreatDoorHoist2
import Derived.Test.YtfmkkemfhjkajaaGreatDoorPk35
set_option linter.unusedVariables false
namespace Go.Proofs.YtfmkkemfhjkajaaGreatDoor
open _root_.Go.Proofs.Tryz
section
set_option maxHeartbeats 3200000
set_option maxRecDepth 100000
open Go.RowKit
variable{α:Type}{K:Nat}
abbrev keys (l:List aj):List aF:=l.map aj.key
theorem jR{l:List aj}{i:Nat}(h:i<l.length):l7 (keys l) i=l[i].depth:=by
 rw[qH (by simpa using h)]; simp[keys,aj.key]
theorem UU{z:Int}(h:0≤z):∃i:Nat,z=(i:Int):=⟨z.toNat,by omega⟩
theorem QI{l:List aj}{id:Int}{k:Nat}(hk:k<l.length)(h:l[k].id=id)(hR:∀(j:Nat) (hj:j<l.length),j<k→l[j].id≠id):jL (keys l) id=(k:Int):=by
 have:jD (keys l) id=some k:=by
  unfold jD;rw[List.findIdx?_eq_some_iff_getElem];refine⟨by simpa using hk,by simpa[keys,aj.key]using h,fun j hj=>?_⟩;have:=hR j (by omega) hj;simpa[keys,aj.key]using this
 unfold jL; rw[this]
theorem Iw{l:List aj}{id:Int}(hR:∀(j:Nat) (hj:j<l.length),l[j].id≠id):jL (keys l) id = -1:=by
 have:jD (keys l) id=none:=by
  unfold jD;rw[List.findIdx?_eq_none_iff];intro κ hκ;obtain⟨n,hn,rfl⟩:=an4.1 hκ;obtain⟨j,hj,rfl⟩:=List.getElem_of_mem hn;simpa[aj.key]using hR j hj
 unfold jL; rw[this]
theorem KR{l:List aj}{id:Int}{k:Nat}(hk:k<l.length)(hR:∀(j:Nat) (hj:j<l.length),j<k→l[j].id≠id)(h:l[k].id≠id):∀(j:Nat) (hj:j<l.length),j<k+1→l[j].id≠id:=fun j hj h1=>by
 by_cases e:j=k
 ·subst e; exact h
 exact hR j hj (by omega)
theorem agD{l:List aj}{i j:Nat}(hj:j<l.length)(hi:i<l.length)(h:¬l[j].depth=l[i].depth-1):oH (l7 (keys l)) (l7 (keys l) i-1) (j+1)=oH (l7 (keys l)) (l7 (keys l) i-1) j:=by
 conv=>lhs; unfold oH
 rw[anq (by rw[jR hj,jR hi]; exact h)]
theorem ad8{l:List aj}{i j:Nat}(hj:j<l.length)(hi:i<l.length)(h:l[j].depth=l[i].depth-1):oH (l7 (keys l)) (l7 (keys l) i-1) (j+1)=(j:Int):=by
 unfold oH;rw[anv (by rw[jR hj,jR hi]; exact h)]
theorem QJ{s:aQ}(h:((((decide (s.w<1))||(decide (256<s.w)))||(decide (s.h<1)))||(decide (256<s.h)))=true):s.chk=(6,0):=by
 unfold aQ.chk;rw[anv (by simpa[or_assoc]using h)]
theorem oJ{s:aQ}(h:((((decide (s.w<1))||(decide (256<s.w)))||(decide (s.h<1)))||(decide (256<s.h)))=false):s.chk=if 64<s.ns.length then (5,64)else jl [] s.ns:=by
 unfold aQ.chk;rw[anq (by simpa[or_assoc,and_assoc]using h)]
theorem Iy{l:List aF}{k:Nat}(hk:k<l.length):jl (l.take k) (l.drop k)=if fO (l.take k) l[k]=0 then jl (l.take (k+1)) (l.drop (k+1))else (fO (l.take k) l[k],(k:Int)):=by
 rw[aoo hk,an2 hk];conv=>lhs; unfold jl
 rw[aoT,aoA (by omega)]
theorem DY{l:List aj}{k:Nat}(hk:k<l.length){x:aj}(hx:l[k]=x):(keys l)[k]'(by simpa using hk)=x.key:=by simp[keys,hx]
theorem ND(l:List aj)(k:Nat)(id:Int):((l.take k).map aj.id).any (· == id)=((keys l).take k).any fun κ=>κ.id==id:=by
 rw[←apl,List.any_map,List.any_map]; rfl
structure wI (l:List aj) (k:Nat) (m:Int):Prop where
 all:jl [] (keys l)=jl ((keys l).take k) ((keys l).drop k)
 room:m=pR ((keys l).take k)
theorem wI.start(l:List aj):wI l 0 0:=⟨by simp,rfl⟩
theorem wI.bad{l:List aj}{k:Nat}{m n:Int}{x:aj}(h:wI l k m)(hk:k<l.length)(hx:l[k]=x)(hw:fO ((keys l).take k) x.key=n)(hn:n≠0):jl [] (keys l)=(n,(k:Int)):=by
 rw[h.all,Iy (by simpa using hk),DY hk hx,hw,anq hn]
theorem wI.next{l:List aj}{k:Nat}{m m':Int}{x:aj}(h:wI l k m)(hk:k<l.length)(hx:l[k]=x)(hw:fO ((keys l).take k) x.key=0)(hm:m'=if x.kind=1 then x.depth+1 else x.depth):wI l (k+1) m':=by
 have hk':k<(keys l).length:=by simpa using hk
 refine⟨?_,?_⟩
 ·rw[h.all,Iy hk',DY hk hx,hw,anv rfl]
 rw[an2 hk',Ir,DY hk hx,hm]; rfl
theorem wI.done{l:List aj}{k:Nat}{m:Int}(h:wI l k m)(hk:l.length≤k):jl [] (keys l)=(0,0):=by
 rw[h.all,aon (by simpa using hk)]; rfl
theorem Iz{pre:List aF}{x:aj}(h:x.checkN≠0):fO pre x.key=x.checkN:=by rw[←pO]at h ⊢; exact Io h
theorem KT{pre:List aF}{x:aj}(h:x.checkN=0)(h2:pre.any (fun κ=>κ.id==x.id)=true):fO pre x.key=7:=by
 unfold fO;rw[pO,h,anq (by simp),anv (show(pre.any fun κ=>κ.id==x.key.id)=true from h2)]
theorem EG{pre:List aF}{x:aj}(h:x.checkN=0)(h2:pre.any (fun κ=>κ.id==x.id)=false)(h3:pR pre<x.depth):fO pre x.key=17:=by
 unfold fO;rw[pO,h,anq (by simp),anq (by rw[show x.key.id=x.id from rfl,h2]; simp),anq (by show ¬x.depth≤_; omega)]
theorem IB{pre:List aF}{x:aj}(h:x.checkN=0)(h2:pre.any (fun κ=>κ.id==x.id)=false)(h3:x.depth≤pR pre):fO pre x.key=0:=by
 unfold fO;rw[pO,h,anq (by simp),anq (by rw[show x.key.id=x.id from rfl,h2]; simp),anv (by exact h3)]
theorem Y1(w:World):(zeroValue 4).run prog w = .ok (.bool false) w:=Sx.rW (by kernel_rfl)
theorem y7{w:World}{v:Value}{l:List aj}(h:aN 47 aj.cells w v l){i:Nat}(hi:i<l.length){z:Int}(hz:z=(i:Int)){r:Nat}(hr:r=dR (keys l) i) :
  Calls prog 58 #[v,.i z] w fun e w'=>e = .returned (.i r)∧Ext w w':=by
 subst hz hr;obtain⟨a,cap,rfl⟩:=h.shape;have hmax:l.length≤9223372036854775807:=h.len;refine am0 func58 ntmps58 fun ac S=>amW fun _ aO=>adr S 1 [] [(4,.i 0)] fun S=>amV<|aO _ _<|amW fun _ eG=>adr S 3 [.re 7 (.i (IntKind.i64.wrap ((i:Int)+1))) (.i (i+1:Nat))] [(5,.i (i+1:Nat))] (hk:=⟨am8 (by omega),trivial⟩) fun S=>amV<|eG _ _<|anj fun _ gY=>anp ?_;refine anP (ι:=Nat) (fun p a' w'=>(i<p∧p≤l.length∧∀j,i<j→j<p→l7 (keys l) i<l7 (keys l) j)∧Sx.St w a' w' 28 [(0,.slice a l.length cap),(1,.i i),(4,.i 0),(5,.i p)] [] []) (fun p=>l.length-p) ((i+1)) ⟨⟨by omega,by omega,fun j h1 h2=>by omega⟩,S.sn⟩ ?_;rintro k ac u hI;try dsimp only at hI
 obtain⟨hR,S⟩:=hI;refine anj fun _ lQ=>anj (fun _ dA=>?_);rcases aoj k l.length with hk | hk
 ·have ek:decide ((k:Int)<(l.length:Int))=true:=aoi (by omega);obtain⟨b1,o1,c1,hv1,hb1,hr1⟩:=Vp.lM h (fun _=>rfl) i hi;simp only[anY,true_and]at hv1;obtain⟨rfl,rfl⟩:=hv1;obtain⟨b2,o2,c2,hv2,hb2,hr2⟩:=Vp.lM h (fun _=>rfl) k hk;simp only[anY,anx,aoV,true_and,and_true]at hv2;obtain⟨⟨rfl,rfl⟩,rfl⟩:=hv2;obtain⟨x,hx⟩:∃z,l[i]=z:=⟨_,rfl⟩;rw[hx]at hr1;obtain⟨y,hy⟩:∃z,l[k]=z:=⟨_,rfl⟩;rw[hy]at hr2;have S:=S.view0 hb1 hr1;have S:=S.view0 hb2 hr2;refine am6 S 17 [.re 11 (.bool ((k:Int)<(l.length:Int))) (.bool true),.idx k l.length,.mem 0 2,.idx i l.length,.mem 1 2] [] [(24,.bool (x.depth<y.depth))] trivial (hk:=⟨(anu Value.bool ek),hk,hi,trivial⟩) fun ac u E6 S=>amV (dA _ _ ?_);refine amX S (fun kP=>?_) (fun kP=>?_)
  ·refine ano<|lQ _ _<|anp<|ant<|adr S 3 [.re 26 (.i (IntKind.i64.wrap ((k:Int)+1))) (.i (k+1:Nat))] [(5,.i (k+1:Nat))] (hk:=⟨am8 (by omega),trivial⟩) fun S=>amV ?_;show ∃i',_∧_;exact⟨(k+1),⟨⟨by omega,by omega,fun j h1 h2=>by
    by_cases e:j=k
    ·subst e; rw[jR hi,jR hk,hx,hy]; have:=anC kP; omega
    exact hR.2.2 j h1 (by omega)⟩,S.sn⟩,by show l.length-(k+1)<l.length-k; omega⟩
  refine anB<|gY _ _<|amW fun _ dJ=>adr S 2 [] [(4,.i k)] fun S=>amV<|dJ _ _<|amZ S results58 ?_;have he:dR (keys l) i=k:=by
   rw[CV (by simpa using hi)];exact Nv (by simpa using hi) hR.1 (by simpa using hR.2.1) hR.2.2 (fun hk=>by rw[jR hi,jR (by simpa using hk),hx,hy]; have:=anE kP; omega)
  exact⟨by rw[he],S.E⟩
 have ek:decide ((k:Int)<(l.length:Int))=false:=aow (by omega);refine am6 S 17 [.re 11 (.bool ((k:Int)<(l.length:Int))) (.bool false),.dead 13 (.bool false),.dead 14 (.bool false),.dead 15 (.bool false),.dead 16 (.bool false),.dead 17 (.bool false),.dead 18 (.bool false),.dead 19 (.bool false),.dead 20 (.bool false),.dead 21 (.bool false),.dead 22 (.bool false),.dead 23 (.bool false)] [] [(24,.bool false)] trivial (hk:=⟨(anu Value.bool ek),trivial⟩) fun ac u E9 S=>amV<|dA _ _<|ane S<|anB<|gY _ _<|amW fun _ fE=>adr S 2 [] [(4,.i k)] fun S=>amV<|fE _ _<|amZ S results58 ?_;have he:dR (keys l) i=k:=by
  rw[CV (by simpa using hi)];exact Nv (by simpa using hi) hR.1 (by simpa using hR.2.1) hR.2.2 (fun hk2=>by simp at hk2; omega)
 exact⟨by rw[he],S.E⟩
theorem Bh{w:World}{v:Value}{l:List aj}(h:aN 47 aj.cells w v l){id:Int} :
  Calls prog 59 #[v,.i id] w fun e w'=>e = .returned (.i (jL (keys l) id))∧Ext w w':=by
 obtain⟨a,cap,rfl⟩:=h.shape;have hmax:l.length≤9223372036854775807:=h.len;refine am0 func59 ntmps59 fun ac S=>amW fun _ aO=>adr S 1 [] [(4,.i 0)] fun S=>amV<|aO _ _<|anj fun _ eG=>amW fun _ gY=>adr S 3 [] [(7,.slice a l.length cap),(8,.i l.length),(9,.i 0)] fun S=>amV<|gY _ _<|anp ?_;refine anP (ι:=Nat) (fun p a' w'=>p≤l.length∧(∀(j:Nat) (hj:j<l.length),j<p→l[j].id≠id)∧Sx.St w a' w' 20 [(0,.slice a l.length cap),(1,.i id),(4,.i 0),(7,.slice a l.length cap),(8,.i l.length),(9,.i p)] [] []) (fun p=>l.length-p) (0) ⟨anz _,fun j hj h=>by omega,S.sn⟩ ?_;rintro k ac u hI;try dsimp only at hI
 obtain⟨hk,hR,S⟩:=hI;refine amW fun _ lQ=>adr S 1 [] [(10,.bool ((k:Int)<(l.length:Int)))] fun S=>amV<|lQ _ _<|anj (fun _ dA=>?_);refine amX S (fun hc6=>?_) (fun hc6=>?_)
 ·refine ano<|dA _ _<|anj fun _ jB=>anp<|amW (fun _ dJ=>?_);have vI:k<l.length:=by have:=anC hc6; omega
  obtain⟨b9,o10,rfl,x15,DF,hb16,TN⟩:=anF h (fun _=>rfl) (k) vI;have S:=S.view0 hb16 TN;refine adr S 3 [.idx k l.length,.mem 0 0] [(11,.i k),(13,x15.v)] (hk:=⟨vI,trivial⟩) fun S=>amY S 6 (Sx.L [.i 0,.i 0,.i 0]++Sx.za++Sx.L [.slice none 0 0,.i 0,.int .u8 0,.i 0,.bool false,.bool false,.slice none 0 0,.i 0,.slice none 0 0,.i 0,.i 0,.i 0,.i 0,.slice none 0 0,.i 0,.slice none 0 0,.i 0,.i 0,.slice none 0 0,.i 0]) fun ac u b17 Dy aho S=>adr S 1 [] [(5,.i k)] fun S=>am1 S 0 (off:=0) (cs:=x15.cells) rfl fun u C20 S=>amV<|dJ _ _<|amW fun _ jT=>adr S 4 [.mem 0 0] [(17,.bool ((x15.id)==id))] fun S=>amV (jT _ _ ?_);refine amX S (fun hc22=>?_) (fun hc22=>?_)
  ·refine amW fun _ oO=>adr S 2 [] [(4,.i k)] fun S=>amV<|oO _ _<|amZ S results59 ?_;exact⟨by rw[QI vI (by rw[DF]; simpa using hc22) hR],S.E⟩
  refine ano<|jB _ _<|ant<|adr S 2 [.re 19 (.i (IntKind.i64.wrap ((k:Int)+1))) (.i (k+1:Nat))] [(9,.i (k+1:Nat))] (hk:=⟨am8 (by omega),trivial⟩) fun S=>amV ?_;show ∃i',_∧_;exact⟨(k+1),⟨by omega,(KR vI hR (by rw[DF]; simpa using hc22)),(S.sub [(0,.slice (some ⟨b9,o10,none⟩) l.length cap),(1,.i id),(4,.i 0),(7,.slice (some ⟨b9,o10,none⟩) l.length cap),(8,.i l.length),(9,.i (k+1:Nat))]).rU.lu 1⟩,by show _-_<_-_; omega⟩
 refine anB<|eG _ _<|amW fun _ lq=>adr S 1 [] [(4,.i (-1))] fun S=>amV<|lq _ _<|amZ S results59 ?_;have hk:=anE hc6;exact⟨by rw[Iw (fun j hj=>hR j hj (by omega))],S.E⟩
theorem NH{w:World}{v:Value}{l:List aj}(h:aN 47 aj.cells w v l){i:Nat}(hi:i<l.length)(hd:0≤l[i].depth∧l[i].depth<8){q:Int}(hz:q=(i:Int)) :
  Calls prog 70 #[v,.i q] w fun e w'=>e = .returned (.i (uK (l7 (keys l)) i))∧Ext w w':=by
 subst hz;obtain⟨a,cap,rfl⟩:=h.shape;have hmax:l.length≤9223372036854775807:=h.len;refine am0 func70 ntmps70 fun ac S=>amW fun _ aO=>adr S 1 [] [(4,.i 0)] fun S=>amV<|aO _ _<|anj fun _ eG=>amW fun _ gY=>adr S 3 [Sx.kw 7 ((i:Int)-1)] [(5,.i ((i:Int)-1))] (hk:=⟨Sx.zT (by omega),trivial⟩) fun S=>amV<|gY _ _<|anp ?_;refine anP (ι:=Int) (fun p a' w'=>(-1≤p∧p<i∧oH (l7 (keys l)) ((l7 (keys l)) i-1) i=oH (l7 (keys l)) ((l7 (keys l)) i-1) (p+1).toNat)∧Sx.St w a' w' 25 [(0,.slice a l.length cap),(1,.i i),(4,.i 0),(5,.i p)] [] []) (fun p=>(p+1).toNat) (((i:Int)-1)) ⟨⟨by omega,by omega,by rw[show((i:Int)-1+1).toNat=i by omega]⟩,S.sn⟩ ?_;rintro z ac u hI;try dsimp only at hI
 obtain⟨hR,S⟩:=hI;refine anj fun _ lQ=>amW fun _ dA=>adr S 2 [] [(9,.bool (0≤z))] fun S=>amV (dA _ _ ?_);refine amX S (fun hc6=>?_) (fun hc6=>?_)
 ·obtain⟨j,rfl⟩:=UU (anC hc6);rw[show((j:Int)+1).toNat=j+1 by omega]at hR;refine ano<|lQ _ _<|anj fun _ jB=>anp<|anj (fun _ dJ=>?_);have rG:j<l.length:=by omega
  obtain⟨b10,o11,rfl,x16,yA,JA,ML⟩:=anF h (fun _=>rfl) (j) rG;have S:=S.view0 JA ML;have lt23:i<l.length:=by omega
  obtain⟨x24,agE,ak1,ak2⟩:=Vp.ER h (fun _=>rfl) (i) lt23;have hd0:0≤x24.depth∧x24.depth<8:=agE▸hd;have S:=S.view0 ak1 ak2;refine am6 S 12 [.idx j l.length,.mem 1 2,.idx i l.length,.mem 0 2,Sx.kw 22 (x24.depth-1)] [] [(23,.bool ((x16.depth)==(x24.depth-1)))] trivial (hk:=⟨rG,lt23,Sx.zT (by omega),trivial⟩) fun ac u E9 S=>amV (dJ _ _ ?_);refine amX S (fun agF=>?_) (fun agF=>?_)
  ·refine amW fun _ kY=>adr S 2 [] [(4,.i j)] fun S=>amV<|kY _ _<|amZ S results70 ?_;exact⟨by unfold uK; rw[hR.2.2,ad8 rG hi (by rw[yA,agE]; simpa using agF)],S.E⟩
  refine ano<|jB _ _<|ant<|adr S 3 [Sx.kw 11 ((j:Int)-1)] [(5,.i ((j:Int)-1))] (hk:=⟨Sx.zT (by omega),trivial⟩) fun S=>amV ?_;show ∃i',_∧_;exact⟨((j:Int)-1),⟨⟨by omega,by omega,by rw[hR.2.2,show((j:Int)-1+1).toNat=j by omega]; exact agD rG hi (by rw[yA,agE]; simpa using agF)⟩,S.sn⟩,by show((j:Int)-1+1).toNat<((j:Int)+1).toNat; omega⟩
 refine anB<|eG _ _<|amW fun _ kR=>adr S 1 [] [(4,.i (-1))] fun S=>amV<|kR _ _<|amZ S results70 ?_;have hz:=anE hc6;exact⟨by unfold uK; rw[hR.2.2,show(z+1).toNat=0 by omega]; rfl,S.E⟩
theorem abZ{l:List aj}{k:Nat}{x:aj}(hk:k<l.length)(hx:l[k]=x):(l.take k).map aj.id++[x.id]=(l.take (k+1)).map aj.id:=by
 rw[an2 hk,an6,hx]; rfl
theorem yO{w:World}{s:aT}(h:dU K w s)(hg:lG w) :
  Calls prog 20 #[s.v] w fun e w'=>e = .returned (.tuple #[.i s.key.chk.1,.i s.key.chk.2])∧Ext w w':=by
 have hmax:s.ns.length≤9223372036854775807:=h.2.2.1.len;refine am0 func20 ntmps20 (fun ac S=>?_);obtain⟨a,cap,es⟩:∃a c,s.s = .slice a s.ns.length c:=⟨_,_,rfl⟩;have hr:=h.2.2.1;rw[es]at hr;refine amW fun _ aO=>amY S 1 s.cells fun ac u b2 E3 hb4 S=>adr S 2 [] [(2,.i 0),(3,.i 0)] fun S=>amV<|aO _ _<|anj fun _ dA=>amW fun _ iQ=>adr S 18 [.mem 0 0,.mem 0 0,.mem 0 1,.mem 0 1] [(26,.bool ((((decide (s.w<1))||(decide (256<s.w)))||(decide (s.h<1)))||(decide (256<s.h))))] fun S=>amV (iQ _ _ ?_);refine amX S (fun kP=>?_) (fun kP=>?_)
 ·refine amW fun _ dJ=>adr S 2 [] [(2,.i 6),(3,.i 0)] fun S=>amV<|dJ _ _<|Sx.rt2 S results20 ?_;exact⟨by rw[QJ (s:=s.key) kP],S.E⟩
 refine ano<|dA _ _<|anj fun _ gZ=>amW fun _ fE=>adr S 4 [.mem 0 6,.re 28 s.s (.slice a s.ns.length cap)] [(30,.bool (64<(s.ns.length:Int)))] (hk:=⟨es,trivial⟩) fun S=>amV (fE _ _ ?_);refine amX S (fun iq=>?_) (fun iq=>?_)
 ·refine amW fun _ cZ=>adr S 2 [] [(2,.i 5),(3,.i 64)] fun S=>amV<|cZ _ _<|anr ?_;have hq:=oJ (s:=s.key) kP;rw[show s.key.ns=keys s.ns from rfl,aob]at hq;refine aol S results20 ?_;exact⟨by rw[hq,anv (by have:=anC iq; omega)],S.E⟩
 refine ano<|gZ _ _<|amW (fun _ gJ=>?_);have hold:=S.E.size;have al4:=(S.bx 0).1;refine Sx.akY S 31 (fun ac u b E0 hb hM S=>?_);have R:=aou S;have hbo:w.heap.size≤b∧b≠b2:=⟨by omega,by omega⟩;have hMo:Sx.Ow _ (Sx.Ob [(b2,s.cells)] []) (fun W=>kW prog 3 4 W b []) _:=Sx.On.mono (Sx.QE (hM _ _)) fun i hi=>by subst hi; exact⟨hbo.1,by simpa[Sx.Ob]using hbo.2⟩
 refine adr S 1 [] [(4,.map (some b))] fun S=>amV<|gJ _ _<|amW fun _ gU=>adr S 1 [] [(5,.i 0)] fun S=>amV<|gU _ _<|anj fun _ gV=>amW fun _ jM=>adr S 4 [.mem 0 6,.re 33 s.s (.slice a s.ns.length cap)] [(33,.slice a s.ns.length cap),(34,.i s.ns.length),(35,.i 0)] (hk:=⟨es,trivial⟩) fun S=>amV<|jM _ _<|anp ?_;refine anP (ι:=Nat×Int) (fun p a' w'=>p.1≤s.ns.length∧(wI s.ns p.1 p.2)∧Sx.Rw w w' [(b2,s.cells)] []∧Sx.Ow w.heap.size (Sx.Ob [(b2,s.cells)] []) (fun W=>kW prog 3 4 W b ((s.ns.take p.1).map aj.id)) w'∧Sx.St w a' w' 67 [(0,s.v),(1,.pointer (some ⟨b2,0,none⟩)),(2,.i 0),(3,.i 0),(4,.map (some b)),(5,.i p.2),(33,.slice a s.ns.length cap),(34,.i s.ns.length),(35,.i p.1)] [(b2,s.cells)] []) (fun p=>s.ns.length-p.1) (0,0) ⟨anz _,wI.start _,R,hMo,S.sn⟩ ?_;rintro⟨k,m⟩ ac u hI;try dsimp only at hI
 obtain⟨hk,hR,R,kN,S⟩:=hI;refine amW fun _ iD=>adr S 1 [] [(36,.bool ((k:Int)<(s.ns.length:Int)))] fun S=>amV<|iD _ _<|anj (fun _ jH=>?_);refine amX S (fun hc19=>?_) (fun hc19=>?_)
 ·refine ano<|jH _ _<|anj fun _ jo=>anp<|amW (fun _ jT=>?_);have hMl:=(aoc (kN)).lt;have gX:k<s.ns.length:=by have:=anC hc19; omega
  obtain⟨b22,o23,rfl,x28,jS,xW,yw⟩:=anF hr (fun _=>rfl) (k) gX;have hxo:=h.2.2.2 _ (jS▸anJ gX);have S:=S.view0 xW yw;refine adr S 3 [.idx k s.ns.length,.mem 1 0] [(37,.i k),(39,x28.v)] (hk:=⟨gX,trivial⟩) fun S=>amY S 7 (Sx.L [.i 0,.i 0,.i 0]++Sx.za++Sx.L [.slice none 0 0,.i 0,.int .u8 0,.i 0,.bool false,.bool false,.slice none 0 0,.i 0,.slice none 0 0,.i 0,.i 0,.i 0,.i 0,.slice none 0 0,.i 0,.slice none 0 0,.i 0,.i 0,.slice none 0 0,.i 0]) fun ac u b30 Fe Qb S=>adr S 1 [] [(6,.i k)] fun S=>am1 S 0 (off:=0) (cs:=x28.cells) rfl (fun u Oo S=>?_);have hbn:b≠b30:=by omega
  refine amV<|jT _ _<|anj fun _ wQ=>amW fun _ nI=>adr S 1 [.mem 0 0] [(40,x28.v)] fun S=>am3 S 41 (JH ((h.2.2.2 _ (jS▸anJ gX)).below S.E) (hg.below S.E)) fun ac u Oh S=>adr S 1 [] [(8,.i x28.checkN)] fun S=>amV<|nI _ _<|amW fun _ uH=>adr S 2 [] [(43,.bool ((x28.checkN) != 0))] fun S=>amV (uH _ _ ?_);refine amX S (fun hc38=>?_) (fun hc38=>?_)
  ·refine amW fun _ uF=>adr S 4 [] [(2,.i x28.checkN),(3,.i k)] fun S=>amV<|uF _ _<|anr ?_;have hq:=oJ (s:=s.key) kP;rw[show s.key.ns=keys s.ns from rfl,aob]at hq;refine aol S results20 ?_;rw[anq (by have:=anE iq; omega)]at hq;exact⟨by rw[hq,hR.bad gX jS (Iz (by simpa using hc38)) (by simpa using hc38)],S.E⟩
  refine ano<|wQ _ _<|anj fun _ yj=>amW fun _ qj=>adr S 3 [.mem 0 0] [(46,.map (some b)),(48,.i x28.id)] (fun S=>?_);obtain⟨R,Y42⟩:=R.bC S (anA (aos Fe Qb) (anA (Sx.Stp.RQ Oo (by simp[Sx.vb])) (anR Oh)));have hMn:=aoc ((anL kN Y42));refine Sx.ah8 S 49 hMn underlying3 underlying4 underlying85 (Y1 _) (hxo.1.1) fun ac S=>amV (qj _ _ ?_);refine amX S (fun Dx=>?_) (fun Dx=>?_)
  ·refine amW fun _ vg=>adr S 3 [] [(2,.i 7),(3,.i k)] fun S=>amV<|vg _ _<|anr ?_;have hq:=oJ (s:=s.key) kP;rw[show s.key.ns=keys s.ns from rfl,aob]at hq;refine aol S results20 ?_;rw[anq (by have:=anE iq; omega)]at hq;exact⟨by rw[hq,hR.bad gX jS (KT (by simpa using hc38) (by rw[←ND]; exact Dx)) (by decide)],S.E⟩
  refine ano<|yj _ _<|anj fun _ vk=>amW fun _ zH=>adr S 4 [.mem 0 2] [(54,.bool (m<x28.depth))] fun S=>amV (zH _ _ ?_);refine amX S (fun hc47=>?_) (fun hc47=>?_)
  ·refine amW fun _ zN=>adr S 3 [] [(2,.i 17),(3,.i k)] fun S=>amV<|zN _ _<|anr ?_;have hq:=oJ (s:=s.key) kP;rw[show s.key.ns=keys s.ns from rfl,aob]at hq;refine aol S results20 ?_;rw[anq (by have:=anE iq; omega)]at hq;exact⟨by rw[hq,hR.bad gX jS (EG (by simpa using hc38) (by rw[←ND]; exact Dx) (by have:=anC hc47; rw[←hR.room]; omega)) (by decide)],S.E⟩
  refine ano<|vk _ _<|amW fun _ xU=>adr S 3 [.mem 0 0] [(56,.map (some b)),(58,.i x28.id)] (fun S=>?_);have hMn:=aoc ((anL kN Y42));refine Sx.ak0 S hMn (S.E.size |> fun _=>hbo.1) underlying3 underlying4 underlying85 (by rw[aob,aoT]; show _<9223372036854775807; omega) hxo.1.1 (fun u hM2 hgr S=>?_);have R:=aou S;have hMo:Sx.Ow w.heap.size (Sx.Ob [(b30,x28.cells),(b2,s.cells)] []) (fun W=>kW prog 3 4 W b ((s.ns.take (k+1)).map aj.id)) u:=by
   rw[abZ gX jS]at hM2;exact Sx.On.mono (Sx.QE hM2) fun i hi=>by subst hi; exact⟨hbo.1,by simpa[Sx.Ob]using ⟨hbn,hbo.2⟩⟩
  refine amV<|xU _ _<|amW fun _ zL=>adr S 3 [.mem 0 2] [(5,.i x28.depth)] fun S=>amV<|zL _ _<|amW fun _ zI=>adr S 3 [.mem 0 1] [(63,.bool ((x28.kind)==1))] fun S=>amV (zI _ _ ?_);refine amX S (fun AY=>?_) (fun AY=>?_)
  ·refine ant<|adr S 3 [Sx.kw 65 (x28.depth+1)] [(5,.i (x28.depth+1))] (hk:=⟨Sx.zT (by have:=sJ (n:=x28) (by simpa using hc38); omega),trivial⟩) fun S=>amV<|jo _ _<|ant<|adr S 2 [.re 66 (.i (IntKind.i64.wrap ((k:Int)+1))) (.i (k+1:Nat))] [(35,.i (k+1:Nat))] (hk:=⟨am8 (by omega),trivial⟩) fun S=>amV ?_;have S:=S.lu 1;obtain⟨R,Y53⟩:=R.bC S (aoQ 1);show ∃i',_∧_;exact⟨((k+1),(x28.depth+1)),⟨by omega,hR.next gX jS (IB (by simpa using hc38) (by rw[←ND]; exact Dx) (by have:=anE hc47; rw[←hR.room]; omega)) (by rw[anv (by simpa using AY)]),R,(anL hMo Y53),S.sn⟩,by show _-_<_-_; omega⟩
  refine ano<|jo _ _<|ant<|adr S 2 [.re 66 (.i (IntKind.i64.wrap ((k:Int)+1))) (.i (k+1:Nat))] [(35,.i (k+1:Nat))] (hk:=⟨am8 (by omega),trivial⟩) fun S=>amV ?_;have S:=S.lu 1;obtain⟨R,Y54⟩:=R.bC S (aoQ 1);show ∃i',_∧_;exact⟨((k+1),x28.depth),⟨by omega,hR.next gX jS (IB (by simpa using hc38) (by rw[←ND]; exact Dx) (by have:=anE hc47; rw[←hR.room]; omega)) (by rw[anq (by simpa using AY)]),R,(anL hMo Y54),S.sn⟩,by show _-_<_-_; omega⟩
 refine anB<|gV _ _<|amW fun _ Aq=>adr S 2 [] [(2,.i 0),(3,.i 0)] fun S=>amV<|Aq _ _<|anr ?_;have hq:=oJ (s:=s.key) kP;rw[show s.key.ns=keys s.ns from rfl,aob]at hq;refine aol S results20 ?_;rw[anq (by have:=anE iq; omega)]at hq;exact⟨by rw[hq,hR.done (by have:=anE hc19; omega)],S.E⟩
end
section
set_option maxHeartbeats 1600000
set_option maxRecDepth 100000
open Go.RowKit
variable{α:Type}{K:Nat}
noncomputable def aQ.index(s:aQ)(id:Int):Int:=if s.valid=true then jL s.ns id else -1
noncomputable def aQ.has(s:aQ)(i:Int):Bool:=(decide (0≤i)&&decide (i<(s.ns.length:Int)))&&s.valid
noncomputable def aQ.endOf(s:aQ)(i:Int):Int:=if s.has i=true then (dR s.ns i.toNat:Int)else -1
noncomputable def aQ.QK(s:aQ)(i:Int):Int:=if s.has i=true then uK (l7 s.ns) i.toNat else -1
theorem ab1{s:aT}{i:Int}(h:s.key.has i=true):s.key.valid=true∧∃k:Nat,i=(k:Int)∧k<s.ns.length:=by
 unfold aQ.has at h;simp only[anM,anT,aT.key,aob]at h;exact⟨h.2,i.toNat,by omega,by omega⟩
theorem IC{s:aQ}(h:s.valid=true):VL s.ns:=(aQ.oI.1 h).2.2
theorem Y2{s:aT}(h:s.key.valid=true){i:Nat}(hi:i<s.ns.length):0≤s.ns[i].depth∧s.ns[i].depth<8:=(IC h).depth s.ns[i].key (an4.2 ⟨_,anJ hi,rfl⟩)
theorem fV.eqP{w w':World}{a b:aj}(h:fV K w a)(h':fV K w' b):a.eqP b=decide (a.key=b.key):=ad6 h.nrm h'.nrm
theorem ab2(c d:dO):(((c.r.toNat:Int)==d.r.toNat)&&(((c.g.toNat:Int)==d.g.toNat)&&(((c.b.toNat:Int)==d.b.toNat)&&((c.a.toNat:Int)==d.a.toNat))))=decide (c=d):=by
 rw[aop];simp only[anM,anO,Ns,anT];exact W9
theorem agG(c d:dO)(w:World):(binOp .eql 23 (.agg c.cells.toArray) (.agg d.cells.toArray)).run prog w = .ok (.bool (c=d)) w:=by
 rw[←ab2]; exact J9 ..
theorem aia(a b c d e f g h:Int)(w:World):(binOp .neq 23 (.agg #[.int .u8 a,.int .u8 b,.int .u8 c,.int .u8 d]) (.agg #[.int .u8 e,.int .u8 f,.int .u8 g,.int .u8 h])).run prog w = .ok (.bool (!((a==e)&&((b==f)&&((c==g)&&(d==h)))))) w:=by
 simp[go_sem];(repeat' split)<;>simp_all
theorem Tv(c d:dO)(w:World):(binOp .neq 23 (.agg c.cells.toArray) (.agg d.cells.toArray)).run prog w = .ok (.bool (!decide (c=d))) w:=by
 rw[←ab2]; exact aia ..
theorem aeX{l m:List aj}(h:l.length≠m.length):false=decide (keys l=keys m):=by
 have:keys l≠keys m:=fun e=>h (by simpa using anu List.length e);simp[this]
theorem ab3{l m:List aj}{k:Nat}(hk:l.length≤k)(h:l.length=m.length)(hR:(keys l).take k=(keys m).take k):true=decide (keys l=keys m):=by
 rw[anW (by simpa using hk),anW (by simpa using (show m.length≤k by omega))]at hR;simp[hR]
theorem Xf{l m:List aj}{k:Nat}(h1:k<l.length)(h2:k<m.length)(hR:(keys l).take k=(keys m).take k){x y:aj}(hx:l[k]=x)(hy:m[k]=y)(h:(!decide (x.key=y.key))=false):(keys l).take (k+1)=(keys m).take (k+1):=by
 rw[an2 (by simpa using h1),an2 (by simpa using h2),hR,DY h1 hx,DY h2 hy];simp at h;rw[h]
theorem aeY{l m:List aj}{k:Nat}(h1:k<l.length)(h2:k<m.length){x y:aj}(hx:l[k]=x)(hy:m[k]=y)(h:(!decide (x.key=y.key))=true):false=decide (keys l=keys m):=by
 symm;rw[aoC];intro e;have:=anu (·[k]?) e;simp only[keys,List.getElem?_map,List.getElem?_eq_getElem h1,List.getElem?_eq_getElem h2,hx,hy,aoa,anx]at this;simp[this]at h
theorem MB{w:World}{a b:aj}(h:fV K w a)(h':fV K w b):Calls prog 56 #[a.v,b.v] w fun e w'=>e = .returned (.bool (a.key=b.key))∧Ext w w':=by
 rw[←h.eqP h']; exact JK h h'
theorem nV{w:World}{s:aT}(h:dU K w s)(hg:lG w) :
  Calls prog 22 #[s.v] w fun e w'=>e = .returned (.bool s.key.valid)∧Ext w w':=by
 skip;refine am0 func22 ntmps22 fun ac S=>amW fun _ aO=>amY S 1 s.cells fun ac u b2 E3 hb4 S=>adr S 1 [] [(2,.bool false)] fun S=>amV<|aO _ _<|amW fun _ dA=>adr S 1 [.mem 0 0] [(6,s.v)] fun S=>am3 S 7 (yO (h.below S.E) (hg.below S.E)) fun ac u E6 S=>adr S 5 [] [(3,.i s.key.chk.1)] fun S=>amV<|dA _ _<|amW fun _ jB=>adr S 3 [] [(2,.bool ((s.key.chk.1)==0))] fun S=>amV<|jB _ _<|amZ S results22 ?_;exact⟨rfl,S.E⟩
theorem KU{w:World}{s:aT}(h:dU K w s)(hg:lG w)(i:Int) :
  Calls prog 57 #[s.v,.i i] w fun e w'=>e = .returned (.bool (s.key.has i))∧Ext w w':=by
 skip;refine am0 func57 ntmps57 fun ac S=>amW fun _ aO=>amY S 2 s.cells fun ac u b2 E3 hb4 S=>adr S 1 [] [(4,.bool false)] fun S=>amV<|aO _ _<|amW fun _ dA=>am9 S 14 [.mem 0 6,.mem 0 0] [(_,_,((decide (0≤i))&&(decide (i<(s.ns.length:Int)))),.bool s.key.valid)] [(4,.bool (((decide (0≤i))&&(decide (i<(s.ns.length:Int))))&&s.key.valid))] ⟨fun u hC g=>nV (h.below (Ext.trans' S.E hC)) (hg.below (Ext.trans' S.E hC)),trivial⟩ fun ac u E6 S=>amV<|dA _ _<|amZ S results57 ?_;exact⟨by unfold aQ.has; rw[show s.key.ns.length=s.ns.length from aob ..],S.E⟩
theorem QL{w:World}{s:aT}(h:dU K w s)(hg:lG w)(id:Int) :
  Calls prog 25 #[s.v,.i id] w fun e w'=>e = .returned (.i (s.key.index id))∧Ext w w':=by
 skip;refine am0 func25 ntmps25 fun ac S=>amW fun _ aO=>amY S 2 s.cells fun ac u b2 E3 hb4 S=>adr S 1 [] [(4,.i 0)] fun S=>amV<|aO _ _<|anj fun _ dA=>amW fun _ iQ=>adr S 1 [.mem 0 0] [(5,s.v)] fun S=>am3 S 6 (nV (h.below S.E) (hg.below S.E)) fun ac u E7 S=>adr S 1 [] [(7,.bool (!s.key.valid))] fun S=>amV (iQ _ _ ?_);refine amX S (fun hc8=>?_) (fun hc8=>?_)
 ·refine amW fun _ gZ=>adr S 1 [] [(4,.i (-1))] fun S=>amV<|gZ _ _<|amZ S results25 ?_;exact⟨by unfold aQ.index; rw[anq (by simpa using hc8)],S.E⟩
 refine ano<|dA _ _<|amW (fun _ fE=>?_);have hv:s.key.valid=true:=by simpa using hc8
 refine adr S 3 [.mem 0 6] [(9,s.s),(10,.i id)] fun S=>am3 S 11 (Bh (id:=id) (h.2.2.1.below S.E)) fun ac u wO S=>adr S 1 [] [(4,.i (jL (keys s.ns) id))] fun S=>amV<|fE _ _<|amZ S results25 ?_;exact⟨by unfold aQ.index; rw[anv hv]; rfl,S.E⟩
theorem QM{w:World}{s:aT}(h:dU K w s)(hg:lG w)(i:Int) :
  Calls prog 24 #[s.v,.i i] w fun e w'=>e = .returned (.i (s.key.endOf i))∧Ext w w':=by
 skip;refine am0 func24 ntmps24 fun ac S=>amW fun _ aO=>amY S 2 s.cells fun ac u b2 E3 hb4 S=>adr S 1 [] [(4,.i 0)] fun S=>amV<|aO _ _<|anj fun _ dA=>amW fun _ iQ=>adr S 2 [.mem 0 0] [(5,s.v),(6,.i i)] fun S=>am3 S 7 (KU (h.below S.E) (hg.below S.E) i) fun ac u E7 S=>adr S 1 [] [(8,.bool (!(s.key.has i)))] fun S=>amV (iQ _ _ ?_);refine amX S (fun hc8=>?_) (fun hc8=>?_)
 ·refine amW fun _ gZ=>adr S 1 [] [(4,.i (-1))] fun S=>amV<|gZ _ _<|amZ S results24 ?_;exact⟨by unfold aQ.endOf; rw[anq (by simpa using hc8)],S.E⟩
 refine ano<|dA _ _<|amW (fun _ fE=>?_);have hh:s.key.has i=true:=by simpa using hc8
 obtain⟨hv,k,rfl,hk⟩:=ab1 hh;refine adr S 3 [.mem 0 6] [(10,s.s),(11,.i k)] fun S=>am3 S 12 (y7 (h.2.2.1.below S.E) hk rfl rfl) fun ac u wO S=>adr S 1 [] [(4,.i (dR (keys s.ns) k:Nat))] fun S=>amV<|fE _ _<|amZ S results24 ?_;exact⟨by unfold aQ.endOf; rw[anv hh]; rfl,S.E⟩
theorem QN{w:World}{s:aT}(h:dU K w s)(hg:lG w)(i:Int) :
  Calls prog 36 #[s.v,.i i] w fun e w'=>e = .returned (.i (s.key.QK i))∧Ext w w':=by
 skip;refine am0 func36 ntmps36 fun ac S=>amW fun _ aO=>amY S 2 s.cells fun ac u b2 E3 hb4 S=>adr S 1 [] [(4,.i 0)] fun S=>amV<|aO _ _<|anj fun _ dA=>amW fun _ iQ=>adr S 2 [.mem 0 0] [(5,s.v),(6,.i i)] fun S=>am3 S 7 (KU (h.below S.E) (hg.below S.E) i) fun ac u E7 S=>adr S 1 [] [(8,.bool (!(s.key.has i)))] fun S=>amV (iQ _ _ ?_);refine amX S (fun hc8=>?_) (fun hc8=>?_)
 ·refine amW fun _ gZ=>adr S 1 [] [(4,.i (-1))] fun S=>amV<|gZ _ _<|amZ S results36 ?_;exact⟨by unfold aQ.QK; rw[anq (by simpa using hc8)],S.E⟩
 refine ano<|dA _ _<|amW (fun _ fE=>?_);have hh:s.key.has i=true:=by simpa using hc8
 obtain⟨hv,k,rfl,hk⟩:=ab1 hh;refine adr S 3 [.mem 0 6] [(10,s.s),(11,.i k)] fun S=>am3 S 12 (NH (h.2.2.1.below S.E) hk (Y2 hv hk) rfl) fun ac u wO S=>adr S 1 [] [(4,.i (uK (l7 (keys s.ns)) k))] fun S=>amV<|fE _ _<|amZ S results36 ?_;exact⟨by unfold aQ.QK; rw[anv hh]; rfl,S.E⟩
theorem Dw{w:World}{v u:Value}{l m:List aj}(h:dK K w v l)(h':dK K w u m) :
  Calls prog 149 #[v,u] w fun e w'=>e = .returned (.bool (keys l=keys m))∧Ext w w':=by
 obtain⟨a,cap,rfl⟩:=h.1.shape;obtain⟨d,cap',rfl⟩:=h'.1.shape;have hmax:l.length≤9223372036854775807:=h.1.len;refine am0 func149 ntmps149 fun ac S=>amW fun _ aO=>adr S 1 [] [(4,.bool false)] fun S=>amV<|aO _ _<|anj fun _ eG=>amW fun _ gY=>adr S 5 [] [(10,.bool (((l.length:Int)) != (m.length:Int)))] fun S=>amV (gY _ _ ?_);refine amX S (fun hc4=>?_) (fun hc4=>?_)
 ·refine amW fun _ dA=>adr S 1 [] [(4,.bool false)] fun S=>amV<|dA _ _<|amZ S results149 ?_;exact⟨aB (aeX (fun e=>by rw[e]at hc4; simp at hc4)),S.E⟩
 refine ano<|eG _ _<|anj fun _ iQ=>amW fun _ jB=>adr S 3 [] [(12,.i l.length),(13,.i 0)] fun S=>amV<|jB _ _<|anp ?_;refine anP (ι:=Nat) (fun p a' w'=>p≤l.length∧((keys l).take p=(keys m).take p)∧Sx.St w a' w' 27 [(0,.slice a l.length cap),(1,.slice d m.length cap'),(4,.bool false),(12,.i l.length),(13,.i p)] [] []) (fun p=>l.length-p) (0) ⟨anz _,rfl,S.sn⟩ ?_;rintro k ac u hI;try dsimp only at hI
 obtain⟨hk,hR,S⟩:=hI;refine amW fun _ dJ=>adr S 1 [] [(14,.bool ((k:Int)<(l.length:Int)))] fun S=>amV<|dJ _ _<|anj (fun _ gZ=>?_);refine amX S (fun bM=>?_) (fun bM=>?_)
 ·refine ano<|gZ _ _<|anj fun _ bW=>anp<|amW fun _ cZ=>adr S 2 [] [(5,.i k)] fun S=>amV<|cZ _ _<|anj (fun _ gJ=>?_);have lg:k<l.length:=by have:=anC bM; omega
  obtain⟨b15,o16,rfl,x21,vF,Du,Dv⟩:=anF h.1 (fun _=>rfl) (k) lg;have S:=S.view0 Du Dv;have kF:k<m.length:=by have:=jh hc4; have:=anC bM; omega
  obtain⟨b23,o24,rfl,y29,hx27,zJ,Aw⟩:=anF h'.1 (fun _=>rfl) (k) kF;have S:=S.view0 zJ Aw;refine am6 S 10 [.idx k l.length,.mem 1 0,.idx k m.length,.mem 0 0] [(_,_,true,.bool (x21.key=y29.key))] [(25,.bool (!(decide (x21.key=y29.key))))] ⟨fun u hC g=>MB ((h.2 _ (vF▸anJ lg)).below (Ext.trans' S.E hC)) ((h'.2 _ (hx27▸anJ kF)).below (Ext.trans' S.E hC)),trivial⟩ (hk:=⟨lg,kF,trivial⟩) fun ac u Dj S=>amV (gJ _ _ ?_);refine amX S (fun hc31=>?_) (fun hc31=>?_)
  ·refine amW fun _ jF=>adr S 1 [] [(4,.bool false)] fun S=>amV<|jF _ _<|amZ S results149 ?_;exact⟨aB (aeY lg kF vF hx27 hc31),S.E⟩
  refine ano<|bW _ _<|ant<|adr S 2 [.re 26 (.i (IntKind.i64.wrap ((k:Int)+1))) (.i (k+1:Nat))] [(13,.i (k+1:Nat))] (hk:=⟨am8 (by omega),trivial⟩) fun S=>amV ?_;show ∃i',_∧_;exact⟨(k+1),⟨by omega,(Xf lg kF hR vF hx27 hc31),S.sn⟩,by show _-_<_-_; omega⟩
 refine anB<|iQ _ _<|amW fun _ mF=>adr S 1 [] [(4,.bool true)] fun S=>amV<|mF _ _<|amZ S results149 ?_;exact⟨aB (ab3 (by have:=anE bM; omega) (jh hc4) hR),S.E⟩
end
end Go.Proofs.YtfmkkemfhjkajaaGreatDoor
