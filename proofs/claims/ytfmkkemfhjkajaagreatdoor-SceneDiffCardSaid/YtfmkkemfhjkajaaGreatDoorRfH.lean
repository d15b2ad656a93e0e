/- Reference 37: equal edits, edits that replace, the places of the top level. -/
import Derived.Test.YtfmkkemfhjkajaaGreatDoorDfW2
import Derived.Test.YtfmkkemfhjkajaaGreatDoorCln36c
set_option maxHeartbeats 3200000
set_option maxRecDepth 100000
namespace Go.Proofs.YtfmkkemfhjkajaaGreatDoor
open _root_.Go.Proofs.Tryz
open Go.RowKit
variable{α:Type}{K:Nat}
set_option linter.unusedVariables false
theorem agZ{l m:List aC}(h:l.map aC.key=m.map aC.key){k:Nat}(hk:k<l.length)(hk':k<m.length){x y:aC}(hx:l[k]=x)(hy:m[k]=y):x.key=y.key:=by
 have:=anu (fun z=>z[k]?) h;simpa[hk,hk',hx,hy]using this
theorem aiB{x y:aC}(h:x.key=y.key):x.kind=y.kind∧x.id=y.id∧x.index=y.index∧x.depth=y.depth∧x.color=y.color∧x.node.key=y.node.key:=by
 unfold aC.key at h;injection h with h1 h2 h3 h4 h5 h6;exact⟨h1,h2,h3,h4,h6,h5⟩
theorem Ja:∀{l:List aF} {j:Nat} {x:aF},dX j (l++[x])=dX j l++(if x.depth=0 then [j+l.length]else [])
 | [],j,x=>by show(if x.depth=0 then j::dX (j+1) []else dX (j+1) [])=_; split<;>rfl
 | y::l,j,x=>by
  rw[aoD]
  show(if y.depth=0 then j::dX (j+1) (l++[x])else dX (j+1) (l++[x]))=(if y.depth=0 then j::dX (j+1) l else dX (j+1) l)++_
  rw[Ja,an1,show j+1+l.length=j+(l.length+1) by omega]
  split<;>rfl
theorem Lj:∀{l:List aF} {j:Nat},(dX j l).length≤l.length
 | [],j=>anw _
 | y::l,j=>by
  show(if y.depth=0 then j::dX (j+1) l else dX (j+1) l).length≤_
  have:=Lj (l:=l) (j:=j+1)
  split<;>simp only[an1]<;>omega
abbrev mD (l:List aj)(k:Nat):List Nat:=0::dX 1 (((keys l).take k).drop 1)
theorem Jb{l:List aj}{k:Nat}{x:aj}(h1:1≤k)(hk:k<l.length)(hx:l[k]=x):mD l (k+1)=mD l k++(if x.depth=0 then [k]else []):=by
 unfold mD;rw[an2 (by simpa using hk),apS (by simp; omega),Ja,apa,hx,aoD];rw[show 1+(((keys l).take k).drop 1).length=k by simp; omega];rfl
theorem Zm{l:List aj}:mD l 1=[0]:=by
 unfold mD;rw[aon (by simp only[aoT]; omega)]; rfl
theorem Ll{l:List aj}{k:Nat}(hk:k≤l.length+1):(mD l k).length≤l.length+1:=by
 have:=Lj (l:=((keys l).take k).drop 1) (j:=1);simp only[an1,apn,aoT,aob]at this ⊢;omega
theorem Lm{l:List aj}{k:Nat}(hk:l.length≤k):fH (keys l)=mD l k++(if 0<l.length then [l.length]else []):=by
 unfold fH mD;rw[anW (by simpa using hk),aob]
theorem Rh{w:World}{v u:Value}{l m:List aC}(h:Me K w v l)(h':Me K w u m)(hk0:l.map aC.key=m.map aC.key) :
  Calls prog 45 #[v,u] w fun e w'=>e = .returned (.bool true)∧Ext w w':=by
 obtain⟨a,cap,rfl⟩:=h.1.shape;obtain⟨d,cap',rfl⟩:=h'.1.shape;have hmax:l.length≤9223372036854775807:=h.1.len;have hlen:l.length=m.length:=by simpa using anu List.length hk0
 refine am0 func45 ntmps45 fun ac S=>amW fun _ aO=>adr S 1 [] [(4,.bool false)] fun S=>amV<|aO _ _<|anj fun _ eG=>amW fun _ gY=>adr S 5 [] [(10,.bool (((l.length:Int)) != (m.length:Int)))] fun S=>amV (gY _ _ ?_);refine amX S (fun hc4=>?_) (fun hc4=>?_)
 ·exact absurd hc4 (by simp[hlen])
 refine ano<|eG _ _<|anj fun _ dA=>amW fun _ iQ=>adr S 1 [] [(5,.i 0)] fun S=>amV<|iQ _ _<|anp ?_;refine anP (ι:=Nat) (fun p a' w'=>p≤l.length∧(True)∧Sx.St w a' w' 94 [(0,.slice a l.length cap),(1,.slice d m.length cap'),(4,.bool false),(5,.i p)] [] []) (fun p=>l.length-p) (0) ⟨anz _,trivial,S.sn⟩ ?_;rintro k ac u hI;try dsimp only at hI
 obtain⟨hk,hR,S⟩:=hI;refine anj fun _ jB=>amW fun _ dJ=>adr S 4 [] [(14,.bool ((k:Int)<(l.length:Int)))] fun S=>amV (dJ _ _ ?_);refine amX S (fun ZJ=>?_) (fun ZJ=>?_)
 ·refine ano<|jB _ _<|anj fun _ fE=>anp<|anj (fun _ bW=>?_);have mG:k<l.length:=by have:=anC ZJ; omega
  obtain⟨b13,o14,rfl,x19,xR,Js,LX⟩:=anF h.1 (fun _=>rfl) (k) mG;have S:=S.view0 Js LX;have Dc:k<m.length:=by have:=anC ZJ; omega
  obtain⟨b21,o22,rfl,y27,hx25,aai,agV⟩:=anF h'.1 (fun _=>rfl) (k) Dc;have S:=S.view0 aai agV;refine am6 S 77 [.idx k l.length,.mem 1 0,.idx k m.length,.mem 0 0,.idx k l.length,.mem 1 1,.idx k m.length,.mem 0 1,.idx k l.length,.mem 1 2,.idx k m.length,.mem 0 2,.idx k l.length,.mem 1 3,.idx k m.length,.mem 0 3,.idx k l.length,.mem 1 51,.idx k m.length,.mem 0 51,.cmp .neq 23 (.tmp 72) (.tmp 77) (.agg #[.int .u8 (x19.color.r.toNat:Int),.int .u8 (x19.color.g.toNat:Int),.int .u8 (x19.color.b.toNat:Int),.int .u8 (x19.color.a.toNat:Int)]) (.agg #[.int .u8 (y27.color.r.toNat:Int),.int .u8 (y27.color.g.toNat:Int),.int .u8 (y27.color.b.toNat:Int),.int .u8 (y27.color.a.toNat:Int)]) (.bool (!decide (x19.color=y27.color))),.idx k l.length,.mem 1 4,.idx k m.length,.mem 0 4] [(_,_,(!((((((x19.kind) != y27.kind)||((x19.id) != y27.id))||((x19.index) != y27.index))||((x19.depth) != y27.depth))||(!decide (x19.color=y27.color)))),.bool (x19.node.key=y27.node.key))] [(93,.bool (((((((x19.kind) != y27.kind)||((x19.id) != y27.id))||((x19.index) != y27.index))||((x19.depth) != y27.depth))||(!decide (x19.color=y27.color)))||(!(decide (x19.node.key=y27.node.key)))))] ⟨fun u hC g=>NP ((h.2 _ (xR▸anJ mG)).2.2.2.2.below (Ext.trans' S.E hC)) ((h'.2 _ (hx25▸anJ Dc)).2.2.2.2.below (Ext.trans' S.E hC)),trivial⟩ (hk:=⟨mG,Dc,mG,Dc,mG,Dc,mG,Dc,mG,Dc,(ang (fun _=>Tv x19.color y27.color _) (by kernel_rfl)),mG,Dc,trivial⟩) fun ac u Ed S=>amV (bW _ _ ?_);refine amX S (fun hc29=>?_) (fun hc29=>?_)
  ·obtain⟨e1,e2,e3,e4,e5,e6⟩:=aiB (agZ hk0 mG Dc xR hx25);simp[e1,e2,e3,e4,e5,e6]at hc29
  refine ano<|fE _ _<|ant<|adr S 3 [.re 16 (.i (IntKind.i64.wrap ((k:Int)+1))) (.i (k+1:Nat))] [(5,.i (k+1:Nat))] (hk:=⟨am8 (by omega),trivial⟩) fun S=>amV ?_;show ∃i',_∧_;exact⟨(k+1),⟨by omega,trivial,S.sn⟩,by show _-_<_-_; omega⟩
 refine anB<|dA _ _<|amW fun _ mM=>adr S 1 [] [(4,.bool true)] fun S=>amV<|mM _ _<|amZ S results45 ?_;exact⟨rfl,S.E⟩
theorem IV{w:World}{v u:Value}{l m:List aj}(h:dK K w v l)(h':dK K w u m)(hlim:∀n∈m,n.lim)(hlm:l.length=m.length)(hn:l.length≤100000) :
  Calls prog 77 #[v,u] w fun e w'=>∃(v':Value) (es:List aC),e = .returned v'∧fU w.heap.size v' es w'∧(∀e∈es,rP K e)∧es.map aC.key=jA (keys l) (keys m)∧es.length≤l.length∧Ext w w':=by
 obtain⟨a,cap,rfl⟩:=h.1.shape;obtain⟨d,cap',rfl⟩:=h'.1.shape;have hmax:l.length≤9223372036854775807:=h.1.len;refine am0 func77 ntmps77 fun ac S=>amW fun _ aO=>adr S 1 [] [(4,.slice none 0 0)] fun S=>amV<|aO _ _<|amW (fun _ eG=>?_);have R:=aou S;refine anm S R 7 0 45 55 [] fun ac u v3 E4 X5 R S=>adr S 1 [] [(5,v3)] fun S=>amV<|eG _ _<|anj fun _ iQ=>amW fun _ jB=>adr S 1 [] [(6,.i 0)] fun S=>amV<|jB _ _<|anp ?_;refine anP (ι:=Nat×Value×List aC) (fun p a' w'=>p.1≤l.length∧((∀e∈p.2.2,rP K e)∧p.2.2.map aC.key=jA ((keys l).take p.1) ((keys m).take p.1)∧p.2.2.length≤p.1)∧Sx.Rw w w' [] [⟨45,55,p.2.1,p.2.2.length,p.2.2.flatMap aC.cells⟩]∧Sx.Ow w.heap.size (Sx.Ob [] [⟨45,55,p.2.1,p.2.2.length,p.2.2.flatMap aC.cells⟩]) (fun W=>∀e∈p.2.2,e.node.mW w.heap.size W) w'∧Sx.St w a' w' 34 [(0,.slice a l.length cap),(1,.slice d m.length cap'),(4,.slice none 0 0),(5,p.2.1),(6,.i p.1)] [] []) (fun p=>l.length-p.1) (0,v3,[]) ⟨anz _,⟨(fun e he=>by cases he),rfl,anw _⟩,R,(fun _ _ _ e he=>by cases he),S.sn⟩ ?_;rintro⟨k,v,es⟩ ac u hI;try dsimp only at hI
 obtain⟨hk,hR,R,kN,S⟩:=hI;refine anj fun _ dJ=>amW fun _ gZ=>adr S 4 [] [(11,.bool ((k:Int)<(l.length:Int)))] fun S=>amV (gZ _ _ ?_);refine amX S (fun bM=>?_) (fun bM=>?_)
 ·refine ano<|dJ _ _<|anj fun _ bW=>anp<|anj (fun _ cZ=>?_);have jk:k<l.length:=by have:=anC bM; omega
  obtain⟨b14,o15,rfl,x20,mY,wS,yu⟩:=anF h.1 (fun _=>rfl) (k) jk;have S:=S.view0 wS yu;have gX:k<m.length:=by have:=anC bM; omega
  obtain⟨b22,o23,rfl,y28,jS,xW,yw⟩:=anF h'.1 (fun _=>rfl) (k) gX;have S:=S.view0 xW yw;refine am6 S 10 [.idx k l.length,.mem 1 0,.idx k m.length,.mem 0 0] [(_,_,true,.bool (x20.key=y28.key))] [(23,.bool (!(decide (x20.key=y28.key))))] ⟨fun u hC g=>NP ((h.2 _ (mY▸anJ jk)).below (Ext.trans' S.E hC)) ((h'.2 _ (jS▸anJ gX)).below (Ext.trans' S.E hC)),trivial⟩ (hk:=⟨jk,gX,trivial⟩) fun ac u Dn S=>amV (cZ _ _ ?_);refine amX S (fun qo=>?_) (fun qo=>?_)
  ·refine ant<|adr S 5 [.idx k m.length,.mem 0 0] [(24,v),(28,y28.v)] (fun S=>?_) (hk:=⟨gX,trivial⟩);obtain⟨R,Y31⟩:=R.bC S (anR Dn);have q32:=S.E.size;have q33:=R.lt;refine am4 S (some 29) (D9 ((h'.2 _ (jS▸anJ gX)).1.below S.E) (hlim _ (jS▸anJ gX))) ?_;rintro e u ⟨c,rfl,hcm,hcs,PX⟩;refine⟨_,rfl,PX,fun ac S=>?_⟩;obtain⟨R,Y35⟩:=R.bC S (anR PX);have G36:=anZ (Sx.dV.ow hcm q32 q33) fun _ h=>mJ h q32;refine adr S 1 [] [(30,.agg (Sx.L [.i 4,.i 0,.i 0,.i 0]++c.cells++Sx.L [.int .u8 0,.int .u8 0,.int .u8 0,.int .u8 0]).toArray)] fun S=>ani S 31 1 (Sx.L [.i 4,.i 0,.i 0,.i 0]++c.cells++Sx.L [.int .u8 0,.int .u8 0,.int .u8 0,.int .u8 0]) (fun ac u b37 E38 ah1 S=>?_);have hel:es.length≤k:=hR.2.2;obtain⟨R,Y40⟩:=R.bC S (aos E38 ah1);refine anh S R 0 32 rfl qc (Sx.nJ (m:=1) (k:=55) (A:=(Sx.L [.i 4,.i 0,.i 0,.i 0]++c.cells++Sx.L [.int .u8 0,.int .u8 0,.int .u8 0,.int .u8 0])) (S.bx 0)) (by show es.length+1≤9223372036854775807; omega) (by show(es.length+1)*696≤140737488355328; omega) fun ac u v41 X42 R S=>adr S 1 [] [(5,v41)] fun S=>amV<|bW _ _<|ant<|adr S 3 [.re 13 (.i (IntKind.i64.wrap ((k:Int)+1))) (.i (k+1:Nat))] [(6,.i (k+1:Nat))] (hk:=⟨am8 (by omega),trivial⟩) fun S=>amV ?_;have S:=S.lu 1;obtain⟨R,Y43⟩:=R.bC S (aoQ 1);show ∃i',_∧_;exact⟨((k+1),v41,(es++[(⟨4,0,0,0,c,.none⟩:aC)])),⟨by omega,⟨kG hR.1 ⟨(show I64 4 by decide),(show I64 0 by decide),(show I64 0 by decide),(show I64 0 by decide),qh ⟨BJ (h'.2 _ (jS▸anJ gX)),hlim _ (jS▸anJ gX)⟩ hcs⟩,by rw[y8 jk gX mY jS,anq (by simpa using qo)]; exact qg hR.2.1 (by show(bU.mk 4 0 0 0 c.key _)=_; rw[qJ hcs]; rfl),sS hR.2.2⟩,R.as (show [(⟨45,55,v41,es.length+1,(es.flatMap aC.cells++(Sx.L [.i 4,.i 0,.i 0,.i 0]++c.cells++Sx.L [.int .u8 0,.int .u8 0,.int .u8 0,.int .u8 0]))⟩:Sx.Row)]=[⟨45,55,v41,(es++[(⟨4,0,0,0,c,.none⟩:aC)]).length,(es++[(⟨4,0,0,0,c,.none⟩:aC)]).flatMap aC.cells⟩] by rw[anX,aov,apw]; rfl),anZ (an0 (anL kN (anA Y31 (anA Y35 (anA Y40 (anA X42 Y43))))) (anL G36 (anA Y40 (anA X42 Y43)))) fun _ h=>kG h.1 h.2,S.sn⟩,by show _-_<_-_; omega⟩
  refine ano<|bW _ _<|ant<|adr S 3 [.re 13 (.i (IntKind.i64.wrap ((k:Int)+1))) (.i (k+1:Nat))] [(6,.i (k+1:Nat))] (hk:=⟨am8 (by omega),trivial⟩) fun S=>amV ?_;obtain⟨R,Y44⟩:=R.bC S (anR Dn);show ∃i',_∧_;exact⟨((k+1),v,es),⟨by omega,⟨hR.1,by rw[hR.2.1,y8 jk gX mY jS,anv (by simpa using qo),aoK],Nat.le_succ_of_le hR.2.2⟩,R,(anL kN Y44),S.sn⟩,by show _-_<_-_; omega⟩
 refine anB<|iQ _ _<|amW fun _ vk=>adr S 2 [] [(4,v)] fun S=>amV<|vk _ _<|anr ?_;have hF:=kN;have hkk:=anE bM;refine am2 S results77 ?_;exact⟨_,es,rfl,⟨R.own _ anK,hF.mono fun i hi=>⟨hi.1,fun e=>hi.2 (Sx.eY anK e)⟩⟩,hR.1,by rw[hR.2.1,J3 (by omega) hlm],by have:=hR.2.2; omega,S.E⟩
theorem Jc{w:World}{v:Value}{l:List aj}(h:aN 47 aj.cells w v l)(hn:l.length≤100000) :
  Calls prog 110 #[v] w fun e w'=>∃v',e = .returned v'∧agL w.heap.size w' v' (fH (keys l))∧Ext w w':=by
 obtain⟨a,cap,rfl⟩:=h.shape;refine am0 func110 ntmps110 fun ac S=>amW fun _ aO=>adr S 1 [] [(2,.slice none 0 0)] fun S=>amV<|aO _ _<|amW (fun _ eG=>?_);have R:=aou S;refine anm S R 5 1 3 1 [.i 0] fun ac u v3 E4 X5 R S=>adr S 1 [] [(3,v3)] fun S=>amV<|eG _ _<|anj fun _ iQ=>amW fun _ jB=>adr S 1 [] [(4,.i 1)] fun S=>amV<|jB _ _<|anp ?_;refine anP (ι:=Nat×Value) (fun p a' w'=>(1≤p.1∧p.1≤l.length+1)∧Sx.Rw w w' [] [⟨3,1,p.2,(mD l p.1).length,(mD l p.1).map IK⟩]∧Sx.St w a' w' 31 [(0,.slice a l.length cap),(2,.slice none 0 0),(3,p.2),(4,.i p.1)] [] []) (fun p=>l.length+1-p.1) (1,v3) ⟨⟨anw _,by omega⟩,R.as (show [(⟨3,1,v3,1,[.i 0]⟩:Sx.Row)]=[⟨3,1,v3,(mD l 1).length,(mD l 1).map IK⟩] by rw[Zm]; rfl),S.sn⟩ ?_;rintro⟨k,v⟩ ac u hI;try dsimp only at hI
 obtain⟨hR,R,S⟩:=hI;refine anj fun _ dJ=>amW fun _ gZ=>adr S 4 [] [(9,.bool ((k:Int)<(l.length:Int)))] fun S=>amV (gZ _ _ ?_);refine amX S (fun bM=>?_) (fun bM=>?_)
 ·refine ano<|dJ _ _<|anj fun _ bW=>anp<|amW (fun _ cZ=>?_);have mG:k<l.length:=by have:=anC bM; omega
  obtain⟨b13,o14,rfl,x19,xR,Js,LX⟩:=anF h (fun _=>rfl) (k) mG;have S:=S.view0 Js LX;refine adr S 6 [.idx k l.length,.mem 0 2] [(17,.bool ((x19.depth)==0))] (hk:=⟨mG,trivial⟩) fun S=>amV (cZ _ _ ?_);refine amX S (fun hc21=>?_) (fun hc21=>?_)
  ·have hkl:k<l.length:=by have:=anC bM; omega
   refine ant<|adr S 2 [] [(18,v),(19,.i k)] fun S=>ani S 20 1 [.i k] (fun ac u b22 JX Gm S=>?_);have hpl:=Ll (l:=l) (k:=k) (by omega);obtain⟨R,Y25⟩:=R.bC S (aos JX Gm);refine anh S R 0 21 rfl VH (Sx.nJ (m:=1) (k:=1) (A:=[.i k]) (S.bx 0)) (by show(mD l k).length+1≤9223372036854775807; omega) (by show((mD l k).length+1)*8≤140737488355328; omega) fun ac u v26 X27 R S=>adr S 1 [] [(3,v26)] fun S=>amV<|bW _ _<|ant<|adr S 3 [.re 11 (.i (IntKind.i64.wrap ((k:Int)+1))) (.i (k+1:Nat))] [(4,.i (k+1:Nat))] (hk:=⟨am8 (by omega),trivial⟩) fun S=>amV ?_;have S:=S.lu 1;obtain⟨R,Y28⟩:=R.bC S (aoQ 1);show ∃i',_∧_;have hkl:k<l.length:=by have:=anC bM; omega
   exact⟨((k+1),v26),⟨⟨by omega,by omega⟩,R.as (show [(⟨3,1,v26,(mD l k).length+1,(mD l k).map IK++[IK k]⟩:Sx.Row)]=[⟨3,1,v26,(mD l (k+1)).length,(mD l (k+1)).map IK⟩] by rw[Jb hR.1 mG xR,anv (by simpa using hc21),anX,an6]; rfl),S.sn⟩,by show _-_<_-_; omega⟩
  refine ano<|bW _ _<|ant<|adr S 3 [.re 11 (.i (IntKind.i64.wrap ((k:Int)+1))) (.i (k+1:Nat))] [(4,.i (k+1:Nat))] (hk:=⟨am8 (by omega),trivial⟩) fun S=>amV ?_;show ∃i',_∧_;have hkl:k<l.length:=by have:=anC bM; omega
  exact⟨((k+1),v),⟨⟨by omega,by omega⟩,R.as (anu (fun l:List Nat=>[(⟨3,1,v,l.length,l.map IK⟩:Sx.Row)]) (show(mD l k)=(mD l (k+1)) by rw[Jb hR.1 mG xR,anq (by simpa using hc21),aoK])),S.sn⟩,by show _-_<_-_; omega⟩
 refine anB<|iQ _ _<|anj fun _ qm=>amW (fun _ mM=>?_);have hkl:l.length≤k:=by have:=anE bM; omega
 refine adr S 3 [] [(24,.bool (0<(l.length:Int)))] fun S=>amV (mM _ _ ?_);refine amX S (fun hc31=>?_) (fun hc31=>?_)
 ·refine ant<|adr S 3 [] [(25,v),(27,.i l.length)] fun S=>ani S 28 1 [.i l.length] (fun ac u b32 E33 ali S=>?_);have hpl:=Ll (l:=l) (k:=k) (by omega);obtain⟨R,Y35⟩:=R.bC S (aos E33 ali);refine anh S R 0 29 rfl VH (Sx.nJ (m:=1) (k:=1) (A:=[.i l.length]) (S.bx 0)) (by show(mD l k).length+1≤9223372036854775807; omega) (by show((mD l k).length+1)*8≤140737488355328; omega) fun ac u v36 X37 R S=>adr S 1 [] [(3,v36)] fun S=>amV<|qm _ _<|amW fun _ jG=>adr S 2 [] [(2,v36)] fun S=>amV<|jG _ _<|amZ S results110 ?_;exact⟨_,rfl,by have:=R.own _ anK; rw[Lm hkl,anv (by have:=anC hc31; omega)]; unfold agL; rw[anX,an6]; exact this,S.E⟩
 refine ano<|qm _ _<|amW fun _ uF=>adr S 2 [] [(2,v)] fun S=>amV<|uF _ _<|amZ S results110 ?_;exact⟨_,rfl,by have:=R.own _ anK; rw[Lm hkl,anq (by have:=anE hc31; omega),aoK]; exact this,S.E⟩
end Go.Proofs.YtfmkkemfhjkajaaGreatDoor
