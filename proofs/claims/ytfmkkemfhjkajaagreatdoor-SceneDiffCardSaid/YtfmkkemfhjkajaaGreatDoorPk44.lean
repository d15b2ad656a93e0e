/- The laws' own example: a scene of three nodes. Reference -/
import Derived.Test.YtfmkkemfhjkajaaGreatDoorPk43
import Derived.Test.YtfmkkemfhjkajaaGreatDoorDfW
set_option linter.unusedVariables false
namespace Go.Proofs.YtfmkkemfhjkajaaGreatDoor
open _root_.Go.Proofs.Tryz
section
set_option maxHeartbeats 3200000
set_option maxRecDepth 100000
open Go.RowKit
variable{α:Type}{K:Nat}
theorem gB.lim{w:World}{id kind:Int}{nd:aj}(h:gB w id kind nd)(hk:kind=1∨kind=2):nd.lim:=by
 rcases h with ⟨rfl,t,ht,rfl⟩ | ⟨rfl,t,ht,rfl⟩ | ⟨rfl,t,b,ht,-,rfl⟩ | ⟨k,rfl⟩
 ·exact⟨CY (ht.fit (by decide)),anz _,anz _,anz _,(fun p hp=>by cases hp),anz _,anz _,(fun p hp=>by cases hp),anz _⟩
 ·exact⟨CY (ht.fit (by decide)),anz _,anz _,anz _,(fun p hp=>by cases hp),anz _,anz _,(fun p hp=>by cases hp),anz _⟩
 ·omega
 omega
theorem gB.is{w:World}{id kind:Int}{nd:aj}(h:gB w id kind nd)(hk:kind=1∨kind=2):nd.id=id∧nd.kind=kind∧nd.depth=0:=by
 rcases h with ⟨rfl,t,ht,rfl⟩ | ⟨rfl,t,ht,rfl⟩ | ⟨rfl,t,b,ht,-,rfl⟩ | ⟨k,rfl⟩
 ·exact⟨rfl,rfl,rfl⟩
 ·exact⟨rfl,rfl,rfl⟩
 ·omega
 omega
structure U3 (κ:aQ) (a b c:aF):Prop where
 e:κ=⟨2,2,.none,[a,b,c]⟩
 a0:a.id=1∧a.kind=1∧a.depth=0∧a.chk=0
 b0:b.id=2∧b.kind=2∧b.depth=1∧b.chk=0
 c0:c.id=3∧c.kind=2∧c.depth=0∧c.chk=0
theorem U3.valid{κ:aQ}{a b c:aF}(h:U3 κ a b c):κ.valid=true:=by
 obtain⟨rfl,⟨a1,a2,a3,a4⟩,⟨b1,b2,b3,b4⟩,⟨c1,c2,c3,c4⟩⟩:=h;refine aQ.oI.2 ⟨(by show(1:Int)≤2∧(2:Int)≤256∧(1:Int)≤2∧(2:Int)≤256; decide),by show 3≤64; omega,?_,?_,?_,trivial⟩
 ·simp[fO,pR,a4,a3]
 ·simp[fO,pR,b4,b3,a1,b1,a2,a3]
 simp[fO,pR,c4,c3,a1,b1,c1,b2,b3]
theorem Xh{a b c:aF}(a3:a.depth=0)(b3:b.depth=1)(c3:c.depth=0):dR [a,b,c] 0=2:=by
 have h3:∀j,0<j→j<2→l7 [a,b,c] 0<l7 [a,b,c] j:=fun j h1 h2=>by
  obtain rfl:j=1:=by omega
  show a.depth<b.depth;omega
 have h4:2<3→l7 [a,b,c] 2≤l7 [a,b,c] 0:=fun _=>by
  show c.depth≤a.depth;omega
 rw[CV (by simp)];exact Nv (n:=3) (i:=0) (k:=2) (by decide) (by decide) (by decide) h3 h4
theorem U3.sub{κ:aQ}{a b c:aF}(h:U3 κ a b c):κ.endOf 0=2:=by
 have hv:=h.valid;obtain⟨rfl,⟨a1,a2,a3,a4⟩,⟨b1,b2,b3,b4⟩,⟨c1,c2,c3,c4⟩⟩:=h;have hh:aQ.has ⟨2,2,.none,[a,b,c]⟩ 0=true:=by unfold aQ.has; rw[hv]; rfl
 unfold aQ.endOf;rw[anv hh];show((dR [a,b,c] 0:Nat):Int)=2;rw[Xh a3 b3 c3]; rfl
theorem U3.par{κ:aQ}{a b c:aF}(h:U3 κ a b c):κ.QK 1=0:=by
 have hv:=h.valid;obtain⟨rfl,⟨a1,a2,a3,a4⟩,⟨b1,b2,b3,b4⟩,⟨c1,c2,c3,c4⟩⟩:=h;have hh:aQ.has ⟨2,2,.none,[a,b,c]⟩ 1=true:=by unfold aQ.has; rw[hv]; rfl
 unfold aQ.QK;rw[anv hh];show uK (l7 [a,b,c]) 1=0;simp[uK,oH,l7,a3,b3]
theorem U3.idx{κ:aQ}{a b c:aF}(h:U3 κ a b c):κ.index 3=2:=by
 have hv:=h.valid;obtain⟨rfl,⟨a1,a2,a3,a4⟩,⟨b1,b2,b3,b4⟩,⟨c1,c2,c3,c4⟩⟩:=h;unfold aQ.index;rw[anv hv];simp[jL,jD,List.findIdx?_cons,a1,b1,c1]
theorem U3.app{κ:aQ}{a b c:aF}(h:U3 κ a b c):kD κ (.remove 1)=(⟨2,2,.none,[c]⟩,0):=by
 have hv:=h.valid;obtain⟨rfl,⟨a1,a2,a3,a4⟩,⟨b1,b2,b3,b4⟩,⟨c1,c2,c3,c4⟩⟩:=h;have he:=Xh a3 b3 c3;refine YW (l:=[c]) hv (by simp[bU.named,bU.remove]) ?_ ?_
 ·have hf:jD [a,b,c] (bU.remove 1).id=some 0:=by simp[jD,bU.remove,List.findIdx?_cons,a1]
  unfold nP;rw[anq (by simp[bU.remove]),anv (show(bU.remove 1).kind=2 from rfl)];simp only[hf];show Except.ok (wH [a,b,c] 0 (dR [a,b,c] 0))=_;rw[he]; rfl
 refine aQ.oI.2 ⟨(by show(1:Int)≤2∧(2:Int)≤256∧(1:Int)≤2∧(2:Int)≤256; decide),by show 1≤64; omega,?_,trivial⟩;simp[fO,pR,c4,c3]
theorem U3.chk{a b c:aF}{κ:aQ}(h:U3 κ a b c):aQ.chk ⟨1,1,.none,[b,c]⟩=(17,0):=by
 obtain⟨rfl,⟨a1,a2,a3,a4⟩,⟨b1,b2,b3,b4⟩,⟨c1,c2,c3,c4⟩⟩:=h;unfold aQ.chk;rw[anq (by show ¬((1:Int)<1∨(256:Int)<1∨(1:Int)<1∨(256:Int)<1); decide),anq (by show ¬64<2; omega)];simp[jl,fO,pR,b4,b3]
theorem agN{w:World}{b:Nat}{L:List aj}(hx:Bx w b (L.flatMap aj.cells).toArray)(hm:L.length≤maxLen):aN 47 aj.cells w (.slice (some ⟨b,0,none⟩) L.length L.length) L:=
 ⟨_,L.length,rfl,hm,.inr ⟨b,0,rfl,hx.1,anw _,fun i hi j hj=>by rw[aok,hx.2.1,List.getElem?_toArray,Sx.uT (k:=47) (f:=aj.cells) (fun _=>rfl) L i hi j hj]⟩⟩
theorem qR{f:FuncId}{args:Array Value}{w:World}{v v':Value}(h:Calls prog f args w fun e w'=>e = .returned v∧Ext w w')(hv:v=v'):Calls prog f args w fun e w'=>e = .returned v'∧Ext w w':=hv▸h
abbrev xZ (b:Nat)(x y z:aj):aT:=⟨2,2,.none,some ⟨b,0,none⟩,3,[x,y,z]⟩
theorem NM{w:World}{id kind:Int}{nd:aj}(h:gB w id kind nd)(hk:kind=1∨kind=2)(hi:1≤id∧id≤1073741824):nd.checkN=0:=by
 have:=h.check;rw[show((((decide (1≤id))&&(decide (id≤1073741824)))&&(decide (1≤kind)))&&(decide (kind≤3)))=true by simp; omega]at this;simpa using this
theorem agO{w:World}{x y z:aj}{b:Nat}(h1:gB w 1 1 x)(h2:gB w 2 2 y)(h3:gB w 3 2 z):U3 (xZ b x {y with depth:=1} z).key x.key ({y with depth:=1}:aj).key z.key:=
 have a:=h1.is (.inl rfl); have c:=h2.is (.inr rfl); have d:=h3.is (.inr rfl)
 ⟨rfl,⟨a.1,a.2.1,a.2.2,(pO x).trans (NM h1 (.inl rfl) (by decide))⟩,⟨c.1,c.2.1,rfl,(pO _).trans (by rw[CQ (NM h2 (.inr rfl) (by decide)) 1]; rfl)⟩,⟨d.1,d.2.1,d.2.2,(pO z).trans (NM h3 (.inr rfl) (by decide))⟩⟩
theorem agP{w:World}{x y z:aj}{b:Nat}(h1:gB w 1 1 x)(h2:gB w 2 2 y)(h3:gB w 3 2 z){A:List Value}(hx:Bx w b A.toArray)(hA:A=[x,{y with depth:=1},z].flatMap aj.cells:=by kernel_rfl):dU 20 w (xZ b x {y with depth:=1} z)∧∀n∈(xZ b x {y with depth:=1} z).ns,n.lim:=by
 have k1:=h1.ok (K:=20) (by decide) (by decide) (by decide);have k2:=h2.ok (K:=20) (by decide) (by decide) (by decide);have k3:=h3.ok (K:=20) (by decide) (by decide) (by decide);have k2':fV 20 w {y with depth:=1}:=⟨⟨k2.1.1,k2.1.2.1,(show I64 1 by decide),k2.1.2.2.2⟩,k2.2⟩;subst hA;refine⟨⟨(show I64 2 by decide),(show I64 2 by decide),agN hx (by show 3≤9223372036854775807; decide),fun n hn=>?_⟩,fun n hn=>?_⟩
 ·rcases anS.1 hn with rfl | hn
  ·exact k1
  rcases anS.1 hn with rfl | hn
  ·exact k2'
  obtain rfl:=aoe.1 hn; exact k3
 rcases anS.1 hn with rfl | hn
 ·exact h1.lim (.inl rfl)
 rcases anS.1 hn with rfl | hn
 ·exact h2.lim (.inr rfl)
 obtain rfl:=aoe.1 hn; exact h3.lim (.inr rfl)
theorem acd{base:Nat}{s t:aT}{e:aC}{code:Int}{w:World}{c:aF}(h:UZ base K s e code t w)(ha:kD s.key e.key=(⟨2,2,.none,[c]⟩,0)):code=0∧∃(a:Option Addr) (n:Nat) (q:aj),t=⟨2,2,.none,a,n,[q]⟩∧q.key=c:=by
 have h1:=h.1.trans ha;clear h ha;have hk:t.key=⟨2,2,.none,[c]⟩:=anu Prod.fst h1;have hc:code=0:=anu Prod.snd h1;have e1:t.w=2:=anu aQ.w hk;have e2:t.h=2:=anu aQ.h hk;have e3:t.bg = .none:=anu aQ.bg hk;have e4:t.ns.map aj.key=[c]:=anu aQ.ns hk;obtain⟨q,e5,e6⟩:=List.map_eq_singleton_iff.1 e4;obtain⟨tw,th,tb,ta,tn,tl⟩:=t;exact⟨hc,ta,tn,q,by rw[show tw=2 from e1,show th=2 from e2,show tb = .none from e3,show tl=[q]from e5],e6⟩
theorem aeb{base:Nat}{w:World}{ta:Option Addr}{tn:Nat}{q:aj}(h:l9 base (aT.s ⟨2,2,.none,ta,tn,[q]⟩) [q] w):∃bt,ta=some ⟨bt,0,none⟩∧base≤bt∧bt<w.heap.size∧w.rangeAt bt (0+0*47) q.cells:=by
 have h1:=(aoc h).1;obtain⟨b,o,c,hv,hb,hr⟩:=Vp.lM h1.1 (fun _=>rfl) 0 (by show 0<1; decide);rcases h1.2 with h0 | ⟨g,cap,cur,hg,h2,-⟩
 ·exact absurd h0 (by show ¬1=0; decide)
 simp only[aT.s,anY]at hv hg;have e:=hg.1.symm.trans hv.1;simp only[anx,aoV]at e;obtain⟨rfl,rfl,-⟩:=e;exact⟨g,hg.1,h2,hb,hr⟩
theorem aec:aC.key ⟨2,1,0,0,gK,.none⟩ = .remove 1:=rfl
theorem Gg(w:World):gK.lim:=by
 have h:=(lU (K:=20) w (by decide) (by decide)).2.1;exact⟨CY h,by show 0≤10000000; decide,by show 0≤10000000; decide,by show 0≤10000000; decide,(fun p hp=>by have hp:p∈([]:List ak):=hp; cases hp),by show 0≤10000000; decide,by show 0≤10000000; decide,(fun p hp=>by have hp:p∈([]:List ak):=hp; cases hp),by show 0≤10000000; decide⟩
theorem agQ(w:World):yN 20 w ⟨2,1,0,0,gK,.none⟩:=⟨(show I64 2 by decide),(show I64 1 by decide),(show I64 0 by decide),(show I64 0 by decide),lU w (by decide) (by decide)⟩
theorem U4(w:World) :
  Calls prog 48 #[] w fun e w'=>∃(b:Nat) (x y z:aj),e = .returned (xZ b x y z).v∧U3 (xZ b x y z).key x.key y.key z.key∧(dU 20 w' (xZ b x y z)∧∀n∈(xZ b x y z).ns,n.lim)∧Ext w w':=by
 skip;refine am0 func48 ntmps48 fun ac S=>amW fun _ aO=>amY S 0 [.i 0,.i 0,.int .u8 0,.int .u8 0,.int .u8 0,.int .u8 0,.slice none 0 0] fun ac u b2 E3 hb4 S=>amV<|aO _ _<|amW fun _ dA=>am4 S (some 4) (rM 1 1 _) ?_;rintro e u ⟨x,rfl,dx,E6⟩;refine⟨_,rfl,E6,fun ac S=>?_⟩;refine am4 S (some 5) (rM 2 2 _) ?_;rintro e u ⟨y,rfl,dy,E7⟩;refine⟨_,rfl,E7,fun ac S=>?_⟩;refine am4 S (some 6) (rM 3 2 _) ?_;rintro e u ⟨z,rfl,dz,E8⟩;refine⟨_,rfl,E8,fun ac S=>?_⟩;refine amY S 1 (Sx.L [.i 0,.i 0,.i 0]++Sx.za++Sx.L [.slice none 0 0,.i 0,.int .u8 0,.i 0,.bool false,.bool false,.slice none 0 0,.i 0,.slice none 0 0,.i 0,.i 0,.i 0,.i 0,.slice none 0 0,.i 0,.slice none 0 0,.i 0,.i 0,.slice none 0 0,.i 0]) fun ac u b9 BF LZ S=>amY S 2 (Sx.L [.i 0,.i 0,.i 0]++Sx.za++Sx.L [.slice none 0 0,.i 0,.int .u8 0,.i 0,.bool false,.bool false,.slice none 0 0,.i 0,.slice none 0 0,.i 0,.i 0,.i 0,.i 0,.slice none 0 0,.i 0,.slice none 0 0,.i 0,.i 0,.slice none 0 0,.i 0]) fun ac u b12 Dn ahS S=>amY S 3 (Sx.L [.i 0,.i 0,.i 0]++Sx.za++Sx.L [.slice none 0 0,.i 0,.int .u8 0,.i 0,.bool false,.bool false,.slice none 0 0,.i 0,.slice none 0 0,.i 0,.i 0,.i 0,.i 0,.slice none 0 0,.i 0,.slice none 0 0,.i 0,.i 0,.slice none 0 0,.i 0]) fun ac u b15 Oq JA S=>am1 S 2 (off:=0) (cs:=x.cells) rfl (fun u ZC S=>?_);have XL:=am5 (Ext.trans' E7 (Ext.trans' E8 (Ext.trans' BF (Ext.trans' Dn Oq)))) ZC (by have:=(Ext.trans' E7 E8).size; omega);have Eh:=am5 (Ext.trans' E8 (Ext.trans' BF (Ext.trans' Dn Oq))) ZC (by have:=E8.size; omega);have ES:=am5 (Ext.trans' BF (Ext.trans' Dn Oq)) ZC (by omega);have X23:=S.bx 1;refine am1 S 1 (off:=0) (cs:=y.cells) rfl (fun u C22 S=>?_);have ak4:=gB.bG (gB.below dx XL) C22 X23;have uD:=gB.bG (gB.below dy Eh) C22 X23;have xQ:=gB.bG (gB.below dz ES) C22 X23;have X28:=S.bx 0;refine am1 S 0 (off:=0) (cs:=z.cells) rfl (fun u C27 S=>?_);have SA:=gB.bG ak4 C27 X28;have SB:=gB.bG uD C27 X28;have Dp:=gB.bG xQ C27 X28;refine amV<|dA _ _<|amW fun _ jF=>adr S 1 [] [(7,.pointer (some ⟨b12,2,none⟩))] (fun S=>?_);have X34:=S.bx 1;refine anb S 1 (off:=2) (v := .i 1) rfl (fun u Oo S=>?_);have OI:=gB.bG SA Oo X34;have aaj:=gB.bG SB Oo X34;have SS:=gB.bG Dp Oo X34;refine amV<|jF _ _<|amW fun _ jG=>adr S 3 [.mem 2 0,.mem 1 0,.mem 0 0] [(8,x.v),(9,.agg (Sx.L [.i y.id,.i y.kind,.i 1]++y.t.cells++Sx.L [y.cs,.i y.aK,.int .u8 (y.dZ.toNat:Int),.i y.blend,.bool y.isolated,.bool y.dG,y.ps,.i y.aV,y.fs]++y.style.cells++Sx.L [y.ss]++y.img.cells++Sx.L [.i y.bY]).toArray),(10,z.v)] fun S=>ani S 11 3 (x.cells++Sx.L [.i y.id,.i y.kind,.i 1]++y.t.cells++Sx.L [y.cs,.i y.aK,.int .u8 (y.dZ.toNat:Int),.i y.blend,.bool y.isolated,.bool y.dG,y.ps,.i y.aV,y.fs]++y.style.cells++Sx.L [y.ss]++y.img.cells++Sx.L [.i y.bY]++z.cells) fun ac u b39 XK ahl S=>adr S 1 [] [(12,.agg #[.i 2,.i 2,.int .u8 0,.int .u8 0,.int .u8 0,.int .u8 0,.slice (some ⟨b39,0,none⟩) 3 3])] (fun S=>?_);have X43:=S.bx 4;refine am1 S 4 (off:=0) (cs:=[.i 2,.i 2,.int .u8 0,.int .u8 0,.int .u8 0,.int .u8 0,.slice (some ⟨b39,0,none⟩) 3 3]) rfl (fun u C42 S=>?_);have OJ:=gB.bG (gB.below OI XK) C42 X43;have XF:=gB.bG (gB.below aaj XK) C42 X43;have ad3:=gB.bG (gB.below SS XK) C42 X43;refine amV<|jG _ _<|anr ?_;have key:bodyPost prog Tryz.f48 (fun e w'=>∃(b:Nat) (x y z:aj),e = .returned (xZ b x y z).v∧U3 (xZ b x y z).key x.key y.key z.key∧(dU 20 w' (xZ b x y z)∧∀n∈(xZ b x y z).ns,n.lim)∧Ext w w') .ret _ u:=Sx.PW S 4 results48 rfl (v := .agg (aT.cells (xZ b39 x {y with depth:=1} z)).toArray) ⟨b39,x,{y with depth:=1},z,rfl,agO (OJ) (XF) (ad3),agP (OJ) (XF) (ad3) (S.bx 0),S.E⟩;exact key
theorem Y8{w w':World}{b o:Nat}{l:List Value}(h:b<w.heap.size∧w.rangeAt b o l)(hE:Ext w w'):b<w'.heap.size∧w'.rangeAt b o l:=⟨an3 h.1 hE.size,fun j v hv=>(hE.cell (p:=⟨b,o+j,none⟩) h.1).trans (h.2 j v hv)⟩
theorem aed{w:World}{b:Nat}{x y z:aj}(h:dU 20 w (xZ b x y z)):dU 20 w ⟨1,1,.none,Sx.uw (some ⟨b,0,none⟩) 1 3 47,2,[y,z]⟩:=
 ⟨(show I64 1 by decide),(show I64 1 by decide),Sx.Kq (L:=[x,y,z]) (i:=1) h.2.2.1 (by show 1≤3; decide) (by show 3≤3; decide),fun n hn=>h.2.2.2 n (aot _ hn)⟩
theorem wK{w:World}(hg:lG w) :
  Calls prog 16 #[] w fun e w'=>e = .returned (.bool true)∧Ext w w':=by
 skip;refine am0 func16 ntmps16 fun ac S=>amW fun _ aO=>adr S 1 [] [(0,.bool false)] fun S=>amV<|aO _ _<|amW fun _ eG=>am4 S (some 6) (U4 _) ?_;rintro e u ⟨b,x,y,z,rfl,hS,hok,E3⟩;refine⟨_,rfl,E3,fun ac S=>?_⟩;refine amY S 1 [.i 0,.i 0,.int .u8 0,.int .u8 0,.int .u8 0,.int .u8 0,.slice none 0 0] fun ac u b4 E5 hb6 S=>am1 S 0 (off:=0) (cs:=[.i 2,.i 2,.int .u8 0,.int .u8 0,.int .u8 0,.int .u8 0,.slice (some ⟨b,0,none⟩) 3 3]) rfl (fun u C7 S=>?_);have E8:=am5 E5 C7 (by omega);refine amV<|eG _ _<|amW fun _ gZ=>adr S 2 [.mem 0 0] [(8,.agg #[.i 2,.i 2,.int .u8 0,.int .u8 0,.int .u8 0,.int .u8 0,.slice (some ⟨b,0,none⟩) 3 3]),(9,.agg (Sx.L [.i 2,.i 1,.i 0,.i 0,.i 0,.i 0,.i 0]++Sx.za++Sx.L [.slice none 0 0,.i 0,.int .u8 0,.i 0,.bool false,.bool false,.slice none 0 0,.i 0,.slice none 0 0,.i 0,.i 0,.i 0,.i 0,.slice none 0 0,.i 0,.slice none 0 0,.i 0,.i 0,.slice none 0 0,.i 0,.int .u8 0,.int .u8 0,.int .u8 0,.int .u8 0]).toArray)] (fun S=>?_);have hl1:=(S.bx 0).1;refine am4 S (some 10) (QX (K:=20) (s:=xZ b x y z) (e:=⟨2,1,0,0,gK,.none⟩) ((dU.below hok.1 E8)) (hg.below S.E) (agQ _) hok.2 (Gg w)) ?_;rintro e u ⟨t,code,rfl,har,BF⟩;obtain⟨rfl,ta,tn,q,rfl,hq⟩:=acd har (aec▸hS.app);have hqi:q.id=3:=(anu aF.id hq).trans hS.c0.1;obtain⟨bt,rfl,hb0,hbt,hrt⟩:=aeb har.2.1;refine⟨_,rfl,BF,fun ac S=>?_⟩;refine adr S 3 [] [(11,.agg #[.i 2,.i 2,.int .u8 0,.int .u8 0,.int .u8 0,.int .u8 0,.slice (some ⟨bt,0,none⟩) 1 tn]),(12,.i 0)] fun S=>amY S 2 [.i 0,.i 0,.int .u8 0,.int .u8 0,.int .u8 0,.int .u8 0,.slice none 0 0] fun ac u b11 Ed XM S=>am1 S 0 (off:=0) (cs:=[.i 2,.i 2,.int .u8 0,.int .u8 0,.int .u8 0,.int .u8 0,.slice (some ⟨bt,0,none⟩) 1 tn]) rfl (fun u C14 S=>?_);have TU:=am5 (Ext.trans' E8 (Ext.trans' BF Ed)) C14 (by have:=(Ext.trans' E8 BF).size; omega);have Oq:=am5 Ed C14 (by omega);refine adr S 1 [] [(3,.i 0)] fun S=>amV<|gZ _ _<|amW fun _ iD=>adr S 4 [.mem 1 6,.slc 1 3 3 3] [(17,.agg #[.i 1,.i 1,.int .u8 0,.int .u8 0,.int .u8 0,.int .u8 0,.slice (Sx.uw (some ⟨b,0,none⟩) 1 3 47) (3-1) (3-1)])] (hk:=⟨(by omega),trivial⟩) fun S=>am3 S 18 (qR (yO (K:=20) (s:=⟨1,1,.none,Sx.uw (some ⟨b,0,none⟩) 1 3 47,2,[y,z]⟩) (aed ((dU.below hok.1 TU))) (hg.below S.E)) (show Value.tuple #[.i (aQ.chk ⟨1,1,.none,[y.key,z.key]⟩).1,.i (aQ.chk ⟨1,1,.none,[y.key,z.key]⟩).2] = .tuple #[.i 17,.i 0] by rw[hS.chk])) fun ac u Dy S=>adr S 5 [] [(4,.i 17),(5,.i 0)] fun S=>amV<|iD _ _<|amW (fun _ ji=>?_);have hqn:=(Y8 (And.intro hbt hrt) (Ext.trans' Oq Dy));have S:=S.view hqn.1 hqn.2 (fun p hp=>by rcases anS.1 hp with rfl | hp; (show b11≠bt; omega); rcases anS.1 hp with rfl | hp; (show b4≠bt; omega); cases hp);refine adr S 1 [.mem 1 0] [(21,.agg #[.i 2,.i 2,.int .u8 0,.int .u8 0,.int .u8 0,.int .u8 0,.slice (some ⟨b,0,none⟩) 3 3])] fun S=>am3 S 22 (qR (nV (K:=20) (s:=xZ b x y z) ((dU.below hok.1 (Ext.trans' TU Dy))) (hg.below S.E)) (anu Value.bool hS.valid)) fun ac u Eh S=>adr S 2 [.mem 1 0] [(23,.bool true),(24,.agg #[.i 2,.i 2,.int .u8 0,.int .u8 0,.int .u8 0,.int .u8 0,.slice (some ⟨b,0,none⟩) 3 3])] fun S=>Sx.Bc S (some 25) (qR (QM (K:=20) (s:=xZ b x y z) ((dU.below hok.1 (Ext.trans' TU (Ext.trans' Dy Eh)))) (hg.below S.E) 0) (anu (Value.int .i64) hS.sub)) ?_;rintro e u ⟨rfl,ES⟩;refine⟨_,rfl,ES,fun ac S=>?_⟩;refine adr S 4 [.mem 1 0] [(28,.bool true),(29,.agg #[.i 2,.i 2,.int .u8 0,.int .u8 0,.int .u8 0,.int .u8 0,.slice (some ⟨b,0,none⟩) 3 3])] fun S=>Sx.Bc S (some 30) (qR (QN (K:=20) (s:=xZ b x y z) ((dU.below hok.1 (Ext.trans' TU (Ext.trans' Dy (Ext.trans' Eh ES))))) (hg.below S.E) 1) (anu (Value.int .i64) hS.par)) ?_;rintro e u ⟨rfl,SQ⟩;refine⟨_,rfl,SQ,fun ac S=>?_⟩;refine adr S 4 [.mem 1 0] [(33,.bool true),(34,.agg #[.i 2,.i 2,.int .u8 0,.int .u8 0,.int .u8 0,.int .u8 0,.slice (some ⟨b,0,none⟩) 3 3])] fun S=>Sx.Bc S (some 35) (qR (QL (K:=20) (s:=xZ b x y z) ((dU.below hok.1 (Ext.trans' TU (Ext.trans' Dy (Ext.trans' Eh (Ext.trans' ES SQ)))))) (hg.below S.E) 3) (anu (Value.int .i64) hS.idx)) ?_;rintro e u ⟨rfl,JX⟩;refine⟨_,rfl,JX,fun ac S=>?_⟩;refine adr S 29 [.mem 0 6,.mem 0 6,.idx 0 1,.mem 2 0,.re 54 (.bool ((q.id)==3)) (.bool true)] [(0,.bool true)] (hk:=⟨(by decide),(by rw[hqi]; rfl),trivial⟩) fun S=>amV<|ji _ _<|amZ S results16 ?_;exact⟨rfl,S.E⟩
end
section
set_option maxHeartbeats 3200000
set_option maxRecDepth 100000
open Go.RowKit
variable{α:Type}{K:Nat}
theorem Bj{j:Nat}(h:j+1≤9223372036854775807):Value.i (IntKind.i64.wrap (((j+1:Nat):Int)-1)) = .i j:=by
 have:IntKind.i64.wrap (((j+1:Nat):Int)-1)=(j:Int):=by rw[aoW]; omega
 rw[this]
theorem EI{l:List aj}{j:Nat}{p x:aj}(hj:j<l.length)(hp:l[j]=p):uX ((keys l).take (j+1)) x.key=((((p.kind)==1)&&((x.depth)==(p.depth+1)))||decide (x.depth≤p.depth)):=by
 unfold uX;rw[an2 (by simpa using hj),List.getLast?_concat,apa,hp];rfl
theorem IU{l:List aj}{id:Int}:decide (0≤jL (keys l) id)=(keys l).any fun κ=>κ.id==id:=by
 unfold jL;cases h:jD (keys l) id with
 | none =>
  have h2:=UO.1 h;rw[show(decide ((0:Int) ≤ -1))=false from rfl];symm;rw[List.any_eq_false];intro x hx;simpa using h2 x hx
 | some i =>
  obtain⟨hi,h3⟩:=Bf h;rw[show(decide ((0:Int)≤(i:Int)))=true by simp];symm;rw[apQ];exact⟨_,anJ hi,by simpa using h3⟩
theorem NP{w:World}{a b:aj}(h:fV K w a)(h':fV K w b):Calls prog 28 #[a.v,b.v] w fun e w'=>e = .returned (.bool (a.key=b.key))∧Ext w w':=by
 rw[←ad7 h.nrm h'.nrm]; exact MG h h'
theorem ace{w:World}{a:aj}(h:fV K w a):Calls prog 90 #[a.v] w fun e w'=>e = .returned (.i a.checkN)∧Ext w w':=by
 rw[←UM]; exact Nr h
theorem Y9{w:World}{a:Option Addr}{L:List aj}{c i:Nat}(h:aN 47 aj.cells w (.slice a L.length c) L)(hi:i≤L.length):aN 47 aj.cells w (.slice (Sx.uw a 0 c 47) i c) (L.take i):=by
 have:=Sx.nK h (anz i) hi (anN hi (Sx.jO h)) (anw c);simpa using this
structure Za (l:List aj) (k:Nat):Prop where
 at':wI l k (pR ((keys l).take k))
 ok:∀(j:Nat) (hj:j<l.length),j<k→l[j].checkN=0
theorem Za.next{l:List aj}{k:Nat}{x:aj}(h:Za l k)(hk:k<l.length)(hx:l[k]=x)(hw:fO ((keys l).take k) x.key=0):Za l (k+1):=by
 refine⟨h.at'.next hk hx hw ?_,fun j hj hjk=>?_⟩
 ·rw[an2 (by simpa using hk),Ir,DY hk hx]; rfl
 by_cases e:j=k
 ·subst e;rw[hx,←pO];exact(Ey.1 hw).1
 exact h.ok j hj (by omega)
theorem Za.dep{l:List aj}{k:Nat}(h:Za l k):∀(j:Nat) (hj:j<l.length),j<k→0≤l[j].depth∧l[j].depth<8:=fun j hj hjk=>by
 have:=sJ (h.ok j hj hjk);omega
theorem U5{w:World}{v:Value}{l:List aj}(h:aN 47 aj.cells w v l){id:Int} :
  Calls prog 69 #[v,.i id] w fun e w'=>e = .returned (.i (jL (keys l) id))∧Ext w w':=by
 obtain⟨a,cap,rfl⟩:=h.shape;have hmax:l.length≤9223372036854775807:=h.len;refine am0 func69 ntmps69 fun ac S=>amW fun _ aO=>adr S 1 [] [(4,.i 0)] fun S=>amV<|aO _ _<|anj fun _ eG=>amW fun _ gY=>adr S 1 [] [(5,.i 0)] fun S=>amV<|gY _ _<|anp ?_;refine anP (ι:=Nat) (fun p a' w'=>p≤l.length∧(∀(j:Nat) (hj:j<l.length),j<p→l[j].id≠id)∧Sx.St w a' w' 20 [(0,.slice a l.length cap),(1,.i id),(4,.i 0),(5,.i p)] [] []) (fun p=>l.length-p) (0) ⟨anz _,fun j hj h=>by omega,S.sn⟩ ?_;rintro k ac u hI;try dsimp only at hI
 obtain⟨hk,hR,S⟩:=hI;refine anj fun _ lQ=>amW fun _ dA=>adr S 4 [] [(9,.bool ((k:Int)<(l.length:Int)))] fun S=>amV (dA _ _ ?_);refine amX S (fun hc6=>?_) (fun hc6=>?_)
 ·refine ano<|lQ _ _<|anj fun _ jB=>anp<|amW (fun _ dJ=>?_);have vI:k<l.length:=by have:=anC hc6; omega
  obtain⟨b9,o10,rfl,x15,DF,hb16,TN⟩:=anF h (fun _=>rfl) (k) vI;have S:=S.view0 hb16 TN;refine adr S 7 [.idx k l.length,.mem 0 0] [(18,.bool ((x15.id)==id))] (hk:=⟨vI,trivial⟩) fun S=>amV (dJ _ _ ?_);refine amX S (fun hc17=>?_) (fun hc17=>?_)
  ·refine amW fun _ jH=>adr S 2 [] [(4,.i k)] fun S=>amV<|jH _ _<|amZ S results69 ?_;exact⟨by rw[QI vI (by rw[DF]; simpa using hc17) hR],S.E⟩
  refine ano<|jB _ _<|ant<|adr S 3 [.re 11 (.i (IntKind.i64.wrap ((k:Int)+1))) (.i (k+1:Nat))] [(5,.i (k+1:Nat))] (hk:=⟨am8 (by omega),trivial⟩) fun S=>amV ?_;show ∃i',_∧_;exact⟨(k+1),⟨by omega,(KR vI hR (by rw[DF]; simpa using hc17)),S.sn⟩,by show _-_<_-_; omega⟩
 refine anB<|eG _ _<|amW fun _ ji=>adr S 1 [] [(4,.i (-1))] fun S=>amV<|ji _ _<|amZ S results69 ?_;have hk:=anE hc6;exact⟨by rw[Iw (fun j hj=>hR j hj (by omega))],S.E⟩
theorem NQ{w:World}{v:Value}{l:List aj}(h:aN 47 aj.cells w v l){i:Nat}(hi:i<l.length)(hd:∀(j:Nat) (hj:j<l.length),j<i→0≤l[j].depth∧l[j].depth<8){q:Int}(hz:q=(i:Int)) :
  Calls prog 91 #[v,.i q] w fun e w'=>e = .returned (.bool (uX ((keys l).take i) l[i].key))∧Ext w w':=by
 subst hz;obtain⟨a,cap,rfl⟩:=h.shape;have hmax:l.length≤9223372036854775807:=h.len;refine am0 func91 ntmps91 fun ac S=>amW fun _ aO=>adr S 1 [] [(4,.bool false)] fun S=>amV<|aO _ _<|anj fun _ eG=>amW fun _ gY=>adr S 2 [] [(6,.bool (((i:Int))==0))] fun S=>amV (gY _ _ ?_);refine amX S (fun hc4=>?_) (fun hc4=>?_)
 ·refine amW (fun _ dA=>?_);obtain rfl:i=0:=by simpa using hc4
  have aif:0<l.length:=by omega
  obtain⟨b6,o7,rfl,x12,ak5,XM,hr9⟩:=anF h (fun _=>rfl) (0) aif;have S:=S.view0 XM hr9;refine adr S 7 [.idx 0 l.length,.mem 0 2] [(4,.bool ((x12.depth)==0))] (hk:=⟨aif,trivial⟩) fun S=>amV<|dA _ _<|amZ S results91 ?_;exact⟨by rw[ak5]; rfl,S.E⟩
 refine ano<|eG _ _<|anj fun _ gU=>anj (fun _ gV=>?_);obtain⟨j,rfl⟩:∃j,i=j+1:=⟨i-1,by have:=hc4; simp at this; omega⟩;have Zb:j<l.length:=by omega
 obtain⟨b17,o18,rfl,x23,agR,Gm,ak6⟩:=anF h (fun _=>rfl) (j) Zb;have hd0:0≤x23.depth∧x23.depth<8:=agR▸hd j (by omega) (by omega);have S:=S.view0 Gm ak6;have agS:(j+1)<l.length:=by omega
 obtain⟨x31,hx29,Qb,ak7⟩:=Vp.ER h (fun _=>rfl) ((j+1)) agS;have S:=S.view0 Qb ak7;refine am6 S 22 [.re 15 (.i (IntKind.i64.wrap (((j+1:Nat):Int)-1))) (.i j),.idx j l.length,.mem 1 1,.idx (j+1) l.length,.mem 0 2,.re 28 (.i (IntKind.i64.wrap (((j+1:Nat):Int)-1))) (.i j),.idx j l.length,.mem 1 2,Sx.kw 32 (x23.depth+1)] [] [(34,.bool (((x23.kind)==1)&&((x31.depth)==(x23.depth+1))))] trivial (hk:=⟨(Bj (by omega)),Zb,agS,(Bj (by omega)),Zb,Sx.zT (by omega),trivial⟩) fun ac u Oq S=>amV (gV _ _ ?_);refine amX S (fun mX=>?_) (fun mX=>?_)
 ·refine amW fun _ wQ=>adr S 1 [] [(4,.bool true)] fun S=>amV<|wQ _ _<|amZ S results91 ?_;exact⟨by rw[hx29,EI Zb agR,mX]; rfl,S.E⟩
 refine ano<|gU _ _<|anj fun _ nI=>am6 S 12 [.idx (j+1) l.length,.mem 0 2,.re 42 (.i (IntKind.i64.wrap (((j+1:Nat):Int)-1))) (.i j),.idx j l.length,.mem 1 2] [] [(46,.bool (x31.depth≤x23.depth))] trivial (hk:=⟨agS,(Bj (by omega)),Zb,trivial⟩) fun ac u Oh S=>adr S 1 [] [(4,.bool (x31.depth≤x23.depth))] fun S=>amV<|nI _ _<|amZ S results91 ?_;exact⟨by rw[hx29,EI Zb agR,mX,apM],S.E⟩
theorem Q8{w:World}{v:Value}{l:List aj}(h:dK K w v l){i:Nat}(hi:i<l.length)(hd:∀(j:Nat) (hj:j<l.length),j<i→0≤l[j].depth∧l[j].depth<8){q:Int}(hz:q=(i:Int)) :
  Calls prog 55 #[v,.i q] w fun e w'=>e = .returned (.i (fO ((keys l).take i) l[i].key))∧Ext w w':=by
 subst hz;obtain⟨a,cap,rfl⟩:=h.1.shape;have hmax:l.length≤9223372036854775807:=h.1.len;have hlc:=Sx.jO h.1;refine am0 func55 ntmps55 fun ac S=>amW fun _ aO=>adr S 1 [] [(4,.i 0)] fun S=>amV<|aO _ _<|anj fun _ eG=>amW (fun _ gY=>?_);have lt9:i<l.length:=hi;obtain⟨b4,o5,rfl,x10,Yw,LZ,hr7⟩:=anF h.1 (fun _=>rfl) (i) lt9;have S:=S.view0 LZ hr7;refine adr S 4 [.idx i l.length,.mem 0 0] [(9,x10.v)] (hk:=⟨lt9,trivial⟩) fun S=>am3 S 10 (ace ((h.2 _ (Yw▸anJ lt9)).below S.E)) fun ac u Ed S=>adr S 1 [] [(5,.i x10.checkN)] fun S=>amV<|gY _ _<|amW fun _ gJ=>adr S 2 [] [(12,.bool ((x10.checkN) != 0))] fun S=>amV (gJ _ _ ?_);refine amX S (fun pI=>?_) (fun pI=>?_)
 ·refine amW fun _ gV=>adr S 2 [] [(4,.i x10.checkN)] fun S=>amV<|gV _ _<|amZ S results55 ?_;exact⟨by rw[Yw,Iz (by simpa using pI)],S.E⟩
 refine ano<|eG _ _<|anj fun _ jM=>anj fun _ iD=>am6 S 10 [.slc 0 i cap cap,.idx i l.length,.mem 0 0] [(_,_,true,.i (jL (keys (l.take i)) x10.id))] [(23,.bool (0≤(jL (keys (l.take i)) x10.id)))] ⟨fun u hC g=>U5 (id:=x10.id) ((Y9 h.1 (apf hi)).below (Ext.trans' S.E hC)),trivial⟩ (hk:=⟨⟨anz _,by omega,anw _⟩,lt9,trivial⟩) fun ac u Dy S=>amV (iD _ _ ?_);refine amX S (fun hc19=>?_) (fun hc19=>?_)
 ·refine amW fun _ jo=>adr S 1 [] [(4,.i 7)] fun S=>amV<|jo _ _<|anr ?_;have hc0:x10.checkN=0:=by simpa using pI
  have hfa:=IU (l:=l.take i) (id:=x10.id);rw[show keys (l.take i)=(keys l).take i from apl ..]at hfa;have hq1:=hc19;rw[show keys (l.take i)=(keys l).take i from apl ..,hfa]at hq1;refine am2 S results55 ?_;exact⟨by rw[Yw,KT hc0 hq1],S.E⟩
 refine ano<|jM _ _<|anj fun _ jT=>amW fun _ kE=>adr S 2 [] [(24,.slice (some ⟨b4,o5,none⟩) l.length cap),(25,.i i)] fun S=>am3 S 26 (qR (NQ (h.1.below S.E) hi hd rfl) (show Value.bool (uX ((keys l).take i) l[i].key) = .bool (uX ((keys l).take i) x10.key) by rw[Yw])) fun ac u JX S=>adr S 1 [] [(27,.bool (!(uX ((keys l).take i) x10.key)))] fun S=>amV (kE _ _ ?_);refine amX S (fun hc24=>?_) (fun hc24=>?_)
 ·refine amW fun _ uz=>adr S 1 [] [(4,.i 17)] fun S=>amV<|uz _ _<|anr ?_;have hc0:x10.checkN=0:=by simpa using pI
  have hfa:=IU (l:=l.take i) (id:=x10.id);rw[show keys (l.take i)=(keys l).take i from apl ..]at hfa;have hq1:=hc19;rw[show keys (l.take i)=(keys l).take i from apl ..,hfa]at hq1;have hst:=Iu (pre:=(keys l).take i) (x:=x10.key) (by rw[pO]; exact hc0);refine am2 S results55 ?_;exact⟨by rw[Yw,EG hc0 hq1 (by have:=hc24; rw[hst]at this; simp at this; exact this)],S.E⟩
 refine ano<|jT _ _<|amW fun _ kQ=>adr S 1 [] [(4,.i 0)] fun S=>amV<|kQ _ _<|anr ?_;have hc0:x10.checkN=0:=by simpa using pI
 have hfa:=IU (l:=l.take i) (id:=x10.id);rw[show keys (l.take i)=(keys l).take i from apl ..]at hfa;have hq1:=hc19;rw[show keys (l.take i)=(keys l).take i from apl ..,hfa]at hq1;have hst:=Iu (pre:=(keys l).take i) (x:=x10.key) (by rw[pO]; exact hc0);refine am2 S results55 ?_;exact⟨by rw[Yw,IB hc0 hq1 (by have:=hc24; rw[hst]at this; simp at this; exact this)],S.E⟩
theorem Q9{w:World}{s:aT}(h:dU K w s) :
  Calls prog 21 #[s.v] w fun e w'=>e = .returned (.tuple #[.i s.key.chk.1,.i s.key.chk.2])∧Ext w w':=by
 have hmax:s.ns.length≤9223372036854775807:=h.2.2.1.len;refine am0 func21 ntmps21 fun ac S=>amW fun _ aO=>amY S 1 s.cells fun ac u b2 E3 hb4 S=>adr S 2 [] [(2,.i 0),(3,.i 0)] fun S=>amV<|aO _ _<|anj fun _ dA=>amW fun _ iQ=>adr S 18 [.mem 0 0,.mem 0 0,.mem 0 1,.mem 0 1] [(23,.bool ((((decide (s.w<1))||(decide (256<s.w)))||(decide (s.h<1)))||(decide (256<s.h))))] fun S=>amV (iQ _ _ ?_);refine amX S (fun kP=>?_) (fun kP=>?_)
 ·refine amW fun _ dJ=>adr S 2 [] [(2,.i 6),(3,.i 0)] fun S=>amV<|dJ _ _<|Sx.rt2 S results21 ?_;exact⟨by rw[QJ (s:=s.key) kP],S.E⟩
 refine ano<|dA _ _<|anj fun _ gZ=>amW fun _ fE=>adr S 4 [.mem 0 6] [(27,.bool (64<(s.ns.length:Int)))] fun S=>amV (fE _ _ ?_);refine amX S (fun iq=>?_) (fun iq=>?_)
 ·refine amW fun _ cZ=>adr S 2 [] [(2,.i 5),(3,.i 64)] fun S=>amV<|cZ _ _<|anr ?_;have hq:=oJ (s:=s.key) kP;rw[show s.key.ns=keys s.ns from rfl,aob]at hq;refine aol S results21 ?_;exact⟨by rw[hq,anv (by have:=anC iq; omega)],S.E⟩
 refine ano<|gZ _ _<|anj fun _ gJ=>amW fun _ gU=>adr S 1 [] [(4,.i 0)] fun S=>amV<|gU _ _<|anp ?_;refine anP (ι:=Nat) (fun p a' w'=>p≤s.ns.length∧(Za s.ns p)∧Sx.St w a' w' 43 [(0,s.v),(1,.pointer (some ⟨b2,0,none⟩)),(2,.i 0),(3,.i 0),(4,.i p)] [(b2,s.cells)] []) (fun p=>s.ns.length-p) (0) ⟨anz _,⟨wI.start _,fun j hj h=>by omega⟩,S.sn⟩ ?_;rintro k ac u hI;try dsimp only at hI
 obtain⟨hk,hR,S⟩:=hI;refine anj fun _ gV=>amW fun _ jM=>adr S 5 [.mem 0 6] [(32,.bool ((k:Int)<(s.ns.length:Int)))] fun S=>amV (jM _ _ ?_);refine amX S (fun hc17=>?_) (fun hc17=>?_)
 ·refine ano<|gV _ _<|anj fun _ jH=>anp<|amW fun _ ji=>adr S 3 [.mem 0 6] [(36,s.s),(37,.i k)] (fun S=>?_);have hk1:k<s.ns.length:=by have:=anC hc17; omega
  obtain⟨x,hx⟩:∃z,s.ns[k]=z:=⟨_,rfl⟩;refine am3 S 38 (qR (Q8 (h.2.2.below S.E) hk1 hR.dep rfl) (show Value.i (fO ((keys s.ns).take k) s.ns[k].key) = .i (fO ((keys s.ns).take k) x.key) by rw[hx])) fun ac u Eh S=>adr S 1 [] [(5,.i (fO ((keys s.ns).take k) x.key))] fun S=>amV<|ji _ _<|amW fun _ jT=>adr S 2 [] [(40,.bool (((fO ((keys s.ns).take k) x.key)) != 0))] fun S=>amV (jT _ _ ?_);refine amX S (fun hc22=>?_) (fun hc22=>?_)
  ·refine amW fun _ oO=>adr S 4 [] [(2,.i (fO ((keys s.ns).take k) x.key)),(3,.i k)] fun S=>amV<|oO _ _<|anr ?_;have hq:=oJ (s:=s.key) kP;rw[show s.key.ns=keys s.ns from rfl,aob]at hq;refine aol S results21 ?_;rw[anq (by have:=anE iq; omega)]at hq;exact⟨by rw[hq,hR.at'.bad hk1 hx rfl (by simpa using hc22)],S.E⟩
  refine ano<|jH _ _<|ant<|adr S 3 [.re 34 (.i (IntKind.i64.wrap ((k:Int)+1))) (.i (k+1:Nat))] [(4,.i (k+1:Nat))] (hk:=⟨am8 (by omega),trivial⟩) fun S=>amV ?_;show ∃i',_∧_;exact⟨(k+1),⟨by omega,hR.next hk1 hx (by simpa using hc22),S.sn⟩,by show _-_<_-_; omega⟩
 refine anB<|gJ _ _<|amW fun _ lq=>adr S 2 [] [(2,.i 0),(3,.i 0)] fun S=>amV<|lq _ _<|anr ?_;have hq:=oJ (s:=s.key) kP;rw[show s.key.ns=keys s.ns from rfl,aob]at hq;refine aol S results21 ?_;rw[anq (by have:=anE iq; omega)]at hq;exact⟨by rw[hq,hR.at'.done (by have:=anE hc17; omega)],S.E⟩
theorem EJ{w:World}{s:aT}(h:dU K w s) :
  Calls prog 51 #[s.v] w fun e w'=>e = .returned (.bool s.key.valid)∧Ext w w':=by
 skip;refine am0 func51 ntmps51 fun ac S=>amW fun _ aO=>amY S 1 s.cells fun ac u b2 E3 hb4 S=>adr S 1 [] [(2,.bool false)] fun S=>amV<|aO _ _<|amW fun _ dA=>adr S 1 [.mem 0 0] [(6,s.v)] fun S=>am3 S 7 (Q9 (h.below S.E)) fun ac u E6 S=>adr S 5 [] [(3,.i s.key.chk.1)] fun S=>amV<|dA _ _<|amW fun _ jB=>adr S 3 [] [(2,.bool ((s.key.chk.1)==0))] fun S=>amV<|jB _ _<|amZ S results51 ?_;exact⟨rfl,S.E⟩
theorem EK{w:World}{v u:Value}{l m:List aj}(h:dK K w v l)(h':dK K w u m) :
  Calls prog 30 #[v,u] w fun e w'=>e = .returned (.bool (keys l=keys m))∧Ext w w':=by
 obtain⟨a,cap,rfl⟩:=h.1.shape;obtain⟨d,cap',rfl⟩:=h'.1.shape;have hmax:l.length≤9223372036854775807:=h.1.len;refine am0 func30 ntmps30 fun ac S=>amW fun _ aO=>adr S 1 [] [(4,.bool false)] fun S=>amV<|aO _ _<|anj fun _ eG=>amW fun _ gY=>adr S 5 [] [(10,.bool (((l.length:Int)) != (m.length:Int)))] fun S=>amV (gY _ _ ?_);refine amX S (fun hc4=>?_) (fun hc4=>?_)
 ·refine amW fun _ dA=>adr S 1 [] [(4,.bool false)] fun S=>amV<|dA _ _<|amZ S results30 ?_;exact⟨aB (aeX (fun e=>by rw[e]at hc4; simp at hc4)),S.E⟩
 refine ano<|eG _ _<|anj fun _ iQ=>amW fun _ jB=>adr S 1 [] [(5,.i 0)] fun S=>amV<|jB _ _<|anp ?_;refine anP (ι:=Nat) (fun p a' w'=>p≤l.length∧((keys l).take p=(keys m).take p)∧Sx.St w a' w' 27 [(0,.slice a l.length cap),(1,.slice d m.length cap'),(4,.bool false),(5,.i p)] [] []) (fun p=>l.length-p) (0) ⟨anz _,rfl,S.sn⟩ ?_;rintro k ac u hI;try dsimp only at hI
 obtain⟨hk,hR,S⟩:=hI;refine anj fun _ dJ=>amW fun _ gZ=>adr S 4 [] [(14,.bool ((k:Int)<(l.length:Int)))] fun S=>amV (gZ _ _ ?_);refine amX S (fun bM=>?_) (fun bM=>?_)
 ·refine ano<|dJ _ _<|anj fun _ bW=>anp<|anj (fun _ cZ=>?_);have jk:k<l.length:=by have:=anC bM; omega
  obtain⟨b14,o15,rfl,x20,mY,wS,yu⟩:=anF h.1 (fun _=>rfl) (k) jk;have S:=S.view0 wS yu;have gX:k<m.length:=by have:=jh hc4; have:=anC bM; omega
  obtain⟨b22,o23,rfl,y28,jS,xW,yw⟩:=anF h'.1 (fun _=>rfl) (k) gX;have S:=S.view0 xW yw;refine am6 S 10 [.idx k l.length,.mem 1 0,.idx k m.length,.mem 0 0] [(_,_,true,.bool (x20.key=y28.key))] [(26,.bool (!(decide (x20.key=y28.key))))] ⟨fun u hC g=>NP ((h.2 _ (mY▸anJ jk)).below (Ext.trans' S.E hC)) ((h'.2 _ (jS▸anJ gX)).below (Ext.trans' S.E hC)),trivial⟩ (hk:=⟨jk,gX,trivial⟩) fun ac u Dn S=>amV (cZ _ _ ?_);refine amX S (fun qo=>?_) (fun qo=>?_)
  ·refine amW fun _ qp=>adr S 1 [] [(4,.bool false)] fun S=>amV<|qp _ _<|amZ S results30 ?_;exact⟨aB (aeY jk gX mY jS qo),S.E⟩
  refine ano<|bW _ _<|ant<|adr S 3 [.re 16 (.i (IntKind.i64.wrap ((k:Int)+1))) (.i (k+1:Nat))] [(5,.i (k+1:Nat))] (hk:=⟨am8 (by omega),trivial⟩) fun S=>amV ?_;show ∃i',_∧_;exact⟨(k+1),⟨by omega,(Xf jk gX hR mY jS qo),S.sn⟩,by show _-_<_-_; omega⟩
 refine anB<|iQ _ _<|amW fun _ jF=>adr S 1 [] [(4,.bool true)] fun S=>amV<|jF _ _<|amZ S results30 ?_;exact⟨aB (ab3 (by have:=anE bM; omega) (jh hc4) hR),S.E⟩
theorem U6{w:World}{v u:Value}{l m:List aj}(h:dK K w v l)(h':dK K w u m) :
  Calls prog 76 #[v,u] w fun e w'=>e = .returned (.bool (uM (keys l) (keys m)))∧Ext w w':=by
 obtain⟨a,cap,rfl⟩:=h.1.shape;obtain⟨d,cap',rfl⟩:=h'.1.shape;have hmax:l.length≤9223372036854775807:=h.1.len;refine am0 func76 ntmps76 fun ac S=>amW fun _ aO=>adr S 1 [] [(4,.bool false)] fun S=>amV<|aO _ _<|anj fun _ eG=>amW fun _ gY=>adr S 5 [] [(10,.bool (((l.length:Int)) != (m.length:Int)))] fun S=>amV (gY _ _ ?_);refine amX S (fun hc4=>?_) (fun hc4=>?_)
 ·refine amW fun _ dA=>adr S 1 [] [(4,.bool false)] fun S=>amV<|dA _ _<|amZ S results76 ?_;exact⟨aB (aeG (fun e=>by rw[e]at hc4; simp at hc4)),S.E⟩
 refine ano<|eG _ _<|anj fun _ iQ=>amW fun _ jB=>adr S 1 [] [(5,.i 0)] fun S=>amV<|jB _ _<|anp ?_;refine anP (ι:=Nat) (fun p a' w'=>p≤l.length∧((RU l).take p=(RU m).take p)∧Sx.St w a' w' 41 [(0,.slice a l.length cap),(1,.slice d m.length cap'),(4,.bool false),(5,.i p)] [] []) (fun p=>l.length-p) (0) ⟨anz _,rfl,S.sn⟩ ?_;rintro k ac u hI;try dsimp only at hI
 obtain⟨hk,hR,S⟩:=hI;refine anj fun _ dJ=>amW fun _ gZ=>adr S 4 [] [(14,.bool ((k:Int)<(l.length:Int)))] fun S=>amV (gZ _ _ ?_);refine amX S (fun bM=>?_) (fun bM=>?_)
 ·refine ano<|dJ _ _<|anj fun _ bW=>anp<|anj (fun _ cZ=>?_);have jk:k<l.length:=by have:=anC bM; omega
  obtain⟨b14,o15,rfl,x20,mY,wS,yu⟩:=anF h.1 (fun _=>rfl) (k) jk;have S:=S.view0 wS yu;have gX:k<m.length:=by have:=jh hc4; have:=anC bM; omega
  obtain⟨b22,o23,rfl,y28,jS,xW,yw⟩:=anF h'.1 (fun _=>rfl) (k) gX;have S:=S.view0 xW yw;refine am6 S 24 [.idx k l.length,.mem 1 0,.idx k m.length,.mem 0 0,.idx k l.length,.mem 1 2,.idx k m.length,.mem 0 2] [] [(40,.bool (((x20.id) != y28.id)||((x20.depth) != y28.depth)))] trivial (hk:=⟨jk,gX,jk,gX,trivial⟩) fun ac u Dn S=>amV (cZ _ _ ?_);refine amX S (fun qo=>?_) (fun qo=>?_)
  ·refine amW fun _ qp=>adr S 1 [] [(4,.bool false)] fun S=>amV<|qp _ _<|amZ S results76 ?_;exact⟨aB (aeI jk gX mY jS qo),S.E⟩
  refine ano<|bW _ _<|ant<|adr S 3 [.re 16 (.i (IntKind.i64.wrap ((k:Int)+1))) (.i (k+1:Nat))] [(5,.i (k+1:Nat))] (hk:=⟨am8 (by omega),trivial⟩) fun S=>amV ?_;show ∃i',_∧_;exact⟨(k+1),⟨by omega,(VP jk gX hR mY jS qo),S.sn⟩,by show _-_<_-_; omega⟩
 refine anB<|iQ _ _<|amW fun _ jF=>adr S 1 [] [(4,.bool true)] fun S=>amV<|jF _ _<|amZ S results76 ?_;exact⟨aB (aao (by have:=anE bM; omega) (jh hc4) hR),S.E⟩
end
end Go.Proofs.YtfmkkemfhjkajaaGreatDoor
