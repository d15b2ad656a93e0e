/- The laws' own example: a scene of three nodes. -/
import Derived.Test.YtfmkkemfhjkajaaGreatDoorPk43
import Derived.Test.YtfmkkemfhjkajaaGreatDoorPk44
set_option maxHeartbeats 3200000
set_option maxRecDepth 100000
namespace Go.Proofs.YtfmkkemfhjkajaaGreatDoor
open _root_.Go.Proofs.Tryz
open Go.RowKit
variable{α:Type}{K:Nat}
set_option linter.unusedVariables false
theorem fO.lim{w:World}{id kind:Int}{nd:aj}(h:fO w id kind nd)(hk:kind=1∨kind=2):nd.lim:=by
 rcases h with ⟨rfl,t,ht,rfl⟩ | ⟨rfl,t,ht,rfl⟩ | ⟨rfl,t,b,ht,-,rfl⟩ | ⟨k,rfl⟩
 ·exact⟨Am (ht.fit (by decide)),alg _,alg _,alg _,(fun p hp=>by cases hp),alg _,alg _,(fun p hp=>by cases hp),alg _⟩
 ·exact⟨Am (ht.fit (by decide)),alg _,alg _,alg _,(fun p hp=>by cases hp),alg _,alg _,(fun p hp=>by cases hp),alg _⟩
 ·omega
 omega
theorem fO.is{w:World}{id kind:Int}{nd:aj}(h:fO w id kind nd)(hk:kind=1∨kind=2):nd.id=id∧nd.kind=kind∧nd.depth=0:=by
 rcases h with ⟨rfl,t,ht,rfl⟩ | ⟨rfl,t,ht,rfl⟩ | ⟨rfl,t,b,ht,-,rfl⟩ | ⟨k,rfl⟩
 ·exact⟨rfl,rfl,rfl⟩
 ·exact⟨rfl,rfl,rfl⟩
 ·omega
 omega
structure Rz (κ:aN) (a b c:aI):Prop where
 e:κ=⟨2,2,.none,[a,b,c]⟩
 a0:a.id=1∧a.kind=1∧a.depth=0∧a.chk=0
 b0:b.id=2∧b.kind=2∧b.depth=1∧b.chk=0
 c0:c.id=3∧c.kind=2∧c.depth=0∧c.chk=0
theorem Rz.valid{κ:aN}{a b c:aI}(h:Rz κ a b c):κ.valid=true:=by
 obtain⟨rfl,⟨a1,a2,a3,a4⟩,⟨b1,b2,b3,b4⟩,⟨c1,c2,c3,c4⟩⟩:=h;refine aN.qX.2 ⟨(by show(1:Int)≤2∧(2:Int)≤256∧(1:Int)≤2∧(2:Int)≤256; decide),by show 3≤64; omega,?_,?_,?_,trivial⟩
 ·simp[eY,nV,a4,a3]
 ·simp[eY,nV,b4,b3,a1,b1,a2,a3]
 simp[eY,nV,c4,c3,a1,b1,c1,b2,b3]
theorem UO{a b c:aI}(a3:a.depth=0)(b3:b.depth=1)(c3:c.depth=0):dU [a,b,c] 0=2:=by
 have h3:∀j,0<j→j<2→jE [a,b,c] 0<jE [a,b,c] j:=fun j h1 h2=>by
  obtain rfl:j=1:=by omega
  show a.depth<b.depth;omega
 have h4:2<3→jE [a,b,c] 2≤jE [a,b,c] 0:=fun _=>by
  show c.depth≤a.depth;omega
 rw[uw (by simp)];exact Ap (n:=3) (i:=0) (k:=2) (by decide) (by decide) (by decide) h3 h4
theorem Rz.sub{κ:aN}{a b c:aI}(h:Rz κ a b c):κ.endOf 0=2:=by
 have hv:=h.valid;obtain⟨rfl,⟨a1,a2,a3,a4⟩,⟨b1,b2,b3,b4⟩,⟨c1,c2,c3,c4⟩⟩:=h;have hh:aN.has ⟨2,2,.none,[a,b,c]⟩ 0=true:=by unfold aN.has; rw[hv]; rfl
 unfold aN.endOf;rw[ale hh];show((dU [a,b,c] 0:Nat):Int)=2;rw[UO a3 b3 c3]; rfl
theorem Rz.par{κ:aN}{a b c:aI}(h:Rz κ a b c):κ.NP 1=0:=by
 have hv:=h.valid;obtain⟨rfl,⟨a1,a2,a3,a4⟩,⟨b1,b2,b3,b4⟩,⟨c1,c2,c3,c4⟩⟩:=h;have hh:aN.has ⟨2,2,.none,[a,b,c]⟩ 1=true:=by unfold aN.has; rw[hv]; rfl
 unfold aN.NP;rw[ale hh];show sD (jE [a,b,c]) 1=0;simp[sD,mW,jE,a3,b3]
theorem Rz.idx{κ:aN}{a b c:aI}(h:Rz κ a b c):κ.index 3=2:=by
 have hv:=h.valid;obtain⟨rfl,⟨a1,a2,a3,a4⟩,⟨b1,b2,b3,b4⟩,⟨c1,c2,c3,c4⟩⟩:=h;unfold aN.index;rw[ale hv];simp[jB,jl,List.findIdx?_cons,a1,b1,c1]
theorem Rz.app{κ:aN}{a b c:aI}(h:Rz κ a b c):jw κ (.remove 1)=(⟨2,2,.none,[c]⟩,0):=by
 have hv:=h.valid;obtain⟨rfl,⟨a1,a2,a3,a4⟩,⟨b1,b2,b3,b4⟩,⟨c1,c2,c3,c4⟩⟩:=h;have he:=UO a3 b3 c3;refine WR (l:=[c]) hv (by simp[gI.named,gI.remove]) ?_ ?_
 ·have hf:jl [a,b,c] (gI.remove 1).id=some 0:=by simp[jl,gI.remove,List.findIdx?_cons,a1]
  unfold lG;rw[ak9 (by simp[gI.remove]),ale (show(gI.remove 1).kind=2 from rfl)];simp only[hf];show Except.ok (uy [a,b,c] 0 (dU [a,b,c] 0))=_;rw[he]; rfl
 refine aN.qX.2 ⟨(by show(1:Int)≤2∧(2:Int)≤256∧(1:Int)≤2∧(2:Int)≤256; decide),by show 1≤64; omega,?_,trivial⟩;simp[eY,nV,c4,c3]
theorem Rz.chk{a b c:aI}{κ:aN}(h:Rz κ a b c):aN.chk ⟨1,1,.none,[b,c]⟩=(17,0):=by
 obtain⟨rfl,⟨a1,a2,a3,a4⟩,⟨b1,b2,b3,b4⟩,⟨c1,c2,c3,c4⟩⟩:=h;unfold aN.chk;rw[ak9 (by show ¬((1:Int)<1∨(256:Int)<1∨(1:Int)<1∨(256:Int)<1); decide),ak9 (by show ¬64<2; omega)];simp[iQ,eY,nV,b4,b3]
theorem ad6{w:World}{b:Nat}{L:List aj}(hx:Bx w b (L.flatMap aj.cells).toArray)(hm:L.length≤maxLen):aP 47 aj.cells w (.slice (some ⟨b,0,none⟩) L.length L.length) L:=
 ⟨_,L.length,rfl,hm,.inr ⟨b,0,rfl,hx.1,alf _,fun i hi j hj=>by rw[al3,hx.2.1,List.getElem?_toArray,Sx.sO (k:=47) (f:=aj.cells) (fun _=>rfl) L i hi j hj]⟩⟩
theorem jT{f:FuncId}{args:Array Value}{w:World}{v v':Value}(h:Calls prog f args w fun e w'=>e = .returned v∧Ext w w')(hv:v=v'):Calls prog f args w fun e w'=>e = .returned v'∧Ext w w':=hv▸h
abbrev wK (b:Nat)(x y z:aj):aK:=⟨2,2,.none,some ⟨b,0,none⟩,3,[x,y,z]⟩
theorem KI{w:World}{id kind:Int}{nd:aj}(h:fO w id kind nd)(hk:kind=1∨kind=2)(hi:1≤id∧id≤1073741824):nd.checkN=0:=by
 have:=h.check;rw[show((((decide (1≤id))&&(decide (id≤1073741824)))&&(decide (1≤kind)))&&(decide (kind≤3)))=true by simp; omega]at this;simpa using this
theorem ad7{w:World}{x y z:aj}{b:Nat}(h1:fO w 1 1 x)(h2:fO w 2 2 y)(h3:fO w 3 2 z):Rz (wK b x {y with depth:=1} z).key x.key ({y with depth:=1}:aj).key z.key:=
 have a:=h1.is (.inl rfl); have c:=h2.is (.inr rfl); have d:=h3.is (.inr rfl)
 ⟨rfl,⟨a.1,a.2.1,a.2.2,(nX x).trans (KI h1 (.inl rfl) (by decide))⟩,⟨c.1,c.2.1,rfl,(nX _).trans (by rw[Aq (KI h2 (.inr rfl) (by decide)) 1]; rfl)⟩,⟨d.1,d.2.1,d.2.2,(nX z).trans (KI h3 (.inr rfl) (by decide))⟩⟩
theorem ad8{w:World}{x y z:aj}{b:Nat}(h1:fO w 1 1 x)(h2:fO w 2 2 y)(h3:fO w 3 2 z){A:List Value}(hx:Bx w b A.toArray)(hA:A=[x,{y with depth:=1},z].flatMap aj.cells:=by kernel_rfl):bU 20 w (wK b x {y with depth:=1} z)∧∀n∈(wK b x {y with depth:=1} z).ns,n.lim:=by
 have k1:=h1.ok (K:=20) (by decide) (by decide) (by decide);have k2:=h2.ok (K:=20) (by decide) (by decide) (by decide);have k3:=h3.ok (K:=20) (by decide) (by decide) (by decide);have k2':fK 20 w {y with depth:=1}:=⟨⟨k2.1.1,k2.1.2.1,(show I64 1 by decide),k2.1.2.2.2⟩,k2.2⟩;subst hA;refine⟨⟨(show I64 2 by decide),(show I64 2 by decide),ad6 hx (by show 3≤9223372036854775807; decide),fun n hn=>?_⟩,fun n hn=>?_⟩
 ·rcases alA.1 hn with rfl | hn
  ·exact k1
  rcases alA.1 hn with rfl | hn
  ·exact k2'
  obtain rfl:=al7.1 hn; exact k3
 rcases alA.1 hn with rfl | hn
 ·exact h1.lim (.inl rfl)
 rcases alA.1 hn with rfl | hn
 ·exact h2.lim (.inr rfl)
 obtain rfl:=al7.1 hn; exact h3.lim (.inr rfl)
theorem ZK{base:Nat}{s t:aK}{e:bf}{code:Int}{w:World}{c:aI}(h:RD base K s e code t w)(ha:jw s.key e.key=(⟨2,2,.none,[c]⟩,0)):code=0∧∃(a:Option Addr) (n:Nat) (q:aj),t=⟨2,2,.none,a,n,[q]⟩∧q.key=c:=by
 have h1:=h.1.trans ha;clear h ha;have hk:t.key=⟨2,2,.none,[c]⟩:=alb Prod.fst h1;have hc:code=0:=alb Prod.snd h1;have e1:t.w=2:=alb aN.w hk;have e2:t.h=2:=alb aN.h hk;have e3:t.bg = .none:=alb aN.bg hk;have e4:t.ns.map aj.key=[c]:=alb aN.ns hk;obtain⟨q,e5,e6⟩:=List.map_eq_singleton_iff.1 e4;obtain⟨tw,th,tb,ta,tn,tl⟩:=t;exact⟨hc,ta,tn,q,by rw[show tw=2 from e1,show th=2 from e2,show tb = .none from e3,show tl=[q]from e5],e6⟩
theorem abV{base:Nat}{w:World}{ta:Option Addr}{tn:Nat}{q:aj}(h:fV base (aK.s ⟨2,2,.none,ta,tn,[q]⟩) [q] w):∃bt,ta=some ⟨bt,0,none⟩∧base≤bt∧bt<w.heap.size∧w.rangeAt bt (0+0*47) q.cells:=by
 have h1:=(alR h).1;obtain⟨b,o,c,hv,hb,hr⟩:=Vp.jm h1.1 (fun _=>rfl) 0 (by show 0<1; decide);rcases h1.2 with h0 | ⟨g,cap,cur,hg,h2,-⟩
 ·exact absurd h0 (by show ¬1=0; decide)
 simp only[aK.s,alF]at hv hg;have e:=hg.1.symm.trans hv.1;simp only[ald,amw]at e;obtain⟨rfl,rfl,-⟩:=e;exact⟨g,hg.1,h2,hb,hr⟩
theorem abW:bf.key ⟨2,1,0,0,l7,.none⟩ = .remove 1:=rfl
theorem EY(w:World):l7.lim:=by
 have h:=(oM (K:=20) w (by decide) (by decide)).2.1;exact⟨Am h,by show 0≤10000000; decide,by show 0≤10000000; decide,by show 0≤10000000; decide,(fun p hp=>by have hp:p∈([]:List ak):=hp; cases hp),by show 0≤10000000; decide,by show 0≤10000000; decide,(fun p hp=>by have hp:p∈([]:List ak):=hp; cases hp),by show 0≤10000000; decide⟩
theorem ad9(w:World):wU 20 w ⟨2,1,0,0,l7,.none⟩:=⟨(show I64 2 by decide),(show I64 1 by decide),(show I64 0 by decide),(show I64 0 by decide),oM w (by decide) (by decide)⟩
theorem RF(w:World) :
  Calls prog 48 #[] w fun e w'=>∃(b:Nat) (x y z:aj),e = .returned (wK b x y z).v∧Rz (wK b x y z).key x.key y.key z.key∧(bU 20 w' (wK b x y z)∧∀n∈(wK b x y z).ns,n.lim)∧Ext w w':=by
 skip;refine akN func48 ntmps48 fun ac S=>akJ fun _ aS=>akK S 0 [.i 0,.i 0,.int .u8 0,.int .u8 0,.int .u8 0,.int .u8 0,.slice none 0 0] fun ac u b2 E3 hb4 S=>akI<|aS _ _<|akJ fun _ dB=>akS S (some 4) (qo 1 1 _) ?_;rintro e u ⟨x,rfl,dx,E6⟩;refine⟨_,rfl,E6,fun ac S=>?_⟩;refine akS S (some 5) (qo 2 2 _) ?_;rintro e u ⟨y,rfl,dy,E7⟩;refine⟨_,rfl,E7,fun ac S=>?_⟩;refine akS S (some 6) (qo 3 2 _) ?_;rintro e u ⟨z,rfl,dz,E8⟩;refine⟨_,rfl,E8,fun ac S=>?_⟩;refine akK S 1 (Sx.L [.i 0,.i 0,.i 0]++Sx.za++Sx.L [.slice none 0 0,.i 0,.int .u8 0,.i 0,.bool false,.bool false,.slice none 0 0,.i 0,.slice none 0 0,.i 0,.i 0,.i 0,.i 0,.slice none 0 0,.i 0,.slice none 0 0,.i 0,.i 0,.slice none 0 0,.i 0]) fun ac u b9 zZ JZ S=>akK S 2 (Sx.L [.i 0,.i 0,.i 0]++Sx.za++Sx.L [.slice none 0 0,.i 0,.int .u8 0,.i 0,.bool false,.bool false,.slice none 0 0,.i 0,.slice none 0 0,.i 0,.i 0,.i 0,.i 0,.slice none 0 0,.i 0,.slice none 0 0,.i 0,.i 0,.slice none 0 0,.i 0]) fun ac u b12 DN afy S=>akK S 3 (Sx.L [.i 0,.i 0,.i 0]++Sx.za++Sx.L [.slice none 0 0,.i 0,.int .u8 0,.i 0,.bool false,.bool false,.slice none 0 0,.i 0,.slice none 0 0,.i 0,.i 0,.i 0,.i 0,.slice none 0 0,.i 0,.slice none 0 0,.i 0,.i 0,.slice none 0 0,.i 0]) fun ac u b15 Qx Iz S=>akO S 2 (off:=0) (cs:=x.cells) rfl (fun u YC S=>?_);have MS:=akR (Ext.trans' E7 (Ext.trans' E8 (Ext.trans' zZ (Ext.trans' DN Qx)))) YC (by have:=(Ext.trans' E7 E8).size; omega);have zk:=akR (Ext.trans' E8 (Ext.trans' zZ (Ext.trans' DN Qx))) YC (by have:=E8.size; omega);have BA:=akR (Ext.trans' zZ (Ext.trans' DN Qx)) YC (by omega);have X23:=S.bx 1;refine akO S 1 (off:=0) (cs:=y.cells) rfl (fun u C22 S=>?_);have ahY:=fO.bC (fO.below dx MS) C22 X23;have rZ:=fO.bC (fO.below dy zk) C22 X23;have wI:=fO.bC (fO.below dz BA) C22 X23;have X28:=S.bx 0;refine akO S 0 (off:=0) (cs:=z.cells) rfl (fun u WB S=>?_);have Ri:=fO.bC ahY WB X28;have Rj:=fO.bC rZ WB X28;have BI:=fO.bC wI WB X28;refine akI<|dB _ _<|akJ fun _ kP=>adr S 1 [] [(7,.pointer (some ⟨b12,2,none⟩))] (fun S=>?_);have X34:=S.bx 1;refine akY S 1 (off:=2) (v := .i 1) rfl (fun u MQ S=>?_);have NI:=fO.bC Ri MQ X34;have Zw:=fO.bC Rj MQ X34;have QF:=fO.bC BI MQ X34;refine akI<|kP _ _<|akJ fun _ iW=>adr S 3 [.mem 2 0,.mem 1 0,.mem 0 0] [(8,x.v),(9,.agg (Sx.L [.i y.id,.i y.kind,.i 1]++y.t.cells++Sx.L [y.cs,.i y.aJ,.int .u8 (y.dH.toNat:Int),.i y.blend,.bool y.isolated,.bool y.bM,y.ps,.i y.aO,y.fs]++y.style.cells++Sx.L [y.ss]++y.img.cells++Sx.L [.i y.bP]).toArray),(10,z.v)] fun S=>ak5 S 11 3 (x.cells++Sx.L [.i y.id,.i y.kind,.i 1]++y.t.cells++Sx.L [y.cs,.i y.aJ,.int .u8 (y.dH.toNat:Int),.i y.blend,.bool y.isolated,.bool y.bM,y.ps,.i y.aO,y.fs]++y.style.cells++Sx.L [y.ss]++y.img.cells++Sx.L [.i y.bP]++z.cells) fun ac u b39 WO afD S=>adr S 1 [] [(12,.agg #[.i 2,.i 2,.int .u8 0,.int .u8 0,.int .u8 0,.int .u8 0,.slice (some ⟨b39,0,none⟩) 3 3])] (fun S=>?_);have X43:=S.bx 4;refine akO S 4 (off:=0) (cs:=[.i 2,.i 2,.int .u8 0,.int .u8 0,.int .u8 0,.int .u8 0,.slice (some ⟨b39,0,none⟩) 3 3]) rfl (fun u C42 S=>?_);have NJ:=fO.bC (fO.below NI WO) C42 X43;have WH:=fO.bC (fO.below Zw WO) C42 X43;have abX:=fO.bC (fO.below QF WO) C42 X43;refine akI<|iW _ _<|ala ?_;have key:bodyPost prog Tryz.f48 (fun e w'=>∃(b:Nat) (x y z:aj),e = .returned (wK b x y z).v∧Rz (wK b x y z).key x.key y.key z.key∧(bU 20 w' (wK b x y z)∧∀n∈(wK b x y z).ns,n.lim)∧Ext w w') .ret _ u:=Sx.KJ S 4 results48 rfl (v := .agg (aK.cells (wK b39 x {y with depth:=1} z)).toArray) ⟨b39,x,{y with depth:=1},z,rfl,ad7 (NJ) (WH) (abX),ad8 (NJ) (WH) (abX) (S.bx 0),S.E⟩;exact key
theorem WS{w w':World}{b o:Nat}{l:List Value}(h:b<w.heap.size∧w.rangeAt b o l)(hE:Ext w w'):b<w'.heap.size∧w'.rangeAt b o l:=⟨alH h.1 hE.size,fun j v hv=>(hE.cell (p:=⟨b,o+j,none⟩) h.1).trans (h.2 j v hv)⟩
theorem abY{w:World}{b:Nat}{x y z:aj}(h:bU 20 w (wK b x y z)):bU 20 w ⟨1,1,.none,Sx.wu (some ⟨b,0,none⟩) 1 3 47,2,[y,z]⟩:=
 ⟨(show I64 1 by decide),(show I64 1 by decide),Sx.Jj (L:=[x,y,z]) (i:=1) h.2.2.1 (by show 1≤3; decide) (by show 3≤3; decide),fun n hn=>h.2.2.2 n (ams _ hn)⟩
theorem jG{w:World}(hg:jL w) :
  Calls prog 16 #[] w fun e w'=>e = .returned (.bool true)∧Ext w w':=by
 skip;refine akN func16 ntmps16 fun ac S=>akJ fun _ aS=>adr S 1 [] [(0,.bool false)] fun S=>akI<|aS _ _<|akJ fun _ fD=>akS S (some 6) (RF _) ?_;rintro e u ⟨b,x,y,z,rfl,hS,hok,E3⟩;refine⟨_,rfl,E3,fun ac S=>?_⟩;refine akK S 1 [.i 0,.i 0,.int .u8 0,.int .u8 0,.int .u8 0,.int .u8 0,.slice none 0 0] fun ac u b4 E5 hb6 S=>akO S 0 (off:=0) (cs:=[.i 2,.i 2,.int .u8 0,.int .u8 0,.int .u8 0,.int .u8 0,.slice (some ⟨b,0,none⟩) 3 3]) rfl (fun u C7 S=>?_);have E8:=akR E5 C7 (by omega);refine akI<|fD _ _<|akJ fun _ iq=>adr S 2 [.mem 0 0] [(8,.agg #[.i 2,.i 2,.int .u8 0,.int .u8 0,.int .u8 0,.int .u8 0,.slice (some ⟨b,0,none⟩) 3 3]),(9,.agg (Sx.L [.i 2,.i 1,.i 0,.i 0,.i 0,.i 0,.i 0]++Sx.za++Sx.L [.slice none 0 0,.i 0,.int .u8 0,.i 0,.bool false,.bool false,.slice none 0 0,.i 0,.slice none 0 0,.i 0,.i 0,.i 0,.i 0,.slice none 0 0,.i 0,.slice none 0 0,.i 0,.i 0,.slice none 0 0,.i 0,.int .u8 0,.int .u8 0,.int .u8 0,.int .u8 0]).toArray)] (fun S=>?_);have hl1:=(S.bx 0).1;refine akS S (some 10) (CX (K:=20) (s:=wK b x y z) (e:=⟨2,1,0,0,l7,.none⟩) ((bU.below hok.1 E8)) (hg.below S.E) (ad9 _) hok.2 (EY w)) ?_;rintro e u ⟨t,code,rfl,har,zZ⟩;obtain⟨rfl,ta,tn,q,rfl,hq⟩:=ZK har (abW▸hS.app);have hqi:q.id=3:=(alb aI.id hq).trans hS.c0.1;obtain⟨bt,rfl,hb0,hbt,hrt⟩:=abV har.2.1;refine⟨_,rfl,zZ,fun ac S=>?_⟩;refine adr S 3 [] [(11,.agg #[.i 2,.i 2,.int .u8 0,.int .u8 0,.int .u8 0,.int .u8 0,.slice (some ⟨bt,0,none⟩) 1 tn]),(12,.i 0)] fun S=>akK S 2 [.i 0,.i 0,.int .u8 0,.int .u8 0,.int .u8 0,.int .u8 0,.slice none 0 0] fun ac u b11 DL abZ S=>akO S 0 (off:=0) (cs:=[.i 2,.i 2,.int .u8 0,.int .u8 0,.int .u8 0,.int .u8 0,.slice (some ⟨bt,0,none⟩) 1 tn]) rfl (fun u C14 S=>?_);have NQ:=akR (Ext.trans' E8 (Ext.trans' zZ DL)) C14 (by have:=(Ext.trans' E8 zZ).size; omega);have Qx:=akR DL C14 (by omega);refine adr S 1 [] [(3,.i 0)] fun S=>akI<|iq _ _<|akJ fun _ gJ=>adr S 4 [.mem 1 6,.slc 1 3 3 3] [(17,.agg #[.i 1,.i 1,.int .u8 0,.int .u8 0,.int .u8 0,.int .u8 0,.slice (Sx.wu (some ⟨b,0,none⟩) 1 3 47) (3-1) (3-1)])] (hk:=⟨(by omega),trivial⟩) fun S=>akQ S 18 (jT (wV (K:=20) (s:=⟨1,1,.none,Sx.wu (some ⟨b,0,none⟩) 1 3 47,2,[y,z]⟩) (abY ((bU.below hok.1 NQ))) (hg.below S.E)) (show Value.tuple #[.i (aN.chk ⟨1,1,.none,[y.key,z.key]⟩).1,.i (aN.chk ⟨1,1,.none,[y.key,z.key]⟩).2] = .tuple #[.i 17,.i 0] by rw[hS.chk])) fun ac u D5 S=>adr S 5 [] [(4,.i 17),(5,.i 0)] fun S=>akI<|gJ _ _<|akJ (fun _ jf=>?_);have hqn:=(WS (And.intro hbt hrt) (Ext.trans' Qx D5));have S:=S.view hqn.1 hqn.2 (fun p hp=>by rcases alA.1 hp with rfl | hp; (show b11≠bt; omega); rcases alA.1 hp with rfl | hp; (show b4≠bt; omega); cases hp);refine adr S 1 [.mem 1 0] [(21,.agg #[.i 2,.i 2,.int .u8 0,.int .u8 0,.int .u8 0,.int .u8 0,.slice (some ⟨b,0,none⟩) 3 3])] fun S=>akQ S 22 (jT (pV (K:=20) (s:=wK b x y z) ((bU.below hok.1 (Ext.trans' NQ D5))) (hg.below S.E)) (alb Value.bool hS.valid)) fun ac u zk S=>adr S 2 [.mem 1 0] [(23,.bool true),(24,.agg #[.i 2,.i 2,.int .u8 0,.int .u8 0,.int .u8 0,.int .u8 0,.slice (some ⟨b,0,none⟩) 3 3])] fun S=>Sx.wW S (some 25) (jT (NR (K:=20) (s:=wK b x y z) ((bU.below hok.1 (Ext.trans' NQ (Ext.trans' D5 zk)))) (hg.below S.E) 0) (alb (Value.int .i64) hS.sub)) ?_;rintro e u ⟨rfl,BA⟩;refine⟨_,rfl,BA,fun ac S=>?_⟩;refine adr S 4 [.mem 1 0] [(28,.bool true),(29,.agg #[.i 2,.i 2,.int .u8 0,.int .u8 0,.int .u8 0,.int .u8 0,.slice (some ⟨b,0,none⟩) 3 3])] fun S=>Sx.wW S (some 30) (jT (NS (K:=20) (s:=wK b x y z) ((bU.below hok.1 (Ext.trans' NQ (Ext.trans' D5 (Ext.trans' zk BA))))) (hg.below S.E) 1) (alb (Value.int .i64) hS.par)) ?_;rintro e u ⟨rfl,Jd⟩;refine⟨_,rfl,Jd,fun ac S=>?_⟩;refine adr S 4 [.mem 1 0] [(33,.bool true),(34,.agg #[.i 2,.i 2,.int .u8 0,.int .u8 0,.int .u8 0,.int .u8 0,.slice (some ⟨b,0,none⟩) 3 3])] fun S=>Sx.wW S (some 35) (jT (NT (K:=20) (s:=wK b x y z) ((bU.below hok.1 (Ext.trans' NQ (Ext.trans' D5 (Ext.trans' zk (Ext.trans' BA Jd)))))) (hg.below S.E) 3) (alb (Value.int .i64) hS.idx)) ?_;rintro e u ⟨rfl,CQ⟩;refine⟨_,rfl,CQ,fun ac S=>?_⟩;refine adr S 29 [.mem 0 6,.mem 0 6,.idx 0 1,.mem 2 0,.re 54 (.bool ((q.id)==3)) (.bool true)] [(0,.bool true)] (hk:=⟨(by decide),(by rw[hqi]; rfl),trivial⟩) fun S=>akI<|jf _ _<|akM S results16 ?_;exact⟨rfl,S.E⟩
end Go.Proofs.YtfmkkemfhjkajaaGreatDoor
