/- The laws' own example: a scene of three nodes. -/
import Derived.Test.YtfmkkemfhjkajaaGreatDoorPk42
import Derived.Test.YtfmkkemfhjkajaaGreatDoorPk43
set_option maxHeartbeats 3200000
set_option maxRecDepth 100000
namespace Go.Proofs.YtfmkkemfhjkajaaGreatDoor
open Go.RowKit
variable{α:Type}{K:Nat}
set_option linter.unusedVariables false
theorem gq.lim{w:World}{id kind:Int}{nd:aj}(h:gq w id kind nd)(hk:kind=1∨kind=2):nd.lim:=by
 rcases h with ⟨rfl,t,ht,rfl⟩ | ⟨rfl,t,ht,rfl⟩ | ⟨rfl,t,b,ht,-,rfl⟩ | ⟨k,rfl⟩
 ·exact⟨Bl (ht.fit (by decide)),Nat.zero_le _,Nat.zero_le _,Nat.zero_le _,(fun p hp=>by cases hp),Nat.zero_le _,Nat.zero_le _,(fun p hp=>by cases hp),Nat.zero_le _⟩
 ·exact⟨Bl (ht.fit (by decide)),Nat.zero_le _,Nat.zero_le _,Nat.zero_le _,(fun p hp=>by cases hp),Nat.zero_le _,Nat.zero_le _,(fun p hp=>by cases hp),Nat.zero_le _⟩
 ·omega
 omega
theorem gq.is{w:World}{id kind:Int}{nd:aj}(h:gq w id kind nd)(hk:kind=1∨kind=2):nd.id=id∧nd.kind=kind∧nd.depth=0:=by
 rcases h with ⟨rfl,t,ht,rfl⟩ | ⟨rfl,t,ht,rfl⟩ | ⟨rfl,t,b,ht,-,rfl⟩ | ⟨k,rfl⟩
 ·exact⟨rfl,rfl,rfl⟩
 ·exact⟨rfl,rfl,rfl⟩
 ·omega
 omega
structure RS (κ:aO) (a b c:aI):Prop where
 e:κ=⟨2,2,.none,[a,b,c]⟩
 a0:a.id=1∧a.kind=1∧a.depth=0∧a.chk=0
 b0:b.id=2∧b.kind=2∧b.depth=1∧b.chk=0
 c0:c.id=3∧c.kind=2∧c.depth=0∧c.chk=0
theorem RS.valid{κ:aO}{a b c:aI}(h:RS κ a b c):κ.valid=true:=by
 obtain⟨rfl,⟨a1,a2,a3,a4⟩,⟨b1,b2,b3,b4⟩,⟨c1,c2,c3,c4⟩⟩:=h;refine aO.nG.2 ⟨(by show(1:Int)≤2∧(2:Int)≤256∧(1:Int)≤2∧(2:Int)≤256; decide),by show 3≤64; omega,?_,?_,?_,trivial⟩
 ·simp[fH,oC,a4,a3]
 ·simp[fH,oC,b4,b3,a1,b1,a2,a3]
 simp[fH,oC,c4,c3,a1,b1,c1,b2,b3]
theorem U2{a b c:aI}(a3:a.depth=0)(b3:b.depth=1)(c3:c.depth=0):dR [a,b,c] 0=2:=by
 have h3:∀j,0<j→j<2→iy [a,b,c] 0<iy [a,b,c] j:=fun j h1 h2=>by
  obtain rfl:j=1:=by omega
  show a.depth<b.depth;omega
 have h4:2<3→iy [a,b,c] 2≤iy [a,b,c] 0:=fun _=>by
  show c.depth≤a.depth;omega
 rw[uZ (by simp)];exact Bo (n:=3) (i:=0) (k:=2) (by decide) (by decide) (by decide) h3 h4
theorem RS.sub{κ:aO}{a b c:aI}(h:RS κ a b c):κ.endOf 0=2:=by
 have hv:=h.valid;obtain⟨rfl,⟨a1,a2,a3,a4⟩,⟨b1,b2,b3,b4⟩,⟨c1,c2,c3,c4⟩⟩:=h;have hh:aO.has ⟨2,2,.none,[a,b,c]⟩ 0=true:=by unfold aO.has; rw[hv]; rfl
 unfold aO.endOf;rw[if_pos hh];show((dR [a,b,c] 0:Nat):Int)=2;rw[U2 a3 b3 c3]; rfl
theorem RS.par{κ:aO}{a b c:aI}(h:RS κ a b c):κ.Oh 1=0:=by
 have hv:=h.valid;obtain⟨rfl,⟨a1,a2,a3,a4⟩,⟨b1,b2,b3,b4⟩,⟨c1,c2,c3,c4⟩⟩:=h;have hh:aO.has ⟨2,2,.none,[a,b,c]⟩ 1=true:=by unfold aO.has; rw[hv]; rfl
 unfold aO.Oh;rw[if_pos hh];show tC (iy [a,b,c]) 1=0;simp[tC,nH,iy,a3,b3]
theorem RS.idx{κ:aO}{a b c:aI}(h:RS κ a b c):κ.index 3=2:=by
 have hv:=h.valid;obtain⟨rfl,⟨a1,a2,a3,a4⟩,⟨b1,b2,b3,b4⟩,⟨c1,c2,c3,c4⟩⟩:=h;unfold aO.index;rw[if_pos hv];simp[gu,fU,List.findIdx?_cons,a1,b1,c1]
theorem RS.app{κ:aO}{a b c:aI}(h:RS κ a b c):dP κ (.remove 1)=(⟨2,2,.none,[c]⟩,0):=by
 have hv:=h.valid;obtain⟨rfl,⟨a1,a2,a3,a4⟩,⟨b1,b2,b3,b4⟩,⟨c1,c2,c3,c4⟩⟩:=h;have he:=U2 a3 b3 c3;refine WT (l:=[c]) hv (by simp[eX.named,eX.remove]) ?_ ?_
 ·have hf:fU [a,b,c] (eX.remove 1).id=some 0:=by simp[fU,eX.remove,List.findIdx?_cons,a1]
  unfold fJ;rw[if_neg (by simp[eX.remove]),if_pos (show(eX.remove 1).kind=2 from rfl)];simp only[hf];show Except.ok (oP [a,b,c] 0 (dR [a,b,c] 0))=_;rw[he]; rfl
 refine aO.nG.2 ⟨(by show(1:Int)≤2∧(2:Int)≤256∧(1:Int)≤2∧(2:Int)≤256; decide),by show 1≤64; omega,?_,trivial⟩;simp[fH,oC,c4,c3]
theorem RS.chk{a b c:aI}{κ:aO}(h:RS κ a b c):aO.chk ⟨1,1,.none,[b,c]⟩=(17,0):=by
 obtain⟨rfl,⟨a1,a2,a3,a4⟩,⟨b1,b2,b3,b4⟩,⟨c1,c2,c3,c4⟩⟩:=h;unfold aO.chk;rw[if_neg (by show ¬((1:Int)<1∨(256:Int)<1∨(1:Int)<1∨(256:Int)<1); decide),if_neg (by show ¬64<2; omega)];simp[iZ,fH,oC,b4,b3]
theorem ZG{w:World}{b:Nat}{L:List aj}(hx:Bx w b (L.flatMap aj.cells).toArray)(hm:L.length≤maxLen):aN 47 aj.cells w (.slice (some ⟨b,0,none⟩) L.length L.length) L:=
 ⟨_,L.length,rfl,hm,.inr ⟨b,0,rfl,hx.1,Nat.le_refl _,fun i hi j hj=>by rw[Nat.zero_add,hx.2.1,List.getElem?_toArray,Sx.tY (k:=47) (f:=aj.cells) (fun _=>rfl) L i hi j hj]⟩⟩
theorem oD{f:FuncId}{args:Array Value}{w:World}{v v':Value}(h:Calls Tryz.prog f args w fun e w'=>e = .returned v∧Ext w w')(hv:v=v'):Calls Tryz.prog f args w fun e w'=>e = .returned v'∧Ext w w':=hv▸h
abbrev xw (b:Nat)(x y z:aj):aF:=⟨2,2,.none,some ⟨b,0,none⟩,3,[x,y,z]⟩
theorem Ld{w:World}{id kind:Int}{nd:aj}(h:gq w id kind nd)(hk:kind=1∨kind=2)(hi:1≤id∧id≤1073741824):nd.checkN=0:=by
 have:=h.check;rw[show((((decide (1≤id))&&(decide (id≤1073741824)))&&(decide (1≤kind)))&&(decide (kind≤3)))=true by simp; omega]at this;simpa using this
theorem aen{w:World}{x y z:aj}{b:Nat}(h1:gq w 1 1 x)(h2:gq w 2 2 y)(h3:gq w 3 2 z):RS (xw b x {y with depth:=1} z).key x.key ({y with depth:=1}:aj).key z.key:=
 have a:=h1.is (.inl rfl); have c:=h2.is (.inr rfl); have d:=h3.is (.inr rfl)
 ⟨rfl,⟨a.1,a.2.1,a.2.2,(oG x).trans (Ld h1 (.inl rfl) (by decide))⟩,⟨c.1,c.2.1,rfl,(oG _).trans (by rw[Bq (Ld h2 (.inr rfl) (by decide)) 1]; rfl)⟩,⟨d.1,d.2.1,d.2.2,(oG z).trans (Ld h3 (.inr rfl) (by decide))⟩⟩
theorem aeo{w:World}{x y z:aj}{b:Nat}(h1:gq w 1 1 x)(h2:gq w 2 2 y)(h3:gq w 3 2 z){A:List Value}(hx:Bx w b A.toArray)(hA:A=[x,{y with depth:=1},z].flatMap aj.cells:=by kernel_rfl):bP 20 w (xw b x {y with depth:=1} z)∧∀n∈(xw b x {y with depth:=1} z).ns,n.lim:=by
 have k1:=h1.ok (K:=20) (by decide) (by decide) (by decide);have k2:=h2.ok (K:=20) (by decide) (by decide) (by decide);have k3:=h3.ok (K:=20) (by decide) (by decide) (by decide);have k2':eF 20 w {y with depth:=1}:=⟨⟨k2.1.1,k2.1.2.1,(show I64 1 by decide),k2.1.2.2.2⟩,k2.2⟩;subst hA;refine⟨⟨(show I64 2 by decide),(show I64 2 by decide),ZG hx (by show 3≤9223372036854775807; decide),fun n hn=>?_⟩,fun n hn=>?_⟩
 ·rcases List.mem_cons.1 hn with rfl | hn
  ·exact k1
  rcases List.mem_cons.1 hn with rfl | hn
  ·exact k2'
  obtain rfl:=List.mem_singleton.1 hn; exact k3
 rcases List.mem_cons.1 hn with rfl | hn
 ·exact h1.lim (.inl rfl)
 rcases List.mem_cons.1 hn with rfl | hn
 ·exact h2.lim (.inr rfl)
 obtain rfl:=List.mem_singleton.1 hn; exact h3.lim (.inr rfl)
theorem ZH{base:Nat}{s t:aF}{e:aX}{code:Int}{w:World}{c:aI}(h:Le base K s e code t w)(ha:dP s.key e.key=(⟨2,2,.none,[c]⟩,0)):code=0∧∃(a:Option Addr) (n:Nat) (q:aj),t=⟨2,2,.none,a,n,[q]⟩∧q.key=c:=by
 have h1:=h.1.trans ha;clear h ha;have hk:t.key=⟨2,2,.none,[c]⟩:=congrArg Prod.fst h1;have hc:code=0:=congrArg Prod.snd h1;have e1:t.w=2:=congrArg aO.w hk;have e2:t.h=2:=congrArg aO.h hk;have e3:t.bg = .none:=congrArg aO.bg hk;have e4:t.ns.map aj.key=[c]:=congrArg aO.ns hk;obtain⟨q,e5,e6⟩:=List.map_eq_singleton_iff.1 e4;obtain⟨tw,th,tb,ta,tn,tl⟩:=t;exact⟨hc,ta,tn,q,by rw[show tw=2 from e1,show th=2 from e2,show tb = .none from e3,show tl=[q]from e5],e6⟩
theorem acd{base:Nat}{w:World}{ta:Option Addr}{tn:Nat}{q:aj}(h:fK base (aF.s ⟨2,2,.none,ta,tn,[q]⟩) [q] w):∃bt,ta=some ⟨bt,0,none⟩∧base≤bt∧bt<w.heap.size∧w.rangeAt bt (0+0*47) q.cells:=by
 have h1:=(Sx.On.self h).1;obtain⟨b,o,c,hv,hb,hr⟩:=Vp.jy h1.1 (fun _=>rfl) 0 (by show 0<1; decide);rcases h1.2 with h0 | ⟨g,cap,cur,hg,h2,-⟩
 ·exact absurd h0 (by show ¬1=0; decide)
 simp only[aF.s,Value.slice.injEq]at hv hg;have e:=hg.1.symm.trans hv.1;simp only[Option.some.injEq,Addr.mk.injEq]at e;obtain⟨rfl,rfl,-⟩:=e;exact⟨g,hg.1,h2,hb,hr⟩
theorem ace:aX.key ⟨2,1,0,0,jY,.none⟩ = .remove 1:=rfl
theorem RU(w:World):jY.lim:=by
 have h:=(oW (K:=20) w (by decide) (by decide)).2.1;exact⟨Bl h,by show 0≤10000000; decide,by show 0≤10000000; decide,by show 0≤10000000; decide,(fun p hp=>by have hp:p∈([]:List ak):=hp; cases hp),by show 0≤10000000; decide,by show 0≤10000000; decide,(fun p hp=>by have hp:p∈([]:List ak):=hp; cases hp),by show 0≤10000000; decide⟩
theorem aep(w:World):oZ 20 w ⟨2,1,0,0,jY,.none⟩:=⟨(show I64 2 by decide),(show I64 1 by decide),(show I64 0 by decide),(show I64 0 by decide),oW w (by decide) (by decide)⟩
theorem RV(w:World) :
  Calls Tryz.prog 48 #[] w fun e w'=>∃(b:Nat) (x y z:aj),e = .returned (xw b x y z).v∧RS (xw b x y z).key x.key y.key z.key∧(bP 20 w' (xw b x y z)∧∀n∈(xw b x y z).ns,n.lim)∧Ext w w':=by
 skip;refine akk Tryz.func48 Tryz.ntmps48 fun ac S=>akg fun _ aP=>akh S 0 [.i 0,.i 0,.int .u8 0,.int .u8 0,.int .u8 0,.int .u8 0,.slice none 0 0] fun ac u b2 E3 hb4 S=>akf<|aP _ _<|akg fun _ dG=>ako S (some 4) (qM 1 1 _) ?_;rintro e u ⟨x,rfl,dx,E6⟩;refine⟨_,rfl,E6,fun ac S=>?_⟩;refine ako S (some 5) (qM 2 2 _) ?_;rintro e u ⟨y,rfl,dy,E7⟩;refine⟨_,rfl,E7,fun ac S=>?_⟩;refine ako S (some 6) (qM 3 2 _) ?_;rintro e u ⟨z,rfl,dz,E8⟩;refine⟨_,rfl,E8,fun ac S=>?_⟩;refine akh S 1 (Sx.L [.i 0,.i 0,.i 0]++Sx.za++Sx.L [.slice none 0 0,.i 0,.int .u8 0,.i 0,.bool false,.bool false,.slice none 0 0,.i 0,.slice none 0 0,.i 0,.i 0,.i 0,.i 0,.slice none 0 0,.i 0,.slice none 0 0,.i 0,.i 0,.slice none 0 0,.i 0]) fun ac u b9 zV KW S=>akh S 2 (Sx.L [.i 0,.i 0,.i 0]++Sx.za++Sx.L [.slice none 0 0,.i 0,.int .u8 0,.i 0,.bool false,.bool false,.slice none 0 0,.i 0,.slice none 0 0,.i 0,.i 0,.i 0,.i 0,.slice none 0 0,.i 0,.slice none 0 0,.i 0,.i 0,.slice none 0 0,.i 0]) fun ac u b12 Et afP S=>akh S 3 (Sx.L [.i 0,.i 0,.i 0]++Sx.za++Sx.L [.slice none 0 0,.i 0,.int .u8 0,.i 0,.bool false,.bool false,.slice none 0 0,.i 0,.slice none 0 0,.i 0,.i 0,.i 0,.i 0,.slice none 0 0,.i 0,.slice none 0 0,.i 0,.i 0,.slice none 0 0,.i 0]) fun ac u b15 Nv I7 S=>akl S 2 (off:=0) (cs:=x.cells) rfl (fun u YR S=>?_);have RH:=akp (Ext.trans' E7 (Ext.trans' E8 (Ext.trans' zV (Ext.trans' Et Nv)))) YR (by have:=(Ext.trans' E7 E8).size; omega);have Ez:=akp (Ext.trans' E8 (Ext.trans' zV (Ext.trans' Et Nv))) YR (by have:=E8.size; omega);have zo:=akp (Ext.trans' zV (Ext.trans' Et Nv)) YR (by omega);have X23:=S.bx 1;refine akl S 1 (off:=0) (cs:=y.cells) rfl (fun u ZI S=>?_);have ahS:=gq.bD (gq.below dx RH) ZI X23;have tu:=gq.bD (gq.below dy Ez) ZI X23;have xu:=gq.bD (gq.below dz zo) ZI X23;have X28:=S.bx 0;refine akl S 0 (off:=0) (cs:=z.cells) rfl (fun u YS S=>?_);have Ri:=gq.bD ahS YS X28;have Rj:=gq.bD tu YS X28;have CV:=gq.bD xu YS X28;refine akf<|dG _ _<|akg fun _ kW=>adr S 1 [] [(7,.pointer (some ⟨b12,2,none⟩))] (fun S=>?_);have X34:=S.bx 1;refine akv S 1 (off:=2) (v := .i 1) rfl (fun u Nw S=>?_);have N7:=gq.bD Ri Nw X34;have Zq:=gq.bD Rj Nw X34;have RI:=gq.bD CV Nw X34;refine akf<|kW _ _<|akg fun _ jC=>adr S 3 [.mem 2 0,.mem 1 0,.mem 0 0] [(8,x.v),(9,.agg (Sx.L [.i y.id,.i y.kind,.i 1]++y.t.cells++Sx.L [y.cs,.i y.aK,.int .u8 (y.dH.toNat:Int),.i y.blend,.bool y.isolated,.bool y.bM,y.ps,.i y.aQ,y.fs]++y.style.cells++Sx.L [y.ss]++y.img.cells++Sx.L [.i y.bQ]).toArray),(10,z.v)] fun S=>akC S 11 3 (x.cells++Sx.L [.i y.id,.i y.kind,.i 1]++y.t.cells++Sx.L [y.cs,.i y.aK,.int .u8 (y.dH.toNat:Int),.i y.blend,.bool y.isolated,.bool y.bM,y.ps,.i y.aQ,y.fs]++y.style.cells++Sx.L [y.ss]++y.img.cells++Sx.L [.i y.bQ]++z.cells) fun ac u b39 KU aee S=>adr S 1 [] [(12,.agg #[.i 2,.i 2,.int .u8 0,.int .u8 0,.int .u8 0,.int .u8 0,.slice (some ⟨b39,0,none⟩) 3 3])] (fun S=>?_);have X43:=S.bx 4;refine akl S 4 (off:=0) (cs:=[.i 2,.i 2,.int .u8 0,.int .u8 0,.int .u8 0,.int .u8 0,.slice (some ⟨b39,0,none⟩) 3 3]) rfl (fun u ZJ S=>?_);have N8:=gq.bD (gq.below N7 KU) ZJ X43;have WI:=gq.bD (gq.below Zq KU) ZJ X43;have acf:=gq.bD (gq.below RI KU) ZJ X43;refine akf<|jC _ _<|Vp.rt ?_;have key:bodyPost Tryz.prog Tryz.f48 (fun e w'=>∃(b:Nat) (x y z:aj),e = .returned (xw b x y z).v∧RS (xw b x y z).key x.key y.key z.key∧(bP 20 w' (xw b x y z)∧∀n∈(xw b x y z).ns,n.lim)∧Ext w w') .ret _ u:=Sx.Lh S 4 Tryz.results48 rfl (v := .agg (aF.cells (xw b39 x {y with depth:=1} z)).toArray) ⟨b39,x,{y with depth:=1},z,rfl,aen (N8) (WI) (acf),aeo (N8) (WI) (acf) (S.bx 0),S.E⟩;exact key
theorem WU{w w':World}{b o:Nat}{l:List Value}(h:b<w.heap.size∧w.rangeAt b o l)(hE:Ext w w'):b<w'.heap.size∧w'.rangeAt b o l:=⟨Nat.lt_of_lt_of_le h.1 hE.size,fun j v hv=>(hE.cell (p:=⟨b,o+j,none⟩) h.1).trans (h.2 j v hv)⟩
theorem acg{w:World}{b:Nat}{x y z:aj}(h:bP 20 w (xw b x y z)):bP 20 w ⟨1,1,.none,Sx.vY (some ⟨b,0,none⟩) 1 3 47,2,[y,z]⟩:=
 ⟨(show I64 1 by decide),(show I64 1 by decide),Sx.CZ (L:=[x,y,z]) (i:=1) h.2.2.1 (by show 1≤3; decide) (by show 3≤3; decide),fun n hn=>h.2.2.2 n (List.mem_cons_of_mem _ hn)⟩
theorem jQ{w:World}(hg:jX w) :
  Calls Tryz.prog 16 #[] w fun e w'=>e = .returned (.bool true)∧Ext w w':=by
 skip;refine akk Tryz.func16 Tryz.ntmps16 fun ac S=>akg fun _ aP=>adr S 1 [] [(0,.bool false)] fun S=>akf<|aP _ _<|akg fun _ fE=>ako S (some 6) (RV _) ?_;rintro e u ⟨b,x,y,z,rfl,hS,hok,E3⟩;refine⟨_,rfl,E3,fun ac S=>?_⟩;refine akh S 1 [.i 0,.i 0,.int .u8 0,.int .u8 0,.int .u8 0,.int .u8 0,.slice none 0 0] fun ac u b4 E5 hb6 S=>akl S 0 (off:=0) (cs:=[.i 2,.i 2,.int .u8 0,.int .u8 0,.int .u8 0,.int .u8 0,.slice (some ⟨b,0,none⟩) 3 3]) rfl (fun u C7 S=>?_);have E8:=akp E5 C7 (by omega);refine akf<|fE _ _<|akg fun _ gX=>adr S 2 [.mem 0 0] [(8,.agg #[.i 2,.i 2,.int .u8 0,.int .u8 0,.int .u8 0,.int .u8 0,.slice (some ⟨b,0,none⟩) 3 3]),(9,.agg (Sx.L [.i 2,.i 1,.i 0,.i 0,.i 0,.i 0,.i 0]++Sx.za++Sx.L [.slice none 0 0,.i 0,.int .u8 0,.i 0,.bool false,.bool false,.slice none 0 0,.i 0,.slice none 0 0,.i 0,.i 0,.i 0,.i 0,.slice none 0 0,.i 0,.slice none 0 0,.i 0,.i 0,.slice none 0 0,.i 0,.int .u8 0,.int .u8 0,.int .u8 0,.int .u8 0]).toArray)] (fun S=>?_);have hl1:=(S.bx 0).1;refine ako S (some 10) (xH (K:=20) (s:=xw b x y z) (e:=⟨2,1,0,0,jY,.none⟩) ((bP.below hok.1 E8)) (hg.below S.E) (aep _) hok.2 (RU w)) ?_;rintro e u ⟨t,code,rfl,har,zV⟩;obtain⟨rfl,ta,tn,q,rfl,hq⟩:=ZH har (ace▸hS.app);have hqi:q.id=3:=(congrArg aI.id hq).trans hS.c0.1;obtain⟨bt,rfl,hb0,hbt,hrt⟩:=acd har.2.1;refine⟨_,rfl,zV,fun ac S=>?_⟩;refine adr S 3 [] [(11,.agg #[.i 2,.i 2,.int .u8 0,.int .u8 0,.int .u8 0,.int .u8 0,.slice (some ⟨bt,0,none⟩) 1 tn]),(12,.i 0)] fun S=>akh S 2 [.i 0,.i 0,.int .u8 0,.int .u8 0,.int .u8 0,.int .u8 0,.slice none 0 0] fun ac u b11 EK ach S=>akl S 0 (off:=0) (cs:=[.i 2,.i 2,.int .u8 0,.int .u8 0,.int .u8 0,.int .u8 0,.slice (some ⟨bt,0,none⟩) 1 tn]) rfl (fun u C14 S=>?_);have QM:=akp (Ext.trans' E8 (Ext.trans' zV EK)) C14 (by have:=(Ext.trans' E8 zV).size; omega);have Nv:=akp EK C14 (by omega);refine adr S 1 [] [(3,.i 0)] fun S=>akf<|gX _ _<|akg fun _ gI=>adr S 4 [.mem 1 6,.slc 1 3 3 3] [(17,.agg #[.i 1,.i 1,.int .u8 0,.int .u8 0,.int .u8 0,.int .u8 0,.slice (Sx.vY (some ⟨b,0,none⟩) 1 3 47) (3-1) (3-1)])] (hk:=⟨(by omega),trivial⟩) fun S=>akn S 18 (oD (xI (K:=20) (s:=⟨1,1,.none,Sx.vY (some ⟨b,0,none⟩) 1 3 47,2,[y,z]⟩) (acg ((bP.below hok.1 QM))) (hg.below S.E)) (show Value.tuple #[.i (aO.chk ⟨1,1,.none,[y.key,z.key]⟩).1,.i (aO.chk ⟨1,1,.none,[y.key,z.key]⟩).2] = .tuple #[.i 17,.i 0] by rw[hS.chk])) fun ac u DL S=>adr S 5 [] [(4,.i 17),(5,.i 0)] fun S=>akf<|gI _ _<|akg (fun _ jI=>?_);have hqn:=(WU (And.intro hbt hrt) (Ext.trans' Nv DL));have S:=S.view hqn.1 hqn.2 (fun p hp=>by rcases List.mem_cons.1 hp with rfl | hp; (show b11≠bt; omega); rcases List.mem_cons.1 hp with rfl | hp; (show b4≠bt; omega); cases hp);refine adr S 1 [.mem 1 0] [(21,.agg #[.i 2,.i 2,.int .u8 0,.int .u8 0,.int .u8 0,.int .u8 0,.slice (some ⟨b,0,none⟩) 3 3])] fun S=>akn S 22 (oD (qw (K:=20) (s:=xw b x y z) ((bP.below hok.1 (Ext.trans' QM DL))) (hg.below S.E)) (congrArg Value.bool hS.valid)) fun ac u Ez S=>adr S 2 [.mem 1 0] [(23,.bool true),(24,.agg #[.i 2,.i 2,.int .u8 0,.int .u8 0,.int .u8 0,.int .u8 0,.slice (some ⟨b,0,none⟩) 3 3])] fun S=>Sx.uH S (some 25) (oD (Oi (K:=20) (s:=xw b x y z) ((bP.below hok.1 (Ext.trans' QM (Ext.trans' DL Ez)))) (hg.below S.E) 0) (congrArg (Value.int .i64) hS.sub)) ?_;rintro e u ⟨rfl,zo⟩;refine⟨_,rfl,zo,fun ac S=>?_⟩;refine adr S 4 [.mem 1 0] [(28,.bool true),(29,.agg #[.i 2,.i 2,.int .u8 0,.int .u8 0,.int .u8 0,.int .u8 0,.slice (some ⟨b,0,none⟩) 3 3])] fun S=>Sx.uH S (some 30) (oD (Oj (K:=20) (s:=xw b x y z) ((bP.below hok.1 (Ext.trans' QM (Ext.trans' DL (Ext.trans' Ez zo))))) (hg.below S.E) 1) (congrArg (Value.int .i64) hS.par)) ?_;rintro e u ⟨rfl,QX⟩;refine⟨_,rfl,QX,fun ac S=>?_⟩;refine adr S 4 [.mem 1 0] [(33,.bool true),(34,.agg #[.i 2,.i 2,.int .u8 0,.int .u8 0,.int .u8 0,.int .u8 0,.slice (some ⟨b,0,none⟩) 3 3])] fun S=>Sx.uH S (some 35) (oD (Ol (K:=20) (s:=xw b x y z) ((bP.below hok.1 (Ext.trans' QM (Ext.trans' DL (Ext.trans' Ez (Ext.trans' zo QX)))))) (hg.below S.E) 3) (congrArg (Value.int .i64) hS.idx)) ?_;rintro e u ⟨rfl,Jt⟩;refine⟨_,rfl,Jt,fun ac S=>?_⟩;refine adr S 29 [.mem 0 6,.mem 0 6,.idx 0 1,.mem 2 0,.re 54 (.bool ((q.id)==3)) (.bool true)] [(0,.bool true)] (hk:=⟨(by decide),(by rw[hqi]; rfl),trivial⟩) fun S=>akf<|jI _ _<|akj S Tryz.results16 ?_;exact⟨rfl,S.E⟩
end Go.Proofs.YtfmkkemfhjkajaaGreatDoor
