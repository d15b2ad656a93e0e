/- The laws' own example: a scene of three nodes. -/
import Derived.Test.YtfmkkemfhjkajaaGreatDoorPk44
import Derived.Test.YtfmkkemfhjkajaaGreatDoorFew37
import Derived.Test.YtfmkkemfhjkajaaGreatDoorPk46
set_option maxHeartbeats 3200000
set_option maxRecDepth 100000
namespace Go.Proofs.YtfmkkemfhjkajaaGreatDoor
open Go.RowKit
variable{α:Type}{K:Nat}
set_option linter.unusedVariables false
theorem fM.lim{w:World}{id kind:Int}{nd:aj}(h:fM w id kind nd)(hk:kind=1∨kind=2):nd.lim:=by
 rcases h with ⟨rfl,t,ht,rfl⟩ | ⟨rfl,t,ht,rfl⟩ | ⟨rfl,t,b,ht,-,rfl⟩ | ⟨k,rfl⟩
 ·exact⟨Ae (ht.fit (by decide)),Nat.zero_le _,Nat.zero_le _,Nat.zero_le _,(fun p hp=>by cases hp),Nat.zero_le _,Nat.zero_le _,(fun p hp=>by cases hp),Nat.zero_le _⟩
 ·exact⟨Ae (ht.fit (by decide)),Nat.zero_le _,Nat.zero_le _,Nat.zero_le _,(fun p hp=>by cases hp),Nat.zero_le _,Nat.zero_le _,(fun p hp=>by cases hp),Nat.zero_le _⟩
 ·omega
 ·omega
theorem fM.is{w:World}{id kind:Int}{nd:aj}(h:fM w id kind nd)(hk:kind=1∨kind=2):nd.id=id∧nd.kind=kind∧nd.depth=0:=by
 rcases h with ⟨rfl,t,ht,rfl⟩ | ⟨rfl,t,ht,rfl⟩ | ⟨rfl,t,b,ht,-,rfl⟩ | ⟨k,rfl⟩
 ·exact⟨rfl,rfl,rfl⟩
 ·exact⟨rfl,rfl,rfl⟩
 ·omega
 ·omega
structure Qi (κ:aP) (a b c:aJ):Prop where
 e:κ=⟨2,2,.none,[a,b,c]⟩
 a0:a.id=1∧a.kind=1∧a.depth=0∧a.chk=0
 b0:b.id=2∧b.kind=2∧b.depth=1∧b.chk=0
 c0:c.id=3∧c.kind=2∧c.depth=0∧c.chk=0
theorem Qi.valid{κ:aP}{a b c:aJ}(h:Qi κ a b c):κ.valid=true:=by
 obtain⟨rfl,⟨a1,a2,a3,a4⟩,⟨b1,b2,b3,b4⟩,⟨c1,c2,c3,c4⟩⟩:=h
 refine aP.oL.2 ⟨(by show(1:Int)≤2∧(2:Int)≤256∧(1:Int)≤2∧(2:Int)≤256; decide),by show 3≤64; omega,?_,?_,?_,trivial⟩
 ·simp[fA,nS,a4,a3]
 ·simp[fA,nS,b4,b3,a1,b1,a2,a3]
 ·simp[fA,nS,c4,c3,a1,b1,c1,b2,b3]
theorem Ti{a b c:aJ}(a3:a.depth=0)(b3:b.depth=1)(c3:c.depth=0):eu [a,b,c] 0=2:=by
 have h3:∀j,0<j→j<2→bP [a,b,c] 0<bP [a,b,c] j:=fun j h1 h2=>by
  obtain rfl:j=1:=by omega
  show a.depth<b.depth
  omega
 have h4:2<3→bP [a,b,c] 2≤bP [a,b,c] 0:=fun _=>by
  show c.depth≤a.depth
  omega
 rw[rD (by simp)]
 exact Af (n:=3) (i:=0) (k:=2) (by decide) (by decide) (by decide) h3 h4
theorem Qi.sub{κ:aP}{a b c:aJ}(h:Qi κ a b c):κ.endOf 0=2:=by
 have hv:=h.valid
 obtain⟨rfl,⟨a1,a2,a3,a4⟩,⟨b1,b2,b3,b4⟩,⟨c1,c2,c3,c4⟩⟩:=h
 have hh:aP.has ⟨2,2,.none,[a,b,c]⟩ 0=true:=by unfold aP.has; rw[hv]; rfl
 unfold aP.endOf
 rw[if_pos hh]
 show((eu [a,b,c] 0:Nat):Int)=2
 rw[Ti a3 b3 c3]; rfl
theorem Qi.par{κ:aP}{a b c:aJ}(h:Qi κ a b c):κ.sJ 1=0:=by
 have hv:=h.valid
 obtain⟨rfl,⟨a1,a2,a3,a4⟩,⟨b1,b2,b3,b4⟩,⟨c1,c2,c3,c4⟩⟩:=h
 have hh:aP.has ⟨2,2,.none,[a,b,c]⟩ 1=true:=by unfold aP.has; rw[hv]; rfl
 unfold aP.sJ
 rw[if_pos hh]
 show iL (bP [a,b,c]) 1=0
 simp[iL,lH,bP,a3,b3]
theorem Qi.idx{κ:aP}{a b c:aJ}(h:Qi κ a b c):κ.index 3=2:=by
 have hv:=h.valid
 obtain⟨rfl,⟨a1,a2,a3,a4⟩,⟨b1,b2,b3,b4⟩,⟨c1,c2,c3,c4⟩⟩:=h
 unfold aP.index
 rw[if_pos hv]
 simp[iY,ji,List.findIdx?_cons,a1,b1,c1]
theorem Qi.app{κ:aP}{a b c:aJ}(h:Qi κ a b c):jI κ (.remove 1)=(⟨2,2,.none,[c]⟩,0):=by
 have hv:=h.valid
 obtain⟨rfl,⟨a1,a2,a3,a4⟩,⟨b1,b2,b3,b4⟩,⟨c1,c2,c3,c4⟩⟩:=h
 have he:=Ti a3 b3 c3
 refine U9 (l:=[c]) hv (by simp[gQ.named,gQ.remove]) ?_ ?_
 ·have hf:ji [a,b,c] (gQ.remove 1).id=some 0:=by simp[ji,gQ.remove,List.findIdx?_cons,a1]
  unfold lY
  rw[if_neg (by simp[gQ.remove]),if_pos (show(gQ.remove 1).kind=2 from rfl)]
  simp only[hf]
  show Except.ok (uq [a,b,c] 0 (eu [a,b,c] 0))=_
  rw[he]; rfl
 ·refine aP.oL.2 ⟨(by show(1:Int)≤2∧(2:Int)≤256∧(1:Int)≤2∧(2:Int)≤256; decide),by show 1≤64; omega,?_,trivial⟩
  simp[fA,nS,c4,c3]
theorem Qi.chk{a b c:aJ}{κ:aP}(h:Qi κ a b c):aP.chk ⟨1,1,.none,[b,c]⟩=(17,0):=by
 obtain⟨rfl,⟨a1,a2,a3,a4⟩,⟨b1,b2,b3,b4⟩,⟨c1,c2,c3,c4⟩⟩:=h
 unfold aP.chk
 rw[if_neg (by show ¬((1:Int)<1∨(256:Int)<1∨(1:Int)<1∨(256:Int)<1); decide),if_neg (by show ¬64<2; omega)]
 simp[iM,fA,nS,b4,b3]
theorem acZ{w:World}{b:Nat}{L:List aj}(hx:Bx w b (L.flatMap aj.cells).toArray)(hm:L.length≤maxLen):aT 47 aj.cells w (.slice (some ⟨b,0,none⟩) L.length L.length) L:=
 ⟨_,L.length,rfl,hm,.inr ⟨b,0,rfl,hx.1,Nat.le_refl _,fun i hi j hj=>by rw[Nat.zero_add,hx.2.1,List.getElem?_toArray,Sx.sK (k:=47) (f:=aj.cells) (fun _=>rfl) L i hi j hj]⟩⟩
theorem jO{f:FuncId}{args:Array Value}{w:World}{v v':Value}(h:Calls Tryz.prog f args w fun e w'=>e = .returned v∧Ext w w')(hv:v=v'):Calls Tryz.prog f args w fun e w'=>e = .returned v'∧Ext w w':=hv▸h
abbrev wu (b:Nat)(x y z:aj):aS:=⟨2,2,.none,some ⟨b,0,none⟩,3,[x,y,z]⟩
theorem JV{w:World}{id kind:Int}{nd:aj}(h:fM w id kind nd)(hk:kind=1∨kind=2)(hi:1≤id∧id≤1073741824):nd.checkN=0:=by
 have:=h.check
 rw[show((((decide (1≤id))&&(decide (id≤1073741824)))&&(decide (1≤kind)))&&(decide (kind≤3)))=true by simp; omega]at this
 simpa using this
theorem ac0{w:World}{x y z:aj}{b:Nat}(h1:fM w 1 1 x)(h2:fM w 2 2 y)(h3:fM w 3 2 z):Qi (wu b x {y with depth:=1} z).key x.key ({y with depth:=1}:aj).key z.key:=
 have a:=h1.is (.inl rfl); have c:=h2.is (.inr rfl); have d:=h3.is (.inr rfl)
 ⟨rfl,⟨a.1,a.2.1,a.2.2,(nT x).trans (JV h1 (.inl rfl) (by decide))⟩,⟨c.1,c.2.1,rfl,(nT _).trans (by rw[Ag (JV h2 (.inr rfl) (by decide)) 1]; rfl)⟩,⟨d.1,d.2.1,d.2.2,(nT z).trans (JV h3 (.inr rfl) (by decide))⟩⟩
theorem ac1{w:World}{x y z:aj}{b:Nat}(h1:fM w 1 1 x)(h2:fM w 2 2 y)(h3:fM w 3 2 z){A:List Value}(hx:Bx w b A.toArray)(hA:A=[x,{y with depth:=1},z].flatMap aj.cells:=by kernel_rfl):bW 20 w (wu b x {y with depth:=1} z)∧∀n∈(wu b x {y with depth:=1} z).ns,n.lim:=by
 have k1:=h1.ok (K:=20) (by decide) (by decide) (by decide)
 have k2:=h2.ok (K:=20) (by decide) (by decide) (by decide)
 have k3:=h3.ok (K:=20) (by decide) (by decide) (by decide)
 have k2':fJ 20 w {y with depth:=1}:=⟨⟨k2.1.1,k2.1.2.1,(show I64 1 by decide),k2.1.2.2.2⟩,k2.2⟩
 subst hA
 refine⟨⟨(show I64 2 by decide),(show I64 2 by decide),acZ hx (by show 3≤9223372036854775807; decide),fun n hn=>?_⟩,fun n hn=>?_⟩
 ·rcases List.mem_cons.1 hn with rfl | hn
  ·exact k1
  ·rcases List.mem_cons.1 hn with rfl | hn
   ·exact k2'
   ·obtain rfl:=List.mem_singleton.1 hn; exact k3
 ·rcases List.mem_cons.1 hn with rfl | hn
  ·exact h1.lim (.inl rfl)
  ·rcases List.mem_cons.1 hn with rfl | hn
   ·exact h2.lim (.inr rfl)
   ·obtain rfl:=List.mem_singleton.1 hn; exact h3.lim (.inr rfl)
theorem Yk{base:Nat}{s t:aS}{e:bC}{code:Int}{w:World}{c:aJ}(h:Qj base K s e code t w)(ha:jI s.key e.key=(⟨2,2,.none,[c]⟩,0)):code=0∧∃(a:Option Addr) (n:Nat) (q:aj),t=⟨2,2,.none,a,n,[q]⟩∧q.key=c:=by
 have h1:=h.1.trans ha
 clear h ha
 have hk:t.key=⟨2,2,.none,[c]⟩:=congrArg Prod.fst h1
 have hc:code=0:=congrArg Prod.snd h1
 have e1:t.w=2:=congrArg aP.w hk
 have e2:t.h=2:=congrArg aP.h hk
 have e3:t.bg = .none:=congrArg aP.bg hk
 have e4:t.ns.map aj.key=[c]:=congrArg aP.ns hk
 obtain⟨q,e5,e6⟩:=List.map_eq_singleton_iff.1 e4
 obtain⟨tw,th,tb,ta,tn,tl⟩:=t
 exact⟨hc,ta,tn,q,by rw[show tw=2 from e1,show th=2 from e2,show tb = .none from e3,show tl=[q]from e5],e6⟩
theorem aaL{base:Nat}{w:World}{ta:Option Addr}{tn:Nat}{q:aj}(h:kY base (aS.s ⟨2,2,.none,ta,tn,[q]⟩) [q] w):∃bt,ta=some ⟨bt,0,none⟩∧base≤bt∧bt<w.heap.size∧w.rangeAt bt (0+0*47) q.cells:=by
 have h1:=(Sx.On.self h).1
 obtain⟨b,o,c,hv,hb,hr⟩:=Vp.aF h1.1 (fun _=>rfl) 0 (by show 0<1; decide)
 rcases h1.2 with h0 | ⟨g,cap,cur,hg,h2,-⟩
 ·exact absurd h0 (by show ¬1=0; decide)
 ·simp only[aS.s,Value.slice.injEq]at hv hg
  have e:=hg.1.symm.trans hv.1
  simp only[Option.some.injEq,Addr.mk.injEq]at e
  obtain⟨rfl,rfl,-⟩:=e
  exact⟨g,hg.1,h2,hb,hr⟩
theorem aaM:bC.key ⟨2,1,0,0,nO,.none⟩ = .remove 1:=rfl
theorem Qk(w:World):nO.lim:=by
 have h:=(qN (K:=20) w (by decide) (by decide)).2.1
 exact⟨Ae h,by show 0≤10000000; decide,by show 0≤10000000; decide,by show 0≤10000000; decide,(fun p hp=>by have hp:p∈([]:List ak):=hp; cases hp),by show 0≤10000000; decide,by show 0≤10000000; decide,(fun p hp=>by have hp:p∈([]:List ak):=hp; cases hp),by show 0≤10000000; decide⟩
theorem ac2(w:World):zo 20 w ⟨2,1,0,0,nO,.none⟩:=⟨(show I64 2 by decide),(show I64 1 by decide),(show I64 0 by decide),(show I64 0 by decide),qN w (by decide) (by decide)⟩
theorem Ql(w:World) :
  Calls Tryz.prog 48 #[] w fun e w'=>∃(b:Nat) (x y z:aj),e = .returned (wu b x y z).v∧Qi (wu b x y z).key x.key y.key z.key∧(bW 20 w' (wu b x y z)∧∀n∈(wu b x y z).ns,n.lim)∧Ext w w':=by
 skip
 refine aiK Tryz.func48 Tryz.ntmps48 fun ac S=>aiG fun _ aU=>aiJ S 0 [.int .i64 0,.int .i64 0,.int .u8 0,.int .u8 0,.int .u8 0,.int .u8 0,.slice none 0 0] fun ac u b2 E3 hb4 S=>aiF<|aU _ _<|aiG fun _ bV=>aiQ S (some 4) (qh 1 1 _) ?_
 rintro e u ⟨x,rfl,dx,E6⟩
 refine⟨_,rfl,E6,fun ac S=>?_⟩
 refine aiQ S (some 5) (qh 2 2 _) ?_
 rintro e u ⟨y,rfl,dy,E7⟩
 refine⟨_,rfl,E7,fun ac S=>?_⟩
 refine aiQ S (some 6) (qh 3 2 _) ?_
 rintro e u ⟨z,rfl,dz,E8⟩
 refine⟨_,rfl,E8,fun ac S=>?_⟩
 refine aiJ S 1 (Sx.L [.int .i64 0,.int .i64 0,.int .i64 0]++Sx.za++Sx.L [.slice none 0 0,.int .i64 0,.int .u8 0,.int .i64 0,.bool false,.bool false,.slice none 0 0,.int .i64 0,.slice none 0 0,.int .i64 0,.int .i64 0,.int .i64 0,.int .i64 0,.slice none 0 0,.int .i64 0,.slice none 0 0,.int .i64 0,.int .i64 0,.slice none 0 0,.int .i64 0]) fun ac u b9 Bj LJ S=>aiJ S 2 (Sx.L [.int .i64 0,.int .i64 0,.int .i64 0]++Sx.za++Sx.L [.slice none 0 0,.int .i64 0,.int .u8 0,.int .i64 0,.bool false,.bool false,.slice none 0 0,.int .i64 0,.slice none 0 0,.int .i64 0,.int .i64 0,.int .i64 0,.int .i64 0,.slice none 0 0,.int .i64 0,.slice none 0 0,.int .i64 0,.int .i64 0,.slice none 0 0,.int .i64 0]) fun ac u b12 H7 aey S=>aiJ S 3 (Sx.L [.int .i64 0,.int .i64 0,.int .i64 0]++Sx.za++Sx.L [.slice none 0 0,.int .i64 0,.int .u8 0,.int .i64 0,.bool false,.bool false,.slice none 0 0,.int .i64 0,.slice none 0 0,.int .i64 0,.int .i64 0,.int .i64 0,.int .i64 0,.slice none 0 0,.int .i64 0,.slice none 0 0,.int .i64 0,.int .i64 0,.slice none 0 0,.int .i64 0]) fun ac u b15 Pz Dy S=>aiL S 2 (off:=0) (cs:=x.cells) rfl (fun u Xk S=>?_)
 have Xm:=aiP (Ext.trans' E7 (Ext.trans' E8 (Ext.trans' Bj (Ext.trans' H7 Pz)))) Xk (by have:=(Ext.trans' E7 E8).size; omega)
 have Iz:=aiP (Ext.trans' E8 (Ext.trans' Bj (Ext.trans' H7 Pz))) Xk (by have:=E8.size; omega)
 have LD:=aiP (Ext.trans' Bj (Ext.trans' H7 Pz)) Xk (by omega)
 have X23:=S.bx 1
 refine aiL S 1 (off:=0) (cs:=y.cells) rfl (fun u C22 S=>?_)
 have agZ:=fM.bT (fM.below dx Xm) C22 X23
 have uf:=fM.bT (fM.below dy Iz) C22 X23
 have yD:=fM.bT (fM.below dz LD) C22 X23
 have X28:=S.bx 0
 refine aiL S 0 (off:=0) (cs:=z.cells) rfl (fun u C27 S=>?_)
 have P8:=fM.bT agZ C27 X28
 have P9:=fM.bT uf C27 X28
 have Bz:=fM.bT yD C27 X28
 refine aiF<|bV _ _<|aiG fun _ kM=>adr S 1 [] [(7,.pointer (some ⟨b12,2,none⟩))] (fun ac S=>?_)
 have X34:=S.bx 1
 refine aiW S 1 (off:=2) (v := .int .i64 1) rfl (fun u UO S=>?_)
 have U7:=fM.bT P8 UO X34
 have ac3:=fM.bT P9 UO X34
 have Xw:=fM.bT Bz UO X34
 refine aiF<|kM _ _<|aiG fun _ jG=>adr S 3 [.mem 2 0,.mem 1 0,.mem 0 0] [(8,x.v),(9,.agg (Sx.L [.int .i64 y.id,.int .i64 y.kind,.int .i64 1]++y.t.cells++Sx.L [y.cs,.int .i64 y.aO,.int .u8 (y.eY.toNat:Int),.int .i64 y.blend,.bool y.isolated,.bool y.dN,y.ps,.int .i64 y.aY,y.fs]++y.style.cells++Sx.L [y.ss]++y.img.cells++Sx.L [.int .i64 y.cZ]).toArray),(10,z.v)] fun ac S=>Sx.news S 11 3 (x.cells++Sx.L [.int .i64 y.id,.int .i64 y.kind,.int .i64 1]++y.t.cells++Sx.L [y.cs,.int .i64 y.aO,.int .u8 (y.eY.toNat:Int),.int .i64 y.blend,.bool y.isolated,.bool y.dN,y.ps,.int .i64 y.aY,y.fs]++y.style.cells++Sx.L [y.ss]++y.img.cells++Sx.L [.int .i64 y.cZ]++z.cells) fun ac u b39 E40 aeI S=>adr S 1 [] [(12,.agg #[.int .i64 2,.int .i64 2,.int .u8 0,.int .u8 0,.int .u8 0,.int .u8 0,.slice (some ⟨b39,0,none⟩) 3 3])] (fun ac S=>?_)
 have X43:=S.bx 4
 refine aiL S 4 (off:=0) (cs:=[.int .i64 2,.int .i64 2,.int .u8 0,.int .u8 0,.int .u8 0,.int .u8 0,.slice (some ⟨b39,0,none⟩) 3 3]) rfl (fun u C42 S=>?_)
 have U8:=fM.bT (fM.below U7 E40) C42 X43
 have aaJ:=fM.bT (fM.below ac3 E40) C42 X43
 have aeJ:=fM.bT (fM.below Xw E40) C42 X43
 refine aiF<|jG _ _<|Vp.rt ?_
 have key:bodyPost Tryz.prog Tryz.f48 (fun e w'=>∃(b:Nat) (x y z:aj),e = .returned (wu b x y z).v∧Qi (wu b x y z).key x.key y.key z.key∧(bW 20 w' (wu b x y z)∧∀n∈(wu b x y z).ns,n.lim)∧Ext w w') .ret ac u:=aiS S 4 Tryz.results48 rfl (v := .agg (aS.cells (wu b39 x {y with depth:=1} z)).toArray) ⟨b39,x,{y with depth:=1},z,rfl,ac0 (U8) (aaJ) (aeJ),ac1 (U8) (aaJ) (aeJ) (S.bx 0),S.E⟩
 exact key
theorem Va{w w':World}{b o:Nat}{l:List Value}(h:b<w.heap.size∧w.rangeAt b o l)(hE:Ext w w'):b<w'.heap.size∧w'.rangeAt b o l:=⟨Nat.lt_of_lt_of_le h.1 hE.size,fun j v hv=>(hE.cell (p:=⟨b,o+j,none⟩) h.1).trans (h.2 j v hv)⟩
theorem aaN{w:World}{b:Nat}{x y z:aj}(h:bW 20 w (wu b x y z)):bW 20 w ⟨1,1,.none,Sx.wz (some ⟨b,0,none⟩) 1 3 47,2,[y,z]⟩:=
 ⟨(show I64 1 by decide),(show I64 1 by decide),Sx.IU (L:=[x,y,z]) (i:=1) h.2.2.1 (by show 1≤3; decide) (by show 3≤3; decide),fun n hn=>h.2.2.2 n (List.mem_cons_of_mem _ hn)⟩
theorem kZ{w:World}(hg:jE w) :
  Calls Tryz.prog 16 #[] w fun e w'=>e = .returned (.bool true)∧Ext w w':=by
 skip
 refine aiK Tryz.func16 Tryz.ntmps16 fun ac S=>aiG fun _ aU=>adr S 1 [] [(0,.bool false)] fun ac S=>aiF<|aU _ _<|aiG fun _ fE=>aiQ S (some 6) (Ql _) ?_
 rintro e u ⟨b,x,y,z,rfl,hS,hok,E3⟩
 refine⟨_,rfl,E3,fun ac S=>?_⟩
 refine aiJ S 1 [.int .i64 0,.int .i64 0,.int .u8 0,.int .u8 0,.int .u8 0,.int .u8 0,.slice none 0 0] fun ac u b4 E5 hb6 S=>aiL S 0 (off:=0) (cs:=[.int .i64 2,.int .i64 2,.int .u8 0,.int .u8 0,.int .u8 0,.int .u8 0,.slice (some ⟨b,0,none⟩) 3 3]) rfl (fun u C7 S=>?_)
 have E8:=aiP E5 C7 (by omega)
 refine aiF<|fE _ _<|aiG fun _ gB=>adr S 2 [.mem 0 0] [(8,.agg #[.int .i64 2,.int .i64 2,.int .u8 0,.int .u8 0,.int .u8 0,.int .u8 0,.slice (some ⟨b,0,none⟩) 3 3]),(9,.agg (Sx.L [.int .i64 2,.int .i64 1,.int .i64 0,.int .i64 0,.int .i64 0,.int .i64 0,.int .i64 0]++Sx.za++Sx.L [.slice none 0 0,.int .i64 0,.int .u8 0,.int .i64 0,.bool false,.bool false,.slice none 0 0,.int .i64 0,.slice none 0 0,.int .i64 0,.int .i64 0,.int .i64 0,.int .i64 0,.slice none 0 0,.int .i64 0,.slice none 0 0,.int .i64 0,.int .i64 0,.slice none 0 0,.int .i64 0,.int .u8 0,.int .u8 0,.int .u8 0,.int .u8 0]).toArray)] (fun ac S=>?_)
 have hl1:=(S.bx 0).1
 refine aiQ S (some 10) (MF (K:=20) (s:=wu b x y z) (e:=⟨2,1,0,0,nO,.none⟩) ((bW.below hok.1 E8)) (hg.below S.E) (ac2 _) hok.2 (Qk w)) ?_
 rintro e u ⟨t,code,rfl,har,Bj⟩
 obtain⟨rfl,ta,tn,q,rfl,hq⟩:=Yk har (aaM▸hS.app)
 have hqi:q.id=3:=(congrArg aJ.id hq).trans hS.c0.1
 obtain⟨bt,rfl,hb0,hbt,hrt⟩:=aaL har.2.1
 refine⟨_,rfl,Bj,fun ac S=>?_⟩
 refine adr S 3 [] [(11,.agg #[.int .i64 2,.int .i64 2,.int .u8 0,.int .u8 0,.int .u8 0,.int .u8 0,.slice (some ⟨bt,0,none⟩) 1 tn]),(12,.int .i64 0)] fun ac S=>aiJ S 2 [.int .i64 0,.int .i64 0,.int .u8 0,.int .u8 0,.int .u8 0,.int .u8 0,.slice none 0 0] fun ac u b11 H6 ac4 S=>aiL S 0 (off:=0) (cs:=[.int .i64 2,.int .i64 2,.int .u8 0,.int .u8 0,.int .u8 0,.int .u8 0,.slice (some ⟨bt,0,none⟩) 1 tn]) rfl (fun u C14 S=>?_)
 have Vb:=aiP (Ext.trans' E8 (Ext.trans' Bj H6)) C14 (by have:=(Ext.trans' E8 Bj).size; omega)
 have Pz:=aiP H6 C14 (by omega)
 refine adr S 1 [] [(3,.int .i64 0)] fun ac S=>aiF<|gB _ _<|aiG fun _ ig=>adr S 4 [.mem 1 6,.slc 1 3 3 3] [(17,.agg #[.int .i64 1,.int .i64 1,.int .u8 0,.int .u8 0,.int .u8 0,.int .u8 0,.slice (Sx.wz (some ⟨b,0,none⟩) 1 3 47) (3-1) (3-1)])] (hk:=⟨(by omega),trivial⟩) fun ac S=>aiM S 18 (jO (sN (K:=20) (s:=⟨1,1,.none,Sx.wz (some ⟨b,0,none⟩) 1 3 47,2,[y,z]⟩) (aaN ((bW.below hok.1 Vb))) (hg.below S.E)) (show Value.tuple #[.int .i64 (aP.chk ⟨1,1,.none,[y.key,z.key]⟩).1,.int .i64 (aP.chk ⟨1,1,.none,[y.key,z.key]⟩).2] = .tuple #[.int .i64 17,.int .i64 0] by rw[hS.chk])) fun ac u JD S=>adr S 5 [] [(4,.int .i64 17),(5,.int .i64 0)] fun ac S=>aiF<|ig _ _<|aiG (fun _ jf=>?_)
 have hqn:=(Va (And.intro hbt hrt) (Ext.trans' Pz JD))
 have S:=S.view hqn.1 hqn.2 (fun p hp=>by rcases List.mem_cons.1 hp with rfl | hp; (show b11≠bt; omega); rcases List.mem_cons.1 hp with rfl | hp; (show b4≠bt; omega); cases hp)
 refine adr S 1 [.mem 1 0] [(21,.agg #[.int .i64 2,.int .i64 2,.int .u8 0,.int .u8 0,.int .u8 0,.int .u8 0,.slice (some ⟨b,0,none⟩) 3 3])] fun ac S=>aiM S 22 (jO (mO (K:=20) (s:=wu b x y z) ((bW.below hok.1 (Ext.trans' Vb JD))) (hg.below S.E)) (congrArg Value.bool hS.valid)) fun ac u Iz S=>adr S 2 [.mem 1 0] [(23,.bool true),(24,.agg #[.int .i64 2,.int .i64 2,.int .u8 0,.int .u8 0,.int .u8 0,.int .u8 0,.slice (some ⟨b,0,none⟩) 3 3])] fun ac S=>Sx.BA S (some 25) (jO (CB (K:=20) (s:=wu b x y z) ((bW.below hok.1 (Ext.trans' Vb (Ext.trans' JD Iz)))) (hg.below S.E) 0) (congrArg (Value.int .i64) hS.sub)) ?_
 rintro e u ⟨rfl,LD⟩
 refine⟨_,rfl,LD,fun ac S=>?_⟩
 refine adr S 4 [.mem 1 0] [(28,.bool true),(29,.agg #[.int .i64 2,.int .i64 2,.int .u8 0,.int .u8 0,.int .u8 0,.int .u8 0,.slice (some ⟨b,0,none⟩) 3 3])] fun ac S=>Sx.BA S (some 30) (jO (CG (K:=20) (s:=wu b x y z) ((bW.below hok.1 (Ext.trans' Vb (Ext.trans' JD (Ext.trans' Iz LD))))) (hg.below S.E) 1) (congrArg (Value.int .i64) hS.par)) ?_
 rintro e u ⟨rfl,E22⟩
 refine⟨_,rfl,E22,fun ac S=>?_⟩
 refine adr S 4 [.mem 1 0] [(33,.bool true),(34,.agg #[.int .i64 2,.int .i64 2,.int .u8 0,.int .u8 0,.int .u8 0,.int .u8 0,.slice (some ⟨b,0,none⟩) 3 3])] fun ac S=>Sx.BA S (some 35) (jO (CJ (K:=20) (s:=wu b x y z) ((bW.below hok.1 (Ext.trans' Vb (Ext.trans' JD (Ext.trans' Iz (Ext.trans' LD E22)))))) (hg.below S.E) 3) (congrArg (Value.int .i64) hS.idx)) ?_
 rintro e u ⟨rfl,JA⟩
 refine⟨_,rfl,JA,fun ac S=>?_⟩
 refine adr S 29 [.mem 0 6,.mem 0 6,.idx 0 1,.mem 2 0,.re 54 (.bool ((q.id)==3)) (.bool true)] [(0,.bool true)] (hk:=⟨(by decide),(by rw[hqi]; rfl),trivial⟩) fun ac S=>aiF<|jf _ _<|Vp.rt ?_
 refine aiH S Tryz.results16 ?_
 exact⟨rfl,S.E⟩
end Go.Proofs.YtfmkkemfhjkajaaGreatDoor
