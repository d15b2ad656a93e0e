/- The laws' own example: a scene of three nodes. Scenes and edits that came in. A walk that begins anew where it stands, and comes back; small sums. No program in sight. -/
import Derived.Test.YtfmkkemfhjkajaaGreatDoorPk42
import Derived.Test.YtfmkkemfhjkajaaGreatDoorFew37
import Derived.Test.YtfmkkemfhjkajaaGreatDoorOpn36
import Derived.Test.YtfmkkemfhjkajaaGreatDoorPk34
import Derived.Test.YtfmkkemfhjkajaaGreatDoorPk30
section
set_option maxHeartbeats 3200000
set_option maxRecDepth 100000
namespace Go.Proofs.YtfmkkemfhjkajaaGreatDoor
open Go.RowKit
variable{α:Type}{K:Nat}
set_option linter.unusedVariables false
theorem IsDef.lim{w:World}{id kind:Int}{nd:NodeD}(h:IsDef w id kind nd)(hk:kind=1∨kind=2):nd.lim:=by
 rcases h with ⟨rfl,t,ht,rfl⟩ | ⟨rfl,t,ht,rfl⟩ | ⟨rfl,t,b,ht,-,rfl⟩ | ⟨k,rfl⟩
 ·exact⟨fit_lim (ht.fit (by decide)),Nat.zero_le _,Nat.zero_le _,Nat.zero_le _,(fun p hp=>by cases hp),Nat.zero_le _,Nat.zero_le _,(fun p hp=>by cases hp),Nat.zero_le _⟩
 ·exact⟨fit_lim (ht.fit (by decide)),Nat.zero_le _,Nat.zero_le _,Nat.zero_le _,(fun p hp=>by cases hp),Nat.zero_le _,Nat.zero_le _,(fun p hp=>by cases hp),Nat.zero_le _⟩
 ·omega
 ·omega
theorem IsDef.is{w:World}{id kind:Int}{nd:NodeD}(h:IsDef w id kind nd)(hk:kind=1∨kind=2):nd.id=id∧nd.kind=kind∧nd.depth=0:=by
 rcases h with ⟨rfl,t,ht,rfl⟩ | ⟨rfl,t,ht,rfl⟩ | ⟨rfl,t,b,ht,-,rfl⟩ | ⟨k,rfl⟩
 ·exact⟨rfl,rfl,rfl⟩
 ·exact⟨rfl,rfl,rfl⟩
 ·omega
 ·omega
/-- The three nodes: what the laws' example asks of them. -/
structure Sam (κ:SceneK) (a b c:NodeK):Prop where
 e:κ=⟨2,2,.none,[a,b,c]⟩
 a0:a.id=1∧a.kind=1∧a.depth=0∧a.chk=0
 b0:b.id=2∧b.kind=2∧b.depth=1∧b.chk=0
 c0:c.id=3∧c.kind=2∧c.depth=0∧c.chk=0
theorem Sam.valid{κ:SceneK}{a b c:NodeK}(h:Sam κ a b c):κ.valid=true:=by
 obtain⟨rfl,⟨a1,a2,a3,a4⟩,⟨b1,b2,b3,b4⟩,⟨c1,c2,c3,c4⟩⟩:=h
 refine SceneK.valid_iff.2 ⟨(by show(1:Int)≤2∧(2:Int)≤256∧(1:Int)≤2∧(2:Int)≤256; decide),by show 3≤64; omega,?_,?_,?_,trivial⟩
 ·simp[wrongK,roomK,a4,a3]
 ·simp[wrongK,roomK,b4,b3,a1,b1,a2,a3]
 ·simp[wrongK,roomK,c4,c3,a1,b1,c1,b2,b3]
theorem sam_end{a b c:NodeK}(a3:a.depth=0)(b3:b.depth=1)(c3:c.depth=0):endK [a,b,c] 0=2:=by
 have h3:∀j,0<j→j<2→depK [a,b,c] 0<depK [a,b,c] j:=fun j h1 h2=>by
  obtain rfl:j=1:=by omega
  show a.depth<b.depth
  omega
 have h4:2<3→depK [a,b,c] 2≤depK [a,b,c] 0:=fun _=>by
  show c.depth≤a.depth
  omega
 rw[endK_fin (by simp)]
 exact finN_at (n:=3) (i:=0) (k:=2) (by decide) (by decide) (by decide) h3 h4
theorem Sam.sub{κ:SceneK}{a b c:NodeK}(h:Sam κ a b c):κ.endOf 0=2:=by
 have hv:=h.valid
 obtain⟨rfl,⟨a1,a2,a3,a4⟩,⟨b1,b2,b3,b4⟩,⟨c1,c2,c3,c4⟩⟩:=h
 have hh:SceneK.has ⟨2,2,.none,[a,b,c]⟩ 0=true:=by unfold SceneK.has; rw[hv]; rfl
 unfold SceneK.endOf
 rw[if_pos hh]
 show((endK [a,b,c] 0:Nat):Int)=2
 rw[sam_end a3 b3 c3]; rfl
theorem Sam.par{κ:SceneK}{a b c:NodeK}(h:Sam κ a b c):κ.parOf 1=0:=by
 have hv:=h.valid
 obtain⟨rfl,⟨a1,a2,a3,a4⟩,⟨b1,b2,b3,b4⟩,⟨c1,c2,c3,c4⟩⟩:=h
 have hh:SceneK.has ⟨2,2,.none,[a,b,c]⟩ 1=true:=by unfold SceneK.has; rw[hv]; rfl
 unfold SceneK.parOf
 rw[if_pos hh]
 show parN (depK [a,b,c]) 1=0
 simp[parN,parTo,depK,a3,b3]
theorem Sam.idx{κ:SceneK}{a b c:NodeK}(h:Sam κ a b c):κ.index 3=2:=by
 have hv:=h.valid
 obtain⟨rfl,⟨a1,a2,a3,a4⟩,⟨b1,b2,b3,b4⟩,⟨c1,c2,c3,c4⟩⟩:=h
 unfold SceneK.index
 rw[if_pos hv]
 simp[findI,findK,List.findIdx?_cons,a1,b1,c1]
theorem Sam.app{κ:SceneK}{a b c:NodeK}(h:Sam κ a b c):applyK κ (.remove 1)=(⟨2,2,.none,[c]⟩,0):=by
 have hv:=h.valid
 obtain⟨rfl,⟨a1,a2,a3,a4⟩,⟨b1,b2,b3,b4⟩,⟨c1,c2,c3,c4⟩⟩:=h
 have he:=sam_end a3 b3 c3
 refine applyK_of (l:=[c]) hv (by simp[EditK.named,EditK.remove]) ?_ ?_
 ·have hf:findK [a,b,c] (EditK.remove 1).id=some 0:=by simp[findK,EditK.remove,List.findIdx?_cons,a1]
  unfold nodesK
  rw[if_neg (by simp[EditK.remove]),if_pos (show(EditK.remove 1).kind=2 from rfl)]
  simp only[hf]
  show Except.ok (cutK [a,b,c] 0 (endK [a,b,c] 0))=_
  rw[he]; rfl
 ·refine SceneK.valid_iff.2 ⟨(by show(1:Int)≤2∧(2:Int)≤256∧(1:Int)≤2∧(2:Int)≤256; decide),by show 1≤64; omega,?_,trivial⟩
  simp[wrongK,roomK,c4,c3]
theorem Sam.chk{a b c:NodeK}{κ:SceneK}(h:Sam κ a b c):SceneK.chk ⟨1,1,.none,[b,c]⟩=(17,0):=by
 obtain⟨rfl,⟨a1,a2,a3,a4⟩,⟨b1,b2,b3,b4⟩,⟨c1,c2,c3,c4⟩⟩:=h
 unfold SceneK.chk
 rw[if_neg (by show ¬((1:Int)<1∨(256:Int)<1∨(1:Int)<1∨(256:Int)<1); decide),if_neg (by show ¬64<2; omega)]
 simp[chkFrom,wrongK,roomK,b4,b3]
theorem row_bx{w:World}{b:Nat}{L:List NodeD}(hx:Bx w b (L.flatMap NodeD.cells).toArray)(hm:L.length≤maxLen):IsRowN 47 NodeD.cells w (.slice (some ⟨b,0,none⟩) L.length L.length) L:=
 ⟨_,L.length,rfl,hm,.inr ⟨b,0,rfl,hx.1,Nat.le_refl _,fun i hi j hj=>by rw[Nat.zero_add,hx.2.1,List.getElem?_toArray,Sx.flatMap_get (k:=47) (f:=NodeD.cells) (fun _=>rfl) L i hi j hj]⟩⟩
theorem calls_as{f:FuncId}{args:Array Value}{w:World}{v v':Value}(h:Calls Tryz.prog f args w fun e w'=>e = .returned v∧Ext w w')(hv:v=v'):Calls Tryz.prog f args w fun e w'=>e = .returned v'∧Ext w w':=hv▸h
abbrev samS (b:Nat)(x y z:NodeD):SceneD:=⟨2,2,.none,some ⟨b,0,none⟩,3,[x,y,z]⟩
theorem def_chk{w:World}{id kind:Int}{nd:NodeD}(h:IsDef w id kind nd)(hk:kind=1∨kind=2)(hi:1≤id∧id≤1073741824):nd.checkN=0:=by
 have:=h.check
 rw[show((((decide (1≤id))&&(decide (id≤1073741824)))&&(decide (1≤kind)))&&(decide (kind≤3)))=true by simp; omega]at this
 simpa using this
theorem sam_of{w:World}{x y z:NodeD}{b:Nat}(h1:IsDef w 1 1 x)(h2:IsDef w 2 2 y)(h3:IsDef w 3 2 z):Sam (samS b x {y with depth:=1} z).key x.key ({y with depth:=1}:NodeD).key z.key:=
 have a:=h1.is (.inl rfl); have c:=h2.is (.inr rfl); have d:=h3.is (.inr rfl)
 ⟨rfl,⟨a.1,a.2.1,a.2.2,(chk_key x).trans (def_chk h1 (.inl rfl) (by decide))⟩,⟨c.1,c.2.1,rfl,(chk_key _).trans (by rw[checkN_depth (def_chk h2 (.inr rfl) (by decide)) 1]; rfl)⟩,⟨d.1,d.2.1,d.2.2,(chk_key z).trans (def_chk h3 (.inr rfl) (by decide))⟩⟩
theorem sam_ok{w:World}{x y z:NodeD}{b:Nat}(h1:IsDef w 1 1 x)(h2:IsDef w 2 2 y)(h3:IsDef w 3 2 z){A:List Value}(hx:Bx w b A.toArray)(hA:A=[x,{y with depth:=1},z].flatMap NodeD.cells:=by kernel_rfl):SceneOk 20 w (samS b x {y with depth:=1} z)∧∀n∈(samS b x {y with depth:=1} z).ns,n.lim:=by
 have k1:=h1.ok (K:=20) (by decide) (by decide) (by decide)
 have k2:=h2.ok (K:=20) (by decide) (by decide) (by decide)
 have k3:=h3.ok (K:=20) (by decide) (by decide) (by decide)
 have k2':NodeOk 20 w {y with depth:=1}:=⟨⟨k2.1.1,k2.1.2.1,(show I64 1 by decide),k2.1.2.2.2⟩,k2.2⟩
 subst hA
 refine⟨⟨(show I64 2 by decide),(show I64 2 by decide),row_bx hx (by show 3≤9223372036854775807; decide),fun n hn=>?_⟩,fun n hn=>?_⟩
 ·rcases List.mem_cons.1 hn with rfl | hn
  ·exact k1
  ·rcases List.mem_cons.1 hn with rfl | hn
   ·exact k2'
   ·obtain rfl:=List.mem_singleton.1 hn; exact k3
 ·rcases List.mem_cons.1 hn with rfl | hn
  ·exact h1.lim (.inl rfl)
  ·rcases List.mem_cons.1 hn with rfl | hn
   ·exact h2.lim (.inr rfl)
   ·obtain rfl:=List.mem_singleton.1 hn; exact h3.lim (.inr rfl)
theorem one_node{base:Nat}{s t:SceneD}{e:EditD}{code:Int}{w:World}{c:NodeK}(h:appRes base K s e code t w)(ha:applyK s.key e.key=(⟨2,2,.none,[c]⟩,0)):code=0∧∃(a:Option Addr) (n:Nat) (q:NodeD),t=⟨2,2,.none,a,n,[q]⟩∧q.key=c:=by
 have h1:=h.1.trans ha
 clear h ha
 have hk:t.key=⟨2,2,.none,[c]⟩:=congrArg Prod.fst h1
 have hc:code=0:=congrArg Prod.snd h1
 have e1:t.w=2:=congrArg SceneK.w hk
 have e2:t.h=2:=congrArg SceneK.h hk
 have e3:t.bg = .none:=congrArg SceneK.bg hk
 have e4:t.ns.map NodeD.key=[c]:=congrArg SceneK.ns hk
 obtain⟨q,e5,e6⟩:=List.map_eq_singleton_iff.1 e4
 obtain⟨tw,th,tb,ta,tn,tl⟩:=t
 exact⟨hc,ta,tn,q,by rw[show tw=2 from e1,show th=2 from e2,show tb = .none from e3,show tl=[q]from e5],e6⟩
theorem t_place{base:Nat}{w:World}{ta:Option Addr}{tn:Nat}{q:NodeD}(h:CpNodes base (SceneD.s ⟨2,2,.none,ta,tn,[q]⟩) [q] w):∃bt,ta=some ⟨bt,0,none⟩∧base≤bt∧bt<w.heap.size∧w.rangeAt bt (0+0*47) q.cells:=by
 have h1:=(Sx.On.self h).1
 obtain⟨b,o,c,hv,hb,hr⟩:=Vp.rowN_range2 h1.1 (fun _=>rfl) 0 (by show 0<1; decide)
 rcases h1.2 with h0 | ⟨g,cap,cur,hg,h2,-⟩
 ·exact absurd h0 (by show ¬1=0; decide)
 ·simp only[SceneD.s,Value.slice.injEq]at hv hg
  have e:=hg.1.symm.trans hv.1
  simp only[Option.some.injEq,Addr.mk.injEq]at e
  obtain⟨rfl,rfl,-⟩:=e
  exact⟨g,hg.1,h2,hb,hr⟩
theorem rem_key:EditD.key ⟨2,1,0,0,nodeD0,.none⟩ = .remove 1:=rfl
theorem nodeD0_lim(w:World):nodeD0.lim:=by
 have h:=(nodeD0_ok (K:=20) w (by decide) (by decide)).2.1
 exact⟨fit_lim h,by show 0≤10000000; decide,by show 0≤10000000; decide,by show 0≤10000000; decide,(fun p hp=>by have hp:p∈([]:List PaintD):=hp; cases hp),by show 0≤10000000; decide,by show 0≤10000000; decide,(fun p hp=>by have hp:p∈([]:List PaintD):=hp; cases hp),by show 0≤10000000; decide⟩
theorem rem_ok(w:World):EditOk 20 w ⟨2,1,0,0,nodeD0,.none⟩:=⟨(show I64 2 by decide),(show I64 1 by decide),(show I64 0 by decide),(show I64 0 by decide),nodeD0_ok w (by decide) (by decide)⟩
theorem sample_any(w:World) :
  Calls Tryz.prog 48 #[] w fun e w'=>∃(b:Nat) (x y z:NodeD),e = .returned (samS b x y z).v∧Sam (samS b x y z).key x.key y.key z.key∧(SceneOk 20 w' (samS b x y z)∧∀n∈(samS b x y z).ns,n.lim)∧Ext w w':=by
 skip
 refine Sx.enter Tryz.func48 Tryz.ntmps48 fun ac S=>Sx.seqP fun _ κ1=>Sx.newp S 0 [.int .i64 0,.int .i64 0,.int .u8 0,.int .u8 0,.int .u8 0,.int .u8 0,.slice none 0 0] fun ac u b2 E3 hb4 S=>Sx.done<|κ1 _ _<|Sx.seqP fun _ κ5=>Sx.callG S (some 4) (nodeDefault_any 1 1 _) ?_
 rintro e u ⟨x,rfl,dx,E6⟩
 refine⟨_,rfl,E6,fun ac S=>?_⟩
 refine Sx.callG S (some 5) (nodeDefault_any 2 2 _) ?_
 rintro e u ⟨y,rfl,dy,E7⟩
 refine⟨_,rfl,E7,fun ac S=>?_⟩
 refine Sx.callG S (some 6) (nodeDefault_any 3 2 _) ?_
 rintro e u ⟨z,rfl,dz,E8⟩
 refine⟨_,rfl,E8,fun ac S=>?_⟩
 refine Sx.newp S 1 (Sx.L [.int .i64 0,.int .i64 0,.int .i64 0]++Sx.za++Sx.L [.slice none 0 0,.int .i64 0,.int .u8 0,.int .i64 0,.bool false,.bool false,.slice none 0 0,.int .i64 0,.slice none 0 0,.int .i64 0,.int .i64 0,.int .i64 0,.int .i64 0,.slice none 0 0,.int .i64 0,.slice none 0 0,.int .i64 0,.int .i64 0,.slice none 0 0,.int .i64 0]) fun ac u b9 E10 hb11 S=>Sx.newp S 2 (Sx.L [.int .i64 0,.int .i64 0,.int .i64 0]++Sx.za++Sx.L [.slice none 0 0,.int .i64 0,.int .u8 0,.int .i64 0,.bool false,.bool false,.slice none 0 0,.int .i64 0,.slice none 0 0,.int .i64 0,.int .i64 0,.int .i64 0,.int .i64 0,.slice none 0 0,.int .i64 0,.slice none 0 0,.int .i64 0,.int .i64 0,.slice none 0 0,.int .i64 0]) fun ac u b12 E13 hb14 S=>Sx.newp S 3 (Sx.L [.int .i64 0,.int .i64 0,.int .i64 0]++Sx.za++Sx.L [.slice none 0 0,.int .i64 0,.int .u8 0,.int .i64 0,.bool false,.bool false,.slice none 0 0,.int .i64 0,.slice none 0 0,.int .i64 0,.int .i64 0,.int .i64 0,.int .i64 0,.slice none 0 0,.int .i64 0,.slice none 0 0,.int .i64 0,.int .i64 0,.slice none 0 0,.int .i64 0]) fun ac u b15 E16 hb17 S=>Sx.store S 2 (off:=0) (cs:=x.cells) rfl (fun u C18 S=>?_)
 have E19:=Sx.ext_ch (Ext.trans' E7 (Ext.trans' E8 (Ext.trans' E10 (Ext.trans' E13 E16)))) C18 (by have:=(Ext.trans' E7 E8).size; omega)
 have E20:=Sx.ext_ch (Ext.trans' E8 (Ext.trans' E10 (Ext.trans' E13 E16))) C18 (by have:=E8.size; omega)
 have E21:=Sx.ext_ch (Ext.trans' E10 (Ext.trans' E13 E16)) C18 (by omega)
 have X23:=S.bx 1
 refine Sx.store S 1 (off:=0) (cs:=y.cells) rfl (fun u C22 S=>?_)
 have Fs24:=IsDef.setc (IsDef.below dx E19) C22 X23
 have Fs25:=IsDef.setc (IsDef.below dy E20) C22 X23
 have Fs26:=IsDef.setc (IsDef.below dz E21) C22 X23
 have X28:=S.bx 0
 refine Sx.store S 0 (off:=0) (cs:=z.cells) rfl (fun u C27 S=>?_)
 have Fs29:=IsDef.setc Fs24 C27 X28
 have Fs30:=IsDef.setc Fs25 C27 X28
 have Fs31:=IsDef.setc Fs26 C27 X28
 refine Sx.done<|κ5 _ _<|Sx.seqP fun _ κ32=>Sx.run S 1 [] [(7,.pointer (some ⟨b12,2,none⟩))] (fun ac S=>?_)
 have X34:=S.bx 1
 refine Sx.store1 S 1 (off:=2) (v := .int .i64 1) rfl (fun u C33 S=>?_)
 have Fs35:=IsDef.setc Fs29 C33 X34
 have Fs36:=IsDef.setc Fs30 C33 X34
 have Fs37:=IsDef.setc Fs31 C33 X34
 refine Sx.done<|κ32 _ _<|Sx.seqP fun _ κ38=>Sx.run S 3 [.mem 2 0,.mem 1 0,.mem 0 0] [(8,x.v),(9,.agg (Sx.L [.int .i64 y.id,.int .i64 y.kind,.int .i64 1]++y.t.cells++Sx.L [y.cs,.int .i64 y.clipRule,.int .u8 (y.opacity.toNat:Int),.int .i64 y.blend,.bool y.isolated,.bool y.knockout,y.ps,.int .i64 y.fillRule,y.fs]++y.style.cells++Sx.L [y.ss]++y.img.cells++Sx.L [.int .i64 y.samp]).toArray),(10,z.v)] fun ac S=>Sx.news S 11 3 (x.cells++Sx.L [.int .i64 y.id,.int .i64 y.kind,.int .i64 1]++y.t.cells++Sx.L [y.cs,.int .i64 y.clipRule,.int .u8 (y.opacity.toNat:Int),.int .i64 y.blend,.bool y.isolated,.bool y.knockout,y.ps,.int .i64 y.fillRule,y.fs]++y.style.cells++Sx.L [y.ss]++y.img.cells++Sx.L [.int .i64 y.samp]++z.cells) fun ac u b39 E40 hb41 S=>Sx.run S 1 [] [(12,.agg #[.int .i64 2,.int .i64 2,.int .u8 0,.int .u8 0,.int .u8 0,.int .u8 0,.slice (some ⟨b39,0,none⟩) 3 3])] (fun ac S=>?_)
 have X43:=S.bx 4
 refine Sx.store S 4 (off:=0) (cs:=[.int .i64 2,.int .i64 2,.int .u8 0,.int .u8 0,.int .u8 0,.int .u8 0,.slice (some ⟨b39,0,none⟩) 3 3]) rfl (fun u C42 S=>?_)
 have Fs44:=IsDef.setc (IsDef.below Fs35 E40) C42 X43
 have Fs45:=IsDef.setc (IsDef.below Fs36 E40) C42 X43
 have Fs46:=IsDef.setc (IsDef.below Fs37 E40) C42 X43
 refine Sx.done<|κ38 _ _<|Vp.rt ?_
 have key:bodyPost Tryz.prog Tryz.f48 (fun e w'=>∃(b:Nat) (x y z:NodeD),e = .returned (samS b x y z).v∧Sam (samS b x y z).key x.key y.key z.key∧(SceneOk 20 w' (samS b x y z)∧∀n∈(samS b x y z).ns,n.lim)∧Ext w w') .ret ac u:=Sx.retc S 4 Tryz.results48 rfl (v := .agg (SceneD.cells (samS b39 x {y with depth:=1} z)).toArray) ⟨b39,x,{y with depth:=1},z,rfl,sam_of (Fs44) (Fs45) (Fs46),sam_ok (Fs44) (Fs45) (Fs46) (S.bx 0),S.E⟩
 exact key
theorem row_below{w w':World}{b o:Nat}{l:List Value}(h:b<w.heap.size∧w.rangeAt b o l)(hE:Ext w w'):b<w'.heap.size∧w'.rangeAt b o l:=⟨Nat.lt_of_lt_of_le h.1 hE.size,fun j v hv=>(hE.cell (p:=⟨b,o+j,none⟩) h.1).trans (h.2 j v hv)⟩
theorem drop_ok{w:World}{b:Nat}{x y z:NodeD}(h:SceneOk 20 w (samS b x y z)):SceneOk 20 w ⟨1,1,.none,Sx.slA (some ⟨b,0,none⟩) 1 3 47,2,[y,z]⟩:=
 ⟨(show I64 1 by decide),(show I64 1 by decide),Sx.rowN_drop (L:=[x,y,z]) (i:=1) h.2.2.1 (by show 1≤3; decide) (by show 3≤3; decide),fun n hn=>h.2.2.2 n (List.mem_cons_of_mem _ hn)⟩
theorem exampleHolds_any{w:World}(hg:GlobOk w) :
  Calls Tryz.prog 16 #[] w fun e w'=>e = .returned (.bool true)∧Ext w w':=by
 skip
 refine Sx.enter Tryz.func16 Tryz.ntmps16 fun ac S=>Sx.seqP fun _ κ1=>Sx.run S 1 [] [(0,.bool false)] fun ac S=>Sx.done<|κ1 _ _<|Sx.seqP fun _ κ2=>Sx.callG S (some 6) (sample_any _) ?_
 rintro e u ⟨b,x,y,z,rfl,hS,hok,E3⟩
 refine⟨_,rfl,E3,fun ac S=>?_⟩
 refine Sx.newp S 1 [.int .i64 0,.int .i64 0,.int .u8 0,.int .u8 0,.int .u8 0,.int .u8 0,.slice none 0 0] fun ac u b4 E5 hb6 S=>Sx.store S 0 (off:=0) (cs:=[.int .i64 2,.int .i64 2,.int .u8 0,.int .u8 0,.int .u8 0,.int .u8 0,.slice (some ⟨b,0,none⟩) 3 3]) rfl (fun u C7 S=>?_)
 have E8:=Sx.ext_ch E5 C7 (by omega)
 refine Sx.done<|κ2 _ _<|Sx.seqP fun _ κ9=>Sx.run S 2 [.mem 0 0] [(8,.agg #[.int .i64 2,.int .i64 2,.int .u8 0,.int .u8 0,.int .u8 0,.int .u8 0,.slice (some ⟨b,0,none⟩) 3 3]),(9,.agg (Sx.L [.int .i64 2,.int .i64 1,.int .i64 0,.int .i64 0,.int .i64 0,.int .i64 0,.int .i64 0]++Sx.za++Sx.L [.slice none 0 0,.int .i64 0,.int .u8 0,.int .i64 0,.bool false,.bool false,.slice none 0 0,.int .i64 0,.slice none 0 0,.int .i64 0,.int .i64 0,.int .i64 0,.int .i64 0,.slice none 0 0,.int .i64 0,.slice none 0 0,.int .i64 0,.int .i64 0,.slice none 0 0,.int .i64 0,.int .u8 0,.int .u8 0,.int .u8 0,.int .u8 0]).toArray)] (fun ac S=>?_)
 have hl1:=(S.bx 0).1
 refine Sx.callG S (some 10) (scApply_any (K:=20) (s:=samS b x y z) (e:=⟨2,1,0,0,nodeD0,.none⟩) ((SceneOk.below hok.1 E8)) (hg.below S.E) (rem_ok _) hok.2 (nodeD0_lim w)) ?_
 rintro e u ⟨t,code,rfl,har,E10⟩
 obtain⟨rfl,ta,tn,q,rfl,hq⟩:=one_node har (rem_key▸hS.app)
 have hqi:q.id=3:=(congrArg NodeK.id hq).trans hS.c0.1
 obtain⟨bt,rfl,hb0,hbt,hrt⟩:=t_place har.2.1
 refine⟨_,rfl,E10,fun ac S=>?_⟩
 refine Sx.run S 3 [] [(11,.agg #[.int .i64 2,.int .i64 2,.int .u8 0,.int .u8 0,.int .u8 0,.int .u8 0,.slice (some ⟨bt,0,none⟩) 1 tn]),(12,.int .i64 0)] fun ac S=>Sx.newp S 2 [.int .i64 0,.int .i64 0,.int .u8 0,.int .u8 0,.int .u8 0,.int .u8 0,.slice none 0 0] fun ac u b11 E12 hb13 S=>Sx.store S 0 (off:=0) (cs:=[.int .i64 2,.int .i64 2,.int .u8 0,.int .u8 0,.int .u8 0,.int .u8 0,.slice (some ⟨bt,0,none⟩) 1 tn]) rfl (fun u C14 S=>?_)
 have E15:=Sx.ext_ch (Ext.trans' E8 (Ext.trans' E10 E12)) C14 (by have:=(Ext.trans' E8 E10).size; omega)
 have E16:=Sx.ext_ch E12 C14 (by omega)
 refine Sx.run S 1 [] [(3,.int .i64 0)] fun ac S=>Sx.done<|κ9 _ _<|Sx.seqP fun _ κ17=>Sx.run S 4 [.mem 1 6,.slc 1 3 3 3] [(17,.agg #[.int .i64 1,.int .i64 1,.int .u8 0,.int .u8 0,.int .u8 0,.int .u8 0,.slice (Sx.slA (some ⟨b,0,none⟩) 1 3 47) (3-1) (3-1)])] (hk:=⟨(by omega),trivial⟩) fun ac S=>Sx.callv S 18 (calls_as (scCheck_any (K:=20) (s:=⟨1,1,.none,Sx.slA (some ⟨b,0,none⟩) 1 3 47,2,[y,z]⟩) (drop_ok ((SceneOk.below hok.1 E15))) (hg.below S.E)) (show Value.tuple #[.int .i64 (SceneK.chk ⟨1,1,.none,[y.key,z.key]⟩).1,.int .i64 (SceneK.chk ⟨1,1,.none,[y.key,z.key]⟩).2] = .tuple #[.int .i64 17,.int .i64 0] by rw[hS.chk])) fun ac u E18 S=>Sx.run S 5 [] [(4,.int .i64 17),(5,.int .i64 0)] fun ac S=>Sx.done<|κ17 _ _<|Sx.seqP (fun _ κ19=>?_)
 have hqn:=(row_below (And.intro hbt hrt) (Ext.trans' E16 E18))
 have S:=S.view hqn.1 hqn.2 (fun p hp=>by rcases List.mem_cons.1 hp with rfl | hp; (show b11≠bt; omega); rcases List.mem_cons.1 hp with rfl | hp; (show b4≠bt; omega); cases hp)
 refine Sx.run S 1 [.mem 1 0] [(21,.agg #[.int .i64 2,.int .i64 2,.int .u8 0,.int .u8 0,.int .u8 0,.int .u8 0,.slice (some ⟨b,0,none⟩) 3 3])] fun ac S=>Sx.callv S 22 (calls_as (scValid_any (K:=20) (s:=samS b x y z) ((SceneOk.below hok.1 (Ext.trans' E15 E18))) (hg.below S.E)) (congrArg Value.bool hS.valid)) fun ac u E20 S=>Sx.run S 2 [.mem 1 0] [(23,.bool true),(24,.agg #[.int .i64 2,.int .i64 2,.int .u8 0,.int .u8 0,.int .u8 0,.int .u8 0,.slice (some ⟨b,0,none⟩) 3 3])] fun ac S=>Sx.callGG S (some 25) (calls_as (scEndOf_any (K:=20) (s:=samS b x y z) ((SceneOk.below hok.1 (Ext.trans' E15 (Ext.trans' E18 E20)))) (hg.below S.E) 0) (congrArg (Value.int .i64) hS.sub)) ?_
 rintro e u ⟨rfl,E21⟩
 refine⟨_,rfl,E21,fun ac S=>?_⟩
 refine Sx.run S 4 [.mem 1 0] [(28,.bool true),(29,.agg #[.int .i64 2,.int .i64 2,.int .u8 0,.int .u8 0,.int .u8 0,.int .u8 0,.slice (some ⟨b,0,none⟩) 3 3])] fun ac S=>Sx.callGG S (some 30) (calls_as (scParOf_any (K:=20) (s:=samS b x y z) ((SceneOk.below hok.1 (Ext.trans' E15 (Ext.trans' E18 (Ext.trans' E20 E21))))) (hg.below S.E) 1) (congrArg (Value.int .i64) hS.par)) ?_
 rintro e u ⟨rfl,E22⟩
 refine⟨_,rfl,E22,fun ac S=>?_⟩
 refine Sx.run S 4 [.mem 1 0] [(33,.bool true),(34,.agg #[.int .i64 2,.int .i64 2,.int .u8 0,.int .u8 0,.int .u8 0,.int .u8 0,.slice (some ⟨b,0,none⟩) 3 3])] fun ac S=>Sx.callGG S (some 35) (calls_as (scIndex_any (K:=20) (s:=samS b x y z) ((SceneOk.below hok.1 (Ext.trans' E15 (Ext.trans' E18 (Ext.trans' E20 (Ext.trans' E21 E22)))))) (hg.below S.E) 3) (congrArg (Value.int .i64) hS.idx)) ?_
 rintro e u ⟨rfl,E23⟩
 refine⟨_,rfl,E23,fun ac S=>?_⟩
 refine Sx.run S 29 [.mem 0 6,.mem 0 6,.idx 0 1,.mem 2 0,.re 54 (.bool ((q.id)==3)) (.bool true)] [(0,.bool true)] (hk:=⟨(by decide),(by rw[hqi]; rfl),trivial⟩) fun ac S=>Sx.done<|κ19 _ _<|Vp.rt ?_
 refine Sx.ret1 S Tryz.results16 ?_
 exact⟨rfl,S.E⟩
end Go.Proofs.YtfmkkemfhjkajaaGreatDoor
end
section
namespace Go.Proofs.YtfmkkemfhjkajaaGreatDoor
open Go.RowKit Go.ChangeShapes Go.WideShapes
variable{α:Type}
set_option linter.unusedVariables false
section
variable{H:Type}{enc:TypeId×Value→H}{W:World}{sp:Nat→Bool}{held:Bool}{n:Nat}{cs:List Value}{y:DataW H×List MemPlace}
set_option maxRecDepth 100000
/-- A scene as it comes in. -/
def SceneD.ok(W:World)(s:SceneD):Prop:=I64 s.w∧I64 s.h∧IsRowN 47 NodeD.cells W s.s s.ns∧∀n∈s.ns,n.ok W
def EditD.ok(W:World)(e:EditD):Prop:=I64 e.kind∧I64 e.id∧I64 e.index∧I64 e.depth∧e.node.ok W
theorem opn_scene(h:DataW.trod enc Tryz.prog W 0 sp held n 26 cs=some y):∃m:SceneD,cs=m.cells∧m.ok W:=by
 obtain⟨xs,n',rfl,hx,hl,hlen,hg⟩:=DataW.trod_struct Tryz.underlying26 h
 have hl:cs.length=7:=hl.trans (by kernel_rfl)
 have g0:DataW.trod enc Tryz.prog W 0 sp held n' 3 ((cs.drop 0).take (Tryz.prog.cellsOf 3))=xs[0]?:=hg 0 _ rfl
 obtain⟨y0,e0⟩:=get_some' (i:=0) hlen (by decide)
 rw[e0]at g0
 rw[show Tryz.prog.cellsOf 3=1 by kernel_rfl]at g0
 obtain⟨x0,c0,w0⟩:=opn_i64 Tryz.underlying3 g0
 have g1:DataW.trod enc Tryz.prog W 0 sp held n' 3 ((cs.drop 1).take (Tryz.prog.cellsOf 3))=xs[1]?:=hg 1 _ rfl
 obtain⟨y1,e1⟩:=get_some' (i:=1) hlen (by decide)
 rw[e1]at g1
 rw[show Tryz.prog.cellsOf 3=1 by kernel_rfl]at g1
 obtain⟨x1,c1,w1⟩:=opn_i64 Tryz.underlying3 g1
 have g2:DataW.trod enc Tryz.prog W 0 sp held n' 23 ((cs.drop 2).take (Tryz.prog.cellsOf 23))=xs[2]?:=hg 2 _ rfl
 obtain⟨y2,e2⟩:=get_some' (i:=2) hlen (by decide)
 rw[e2]at g2
 rw[show Tryz.prog.cellsOf 23=4 by kernel_rfl]at g2
 obtain⟨m2,c2⟩:=opn_color g2
 have g3:DataW.trod enc Tryz.prog W 0 sp held n' 24 ((cs.drop 6).take (Tryz.prog.cellsOf 24))=xs[3]?:=hg 3 _ rfl
 obtain⟨y3,e3⟩:=get_some' (i:=3) hlen (by decide)
 rw[e3]at g3
 rw[show Tryz.prog.cellsOf 24=1 by kernel_rfl]at g3
 obtain⟨a3,k3,l3,c3,r3,w3⟩:=opn_row (k:=47) Tryz.underlying24 (by decide) (by kernel_rfl) NodeD.cells (fun n=>n.ok W) (fun n cs y h=>opn_node h) g3
 have hc:=(show cs=(cs.drop 0).take 7 by rw[List.drop_zero,List.take_of_length_le (by omega)]).trans ((cut_step cs 0 1 1 6 7 rfl rfl).trans (congrArg _ ((cut_step cs 1 1 2 5 6 rfl rfl).trans (congrArg _ (cut_step cs 2 4 6 1 5 rfl rfl)))))
 rw[c0,c1,c2,c3]at hc
 exact⟨⟨x0,x1,m2,a3,k3,l3⟩,hc.trans (by kernel_rfl),w0,w1,r3,w3⟩
theorem opn_edit(h:DataW.trod enc Tryz.prog W 0 sp held n 45 cs=some y):∃m:EditD,cs=m.cells∧m.ok W:=by
 obtain⟨xs,n',rfl,hx,hl,hlen,hg⟩:=DataW.trod_struct Tryz.underlying45 h
 have hl:cs.length=55:=hl.trans (by kernel_rfl)
 have g0:DataW.trod enc Tryz.prog W 0 sp held n' 3 ((cs.drop 0).take (Tryz.prog.cellsOf 3))=xs[0]?:=hg 0 _ rfl
 obtain⟨y0,e0⟩:=get_some' (i:=0) hlen (by decide)
 rw[e0]at g0
 rw[show Tryz.prog.cellsOf 3=1 by kernel_rfl]at g0
 obtain⟨x0,c0,w0⟩:=opn_i64 Tryz.underlying3 g0
 have g1:DataW.trod enc Tryz.prog W 0 sp held n' 3 ((cs.drop 1).take (Tryz.prog.cellsOf 3))=xs[1]?:=hg 1 _ rfl
 obtain⟨y1,e1⟩:=get_some' (i:=1) hlen (by decide)
 rw[e1]at g1
 rw[show Tryz.prog.cellsOf 3=1 by kernel_rfl]at g1
 obtain⟨x1,c1,w1⟩:=opn_i64 Tryz.underlying3 g1
 have g2:DataW.trod enc Tryz.prog W 0 sp held n' 3 ((cs.drop 2).take (Tryz.prog.cellsOf 3))=xs[2]?:=hg 2 _ rfl
 obtain⟨y2,e2⟩:=get_some' (i:=2) hlen (by decide)
 rw[e2]at g2
 rw[show Tryz.prog.cellsOf 3=1 by kernel_rfl]at g2
 obtain⟨x2,c2,w2⟩:=opn_i64 Tryz.underlying3 g2
 have g3:DataW.trod enc Tryz.prog W 0 sp held n' 3 ((cs.drop 3).take (Tryz.prog.cellsOf 3))=xs[3]?:=hg 3 _ rfl
 obtain⟨y3,e3⟩:=get_some' (i:=3) hlen (by decide)
 rw[e3]at g3
 rw[show Tryz.prog.cellsOf 3=1 by kernel_rfl]at g3
 obtain⟨x3,c3,w3⟩:=opn_i64 Tryz.underlying3 g3
 have g4:DataW.trod enc Tryz.prog W 0 sp held n' 43 ((cs.drop 4).take (Tryz.prog.cellsOf 43))=xs[4]?:=hg 4 _ rfl
 obtain⟨y4,e4⟩:=get_some' (i:=4) hlen (by decide)
 rw[e4]at g4
 rw[show Tryz.prog.cellsOf 43=47 by kernel_rfl]at g4
 obtain⟨m4,c4,w4⟩:=opn_node g4
 have g5:DataW.trod enc Tryz.prog W 0 sp held n' 23 ((cs.drop 51).take (Tryz.prog.cellsOf 23))=xs[5]?:=hg 5 _ rfl
 obtain⟨y5,e5⟩:=get_some' (i:=5) hlen (by decide)
 rw[e5]at g5
 rw[show Tryz.prog.cellsOf 23=4 by kernel_rfl]at g5
 obtain⟨m5,c5⟩:=opn_color g5
 have hc:=(show cs=(cs.drop 0).take 55 by rw[List.drop_zero,List.take_of_length_le (by omega)]).trans ((cut_step cs 0 1 1 54 55 rfl rfl).trans (congrArg _ ((cut_step cs 1 1 2 53 54 rfl rfl).trans (congrArg _ ((cut_step cs 2 1 3 52 53 rfl rfl).trans (congrArg _ ((cut_step cs 3 1 4 51 52 rfl rfl).trans (congrArg _ (cut_step cs 4 47 51 4 51 rfl rfl)))))))))
 rw[c0,c1,c2,c3,c4,c5]at hc
 exact⟨⟨x0,x1,x2,x3,m4,m5⟩,hc.trans (by kernel_rfl),w0,w1,w2,w3,w4⟩
theorem open_scene{base:Nat}{v:Value}{d:DataW H}{p:List MemPlace}(hv:Value.okWide Tryz.prog W .any base 26 v)(h:DataW.Trod enc Tryz.prog W 0 sp held 26 v d p):∃m:SceneD,v=m.v∧m.ok W:=by
 obtain⟨cs,rfl,hsz⟩:=okWide_struct Tryz.underlying26 hv
 obtain⟨fuel,hf⟩:=h
 obtain⟨l⟩:=cs
 obtain⟨m,hm,ho⟩:=opn_scene (cs:=l) (y:=(d,p)) hf
 exact⟨m,by rw[hm]; rfl,ho⟩
theorem open_edit{base:Nat}{v:Value}{d:DataW H}{p:List MemPlace}(hv:Value.okWide Tryz.prog W .any base 45 v)(h:DataW.Trod enc Tryz.prog W 0 sp held 45 v d p):∃m:EditD,v=m.v∧m.ok W:=by
 obtain⟨cs,rfl,hsz⟩:=okWide_struct Tryz.underlying45 hv
 obtain⟨fuel,hf⟩:=h
 obtain⟨l⟩:=cs
 obtain⟨m,hm,ho⟩:=opn_edit (cs:=l) (y:=(d,p)) hf
 exact⟨m,by rw[hm]; rfl,ho⟩
end
end Go.Proofs.YtfmkkemfhjkajaaGreatDoor
end
section
namespace Go.Sx
open Go.Proofs.YtfmkkemfhjkajaaGreatDoor Go.RowKit Go.Rel
set_option linter.unusedVariables false
section
variable{w0 w w1 w2:World}{a a0:Act}{n:Nat}{l l0:List (Nat×Value)}{bl:List (Nat×List Value)}{vs vs0:List Mem1}
/-- From here on all that there is came in. -/
theorem St.re(S:St w0 a w n l bl vs):St w a w n l [] (mems bl vs):=⟨S.s,Ext.rfl',fun p hp=>(by cases hp),List.nodup_nil,fun m hm=>⟨S.memAll m hm,fun p hp=>(by cases hp)⟩⟩
/-- Back: what was the walk's own has not changed. -/
theorem St.back(S0:St w0 a0 w1 n l0 bl vs0)(S:St w2 a w n l [] vs)(h:Ext w1 w2):St w0 a w n l bl []:=
 have hE:Ext w1 w:=Ext.trans' h S.E
 ⟨S.s,(S0.grow hE).E,(S0.grow hE).own,S0.apart,fun m hm=>by cases hm⟩
end
theorem wrap_pred{n:Nat}(h:1≤n)(h2:n≤9223372036854775807):Value.int .i64 (IntKind.i64.wrap (((n:Nat):Int)-1)) = .int .i64 ((n-1:Nat):Int):=by
 have:IntKind.i64.wrap (((n:Nat):Int)-1)=((n-1:Nat):Int):=by rw[IntKind.wrap_i64]; omega
 rw[this]
theorem wrap_add{a b:Nat}(h:a+b≤9223372036854775807):Value.int .i64 (IntKind.i64.wrap (((a:Nat):Int)+((b:Nat):Int))) = .int .i64 ((a+b:Nat):Int):=by
 have:IntKind.i64.wrap (((a:Nat):Int)+((b:Nat):Int))=((a+b:Nat):Int):=by rw[IntKind.wrap_i64]; omega
 rw[this]
end Go.Sx
end
