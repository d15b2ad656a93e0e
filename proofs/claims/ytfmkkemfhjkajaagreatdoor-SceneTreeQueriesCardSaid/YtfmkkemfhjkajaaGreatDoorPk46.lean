/- Nodes with default values: package node and reference 36. The law NodeDefault. -/
import Derived.Test.YtfmkkemfhjkajaaGreatDoorPk31
import Derived.Test.YtfmkkemfhjkajaaGreatDoorOpn36
set_option linter.unusedVariables false
namespace Go.Proofs.YtfmkkemfhjkajaaGreatDoor
section
open Go.RowKit
variable{α:Type}{K:Nat}
def RS(id:Int)(t:aV):aj:=⟨id,1,0,t,none,0,[],0,255,1,false,false,none,0,[],0,none,0,[],aZ.bare,none,0,[],bU.bare,0⟩
def ae7:dI:=⟨0,0,0,0⟩
def KO(id:Int)(t:aV)(b:Nat):aj:=⟨id,3,0,t,none,0,[],0,0,0,false,false,none,0,[],0,none,0,[],aZ.bare,none,0,[],⟨1,1,some ⟨b,0,none⟩,1,[ae7]⟩,1⟩
def TI(w:World)(t:aV):Prop:=t.ok w∧t.Is qI
theorem TI.below{w w':World}{t:aV}(h:TI w t)(hE:Ext w w'):TI w' t:=⟨h.1.below hE,h.2⟩
theorem TI.bT{w w':World}{t:aV}{b:Nat}{A:Array Value}(h:TI w t)(hc:Ch b w w')(hx:Bx w b A)(hA:A.toList.all yG=true:=by rfl):TI w' t:=⟨h.1.bT hc hx hA,h.2⟩
theorem aV.Is.q{t:aV}{Q:Q6}(h:t.Is Q)(hn:vY Q):t.q=Q:=by
 obtain⟨n0,n1,n2,n3,n4,n5⟩:=hn
 obtain⟨⟨a0,b0,c0,d0⟩,⟨a1,b1,c1,d1⟩,⟨a2,b2,c2,d2⟩,⟨a3,b3,c3,d3⟩,⟨a4,b4,c4,d4⟩,⟨a5,b5,c5,d5⟩⟩:=h
 unfold aV.q
 rw[vV a0 b0 c0 d0 n0,vV a1 b1 c1 d1 n1,vV a2 b2 c2 d2 n2,vV a3 b3 c3 d3 n3,vV a4 b4 c4 d4 n4,vV a5 b5 c5 d5 n5]
theorem aV.Is.fit{t:aV}{Q:Q6}{K:Nat}(h:t.Is Q)(hl:Em K Q):t.fit K:=by
 obtain⟨l0,l1,l2,l3,l4,l5⟩:=hl
 obtain⟨h0,h1,h2,h3,h4,h5⟩:=h
 exact⟨lQ h0.2.1 h0.2.2.2 l0,lQ h1.2.1 h1.2.2.2 l1,lQ h2.2.1 h2.2.2.2 l2,lQ h3.2.1 h3.2.2.2 l3,lQ h4.2.1 h4.2.2.2 l4,lQ h5.2.1 h5.2.2.2 l5⟩
theorem adN{base:Nat}{w:World}{v:Value}(h:jB base w v qI):∃t:aV,v=t.v∧TI w t:=by
 obtain⟨t,rfl,k⟩:=h.sT
 obtain⟨r,e,ho,hi⟩:=Ri k
 exact⟨r,e,ho,hi⟩
def fM(w:World)(id kind:Int)(nd:aj):Prop:=
 (kind=1∧∃t,TI w t∧nd=RS id t)∨(kind=2∧∃t,TI w t∧nd=gG id t)∨(kind=3∧∃t b,TI w t∧Bx w b #[.int .u8 0,.int .u8 0,.int .u8 0,.int .u8 0]∧nd=KO id t b)∨((kind≠1∧kind≠2∧kind≠3)∧nd=nO)
theorem fM.below{w w':World}{id kind:Int}{nd:aj}(h:fM w id kind nd)(hE:Ext w w'):fM w' id kind nd:=by
 rcases h with ⟨e,t,ht,h⟩ | ⟨e,t,ht,h⟩ | ⟨e,t,b,ht,hb,h⟩ | h
 ·exact .inl ⟨e,t,ht.below hE,h⟩
 ·exact .inr (.inl ⟨e,t,ht.below hE,h⟩)
 ·exact .inr (.inr (.inl ⟨e,t,b,ht.below hE,hb.ext hE,h⟩))
 ·exact .inr (.inr (.inr h))
theorem fM.bT{w w':World}{id kind:Int}{nd:aj}{b:Nat}{A:Array Value}(h:fM w id kind nd)(hc:Ch b w w')(hx:Bx w b A)(hA:A.toList.all yG=true:=by rfl)(h4:decide (4<A.size)=true:=by kernel_rfl):fM w' id kind nd:=by
 rcases h with ⟨e,t,ht,h⟩ | ⟨e,t,ht,h⟩ | ⟨e,t,c,ht,hb,h⟩ | h
 ·exact .inl ⟨e,t,ht.bT hc hx hA,h⟩
 ·exact .inr (.inl ⟨e,t,ht.bT hc hx hA,h⟩)
 ·exact .inr (.inr (.inl ⟨e,t,c,ht.bT hc hx hA,hb.ch hc (fun e=>by subst e; have h1:=hb.2.1 4; have h2:=hx.2.1 4; rw[h1]at h2; have h3:=of_decide_eq_true h4; simp at h2; omega),h⟩))
 ·exact .inr (.inr (.inr h))
set_option maxRecDepth 100000 in
set_option maxHeartbeats 3200000 in
theorem qh(id kind:Int)(w:World) :
  Calls Tryz.prog 80 #[.int .i64 id,.int .i64 kind] w fun e w'=>∃nd,e = .returned (aj.v nd)∧fM w' id kind nd∧Ext w w':=by
 skip
 refine aiK Tryz.func80 Tryz.ntmps80 fun ac S=>aiG fun _ aU=>aiJ S 4 (Sx.L [.int .i64 0,.int .i64 0,.int .i64 0]++Sx.za++Sx.L [.slice none 0 0,.int .i64 0,.int .u8 0,.int .i64 0,.bool false,.bool false,.slice none 0 0,.int .i64 0,.slice none 0 0,.int .i64 0,.int .i64 0,.int .i64 0,.int .i64 0,.slice none 0 0,.int .i64 0,.slice none 0 0,.int .i64 0,.int .i64 0,.slice none 0 0,.int .i64 0]) fun ac u b2 E3 hb4 S=>aiF<|aU _ _<|aiG fun _ bV=>adr S 2 [] [(6,.int .i64 id),(7,.int .i64 kind)] fun ac S=>aiQ S (some 8) (PI _) ?_
 rintro e u ⟨y,rfl,hx,E6⟩
 obtain⟨t,rfl,ht⟩:=adN hx
 refine⟨_,rfl,E6,fun ac S=>?_⟩
 refine adr S 1 [] [(9,.agg (Sx.L [.int .i64 id,.int .i64 kind,.int .i64 0]++t.cells++Sx.L [.slice none 0 0,.int .i64 0,.int .u8 0,.int .i64 0,.bool false,.bool false,.slice none 0 0,.int .i64 0,.slice none 0 0,.int .i64 0,.int .i64 0,.int .i64 0,.int .i64 0,.slice none 0 0,.int .i64 0,.slice none 0 0,.int .i64 0,.int .i64 0,.slice none 0 0,.int .i64 0]).toArray)] fun ac S=>aiJ S 5 (Sx.L [.int .i64 0,.int .i64 0,.int .i64 0]++Sx.za++Sx.L [.slice none 0 0,.int .i64 0,.int .u8 0,.int .i64 0,.bool false,.bool false,.slice none 0 0,.int .i64 0,.slice none 0 0,.int .i64 0,.int .i64 0,.int .i64 0,.int .i64 0,.slice none 0 0,.int .i64 0,.slice none 0 0,.int .i64 0,.int .i64 0,.slice none 0 0,.int .i64 0]) fun ac u b7 E8 IE S=>aiL S 0 (off:=0) (cs:=(Sx.L [.int .i64 id,.int .i64 kind,.int .i64 0]++t.cells++Sx.L [.slice none 0 0,.int .i64 0,.int .u8 0,.int .i64 0,.bool false,.bool false,.slice none 0 0,.int .i64 0,.slice none 0 0,.int .i64 0,.int .i64 0,.int .i64 0,.int .i64 0,.slice none 0 0,.int .i64 0,.slice none 0 0,.int .i64 0,.int .i64 0,.slice none 0 0,.int .i64 0])) rfl (fun u C10 S=>?_)
 have sF:=aiP E8 C10 (by omega)
 refine aiF<|bV _ _<|wp_seq_k fun _ dw=>aiG fun _ fZ=>adr S 1 [] [(10,.int .i64 kind)] fun ac S=>aiF<|fZ _ _<|wp_block<|aiG fun _ fU=>adr S 2 [] [(12,.bool ((kind)==1))] fun ac S=>aiF (fU _ _ ?_)
 refine aiI S (fun oD=>?_) (fun oD=>?_)
 ·refine Vp.region<|adr S 1 [] [(14,.pointer (some ⟨b7,29,none⟩))] fun ac S=>aiW S 0 (off:=29) (v := .int .u8 255) rfl (fun u Xj S=>?_)
  have LZ:=aiP sF Xj (by omega)
  refine adr S 1 [] [(15,.pointer (some ⟨b7,30,none⟩))] fun ac S=>aiW S 0 (off:=30) (v := .int .i64 1) rfl (fun u Xk S=>?_)
  have Xm:=aiP LZ Xk (by omega)
  refine aiF<|dw _ _<|aiG fun _ iU=>adr S 1 [.mem 0 0] [(25,.agg (Sx.L [.int .i64 id,.int .i64 kind,.int .i64 0]++t.cells++Sx.L [.slice none 0 0,.int .i64 0,.int .u8 255,.int .i64 1,.bool false,.bool false,.slice none 0 0,.int .i64 0,.slice none 0 0,.int .i64 0,.int .i64 0,.int .i64 0,.int .i64 0,.slice none 0 0,.int .i64 0,.slice none 0 0,.int .i64 0,.int .i64 0,.slice none 0 0,.int .i64 0]).toArray)] (fun ac S=>?_)
  have X22:=S.bx 1
  refine aiL S 1 (off:=0) (cs:=(Sx.L [.int .i64 id,.int .i64 kind,.int .i64 0]++t.cells++Sx.L [.slice none 0 0,.int .i64 0,.int .u8 255,.int .i64 1,.bool false,.bool false,.slice none 0 0,.int .i64 0,.slice none 0 0,.int .i64 0,.int .i64 0,.int .i64 0,.int .i64 0,.slice none 0 0,.int .i64 0,.slice none 0 0,.int .i64 0,.int .i64 0,.slice none 0 0,.int .i64 0])) rfl (fun u C21 S=>?_)
  have Ee:=TI.bT (ht.below Xm) C21 X22
  refine aiF<|iU _ _<|Vp.rt ?_
  refine aiS S 1 Tryz.results80 rfl (v := .agg (Sx.L [.int .i64 id,.int .i64 kind,.int .i64 0]++t.cells++Sx.L [.slice none 0 0,.int .i64 0,.int .u8 255,.int .i64 1,.bool false,.bool false,.slice none 0 0,.int .i64 0,.slice none 0 0,.int .i64 0,.int .i64 0,.int .i64 0,.int .i64 0,.slice none 0 0,.int .i64 0,.slice none 0 0,.int .i64 0,.int .i64 0,.slice none 0 0,.int .i64 0]).toArray) ?_
  have e:kind=1:=(by simpa using oD)
  subst e
  exact⟨RS id t,rfl,.inl ⟨rfl,t,Ee,rfl⟩,S.E⟩
 ·refine aiG fun _ kK=>adr S 2 [] [(16,.bool ((kind)==2))] fun ac S=>aiF (kK _ _ ?_)
  refine aiI S (fun hc25=>?_) (fun hc25=>?_)
  ·refine Vp.region<|adr S 1 [] [(18,.pointer (some ⟨b7,34,none⟩))] fun ac S=>aiW S 0 (off:=34) (v := .int .i64 1) rfl (fun u C26 S=>?_)
   have E27:=aiP sF C26 (by omega)
   refine aiF<|dw _ _<|aiG fun _ lK=>adr S 1 [.mem 0 0] [(25,.agg (Sx.L [.int .i64 id,.int .i64 kind,.int .i64 0]++t.cells++Sx.L [.slice none 0 0,.int .i64 0,.int .u8 0,.int .i64 0,.bool false,.bool false,.slice none 0 0,.int .i64 1,.slice none 0 0,.int .i64 0,.int .i64 0,.int .i64 0,.int .i64 0,.slice none 0 0,.int .i64 0,.slice none 0 0,.int .i64 0,.int .i64 0,.slice none 0 0,.int .i64 0]).toArray)] (fun ac S=>?_)
   have X30:=S.bx 1
   refine aiL S 1 (off:=0) (cs:=(Sx.L [.int .i64 id,.int .i64 kind,.int .i64 0]++t.cells++Sx.L [.slice none 0 0,.int .i64 0,.int .u8 0,.int .i64 0,.bool false,.bool false,.slice none 0 0,.int .i64 1,.slice none 0 0,.int .i64 0,.int .i64 0,.int .i64 0,.int .i64 0,.slice none 0 0,.int .i64 0,.slice none 0 0,.int .i64 0,.int .i64 0,.slice none 0 0,.int .i64 0])) rfl (fun u C29 S=>?_)
   have Bz:=TI.bT (ht.below E27) C29 X30
   refine aiF<|lK _ _<|Vp.rt ?_
   refine aiS S 1 Tryz.results80 rfl (v := .agg (Sx.L [.int .i64 id,.int .i64 kind,.int .i64 0]++t.cells++Sx.L [.slice none 0 0,.int .i64 0,.int .u8 0,.int .i64 0,.bool false,.bool false,.slice none 0 0,.int .i64 1,.slice none 0 0,.int .i64 0,.int .i64 0,.int .i64 0,.int .i64 0,.slice none 0 0,.int .i64 0,.slice none 0 0,.int .i64 0,.int .i64 0,.slice none 0 0,.int .i64 0]).toArray) ?_
   have e:kind=2:=(by simpa using hc25)
   subst e
   exact⟨gG id t,rfl,.inr (.inl ⟨rfl,t,Bz,rfl⟩),S.E⟩
  ·refine aiG fun _ kM=>adr S 2 [] [(19,.bool ((kind)==3))] fun ac S=>aiF (kM _ _ ?_)
   refine aiI S (fun nU=>?_) (fun nU=>?_)
   ·refine Vp.region<|Sx.news S 21 1 [.int .u8 0,.int .u8 0,.int .u8 0,.int .u8 0] fun ac u LC Xi U2 S=>adr S 2 [] [(22,.agg #[.int .i64 1,.int .i64 1,.slice (some ⟨LC,0,none⟩) 1 1]),(23,.pointer (some ⟨b7,43,none⟩))] fun ac S=>aiL S 1 (off:=43) (cs:=[.int .i64 1,.int .i64 1,.slice (some ⟨LC,0,none⟩) 1 1]) rfl (fun u C37 S=>?_)
    have E38:=aiP (Ext.trans' sF Xi) C37 (by omega)
    refine adr S 1 [] [(24,.pointer (some ⟨b7,46,none⟩))] fun ac S=>aiW S 1 (off:=46) (v := .int .i64 1) rfl (fun u C39 S=>?_)
    have E40:=aiP E38 C39 (by omega)
    refine aiF<|dw _ _<|aiG fun _ qW=>adr S 1 [.mem 1 0] [(25,.agg (Sx.L [.int .i64 id,.int .i64 kind,.int .i64 0]++t.cells++Sx.L [.slice none 0 0,.int .i64 0,.int .u8 0,.int .i64 0,.bool false,.bool false,.slice none 0 0,.int .i64 0,.slice none 0 0,.int .i64 0,.int .i64 0,.int .i64 0,.int .i64 0,.slice none 0 0,.int .i64 0,.slice none 0 0,.int .i64 1,.int .i64 1,.slice (some ⟨LC,0,none⟩) 1 1,.int .i64 1]).toArray)] (fun ac S=>?_)
    have X43:=S.bx 2
    refine aiL S 2 (off:=0) (cs:=(Sx.L [.int .i64 id,.int .i64 kind,.int .i64 0]++t.cells++Sx.L [.slice none 0 0,.int .i64 0,.int .u8 0,.int .i64 0,.bool false,.bool false,.slice none 0 0,.int .i64 0,.slice none 0 0,.int .i64 0,.int .i64 0,.int .i64 0,.int .i64 0,.slice none 0 0,.int .i64 0,.slice none 0 0,.int .i64 1,.int .i64 1,.slice (some ⟨LC,0,none⟩) 1 1,.int .i64 1])) rfl (fun u C42 S=>?_)
    have U8:=TI.bT (ht.below E40) C42 X43
    refine aiF<|qW _ _<|Vp.rt ?_
    refine aiS S 2 Tryz.results80 rfl (v := .agg (Sx.L [.int .i64 id,.int .i64 kind,.int .i64 0]++t.cells++Sx.L [.slice none 0 0,.int .i64 0,.int .u8 0,.int .i64 0,.bool false,.bool false,.slice none 0 0,.int .i64 0,.slice none 0 0,.int .i64 0,.int .i64 0,.int .i64 0,.int .i64 0,.slice none 0 0,.int .i64 0,.slice none 0 0,.int .i64 1,.int .i64 1,.slice (some ⟨LC,0,none⟩) 1 1,.int .i64 1]).toArray) ?_
    have e:kind=3:=(by simpa using nU)
    subst e
    exact⟨KO id t LC,rfl,.inr (.inr (.inl ⟨rfl,t,LC,U8,S.bx 0,rfl⟩)),S.E⟩
   ·refine aiG fun _ Bv=>adr S 1 [] [(11,.agg (Sx.L [.int .i64 0,.int .i64 0,.int .i64 0]++Sx.za++Sx.L [.slice none 0 0,.int .i64 0,.int .u8 0,.int .i64 0,.bool false,.bool false,.slice none 0 0,.int .i64 0,.slice none 0 0,.int .i64 0,.int .i64 0,.int .i64 0,.int .i64 0,.slice none 0 0,.int .i64 0,.slice none 0 0,.int .i64 0,.int .i64 0,.slice none 0 0,.int .i64 0]).toArray)] (fun ac S=>?_)
    have X47:=S.bx 1
    refine aiL S 1 (off:=0) (cs:=(Sx.L [.int .i64 0,.int .i64 0,.int .i64 0]++Sx.za++Sx.L [.slice none 0 0,.int .i64 0,.int .u8 0,.int .i64 0,.bool false,.bool false,.slice none 0 0,.int .i64 0,.slice none 0 0,.int .i64 0,.int .i64 0,.int .i64 0,.int .i64 0,.slice none 0 0,.int .i64 0,.slice none 0 0,.int .i64 0,.int .i64 0,.slice none 0 0,.int .i64 0])) rfl (fun u UQ S=>?_)
    have aeH:=TI.bT (ht.below sF) UQ X47
    refine aiF<|Bv _ _<|Vp.rt ?_
    refine aiS S 1 Tryz.results80 rfl (v := .agg (Sx.L [.int .i64 0,.int .i64 0,.int .i64 0]++Sx.za++Sx.L [.slice none 0 0,.int .i64 0,.int .u8 0,.int .i64 0,.bool false,.bool false,.slice none 0 0,.int .i64 0,.slice none 0 0,.int .i64 0,.int .i64 0,.int .i64 0,.int .i64 0,.slice none 0 0,.int .i64 0,.slice none 0 0,.int .i64 0,.int .i64 0,.slice none 0 0,.int .i64 0]).toArray) ?_
    exact⟨nO,rfl,.inr (.inr (.inr ⟨⟨(by simpa using oD),(by simpa using hc25),(by simpa using nU)⟩,rfl⟩)),S.E⟩
end
section
open Go.RowKit
variable{α:Type}{K:Nat}
theorem TI.fit{w:World}{t:aV}(h:TI w t)(hK:1≤K):t.fit K:=by
 obtain⟨h1,h2,h3,h4,h5,h6⟩:=h.2.fit acK
 exact⟨h1.mono hK,h2.mono hK,h3.mono hK,h4.mono hK,h5.mono hK,h6.mono hK⟩
theorem fM.ok{w:World}{id kind:Int}{nd:aj}(h:fM w id kind nd)(hi:I64 id)(hK:1≤K)(hK2:K≤10000):fJ K w nd:=by
 rcases h with ⟨-,t,ht,rfl⟩ | ⟨-,t,ht,rfl⟩ | ⟨-,t,b,ht,hb,rfl⟩ | ⟨-,rfl⟩
 ·exact⟨⟨hi,(show I64 1 by decide),gX,ht.1,pG w,gX,(show I64 1 by decide),pG w,gX,kN w,aZ.jH w,kN w,bU.jH w,gX⟩,ht.fit hK,fun p hp=>(by cases hp),fun p hp=>(by cases hp),hK,hK2⟩
 ·exact U4 hi ht.1 (ht.fit (Nat.le_refl 1)) hK hK2
 ·refine⟨⟨hi,(show I64 3 by decide),gX,ht.1,pG w,gX,gX,pG w,gX,kN w,aZ.jH w,kN w,⟨(show I64 1 by decide),(show I64 1 by decide),?_⟩,(show I64 1 by decide)⟩,ht.fit hK,fun p hp=>(by cases hp),fun p hp=>(by cases hp),hK,hK2⟩
  refine⟨some ⟨b,0,none⟩,1,rfl,by decide,.inr ⟨b,0,rfl,hb.1,Nat.le_refl _,fun i hi j hj=>?_⟩⟩
  obtain rfl:i=0:=by simp[KO]at hi; exact hi
  have:=hb.2.1 j
  rw[show 0+0*4+j=j by omega,this]
  show _=(dI.cells ae7)[j]?
  rw[←List.getElem?_toArray]
  rfl
 ·exact qN w hK hK2
theorem fM.key{w w2:World}{id kind:Int}{nd m:aj}(h:fM w id kind nd)(k:fM w2 id kind m):nd.key=m.key∧nd.t.same m.t=true:=by
 have hs:qI.same qI=true:=by decide
 rcases h with ⟨rfl,t,ht,rfl⟩ | ⟨rfl,t,ht,rfl⟩ | ⟨rfl,t,b,ht,-,rfl⟩ | ⟨⟨k1,k2,k3⟩,rfl⟩ <;>
 rcases k with ⟨e,u,hu,rfl⟩ | ⟨e,u,hu,rfl⟩ | ⟨e,u,c,hu,-,rfl⟩ | ⟨⟨j1,j2,j3⟩,rfl⟩ <;>
 first | contradiction | (exact absurd e (by decide)) | skip
 ·exact⟨by unfold aj.key RS; simp only[ht.2.q uX,hu.2.q uX],by show t.same u=true; rw[DW ht.2 hu.2,hs]⟩
 ·exact⟨by unfold aj.key gG; simp only[ht.2.q uX,hu.2.q uX],by show t.same u=true; rw[DW ht.2 hu.2,hs]⟩
 ·exact⟨by unfold aj.key KO bU.key; simp only[ht.2.q uX,hu.2.q uX],by show t.same u=true; rw[DW ht.2 hu.2,hs]⟩
 ·exact⟨rfl,by decide⟩
theorem fM.check{w:World}{id kind:Int}{nd:aj}(h:fM w id kind nd):(nd.checkN==0)=((((decide (1≤id))&&(decide (id≤1073741824)))&&(decide (1≤kind)))&&(decide (kind≤3))):=by
 have hv:qI.valid=true:=by decide
 have hd:oC qI.vU q0=false:=by decide
 have key:∀(n:aj),n.gJ=[(false,2),((((decide (id<1))||(decide (1073741824<id)))||false)||false,6),(!n.t.q.valid,5),(oC n.t.q.vU q0,9),(false,10),(false,17)]→n.t.q=qI→n.qc=0→(n.checkN==0)=((decide (1≤id))&&(decide (id≤1073741824))):=by
  intro n hL hq ho
  unfold aj.checkN
  rw[hL,hq,hv,hd,ho]
  rw[Bool.eq_iff_iff]
  by_cases h1:id<1
  ·simp[badL,jY,h1]; omega
  ·by_cases h2:1073741824<id
   ·simp[badL,jY,h2]
    try omega
   ·simp[badL,jY,h1,h2]; omega
 rcases h with ⟨rfl,t,ht,rfl⟩ | ⟨rfl,t,ht,rfl⟩ | ⟨rfl,t,b,ht,-,rfl⟩ | ⟨⟨k1,k2,k3⟩,rfl⟩
 ·rw[key _ rfl (ht.2.q uX) rfl]; simp
 ·rw[key _ rfl (ht.2.q uX) rfl]; simp
 ·rw[key _ rfl (ht.2.q uX) rfl]; simp
 ·rw[JK]
  symm
  rw[Bool.eq_iff_iff]
  simp only[Bool.and_eq_true,decide_eq_true_eq,beq_iff_eq]
  omega
end
end Go.Proofs.YtfmkkemfhjkajaaGreatDoor
