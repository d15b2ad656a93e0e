/- Walks of package affine by value: numbers, made, ints, Identity. -/
import Derived.Test.YtfmkkemfhjkajaaGreatDoorPk13
import Derived.Test.YtfmkkemfhjkajaaGreatDoorSy
import Derived.LoopN
set_option maxHeartbeats 1600000
set_option maxRecDepth 100000
namespace Go.Proofs.YtfmkkemfhjkajaaGreatDoor
open Go.RowKit
variable{α:Type}
set_option linter.unusedVariables false
theorem Bh(v:Value)(Q:Q6)(K:Nat)(w:World)(h:jk K w v Q)(hK:K≤100000) :
  Calls Tryz.prog 135 #[v] w fun e w'=>∃x,e = .returned x∧jB w.heap.size w' x Q∧Ext w w':=by
 obtain⟨t,rfl,h0,h1,h2,h3,h4,h5⟩:=h.sQ
 refine aiK Tryz.func135 Tryz.ntmps135 fun ac S=>aiG fun _ aU=>aiJ S 1 t.cells fun ac u b2 E3 hb4 S=>aiJ S 2 Sx.za fun ac u b5 E6 hb7 S=>aiF<|aU _ _<|aiG fun _ dP=>adr S 13 [.mem 1 0,.mem 1 4,.mem 1 8,.mem 1 12,.mem 1 16,.mem 1 20] [(18,t.v)] fun ac S=>aiJ S 3 Sx.za fun ac u b9 Bj LJ S=>aiL S 0 (off:=0) (cs:=t.cells) rfl fun u C12 S=>aiF<|dP _ _<|wp_seq_k fun _ fZ=>aiG fun _ fU=>adr S 2 [.mem 0 0] [(19,t.v),(20,.int .i64 0)] fun ac S=>aiF<|fU _ _<|wp_block<|wp_loop_rounds 7 ?_
 rw[rounds_succ]
 refine aiG fun _ fH=>adr S 1 [] [(21,.bool true)] fun ac S=>aiF<|fH _ _<|wp_seq_k fun _ iR=>aiN S<|wp_skip<|iR _ _<|wp_seq_k fun _ ig=>wp_block<|aiG fun _ je=>adr S 2 [] [(22,.int .i64 0),(23,t.a.v)] fun ac S=>aiJ S 5 Sx.zr fun ac u b19 Iz yX S=>adr S 1 [] [(4,.int .i64 0)] fun ac S=>aiL S 0 (off:=0) (cs:=t.a.cells) rfl fun u C22 S=>aiF<|je _ _<|Vp.region<|adr S 2 [.mem 0 0] [(24,.int .i64 0),(25,t.a.v)] fun ac S=>aiQ S (some 26) (jC _ _ K _ (h0.below S.E) (by omega)) ?_
 rintro e u ⟨x,rfl,x0,JA⟩
 obtain⟨r0,rfl⟩:=aA.gG x0
 have y0:=S.E.size
 have z00:=(S.bx 0).1
 have z01:=(S.bx 1).1
 have z02:=(S.bx 2).1
 have z03:=(S.bx 3).1
 refine⟨_,rfl,JA,fun ac S=>?_⟩
 refine adr S 1 [] [(27,.pointer (some ⟨b9,0,none⟩))] fun ac S=>aiL S 1 (off:=0) (cs:=r0.cells) rfl (fun u C24 S=>?_)
 have uf:=aA.ch x0 C24 (by omega)
 refine aiF<|ig _ _<|Vp.region<|adr S 2 [] [(20,.int .i64 1)] fun ac S=>aiF ?_
 show Code.rounds _ _ _ 6 _ _
 rw[rounds_succ]
 refine aiG fun _ kH=>adr S 1 [] [(21,.bool true)] fun ac S=>aiF<|kH _ _<|wp_seq_k fun _ lJ=>aiN S<|wp_skip<|lJ _ _<|wp_seq_k fun _ lK=>wp_block<|aiG fun _ qm=>adr S 2 [] [(22,.int .i64 1),(23,t.b.v)] fun ac S=>aiJ S 5 Sx.zr fun ac u b30 JB PE S=>adr S 1 [] [(4,.int .i64 1)] fun ac S=>aiL S 0 (off:=0) (cs:=t.b.cells) rfl (fun u UO S=>?_)
 have Xh:=aiP JB UO (by omega)
 refine aiF<|qm _ _<|Vp.region<|adr S 2 [.mem 0 0] [(24,.int .i64 1),(25,t.b.v)] fun ac S=>aiQ S (some 26) (jC _ _ K _ (h1.below S.E) (by omega)) ?_
 rintro e u ⟨x,rfl,x1,Xi⟩
 obtain⟨r1,rfl⟩:=aA.gG x1
 have y1:=S.E.size
 have z10:=(S.bx 0).1
 have z11:=(S.bx 1).1
 have z12:=(S.bx 2).1
 have z13:=(S.bx 3).1
 have z14:=(S.bx 4).1
 refine⟨_,rfl,Xi,fun ac S=>?_⟩
 refine adr S 1 [] [(27,.pointer (some ⟨b9,4,none⟩))] fun ac S=>aiL S 2 (off:=4) (cs:=r1.cells) rfl (fun u C36 S=>?_)
 have Xw:=aA.ch (uf.ext (Ext.trans' Xh Xi)) C36 (by omega)
 have Xx:=aA.ch x1 C36 (by omega)
 refine aiF<|lK _ _<|Vp.region<|adr S 2 [] [(20,.int .i64 2)] fun ac S=>aiF ?_
 show Code.rounds _ _ _ 5 _ _
 rw[rounds_succ]
 refine aiG fun _ ug=>adr S 1 [] [(21,.bool true)] fun ac S=>aiF<|ug _ _<|wp_seq_k fun _ yY=>aiN S<|wp_skip<|yY _ _<|wp_seq_k fun _ qW=>wp_block<|aiG fun _ qX=>adr S 2 [] [(22,.int .i64 2),(23,t.c.v)] fun ac S=>aiJ S 5 Sx.zr fun ac u b43 E44 Xy S=>adr S 1 [] [(4,.int .i64 2)] fun ac S=>aiL S 0 (off:=0) (cs:=t.c.cells) rfl (fun u UQ S=>?_)
 have E47:=aiP E44 UQ (by omega)
 have E48:=aiP E44 UQ (by omega)
 refine aiF<|qX _ _<|Vp.region<|adr S 2 [.mem 0 0] [(24,.int .i64 2),(25,t.c.v)] fun ac S=>aiQ S (some 26) (jC _ _ K _ (h2.below S.E) (by omega)) ?_
 rintro e u ⟨x,rfl,x2,E49⟩
 obtain⟨r2,rfl⟩:=aA.gG x2
 have y2:=S.E.size
 have z20:=(S.bx 0).1
 have z21:=(S.bx 1).1
 have z22:=(S.bx 2).1
 have z23:=(S.bx 3).1
 have z24:=(S.bx 4).1
 have z25:=(S.bx 5).1
 refine⟨_,rfl,E49,fun ac S=>?_⟩
 refine adr S 1 [] [(27,.pointer (some ⟨b9,8,none⟩))] fun ac S=>aiL S 3 (off:=8) (cs:=r2.cells) rfl (fun u C50 S=>?_)
 have Xz:=aA.ch (Xw.ext (Ext.trans' E47 E49)) C50 (by omega)
 have XA:=aA.ch (Xx.ext (Ext.trans' E48 E49)) C50 (by omega)
 have XB:=aA.ch x2 C50 (by omega)
 refine aiF<|qW _ _<|Vp.region<|adr S 2 [] [(20,.int .i64 3)] fun ac S=>aiF ?_
 show Code.rounds _ _ _ 4 _ _
 rw[rounds_succ]
 refine aiG fun _ UR=>adr S 1 [] [(21,.bool true)] fun ac S=>aiF<|UR _ _<|wp_seq_k fun _ D9=>aiN S<|wp_skip<|D9 _ _<|wp_seq_k fun _ Ea=>wp_block<|aiG fun _ JC=>adr S 2 [] [(22,.int .i64 3),(23,t.d.v)] fun ac S=>aiJ S 5 Sx.zr fun ac u b58 XC afX S=>adr S 1 [] [(4,.int .i64 3)] fun ac S=>aiL S 0 (off:=0) (cs:=t.d.cells) rfl (fun u C61 S=>?_)
 have E62:=aiP XC C61 (by omega)
 have E63:=aiP XC C61 (by omega)
 have E64:=aiP XC C61 (by omega)
 refine aiF<|JC _ _<|Vp.region<|adr S 2 [.mem 0 0] [(24,.int .i64 3),(25,t.d.v)] fun ac S=>aiQ S (some 26) (jC _ _ K _ (h3.below S.E) (by omega)) ?_
 rintro e u ⟨x,rfl,x3,XD⟩
 obtain⟨r3,rfl⟩:=aA.gG x3
 have y3:=S.E.size
 have z30:=(S.bx 0).1
 have z31:=(S.bx 1).1
 have z32:=(S.bx 2).1
 have z33:=(S.bx 3).1
 have z34:=(S.bx 4).1
 have z35:=(S.bx 5).1
 have z36:=(S.bx 6).1
 refine⟨_,rfl,XD,fun ac S=>?_⟩
 refine adr S 1 [] [(27,.pointer (some ⟨b9,12,none⟩))] fun ac S=>aiL S 4 (off:=12) (cs:=r3.cells) rfl (fun u C66 S=>?_)
 have afY:=aA.ch (Xz.ext (Ext.trans' E62 XD)) C66 (by omega)
 have afZ:=aA.ch (XA.ext (Ext.trans' E63 XD)) C66 (by omega)
 have af0:=aA.ch (XB.ext (Ext.trans' E64 XD)) C66 (by omega)
 have af2:=aA.ch x3 C66 (by omega)
 refine aiF<|Ea _ _<|Vp.region<|adr S 2 [] [(20,.int .i64 4)] fun ac S=>aiF ?_
 show Code.rounds _ _ _ 3 _ _
 rw[rounds_succ]
 refine aiG fun _ PG=>adr S 1 [] [(21,.bool true)] fun ac S=>aiF<|PG _ _<|wp_seq_k fun _ XE=>aiN S<|wp_skip<|XE _ _<|wp_seq_k fun _ ab9=>wp_block<|aiG fun _ XF=>adr S 2 [] [(22,.int .i64 4),(23,t.e.v)] fun ac S=>aiJ S 5 Sx.zr fun ac u b75 E76 ah4 S=>adr S 1 [] [(4,.int .i64 4)] fun ac S=>aiL S 0 (off:=0) (cs:=t.e.cells) rfl (fun u C78 S=>?_)
 have E79:=aiP E76 C78 (by omega)
 have E80:=aiP E76 C78 (by omega)
 have E81:=aiP E76 C78 (by omega)
 have E82:=aiP E76 C78 (by omega)
 refine aiF<|XF _ _<|Vp.region<|adr S 2 [.mem 0 0] [(24,.int .i64 4),(25,t.e.v)] fun ac S=>aiQ S (some 26) (jC _ _ K _ (h4.below S.E) (by omega)) ?_
 rintro e u ⟨x,rfl,x4,E83⟩
 obtain⟨r4,rfl⟩:=aA.gG x4
 have y4:=S.E.size
 have z40:=(S.bx 0).1
 have z41:=(S.bx 1).1
 have z42:=(S.bx 2).1
 have z43:=(S.bx 3).1
 have z44:=(S.bx 4).1
 have z45:=(S.bx 5).1
 have z46:=(S.bx 6).1
 have z47:=(S.bx 7).1
 refine⟨_,rfl,E83,fun ac S=>?_⟩
 refine adr S 1 [] [(27,.pointer (some ⟨b9,16,none⟩))] fun ac S=>aiL S 5 (off:=16) (cs:=r4.cells) rfl (fun u C84 S=>?_)
 have af4:=aA.ch (afY.ext (Ext.trans' E79 E83)) C84 (by omega)
 have acd:=aA.ch (afZ.ext (Ext.trans' E80 E83)) C84 (by omega)
 have ace:=aA.ch (af0.ext (Ext.trans' E81 E83)) C84 (by omega)
 have acf:=aA.ch (af2.ext (Ext.trans' E82 E83)) C84 (by omega)
 have acg:=aA.ch x4 C84 (by omega)
 refine aiF<|ab9 _ _<|Vp.region<|adr S 2 [] [(20,.int .i64 5)] fun ac S=>aiF ?_
 show Code.rounds _ _ _ 2 _ _
 rw[rounds_succ]
 refine aiG fun _ af5=>adr S 1 [] [(21,.bool true)] fun ac S=>aiF<|af5 _ _<|wp_seq_k fun _ af6=>aiN S<|wp_skip<|af6 _ _<|wp_seq_k fun _ ach=>wp_block<|aiG fun _ af7=>adr S 2 [] [(22,.int .i64 5),(23,t.f.v)] fun ac S=>aiJ S 5 Sx.zr fun ac u b94 E95 ah5 S=>adr S 1 [] [(4,.int .i64 5)] fun ac S=>aiL S 0 (off:=0) (cs:=t.f.cells) rfl (fun u C97 S=>?_)
 have E98:=aiP E95 C97 (by omega)
 have E99:=aiP E95 C97 (by omega)
 have af8:=aiP E95 C97 (by omega)
 have aat:=aiP E95 C97 (by omega)
 have af9:=aiP E95 C97 (by omega)
 refine aiF<|af7 _ _<|Vp.region<|adr S 2 [.mem 0 0] [(24,.int .i64 5),(25,t.f.v)] fun ac S=>aiQ S (some 26) (jC _ _ K _ (h5.below S.E) (by omega)) ?_
 rintro e u ⟨x,rfl,x5,UU⟩
 obtain⟨r5,rfl⟩:=aA.gG x5
 have y5:=S.E.size
 have z50:=(S.bx 0).1
 have z51:=(S.bx 1).1
 have z52:=(S.bx 2).1
 have z53:=(S.bx 3).1
 have z54:=(S.bx 4).1
 have z55:=(S.bx 5).1
 have z56:=(S.bx 6).1
 have z57:=(S.bx 7).1
 have z58:=(S.bx 8).1
 refine⟨_,rfl,UU,fun ac S=>?_⟩
 refine adr S 1 [] [(27,.pointer (some ⟨b9,20,none⟩))] fun ac S=>aiL S 6 (off:=20) (cs:=r5.cells) rfl (fun u UW S=>?_)
 have aej:=aA.ch (af4.ext (Ext.trans' E98 UU)) UW (by omega)
 have aek:=aA.ch (acd.ext (Ext.trans' E99 UU)) UW (by omega)
 have ael:=aA.ch (ace.ext (Ext.trans' af8 UU)) UW (by omega)
 have aem:=aA.ch (acf.ext (Ext.trans' aat UU)) UW (by omega)
 have aen:=aA.ch (acg.ext (Ext.trans' af9 UU)) UW (by omega)
 have aeo:=aA.ch x5 UW (by omega)
 refine aiF<|ach _ _<|Vp.region<|adr S 2 [] [(20,.int .i64 6)] fun ac S=>aiF ?_
 show Code.rounds _ _ _ 1 _ _
 rw[rounds_succ]
 refine aiG fun _ abO=>adr S 1 [] [(21,.bool false)] fun ac S=>aiF<|abO _ _<|wp_seq_k fun _ SH=>aiY S<|wp_exit<|fZ _ _<|aiG fun _ aep=>adr S 1 [.mem 6 0] [(29,.agg (r0.cells++r1.cells++r2.cells++r3.cells++r4.cells++r5.cells).toArray)] fun ac S=>aiL S 7 (off:=0) (cs:=(r0.cells++r1.cells++r2.cells++r3.cells++r4.cells++r5.cells)) rfl (fun u UY S=>?_)
 have aer:=aA.ch aej UY (by omega)
 have aes:=aA.ch aek UY (by omega)
 have aeu:=aA.ch ael UY (by omega)
 have aev:=aA.ch aem UY (by omega)
 have aew:=aA.ch aen UY (by omega)
 have aex:=aA.ch aeo UY (by omega)
 refine aiF<|aep _ _<|Vp.rt ?_
 refine aiS S 7 Tryz.results135 rfl (v := .agg (r0.cells++r1.cells++r2.cells++r3.cells++r4.cells++r5.cells).toArray) ?_
 exact⟨_,rfl,dG.of (t:=⟨r0,r1,r2,r3,r4,r5⟩) (aA.mono aer (by omega)) (aA.mono aes (by omega)) (aA.mono aeu (by omega)) (aA.mono aev (by omega)) (aA.mono aew (by omega)) (aA.mono aex (by omega)),S.E⟩
theorem aci(v:Value)(Q:Q6)(base:Nat)(w:World)(h:jB base w v Q) :
  Calls Tryz.prog 188 #[v] w fun e w'=>∃x,e = .returned x∧jB base w' x Q∧Ext w w':=by
 obtain⟨t,rfl,-⟩:=h.sT
 refine aiK Tryz.func188 Tryz.ntmps188 fun ac S=>aiG fun _ aU=>aiJ S 1 t.cells fun ac u b2 E3 hb4 S=>aiJ S 2 Sx.za fun ac u b5 E6 hb7 S=>aiF<|aU _ _<|aiG fun _ dP=>adr S 13 [.mem 1 0,.mem 1 4,.mem 1 8,.mem 1 12,.mem 1 16,.mem 1 20] [(15,t.v)] fun ac S=>aiL S 0 (off:=0) (cs:=t.cells) rfl fun u C9 S=>aiF<|dP _ _<|Vp.rt ?_
 refine aiS S 0 Tryz.results188 rfl (v:=t.v) ?_
 exact⟨_,rfl,h.tC S.E,S.E⟩
theorem acj(a b c d:Int)(w:World)(ha:I64 a)(hb:I64 b)(hc:I64 c)(hd:I64 d) :
  Calls Tryz.prog 150 #[.int .i64 a,.int .i64 b,.int .i64 c,.int .i64 d] w fun e w'=>∃x,e = .returned x∧jB w.heap.size w' x ⟨(decide (a<0),(a).natAbs,1),(decide (b<0),(b).natAbs,1),(decide (c<0),(c).natAbs,1),(decide (d<0),(d).natAbs,1),(decide ((0:Int)<0),((0:Int)).natAbs,1),(decide ((0:Int)<0),((0:Int)).natAbs,1)⟩∧Ext w w':=by
 unfold I64 at ha hb hc hd
 refine aiK Tryz.func150 Tryz.ntmps150 fun ac S=>aiG fun _ aU=>aiJ S 8 Sx.za fun ac u b2 E3 hb4 S=>aiF<|aU _ _<|aiG fun _ bV=>adr S 1 [] [(9,.int .i64 a)] fun ac S=>aiQ S (some 10) (iq (a) _ (by omega) (by omega)) ?_
 rintro e u ⟨x,rfl,x0,E6⟩
 obtain⟨r0,rfl⟩:=aA.gG x0
 have z0:=(S.bx 0).1
 refine⟨_,rfl,E6,fun ac S=>?_⟩
 refine adr S 1 [] [(11,.int .i64 b)] fun ac S=>aiQ S (some 12) (iq (b) _ (by omega) (by omega)) ?_
 rintro e u ⟨x,rfl,x1,E7⟩
 obtain⟨r1,rfl⟩:=aA.gG x1
 have z1:=(S.bx 0).1
 refine⟨_,rfl,E7,fun ac S=>?_⟩
 refine adr S 1 [] [(13,.int .i64 c)] fun ac S=>aiQ S (some 14) (iq (c) _ (by omega) (by omega)) ?_
 rintro e u ⟨x,rfl,x2,E8⟩
 obtain⟨r2,rfl⟩:=aA.gG x2
 have z2:=(S.bx 0).1
 refine⟨_,rfl,E8,fun ac S=>?_⟩
 refine adr S 1 [] [(15,.int .i64 d)] fun ac S=>aiQ S (some 16) (iq (d) _ (by omega) (by omega)) ?_
 rintro e u ⟨x,rfl,x3,E9⟩
 obtain⟨r3,rfl⟩:=aA.gG x3
 have z3:=(S.bx 0).1
 refine⟨_,rfl,E9,fun ac S=>?_⟩
 refine aiQ S (some 17) (iq (0) _ (by omega) (by omega)) ?_
 rintro e u ⟨x,rfl,x4,Bj⟩
 obtain⟨r4,rfl⟩:=aA.gG x4
 have z4:=(S.bx 0).1
 refine⟨_,rfl,Bj,fun ac S=>?_⟩
 refine aiQ S (some 18) (iq (0) _ (by omega) (by omega)) ?_
 rintro e u ⟨x,rfl,x5,sF⟩
 obtain⟨r5,rfl⟩:=aA.gG x5
 have z5:=(S.bx 0).1
 refine⟨_,rfl,sF,fun ac S=>?_⟩
 refine adr S 1 [] [(19,.agg (r0.cells++r1.cells++r2.cells++r3.cells++r4.cells++r5.cells).toArray)] fun ac S=>aiQ S (some 20) (aci _ (⟨(decide (a<0),(a).natAbs,1),(decide (b<0),(b).natAbs,1),(decide (c<0),(c).natAbs,1),(decide (d<0),(d).natAbs,1),(decide ((0:Int)<0),((0:Int)).natAbs,1),(decide ((0:Int)<0),((0:Int)).natAbs,1)⟩:Q6) (b2+1) _ (dG.of (t:=⟨r0,r1,r2,r3,r4,r5⟩) (aA.mono (x0.ext (Ext.trans' E7 (Ext.trans' E8 (Ext.trans' E9 (Ext.trans' Bj sF))))) (by omega)) (aA.mono (x1.ext (Ext.trans' E8 (Ext.trans' E9 (Ext.trans' Bj sF)))) (by omega)) (aA.mono (x2.ext (Ext.trans' E9 (Ext.trans' Bj sF))) (by omega)) (aA.mono (x3.ext (Ext.trans' Bj sF)) (by omega)) (aA.mono (x4.ext sF) (by omega)) (aA.mono x5 (by omega)))) ?_
 rintro e u ⟨x,rfl,hm,H6⟩
 obtain⟨m,rfl,-⟩:=hm.sT
 refine⟨_,rfl,H6,fun ac S=>?_⟩
 refine aiL S 0 (off:=0) (cs:=m.cells) rfl (fun u C13 S=>?_)
 have acn:=hm.ch C13 (by omega)
 refine aiF<|bV _ _<|Vp.rt ?_
 refine aiS S 0 Tryz.results150 rfl (v:=m.v) ?_
 exact⟨_,rfl,dG.SI acn (by omega),S.E⟩
theorem PI(w:World) :
  Calls Tryz.prog 111 #[] w fun e w'=>∃x,e = .returned x∧jB w.heap.size w' x qI∧Ext w w':=by
 skip
 refine aiK Tryz.func111 Tryz.ntmps111 fun ac S=>aiG fun _ aU=>aiJ S 0 Sx.za fun ac u b2 E3 hb4 S=>aiF<|aU _ _<|aiG (fun _ bV=>?_)
 have hc:=acj 1 0 0 1 u (by decide) (by decide) (by decide) (by decide)
 refine aiQ S (some 1) (show Calls _ _ _ _ _ from hc) ?_
 rintro e u ⟨x,rfl,hm,E6⟩
 have hm:jB _ _ x qI:=hm
 obtain⟨m,rfl,-⟩:=hm.sT
 have y:=S.E.size
 have z:=(S.bx 0).1
 refine⟨_,rfl,E6,fun ac S=>?_⟩
 refine aiL S 0 (off:=0) (cs:=m.cells) rfl (fun u C7 S=>?_)
 have Fs8:=hm.ch C7 (by omega)
 refine aiF<|bV _ _<|Vp.rt ?_
 refine aiS S 0 Tryz.results111 rfl (v:=m.v) ?_
 exact⟨_,rfl,dG.SI Fs8 (by omega),S.E⟩
end Go.Proofs.YtfmkkemfhjkajaaGreatDoor
