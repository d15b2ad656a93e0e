/- Walks of package affine by value: numbers, made, ints, Identity. -/
import Derived.Test.YtfmkkemfhjkajaaGreatDoorPk11
import Derived.Test.YtfmkkemfhjkajaaGreatDoorRatG
import Derived.Test.YtfmkkemfhjkajaaGreatDoorSy
import Derived.LoopN
set_option maxHeartbeats 1600000
set_option maxRecDepth 100000
namespace Go.Proofs.YtfmkkemfhjkajaaGreatDoor
open Go.RowKit
variable{α:Type}
set_option linter.unusedVariables false
theorem numbers_q(v:Value)(Q:Q6)(K:Nat)(w:World)(h:IsAffQ K w v Q)(hK:K≤100000) :
  Calls Tryz.prog 135 #[v] w fun e w'=>∃x,e = .returned x∧IsAffT w.heap.size w' x Q∧Ext w w':=by
 obtain⟨t,rfl,h0,h1,h2,h3,h4,h5⟩:=h.sQ
 refine Sx.enter Tryz.func135 Tryz.ntmps135 fun ac S=>Sx.seqP fun _ κ1=>Sx.newp S 1 t.cells fun ac u b2 E3 hb4 S=>Sx.newp S 2 Sx.za fun ac u b5 E6 hb7 S=>Sx.done<|κ1 _ _<|Sx.seqP fun _ κ8=>Sx.run S 13 [.mem 1 0,.mem 1 4,.mem 1 8,.mem 1 12,.mem 1 16,.mem 1 20] [(18,t.v)] fun ac S=>Sx.newp S 3 Sx.za fun ac u b9 E10 hb11 S=>Sx.store S 0 (off:=0) (cs:=t.cells) rfl fun u C12 S=>Sx.done<|κ8 _ _<|wp_seq_k fun _ κ13=>Sx.seqP fun _ κ14=>Sx.run S 2 [.mem 0 0] [(19,t.v),(20,.int .i64 0)] fun ac S=>Sx.done<|κ14 _ _<|wp_block<|wp_loop_rounds 7 ?_
 rw[rounds_succ]
 refine Sx.seqP fun _ κ15=>Sx.run S 1 [] [(21,.bool true)] fun ac S=>Sx.done<|κ15 _ _<|wp_seq_k fun _ κ16=>Sx.condT S<|wp_skip<|κ16 _ _<|wp_seq_k fun _ κ17=>wp_block<|Sx.seqP fun _ κ18=>Sx.run S 2 [] [(22,.int .i64 0),(23,t.a.v)] fun ac S=>Sx.newp S 5 Sx.zr fun ac u b19 E20 hb21 S=>Sx.run S 1 [] [(4,.int .i64 0)] fun ac S=>Sx.store S 0 (off:=0) (cs:=t.a.cells) rfl fun u C22 S=>Sx.done<|κ18 _ _<|Vp.region<|Sx.run S 2 [.mem 0 0] [(24,.int .i64 0),(25,t.a.v)] fun ac S=>Sx.callG S (some 26) (ratNorm_q _ _ K _ (h0.below S.E) (by omega)) ?_
 rintro e u ⟨x,rfl,x0,E23⟩
 obtain⟨r0,rfl⟩:=IsRatN.shapeD x0
 have y0:=S.E.size
 have z00:=(S.bx 0).1
 have z01:=(S.bx 1).1
 have z02:=(S.bx 2).1
 have z03:=(S.bx 3).1
 refine⟨_,rfl,E23,fun ac S=>?_⟩
 refine Sx.run S 1 [] [(27,.pointer (some ⟨b9,0,none⟩))] fun ac S=>Sx.store S 1 (off:=0) (cs:=r0.cells) rfl (fun u C24 S=>?_)
 have F25:=IsRatN.ch x0 C24 (by omega)
 refine Sx.done<|κ17 _ _<|Vp.region<|Sx.run S 2 [] [(20,.int .i64 1)] fun ac S=>Sx.done ?_
 show Code.rounds _ _ _ 6 _ _
 rw[rounds_succ]
 refine Sx.seqP fun _ κ26=>Sx.run S 1 [] [(21,.bool true)] fun ac S=>Sx.done<|κ26 _ _<|wp_seq_k fun _ κ27=>Sx.condT S<|wp_skip<|κ27 _ _<|wp_seq_k fun _ κ28=>wp_block<|Sx.seqP fun _ κ29=>Sx.run S 2 [] [(22,.int .i64 1),(23,t.b.v)] fun ac S=>Sx.newp S 5 Sx.zr fun ac u b30 E31 hb32 S=>Sx.run S 1 [] [(4,.int .i64 1)] fun ac S=>Sx.store S 0 (off:=0) (cs:=t.b.cells) rfl (fun u C33 S=>?_)
 have E34:=Sx.ext_ch E31 C33 (by omega)
 refine Sx.done<|κ29 _ _<|Vp.region<|Sx.run S 2 [.mem 0 0] [(24,.int .i64 1),(25,t.b.v)] fun ac S=>Sx.callG S (some 26) (ratNorm_q _ _ K _ (h1.below S.E) (by omega)) ?_
 rintro e u ⟨x,rfl,x1,E35⟩
 obtain⟨r1,rfl⟩:=IsRatN.shapeD x1
 have y1:=S.E.size
 have z10:=(S.bx 0).1
 have z11:=(S.bx 1).1
 have z12:=(S.bx 2).1
 have z13:=(S.bx 3).1
 have z14:=(S.bx 4).1
 refine⟨_,rfl,E35,fun ac S=>?_⟩
 refine Sx.run S 1 [] [(27,.pointer (some ⟨b9,4,none⟩))] fun ac S=>Sx.store S 2 (off:=4) (cs:=r1.cells) rfl (fun u C36 S=>?_)
 have F37:=IsRatN.ch (F25.ext (Ext.trans' E34 E35)) C36 (by omega)
 have F38:=IsRatN.ch x1 C36 (by omega)
 refine Sx.done<|κ28 _ _<|Vp.region<|Sx.run S 2 [] [(20,.int .i64 2)] fun ac S=>Sx.done ?_
 show Code.rounds _ _ _ 5 _ _
 rw[rounds_succ]
 refine Sx.seqP fun _ κ39=>Sx.run S 1 [] [(21,.bool true)] fun ac S=>Sx.done<|κ39 _ _<|wp_seq_k fun _ κ40=>Sx.condT S<|wp_skip<|κ40 _ _<|wp_seq_k fun _ κ41=>wp_block<|Sx.seqP fun _ κ42=>Sx.run S 2 [] [(22,.int .i64 2),(23,t.c.v)] fun ac S=>Sx.newp S 5 Sx.zr fun ac u b43 E44 hb45 S=>Sx.run S 1 [] [(4,.int .i64 2)] fun ac S=>Sx.store S 0 (off:=0) (cs:=t.c.cells) rfl (fun u C46 S=>?_)
 have E47:=Sx.ext_ch E44 C46 (by omega)
 have E48:=Sx.ext_ch E44 C46 (by omega)
 refine Sx.done<|κ42 _ _<|Vp.region<|Sx.run S 2 [.mem 0 0] [(24,.int .i64 2),(25,t.c.v)] fun ac S=>Sx.callG S (some 26) (ratNorm_q _ _ K _ (h2.below S.E) (by omega)) ?_
 rintro e u ⟨x,rfl,x2,E49⟩
 obtain⟨r2,rfl⟩:=IsRatN.shapeD x2
 have y2:=S.E.size
 have z20:=(S.bx 0).1
 have z21:=(S.bx 1).1
 have z22:=(S.bx 2).1
 have z23:=(S.bx 3).1
 have z24:=(S.bx 4).1
 have z25:=(S.bx 5).1
 refine⟨_,rfl,E49,fun ac S=>?_⟩
 refine Sx.run S 1 [] [(27,.pointer (some ⟨b9,8,none⟩))] fun ac S=>Sx.store S 3 (off:=8) (cs:=r2.cells) rfl (fun u C50 S=>?_)
 have F51:=IsRatN.ch (F37.ext (Ext.trans' E47 E49)) C50 (by omega)
 have F52:=IsRatN.ch (F38.ext (Ext.trans' E48 E49)) C50 (by omega)
 have F53:=IsRatN.ch x2 C50 (by omega)
 refine Sx.done<|κ41 _ _<|Vp.region<|Sx.run S 2 [] [(20,.int .i64 3)] fun ac S=>Sx.done ?_
 show Code.rounds _ _ _ 4 _ _
 rw[rounds_succ]
 refine Sx.seqP fun _ κ54=>Sx.run S 1 [] [(21,.bool true)] fun ac S=>Sx.done<|κ54 _ _<|wp_seq_k fun _ κ55=>Sx.condT S<|wp_skip<|κ55 _ _<|wp_seq_k fun _ κ56=>wp_block<|Sx.seqP fun _ κ57=>Sx.run S 2 [] [(22,.int .i64 3),(23,t.d.v)] fun ac S=>Sx.newp S 5 Sx.zr fun ac u b58 E59 hb60 S=>Sx.run S 1 [] [(4,.int .i64 3)] fun ac S=>Sx.store S 0 (off:=0) (cs:=t.d.cells) rfl (fun u C61 S=>?_)
 have E62:=Sx.ext_ch E59 C61 (by omega)
 have E63:=Sx.ext_ch E59 C61 (by omega)
 have E64:=Sx.ext_ch E59 C61 (by omega)
 refine Sx.done<|κ57 _ _<|Vp.region<|Sx.run S 2 [.mem 0 0] [(24,.int .i64 3),(25,t.d.v)] fun ac S=>Sx.callG S (some 26) (ratNorm_q _ _ K _ (h3.below S.E) (by omega)) ?_
 rintro e u ⟨x,rfl,x3,E65⟩
 obtain⟨r3,rfl⟩:=IsRatN.shapeD x3
 have y3:=S.E.size
 have z30:=(S.bx 0).1
 have z31:=(S.bx 1).1
 have z32:=(S.bx 2).1
 have z33:=(S.bx 3).1
 have z34:=(S.bx 4).1
 have z35:=(S.bx 5).1
 have z36:=(S.bx 6).1
 refine⟨_,rfl,E65,fun ac S=>?_⟩
 refine Sx.run S 1 [] [(27,.pointer (some ⟨b9,12,none⟩))] fun ac S=>Sx.store S 4 (off:=12) (cs:=r3.cells) rfl (fun u C66 S=>?_)
 have F67:=IsRatN.ch (F51.ext (Ext.trans' E62 E65)) C66 (by omega)
 have F68:=IsRatN.ch (F52.ext (Ext.trans' E63 E65)) C66 (by omega)
 have F69:=IsRatN.ch (F53.ext (Ext.trans' E64 E65)) C66 (by omega)
 have F70:=IsRatN.ch x3 C66 (by omega)
 refine Sx.done<|κ56 _ _<|Vp.region<|Sx.run S 2 [] [(20,.int .i64 4)] fun ac S=>Sx.done ?_
 show Code.rounds _ _ _ 3 _ _
 rw[rounds_succ]
 refine Sx.seqP fun _ κ71=>Sx.run S 1 [] [(21,.bool true)] fun ac S=>Sx.done<|κ71 _ _<|wp_seq_k fun _ κ72=>Sx.condT S<|wp_skip<|κ72 _ _<|wp_seq_k fun _ κ73=>wp_block<|Sx.seqP fun _ κ74=>Sx.run S 2 [] [(22,.int .i64 4),(23,t.e.v)] fun ac S=>Sx.newp S 5 Sx.zr fun ac u b75 E76 hb77 S=>Sx.run S 1 [] [(4,.int .i64 4)] fun ac S=>Sx.store S 0 (off:=0) (cs:=t.e.cells) rfl (fun u C78 S=>?_)
 have E79:=Sx.ext_ch E76 C78 (by omega)
 have E80:=Sx.ext_ch E76 C78 (by omega)
 have E81:=Sx.ext_ch E76 C78 (by omega)
 have E82:=Sx.ext_ch E76 C78 (by omega)
 refine Sx.done<|κ74 _ _<|Vp.region<|Sx.run S 2 [.mem 0 0] [(24,.int .i64 4),(25,t.e.v)] fun ac S=>Sx.callG S (some 26) (ratNorm_q _ _ K _ (h4.below S.E) (by omega)) ?_
 rintro e u ⟨x,rfl,x4,E83⟩
 obtain⟨r4,rfl⟩:=IsRatN.shapeD x4
 have y4:=S.E.size
 have z40:=(S.bx 0).1
 have z41:=(S.bx 1).1
 have z42:=(S.bx 2).1
 have z43:=(S.bx 3).1
 have z44:=(S.bx 4).1
 have z45:=(S.bx 5).1
 have z46:=(S.bx 6).1
 have z47:=(S.bx 7).1
 refine⟨_,rfl,E83,fun ac S=>?_⟩
 refine Sx.run S 1 [] [(27,.pointer (some ⟨b9,16,none⟩))] fun ac S=>Sx.store S 5 (off:=16) (cs:=r4.cells) rfl (fun u C84 S=>?_)
 have F85:=IsRatN.ch (F67.ext (Ext.trans' E79 E83)) C84 (by omega)
 have F86:=IsRatN.ch (F68.ext (Ext.trans' E80 E83)) C84 (by omega)
 have F87:=IsRatN.ch (F69.ext (Ext.trans' E81 E83)) C84 (by omega)
 have F88:=IsRatN.ch (F70.ext (Ext.trans' E82 E83)) C84 (by omega)
 have F89:=IsRatN.ch x4 C84 (by omega)
 refine Sx.done<|κ73 _ _<|Vp.region<|Sx.run S 2 [] [(20,.int .i64 5)] fun ac S=>Sx.done ?_
 show Code.rounds _ _ _ 2 _ _
 rw[rounds_succ]
 refine Sx.seqP fun _ κ90=>Sx.run S 1 [] [(21,.bool true)] fun ac S=>Sx.done<|κ90 _ _<|wp_seq_k fun _ κ91=>Sx.condT S<|wp_skip<|κ91 _ _<|wp_seq_k fun _ κ92=>wp_block<|Sx.seqP fun _ κ93=>Sx.run S 2 [] [(22,.int .i64 5),(23,t.f.v)] fun ac S=>Sx.newp S 5 Sx.zr fun ac u b94 E95 hb96 S=>Sx.run S 1 [] [(4,.int .i64 5)] fun ac S=>Sx.store S 0 (off:=0) (cs:=t.f.cells) rfl (fun u C97 S=>?_)
 have E98:=Sx.ext_ch E95 C97 (by omega)
 have E99:=Sx.ext_ch E95 C97 (by omega)
 have E100:=Sx.ext_ch E95 C97 (by omega)
 have E101:=Sx.ext_ch E95 C97 (by omega)
 have E102:=Sx.ext_ch E95 C97 (by omega)
 refine Sx.done<|κ93 _ _<|Vp.region<|Sx.run S 2 [.mem 0 0] [(24,.int .i64 5),(25,t.f.v)] fun ac S=>Sx.callG S (some 26) (ratNorm_q _ _ K _ (h5.below S.E) (by omega)) ?_
 rintro e u ⟨x,rfl,x5,E103⟩
 obtain⟨r5,rfl⟩:=IsRatN.shapeD x5
 have y5:=S.E.size
 have z50:=(S.bx 0).1
 have z51:=(S.bx 1).1
 have z52:=(S.bx 2).1
 have z53:=(S.bx 3).1
 have z54:=(S.bx 4).1
 have z55:=(S.bx 5).1
 have z56:=(S.bx 6).1
 have z57:=(S.bx 7).1
 have z58:=(S.bx 8).1
 refine⟨_,rfl,E103,fun ac S=>?_⟩
 refine Sx.run S 1 [] [(27,.pointer (some ⟨b9,20,none⟩))] fun ac S=>Sx.store S 6 (off:=20) (cs:=r5.cells) rfl (fun u C104 S=>?_)
 have F105:=IsRatN.ch (F85.ext (Ext.trans' E98 E103)) C104 (by omega)
 have F106:=IsRatN.ch (F86.ext (Ext.trans' E99 E103)) C104 (by omega)
 have F107:=IsRatN.ch (F87.ext (Ext.trans' E100 E103)) C104 (by omega)
 have F108:=IsRatN.ch (F88.ext (Ext.trans' E101 E103)) C104 (by omega)
 have F109:=IsRatN.ch (F89.ext (Ext.trans' E102 E103)) C104 (by omega)
 have F110:=IsRatN.ch x5 C104 (by omega)
 refine Sx.done<|κ92 _ _<|Vp.region<|Sx.run S 2 [] [(20,.int .i64 6)] fun ac S=>Sx.done ?_
 show Code.rounds _ _ _ 1 _ _
 rw[rounds_succ]
 refine Sx.seqP fun _ κ111=>Sx.run S 1 [] [(21,.bool false)] fun ac S=>Sx.done<|κ111 _ _<|wp_seq_k fun _ κ112=>Sx.condF S<|wp_exit<|κ13 _ _<|Sx.seqP fun _ κ113=>Sx.run S 1 [.mem 6 0] [(29,.agg (r0.cells++r1.cells++r2.cells++r3.cells++r4.cells++r5.cells).toArray)] fun ac S=>Sx.store S 7 (off:=0) (cs:=(r0.cells++r1.cells++r2.cells++r3.cells++r4.cells++r5.cells)) rfl (fun u C114 S=>?_)
 have F115:=IsRatN.ch F105 C114 (by omega)
 have F116:=IsRatN.ch F106 C114 (by omega)
 have F117:=IsRatN.ch F107 C114 (by omega)
 have F118:=IsRatN.ch F108 C114 (by omega)
 have F119:=IsRatN.ch F109 C114 (by omega)
 have F120:=IsRatN.ch F110 C114 (by omega)
 refine Sx.done<|κ113 _ _<|Vp.rt ?_
 refine Sx.retc S 7 Tryz.results135 rfl (v := .agg (r0.cells++r1.cells++r2.cells++r3.cells++r4.cells++r5.cells).toArray) ?_
 exact⟨_,rfl,IsAffR.of (t:=⟨r0,r1,r2,r3,r4,r5⟩) (IsRatN.mono F115 (by omega)) (IsRatN.mono F116 (by omega)) (IsRatN.mono F117 (by omega)) (IsRatN.mono F118 (by omega)) (IsRatN.mono F119 (by omega)) (IsRatN.mono F120 (by omega)),S.E⟩
theorem made_q(v:Value)(Q:Q6)(base:Nat)(w:World)(h:IsAffT base w v Q) :
  Calls Tryz.prog 188 #[v] w fun e w'=>∃x,e = .returned x∧IsAffT base w' x Q∧Ext w w':=by
 obtain⟨t,rfl,-⟩:=h.sT
 refine Sx.enter Tryz.func188 Tryz.ntmps188 fun ac S=>Sx.seqP fun _ κ1=>Sx.newp S 1 t.cells fun ac u b2 E3 hb4 S=>Sx.newp S 2 Sx.za fun ac u b5 E6 hb7 S=>Sx.done<|κ1 _ _<|Sx.seqP fun _ κ8=>Sx.run S 13 [.mem 1 0,.mem 1 4,.mem 1 8,.mem 1 12,.mem 1 16,.mem 1 20] [(15,t.v)] fun ac S=>Sx.store S 0 (off:=0) (cs:=t.cells) rfl fun u C9 S=>Sx.done<|κ8 _ _<|Vp.rt ?_
 refine Sx.retc S 0 Tryz.results188 rfl (v:=t.v) ?_
 exact⟨_,rfl,h.extT S.E,S.E⟩
theorem ints_q(a b c d:Int)(w:World)(ha:I64 a)(hb:I64 b)(hc:I64 c)(hd:I64 d) :
  Calls Tryz.prog 150 #[.int .i64 a,.int .i64 b,.int .i64 c,.int .i64 d] w fun e w'=>∃x,e = .returned x∧IsAffT w.heap.size w' x ⟨(decide (a<0),(a).natAbs,1),(decide (b<0),(b).natAbs,1),(decide (c<0),(c).natAbs,1),(decide (d<0),(d).natAbs,1),(decide ((0:Int)<0),((0:Int)).natAbs,1),(decide ((0:Int)<0),((0:Int)).natAbs,1)⟩∧Ext w w':=by
 unfold I64 at ha hb hc hd
 refine Sx.enter Tryz.func150 Tryz.ntmps150 fun ac S=>Sx.seqP fun _ κ1=>Sx.newp S 8 Sx.za fun ac u b2 E3 hb4 S=>Sx.done<|κ1 _ _<|Sx.seqP fun _ κ5=>Sx.run S 1 [] [(9,.int .i64 a)] fun ac S=>Sx.callG S (some 10) (ratFromInt_any (a) _ (by omega) (by omega)) ?_
 rintro e u ⟨x,rfl,x0,E6⟩
 obtain⟨r0,rfl⟩:=IsRatN.shapeD x0
 have z0:=(S.bx 0).1
 refine⟨_,rfl,E6,fun ac S=>?_⟩
 refine Sx.run S 1 [] [(11,.int .i64 b)] fun ac S=>Sx.callG S (some 12) (ratFromInt_any (b) _ (by omega) (by omega)) ?_
 rintro e u ⟨x,rfl,x1,E7⟩
 obtain⟨r1,rfl⟩:=IsRatN.shapeD x1
 have z1:=(S.bx 0).1
 refine⟨_,rfl,E7,fun ac S=>?_⟩
 refine Sx.run S 1 [] [(13,.int .i64 c)] fun ac S=>Sx.callG S (some 14) (ratFromInt_any (c) _ (by omega) (by omega)) ?_
 rintro e u ⟨x,rfl,x2,E8⟩
 obtain⟨r2,rfl⟩:=IsRatN.shapeD x2
 have z2:=(S.bx 0).1
 refine⟨_,rfl,E8,fun ac S=>?_⟩
 refine Sx.run S 1 [] [(15,.int .i64 d)] fun ac S=>Sx.callG S (some 16) (ratFromInt_any (d) _ (by omega) (by omega)) ?_
 rintro e u ⟨x,rfl,x3,E9⟩
 obtain⟨r3,rfl⟩:=IsRatN.shapeD x3
 have z3:=(S.bx 0).1
 refine⟨_,rfl,E9,fun ac S=>?_⟩
 refine Sx.callG S (some 17) (ratFromInt_any (0) _ (by omega) (by omega)) ?_
 rintro e u ⟨x,rfl,x4,E10⟩
 obtain⟨r4,rfl⟩:=IsRatN.shapeD x4
 have z4:=(S.bx 0).1
 refine⟨_,rfl,E10,fun ac S=>?_⟩
 refine Sx.callG S (some 18) (ratFromInt_any (0) _ (by omega) (by omega)) ?_
 rintro e u ⟨x,rfl,x5,E11⟩
 obtain⟨r5,rfl⟩:=IsRatN.shapeD x5
 have z5:=(S.bx 0).1
 refine⟨_,rfl,E11,fun ac S=>?_⟩
 refine Sx.run S 1 [] [(19,.agg (r0.cells++r1.cells++r2.cells++r3.cells++r4.cells++r5.cells).toArray)] fun ac S=>Sx.callG S (some 20) (made_q _ (⟨(decide (a<0),(a).natAbs,1),(decide (b<0),(b).natAbs,1),(decide (c<0),(c).natAbs,1),(decide (d<0),(d).natAbs,1),(decide ((0:Int)<0),((0:Int)).natAbs,1),(decide ((0:Int)<0),((0:Int)).natAbs,1)⟩:Q6) (b2+1) _ (IsAffR.of (t:=⟨r0,r1,r2,r3,r4,r5⟩) (IsRatN.mono (x0.ext (Ext.trans' E7 (Ext.trans' E8 (Ext.trans' E9 (Ext.trans' E10 E11))))) (by omega)) (IsRatN.mono (x1.ext (Ext.trans' E8 (Ext.trans' E9 (Ext.trans' E10 E11)))) (by omega)) (IsRatN.mono (x2.ext (Ext.trans' E9 (Ext.trans' E10 E11))) (by omega)) (IsRatN.mono (x3.ext (Ext.trans' E10 E11)) (by omega)) (IsRatN.mono (x4.ext E11) (by omega)) (IsRatN.mono x5 (by omega)))) ?_
 rintro e u ⟨x,rfl,hm,E12⟩
 obtain⟨m,rfl,-⟩:=hm.sT
 refine⟨_,rfl,E12,fun ac S=>?_⟩
 refine Sx.store S 0 (off:=0) (cs:=m.cells) rfl (fun u C13 S=>?_)
 have F14:=hm.ch C13 (by omega)
 refine Sx.done<|κ5 _ _<|Vp.rt ?_
 refine Sx.retc S 0 Tryz.results150 rfl (v:=m.v) ?_
 exact⟨_,rfl,IsAffR.monoT F14 (by omega),S.E⟩
theorem identity_q(w:World) :
  Calls Tryz.prog 111 #[] w fun e w'=>∃x,e = .returned x∧IsAffT w.heap.size w' x qI∧Ext w w':=by
 skip
 refine Sx.enter Tryz.func111 Tryz.ntmps111 fun ac S=>Sx.seqP fun _ κ1=>Sx.newp S 0 Sx.za fun ac u b2 E3 hb4 S=>Sx.done<|κ1 _ _<|Sx.seqP (fun _ κ5=>?_)
 have hc:=ints_q 1 0 0 1 u (by decide) (by decide) (by decide) (by decide)
 refine Sx.callG S (some 1) (show Calls _ _ _ _ _ from hc) ?_
 rintro e u ⟨x,rfl,hm,E6⟩
 have hm:IsAffT _ _ x qI:=hm
 obtain⟨m,rfl,-⟩:=hm.sT
 have y:=S.E.size
 have z:=(S.bx 0).1
 refine⟨_,rfl,E6,fun ac S=>?_⟩
 refine Sx.store S 0 (off:=0) (cs:=m.cells) rfl (fun u C7 S=>?_)
 have F8:=hm.ch C7 (by omega)
 refine Sx.done<|κ5 _ _<|Vp.rt ?_
 refine Sx.retc S 0 Tryz.results111 rfl (v:=m.v) ?_
 exact⟨_,rfl,IsAffR.monoT F8 (by omega),S.E⟩
end Go.Proofs.YtfmkkemfhjkajaaGreatDoor
