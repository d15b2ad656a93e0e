/- Walks of package node: zero, bare. -/
import Derived.Test.YtfmkkemfhjkajaaGreatDoorPaint
set_option maxHeartbeats 3200000
set_option maxRecDepth 100000
namespace Go.Proofs.YtfmkkemfhjkajaaGreatDoor
open Go.RowKit
variable{α:Type}{K:Nat}
set_option linter.unusedVariables false
def NodeOk(K:Nat)(w:World)(n:NodeD):Prop:=n.ok w∧n.t.fit K∧(∀p∈n.fill,p.t.fit K)∧(∀p∈n.stroke,p.t.fit K)∧1≤K∧K≤10000
theorem NodeOk.below{w w':World}{n:NodeD}(h:NodeOk K w n)(hb:Ext w w'):NodeOk K w' n:=⟨h.1.below hb,h.2⟩
def StyleD.bare:StyleD:=⟨0,0,0,0,none,0,[],0⟩
theorem StyleD.bare_ok(w:World):StyleD.bare.ok w:=⟨i64_0,i64_0,i64_0,i64_0,⟨none,0,rfl,Nat.zero_le _,.inl ⟨rfl,fun _=>rfl⟩⟩,fun x hx=>by simp[StyleD.bare]at hx,i64_0⟩
theorem q0_nrm:Nrm q0:=RatD.none_q▸IsRatQ.nrm (RatD.toQ (w:=default) (RatD.none_ok _) (RatD.none_fit 1))
theorem q0_len:qlen 1 q0:=RatD.none_q▸IsRatQ.len (RatD.toQ (w:=default) (RatD.none_ok _) (RatD.none_fit 1)) (Nat.le_refl 1)
theorem zero_any{w:World}{t:AffD}(h:t.ok w)(hf:t.fit K)(hK1:1≤K)(hK:K≤10000) :
  Calls Tryz.prog 116 #[t.v] w fun e w'=>e = .returned (.bool (qeq t.q.det q0))∧Ext w w':=by
 skip
 refine Sx.enter Tryz.func116 Tryz.ntmps116 fun ac S=>Sx.seqP fun _ κ1=>Sx.newp S 1 t.cells fun ac u b2 E3 hb4 S=>Sx.run S 1 [] [(2,.bool false)] fun ac S=>Sx.done<|κ1 _ _<|Sx.seqP fun _ κ5=>Sx.run S 1 [.mem 0 0] [(3,t.v)] fun ac S=>Sx.callG S (some 4) (det_q t.v t.q K _ ((AffD.toQ h hf).belowQ S.E) hK1 hK) ?_
 rintro e u ⟨x,rfl,hd,E6⟩
 refine⟨_,rfl,E6,fun ac S=>?_⟩
 refine Sx.callG S (some 5) (ratFromInt_any 0 _ (by omega) (by omega)) ?_
 rintro e u ⟨y,rfl,hy,E7⟩
 refine⟨_,rfl,E7,fun ac S=>?_⟩
 refine Sx.callv S 6 (ratCmp_q _ _ t.q.det q0 (K+K+(K+K)+1) 1 _ (IsRatN.toQ (hd.ext E7) (det_nrm _) (det_len hK1 (AffR.len6 ((AffD.toQ h hf).belowQ (Below.refl _ _)) hK1))) (IsRatN.toQ (q:=q0) hy q0_nrm q0_len) (by omega) (by omega) (by omega) (by omega)) fun ac u E8 S=>Sx.run S 2 [] [(2,.bool (((qcmp t.q.det q0))==0))] fun ac S=>Sx.done<|κ5 _ _<|Vp.rt ?_
 refine Sx.ret1 S Tryz.results116 ?_
 exact⟨rfl,S.E⟩
def NodeD.bare(nd:NodeD):Bool:=cond ((nd.kind)==1) (((((((((nd.path.length:Nat):Int))==0)&&((nd.fillRule)==0))&&((((nd.fill.length:Nat):Int))==0))&&((((nd.stroke.length:Nat):Int))==0))&&(nd.style.eq StyleD.bare))&&((nd.img.eq ImgD.bare)&&((nd.samp)==0))) (cond ((nd.kind)==2) (((((((nd.opacity.toNat:Int))==0)&&((nd.blend)==0))&&(!nd.isolated))&&(!nd.knockout))&&((nd.img.eq ImgD.bare)&&((nd.samp)==0))) (((((((nd.opacity.toNat:Int))==0)&&((nd.blend)==0))&&(!nd.isolated))&&(!nd.knockout))&&((((((((nd.path.length:Nat):Int))==0)&&((nd.fillRule)==0))&&((((nd.fill.length:Nat):Int))==0))&&((((nd.stroke.length:Nat):Int))==0))&&(nd.style.eq StyleD.bare))))
theorem bare_any{w:World}{nd:NodeD}(h:NodeOk K w nd) :
  Calls Tryz.prog 118 #[nd.v] w fun e w'=>e = .returned (.bool nd.bare)∧Ext w w':=by
 obtain⟨a1,c1,ecs⟩:=h.1.2.2.2.2.1.1.shape
 obtain⟨a2,c2,eps⟩:=h.1.2.2.2.2.2.2.2.1.1.shape
 obtain⟨a3,c3,efs⟩:=h.1.2.2.2.2.2.2.2.2.2.1.1.shape
 obtain⟨a4,c4,ess⟩:=h.1.2.2.2.2.2.2.2.2.2.2.2.1.1.shape
 refine Sx.enter Tryz.func118 Tryz.ntmps118 fun ac S=>Sx.seqP fun _ κ1=>Sx.newp S 1 nd.cells fun ac u b2 E3 hb4 S=>Sx.run S 1 [] [(2,.bool false)] fun ac S=>Sx.done<|κ1 _ _<|Sx.seqP fun _ κ5=>Sx.run S 19 [.mem 0 29,.mem 0 30,.mem 0 31,.mem 0 32] [(3,.bool ((((((nd.opacity.toNat:Int))==0)&&((nd.blend)==0))&&(!nd.isolated))&&(!nd.knockout)))] fun ac S=>Sx.done<|κ5 _ _<|Sx.seqP fun _ κ6=>Sx.runC S 28 [.mem 0 33,.mem 0 34,.mem 0 35,.mem 0 42,.mem 0 36] [(_,_,(((((((nd.path.length:Nat):Int))==0)&&((nd.fillRule)==0))&&((((nd.fill.length:Nat):Int))==0))&&((((nd.stroke.length:Nat):Int))==0)),.bool (nd.style.eq StyleD.bare))] [(4,.bool ((((((((nd.path.length:Nat):Int))==0)&&((nd.fillRule)==0))&&((((nd.fill.length:Nat):Int))==0))&&((((nd.stroke.length:Nat):Int))==0))&&(nd.style.eq StyleD.bare)))] ⟨fun u hC g=>samePen_any (p:=nd.style) (q:=StyleD.bare) (h.1.2.2.2.2.2.2.2.2.2.2.1.below (Ext.trans' S.E hC)) (StyleD.bare_ok _),trivial⟩ fun ac u E7 S=>Sx.done<|κ6 _ _<|Sx.seqP fun _ κ8=>Sx.run S 3 [.mem 0 43] [(52,nd.img.v),(53,.agg #[.int .i64 0,.int .i64 0,.slice none 0 0])] fun ac S=>Sx.callv S 54 (imgEqual_any (m:=nd.img) (n:=ImgD.bare) (h.1.2.2.2.2.2.2.2.2.2.2.2.2.1.below S.E) (ImgD.bare_ok _)) fun ac u E9 S=>Sx.run S 6 [.mem 0 46] [(5,.bool ((nd.img.eq ImgD.bare)&&((nd.samp)==0)))] fun ac S=>Sx.done<|κ8 _ _<|wp_seq_k fun _ κ10=>Sx.seqP fun _ κ11=>Sx.run S 2 [.mem 0 1] [(61,.int .i64 nd.kind)] fun ac S=>Sx.done<|κ11 _ _<|wp_block<|Sx.seqP fun _ κ12=>Sx.run S 2 [] [(62,.bool ((nd.kind)==1))] fun ac S=>Sx.done (κ12 _ _ ?_)
 refine Sx.cond S (fun hc13=>?_) (fun hc13=>?_)
 ·refine Sx.seqP fun _ κ14=>Sx.run S 5 [] [(2,.bool (((((((((nd.path.length:Nat):Int))==0)&&((nd.fillRule)==0))&&((((nd.fill.length:Nat):Int))==0))&&((((nd.stroke.length:Nat):Int))==0))&&(nd.style.eq StyleD.bare))&&((nd.img.eq ImgD.bare)&&((nd.samp)==0))))] fun ac S=>Sx.done<|κ14 _ _<|Vp.rt ?_
  refine Sx.ret1 S Tryz.results118 ?_
  exact⟨ret_bool (by unfold NodeD.bare; rw[hc13]; rfl),S.E⟩
 ·refine Sx.seqP fun _ κ15=>Sx.run S 2 [] [(68,.bool ((nd.kind)==2))] fun ac S=>Sx.done (κ15 _ _ ?_)
  refine Sx.cond S (fun hc16=>?_) (fun hc16=>?_)
  ·refine Sx.seqP fun _ κ17=>Sx.run S 5 [] [(2,.bool (((((((nd.opacity.toNat:Int))==0)&&((nd.blend)==0))&&(!nd.isolated))&&(!nd.knockout))&&((nd.img.eq ImgD.bare)&&((nd.samp)==0))))] fun ac S=>Sx.done<|κ17 _ _<|Vp.rt ?_
   refine Sx.ret1 S Tryz.results118 ?_
   exact⟨ret_bool (by unfold NodeD.bare; rw[hc13,hc16]; rfl),S.E⟩
  ·refine wp_skip<|κ10 _ _<|Sx.seqP fun _ κ18=>Sx.run S 5 [] [(2,.bool (((((((nd.opacity.toNat:Int))==0)&&((nd.blend)==0))&&(!nd.isolated))&&(!nd.knockout))&&((((((((nd.path.length:Nat):Int))==0)&&((nd.fillRule)==0))&&((((nd.fill.length:Nat):Int))==0))&&((((nd.stroke.length:Nat):Int))==0))&&(nd.style.eq StyleD.bare))))] fun ac S=>Sx.done<|κ18 _ _<|Vp.rt ?_
   refine Sx.ret1 S Tryz.results118 ?_
   exact⟨ret_bool (by unfold NodeD.bare; rw[hc13,hc16]; rfl),S.E⟩
end Go.Proofs.YtfmkkemfhjkajaaGreatDoor
namespace Go.Proofs.YtfmkkemfhjkajaaGreatDoor
open Go.RowKit
variable{α:Type}{K:Nat}
set_option linter.unusedVariables false
def NodeD.commonL(nd:NodeD):List (Bool×Int):=[((decide (nd.kind<1))||(decide (3<nd.kind)),2),((((decide (nd.id<1))||(decide (1073741824<nd.id)))||(decide (nd.depth<0)))||(decide (8≤nd.depth)),6),(!(nd.t.q.valid),5),((qeq nd.t.q.det q0),9),(!(pathOk nd.clip),10),((!((((((nd.clip.length:Nat):Int))==0)&&((nd.clipRule)==0))||((decide (0<((nd.clip.length:Nat):Int)))&&((nd.clipRule==1)||(nd.clipRule==2)))))||(!(nd.bare)),17)]
def NodeD.commonE(nd:NodeD):Value:=firstE nd.commonL
theorem common_any{w:World}{nd:NodeD}(h:NodeOk K w nd) :
  Calls Tryz.prog 87 #[nd.v] w fun e w'=>e = .returned nd.commonE∧Ext w w':=by
 obtain⟨a1,c1,ecs⟩:=h.1.2.2.2.2.1.1.shape
 obtain⟨a2,c2,eps⟩:=h.1.2.2.2.2.2.2.2.1.1.shape
 obtain⟨a3,c3,efs⟩:=h.1.2.2.2.2.2.2.2.2.2.1.1.shape
 obtain⟨a4,c4,ess⟩:=h.1.2.2.2.2.2.2.2.2.2.2.2.1.1.shape
 refine Sx.enter Tryz.func87 Tryz.ntmps87 fun ac S=>Sx.seqP fun _ κ1=>Sx.newp S 1 nd.cells fun ac u b2 E3 hb4 S=>Sx.run S 1 [] [(2,.nilIface)] fun ac S=>Sx.done<|κ1 _ _<|Sx.seqP fun _ κ5=>Sx.runC S 21 [.mem 0 27,.mem 0 28,.mem 0 27,.mem 0 28] [(_,_,((!(((((nd.clip.length:Nat):Int))==0)&&((nd.clipRule)==0)))&&(decide (0<((nd.clip.length:Nat):Int)))),.bool ((nd.clipRule==1)||(nd.clipRule==2)))] [(3,.bool ((((((nd.clip.length:Nat):Int))==0)&&((nd.clipRule)==0))||((decide (0<((nd.clip.length:Nat):Int)))&&((nd.clipRule==1)||(nd.clipRule==2)))))] ⟨fun u hC g=>Sx.same (rule_any nd.clipRule _),trivial⟩ fun ac u E6 S=>Sx.done<|κ5 _ _<|wp_seq_k fun _ κ7=>Sx.draw S 50 [.mem 0 1,.mem 0 1,.mem 0 0,.mem 0 0,.mem 0 2,.mem 0 2,.mem 0 3,.mem 0 3,.mem 0 27,.mem 0 0] [(_,_,true,whenE ((decide (nd.kind<1))||(decide (3<nd.kind))) 2),(_,_,true,whenE ((((decide (nd.id<1))||(decide (1073741824<nd.id)))||(decide (nd.depth<0)))||(decide (8≤nd.depth))) 6),(_,_,true,.bool (nd.t.q.valid)),(_,_,true,whenE (!(nd.t.q.valid)) 5),(_,_,true,.bool (qeq nd.t.q.det q0)),(_,_,true,whenE (qeq nd.t.q.det q0) 9),(_,_,true,.bool (pathOk nd.clip)),(_,_,true,whenE (!(pathOk nd.clip)) 10),(_,_,(!(!((((((nd.clip.length:Nat):Int))==0)&&((nd.clipRule)==0))||((decide (0<((nd.clip.length:Nat):Int)))&&((nd.clipRule==1)||(nd.clipRule==2)))))),.bool (nd.bare)),(_,_,true,whenE ((!((((((nd.clip.length:Nat):Int))==0)&&((nd.clipRule)==0))||((decide (0<((nd.clip.length:Nat):Int)))&&((nd.clipRule==1)||(nd.clipRule==2)))))||(!(nd.bare))) 17)] [(32,whenE ((decide (nd.kind<1))||(decide (3<nd.kind))) 2),(51,whenE ((((decide (nd.id<1))||(decide (1073741824<nd.id)))||(decide (nd.depth<0)))||(decide (8≤nd.depth))) 6),(56,whenE (!(nd.t.q.valid)) 5),(60,whenE (qeq nd.t.q.det q0) 9),(65,whenE (!(pathOk nd.clip)) 10),(73,whenE ((!((((((nd.clip.length:Nat):Int))==0)&&((nd.clipRule)==0))||((decide (0<((nd.clip.length:Nat):Int)))&&((nd.clipRule==1)||(nd.clipRule==2)))))||(!(nd.bare))) 17)] ⟨fun u hC g=>Sx.same (when_any ((decide (nd.kind<1))||(decide (3<nd.kind))) 2 _),fun u hC g=>Sx.same (when_any ((((decide (nd.id<1))||(decide (1073741824<nd.id)))||(decide (nd.depth<0)))||(decide (8≤nd.depth))) 6 _),fun u hC g=>affValid_q nd.t.v nd.t.q K _ ((AffD.toQ h.1.2.2.2.1 h.2.1).belowQ (Ext.trans' S.E hC)) h.2.2.2.2.1 (by have:=h.2.2.2.2.2; omega),fun u hC g=>Sx.same (when_any (!(nd.t.q.valid)) 5 _),fun u hC g=>zero_any (t:=nd.t) (h.1.2.2.2.1.below (Ext.trans' S.E hC)) h.2.1 h.2.2.2.2.1 h.2.2.2.2.2,fun u hC g=>Sx.same (when_any (qeq nd.t.q.det q0) 9 _),fun u hC g=>pathValid_any (h.1.2.2.2.2.1.below (Ext.trans' S.E hC)),fun u hC g=>Sx.same (when_any (!(pathOk nd.clip)) 10 _),fun u hC g=>bare_any (h.below (Ext.trans' S.E hC)),fun u hC g=>Sx.same (when_any ((!((((((nd.clip.length:Nat):Int))==0)&&((nd.clipRule)==0))||((decide (0<((nd.clip.length:Nat):Int)))&&((nd.clipRule==1)||(nd.clipRule==2)))))||(!(nd.bare))) 17 _),trivial⟩ (fun ac u E8 S=>?_)
 refine newErrs6 S 74 (whenE ((decide (nd.kind<1))||(decide (3<nd.kind))) 2) (whenE ((((decide (nd.id<1))||(decide (1073741824<nd.id)))||(decide (nd.depth<0)))||(decide (8≤nd.depth))) 6) (whenE (!(nd.t.q.valid)) 5) (whenE (qeq nd.t.q.det q0) 9) (whenE (!(pathOk nd.clip)) 10) (whenE ((!((((((nd.clip.length:Nat):Int))==0)&&((nd.clipRule)==0))||((decide (0<((nd.clip.length:Nat):Int)))&&((nd.clipRule==1)||(nd.clipRule==2)))))||(!(nd.bare))) 17) rfl rfl rfl rfl (whenE_cells _ _) (whenE_cells _ _) (whenE_cells _ _) (whenE_cells _ _) (whenE_cells _ _) (whenE_cells _ _) (fun ac u b9 E10 hb11 S=>?_)
 refine Sx.callv S 75 (first_any (Sx.rowN_bx (f:=fun p:Bool×Int=>whenE p.1 p.2) [((decide (nd.kind<1))||(decide (3<nd.kind)),2),((((decide (nd.id<1))||(decide (1073741824<nd.id)))||(decide (nd.depth<0)))||(decide (8≤nd.depth)),6),(!(nd.t.q.valid),5),((qeq nd.t.q.det q0),9),(!(pathOk nd.clip),10),((!((((((nd.clip.length:Nat):Int))==0)&&((nd.clipRule)==0))||((decide (0<((nd.clip.length:Nat):Int)))&&((nd.clipRule==1)||(nd.clipRule==2)))))||(!(nd.bare)),17)] (S.bx 0) (by show 6≤9223372036854775807; decide))) fun ac u E12 S=>Sx.run S 1 [] [(2,(firstE [((decide (nd.kind<1))||(decide (3<nd.kind)),2),((((decide (nd.id<1))||(decide (1073741824<nd.id)))||(decide (nd.depth<0)))||(decide (8≤nd.depth)),6),(!(nd.t.q.valid),5),((qeq nd.t.q.det q0),9),(!(pathOk nd.clip),10),((!((((((nd.clip.length:Nat):Int))==0)&&((nd.clipRule)==0))||((decide (0<((nd.clip.length:Nat):Int)))&&((nd.clipRule==1)||(nd.clipRule==2)))))||(!(nd.bare)),17)]))] fun ac S=>Sx.done<|κ7 _ _<|Vp.rt ?_
 refine Sx.ret1 S Tryz.results87 ?_
 exact⟨congrArg Ending.returned (by unfold NodeD.commonE NodeD.commonL; rfl),S.E⟩
end Go.Proofs.YtfmkkemfhjkajaaGreatDoor
namespace Go.Proofs.YtfmkkemfhjkajaaGreatDoor
open Go.RowKit
variable{α:Type}{K:Nat}
set_option linter.unusedVariables false
def NodeD.shapeL(nd:NodeD):List (Bool×Int):=[(!(pathOk nd.path),10),(!((nd.fillRule==1)||(nd.fillRule==2)),2),((decide (1<((nd.fill.length:Nat):Int)))||(decide (1<((nd.stroke.length:Nat):Int))),5),((decide (0<((nd.stroke.length:Nat):Int)))&&(!(nd.style.valid)),13),((!(decide (0<((nd.stroke.length:Nat):Int))))&&(!(nd.style.eq StyleD.bare)),17),((!(nd.fill.all PaintD.valid))||(!(nd.stroke.all PaintD.valid)),16)]
def NodeD.shapeE(nd:NodeD):Value:=firstE nd.shapeL
theorem shape_any{w:World}{nd:NodeD}(h:NodeOk K w nd) :
  Calls Tryz.prog 120 #[nd.v] w fun e w'=>e = .returned nd.shapeE∧Ext w w':=by
 obtain⟨a1,c1,ecs⟩:=h.1.2.2.2.2.1.1.shape
 obtain⟨a2,c2,eps⟩:=h.1.2.2.2.2.2.2.2.1.1.shape
 obtain⟨a3,c3,efs⟩:=h.1.2.2.2.2.2.2.2.2.2.1.1.shape
 obtain⟨a4,c4,ess⟩:=h.1.2.2.2.2.2.2.2.2.2.2.2.1.1.shape
 refine Sx.enter Tryz.func120 Tryz.ntmps120 fun ac S=>Sx.seqP fun _ κ1=>Sx.newp S 1 nd.cells fun ac u b2 E3 hb4 S=>Sx.run S 1 [] [(2,.nilIface)] fun ac S=>Sx.done<|κ1 _ _<|Sx.seqP fun _ κ5=>Sx.run S 5 [.mem 0 42] [(3,.bool (decide (0<((nd.stroke.length:Nat):Int))))] fun ac S=>Sx.done<|κ5 _ _<|wp_seq_k fun _ κ6=>Sx.draw S 50 [.mem 0 33,.mem 0 34,.mem 0 35,.mem 0 42,.mem 0 36,.mem 0 36,.mem 0 35,.mem 0 42] [(_,_,true,.bool (pathOk nd.path)),(_,_,true,whenE (!(pathOk nd.path)) 10),(_,_,true,.bool ((nd.fillRule==1)||(nd.fillRule==2))),(_,_,true,whenE (!((nd.fillRule==1)||(nd.fillRule==2))) 2),(_,_,true,whenE ((decide (1<((nd.fill.length:Nat):Int)))||(decide (1<((nd.stroke.length:Nat):Int)))) 5),(_,_,(decide (0<((nd.stroke.length:Nat):Int))),.bool (nd.style.valid)),(_,_,true,whenE ((decide (0<((nd.stroke.length:Nat):Int)))&&(!(nd.style.valid))) 13),(_,_,(!(decide (0<((nd.stroke.length:Nat):Int)))),.bool (nd.style.eq StyleD.bare)),(_,_,true,whenE ((!(decide (0<((nd.stroke.length:Nat):Int))))&&(!(nd.style.eq StyleD.bare))) 17),(_,_,true,.bool (nd.fill.all PaintD.valid)),(_,_,(!(!(nd.fill.all PaintD.valid))),.bool (nd.stroke.all PaintD.valid)),(_,_,true,whenE ((!(nd.fill.all PaintD.valid))||(!(nd.stroke.all PaintD.valid))) 16)] [(12,whenE (!(pathOk nd.path)) 10),(17,whenE (!((nd.fillRule==1)||(nd.fillRule==2))) 2),(28,whenE ((decide (1<((nd.fill.length:Nat):Int)))||(decide (1<((nd.stroke.length:Nat):Int)))) 5),(36,whenE ((decide (0<((nd.stroke.length:Nat):Int)))&&(!(nd.style.valid))) 13),(46,whenE ((!(decide (0<((nd.stroke.length:Nat):Int))))&&(!(nd.style.eq StyleD.bare))) 17),(57,whenE ((!(nd.fill.all PaintD.valid))||(!(nd.stroke.all PaintD.valid))) 16)] ⟨fun u hC g=>pathValid_any (h.1.2.2.2.2.2.2.2.1.below (Ext.trans' S.E hC)),fun u hC g=>Sx.same (when_any (!(pathOk nd.path)) 10 _),fun u hC g=>Sx.same (rule_any nd.fillRule _),fun u hC g=>Sx.same (when_any (!((nd.fillRule==1)||(nd.fillRule==2))) 2 _),fun u hC g=>Sx.same (when_any ((decide (1<((nd.fill.length:Nat):Int)))||(decide (1<((nd.stroke.length:Nat):Int)))) 5 _),fun u hC g=>style_any (p:=nd.style) (h.1.2.2.2.2.2.2.2.2.2.2.1.below (Ext.trans' S.E hC)),fun u hC g=>Sx.same (when_any ((decide (0<((nd.stroke.length:Nat):Int)))&&(!(nd.style.valid))) 13 _),fun u hC g=>samePen_any (p:=nd.style) (q:=StyleD.bare) (h.1.2.2.2.2.2.2.2.2.2.2.1.below (Ext.trans' S.E hC)) (StyleD.bare_ok _),fun u hC g=>Sx.same (when_any ((!(decide (0<((nd.stroke.length:Nat):Int))))&&(!(nd.style.eq StyleD.bare))) 17 _),fun u hC g=>may_any (K:=K) (PaintsOk.below ⟨h.1.2.2.2.2.2.2.2.2.2.1,h.2.2.1,h.2.2.2.2.1,h.2.2.2.2.2⟩ (Ext.trans' S.E hC)),fun u hC g=>may_any (K:=K) (PaintsOk.below ⟨h.1.2.2.2.2.2.2.2.2.2.2.2.1,h.2.2.2.1,h.2.2.2.2.1,h.2.2.2.2.2⟩ (Ext.trans' S.E hC)),fun u hC g=>Sx.same (when_any ((!(nd.fill.all PaintD.valid))||(!(nd.stroke.all PaintD.valid))) 16 _),trivial⟩ (fun ac u E7 S=>?_)
 refine newErrs6 S 58 (whenE (!(pathOk nd.path)) 10) (whenE (!((nd.fillRule==1)||(nd.fillRule==2))) 2) (whenE ((decide (1<((nd.fill.length:Nat):Int)))||(decide (1<((nd.stroke.length:Nat):Int)))) 5) (whenE ((decide (0<((nd.stroke.length:Nat):Int)))&&(!(nd.style.valid))) 13) (whenE ((!(decide (0<((nd.stroke.length:Nat):Int))))&&(!(nd.style.eq StyleD.bare))) 17) (whenE ((!(nd.fill.all PaintD.valid))||(!(nd.stroke.all PaintD.valid))) 16) rfl rfl rfl rfl (whenE_cells _ _) (whenE_cells _ _) (whenE_cells _ _) (whenE_cells _ _) (whenE_cells _ _) (whenE_cells _ _) (fun ac u b8 E9 hb10 S=>?_)
 refine Sx.callv S 59 (first_any (Sx.rowN_bx (f:=fun p:Bool×Int=>whenE p.1 p.2) [(!(pathOk nd.path),10),(!((nd.fillRule==1)||(nd.fillRule==2)),2),((decide (1<((nd.fill.length:Nat):Int)))||(decide (1<((nd.stroke.length:Nat):Int))),5),((decide (0<((nd.stroke.length:Nat):Int)))&&(!(nd.style.valid)),13),((!(decide (0<((nd.stroke.length:Nat):Int))))&&(!(nd.style.eq StyleD.bare)),17),((!(nd.fill.all PaintD.valid))||(!(nd.stroke.all PaintD.valid)),16)] (S.bx 0) (by show 6≤9223372036854775807; decide))) fun ac u E11 S=>Sx.run S 1 [] [(2,(firstE [(!(pathOk nd.path),10),(!((nd.fillRule==1)||(nd.fillRule==2)),2),((decide (1<((nd.fill.length:Nat):Int)))||(decide (1<((nd.stroke.length:Nat):Int))),5),((decide (0<((nd.stroke.length:Nat):Int)))&&(!(nd.style.valid)),13),((!(decide (0<((nd.stroke.length:Nat):Int))))&&(!(nd.style.eq StyleD.bare)),17),((!(nd.fill.all PaintD.valid))||(!(nd.stroke.all PaintD.valid)),16)]))] fun ac S=>Sx.done<|κ6 _ _<|Vp.rt ?_
 refine Sx.ret1 S Tryz.results120 ?_
 exact⟨congrArg Ending.returned (by unfold NodeD.shapeE NodeD.shapeL; rfl),S.E⟩
end Go.Proofs.YtfmkkemfhjkajaaGreatDoor
namespace Go.Proofs.YtfmkkemfhjkajaaGreatDoor
open Go.RowKit
variable{α:Type}{K:Nat}
set_option linter.unusedVariables false
def NodeD.ownE(nd:NodeD):Value:=cond ((nd.kind)==1) (whenE (!(decide (1≤nd.blend)&&decide (nd.blend≤13))) 2) (cond ((nd.kind)==2) (nd.shapeE) ((firstE [(!(nd.img.valid),16),(((nd.samp) != 1)&&((nd.samp) != 2),2)])))
theorem nodeOwn_any{w:World}{nd:NodeD}(h:NodeOk K w nd) :
  Calls Tryz.prog 88 #[nd.v] w fun e w'=>e = .returned nd.ownE∧Ext w w':=by
 obtain⟨a1,c1,ecs⟩:=h.1.2.2.2.2.1.1.shape
 obtain⟨a2,c2,eps⟩:=h.1.2.2.2.2.2.2.2.1.1.shape
 obtain⟨a3,c3,efs⟩:=h.1.2.2.2.2.2.2.2.2.2.1.1.shape
 obtain⟨a4,c4,ess⟩:=h.1.2.2.2.2.2.2.2.2.2.2.2.1.1.shape
 refine Sx.enter Tryz.func88 Tryz.ntmps88 fun ac S=>Sx.seqP fun _ κ1=>Sx.newp S 1 nd.cells fun ac u b2 E3 hb4 S=>Sx.run S 1 [] [(2,.nilIface)] fun ac S=>Sx.done<|κ1 _ _<|wp_seq_k fun _ κ5=>Sx.seqP fun _ κ6=>Sx.run S 2 [.mem 0 1] [(4,.int .i64 nd.kind)] fun ac S=>Sx.done<|κ6 _ _<|wp_block<|Sx.seqP fun _ κ7=>Sx.run S 2 [] [(5,.bool ((nd.kind)==1))] fun ac S=>Sx.done (κ7 _ _ ?_)
 refine Sx.cond S (fun hc8=>?_) (fun hc8=>?_)
 ·refine Sx.seqP fun _ κ9=>Sx.run S 2 [.mem 0 30] [(8,.int .i64 nd.blend)] fun ac S=>Sx.calls S 9 (mode_any nd.blend _) fun ac S=>Sx.run S 1 [] [(10,.bool (!(decide (1≤nd.blend)&&decide (nd.blend≤13))))] fun ac S=>Sx.calls S 11 (when_any (!(decide (1≤nd.blend)&&decide (nd.blend≤13))) 2 _) fun ac S=>Sx.run S 1 [] [(2,whenE (!(decide (1≤nd.blend)&&decide (nd.blend≤13))) 2)] fun ac S=>Sx.done<|κ9 _ _<|Vp.rt ?_
  refine Sx.ret1 S Tryz.results88 ?_
  exact⟨congrArg Ending.returned (by unfold NodeD.ownE; rw[hc8]; rfl),S.E⟩
 ·refine Sx.seqP fun _ κ10=>Sx.run S 2 [] [(12,.bool ((nd.kind)==2))] fun ac S=>Sx.done (κ10 _ _ ?_)
  refine Sx.cond S (fun hc11=>?_) (fun hc11=>?_)
  ·refine Sx.seqP fun _ κ12=>Sx.run S 1 [.mem 0 0] [(14,nd.v)] fun ac S=>Sx.callv S 15 (shape_any (h.below S.E)) fun ac u E13 S=>Sx.run S 1 [] [(2,nd.shapeE)] fun ac S=>Sx.done<|κ12 _ _<|Vp.rt ?_
   refine Sx.ret1 S Tryz.results88 ?_
   exact⟨congrArg Ending.returned (by unfold NodeD.ownE; rw[hc8,hc11]; rfl),S.E⟩
  ·refine wp_skip<|κ5 _ _<|wp_seq_k fun _ κ14=>Sx.draw S 14 [.mem 0 43,.mem 0 46,.mem 0 46] [(_,_,true,.bool (nd.img.valid)),(_,_,true,whenE (!(nd.img.valid)) 16),(_,_,true,whenE (((nd.samp) != 1)&&((nd.samp) != 2)) 2)] [(20,whenE (!(nd.img.valid)) 16),(29,whenE (((nd.samp) != 1)&&((nd.samp) != 2)) 2)] ⟨fun u hC g=>imgValid_any (m:=nd.img) (h.1.2.2.2.2.2.2.2.2.2.2.2.2.1.below (Ext.trans' S.E hC)),fun u hC g=>Sx.same (when_any (!(nd.img.valid)) 16 _),fun u hC g=>Sx.same (when_any (((nd.samp) != 1)&&((nd.samp) != 2)) 2 _),trivial⟩ (fun ac u E15 S=>?_)
   refine newErrs2 S 30 (whenE (!(nd.img.valid)) 16) (whenE (((nd.samp) != 1)&&((nd.samp) != 2)) 2) rfl rfl rfl rfl (whenE_cells _ _) (whenE_cells _ _) (fun ac u b16 E17 hb18 S=>?_)
   refine Sx.callv S 31 (first_any (Sx.rowN_bx (f:=fun p:Bool×Int=>whenE p.1 p.2) [(!(nd.img.valid),16),(((nd.samp) != 1)&&((nd.samp) != 2),2)] (S.bx 0) (by show 2≤9223372036854775807; decide))) fun ac u E19 S=>Sx.run S 1 [] [(2,(firstE [(!(nd.img.valid),16),(((nd.samp) != 1)&&((nd.samp) != 2),2)]))] fun ac S=>Sx.done<|κ14 _ _<|Vp.rt ?_
   refine Sx.ret1 S Tryz.results88 ?_
   exact⟨congrArg Ending.returned (by unfold NodeD.ownE; rw[hc8,hc11]; rfl),S.E⟩
end Go.Proofs.YtfmkkemfhjkajaaGreatDoor
