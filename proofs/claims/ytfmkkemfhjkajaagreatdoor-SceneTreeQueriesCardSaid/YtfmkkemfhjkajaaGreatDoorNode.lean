/- Walks of package node: zero, bare. -/
import Derived.Test.YtfmkkemfhjkajaaGreatDoorPaint
set_option linter.unusedVariables false
set_option maxHeartbeats 3200000
set_option maxRecDepth 100000
namespace Go.Proofs.YtfmkkemfhjkajaaGreatDoor
open Go.RowKit
variable{α:Type}{K:Nat}
def fJ(K:Nat)(w:World)(n:aj):Prop:=n.ok w∧n.t.fit K∧(∀p∈n.fill,p.t.fit K)∧(∀p∈n.stroke,p.t.fit K)∧1≤K∧K≤10000
theorem fJ.below{w w':World}{n:aj}(h:fJ K w n)(hb:Ext w w'):fJ K w' n:=⟨h.1.below hb,h.2⟩
def aZ.bare:aZ:=⟨0,0,0,0,none,0,[],0⟩
theorem aZ.jH(w:World):aZ.bare.ok w:=⟨gX,gX,gX,gX,⟨none,0,rfl,Nat.zero_le _,.inl ⟨rfl,fun _=>rfl⟩⟩,fun x hx=>by simp[aZ.bare]at hx,gX⟩
theorem QS:Hw q0:=bM.zC▸cO.nrm (bM.toQ (w:=default) (bM.gK _) (bM.iI 1))
theorem QT:qlen 1 q0:=bM.zC▸cO.len (bM.toQ (w:=default) (bM.gK _) (bM.iI 1)) (Nat.le_refl 1)
theorem YS{w:World}{t:aV}(h:t.ok w)(hf:t.fit K)(hK1:1≤K)(hK:K≤10000) :
  Calls Tryz.prog 116 #[t.v] w fun e w'=>e = .returned (.bool (oC t.q.vU q0))∧Ext w w':=by
 skip
 refine aiK Tryz.func116 Tryz.ntmps116 fun ac S=>aiG fun _ aU=>aiJ S 1 t.cells fun ac u b2 E3 hb4 S=>adr S 1 [] [(2,.bool false)] fun ac S=>aiF<|aU _ _<|aiG fun _ bV=>adr S 1 [.mem 0 0] [(3,t.v)] fun ac S=>aiQ S (some 4) (SK t.v t.q K _ ((aV.toQ h hf).eU S.E) hK1 hK) ?_
 rintro e u ⟨x,rfl,hd,E6⟩
 refine⟨_,rfl,E6,fun ac S=>?_⟩
 refine aiQ S (some 5) (iq 0 _ (by omega) (by omega)) ?_
 rintro e u ⟨y,rfl,hy,E7⟩
 refine⟨_,rfl,E7,fun ac S=>?_⟩
 refine aiM S 6 (lN _ _ t.q.vU q0 (K+K+(K+K)+1) 1 _ (aA.toQ (hd.ext E7) (xQ _) (xR hK1 (VO.VP ((aV.toQ h hf).eU (Below.refl _ _)) hK1))) (aA.toQ (q:=q0) hy QS QT) (by omega) (by omega) (by omega) (by omega)) fun ac u E8 S=>adr S 2 [] [(2,.bool (((kJ t.q.vU q0))==0))] fun ac S=>aiF<|bV _ _<|Vp.rt ?_
 refine aiH S Tryz.results116 ?_
 exact⟨rfl,S.E⟩
def aj.bare(nd:aj):Bool:=cond ((nd.kind)==1) (((((((((nd.path.length:Nat):Int))==0)&&((nd.aY)==0))&&((((nd.fill.length:Nat):Int))==0))&&((((nd.stroke.length:Nat):Int))==0))&&(nd.style.eq aZ.bare))&&((nd.img.eq bU.bare)&&((nd.cZ)==0))) (cond ((nd.kind)==2) (((((((nd.eY.toNat:Int))==0)&&((nd.blend)==0))&&(!nd.isolated))&&(!nd.dN))&&((nd.img.eq bU.bare)&&((nd.cZ)==0))) (((((((nd.eY.toNat:Int))==0)&&((nd.blend)==0))&&(!nd.isolated))&&(!nd.dN))&&((((((((nd.path.length:Nat):Int))==0)&&((nd.aY)==0))&&((((nd.fill.length:Nat):Int))==0))&&((((nd.stroke.length:Nat):Int))==0))&&(nd.style.eq aZ.bare))))
theorem YT{w:World}{nd:aj}(h:fJ K w nd) :
  Calls Tryz.prog 118 #[nd.v] w fun e w'=>e = .returned (.bool nd.bare)∧Ext w w':=by
 obtain⟨a1,c1,ecs⟩:=h.1.2.2.2.2.1.1.shape
 obtain⟨a2,c2,eps⟩:=h.1.2.2.2.2.2.2.2.1.1.shape
 obtain⟨a3,c3,efs⟩:=h.1.2.2.2.2.2.2.2.2.2.1.1.shape
 obtain⟨a4,c4,ess⟩:=h.1.2.2.2.2.2.2.2.2.2.2.2.1.1.shape
 refine aiK Tryz.func118 Tryz.ntmps118 fun ac S=>aiG fun _ aU=>aiJ S 1 nd.cells fun ac u b2 E3 hb4 S=>adr S 1 [] [(2,.bool false)] fun ac S=>aiF<|aU _ _<|aiG fun _ bV=>adr S 19 [.mem 0 29,.mem 0 30,.mem 0 31,.mem 0 32] [(3,.bool ((((((nd.eY.toNat:Int))==0)&&((nd.blend)==0))&&(!nd.isolated))&&(!nd.dN)))] fun ac S=>aiF<|bV _ _<|aiG fun _ iK=>aiT S 28 [.mem 0 33,.mem 0 34,.mem 0 35,.mem 0 42,.mem 0 36] [(_,_,(((((((nd.path.length:Nat):Int))==0)&&((nd.aY)==0))&&((((nd.fill.length:Nat):Int))==0))&&((((nd.stroke.length:Nat):Int))==0)),.bool (nd.style.eq aZ.bare))] [(4,.bool ((((((((nd.path.length:Nat):Int))==0)&&((nd.aY)==0))&&((((nd.fill.length:Nat):Int))==0))&&((((nd.stroke.length:Nat):Int))==0))&&(nd.style.eq aZ.bare)))] ⟨fun u hC g=>wI (p:=nd.style) (q:=aZ.bare) (h.1.2.2.2.2.2.2.2.2.2.2.1.below (Ext.trans' S.E hC)) (aZ.jH _),trivial⟩ fun ac u E7 S=>aiF<|iK _ _<|aiG fun _ dP=>adr S 3 [.mem 0 43] [(52,nd.img.v),(53,.agg #[.int .i64 0,.int .i64 0,.slice none 0 0])] fun ac S=>aiM S 54 (vF (m:=nd.img) (n:=bU.bare) (h.1.2.2.2.2.2.2.2.2.2.2.2.2.1.below S.E) (bU.jH _)) fun ac u E9 S=>adr S 6 [.mem 0 46] [(5,.bool ((nd.img.eq bU.bare)&&((nd.cZ)==0)))] fun ac S=>aiF<|dP _ _<|wp_seq_k fun _ dV=>aiG fun _ dB=>adr S 2 [.mem 0 1] [(61,.int .i64 nd.kind)] fun ac S=>aiF<|dB _ _<|wp_block<|aiG fun _ dw=>adr S 2 [] [(62,.bool ((nd.kind)==1))] fun ac S=>aiF (dw _ _ ?_)
 refine aiI S (fun hc13=>?_) (fun hc13=>?_)
 ·refine aiG fun _ fU=>adr S 5 [] [(2,.bool (((((((((nd.path.length:Nat):Int))==0)&&((nd.aY)==0))&&((((nd.fill.length:Nat):Int))==0))&&((((nd.stroke.length:Nat):Int))==0))&&(nd.style.eq aZ.bare))&&((nd.img.eq bU.bare)&&((nd.cZ)==0))))] fun ac S=>aiF<|fU _ _<|Vp.rt ?_
  refine aiH S Tryz.results118 ?_
  exact⟨aB (by unfold aj.bare; rw[hc13]; rfl),S.E⟩
 ·refine aiG fun _ fH=>adr S 2 [] [(68,.bool ((nd.kind)==2))] fun ac S=>aiF (fH _ _ ?_)
  refine aiI S (fun hc16=>?_) (fun hc16=>?_)
  ·refine aiG fun _ ig=>adr S 5 [] [(2,.bool (((((((nd.eY.toNat:Int))==0)&&((nd.blend)==0))&&(!nd.isolated))&&(!nd.dN))&&((nd.img.eq bU.bare)&&((nd.cZ)==0))))] fun ac S=>aiF<|ig _ _<|Vp.rt ?_
   refine aiH S Tryz.results118 ?_
   exact⟨aB (by unfold aj.bare; rw[hc13,hc16]; rfl),S.E⟩
  ·refine wp_skip<|dV _ _<|aiG fun _ je=>adr S 5 [] [(2,.bool (((((((nd.eY.toNat:Int))==0)&&((nd.blend)==0))&&(!nd.isolated))&&(!nd.dN))&&((((((((nd.path.length:Nat):Int))==0)&&((nd.aY)==0))&&((((nd.fill.length:Nat):Int))==0))&&((((nd.stroke.length:Nat):Int))==0))&&(nd.style.eq aZ.bare))))] fun ac S=>aiF<|je _ _<|Vp.rt ?_
   refine aiH S Tryz.results118 ?_
   exact⟨aB (by unfold aj.bare; rw[hc13,hc16]; rfl),S.E⟩
open Go.RowKit
variable{α:Type}{K:Nat}
def aj.gJ(nd:aj):List (Bool×Int):=[((decide (nd.kind<1))||(decide (3<nd.kind)),2),((((decide (nd.id<1))||(decide (1073741824<nd.id)))||(decide (nd.depth<0)))||(decide (8≤nd.depth)),6),(!(nd.t.q.valid),5),((oC nd.t.q.vU q0),9),(!(iW nd.clip),10),((!((((((nd.clip.length:Nat):Int))==0)&&((nd.aO)==0))||((decide (0<((nd.clip.length:Nat):Int)))&&((nd.aO==1)||(nd.aO==2)))))||(!(nd.bare)),17)]
def aj.zX(nd:aj):Value:=jU nd.gJ
theorem PV{w:World}{nd:aj}(h:fJ K w nd) :
  Calls Tryz.prog 87 #[nd.v] w fun e w'=>e = .returned nd.zX∧Ext w w':=by
 obtain⟨a1,c1,ecs⟩:=h.1.2.2.2.2.1.1.shape
 obtain⟨a2,c2,eps⟩:=h.1.2.2.2.2.2.2.2.1.1.shape
 obtain⟨a3,c3,efs⟩:=h.1.2.2.2.2.2.2.2.2.2.1.1.shape
 obtain⟨a4,c4,ess⟩:=h.1.2.2.2.2.2.2.2.2.2.2.2.1.1.shape
 refine aiK Tryz.func87 Tryz.ntmps87 fun ac S=>aiG fun _ aU=>aiJ S 1 nd.cells fun ac u b2 E3 hb4 S=>adr S 1 [] [(2,.nilIface)] fun ac S=>aiF<|aU _ _<|aiG fun _ bV=>aiT S 21 [.mem 0 27,.mem 0 28,.mem 0 27,.mem 0 28] [(_,_,((!(((((nd.clip.length:Nat):Int))==0)&&((nd.aO)==0)))&&(decide (0<((nd.clip.length:Nat):Int)))),.bool ((nd.aO==1)||(nd.aO==2)))] [(3,.bool ((((((nd.clip.length:Nat):Int))==0)&&((nd.aO)==0))||((decide (0<((nd.clip.length:Nat):Int)))&&((nd.aO==1)||(nd.aO==2)))))] ⟨fun u hC g=>aiU (Nc nd.aO _),trivial⟩ fun ac u E6 S=>aiF<|bV _ _<|wp_seq_k fun _ kC=>aiO S 50 [.mem 0 1,.mem 0 1,.mem 0 0,.mem 0 0,.mem 0 2,.mem 0 2,.mem 0 3,.mem 0 3,.mem 0 27,.mem 0 0] [(_,_,true,dD ((decide (nd.kind<1))||(decide (3<nd.kind))) 2),(_,_,true,dD ((((decide (nd.id<1))||(decide (1073741824<nd.id)))||(decide (nd.depth<0)))||(decide (8≤nd.depth))) 6),(_,_,true,.bool (nd.t.q.valid)),(_,_,true,dD (!(nd.t.q.valid)) 5),(_,_,true,.bool (oC nd.t.q.vU q0)),(_,_,true,dD (oC nd.t.q.vU q0) 9),(_,_,true,.bool (iW nd.clip)),(_,_,true,dD (!(iW nd.clip)) 10),(_,_,(!(!((((((nd.clip.length:Nat):Int))==0)&&((nd.aO)==0))||((decide (0<((nd.clip.length:Nat):Int)))&&((nd.aO==1)||(nd.aO==2)))))),.bool (nd.bare)),(_,_,true,dD ((!((((((nd.clip.length:Nat):Int))==0)&&((nd.aO)==0))||((decide (0<((nd.clip.length:Nat):Int)))&&((nd.aO==1)||(nd.aO==2)))))||(!(nd.bare))) 17)] [(32,dD ((decide (nd.kind<1))||(decide (3<nd.kind))) 2),(51,dD ((((decide (nd.id<1))||(decide (1073741824<nd.id)))||(decide (nd.depth<0)))||(decide (8≤nd.depth))) 6),(56,dD (!(nd.t.q.valid)) 5),(60,dD (oC nd.t.q.vU q0) 9),(65,dD (!(iW nd.clip)) 10),(73,dD ((!((((((nd.clip.length:Nat):Int))==0)&&((nd.aO)==0))||((decide (0<((nd.clip.length:Nat):Int)))&&((nd.aO==1)||(nd.aO==2)))))||(!(nd.bare))) 17)] ⟨fun u hC g=>aiU (iZ ((decide (nd.kind<1))||(decide (3<nd.kind))) 2 _),fun u hC g=>aiU (iZ ((((decide (nd.id<1))||(decide (1073741824<nd.id)))||(decide (nd.depth<0)))||(decide (8≤nd.depth))) 6 _),fun u hC g=>Eb nd.t.v nd.t.q K _ ((aV.toQ h.1.2.2.2.1 h.2.1).eU (Ext.trans' S.E hC)) h.2.2.2.2.1 (by have:=h.2.2.2.2.2; omega),fun u hC g=>aiU (iZ (!(nd.t.q.valid)) 5 _),fun u hC g=>YS (t:=nd.t) (h.1.2.2.2.1.below (Ext.trans' S.E hC)) h.2.1 h.2.2.2.2.1 h.2.2.2.2.2,fun u hC g=>aiU (iZ (oC nd.t.q.vU q0) 9 _),fun u hC g=>yK (h.1.2.2.2.2.1.below (Ext.trans' S.E hC)),fun u hC g=>aiU (iZ (!(iW nd.clip)) 10 _),fun u hC g=>YT (h.below (Ext.trans' S.E hC)),fun u hC g=>aiU (iZ ((!((((((nd.clip.length:Nat):Int))==0)&&((nd.aO)==0))||((decide (0<((nd.clip.length:Nat):Int)))&&((nd.aO==1)||(nd.aO==2)))))||(!(nd.bare))) 17 _),trivial⟩ (fun ac u E8 S=>?_)
 refine NC S 74 (dD ((decide (nd.kind<1))||(decide (3<nd.kind))) 2) (dD ((((decide (nd.id<1))||(decide (1073741824<nd.id)))||(decide (nd.depth<0)))||(decide (8≤nd.depth))) 6) (dD (!(nd.t.q.valid)) 5) (dD (oC nd.t.q.vU q0) 9) (dD (!(iW nd.clip)) 10) (dD ((!((((((nd.clip.length:Nat):Int))==0)&&((nd.aO)==0))||((decide (0<((nd.clip.length:Nat):Int)))&&((nd.aO==1)||(nd.aO==2)))))||(!(nd.bare))) 17) rfl rfl rfl rfl (fG _ _) (fG _ _) (fG _ _) (fG _ _) (fG _ _) (fG _ _) (fun ac u b9 Bj LJ S=>?_)
 refine aiM S 75 (first_any (Sx.Kq (f:=fun p:Bool×Int=>dD p.1 p.2) [((decide (nd.kind<1))||(decide (3<nd.kind)),2),((((decide (nd.id<1))||(decide (1073741824<nd.id)))||(decide (nd.depth<0)))||(decide (8≤nd.depth)),6),(!(nd.t.q.valid),5),((oC nd.t.q.vU q0),9),(!(iW nd.clip),10),((!((((((nd.clip.length:Nat):Int))==0)&&((nd.aO)==0))||((decide (0<((nd.clip.length:Nat):Int)))&&((nd.aO==1)||(nd.aO==2)))))||(!(nd.bare)),17)] (S.bx 0) (by show 6≤9223372036854775807; decide))) fun ac u H6 S=>adr S 1 [] [(2,(jU [((decide (nd.kind<1))||(decide (3<nd.kind)),2),((((decide (nd.id<1))||(decide (1073741824<nd.id)))||(decide (nd.depth<0)))||(decide (8≤nd.depth)),6),(!(nd.t.q.valid),5),((oC nd.t.q.vU q0),9),(!(iW nd.clip),10),((!((((((nd.clip.length:Nat):Int))==0)&&((nd.aO)==0))||((decide (0<((nd.clip.length:Nat):Int)))&&((nd.aO==1)||(nd.aO==2)))))||(!(nd.bare)),17)]))] fun ac S=>aiF<|kC _ _<|Vp.rt ?_
 refine aiH S Tryz.results87 ?_
 exact⟨congrArg Ending.returned (by unfold aj.zX aj.gJ; rfl),S.E⟩
open Go.RowKit
variable{α:Type}{K:Nat}
def aj.uV(nd:aj):List (Bool×Int):=[(!(iW nd.path),10),(!((nd.aY==1)||(nd.aY==2)),2),((decide (1<((nd.fill.length:Nat):Int)))||(decide (1<((nd.stroke.length:Nat):Int))),5),((decide (0<((nd.stroke.length:Nat):Int)))&&(!(nd.style.valid)),13),((!(decide (0<((nd.stroke.length:Nat):Int))))&&(!(nd.style.eq aZ.bare)),17),((!(nd.fill.all ak.valid))||(!(nd.stroke.all ak.valid)),16)]
def aj.Ej(nd:aj):Value:=jU nd.uV
theorem VQ{w:World}{nd:aj}(h:fJ K w nd) :
  Calls Tryz.prog 120 #[nd.v] w fun e w'=>e = .returned nd.Ej∧Ext w w':=by
 obtain⟨a1,c1,ecs⟩:=h.1.2.2.2.2.1.1.shape
 obtain⟨a2,c2,eps⟩:=h.1.2.2.2.2.2.2.2.1.1.shape
 obtain⟨a3,c3,efs⟩:=h.1.2.2.2.2.2.2.2.2.2.1.1.shape
 obtain⟨a4,c4,ess⟩:=h.1.2.2.2.2.2.2.2.2.2.2.2.1.1.shape
 refine aiK Tryz.func120 Tryz.ntmps120 fun ac S=>aiG fun _ aU=>aiJ S 1 nd.cells fun ac u b2 E3 hb4 S=>adr S 1 [] [(2,.nilIface)] fun ac S=>aiF<|aU _ _<|aiG fun _ bV=>adr S 5 [.mem 0 42] [(3,.bool (decide (0<((nd.stroke.length:Nat):Int))))] fun ac S=>aiF<|bV _ _<|wp_seq_k fun _ iK=>aiO S 50 [.mem 0 33,.mem 0 34,.mem 0 35,.mem 0 42,.mem 0 36,.mem 0 36,.mem 0 35,.mem 0 42] [(_,_,true,.bool (iW nd.path)),(_,_,true,dD (!(iW nd.path)) 10),(_,_,true,.bool ((nd.aY==1)||(nd.aY==2))),(_,_,true,dD (!((nd.aY==1)||(nd.aY==2))) 2),(_,_,true,dD ((decide (1<((nd.fill.length:Nat):Int)))||(decide (1<((nd.stroke.length:Nat):Int)))) 5),(_,_,(decide (0<((nd.stroke.length:Nat):Int))),.bool (nd.style.valid)),(_,_,true,dD ((decide (0<((nd.stroke.length:Nat):Int)))&&(!(nd.style.valid))) 13),(_,_,(!(decide (0<((nd.stroke.length:Nat):Int)))),.bool (nd.style.eq aZ.bare)),(_,_,true,dD ((!(decide (0<((nd.stroke.length:Nat):Int))))&&(!(nd.style.eq aZ.bare))) 17),(_,_,true,.bool (nd.fill.all ak.valid)),(_,_,(!(!(nd.fill.all ak.valid))),.bool (nd.stroke.all ak.valid)),(_,_,true,dD ((!(nd.fill.all ak.valid))||(!(nd.stroke.all ak.valid))) 16)] [(12,dD (!(iW nd.path)) 10),(17,dD (!((nd.aY==1)||(nd.aY==2))) 2),(28,dD ((decide (1<((nd.fill.length:Nat):Int)))||(decide (1<((nd.stroke.length:Nat):Int)))) 5),(36,dD ((decide (0<((nd.stroke.length:Nat):Int)))&&(!(nd.style.valid))) 13),(46,dD ((!(decide (0<((nd.stroke.length:Nat):Int))))&&(!(nd.style.eq aZ.bare))) 17),(57,dD ((!(nd.fill.all ak.valid))||(!(nd.stroke.all ak.valid))) 16)] ⟨fun u hC g=>yK (h.1.2.2.2.2.2.2.2.1.below (Ext.trans' S.E hC)),fun u hC g=>aiU (iZ (!(iW nd.path)) 10 _),fun u hC g=>aiU (Nc nd.aY _),fun u hC g=>aiU (iZ (!((nd.aY==1)||(nd.aY==2))) 2 _),fun u hC g=>aiU (iZ ((decide (1<((nd.fill.length:Nat):Int)))||(decide (1<((nd.stroke.length:Nat):Int)))) 5 _),fun u hC g=>Vw (p:=nd.style) (h.1.2.2.2.2.2.2.2.2.2.2.1.below (Ext.trans' S.E hC)),fun u hC g=>aiU (iZ ((decide (0<((nd.stroke.length:Nat):Int)))&&(!(nd.style.valid))) 13 _),fun u hC g=>wI (p:=nd.style) (q:=aZ.bare) (h.1.2.2.2.2.2.2.2.2.2.2.1.below (Ext.trans' S.E hC)) (aZ.jH _),fun u hC g=>aiU (iZ ((!(decide (0<((nd.stroke.length:Nat):Int))))&&(!(nd.style.eq aZ.bare))) 17 _),fun u hC g=>TL (K:=K) (pV.below ⟨h.1.2.2.2.2.2.2.2.2.2.1,h.2.2.1,h.2.2.2.2.1,h.2.2.2.2.2⟩ (Ext.trans' S.E hC)),fun u hC g=>TL (K:=K) (pV.below ⟨h.1.2.2.2.2.2.2.2.2.2.2.2.1,h.2.2.2.1,h.2.2.2.2.1,h.2.2.2.2.2⟩ (Ext.trans' S.E hC)),fun u hC g=>aiU (iZ ((!(nd.fill.all ak.valid))||(!(nd.stroke.all ak.valid))) 16 _),trivial⟩ (fun ac u E7 S=>?_)
 refine NC S 58 (dD (!(iW nd.path)) 10) (dD (!((nd.aY==1)||(nd.aY==2))) 2) (dD ((decide (1<((nd.fill.length:Nat):Int)))||(decide (1<((nd.stroke.length:Nat):Int)))) 5) (dD ((decide (0<((nd.stroke.length:Nat):Int)))&&(!(nd.style.valid))) 13) (dD ((!(decide (0<((nd.stroke.length:Nat):Int))))&&(!(nd.style.eq aZ.bare))) 17) (dD ((!(nd.fill.all ak.valid))||(!(nd.stroke.all ak.valid))) 16) rfl rfl rfl rfl (fG _ _) (fG _ _) (fG _ _) (fG _ _) (fG _ _) (fG _ _) (fun ac u b8 E9 yC S=>?_)
 refine aiM S 59 (first_any (Sx.Kq (f:=fun p:Bool×Int=>dD p.1 p.2) [(!(iW nd.path),10),(!((nd.aY==1)||(nd.aY==2)),2),((decide (1<((nd.fill.length:Nat):Int)))||(decide (1<((nd.stroke.length:Nat):Int))),5),((decide (0<((nd.stroke.length:Nat):Int)))&&(!(nd.style.valid)),13),((!(decide (0<((nd.stroke.length:Nat):Int))))&&(!(nd.style.eq aZ.bare)),17),((!(nd.fill.all ak.valid))||(!(nd.stroke.all ak.valid)),16)] (S.bx 0) (by show 6≤9223372036854775807; decide))) fun ac u sF S=>adr S 1 [] [(2,(jU [(!(iW nd.path),10),(!((nd.aY==1)||(nd.aY==2)),2),((decide (1<((nd.fill.length:Nat):Int)))||(decide (1<((nd.stroke.length:Nat):Int))),5),((decide (0<((nd.stroke.length:Nat):Int)))&&(!(nd.style.valid)),13),((!(decide (0<((nd.stroke.length:Nat):Int))))&&(!(nd.style.eq aZ.bare)),17),((!(nd.fill.all ak.valid))||(!(nd.stroke.all ak.valid)),16)]))] fun ac S=>aiF<|iK _ _<|Vp.rt ?_
 refine aiH S Tryz.results120 ?_
 exact⟨congrArg Ending.returned (by unfold aj.Ej aj.uV; rfl),S.E⟩
open Go.RowKit
variable{α:Type}{K:Nat}
def aj.JI(nd:aj):Value:=cond ((nd.kind)==1) (dD (!(decide (1≤nd.blend)&&decide (nd.blend≤13))) 2) (cond ((nd.kind)==2) (nd.Ej) ((jU [(!(nd.img.valid),16),(((nd.cZ) != 1)&&((nd.cZ) != 2),2)])))
theorem LV{w:World}{nd:aj}(h:fJ K w nd) :
  Calls Tryz.prog 88 #[nd.v] w fun e w'=>e = .returned nd.JI∧Ext w w':=by
 obtain⟨a1,c1,ecs⟩:=h.1.2.2.2.2.1.1.shape
 obtain⟨a2,c2,eps⟩:=h.1.2.2.2.2.2.2.2.1.1.shape
 obtain⟨a3,c3,efs⟩:=h.1.2.2.2.2.2.2.2.2.2.1.1.shape
 obtain⟨a4,c4,ess⟩:=h.1.2.2.2.2.2.2.2.2.2.2.2.1.1.shape
 refine aiK Tryz.func88 Tryz.ntmps88 fun ac S=>aiG fun _ aU=>aiJ S 1 nd.cells fun ac u b2 E3 hb4 S=>adr S 1 [] [(2,.nilIface)] fun ac S=>aiF<|aU _ _<|wp_seq_k fun _ bV=>aiG fun _ iK=>adr S 2 [.mem 0 1] [(4,.int .i64 nd.kind)] fun ac S=>aiF<|iK _ _<|wp_block<|aiG fun _ kC=>adr S 2 [] [(5,.bool ((nd.kind)==1))] fun ac S=>aiF (kC _ _ ?_)
 refine aiI S (fun hc8=>?_) (fun hc8=>?_)
 ·refine aiG fun _ gB=>adr S 2 [.mem 0 30] [(8,.int .i64 nd.blend)] fun ac S=>ai1 S 9 (Yz nd.blend _) fun ac S=>adr S 1 [] [(10,.bool (!(decide (1≤nd.blend)&&decide (nd.blend≤13))))] fun ac S=>ai1 S 11 (iZ (!(decide (1≤nd.blend)&&decide (nd.blend≤13))) 2 _) fun ac S=>adr S 1 [] [(2,dD (!(decide (1≤nd.blend)&&decide (nd.blend≤13))) 2)] fun ac S=>aiF<|gB _ _<|Vp.rt ?_
  refine aiH S Tryz.results88 ?_
  exact⟨congrArg Ending.returned (by unfold aj.JI; rw[hc8]; rfl),S.E⟩
 ·refine aiG fun _ dV=>adr S 2 [] [(12,.bool ((nd.kind)==2))] fun ac S=>aiF (dV _ _ ?_)
  refine aiI S (fun gu=>?_) (fun gu=>?_)
  ·refine aiG fun _ dw=>adr S 1 [.mem 0 0] [(14,nd.v)] fun ac S=>aiM S 15 (VQ (h.below S.E)) fun ac u H7 S=>adr S 1 [] [(2,nd.Ej)] fun ac S=>aiF<|dw _ _<|Vp.rt ?_
   refine aiH S Tryz.results88 ?_
   exact⟨congrArg Ending.returned (by unfold aj.JI; rw[hc8,gu]; rfl),S.E⟩
  ·refine wp_skip<|bV _ _<|wp_seq_k fun _ fU=>aiO S 14 [.mem 0 43,.mem 0 46,.mem 0 46] [(_,_,true,.bool (nd.img.valid)),(_,_,true,dD (!(nd.img.valid)) 16),(_,_,true,dD (((nd.cZ) != 1)&&((nd.cZ) != 2)) 2)] [(20,dD (!(nd.img.valid)) 16),(29,dD (((nd.cZ) != 1)&&((nd.cZ) != 2)) 2)] ⟨fun u hC g=>Aj (m:=nd.img) (h.1.2.2.2.2.2.2.2.2.2.2.2.2.1.below (Ext.trans' S.E hC)),fun u hC g=>aiU (iZ (!(nd.img.valid)) 16 _),fun u hC g=>aiU (iZ (((nd.cZ) != 1)&&((nd.cZ) != 2)) 2 _),trivial⟩ (fun ac u Vb S=>?_)
   refine YU S 30 (dD (!(nd.img.valid)) 16) (dD (((nd.cZ) != 1)&&((nd.cZ) != 2)) 2) rfl rfl rfl rfl (fG _ _) (fG _ _) (fun ac u b16 LZ VR S=>?_)
   refine aiM S 31 (first_any (Sx.Kq (f:=fun p:Bool×Int=>dD p.1 p.2) [(!(nd.img.valid),16),(((nd.cZ) != 1)&&((nd.cZ) != 2),2)] (S.bx 0) (by show 2≤9223372036854775807; decide))) fun ac u Xm S=>adr S 1 [] [(2,(jU [(!(nd.img.valid),16),(((nd.cZ) != 1)&&((nd.cZ) != 2),2)]))] fun ac S=>aiF<|fU _ _<|Vp.rt ?_
   refine aiH S Tryz.results88 ?_
   exact⟨congrArg Ending.returned (by unfold aj.JI; rw[hc8,gu]; rfl),S.E⟩
end Go.Proofs.YtfmkkemfhjkajaaGreatDoor
