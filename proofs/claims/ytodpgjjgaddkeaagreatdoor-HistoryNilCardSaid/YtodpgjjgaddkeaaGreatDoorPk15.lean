/- Walks of package node: zero, bare. errors.As: of nil, and of a node's error. -/
import Derived.Test.YtodpgjjgaddkeaaGreatDoorPk14
import Derived.Stop.Asserts
import Derived.LaidEql
set_option maxHeartbeats 3200000
set_option maxRecDepth 100000
set_option linter.unusedVariables false
set_option linter.unusedSimpArgs false
namespace Go.Proofs.YtodpgjjgaddkeaaGreatDoor
open _root_.Go.Proofs.Tryz
section
open Go.RowKit
variable{α:Type}{K:Nat}
def eu(K:Nat)(w:World)(n:aj):Prop:=n.ok w∧n.t.fit K∧(∀p∈n.fill,p.t.fit K)∧(∀p∈n.stroke,p.t.fit K)∧1≤K∧K≤10000
theorem eu.below{w w':World}{n:aj}(h:eu K w n)(hb:Ext w w'):eu K w' n:=⟨h.1.below hb,h.2⟩
def aS.bare:aS:=⟨0,0,0,0,none,0,[],0⟩
theorem aS.gy(w:World):aS.bare.ok w:=⟨eY,eY,eY,eY,⟨none,0,rfl,azB _,.inl ⟨rfl,fun _=>rfl⟩⟩,fun x hx=>by simp[aS.bare]at hx,eY⟩
theorem ajy:KF q0:=bI.uz▸eH.nrm (bI.toQ (w:=default) (bI.gu _) (bI.iD 1))
theorem ajz:qlen 1 q0:=bI.uz▸eH.len (bI.toQ (w:=default) (bI.gu _) (bI.iD 1)) (azx 1)
theorem adg{w:World}{t:bF}(h:t.ok w)(hf:t.fit K)(hK1:1≤K)(hK:K≤10000) :
  Calls prog 190 #[t.v] w fun e w'=>e = .returned (.bool (pF t.q.DL q0))∧Ext w w':=by
 skip;refine ay3 func190 ntmps190 fun S=>ay2 S fun u b2 E3 hb4 S=>adr S 2 [] [.mem 0 0] fun S=>azk S (X5 t.v t.q K _ ((bF.toQ h hf).iJ S.E) hK1 hK) fun x u hd E6 S=>azk S (wu 0 _ (by omega) (by omega)) fun y u hy E7 S=>azd S (lN _ _ t.q.DL q0 (K+K+(K+K)+1) 1 _ (aA.toQ (hd.ext E7) (Fa _) (Fb hK1 (agk.agl ((bF.toQ h hf).iJ (azS _ _)) hK1))) (aA.toQ (q:=q0) hy ajy ajz) (by omega) (by omega) (by omega) (by omega)) fun u E8 S=>apB S (.bool (((lX t.q.DL q0))==0)) (fun S=>?_);exact⟨rfl,S.E⟩
def aj.bare(nd:aj):Bool:=cond ((nd.kind)==1) ((((((((nd.path.length:Int))==0)&&((nd.aT)==0))&&(((nd.fill.length:Int))==0))&&(((nd.stroke.length:Int))==0))&&(nd.style.eq aS.bare))&&((nd.img.eq dA.bare)&&((nd.cZ)==0))) (cond ((nd.kind)==2) (((((((nd.dQ.toNat:Int))==0)&&((nd.blend)==0))&&(!nd.isolated))&&(!nd.dD))&&((nd.img.eq dA.bare)&&((nd.cZ)==0))) (((((((nd.dQ.toNat:Int))==0)&&((nd.blend)==0))&&(!nd.isolated))&&(!nd.dD))&&(((((((nd.path.length:Int))==0)&&((nd.aT)==0))&&(((nd.fill.length:Int))==0))&&(((nd.stroke.length:Int))==0))&&(nd.style.eq aS.bare))))
theorem adh{w:World}{nd:aj}(h:eu K w nd) :
  Calls prog 192 #[nd.v] w fun e w'=>e = .returned (.bool nd.bare)∧Ext w w':=by
 obtain⟨a1,c1,ecs⟩:=h.1.2.2.2.2.1.1.shape;obtain⟨a2,c2,eps⟩:=h.1.2.2.2.2.2.2.2.1.1.shape;obtain⟨a3,c3,efs⟩:=h.1.2.2.2.2.2.2.2.2.2.1.1.shape;obtain⟨a4,c4,ess⟩:=h.1.2.2.2.2.2.2.2.2.2.2.2.1.1.shape;refine ay3 func192 ntmps192 fun S=>ay2 S fun u b2 E3 hb4 S=>adr S 20 [] [.mem 0 29,.mem 0 30,.mem 0 31,.mem 0 32] fun S=>aAu S 28 [.mem 0 33,.mem 0 34,.mem 0 35,.mem 0 42,.mem 0 36] [(_,_,((((((nd.path.length:Int))==0)&&((nd.aT)==0))&&(((nd.fill.length:Int))==0))&&(((nd.stroke.length:Int))==0)),.bool (nd.style.eq aS.bare))] [(4,.bool (((((((nd.path.length:Int))==0)&&((nd.aT)==0))&&(((nd.fill.length:Int))==0))&&(((nd.stroke.length:Int))==0))&&(nd.style.eq aS.bare)))] ⟨fun u hC g=>vM (p:=nd.style) (q:=aS.bare) (h.1.2.2.2.2.2.2.2.2.2.2.1.below (Ext.trans' S.E hC)) (aS.gy _),trivial⟩ fun u E7 S=>adr S 3 [] [.mem 0 43] fun S=>azd S (ug (m:=nd.img) (n:=dA.bare) (h.1.2.2.2.2.2.2.2.2.2.2.2.2.1.below S.E) (dA.gy _)) fun u E9 S=>adr S 10 [] [.mem 0 46,.mem 0 1] fun S=>ay0 S ((nd.kind)==1) (fun hc13 S=>?_) (fun hc13 S=>?_)
 ·refine apB S (.bool ((((((((nd.path.length:Int))==0)&&((nd.aT)==0))&&(((nd.fill.length:Int))==0))&&(((nd.stroke.length:Int))==0))&&(nd.style.eq aS.bare))&&((nd.img.eq dA.bare)&&((nd.cZ)==0)))) (fun S=>?_);exact⟨aN (by unfold aj.bare; rw[hc13]; rfl),S.E⟩
 refine ay0 S ((nd.kind)==2) (fun hc16 S=>?_) (fun hc16 S=>?_)
 ·refine apB S (.bool (((((((nd.dQ.toNat:Int))==0)&&((nd.blend)==0))&&(!nd.isolated))&&(!nd.dD))&&((nd.img.eq dA.bare)&&((nd.cZ)==0)))) (fun S=>?_);exact⟨aN (by unfold aj.bare; rw[hc13,hc16]; rfl),S.E⟩
 refine apB S (.bool (((((((nd.dQ.toNat:Int))==0)&&((nd.blend)==0))&&(!nd.isolated))&&(!nd.dD))&&(((((((nd.path.length:Int))==0)&&((nd.aT)==0))&&(((nd.fill.length:Int))==0))&&(((nd.stroke.length:Int))==0))&&(nd.style.eq aS.bare)))) (fun S=>?_);exact⟨aN (by unfold aj.bare; rw[hc13,hc16]; rfl),S.E⟩
open Go.RowKit
variable{α:Type}{K:Nat}
def aj.jP(nd:aj):List (Bool×Int):=[((decide (nd.kind<1))||(decide (3<nd.kind)),2),((((decide (nd.id<1))||(decide (1073741824<nd.id)))||(decide (nd.depth<0)))||(decide (8≤nd.depth)),6),(!(nd.t.q.valid),5),((pF nd.t.q.DL q0),9),(!(jO nd.clip),10),((!(((((nd.clip.length:Int))==0)&&((nd.aP)==0))||((decide (0<(nd.clip.length:Int)))&&((nd.aP==1)||(nd.aP==2)))))||(!(nd.bare)),17)]
def aj.xC(nd:aj):Value:=jZ nd.jP
theorem Vl{w:World}{nd:aj}(h:eu K w nd) :
  Calls prog 142 #[nd.v] w fun e w'=>e = .returned nd.xC∧Ext w w':=by
 obtain⟨a1,c1,ecs⟩:=h.1.2.2.2.2.1.1.shape;obtain⟨a2,c2,eps⟩:=h.1.2.2.2.2.2.2.2.1.1.shape;obtain⟨a3,c3,efs⟩:=h.1.2.2.2.2.2.2.2.2.2.1.1.shape;obtain⟨a4,c4,ess⟩:=h.1.2.2.2.2.2.2.2.2.2.2.2.1.1.shape;refine azD func142 ntmps142 fun ac S=>ay1 fun _ ig=>Sx.qG S 1 nd.cells fun ac u b2 E3 hb4 S=>ayY S 1 [] [(2,.nilIface)] fun S=>ayZ<|ig _ _<|ay1 fun _ AX=>Sx.adi S 21 [.mem 0 27,.mem 0 28,.mem 0 27,.mem 0 28] [(_,_,((!((((nd.clip.length:Int))==0)&&((nd.aP)==0)))&&(decide (0<(nd.clip.length:Int)))),.bool ((nd.aP==1)||(nd.aP==2)))] [(3,.bool (((((nd.clip.length:Int))==0)&&((nd.aP)==0))||((decide (0<(nd.clip.length:Int)))&&((nd.aP==1)||(nd.aP==2)))))] ⟨fun u hC g=>azp (Qd nd.aP _),trivial⟩ fun ac u E6 S=>ayZ<|AX _ _<|azL fun _ Vm=>Sx.draw S 50 [.mem 0 1,.mem 0 1,.mem 0 0,.mem 0 0,.mem 0 2,.mem 0 2,.mem 0 3,.mem 0 3,.mem 0 27,.mem 0 0] [(_,_,true,dJ ((decide (nd.kind<1))||(decide (3<nd.kind))) 2),(_,_,true,dJ ((((decide (nd.id<1))||(decide (1073741824<nd.id)))||(decide (nd.depth<0)))||(decide (8≤nd.depth))) 6),(_,_,true,.bool (nd.t.q.valid)),(_,_,true,dJ (!(nd.t.q.valid)) 5),(_,_,true,.bool (pF nd.t.q.DL q0)),(_,_,true,dJ (pF nd.t.q.DL q0) 9),(_,_,true,.bool (jO nd.clip)),(_,_,true,dJ (!(jO nd.clip)) 10),(_,_,(!(!(((((nd.clip.length:Int))==0)&&((nd.aP)==0))||((decide (0<(nd.clip.length:Int)))&&((nd.aP==1)||(nd.aP==2)))))),.bool (nd.bare)),(_,_,true,dJ ((!(((((nd.clip.length:Int))==0)&&((nd.aP)==0))||((decide (0<(nd.clip.length:Int)))&&((nd.aP==1)||(nd.aP==2)))))||(!(nd.bare))) 17)] [(32,dJ ((decide (nd.kind<1))||(decide (3<nd.kind))) 2),(51,dJ ((((decide (nd.id<1))||(decide (1073741824<nd.id)))||(decide (nd.depth<0)))||(decide (8≤nd.depth))) 6),(56,dJ (!(nd.t.q.valid)) 5),(60,dJ (pF nd.t.q.DL q0) 9),(65,dJ (!(jO nd.clip)) 10),(73,dJ ((!(((((nd.clip.length:Int))==0)&&((nd.aP)==0))||((decide (0<(nd.clip.length:Int)))&&((nd.aP==1)||(nd.aP==2)))))||(!(nd.bare))) 17)] ⟨fun u hC g=>azp (iV ((decide (nd.kind<1))||(decide (3<nd.kind))) 2 _),fun u hC g=>azp (iV ((((decide (nd.id<1))||(decide (1073741824<nd.id)))||(decide (nd.depth<0)))||(decide (8≤nd.depth))) 6 _),fun u hC g=>GR nd.t.v nd.t.q K _ ((bF.toQ h.1.2.2.2.1 h.2.1).iJ (Ext.trans' S.E hC)) h.2.2.2.2.1 (by have:=h.2.2.2.2.2; omega),fun u hC g=>azp (iV (!(nd.t.q.valid)) 5 _),fun u hC g=>adg (t:=nd.t) (h.1.2.2.2.1.below (Ext.trans' S.E hC)) h.2.1 h.2.2.2.2.1 h.2.2.2.2.2,fun u hC g=>azp (iV (pF nd.t.q.DL q0) 9 _),fun u hC g=>yF (h.1.2.2.2.2.1.below (Ext.trans' S.E hC)),fun u hC g=>azp (iV (!(jO nd.clip)) 10 _),fun u hC g=>adh (h.below (Ext.trans' S.E hC)),fun u hC g=>azp (iV ((!(((((nd.clip.length:Int))==0)&&((nd.aP)==0))||((decide (0<(nd.clip.length:Int)))&&((nd.aP==1)||(nd.aP==2)))))||(!(nd.bare))) 17 _),trivial⟩ (fun ac u E8 S=>?_);refine QS S 74 (dJ ((decide (nd.kind<1))||(decide (3<nd.kind))) 2) (dJ ((((decide (nd.id<1))||(decide (1073741824<nd.id)))||(decide (nd.depth<0)))||(decide (8≤nd.depth))) 6) (dJ (!(nd.t.q.valid)) 5) (dJ (pF nd.t.q.DL q0) 9) (dJ (!(jO nd.clip)) 10) (dJ ((!(((((nd.clip.length:Int))==0)&&((nd.aP)==0))||((decide (0<(nd.clip.length:Int)))&&((nd.aP==1)||(nd.aP==2)))))||(!(nd.bare))) 17) rfl rfl rfl rfl (fH _ _) (fH _ _) (fH _ _) (fH _ _) (fH _ _) (fH _ _) (fun ac u b9 Um acV S=>?_);refine Sx.AY S 75 (first_any (Sx.kY (f:=fun p:Bool×Int=>dJ p.1 p.2) [((decide (nd.kind<1))||(decide (3<nd.kind)),2),((((decide (nd.id<1))||(decide (1073741824<nd.id)))||(decide (nd.depth<0)))||(decide (8≤nd.depth)),6),(!(nd.t.q.valid),5),((pF nd.t.q.DL q0),9),(!(jO nd.clip),10),((!(((((nd.clip.length:Int))==0)&&((nd.aP)==0))||((decide (0<(nd.clip.length:Int)))&&((nd.aP==1)||(nd.aP==2)))))||(!(nd.bare)),17)] (S.bx 0) (by show 6≤9223372036854775807; decide))) fun ac u qE S=>ayY S 1 [] [(2,(jZ [((decide (nd.kind<1))||(decide (3<nd.kind)),2),((((decide (nd.id<1))||(decide (1073741824<nd.id)))||(decide (nd.depth<0)))||(decide (8≤nd.depth)),6),(!(nd.t.q.valid),5),((pF nd.t.q.DL q0),9),(!(jO nd.clip),10),((!(((((nd.clip.length:Int))==0)&&((nd.aP)==0))||((decide (0<(nd.clip.length:Int)))&&((nd.aP==1)||(nd.aP==2)))))||(!(nd.bare)),17)]))] fun S=>ayZ<|Vm _ _<|Sx.Uu S results142 ?_;exact⟨azH Ending.returned (by unfold aj.xC aj.jP; rfl),S.E⟩
open Go.RowKit
variable{α:Type}{K:Nat}
def aj.rQ(nd:aj):List (Bool×Int):=[(!(jO nd.path),10),(!((nd.aT==1)||(nd.aT==2)),2),((decide (1<(nd.fill.length:Int)))||(decide (1<(nd.stroke.length:Int))),5),((decide (0<(nd.stroke.length:Int)))&&(!(nd.style.valid)),13),((!(decide (0<(nd.stroke.length:Int))))&&(!(nd.style.eq aS.bare)),17),((!(nd.fill.all ak.valid))||(!(nd.stroke.all ak.valid)),16)]
def aj.GZ(nd:aj):Value:=jZ nd.rQ
theorem aag{w:World}{nd:aj}(h:eu K w nd) :
  Calls prog 194 #[nd.v] w fun e w'=>e = .returned nd.GZ∧Ext w w':=by
 obtain⟨a1,c1,ecs⟩:=h.1.2.2.2.2.1.1.shape;obtain⟨a2,c2,eps⟩:=h.1.2.2.2.2.2.2.2.1.1.shape;obtain⟨a3,c3,efs⟩:=h.1.2.2.2.2.2.2.2.2.2.1.1.shape;obtain⟨a4,c4,ess⟩:=h.1.2.2.2.2.2.2.2.2.2.2.2.1.1.shape;refine azD func194 ntmps194 fun ac S=>ay1 fun _ ig=>Sx.qG S 1 nd.cells fun ac u b2 E3 hb4 S=>ayY S 1 [] [(2,.nilIface)] fun S=>ayZ<|ig _ _<|ay1 fun _ AX=>ayY S 5 [.mem 0 42] [(3,.bool (0<(nd.stroke.length:Int)))] fun S=>ayZ<|AX _ _<|azL fun _ κ6=>Sx.draw S 50 [.mem 0 33,.mem 0 34,.mem 0 35,.mem 0 42,.mem 0 36,.mem 0 36,.mem 0 35,.mem 0 42] [(_,_,true,.bool (jO nd.path)),(_,_,true,dJ (!(jO nd.path)) 10),(_,_,true,.bool ((nd.aT==1)||(nd.aT==2))),(_,_,true,dJ (!((nd.aT==1)||(nd.aT==2))) 2),(_,_,true,dJ ((decide (1<(nd.fill.length:Int)))||(decide (1<(nd.stroke.length:Int)))) 5),(_,_,(decide (0<(nd.stroke.length:Int))),.bool (nd.style.valid)),(_,_,true,dJ ((decide (0<(nd.stroke.length:Int)))&&(!(nd.style.valid))) 13),(_,_,(!(decide (0<(nd.stroke.length:Int)))),.bool (nd.style.eq aS.bare)),(_,_,true,dJ ((!(decide (0<(nd.stroke.length:Int))))&&(!(nd.style.eq aS.bare))) 17),(_,_,true,.bool (nd.fill.all ak.valid)),(_,_,(!(!(nd.fill.all ak.valid))),.bool (nd.stroke.all ak.valid)),(_,_,true,dJ ((!(nd.fill.all ak.valid))||(!(nd.stroke.all ak.valid))) 16)] [(12,dJ (!(jO nd.path)) 10),(17,dJ (!((nd.aT==1)||(nd.aT==2))) 2),(28,dJ ((decide (1<(nd.fill.length:Int)))||(decide (1<(nd.stroke.length:Int)))) 5),(36,dJ ((decide (0<(nd.stroke.length:Int)))&&(!(nd.style.valid))) 13),(46,dJ ((!(decide (0<(nd.stroke.length:Int))))&&(!(nd.style.eq aS.bare))) 17),(57,dJ ((!(nd.fill.all ak.valid))||(!(nd.stroke.all ak.valid))) 16)] ⟨fun u hC g=>yF (h.1.2.2.2.2.2.2.2.1.below (Ext.trans' S.E hC)),fun u hC g=>azp (iV (!(jO nd.path)) 10 _),fun u hC g=>azp (Qd nd.aT _),fun u hC g=>azp (iV (!((nd.aT==1)||(nd.aT==2))) 2 _),fun u hC g=>azp (iV ((decide (1<(nd.fill.length:Int)))||(decide (1<(nd.stroke.length:Int)))) 5 _),fun u hC g=>Zy (p:=nd.style) (h.1.2.2.2.2.2.2.2.2.2.2.1.below (Ext.trans' S.E hC)),fun u hC g=>azp (iV ((decide (0<(nd.stroke.length:Int)))&&(!(nd.style.valid))) 13 _),fun u hC g=>vM (p:=nd.style) (q:=aS.bare) (h.1.2.2.2.2.2.2.2.2.2.2.1.below (Ext.trans' S.E hC)) (aS.gy _),fun u hC g=>azp (iV ((!(decide (0<(nd.stroke.length:Int))))&&(!(nd.style.eq aS.bare))) 17 _),fun u hC g=>Ya (K:=K) (oO.below ⟨h.1.2.2.2.2.2.2.2.2.2.1,h.2.2.1,h.2.2.2.2.1,h.2.2.2.2.2⟩ (Ext.trans' S.E hC)),fun u hC g=>Ya (K:=K) (oO.below ⟨h.1.2.2.2.2.2.2.2.2.2.2.2.1,h.2.2.2.1,h.2.2.2.2.1,h.2.2.2.2.2⟩ (Ext.trans' S.E hC)),fun u hC g=>azp (iV ((!(nd.fill.all ak.valid))||(!(nd.stroke.all ak.valid))) 16 _),trivial⟩ (fun ac u E7 S=>?_);refine QS S 58 (dJ (!(jO nd.path)) 10) (dJ (!((nd.aT==1)||(nd.aT==2))) 2) (dJ ((decide (1<(nd.fill.length:Int)))||(decide (1<(nd.stroke.length:Int)))) 5) (dJ ((decide (0<(nd.stroke.length:Int)))&&(!(nd.style.valid))) 13) (dJ ((!(decide (0<(nd.stroke.length:Int))))&&(!(nd.style.eq aS.bare))) 17) (dJ ((!(nd.fill.all ak.valid))||(!(nd.stroke.all ak.valid))) 16) rfl rfl rfl rfl (fH _ _) (fH _ _) (fH _ _) (fH _ _) (fH _ _) (fH _ _) (fun ac u b8 E9 y8 S=>?_);refine Sx.AY S 59 (first_any (Sx.kY (f:=fun p:Bool×Int=>dJ p.1 p.2) [(!(jO nd.path),10),(!((nd.aT==1)||(nd.aT==2)),2),((decide (1<(nd.fill.length:Int)))||(decide (1<(nd.stroke.length:Int))),5),((decide (0<(nd.stroke.length:Int)))&&(!(nd.style.valid)),13),((!(decide (0<(nd.stroke.length:Int))))&&(!(nd.style.eq aS.bare)),17),((!(nd.fill.all ak.valid))||(!(nd.stroke.all ak.valid)),16)] (S.bx 0) (by show 6≤9223372036854775807; decide))) fun ac u zo S=>ayY S 1 [] [(2,(jZ [(!(jO nd.path),10),(!((nd.aT==1)||(nd.aT==2)),2),((decide (1<(nd.fill.length:Int)))||(decide (1<(nd.stroke.length:Int))),5),((decide (0<(nd.stroke.length:Int)))&&(!(nd.style.valid)),13),((!(decide (0<(nd.stroke.length:Int))))&&(!(nd.style.eq aS.bare)),17),((!(nd.fill.all ak.valid))||(!(nd.stroke.all ak.valid)),16)]))] fun S=>ayZ<|κ6 _ _<|Sx.Uu S results194 ?_;exact⟨azH Ending.returned (by unfold aj.GZ aj.rQ; rfl),S.E⟩
open Go.RowKit
variable{α:Type}{K:Nat}
def aj.QT(nd:aj):Value:=cond ((nd.kind)==1) (dJ (!(decide (1≤nd.blend)&&decide (nd.blend≤13))) 2) (cond ((nd.kind)==2) (nd.GZ) ((jZ [(!(nd.img.valid),16),(((nd.cZ) != 1)&&((nd.cZ) != 2),2)])))
theorem QU{w:World}{nd:aj}(h:eu K w nd) :
  Calls prog 143 #[nd.v] w fun e w'=>e = .returned nd.QT∧Ext w w':=by
 obtain⟨a1,c1,ecs⟩:=h.1.2.2.2.2.1.1.shape;obtain⟨a2,c2,eps⟩:=h.1.2.2.2.2.2.2.2.1.1.shape;obtain⟨a3,c3,efs⟩:=h.1.2.2.2.2.2.2.2.2.2.1.1.shape;obtain⟨a4,c4,ess⟩:=h.1.2.2.2.2.2.2.2.2.2.2.2.1.1.shape;refine azD func143 ntmps143 fun ac S=>ay1 fun _ ig=>Sx.qG S 1 nd.cells fun ac u b2 E3 hb4 S=>ayY S 1 [] [(2,.nilIface)] fun S=>ayZ<|ig _ _<|azL fun _ AX=>ay1 fun _ κ6=>ayY S 2 [.mem 0 1] [(4,.i nd.kind)] fun S=>ayZ<|κ6 _ _<|aAp<|ay1 fun _ Vm=>ayY S 2 [] [(5,.bool ((nd.kind)==1))] fun S=>ayZ (Vm _ _ ?_);refine azq S (fun hc8=>?_) (fun hc8=>?_)
 ·refine ay1 fun _ κ9=>ayY S 2 [.mem 0 30] [(8,.i nd.blend)] fun S=>Sx.calls S 9 (abZ nd.blend _) fun ac S=>ayY S 1 [] [(10,.bool (!(decide (1≤nd.blend)&&decide (nd.blend≤13))))] fun S=>Sx.calls S 11 (iV (!(decide (1≤nd.blend)&&decide (nd.blend≤13))) 2 _) fun ac S=>ayY S 1 [] [(2,dJ (!(decide (1≤nd.blend)&&decide (nd.blend≤13))) 2)] fun S=>ayZ<|κ9 _ _<|Sx.Uu S results143 ?_;exact⟨azH Ending.returned (by unfold aj.QT; rw[hc8]; rfl),S.E⟩
 refine ay1 fun _ zy=>ayY S 2 [] [(12,.bool ((nd.kind)==2))] fun S=>ayZ (zy _ _ ?_);refine azq S (fun gU=>?_) (fun gU=>?_)
 ·refine ay1 fun _ QV=>ayY S 1 [.mem 0 0] [(14,nd.v)] fun S=>Sx.AY S 15 (aag (h.below S.E)) fun ac u Es S=>ayY S 1 [] [(2,nd.GZ)] fun S=>ayZ<|QV _ _<|Sx.Uu S results143 ?_;exact⟨azH Ending.returned (by unfold aj.QT; rw[hc8,gU]; rfl),S.E⟩
 refine az6<|AX _ _<|azL fun _ vw=>Sx.draw S 14 [.mem 0 43,.mem 0 46,.mem 0 46] [(_,_,true,.bool (nd.img.valid)),(_,_,true,dJ (!(nd.img.valid)) 16),(_,_,true,dJ (((nd.cZ) != 1)&&((nd.cZ) != 2)) 2)] [(20,dJ (!(nd.img.valid)) 16),(29,dJ (((nd.cZ) != 1)&&((nd.cZ) != 2)) 2)] ⟨fun u hC g=>Aq (m:=nd.img) (h.1.2.2.2.2.2.2.2.2.2.2.2.2.1.below (Ext.trans' S.E hC)),fun u hC g=>azp (iV (!(nd.img.valid)) 16 _),fun u hC g=>azp (iV (((nd.cZ) != 1)&&((nd.cZ) != 2)) 2 _),trivial⟩ (fun ac u E15 S=>?_);refine adf S 30 (dJ (!(nd.img.valid)) 16) (dJ (((nd.cZ) != 1)&&((nd.cZ) != 2)) 2) rfl rfl rfl rfl (fH _ _) (fH _ _) (fun ac u b16 yE agd S=>?_);refine Sx.AY S 31 (first_any (Sx.kY (f:=fun p:Bool×Int=>dJ p.1 p.2) [(!(nd.img.valid),16),(((nd.cZ) != 1)&&((nd.cZ) != 2),2)] (S.bx 0) (by show 2≤9223372036854775807; decide))) fun ac u Kv S=>ayY S 1 [] [(2,(jZ [(!(nd.img.valid),16),(((nd.cZ) != 1)&&((nd.cZ) != 2),2)]))] fun S=>ayZ<|vw _ _<|Sx.Uu S results143 ?_;exact⟨azH Ending.returned (by unfold aj.QT; rw[hc8,gU]; rfl),S.E⟩
end
section
open Go.RowKit
variable{α:Type}
def dO(w:World):Prop:=0 < w.heap.size∧w.rangeAt 0 0 [.iface 296 (.agg #[.q Tryz.prog.globals.size 210])]
theorem rls(v x:Value):Go.Extern.ReflectliteValue.set #[v,x]=(do
  let (some (dst,a,fl),some (src,b,_)):=(←Go.Extern.ReflectliteValue.parts v,←Go.Extern.ReflectliteValue.parts x)
   | unsupported (.noEntry "extern/(internal/reflectlite.Value).Set.zeroValue")
  if fl/Go.Extern.ReflectliteValue.flagAddr%2==0 then unsupported (.noEntry "extern/(internal/reflectlite.Value).Set.unaddressable")
  let val ←loadVar src b
  if ←Go.Extern.Rtype.directlyAssignable dst src then storeVar dst a val
  else if ←Go.Extern.Rtype.implements dst src then
   if (←Go.Extern.Rtype.kind src)==20 then
    match val with
    | .nilIface=>unsupported (.noEntry "extern/reflectlite: a nil value of one interface type handed on as a value of another")
    | _=>storeVar dst a val
   else storeVar dst a (.iface src val)
  else panicString ("reflectlite.Set: value of type " ++ (←Go.Extern.Rtype.spelt src) ++ " is not assignable to type " ++ (←Go.Extern.Rtype.spelt dst))
  pure (.tuple #[])):=rfl
theorem G5(b:Nat)(w:World):(Go.Extern.ReflectliteValue.parts (.agg #[.q Tryz.prog.globals.size 213,.q b 0,.int .u64 409])).run prog w = .ok (some (213,⟨b,0,none⟩,409)) w:=by kernel_rfl
theorem G6(b:Nat)(w:World):(Go.Extern.ReflectliteValue.parts (.agg #[.q Tryz.prog.globals.size 213,.q b 0,.int .u64 153])).run prog w = .ok (some (213,⟨b,0,none⟩,153)) w:=by kernel_rfl
theorem NR(w:World):(Go.Extern.Rtype.directlyAssignable 213 213).run prog w = .ok true w:=by kernel_rfl
theorem aah(t b:Nat)(n:Int)(e:Value){w:World}{x0 x1:Value}(hb:Bx w b #[.i n,e])(ht:Bx w t #[x0,x1])(he:e.oneCell'=true) :
  (Go.Extern.ReflectliteValue.set #[.agg #[.q Tryz.prog.globals.size 213,.q t 0,.int .u64 409],.agg #[.q Tryz.prog.globals.size 213,.q b 0,.int .u64 153]]).run prog w = .ok (.tuple #[]) (w.setCells t 0 [.i n,e]) ∧
   Ch t w (w.setCells t 0 [.i n,e])∧Bx (w.setCells t 0 [.i n,e]) t #[.i n,e]:=by
 refine⟨?_,(Ch.refl t w).setCells _ _,Bx.set ht _ rfl⟩;rw[rls];have h1:=run_loadVar_mid (P:=prog) w b 0 213 [.i n,e] _ (hb.range 0 2 rfl) underlying213 rfl (by kernel_rfl);have h2:=run_storeVar_mid (P:=prog) w t 0 213 #[.i n,e] (ht.there rfl) (by kernel_rfl) (by simp only[List.all_toArray,List.all_cons,List.all_nil,he,Bool.and_true]; rfl);have p1:=G5 t w;have p2:=G6 b w;have p3:=NR w;have p4:(409/Go.Extern.ReflectliteValue.flagAddr%2==0)=false:=by decide
 generalize Tryz.prog.globals.size=g at p1 p2 ⊢;simp only[aAw,p1,p2,Result.andThen,p4,aBP,if_false,h1,p3,if_true];rw[h2];rfl
theorem ajA{ρ:Operand→Value}{o:Oper}{x y:Operand}{ts:Array TypeId}{u v V:Value}{w w1:World}(hop:o.op = .call { callee := .value (.func 240),args := #[x,y],argTypes:=ts })(hf:ρ (.func 240) = .func (.func 240) #[] #[])
  (hx:ρ x=u) (hy:ρ y=v) (hs:(Go.Extern.ReflectliteValue.set #[u,v]).run prog w = .ok V w1):(execOp ρ o).run prog w = .ok (.value V) w1:=by
 have h12:=@run_callFunc_extern prog 240 _ Go.Extern.ReflectliteValue.set func240 (by kernel_rfl) (by kernel_rfl) (by kernel_rfl) (by kernel_rfl);unfold execOp;rw[hop];simp[go_sem,hf,hx,hy,h12,hs]
theorem as_nil(t:Value)(w:World) :
  Calls prog 144 #[.nilIface,t] w fun e w'=>e = .returned (.z)∧w=w':=by
 skip;refine ay3 func144 ntmps144 fun S=>ay8 S fun S=>apB S (.z) (fun S=>?_);exact⟨rfl,rfl⟩
theorem agm{w0 w:World}{n:Int}{e x0 x1:Value}{t b:Nat}(he:e.oneCell'=true)(hE:Ext w0 w)(ht:Bx w t #[x0,x1])(hb:w0.heap.size≤t)(hv:b<w.heap.size∧w.rangeAt b 0 [.q t 0]∧t≠b) :
  Calls prog 199 #[.iface 213 (.agg #[.i n,e]),.iface 215 (.q t 0),.agg #[.q Tryz.prog.globals.size 215,.q b 0,.int .u64 150],.iface 296 (.agg #[.q Tryz.prog.globals.size 213])] w fun ev w'=>ev = .returned (.bool true)∧Ext w0 w'∧Ch t w w'∧Bx w' t #[.i n,e]:=by
 skip;refine Sx.CJ func199 ntmps199 hE ht hb (fun ac S=>?_);have S:=S.view hv.1 hv.2.1 (fun p hp=>by obtain rfl:=az0.1 hp; exact hv.2.2);refine ay1 fun _ ig=>Sx.qG S 6 [.q Tryz.prog.globals.size 215,.q b 0,.int .u64 150] fun ac u b2 E3 hb4 S=>ayY S 1 [] [(8,.z)] fun S=>ayZ<|ig _ _<|aAp<|wp_loop_rounds 1 ?_;rw[aBH];refine aAp<|azL fun _ AX=>ay1 fun _ κ6=>ayY S 4 [] [(19,.bool true)] fun S=>ayZ<|κ6 _ _<|Sx.G7 S<|ay1 fun _ Vm=>ayY S 3 [.mem 0 0,.lds [(2,0)]] [(21,.agg #[.q Tryz.prog.globals.size 213,.q t 0,.int .u64 409]),(22,.iface 213 (.agg #[.i n,e]))] fun S=>Sx.new S 23 [.i n,e] (fun b => .agg #[.q Tryz.prog.globals.size 213,.q b 0,.int .u64 153]) (fun ac u b8 E9 y8 S=>?_);have hs:=aah t b8 n e (w:=u) (S.bx 0) (S.bx 2) he;refine Sx.wrote S 2 [.i n,e] (.tuple #[]) (some 24) rfl rfl rfl rfl ?_ hs.2.1 hs.2.2 (uo S.E hb _ _) (fun ac S=>?_)
 ·exact ajA rfl rfl (S.s.has 21 _ rfl) (S.s.has 23 _ rfl) hs.1
 have Jw:=Ch.trans (Ch.trans (Ch.refl t w) (Ch.aZ (Ext.trans' E3 E9))) hs.2.1;refine ayZ<|Vm _ _<|ay1 fun _ vw=>ayY S 1 [] [(8,.bool true)] fun S=>ayZ<|vw _ _<|Sx.Uu S results199 ?_;exact⟨rfl,S.E,Jw,S.bx 2⟩
theorem dO.below{w w':World}(h:dO w)(hE:Ext w w'):dO w':=⟨azY h.1 hE.size,Vp.pU h.2 h.1 hE⟩
theorem as_hit{w0 w:World}{n:Int}{e x0 x1:Value}{t:Nat}(he:e.oneCell'=true)(hE:Ext w0 w)(ht:Bx w t #[x0,x1])(hb:w0.heap.size≤t)(hg:dO w0) :
  Calls prog 144 #[.iface 213 (.agg #[.i n,e]),.iface 215 (.q t 0)] w fun ev w'=>ev = .returned (.bool true)∧Ext w0 w'∧Ch t w w'∧Bx w' t #[.i n,e]:=by
 skip;refine Sx.CJ func144 ntmps144 hE ht hb (fun ac S=>?_);have S:=S.view0 hg.1 hg.2;refine ay1 fun _ ig=>ayY S 1 [] [(4,.z)] fun S=>ayZ<|ig _ _<|azL fun _ Yb=>ay1 fun _ κ3=>ayY S 2 [] [(9,.z)] fun S=>ayZ<|κ3 _ _<|Sx.DR S<|az6<|Yb _ _<|azL fun _ κ4=>ay1 fun _ AX=>ayY S 2 [] [(11,.z)] fun S=>ayZ<|AX _ _<|Sx.DR S<|az6<|κ4 _ _<|ay1 fun _ κ6=>ayY S 1 [] [(13,.iface 215 (.q t 0))] fun S=>Sx.new S 14 [.q t 0] (fun b => .agg #[.q Tryz.prog.globals.size 215,.q b 0,.int .u64 150]) fun ac u b7 E8 hb9 S=>Sx.qG S 5 [.pointer none,.pointer none,.int .u64 0] fun ac u b10 zo Ew S=>azw S 0 (off:=0) (cs:=[.q Tryz.prog.globals.size 215,.q b7 0,.int .u64 150]) rfl (fun u C13 S=>?_);have yA:=ay5 (Ext.trans' E8 zo) C13 (by have:=E8.size; omega);refine ayZ<|κ6 _ _<|ay1 fun _ G8=>ayY S 3 [.mem 0 0] [(6,.iface 296 (.agg #[.q Tryz.prog.globals.size 215]))] fun S=>ayZ<|G8 _ _<|azL fun _ zB=>ay1 fun _ NS=>ayY S 7 [.mem 0 0,.lds [(1,0)]] [(23,.z)] fun S=>ayZ<|NS _ _<|Sx.DR S<|az6<|zB _ _<|ay1 fun _ Vo=>ayY S 3 [] [(7,.iface 296 (.agg #[.q Tryz.prog.globals.size 213]))] fun S=>ayZ<|Vo _ _<|azL fun _ ajB=>ay1 fun _ aai=>ayY S 9 [.mem 3 0] [(35,.z)] fun S=>ayZ<|aai _ _<|Sx.DR S<|az6<|ajB _ _<|ay1 fun _ adk=>ayY S 4 [.mem 0 0] [(37,.iface 213 (.agg #[.i n,e])),(38,.iface 215 (.q t 0)),(39,.agg #[.q Tryz.prog.globals.size 215,.q b7 0,.int .u64 150]),(40,.iface 296 (.agg #[.q Tryz.prog.globals.size 213]))] (fun S=>?_);have hlt:=(S.bx 1).1;refine Sx.ah4 S 2 [.i n,e] (some 41) rfl (agm (n:=n) (t:=t) (b:=b7) he S.E (S.bx 2) hb ⟨(S.bx 1).1,(S.bx 1).range 0 1 rfl,S.ne (i:=2) (j:=1) rfl rfl (by decide)⟩) ?_;rintro e u ⟨rfl,aqA,amJ,aqB⟩;refine⟨_,rfl,aqA,amJ,aqB,fun ac S=>?_⟩;have F23:=Ch.trans (Ch.trans (Ch.refl t w) (Ch.aZ yA)) amJ;refine ayY S 1 [] [(4,.bool true)] fun S=>ayZ<|adk _ _<|Sx.Uu S results144 ?_;exact⟨rfl,S.E,F23,S.bx 2⟩
open Go.RowKit
variable{α:Type}{K:Nat}
def mQ:List (Bool×Int)→Int
 | []=>0
 | p::l=>if p.1=true then p.2 else mQ l
def badL(l:List (Bool×Int)):Bool:=l.any (·.1)
abbrev jo (n:Int)(e:Value):Value := .iface 213 (.agg #[.i n,e])
theorem uD:∀l:List (Bool×Int),(badL l=false∧jZ l = .nilIface∧mQ l=0)∨(badL l=true∧∃n,jZ l=jo 0 (jo n .nilIface)∧mQ l=n)
 | [] => .inl ⟨rfl,rfl,rfl⟩
 | p::l=>by
  unfold jZ mQ badL
  rw[List.any_cons]
  cases hp:p.1 with
  | true=>exact .inr ⟨rfl,p.2,azv rfl,azv rfl⟩
  | false =>
   rw[azu (by simp),azu (by simp),Bool.false_or]
   exact uD l
def aj.qH(nd:aj):Int:=cond ((nd.kind)==1) (mQ [((!(decide (1≤nd.blend)&&decide (nd.blend≤13))),2)]) (cond ((nd.kind)==2) (mQ nd.rQ) ((mQ [(!(nd.img.valid),16),(((nd.cZ) != 1)&&((nd.cZ) != 2),2)])))
def aj.checkN(nd:aj):Int:=_root_.cond (badL nd.jP) (mQ nd.jP) nd.qH
theorem Vq(nd:aj):(nd.QT = .nilIface∧nd.qH=0)∨(nd.QT=jo nd.qH .nilIface)∨(nd.QT=jo 0 (jo nd.qH .nilIface)):=by
 have hL:∀l,(jZ l = .nilIface∧mQ l=0)∨(jZ l=jo (mQ l) .nilIface)∨(jZ l=jo 0 (jo (mQ l) .nilIface)):=by
  intro l;rcases uD l with ⟨_,h1,h2⟩ | ⟨_,n,h1,h2⟩
  ·exact .inl ⟨h1,h2⟩
  exact .inr (.inr (by rw[h1,h2]))
 have hW:∀b n,(dJ b n = .nilIface∧mQ [(b,n)]=0)∨(dJ b n=jo (mQ [(b,n)]) .nilIface)∨(dJ b n=jo 0 (jo (mQ [(b,n)]) .nilIface)):=by
  intro b n;cases b<;>simp[dJ,mQ]
 unfold aj.QT aj.qH aj.GZ;cases h1:nd.kind==1
 ·cases h2:nd.kind==2
  ·exact hL _
  exact hL _
 exact hW _ _
theorem yH{w:World}{nd:aj}(h:eu K w nd)(hg:dO w) :
  Calls prog 96 #[nd.v] w fun e w'=>e = .returned (.i nd.checkN)∧Ext w w':=by
 skip;refine ay3 func96 ntmps96 fun S=>ay6 S nd.cells fun u b2 E3 hb4 S=>adr S 2 [] [.mem 0 0] fun S=>azd S (Vl (h.below S.E)) (fun u E6 S=>?_);rcases uD nd.jP with ⟨hb,he,hc⟩ | ⟨hb,n,he,hc⟩
 ·rw[show nd.xC = .nilIface from he]at S;try rw[show nd.xC = .nilIface from he]
  refine ay8 S fun S=>adr S 1 [] [.mem 0 0] fun S=>azd S (QU (h.below S.E)) (fun u E9 S=>?_);rcases Vq nd with ⟨ho,hn⟩ | ho | ho
  ·rw[ho]at S;try rw[ho]
   refine ay6 S [.i 0,.nilIface] fun u b12 Es Z9 S=>Sx.XY S 3 fun S=>aAx S (as_nil (.iface 215 (.q b12 0)) _) fun S=>azg S fun S=>apB S (.i 0) (fun S=>?_);exact⟨by unfold aj.checkN; rw[hb]; simp only[_root_.cond]; rw[hn],S.E⟩
  ·rw[ho]at S;try rw[ho]
   refine ay6 S [.i 0,.nilIface] fun u b21 NI ajC S=>Sx.XY S 3 fun S=>Sx.zD S 0 [.i nd.qH,.nilIface] rfl (as_hit (n:=nd.qH) (e := .nilIface) rfl S.E (S.bx 0) (S.old 0) hg) ?_;rintro e u ⟨rfl,ajD,aaj,ajE⟩;refine⟨_,rfl,ajD,aaj,ajE,fun S=>?_⟩;refine ay8 S fun S=>azi S 5 [.mem 0 0,.mem 0 1] [] [(4,.i nd.qH),(18,.nilIface)] trivial fun u Ve S=>aAx S (as_nil (.iface 215 (.q b21 0)) _) fun S=>azg S fun S=>apB S (.i nd.qH) (fun S=>?_);exact⟨by unfold aj.checkN; rw[hb]; simp only[_root_.cond],S.E⟩
  rw[ho]at S;try rw[ho]
  refine ay6 S [.i 0,.nilIface] fun u b34 JG ajF S=>Sx.XY S 3 fun S=>Sx.zD S 0 [.i 0,jo nd.qH .nilIface] rfl (as_hit (n:=0) (e:=jo nd.qH .nilIface) rfl S.E (S.bx 0) (S.old 0) hg) ?_;rintro e u ⟨rfl,Vr,NT,adl⟩;refine⟨_,rfl,Vr,NT,adl,fun S=>?_⟩;refine ay8 S fun S=>azi S 5 [.mem 0 0,.mem 0 1] [] [(4,.i 0),(18,jo nd.qH .nilIface)] trivial fun u PX S=>Sx.zD S 0 [.i nd.qH,.nilIface] rfl (as_hit (n:=nd.qH) (e := .nilIface) rfl S.E (S.bx 0) (S.old 0) hg) ?_;rintro e u ⟨rfl,aqC,aqD,aqE⟩;refine⟨_,rfl,aqC,aqD,aqE,fun S=>?_⟩;refine ay8 S fun S=>azi S 5 [.mem 0 0,.mem 0 1] [] [(4,.i nd.qH),(18,.nilIface)] trivial fun u E45 S=>aAx S (as_nil (.iface 215 (.q b34 0)) _) fun S=>azg S fun S=>apB S (.i nd.qH) (fun S=>?_);exact⟨by unfold aj.checkN; rw[hb]; simp only[_root_.cond],S.E⟩
 rw[show nd.xC=jo 0 (jo n .nilIface)from he]at S;try rw[show nd.xC=jo 0 (jo n .nilIface)from he]
 refine azg S fun S=>ay6 S [.i 0,.nilIface] fun u b53 E54 aqF S=>Sx.XY S 3 fun S=>Sx.zD S 0 [.i 0,jo n .nilIface] rfl (as_hit (n:=0) (e:=jo n .nilIface) rfl S.E (S.bx 0) (S.old 0) hg) ?_;rintro e u ⟨rfl,ajG,adn,ajH⟩;refine⟨_,rfl,ajG,adn,ajH,fun S=>?_⟩;refine ay8 S fun S=>azi S 5 [.mem 0 0,.mem 0 1] [] [(4,.i 0),(18,jo n .nilIface)] trivial fun u E60 S=>Sx.zD S 0 [.i n,.nilIface] rfl (as_hit (n:=n) (e := .nilIface) rfl S.E (S.bx 0) (S.old 0) hg) ?_;rintro e u ⟨rfl,aqG,aqH,aqI⟩;refine⟨_,rfl,aqG,aqH,aqI,fun S=>?_⟩;refine ay8 S fun S=>azi S 5 [.mem 0 0,.mem 0 1] [] [(4,.i n),(18,.nilIface)] trivial fun u E64 S=>aAx S (as_nil (.iface 215 (.q b53 0)) _) fun S=>azg S fun S=>apB S (.i n) (fun S=>?_);exact⟨by unfold aj.checkN; rw[hb]; simp only[_root_.cond]; rw[hc],S.E⟩
theorem JM{w:World}{nd:aj}(h:eu K w nd)(hg:dO w) :
  Calls prog 58 #[nd.v] w fun e w'=>e = .returned (.bool (nd.checkN==0))∧Ext w w':=by
 skip;refine ay3 func58 ntmps58 fun S=>ay2 S fun u b2 E3 hb4 S=>adr S 2 [] [.mem 0 0] fun S=>azd S (yH (h.below S.E) (hg.below S.E)) fun u E6 S=>apB S (.bool ((nd.checkN)==0)) (fun S=>?_);exact⟨rfl,S.E⟩
open Go.RowKit
variable{α:Type}{K:Nat}
theorem aA.aak{base:Nat}{w:World}{v:Value}{q:Bool×Nat×Nat}(h:dN base w v q):∃r:bI,v=r.v∧r.ok w∧r.n1=q.1∧r.l1=Na.au q.2.1∧r.n2=false∧r.l2=Na.au q.2.2:=by
 obtain⟨s,t,rfl,hs,ht,_⟩:=h;have hs':=hs;have ht':=ht;obtain⟨a1,c1,rfl,_⟩:=hs;obtain⟨a2,c2,rfl,_⟩:=ht;exact⟨⟨q.1,a1,c1,Na.au q.2.1,false,a2,c2,Na.au q.2.2⟩,rfl,⟨hs',ht'⟩,rfl,rfl,rfl,rfl⟩
theorem KP{r:bI}{q:Bool×Nat×Nat}(h1:r.n1=q.1)(h2:r.l1=Na.au q.2.1)(h3:r.n2=false)(h4:r.l2=Na.au q.2.2)(hn:KF q):r.q=q:=by
 unfold bI.q;rw[h1,h2,h3,h4,Na.aB,Na.aB]; exact hn
theorem xE{r:bI}{q:Bool×Nat×Nat}{K:Nat}(h2:r.l1=Na.au q.2.1)(h4:r.l2=Na.au q.2.2)(hl:qlen K q):r.fit K:=⟨by rw[h2]; exact hl.1,by rw[h4]; exact hl.2⟩
theorem NU:Am qI:=⟨by decide,by decide,by decide,by decide,by decide,by decide⟩
theorem ajI:QF 1 qI:=by
 have h1:qlen 1 (false,1,1):=⟨AA,AA⟩;have h0:qlen 1 (false,0,1):=⟨by show(Na.au 0).length≤1; rw[Na.jA]; simp,AA⟩;exact⟨h1,h0,h0,h1,h0,h0⟩
def iK(id:Int)(t:bF):aj:=⟨id,2,0,t,none,0,[],0,0,0,false,false,none,0,[],1,none,0,[],aS.bare,none,0,[],dA.bare,0⟩
def bK:aj:=⟨0,0,0,bF.none,none,0,[],0,0,0,false,false,none,0,[],0,none,0,[],aS.bare,none,0,[],dA.bare,0⟩
theorem oP(w:World):vX w (.sn) []:=⟨dH _ _ _,fun s hs=>by cases hs⟩
theorem kN(w:World):iU w (.sn) []:=⟨dH _ _ _,fun s hs=>by cases hs⟩
theorem aal{w:World}{id:Int}{t:bF}(hid:I64 id)(ht:t.ok w)(hf:t.fit 1)(hK:1≤K)(hK2:K≤10000):eu K w (iK id t):=
 ⟨⟨hid,(show I64 2 by decide),eY,ht,oP w,eY,eY,oP w,(show I64 1 by decide),kN w,aS.gy w,kN w,dA.gy w,eY⟩,⟨hf.1.mono hK,hf.2.1.mono hK,hf.2.2.1.mono hK,hf.2.2.2.1.mono hK,hf.2.2.2.2.1.mono hK,hf.2.2.2.2.2.mono hK⟩,fun p hp=>(by cases hp),fun p hp=>(by cases hp),hK,hK2⟩
theorem gI(w:World)(hK:1≤K)(hK2:K≤10000):eu K w bK:=
 ⟨⟨eY,eY,eY,bF.gu w,oP w,eY,eY,oP w,eY,kN w,aS.gy w,kN w,dA.gy w,eY⟩,bF.iD K,fun p hp=>(by cases hp),fun p hp=>(by cases hp),hK,hK2⟩
theorem NV:bK.checkN=2:=rfl
theorem bI.ok.dX{w w':World}{r:bI}{b:Nat}{A:Array Value}(h:r.ok w)(hc:Ch b w w')(hx:Bx w b A)(hA:A.toList.all AL=true):r.ok w':=⟨KG h.1 hc hx hA,KG h.2 hc hx hA⟩
theorem bF.ok.dX{w w':World}{t:bF}{b:Nat}{A:Array Value}(h:t.ok w)(hc:Ch b w w')(hx:Bx w b A)(hA:A.toList.all AL=true:=by rfl):t.ok w':=
 ⟨h.1.dX hc hx hA,h.2.1.dX hc hx hA,h.2.2.1.dX hc hx hA,h.2.2.2.1.dX hc hx hA,h.2.2.2.2.1.dX hc hx hA,h.2.2.2.2.2.dX hc hx hA⟩
end
end Go.Proofs.YtodpgjjgaddkeaaGreatDoor
