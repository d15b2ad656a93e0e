/- Walks of package node: zero, bare. errors.As: of nil, -/
import Derived.Test.YtodpgjjgaddkeaaGreatDoorPk14
import Derived.Stop.Asserts
import Derived.LaidEql
import Derived.Test.YtodpgjjgaddkeaaGreatDoorRows
set_option maxHeartbeats 3200000
set_option maxRecDepth 100000
set_option linter.unusedVariables false
set_option linter.unusedSimpArgs false
namespace Go.Proofs.YtodpgjjgaddkeaaGreatDoor
section
open Go.RowKit
variable{α:Type}{K:Nat}
def eu(K:Nat)(w:World)(n:aj):Prop:=n.ok w∧n.t.fit K∧(∀p∈n.fill,p.t.fit K)∧(∀p∈n.stroke,p.t.fit K)∧1≤K∧K≤10000
theorem eu.below{w w':World}{n:aj}(h:eu K w n)(hb:Ext w w'):eu K w' n:=⟨h.1.below hb,h.2⟩
def aS.bare:aS:=⟨0,0,0,0,none,0,[],0⟩
theorem aS.gB(w:World):aS.bare.ok w:=⟨eY,eY,eY,eY,⟨none,0,rfl,azQ _,.inl ⟨rfl,fun _=>rfl⟩⟩,fun x hx=>by simp[aS.bare]at hx,eY⟩
theorem ajD:KL q0:=bI.uN▸eP.nrm (bI.toQ (w:=default) (bI.gy _) (bI.iD 1))
theorem ajE:qlen 1 q0:=bI.uN▸eP.len (bI.toQ (w:=default) (bI.gy _) (bI.iD 1)) (azJ 1)
theorem ada{w:World}{t:bG}(h:t.ok w)(hf:t.fit K)(hK1:1≤K)(hK:K≤10000) :
  Calls Tryz.prog 190 #[t.v] w fun e w'=>e = .returned (.bool (pG t.q.D5 q0))∧Ext w w':=by
 skip;refine aze Tryz.func190 Tryz.ntmps190 fun S=>azd S fun u b2 E3 hb4 S=>adr S 2 [] [.mem 0 0] fun S=>azv S (Ye t.v t.q K _ ((bG.toQ h hf).iJ S.E) hK1 hK) fun x u hd E6 S=>azv S (wH 0 _ (by omega) (by omega)) fun y u hy E7 S=>azp S (lK _ _ t.q.D5 q0 (K+K+(K+K)+1) 1 _ (aA.toQ (hd.ext E7) (Fv _) (Fz hK1 (ags.agt ((bG.toQ h hf).iJ (az5 _ _)) hK1))) (aA.toQ (q:=q0) hy ajD ajE) (by omega) (by omega) (by omega) (by omega)) fun u E8 S=>ay9 S (.bool (((lY t.q.D5 q0))==0)) (fun S=>?_);exact⟨rfl,S.E⟩
def aj.bare(nd:aj):Bool:=cond ((nd.kind)==1) ((((((((nd.path.length:Int))==0)&&((nd.aT)==0))&&(((nd.fill.length:Int))==0))&&(((nd.stroke.length:Int))==0))&&(nd.style.eq aS.bare))&&((nd.img.eq dB.bare)&&((nd.cZ)==0))) (cond ((nd.kind)==2) (((((((nd.dQ.toNat:Int))==0)&&((nd.blend)==0))&&(!nd.isolated))&&(!nd.dF))&&((nd.img.eq dB.bare)&&((nd.cZ)==0))) (((((((nd.dQ.toNat:Int))==0)&&((nd.blend)==0))&&(!nd.isolated))&&(!nd.dF))&&(((((((nd.path.length:Int))==0)&&((nd.aT)==0))&&(((nd.fill.length:Int))==0))&&(((nd.stroke.length:Int))==0))&&(nd.style.eq aS.bare))))
theorem adb{w:World}{nd:aj}(h:eu K w nd) :
  Calls Tryz.prog 192 #[nd.v] w fun e w'=>e = .returned (.bool nd.bare)∧Ext w w':=by
 obtain⟨a1,c1,ecs⟩:=h.1.2.2.2.2.1.1.shape;obtain⟨a2,c2,eps⟩:=h.1.2.2.2.2.2.2.2.1.1.shape;obtain⟨a3,c3,efs⟩:=h.1.2.2.2.2.2.2.2.2.2.1.1.shape;obtain⟨a4,c4,ess⟩:=h.1.2.2.2.2.2.2.2.2.2.2.2.1.1.shape;refine aze Tryz.func192 Tryz.ntmps192 fun S=>azd S fun u b2 E3 hb4 S=>adr S 20 [] [.mem 0 29,.mem 0 30,.mem 0 31,.mem 0 32] fun S=>aAG S 28 [.mem 0 33,.mem 0 34,.mem 0 35,.mem 0 42,.mem 0 36] [(_,_,((((((nd.path.length:Int))==0)&&((nd.aT)==0))&&(((nd.fill.length:Int))==0))&&(((nd.stroke.length:Int))==0)),.bool (nd.style.eq aS.bare))] [(4,.bool (((((((nd.path.length:Int))==0)&&((nd.aT)==0))&&(((nd.fill.length:Int))==0))&&(((nd.stroke.length:Int))==0))&&(nd.style.eq aS.bare)))] ⟨fun u hC g=>vV (p:=nd.style) (q:=aS.bare) (h.1.2.2.2.2.2.2.2.2.2.2.1.below (Ext.trans' S.E hC)) (aS.gB _),trivial⟩ fun u E7 S=>adr S 3 [] [.mem 0 43] fun S=>azp S (uz (m:=nd.img) (n:=dB.bare) (h.1.2.2.2.2.2.2.2.2.2.2.2.2.1.below S.E) (dB.gB _)) fun u E9 S=>adr S 10 [] [.mem 0 46,.mem 0 1] fun S=>azb S ((nd.kind)==1) (fun hc13 S=>?_) (fun hc13 S=>?_)
 ·refine ay9 S (.bool ((((((((nd.path.length:Int))==0)&&((nd.aT)==0))&&(((nd.fill.length:Int))==0))&&(((nd.stroke.length:Int))==0))&&(nd.style.eq aS.bare))&&((nd.img.eq dB.bare)&&((nd.cZ)==0)))) (fun S=>?_);exact⟨aN (by unfold aj.bare; rw[hc13]; rfl),S.E⟩
 refine azb S ((nd.kind)==2) (fun hc16 S=>?_) (fun hc16 S=>?_)
 ·refine ay9 S (.bool (((((((nd.dQ.toNat:Int))==0)&&((nd.blend)==0))&&(!nd.isolated))&&(!nd.dF))&&((nd.img.eq dB.bare)&&((nd.cZ)==0)))) (fun S=>?_);exact⟨aN (by unfold aj.bare; rw[hc13,hc16]; rfl),S.E⟩
 refine ay9 S (.bool (((((((nd.dQ.toNat:Int))==0)&&((nd.blend)==0))&&(!nd.isolated))&&(!nd.dF))&&(((((((nd.path.length:Int))==0)&&((nd.aT)==0))&&(((nd.fill.length:Int))==0))&&(((nd.stroke.length:Int))==0))&&(nd.style.eq aS.bare)))) (fun S=>?_);exact⟨aN (by unfold aj.bare; rw[hc13,hc16]; rfl),S.E⟩
open Go.RowKit
variable{α:Type}{K:Nat}
def aj.jP(nd:aj):List (Bool×Int):=[((decide (nd.kind<1))||(decide (3<nd.kind)),2),((((decide (nd.id<1))||(decide (1073741824<nd.id)))||(decide (nd.depth<0)))||(decide (8≤nd.depth)),6),(!(nd.t.q.valid),5),((pG nd.t.q.D5 q0),9),(!(jO nd.clip),10),((!(((((nd.clip.length:Int))==0)&&((nd.aP)==0))||((decide (0<(nd.clip.length:Int)))&&((nd.aP==1)||(nd.aP==2)))))||(!(nd.bare)),17)]
def aj.xK(nd:aj):Value:=ku nd.jP
theorem Vm{w:World}{nd:aj}(h:eu K w nd) :
  Calls Tryz.prog 142 #[nd.v] w fun e w'=>e = .returned nd.xK∧Ext w w':=by
 obtain⟨a1,c1,ecs⟩:=h.1.2.2.2.2.1.1.shape;obtain⟨a2,c2,eps⟩:=h.1.2.2.2.2.2.2.2.1.1.shape;obtain⟨a3,c3,efs⟩:=h.1.2.2.2.2.2.2.2.2.2.1.1.shape;obtain⟨a4,c4,ess⟩:=h.1.2.2.2.2.2.2.2.2.2.2.2.1.1.shape;refine azN Tryz.func142 Tryz.ntmps142 fun ac S=>azc fun _ gW=>Sx.qO S 1 nd.cells fun ac u b2 E3 hb4 S=>apB S 1 [] [(2,.nilIface)] fun S=>aza<|gW _ _<|azc fun _ Bg=>Sx.ade S 21 [.mem 0 27,.mem 0 28,.mem 0 27,.mem 0 28] [(_,_,((!((((nd.clip.length:Int))==0)&&((nd.aP)==0)))&&(decide (0<(nd.clip.length:Int)))),.bool ((nd.aP==1)||(nd.aP==2)))] [(3,.bool (((((nd.clip.length:Int))==0)&&((nd.aP)==0))||((decide (0<(nd.clip.length:Int)))&&((nd.aP==1)||(nd.aP==2)))))] ⟨fun u hC g=>azB (Qd nd.aP _),trivial⟩ fun ac u E6 S=>aza<|Bg _ _<|azX fun _ Vo=>Sx.draw S 50 [.mem 0 1,.mem 0 1,.mem 0 0,.mem 0 0,.mem 0 2,.mem 0 2,.mem 0 3,.mem 0 3,.mem 0 27,.mem 0 0] [(_,_,true,dK ((decide (nd.kind<1))||(decide (3<nd.kind))) 2),(_,_,true,dK ((((decide (nd.id<1))||(decide (1073741824<nd.id)))||(decide (nd.depth<0)))||(decide (8≤nd.depth))) 6),(_,_,true,.bool (nd.t.q.valid)),(_,_,true,dK (!(nd.t.q.valid)) 5),(_,_,true,.bool (pG nd.t.q.D5 q0)),(_,_,true,dK (pG nd.t.q.D5 q0) 9),(_,_,true,.bool (jO nd.clip)),(_,_,true,dK (!(jO nd.clip)) 10),(_,_,(!(!(((((nd.clip.length:Int))==0)&&((nd.aP)==0))||((decide (0<(nd.clip.length:Int)))&&((nd.aP==1)||(nd.aP==2)))))),.bool (nd.bare)),(_,_,true,dK ((!(((((nd.clip.length:Int))==0)&&((nd.aP)==0))||((decide (0<(nd.clip.length:Int)))&&((nd.aP==1)||(nd.aP==2)))))||(!(nd.bare))) 17)] [(32,dK ((decide (nd.kind<1))||(decide (3<nd.kind))) 2),(51,dK ((((decide (nd.id<1))||(decide (1073741824<nd.id)))||(decide (nd.depth<0)))||(decide (8≤nd.depth))) 6),(56,dK (!(nd.t.q.valid)) 5),(60,dK (pG nd.t.q.D5 q0) 9),(65,dK (!(jO nd.clip)) 10),(73,dK ((!(((((nd.clip.length:Int))==0)&&((nd.aP)==0))||((decide (0<(nd.clip.length:Int)))&&((nd.aP==1)||(nd.aP==2)))))||(!(nd.bare))) 17)] ⟨fun u hC g=>azB (iT ((decide (nd.kind<1))||(decide (3<nd.kind))) 2 _),fun u hC g=>azB (iT ((((decide (nd.id<1))||(decide (1073741824<nd.id)))||(decide (nd.depth<0)))||(decide (8≤nd.depth))) 6 _),fun u hC g=>G6 nd.t.v nd.t.q K _ ((bG.toQ h.1.2.2.2.1 h.2.1).iJ (Ext.trans' S.E hC)) h.2.2.2.2.1 (by have:=h.2.2.2.2.2; omega),fun u hC g=>azB (iT (!(nd.t.q.valid)) 5 _),fun u hC g=>ada (t:=nd.t) (h.1.2.2.2.1.below (Ext.trans' S.E hC)) h.2.1 h.2.2.2.2.1 h.2.2.2.2.2,fun u hC g=>azB (iT (pG nd.t.q.D5 q0) 9 _),fun u hC g=>yK (h.1.2.2.2.2.1.below (Ext.trans' S.E hC)),fun u hC g=>azB (iT (!(jO nd.clip)) 10 _),fun u hC g=>adb (h.below (Ext.trans' S.E hC)),fun u hC g=>azB (iT ((!(((((nd.clip.length:Int))==0)&&((nd.aP)==0))||((decide (0<(nd.clip.length:Int)))&&((nd.aP==1)||(nd.aP==2)))))||(!(nd.bare))) 17 _),trivial⟩ (fun ac u E8 S=>?_);refine QU S 74 (dK ((decide (nd.kind<1))||(decide (3<nd.kind))) 2) (dK ((((decide (nd.id<1))||(decide (1073741824<nd.id)))||(decide (nd.depth<0)))||(decide (8≤nd.depth))) 6) (dK (!(nd.t.q.valid)) 5) (dK (pG nd.t.q.D5 q0) 9) (dK (!(jO nd.clip)) 10) (dK ((!(((((nd.clip.length:Int))==0)&&((nd.aP)==0))||((decide (0<(nd.clip.length:Int)))&&((nd.aP==1)||(nd.aP==2)))))||(!(nd.bare))) 17) rfl rfl rfl rfl (fJ _ _) (fJ _ _) (fJ _ _) (fJ _ _) (fJ _ _) (fJ _ _) (fun ac u b9 Uw acR S=>?_);refine Sx.Bh S 75 (first_any (Sx.kW (f:=fun p:Bool×Int=>dK p.1 p.2) [((decide (nd.kind<1))||(decide (3<nd.kind)),2),((((decide (nd.id<1))||(decide (1073741824<nd.id)))||(decide (nd.depth<0)))||(decide (8≤nd.depth)),6),(!(nd.t.q.valid),5),((pG nd.t.q.D5 q0),9),(!(jO nd.clip),10),((!(((((nd.clip.length:Int))==0)&&((nd.aP)==0))||((decide (0<(nd.clip.length:Int)))&&((nd.aP==1)||(nd.aP==2)))))||(!(nd.bare)),17)] (S.bx 0) (by show 6≤9223372036854775807; decide))) fun ac u qM S=>apB S 1 [] [(2,(ku [((decide (nd.kind<1))||(decide (3<nd.kind)),2),((((decide (nd.id<1))||(decide (1073741824<nd.id)))||(decide (nd.depth<0)))||(decide (8≤nd.depth)),6),(!(nd.t.q.valid),5),((pG nd.t.q.D5 q0),9),(!(jO nd.clip),10),((!(((((nd.clip.length:Int))==0)&&((nd.aP)==0))||((decide (0<(nd.clip.length:Int)))&&((nd.aP==1)||(nd.aP==2)))))||(!(nd.bare)),17)]))] fun S=>aza<|Vo _ _<|Sx.UD S Tryz.results142 ?_;exact⟨azT Ending.returned (by unfold aj.xK aj.jP; rfl),S.E⟩
open Go.RowKit
variable{α:Type}{K:Nat}
def aj.su(nd:aj):List (Bool×Int):=[(!(jO nd.path),10),(!((nd.aT==1)||(nd.aT==2)),2),((decide (1<(nd.fill.length:Int)))||(decide (1<(nd.stroke.length:Int))),5),((decide (0<(nd.stroke.length:Int)))&&(!(nd.style.valid)),13),((!(decide (0<(nd.stroke.length:Int))))&&(!(nd.style.eq aS.bare)),17),((!(nd.fill.all ak.valid))||(!(nd.stroke.all ak.valid)),16)]
def aj.Hf(nd:aj):Value:=ku nd.su
theorem aaj{w:World}{nd:aj}(h:eu K w nd) :
  Calls Tryz.prog 194 #[nd.v] w fun e w'=>e = .returned nd.Hf∧Ext w w':=by
 obtain⟨a1,c1,ecs⟩:=h.1.2.2.2.2.1.1.shape;obtain⟨a2,c2,eps⟩:=h.1.2.2.2.2.2.2.2.1.1.shape;obtain⟨a3,c3,efs⟩:=h.1.2.2.2.2.2.2.2.2.2.1.1.shape;obtain⟨a4,c4,ess⟩:=h.1.2.2.2.2.2.2.2.2.2.2.2.1.1.shape;refine azN Tryz.func194 Tryz.ntmps194 fun ac S=>azc fun _ gW=>Sx.qO S 1 nd.cells fun ac u b2 E3 hb4 S=>apB S 1 [] [(2,.nilIface)] fun S=>aza<|gW _ _<|azc fun _ Bg=>apB S 5 [.mem 0 42] [(3,.bool (0<(nd.stroke.length:Int)))] fun S=>aza<|Bg _ _<|azX fun _ κ6=>Sx.draw S 50 [.mem 0 33,.mem 0 34,.mem 0 35,.mem 0 42,.mem 0 36,.mem 0 36,.mem 0 35,.mem 0 42] [(_,_,true,.bool (jO nd.path)),(_,_,true,dK (!(jO nd.path)) 10),(_,_,true,.bool ((nd.aT==1)||(nd.aT==2))),(_,_,true,dK (!((nd.aT==1)||(nd.aT==2))) 2),(_,_,true,dK ((decide (1<(nd.fill.length:Int)))||(decide (1<(nd.stroke.length:Int)))) 5),(_,_,(decide (0<(nd.stroke.length:Int))),.bool (nd.style.valid)),(_,_,true,dK ((decide (0<(nd.stroke.length:Int)))&&(!(nd.style.valid))) 13),(_,_,(!(decide (0<(nd.stroke.length:Int)))),.bool (nd.style.eq aS.bare)),(_,_,true,dK ((!(decide (0<(nd.stroke.length:Int))))&&(!(nd.style.eq aS.bare))) 17),(_,_,true,.bool (nd.fill.all ak.valid)),(_,_,(!(!(nd.fill.all ak.valid))),.bool (nd.stroke.all ak.valid)),(_,_,true,dK ((!(nd.fill.all ak.valid))||(!(nd.stroke.all ak.valid))) 16)] [(12,dK (!(jO nd.path)) 10),(17,dK (!((nd.aT==1)||(nd.aT==2))) 2),(28,dK ((decide (1<(nd.fill.length:Int)))||(decide (1<(nd.stroke.length:Int)))) 5),(36,dK ((decide (0<(nd.stroke.length:Int)))&&(!(nd.style.valid))) 13),(46,dK ((!(decide (0<(nd.stroke.length:Int))))&&(!(nd.style.eq aS.bare))) 17),(57,dK ((!(nd.fill.all ak.valid))||(!(nd.stroke.all ak.valid))) 16)] ⟨fun u hC g=>yK (h.1.2.2.2.2.2.2.2.1.below (Ext.trans' S.E hC)),fun u hC g=>azB (iT (!(jO nd.path)) 10 _),fun u hC g=>azB (Qd nd.aT _),fun u hC g=>azB (iT (!((nd.aT==1)||(nd.aT==2))) 2 _),fun u hC g=>azB (iT ((decide (1<(nd.fill.length:Int)))||(decide (1<(nd.stroke.length:Int)))) 5 _),fun u hC g=>ZA (p:=nd.style) (h.1.2.2.2.2.2.2.2.2.2.2.1.below (Ext.trans' S.E hC)),fun u hC g=>azB (iT ((decide (0<(nd.stroke.length:Int)))&&(!(nd.style.valid))) 13 _),fun u hC g=>vV (p:=nd.style) (q:=aS.bare) (h.1.2.2.2.2.2.2.2.2.2.2.1.below (Ext.trans' S.E hC)) (aS.gB _),fun u hC g=>azB (iT ((!(decide (0<(nd.stroke.length:Int))))&&(!(nd.style.eq aS.bare))) 17 _),fun u hC g=>Yg (K:=K) (oP.below ⟨h.1.2.2.2.2.2.2.2.2.2.1,h.2.2.1,h.2.2.2.2.1,h.2.2.2.2.2⟩ (Ext.trans' S.E hC)),fun u hC g=>Yg (K:=K) (oP.below ⟨h.1.2.2.2.2.2.2.2.2.2.2.2.1,h.2.2.2.1,h.2.2.2.2.1,h.2.2.2.2.2⟩ (Ext.trans' S.E hC)),fun u hC g=>azB (iT ((!(nd.fill.all ak.valid))||(!(nd.stroke.all ak.valid))) 16 _),trivial⟩ (fun ac u E7 S=>?_);refine QU S 58 (dK (!(jO nd.path)) 10) (dK (!((nd.aT==1)||(nd.aT==2))) 2) (dK ((decide (1<(nd.fill.length:Int)))||(decide (1<(nd.stroke.length:Int)))) 5) (dK ((decide (0<(nd.stroke.length:Int)))&&(!(nd.style.valid))) 13) (dK ((!(decide (0<(nd.stroke.length:Int))))&&(!(nd.style.eq aS.bare))) 17) (dK ((!(nd.fill.all ak.valid))||(!(nd.stroke.all ak.valid))) 16) rfl rfl rfl rfl (fJ _ _) (fJ _ _) (fJ _ _) (fJ _ _) (fJ _ _) (fJ _ _) (fun ac u b8 E9 zo S=>?_);refine Sx.Bh S 59 (first_any (Sx.kW (f:=fun p:Bool×Int=>dK p.1 p.2) [(!(jO nd.path),10),(!((nd.aT==1)||(nd.aT==2)),2),((decide (1<(nd.fill.length:Int)))||(decide (1<(nd.stroke.length:Int))),5),((decide (0<(nd.stroke.length:Int)))&&(!(nd.style.valid)),13),((!(decide (0<(nd.stroke.length:Int))))&&(!(nd.style.eq aS.bare)),17),((!(nd.fill.all ak.valid))||(!(nd.stroke.all ak.valid)),16)] (S.bx 0) (by show 6≤9223372036854775807; decide))) fun ac u Au S=>apB S 1 [] [(2,(ku [(!(jO nd.path),10),(!((nd.aT==1)||(nd.aT==2)),2),((decide (1<(nd.fill.length:Int)))||(decide (1<(nd.stroke.length:Int))),5),((decide (0<(nd.stroke.length:Int)))&&(!(nd.style.valid)),13),((!(decide (0<(nd.stroke.length:Int))))&&(!(nd.style.eq aS.bare)),17),((!(nd.fill.all ak.valid))||(!(nd.stroke.all ak.valid)),16)]))] fun S=>aza<|κ6 _ _<|Sx.UD S Tryz.results194 ?_;exact⟨azT Ending.returned (by unfold aj.Hf aj.su; rfl),S.E⟩
open Go.RowKit
variable{α:Type}{K:Nat}
def aj.QV(nd:aj):Value:=cond ((nd.kind)==1) (dK (!(decide (1≤nd.blend)&&decide (nd.blend≤13))) 2) (cond ((nd.kind)==2) (nd.Hf) ((ku [(!(nd.img.valid),16),(((nd.cZ) != 1)&&((nd.cZ) != 2),2)])))
theorem QW{w:World}{nd:aj}(h:eu K w nd) :
  Calls Tryz.prog 143 #[nd.v] w fun e w'=>e = .returned nd.QV∧Ext w w':=by
 obtain⟨a1,c1,ecs⟩:=h.1.2.2.2.2.1.1.shape;obtain⟨a2,c2,eps⟩:=h.1.2.2.2.2.2.2.2.1.1.shape;obtain⟨a3,c3,efs⟩:=h.1.2.2.2.2.2.2.2.2.2.1.1.shape;obtain⟨a4,c4,ess⟩:=h.1.2.2.2.2.2.2.2.2.2.2.2.1.1.shape;refine azN Tryz.func143 Tryz.ntmps143 fun ac S=>azc fun _ gW=>Sx.qO S 1 nd.cells fun ac u b2 E3 hb4 S=>apB S 1 [] [(2,.nilIface)] fun S=>aza<|gW _ _<|azX fun _ Bg=>azc fun _ κ6=>apB S 2 [.mem 0 1] [(4,.i nd.kind)] fun S=>aza<|κ6 _ _<|aAC<|azc fun _ Vo=>apB S 2 [] [(5,.bool ((nd.kind)==1))] fun S=>aza (Vo _ _ ?_);refine azC S (fun hc8=>?_) (fun hc8=>?_)
 ·refine azc fun _ κ9=>apB S 2 [.mem 0 30] [(8,.i nd.blend)] fun S=>Sx.calls S 9 (abV nd.blend _) fun ac S=>apB S 1 [] [(10,.bool (!(decide (1≤nd.blend)&&decide (nd.blend≤13))))] fun S=>Sx.calls S 11 (iT (!(decide (1≤nd.blend)&&decide (nd.blend≤13))) 2 _) fun ac S=>apB S 1 [] [(2,dK (!(decide (1≤nd.blend)&&decide (nd.blend≤13))) 2)] fun S=>aza<|κ9 _ _<|Sx.UD S Tryz.results143 ?_;exact⟨azT Ending.returned (by unfold aj.QV; rw[hc8]; rfl),S.E⟩
 refine azc fun _ zD=>apB S 2 [] [(12,.bool ((nd.kind)==2))] fun S=>aza (zD _ _ ?_);refine azC S (fun gU=>?_) (fun gU=>?_)
 ·refine azc fun _ QX=>apB S 1 [.mem 0 0] [(14,nd.v)] fun S=>Sx.Bh S 15 (aaj (h.below S.E)) fun ac u EM S=>apB S 1 [] [(2,nd.Hf)] fun S=>aza<|QX _ _<|Sx.UD S Tryz.results143 ?_;exact⟨azT Ending.returned (by unfold aj.QV; rw[hc8,gU]; rfl),S.E⟩
 refine aAi<|Bg _ _<|azX fun _ vN=>Sx.draw S 14 [.mem 0 43,.mem 0 46,.mem 0 46] [(_,_,true,.bool (nd.img.valid)),(_,_,true,dK (!(nd.img.valid)) 16),(_,_,true,dK (((nd.cZ) != 1)&&((nd.cZ) != 2)) 2)] [(20,dK (!(nd.img.valid)) 16),(29,dK (((nd.cZ) != 1)&&((nd.cZ) != 2)) 2)] ⟨fun u hC g=>AB (m:=nd.img) (h.1.2.2.2.2.2.2.2.2.2.2.2.2.1.below (Ext.trans' S.E hC)),fun u hC g=>azB (iT (!(nd.img.valid)) 16 _),fun u hC g=>azB (iT (((nd.cZ) != 1)&&((nd.cZ) != 2)) 2 _),trivial⟩ (fun ac u E15 S=>?_);refine ac9 S 30 (dK (!(nd.img.valid)) 16) (dK (((nd.cZ) != 1)&&((nd.cZ) != 2)) 2) rfl rfl rfl rfl (fJ _ _) (fJ _ _) (fun ac u b16 yJ agm S=>?_);refine Sx.Bh S 31 (first_any (Sx.kW (f:=fun p:Bool×Int=>dK p.1 p.2) [(!(nd.img.valid),16),(((nd.cZ) != 1)&&((nd.cZ) != 2),2)] (S.bx 0) (by show 2≤9223372036854775807; decide))) fun ac u KP S=>apB S 1 [] [(2,(ku [(!(nd.img.valid),16),(((nd.cZ) != 1)&&((nd.cZ) != 2),2)]))] fun S=>aza<|vN _ _<|Sx.UD S Tryz.results143 ?_;exact⟨azT Ending.returned (by unfold aj.QV; rw[hc8,gU]; rfl),S.E⟩
end
section
open Go.RowKit
variable{α:Type}
def dw(w:World):Prop:=0 < w.heap.size∧w.rangeAt 0 0 [.iface 296 (.agg #[.q Tryz.prog.globals.size 210])]
theorem rls(v x:Value):Go.Extern.ReflectliteValue.set #[v,x]=(do
  let (some (dst,a,fl),some (src,b,_)):=(←Go.Extern.ReflectliteValue.parts v,←Go.Extern.ReflectliteValue.parts x)
   | unsupported (.noEntry "extern/(internal/reflectlite.Value).Set.zeroValue")
  if fl/Go.Extern.ReflectliteValue.flagAddr%2==0 then unsupported (.noEntry "extern/(internal/reflectlite.Value).Set.unaddressable")
  let val ←loadVar src b
  if ←Go.Extern.Rtype.directlyAssignable dst src then storeVar dst a val
  else if ←Go.Extern.Rtype.implements dst src then
   if (←Go.Extern.Rtype.kind src)==20 then
    match val with
    | .nilIface=>unsupported (.noEntry "extern/reflectlite: a nil value of one interface type handed on as a value of another")
    | _=>storeVar dst a val
   else storeVar dst a (.iface src val)
  else panicString ("reflectlite.Set: value of type " ++ (←Go.Extern.Rtype.spelt src) ++ " is not assignable to type " ++ (←Go.Extern.Rtype.spelt dst))
  pure (.tuple #[])):=rfl
theorem Hg(b:Nat)(w:World):(Go.Extern.ReflectliteValue.parts (.agg #[.q Tryz.prog.globals.size 213,.q b 0,.int .u64 409])).run Tryz.prog w = .ok (some (213,⟨b,0,none⟩,409)) w:=by kernel_rfl
theorem Hl(b:Nat)(w:World):(Go.Extern.ReflectliteValue.parts (.agg #[.q Tryz.prog.globals.size 213,.q b 0,.int .u64 153])).run Tryz.prog w = .ok (some (213,⟨b,0,none⟩,153)) w:=by kernel_rfl
theorem NI(w:World):(Go.Extern.Rtype.directlyAssignable 213 213).run Tryz.prog w = .ok true w:=by kernel_rfl
theorem aak(t b:Nat)(n:Int)(e:Value){w:World}{x0 x1:Value}(hb:Bx w b #[.i n,e])(ht:Bx w t #[x0,x1])(he:e.oneCell'=true) :
  (Go.Extern.ReflectliteValue.set #[.agg #[.q Tryz.prog.globals.size 213,.q t 0,.int .u64 409],.agg #[.q Tryz.prog.globals.size 213,.q b 0,.int .u64 153]]).run Tryz.prog w = .ok (.tuple #[]) (w.setCells t 0 [.i n,e]) ∧
   Ch t w (w.setCells t 0 [.i n,e])∧Bx (w.setCells t 0 [.i n,e]) t #[.i n,e]:=by
 refine⟨?_,(Ch.refl t w).setCells _ _,Bx.set ht _ rfl⟩;rw[rls];have h1:=run_loadVar_mid (P:=Tryz.prog) w b 0 213 [.i n,e] _ (hb.range 0 2 rfl) Tryz.underlying213 rfl (by kernel_rfl);have h2:=run_storeVar_mid (P:=Tryz.prog) w t 0 213 #[.i n,e] (ht.there rfl) (by kernel_rfl) (by simp only[List.all_toArray,List.all_cons,List.all_nil,he,Bool.and_true]; rfl);have p1:=Hg t w;have p2:=Hl b w;have p3:=NI w;have p4:(409/Go.Extern.ReflectliteValue.flagAddr%2==0)=false:=by decide
 generalize Tryz.prog.globals.size=g at p1 p2 ⊢;simp only[aAI,p1,p2,Result.andThen,p4,aB1,if_false,h1,p3,if_true];rw[h2];rfl
theorem ajF{ρ:Operand→Value}{o:Oper}{x y:Operand}{ts:Array TypeId}{u v V:Value}{w w1:World}(hop:o.op = .call { callee := .value (.func 240),args := #[x,y],argTypes:=ts })(hf:ρ (.func 240) = .func (.func 240) #[] #[])
  (hx:ρ x=u) (hy:ρ y=v) (hs:(Go.Extern.ReflectliteValue.set #[u,v]).run Tryz.prog w = .ok V w1):(execOp ρ o).run Tryz.prog w = .ok (.value V) w1:=by
 have h12:=@run_callFunc_extern Tryz.prog 240 _ Go.Extern.ReflectliteValue.set Tryz.func240 (by kernel_rfl) (by kernel_rfl) (by kernel_rfl) (by kernel_rfl);unfold execOp;rw[hop];simp[go_sem,hf,hx,hy,h12,hs]
theorem as_nil(t:Value)(w:World) :
  Calls Tryz.prog 144 #[.nilIface,t] w fun e w'=>e = .returned (.z)∧w=w':=by
 skip;refine aze Tryz.func144 Tryz.ntmps144 fun S=>azn S fun S=>ay9 S (.z) (fun S=>?_);exact⟨rfl,rfl⟩
theorem agu{w0 w:World}{n:Int}{e x0 x1:Value}{t b:Nat}(he:e.oneCell'=true)(hE:Ext w0 w)(ht:Bx w t #[x0,x1])(hb:w0.heap.size≤t)(hv:b<w.heap.size∧w.rangeAt b 0 [.q t 0]∧t≠b) :
  Calls Tryz.prog 199 #[.iface 213 (.agg #[.i n,e]),.iface 215 (.q t 0),.agg #[.q Tryz.prog.globals.size 215,.q b 0,.int .u64 150],.iface 296 (.agg #[.q Tryz.prog.globals.size 213])] w fun ev w'=>ev = .returned (.bool true)∧Ext w0 w'∧Ch t w w'∧Bx w' t #[.i n,e]:=by
 skip;refine Sx.Dc Tryz.func199 Tryz.ntmps199 hE ht hb (fun ac S=>?_);have S:=S.view hv.1 hv.2.1 (fun p hp=>by obtain rfl:=aAb.1 hp; exact hv.2.2);refine azc fun _ gW=>Sx.qO S 6 [.q Tryz.prog.globals.size 215,.q b 0,.int .u64 150] fun ac u b2 E3 hb4 S=>apB S 1 [] [(8,.z)] fun S=>aza<|gW _ _<|aAC<|wp_loop_rounds 1 ?_;rw[aBT];refine aAC<|azX fun _ Bg=>azc fun _ κ6=>apB S 4 [] [(19,.bool true)] fun S=>aza<|κ6 _ _<|Sx.Ho S<|azc fun _ Vo=>apB S 3 [.mem 0 0,.lds [(2,0)]] [(21,.agg #[.q Tryz.prog.globals.size 213,.q t 0,.int .u64 409]),(22,.iface 213 (.agg #[.i n,e]))] fun S=>Sx.new S 23 [.i n,e] (fun b => .agg #[.q Tryz.prog.globals.size 213,.q b 0,.int .u64 153]) (fun ac u b8 E9 zo S=>?_);have hs:=aak t b8 n e (w:=u) (S.bx 0) (S.bx 2) he;refine Sx.wrote S 2 [.i n,e] (.tuple #[]) (some 24) rfl rfl rfl rfl ?_ hs.2.1 hs.2.2 (uI S.E hb _ _) (fun ac S=>?_)
 ·exact ajF rfl rfl (S.s.has 21 _ rfl) (S.s.has 23 _ rfl) hs.1
 have JC:=Ch.trans (Ch.trans (Ch.refl t w) (Ch.aZ (Ext.trans' E3 E9))) hs.2.1;refine aza<|Vo _ _<|azc fun _ vN=>apB S 1 [] [(8,.bool true)] fun S=>aza<|vN _ _<|Sx.UD S Tryz.results199 ?_;exact⟨rfl,S.E,JC,S.bx 2⟩
theorem dw.below{w w':World}(h:dw w)(hE:Ext w w'):dw w':=⟨aAa h.1 hE.size,Vp.pW h.2 h.1 hE⟩
theorem as_hit{w0 w:World}{n:Int}{e x0 x1:Value}{t:Nat}(he:e.oneCell'=true)(hE:Ext w0 w)(ht:Bx w t #[x0,x1])(hb:w0.heap.size≤t)(hg:dw w0) :
  Calls Tryz.prog 144 #[.iface 213 (.agg #[.i n,e]),.iface 215 (.q t 0)] w fun ev w'=>ev = .returned (.bool true)∧Ext w0 w'∧Ch t w w'∧Bx w' t #[.i n,e]:=by
 skip;refine Sx.Dc Tryz.func144 Tryz.ntmps144 hE ht hb (fun ac S=>?_);have S:=S.view0 hg.1 hg.2;refine azc fun _ gW=>apB S 1 [] [(4,.z)] fun S=>aza<|gW _ _<|azX fun _ Yh=>azc fun _ κ3=>apB S 2 [] [(9,.z)] fun S=>aza<|κ3 _ _<|Sx.D7 S<|aAi<|Yh _ _<|azX fun _ κ4=>azc fun _ Bg=>apB S 2 [] [(11,.z)] fun S=>aza<|Bg _ _<|Sx.D7 S<|aAi<|κ4 _ _<|azc fun _ κ6=>apB S 1 [] [(13,.iface 215 (.q t 0))] fun S=>Sx.new S 14 [.q t 0] (fun b => .agg #[.q Tryz.prog.globals.size 215,.q b 0,.int .u64 150]) fun ac u b7 E8 hb9 S=>Sx.qO S 5 [.pointer none,.pointer none,.int .u64 0] fun ac u b10 Au GV S=>azH S 0 (off:=0) (cs:=[.q Tryz.prog.globals.size 215,.q b7 0,.int .u64 150]) rfl (fun u C13 S=>?_);have yG:=azg (Ext.trans' E8 Au) C13 (by have:=E8.size; omega);refine aza<|κ6 _ _<|azc fun _ Hq=>apB S 3 [.mem 0 0] [(6,.iface 296 (.agg #[.q Tryz.prog.globals.size 215]))] fun S=>aza<|Hq _ _<|azX fun _ zG=>azc fun _ NJ=>apB S 7 [.mem 0 0,.lds [(1,0)]] [(23,.z)] fun S=>aza<|NJ _ _<|Sx.D7 S<|aAi<|zG _ _<|azc fun _ Vq=>apB S 3 [] [(7,.iface 296 (.agg #[.q Tryz.prog.globals.size 213]))] fun S=>aza<|Vq _ _<|azX fun _ ajG=>azc fun _ aal=>apB S 9 [.mem 3 0] [(35,.z)] fun S=>aza<|aal _ _<|Sx.D7 S<|aAi<|ajG _ _<|azc fun _ adf=>apB S 4 [.mem 0 0] [(37,.iface 213 (.agg #[.i n,e])),(38,.iface 215 (.q t 0)),(39,.agg #[.q Tryz.prog.globals.size 215,.q b7 0,.int .u64 150]),(40,.iface 296 (.agg #[.q Tryz.prog.globals.size 213]))] (fun S=>?_);have hlt:=(S.bx 1).1;refine Sx.aik S 2 [.i n,e] (some 41) rfl (agu (n:=n) (t:=t) (b:=b7) he S.E (S.bx 2) hb ⟨(S.bx 1).1,(S.bx 1).range 0 1 rfl,S.ne (i:=2) (j:=1) rfl rfl (by decide)⟩) ?_;rintro e u ⟨rfl,aqG,amR,aqH⟩;refine⟨_,rfl,aqG,amR,aqH,fun ac S=>?_⟩;have F23:=Ch.trans (Ch.trans (Ch.refl t w) (Ch.aZ yG)) amR;refine apB S 1 [] [(4,.bool true)] fun S=>aza<|adf _ _<|Sx.UD S Tryz.results144 ?_;exact⟨rfl,S.E,F23,S.bx 2⟩
open Go.RowKit
variable{α:Type}{K:Nat}
def mW:List (Bool×Int)→Int
 | []=>0
 | p::l=>if p.1=true then p.2 else mW l
def badL(l:List (Bool×Int)):Bool:=l.any (·.1)
abbrev jm (n:Int)(e:Value):Value := .iface 213 (.agg #[.i n,e])
theorem uO:∀l:List (Bool×Int),(badL l=false∧ku l = .nilIface∧mW l=0)∨(badL l=true∧∃n,ku l=jm 0 (jm n .nilIface)∧mW l=n)
 | [] => .inl ⟨rfl,rfl,rfl⟩
 | p::l=>by
  unfold ku mW badL
  rw[List.any_cons]
  cases hp:p.1 with
  | true=>exact .inr ⟨rfl,p.2,azI rfl,azI rfl⟩
  | false =>
   rw[azG (by simp),azG (by simp),Bool.false_or]
   exact uO l
def aj.qP(nd:aj):Int:=cond ((nd.kind)==1) (mW [((!(decide (1≤nd.blend)&&decide (nd.blend≤13))),2)]) (cond ((nd.kind)==2) (mW nd.su) ((mW [(!(nd.img.valid),16),(((nd.cZ) != 1)&&((nd.cZ) != 2),2)])))
def aj.checkN(nd:aj):Int:=_root_.cond (badL nd.jP) (mW nd.jP) nd.qP
theorem Vr(nd:aj):(nd.QV = .nilIface∧nd.qP=0)∨(nd.QV=jm nd.qP .nilIface)∨(nd.QV=jm 0 (jm nd.qP .nilIface)):=by
 have hL:∀l,(ku l = .nilIface∧mW l=0)∨(ku l=jm (mW l) .nilIface)∨(ku l=jm 0 (jm (mW l) .nilIface)):=by
  intro l;rcases uO l with ⟨_,h1,h2⟩ | ⟨_,n,h1,h2⟩
  ·exact .inl ⟨h1,h2⟩
  exact .inr (.inr (by rw[h1,h2]))
 have hW:∀b n,(dK b n = .nilIface∧mW [(b,n)]=0)∨(dK b n=jm (mW [(b,n)]) .nilIface)∨(dK b n=jm 0 (jm (mW [(b,n)]) .nilIface)):=by
  intro b n;cases b<;>simp[dK,mW]
 unfold aj.QV aj.qP aj.Hf;cases h1:nd.kind==1
 ·cases h2:nd.kind==2
  ·exact hL _
  exact hL _
 exact hW _ _
theorem yM{w:World}{nd:aj}(h:eu K w nd)(hg:dw w) :
  Calls Tryz.prog 96 #[nd.v] w fun e w'=>e = .returned (.i nd.checkN)∧Ext w w':=by
 skip;refine aze Tryz.func96 Tryz.ntmps96 fun S=>azh S nd.cells fun u b2 E3 hb4 S=>adr S 2 [] [.mem 0 0] fun S=>azp S (Vm (h.below S.E)) (fun u E6 S=>?_);rcases uO nd.jP with ⟨hb,he,hc⟩ | ⟨hb,n,he,hc⟩
 ·rw[show nd.xK = .nilIface from he]at S;try rw[show nd.xK = .nilIface from he]
  refine azn S fun S=>adr S 1 [] [.mem 0 0] fun S=>azp S (QW (h.below S.E)) (fun u E9 S=>?_);rcases Vr nd with ⟨ho,hn⟩ | ho | ho
  ·rw[ho]at S;try rw[ho]
   refine azh S [.i 0,.nilIface] fun u b12 EM aae S=>Sx.Z5 S 3 fun S=>Sx.lU S (as_nil (.iface 215 (.q b12 0)) _) fun S=>azu S fun S=>ay9 S (.i 0) (fun S=>?_);exact⟨by unfold aj.checkN; rw[hb]; simp only[_root_.cond]; rw[hn],S.E⟩
  ·rw[ho]at S;try rw[ho]
   refine azh S [.i 0,.nilIface] fun u b21 P5 ajH S=>Sx.Z5 S 3 fun S=>Sx.zH S 0 [.i nd.qP,.nilIface] rfl (as_hit (n:=nd.qP) (e := .nilIface) rfl S.E (S.bx 0) (S.old 0) hg) ?_;rintro e u ⟨rfl,ajI,aam,ajJ⟩;refine⟨_,rfl,ajI,aam,ajJ,fun S=>?_⟩;refine azn S fun S=>azs S 5 [.mem 0 0,.mem 0 1] [] [(4,.i nd.qP),(18,.nilIface)] trivial fun u QC S=>Sx.lU S (as_nil (.iface 215 (.q b21 0)) _) fun S=>azu S fun S=>ay9 S (.i nd.qP) (fun S=>?_);exact⟨by unfold aj.checkN; rw[hb]; simp only[_root_.cond],S.E⟩
  rw[ho]at S;try rw[ho]
  refine azh S [.i 0,.nilIface] fun u b34 Fq ajK S=>Sx.Z5 S 3 fun S=>Sx.zH S 0 [.i 0,jm nd.qP .nilIface] rfl (as_hit (n:=0) (e:=jm nd.qP .nilIface) rfl S.E (S.bx 0) (S.old 0) hg) ?_;rintro e u ⟨rfl,Vs,NK,adg⟩;refine⟨_,rfl,Vs,NK,adg,fun S=>?_⟩;refine azn S fun S=>azs S 5 [.mem 0 0,.mem 0 1] [] [(4,.i 0),(18,jm nd.qP .nilIface)] trivial fun u KQ S=>Sx.zH S 0 [.i nd.qP,.nilIface] rfl (as_hit (n:=nd.qP) (e := .nilIface) rfl S.E (S.bx 0) (S.old 0) hg) ?_;rintro e u ⟨rfl,aqI,aqJ,aqK⟩;refine⟨_,rfl,aqI,aqJ,aqK,fun S=>?_⟩;refine azn S fun S=>azs S 5 [.mem 0 0,.mem 0 1] [] [(4,.i nd.qP),(18,.nilIface)] trivial fun u E45 S=>Sx.lU S (as_nil (.iface 215 (.q b34 0)) _) fun S=>azu S fun S=>ay9 S (.i nd.qP) (fun S=>?_);exact⟨by unfold aj.checkN; rw[hb]; simp only[_root_.cond],S.E⟩
 rw[show nd.xK=jm 0 (jm n .nilIface)from he]at S;try rw[show nd.xK=jm 0 (jm n .nilIface)from he]
 refine azu S fun S=>azh S [.i 0,.nilIface] fun u b53 E54 aqL S=>Sx.Z5 S 3 fun S=>Sx.zH S 0 [.i 0,jm n .nilIface] rfl (as_hit (n:=0) (e:=jm n .nilIface) rfl S.E (S.bx 0) (S.old 0) hg) ?_;rintro e u ⟨rfl,ajL,adh,ajM⟩;refine⟨_,rfl,ajL,adh,ajM,fun S=>?_⟩;refine azn S fun S=>azs S 5 [.mem 0 0,.mem 0 1] [] [(4,.i 0),(18,jm n .nilIface)] trivial fun u E60 S=>Sx.zH S 0 [.i n,.nilIface] rfl (as_hit (n:=n) (e := .nilIface) rfl S.E (S.bx 0) (S.old 0) hg) ?_;rintro e u ⟨rfl,aqM,aqN,aqO⟩;refine⟨_,rfl,aqM,aqN,aqO,fun S=>?_⟩;refine azn S fun S=>azs S 5 [.mem 0 0,.mem 0 1] [] [(4,.i n),(18,.nilIface)] trivial fun u E64 S=>Sx.lU S (as_nil (.iface 215 (.q b53 0)) _) fun S=>azu S fun S=>ay9 S (.i n) (fun S=>?_);exact⟨by unfold aj.checkN; rw[hb]; simp only[_root_.cond]; rw[hc],S.E⟩
theorem JR{w:World}{nd:aj}(h:eu K w nd)(hg:dw w) :
  Calls Tryz.prog 58 #[nd.v] w fun e w'=>e = .returned (.bool (nd.checkN==0))∧Ext w w':=by
 skip;refine aze Tryz.func58 Tryz.ntmps58 fun S=>azd S fun u b2 E3 hb4 S=>adr S 2 [] [.mem 0 0] fun S=>azp S (yM (h.below S.E) (hg.below S.E)) fun u E6 S=>ay9 S (.bool ((nd.checkN)==0)) (fun S=>?_);exact⟨rfl,S.E⟩
open Go.RowKit
variable{α:Type}{K:Nat}
theorem aA.aan{base:Nat}{w:World}{v:Value}{q:Bool×Nat×Nat}(h:dO base w v q):∃r:bI,v=r.v∧r.ok w∧r.n1=q.1∧r.l1=Na.au q.2.1∧r.n2=false∧r.l2=Na.au q.2.2:=by
 obtain⟨s,t,rfl,hs,ht,_⟩:=h;have hs':=hs;have ht':=ht;obtain⟨a1,c1,rfl,_⟩:=hs;obtain⟨a2,c2,rfl,_⟩:=ht;exact⟨⟨q.1,a1,c1,Na.au q.2.1,false,a2,c2,Na.au q.2.2⟩,rfl,⟨hs',ht'⟩,rfl,rfl,rfl,rfl⟩
theorem KW{r:bI}{q:Bool×Nat×Nat}(h1:r.n1=q.1)(h2:r.l1=Na.au q.2.1)(h3:r.n2=false)(h4:r.l2=Na.au q.2.2)(hn:KL q):r.q=q:=by
 unfold bI.q;rw[h1,h2,h3,h4,Na.aB,Na.aB]; exact hn
theorem xM{r:bI}{q:Bool×Nat×Nat}{K:Nat}(h2:r.l1=Na.au q.2.1)(h4:r.l2=Na.au q.2.2)(hl:qlen K q):r.fit K:=⟨by rw[h2]; exact hl.1,by rw[h4]; exact hl.2⟩
theorem NM:Bc qI:=⟨by decide,by decide,by decide,by decide,by decide,by decide⟩
theorem ajN:QG 1 qI:=by
 have h1:qlen 1 (false,1,1):=⟨AV,AV⟩;have h0:qlen 1 (false,0,1):=⟨by show(Na.au 0).length≤1; rw[Na.jA]; simp,AV⟩;exact⟨h1,h0,h0,h1,h0,h0⟩
def iK(id:Int)(t:bG):aj:=⟨id,2,0,t,none,0,[],0,0,0,false,false,none,0,[],1,none,0,[],aS.bare,none,0,[],dB.bare,0⟩
def bK:aj:=⟨0,0,0,bG.none,none,0,[],0,0,0,false,false,none,0,[],0,none,0,[],aS.bare,none,0,[],dB.bare,0⟩
theorem oQ(w:World):wE w (.sn) []:=⟨dI _ _ _,fun s hs=>by cases hs⟩
theorem kM(w:World):iV w (.sn) []:=⟨dI _ _ _,fun s hs=>by cases hs⟩
theorem aao{w:World}{id:Int}{t:bG}(hid:I64 id)(ht:t.ok w)(hf:t.fit 1)(hK:1≤K)(hK2:K≤10000):eu K w (iK id t):=
 ⟨⟨hid,(show I64 2 by decide),eY,ht,oQ w,eY,eY,oQ w,(show I64 1 by decide),kM w,aS.gB w,kM w,dB.gB w,eY⟩,⟨hf.1.mono hK,hf.2.1.mono hK,hf.2.2.1.mono hK,hf.2.2.2.1.mono hK,hf.2.2.2.2.1.mono hK,hf.2.2.2.2.2.mono hK⟩,fun p hp=>(by cases hp),fun p hp=>(by cases hp),hK,hK2⟩
theorem gJ(w:World)(hK:1≤K)(hK2:K≤10000):eu K w bK:=
 ⟨⟨eY,eY,eY,bG.gy w,oQ w,eY,eY,oQ w,eY,kM w,aS.gB w,kM w,dB.gB w,eY⟩,bG.iD K,fun p hp=>(by cases hp),fun p hp=>(by cases hp),hK,hK2⟩
theorem NP:bK.checkN=2:=rfl
theorem bI.ok.dX{w w':World}{r:bI}{b:Nat}{A:Array Value}(h:r.ok w)(hc:Ch b w w')(hx:Bx w b A)(hA:A.toList.all AY=true):r.ok w':=⟨KN h.1 hc hx hA,KN h.2 hc hx hA⟩
theorem bG.ok.dX{w w':World}{t:bG}{b:Nat}{A:Array Value}(h:t.ok w)(hc:Ch b w w')(hx:Bx w b A)(hA:A.toList.all AY=true:=by rfl):t.ok w':=
 ⟨h.1.dX hc hx hA,h.2.1.dX hc hx hA,h.2.2.1.dX hc hx hA,h.2.2.2.1.dX hc hx hA,h.2.2.2.2.1.dX hc hx hA,h.2.2.2.2.2.dX hc hx hA⟩
end
section
open Go.RowKit Go.ChangeShapes Go.WideShapes
variable{α:Type}
section
variable{H:Type}{enc:TypeId×Value→H}{P:Program}{W:World}{sp:Nat→Bool}{held:Bool}{n:Nat}{cs:List Value}{y:DataW H×List MemPlace}
end
section
variable{H:Type}{enc:TypeId×Value→H}{W:World}{sp:Nat→Bool}{held:Bool}{n:Nat}{cs:List Value}{y:DataW H×List MemPlace}
end
theorem ace{W:World}(h2:handlesMet Tryz.prog [("errors.errorType",Rows.laid_errors_errorType)] W):dw W:=by
 have h3:=h2 _ (aAb.2 rfl);obtain⟨name,u,ty,e1,e2,hlt,hrow,hvar⟩:∃name u ty,Rows.laid_errors_errorType.handleName?=some name∧(Tryz.prog.cutTypes.find? (·.1 == "internal/reflectlite.rtype")).map (·.2)=some u∧ty<Tryz.prog.types.size∧Tryz.prog.rowNamed ty name=true ∧
  W.var? Tryz.prog "errors.errorType" = some #[.iface u (.agg #[typeHandle Tryz.prog ty])]:=h3
 have hu:u=296:=azR (e2.symm.trans (by kernel_rfl));have hn:name=[101,114,114,111,114]:=azR (e1.symm.trans (by kernel_rfl));have hall:((List.range Tryz.prog.types.size).all fun t => !Tryz.prog.rowNamed t [101,114,114,111,114]||t==210)=true:=by kernel_rfl
 rw[aAh]at hall;have h4:=hall ty (List.mem_range.2 hlt);rw[hn]at hrow;rw[hrow]at h4;have ht:ty=210:=by simpa using h4
 subst hu ht;unfold World.var? at hvar;rw[show Tryz.prog.globalNamed "errors.errorType" = some 0 by kernel_rfl,aBB]at hvar;cases hh:W.heap[(0 : Nat)]? with
 | none=>rw[hh]at hvar; cases hvar
 | some o =>
  rw[hh]at hvar;have hlt2:0 < W.heap.size:=(Array.getElem?_eq_some_iff.1 hh).1;cases o with
  | cells c t fz =>
   simp only[azK]at hvar;refine⟨hlt2,fun j v hj=>?_⟩;have:j=0:=by
    have:=(List.getElem?_eq_some_iff.1 hj).1;simp at this; exact this
   subst this;simp only[World.cell?,hh];rw[hvar];simpa[typeHandle]using hj
  | _=>cases hvar
end
end Go.Proofs.YtodpgjjgaddkeaaGreatDoor
section
namespace Go.Sx
open Go.Proofs.YtodpgjjgaddkeaaGreatDoor Go.RowKit Go.Rel
variable{P:Program}{ops:Array Oper}{Q:Exit→Act→World→Prop}{w0 w:World}{a:Act}{os:List Oper}{n:Nat}{l:List (Nat×Value)}{bl:List (Nat×List Value)}{vs:List eX}
theorem oZ{x y:Int}(h:x=y)(hb : -9223372036854775808≤y∧y≤9223372036854775807):Value.i (IntKind.i64.wrap x) = .i y:=by subst h; exact ail hb
theorem amS(S:St w0 a w n l bl vs)(d:Nat)(V:Value){w1:World}{o:Oper}{os':List Oper}(hos:os=o::os')(hg:o.guard=none)(hdst:o.dst=some d)(hrun:(execOp a.eval o).run P w = .ok (.value V) w1)(hE:Ext w w1)
  (next:∀{a'},St w0 a' w1 n ((d,V)::l) bl vs→wpList P ops Q (os.drop 1) a' w1) (hd:vG n (some d)=true:=by rfl):wpList P ops Q os a w:=by
 subst hos;unfold wpList;rw[azI (by simp[Region.wanted,hg])];left;unfold Oper.wp;rw[hrun];simp only[Oper.upon];rw[hdst];exact next ((S.grow hE).act (uP (d:=some d) S.s hd V))
end Go.Sx
namespace En
def dV:Nat→Nat→List UInt8
 | 0,_=>[]
 | f+1,n=>if n<128 then [UInt8.ofNat n]else UInt8.ofNat (n%128+128)::dV f (n/128)
def comb(k a:Nat):Except Nat (Nat×Nat)→Except Nat (Nat×Nat)
 | .ok (n,j) => .ok (a+128^k*n,k+j)
 | .error e => .error e
def lT:Nat→List UInt8→Except Nat (Nat×Nat)
 | _,[] => .error 4
 | 0,c::_=>if c.toNat=1 then .ok (1,1)else .error 3
 | f+1,c::l=>if c.toNat<128 then (if c.toNat=0∧f≠8 then .error 3 else .ok (c.toNat,1))else comb 1 (c.toNat%128) (lT f l)
theorem aap(r:Except Nat (Nat×Nat)):comb 0 0 r=r:=by
 rcases r with e | ⟨n,j⟩<;>simp[comb]
theorem aaq(k a c:Nat)(r:Except Nat (Nat×Nat)):comb k a (comb 1 c r)=comb (k+1) (a+128^k*c) r:=by
 rcases r with e | ⟨n,j⟩
 ·rfl
 simp only[comb,Nat.pow_one];congr 2
 ·rw[az6,aAr]; rw[aAs]; omega
 omega
theorem agv(f:Nat):lT f [] = .error 4:=by cases f<;>rfl
theorem adi(f:Nat)(c:UInt8)(l:List UInt8)(h:¬c.toNat<128):lT (f+1) (c::l)=comb 1 (c.toNat%128) (lT f l):=by
 rw[lT,azG h]
theorem Hr{n:Nat}(h:n<256):(UInt8.ofNat n).toNat=n:=by simp; omega
theorem amT(f:Nat):2^(7*(f+1)+1)=128*2^(7*f+1):=by
 rw[show 7*(f+1)+1=(7*f+1)+7 by omega,aBx,aAm]
theorem ajO(f:Nat):∀(l:List UInt8) (n k:Nat),lT f l = .ok (n,k) →
  n<2^(7*f+1)∧1≤k∧k≤l.length∧k≤f+1∧(9≤f∨f<9∧0<n)∧(f≤9→dV (f+1) n=l.take k):=by
 induction f with
 | zero =>
  intro l n k h;cases l with
  | nil=>simp[lT]at h
  | cons c l =>
   simp only[lT]at h;split at h
   ·rename_i hc;simp only[aB3,azP]at h;obtain⟨rfl,rfl⟩:=h;refine⟨by decide,by omega,by simp,by omega,.inr ⟨by omega,by omega⟩,fun _=>?_⟩;simp only[dV];have:c=1:=aBO.1 (by simpa using hc);rw[this]; rfl
   cases h
 | succ f ih =>
  intro l n k h;cases l with
  | nil=>simp[lT]at h
  | cons c l =>
   rw[amT];have hp:0<2^(7*f+1):=aCa (by omega);simp only[lT]at h;split at h
   ·rename_i hc;split at h
    ·cases h
    rename_i h0;simp only[aB3,azP]at h;obtain⟨rfl,rfl⟩:=h;refine⟨by omega,by omega,by simp,by omega,?_,fun _=>?_⟩
    ·by_cases e:c.toNat=0
     ·left; have:¬f≠8:=fun h=>h0 ⟨e,h⟩; omega
     by_cases e9:f+1<9
     ·right; omega
     left; omega
    rw[dV,azI hc]; simp
   rename_i hc;cases hr:lT f l with
   | error e=>rw[hr]at h; simp[comb]at h
   | ok p =>
    obtain⟨n',k'⟩:=p;rw[hr]at h;simp only[comb,Nat.pow_one,aB3,azP]at h;obtain⟨rfl,rfl⟩:=h;obtain⟨h1,h2,h3,h4,h5,h6⟩:=ih l n' k' hr;refine⟨by omega,by omega,by simp; omega,by omega,?_,fun hf=>?_⟩
    ·by_cases e9:f+1<9
     ·right; omega
     left; omega
    have hn:0<n':=by rcases h5 with h5 | h5<;>omega
    rw[dV,azG (by omega)];have e1:(c.toNat%128+128*n')/128=n':=by omega
    have e2:UInt8.ofNat ((c.toNat%128+128*n')%128+128)=c:=by
     apply aBO.1;rw[Hr (by omega)];have:=c.toNat_lt;omega
    rw[e1,e2,h6 (by omega)];rw[aBv 1 k']; rfl
theorem adk(f:Nat):∀(n:Nat) (r:List UInt8),n<2^(7*f+1)→(f=9∨f<9∧0<n)→lT f (dV (f+1) n++r) = .ok (n,(dV (f+1) n).length):=by
 induction f with
 | zero =>
  intro n r h h9;have:n=1:=by have:2^(7*0+1)=2:=rfl; omega
  subst this;rfl
 | succ f ih =>
  intro n r h h9;rw[amT]at h;rw[dV];split
  ·rename_i hn;simp only[aA0,aAH,lT,aAn,aAS];rw[Hr (by omega),azI hn,azG (by omega)]
  rename_i hn;simp only[aA0,lT,aAn];rw[Hr (by omega),azG (by omega),ih (n/128) r (by omega) (.inr ⟨by omega,by omega⟩)];simp only[comb,Nat.pow_one];congr 2
  ·omega
  omega
theorem iE(f:Nat):∀n,(dV f n).length≤f:=by
 induction f with
 | zero=>intro n; simp[dV]
 | succ f ih =>
  intro n;rw[dV]; split
  ·simp
  have:=ih (n/128); simp; omega
theorem Bj(f n:Nat):0<(dV (f+1) n).length:=by rw[dV]; split<;>simp
theorem oG(n:Nat)(r:List UInt8)(h:n<18446744073709551616):lT 9 (dV 10 n++r) = .ok (n,(dV 10 n).length):=
 adk 9 n r (by simpa using h) (.inl rfl)
theorem FB{l:List UInt8}{n k:Nat}(h:lT 9 l = .ok (n,k)):n<18446744073709551616∧1≤k∧k≤l.length∧k≤10∧dV 10 n=l.take k:=by
 obtain⟨h1,h2,h3,h4,_,h6⟩:=ajO 9 l n k h;exact⟨by simpa using h1,h2,h3,h4,h6 (azJ _)⟩
def zig(x:Int):Nat:=if x<0 then (-2*x-1).toNat else (2*x).toNat
def D8(n:Nat):Int:=if n%2=1 then -1-((n/2:Nat):Int)else ((n/2:Nat):Int)
theorem NQ{x:Int}(h : -9223372036854775808≤x)(h2:x≤9223372036854775807):zig x<18446744073709551616:=by unfold zig; split<;>omega
theorem Df(x:Int):D8 (zig x)=x:=by unfold D8 zig; split<;>split<;>omega
theorem adl{n:Nat}(h:n<18446744073709551616) : -9223372036854775808≤D8 n∧D8 n≤9223372036854775807:=by unfold D8; split<;>omega
def xO(l:List UInt8)(at_:Int):Nat×Nat×Nat:=
 if at_<0∨(l.length:Int)<at_ then (0,0,2)
 else match lT 9 (l.drop at_.toNat)with
  | .ok (n,k)=>(n,at_.toNat+k,0)
  | .error e=>(0,0,e)
def vat(l:List UInt8)(at_:Int):Int×Nat×Nat:=(D8 (xO l at_).1,(xO l at_).2)
theorem FC(f:Nat):∀(l:List UInt8) (e:Nat),lT f l = .error e→e=3∨e=4:=by
 induction f with
 | zero =>
  intro l e h;cases l with
  | nil=>simp only[lT,aBs]at h; omega
  | cons c l =>
   simp only[lT]at h;split at h<;>simp only[reduceCtorEq,aBs]at h;omega
 | succ f ih =>
  intro l e h;cases l with
  | nil=>simp only[lT,aBs]at h; omega
  | cons c l =>
   simp only[lT]at h;split at h
   ·split at h<;>simp only[reduceCtorEq,aBs]at h;omega
   cases hr:lT f l with
   | error e'=>rw[hr]at h; simp only[comb,aBs]at h; subst h; exact ih l _ hr
   | ok p=>obtain⟨n',k'⟩:=p; rw[hr]at h; simp[comb]at h
end En
namespace En
variable{α:Type}
def sZ(most:Int)(l:List UInt8):Except Nat (List UInt8×Nat):=
 match lT 9 l with
 | .error e => .error e
 | .ok (n,k)=>if most<0∨most<(n:Int)then .error 5 else if l.length-k<n then .error 4 else .ok ((l.drop k).take n,k+n)
def Yi(l:List UInt8)(at_ most:Int):List UInt8×Nat×Nat:=
 if at_<0∨(l.length:Int)<at_ then ([],0,2)
 else match sZ most (l.drop at_.toNat)with
  | .ok (s,k)=>(s,at_.toNat+k,0)
  | .error e=>([],0,e)
def fQ(s:List UInt8):List UInt8:=dV 10 s.length++s
theorem Ht{most:Int}{l s:List UInt8}{k:Nat}(h:sZ most l = .ok (s,k)):fQ s=l.take k∧k≤l.length∧1≤k∧(s.length:Int)≤most:=by
 unfold sZ at h;cases hu:lT 9 l with
 | error e=>rw[hu]at h; simp at h
 | ok p =>
  obtain⟨n,j⟩:=p;rw[hu]at h;simp only at h;obtain⟨h1,h2,h3,h4,h5⟩:=FB hu;split at h
  ·cases h
  split at h
  ·cases h
  rename_i g1 g2;simp only[aB3,azP]at h;obtain⟨rfl,rfl⟩:=h;have hl:((l.drop j).take n).length=n:=by simp; omega
  refine⟨?_,by omega,by omega,by omega⟩;unfold fQ;rw[hl,h5,←List.take_add]
theorem Hu(s r:List UInt8)(most:Int)(h:(s.length:Int)≤most)(hs:s.length<18446744073709551616):sZ most (fQ s++r) = .ok (s,(fQ s).length):=by
 unfold sZ fQ;rw[az0,oG _ _ hs];simp only;rw[azG (by omega),azG (by simp)];simp
end En
namespace En
theorem ajP{l:List UInt8}{e:Nat}(h:lT 9 l = .error e):e≠0:=by
 rcases FC 9 l e h with rfl | rfl<;>decide
end En
namespace Go.Proofs.YtodpgjjgaddkeaaGreatDoor
namespace Px
set_option linter.unusedSectionVars false
open En
variable{β:Type}[DecidableEq β]
def runs:List β→List (Nat×β)
  | []=>[]
  | c::l=>match runs l with
    | []=>[(1,c)]
    | (n,d)::r=>if d=c then (n+1,d)::r else (1,c)::(n,d)::r
def flat:List (Nat×β)→List β
  | []=>[]
  | (n,c)::r=>List.replicate n c++flat r
def good:Option β→List (Nat×β)→Prop
  | _,[]=>True
  | last,(n,c)::r=>0<n∧last≠some c∧good (some c) r
theorem KX(s:List β):(∀last,(∀c,s.head?=some c→last≠some c)→good last (runs s))∧flat (runs s)=s∧(∀c n r,runs s=(n,c)::r→s.head?=some c):=by
 induction s with
 | nil=>simp[runs,good,flat]
 | cons c l ih =>
  obtain⟨h1,h2,h3⟩:=ih;cases hr:runs l with
  | nil =>
   rw[hr]at h2;simp only[runs,hr,good,flat]at h2 ⊢;subst h2;refine⟨fun last h=>⟨by omega,h c rfl,trivial⟩,rfl,?_⟩;intro c' n' r' he; simp only[aAf,azP]at he; simp[he.1.2]
  | cons x r =>
   obtain⟨n,d⟩:=x;have hd:=h3 d n r hr;rw[hr]at h2;simp only[runs,hr];simp only[flat]at h2;split
   ·rename_i e;subst e;refine⟨fun last h=>?_,?_,?_⟩
    ·have:=h1 none (by simp);rw[hr]at this;simp only[good]at this ⊢;exact⟨by omega,h d rfl,this.2.2⟩
    ·simp only[flat,aBR,aA0,h2]
    intro c' n' r' he; simp only[aAf,azP]at he; simp[he.1.2]
   rename_i e;refine⟨fun last h=>?_,?_,?_⟩
   ·have:=h1 (some c) (by intro c' hc'; rw[hd]at hc'; simp only[azK]at hc' ⊢; exact fun e'=>e (hc'.trans (azR e').symm));rw[hr]at this;simp only[good]at this ⊢;exact⟨by omega,h c rfl,this⟩
   ·simp only[flat,aBR,aBX,aA0,aAH,h2]
   intro c' n' r' he; simp only[aAf,azP]at he; simp[he.1.2]
theorem aar(r:List (Nat×β)):∀last,good last r→runs (flat r)=r:=by
 induction r with
 | nil=>intro _ _; rfl
 | cons x r ih =>
  obtain⟨n,c⟩:=x;intro last h;simp only[good]at h;obtain⟨hn,_,hg⟩:=h;have hr:=ih _ hg;simp only[flat];have key:∀k,runs (List.replicate (k+1) c++flat r)=(k+1,c)::r:=by
   intro k;induction k with
   | zero =>
    simp only[aBR,aBX,aA0,aAH,runs,hr];cases r with
    | nil=>rfl
    | cons y r' =>
     obtain⟨m,d⟩:=y;simp only[good]at hg;simp only;rw[azG (fun e=>hg.2.1 (by rw[e]))]
   | succ k ihk =>
    rw[aBR,aA0,runs,ihk];simp
  obtain⟨m,rfl⟩:∃m,n=m+1:=⟨n-1,by omega⟩;exact key m
def Hw(last:Option β):List (Nat×β)→Option β
  | []=>last
  | (_,c)::r=>Hw (some c) r
theorem aas(R:List (Nat×β))(n:Nat)(c:β):∀last,good last (R++[(n,c)])↔good last R∧0<n∧Hw last R≠some c:=by
  induction R with
  | nil=>intro last; simp[good,Hw]
  | cons x R ih => intro last; obtain ⟨m, d⟩ := x; simp only [aA0, good, Hw, ih]; constructor
                   · rintro⟨h1,h2,h3,h4,h5⟩; exact⟨⟨h1,h2,h3⟩,h4,h5⟩
                   · rintro⟨⟨h1,h2,h3⟩,h4,h5⟩; exact⟨h1,h2,h3,h4,h5⟩
theorem QY(R S:List (Nat×β)):flat (R++S)=flat R++flat S:=by
 induction R with
 | nil=>rfl
 | cons x R ih=>obtain⟨m,d⟩:=x; simp[flat,ih]
theorem Vt(R:List (Nat×β))(n:Nat)(c:β):∀last,Hw last (R++[(n,c)])=some c:=by
 induction R with
 | nil=>intro last; rfl
 | cons x R ih=>intro last; obtain⟨m,d⟩:=x; simp[Hw,ih]
theorem agw{s:List β}{R:List (Nat×β)}(hg:good none R)(hf:flat R=s):runs s=R:=by rw[←hf]; exact aar R none hg
theorem Dh(s:List β):good none (runs s)∧flat (runs s)=s:=⟨(KX s).1 none (by simp),(KX s).2.1⟩
theorem agx{R:List (Nat×β)}:∀x∈R,x.1≤(flat R).length:=by
 induction R with
 | nil=>intro x hx; simp at hx
 | cons y R ih =>
  intro x hx;obtain⟨m,d⟩:=y;rcases azS.1 hx with rfl | hx
  ·simp[flat]
  have:=ih x hx; simp[flat]; omega
def pb(p:bC):List UInt8:=[p.r,p.g,p.b,p.a]
def rb:List (Nat×bC)→List UInt8
  | []=>[]
  | (n,p)::r=>dV 10 n++pb p++rb r
def enc(l:List bC):List UInt8:=rb (runs l)
theorem aat(R S:List (Nat×bC)):rb (R++S)=rb R++rb S:=by
 induction R with
 | nil=>rfl
 | cons x R ih=>obtain⟨m,d⟩:=x; simp[rb,ih]
theorem agy(R:List (Nat×bC))(n:Nat)(p:bC):rb (R++[(n,p)])=rb R++(dV 10 n++pb p):=by rw[aat]; simp[rb]
theorem ajQ{R:List (Nat×bC)}:∀{last:Option bC},Px.good last R→(rb R).length≤14*(flat R).length:=by
 induction R with
 | nil=>intro _ _; exact azQ _
 | cons z R ih =>
  intro last h;obtain⟨n,p⟩:=z;simp only[Px.good]at h;have:=ih h.2.2;have:=iE 10 n;simp only[rb,pb,flat,azL,aAn,aAS,List.length_replicate];omega
theorem Vu{p q:bC}{x y:List UInt8}(h:pb p++x=pb q++y):p=q∧x=y:=by
 simp only[pb,aA0,aAH,aAf]at h;obtain⟨h1,h2,h3,h4,h5⟩:=h;exact⟨by cases p; cases q; simp_all,h5⟩
theorem agz{n m:Nat}{p q:bC}{x y:List UInt8}(hn:n<18446744073709551616)(hm:m<18446744073709551616)(h:dV 10 n++pb p++x=dV 10 m++pb q++y):n=m∧p=q∧x=y:=by
 have h1:=oG n (pb p++x) hn;have h2:=oG m (pb q++y) hm;rw[←az0]at h1 h2;rw[h,h2]at h1;simp only[aB3,azP]at h1;obtain⟨rfl,-⟩:=h1;rw[az0,az0]at h;obtain⟨h3,h4⟩:=Vu (List.append_cancel_left h);exact⟨rfl,h3,h4⟩
def Bd(R:List (Nat×bC)):Prop:=∀x∈R,x.1<18446744073709551616
theorem adn:∀{R S:List (Nat×bC)} {x:List UInt8},Bd R→Bd S→rb R++x=rb S→∃T,S=R++T∧rb T=x
  | [],S,x,_,_,h=>⟨S,rfl,h.symm⟩
  | (n,p)::R,[],x,_,_,h=>by
    have:=azT List.length h
    simp[rb,pb]at this
  | (n,p)::R,(m,q)::S,x,hR,hS,h=>by
    simp only[rb,az0]at h
    obtain⟨rfl,rfl,h3⟩:=agz (hR _ azV) (hS _ azV) (by simpa only[az0]using h)
    obtain⟨T,rfl,hT⟩:=adn (fun z hz=>hR z (aAT _ hz)) (fun z hz=>hS z (aAT _ hz)) h3
    exact⟨T,rfl,hT⟩
theorem Yj{R:List (Nat×bC)}(h:(flat R).length<18446744073709551616):Bd R:=fun x hx=>aBY (agx x hx) h
theorem agA{l m:List bC}(hl:l.length<18446744073709551616)(hm:m.length<18446744073709551616)(h:enc l=enc m):l=m:=by
 have h1:=Dh l;have h2:=Dh m;obtain⟨T,hT,hx⟩:=adn (R:=runs l) (S:=runs m) (x:=[]) (Yj (by rw[h1.2]; exact hl)) (Yj (by rw[h2.2]; exact hm)) (by rw[aAL]; exact h);have hT0:T=[]:=by
  cases T with
  | nil=>rfl
  | cons z T=>obtain⟨n,p⟩:=z; have:=azT List.length hx; simp[rb,pb]at this
 rw[←h1.2,←h2.2,hT,hT0,aAL]
structure Bl (L:List bC) (i:Nat) (R:List (Nat×bC)):Prop where
  good:good none R
  flat:flat R=L.take i
  le:i≤L.length
  nxt:∀h:i<L.length,Hw none R≠some L[i]
theorem Bl.zero(L:List bC):Bl L 0 []:=⟨trivial,rfl,azQ _,fun _ h=>by cases h⟩
theorem Bl.step{L:List bC}{i k:Nat}{R:List (Nat×bC)}{p:bC}(h:Bl L i R)(hi:i<L.length)(hp:L[i]=p)(hk:i<k)(hkl:k≤L.length)(hall:∀(j:Nat) (hj:j<L.length),i≤j→j<k→L[j]=p)(hend:∀h:k<L.length,L[k]≠p):Bl L k (R++[(k-i,p)]):=by
 subst hp;refine⟨(aas R _ _ none).2 ⟨h.good,by omega,h.nxt hi⟩,?_,hkl,fun hkk=>?_⟩
 ·rw[QY,h.flat];have e:L.take k=L.take i++(L.drop i).take (k-i):=by rw[←List.take_add]; congr 1; omega
  rw[e];congr 1;simp only[Px.flat,aAL];symm;refine List.eq_replicate_iff.2 ⟨by simp; omega,fun x hx=>?_⟩;obtain⟨j,hj,rfl⟩:=List.getElem_of_mem hx;simp only[aBa,aBF]at hj;rw[aCi,List.getElem_drop];exact hall (i+j) (by omega) (by omega) (by omega)
 rw[Vt];exact fun e=>hend hkk (azR e).symm
theorem Bl.done{L:List bC}{i:Nat}{R:List (Nat×bC)}(h:Bl L i R)(hi:L.length≤i):rb R=enc L:=by
 have h2:=h.flat;rw[aAp hi]at h2;unfold enc;rw[agw h.good h2]
end Px
end Go.Proofs.YtodpgjjgaddkeaaGreatDoor
end
