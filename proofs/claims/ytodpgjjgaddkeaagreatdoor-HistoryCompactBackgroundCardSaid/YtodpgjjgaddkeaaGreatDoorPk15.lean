/- Walks of package node: zero, bare. errors.As: of nil, and of a node's error. -/
import Derived.Test.YtodpgjjgaddkeaaGreatDoorPk14
import Derived.Stop.Asserts
import Derived.LaidEql
set_option maxHeartbeats 3200000
set_option maxRecDepth 100000
set_option linter.unusedVariables false
set_option linter.unusedSimpArgs false
namespace Go.Proofs.YtodpgjjgaddkeaaGreatDoor
open _root_.Go.Proofs.Tryz
section
open Go.RowKit Na Go.Sx
variable{α:Type}{K:Nat}
def eG(K:Nat)(w:World)(n:aj):Prop:=n.ok w∧n.t.fit K∧(∀p∈n.fill,p.t.fit K)∧(∀p∈n.stroke,p.t.fit K)∧1<=K∧K<=10000
theorem eG.below{w w':World}{n:aj}(h:eG K w n)(hb:Ext w w'):eG K w' n:=⟨h.1.below hb,h.2⟩
def aV.bare:aV:=⟨0,0,0,0,none,0,[],0⟩
theorem aV.gB(w:World):aV.bare.ok w:=⟨fC,fC,fC,fC,⟨none,0,I,azZ _,.inl ⟨I,λ_=>rfl⟩⟩,λx hx=>by simp[aV.bare]at hx,fC⟩
theorem ajQ:Le q0:=K06▸eX.nrm (bJ.toQ (w:=default) (bJ.gy _) (bJ.iF 1))
theorem ajR:qlen 1 q0:=K06▸eX.len (bJ.toQ (w:=default) (bJ.gy _) (bJ.iF 1)) (azS 1)
theorem adu{w:World}{t:bH}(h:t.ok w)(hf:t.fit K)(hK1:1<=K)(hK:K<=10000) :
  Calls prog 190 #[t.v] w λe w'=>e = .returned (.bool (pI t.q.Ef q0))∧Ext w w':=by
 skip;refine azp func190 ntmps190 λS=>azo S λu b2 E3 hb4 S=>adr S 2 [] [.mem 0 0] λS=>azH S (Yu t.v t.q K _ ((bH.toQ h hf).iL S.E) hK1 hK) λx u hd E6 S=>azH S (wO 0 _ Z Z) λy u hy E7 S=>azB S (lV _ _ t.q.Ef q0 (K+K+(K+K)+1) 1 _ (aA.toQ (hd.ext E7) (FK _) (FM hK1 (K05 ((bH.toQ h hf).iL (aAe _ _)) hK1))) (aA.toQ (q:=q0) hy ajQ ajR) Z Z Z Z) λu E8 S=>apB S (.bool (((mD t.q.Ef q0))==0)) (λS=>?_);exact⟨I,S.E⟩
def aj.bare(nd:aj):Bool:=cond ((nd.kind)==1) ((((((((nd.path.length:Int))==0)&&((nd.aW)==0))&&(((nd.fill.length:Int))==0))&&(((nd.stroke.length:Int))==0))&&(nd.style.eq aV.bare))&&((nd.img.eq dF.bare)&&((nd.cO)==0))) (cond ((nd.kind)==2) (((((((nd.dR.toNat:Int))==0)&&((nd.blend)==0))&&(!nd.isolated))&&(!nd.dH))&&((nd.img.eq dF.bare)&&((nd.cO)==0))) (((((((nd.dR.toNat:Int))==0)&&((nd.blend)==0))&&(!nd.isolated))&&(!nd.dH))&&(((((((nd.path.length:Int))==0)&&((nd.aW)==0))&&(((nd.fill.length:Int))==0))&&(((nd.stroke.length:Int))==0))&&(nd.style.eq aV.bare))))
theorem adv{w:World}{nd:aj}(h:eG K w nd) :
  Calls prog 192 #[nd.v] w λe w'=>e = .returned (.bool nd.bare)∧Ext w w':=by
 obtain⟨a1,c1,ecs⟩:=h.1.2.2.2.2.1.1.shape;obtain⟨a2,c2,eps⟩:=h.1.2.2.2.2.2.2.2.1.1.shape;obtain⟨a3,c3,efs⟩:=h.1.2.2.2.2.2.2.2.2.2.1.1.shape;obtain⟨a4,c4,ess⟩:=h.1.2.2.2.2.2.2.2.2.2.2.2.1.1.shape;refine azp func192 ntmps192 λS=>azo S λu b2 E3 hb4 S=>adr S 20 [] [.mem 0 29,.mem 0 30,.mem 0 31,.mem 0 32] λS=>aAQ S 28 [.mem 0 33,.mem 0 34,.mem 0 35,.mem 0 42,.mem 0 36] [(_,_,((((((nd.path.length:Int))==0)&&((nd.aW)==0))&&(((nd.fill.length:Int))==0))&&(((nd.stroke.length:Int))==0)),.bool (nd.style.eq aV.bare))] [(4,.bool (((((((nd.path.length:Int))==0)&&((nd.aW)==0))&&(((nd.fill.length:Int))==0))&&(((nd.stroke.length:Int))==0))&&(nd.style.eq aV.bare)))] ⟨λu hC g=>vZ (p:=nd.style) (q:=aV.bare) (h.1.2.2.2.2.2.2.2.2.2.2.1.below (K00 S.E hC)) (aV.gB _),G⟩ λu E7 S=>adr S 3 [] [.mem 0 43] λS=>azB S (uD (m:=nd.img) (n:=dF.bare) (h.1.2.2.2.2.2.2.2.2.2.2.2.2.1.below S.E) (dF.gB _)) λu E9 S=>adr S 10 [] [.mem 0 46,.mem 0 1] λS=>azm S ((nd.kind)==1) (λhc13 S=>?_) (λhc13 S=>?_)
 .refine apB S (.bool ((((((((nd.path.length:Int))==0)&&((nd.aW)==0))&&(((nd.fill.length:Int))==0))&&(((nd.stroke.length:Int))==0))&&(nd.style.eq aV.bare))&&((nd.img.eq dF.bare)&&((nd.cO)==0)))) (λS=>?_);exact⟨aN (by unfold aj.bare; rw[hc13]; rfl),S.E⟩
 refine azm S ((nd.kind)==2) (λhc16 S=>?_) (λhc16 S=>?_)
 .refine apB S (.bool (((((((nd.dR.toNat:Int))==0)&&((nd.blend)==0))&&(!nd.isolated))&&(!nd.dH))&&((nd.img.eq dF.bare)&&((nd.cO)==0)))) (λS=>?_);exact⟨aN (by unfold aj.bare; rw[hc13,hc16]; rfl),S.E⟩
 refine apB S (.bool (((((((nd.dR.toNat:Int))==0)&&((nd.blend)==0))&&(!nd.isolated))&&(!nd.dH))&&(((((((nd.path.length:Int))==0)&&((nd.aW)==0))&&(((nd.fill.length:Int))==0))&&(((nd.stroke.length:Int))==0))&&(nd.style.eq aV.bare)))) (λS=>?_);exact⟨aN (by unfold aj.bare; rw[hc13,hc16]; rfl),S.E⟩
open Go.RowKit Na Go.Sx
variable{α:Type}{K:Nat}
def aj.jT(nd:aj):List (Bool×Int):=[((decide (nd.kind<1))||(decide (3<nd.kind)),2),((((decide (nd.id<1))||(decide (1073741824<nd.id)))||(decide (nd.depth<0)))||(decide (8<=nd.depth)),6),(!(nd.t.q.valid),5),((pI nd.t.q.Ef q0),9),(!(jS nd.clip),10),((!(((((nd.clip.length:Int))==0)&&((nd.aS)==0))||((decide (0<(nd.clip.length:Int)))&&((nd.aS==1)||(nd.aS==2)))))||(!(nd.bare)),17)]
def aj.xZ(nd:aj):Value:=kH nd.jT
theorem VG{w:World}{nd:aj}(h:eG K w nd) :
  Calls prog 142 #[nd.v] w λe w'=>e = .returned nd.xZ∧Ext w w':=by
 obtain⟨a1,c1,ecs⟩:=h.1.2.2.2.2.1.1.shape;obtain⟨a2,c2,eps⟩:=h.1.2.2.2.2.2.2.2.1.1.shape;obtain⟨a3,c3,efs⟩:=h.1.2.2.2.2.2.2.2.2.2.1.1.shape;obtain⟨a4,c4,ess⟩:=h.1.2.2.2.2.2.2.2.2.2.2.2.1.1.shape;refine azX func142 ntmps142 λac S=>azn λ_ gQ=>qO S 1 nd.cells λac u b2 E3 hb4 S=>azk S 1 [] [(2,.nilIface)] λS=>azl<|gQ _ _<|azn λ_ BN=>adw S 21 [.mem 0 27,.mem 0 28,.mem 0 27,.mem 0 28] [(_,_,((!((((nd.clip.length:Int))==0)&&((nd.aS)==0)))&&(decide (0<(nd.clip.length:Int)))),.bool ((nd.aS==1)||(nd.aS==2)))] [(3,.bool (((((nd.clip.length:Int))==0)&&((nd.aS)==0))||((decide (0<(nd.clip.length:Int)))&&((nd.aS==1)||(nd.aS==2)))))] ⟨λu hC g=>azL (Qy nd.aS _),G⟩ λac u E6 S=>azl<|BN _ _<|az8 λ_ VH=>Sx.draw S 50 [.mem 0 1,.mem 0 1,.mem 0 0,.mem 0 0,.mem 0 2,.mem 0 2,.mem 0 3,.mem 0 3,.mem 0 27,.mem 0 0] [(_,_,true,dM ((decide (nd.kind<1))||(decide (3<nd.kind))) 2),(_,_,true,dM ((((decide (nd.id<1))||(decide (1073741824<nd.id)))||(decide (nd.depth<0)))||(decide (8<=nd.depth))) 6),(_,_,true,.bool (nd.t.q.valid)),(_,_,true,dM (!(nd.t.q.valid)) 5),(_,_,true,.bool (pI nd.t.q.Ef q0)),(_,_,true,dM (pI nd.t.q.Ef q0) 9),(_,_,true,.bool (jS nd.clip)),(_,_,true,dM (!(jS nd.clip)) 10),(_,_,(!(!(((((nd.clip.length:Int))==0)&&((nd.aS)==0))||((decide (0<(nd.clip.length:Int)))&&((nd.aS==1)||(nd.aS==2)))))),.bool (nd.bare)),(_,_,true,dM ((!(((((nd.clip.length:Int))==0)&&((nd.aS)==0))||((decide (0<(nd.clip.length:Int)))&&((nd.aS==1)||(nd.aS==2)))))||(!(nd.bare))) 17)] [(32,dM ((decide (nd.kind<1))||(decide (3<nd.kind))) 2),(51,dM ((((decide (nd.id<1))||(decide (1073741824<nd.id)))||(decide (nd.depth<0)))||(decide (8<=nd.depth))) 6),(56,dM (!(nd.t.q.valid)) 5),(60,dM (pI nd.t.q.Ef q0) 9),(65,dM (!(jS nd.clip)) 10),(73,dM ((!(((((nd.clip.length:Int))==0)&&((nd.aS)==0))||((decide (0<(nd.clip.length:Int)))&&((nd.aS==1)||(nd.aS==2)))))||(!(nd.bare))) 17)] ⟨λu hC g=>azL (iW ((decide (nd.kind<1))||(decide (3<nd.kind))) 2 _),λu hC g=>azL (iW ((((decide (nd.id<1))||(decide (1073741824<nd.id)))||(decide (nd.depth<0)))||(decide (8<=nd.depth))) 6 _),λu hC g=>Hu nd.t.v nd.t.q K _ ((bH.toQ h.1.2.2.2.1 h.2.1).iL (K00 S.E hC)) h.2.2.2.2.1 (by have:=h.2.2.2.2.2; omega),λu hC g=>azL (iW (!(nd.t.q.valid)) 5 _),λu hC g=>adu (t:=nd.t) (h.1.2.2.2.1.below (K00 S.E hC)) h.2.1 h.2.2.2.2.1 h.2.2.2.2.2,λu hC g=>azL (iW (pI nd.t.q.Ef q0) 9 _),λu hC g=>y7 (h.1.2.2.2.2.1.below (K00 S.E hC)),λu hC g=>azL (iW (!(jS nd.clip)) 10 _),λu hC g=>adv (h.below (K00 S.E hC)),λu hC g=>azL (iW ((!(((((nd.clip.length:Int))==0)&&((nd.aS)==0))||((decide (0<(nd.clip.length:Int)))&&((nd.aS==1)||(nd.aS==2)))))||(!(nd.bare))) 17 _),G⟩ (λac u E8 S=>?_);refine Ru S 74 (dM ((decide (nd.kind<1))||(decide (3<nd.kind))) 2) (dM ((((decide (nd.id<1))||(decide (1073741824<nd.id)))||(decide (nd.depth<0)))||(decide (8<=nd.depth))) 6) (dM (!(nd.t.q.valid)) 5) (dM (pI nd.t.q.Ef q0) 9) (dM (!(jS nd.clip)) 10) (dM ((!(((((nd.clip.length:Int))==0)&&((nd.aS)==0))||((decide (0<(nd.clip.length:Int)))&&((nd.aS==1)||(nd.aS==2)))))||(!(nd.bare))) 17) I I I I (fM _ _) (fM _ _) (fM _ _) (fM _ _) (fM _ _) (fM _ _) (λac u b9 Qj ac5 S=>?_);refine BO S 75 (first_any (lD (f:=λp:Bool×Int=>dM p.1 p.2) [((decide (nd.kind<1))||(decide (3<nd.kind)),2),((((decide (nd.id<1))||(decide (1073741824<nd.id)))||(decide (nd.depth<0)))||(decide (8<=nd.depth)),6),(!(nd.t.q.valid),5),((pI nd.t.q.Ef q0),9),(!(jS nd.clip),10),((!(((((nd.clip.length:Int))==0)&&((nd.aS)==0))||((decide (0<(nd.clip.length:Int)))&&((nd.aS==1)||(nd.aS==2)))))||(!(nd.bare)),17)] (S.bx 0) (by show 6<=9223372036854775807; decide))) λac u pW S=>azk S 1 [] [(2,(kH [((decide (nd.kind<1))||(decide (3<nd.kind)),2),((((decide (nd.id<1))||(decide (1073741824<nd.id)))||(decide (nd.depth<0)))||(decide (8<=nd.depth)),6),(!(nd.t.q.valid),5),((pI nd.t.q.Ef q0),9),(!(jS nd.clip),10),((!(((((nd.clip.length:Int))==0)&&((nd.aS)==0))||((decide (0<(nd.clip.length:Int)))&&((nd.aS==1)||(nd.aS==2)))))||(!(nd.bare)),17)]))] λS=>azl<|VH _ _<|U0 S results142 ?_;exact⟨az0 Ending.returned (by unfold aj.xZ aj.jT; rfl),S.E⟩
open Go.RowKit Na Go.Sx
variable{α:Type}{K:Nat}
def aj.sF(nd:aj):List (Bool×Int):=[(!(jS nd.path),10),(!((nd.aW==1)||(nd.aW==2)),2),((decide (1<(nd.fill.length:Int)))||(decide (1<(nd.stroke.length:Int))),5),((decide (0<(nd.stroke.length:Int)))&&(!(nd.style.valid)),13),((!(decide (0<(nd.stroke.length:Int))))&&(!(nd.style.eq aV.bare)),17),((!(nd.fill.all ak.valid))||(!(nd.stroke.all ak.valid)),16)]
def aj.Hz(nd:aj):Value:=kH nd.sF
theorem aav{w:World}{nd:aj}(h:eG K w nd) :
  Calls prog 194 #[nd.v] w λe w'=>e = .returned nd.Hz∧Ext w w':=by
 obtain⟨a1,c1,ecs⟩:=h.1.2.2.2.2.1.1.shape;obtain⟨a2,c2,eps⟩:=h.1.2.2.2.2.2.2.2.1.1.shape;obtain⟨a3,c3,efs⟩:=h.1.2.2.2.2.2.2.2.2.2.1.1.shape;obtain⟨a4,c4,ess⟩:=h.1.2.2.2.2.2.2.2.2.2.2.2.1.1.shape;refine azX func194 ntmps194 λac S=>azn λ_ gQ=>qO S 1 nd.cells λac u b2 E3 hb4 S=>azk S 1 [] [(2,.nilIface)] λS=>azl<|gQ _ _<|azn λ_ BN=>azk S 5 [.mem 0 42] [(3,.bool (0<(nd.stroke.length:Int)))] λS=>azl<|BN _ _<|az8 λ_ κ6=>Sx.draw S 50 [.mem 0 33,.mem 0 34,.mem 0 35,.mem 0 42,.mem 0 36,.mem 0 36,.mem 0 35,.mem 0 42] [(_,_,true,.bool (jS nd.path)),(_,_,true,dM (!(jS nd.path)) 10),(_,_,true,.bool ((nd.aW==1)||(nd.aW==2))),(_,_,true,dM (!((nd.aW==1)||(nd.aW==2))) 2),(_,_,true,dM ((decide (1<(nd.fill.length:Int)))||(decide (1<(nd.stroke.length:Int)))) 5),(_,_,(decide (0<(nd.stroke.length:Int))),.bool (nd.style.valid)),(_,_,true,dM ((decide (0<(nd.stroke.length:Int)))&&(!(nd.style.valid))) 13),(_,_,(!(decide (0<(nd.stroke.length:Int)))),.bool (nd.style.eq aV.bare)),(_,_,true,dM ((!(decide (0<(nd.stroke.length:Int))))&&(!(nd.style.eq aV.bare))) 17),(_,_,true,.bool (nd.fill.all ak.valid)),(_,_,(!(!(nd.fill.all ak.valid))),.bool (nd.stroke.all ak.valid)),(_,_,true,dM ((!(nd.fill.all ak.valid))||(!(nd.stroke.all ak.valid))) 16)] [(12,dM (!(jS nd.path)) 10),(17,dM (!((nd.aW==1)||(nd.aW==2))) 2),(28,dM ((decide (1<(nd.fill.length:Int)))||(decide (1<(nd.stroke.length:Int)))) 5),(36,dM ((decide (0<(nd.stroke.length:Int)))&&(!(nd.style.valid))) 13),(46,dM ((!(decide (0<(nd.stroke.length:Int))))&&(!(nd.style.eq aV.bare))) 17),(57,dM ((!(nd.fill.all ak.valid))||(!(nd.stroke.all ak.valid))) 16)] ⟨λu hC g=>y7 (h.1.2.2.2.2.2.2.2.1.below (K00 S.E hC)),λu hC g=>azL (iW (!(jS nd.path)) 10 _),λu hC g=>azL (Qy nd.aW _),λu hC g=>azL (iW (!((nd.aW==1)||(nd.aW==2))) 2 _),λu hC g=>azL (iW ((decide (1<(nd.fill.length:Int)))||(decide (1<(nd.stroke.length:Int)))) 5 _),λu hC g=>ZT (p:=nd.style) (h.1.2.2.2.2.2.2.2.2.2.2.1.below (K00 S.E hC)),λu hC g=>azL (iW ((decide (0<(nd.stroke.length:Int)))&&(!(nd.style.valid))) 13 _),λu hC g=>vZ (p:=nd.style) (q:=aV.bare) (h.1.2.2.2.2.2.2.2.2.2.2.1.below (K00 S.E hC)) (aV.gB _),λu hC g=>azL (iW ((!(decide (0<(nd.stroke.length:Int))))&&(!(nd.style.eq aV.bare))) 17 _),λu hC g=>Yx (K:=K) (oO.below ⟨h.1.2.2.2.2.2.2.2.2.2.1,h.2.2.1,h.2.2.2.2.1,h.2.2.2.2.2⟩ (K00 S.E hC)),λu hC g=>Yx (K:=K) (oO.below ⟨h.1.2.2.2.2.2.2.2.2.2.2.2.1,h.2.2.2.1,h.2.2.2.2.1,h.2.2.2.2.2⟩ (K00 S.E hC)),λu hC g=>azL (iW ((!(nd.fill.all ak.valid))||(!(nd.stroke.all ak.valid))) 16 _),G⟩ (λac u E7 S=>?_);refine Ru S 58 (dM (!(jS nd.path)) 10) (dM (!((nd.aW==1)||(nd.aW==2))) 2) (dM ((decide (1<(nd.fill.length:Int)))||(decide (1<(nd.stroke.length:Int)))) 5) (dM ((decide (0<(nd.stroke.length:Int)))&&(!(nd.style.valid))) 13) (dM ((!(decide (0<(nd.stroke.length:Int))))&&(!(nd.style.eq aV.bare))) 17) (dM ((!(nd.fill.all ak.valid))||(!(nd.stroke.all ak.valid))) 16) I I I I (fM _ _) (fM _ _) (fM _ _) (fM _ _) (fM _ _) (fM _ _) (λac u b8 E9 zZ S=>?_);refine BO S 59 (first_any (lD (f:=λp:Bool×Int=>dM p.1 p.2) [(!(jS nd.path),10),(!((nd.aW==1)||(nd.aW==2)),2),((decide (1<(nd.fill.length:Int)))||(decide (1<(nd.stroke.length:Int))),5),((decide (0<(nd.stroke.length:Int)))&&(!(nd.style.valid)),13),((!(decide (0<(nd.stroke.length:Int))))&&(!(nd.style.eq aV.bare)),17),((!(nd.fill.all ak.valid))||(!(nd.stroke.all ak.valid)),16)] (S.bx 0) (by show 6<=9223372036854775807; decide))) λac u Bc S=>azk S 1 [] [(2,(kH [(!(jS nd.path),10),(!((nd.aW==1)||(nd.aW==2)),2),((decide (1<(nd.fill.length:Int)))||(decide (1<(nd.stroke.length:Int))),5),((decide (0<(nd.stroke.length:Int)))&&(!(nd.style.valid)),13),((!(decide (0<(nd.stroke.length:Int))))&&(!(nd.style.eq aV.bare)),17),((!(nd.fill.all ak.valid))||(!(nd.stroke.all ak.valid)),16)]))] λS=>azl<|κ6 _ _<|U0 S results194 ?_;exact⟨az0 Ending.returned (by unfold aj.Hz aj.sF; rfl),S.E⟩
open Go.RowKit Na Go.Sx
variable{α:Type}{K:Nat}
def aj.Rx(nd:aj):Value:=cond ((nd.kind)==1) (dM (!(decide (1<=nd.blend)&&decide (nd.blend<=13))) 2) (cond ((nd.kind)==2) (nd.Hz) ((kH [(!(nd.img.valid),16),(((nd.cO) != 1)&&((nd.cO) != 2),2)])))
theorem Ry{w:World}{nd:aj}(h:eG K w nd) :
  Calls prog 143 #[nd.v] w λe w'=>e = .returned nd.Rx∧Ext w w':=by
 obtain⟨a1,c1,ecs⟩:=h.1.2.2.2.2.1.1.shape;obtain⟨a2,c2,eps⟩:=h.1.2.2.2.2.2.2.2.1.1.shape;obtain⟨a3,c3,efs⟩:=h.1.2.2.2.2.2.2.2.2.2.1.1.shape;obtain⟨a4,c4,ess⟩:=h.1.2.2.2.2.2.2.2.2.2.2.2.1.1.shape;refine azX func143 ntmps143 λac S=>azn λ_ gQ=>qO S 1 nd.cells λac u b2 E3 hb4 S=>azk S 1 [] [(2,.nilIface)] λS=>azl<|gQ _ _<|az8 λ_ BN=>azn λ_ κ6=>azk S 2 [.mem 0 1] [(4,.i nd.kind)] λS=>azl<|κ6 _ _<|aAM<|azn λ_ VH=>azk S 2 [] [(5,.bool ((nd.kind)==1))] λS=>azl (VH _ _ ?_);refine azM S (λhc8=>?_) (λhc8=>?_)
 .refine azn λ_ κ9=>azk S 2 [.mem 0 30] [(8,.i nd.blend)] λS=>Sx.calls S 9 (acd nd.blend _) λac S=>azk S 1 [] [(10,.bool (!(decide (1<=nd.blend)&&decide (nd.blend<=13))))] λS=>Sx.calls S 11 (iW (!(decide (1<=nd.blend)&&decide (nd.blend<=13))) 2 _) λac S=>azk S 1 [] [(2,dM (!(decide (1<=nd.blend)&&decide (nd.blend<=13))) 2)] λS=>azl<|κ9 _ _<|U0 S results143 ?_;exact⟨az0 Ending.returned (by unfold aj.Rx; rw[hc8]; rfl),S.E⟩
 refine azn λ_ Ah=>azk S 2 [] [(12,.bool ((nd.kind)==2))] λS=>azl (Ah _ _ ?_);refine azM S (λgV=>?_) (λgV=>?_)
 .refine azn λ_ Rz=>azk S 1 [.mem 0 0] [(14,nd.v)] λS=>BO S 15 (aav (h.below S.E)) λac u Dj S=>azk S 1 [] [(2,nd.Hz)] λS=>azl<|Rz _ _<|U0 S results143 ?_;exact⟨az0 Ending.returned (by unfold aj.Rx; rw[hc8,gV]; rfl),S.E⟩
 refine aAs<|BN _ _<|az8 λ_ vP=>Sx.draw S 14 [.mem 0 43,.mem 0 46,.mem 0 46] [(_,_,true,.bool (nd.img.valid)),(_,_,true,dM (!(nd.img.valid)) 16),(_,_,true,dM (((nd.cO) != 1)&&((nd.cO) != 2)) 2)] [(20,dM (!(nd.img.valid)) 16),(29,dM (((nd.cO) != 1)&&((nd.cO) != 2)) 2)] ⟨λu hC g=>Bo (m:=nd.img) (h.1.2.2.2.2.2.2.2.2.2.2.2.2.1.below (K00 S.E hC)),λu hC g=>azL (iW (!(nd.img.valid)) 16 _),λu hC g=>azL (iW (((nd.cO) != 1)&&((nd.cO) != 2)) 2 _),G⟩ (λac u E15 S=>?_);refine adt S 30 (dM (!(nd.img.valid)) 16) (dM (((nd.cO) != 1)&&((nd.cO) != 2)) 2) I I I I (fM _ _) (fM _ _) (λac u b16 yZ agq S=>?_);refine BO S 31 (first_any (lD (f:=λp:Bool×Int=>dM p.1 p.2) [(!(nd.img.valid),16),(((nd.cO) != 1)&&((nd.cO) != 2),2)] (S.bx 0) (by show 2<=9223372036854775807; decide))) λac u KU S=>azk S 1 [] [(2,(kH [(!(nd.img.valid),16),(((nd.cO) != 1)&&((nd.cO) != 2),2)]))] λS=>azl<|vP _ _<|U0 S results143 ?_;exact⟨az0 Ending.returned (by unfold aj.Rx; rw[hc8,gV]; rfl),S.E⟩
end
section
open Go.RowKit Na Go.Sx
variable{α:Type}
def dw(w:World):Prop:=0 < w.heap.size∧w.rangeAt 0 0 [.iface 296 (.agg #[.q Tryz.prog.globals.size 210])]
variable{w w0:World}{x0 x1 e:Value}{n:Int}{t:Nat}
theorem rls(v x:Value):Go.Extern.ReflectliteValue.set #[v,x]=(do
  let (some (dst,a,fl),some (src,b,_)):=(<-Go.Extern.ReflectliteValue.parts v,<-Go.Extern.ReflectliteValue.parts x)
   | unsupported (.noEntry "extern/(internal/reflectlite.Value).Set.zeroValue")
  if fl/Go.Extern.ReflectliteValue.flagAddr%2==0 then unsupported (.noEntry "extern/(internal/reflectlite.Value).Set.unaddressable")
  let val <-loadVar src b
  if <-Go.Extern.Rtype.directlyAssignable dst src then storeVar dst a val
  else if <-Go.Extern.Rtype.implements dst src then
   if (<-Go.Extern.Rtype.kind src)==20 then
    match val with
    | .nilIface=>unsupported (.noEntry "extern/reflectlite: a nil value of one interface type handed on as a value of another")
    | _=>storeVar dst a val
   else storeVar dst a (.iface src val)
  else panicString ("reflectlite.Set: value of type " ++ (<-Go.Extern.Rtype.spelt src) ++ " is not assignable to type " ++ (<-Go.Extern.Rtype.spelt dst))
  pure (.tuple #[])):=rfl
theorem H8(b:Nat)(w:World):(Go.Extern.ReflectliteValue.parts (.agg #[.q Tryz.prog.globals.size 213,.q b 0,.int .u64 409])).run prog w = .ok (some (213,⟨b,0,none⟩,409)) w:=by kernel_rfl
theorem H9(b:Nat)(w:World):(Go.Extern.ReflectliteValue.parts (.agg #[.q Tryz.prog.globals.size 213,.q b 0,.int .u64 153])).run prog w = .ok (some (213,⟨b,0,none⟩,153)) w:=by kernel_rfl
theorem N9(w:World):(Go.Extern.Rtype.directlyAssignable 213 213).run prog w = .ok true w:=by kernel_rfl
theorem aaw(t b:Nat)(n:Int)(e:Value)(hb:Bx w b #[.i n,e])(ht:Bx w t #[x0,x1])(he:e.oneCell'=true) :
  (Go.Extern.ReflectliteValue.set #[.agg #[.q Tryz.prog.globals.size 213,.q t 0,.int .u64 409],.agg #[.q Tryz.prog.globals.size 213,.q b 0,.int .u64 153]]).run prog w = .ok (.tuple #[]) (w.setCells t 0 [.i n,e]) ∧
   Ch t w (w.setCells t 0 [.i n,e])∧Bx (w.setCells t 0 [.i n,e]) t #[.i n,e]:=by
 refine⟨?_,(Ch.refl t w).setCells _ _,Bx.set ht _ I⟩;rw[rls];have h1:=run_loadVar_mid (P:=prog) w b 0 213 [.i n,e] _ (hb.range 0 2 I) underlying213 I X;have h2:=run_storeVar_mid (P:=prog) w t 0 213 #[.i n,e] (ht.there I) X (by simp only[List.all_toArray,List.all_cons,List.all_nil,he,Bool.and_true]; rfl);have p1:=H8 t w;have p2:=H9 b w;have p3:=N9 w;have p4:(409/Go.Extern.ReflectliteValue.flagAddr%2==0)=false:=by decide
 generalize Tryz.prog.globals.size=g at p1 p2 |-;simp only[aAS,p1,p2,Result.andThen,p4,aCd,if_false,h1,p3,if_true];rw[h2];rfl
theorem ajS{ρ:Operand->Value}{o:Oper}{x y:Operand}{ts:Array TypeId}{u v V:Value}{w1:World}(hop:o.op = .call { callee := .value (.func 240),args := #[x,y],argTypes:=ts })(hf:ρ (.func 240) = .func (.func 240) #[] #[])
  (hx:ρ x=u) (hy:ρ y=v) (hs:(Go.Extern.ReflectliteValue.set #[u,v]).run prog w = .ok V w1):(execOp ρ o).run prog w = .ok (.value V) w1:=by
 have h12:=@run_callFunc_extern prog 240 _ Go.Extern.ReflectliteValue.set func240 X X X X;unfold execOp;rw[hop];simp[go_sem,hf,hx,hy,h12,hs]
theorem as_nil(t:Value)(w:World) :
  Calls prog 144 #[.nilIface,t] w λe w'=>e = .returned (.z)∧w=w':=by
 skip;refine azp func144 ntmps144 λS=>azy S λS=>apB S (.z) (λS=>?_);exact⟨I,I⟩
theorem agx{b:Nat}(he:e.oneCell'=true)(hE:Ext w0 w)(ht:Bx w t #[x0,x1])(hb:w0.heap.size<=t)(hv:b<w.heap.size∧w.rangeAt b 0 [.q t 0]∧t≠b) :
  Calls prog 199 #[.iface 213 (.agg #[.i n,e]),.iface 215 (.q t 0),.agg #[.q Tryz.prog.globals.size 215,.q b 0,.int .u64 150],.iface 296 (.agg #[.q Tryz.prog.globals.size 213])] w λev w'=>ev = .returned (.bool true)∧Ext w0 w'∧Ch t w w'∧Bx w' t #[.i n,e]:=by
 skip;refine Dv func199 ntmps199 hE ht hb (λac S=>?_);have S:=S.view hv.1 hv.2.1 (λp hp=>by obtain rfl:=aAn.1 hp; exact hv.2.2);refine azn λ_ gQ=>qO S 6 [.q Tryz.prog.globals.size 215,.q b 0,.int .u64 150] λac u b2 E3 hb4 S=>azk S 1 [] [(8,.z)] λS=>azl<|gQ _ _<|aAM<|wp_loop_rounds 1 ?_;rw[aB5];refine aAM<|az8 λ_ BN=>azn λ_ κ6=>azk S 4 [] [(19,.bool true)] λS=>azl<|κ6 _ _<|Ia S<|azn λ_ VH=>azk S 3 [.mem 0 0,.lds [(2,0)]] [(21,.agg #[.q Tryz.prog.globals.size 213,.q t 0,.int .u64 409]),(22,.iface 213 (.agg #[.i n,e]))] λS=>Sx.new S 23 [.i n,e] (λb => .agg #[.q Tryz.prog.globals.size 213,.q b 0,.int .u64 153]) (λac u b8 E9 zZ S=>?_);have hs:=aaw t b8 n e (w:=u) (S.bx 0) (S.bx 2) he;refine Sx.wrote S 2 [.i n,e] (.tuple #[]) (some 24) I I I I ?_ hs.2.1 hs.2.2 (uI S.E hb _ _) (λac S=>?_)
 .exact ajS I I (S.s.has 21 _ I) (S.s.has 23 _ I) hs.1
 have FI:=Ch.trans (Ch.trans (Ch.refl t w) (Ch.aT (K00 E3 E9))) hs.2.1;refine azl<|VH _ _<|azn λ_ vP=>azk S 1 [] [(8,.bool true)] λS=>azl<|vP _ _<|U0 S results199 ?_;exact⟨I,S.E,FI,S.bx 2⟩
theorem dw.below{w w':World}(h:dw w)(hE:Ext w w'):dw w':=⟨aAk h.1 hE.size,Vp.pY h.2 h.1 hE⟩
theorem as_hit(he:e.oneCell'=true)(hE:Ext w0 w)(ht:Bx w t #[x0,x1])(hb:w0.heap.size<=t)(hg:dw w0) :
  Calls prog 144 #[.iface 213 (.agg #[.i n,e]),.iface 215 (.q t 0)] w λev w'=>ev = .returned (.bool true)∧Ext w0 w'∧Ch t w w'∧Bx w' t #[.i n,e]:=by
 skip;refine Dv func144 ntmps144 hE ht hb (λac S=>?_);have S:=S.view0 hg.1 hg.2;refine azn λ_ gQ=>azk S 1 [] [(4,.z)] λS=>azl<|gQ _ _<|az8 λ_ U1=>azn λ_ κ3=>azk S 2 [] [(9,.z)] λS=>azl<|κ3 _ _<|Ei S<|aAs<|U1 _ _<|az8 λ_ κ4=>azn λ_ BN=>azk S 2 [] [(11,.z)] λS=>azl<|BN _ _<|Ei S<|aAs<|κ4 _ _<|azn λ_ κ6=>azk S 1 [] [(13,.iface 215 (.q t 0))] λS=>Sx.new S 14 [.q t 0] (λb => .agg #[.q Tryz.prog.globals.size 215,.q b 0,.int .u64 150]) λac u b7 E8 hb9 S=>qO S 5 [.pointer none,.pointer none,.int .u64 0] λac u b10 Bc Ho S=>azR S 0 (off:=0) (cs:=[.q Tryz.prog.globals.size 215,.q b7 0,.int .u64 150]) I (λu C13 S=>?_);have yV:=azr (K00 E8 Bc) C13 (by have:=E8.size; omega);refine azl<|κ6 _ _<|azn λ_ Ib=>azk S 3 [.mem 0 0] [(6,.iface 296 (.agg #[.q Tryz.prog.globals.size 215]))] λS=>azl<|Ib _ _<|az8 λ_ Ai=>azn λ_ Oa=>azk S 7 [.mem 0 0,.lds [(1,0)]] [(23,.z)] λS=>azl<|Oa _ _<|Ei S<|aAs<|Ai _ _<|azn λ_ VI=>azk S 3 [] [(7,.iface 296 (.agg #[.q Tryz.prog.globals.size 213]))] λS=>azl<|VI _ _<|az8 λ_ ajT=>azn λ_ aax=>azk S 9 [.mem 3 0] [(35,.z)] λS=>azl<|aax _ _<|Ei S<|aAs<|ajT _ _<|azn λ_ adx=>azk S 4 [.mem 0 0] [(37,.iface 213 (.agg #[.i n,e])),(38,.iface 215 (.q t 0)),(39,.agg #[.q Tryz.prog.globals.size 215,.q b7 0,.int .u64 150]),(40,.iface 296 (.agg #[.q Tryz.prog.globals.size 213]))] (λS=>?_);have hlt:=(S.bx 1).1;refine air S 2 [.i n,e] (some 41) I (agx (n:=n) (t:=t) (b:=b7) he S.E (S.bx 2) hb ⟨(S.bx 1).1,(S.bx 1).range 0 1 I,S.ne (i:=2) (j:=1) I I O⟩) ?_;rintro e u ⟨rfl,aqX,am2,aqY⟩;refine⟨_,I,aqX,am2,aqY,λac S=>?_⟩;have F23:=Ch.trans (Ch.trans (Ch.refl t w) (Ch.aT yV)) am2;refine azk S 1 [] [(4,.bool true)] λS=>azl<|adx _ _<|U0 S results144 ?_;exact⟨I,S.E,F23,S.bx 2⟩
open Go.RowKit Na Go.Sx
variable{α:Type}{K:Nat}
def mZ:List (Bool×Int)->Int
 | []=>0
 | p::l=>if p.1=true then p.2 else mZ l
def badL(l:List (Bool×Int)):Bool:=l.any (·.1)
abbrev jq (n:Int)(e:Value):Value := .iface 213 (.agg #[.i n,e])
theorem uO:∀l:List (Bool×Int),(badL l=false∧kH l = .nilIface∧mZ l=0)∨(badL l=true∧∃n,kH l=jq 0 (jq n .nilIface)∧mZ l=n)
 | [] => .inl ⟨I,I,I⟩
 | p::l=>by
  unfold kH mZ badL
  rw[List.any_cons]
  cases hp:p.1 with
  | true=>exact .inr ⟨I,p.2,azQ I,azQ I⟩
  | false =>
   rw[azP Y,azP Y,Bool.false_or]
   exact uO l
def aj.qP(nd:aj):Int:=cond ((nd.kind)==1) (mZ [((!(decide (1<=nd.blend)&&decide (nd.blend<=13))),2)]) (cond ((nd.kind)==2) (mZ nd.sF) ((mZ [(!(nd.img.valid),16),(((nd.cO) != 1)&&((nd.cO) != 2),2)])))
def aj.checkN(nd:aj):Int:=_root_.cond (badL nd.jT) (mZ nd.jT) nd.qP
variable{w:World}{nd:aj}
theorem VJ(nd:aj):(nd.Rx = .nilIface∧nd.qP=0)∨(nd.Rx=jq nd.qP .nilIface)∨(nd.Rx=jq 0 (jq nd.qP .nilIface)):=by
 have hL:∀l,(kH l = .nilIface∧mZ l=0)∨(kH l=jq (mZ l) .nilIface)∨(kH l=jq 0 (jq (mZ l) .nilIface)):=by
  intro l;rcases uO l with ⟨_,h1,h2⟩ | ⟨_,n,h1,h2⟩
  .exact .inl ⟨h1,h2⟩
  exact .inr (.inr (by rw[h1,h2]))
 have hW:∀b n,(dM b n = .nilIface∧mZ [(b,n)]=0)∨(dM b n=jq (mZ [(b,n)]) .nilIface)∨(dM b n=jq 0 (jq (mZ [(b,n)]) .nilIface)):=by
  intro b n;cases b<;>simp[dM,mZ]
 unfold aj.Rx aj.qP aj.Hz;cases h1:nd.kind==1
 .cases h2:nd.kind==2
  .exact hL _
  exact hL _
 exact hW _ _
theorem zf(h:eG K w nd)(hg:dw w) :
  Calls prog 96 #[nd.v] w λe w'=>e = .returned (.i nd.checkN)∧Ext w w':=by
 skip;refine azp func96 ntmps96 λS=>azs S nd.cells λu b2 E3 hb4 S=>adr S 2 [] [.mem 0 0] λS=>azB S (VG (h.below S.E)) (λu E6 S=>?_);rcases uO nd.jT with ⟨hb,he,hc⟩ | ⟨hb,n,he,hc⟩
 .rw[show nd.xZ = .nilIface from he]at S;try rw[show nd.xZ = .nilIface from he]
  refine azy S λS=>adr S 1 [] [.mem 0 0] λS=>azB S (Ry (h.below S.E)) (λu E9 S=>?_);rcases VJ nd with ⟨ho,hn⟩ | ho | ho
  .rw[ho]at S;try rw[ho]
   refine azs S [.i 0,.nilIface] λu b12 Dj VE S=>zun S 3 λS=>lQ S (as_nil (.iface 215 (.q b12 0)) _) λS=>azE S λS=>apB S (.i 0) (λS=>?_);exact⟨by unfold aj.checkN; rw[hb]; simp only[_root_.cond]; rw[hn],S.E⟩
  .rw[ho]at S;try rw[ho]
   refine azs S [.i 0,.nilIface] λu b21 Qm ajU S=>zun S 3 λS=>Aj S 0 [.i nd.qP,.nilIface] rfl (as_hit (n:=nd.qP) (e := .nilIface) I S.E (S.bx 0) (S.old 0) hg) ?_;rintro e u ⟨rfl,ajV,aay,ajW⟩;refine⟨_,I,ajV,aay,ajW,λS=>?_⟩;refine azy S λS=>azD S 5 [.mem 0 0,.mem 0 1] [] [(4,.i nd.qP),(18,.nilIface)] trivial λu E28 S=>lQ S (as_nil (.iface 215 (.q b21 0)) _) λS=>azE S λS=>apB S (.i nd.qP) (λS=>?_);exact⟨by unfold aj.checkN; rw[hb]; simp only[_root_.cond],S.E⟩
  rw[ho]at S;try rw[ho]
  refine azs S [.i 0,.nilIface] λu b34 J4 ajX S=>zun S 3 λS=>Aj S 0 [.i 0,jq nd.qP .nilIface] rfl (as_hit (n:=0) (e:=jq nd.qP .nilIface) I S.E (S.bx 0) (S.old 0) hg) ?_;rintro e u ⟨rfl,VK,Oc,ady⟩;refine⟨_,I,VK,Oc,ady,λS=>?_⟩;refine azy S λS=>azD S 5 [.mem 0 0,.mem 0 1] [] [(4,.i 0),(18,jq nd.qP .nilIface)] trivial λu Qn S=>Aj S 0 [.i nd.qP,.nilIface] rfl (as_hit (n:=nd.qP) (e := .nilIface) I S.E (S.bx 0) (S.old 0) hg) ?_;rintro e u ⟨rfl,aqZ,aq0,aq1⟩;refine⟨_,I,aqZ,aq0,aq1,λS=>?_⟩;refine azy S λS=>azD S 5 [.mem 0 0,.mem 0 1] [] [(4,.i nd.qP),(18,.nilIface)] trivial λu E45 S=>lQ S (as_nil (.iface 215 (.q b34 0)) _) λS=>azE S λS=>apB S (.i nd.qP) (λS=>?_);exact⟨by unfold aj.checkN; rw[hb]; simp only[_root_.cond],S.E⟩
 rw[show nd.xZ=jq 0 (jq n .nilIface)from he]at S;try rw[show nd.xZ=jq 0 (jq n .nilIface)from he]
 refine azE S λS=>azs S [.i 0,.nilIface] λu b53 E54 aq2 S=>zun S 3 λS=>Aj S 0 [.i 0,jq n .nilIface] rfl (as_hit (n:=0) (e:=jq n .nilIface) I S.E (S.bx 0) (S.old 0) hg) ?_;rintro e u ⟨rfl,ajY,adz,ajZ⟩;refine⟨_,I,ajY,adz,ajZ,λS=>?_⟩;refine azy S λS=>azD S 5 [.mem 0 0,.mem 0 1] [] [(4,.i 0),(18,jq n .nilIface)] trivial λu E60 S=>Aj S 0 [.i n,.nilIface] rfl (as_hit (n:=n) (e := .nilIface) I S.E (S.bx 0) (S.old 0) hg) ?_;rintro e u ⟨rfl,aq3,aq4,aq5⟩;refine⟨_,I,aq3,aq4,aq5,λS=>?_⟩;refine azy S λS=>azD S 5 [.mem 0 0,.mem 0 1] [] [(4,.i n),(18,.nilIface)] trivial λu E64 S=>lQ S (as_nil (.iface 215 (.q b53 0)) _) λS=>azE S λS=>apB S (.i n) (λS=>?_);exact⟨by unfold aj.checkN; rw[hb]; simp only[_root_.cond]; rw[hc],S.E⟩
theorem Kq(h:eG K w nd)(hg:dw w) :
  Calls prog 58 #[nd.v] w λe w'=>e = .returned (.bool (nd.checkN==0))∧Ext w w':=by
 skip;refine azp func58 ntmps58 λS=>azo S λu b2 E3 hb4 S=>adr S 2 [] [.mem 0 0] λS=>azB S (zf (h.below S.E) (hg.below S.E)) λu E6 S=>apB S (.bool ((nd.checkN)==0)) (λS=>?_);exact⟨I,S.E⟩
open Go.RowKit Na Go.Sx
variable{α:Type}{K:Nat}
theorem K04{base:Nat}{w:World}{v:Value}{q:Bool×Nat×Nat}(h:dP base w v q):∃r:bJ,v=r.v∧r.ok w∧r.n1=q.1∧r.l1=Ux q.2.1∧r.n2=false∧r.l2=Ux q.2.2:=by
 obtain⟨s,t,rfl,hs,ht,_⟩:=h;have hs':=hs;have ht':=ht;obtain⟨a1,c1,rfl,_⟩:=hs;obtain⟨a2,c2,rfl,_⟩:=ht;exact⟨⟨q.1,a1,c1,Ux q.2.1,false,a2,c2,Ux q.2.2⟩,I,⟨hs',ht'⟩,I,I,I,I⟩
variable{q:Bool×Nat×Nat}
theorem Lu{r:bJ}(h1:r.n1=q.1)(h2:r.l1=Ux q.2.1)(h3:r.n2=false)(h4:r.l2=Ux q.2.2)(hn:Le q):r.q=q:=by
 unfold bJ.q;rw[h1,h2,h3,h4,PV,PV]; exact hn
theorem yc{r:bJ}{K:Nat}(h2:r.l1=Ux q.2.1)(h4:r.l2=Ux q.2.2)(hl:qlen K q):r.fit K:=⟨by rw[h2]; exact hl.1,by rw[h4]; exact hl.2⟩
theorem Oe:Bj qI:=⟨by decide,by decide,by decide,by decide,by decide,by decide⟩
theorem aj0:Q5 1 qI:=by
 have h1:qlen 1 (false,1,1):=⟨BD,BD⟩;have h0:qlen 1 (false,0,1):=⟨by show(Ux 0).length<=1; rw[jD]; simp,BD⟩;exact⟨h1,h0,h0,h1,h0,h0⟩
def iM(id:Int)(t:bH):aj:=⟨id,2,0,t,none,0,[],0,0,0,false,false,none,0,[],1,none,0,[],aV.bare,none,0,[],dF.bare,0⟩
def bM:aj:=⟨0,0,0,bH.none,none,0,[],0,0,0,false,false,none,0,[],0,none,0,[],aV.bare,none,0,[],dF.bare,0⟩
theorem oP(w:World):wK w (.sn) []:=⟨dI _ _ _,λs hs=>by cases hs⟩
theorem kV(w:World):iV w (.sn) []:=⟨dI _ _ _,λs hs=>by cases hs⟩
theorem aaA{w:World}{id:Int}{t:bH}(hid:I64 id)(ht:t.ok w)(hf:t.fit 1)(hK:1<=K)(hK2:K<=10000):eG K w (iM id t):=
 ⟨⟨hid,(show I64 2 by decide),fC,ht,oP w,fC,fC,oP w,(show I64 1 by decide),kV w,aV.gB w,kV w,dF.gB w,fC⟩,⟨hf.1.mono hK,hf.2.1.mono hK,hf.2.2.1.mono hK,hf.2.2.2.1.mono hK,hf.2.2.2.2.1.mono hK,hf.2.2.2.2.2.mono hK⟩,λp hp=>(by cases hp),λp hp=>(by cases hp),hK,hK2⟩
theorem gJ(w:World)(hK:1<=K)(hK2:K<=10000):eG K w bM:=
 ⟨⟨fC,fC,fC,bH.gy w,oP w,fC,fC,oP w,fC,kV w,aV.gB w,kV w,dF.gB w,fC⟩,bH.iF K,λp hp=>(by cases hp),λp hp=>(by cases hp),hK,hK2⟩
theorem Og:bM.checkN=2:=rfl
theorem bJ.ok.dY{w w':World}{r:bJ}{b:Nat}{A:Array Value}(h:r.ok w)(hc:Ch b w w')(hx:Bx w b A)(hA:A.toList.all BG=true):r.ok w':=⟨Lh h.1 hc hx hA,Lh h.2 hc hx hA⟩
theorem bH.ok.dY{w w':World}{t:bH}{b:Nat}{A:Array Value}(h:t.ok w)(hc:Ch b w w')(hx:Bx w b A)(hA:A.toList.all BG=true:=by rfl):t.ok w':=
 ⟨h.1.dY hc hx hA,h.2.1.dY hc hx hA,h.2.2.1.dY hc hx hA,h.2.2.2.1.dY hc hx hA,h.2.2.2.2.1.dY hc hx hA,h.2.2.2.2.2.dY hc hx hA⟩
