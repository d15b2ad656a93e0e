/- Walks of package node: zero -/
import Derived.Test.YtodpgjjgaddkeaaGreatDoorPk9
import Derived.Stop.Asserts
import Derived.LaidEql
import Derived.Test.YtodpgjjgaddkeaaGreatDoorRows
import Derived.IntWalk
set_option maxHeartbeats 9999999
open Go renaming World->VO,Value->aaT,Calls->abB,TypeId->aix
open Go.Proofs.Tryz
set_option maxRecDepth 100000
set_option linter.unusedVariables false
set_option linter.unusedSimpArgs false
namespace Go.Proofs.Vy
open _root_.Go.Proofs.Tryz
section
open Go.RowKit Na Go.Sx
variable{α:Type}{K:Nat}
def eH(K:Nat)(w:VO)(n:aj):Prop:=n.ok w∧n.t.fit K∧(∀p∈n.fill,p.t.fit K)∧(∀p∈n.stroke,p.t.fit K)∧1<=K∧K<=10000
abbrev eH.below{w w':VO}{n:aj}(h:eH K w n)(D:Ext w w'):eH K w' n:=⟨h.1.below D,h.2⟩
def aZ.bare:aZ:=⟨0,0,0,0,none,0,[],0⟩
abbrev aZ.gV(w:VO):aZ.bare.ok w:=⟨fC,fC,fC,fC,⟨none,0,I,aDl _,.inl ⟨I,λ_=>rfl⟩⟩,λx D=>by simp[aZ.bare]at D,fC⟩
abbrev alT:Nw q0:=K08▸fA.nrm (bM.toQ (w:=default) (bM.gW _) (bM.iM 1))
abbrev alU:qlen 1 q0:=K08▸fA.len (bM.toQ (w:=default) (bM.gW _) (bM.iM 1)) (aDd 1)
abbrev aeo{w:VO}{t:bG}(h:t.ok w)(J:t.fit K)(D:1<=K)(hK:K<=10000) :
  abB prog 190 #[t.v] w (VH w (.b (qx t.q.Fp q0))):=by
 skip;refine aCG func190 ntmps190 λS=>aCF S λu b2 E3 aa S=>adr S 2 [] [.M 0 0] λS=>aC1 S (ZT t.v t.q K _ ((bG.toQ h J).iU S.E) D hK) λx u hd E6 S=>aC1 S (xk 0 _ Z Z) λy u hy E7 S=>aCQ S (mP _ _ t.q.Fp q0 (K+K+(K+K)+1) 1 _ (aC.toQ (hd.ext E7) (G5 _) (G6 D (K05 ((bG.toQ h J).iU (aDC _ _)) D))) (aC.toQ (q:=q0) hy alT alU) Z Z Z Z) λu D S=>aCB S (.b (((mZ t.q.Fp q0))==0)) (λS=>?_);exact⟨I,S.E⟩
def aj.bare(nd:aj):Bool:=cond ((nd.kind)==1) ((((((((nd.path.length:Int))==0)&&((nd.aW)==0))&&(((nd.fill.length:Int))==0))&&(((nd.stroke.length:Int))==0))&&(nd.style.eq aZ.bare))&&((nd.img.eq dI.bare)&&((nd.dD)==0))) (cond ((nd.kind)==2) (((((((nd.dS.toNat:Int))==0)&&((nd.blend)==0))&&(!nd.isolated))&&(!nd.dG))&&((nd.img.eq dI.bare)&&((nd.dD)==0))) (((((((nd.dS.toNat:Int))==0)&&((nd.blend)==0))&&(!nd.isolated))&&(!nd.dG))&&(((((((nd.path.length:Int))==0)&&((nd.aW)==0))&&(((nd.fill.length:Int))==0))&&(((nd.stroke.length:Int))==0))&&(nd.style.eq aZ.bare))))
abbrev aep{w:VO}{nd:aj}(h:eH K w nd) :
  abB prog 192 #[nd.v] w (VH w (.b nd.bare)):=by
 obtain⟨a1,c1,D⟩:=h.1.2.2.2.2.1.1.shape;obtain⟨a2,c2,D⟩:=h.1.2.2.2.2.2.2.2.1.1.shape;obtain⟨J,c3,D⟩:=h.1.2.2.2.2.2.2.2.2.2.1.1.shape;obtain⟨J,c4,D⟩:=h.1.2.2.2.2.2.2.2.2.2.2.2.1.1.shape;refine aCG func192 ntmps192 λS=>aCF S λu b2 J D S=>adr S 20 [] [.M 0 29,.M 0 30,.M 0 31,.M 0 32] λS=>aC6 S 28 [.M 0 33,.M 0 34,.M 0 35,.M 0 42,.M 0 36] [(_,_,((((((nd.path.length:Int))==0)&&((nd.aW)==0))&&(((nd.fill.length:Int))==0))&&(((nd.stroke.length:Int))==0)),.b (nd.style.eq aZ.bare))] [(4,.b (((((((nd.path.length:Int))==0)&&((nd.aW)==0))&&(((nd.fill.length:Int))==0))&&(((nd.stroke.length:Int))==0))&&(nd.style.eq aZ.bare)))] ⟨λu D g=>xq (p:=nd.style) (q:=aZ.bare) (h.1.2.2.2.2.2.2.2.2.2.2.1.below (K00 S.E D)) (aZ.gV _),G⟩ λu J S=>adr S 3 [] [.M 0 43] λS=>aCQ S (uX (m:=nd.img) (n:=dI.bare) (h.1.2.2.2.2.2.2.2.2.2.2.2.2.1.below S.E) (dI.gV _)) λu D S=>adr S 10 [] [.M 0 46,.M 0 1] λS=>aCD S ((nd.kind)==1) (λD S=>?_) (λD S=>?_)
 .refine aCB S (.b ((((((((nd.path.length:Int))==0)&&((nd.aW)==0))&&(((nd.fill.length:Int))==0))&&(((nd.stroke.length:Int))==0))&&(nd.style.eq aZ.bare))&&((nd.img.eq dI.bare)&&((nd.dD)==0)))) (λS=>?_);exact⟨aJ (by unfold aj.bare; rw[D]; rfl),S.E⟩
 refine aCD S ((nd.kind)==2) (λJ S=>?_) (λJ S=>?_)
 .refine aCB S (.b (((((((nd.dS.toNat:Int))==0)&&((nd.blend)==0))&&(!nd.isolated))&&(!nd.dG))&&((nd.img.eq dI.bare)&&((nd.dD)==0)))) (λS=>?_);exact⟨aJ (by unfold aj.bare; rw[D,J]; rfl),S.E⟩
 refine aCB S (.b (((((((nd.dS.toNat:Int))==0)&&((nd.blend)==0))&&(!nd.isolated))&&(!nd.dG))&&(((((((nd.path.length:Int))==0)&&((nd.aW)==0))&&(((nd.fill.length:Int))==0))&&(((nd.stroke.length:Int))==0))&&(nd.style.eq aZ.bare)))) (λS=>?_);exact⟨aJ (by unfold aj.bare; rw[D,J]; rfl),S.E⟩
open Go.RowKit Na Go.Sx
variable{α:Type}{K:Nat}
def aj.iF(nd:aj):List (Bool×Int):=[((decide (nd.kind<1))||(decide (3<nd.kind)),2),((((decide (nd.id<1))||(decide (1073741824<nd.id)))||(decide (nd.depth<0)))||(decide (8<=nd.depth)),6),(!(nd.t.q.valid),5),((qx nd.t.q.Fp q0),9),(!(kK nd.clip),10),((!(((((nd.clip.length:Int))==0)&&((nd.aS)==0))||((decide (0<(nd.clip.length:Int)))&&((nd.aS==1)||(nd.aS==2)))))||(!(nd.bare)),17)]
def aj.yO(nd:aj):aaT:=kX nd.iF
abbrev Xf{w:VO}{nd:aj}(h:eH K w nd) :
  abB prog 142 #[nd.v] w (VH w nd.yO):=by
 obtain⟨a1,c1,D⟩:=h.1.2.2.2.2.1.1.shape;obtain⟨a2,c2,D⟩:=h.1.2.2.2.2.2.2.2.1.1.shape;obtain⟨J,c3,D⟩:=h.1.2.2.2.2.2.2.2.2.2.1.1.shape;obtain⟨J,c4,D⟩:=h.1.2.2.2.2.2.2.2.2.2.2.2.1.1.shape;refine aDi func142 ntmps142 λJ S=>aCE λ_ D=>aEl S 1 nd.cells λJ u b2 E3 aa S=>apB S 1 [] [(2,.nilIface)] λS=>aCC<|D _ _<|aCE λ_ AB=>aer S 21 [.M 0 27,.M 0 28,.M 0 27,.M 0 28] [(_,_,((!((((nd.clip.length:Int))==0)&&((nd.aS)==0)))&&(decide (0<(nd.clip.length:Int)))),.b ((nd.aS==1)||(nd.aS==2)))] [(3,.b (((((nd.clip.length:Int))==0)&&((nd.aS)==0))||((decide (0<(nd.clip.length:Int)))&&((nd.aS==1)||(nd.aS==2)))))] ⟨λu D g=>aC3 (SY nd.aS _),G⟩ λJ u E6 S=>aCC<|AB _ _<|aDs λ_ Xg=>aDj S 50 [.M 0 1,.M 0 1,.M 0 0,.M 0 0,.M 0 2,.M 0 2,.M 0 3,.M 0 3,.M 0 27,.M 0 0] [(_,_,true,dO ((decide (nd.kind<1))||(decide (3<nd.kind))) 2),(_,_,true,dO ((((decide (nd.id<1))||(decide (1073741824<nd.id)))||(decide (nd.depth<0)))||(decide (8<=nd.depth))) 6),(_,_,true,.b (nd.t.q.valid)),(_,_,true,dO (!(nd.t.q.valid)) 5),(_,_,true,.b (qx nd.t.q.Fp q0)),(_,_,true,dO (qx nd.t.q.Fp q0) 9),(_,_,true,.b (kK nd.clip)),(_,_,true,dO (!(kK nd.clip)) 10),(_,_,(!(!(((((nd.clip.length:Int))==0)&&((nd.aS)==0))||((decide (0<(nd.clip.length:Int)))&&((nd.aS==1)||(nd.aS==2)))))),.b (nd.bare)),(_,_,true,dO ((!(((((nd.clip.length:Int))==0)&&((nd.aS)==0))||((decide (0<(nd.clip.length:Int)))&&((nd.aS==1)||(nd.aS==2)))))||(!(nd.bare))) 17)] [(32,dO ((decide (nd.kind<1))||(decide (3<nd.kind))) 2),(51,dO ((((decide (nd.id<1))||(decide (1073741824<nd.id)))||(decide (nd.depth<0)))||(decide (8<=nd.depth))) 6),(56,dO (!(nd.t.q.valid)) 5),(60,dO (qx nd.t.q.Fp q0) 9),(65,dO (!(kK nd.clip)) 10),(73,dO ((!(((((nd.clip.length:Int))==0)&&((nd.aS)==0))||((decide (0<(nd.clip.length:Int)))&&((nd.aS==1)||(nd.aS==2)))))||(!(nd.bare))) 17)] ⟨λu D g=>aC3 (jk ((decide (nd.kind<1))||(decide (3<nd.kind))) 2 _),λu D g=>aC3 (jk ((((decide (nd.id<1))||(decide (1073741824<nd.id)))||(decide (nd.depth<0)))||(decide (8<=nd.depth))) 6 _),λu D g=>IC nd.t.v nd.t.q K _ ((bG.toQ h.1.2.2.2.1 h.2.1).iU (K00 S.E D)) h.2.2.2.2.1 (by have:=h.2.2.2.2.2; omega),λu D g=>aC3 (jk (!(nd.t.q.valid)) 5 _),λu D g=>aeo (t:=nd.t) (h.1.2.2.2.1.below (K00 S.E D)) h.2.1 h.2.2.2.2.1 h.2.2.2.2.2,λu D g=>aC3 (jk (qx nd.t.q.Fp q0) 9 _),λu D g=>zZ (h.1.2.2.2.2.1.below (K00 S.E D)),λu D g=>aC3 (jk (!(kK nd.clip)) 10 _),λu D g=>aep (h.below (K00 S.E D)),λu D g=>aC3 (jk ((!(((((nd.clip.length:Int))==0)&&((nd.aS)==0))||((decide (0<(nd.clip.length:Int)))&&((nd.aS==1)||(nd.aS==2)))))||(!(nd.bare))) 17 _),G⟩ (λJ u D S=>?_);refine S9 S 74 (dO ((decide (nd.kind<1))||(decide (3<nd.kind))) 2) (dO ((((decide (nd.id<1))||(decide (1073741824<nd.id)))||(decide (nd.depth<0)))||(decide (8<=nd.depth))) 6) (dO (!(nd.t.q.valid)) 5) (dO (qx nd.t.q.Fp q0) 9) (dO (!(kK nd.clip)) 10) (dO ((!(((((nd.clip.length:Int))==0)&&((nd.aS)==0))||((decide (0<(nd.clip.length:Int)))&&((nd.aS==1)||(nd.aS==2)))))||(!(nd.bare))) 17) I I I I (fQ _ _) (fQ _ _) (fQ _ _) (fQ _ _) (fQ _ _) (fQ _ _) (λJ u b9 Pv D S=>?_);refine CQ S 75 (first_any (lW (f:=λp:Bool×Int=>dO p.1 p.2) [((decide (nd.kind<1))||(decide (3<nd.kind)),2),((((decide (nd.id<1))||(decide (1073741824<nd.id)))||(decide (nd.depth<0)))||(decide (8<=nd.depth)),6),(!(nd.t.q.valid),5),((qx nd.t.q.Fp q0),9),(!(kK nd.clip),10),((!(((((nd.clip.length:Int))==0)&&((nd.aS)==0))||((decide (0<(nd.clip.length:Int)))&&((nd.aS==1)||(nd.aS==2)))))||(!(nd.bare)),17)] (S.bx 0) (by show 6<=9223372036854775807; decide))) λJ u D S=>apB S 1 [] [(2,(kX [((decide (nd.kind<1))||(decide (3<nd.kind)),2),((((decide (nd.id<1))||(decide (1073741824<nd.id)))||(decide (nd.depth<0)))||(decide (8<=nd.depth)),6),(!(nd.t.q.valid),5),((qx nd.t.q.Fp q0),9),(!(kK nd.clip),10),((!(((((nd.clip.length:Int))==0)&&((nd.aS)==0))||((decide (0<(nd.clip.length:Int)))&&((nd.aS==1)||(nd.aS==2)))))||(!(nd.bare)),17)]))] λS=>aCC<|Xg _ _<|RY S results142 ?_;exact⟨aDc Ending.returned (by unfold aj.yO aj.iF; rfl),S.E⟩
open Go.RowKit Na Go.Sx
variable{α:Type}{K:Nat}
def aj.sS(nd:aj):List (Bool×Int):=[(!(kK nd.path),10),(!((nd.aW==1)||(nd.aW==2)),2),((decide (1<(nd.fill.length:Int)))||(decide (1<(nd.stroke.length:Int))),5),((decide (0<(nd.stroke.length:Int)))&&(!(nd.style.valid)),13),((!(decide (0<(nd.stroke.length:Int))))&&(!(nd.style.eq aZ.bare)),17),((!(nd.fill.all ak.valid))||(!(nd.stroke.all ak.valid)),16)]
def aj.IE(nd:aj):aaT:=kX nd.sS
abbrev abv{w:VO}{nd:aj}(h:eH K w nd) :
  abB prog 194 #[nd.v] w (VH w nd.IE):=by
 obtain⟨a1,c1,D⟩:=h.1.2.2.2.2.1.1.shape;obtain⟨a2,c2,D⟩:=h.1.2.2.2.2.2.2.2.1.1.shape;obtain⟨J,c3,D⟩:=h.1.2.2.2.2.2.2.2.2.2.1.1.shape;obtain⟨J,c4,D⟩:=h.1.2.2.2.2.2.2.2.2.2.2.2.1.1.shape;refine aDi func194 ntmps194 λJ S=>aCE λ_ D=>aEl S 1 nd.cells λJ u b2 E3 aa S=>apB S 1 [] [(2,.nilIface)] λS=>aCC<|D _ _<|aCE λ_ AB=>apB S 5 [.M 0 42] [(3,.b (0<(nd.stroke.length:Int)))] λS=>aCC<|AB _ _<|aDs λ_ κ6=>aDj S 50 [.M 0 33,.M 0 34,.M 0 35,.M 0 42,.M 0 36,.M 0 36,.M 0 35,.M 0 42] [(_,_,true,.b (kK nd.path)),(_,_,true,dO (!(kK nd.path)) 10),(_,_,true,.b ((nd.aW==1)||(nd.aW==2))),(_,_,true,dO (!((nd.aW==1)||(nd.aW==2))) 2),(_,_,true,dO ((decide (1<(nd.fill.length:Int)))||(decide (1<(nd.stroke.length:Int)))) 5),(_,_,(decide (0<(nd.stroke.length:Int))),.b (nd.style.valid)),(_,_,true,dO ((decide (0<(nd.stroke.length:Int)))&&(!(nd.style.valid))) 13),(_,_,(!(decide (0<(nd.stroke.length:Int)))),.b (nd.style.eq aZ.bare)),(_,_,true,dO ((!(decide (0<(nd.stroke.length:Int))))&&(!(nd.style.eq aZ.bare))) 17),(_,_,true,.b (nd.fill.all ak.valid)),(_,_,(!(!(nd.fill.all ak.valid))),.b (nd.stroke.all ak.valid)),(_,_,true,dO ((!(nd.fill.all ak.valid))||(!(nd.stroke.all ak.valid))) 16)] [(12,dO (!(kK nd.path)) 10),(17,dO (!((nd.aW==1)||(nd.aW==2))) 2),(28,dO ((decide (1<(nd.fill.length:Int)))||(decide (1<(nd.stroke.length:Int)))) 5),(36,dO ((decide (0<(nd.stroke.length:Int)))&&(!(nd.style.valid))) 13),(46,dO ((!(decide (0<(nd.stroke.length:Int))))&&(!(nd.style.eq aZ.bare))) 17),(57,dO ((!(nd.fill.all ak.valid))||(!(nd.stroke.all ak.valid))) 16)] ⟨λu D g=>zZ (h.1.2.2.2.2.2.2.2.1.below (K00 S.E D)),λu D g=>aC3 (jk (!(kK nd.path)) 10 _),λu D g=>aC3 (SY nd.aW _),λu D g=>aC3 (jk (!((nd.aW==1)||(nd.aW==2))) 2 _),λu D g=>aC3 (jk ((decide (1<(nd.fill.length:Int)))||(decide (1<(nd.stroke.length:Int)))) 5 _),λu D g=>abw (p:=nd.style) (h.1.2.2.2.2.2.2.2.2.2.2.1.below (K00 S.E D)),λu D g=>aC3 (jk ((decide (0<(nd.stroke.length:Int)))&&(!(nd.style.valid))) 13 _),λu D g=>xq (p:=nd.style) (q:=aZ.bare) (h.1.2.2.2.2.2.2.2.2.2.2.1.below (K00 S.E D)) (aZ.gV _),λu D g=>aC3 (jk ((!(decide (0<(nd.stroke.length:Int))))&&(!(nd.style.eq aZ.bare))) 17 _),λu D g=>ZU (K:=K) (pR.below ⟨h.1.2.2.2.2.2.2.2.2.2.1,h.2.2.1,h.2.2.2.2.1,h.2.2.2.2.2⟩ (K00 S.E D)),λu D g=>ZU (K:=K) (pR.below ⟨h.1.2.2.2.2.2.2.2.2.2.2.2.1,h.2.2.2.1,h.2.2.2.2.1,h.2.2.2.2.2⟩ (K00 S.E D)),λu D g=>aC3 (jk ((!(nd.fill.all ak.valid))||(!(nd.stroke.all ak.valid))) 16 _),G⟩ (λJ u D S=>?_);refine S9 S 58 (dO (!(kK nd.path)) 10) (dO (!((nd.aW==1)||(nd.aW==2))) 2) (dO ((decide (1<(nd.fill.length:Int)))||(decide (1<(nd.stroke.length:Int)))) 5) (dO ((decide (0<(nd.stroke.length:Int)))&&(!(nd.style.valid))) 13) (dO ((!(decide (0<(nd.stroke.length:Int))))&&(!(nd.style.eq aZ.bare))) 17) (dO ((!(nd.fill.all ak.valid))||(!(nd.stroke.all ak.valid))) 16) I I I I (fQ _ _) (fQ _ _) (fQ _ _) (fQ _ _) (fQ _ _) (fQ _ _) (λJ u b8 D AL S=>?_);refine CQ S 59 (first_any (lW (f:=λp:Bool×Int=>dO p.1 p.2) [(!(kK nd.path),10),(!((nd.aW==1)||(nd.aW==2)),2),((decide (1<(nd.fill.length:Int)))||(decide (1<(nd.stroke.length:Int))),5),((decide (0<(nd.stroke.length:Int)))&&(!(nd.style.valid)),13),((!(decide (0<(nd.stroke.length:Int))))&&(!(nd.style.eq aZ.bare)),17),((!(nd.fill.all ak.valid))||(!(nd.stroke.all ak.valid)),16)] (S.bx 0) (by show 6<=9223372036854775807; decide))) λJ u D S=>apB S 1 [] [(2,(kX [(!(kK nd.path),10),(!((nd.aW==1)||(nd.aW==2)),2),((decide (1<(nd.fill.length:Int)))||(decide (1<(nd.stroke.length:Int))),5),((decide (0<(nd.stroke.length:Int)))&&(!(nd.style.valid)),13),((!(decide (0<(nd.stroke.length:Int))))&&(!(nd.style.eq aZ.bare)),17),((!(nd.fill.all ak.valid))||(!(nd.stroke.all ak.valid)),16)]))] λS=>aCC<|κ6 _ _<|RY S results194 ?_;exact⟨aDc Ending.returned (by unfold aj.IE aj.sS; rfl),S.E⟩
open Go.RowKit Na Go.Sx
variable{α:Type}{K:Nat}
def aj.Tc(nd:aj):aaT:=cond ((nd.kind)==1) (dO (!(decide (1<=nd.blend)&&decide (nd.blend<=13))) 2) (cond ((nd.kind)==2) (nd.IE) ((kX [(!(nd.img.valid),16),(((nd.dD) != 1)&&((nd.dD) != 2),2)])))
abbrev Td{w:VO}{nd:aj}(h:eH K w nd) :
  abB prog 143 #[nd.v] w (VH w nd.Tc):=by
 obtain⟨a1,c1,D⟩:=h.1.2.2.2.2.1.1.shape;obtain⟨a2,c2,D⟩:=h.1.2.2.2.2.2.2.2.1.1.shape;obtain⟨J,c3,D⟩:=h.1.2.2.2.2.2.2.2.2.2.1.1.shape;obtain⟨J,c4,D⟩:=h.1.2.2.2.2.2.2.2.2.2.2.2.1.1.shape;refine aDi func143 ntmps143 λJ S=>aCE λ_ D=>aEl S 1 nd.cells λJ u b2 E3 aa S=>apB S 1 [] [(2,.nilIface)] λS=>aCC<|D _ _<|aDs λ_ AB=>aCE λ_ κ6=>apB S 2 [.M 0 1] [(4,.i nd.kind)] λS=>aCC<|κ6 _ _<|aD9<|aCE λ_ D=>apB S 2 [] [(5,.b ((nd.kind)==1))] λS=>aCC (D _ _ ?_);refine aCX S (λD=>?_) (λD=>?_)
 .refine aCE λ_ Xh=>apB S 2 [.M 0 30] [(8,.i nd.blend)] λS=>Sx.calls S 9 (aeu nd.blend _) λJ S=>apB S 1 [] [(10,.b (!(decide (1<=nd.blend)&&decide (nd.blend<=13))))] λS=>Sx.calls S 11 (jk (!(decide (1<=nd.blend)&&decide (nd.blend<=13))) 2 _) λJ S=>apB S 1 [] [(2,dO (!(decide (1<=nd.blend)&&decide (nd.blend<=13))) 2)] λS=>aCC<|Xh _ _<|RY S results143 ?_;exact⟨aDc Ending.returned (by unfold aj.Tc; rw[D]; rfl),S.E⟩
 refine aCE λ_ xu=>apB S 2 [] [(12,.b ((nd.kind)==2))] λS=>aCC (xu _ _ ?_);refine aCX S (λfJ=>?_) (λfJ=>?_)
 .refine aCE λ_ LJ=>apB S 1 [.M 0 0] [(14,nd.v)] λS=>CQ S 15 (abv (h.below S.E)) λJ u Gn S=>apB S 1 [] [(2,nd.IE)] λS=>aCC<|LJ _ _<|RY S results143 ?_;exact⟨aDc Ending.returned (by unfold aj.Tc; rw[D,fJ]; rfl),S.E⟩
 refine aDM<|AB _ _<|aDs λ_ wL=>aDj S 14 [.M 0 43,.M 0 46,.M 0 46] [(_,_,true,.b (nd.img.valid)),(_,_,true,dO (!(nd.img.valid)) 16),(_,_,true,dO (((nd.dD) != 1)&&((nd.dD) != 2)) 2)] [(20,dO (!(nd.img.valid)) 16),(29,dO (((nd.dD) != 1)&&((nd.dD) != 2)) 2)] ⟨λu hC g=>CS (m:=nd.img) (h.1.2.2.2.2.2.2.2.2.2.2.2.2.1.below (K00 S.E hC)),λu hC g=>aC3 (jk (!(nd.img.valid)) 16 _),λu hC g=>aC3 (jk (((nd.dD) != 1)&&((nd.dD) != 2)) 2 _),G⟩ (λJ u ab S=>?_);refine aev S 30 (dO (!(nd.img.valid)) 16) (dO (((nd.dD) != 1)&&((nd.dD) != 2)) 2) I I I I (fQ _ _) (fQ _ _) (λJ u ae yP af S=>?_);refine CQ S 31 (first_any (lW (f:=λp:Bool×Int=>dO p.1 p.2) [(!(nd.img.valid),16),(((nd.dD) != 1)&&((nd.dD) != 2),2)] (S.bx 0) (by show 2<=9223372036854775807; decide))) λJ u Ny S=>apB S 1 [] [(2,(kX [(!(nd.img.valid),16),(((nd.dD) != 1)&&((nd.dD) != 2),2)]))] λS=>aCC<|wL _ _<|RY S results143 ?_;exact⟨aDc Ending.returned (by unfold aj.Tc; rw[D,fJ]; rfl),S.E⟩
end
section
open Go.RowKit Na Go.Sx
variable{α:Type}
def bT(w:VO):Prop:=0 < w.heap.size∧w.rangeAt 0 0 [.iface 296 (.agg #[.q prog.globals.size 210])]
variable{w w0:VO}{x0 x1 e:aaT}{t:Nat}
abbrev rls(v x:aaT):Go.Extern.ReflectliteValue.set #[v,x]=(do
  let (some (dst,a,fl),some (src,b,_)):=(<-Go.Extern.ReflectliteValue.parts v,<-Go.Extern.ReflectliteValue.parts x)
   | unsupported (.noEntry "extern/(internal/reflectlite.Value).Set.zeroValue")
  if fl/Go.Extern.ReflectliteValue.flagAddr%2==0 then unsupported (.noEntry "extern/(internal/reflectlite.Value).Set.unaddressable")
  let val <-loadVar src b
  if <-Go.Extern.Rtype.directlyAssignable dst src then storeVar dst a val
  else if <-Go.Extern.Rtype.implements dst src then
   if (<-Go.Extern.Rtype.kind src)==20 then
    match val with
    | .nilIface=>unsupported (.noEntry "extern/reflectlite: a nil value of one interface type handed on as a value of another")
    | _=>storeVar dst a val
   else storeVar dst a (.iface src val)
  else panicString ("reflectlite.Set: value of type " ++ (<-Go.Extern.Rtype.spelt src) ++ " is not assignable to type " ++ (<-Go.Extern.Rtype.spelt dst))
  pure (.tuple #[])):=rfl
abbrev IG(b:Nat)(w:VO):(Go.Extern.ReflectliteValue.parts (.agg #[.q prog.globals.size 213,.q b 0,.int .u64 409])).run prog w = .ok (some (213,⟨b,0,none⟩,409)) w:=by kernel_rfl
abbrev II(b:Nat)(w:VO):(Go.Extern.ReflectliteValue.parts (.agg #[.q prog.globals.size 213,.q b 0,.int .u64 153])).run prog w = .ok (some (213,⟨b,0,none⟩,153)) w:=by kernel_rfl
abbrev Py(w:VO):(Go.Extern.Rtype.directlyAssignable 213 213).run prog w = .ok true w:=by kernel_rfl
abbrev abx(t b:Nat)(n:Int)(e:aaT)(S:Bx w b #[.i n,e])(D:Bx w t #[x0,x1])(he:e.oneCell'=true) :
  (Go.Extern.ReflectliteValue.set #[.agg #[.q prog.globals.size 213,.q t 0,.int .u64 409],.agg #[.q prog.globals.size 213,.q b 0,.int .u64 153]]).run prog w = .ok (.tuple #[]) (w.setCells t 0 [.i n,e]) ∧
   Ch t w (w.setCells t 0 [.i n,e])∧Bx (w.setCells t 0 [.i n,e]) t #[.i n,e]:=by
 refine⟨?_,(Ch.refl t w).setCells _ _,Bx.set D _ I⟩;rw[rls];have J:=run_loadVar_mid (P:=prog) w b 0 213 [.i n,e] _ (S.range 0 2 I) underlying213 I X;have S:=run_storeVar_mid (P:=prog) w t 0 213 #[.i n,e] (D.there I) X (by simp only[List.all_toArray,List.all_cons,List.all_nil,he,Bool.and_true]; rfl);have p1:=IG t w;have p2:=II b w;have p3:=Py w;have p4:(409/Go.Extern.ReflectliteValue.flagAddr%2==0)=false:=by decide
 generalize prog.globals.size=g at p1 p2 |-;simp only[aEe,p1,p2,Result.andThen,p4,aFG,if_false,J,p3,if_true];rw[S];rfl
abbrev alV{ρ:Operand->aaT}{o:Oper}{x y:Operand}{ts:Array aix}{u v V:aaT}{w1:VO}(J:o.op = .call { callee := .value (.func 240),args := #[x,y],argTypes:=ts })(S:ρ (.func 240) = .func (.func 240) #[] #[])
  (hx:ρ x=u) (hy:ρ y=v) (hs:(Go.Extern.ReflectliteValue.set #[u,v]).run prog w = .ok V w1):(execOp ρ o).run prog w = .ok (.value V) w1:=by
 have D:=@run_callFunc_extern prog 240 _ Go.Extern.ReflectliteValue.set func240 X X X X;unfold execOp;rw[J];simp[go_sem,S,hx,hy,D,hs]
abbrev as_nil(t:aaT)(w:VO) :
  abB prog 144 #[.nilIface,t] w λe w'=>e = .R (.z)∧w=w':=by
 skip;refine aCG func144 ntmps144 λS=>aCM S λS=>aCB S (.z) (λS=>?_);exact⟨I,I⟩
abbrev aiz{n:Int}{b:Nat}(he:e.oneCell'=true)(hE:Ext w0 w)(ht:Bx w t #[x0,x1])(hb:w0.heap.size<=t)(D:b<w.heap.size∧w.rangeAt b 0 [.q t 0]∧t≠b) :
  abB prog 199 #[.iface 213 (.agg #[.i n,e]),.iface 215 (.q t 0),.agg #[.q prog.globals.size 215,.q b 0,.int .u64 150],.iface 296 (.agg #[.q prog.globals.size 213])] w λev w'=>ev = .R (.b true)∧Ext w0 w'∧Ch t w w'∧Bx w' t #[.i n,e]:=by
 skip;refine AO func199 ntmps199 hE ht hb (λJ S=>?_);have S:=S.view D.1 D.2.1 (λp hp=>by obtain rfl:=aDK.1 hp; exact D.2.2);refine aCE λ_ D=>aEl S 6 [.q prog.globals.size 215,.q b 0,.int .u64 150] λJ u b2 E3 aa S=>apB S 1 [] [(8,.z)] λS=>aCC<|D _ _<|aD9<|wp_loop_rounds 1 ?_;rw[aFx];refine aD9<|aDs λ_ D=>aCE λ_ κ6=>apB S 4 [] [(19,.b true)] λS=>aCC<|κ6 _ _<|IJ S<|aCE λ_ Xg=>apB S 3 [.M 0 0,.lds [(2,0)]] [(21,.agg #[.q prog.globals.size 213,.q t 0,.int .u64 409]),(22,.iface 213 (.agg #[.i n,e]))] λS=>Sx.new S 23 [.i n,e] (λb => .agg #[.q prog.globals.size 213,.q b 0,.int .u64 153]) (λJ u b8 E9 D S=>?_);have D:=abx t b8 n e (w:=u) (S.bx 0) (S.bx 2) he;refine Sx.wrote S 2 [.i n,e] (.tuple #[]) (some 24) I I I I ?_ D.2.1 D.2.2 (uS S.E hb _ _) (λJ S=>?_)
 .exact alV I I (S.s.has 21 _ I) (S.s.has 23 _ I) D.1
 have J:=Ch.trans (Ch.trans (Ch.refl t w) (Ch.aT (K00 E3 E9))) D.2.1;refine aCC<|Xg _ _<|aCE λ_ D=>apB S 1 [] [(8,.b true)] λS=>aCC<|D _ _<|RY S results199 ?_;exact⟨I,S.E,J,S.bx 2⟩
abbrev bT.below{w w':VO}(h:bT w)(D:Ext w w'):bT w':=⟨aDL h.1 D.size,Vp.qM h.2 h.1 D⟩
abbrev as_hit{n:Int}(he:e.oneCell'=true)(hE:Ext w0 w)(ht:Bx w t #[x0,x1])(hb:w0.heap.size<=t)(D:bT w0) :
  abB prog 144 #[.iface 213 (.agg #[.i n,e]),.iface 215 (.q t 0)] w λev w'=>ev = .R (.b true)∧Ext w0 w'∧Ch t w w'∧Bx w' t #[.i n,e]:=by
 skip;refine AO func144 ntmps144 hE ht hb (λJ S=>?_);have S:=S.view0 D.1 D.2;refine aCE λ_ D=>apB S 1 [] [(4,.z)] λS=>aCC<|D _ _<|aDs λ_ Wx=>aCE λ_ κ3=>apB S 2 [] [(9,.z)] λS=>aCC<|κ3 _ _<|Fq S<|aDM<|Wx _ _<|aDs λ_ κ4=>aCE λ_ D=>apB S 2 [] [(11,.z)] λS=>aCC<|D _ _<|Fq S<|aDM<|κ4 _ _<|aCE λ_ κ6=>apB S 1 [] [(13,.iface 215 (.q t 0))] λS=>Sx.new S 14 [.q t 0] (λb => .agg #[.q prog.globals.size 215,.q b 0,.int .u64 150]) λJ u b7 E8 D S=>aEl S 5 [.pointer none,.pointer none,.int .u64 0] λJ u b10 Cj D S=>aC7 S 0 (off:=0) (cs:=[.q prog.globals.size 215,.q b7 0,.int .u64 150]) I (λu D S=>?_);have xw:=aCI (K00 E8 Cj) D (by have:=E8.size; omega);refine aCC<|κ6 _ _<|aCE λ_ D=>apB S 3 [.M 0 0] [(6,.iface 296 (.agg #[.q prog.globals.size 215]))] λS=>aCC<|D _ _<|aDs λ_ xA=>aCE λ_ D=>apB S 7 [.M 0 0,.lds [(1,0)]] [(23,.z)] λS=>aCC<|D _ _<|Fq S<|aDM<|xA _ _<|aCE λ_ Xi=>apB S 3 [] [(7,.iface 296 (.agg #[.q prog.globals.size 213]))] λS=>aCC<|Xi _ _<|aDs λ_ D=>aCE λ_ aa=>apB S 9 [.M 3 0] [(35,.z)] λS=>aCC<|aa _ _<|Fq S<|aDM<|D _ _<|aCE λ_ ab=>apB S 4 [.M 0 0] [(37,.iface 213 (.agg #[.i n,e])),(38,.iface 215 (.q t 0)),(39,.agg #[.q prog.globals.size 215,.q b7 0,.int .u64 150]),(40,.iface 296 (.agg #[.q prog.globals.size 213]))] (λS=>?_);have D:=(S.bx 1).1;refine akC S 2 [.i n,e] (some 41) I (aiz (n:=n) (t:=t) (b:=b7) he S.E (S.bx 2) hb ⟨(S.bx 1).1,(S.bx 1).range 0 1 I,S.ne (i:=2) (j:=1) I I O⟩) ?_;rintro e u ⟨rfl,ae,D,af⟩;refine⟨_,I,ae,D,af,λJ S=>?_⟩;have J:=Ch.trans (Ch.trans (Ch.refl t w) (Ch.aT xw)) D;refine apB S 1 [] [(4,.b true)] λS=>aCC<|ab _ _<|RY S results144 ?_;exact⟨I,S.E,J,S.bx 2⟩
open Go.RowKit Na Go.Sx
variable{α:Type}{K:Nat}
def nK:List (Bool×Int)->Int
 | []=>0
 | p::l=>if p.1=true then p.2 else nK l
def badL(l:List (Bool×Int)):Bool:=l.any (·.1)
abbrev jK (n:Int)(e:aaT):aaT := .iface 213 (.agg #[.i n,e])
theorem uY:∀l:List (Bool×Int),(badL l=false∧kX l = .nilIface∧nK l=0)∨(badL l=true∧∃n,kX l=jK 0 (jK n .nilIface)∧nK l=n)
 | [] => .inl ⟨I,I,I⟩
 | p::l=>by
  unfold kX nK badL
  rw[List.any_cons]
  cases hp:p.1 with
  | true=>exact .inr ⟨I,p.2,aDb I,aDb I⟩
  | false =>
   rw[aC9 Y,aC9 Y,Bool.false_or]
   exact uY l
def aj.qR(nd:aj):Int:=cond ((nd.kind)==1) (nK [((!(decide (1<=nd.blend)&&decide (nd.blend<=13))),2)]) (cond ((nd.kind)==2) (nK nd.sS) ((nK [(!(nd.img.valid),16),(((nd.dD) != 1)&&((nd.dD) != 2),2)])))
def aj.checkN(nd:aj):Int:=_root_.cond (badL nd.iF) (nK nd.iF) nd.qR
variable{w:VO}{nd:aj}
abbrev Xj(nd:aj):(nd.Tc = .nilIface∧nd.qR=0)∨(nd.Tc=jK nd.qR .nilIface)∨(nd.Tc=jK 0 (jK nd.qR .nilIface)):=by
 have S:∀l,(kX l = .nilIface∧nK l=0)∨(kX l=jK (nK l) .nilIface)∨(kX l=jK 0 (jK (nK l) .nilIface)):=by
  intro l;rcases uY l with ⟨_,D,J⟩ | ⟨_,n,D,J⟩
  .exact .inl ⟨D,J⟩
  exact .inr (.inr (by rw[D,J]))
 have hW:∀b n,(dO b n = .nilIface∧nK [(b,n)]=0)∨(dO b n=jK (nK [(b,n)]) .nilIface)∨(dO b n=jK 0 (jK (nK [(b,n)]) .nilIface)):=by
  intro b n;cases b<;>simp[dO,nK]
 unfold aj.Tc aj.qR aj.IE;cases D:nd.kind==1
 .cases J:nd.kind==2
  .exact S _
  exact S _
 exact hW _ _
abbrev Aa(h:eH K w nd)(hg:bT w) :
  abB prog 96 #[nd.v] w (VH w (.i nd.checkN)):=by
 skip;refine aCG func96 ntmps96 λS=>aCJ S nd.cells λu b2 J D S=>adr S 2 [] [.M 0 0] λS=>aCQ S (Xf (h.below S.E)) (λu D S=>?_);rcases uY nd.iF with ⟨J,he,hc⟩ | ⟨J,n,he,hc⟩
 .rw[show nd.yO = .nilIface from he]at S;try rw[show nd.yO = .nilIface from he]
  refine aCM S λS=>adr S 1 [] [.M 0 0] λS=>aCQ S (Td (h.below S.E)) (λu D S=>?_);rcases Xj nd with ⟨D,hn⟩ | D | D
  .rw[D]at S;try rw[D]
   refine aCJ S [.i 0,.nilIface] λu aa Gn av S=>ZV S 3 λS=>mD S (as_nil (.iface 215 (.q aa 0)) _) λS=>aCT S λS=>aCB S (.i 0) (λS=>?_);exact⟨by unfold aj.checkN; rw[J]; simp only[_root_.cond]; rw[hn],S.E⟩
  .rw[D]at S;try rw[D]
   refine aCJ S [.i 0,.nilIface] λu ab RZ Xk S=>ZV S 3 λS=>AQ S 0 [.i nd.qR,.nilIface] rfl (as_hit (n:=nd.qR) (e := .nilIface) I S.E (S.bx 0) (S.old 0) hg) ?_;rintro e u ⟨rfl,ac,ae,af⟩;refine⟨_,I,ac,ae,af,λS=>?_⟩;refine aCM S λS=>aCV S 5 [.M 0 0,.M 0 1] [] [(4,.i nd.qR),(18,.nilIface)] trivial λu Wy S=>mD S (as_nil (.iface 215 (.q ab 0)) _) λS=>aCT S λS=>aCB S (.i nd.qR) (λS=>?_);exact⟨by unfold aj.checkN; rw[J]; simp only[_root_.cond],S.E⟩
  rw[D]at S;try rw[D]
  refine aCJ S [.i 0,.nilIface] λu D LK aw S=>ZV S 3 λS=>AQ S 0 [.i 0,jK nd.qR .nilIface] rfl (as_hit (n:=0) (e:=jK nd.qR .nilIface) I S.E (S.bx 0) (S.old 0) hg) ?_;rintro e u ⟨rfl,Xl,PD,ag⟩;refine⟨_,I,Xl,PD,ag,λS=>?_⟩;refine aCM S λS=>aCV S 5 [.M 0 0,.M 0 1] [] [(4,.i 0),(18,jK nd.qR .nilIface)] trivial λu Si S=>AQ S 0 [.i nd.qR,.nilIface] rfl (as_hit (n:=nd.qR) (e := .nilIface) I S.E (S.bx 0) (S.old 0) hg) ?_;rintro e u ⟨rfl,ah,ai,al⟩;refine⟨_,I,ah,ai,al,λS=>?_⟩;refine aCM S λS=>aCV S 5 [.M 0 0,.M 0 1] [] [(4,.i nd.qR),(18,.nilIface)] trivial λu ax S=>mD S (as_nil (.iface 215 (.q D 0)) _) λS=>aCT S λS=>aCB S (.i nd.qR) (λS=>?_);exact⟨by unfold aj.checkN; rw[J]; simp only[_root_.cond],S.E⟩
 rw[show nd.yO=jK 0 (jK n .nilIface)from he]at S;try rw[show nd.yO=jK 0 (jK n .nilIface)from he]
 refine aCT S λS=>aCJ S [.i 0,.nilIface] λu D ay az S=>ZV S 3 λS=>AQ S 0 [.i 0,jK n .nilIface] rfl (as_hit (n:=0) (e:=jK n .nilIface) I S.E (S.bx 0) (S.old 0) hg) ?_;rintro e u ⟨rfl,am,an,ao⟩;refine⟨_,I,am,an,ao,λS=>?_⟩;refine aCM S λS=>aCV S 5 [.M 0 0,.M 0 1] [] [(4,.i 0),(18,jK n .nilIface)] trivial λu a3 S=>AQ S 0 [.i n,.nilIface] rfl (as_hit (n:=n) (e := .nilIface) I S.E (S.bx 0) (S.old 0) hg) ?_;rintro e u ⟨rfl,ap,aq,ar⟩;refine⟨_,I,ap,aq,ar,λS=>?_⟩;refine aCM S λS=>aCV S 5 [.M 0 0,.M 0 1] [] [(4,.i n),(18,.nilIface)] trivial λu a4 S=>mD S (as_nil (.iface 215 (.q D 0)) _) λS=>aCT S λS=>aCB S (.i n) (λS=>?_);exact⟨by unfold aj.checkN; rw[J]; simp only[_root_.cond]; rw[hc],S.E⟩
abbrev LM(h:eH K w nd)(J:bT w) :
  abB prog 58 #[nd.v] w (VH w (.b (nd.checkN==0))):=by
 skip;refine aCG func58 ntmps58 λS=>aCF S λu b2 E3 D S=>adr S 2 [] [.M 0 0] λS=>aCQ S (Aa (h.below S.E) (J.below S.E)) λu D S=>aCB S (.b ((nd.checkN)==0)) (λS=>?_);exact⟨I,S.E⟩
open Go.RowKit Na Go.Sx
variable{α:Type}{K:Nat}
abbrev K04{base:Nat}{w:VO}{v:aaT}{q:Bool×Nat×Nat}(h:dQ base w v q):∃r:bM,v=r.v∧r.ok w∧r.n1=q.1∧r.l1=Ro q.2.1∧r.n2=false∧r.l2=Ro q.2.2:=by
 obtain⟨s,t,rfl,S,ht,_⟩:=h;have D:=S;have J:=ht;obtain⟨a1,c1,rfl,_⟩:=S;obtain⟨a2,c2,rfl,_⟩:=ht;exact⟨⟨q.1,a1,c1,Ro q.2.1,false,a2,c2,Ro q.2.2⟩,I,⟨D,J⟩,I,I,I,I⟩
variable{q:Bool×Nat×Nat}
abbrev Nz{r:bM}(D:r.n1=q.1)(J:r.l1=Ro q.2.1)(S:r.n2=false)(h4:r.l2=Ro q.2.2)(hn:Nw q):r.q=q:=by
 unfold bM.q;rw[D,J,S,h4,NP,NP]; exact hn
abbrev yQ{r:bM}{K:Nat}(D:r.l1=Ro q.2.1)(J:r.l2=Ro q.2.2)(hl:qlen K q):r.fit K:=⟨by rw[D]; exact hl.1,by rw[J]; exact hl.2⟩
abbrev PE:CU qI:=⟨by decide,by decide,by decide,by decide,by decide,by decide⟩
abbrev al2:Tf 1 qI:=by
 have J:qlen 1 (false,1,1):=⟨CV,CV⟩;have D:qlen 1 (false,0,1):=⟨by show(Ro 0).length<=1; rw[jU]; simp,CV⟩;exact⟨J,D,D,J,D,D⟩
def iV(id:Int)(t:bG):aj:=⟨id,2,0,t,none,0,[],0,0,0,false,false,none,0,[],1,none,0,[],aZ.bare,none,0,[],dI.bare,0⟩
def bQ:aj:=⟨0,0,0,bG.none,none,0,[],0,0,0,false,false,none,0,[],0,none,0,[],aZ.bare,none,0,[],dI.bare,0⟩
abbrev pU(w:VO):xB w (.sn) []:=⟨dJ _ _ _,λs D=>by cases D⟩
abbrev lK(w:VO):jl w (.sn) []:=⟨dJ _ _ _,λs D=>by cases D⟩
abbrev abC{w:VO}{id:Int}{t:bG}(aa:I64 id)(ht:t.ok w)(J:t.fit 1)(D:1<=K)(ab:K<=10000):eH K w (iV id t):=
 ⟨⟨aa,(show I64 2 by decide),fC,ht,pU w,fC,fC,pU w,(show I64 1 by decide),lK w,aZ.gV w,lK w,dI.gV w,fC⟩,⟨J.1.mono D,J.2.1.mono D,J.2.2.1.mono D,J.2.2.2.1.mono D,J.2.2.2.2.1.mono D,J.2.2.2.2.2.mono D⟩,λp S=>(by cases S),λp S=>(by cases S),D,ab⟩
abbrev iC(w:VO)(S:1<=K)(J:K<=10000):eH K w bQ:=
 ⟨⟨fC,fC,fC,bG.gW w,pU w,fC,fC,pU w,fC,lK w,aZ.gV w,lK w,dI.gV w,fC⟩,bG.iM K,λp D=>(by cases D),λp D=>(by cases D),S,J⟩
abbrev PG:bQ.checkN=2:=rfl
abbrev bM.ok.eF{w w':VO}{r:bM}{b:Nat}{A:Array aaT}(h:r.ok w)(D:Ch b w w')(J:Bx w b A)(hA:A.toList.all CW=true):r.ok w':=⟨NC h.1 D J hA,NC h.2 D J hA⟩
abbrev bG.ok.eF{w w':VO}{t:bG}{b:Nat}{A:Array aaT}(h:t.ok w)(D:Ch b w w')(J:Bx w b A)(hA:A.toList.all CW=true:=by rfl):t.ok w':=
 ⟨h.1.eF D J hA,h.2.1.eF D J hA,h.2.2.1.eF D J hA,h.2.2.2.1.eF D J hA,h.2.2.2.2.1.eF D J hA,h.2.2.2.2.2.eF D J hA⟩
end
section
open Go.RowKit Go.ChangeShapes Go.WideShapes Na Go.Sx
variable{α:Type}
theorem Ti{β γ:Type}{f:β->Option γ}:∀{l:List β} {cs:List γ},l.mapM f=some cs->cs.length=l.length∧∀(j:Nat) (x:β),l[j]?=some x->f x=cs[j]?
 | [],cs,h=>by
  simp at h; subst h; exact⟨I,λj x h=>by simp at h⟩
 | a::l,cs,h=>by
  simp only[List.mapM_cons,Option.bind_eq_bind,Option.bind_eq_some_iff,Option.pure_def,aDe]at h
  obtain⟨y,J,ys,D,rfl⟩:=h
  obtain⟨S,h2⟩:=Ti D
  refine⟨by simp[S],λj x D=>?_⟩
  cases j with
  | zero=>simp only[List.getElem?_cons_zero,aDe]at D; subst D; simpa using J
  | succ j=>simpa using h2 j x (by simpa using D)
variable{w:VO}{β:Type}
abbrev aiA{a:Addr}{k:Nat}{cs:List aaT}(h:w.cells? 0 a k=some cs):cs.length=k∧∀j,j<k->w.cell? (a.add j)=cs[j]?:=by
 simp only[World.cells?,aDl,if_true]at h;obtain⟨J,S⟩:=Ti h;exact⟨by simpa using J,λj D=>S j j (by simp[D])⟩
abbrev abD{xs:List β}{n i:Nat}(h:xs.length=n)(D:i<n):∃y,xs[i]?=some y:=⟨xs[i]'Z,List.getElem?_eq_getElem Z⟩
abbrev aX(cs:List β)(o a D b L:Nat)(J:a+b=L)(S:o+a=D):(cs.drop o).take L=(cs.drop o).take a++(cs.drop D).take b:=by
 subst J S;rw[List.take_add,aFd]
abbrev IQ{f:α->aaT}{v:aaT}{l:List α}(h:aI 1 (λx=>[f x]) w v l):dH f w v l:=by
 obtain⟨a,cap,D,J,h⟩:=h;refine⟨a,cap,D,J,?_⟩;rcases h with h | ⟨b,o,S,D,hl,hc⟩
 .exact .inl h
 exact .inr ⟨b,o,S,D,hl,λi J=>by simpa using hc i J 0 Z⟩
section
variable{H:Type}{enc:aix×aaT->H}{P:Program}{W:VO}{sp:Nat->Bool}{held:Bool}{n:Nat}{cs:List aaT}{y:DataW H×List MemPlace}
variable{e t:aix}
abbrev aez{k:IntKind}(D:P.underlying e=some (.int k))(h:DataW.trod enc P W 0 sp held n e cs=some y):∃x,cs=[.int k x]∧(Lit.int k x).wf=true:=by
 cases n with
 | zero=>simp[DataW.trod]at h
 | succ n =>
  simp only[DataW.trod,D]at h;split at h<;>simp_all
abbrev eP(S:P.underlying e=some (.int .i64))(h:DataW.trod enc P W 0 sp held n e cs=some y):∃x,cs=[.i x]∧I64 x:=by
 obtain⟨x,D,J⟩:=aez S h;exact⟨x,D,bounds_i64 J⟩
abbrev uZ(S:P.underlying e=some (.int .u8))(h:DataW.trod enc P W 0 sp held n e cs=some y):∃x:UInt8,cs=[iy x]:=by
 obtain⟨x,D,J⟩:=aez S h;obtain⟨c,S⟩:=alO J;exact⟨c,by rw[D,S]⟩
abbrev IU(D:P.underlying e=some .bool)(h:DataW.trod enc P W 0 sp held n e cs=some y):∃b,cs=[.b b]:=by
 cases n with
 | zero=>simp[DataW.trod]at h
 | succ n =>
  simp only[DataW.trod,D]at h;split at h<;>simp_all
abbrev al3(D:P.underlying t=some (.slice e))(h:DataW.trod enc P W 0 sp held n t cs=some y):∃a len cap,cs=[.s a len cap]:=by
 cases n with
 | zero=>simp[DataW.trod]at h
 | succ n =>
  simp only[DataW.trod,D]at h;split at h<;>simp_all
abbrev pO{k:Nat}(J:P.underlying t=some (.slice e))(ac:0<k)(hn:P.cellsOf e=k)(f:α->List aaT)(ok:α->Prop)
  (hR:∀n cs y,DataW.trod enc P W 0 sp held n e cs=some y->∃m,cs=f m∧ok m) (h:DataW.trod enc P W 0 sp held n t cs=some y):∃a cap l,cs=[.s a (List.length l) cap]∧aI k f W (.s a l.length cap) l∧∀x∈l,ok x:=by
 obtain⟨a,len,cap,rfl⟩:=al3 J h;rcases trod_slice (d:=y.1) (ps:=y.2) J h with ⟨rfl,rfl,rfl,_⟩ | ⟨ad,_,_,rfl,hl,hm,_,_,D,S⟩
 .exact⟨none,0,[],I,dJ _ _ _,λx hx=>by cases hx⟩
 rw[hn]at S;obtain⟨l,J,hq⟩:=SI (Q:=λi m=>ok m∧∀j,j<k->W.cell? ((ad.add (i*k)).add j)=(f m)[j]?∧(f m).length=k) len λi D=>by
  obtain⟨cs,d',p',aa,ab⟩:=S i D;obtain⟨h1,h2⟩:=aiA aa;obtain⟨m,rfl,hm⟩:=hR _ _ _ ab;exact⟨m,hm,λj S=>⟨h2 j S,h1⟩⟩
 refine⟨some ad,cap,l,by rw[J],⟨some ad,cap,I,hm,?_⟩,λx hx=>?_⟩
 .rcases aD0 l.length with h0 | h0
  .left; exact⟨aEA h0,by simp⟩
  right;obtain⟨J,ae⟩:=(hq 0 h0).2 0 ac;rw[List.getElem?_eq_getElem Z]at J;have hz:(ad.add (0*k)).add 0=ad:=by simp[Addr.add]
  rw[hz]at J;have hs:=cell_spot J;refine⟨ad.block,ad.off,?_,cell_lt J,Z,λi D j S=>?_⟩
  .obtain⟨b,o,s⟩:=ad; simp at hs; subst hs; rfl
  have:=((hq i D).2 j S).1;rw[aee hs,aee I]at this;exact this
 obtain⟨i,D,rfl⟩:=List.getElem_of_mem hx;exact(hq i D).1
end
abbrev kZ{H:Type}{enc:aix×aaT->H}{P:Program}{W:VO}{sp:Nat->Bool}{held:Bool}{n off k i m:Nat}{t:aix}{cs:List aaT}{xs:List (DataW H×List MemPlace)}(J:DataW.trod enc P W 0 sp held n t ((cs.drop off).take (P.cellsOf t))=xs[i]?)(D:xs.length=m)(S:i<m)(hk:P.cellsOf t=k) :
  ∃y,DataW.trod enc P W 0 sp held n t ((cs.drop off).take k)=some y:=by
 obtain⟨y,e⟩:=abD D S;rw[e,hk]at J;exact⟨y,J⟩
section
variable{H:Type}{enc:aix×aaT->H}{W:VO}{sp:Nat->Bool}{held:Bool}{n:Nat}{cs:List aaT}{y:DataW H×List MemPlace}
abbrev aiB(h:DataW.trod enc prog W 0 sp held n 119 cs=some y):∃x:UInt32,cs=[bC x]:=by
 obtain⟨x,D,J⟩:=aez underlying119 h;obtain⟨c,S⟩:=aif J;exact⟨c,by rw[D,S]⟩
abbrev ZW(h:DataW.trod enc prog W 0 sp held n 24 cs=some y):∃b a k l,cs=[.b b,.s a (List.length l) k]∧aG W (.s a l.length k) l:=by
 obtain⟨xs,S,rfl,hx,hl,D,J⟩:=aEX underlying24 h;have hl:cs.length=2:=hl.trans X;obtain⟨x0,c0⟩:=IU underlying4 (kZ (cs:=cs) (off:=0) (k:=1) (J 0 _ I) D O X).choose_spec;obtain⟨a1,k1,S,c1,r1,w1⟩:=pO (k:=1) underlying22 O X (λx:UInt32=>[bC x]) (λ_=>True) (λn cs y h=>(aiB h).imp λ_ h=>⟨h,G⟩) (kZ (cs:=cs) (off:=1) (k:=1) (J 1 _ I) D O X).choose_spec;have D:=(show cs=(cs.drop 0).take 2 by rw[aEo,aDG Z]).trans (aX cs 0 1 1 1 2 I I);rw[c0,c1]at D;exact⟨x0,a1,k1,S,D,IQ r1⟩
abbrev yR(h:DataW.trod enc prog W 0 sp held n 26 cs=some y):∃m:bM,cs=m.cells∧m.ok W:=by
 obtain⟨xs,S,rfl,hx,hl,D,J⟩:=aEX underlying26 h;have hl:cs.length=4:=hl.trans X;obtain⟨b0,a0,S,l0,c0,w0⟩:=ZW (kZ (cs:=cs) (off:=0) (k:=2) (J 0 _ I) D O X).choose_spec;obtain⟨b1,a1,k1,l1,c1,w1⟩:=ZW (kZ (cs:=cs) (off:=2) (k:=2) (J 1 _ I) D O X).choose_spec;have D:=(show cs=(cs.drop 0).take 4 by rw[aEo,aDG Z]).trans (aX cs 0 2 2 2 4 I I);rw[c0,c1]at D;exact⟨⟨b0,a0,S,l0,b1,a1,k1,l1⟩,D.trans X,w0,w1⟩
abbrev ZX(h:DataW.trod enc prog W 0 sp held n 28 cs=some y):∃m:bG,cs=m.cells∧m.ok W:=by
 obtain⟨xs,S,rfl,hx,hl,D,J⟩:=aEX underlying28 h;have hl:cs.length=24:=hl.trans X;obtain⟨S,c0,w0⟩:=yR (kZ (cs:=cs) (off:=0) (k:=4) (J 0 _ I) D O X).choose_spec;obtain⟨m1,c1,w1⟩:=yR (kZ (cs:=cs) (off:=4) (k:=4) (J 1 _ I) D O X).choose_spec;obtain⟨m2,c2,w2⟩:=yR (kZ (cs:=cs) (off:=8) (k:=4) (J 2 _ I) D O X).choose_spec;obtain⟨m3,c3,w3⟩:=yR (kZ (cs:=cs) (off:=12) (k:=4) (J 3 _ I) D O X).choose_spec;obtain⟨m4,c4,w4⟩:=yR (kZ (cs:=cs) (off:=16) (k:=4) (J 4 _ I) D O X).choose_spec;obtain⟨m5,c5,w5⟩:=yR (kZ (cs:=cs) (off:=20) (k:=4) (J 5 _ I) D O X).choose_spec;have D:=(show cs=(cs.drop 0).take 24 by rw[aEo,aDG Z]).trans ((aX cs 0 4 4 20 24 I I).trans (aDc _ ((aX cs 4 4 8 16 20 I I).trans (aDc _ ((aX cs 8 4 12 12 16 I I).trans (aDc _ ((aX cs 12 4 16 8 12 I I).trans (aDc _ (aX cs 16 4 20 4 8 I I)))))))));rw[c0,c1,c2,c3,c4,c5]at D;exact⟨⟨S,m1,m2,m3,m4,m5⟩,D.trans X,w0,w1,w2,w3,w4,w5⟩
abbrev IV(h:DataW.trod enc prog W 0 sp held n 130 cs=some y):∃m:kL,cs=[.i m.x,.i m.y]∧m.ok:=by
 obtain⟨xs,S,rfl,hx,hl,D,J⟩:=aEX underlying130 h;have hl:cs.length=2:=hl.trans X;obtain⟨x0,c0,w0⟩:=eP underlying3 (kZ (cs:=cs) (off:=0) (k:=1) (J 0 _ I) D O X).choose_spec;obtain⟨x1,c1,w1⟩:=eP underlying3 (kZ (cs:=cs) (off:=1) (k:=1) (J 1 _ I) D O X).choose_spec;have D:=(show cs=(cs.drop 0).take 2 by rw[aEo,aDG Z]).trans (aX cs 0 1 1 1 2 I I);rw[c0,c1]at D;exact⟨⟨x0,x1⟩,D,w0,w1⟩
abbrev yS(h:DataW.trod enc prog W 0 sp held n 40 cs=some y):∃m:bJ,cs=m.cells:=by
 obtain⟨xs,S,rfl,hx,hl,D,J⟩:=aEX underlying40 h;have hl:cs.length=4:=hl.trans X;obtain⟨x0,c0⟩:=uZ underlying5 (kZ (cs:=cs) (off:=0) (k:=1) (J 0 _ I) D O X).choose_spec;obtain⟨x1,c1⟩:=uZ underlying5 (kZ (cs:=cs) (off:=1) (k:=1) (J 1 _ I) D O X).choose_spec;obtain⟨S,c2⟩:=uZ underlying5 (kZ (cs:=cs) (off:=2) (k:=1) (J 2 _ I) D O X).choose_spec;obtain⟨x3,c3⟩:=uZ underlying5 (kZ (cs:=cs) (off:=3) (k:=1) (J 3 _ I) D O X).choose_spec;have D:=(show cs=(cs.drop 0).take 4 by rw[aEo,aDG Z]).trans ((aX cs 0 1 1 3 4 I I).trans (aDc _ ((aX cs 1 1 2 2 3 I I).trans (aDc _ (aX cs 2 1 3 1 2 I I)))));rw[c0,c1,c2,c3]at D;exact⟨⟨x0,x1,S,x3⟩,D⟩
abbrev abE(h:DataW.trod enc prog W 0 sp held n 178 cs=some y):∃m:bJ,cs=m.cells:=by
 obtain⟨xs,S,rfl,hx,hl,D,J⟩:=aEX underlying178 h;have hl:cs.length=4:=hl.trans X;obtain⟨x0,c0⟩:=uZ underlying5 (kZ (cs:=cs) (off:=0) (k:=1) (J 0 _ I) D O X).choose_spec;obtain⟨x1,c1⟩:=uZ underlying5 (kZ (cs:=cs) (off:=1) (k:=1) (J 1 _ I) D O X).choose_spec;obtain⟨S,c2⟩:=uZ underlying5 (kZ (cs:=cs) (off:=2) (k:=1) (J 2 _ I) D O X).choose_spec;obtain⟨x3,c3⟩:=uZ underlying5 (kZ (cs:=cs) (off:=3) (k:=1) (J 3 _ I) D O X).choose_spec;have D:=(show cs=(cs.drop 0).take 4 by rw[aEo,aDG Z]).trans ((aX cs 0 1 1 3 4 I I).trans (aDc _ ((aX cs 1 1 2 2 3 I I).trans (aDc _ (aX cs 2 1 3 1 2 I I)))));rw[c0,c1,c2,c3]at D;exact⟨⟨x0,x1,S,x3⟩,D⟩
abbrev aeA(h:DataW.trod enc prog W 0 sp held n 202 cs=some y):∃m:dK,cs=m.cells∧m.ok:=by
 obtain⟨xs,S,rfl,hx,hl,D,J⟩:=aEX underlying202 h;have hl:cs.length=5:=hl.trans X;obtain⟨x0,c0,w0⟩:=eP underlying3 (kZ (cs:=cs) (off:=0) (k:=1) (J 0 _ I) D O X).choose_spec;obtain⟨S,c1⟩:=yS (kZ (cs:=cs) (off:=1) (k:=4) (J 1 _ I) D O X).choose_spec;have D:=(show cs=(cs.drop 0).take 5 by rw[aEo,aDG Z]).trans (aX cs 0 1 1 4 5 I I);rw[c0,c1]at D;exact⟨⟨x0,S⟩,D.trans X,w0⟩
abbrev ZY(h:DataW.trod enc prog W 0 sp held n 163 cs=some y):∃m:dM,cs=m.cells∧m.ok:=by
 obtain⟨xs,S,rfl,hx,hl,D,J⟩:=aEX underlying163 h;have hl:cs.length=7:=hl.trans X;obtain⟨x0,c0,w0⟩:=eP underlying3 (kZ (cs:=cs) (off:=0) (k:=1) (J 0 _ I) D O X).choose_spec;obtain⟨S,c1,w1⟩:=IV (kZ (cs:=cs) (off:=1) (k:=2) (J 1 _ I) D O X).choose_spec;obtain⟨m2,c2,w2⟩:=IV (kZ (cs:=cs) (off:=3) (k:=2) (J 2 _ I) D O X).choose_spec;obtain⟨m3,c3,w3⟩:=IV (kZ (cs:=cs) (off:=5) (k:=2) (J 3 _ I) D O X).choose_spec;have D:=(show cs=(cs.drop 0).take 7 by rw[aEo,aDG Z]).trans ((aX cs 0 1 1 6 7 I I).trans (aDc _ ((aX cs 1 2 3 4 6 I I).trans (aDc _ (aX cs 3 2 5 2 4 I I)))));rw[c0,c1,c2,c3]at D;exact⟨⟨x0,S,m2,m3⟩,D.trans X,w0,w1,w2,w3⟩
abbrev Z4(h:DataW.trod enc prog W 0 sp held n 36 cs=some y):∃m:dI,cs=m.cells∧m.ok W:=by
 obtain⟨xs,S,rfl,hx,hl,D,J⟩:=aEX underlying36 h;have hl:cs.length=3:=hl.trans X;obtain⟨x0,c0,w0⟩:=eP underlying3 (kZ (cs:=cs) (off:=0) (k:=1) (J 0 _ I) D O X).choose_spec;obtain⟨x1,c1,w1⟩:=eP underlying3 (kZ (cs:=cs) (off:=1) (k:=1) (J 1 _ I) D O X).choose_spec;obtain⟨a2,S,l2,c2,r2,w2⟩:=pO (k:=4) underlying34 O X bJ.cells (λ_=>True) (λn cs y h=>(abE h).imp λ_ h=>⟨h,G⟩) (kZ (cs:=cs) (off:=2) (k:=1) (J 2 _ I) D O X).choose_spec;have D:=(show cs=(cs.drop 0).take 3 by rw[aEo,aDG Z]).trans ((aX cs 0 1 1 2 3 I I).trans (aDc _ (aX cs 1 1 2 1 2 I I)));rw[c0,c1,c2]at D;exact⟨⟨x0,x1,a2,S,l2⟩,D.trans X,w0,w1,r2⟩
abbrev abG(h:DataW.trod enc prog W 0 sp held n 33 cs=some y):∃m:aZ,cs=m.cells∧m.ok W:=by
 obtain⟨xs,S,rfl,hx,hl,D,J⟩:=aEX underlying33 h;have hl:cs.length=6:=hl.trans X;obtain⟨x0,c0,w0⟩:=eP underlying3 (kZ (cs:=cs) (off:=0) (k:=1) (J 0 _ I) D O X).choose_spec;obtain⟨x1,c1,w1⟩:=eP underlying3 (kZ (cs:=cs) (off:=1) (k:=1) (J 1 _ I) D O X).choose_spec;obtain⟨S,c2,w2⟩:=eP underlying3 (kZ (cs:=cs) (off:=2) (k:=1) (J 2 _ I) D O X).choose_spec;obtain⟨x3,c3,w3⟩:=eP underlying3 (kZ (cs:=cs) (off:=3) (k:=1) (J 3 _ I) D O X).choose_spec;obtain⟨a4,k4,l4,c4,r4,w4⟩:=pO (k:=1) underlying31 O X (λx:Int=>[AU x]) I64 (λn cs y h=>eP underlying3 h) (kZ (cs:=cs) (off:=4) (k:=1) (J 4 _ I) D O X).choose_spec;obtain⟨x5,c5,w5⟩:=eP underlying3 (kZ (cs:=cs) (off:=5) (k:=1) (J 5 _ I) D O X).choose_spec;have D:=(show cs=(cs.drop 0).take 6 by rw[aEo,aDG Z]).trans ((aX cs 0 1 1 5 6 I I).trans (aDc _ ((aX cs 1 1 2 4 5 I I).trans (aDc _ ((aX cs 2 1 3 3 4 I I).trans (aDc _ ((aX cs 3 1 4 2 3 I I).trans (aDc _ (aX cs 4 1 5 1 2 I I)))))))));rw[c0,c1,c2,c3,c4,c5]at D;exact⟨⟨x0,x1,S,x3,a4,k4,l4,x5⟩,D.trans X,w0,w1,w2,w3,IQ r4,w4,w5⟩
abbrev ND(h:DataW.trod enc prog W 0 sp held n 133 cs=some y):∃m:ak,cs=m.cells∧m.ok W:=by
 obtain⟨xs,S,rfl,hx,hl,D,J⟩:=aEX underlying133 h;have hl:cs.length=40:=hl.trans X;obtain⟨x0,c0,w0⟩:=eP underlying3 (kZ (cs:=cs) (off:=0) (k:=1) (J 0 _ I) D O X).choose_spec;obtain⟨S,c1⟩:=yS (kZ (cs:=cs) (off:=1) (k:=4) (J 1 _ I) D O X).choose_spec;obtain⟨m2,c2,w2⟩:=IV (kZ (cs:=cs) (off:=5) (k:=2) (J 2 _ I) D O X).choose_spec;obtain⟨m3,c3,w3⟩:=IV (kZ (cs:=cs) (off:=7) (k:=2) (J 3 _ I) D O X).choose_spec;obtain⟨x4,c4,w4⟩:=eP underlying3 (kZ (cs:=cs) (off:=9) (k:=1) (J 4 _ I) D O X).choose_spec;obtain⟨a5,k5,l5,c5,r5,w5⟩:=pO (k:=5) underlying131 O X dK.cells dK.ok (λn cs y h=>aeA h) (kZ (cs:=cs) (off:=10) (k:=1) (J 5 _ I) D O X).choose_spec;obtain⟨x6,c6,w6⟩:=eP underlying3 (kZ (cs:=cs) (off:=11) (k:=1) (J 6 _ I) D O X).choose_spec;obtain⟨m7,c7,w7⟩:=Z4 (kZ (cs:=cs) (off:=12) (k:=3) (J 7 _ I) D O X).choose_spec;obtain⟨x8,c8,w8⟩:=eP underlying3 (kZ (cs:=cs) (off:=15) (k:=1) (J 8 _ I) D O X).choose_spec;obtain⟨m9,c9,w9⟩:=ZX (kZ (cs:=cs) (off:=16) (k:=24) (J 9 _ I) D O X).choose_spec;have D:=(show cs=(cs.drop 0).take 40 by rw[aEo,aDG Z]).trans ((aX cs 0 1 1 39 40 I I).trans (aDc _ ((aX cs 1 4 5 35 39 I I).trans (aDc _ ((aX cs 5 2 7 33 35 I I).trans (aDc _ ((aX cs 7 2 9 31 33 I I).trans (aDc _ ((aX cs 9 1 10 30 31 I I).trans (aDc _ ((aX cs 10 1 11 29 30 I I).trans (aDc _ ((aX cs 11 1 12 28 29 I I).trans (aDc _ ((aX cs 12 3 15 25 28 I I).trans (aDc _ (aX cs 15 1 16 24 25 I I)))))))))))))))));rw[c0,c1,c2,c3,c4,c5,c6,c7,c8,c9]at D;exact⟨⟨x0,S,m2,m3,x4,a5,k5,l5,x6,m7,x8,m9⟩,D.trans X,w0,w2,w3,w4,r5,w5,w6,w7,w8,w9⟩
abbrev Tj(h:DataW.trod enc prog W 0 sp held n 38 cs=some y):∃m:aj,cs=m.cells∧m.ok W:=by
 obtain⟨xs,S,rfl,hx,hl,D,J⟩:=aEX underlying38 h;have hl:cs.length=47:=hl.trans X;obtain⟨x0,c0,w0⟩:=eP underlying3 (kZ (cs:=cs) (off:=0) (k:=1) (J 0 _ I) D O X).choose_spec;obtain⟨x1,c1,w1⟩:=eP underlying3 (kZ (cs:=cs) (off:=1) (k:=1) (J 1 _ I) D O X).choose_spec;obtain⟨x2,c2,w2⟩:=eP underlying3 (kZ (cs:=cs) (off:=2) (k:=1) (J 2 _ I) D O X).choose_spec;obtain⟨m3,c3,w3⟩:=ZX (kZ (cs:=cs) (off:=3) (k:=24) (J 3 _ I) D O X).choose_spec;obtain⟨a4,k4,l4,c4,r4,w4⟩:=pO (k:=7) underlying29 O X dM.cells dM.ok (λn cs y h=>ZY h) (kZ (cs:=cs) (off:=27) (k:=1) (J 4 _ I) D O X).choose_spec;obtain⟨x5,c5,w5⟩:=eP underlying3 (kZ (cs:=cs) (off:=28) (k:=1) (J 5 _ I) D O X).choose_spec;obtain⟨x6,c6⟩:=uZ underlying5 (kZ (cs:=cs) (off:=29) (k:=1) (J 6 _ I) D O X).choose_spec;obtain⟨x7,c7,w7⟩:=eP underlying3 (kZ (cs:=cs) (off:=30) (k:=1) (J 7 _ I) D O X).choose_spec;obtain⟨x8,c8⟩:=IU underlying4 (kZ (cs:=cs) (off:=31) (k:=1) (J 8 _ I) D O X).choose_spec;obtain⟨x9,c9⟩:=IU underlying4 (kZ (cs:=cs) (off:=32) (k:=1) (J 9 _ I) D O X).choose_spec;obtain⟨S,aa,ab,c10,ac,ae⟩:=pO (k:=7) underlying29 O X dM.cells dM.ok (λn cs y h=>ZY h) (kZ (cs:=cs) (off:=33) (k:=1) (J 10 _ I) D O X).choose_spec;obtain⟨af,ag,ah⟩:=eP underlying3 (kZ (cs:=cs) (off:=34) (k:=1) (J 11 _ I) D O X).choose_spec;obtain⟨ai,al,am,an,ao,ap⟩:=pO (k:=40) underlying30 O X ak.cells (ak.ok W) (λn cs y h=>ND h) (kZ (cs:=cs) (off:=35) (k:=1) (J 12 _ I) D O X).choose_spec;obtain⟨aq,ar,av⟩:=abG (kZ (cs:=cs) (off:=36) (k:=6) (J 13 _ I) D O X).choose_spec;obtain⟨aw,ax,ay,az,a3,a5⟩:=pO (k:=40) underlying30 O X ak.cells (ak.ok W) (λn cs y h=>ND h) (kZ (cs:=cs) (off:=42) (k:=1) (J 14 _ I) D O X).choose_spec;obtain⟨a6,a7,a8⟩:=Z4 (kZ (cs:=cs) (off:=43) (k:=3) (J 15 _ I) D O X).choose_spec;obtain⟨a9,bb,bc⟩:=eP underlying3 (kZ (cs:=cs) (off:=46) (k:=1) (J 16 _ I) D O X).choose_spec;have D:=(show cs=(cs.drop 0).take 47 by rw[aEo,aDG Z]).trans ((aX cs 0 1 1 46 47 I I).trans (aDc _ ((aX cs 1 1 2 45 46 I I).trans (aDc _ ((aX cs 2 1 3 44 45 I I).trans (aDc _ ((aX cs 3 24 27 20 44 I I).trans (aDc _ ((aX cs 27 1 28 19 20 I I).trans (aDc _ ((aX cs 28 1 29 18 19 I I).trans (aDc _ ((aX cs 29 1 30 17 18 I I).trans (aDc _ ((aX cs 30 1 31 16 17 I I).trans (aDc _ ((aX cs 31 1 32 15 16 I I).trans (aDc _ ((aX cs 32 1 33 14 15 I I).trans (aDc _ ((aX cs 33 1 34 13 14 I I).trans (aDc _ ((aX cs 34 1 35 12 13 I I).trans (aDc _ ((aX cs 35 1 36 11 12 I I).trans (aDc _ ((aX cs 36 6 42 5 11 I I).trans (aDc _ ((aX cs 42 1 43 4 5 I I).trans (aDc _ (aX cs 43 3 46 1 4 I I)))))))))))))))))))))))))))))));rw[c0,c1,c2,c3,c4,c5,c6,c7,c8,c9,c10,ag,an,ar,az,a7,bb]at D;exact⟨⟨x0,x1,x2,m3,a4,k4,l4,x5,x6,x7,x8,x9,S,aa,ab,af,ai,al,am,aq,aw,ax,ay,a6,a9⟩,D.trans X,w0,w1,w2,w3,⟨r4,w4⟩,w5,w7,⟨ac,ae⟩,ah,⟨ao,ap⟩,av,⟨a3,a5⟩,a8,bc⟩
end
abbrev ad7{W:VO}(D:handlesMet prog [("errors.errorType",YtodpgjjgaddkeaaGreatDoor.Rows.laid_errors_errorType)] W):bT W:=by
 have h3:=D _ (aDK.2 I);obtain⟨J,u,ty,e1,e2,aa,S,D⟩:∃J u ty,YtodpgjjgaddkeaaGreatDoor.Rows.laid_errors_errorType.handleName?=some J∧(prog.cutTypes.find? (·.1 == "internal/reflectlite.rtype")).map (·.2)=some u∧ty<prog.types.size∧prog.rowNamed ty J=true ∧
  W.var? prog "errors.errorType" = some #[.iface u (.agg #[typeHandle prog ty])]:=h3
 have hu:u=296:=aDo (e2.symm.trans X);have hn:J=[101,114,114,111,114]:=aDo (e1.symm.trans X);have J:((List.range prog.types.size).all λt => !prog.rowNamed t [101,114,114,111,114]||t==210)=true:=by kernel_rfl
 rw[aDF]at J;have h4:=J ty (aFj.2 aa);rw[hn]at S;rw[S]at h4;have J:ty=210:=by simpa using h4
 subst hu J;unfold World.var? at D;rw[show prog.globalNamed "errors.errorType" = some 0 by kernel_rfl,aFi]at D;cases hh:W.heap[(0 : Nat)]? with
 | none=>rw[hh]at D; cases D
 | some o =>
  rw[hh]at D;have J:0 < W.heap.size:=(Array.getElem?_eq_some_iff.1 hh).1;cases o with
  | cells c t fz =>
   simp only[aDe]at D;refine⟨J,λj v S=>?_⟩;have:j=0:=by
    have:=(List.getElem?_eq_some_iff.1 S).1;simp at this; exact this
   subst this;simp only[World.cell?,hh];rw[D];simpa[typeHandle]using S
  | _=>cases D
end
section
open Go.RowKit Na Go.Sx
variable{α:Type}
abbrev Xm(v u:aaT)(l m:List UInt32)(w:VO)(hv:aG w v l)(hu:aG w u m)(J:l.length<=5000000)(D:m.length<=5000000) :
  abB prog 220 #[v,u] w λe w'=>∃g,e = .R g∧aG w' g (Ro (Nat.gcd (TP l) (TP m)))∧Ext w w':=by
 have C1:=aC8 (dV v l w hv Z);have D:=dA l;have D:=dA m;go_enter func220,ntmps220
 go_wp2_with fail
 refine C1.out.mono ?_;rintro e w1 ⟨x,rfl,S,ab⟩;have S:=bD S;go_wp2_with fail
 refine(dV u m w1 (hu.below ab) Z).mono ?_;rintro e J ⟨y,rfl,D,ac⟩;have D:=bD D;have J:=S.below ac;have ae:=K00 ab ac;clear S C1 hv hu;have HX:=aC8 J;have HY:=aC8 D;clear J D;go_wp2_with fail
 go_loopw [5,6,7,8,9] (λx y _ _ _ wr=>∃(A B:Nat),aG wr x (Ro A)∧aG wr y (Ro B)∧Nat.gcd A B=Nat.gcd (TP l) (TP m)∧(Ro A).length<=5000000∧(Ro B).length<=5000000∧Ext w wr) (λ_ y _ _ _ wr=>valOf wr y)
 case atStart=>exact⟨(TP l),(TP m),HX.out,HY.out,I,Z,Z,ae⟩
 case round =>
  obtain⟨A,B,S,D,hg,af,aa,J⟩:=hrel;have HM:=aC8 (CO D);have HG:=aC8 hg;have HX:=aC8 S;have HY:=aC8 D;clear hg S D;obtain⟨D,S,rfl⟩:=HY.out.shape;rcases aD0 B with rfl | hB
  .have D:((Ro 0).length:Int)=0:=by rw[lG.2 I]; rfl
   go_wp2_with fail
   go_ret
   refine⟨_,I,?_,J⟩;rw[<-HG.out,Nat.gcd_zero_right];exact HX.out
  have D:(0:Int)<((Ro B).length:Int):=by
   have:(Ro B).length≠0:=λh=>by have:=oO h; omega
   omega
  have D:=Ac _ _ _ _ wr HX.out HY.out (by rw[NP]; exact hB) af aa;rw[NP,NP]at D;have HD:=aC8 D;clear D;go_wp2_with fail
  refine HD.out.mono ?_;rintro e w' ⟨q,r,rfl,hq,hr,hb⟩;have S:=aC8 (bD hr);have D:=aC8 (HY.out.below hb);clear hq hr;go_wp2_with fail
  go_roundw
  case rel =>
   refine⟨B,A%B,D.out,S.out,?_,aa,?_,K00 J hb⟩
   .rw[<-HG.out,Nat.gcd_comm A B,Nat.gcd_rec B A,Nat.gcd_comm]
   exact aDy (fP (aFc (aEF A hB))) aa
  case measure =>
   rw[CO S.out,HM.out,NP,NP];exact aEF _ hB
abbrev vg(neg:Bool)(v:aaT)(l:List UInt32)(w:VO)(J:aG w v l)(D:l.length<=1000000000) :
  abB prog 219 #[.b neg,v] w λe w'=>∃x,e = .R x∧aQ w.heap.size w' x (neg&&decide (0<TP l)) (TP l)∧Ext w w':=by
 have S:=aH w (.cells #[.z,.sn] 24);have HC:=aC8 (dV v l _ (J.below S) D);have ab:Hid (decide ((0:Int)<((Ro (TP l)).length:Int))=decide (0<TP l)):=by
  show _=_;rw[aF1];constructor
  .intro h;rcases aD0 (TP l)with D | D
   .rw[D,jU]at h; simp at h
   exact D
  intro h;have:(Ro (TP l)).length≠0:=λh'=>by
   have:=lG.1 (aEA h'); omega
  omega
 rcases aF6 neg with rfl | rfl;all_goals
  go_enter func219,ntmps219
  go_wp2_with fail
  refine HC.out.mono ?_
  rintro e w1 ⟨D,rfl,ho,aa⟩
  have D:=bD ho
  have J:=SG ho
  obtain⟨hc,hf,hz⟩:=ji aa
  have ac:=K00 S aa
  have HB:=aC8 ac
  have HR:=aC8 D
  have HO:=aC8 J
  obtain⟨a,cap,rfl⟩:=HR.out.shape
  clear HC ho D aa S ac J
  go_wp2_with fail
 .refine bodyPost_ret (v := .agg #[.b ((0:Int)<((Ro (TP l)).length:Int)),.s a (Ro (TP l)).length cap]) (by simp[results,results219,go_sem,hc]) I ⟨_,I,⟨_,by rw[aEv,ab.out],?_⟩,?_⟩
  .exact⟨HR.out.ch (((Ch.refl _ _).setCell _ _).setCell _ _) (λ_=>HO.out.off Y),HO.out.mono Y⟩
  exact(HB.out.setCell (p:=⟨w.heap.size,0,none⟩) (aDd _) _).setCell (p:=⟨w.heap.size,1,none⟩) (aDd _) _
 refine bodyPost_ret (v := .agg #[.z,.s a (Ro (TP l)).length cap]) (by simp[results,results219,go_sem,hc]) I ⟨_,I,⟨_,by rw[aEK],?_⟩,?_⟩
 .exact⟨HR.out.ch (((Ch.refl _ _).setCell _ _).setCell _ _) (λ_=>HO.out.off Y),HO.out.mono Y⟩
 exact(HB.out.setCell (p:=⟨w.heap.size,0,none⟩) (aDd _) _).setCell (p:=⟨w.heap.size,1,none⟩) (aDd _) _
abbrev xC(x:Nat)(w:VO)(h:(x:Int)<=9223372036854775807) :
  abB prog 172 #[.i x] w λe w'=>∃v,e = .R v∧aQ w.heap.size w' v false x∧Ext w w':=by
 have hN:x<18446744073709551616:=Z
 obtain⟨y,rfl⟩:∃y:UInt64,x=y.toNat:=⟨UInt64.ofNat x,by simp; omega⟩;have h0:¬(y.toNat:Int)<0:=Z
 have aa:=y.toNat_lt;have hw:=aic y;have J:=aH w (.cells #[.z,.sn] 24);have hr:aG ((w.alloc (.cells #[.z,.sn] 24)).alloc (.cells #[bC y.toUInt32,bC (y>>>32).toUInt32] 119)) (.s (some ⟨w.heap.size+1,0,none⟩) 2 2) [y.toUInt32,(y>>>32).toUInt32]:=by
  have:=Pm (w.alloc (.cells #[.z,.sn] 24)) [y.toUInt32,(y>>>32).toUInt32] (f:=bC) 119 (by unfold maxLen; simp);simpa using this
 have S:=vg false _ _ _ hr Y;rw[SV]at S;have HI:=aC8 S;have HB:=aC8 (J.alloc Y (.cells #[bC y.toUInt32,bC (y>>>32).toUInt32] 119));clear hr S J;have HE:Hid (((y>>>32).toNat:Int)=((y>>>32).toUInt32.toNat:Int)):=by
  show _=_;rw[<-yN,<-Pq]; omega
 go_enter func172,ntmps172
 go_wp2_with fail
 rw[yN,Pq,HE.out];refine HI.out.mono ?_;rintro e w2 ⟨z,rfl,⟨s,rfl,hs,fs⟩,D⟩;obtain⟨b1,d1,rfl⟩:=hs.shape;have r0:∀i,w2.cell? ⟨w.heap.size,i,none⟩ = #[Value.z,.sn][i]?:=λi=>by rw[D.cell (p:=⟨w.heap.size,i,none⟩) (by simp; omega)]; simp[go_sem]
 have f0:∀i,w2.frozen? ⟨w.heap.size,i,none⟩=false:=λi=>by rw[D.frozen (p:=⟨w.heap.size,i,none⟩) (by simp; omega)]; simp[go_sem]
 have hz:w.heap.size<w2.heap.size:=by have:=D.size; simp at this; omega
 have HX:=aC8 (K00 HB.out D);have F:=aC8 (And.intro hs fs);clear hs fs D HI;go_wp2_with fail
 refine bodyPost_ret (v := .agg #[.z,.s b1 (Ro y.toNat).length d1]) (by simp[results,results172,go_sem,r0]) I ⟨_,I,⟨_,I,?_,?_⟩,?_⟩
 .exact F.out.1.ch (((Ch.refl w.heap.size _).setCell 0 _).setCell 1 _) (λ_=>F.out.2.off (by simp; omega))
 .exact F.out.2.mono (by simp; omega)
 exact(HX.out.setCell (p:=⟨_,0,none⟩) (by simp only; omega) _).setCell (p:=⟨_,1,none⟩) (by simp only; omega) _
abbrev rU(neg:Bool)(s:aaT)(l:List UInt32)(w:VO)(S:aG w s l)(D:l.length<=100000000) :
  abB prog 173 #[.agg #[.b neg,s]] w (VH w (.i (qE neg (TP l)))):=by
 have D:=aH w (.cells #[.b neg,s] 24);have J:=aC8 (vg neg s l _ (S.below D) Z);have HB:=aC8 D;obtain⟨a,cap,rfl⟩:=S.shape;clear S D;by_cases h0:TP l=0
 .have hs:Hid (qE neg (TP l)=0):=by show _=_; unfold qE; rw[aDb h0]
  have hd:(((Ro (TP l)).length:Int)==0)=true:=by rw[h0]; rfl
  clear h0;go_enter func173,ntmps173
  go_wp2_with fail
  refine J.out.mono ?_;rintro e w' ⟨x,rfl,⟨t,rfl,ht,ft⟩,hb⟩;obtain⟨b1,d1,rfl⟩:=ht.shape;have S:=aC8 (K00 HB.out hb);have D:=S.out.size;clear ht ft hb J HB;go_wp2_with fail
  go_ret
  exact⟨by rw[hs.out]; rfl,S.out.alloc D _⟩
 have hd:(((Ro (TP l)).length:Int)==0)=false:=by
  rw[aDH];intro h;exact h0 (oO Z)
 have aa:Hid (∀neg,qE neg (TP l)=if neg then -1 else 1):=λneg=>aC9 h0;have hp:decide (0<TP l)=true:=aEy Z;rw[hp]at J;clear h0 hp;rcases aF6 neg with rfl | rfl;all_goals
  go_enter func173,ntmps173
  go_wp2_with fail
  refine J.out.mono ?_
  rintro e w' ⟨x,rfl,⟨t,rfl,ht,ft⟩,hb⟩
  obtain⟨b1,d1,rfl⟩:=ht.shape
  have S:=aC8 (K00 HB.out hb)
  have D:=S.out.size
  clear ht ft hb J HB
  go_wp2_with fail
  go_ret
  exact⟨by rw[aa.out]; rfl,S.out.alloc D _⟩
abbrev IW(neg:Bool)(s:aaT)(l:List UInt32)(w:VO)(S:aG w s l)(D:l.length<=100000000) :
  abB prog 221 #[.agg #[.b neg,s]] w λe w'=>∃x,e = .R x∧aQ w.heap.size w' x (!neg&&decide (0<TP l)) (TP l)∧Ext w w':=by
 have J:=aH w (.cells #[.b neg,s] 24);have D:=J.alloc Y (.cells #[.z,.sn] 24);have HC:=aC8 (vg (!neg) s l _ (S.below D) Z);have HB:=aC8 D;obtain⟨a,cap,rfl⟩:=S.shape;clear S D J;go_enter func221,ntmps221
 go_wp2_with fail
 refine HC.out.mono ?_;rintro e J ⟨z,rfl,⟨s,rfl,S,fs⟩,D⟩;obtain⟨b1,d1,rfl⟩:=S.shape;have r0:∀i,J.cell? ⟨w.heap.size+1,i,none⟩ = #[Value.z,.sn][i]?:=λi=>by rw[D.cell (p:=⟨w.heap.size+1,i,none⟩) Y]; simp[go_sem]
 have f0:∀i,J.frozen? ⟨w.heap.size+1,i,none⟩=false:=λi=>by rw[D.frozen (p:=⟨w.heap.size+1,i,none⟩) Y]; simp[go_sem]
 have hz:w.heap.size+1<J.heap.size:=by have:=D.size; simp at this; omega
 have HX:=aC8 (K00 HB.out D);have F:=aC8 (And.intro S fs);generalize hnb:(!neg&&decide (0<TP l))=nb at *;have J:=aC8 hnb;clear S fs D HC hnb;go_wp2_with fail
 refine bodyPost_ret (v := .agg #[.b nb,.s b1 (Ro (TP l)).length d1]) (by simp[results,results221,go_sem,r0]) I ⟨_,I,⟨_,by rw[J.out],?_,?_⟩,?_⟩
 .exact F.out.1.ch (((Ch.refl (w.heap.size+1) _).setCell 0 _).setCell 1 _) (λ_=>F.out.2.off Y)
 .exact F.out.2.mono (by simp; omega)
 exact(HX.out.setCell (p:=⟨_,0,none⟩) (by simp only; omega) _).setCell (p:=⟨_,1,none⟩) (by simp only; omega) _
abbrev jD(x:Nat)(w:VO)(h:(x:Int)<=9223372036854775807) :
  abB prog 124 #[.i x] w λe w'=>∃v,e = .R v∧aC w.heap.size w' v false x 1∧Ext w w':=by
 have D:=aH w (.cells #[.z,.sn,.z,.sn] 26);have H1:=aC8 (xC x (w.alloc (.cells #[.z,.sn,.z,.sn] 26)) h);have S:=aC8 D;clear D;go_enter func124,ntmps124
 go_wp2_with fail
 refine H1.out.mono ?_;rintro e w1 ⟨y,rfl,⟨s,rfl,hs,fs⟩,D⟩;have h2:=xC 1 w1 O;have H2:=aC8 h2;have HS:=aC8 (And.intro hs fs);have J:=aC8 D;clear h2 H1 hs fs D;go_wp2_with fail
 refine H2.out.mono ?_;rintro e w2 ⟨y,rfl,⟨t,rfl,ht,ft⟩,D⟩;obtain⟨b1,d1,rfl⟩:=HS.out.1.shape;obtain⟨b2,d2,rfl⟩:=ht.shape;obtain⟨r0,f0,hz⟩:=ji (K00 J.out D);obtain⟨-,-,aa⟩:=ji J.out;have F:=aC8 (And.intro (HS.out.1.below D) (And.intro ht (And.intro HS.out.2 ft)));have HX:=aC8 (K00 S.out (K00 J.out D));clear ht ft D H2;go_wp2_with fail
 refine bodyPost_ret (v := .agg #[.z,.s b1 (Ro x).length d1,.z,.s b2 (Ro 1).length d2]) (by simp[results,results124,go_sem,r0]) I ⟨_,I,⟨_,_,I,?_,?_,?_,?_⟩,?_⟩
 .exact F.out.1.ch (((((Ch.refl w.heap.size _).setCell _ _).setCell _ _).setCell _ _).setCell _ _) (λ_=>F.out.2.2.1.off Y)
 .exact F.out.2.1.ch (((((Ch.refl w.heap.size _).setCell _ _).setCell _ _).setCell _ _).setCell _ _) (λ_=>F.out.2.2.2.off aa)
 .exact F.out.2.2.1.mono Y
 .exact F.out.2.2.2.mono Z
 exact(((HX.out.setCell (p:=⟨_,0,none⟩) (by simp only; omega) _).setCell (p:=⟨_,1,none⟩) (by simp only; omega) _).setCell (p:=⟨_,2,none⟩) (by simp only; omega) _).setCell (p:=⟨_,3,none⟩) (by simp only; omega) _
abbrev vk{v:aaT}{a:Nat}{w:VO}(neg:Bool)(J:aG w v (Ro a))(D:(Ro a).length<=1000000000) :
  abB prog 219 #[.b neg,v] w λe w'=>∃x,e = .R x∧aQ w.heap.size w' x (neg&&decide (0<a)) a∧Ext w w':=by
 have h:=vg neg v _ w J D;rw[NP]at h;exact h
