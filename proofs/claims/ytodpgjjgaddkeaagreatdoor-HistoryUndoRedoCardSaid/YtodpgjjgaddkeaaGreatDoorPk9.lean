/- Walks of package node: zero -/
import Derived.Test.YtodpgjjgaddkeaaGreatDoorPk8
import Derived.Stop.Asserts
import Derived.LaidEql
set_option maxHeartbeats 9999999
open Go renaming World->Á,Value->À,Calls->Ä
open Go.Proofs.Tryz
set_option maxRecDepth 100000
set_option linter.unusedVariables false
set_option linter.unusedSimpArgs false
namespace Go.Proofs.Pv
open _root_.Go.Proofs.Tryz
section
open Go.RowKit Na Go.Sx
variable{α:Type}{K:Nat}
def dY(K:Nat)(w:Á)(n:ah):Prop:=n.ok w∧n.t.fit K∧(∀p∈n.fill,p.t.fit K)∧(∀p∈n.stroke,p.t.fit K)∧1<=K∧K<=10000
abbrev dY.below{w w':Á}{n:ah}(h:dY K w n)(hb:Ext w w'):dY K w' n:=⟨h.1.below hb,h.2⟩
def aY.bare:aY:=⟨0,0,0,0,none,0,[],0⟩
abbrev aY.jr(w:Á):aY.bare.ok w:=⟨gW,gW,gW,gW,⟨none,0,I,Õ _,.inl ⟨I,λ_=>rfl⟩⟩,λx hx=>by simp[aY.bare]at hx,gW⟩
abbrev VI:Ie q0:=K06▸dL.nrm (bn.toQ (w:=default) (bn.fQ _) (bn.gQ 1))
abbrev VJ:qlen 1 q0:=K06▸dL.len (bn.toQ (w:=default) (bn.fQ _) (bn.gQ 1)) (Ó 1)
abbrev af9{w:Á}{t:aT}(h:t.ok w)(hf:t.fit K)(hK1:1<=K)(hK:K<=10000) :
  Ä prog 190 #[t.v] w (RF w (.b (pW t.q.wE q0))):=by
 skip;refine Ë func190 ntmps190 λS=>Í S λu b2 E3 hb4 S=>Å S 2 [] [.M 0 0] λS=>zq S (Zz t.v t.q K _ ((aT.toQ h hf).fB S.E) hK1 hK) λx u hd E6 S=>zq S (xY 0 _ Z Z) λy u hy E7 S=>Þ S (mG _ _ t.q.wE q0 (K+K+(K+K)+1) 1 _ (au.toQ (hd.ext E7) (yJ _) (yK hK1 (K03 ((aT.toQ h hf).fB (ù _ _)) hK1))) (au.toQ (q:=q0) hy VI VJ) Z Z Z Z) λu E8 S=>Æ S (.b (((jH t.q.wE q0))==0)) (λS=>?_);exact⟨I,S.E⟩
def ah.bare(nd:ah):Bool:=cond ((nd.kind)==1) ((((((((nd.path.length:Int))==0)&&((nd.aW)==0))&&(((nd.fill.length:Int))==0))&&(((nd.stroke.length:Int))==0))&&(nd.style.eq aY.bare))&&((nd.img.eq dA.bare)&&((nd.dw)==0))) (cond ((nd.kind)==2) (((((((nd.dP.toNat:Int))==0)&&((nd.blend)==0))&&(!nd.isolated))&&(!nd.cZ))&&((nd.img.eq dA.bare)&&((nd.dw)==0))) (((((((nd.dP.toNat:Int))==0)&&((nd.blend)==0))&&(!nd.isolated))&&(!nd.cZ))&&(((((((nd.path.length:Int))==0)&&((nd.aW)==0))&&(((nd.fill.length:Int))==0))&&(((nd.stroke.length:Int))==0))&&(nd.style.eq aY.bare))))
abbrev aga{w:Á}{nd:ah}(h:dY K w nd) :
  Ä prog 192 #[nd.v] w (RF w (.b nd.bare)):=by
 obtain⟨a1,c1,ecs⟩:=h.1.2.2.2.2.1.1.shape;obtain⟨a2,c2,eps⟩:=h.1.2.2.2.2.2.2.2.1.1.shape;obtain⟨a3,c3,efs⟩:=h.1.2.2.2.2.2.2.2.2.2.1.1.shape;obtain⟨a4,c4,ess⟩:=h.1.2.2.2.2.2.2.2.2.2.2.2.1.1.shape;refine Ë func192 ntmps192 λS=>Í S λu b2 E3 hb4 S=>Å S 20 [] [.M 0 29,.M 0 30,.M 0 31,.M 0 32] λS=>ě S 28 [.M 0 33,.M 0 34,.M 0 35,.M 0 42,.M 0 36] [(_,_,((((((nd.path.length:Int))==0)&&((nd.aW)==0))&&(((nd.fill.length:Int))==0))&&(((nd.stroke.length:Int))==0)),.b (nd.style.eq aY.bare))] [(4,.b (((((((nd.path.length:Int))==0)&&((nd.aW)==0))&&(((nd.fill.length:Int))==0))&&(((nd.stroke.length:Int))==0))&&(nd.style.eq aY.bare)))] ⟨λu hC g=>wZ (p:=nd.style) (q:=aY.bare) (h.1.2.2.2.2.2.2.2.2.2.2.1.below (Ã S.E hC)) (aY.jr _),G⟩ λu E7 S=>Å S 3 [] [.M 0 43] λS=>Þ S (uZ (m:=nd.img) (n:=dA.bare) (h.1.2.2.2.2.2.2.2.2.2.2.2.2.1.below S.E) (dA.jr _)) λu E9 S=>Å S 10 [] [.M 0 46,.M 0 1] λS=>È S ((nd.kind)==1) (λhc13 S=>?_) (λhc13 S=>?_)
 .refine Æ S (.b ((((((((nd.path.length:Int))==0)&&((nd.aW)==0))&&(((nd.fill.length:Int))==0))&&(((nd.stroke.length:Int))==0))&&(nd.style.eq aY.bare))&&((nd.img.eq dA.bare)&&((nd.dw)==0)))) (λS=>?_);exact⟨aC (by unfold ah.bare; rw[hc13]; rfl),S.E⟩
 refine È S ((nd.kind)==2) (λhc16 S=>?_) (λhc16 S=>?_)
 .refine Æ S (.b (((((((nd.dP.toNat:Int))==0)&&((nd.blend)==0))&&(!nd.isolated))&&(!nd.cZ))&&((nd.img.eq dA.bare)&&((nd.dw)==0)))) (λS=>?_);exact⟨aC (by unfold ah.bare; rw[hc13,hc16]; rfl),S.E⟩
 refine Æ S (.b (((((((nd.dP.toNat:Int))==0)&&((nd.blend)==0))&&(!nd.isolated))&&(!nd.cZ))&&(((((((nd.path.length:Int))==0)&&((nd.aW)==0))&&(((nd.fill.length:Int))==0))&&(((nd.stroke.length:Int))==0))&&(nd.style.eq aY.bare)))) (λS=>?_);exact⟨aC (by unfold ah.bare; rw[hc13,hc16]; rfl),S.E⟩
open Go.RowKit Na Go.Sx
variable{α:Type}{K:Nat}
def ah.gZ(nd:ah):List (Bool×Int):=[((decide (nd.kind<1))||(decide (3<nd.kind)),2),((((decide (nd.id<1))||(decide (1073741824<nd.id)))||(decide (nd.depth<0)))||(decide (8<=nd.depth)),6),(!(nd.t.q.valid),5),((pW nd.t.q.wE q0),9),(!(iZ nd.clip),10),((!(((((nd.clip.length:Int))==0)&&((nd.aJ)==0))||((decide (0<(nd.clip.length:Int)))&&((nd.aJ==1)||(nd.aJ==2)))))||(!(nd.bare)),17)]
def ah.yX(nd:ah):À:=kK nd.gZ
abbrev XW{w:Á}{nd:ah}(h:dY K w nd) :
  Ä prog 142 #[nd.v] w (RF w nd.yX):=by
 obtain⟨a1,c1,ecs⟩:=h.1.2.2.2.2.1.1.shape;obtain⟨a2,c2,eps⟩:=h.1.2.2.2.2.2.2.2.1.1.shape;obtain⟨a3,c3,efs⟩:=h.1.2.2.2.2.2.2.2.2.2.1.1.shape;obtain⟨a4,c4,ess⟩:=h.1.2.2.2.2.2.2.2.2.2.2.2.1.1.shape;refine Ŗ func142 ntmps142 λac S=>Î λ_ ig=>ī S 1 nd.cells λac u b2 E3 hb4 S=>Ç S 1 [] [(2,.nilIface)] λS=>Ê<|ig _ _<|Î λ_ zy=>ac0 S 21 [.M 0 27,.M 0 28,.M 0 27,.M 0 28] [(_,_,((!((((nd.clip.length:Int))==0)&&((nd.aJ)==0)))&&(decide (0<(nd.clip.length:Int)))),.b ((nd.aJ==1)||(nd.aJ==2)))] [(3,.b (((((nd.clip.length:Int))==0)&&((nd.aJ)==0))||((decide (0<(nd.clip.length:Int)))&&((nd.aJ==1)||(nd.aJ==2)))))] ⟨λu hC g=>Đ (UE nd.aJ _),G⟩ λac u E6 S=>Ê<|zy _ _<|ß λ_ Qx=>Ţ S 50 [.M 0 1,.M 0 1,.M 0 0,.M 0 0,.M 0 2,.M 0 2,.M 0 3,.M 0 3,.M 0 27,.M 0 0] [(_,_,true,dK ((decide (nd.kind<1))||(decide (3<nd.kind))) 2),(_,_,true,dK ((((decide (nd.id<1))||(decide (1073741824<nd.id)))||(decide (nd.depth<0)))||(decide (8<=nd.depth))) 6),(_,_,true,.b (nd.t.q.valid)),(_,_,true,dK (!(nd.t.q.valid)) 5),(_,_,true,.b (pW nd.t.q.wE q0)),(_,_,true,dK (pW nd.t.q.wE q0) 9),(_,_,true,.b (iZ nd.clip)),(_,_,true,dK (!(iZ nd.clip)) 10),(_,_,(!(!(((((nd.clip.length:Int))==0)&&((nd.aJ)==0))||((decide (0<(nd.clip.length:Int)))&&((nd.aJ==1)||(nd.aJ==2)))))),.b (nd.bare)),(_,_,true,dK ((!(((((nd.clip.length:Int))==0)&&((nd.aJ)==0))||((decide (0<(nd.clip.length:Int)))&&((nd.aJ==1)||(nd.aJ==2)))))||(!(nd.bare))) 17)] [(32,dK ((decide (nd.kind<1))||(decide (3<nd.kind))) 2),(51,dK ((((decide (nd.id<1))||(decide (1073741824<nd.id)))||(decide (nd.depth<0)))||(decide (8<=nd.depth))) 6),(56,dK (!(nd.t.q.valid)) 5),(60,dK (pW nd.t.q.wE q0) 9),(65,dK (!(iZ nd.clip)) 10),(73,dK ((!(((((nd.clip.length:Int))==0)&&((nd.aJ)==0))||((decide (0<(nd.clip.length:Int)))&&((nd.aJ==1)||(nd.aJ==2)))))||(!(nd.bare))) 17)] ⟨λu hC g=>Đ (je ((decide (nd.kind<1))||(decide (3<nd.kind))) 2 _),λu hC g=>Đ (je ((((decide (nd.id<1))||(decide (1073741824<nd.id)))||(decide (nd.depth<0)))||(decide (8<=nd.depth))) 6 _),λu hC g=>JX nd.t.v nd.t.q K _ ((aT.toQ h.1.2.2.2.1 h.2.1).fB (Ã S.E hC)) h.2.2.2.2.1 (by have:=h.2.2.2.2.2; omega),λu hC g=>Đ (je (!(nd.t.q.valid)) 5 _),λu hC g=>af9 (t:=nd.t) (h.1.2.2.2.1.below (Ã S.E hC)) h.2.1 h.2.2.2.2.1 h.2.2.2.2.2,λu hC g=>Đ (je (pW nd.t.q.wE q0) 9 _),λu hC g=>Ad (h.1.2.2.2.2.1.below (Ã S.E hC)),λu hC g=>Đ (je (!(iZ nd.clip)) 10 _),λu hC g=>aga (h.below (Ã S.E hC)),λu hC g=>Đ (je ((!(((((nd.clip.length:Int))==0)&&((nd.aJ)==0))||((decide (0<(nd.clip.length:Int)))&&((nd.aJ==1)||(nd.aJ==2)))))||(!(nd.bare))) 17 _),G⟩ (λac u E8 S=>?_);refine UH S 74 (dK ((decide (nd.kind<1))||(decide (3<nd.kind))) 2) (dK ((((decide (nd.id<1))||(decide (1073741824<nd.id)))||(decide (nd.depth<0)))||(decide (8<=nd.depth))) 6) (dK (!(nd.t.q.valid)) 5) (dK (pW nd.t.q.wE q0) 9) (dK (!(iZ nd.clip)) 10) (dK ((!(((((nd.clip.length:Int))==0)&&((nd.aJ)==0))||((decide (0<(nd.clip.length:Int)))&&((nd.aJ==1)||(nd.aJ==2)))))||(!(nd.bare))) 17) I I I I (fJ _ _) (fJ _ _) (fJ _ _) (fJ _ _) (fJ _ _) (fJ _ _) (λac u b9 NQ OJ S=>?_);refine zJ S 75 (first_any (vH (f:=λp:Bool×Int=>dK p.1 p.2) [((decide (nd.kind<1))||(decide (3<nd.kind)),2),((((decide (nd.id<1))||(decide (1073741824<nd.id)))||(decide (nd.depth<0)))||(decide (8<=nd.depth)),6),(!(nd.t.q.valid),5),((pW nd.t.q.wE q0),9),(!(iZ nd.clip),10),((!(((((nd.clip.length:Int))==0)&&((nd.aJ)==0))||((decide (0<(nd.clip.length:Int)))&&((nd.aJ==1)||(nd.aJ==2)))))||(!(nd.bare)),17)] (S.bx 0) (by show 6<=9223372036854775807; decide))) λac u uM S=>Ç S 1 [] [(2,(kK [((decide (nd.kind<1))||(decide (3<nd.kind)),2),((((decide (nd.id<1))||(decide (1073741824<nd.id)))||(decide (nd.depth<0)))||(decide (8<=nd.depth)),6),(!(nd.t.q.valid),5),((pW nd.t.q.wE q0),9),(!(iZ nd.clip),10),((!(((((nd.clip.length:Int))==0)&&((nd.aJ)==0))||((decide (0<(nd.clip.length:Int)))&&((nd.aJ==1)||(nd.aJ==2)))))||(!(nd.bare)),17)]))] λS=>Ê<|Qx _ _<|Rk S results142 ?_;exact⟨Ñ Ending.returned (by unfold ah.yX ah.gZ; rfl),S.E⟩
open Go.RowKit Na Go.Sx
variable{α:Type}{K:Nat}
def ah.vw(nd:ah):List (Bool×Int):=[(!(iZ nd.path),10),(!((nd.aW==1)||(nd.aW==2)),2),((decide (1<(nd.fill.length:Int)))||(decide (1<(nd.stroke.length:Int))),5),((decide (0<(nd.stroke.length:Int)))&&(!(nd.style.valid)),13),((!(decide (0<(nd.stroke.length:Int))))&&(!(nd.style.eq aY.bare)),17),((!(nd.fill.all aj.valid))||(!(nd.stroke.all aj.valid)),16)]
def ah.J3(nd:ah):À:=kK nd.vw
abbrev abW{w:Á}{nd:ah}(h:dY K w nd) :
  Ä prog 194 #[nd.v] w (RF w nd.J3):=by
 obtain⟨a1,c1,ecs⟩:=h.1.2.2.2.2.1.1.shape;obtain⟨a2,c2,eps⟩:=h.1.2.2.2.2.2.2.2.1.1.shape;obtain⟨a3,c3,efs⟩:=h.1.2.2.2.2.2.2.2.2.2.1.1.shape;obtain⟨a4,c4,ess⟩:=h.1.2.2.2.2.2.2.2.2.2.2.2.1.1.shape;refine Ŗ func194 ntmps194 λac S=>Î λ_ ig=>ī S 1 nd.cells λac u b2 E3 hb4 S=>Ç S 1 [] [(2,.nilIface)] λS=>Ê<|ig _ _<|Î λ_ zy=>Ç S 5 [.M 0 42] [(3,.b (0<(nd.stroke.length:Int)))] λS=>Ê<|zy _ _<|ß λ_ ū=>Ţ S 50 [.M 0 33,.M 0 34,.M 0 35,.M 0 42,.M 0 36,.M 0 36,.M 0 35,.M 0 42] [(_,_,true,.b (iZ nd.path)),(_,_,true,dK (!(iZ nd.path)) 10),(_,_,true,.b ((nd.aW==1)||(nd.aW==2))),(_,_,true,dK (!((nd.aW==1)||(nd.aW==2))) 2),(_,_,true,dK ((decide (1<(nd.fill.length:Int)))||(decide (1<(nd.stroke.length:Int)))) 5),(_,_,(decide (0<(nd.stroke.length:Int))),.b (nd.style.valid)),(_,_,true,dK ((decide (0<(nd.stroke.length:Int)))&&(!(nd.style.valid))) 13),(_,_,(!(decide (0<(nd.stroke.length:Int)))),.b (nd.style.eq aY.bare)),(_,_,true,dK ((!(decide (0<(nd.stroke.length:Int))))&&(!(nd.style.eq aY.bare))) 17),(_,_,true,.b (nd.fill.all aj.valid)),(_,_,(!(!(nd.fill.all aj.valid))),.b (nd.stroke.all aj.valid)),(_,_,true,dK ((!(nd.fill.all aj.valid))||(!(nd.stroke.all aj.valid))) 16)] [(12,dK (!(iZ nd.path)) 10),(17,dK (!((nd.aW==1)||(nd.aW==2))) 2),(28,dK ((decide (1<(nd.fill.length:Int)))||(decide (1<(nd.stroke.length:Int)))) 5),(36,dK ((decide (0<(nd.stroke.length:Int)))&&(!(nd.style.valid))) 13),(46,dK ((!(decide (0<(nd.stroke.length:Int))))&&(!(nd.style.eq aY.bare))) 17),(57,dK ((!(nd.fill.all aj.valid))||(!(nd.stroke.all aj.valid))) 16)] ⟨λu hC g=>Ad (h.1.2.2.2.2.2.2.2.1.below (Ã S.E hC)),λu hC g=>Đ (je (!(iZ nd.path)) 10 _),λu hC g=>Đ (UE nd.aW _),λu hC g=>Đ (je (!((nd.aW==1)||(nd.aW==2))) 2 _),λu hC g=>Đ (je ((decide (1<(nd.fill.length:Int)))||(decide (1<(nd.stroke.length:Int)))) 5 _),λu hC g=>abP (p:=nd.style) (h.1.2.2.2.2.2.2.2.2.2.2.1.below (Ã S.E hC)),λu hC g=>Đ (je ((decide (0<(nd.stroke.length:Int)))&&(!(nd.style.valid))) 13 _),λu hC g=>wZ (p:=nd.style) (q:=aY.bare) (h.1.2.2.2.2.2.2.2.2.2.2.1.below (Ã S.E hC)) (aY.jr _),λu hC g=>Đ (je ((!(decide (0<(nd.stroke.length:Int))))&&(!(nd.style.eq aY.bare))) 17 _),λu hC g=>ZB (K:=K) (pU.below ⟨h.1.2.2.2.2.2.2.2.2.2.1,h.2.2.1,h.2.2.2.2.1,h.2.2.2.2.2⟩ (Ã S.E hC)),λu hC g=>ZB (K:=K) (pU.below ⟨h.1.2.2.2.2.2.2.2.2.2.2.2.1,h.2.2.2.1,h.2.2.2.2.1,h.2.2.2.2.2⟩ (Ã S.E hC)),λu hC g=>Đ (je ((!(nd.fill.all aj.valid))||(!(nd.stroke.all aj.valid))) 16 _),G⟩ (λac u E7 S=>?_);refine UH S 58 (dK (!(iZ nd.path)) 10) (dK (!((nd.aW==1)||(nd.aW==2))) 2) (dK ((decide (1<(nd.fill.length:Int)))||(decide (1<(nd.stroke.length:Int)))) 5) (dK ((decide (0<(nd.stroke.length:Int)))&&(!(nd.style.valid))) 13) (dK ((!(decide (0<(nd.stroke.length:Int))))&&(!(nd.style.eq aY.bare))) 17) (dK ((!(nd.fill.all aj.valid))||(!(nd.stroke.all aj.valid))) 16) I I I I (fJ _ _) (fJ _ _) (fJ _ _) (fJ _ _) (fJ _ _) (fJ _ _) (λac u b8 E9 tX S=>?_);refine zJ S 59 (first_any (vH (f:=λp:Bool×Int=>dK p.1 p.2) [(!(iZ nd.path),10),(!((nd.aW==1)||(nd.aW==2)),2),((decide (1<(nd.fill.length:Int)))||(decide (1<(nd.stroke.length:Int))),5),((decide (0<(nd.stroke.length:Int)))&&(!(nd.style.valid)),13),((!(decide (0<(nd.stroke.length:Int))))&&(!(nd.style.eq aY.bare)),17),((!(nd.fill.all aj.valid))||(!(nd.stroke.all aj.valid)),16)] (S.bx 0) (by show 6<=9223372036854775807; decide))) λac u BH S=>Ç S 1 [] [(2,(kK [(!(iZ nd.path),10),(!((nd.aW==1)||(nd.aW==2)),2),((decide (1<(nd.fill.length:Int)))||(decide (1<(nd.stroke.length:Int))),5),((decide (0<(nd.stroke.length:Int)))&&(!(nd.style.valid)),13),((!(decide (0<(nd.stroke.length:Int))))&&(!(nd.style.eq aY.bare)),17),((!(nd.fill.all aj.valid))||(!(nd.stroke.all aj.valid)),16)]))] λS=>Ê<|ū _ _<|Rk S results194 ?_;exact⟨Ñ Ending.returned (by unfold ah.J3 ah.vw; rfl),S.E⟩
open Go.RowKit Na Go.Sx
variable{α:Type}{K:Nat}
def ah.UJ(nd:ah):À:=cond ((nd.kind)==1) (dK (!(decide (1<=nd.blend)&&decide (nd.blend<=13))) 2) (cond ((nd.kind)==2) (nd.J3) ((kK [(!(nd.img.valid),16),(((nd.dw) != 1)&&((nd.dw) != 2),2)])))
abbrev UK{w:Á}{nd:ah}(h:dY K w nd) :
  Ä prog 143 #[nd.v] w (RF w nd.UJ):=by
 obtain⟨a1,c1,ecs⟩:=h.1.2.2.2.2.1.1.shape;obtain⟨a2,c2,eps⟩:=h.1.2.2.2.2.2.2.2.1.1.shape;obtain⟨a3,c3,efs⟩:=h.1.2.2.2.2.2.2.2.2.2.1.1.shape;obtain⟨a4,c4,ess⟩:=h.1.2.2.2.2.2.2.2.2.2.2.2.1.1.shape;refine Ŗ func143 ntmps143 λac S=>Î λ_ ig=>ī S 1 nd.cells λac u b2 E3 hb4 S=>Ç S 1 [] [(2,.nilIface)] λS=>Ê<|ig _ _<|ß λ_ zy=>Î λ_ ū=>Ç S 2 [.M 0 1] [(4,.i nd.kind)] λS=>Ê<|ū _ _<|Ĩ<|Î λ_ Qx=>Ç S 2 [] [(5,.b ((nd.kind)==1))] λS=>Ê (Qx _ _ ?_);refine Č S (λhc8=>?_) (λhc8=>?_)
 .refine Î λ_ Ŭ=>Ç S 2 [.M 0 30] [(8,.i nd.blend)] λS=>Sx.calls S 9 (afZ nd.blend _) λac S=>Ç S 1 [] [(10,.b (!(decide (1<=nd.blend)&&decide (nd.blend<=13))))] λS=>Sx.calls S 11 (je (!(decide (1<=nd.blend)&&decide (nd.blend<=13))) 2 _) λac S=>Ç S 1 [] [(2,dK (!(decide (1<=nd.blend)&&decide (nd.blend<=13))) 2)] λS=>Ê<|Ŭ _ _<|Rk S results143 ?_;exact⟨Ñ Ending.returned (by unfold ah.UJ; rw[hc8]; rfl),S.E⟩
 refine Î λ_ wX=>Ç S 2 [] [(12,.b ((nd.kind)==2))] λS=>Ê (wX _ _ ?_);refine Č S (λfV=>?_) (λfV=>?_)
 .refine Î λ_ RQ=>Ç S 1 [.M 0 0] [(14,nd.v)] λS=>zJ S 15 (abW (h.below S.E)) λac u zu S=>Ç S 1 [] [(2,nd.J3)] λS=>Ê<|RQ _ _<|Rk S results143 ?_;exact⟨Ñ Ending.returned (by unfold ah.UJ; rw[hc8,fV]; rfl),S.E⟩
 refine ÿ<|zy _ _<|ß λ_ vZ=>Ţ S 14 [.M 0 43,.M 0 46,.M 0 46] [(_,_,true,.b (nd.img.valid)),(_,_,true,dK (!(nd.img.valid)) 16),(_,_,true,dK (((nd.dw) != 1)&&((nd.dw) != 2)) 2)] [(20,dK (!(nd.img.valid)) 16),(29,dK (((nd.dw) != 1)&&((nd.dw) != 2)) 2)] ⟨λu hC g=>DC (m:=nd.img) (h.1.2.2.2.2.2.2.2.2.2.2.2.2.1.below (Ã S.E hC)),λu hC g=>Đ (je (!(nd.img.valid)) 16 _),λu hC g=>Đ (je (((nd.dw) != 1)&&((nd.dw) != 2)) 2 _),G⟩ (λac u KA S=>?_);refine af8 S 30 (dK (!(nd.img.valid)) 16) (dK (((nd.dw) != 1)&&((nd.dw) != 2)) 2) I I I I (fJ _ _) (fJ _ _) (λac u b16 AA Ri S=>?_);refine zJ S 31 (first_any (vH (f:=λp:Bool×Int=>dK p.1 p.2) [(!(nd.img.valid),16),(((nd.dw) != 1)&&((nd.dw) != 2),2)] (S.bx 0) (by show 2<=9223372036854775807; decide))) λac u KN S=>Ç S 1 [] [(2,(kK [(!(nd.img.valid),16),(((nd.dw) != 1)&&((nd.dw) != 2),2)]))] λS=>Ê<|vZ _ _<|Rk S results143 ?_;exact⟨Ñ Ending.returned (by unfold ah.UJ; rw[hc8,fV]; rfl),S.E⟩
end
section
open Go.RowKit Na Go.Sx
variable{α:Type}
def bZ(w:Á):Prop:=0 < w.heap.size∧w.rangeAt 0 0 [.iface 296 (.agg #[.q prog.globals.size 210])]
variable{w w0:Á}{x0 x1 e:À}{n:Int}{t:Nat}
abbrev rls(v x:À):Go.Extern.ReflectliteValue.set #[v,x]=(do
  let (some (dst,a,fl),some (src,b,_)):=(<-Go.Extern.ReflectliteValue.parts v,<-Go.Extern.ReflectliteValue.parts x)
   | unsupported (.noEntry "extern/(internal/reflectlite.Value).Set.zeroValue")
  if fl/Go.Extern.ReflectliteValue.flagAddr%2==0 then unsupported (.noEntry "extern/(internal/reflectlite.Value).Set.unaddressable")
  let val <-loadVar src b
  if <-Go.Extern.Rtype.directlyAssignable dst src then storeVar dst a val
  else if <-Go.Extern.Rtype.implements dst src then
   if (<-Go.Extern.Rtype.kind src)==20 then
    match val with
    | .nilIface=>unsupported (.noEntry "extern/reflectlite: a nil value of one interface type handed on as a value of another")
    | _=>storeVar dst a val
   else storeVar dst a (.iface src val)
  else panicString ("reflectlite.Set: value of type " ++ (<-Go.Extern.Rtype.spelt src) ++ " is not assignable to type " ++ (<-Go.Extern.Rtype.spelt dst))
  pure (.tuple #[])):=rfl
abbrev J4(b:Nat)(w:Á):(Go.Extern.ReflectliteValue.parts (.agg #[.q prog.globals.size 213,.q b 0,.int .u64 409])).run prog w = .ok (some (213,⟨b,0,none⟩,409)) w:=by kernel_rfl
abbrev J5(b:Nat)(w:Á):(Go.Extern.ReflectliteValue.parts (.agg #[.q prog.globals.size 213,.q b 0,.int .u64 153])).run prog w = .ok (some (213,⟨b,0,none⟩,153)) w:=by kernel_rfl
abbrev Qa(w:Á):(Go.Extern.Rtype.directlyAssignable 213 213).run prog w = .ok true w:=by kernel_rfl
abbrev abX(t b:Nat)(n:Int)(e:À)(hb:Bx w b #[.i n,e])(ht:Bx w t #[x0,x1])(he:e.oneCell'=true) :
  (Go.Extern.ReflectliteValue.set #[.agg #[.q prog.globals.size 213,.q t 0,.int .u64 409],.agg #[.q prog.globals.size 213,.q b 0,.int .u64 153]]).run prog w = .ok (.tuple #[]) (w.setCells t 0 [.i n,e]) ∧
   Ch t w (w.setCells t 0 [.i n,e])∧Bx (w.setCells t 0 [.i n,e]) t #[.i n,e]:=by
 refine⟨?_,(Ch.refl t w).setCells _ _,Bx.set ht _ I⟩;rw[rls];have h1:=run_loadVar_mid (P:=prog) w b 0 213 [.i n,e] _ (hb.range 0 2 I) underlying213 I X;have h2:=run_storeVar_mid (P:=prog) w t 0 213 #[.i n,e] (ht.there I) X (by simp only[List.all_toArray,ay7,List.all_nil,he,Bool.and_true]; rfl);have p1:=J4 t w;have p2:=J5 b w;have p3:=Qa w;have p4:(409/Go.Extern.ReflectliteValue.flagAddr%2==0)=false:=by decide
 generalize prog.globals.size=g at p1 p2 |-;simp only[ķ,p1,p2,Result.andThen,p4,ayJ,if_false,h1,p3,if_true];rw[h2];rfl
abbrev ams{ρ:Operand->À}{o:Oper}{x y:Operand}{ts:Array TypeId}{u v V:À}{w1:Á}(hop:o.op = .call { callee := .value (.func 240),args := #[x,y],argTypes:=ts })(hf:ρ (.func 240) = .func (.func 240) #[] #[])
  (hx:ρ x=u) (hy:ρ y=v) (hs:(Go.Extern.ReflectliteValue.set #[u,v]).run prog w = .ok V w1):(execOp ρ o).run prog w = .ok (.value V) w1:=by
 have h12:=@run_callFunc_extern prog 240 _ Go.Extern.ReflectliteValue.set func240 X X X X;unfold execOp;rw[hop];simp[go_sem,hf,hx,hy,h12,hs]
abbrev as_nil(t:À)(w:Á) :
  Ä prog 144 #[.nilIface,t] w λe w'=>e = .R (.z)∧w=w':=by
 skip;refine Ë func144 ntmps144 λS=>â S λS=>Æ S (.z) (λS=>?_);exact⟨I,I⟩
abbrev aiG{b:Nat}(he:e.oneCell'=true)(hE:Ext w0 w)(ht:Bx w t #[x0,x1])(hb:w0.heap.size<=t)(hv:b<w.heap.size∧w.rangeAt b 0 [.q t 0]∧t≠b) :
  Ä prog 199 #[.iface 213 (.agg #[.i n,e]),.iface 215 (.q t 0),.agg #[.q prog.globals.size 215,.q b 0,.int .u64 150],.iface 296 (.agg #[.q prog.globals.size 213])] w λev w'=>ev = .R (.b true)∧Ext w0 w'∧Ch t w w'∧Bx w' t #[.i n,e]:=by
 skip;refine Bd func199 ntmps199 hE ht hb (λac S=>?_);have S:=S.view hv.1 hv.2.1 (λp hp=>by obtain rfl:=Ā.1 hp; exact hv.2.2);refine Î λ_ ig=>ī S 6 [.q prog.globals.size 215,.q b 0,.int .u64 150] λac u b2 E3 hb4 S=>Ç S 1 [] [(8,.z)] λS=>Ê<|ig _ _<|Ĩ<|wp_loop_rounds 1 ?_;rw[ϧ];refine Ĩ<|ß λ_ zy=>Î λ_ ū=>Ç S 4 [] [(19,.b true)] λS=>Ê<|ū _ _<|IU S<|Î λ_ Qx=>Ç S 3 [.M 0 0,.ϥ [(2,0)]] [(21,.agg #[.q prog.globals.size 213,.q t 0,.int .u64 409]),(22,.iface 213 (.agg #[.i n,e]))] λS=>Sx.new S 23 [.i n,e] (λb => .agg #[.q prog.globals.size 213,.q b 0,.int .u64 153]) (λac u b8 E9 tX S=>?_);have hs:=abX t b8 n e (w:=u) (S.bx 0) (S.bx 2) he;refine Sx.wrote S 2 [.i n,e] (.tuple #[]) (some 24) I I I I ?_ hs.2.1 hs.2.2 (uQ S.E hb _ _) (λac S=>?_)
 .exact ams I I (S.s.has 21 _ I) (S.s.has 23 _ I) hs.1
 have KC:=Ch.trans (Ch.trans (Ch.refl t w) (Ch.bY (Ã E3 E9))) hs.2.1;refine Ê<|Qx _ _<|Î λ_ vZ=>Ç S 1 [] [(8,.b true)] λS=>Ê<|vZ _ _<|Rk S results199 ?_;exact⟨I,S.E,KC,S.bx 2⟩
abbrev bZ.below{w w':Á}(h:bZ w)(hE:Ext w w'):bZ w':=⟨ā h.1 hE.size,Vp.qG h.2 h.1 hE⟩
abbrev as_hit(he:e.oneCell'=true)(hE:Ext w0 w)(ht:Bx w t #[x0,x1])(hb:w0.heap.size<=t)(hg:bZ w0) :
  Ä prog 144 #[.iface 213 (.agg #[.i n,e]),.iface 215 (.q t 0)] w λev w'=>ev = .R (.b true)∧Ext w0 w'∧Ch t w w'∧Bx w' t #[.i n,e]:=by
 skip;refine Bd func144 ntmps144 hE ht hb (λac S=>?_);have S:=S.view0 hg.1 hg.2;refine Î λ_ ig=>Ç S 1 [] [(4,.z)] λS=>Ê<|ig _ _<|ß λ_ Qw=>Î λ_ κ3=>Ç S 2 [] [(9,.z)] λS=>Ê<|κ3 _ _<|zL S<|ÿ<|Qw _ _<|ß λ_ Χ=>Î λ_ zy=>Ç S 2 [] [(11,.z)] λS=>Ê<|zy _ _<|zL S<|ÿ<|Χ _ _<|Î λ_ ū=>Ç S 1 [] [(13,.iface 215 (.q t 0))] λS=>Sx.new S 14 [.q t 0] (λb => .agg #[.q prog.globals.size 215,.q b 0,.int .u64 150]) λac u b7 E8 hb9 S=>ī S 5 [.pointer none,.pointer none,.int .u64 0] λac u b10 BH BQ S=>Ĭ S 0 (off:=0) (cs:=[.q prog.globals.size 215,.q b7 0,.int .u64 150]) I (λu C13 S=>?_);have vV:=Ö (Ã E8 BH) C13 (by have:=E8.size; omega);refine Ê<|ū _ _<|Î λ_ NT=>Ç S 3 [.M 0 0] [(6,.iface 296 (.agg #[.q prog.globals.size 215]))] λS=>Ê<|NT _ _<|ß λ_ D6=>Î λ_ NU=>Ç S 7 [.M 0 0,.ϥ [(1,0)]] [(23,.z)] λS=>Ê<|NU _ _<|zL S<|ÿ<|D6 _ _<|Î λ_ VZ=>Ç S 3 [] [(7,.iface 296 (.agg #[.q prog.globals.size 213]))] λS=>Ê<|VZ _ _<|ß λ_ acX=>Î λ_ aaq=>Ç S 9 [.M 3 0] [(35,.z)] λS=>Ê<|aaq _ _<|zL S<|ÿ<|acX _ _<|Î λ_ ady=>Ç S 4 [.M 0 0] [(37,.iface 213 (.agg #[.i n,e])),(38,.iface 215 (.q t 0)),(39,.agg #[.q prog.globals.size 215,.q b7 0,.int .u64 150]),(40,.iface 296 (.agg #[.q prog.globals.size 213]))] (λS=>?_);have hlt:=(S.bx 1).1;refine ajo S 2 [.i n,e] (some 41) I (aiG (n:=n) (t:=t) (b:=b7) he S.E (S.bx 2) hb ⟨(S.bx 1).1,(S.bx 1).range 0 1 I,S.ne (i:=2) (j:=1) I I O⟩) ?_;rintro e u ⟨rfl,asE,aoE,asF⟩;refine⟨_,I,asE,aoE,asF,λac S=>?_⟩;have F23:=Ch.trans (Ch.trans (Ch.refl t w) (Ch.bY vV)) aoE;refine Ç S 1 [] [(4,.b true)] λS=>Ê<|ady _ _<|Rk S results144 ?_;exact⟨I,S.E,F23,S.bx 2⟩
open Go.RowKit Na Go.Sx
variable{α:Type}{K:Nat}
def kM:List (Bool×Int)->Int
 | []=>0
 | p::l=>if p.1=true then p.2 else kM l
def badL(l:List (Bool×Int)):Bool:=l.any (·.1)
abbrev jC (n:Int)(e:À):À := .iface 213 (.agg #[.i n,e])
theorem vS:∀l:List (Bool×Int),(badL l=false∧kK l = .nilIface∧kM l=0)∨(badL l=true∧∃n,kK l=jC 0 (jC n .nilIface)∧kM l=n)
 | [] => .inl ⟨I,I,I⟩
 | p::l=>by
  unfold kK kM badL
  rw[List.any_cons]
  cases hp:p.1 with
  | true=>exact .inr ⟨I,p.2,Ï I,Ï I⟩
  | false =>
   rw[É Y,É Y,ayT]
   exact vS l
def ah.sZ(nd:ah):Int:=cond ((nd.kind)==1) (kM [((!(decide (1<=nd.blend)&&decide (nd.blend<=13))),2)]) (cond ((nd.kind)==2) (kM nd.vw) ((kM [(!(nd.img.valid),16),(((nd.dw) != 1)&&((nd.dw) != 2),2)])))
def ah.checkN(nd:ah):Int:=_root_.cond (badL nd.gZ) (kM nd.gZ) nd.sZ
abbrev XY(nd:ah):(nd.UJ = .nilIface∧nd.sZ=0)∨(nd.UJ=jC nd.sZ .nilIface)∨(nd.UJ=jC 0 (jC nd.sZ .nilIface)):=by
 have hL:∀l,(kK l = .nilIface∧kM l=0)∨(kK l=jC (kM l) .nilIface)∨(kK l=jC 0 (jC (kM l) .nilIface)):=by
  intro l;rcases vS l with ⟨_,h1,h2⟩ | ⟨_,n,h1,h2⟩
  .exact .inl ⟨h1,h2⟩
  exact .inr (.inr (by rw[h1,h2]))
 have hW:∀b n,(dK b n = .nilIface∧kM [(b,n)]=0)∨(dK b n=jC (kM [(b,n)]) .nilIface)∨(dK b n=jC 0 (jC (kM [(b,n)]) .nilIface)):=by
  intro b n;cases b<;>simp[dK,kM]
 unfold ah.UJ ah.sZ ah.J3;cases h1:nd.kind==1
 .cases h2:nd.kind==2
  .exact hL _
  exact hL _
 exact hW _ _
abbrev KT{w:Á}{nd:ah}(h:dY K w nd)(hg:bZ w) :
  Ä prog 96 #[nd.v] w (RF w (.i nd.checkN)):=by
 skip;refine Ë func96 ntmps96 λS=>Ú S nd.cells λu b2 E3 hb4 S=>Å S 2 [] [.M 0 0] λS=>Þ S (XW (h.below S.E)) (λu E6 S=>?_);rcases vS nd.gZ with ⟨hb,he,hc⟩ | ⟨hb,n,he,hc⟩
 .rw[show nd.yX = .nilIface from he]at S;try rw[show nd.yX = .nilIface from he]
  refine â S λS=>Å S 1 [] [.M 0 0] λS=>Þ S (UK (h.below S.E)) (λu E9 S=>?_);rcases XY nd with ⟨ho,hn⟩ | ho | ho
  .rw[ho]at S;try rw[ho]
   refine Ú S [.i 0,.nilIface] λu b12 zu Tj S=>Qu S 3 λS=>jc S (as_nil (.iface 215 (.q b12 0)) _) λS=>ú S λS=>Æ S (.i 0) (λS=>?_);exact⟨by unfold ah.checkN; rw[hb]; simp only[_root_.cond]; rw[hn],S.E⟩
  .rw[ho]at S;try rw[ho]
   refine Ú S [.i 0,.nilIface] λu b21 UZ NV S=>Qu S 3 λS=>Ee S 0 [.i nd.sZ,.nilIface] rfl (as_hit (n:=nd.sZ) (e := .nilIface) I S.E (S.bx 0) (S.old 0) hg) ?_;rintro e u ⟨rfl,akL,aaU,akM⟩;refine⟨_,I,akL,aaU,akM,λS=>?_⟩;refine â S λS=>Ą S 5 [.M 0 0,.M 0 1] [] [(4,.i nd.sZ),(18,.nilIface)] trivial λu Qr S=>jc S (as_nil (.iface 215 (.q b21 0)) _) λS=>ú S λS=>Æ S (.i nd.sZ) (λS=>?_);exact⟨by unfold ah.checkN; rw[hb]; simp only[_root_.cond],S.E⟩
  rw[ho]at S;try rw[ho]
  refine Ú S [.i 0,.nilIface] λu b34 Qo ajV S=>Qu S 3 λS=>Ee S 0 [.i 0,jC nd.sZ .nilIface] rfl (as_hit (n:=0) (e:=jC nd.sZ .nilIface) I S.E (S.bx 0) (S.old 0) hg) ?_;rintro e u ⟨rfl,asG,asH,asI⟩;refine⟨_,I,asG,asH,asI,λS=>?_⟩;refine â S λS=>Ą S 5 [.M 0 0,.M 0 1] [] [(4,.i 0),(18,jC nd.sZ .nilIface)] trivial λu Qq S=>Ee S 0 [.i nd.sZ,.nilIface] rfl (as_hit (n:=nd.sZ) (e := .nilIface) I S.E (S.bx 0) (S.old 0) hg) ?_;rintro e u ⟨rfl,asJ,asK,asL⟩;refine⟨_,I,asJ,asK,asL,λS=>?_⟩;refine â S λS=>Ą S 5 [.M 0 0,.M 0 1] [] [(4,.i nd.sZ),(18,.nilIface)] trivial λu ϝ S=>jc S (as_nil (.iface 215 (.q b34 0)) _) λS=>ú S λS=>Æ S (.i nd.sZ) (λS=>?_);exact⟨by unfold ah.checkN; rw[hb]; simp only[_root_.cond],S.E⟩
 rw[show nd.yX=jC 0 (jC n .nilIface)from he]at S;try rw[show nd.yX=jC 0 (jC n .nilIface)from he]
 refine ú S λS=>Ú S [.i 0,.nilIface] λu b53 ϲ apf S=>Qu S 3 λS=>Ee S 0 [.i 0,jC n .nilIface] rfl (as_hit (n:=0) (e:=jC n .nilIface) I S.E (S.bx 0) (S.old 0) hg) ?_;rintro e u ⟨rfl,asM,asN,asO⟩;refine⟨_,I,asM,asN,asO,λS=>?_⟩;refine â S λS=>Ą S 5 [.M 0 0,.M 0 1] [] [(4,.i 0),(18,jC n .nilIface)] trivial λu E60 S=>Ee S 0 [.i n,.nilIface] rfl (as_hit (n:=n) (e := .nilIface) I S.E (S.bx 0) (S.old 0) hg) ?_;rintro e u ⟨rfl,asP,asQ,asR⟩;refine⟨_,I,asP,asQ,asR,λS=>?_⟩;refine â S λS=>Ą S 5 [.M 0 0,.M 0 1] [] [(4,.i n),(18,.nilIface)] trivial λu Ϟ S=>jc S (as_nil (.iface 215 (.q b53 0)) _) λS=>ú S λS=>Æ S (.i n) (λS=>?_);exact⟨by unfold ah.checkN; rw[hb]; simp only[_root_.cond]; rw[hc],S.E⟩
open Go.RowKit Na Go.Sx
variable{α:Type}{K:Nat}
abbrev K04{base:Nat}{w:Á}{v:À}{q:Bool×Nat×Nat}(h:bF base w v q):∃r:bn,v=r.v∧r.ok w∧r.n1=q.1∧r.l1=LZ q.2.1∧r.n2=false∧r.l2=LZ q.2.2:=by
 obtain⟨s,t,rfl,hs,ht,_⟩:=h;have hs':=hs;have ht':=ht;obtain⟨a1,c1,rfl,_⟩:=hs;obtain⟨a2,c2,rfl,_⟩:=ht;exact⟨⟨q.1,a1,c1,LZ q.2.1,false,a2,c2,LZ q.2.2⟩,I,⟨hs',ht'⟩,I,I,I,I⟩
variable{q:Bool×Nat×Nat}
abbrev Nh{r:bn}(h1:r.n1=q.1)(h2:r.l1=LZ q.2.1)(h3:r.n2=false)(h4:r.l2=LZ q.2.2)(hn:Ie q):r.q=q:=by
 unfold bn.q;rw[h1,h2,h3,h4,L6,L6]; exact hn
abbrev yR{r:bn}{K:Nat}(h2:r.l1=LZ q.2.1)(h4:r.l2=LZ q.2.2)(hl:qlen K q):r.fit K:=⟨by rw[h2]; exact hl.1,by rw[h4]; exact hl.2⟩
abbrev JF:wW qI:=⟨by decide,by decide,by decide,by decide,by decide,by decide⟩
abbrev alr:TP 1 qI:=by
 have h1:qlen 1 (false,1,1):=⟨Dx,Dx⟩;have h0:qlen 1 (false,0,1):=⟨by show(LZ 0).length<=1; rw[jF]; simp,Dx⟩;exact⟨h1,h0,h0,h1,h0,h0⟩
def iL(id:Int)(t:aT):ah:=⟨id,2,0,t,none,0,[],0,0,0,false,false,none,0,[],1,none,0,[],aY.bare,none,0,[],dA.bare,0⟩
def fM:ah:=⟨0,0,0,aT.none,none,0,[],0,0,0,false,false,none,0,[],0,none,0,[],aY.bare,none,0,[],dA.bare,0⟩
abbrev pR(w:Á):oH w (.sn) []:=⟨iR _ _ _,λs hs=>by cases hs⟩
abbrev lG(w:Á):iQ w (.sn) []:=⟨iR _ _ _,λs hs=>by cases hs⟩
abbrev abq{w:Á}{id:Int}{t:aT}(hid:I64 id)(ht:t.ok w)(hf:t.fit 1)(hK:1<=K)(hK2:K<=10000):dY K w (iL id t):=
 ⟨⟨hid,(show I64 2 by decide),gW,ht,pR w,gW,gW,pR w,(show I64 1 by decide),lG w,aY.jr w,lG w,dA.jr w,gW⟩,⟨hf.1.mono hK,hf.2.1.mono hK,hf.2.2.1.mono hK,hf.2.2.2.1.mono hK,hf.2.2.2.2.1.mono hK,hf.2.2.2.2.2.mono hK⟩,λp hp=>(by cases hp),λp hp=>(by cases hp),hK,hK2⟩
abbrev lT(w:Á)(hK:1<=K)(hK2:K<=10000):dY K w fM:=
 ⟨⟨gW,gW,gW,aT.fQ w,pR w,gW,gW,pR w,gW,lG w,aY.jr w,lG w,dA.jr w,gW⟩,aT.gQ K,λp hp=>(by cases hp),λp hp=>(by cases hp),hK,hK2⟩
abbrev PD:fM.checkN=2:=rfl
abbrev bn.ok.dG{w w':Á}{r:bn}{b:Nat}{A:Array À}(h:r.ok w)(hc:Ch b w w')(hx:Bx w b A)(hA:A.toList.all Dl=true):r.ok w':=⟨Nr h.1 hc hx hA,Nr h.2 hc hx hA⟩
abbrev aT.ok.dG{w w':Á}{t:aT}{b:Nat}{A:Array À}(h:t.ok w)(hc:Ch b w w')(hx:Bx w b A)(hA:A.toList.all Dl=true:=by rfl):t.ok w':=
 ⟨h.1.dG hc hx hA,h.2.1.dG hc hx hA,h.2.2.1.dG hc hx hA,h.2.2.2.1.dG hc hx hA,h.2.2.2.2.1.dG hc hx hA,h.2.2.2.2.2.dG hc hx hA⟩
end
section
open Go.RowKit Na Go.Sx
variable{α:Type}{K:Nat}
def mZ(a b:Int):Bool:=(side a&&side b)&&decide (a*b<=65536)
variable{w:Á}{v:À}{l:List dQ}{j k i:Nat}{m:dA}{x lo hi a b last:Int}{p:aY}
abbrev abY(h:(!(decide (lo<=x)&&decide (x<=hi)))=true):((decide (x<lo))||(decide (hi<x)))=true:=by
 simp only[ś,Bool.and_eq_false_iff,ð]at h;simp only[ŷ,Ý]; omega
abbrev XZ(h:(!(decide (lo<=x)&&decide (x<=hi)))=false):((decide (x<lo))||(decide (hi<x)))=false:=by
 simp only[Ő,æ,Ý]at h;simp only[Ĕ,ð]; omega
abbrev X0{l:List Int}{any:Bool}(hk:l.length<=k)(hR:oJ l (l.take k)=some any):((any&&(decide ((l.length:Int)<=16)))&&((Int.tmod (l.length:Int) 2)==0))=lI l:=by
 rw[<-UD hk hR,ayF,ayF,Bool.and_comm (decide _)]
abbrev agb:(((((decide (1<=a))&&(decide (a<=4096)))&&(decide (1<=b)))&&(decide (b<=4096)))&&(decide (IntKind.i64.wrap (a*b)<=65536)))=mZ a b:=by
 unfold mZ;cases ha:side a
 .have:((decide (1<=a))&&(decide (a<=4096)))=false:=ha;rw[this]; rfl
 cases hb:side b
 .have:((decide (1<=b))&&(decide (b<=4096)))=false:=hb;rw[ayF ((decide (1<=a))&&(decide (a<=4096))),this]; simp
 rw[Ew ha hb];have h1:((decide (1<=a))&&(decide (a<=4096)))=true:=ha;have h2:((decide (1<=b))&&(decide (b<=4096)))=true:=hb;rw[ayF ((decide (1<=a))&&(decide (a<=4096))),h1,h2]
abbrev UL(h:mZ a b=true):IntKind.i64.wrap (a*b)=a*b:=by
 unfold mZ at h;simp only[æ]at h;exact Ew h.1.1 h.1.2
abbrev J7:((!(mZ m.w m.h))||((m.l.length:Int) != IntKind.i64.wrap (m.w*m.h)))=((!(mZ m.w m.h))||((m.l.length:Int) != (m.w*m.h))):=by
 cases h:mZ m.w m.h
 .rfl
 rw[UL h]
abbrev Nz(m:dA):mZ m.w m.h=m.size:=by unfold mZ dA.size; rw[ayF]
abbrev agc(h:((!(mZ m.w m.h))||((m.l.length:Int) != (m.w*m.h)))=true):false=m.valid:=by
 unfold dA.valid;rw[<-Nz];revert h;cases mZ m.w m.h<;>simp;intro h h1; omega
abbrev abZ(h:((!(mZ m.w m.h))||((m.l.length:Int) != (m.w*m.h)))=false)(ha:m.l.all bQ.valid=true):true=m.valid:=by
 unfold dA.valid;rw[<-Nz];revert h;cases mZ m.w m.h<;>simp;intro h; exact⟨h,by simpa using ha⟩
abbrev ab1(ha:m.l.all bQ.valid=false):false=m.valid:=by
 unfold dA.valid;rw[ha]; simp
abbrev EO(n:Int)(w:Á) :
  Ä prog 208 #[.i n] w λe w'=>e = .R (.b (((n)==1)||((n)==2)))∧w=w':=by
 skip;refine Ë func208 ntmps208 λS=>Æ S (.b (((n)==1)||((n)==2))) (λS=>?_);exact⟨I,I⟩
def ah.mM(nd:ah):Bool:=(((((nd.path.length:Int))==0)&&((nd.aW)==0))&&(((nd.fill.length:Int))==0))&&(((nd.stroke.length:Int))==0)
abbrev yw{nd:ah}(h:nd.ok w) :
  Ä prog 209 #[nd.v] w (RF w (.b (nd.mM))):=by
 skip;refine Ë func209 ntmps209 λS=>Í S λu b2 E3 hb4 S=>Å S 23 [] [.M 0 33,.M 0 34,.M 0 35,.M 0 42] λS=>Æ S (.b ((((((nd.path.length:Int))==0)&&((nd.aW)==0))&&(((nd.fill.length:Int))==0))&&(((nd.stroke.length:Int))==0))) (λS=>?_);exact⟨I,S.E⟩
def ah.jE(nd:ah):Bool:=((((((nd.style.width)==0)&&((nd.style.join)==0))&&((nd.style.cap)==0))&&((nd.style.eu)==0))&&(((nd.style.dash.length:Int))==0))&&((nd.style.phase)==0)
abbrev qU{nd:ah}(h:nd.ok w) :
  Ä prog 210 #[nd.v] w (RF w (.b (nd.jE))):=by
 skip;refine Ë func210 ntmps210 λS=>Í S λu b2 E3 hb4 S=>Å S 3 [] [.M 0 36] λS=>Í S λu b6 E7 hb8 S=>à S 0 I λu C9 S=>Å S 30 [] [.M 0 0,.M 0 1,.M 0 2,.M 0 3,.M 0 4,.M 0 5] λS=>Æ S (.b (((((((nd.style.width)==0)&&((nd.style.join)==0))&&((nd.style.cap)==0))&&((nd.style.eu)==0))&&(((nd.style.dash.length:Int))==0))&&((nd.style.phase)==0))) (λS=>?_);exact⟨I,S.E⟩
def ah.oz(nd:ah):Bool:=((((nd.img.w)==0)&&((nd.img.h)==0))&&(((nd.img.l.length:Int))==0))&&((nd.dw)==0)
abbrev yx{nd:ah}(h:nd.ok w) :
  Ä prog 211 #[nd.v] w (RF w (.b (nd.oz))):=by
 skip;refine Ë func211 ntmps211 λS=>Í S λu b2 E3 hb4 S=>Å S 24 [] [.M 0 43,.M 0 44,.M 0 45,.M 0 46] λS=>Æ S (.b (((((nd.img.w)==0)&&((nd.img.h)==0))&&(((nd.img.l.length:Int))==0))&&((nd.dw)==0))) (λS=>?_);exact⟨I,S.E⟩
def ah.oC(nd:ah):Bool:=(((((nd.dP.toNat:Int))==0)&&((nd.blend)==0))&&(!nd.isolated))&&(!nd.cZ)
abbrev yA{nd:ah}(h:nd.ok w) :
  Ä prog 212 #[nd.v] w (RF w (.b (nd.oC))):=by
 skip;refine Ë func212 ntmps212 λS=>Í S λu b2 E3 hb4 S=>Å S 20 [] [.M 0 29,.M 0 30,.M 0 31,.M 0 32] λS=>Æ S (.b ((((((nd.dP.toNat:Int))==0)&&((nd.blend)==0))&&(!nd.isolated))&&(!nd.cZ))) (λS=>?_);exact⟨I,S.E⟩
def ah.ql(nd:ah):Bool:=cond (((((nd.clip.length:Int))==0)&&((nd.aJ) != 0))||((decide (0<(nd.clip.length:Int)))&&(!((nd.aJ==1)||(nd.aJ==2))))) (false) (cond ((nd.kind)==1) ((nd.mM&&nd.jE)&&nd.oz) (cond ((nd.kind)==2) (nd.oC&&nd.oz) ((nd.oC&&nd.mM)&&nd.jE)))
abbrev VK{nd:ah}(h:nd.ok w) :
  Ä prog 159 #[nd.v] w (RF w (.b nd.ql)):=by
 skip;refine Ë func159 ntmps159 λS=>Í S λu b2 E3 hb4 S=>Å S 1 [] [] λS=>ě S 21 [.M 0 27,.M 0 28,.M 0 27,.M 0 28] [(_,_,((!((((nd.clip.length:Int))==0)&&((nd.aJ) != 0)))&&(decide (0<(nd.clip.length:Int)))),.b ((nd.aJ==1)||(nd.aJ==2)))] [(23,.b (((((nd.clip.length:Int))==0)&&((nd.aJ) != 0))||((decide (0<(nd.clip.length:Int)))&&(!((nd.aJ==1)||(nd.aJ==2))))))] ⟨λu hC g=>Đ (EO nd.aJ _),G⟩ λu E7 S=>È S (((((nd.clip.length:Int))==0)&&((nd.aJ) != 0))||((decide (0<(nd.clip.length:Int)))&&(!((nd.aJ==1)||(nd.aJ==2))))) (λhc8 S=>?_) (λhc8 S=>?_)
 .have p0:=hc8;refine Æ S (.z) (λS=>?_);exact⟨aC (by unfold ah.ql; simp only[p0,cond_true,cond_false]),S.E⟩
 refine Å S 4 [] [.M 0 1] λS=>È S ((nd.kind)==1) (λhc13 S=>?_) (λhc13 S=>?_)
 .refine Å S 1 [] [.M 0 0] λS=>Þ S (yw (h.below S.E)) λu KA S=>ě S 9 [.M 0 0,.M 0 0] [(_,_,nd.mM,.b nd.jE),(_,_,(nd.mM&&nd.jE),.b nd.oz)] [(2,.b ((nd.mM&&nd.jE)&&nd.oz))] ⟨λu hC g=>qU (h.below (Ã S.E hC)),λu hC g=>yx (h.below (Ã S.E hC)),G⟩ (λu LU S=>?_);have p0:=hc8;have p1:=hc13;refine Æ S (.b ((nd.mM&&nd.jE)&&nd.oz)) (λS=>?_);exact⟨aC (by unfold ah.ql; simp only[p0,p1,cond_true,cond_false]),S.E⟩
 refine È S ((nd.kind)==2) (λhc18 S=>?_) (λhc18 S=>?_)
 .refine Å S 1 [] [.M 0 0] λS=>Þ S (yA (h.below S.E)) λu DK S=>ě S 5 [.M 0 0] [(_,_,nd.oC,.b nd.oz)] [(2,.b (nd.oC&&nd.oz))] ⟨λu hC g=>yx (h.below (Ã S.E hC)),G⟩ (λu FC S=>?_);have p0:=hc8;have p1:=hc13;have p2:=hc18;refine Æ S (.b (nd.oC&&nd.oz)) (λS=>?_);exact⟨aC (by unfold ah.ql; simp only[p0,p1,p2,cond_true,cond_false]),S.E⟩
 refine Å S 1 [] [.M 0 0] λS=>Þ S (yA (h.below S.E)) λu Qv S=>ě S 9 [.M 0 0,.M 0 0] [(_,_,nd.oC,.b nd.mM),(_,_,(nd.oC&&nd.mM),.b nd.jE)] [(2,.b ((nd.oC&&nd.mM)&&nd.jE))] ⟨λu hC g=>yw (h.below (Ã S.E hC)),λu hC g=>qU (h.below (Ã S.E hC)),G⟩ (λu EK S=>?_);have p0:=hc8;have p1:=hc13;have p2:=hc18;refine Æ S (.b ((nd.oC&&nd.mM)&&nd.jE)) (λS=>?_);exact⟨aC (by unfold ah.ql; simp only[p0,p1,p2,cond_true,cond_false]),S.E⟩
abbrev Rx(n:Int)(w:Á) :
  Ä prog 161 #[.i n] w λe w'=>e = .R (.b ((decide (1<=n))&&(decide (n<=13))))∧w=w':=by
 skip;refine Ë func161 ntmps161 λS=>Æ S (.b ((decide (1<=n))&&(decide (n<=13)))) (λS=>?_);exact⟨I,I⟩
def bQ.aiH(p:bQ):Bool:=((decide ((p.r.toNat:Int)<=(p.a.toNat:Int)))&&(decide ((p.g.toNat:Int)<=(p.a.toNat:Int))))&&(decide ((p.b.toNat:Int)<=(p.a.toNat:Int)))
abbrev Qb(p:bQ)(w:Á) :
  Ä prog 216 #[.agg #[.u (p.r.toNat:Int),.u (p.g.toNat:Int),.u (p.b.toNat:Int),.u (p.a.toNat:Int)]] w (RF w (.b (p.aiH))):=by
 skip;refine Ë func216 ntmps216 λS=>Í S λu b2 E3 hb4 S=>Å S 21 [] [.M 0 0,.M 0 3,.M 0 1,.M 0 3,.M 0 2,.M 0 3] λS=>Æ S (.b (((decide ((p.r.toNat:Int)<=(p.a.toNat:Int)))&&(decide ((p.g.toNat:Int)<=(p.a.toNat:Int))))&&(decide ((p.b.toNat:Int)<=(p.a.toNat:Int))))) (λS=>?_);exact⟨I,S.E⟩
abbrev J8(p:bQ):p.aiH=p.valid:=by
 unfold bQ.aiH bQ.valid;simp only[UInt8.le_iff_toNat_le,Int.ofNat_le,ayF]
abbrev UM(a b:Int)(w:Á) :
  Ä prog 215 #[.i a,.i b] w λe w'=>e = .R (.b (mZ a b))∧w=w':=by
 skip;refine Ë func215 ntmps215 λS=>Æ S (.b (((((decide (1<=a))&&(decide (a<=4096)))&&(decide (1<=b)))&&(decide (b<=4096)))&&(decide ((IntKind.i64.wrap (a*b))<=65536)))) (λS=>?_);exact⟨aC (by exact agb),I⟩
abbrev BZ(h:m.ok w) :
  Ä prog 162 #[m.v] w (RF w (.b m.valid)):=by
 obtain⟨a,cap,hs⟩:=h.2.2.shape;unfold dA.v;have hq:=h.2.2;rw[hs];rw[hs]at hq;have hmax:m.l.length<=9223372036854775807:=h.2.2.len;refine Ë func162 ntmps162 λS=>Í S λu b2 E3 hb4 S=>Å S 5 [] [.M 0 0,.M 0 1] λS=>jc S (UM m.w m.h _) λS=>Å S 12 [] [.M 0 2,.M 0 0,.M 0 1] λS=>È S ((!(mZ m.w m.h))||(((m.l.length:Int)) != (IntKind.i64.wrap (m.w*m.h)))) (λkP S=>?_) (λkP S=>?_)
 .refine Æ S (.z) (λS=>?_);exact⟨aC (agc (J7▸kP)),S.E⟩
 refine ĕ S (ι:=Nat) (λp a' w'=>p<=m.l.length∧((m.l.take p).all bQ.valid=true)∧Sx.St w a' w' 35 [(0,.agg #[.i m.w,.i m.h,.s a m.l.length cap]),(1,.q b2 0),(2,.z),(3,.i p)] [(b2,[.i m.w,.i m.h,.s a m.l.length cap])] []) (λp=>m.l.length-p) (0) (λS=>⟨Õ _,I,S.oK⟩) ?_;rintro k ac u ig fC hI;try dsimp only at hI
 obtain⟨hk,hR,S⟩:=hI;refine Ė S λS=>Å S 5 [] [.M 0 2] λS=>È S (decide ((k:Int)<(m.l.length:Int))) (λhc13 S=>?_) (λhc13 S=>?_)
 .have JC:k<m.l.length:=by have:=å hc13; omega
  obtain⟨b16,o17,rfl,tJ,Le,NV,ae7⟩:=û hq (λ_=>I) (k) JC;have S:=S.view0 NV ae7;refine Å S 5 [] [.M 0 2,.idx k m.l.length,.M 1 0] (hk:=⟨JC,G⟩) λS=>Þ S (Qb tJ _) λu EK S=>È S (!tJ.aiH) (λhc25 S=>?_) (λhc25 S=>?_)
  .refine Æ S (.z) (λS=>?_);exact⟨aC (ab1 (rP JC (by rw[Le]; simpa[J8]using hc25))),S.E⟩
  refine Å S 3 [] [.re 27 (.i (IntKind.i64.wrap ((k:Int)+1))) (.i (k+1:Nat))] (hk:=⟨ą Z,G⟩) λS=>ė S ig (λS=>?_);exact fC _ _ (k+1) ⟨Z,(jw JC hR (by rw[Le]; simpa[J8]using hc25)),S.oK⟩ (by show _-_<_-_; omega)
 refine Æ S (.b true) (λS=>?_);exact⟨aC (abZ (J7▸kP) (pK (by have:=ñ hc13; omega) hR)),S.E⟩
abbrev kG(n lo hi:Int)(w:Á) :
  Ä prog 249 #[.i n,.i lo,.i hi] w λe w'=>e = .R (.b ((decide (lo<=n))&&(decide (n<=hi))))∧w=w':=by
 skip;refine Ë func249 ntmps249 λS=>Æ S (.b ((decide (lo<=n))&&(decide (n<=hi)))) (λS=>?_);exact⟨I,I⟩
abbrev Qc(n:Int)(w:Á) :
  Ä prog 248 #[.i n] w λe w'=>e = .R (.b ((decide (1<=n)&&decide (n<=16384))))∧w=w':=by
 skip;refine Ë func248 ntmps248 λS=>jc S (kG n 1 16384 _) λS=>Æ S (.b (decide (1<=n)&&decide (n<=16384))) (λS=>?_);exact⟨I,I⟩
abbrev Lp{l:List Int}(h:dJ AQ w v l) :
  Ä prog 250 #[v] w (RF w (.b (lI l))):=by
 obtain⟨a,cap,rfl⟩:=(eF h).shape;have hmax:l.length<=9223372036854775807:=(eF h).len;refine Ë func250 ntmps250 λS=>ĕ S (ι:=Nat×Bool) (λp a' w'=>p.1<=l.length∧(oJ l (l.take p.1)=some p.2)∧Sx.St w a' w' 40 [(0,.s a l.length cap),(2,.z),(3,.b p.2),(4,.i p.1)] [] []) (λp=>l.length-p.1) (0,((l.length:Int)==0)) (λS=>⟨Õ _,Nu l,S.oK⟩) ?_;rintro⟨k,any⟩ ac u ig fC hI;try dsimp only at hI
 obtain⟨hk,hR,S⟩:=hI;refine Ė S λS=>È S (decide ((k:Int)<(l.length:Int))) (λkP S=>?_) (λkP S=>?_)
 .have agd:k<l.length:=by have:=å kP; omega
  obtain⟨b11,o12,rfl,x17,amu,Ri,asT⟩:=û (eF h) (λ_=>I) (k) agd;have S:=S.view0 Ri asT;refine Å S 4 [] [.idx k l.length,.M 0 0] (hk:=⟨agd,G⟩) λS=>jc S (kG x17 0 1048576 _) λS=>È S (!(decide (0<=x17)&&decide (x17<=1048576))) (λhc19 S=>?_) (λhc19 S=>?_)
  .refine Æ S (.z) (λS=>?_);exact⟨aC (UC agd hR (by rw[amu]; exact abY hc19)),S.E⟩
  refine Å S 12 [] [.idx k l.length,.M 0 0,.re 13 (.i (IntKind.i64.wrap ((k:Int)+1))) (.i (k+1:Nat))] (hk:=⟨agd,ą Z,G⟩) λS=>ė S ig (λS=>?_);exact fC _ _ ((k+1),any||(decide (0<x17))) ⟨Z,(by rw[<-amu]; exact Nv agd hR (by rw[amu]; exact XZ hc19)),S.oK⟩ (by show _-_<_-_; omega)
 refine Æ S (.b ((any&&(decide ((l.length:Int)<=16)))&&(((Int.tmod (l.length:Int) 2))==0))) (λS=>?_);exact⟨aC (X0 (by have:=ñ kP; omega) hR),S.E⟩
abbrev ZC{v:Bool}(h:(v=false∧(((!(decide (1<=p.width)&&decide (p.width<=16384)))||(!(decide (1<=p.join)&&decide (p.join<=3))))||(!(decide (3<=p.cap)&&decide (p.cap<=5))))=true)∨(v=(((decide (256<=p.eu)&&decide (p.eu<=65536))&&(lI p.dash))&&(decide (0<=p.phase)&&decide (p.phase<=1048576)))∧(((!(decide (1<=p.width)&&decide (p.width<=16384)))||(!(decide (1<=p.join)&&decide (p.join<=3))))||(!(decide (3<=p.cap)&&decide (p.cap<=5))))=false)):v=p.valid:=by
 rw[ĩ];unfold aY.valid;generalize lI p.dash=dd at h |-;rcases h with ⟨rfl,h⟩ | ⟨rfl,h⟩<;>cases dd<;>simp only[ŷ,æ,ś,Ĕ,Ő,Ý,Bool.and_eq_false_iff,ð,Û,ayJ,and_false,false_and,and_true,false_iff]at h |- <;> omega
abbrev Og(h:p.ok w) :
  Ä prog 213 #[p.v] w (RF w (.b p.valid)):=by
 skip;refine Ë func213 ntmps213 λS=>Í S λu b2 E3 hb4 S=>Å S 3 [] [.M 0 0] λS=>jc S (Qc p.width _) λS=>ě S 13 [.M 0 1,.M 0 2] [(_,_,(!(!(decide (1<=p.width)&&decide (p.width<=16384)))),.b (decide (1<=p.join)&&decide (p.join<=3))),(_,_,(!((!(decide (1<=p.width)&&decide (p.width<=16384)))||(!(decide (1<=p.join)&&decide (p.join<=3))))),.b (decide (3<=p.cap)&&decide (p.cap<=5)))] [(18,.b (((!(decide (1<=p.width)&&decide (p.width<=16384)))||(!(decide (1<=p.join)&&decide (p.join<=3))))||(!(decide (3<=p.cap)&&decide (p.cap<=5)))))] ⟨λu hC g=>Đ (kG p.join 1 3 _),λu hC g=>Đ (kG p.cap 3 5 _),G⟩ λu E7 S=>È S (((!(decide (1<=p.width)&&decide (p.width<=16384)))||(!(decide (1<=p.join)&&decide (p.join<=3))))||(!(decide (3<=p.cap)&&decide (p.cap<=5)))) (λhc8 S=>?_) (λhc8 S=>?_)
 .have p0:=hc8;refine Æ S (.z) (λS=>?_);exact⟨aC (ZC (.inl ⟨I,p0⟩)),S.E⟩
 refine Å S 2 [] [.M 0 3] λS=>jc S (kG p.eu 256 65536 _) λS=>ě S 11 [.M 0 4,.M 0 5] [(_,_,(decide (256<=p.eu)&&decide (p.eu<=65536)),.b (lI p.dash)),(_,_,((decide (256<=p.eu)&&decide (p.eu<=65536))&&(lI p.dash)),.b (decide (0<=p.phase)&&decide (p.phase<=1048576)))] [(2,.b (((decide (256<=p.eu)&&decide (p.eu<=65536))&&(lI p.dash))&&(decide (0<=p.phase)&&decide (p.phase<=1048576))))] ⟨λu hC g=>Lp (h.2.2.2.2.1.below (Ã S.E hC)),λu hC g=>Đ (kG p.phase 0 1048576 _),G⟩ (λu BH S=>?_);have p0:=hc8;refine Æ S (.b (((decide (256<=p.eu)&&decide (p.eu<=65536))&&(lI p.dash))&&(decide (0<=p.phase)&&decide (p.phase<=1048576)))) (λS=>?_);exact⟨aC (ZC (.inr ⟨I,p0⟩)),S.E⟩
def lQ(x y:Int):Bool:=(((decide (-1048576<=x))&&(decide (x<=1048576)))&&(decide (-1048576<=y)))&&(decide (y<=1048576))
abbrev lS(x y:Int)(w:Á) :
  Ä prog 282 #[.agg #[.i x,.i y]] w (RF w (.b (lQ x y))):=by
 skip;refine Ë func282 ntmps282 λS=>Í S λu b2 E3 hb4 S=>Å S 20 [] [.M 0 0,.M 0 0,.M 0 1,.M 0 1] λS=>Æ S (.b ((((decide (-1048576<=x))&&(decide (x<=1048576)))&&(decide (-1048576<=y)))&&(decide (y<=1048576)))) (λS=>?_);exact⟨I,S.E⟩
abbrev sS(n:Int)(w:Á) :
  Ä prog 312 #[.i n] w λe w'=>e = .R (.b ((decide (1<=n))&&(decide (n<=3))))∧w=w':=by
 skip;refine Ë func312 ntmps312 λS=>Æ S (.b ((decide (1<=n))&&(decide (n<=3)))) (λS=>?_);exact⟨I,I⟩
abbrev Ez(h:j<=9223372036854775807):Value.i (IntKind.i64.wrap (((j+1:Nat):Int)-1)) = .i j:=by
 have:IntKind.i64.wrap (((j+1:Nat):Int)-1)=(j:Int):=by rw[Ř]; omega
 rw[this]
abbrev ab2{x:dQ}(h:(((((j+1):Nat):Int)==0)||(last==5))=true):(x.verb==1)=x.stands last:=by
 have h0:((((j+1):Nat):Int)==0)=false:=by simp; omega
 rw[h0,ayT]at h;obtain rfl:last=5:=by simpa using h
 simp[dQ.stands]
abbrev agf{x:dQ}(h:(((((j+1):Nat):Int)==0)||(last==5))=false):((x.verb != 5)||(last != 1))=x.stands last:=by
 simp only[Ĕ,ä,ne_eq]at h;unfold dQ.stands;rw[ĩ];simp only[ŷ,æ,bne_iff_ne,ne_eq,Û];omega
abbrev Qd(v:Int)(w:Á) :
  Ä prog 279 #[.i v] w λe w'=>e = .R (.i (named v))∧w=w':=by
 skip;refine Ë func279 ntmps279 λS=>È S ((v)==1) (λhc6 S=>?_) (λhc6 S=>?_)
 .refine È S ((v)==1) (λkP S=>?_) (λkP S=>?_)
  .have p0:=hc6;try simp only[Ý,ð,Û,ä,ne_eq,bne_iff_ne,bne_eq_false_iff_eq]at p0
   refine Æ S (.i 1) (λS=>?_);exact⟨eX (by unfold named; (repeat' split)<;>omega),I⟩
  rw[hc6]at kP; cases kP
 refine È S ((v)==2) (λzB S=>?_) (λzB S=>?_)
 .have p0:=hc6;try simp only[Ý,ð,Û,ä,ne_eq,bne_iff_ne,bne_eq_false_iff_eq]at p0
  have p1:=zB;try simp only[Ý,ð,Û,ä,ne_eq,bne_iff_ne,bne_eq_false_iff_eq]at p1
  refine Æ S (.i 1) (λS=>?_);exact⟨eX (by unfold named; (repeat' split)<;>omega),I⟩
 refine È S ((v)==3) (λhc12 S=>?_) (λhc12 S=>?_)
 .have p0:=hc6;try simp only[Ý,ð,Û,ä,ne_eq,bne_iff_ne,bne_eq_false_iff_eq]at p0
  have p1:=zB;try simp only[Ý,ð,Û,ä,ne_eq,bne_iff_ne,bne_eq_false_iff_eq]at p1
  have p2:=hc12;try simp only[Ý,ð,Û,ä,ne_eq,bne_iff_ne,bne_eq_false_iff_eq]at p2
  refine Æ S (.i 2) (λS=>?_);exact⟨eX (by unfold named; (repeat' split)<;>omega),I⟩
 refine È S ((v)==4) (λkC S=>?_) (λkC S=>?_)
 .have p0:=hc6;try simp only[Ý,ð,Û,ä,ne_eq,bne_iff_ne,bne_eq_false_iff_eq]at p0
  have p1:=zB;try simp only[Ý,ð,Û,ä,ne_eq,bne_iff_ne,bne_eq_false_iff_eq]at p1
  have p2:=hc12;try simp only[Ý,ð,Û,ä,ne_eq,bne_iff_ne,bne_eq_false_iff_eq]at p2
  have p3:=kC;try simp only[Ý,ð,Û,ä,ne_eq,bne_iff_ne,bne_eq_false_iff_eq]at p3
  refine Æ S (.i 3) (λS=>?_);exact⟨eX (by unfold named; (repeat' split)<;>omega),I⟩
 refine È S ((v)==5) (λhc18 S=>?_) (λhc18 S=>?_)
 .have p0:=hc6;try simp only[Ý,ð,Û,ä,ne_eq,bne_iff_ne,bne_eq_false_iff_eq]at p0
  have p1:=zB;try simp only[Ý,ð,Û,ä,ne_eq,bne_iff_ne,bne_eq_false_iff_eq]at p1
  have p2:=hc12;try simp only[Ý,ð,Û,ä,ne_eq,bne_iff_ne,bne_eq_false_iff_eq]at p2
  have p3:=kC;try simp only[Ý,ð,Û,ä,ne_eq,bne_iff_ne,bne_eq_false_iff_eq]at p3
  have p4:=hc18;try simp only[Ý,ð,Û,ä,ne_eq,bne_iff_ne,bne_eq_false_iff_eq]at p4
  refine Æ S (.i 0) (λS=>?_);exact⟨eX (by unfold named; (repeat' split)<;>omega),I⟩
 have p0:=hc6;try simp only[Ý,ð,Û,ä,ne_eq,bne_iff_ne,bne_eq_false_iff_eq]at p0
 have p1:=zB;try simp only[Ý,ð,Û,ä,ne_eq,bne_iff_ne,bne_eq_false_iff_eq]at p1
 have p2:=hc12;try simp only[Ý,ð,Û,ä,ne_eq,bne_iff_ne,bne_eq_false_iff_eq]at p2
 have p3:=kC;try simp only[Ý,ð,Û,ä,ne_eq,bne_iff_ne,bne_eq_false_iff_eq]at p3
 have p4:=hc18;try simp only[Ý,ð,Û,ä,ne_eq,bne_iff_ne,bne_eq_false_iff_eq]at p4
 refine Æ S (.i (-1)) (λS=>?_);exact⟨eX (by unfold named; (repeat' split)<;>omega),I⟩
abbrev Qe(s:dQ)(w:Á) :
  Ä prog 281 #[.agg s.cells.toArray] w (RF w (.agg #[.i s.a.x,.i s.a.y,.i s.b.x,.i s.b.y,.i s.c.x,.i s.c.y])):=by
 skip;refine Ë func281 ntmps281 λS=>Í S λu b2 E3 hb4 S=>Í S λu b5 E6 hb7 S=>Å S 7 [] [.M 1 1,.M 1 3,.M 1 5] λS=>à S 0 I λu C9 S=>ă S 0 I (v := .agg #[.i s.a.x,.i s.a.y,.i s.b.x,.i s.b.y,.i s.c.x,.i s.c.y]) (λS=>?_);exact⟨I,S.E⟩
abbrev J9(h:oH w v l)(hi:0<l.length) :
  Ä prog 280 #[v,.i 0] w (RF w (.b (l[0].stands 5))):=by
 obtain⟨a,cap,rfl⟩:=h.1.shape;have hmax:l.length<=9223372036854775807:=h.1.len;refine Ë func280 ntmps280 λS=>Å S 12 [] [.dead 8 (.z),.dead 9 (.z),.dead 10 (.z),.dead 11 (.z),.dead 12 (.z),.dead 13 (.z),.dead 14 (.z)] λS=>â S (λS=>?_);have Xw:0<l.length:=Z;obtain⟨b5,o6,rfl,x11,hx9,BQ,hr8⟩:=û h.1 (λ_=>I) (0) Xw;have S:=S.view0 BQ hr8;refine Å S 7 [] [.idx 0 l.length,.M 0 0] (hk:=⟨Xw,G⟩) λS=>Æ S (.b ((x11.verb)==1)) (λS=>?_);exact⟨aC (by rw[hx9]; simp[dQ.stands]),S.E⟩
abbrev Ko(h:oH w v l)(hi:j+1<l.length) :
  Ä prog 280 #[v,.i (j+1:Nat)] w (RF w (.b (l[j+1].stands l[j].verb))):=by
 obtain⟨a,cap,rfl⟩:=h.1.shape;have hmax:l.length<=9223372036854775807:=h.1.len;refine Ë func280 ntmps280 (λS=>?_);have lt9:j<l.length:=Z;obtain⟨b4,o5,rfl,x10,Ű,OJ,hr7⟩:=û h.1 (λ_=>I) (j) lt9;have S:=S.view0 OJ hr7;refine Å S 12 [] [.re 10 (.i (IntKind.i64.wrap (((j+1:Nat):Int)-1))) (.i j),.idx j l.length,.M 0 0] (hk:=⟨Ez Z,lt9,G⟩) λS=>È S ((((((j+1):Nat):Int))==0)||((x10.verb)==5)) (λhc12 S=>?_) (λhc12 S=>?_)
 .have mX:(j+1)<l.length:=Z;obtain⟨x20,sU,DX,Ii⟩:=Vp.ahP h.1 (λ_=>I) ((j+1)) mX;have S:=S.view0 DX Ii;have p0:=hc12;refine Å S 7 [] [.idx (j+1) l.length,.M 0 0] (hk:=⟨mX,G⟩) λS=>Æ S (.b ((x20.verb)==1)) (λS=>?_);exact⟨aC (by rw[sU,Ű]; exact ab2 p0),S.E⟩
 have rJ:(j+1)<l.length:=Z;obtain⟨x29,hx27,P6,P7⟩:=Vp.ahP h.1 (λ_=>I) ((j+1)) rJ;have S:=S.view0 P6 P7;have p0:=hc12;refine Å S 16 [] [.idx (j+1) l.length,.M 0 0,.re 31 (.i (IntKind.i64.wrap (((j+1:Nat):Int)-1))) (.i j),.idx j l.length,.M 1 0] (hk:=⟨rJ,Ez Z,lt9,G⟩) λS=>Æ S (.b (((x29.verb) != 5)||((x10.verb) != 1))) (λS=>?_);exact⟨aC (by rw[hx27,Ű]; exact agf p0),S.E⟩
def qg(l:List dQ):Nat->Int
 | 0=>5
 | j+1=>match l[j]? with | some s=>s.verb | none=>5
abbrev Kq(h:j<l.length):qg l (j+1)=l[j].verb:=by simp[qg,h]
abbrev Ls(h:oH w v l)(hi:i<l.length) :
  Ä prog 280 #[v,.i i] w (RF w (.b (l[i].stands (qg l i)))):=by
 cases i with
 | zero=>exact J9 h hi
 | succ j=>rw[Kq Z]; exact Ko h hi
abbrev Oc(p:jP):lQ p.x p.y=p.valid:=by
 unfold lQ jP.valid cok;simp only[ayF]
abbrev DF{v j:Int}{p:jP}:(((decide (j<named v))&&(!(lQ p.x p.y)))||((decide (named v<=j))&&(!((p.x==0)&&(p.y==0))))) = !(lF v j p):=by
 rw[Oc];have hz:((p.x==0)&&(p.y==0))=true->p.valid=true:=by
  intro h;simp only[æ,Û]at h;unfold jP.valid cok;rw[h.1,h.2]; rfl
 unfold lF jP.zero;by_cases hn:named v<=j
 .rw[ľ (p:=j<named v) Z,İ hn];cases hzz:((p.x==0)&&(p.y==0))
  .simp
  simp[hz hzz]
 rw[İ (p:=j<named v) Z,ľ hn];simp
abbrev Qg(h:oH w v l)(hi:i<l.length) :
  Ä prog 247 #[v,.i i] w (RF w (.i (l[i].err (qg l i)))):=by
 obtain⟨a,cap,rfl⟩:=h.1.shape;have hmax:l.length<=9223372036854775807:=h.1.len;refine Ë func247 ntmps247 (λS=>?_);have lt8:i<l.length:=hi;obtain⟨b3,o4,rfl,x9,hx7,tX,hr6⟩:=û h.1 (λ_=>I) (i) lt8;have S:=S.view0 tX hr6;refine Å S 6 [] [.idx i l.length,.M 0 0] (hk:=⟨lt8,G⟩) λS=>jc S (Qd (x9.verb) _) λS=>È S (decide ((named x9.verb)<0)) (λhc13 S=>?_) (λhc13 S=>?_)
 .have q0:=hc13;refine Æ S (.i 2) (λS=>?_);exact⟨eX (by rw[hx7]; exact(Uu q0).symm),S.E⟩
 refine Þ S (Ls (h.below S.E) hi) λu AA S=>È S (!(l[i].stands (qg l i))) (λhc18 S=>?_) (λhc18 S=>?_)
 .have q0:=hc13;have q1:(!x9.stands (qg l i))=true:=by rw[<-hx7]; exact hc18
  refine Æ S (.i 10) (λS=>?_);exact⟨eX (by rw[hx7]; exact(Ns q0 q1).symm),S.E⟩
 refine Å S 4 [] [.idx i l.length,.M 0 0] (hk:=⟨lt8,G⟩) λS=>Þ S (Qe x9 _) λu FC S=>Í S λu b22 Qv Xu S=>à S 0 I λu Ϝ S=>Qu S 3 λS=>â S λS=>ě S 22 [.M 0 0,.M 0 0,.cmp .neq 130 (.tmp 46) (.tmp 47) (.agg #[.i x9.a.x,.i x9.a.y]) (.agg #[.i 0,.i 0]) (.b (!((x9.a.x==0)&&(x9.a.y==0))))] [(_,_,(decide (0<(named x9.verb))),.b (lQ x9.a.x x9.a.y))] [(50,.b (((decide (0<(named x9.verb)))&&(!(lQ x9.a.x x9.a.y)))||((decide ((named x9.verb)<=0))&&(!((x9.a.x==0)&&(x9.a.y==0))))))] ⟨λu hC g=>lS x9.a.x x9.a.y _,G⟩ (hk:=⟨ħ (λ_=>abG ..) X,G⟩) λu E32 S=>È S (((decide (0<(named x9.verb)))&&(!(lQ x9.a.x x9.a.y)))||((decide ((named x9.verb)<=0))&&(!((x9.a.x==0)&&(x9.a.y==0))))) (λuH S=>?_) (λuH S=>?_)
 .have q0:=hc13;have q1:(!x9.stands (qg l i))=false:=by rw[<-hx7]; exact hc18
  have g0:lF x9.verb 0 x9.a=false:=by have hh:=uH; rw[DF]at hh; simpa using hh
  have q2:(!x9.fits)=true:=by simp[dQ.fits,g0]
  refine Æ S (.i 6) (λS=>?_);exact⟨eX (by rw[hx7]; exact(Dz q0 q1 q2).symm),S.E⟩
 refine â S λS=>ě S 22 [.M 0 2,.M 0 2,.cmp .neq 130 (.tmp 46) (.tmp 47) (.agg #[.i x9.b.x,.i x9.b.y]) (.agg #[.i 0,.i 0]) (.b (!((x9.b.x==0)&&(x9.b.y==0))))] [(_,_,(decide (1<(named x9.verb))),.b (lQ x9.b.x x9.b.y))] [(50,.b (((decide (1<(named x9.verb)))&&(!(lQ x9.b.x x9.b.y)))||((decide ((named x9.verb)<=1))&&(!((x9.b.x==0)&&(x9.b.y==0))))))] ⟨λu hC g=>lS x9.b.x x9.b.y _,G⟩ (hk:=⟨ħ (λ_=>abG ..) X,G⟩) λu U1 S=>È S (((decide (1<(named x9.verb)))&&(!(lQ x9.b.x x9.b.y)))||((decide ((named x9.verb)<=1))&&(!((x9.b.x==0)&&(x9.b.y==0))))) (λzD S=>?_) (λzD S=>?_)
 .have q0:=hc13;have q1:(!x9.stands (qg l i))=false:=by rw[<-hx7]; exact hc18
  have g0:lF x9.verb 0 x9.a=true:=by have hh:=uH; rw[DF]at hh; simpa using hh
  have g1:lF x9.verb 1 x9.b=false:=by have hh:=zD; rw[DF]at hh; simpa using hh
  have q2:(!x9.fits)=true:=by simp[dQ.fits,g0,g1]
  refine Æ S (.i 6) (λS=>?_);exact⟨eX (by rw[hx7]; exact(Dz q0 q1 q2).symm),S.E⟩
 refine â S λS=>ě S 22 [.M 0 4,.M 0 4,.cmp .neq 130 (.tmp 46) (.tmp 47) (.agg #[.i x9.c.x,.i x9.c.y]) (.agg #[.i 0,.i 0]) (.b (!((x9.c.x==0)&&(x9.c.y==0))))] [(_,_,(decide (2<(named x9.verb))),.b (lQ x9.c.x x9.c.y))] [(50,.b (((decide (2<(named x9.verb)))&&(!(lQ x9.c.x x9.c.y)))||((decide ((named x9.verb)<=2))&&(!((x9.c.x==0)&&(x9.c.y==0))))))] ⟨λu hC g=>lS x9.c.x x9.c.y _,G⟩ (hk:=⟨ħ (λ_=>abG ..) X,G⟩) λu Ρ S=>È S (((decide (2<(named x9.verb)))&&(!(lQ x9.c.x x9.c.y)))||((decide ((named x9.verb)<=2))&&(!((x9.c.x==0)&&(x9.c.y==0))))) (λhc47 S=>?_) (λhc47 S=>?_)
 .have q0:=hc13;have q1:(!x9.stands (qg l i))=false:=by rw[<-hx7]; exact hc18
  have g0:lF x9.verb 0 x9.a=true:=by have hh:=uH; rw[DF]at hh; simpa using hh
  have g1:lF x9.verb 1 x9.b=true:=by have hh:=zD; rw[DF]at hh; simpa using hh
  have g2:lF x9.verb 2 x9.c=false:=by have hh:=hc47; rw[DF]at hh; simpa using hh
  have q2:(!x9.fits)=true:=by simp[dQ.fits,g0,g1,g2]
  refine Æ S (.i 6) (λS=>?_);exact⟨eX (by rw[hx7]; exact(Dz q0 q1 q2).symm),S.E⟩
 refine ú S (λS=>?_);have q0:=hc13;have q1:(!x9.stands (qg l i))=false:=by rw[<-hx7]; exact hc18
 have g0:lF x9.verb 0 x9.a=true:=by have hh:=uH; rw[DF]at hh; simpa using hh
 have g1:lF x9.verb 1 x9.b=true:=by have hh:=zD; rw[DF]at hh; simpa using hh
 have g2:lF x9.verb 2 x9.c=true:=by have hh:=hc47; rw[DF]at hh; simpa using hh
 have q2:(!x9.fits)=false:=by simp[dQ.fits,g0,g1,g2]
 refine Æ S (.i 0) (λS=>?_);exact⟨eX (by rw[hx7]; exact(Uw q0 q1 q2).symm),S.E⟩
abbrev Qh(h:oH w v l) :
  Ä prog 207 #[v] w (RF w (.tuple #[.i (dW l).1,.i (dW l).2])):=by
 obtain⟨a,cap,rfl⟩:=h.1.shape;have hmax:l.length<=9223372036854775807:=h.1.len;refine Ë func207 ntmps207 λS=>È S (decide (256<(l.length:Int))) (λhc4 S=>?_) (λhc4 S=>?_)
 .have p0:256<(l.length:Int):=å hc4;refine Gt S (.i 5) (.i 256) (λS=>?_);have e:dW l=(5,256):=by unfold dW; rw[Ï p0]
  exact⟨by rw[e],S.E⟩
 refine ĕ S (ι:=Nat) (λp a' w'=>p<=l.length∧(mP 5 0 l=mP (qg l p) (p:Int) (l.drop p))∧Sx.St w a' w' 22 [(0,.s a l.length cap),(2,.i 0),(3,.i 0),(4,.i p)] [] []) (λp=>l.length-p) (0) (λS=>⟨Õ _,I,S.oK⟩) ?_;rintro k ac u ig fC hI;try dsimp only at hI
 obtain⟨hk,hR,S⟩:=hI;refine Ė S λS=>È S (decide ((k:Int)<(l.length:Int))) (λdZ S=>?_) (λdZ S=>?_)
 .have hlt:k<l.length:=by have:=å dZ; omega
  refine Þ S (Qg (h.below S.E) hlt) λu zu S=>È S (((l[k].err (qg l k))) != 0) (λkC S=>?_) (λkC S=>?_)
  .have p0:¬256<(l.length:Int):=ñ hc4;have herr:¬(l[k].err (qg l k)=0):=by simpa using kC
   refine Gt S (.i (l[k].err (qg l k))) (.i k) (λS=>?_);have e:dW l=(l[k].err (qg l k),(k:Int)):=by
    unfold dW;rw[É Z,hR,Ķ hlt,mP,É herr]
   exact⟨by rw[e],S.E⟩
  refine Å S 3 [] [.re 14 (.i (IntKind.i64.wrap ((k:Int)+1))) (.i (k+1:Nat))] (hk:=⟨ą Z,G⟩) λS=>ė S ig (λS=>?_);have herr:l[k].err (qg l k)=0:=by simpa using kC
  rw[Ķ hlt,mP,Ï herr,<-Kq hlt]at hR;exact fC _ _ (k+1) ⟨Z,hR,S.oK⟩ (by show _-_<_-_; omega)
 have p0:¬256<(l.length:Int):=ñ hc4;have p1:¬(k:Int)<(l.length:Int):=ñ dZ;refine Gt S (.i 0) (.i 0) (λS=>?_);have e:dW l=(0,0):=by
  unfold dW;rw[É Z,hR,Ń Z];rfl
 exact⟨by rw[e],S.E⟩
abbrev Cb(h:oH w v l) :
  Ä prog 158 #[v] w (RF w (.b (iZ l))):=by
 skip;refine Ë func158 ntmps158 λS=>Þ S (Qh (h.below S.E)) λu E3 S=>Æ S (.b (((dW l).1)==0)) (λS=>?_);exact⟨I,S.E⟩
def lY(l:List fH):Nat->Int
 | 0=>0
 | j+1=>match l[j]? with | some s=>s.o | none=>0
abbrev Bv{l:List fH}(h:j<l.length):lY l (j+1)=l[j].o:=by simp[lY,h]
abbrev UN{l:List fH}(hk:k<l.length)(hR:dF 0 l=dF (lY l k) (l.drop k)∧0<=lY l k)(hb:¬(l[k].o<lY l k∨65536<l[k].o)):dF 0 l=dF (lY l (k+1)) (l.drop (k+1))∧0<=lY l (k+1):=by
 obtain⟨h1,h2⟩:=hR;rw[Bv hk];refine⟨?_,Z⟩;rw[h1,Ķ hk,dF,İ (p:=lY l k<=l[k].o) Z,İ (p:=l[k].o<=65536) Z]; rfl
abbrev ZE{l:List fH}(hk:k<l.length)(hR:dF 0 l=dF (lY l k) (l.drop k)∧0<=lY l k)(hb:l[k].o<lY l k∨65536<l[k].o):false=dR l:=by
 unfold dR;rw[hR.1,Ķ hk,dF];rcases hb with hb | hb
 .rw[ľ (p:=lY l k<=l[k].o) Z]; simp
 rw[ľ (p:=l[k].o<=65536) Z]; simp
abbrev aiI{l:List fH}(hk:l.length<=k)(hR:dF 0 l=dF (lY l k) (l.drop k)∧0<=lY l k):((decide (1<=(l.length:Int)))&&(decide ((l.length:Int)<=16)))=dR l:=by
 unfold dR;rw[hR.1,Ń hk,dF,ĩ];simp only[æ,Ý,and_true];omega
abbrev BX{l:List fH}(h:aI 5 fH.cells w v l) :
  Ä prog 311 #[v] w (RF w (.b (dR l))):=by
 obtain⟨a,cap,rfl⟩:=h.shape;have hmax:l.length<=9223372036854775807:=h.len;refine Ŗ func311 ntmps311 λac S=>Î λ_ ig=>Ç S 1 [] [(2,.z)] λS=>Ê<|ig _ _<|ß λ_ Qw=>Î λ_ κ3=>Ç S 1 [] [(3,.i 0)] λS=>Ê<|κ3 _ _<|Ĩ ?_;refine Vp.loop (ι:=Nat) (λp a' w'=>p<=l.length∧(dF 0 l=dF (lY l p) (l.drop p)∧0<=lY l p)∧Sx.St w a' w' 50 [(0,.s a l.length cap),(2,.z),(3,.i p)] [] []) (λp=>l.length-p) (0) ⟨Õ _,⟨I,Int.le_refl 0⟩,S.sn⟩ ?_;rintro k ac u hI;try dsimp only at hI
 obtain⟨hk,hR,S⟩:=hI;refine ß λ_ Χ=>Î λ_ zy=>Ç S 4 [] [(7,.b ((k:Int)<(l.length:Int)))] λS=>Ê (zy _ _ ?_);refine Č S (λhc6=>?_) (λhc6=>?_)
 .refine ÿ<|Χ _ _<|ß λ_ Qx=>Ĩ<|ß (λ_ Gq=>?_);have hlt:=å hc6;rcases k with _ | j
  .have qx:0<l.length:=Z;obtain⟨b10,o11,rfl,x16,wH,FY,Ja⟩:=û h (λ_=>I) (0) qx;have S:=S.view0 FY Ja;refine Ţ S 32 [.idx 0 l.length,.M 0 0,.idx 0 l.length,.M 0 0,.dead 28 (.z),.dead 29 (.z),.dead 30 (.z),.dead 31 (.z),.dead 32 (.z),.dead 33 (.z),.dead 34 (.z),.dead 35 (.z),.dead 36 (.z),.dead 37 (.z),.dead 38 (.z),.dead 39 (.z)] [] [(41,.b (((decide (x16.o<0))||(decide (65536<x16.o)))||false))] trivial (hk:=⟨qx,qx,G⟩) λac u E9 S=>Ê (Gq _ _ ?_);refine Č S (λhc18=>?_) (λhc18=>?_)
   .refine Î λ_ acX=>Ç S 1 [] [(2,.z)] λS=>Ê<|acX _ _<|Ġ ?_;have hh:=hc18;rw[<-wH]at hh;have hb:(l[0].o<lY l 0∨65536<l[0].o):=by
     have hl:=hR.2;rw[show lY l 0=0 from rfl]at *;simp at hh hl |-;omega
    refine rF S results311 ?_;exact⟨aC (ZE Z hR hb),S.E⟩
   refine ÿ<|Qx _ _<|ń<|Ç S 3 [] [(3,.i 1)] λS=>Ê ?_;show ∃i',_∧_;have hh:=hc18;rw[<-wH]at hh;have hb:¬(l[0].o<lY l 0∨65536<l[0].o):=by
    have hl:=hR.2;rw[show lY l 0=0 from rfl]at *;simp at hh hl |-;omega
   exact⟨(0+1),⟨Z,(UN Z hR hb),S.sn⟩,by show _-_<_-_; omega⟩
  have aiJ:(j+1)<l.length:=Z;obtain⟨b21,o22,rfl,x27,hx25,asU,asV⟩:=û h (λ_=>I) ((j+1)) aiJ;have S:=S.view0 asU asV;have aoF:j<l.length:=Z;obtain⟨x35,aoG,ajV,acG⟩:=Vp.ahP h (λ_=>I) (j) aoF;have S:=S.view0 ajV acG;refine Ţ S 32 [.idx (j+1) l.length,.M 1 0,.idx (j+1) l.length,.M 1 0,.idx (j+1) l.length,.M 1 0,.re 35 (.i (IntKind.i64.wrap (((j+1:Nat):Int)-1))) (.i j),.idx j l.length,.M 0 0] [] [(41,.b (((decide (x27.o<0))||(decide (65536<x27.o)))||((decide (0<(((j+1):Nat):Int)))&&(decide (x27.o<x35.o)))))] trivial (hk:=⟨aiJ,aiJ,aiJ,Ez Z,aoF,G⟩) λac u DK S=>Ê (Gq _ _ ?_);refine Č S (λqV=>?_) (λqV=>?_)
  .refine Î λ_ Vs=>Ç S 1 [] [(2,.z)] λS=>Ê<|Vs _ _<|Ġ ?_;have hh:=qV;rw[<-hx25,<-aoG]at hh;have hb:(l[(j+1)].o<lY l (j+1)∨65536<l[(j+1)].o):=by
    have hl:=hR.2;rw[Bv (show j<l.length by omega)]at *;simp at hh hl |-;omega
   refine rF S results311 ?_;exact⟨aC (ZE Z hR hb),S.E⟩
  refine ÿ<|Qx _ _<|ń<|Ç S 3 [.re 9 (.i (IntKind.i64.wrap ((((j+1):Nat):Int)+1))) (.i ((j+1)+1:Nat))] [(3,.i ((j+1)+1:Nat))] (hk:=⟨ą Z,G⟩) λS=>Ê ?_;show ∃i',_∧_;have hh:=qV;rw[<-hx25,<-aoG]at hh;have hb:¬(l[(j+1)].o<lY l (j+1)∨65536<l[(j+1)].o):=by
   have hl:=hR.2;rw[Bv (show j<l.length by omega)]at *;simp at hh hl |-;omega
  exact⟨((j+1)+1),⟨Z,(UN Z hR hb),S.sn⟩,by show _-_<_-_; omega⟩
 refine Ņ<|Qw _ _<|Î λ_ acZ=>Ç S 9 [] [(2,.b ((decide (1<=(l.length:Int)))&&(decide ((l.length:Int)<=16))))] λS=>Ê<|acZ _ _<|Rk S results311 ?_;exact⟨aC (aiI (by have:=ñ hc6; omega) hR),S.E⟩
