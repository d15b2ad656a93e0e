/- What paints say: plain laws. -/
import Derived.Test.YtodpgjjgaddkeaaGreatDoorPk8
import Derived.Great.BuildSlice
import Derived.Stop.Asserts
import Derived.LaidEql
import Derived.IntWalk
set_option maxHeartbeats 9999999
open Go renaming World->E5,Value->y9,Calls->Nq,wpList->Ã,execOp->Í,Operand->î
set_option maxRecDepth 100000
set_option linter.unusedVariables false
set_option linter.unusedSimpArgs false
open Go.Proofs.Tryz Go.RowKit Go.Sx
namespace Go.Proofs.Õ
open _root_.Go.Proofs.Tryz
section
open Na
variable{α:Type}
def bH.none:bH:=⟨false,Option.none,0,[],false,Option.none,0,[]⟩
abbrev K08:bH.none.q=q0:=by decide
def bD.none:bD:=⟨.none,.none,.none,.none,.none,.none⟩
abbrev bH.gW(w:E5):bH.none.ok w:=⟨⟨Option.none,0,I,Î _,.inl ⟨I,λ_=>rfl⟩⟩,⟨Option.none,0,I,Î _,.inl ⟨I,λ_=>rfl⟩⟩⟩
abbrev bH.iO(K:Nat):bH.none.fit K:=⟨Î _,Î _⟩
abbrev bD.gW(w:E5):bD.none.ok w:=⟨bH.gW w,bH.gW w,bH.gW w,bH.gW w,bH.gW w,bH.gW w⟩
abbrev bD.iO(K:Nat):bD.none.fit K:=⟨bH.iO K,bH.iO K,bH.iO K,bH.iO K,bH.iO K,bH.iO K⟩
def dH.bare:dH:=⟨0,0,Option.none,0,[]⟩
abbrev fC:I64 0:=⟨by decide,by decide⟩
abbrev dH.gX(w:E5):dH.bare.ok w:=⟨fC,fC,dK _ _ _⟩
def kG.none:kG:=⟨0,0⟩
abbrev kG.gW:kG.none.ok:=⟨fC,fC⟩
def bI.none:bI:=⟨0,0,0,0⟩
def ak.bare(k:Int):ak:=⟨k,.none,.none,.none,0,Option.none,0,[],0,.bare,0,.none⟩
abbrev ak.gX{k:Int}(hk:I64 k)(w:E5):(ak.bare k).ok w:=⟨hk,kG.gW,kG.gW,fC,dK _ _ _,λs D=>by simp[ak.bare]at D,fC,dH.gX w,fC,bD.gW w⟩
def ak.aeZ(p:ak):ak:={ p with t := .none,color := .none }
def ak.only2(p:ak):ak:={ p with t := .none,p0 := .none,p1 := .none,sva:=Option.none,svc:=0,stops:=[],spread:=0 }
def ak.ae0(p:ak):ak:={ p with t := .none,p0 := .none,bW:=0,sva:=Option.none,svc:=0,stops:=[],spread:=0 }
def ak.ae1(p:ak):ak:={ p with t := .none,img := .bare,spread:=0,cZ:=0 }
def ak.ae2(p:ak):ak:={ p with t := .none }
def ak.without(p:ak):ak:=cond (p.kind==1) p.aeZ (cond (p.kind==2) p.only2 (cond (p.kind==3) p.ae0 (cond (p.kind==4) p.ae1 p.ae2)))
abbrev ak.ZR{w:E5}{p:ak}(h:p.ok w):p.without.ok w:=by
 obtain⟨D,h2,J,S,h5,h6,h7,h8,h9,aa⟩:=h;have a:=bD.gW w;have r:=dK 5 dI.cells w;have n:∀s∈([]:List dI),s.ok:=λs hs=>by simp at hs
 unfold ak.without;cases (p.kind==1)<;>cases (p.kind==2)<;>cases (p.kind==3)<;>cases (p.kind==4);all_goals first
  | exact⟨D,h2,J,S,h5,h6,h7,h8,h9,a⟩
  | exact⟨D,kG.gW,kG.gW,S,r,n,fC,h8,h9,a⟩
  | exact⟨D,kG.gW,J,fC,r,n,fC,h8,h9,a⟩
  | exact⟨D,h2,J,S,h5,h6,fC,dH.gX w,fC,a⟩
abbrev ak.WL(p:ak)(K:Nat):p.without.t.fit K:=by
 unfold ak.without;cases (p.kind==1)<;>cases (p.kind==2)<;>cases (p.kind==3)<;>cases (p.kind==4);all_goals exact bD.iO K
abbrev wG(w:E5):fB 1 w (.agg #[.z,.sn,.z,.sn]) q0:=by
 rw[<-K08]; exact bH.toQ (r:=bH.none) (bH.gW w) (bH.iO 1)
abbrev Ii(Q:Q6):NY Q.Gt:=ZH _ _
abbrev Ij{K:Nat}{Q:Q6}(D:1<=K)(h:VU K Q):qlen (K+K+(K+K)+1) Q.Gt:=ahX (by omega) (Eh D h.1 h.C) (Eh D h.2.1 h.D)
abbrev K05{K:Nat}{w:E5}{v:y9}{Q:Q6}(h:nC K w v Q)(D:1<=K):VU K Q:=h.len D
def ak.eq(p q:ak):Bool:=((((((((((p.kind)==q.kind)&&(((p.color.r.toNat:Int)==(q.color.r.toNat:Int))&&(((p.color.g.toNat:Int)==(q.color.g.toNat:Int))&&(((p.color.b.toNat:Int)==(q.color.b.toNat:Int))&&((p.color.a.toNat:Int)==(q.color.a.toNat:Int))))))&&((p.p0.x==q.p0.x)&&(p.p0.y==q.p0.y)))&&((p.p1.x==q.p1.x)&&(p.p1.y==q.p1.y)))&&((p.bW)==q.bW))&&((p.spread)==q.spread))&&((p.cZ)==q.cZ))&&(decide (p.stops=q.stops)))&&(p.img.eq q.img))&&(p.t.q.eq q.t.q)
def ak.valid(p:ak):Bool:=cond ((!(p.t.q.valid))||(!(p.without.eq (ak.bare p.kind)))) (false) (cond ((p.kind)==1) ((p.t.q.eq bD.none.q)) (cond ((p.kind)==2) (cond (((!(kG.valid ⟨p.p0.x,p.p0.y⟩))||(!(kG.valid ⟨p.p1.x,p.p1.y⟩)))||(!(iK p.stops&&iP p.spread))) (false) (((nD p.t.q.Gt q0)) != 0)) (cond ((p.kind)==3) (cond ((((!(kG.valid ⟨p.p0.x,p.p0.y⟩))||(decide (p.bW<1)))||(decide (1048576<p.bW)))||(!(iK p.stops&&iP p.spread))) (false) (((nD p.t.q.Gt q0)) != 0)) (cond ((p.kind)==4) (cond (((!(p.img.valid))||(((p.spread) != 0)&&(!(iP p.spread))))||(((p.cZ) != 1)&&((p.cZ) != 2))) (false) (((nD p.t.q.Gt q0)) != 0)) (false)))))
open Na
variable{α:Type}
variable{w:E5}{p:ak}
abbrev xH{q:ak}{K:Nat}(h:p.ok w)(h':q.ok w)(hf:p.t.fit K)(J:q.t.fit K)(aa:1<=K)(hK:K<=10000) :
  Nq prog 139 #[p.v,q.v] w (Ï w (.b (p.eq q))):=by
 skip;refine Ä func139 ntmps139 λS=>Â S λu b2 E3 D S=>Â S λu b5 E6 D S=>O1 S 1 [] [] λS=>ī S 69 [.M 1 0,.M 0 0,.M 1 1,.M 0 1,.cmp .eql 40 (.tmp 12) (.tmp 14) (.agg #[.u (p.color.r.toNat:Int),.u (p.color.g.toNat:Int),.u (p.color.b.toNat:Int),.u (p.color.a.toNat:Int)]) (.agg #[.u (q.color.r.toNat:Int),.u (q.color.g.toNat:Int),.u (q.color.b.toNat:Int),.u (q.color.a.toNat:Int)]) (.b (((p.color.r.toNat:Int)==(q.color.r.toNat:Int))&&(((p.color.g.toNat:Int)==(q.color.g.toNat:Int))&&(((p.color.b.toNat:Int)==(q.color.b.toNat:Int))&&((p.color.a.toNat:Int)==(q.color.a.toNat:Int)))))),.M 1 5,.M 0 5,.cmp .eql 130 (.tmp 19) (.tmp 21) (.agg #[.i p.p0.x,.i p.p0.y]) (.agg #[.i q.p0.x,.i q.p0.y]) (.b ((p.p0.x==q.p0.x)&&(p.p0.y==q.p0.y))),.M 1 7,.M 0 7,.cmp .eql 130 (.tmp 26) (.tmp 28) (.agg #[.i p.p1.x,.i p.p1.y]) (.agg #[.i q.p1.x,.i q.p1.y]) (.b ((p.p1.x==q.p1.x)&&(p.p1.y==q.p1.y))),.M 1 9,.M 0 9,.M 1 11,.M 0 11,.M 1 15,.M 0 15,.M 1 10,.M 0 10,.M 1 12,.M 0 12,.M 1 16,.M 0 16] [(_,_,((((((((p.kind)==q.kind)&&(((p.color.r.toNat:Int)==(q.color.r.toNat:Int))&&(((p.color.g.toNat:Int)==(q.color.g.toNat:Int))&&(((p.color.b.toNat:Int)==(q.color.b.toNat:Int))&&((p.color.a.toNat:Int)==(q.color.a.toNat:Int))))))&&((p.p0.x==q.p0.x)&&(p.p0.y==q.p0.y)))&&((p.p1.x==q.p1.x)&&(p.p1.y==q.p1.y)))&&((p.bW)==q.bW))&&((p.spread)==q.spread))&&((p.cZ)==q.cZ)),.b (p.stops=q.stops)),(_,_,(((((((((p.kind)==q.kind)&&(((p.color.r.toNat:Int)==(q.color.r.toNat:Int))&&(((p.color.g.toNat:Int)==(q.color.g.toNat:Int))&&(((p.color.b.toNat:Int)==(q.color.b.toNat:Int))&&((p.color.a.toNat:Int)==(q.color.a.toNat:Int))))))&&((p.p0.x==q.p0.x)&&(p.p0.y==q.p0.y)))&&((p.p1.x==q.p1.x)&&(p.p1.y==q.p1.y)))&&((p.bW)==q.bW))&&((p.spread)==q.spread))&&((p.cZ)==q.cZ))&&(decide (p.stops=q.stops))),.b (p.img.eq q.img)),(_,_,((((((((((p.kind)==q.kind)&&(((p.color.r.toNat:Int)==(q.color.r.toNat:Int))&&(((p.color.g.toNat:Int)==(q.color.g.toNat:Int))&&(((p.color.b.toNat:Int)==(q.color.b.toNat:Int))&&((p.color.a.toNat:Int)==(q.color.a.toNat:Int))))))&&((p.p0.x==q.p0.x)&&(p.p0.y==q.p0.y)))&&((p.p1.x==q.p1.x)&&(p.p1.y==q.p1.y)))&&((p.bW)==q.bW))&&((p.spread)==q.spread))&&((p.cZ)==q.cZ))&&(decide (p.stops=q.stops)))&&(p.img.eq q.img)),.b (p.t.q.eq q.t.q))] [(4,.b (((((((((((p.kind)==q.kind)&&(((p.color.r.toNat:Int)==(q.color.r.toNat:Int))&&(((p.color.g.toNat:Int)==(q.color.g.toNat:Int))&&(((p.color.b.toNat:Int)==(q.color.b.toNat:Int))&&((p.color.a.toNat:Int)==(q.color.a.toNat:Int))))))&&((p.p0.x==q.p0.x)&&(p.p0.y==q.p0.y)))&&((p.p1.x==q.p1.x)&&(p.p1.y==q.p1.y)))&&((p.bW)==q.bW))&&((p.spread)==q.spread))&&((p.cZ)==q.cZ))&&(decide (p.stops=q.stops)))&&(p.img.eq q.img))&&(p.t.q.eq q.t.q)))] ⟨λu D g=>ZM (h.A.below (Ip S.E D)) (h'.A.below (Ip S.E D)),λu D g=>vG (m:=p.img) (n:=q.img) (h.G.below (Ip S.E D)) (h'.G.below (Ip S.E D)),λu D g=>Bh p.t.v q.t.v p.t.q q.t.q K _ ((bD.toQ h.I hf).iT (Ip S.E D)) ((bD.toQ h'.I J).iT (Ip S.E D)) aa hK,G⟩ (hk:=⟨ı (λ_=>aeY ..) X,ı (λ_=>eqPt ..) X,ı (λ_=>eqPt ..) X,G⟩) λu D S=>Xe S (.b (((((((((((p.kind)==q.kind)&&(((p.color.r.toNat:Int)==(q.color.r.toNat:Int))&&(((p.color.g.toNat:Int)==(q.color.g.toNat:Int))&&(((p.color.b.toNat:Int)==(q.color.b.toNat:Int))&&((p.color.a.toNat:Int)==(q.color.a.toNat:Int))))))&&((p.p0.x==q.p0.x)&&(p.p0.y==q.p0.y)))&&((p.p1.x==q.p1.x)&&(p.p1.y==q.p1.y)))&&((p.bW)==q.bW))&&((p.spread)==q.spread))&&((p.cZ)==q.cZ))&&(decide (p.stops=q.stops)))&&(p.img.eq q.img))&&(p.t.q.eq q.t.q))) λS=>?_;exact⟨I,S.E⟩
abbrev yO(h:p.ok w) :
  Nq prog 304 #[p.v] w (Ï w (.b (iK p.stops&&iP p.spread))):=by
 skip;refine Ä func304 ntmps304 λS=>Â S λu b2 J D S=>O1 S 3 [] [.M 0 10] λS=>ð S (NI (h.A.below S.E)) λu D S=>ī S 6 [.M 0 11] [(_,_,(iK p.stops),.b (iP p.spread))] [(2,.b ((iK p.stops)&&(iP p.spread)))] ⟨λu D g=>Ġ (LG p.spread _),G⟩ λu D S=>Xe S (.b ((iK p.stops)&&(iP p.spread))) λS=>?_;exact⟨I,S.E⟩
open Na
variable{α:Type}
abbrev WM{w:E5}{p:ak}(h:p.ok w) :
  Nq prog 303 #[p.v] w (Ï w p.without.v):=by
 obtain⟨J,h2,h3,h4,h5,h6,h7,h8,h9,D⟩:=h;obtain⟨t0,t1,t2,J,t4,t5⟩:=D;have D:=Vp.agM h5;have D:=Vp.agM h8.F;have D:=Vp.mX t0.1;have D:=Vp.mX t0.2;have D:=Vp.mX t1.1;have D:=Vp.mX t1.2;have D:=Vp.mX t2.1;have D:=Vp.mX t2.2;have D:=Vp.mX J.1;have D:=Vp.mX J.2;have D:=Vp.mX t4.1;have D:=Vp.mX t4.2;have D:=Vp.mX t5.1;have D:=Vp.mX t5.2;refine Ä func303 ntmps303 λS=>Â S λu b2 J D S=>Â S λu b5 J D S=>O1 S 1 [] [.M 1 0] λS=>Â S λu b9 J D S=>É S 0 I λu D S=>É S 0 I λu D S=>O1 S 4 [] [.M 2 0] λS=>À S ((p.kind)==1) (λD S=>?_) λD S=>?_
 .refine É S 0 I λu J S=>O1 S 1 [] [.M 0 0] λS=>É S 1 I λu J S=>?_;have S:=S.fl;have e:p.without=p.aeZ:=by unfold ak.without; rw[D]; rfl
  refine ü S 1 I (v := .agg (Sx.L [.i p.kind,.u 0,.u 0,.u 0,.u 0,.i p.p0.x,.i p.p0.y,.i p.p1.x,.i p.p1.y,.i p.bW,p.sv,.i p.spread]++p.img.cells++Sx.L [.i p.cZ]++Sx.za).toArray) λS=>?_;exact⟨by rw[e]; rfl,S.E⟩
 refine À S ((p.kind)==2) (λLs S=>?_) λLs S=>?_
 .refine É S 0 I λu J S=>É S 0 I λu J S=>ë S 0 I λu J S=>ë S 0 I λu J S=>?_;have S:=S.fl;refine O1 S 1 [] [.M 0 0] λS=>É S 1 I λu J S=>?_;have e:p.without=p.only2:=by unfold ak.without; rw[D,Ls]; rfl
  refine ü S 1 I (v := .agg (Sx.L [.i p.kind]++p.color.cells++Sx.L [.i 0,.i 0,.i 0,.i 0,.i p.bW,.sn,.i 0]++p.img.cells++Sx.L [.i p.cZ]++Sx.za).toArray) λS=>?_;exact⟨by rw[e]; rfl,S.E⟩
 refine À S ((p.kind)==3) (λJ S=>?_) λJ S=>?_
 .refine É S 0 I λu ab S=>ë S 0 I λu P6 S=>ë S 0 I λu ac S=>?_;have S:=S.fl;refine ë S 0 I λu ae S=>O1 S 1 [] [.M 0 0] λS=>É S 1 I λu af S=>?_;have e:p.without=p.ae0:=by unfold ak.without; rw[D,Ls,J]; rfl
  refine ü S 1 I (v := .agg (Sx.L [.i p.kind]++p.color.cells++Sx.L [.i 0,.i 0,.i p.p1.x,.i p.p1.y,.i 0,.sn,.i 0]++p.img.cells++Sx.L [.i p.cZ]++Sx.za).toArray) λS=>?_;exact⟨by rw[e]; rfl,S.E⟩
 refine À S ((p.kind)==4) (λaa S=>?_) λaa S=>?_
 .refine É S 0 I λu ag S=>ë S 0 I λu ah S=>?_;have S:=S.fl;refine ë S 0 I λu ai S=>O1 S 1 [] [.M 0 0] λS=>É S 1 I λu al S=>?_;have e:p.without=p.ae1:=by unfold ak.without; rw[D,Ls,J,aa]; rfl
  refine ü S 1 I (v := .agg (Sx.L [.i p.kind]++p.color.cells++Sx.L [.i p.p0.x,.i p.p0.y,.i p.p1.x,.i p.p1.y,.i p.bW,p.sv,.i 0,.i 0,.i 0,.sn,.i 0]++Sx.za).toArray) λS=>?_;exact⟨by rw[e]; rfl,S.E⟩
 refine O1 S 1 [] [.M 0 0] λS=>É S 1 I λu WY S=>?_;have e:p.without=p.ae2:=by unfold ak.without; rw[D,Ls,J,aa]; rfl
 refine ü S 1 I (v := .agg (Sx.L [.i p.kind]++p.color.cells++Sx.L [.i p.p0.x,.i p.p0.y,.i p.p1.x,.i p.p1.y,.i p.bW,p.sv,.i p.spread]++p.img.cells++Sx.L [.i p.cZ]++Sx.za).toArray) λS=>?_;exact⟨by rw[e]; rfl,S.E⟩
open Na
variable{α:Type}
variable{w:E5}{p:ak}
abbrev LJ{K:Nat}(h:p.ok w)(hf:p.t.fit K)(aa:1<=K)(hK:K<=10000) :
  Nq prog 275 #[p.v] w (Ï w (.b p.valid)):=by
 skip;refine Ä func275 ntmps275 λS=>Â S λu b2 J D S=>ć S 13 [.M 0 16,.M 0 0,.M 0 0] [(_,_,true,.b (p.t.q.valid)),(_,_,(!(!(p.t.q.valid))),p.without.v),(_,_,(!(!(p.t.q.valid))),.b (p.without.eq (ak.bare p.kind)))] [(15,.b ((!(p.t.q.valid))||(!(p.without.eq (ak.bare p.kind)))))] ⟨λu hC g=>LH p.t.v p.t.q K _ ((bD.toQ h.I hf).iT (Ip S.E hC)) aa Z,λu hC g=>WM (h.below (Ip S.E hC)),λu hC g=>xH (p:=p.without) (q:=ak.bare p.kind) (K:=K) ((ak.ZR h).below (Ip S.E hC)) (ak.gX h.1 _) (ak.WL p K) (bD.iO K) aa hK,G⟩ λu D S=>À S ((!(p.t.q.valid))||(!(p.without.eq (ak.bare p.kind)))) (λab S=>?_) λab S=>?_
 .refine Xe S (.z) λS=>?_;exact⟨aJ (by unfold ak.valid; rw[ab]; rfl),S.E⟩
 refine O1 S 4 [] [.M 0 0] λS=>À S ((p.kind)==1) (λD S=>?_) λD S=>?_
 .refine O1 S 3 [] [.M 0 16] λS=>ð S (Bh p.t.v bD.none.v p.t.q bD.none.q K _ ((bD.toQ h.I hf).iT S.E) ((bD.toQ (bD.gW _) (bD.iO K)).iT (ø _ _)) aa hK) λu J S=>Xe S (.b (p.t.q.eq bD.none.q)) λS=>?_;exact⟨aJ (by unfold ak.valid; rw[ab,D]; rfl),S.E⟩
 refine À S ((p.kind)==2) (λJ S=>?_) λJ S=>?_
 .refine O1 S 2 [] [.M 0 5] λS=>ð S (mg (p.p0.x) (p.p0.y) _) λu Md S=>ī S 12 [.M 0 7,.M 0 0] [(_,_,(!(!(kG.valid ⟨p.p0.x,p.p0.y⟩))),.b (kG.valid ⟨p.p1.x,p.p1.y⟩)),(_,_,(!((!(kG.valid ⟨p.p0.x,p.p0.y⟩))||(!(kG.valid ⟨p.p1.x,p.p1.y⟩)))),.b (iK p.stops&&iP p.spread))] [(40,.b (((!(kG.valid ⟨p.p0.x,p.p0.y⟩))||(!(kG.valid ⟨p.p1.x,p.p1.y⟩)))||(!(iK p.stops&&iP p.spread))))] ⟨λu hC g=>mg (p.p1.x) (p.p1.y) _,λu hC g=>yO (h.below (Ip S.E hC)),G⟩ λu zV S=>À S (((!(kG.valid ⟨p.p0.x,p.p0.y⟩))||(!(kG.valid ⟨p.p1.x,p.p1.y⟩)))||(!(iK p.stops&&iP p.spread))) (λae S=>?_) (λae S=>?_)
  .refine Xe S (.z) λS=>?_;exact⟨aJ (by unfold ak.valid; rw[ab,D,J,ae]; rfl),S.E⟩
  refine O1 S 2 [] [.M 0 16] λS=>č S (abn p.t.v p.t.q K _ ((bD.toQ h.I hf).iT S.E) aa hK) λx u hd ED S=>ð S (mV _ _ p.t.q.Gt q0 (K+K+(K+K)+1) 1 _ (aC.toQ hd (Ii _) (Ij aa (K05 ((bD.toQ h.I hf).iT (ø _ _)) aa))) (wG _) Z Z Z Z) λu GI S=>Xe S (.b (((nD p.t.q.Gt q0)) != 0)) λS=>?_;exact⟨aJ (by unfold ak.valid; rw[ab,D,J,ae]; rfl),S.E⟩
 refine À S ((p.kind)==3) (λac S=>?_) λac S=>?_
 .refine O1 S 2 [] [.M 0 5] λS=>ð S (mg (p.p0.x) (p.p0.y) _) λu zW S=>ī S 16 [.M 0 9,.M 0 9,.M 0 0] [(_,_,(!(((!(kG.valid ⟨p.p0.x,p.p0.y⟩))||(decide (p.bW<1)))||(decide (1048576<p.bW)))),.b (iK p.stops&&iP p.spread))] [(61,.b ((((!(kG.valid ⟨p.p0.x,p.p0.y⟩))||(decide (p.bW<1)))||(decide (1048576<p.bW)))||(!(iK p.stops&&iP p.spread))))] ⟨λu hC g=>yO (h.below (Ip S.E hC)),G⟩ λu ag S=>À S ((((!(kG.valid ⟨p.p0.x,p.p0.y⟩))||(decide (p.bW<1)))||(decide (1048576<p.bW)))||(!(iK p.stops&&iP p.spread))) (λaf S=>?_) (λaf S=>?_)
  .refine Xe S (.z) λS=>?_;exact⟨aJ (by unfold ak.valid; rw[ab,D,J,ac,af]; rfl),S.E⟩
  refine O1 S 2 [] [.M 0 16] λS=>č S (abn p.t.v p.t.q K _ ((bD.toQ h.I hf).iT S.E) aa hK) λx u hd Tt S=>ð S (mV _ _ p.t.q.Gt q0 (K+K+(K+K)+1) 1 _ (aC.toQ hd (Ii _) (Ij aa (K05 ((bD.toQ h.I hf).iT (ø _ _)) aa))) (wG _) Z Z Z Z) λu MC S=>Xe S (.b (((nD p.t.q.Gt q0)) != 0)) λS=>?_;exact⟨aJ (by unfold ak.valid; rw[ab,D,J,ac,af]; rfl),S.E⟩
 refine À S ((p.kind)==4) (λG6 S=>?_) λG6 S=>?_
 .refine O1 S 2 [] [.M 0 12] λS=>ð S (Ej (m:=p.img) (h.G.below S.E)) λu Mc S=>ī S 22 [.M 0 11,.M 0 11,.M 0 15,.M 0 15] [(_,_,((!(!(p.img.valid)))&&((p.spread) != 0)),.b (iP p.spread))] [(88,.b (((!(p.img.valid))||(((p.spread) != 0)&&(!(iP p.spread))))||(((p.cZ) != 1)&&((p.cZ) != 2))))] ⟨λu hC g=>Ġ (LG p.spread _),G⟩ λu ah S=>À S (((!(p.img.valid))||(((p.spread) != 0)&&(!(iP p.spread))))||(((p.cZ) != 1)&&((p.cZ) != 2))) (λMF S=>?_) (λMF S=>?_)
  .refine Xe S (.z) λS=>?_;exact⟨aJ (by unfold ak.valid; rw[ab,D,J,ac,G6,MF]; rfl),S.E⟩
  refine O1 S 2 [] [.M 0 16] λS=>č S (abn p.t.v p.t.q K _ ((bD.toQ h.I hf).iT S.E) aa hK) λx u hd ai S=>ð S (mV _ _ p.t.q.Gt q0 (K+K+(K+K)+1) 1 _ (aC.toQ hd (Ii _) (Ij aa (K05 ((bD.toQ h.I hf).iT (ø _ _)) aa))) (wG _) Z Z Z Z) λu al S=>Xe S (.b (((nD p.t.q.Gt q0)) != 0)) λS=>?_;exact⟨aJ (by unfold ak.valid; rw[ab,D,J,ac,G6,MF]; rfl),S.E⟩
 refine Xe S (.z) λS=>?_;exact⟨aJ (by unfold ak.valid; rw[ab,D,J,ac,G6]; rfl),S.E⟩
abbrev aie{K:Nat}(h:p.ok w)(hf:p.t.fit K)(D:1<=K)(hK:K<=10000) :
  Nq prog 274 #[p.v] w (Ï w (.b (!p.valid))):=by
 skip;refine Ä func274 ntmps274 λS=>Â S λu b2 E3 J S=>O1 S 2 [] [.M 0 0] λS=>ð S (LJ (h.below S.E) hf D hK) λu J S=>Xe S (.b (!p.valid)) λS=>?_;exact⟨I,S.E⟩
open Na
variable{α:Type}{K:Nat}
def ql(K:Nat)(w:E5)(v:y9)(l:List ak):Prop:=iY w v l∧(∀p∈l,p.t.fit K)∧1<=K∧K<=10000
abbrev ql.below{w w':E5}{v:y9}{l:List ak}(h:ql K w v l)(D:Ext w w'):ql K w' v l:=⟨h.1.below D,h.2⟩
variable{w w0:E5}{o:Oper}{v:y9}{l:List ak}{Q:Exit->Act->E5->Prop}{ops:Array Oper}{a:Act}{os os':List Oper}{N t0 t1:Nat}{vs:List eX}
abbrev abo:∃D,prog.info? 210=some D∧D.size=1∧D.zero=some .nilIface:=by
 have D:(prog.info? 210).map (λi=>(i.size,i.zero))=some (1,some .nilIface):=by kernel_rfl
 cases h:prog.info? 210 with
 | none=>rw[h]at D; cases D
 | some i=>rw[h]at D; simp at D; exact⟨i,I,D.1,D.2⟩
abbrev fP(b:Bool)(n:Int):(dN b n).cells = #[dN b n]:=by unfold dN; split<;>rfl
abbrev PN{P:Program}{ρ:î->y9}{w1:E5}{t:TypeId}{n:Nat}{parts:Array (Nat×î)}{vs:Array (Nat×y9)}{V:y9}(D:o.op = .buildSlice t n parts)(J:(parts.map λ(i,x)=>(i,ρ x))=vs)(h:(Instr.buildSlice t n vs).run P w = .ok V w1) :
  (Í ρ o).run P w = .ok (.value V) w1:=by
 unfold Í;simp only[D,J,ġ,h];rfl
abbrev ad5(v0 v1 v2 D J S:y9)(w:E5)(h0:v0.cells = #[v0])(h1:v1.cells = #[v1])(h2:v2.cells = #[v2])(h3:D.cells = #[D])(h4:J.cells = #[J])(h5:S.cells = #[S]) :
  (Instr.buildSlice 292 6 #[(0,v0),(1,v1),(2,v2),(3,D),(4,J),(5,S)]).run prog w = .ok (.s (some ⟨w.heap.size,0,none⟩) 6 6) (w.alloc (.cells #[v0,v1,v2,D,J,S] 210)):=by
 obtain⟨J,S,D,hz⟩:=abo;refine run_buildSlice w _ 210 6 _ _ J .nilIface underlying292 S hz (by rw[D]; decide) (by rw[D]; decide) ?_;rw[D];have D:((Array.range (6*1)).map (Value.nilIface.cells[· % Value.nilIface.cells.size]!)) = #[.nilIface,.nilIface,.nilIface,.nilIface,.nilIface,.nilIface]:=by kernel_rfl
 rw[D];simp[Instr.fill,h0,h1,h2,h3,h4,h5]
abbrev WO{l:List (Nat×y9)}{bl:List (Nat×List y9)}(S:Sx.St w0 a w N l bl vs)(d:Nat)(v0 v1 v2 D J v5:y9){t2 t3 t4 t5:Nat} 
  (aa:os=o::os') (hg:o.guard=none) (hd:o.dst=some d) (ab:o.op = .buildSlice 292 6 #[(0,.tmp t0),(1,.tmp t1),(2,.tmp t2),(3,.tmp t3),(4,.tmp t4),(5,.tmp t5)]) (c0:v0.cells = #[v0]) (c1:v1.cells = #[v1]) (c2:v2.cells = #[v2]) (c3:D.cells = #[D]) (c4:J.cells = #[J]) (c5:v5.cells = #[v5])
  (next:∀a' w' b,Ext w w'->b=w.heap.size->Sx.St w0 a' w' N ((d,.s (some ⟨b,0,none⟩) 6 6)::l) ((b,[v0,v1,v2,D,J,v5])::bl) vs->Ã prog ops Q (os.drop 1) a' w')
  (l0:l.lookup t0=some v0:=by kernel_rfl) (l1:l.lookup t1=some v1:=by kernel_rfl) (l2:l.lookup t2=some v2:=by kernel_rfl) (l3:l.lookup t3=some D:=by kernel_rfl) (l4:l.lookup t4=some J:=by kernel_rfl) (l5:l.lookup t5=some v5:=by kernel_rfl) (ac:uG N (some d)=true:=by rfl):Ã prog ops Q os a w:=
 aif S d [v0,v1,v2,D,J,v5] 210 (λb => .s (some ⟨b,0,none⟩) 6 6) aa hg hd (PN ab (by simp[S.s.has _ _ l0,S.s.has _ _ l1,S.s.has _ _ l2,S.s.has _ _ l3,S.s.has _ _ l4,S.s.has _ _ l5]) (ad5 v0 v1 v2 D J v5 w c0 c1 c2 c3 c4 c5)) next ac
abbrev ad6(v0 v1:y9)(w:E5)(h0:v0.cells = #[v0])(h1:v1.cells = #[v1]) :
  (Instr.buildSlice 292 2 #[(0,v0),(1,v1)]).run prog w = .ok (.s (some ⟨w.heap.size,0,none⟩) 2 2) (w.alloc (.cells #[v0,v1] 210)):=by
 obtain⟨J,S,D,hz⟩:=abo;refine run_buildSlice w _ 210 2 _ _ J .nilIface underlying292 S hz (by rw[D]; decide) (by rw[D]; decide) ?_;rw[D];have D:((Array.range (2*1)).map (Value.nilIface.cells[· % Value.nilIface.cells.size]!)) = #[.nilIface,.nilIface]:=by kernel_rfl
 rw[D];simp[Instr.fill,h0,h1]
abbrev aii{l:List (Nat×y9)}{bl:List (Nat×List y9)}(S:Sx.St w0 a w N l bl vs)(d:Nat)(v0 v1:y9) 
  (D:os=o::os') (hg:o.guard=none) (hd:o.dst=some d) (J:o.op = .buildSlice 292 2 #[(0,.tmp t0),(1,.tmp t1)]) (c0:v0.cells = #[v0]) (c1:v1.cells = #[v1])
  (next:∀a' w' b,Ext w w'->b=w.heap.size->Sx.St w0 a' w' N ((d,.s (some ⟨b,0,none⟩) 2 2)::l) ((b,[v0,v1])::bl) vs->Ã prog ops Q (os.drop 1) a' w')
  (l0:l.lookup t0=some v0:=by kernel_rfl) (l1:l.lookup t1=some v1:=by kernel_rfl) (aa:uG N (some d)=true:=by rfl):Ã prog ops Q os a w:=
 aif S d [v0,v1] 210 (λb => .s (some ⟨b,0,none⟩) 2 2) D hg hd (PN J (by simp[S.s.has _ _ l0,S.s.has _ _ l1]) (ad6 v0 v1 w c0 c1)) next aa
abbrev LK(h:ql K w v l) :
  Nq prog 302 #[v,.func (.func 274) #[] #[]] w λe w'=>∃z,e = .R (.i z)∧decide (0<=z) = !(l.all ak.valid)∧Ext w w':=by
 obtain⟨a,cap,rfl⟩:=h.1.1.shape;have D:l.length<=9223372036854775807:=h.1.1.len;refine Ä func302 ntmps302 λS=>ĉ S (ι:=Nat) (λp D w'=>p<=l.length∧((l.take p).all ak.valid=true)∧Sx.St w D w' 19 [(0,.s a l.length cap),(1,.func (.func 274) #[] #[]),(4,.i 0),(7,.i l.length),(8,.i p)] [] []) (λp=>l.length-p) (0) (λS=>⟨Î _,I,S.qC⟩) ?_;rintro k J u fQ eu D;try dsimp only at D
 obtain⟨hk,hR,S⟩:=D;refine Ċ S λS=>À S (decide ((k:Int)<(l.length:Int))) (λJ S=>?_) λJ S=>?_
 .have uN:k<l.length:=by have:=Ý J; omega
  obtain⟨b10,D,rfl,aa,BO,wZ,QF⟩:=ý h.1.1 (λ_=>I) (k) uN;have S:=S.view0 wZ QF;refine O1 S 7 [] [.idx k l.length,.M 0 0] (hk:=⟨uN,G⟩) λS=>ð S (aie ((h.1.2 _ (BO▸ò uN)).below S.E) (h.2.1 _ (BO▸ò uN)) h.D h.N) λu D S=>À S (!aa.valid) (λD S=>?_) λD S=>?_
  .refine Xe S (.i k) λS=>?_;exact⟨_,I,by rw[zu uN (by rw[BO]; simpa using D)]; simp,S.E⟩
  refine O1 S 2 [] [kS 18 k] (hk:=⟨ù Z,G⟩) λS=>ċ S fQ λS=>?_;exact eu _ _ (k+1) ⟨Z,(mQ uN hR (by rw[BO]; simpa using D)),S.qC⟩ (by show _-_<_-_; omega)
 refine Xe S (.i (-1)) λS=>?_;exact⟨_,I,by rw[yI (by have:=é J; omega) hR]; rfl,S.E⟩
abbrev NJ(h:ql K w v l) :
  Nq prog 273 #[v,.func (.func 274) #[] #[]] w (Ï w (.b (!(l.all ak.valid)))):=by
 skip;refine Ä func273 ntmps273 λS=>ê S (LK (h.below S.E)) ?_;rintro e u ⟨z,rfl,D,J⟩;refine⟨_,I,J,λS=>?_⟩;refine Xe S (.b (0<=z)) λS=>?_;exact⟨aJ D,S.E⟩
abbrev abp(h:ql K w v l) :
  Nq prog 233 #[v] w (Ï w (.b (l.all ak.valid))):=by
 skip;refine Ä func233 ntmps233 λS=>ð S (NJ (h.below S.E)) λu D S=>Xe S (.b (!(!(l.all ak.valid)))) λS=>?_;exact⟨aJ Y,S.E⟩
end
section
open Na
variable{α:Type}{K:Nat}
def eH(K:Nat)(w:E5)(n:aj):Prop:=n.ok w∧n.t.fit K∧(∀p∈n.fill,p.t.fit K)∧(∀p∈n.stroke,p.t.fit K)∧1<=K∧K<=10000
abbrev eH.below{w w':E5}{n:aj}(h:eH K w n)(D:Ext w w'):eH K w' n:=⟨h.1.below D,h.2⟩
def aX.bare:aX:=⟨0,0,0,0,none,0,[],0⟩
abbrev aX.gX(w:E5):aX.bare.ok w:=⟨fC,fC,fC,fC,⟨none,0,I,Î _,.inl ⟨I,λ_=>rfl⟩⟩,λx D=>by simp[aX.bare]at D,fC⟩
abbrev apm:NY q0:=K08▸fB.nrm (bH.toQ (w:=default) (bH.gW _) (bH.iO 1))
abbrev apn:qlen 1 q0:=K08▸fB.len (bH.toQ (w:=default) (bH.gW _) (bH.iO 1)) (Ç 1)
abbrev aij{w:E5}{t:bD}(h:t.ok w)(J:t.fit K)(D:1<=K)(hK:K<=10000) :
  Nq prog 190 #[t.v] w (Ï w (.b (qB t.q.Gt q0))):=by
 skip;refine Ä func190 ntmps190 λS=>Â S λu b2 E3 aa S=>O1 S 2 [] [.M 0 0] λS=>č S (abn t.v t.q K _ ((bD.toQ h J).iT S.E) D hK) λx u hd E6 S=>č S (yG 0 _ Z Z) λy u hy E7 S=>ð S (mV _ _ t.q.Gt q0 (K+K+(K+K)+1) 1 _ (aC.toQ (hd.ext E7) (Ii _) (Ij D (K05 ((bD.toQ h J).iT (ø _ _)) D))) (aC.toQ (q:=q0) hy apm apn) Z Z Z Z) λu D S=>Xe S (.b (((nD t.q.Gt q0))==0)) λS=>?_;exact⟨I,S.E⟩
def aj.bare(nd:aj):Bool:=cond ((nd.kind)==1) ((((((((nd.path.length:Int))==0)&&((nd.aV)==0))&&(((nd.fill.length:Int))==0))&&(((nd.stroke.length:Int))==0))&&(nd.style.eq aX.bare))&&((nd.img.eq dH.bare)&&((nd.cZ)==0))) (cond ((nd.kind)==2) (((((((nd.dJ.toNat:Int))==0)&&((nd.blend)==0))&&(!nd.isolated))&&(!nd.dA))&&((nd.img.eq dH.bare)&&((nd.cZ)==0))) (((((((nd.dJ.toNat:Int))==0)&&((nd.blend)==0))&&(!nd.isolated))&&(!nd.dA))&&(((((((nd.path.length:Int))==0)&&((nd.aV)==0))&&(((nd.fill.length:Int))==0))&&(((nd.stroke.length:Int))==0))&&(nd.style.eq aX.bare))))
abbrev aik{w:E5}{nd:aj}(h:eH K w nd) :
  Nq prog 192 #[nd.v] w (Ï w (.b nd.bare)):=by
 obtain⟨a1,c1,D⟩:=h.1.2.2.2.2.1.1.shape;obtain⟨a2,c2,D⟩:=h.1.2.2.2.2.2.2.2.1.1.shape;obtain⟨J,c3,D⟩:=h.1.2.2.2.2.2.2.2.2.2.1.1.shape;obtain⟨J,c4,D⟩:=h.1.2.2.2.2.2.2.2.2.2.2.2.1.1.shape;refine Ä func192 ntmps192 λS=>Â S λu b2 J D S=>O1 S 20 [] [.M 0 29,.M 0 30,.M 0 31,.M 0 32] λS=>ī S 28 [.M 0 33,.M 0 34,.M 0 35,.M 0 42,.M 0 36] [(_,_,((((((nd.path.length:Int))==0)&&((nd.aV)==0))&&(((nd.fill.length:Int))==0))&&(((nd.stroke.length:Int))==0)),.b (nd.style.eq aX.bare))] [(4,.b (((((((nd.path.length:Int))==0)&&((nd.aV)==0))&&(((nd.fill.length:Int))==0))&&(((nd.stroke.length:Int))==0))&&(nd.style.eq aX.bare)))] ⟨λu D g=>xI (p:=nd.style) (q:=aX.bare) (h.1.Q.below (Ip S.E D)) (aX.gX _),G⟩ λu J S=>O1 S 3 [] [.M 0 43] λS=>ð S (vG (m:=nd.img) (n:=dH.bare) (h.1.P.below S.E) (dH.gX _)) λu D S=>O1 S 10 [] [.M 0 46,.M 0 1] λS=>À S ((nd.kind)==1) (λD S=>?_) λD S=>?_
 .refine Xe S (.b ((((((((nd.path.length:Int))==0)&&((nd.aV)==0))&&(((nd.fill.length:Int))==0))&&(((nd.stroke.length:Int))==0))&&(nd.style.eq aX.bare))&&((nd.img.eq dH.bare)&&((nd.cZ)==0)))) λS=>?_;exact⟨aJ (by unfold aj.bare; rw[D]; rfl),S.E⟩
 refine À S ((nd.kind)==2) (λJ S=>?_) λJ S=>?_
 .refine Xe S (.b (((((((nd.dJ.toNat:Int))==0)&&((nd.blend)==0))&&(!nd.isolated))&&(!nd.dA))&&((nd.img.eq dH.bare)&&((nd.cZ)==0)))) λS=>?_;exact⟨aJ (by unfold aj.bare; rw[D,J]; rfl),S.E⟩
 refine Xe S (.b (((((((nd.dJ.toNat:Int))==0)&&((nd.blend)==0))&&(!nd.isolated))&&(!nd.dA))&&(((((((nd.path.length:Int))==0)&&((nd.aV)==0))&&(((nd.fill.length:Int))==0))&&(((nd.stroke.length:Int))==0))&&(nd.style.eq aX.bare)))) λS=>?_;exact⟨aJ (by unfold aj.bare; rw[D,J]; rfl),S.E⟩
open Na
variable{α:Type}{K:Nat}
def aj.iE(nd:aj):List (Bool×Int):=[((decide (nd.kind<1))||(decide (3<nd.kind)),2),((((decide (nd.id<1))||(decide (1073741824<nd.id)))||(decide (nd.depth<0)))||(decide (8<=nd.depth)),6),(!(nd.t.q.valid),5),((qB nd.t.q.Gt q0),9),(!(kK nd.clip),10),((!(((((nd.clip.length:Int))==0)&&((nd.aP)==0))||((decide (0<(nd.clip.length:Int)))&&((nd.aP==1)||(nd.aP==2)))))||(!(nd.bare)),17)]
def aj.zH(nd:aj):y9:=kX nd.iE
abbrev ZT{w:E5}{nd:aj}(h:eH K w nd) :
  Nq prog 142 #[nd.v] w (Ï w nd.zH):=by
 obtain⟨a1,c1,D⟩:=h.1.2.2.2.2.1.1.shape;obtain⟨a2,c2,D⟩:=h.1.2.2.2.2.2.2.2.1.1.shape;obtain⟨J,c3,D⟩:=h.1.2.2.2.2.2.2.2.2.2.1.1.shape;obtain⟨J,c4,D⟩:=h.1.2.2.2.2.2.2.2.2.2.2.2.1.1.shape;refine Ņ func142 ntmps142 λJ S=>YJ λ_ D=>Ė S 1 nd.cells λJ u b2 E3 aa S=>Rf S 1 [] [(2,.nilIface)] λS=>Rh<|D _ _<|YJ λ_ Bz=>aeN S 21 [.M 0 27,.M 0 28,.M 0 27,.M 0 28] [(_,_,((!((((nd.clip.length:Int))==0)&&((nd.aP)==0)))&&(decide (0<(nd.clip.length:Int)))),.b ((nd.aP==1)||(nd.aP==2)))] [(3,.b (((((nd.clip.length:Int))==0)&&((nd.aP)==0))||((decide (0<(nd.clip.length:Int)))&&((nd.aP==1)||(nd.aP==2)))))] ⟨λu D g=>Ġ (WJ nd.aP _),G⟩ λJ u E6 S=>Rh<|Bz _ _<|Ô λ_ UA=>š S 50 [.M 0 1,.M 0 1,.M 0 0,.M 0 0,.M 0 2,.M 0 2,.M 0 3,.M 0 3,.M 0 27,.M 0 0] [(_,_,true,dN ((decide (nd.kind<1))||(decide (3<nd.kind))) 2),(_,_,true,dN ((((decide (nd.id<1))||(decide (1073741824<nd.id)))||(decide (nd.depth<0)))||(decide (8<=nd.depth))) 6),(_,_,true,.b (nd.t.q.valid)),(_,_,true,dN (!(nd.t.q.valid)) 5),(_,_,true,.b (qB nd.t.q.Gt q0)),(_,_,true,dN (qB nd.t.q.Gt q0) 9),(_,_,true,.b (kK nd.clip)),(_,_,true,dN (!(kK nd.clip)) 10),(_,_,(!(!(((((nd.clip.length:Int))==0)&&((nd.aP)==0))||((decide (0<(nd.clip.length:Int)))&&((nd.aP==1)||(nd.aP==2)))))),.b (nd.bare)),(_,_,true,dN ((!(((((nd.clip.length:Int))==0)&&((nd.aP)==0))||((decide (0<(nd.clip.length:Int)))&&((nd.aP==1)||(nd.aP==2)))))||(!(nd.bare))) 17)] [(32,dN ((decide (nd.kind<1))||(decide (3<nd.kind))) 2),(51,dN ((((decide (nd.id<1))||(decide (1073741824<nd.id)))||(decide (nd.depth<0)))||(decide (8<=nd.depth))) 6),(56,dN (!(nd.t.q.valid)) 5),(60,dN (qB nd.t.q.Gt q0) 9),(65,dN (!(kK nd.clip)) 10),(73,dN ((!(((((nd.clip.length:Int))==0)&&((nd.aP)==0))||((decide (0<(nd.clip.length:Int)))&&((nd.aP==1)||(nd.aP==2)))))||(!(nd.bare))) 17)] ⟨λu D g=>Ġ (ji ((decide (nd.kind<1))||(decide (3<nd.kind))) 2 _),λu D g=>Ġ (ji ((((decide (nd.id<1))||(decide (1073741824<nd.id)))||(decide (nd.depth<0)))||(decide (8<=nd.depth))) 6 _),λu D g=>LH nd.t.v nd.t.q K _ ((bD.toQ h.1.C h.2.1).iT (Ip S.E D)) h.A (by have:=h.J; omega),λu D g=>Ġ (ji (!(nd.t.q.valid)) 5 _),λu D g=>aij (t:=nd.t) (h.1.C.below (Ip S.E D)) h.2.1 h.A h.J,λu D g=>Ġ (ji (qB nd.t.q.Gt q0) 9 _),λu D g=>AL (h.1.A.below (Ip S.E D)),λu D g=>Ġ (ji (!(kK nd.clip)) 10 _),λu D g=>aik (h.below (Ip S.E D)),λu D g=>Ġ (ji ((!(((((nd.clip.length:Int))==0)&&((nd.aP)==0))||((decide (0<(nd.clip.length:Int)))&&((nd.aP==1)||(nd.aP==2)))))||(!(nd.bare))) 17 _),G⟩ λJ u D S=>?_;refine WO S 74 (dN ((decide (nd.kind<1))||(decide (3<nd.kind))) 2) (dN ((((decide (nd.id<1))||(decide (1073741824<nd.id)))||(decide (nd.depth<0)))||(decide (8<=nd.depth))) 6) (dN (!(nd.t.q.valid)) 5) (dN (qB nd.t.q.Gt q0) 9) (dN (!(kK nd.clip)) 10) (dN ((!(((((nd.clip.length:Int))==0)&&((nd.aP)==0))||((decide (0<(nd.clip.length:Int)))&&((nd.aP==1)||(nd.aP==2)))))||(!(nd.bare))) 17) I I I I (fP _ _) (fP _ _) (fP _ _) (fP _ _) (fP _ _) (fP _ _) λJ u b9 SE D S=>?_;refine CY S 75 (first_any (lZ (f:=λp:Bool×Int=>dN p.1 p.2) [((decide (nd.kind<1))||(decide (3<nd.kind)),2),((((decide (nd.id<1))||(decide (1073741824<nd.id)))||(decide (nd.depth<0)))||(decide (8<=nd.depth)),6),(!(nd.t.q.valid),5),((qB nd.t.q.Gt q0),9),(!(kK nd.clip),10),((!(((((nd.clip.length:Int))==0)&&((nd.aP)==0))||((decide (0<(nd.clip.length:Int)))&&((nd.aP==1)||(nd.aP==2)))))||(!(nd.bare)),17)] (S.bx 0) (by show 6<=9223372036854775807; decide))) λJ u D S=>Rf S 1 [] [(2,(kX [((decide (nd.kind<1))||(decide (3<nd.kind)),2),((((decide (nd.id<1))||(decide (1073741824<nd.id)))||(decide (nd.depth<0)))||(decide (8<=nd.depth)),6),(!(nd.t.q.valid),5),((qB nd.t.q.Gt q0),9),(!(kK nd.clip),10),((!(((((nd.clip.length:Int))==0)&&((nd.aP)==0))||((decide (0<(nd.clip.length:Int)))&&((nd.aP==1)||(nd.aP==2)))))||(!(nd.bare)),17)]))] λS=>Rh<|UA _ _<|Qm S results142 ?_;exact⟨Ñ Ending.returned (by unfold aj.zH aj.iE; rfl),S.E⟩
open Na
variable{α:Type}{K:Nat}
def aj.tJ(nd:aj):List (Bool×Int):=[(!(kK nd.path),10),(!((nd.aV==1)||(nd.aV==2)),2),((decide (1<(nd.fill.length:Int)))||(decide (1<(nd.stroke.length:Int))),5),((decide (0<(nd.stroke.length:Int)))&&(!(nd.style.valid)),13),((!(decide (0<(nd.stroke.length:Int))))&&(!(nd.style.eq aX.bare)),17),((!(nd.fill.all ak.valid))||(!(nd.stroke.all ak.valid)),16)]
def aj.LM(nd:aj):y9:=kX nd.tJ
abbrev ad7{w:E5}{nd:aj}(h:eH K w nd) :
  Nq prog 194 #[nd.v] w (Ï w nd.LM):=by
 obtain⟨a1,c1,D⟩:=h.1.2.2.2.2.1.1.shape;obtain⟨a2,c2,D⟩:=h.1.2.2.2.2.2.2.2.1.1.shape;obtain⟨J,c3,D⟩:=h.1.2.2.2.2.2.2.2.2.2.1.1.shape;obtain⟨J,c4,D⟩:=h.1.2.2.2.2.2.2.2.2.2.2.2.1.1.shape;refine Ņ func194 ntmps194 λJ S=>YJ λ_ D=>Ė S 1 nd.cells λJ u b2 E3 aa S=>Rf S 1 [] [(2,.nilIface)] λS=>Rh<|D _ _<|YJ λ_ Bz=>Rf S 5 [.M 0 42] [(3,.b (0<(nd.stroke.length:Int)))] λS=>Rh<|Bz _ _<|Ô λ_ XK=>š S 50 [.M 0 33,.M 0 34,.M 0 35,.M 0 42,.M 0 36,.M 0 36,.M 0 35,.M 0 42] [(_,_,true,.b (kK nd.path)),(_,_,true,dN (!(kK nd.path)) 10),(_,_,true,.b ((nd.aV==1)||(nd.aV==2))),(_,_,true,dN (!((nd.aV==1)||(nd.aV==2))) 2),(_,_,true,dN ((decide (1<(nd.fill.length:Int)))||(decide (1<(nd.stroke.length:Int)))) 5),(_,_,(decide (0<(nd.stroke.length:Int))),.b (nd.style.valid)),(_,_,true,dN ((decide (0<(nd.stroke.length:Int)))&&(!(nd.style.valid))) 13),(_,_,(!(decide (0<(nd.stroke.length:Int)))),.b (nd.style.eq aX.bare)),(_,_,true,dN ((!(decide (0<(nd.stroke.length:Int))))&&(!(nd.style.eq aX.bare))) 17),(_,_,true,.b (nd.fill.all ak.valid)),(_,_,(!(!(nd.fill.all ak.valid))),.b (nd.stroke.all ak.valid)),(_,_,true,dN ((!(nd.fill.all ak.valid))||(!(nd.stroke.all ak.valid))) 16)] [(12,dN (!(kK nd.path)) 10),(17,dN (!((nd.aV==1)||(nd.aV==2))) 2),(28,dN ((decide (1<(nd.fill.length:Int)))||(decide (1<(nd.stroke.length:Int)))) 5),(36,dN ((decide (0<(nd.stroke.length:Int)))&&(!(nd.style.valid))) 13),(46,dN ((!(decide (0<(nd.stroke.length:Int))))&&(!(nd.style.eq aX.bare))) 17),(57,dN ((!(nd.fill.all ak.valid))||(!(nd.stroke.all ak.valid))) 16)] ⟨λu D g=>AL (h.1.G.below (Ip S.E D)),λu D g=>Ġ (ji (!(kK nd.path)) 10 _),λu D g=>Ġ (WJ nd.aV _),λu D g=>Ġ (ji (!((nd.aV==1)||(nd.aV==2))) 2 _),λu D g=>Ġ (ji ((decide (1<(nd.fill.length:Int)))||(decide (1<(nd.stroke.length:Int)))) 5 _),λu D g=>ad1 (p:=nd.style) (h.1.Q.below (Ip S.E D)),λu D g=>Ġ (ji ((decide (0<(nd.stroke.length:Int)))&&(!(nd.style.valid))) 13 _),λu D g=>xI (p:=nd.style) (q:=aX.bare) (h.1.Q.below (Ip S.E D)) (aX.gX _),λu D g=>Ġ (ji ((!(decide (0<(nd.stroke.length:Int))))&&(!(nd.style.eq aX.bare))) 17 _),λu D g=>abp (K:=K) (ql.below ⟨h.1.K,h.D,h.A,h.J⟩ (Ip S.E D)),λu D g=>abp (K:=K) (ql.below ⟨h.1.H,h.C,h.A,h.J⟩ (Ip S.E D)),λu D g=>Ġ (ji ((!(nd.fill.all ak.valid))||(!(nd.stroke.all ak.valid))) 16 _),G⟩ λJ u D S=>?_;refine WO S 58 (dN (!(kK nd.path)) 10) (dN (!((nd.aV==1)||(nd.aV==2))) 2) (dN ((decide (1<(nd.fill.length:Int)))||(decide (1<(nd.stroke.length:Int)))) 5) (dN ((decide (0<(nd.stroke.length:Int)))&&(!(nd.style.valid))) 13) (dN ((!(decide (0<(nd.stroke.length:Int))))&&(!(nd.style.eq aX.bare))) 17) (dN ((!(nd.fill.all ak.valid))||(!(nd.stroke.all ak.valid))) 16) I I I I (fP _ _) (fP _ _) (fP _ _) (fP _ _) (fP _ _) (fP _ _) λJ u b8 D Bf S=>?_;refine CY S 59 (first_any (lZ (f:=λp:Bool×Int=>dN p.1 p.2) [(!(kK nd.path),10),(!((nd.aV==1)||(nd.aV==2)),2),((decide (1<(nd.fill.length:Int)))||(decide (1<(nd.stroke.length:Int))),5),((decide (0<(nd.stroke.length:Int)))&&(!(nd.style.valid)),13),((!(decide (0<(nd.stroke.length:Int))))&&(!(nd.style.eq aX.bare)),17),((!(nd.fill.all ak.valid))||(!(nd.stroke.all ak.valid)),16)] (S.bx 0) (by show 6<=9223372036854775807; decide))) λJ u D S=>Rf S 1 [] [(2,(kX [(!(kK nd.path),10),(!((nd.aV==1)||(nd.aV==2)),2),((decide (1<(nd.fill.length:Int)))||(decide (1<(nd.stroke.length:Int))),5),((decide (0<(nd.stroke.length:Int)))&&(!(nd.style.valid)),13),((!(decide (0<(nd.stroke.length:Int))))&&(!(nd.style.eq aX.bare)),17),((!(nd.fill.all ak.valid))||(!(nd.stroke.all ak.valid)),16)]))] λS=>Rh<|XK _ _<|Qm S results194 ?_;exact⟨Ñ Ending.returned (by unfold aj.LM aj.tJ; rfl),S.E⟩
open Na
variable{α:Type}{K:Nat}
def aj.WQ(nd:aj):y9:=cond ((nd.kind)==1) (dN (!(decide (1<=nd.blend)&&decide (nd.blend<=13))) 2) (cond ((nd.kind)==2) (nd.LM) ((kX [(!(nd.img.valid),16),(((nd.cZ) != 1)&&((nd.cZ) != 2),2)])))
abbrev WR{w:E5}{nd:aj}(h:eH K w nd) :
  Nq prog 143 #[nd.v] w (Ï w nd.WQ):=by
 obtain⟨a1,c1,D⟩:=h.1.2.2.2.2.1.1.shape;obtain⟨a2,c2,D⟩:=h.1.2.2.2.2.2.2.2.1.1.shape;obtain⟨J,c3,D⟩:=h.1.2.2.2.2.2.2.2.2.2.1.1.shape;obtain⟨J,c4,D⟩:=h.1.2.2.2.2.2.2.2.2.2.2.2.1.1.shape;refine Ņ func143 ntmps143 λJ S=>YJ λ_ D=>Ė S 1 nd.cells λJ u b2 E3 aa S=>Rf S 1 [] [(2,.nilIface)] λS=>Rh<|D _ _<|Ô λ_ Bz=>YJ λ_ D=>Rf S 2 [.M 0 1] [(4,.i nd.kind)] λS=>Rh<|D _ _<|Ě<|YJ λ_ UA=>Rf S 2 [] [(5,.b ((nd.kind)==1))] λS=>Rh (UA _ _ ?_);refine Ā S (λD=>?_) λD=>?_
 .refine YJ λ_ Ub=>Rf S 2 [.M 0 30] [(8,.i nd.blend)] λS=>Sx.calls S 9 (ah7 nd.blend _) λJ S=>Rf S 1 [] [(10,.b (!(decide (1<=nd.blend)&&decide (nd.blend<=13))))] λS=>Sx.calls S 11 (ji (!(decide (1<=nd.blend)&&decide (nd.blend<=13))) 2 _) λJ S=>Rf S 1 [] [(2,dN (!(decide (1<=nd.blend)&&decide (nd.blend<=13))) 2)] λS=>Rh<|Ub _ _<|Qm S results143 ?_;exact⟨Ñ Ending.returned (by unfold aj.WQ; rw[D]; rfl),S.E⟩
 refine YJ λ_ xQ=>Rf S 2 [] [(12,.b ((nd.kind)==2))] λS=>Rh (xQ _ _ ?_);refine Ā S (λfJ=>?_) λfJ=>?_
 .refine YJ λ_ Du=>Rf S 1 [.M 0 0] [(14,nd.v)] λS=>CY S 15 (ad7 (h.below S.E)) λJ u GL S=>Rf S 1 [] [(2,nd.LM)] λS=>Rh<|Du _ _<|Qm S results143 ?_;exact⟨Ñ Ending.returned (by unfold aj.WQ; rw[D,fJ]; rfl),S.E⟩
 refine ú<|Bz _ _<|Ô λ_ uH=>š S 14 [.M 0 43,.M 0 46,.M 0 46] [(_,_,true,.b (nd.img.valid)),(_,_,true,dN (!(nd.img.valid)) 16),(_,_,true,dN (((nd.cZ) != 1)&&((nd.cZ) != 2)) 2)] [(20,dN (!(nd.img.valid)) 16),(29,dN (((nd.cZ) != 1)&&((nd.cZ) != 2)) 2)] ⟨λu hC g=>Ej (m:=nd.img) (h.1.P.below (Ip S.E hC)),λu hC g=>Ġ (ji (!(nd.img.valid)) 16 _),λu hC g=>Ġ (ji (((nd.cZ) != 1)&&((nd.cZ) != 2)) 2 _),G⟩ λJ u ab S=>?_;refine aii S 30 (dN (!(nd.img.valid)) 16) (dN (((nd.cZ) != 1)&&((nd.cZ) != 2)) 2) I I I I (fP _ _) (fP _ _) λJ u ae Ak af S=>?_;refine CY S 31 (first_any (lZ (f:=λp:Bool×Int=>dN p.1 p.2) [(!(nd.img.valid),16),(((nd.cZ) != 1)&&((nd.cZ) != 2),2)] (S.bx 0) (by show 2<=9223372036854775807; decide))) λJ u Md S=>Rf S 1 [] [(2,(kX [(!(nd.img.valid),16),(((nd.cZ) != 1)&&((nd.cZ) != 2),2)]))] λS=>Rh<|uH _ _<|Qm S results143 ?_;exact⟨Ñ Ending.returned (by unfold aj.WQ; rw[D,fJ]; rfl),S.E⟩
end
section
open Na
variable{α:Type}
def bU(w:E5):Prop:=0 < w.heap.size∧w.rangeAt 0 0 [.iface 296 (.agg #[.q prog.globals.size 210])]
variable{w w0:E5}{x0 x1 e:y9}{n:Int}{t:Nat}
abbrev rls(v x:y9):Go.Extern.ReflectliteValue.set #[v,x]=(do
  let (some (dst,a,fl),some (src,b,_)):=(<-Go.Extern.ReflectliteValue.parts v,<-Go.Extern.ReflectliteValue.parts x)
   | unsupported (.noEntry "extern/(internal/reflectlite.Value).Set.zeroValue")
  if fl/Go.Extern.ReflectliteValue.flagAddr%2==0 then unsupported (.noEntry "extern/(internal/reflectlite.Value).Set.unaddressable")
  let val <-loadVar src b
  if <-Go.Extern.Rtype.directlyAssignable dst src then storeVar dst a val
  else if <-Go.Extern.Rtype.implements dst src then
   if (<-Go.Extern.Rtype.kind src)==20 then
    match val with
    | .nilIface=>unsupported (.noEntry "extern/reflectlite: a nil value of one interface type handed on as a value of another")
    | _=>storeVar dst a val
   else storeVar dst a (.iface src val)
  else panicString ("reflectlite.Set: value of type " ++ (<-Go.Extern.Rtype.spelt src) ++ " is not assignable to type " ++ (<-Go.Extern.Rtype.spelt dst))
  pure (.tuple #[])):=rfl
abbrev LP(b:Nat)(w:E5):(Go.Extern.ReflectliteValue.parts (.agg #[.q prog.globals.size 213,.q b 0,.int .u64 409])).run prog w = .ok (some (213,⟨b,0,none⟩,409)) w:=by kernel_rfl
abbrev LQ(b:Nat)(w:E5):(Go.Extern.ReflectliteValue.parts (.agg #[.q prog.globals.size 213,.q b 0,.int .u64 153])).run prog w = .ok (some (213,⟨b,0,none⟩,153)) w:=by kernel_rfl
abbrev Sr(w:E5):(Go.Extern.Rtype.directlyAssignable 213 213).run prog w = .ok true w:=by kernel_rfl
abbrev ad8(t b:Nat)(n:Int)(e:y9)(S:Bx w b #[.i n,e])(D:Bx w t #[x0,x1])(he:e.oneCell'=true) :
  (Go.Extern.ReflectliteValue.set #[.agg #[.q prog.globals.size 213,.q t 0,.int .u64 409],.agg #[.q prog.globals.size 213,.q b 0,.int .u64 153]]).run prog w = .ok (.tuple #[]) (w.setCells t 0 [.i n,e]) ∧
   Ch t w (w.setCells t 0 [.i n,e])∧Bx (w.setCells t 0 [.i n,e]) t #[.i n,e]:=by
 refine⟨?_,(Ch.refl t w).setCells _ _,Bx.set D _ I⟩;rw[rls];have J:=run_loadVar_mid (P:=prog) w b 0 213 [.i n,e] _ (S.range 0 2 I) underlying213 I X;have S:=run_storeVar_mid (P:=prog) w t 0 213 #[.i n,e] (D.there I) X (by simp only[List.all_toArray,ϯ,List.all_nil,he,Bool.and_true]; rfl);have p1:=LP t w;have p2:=LQ b w;have p3:=Sr w;have p4:(409/Go.Extern.ReflectliteValue.flagAddr%2==0)=false:=by decide
 generalize prog.globals.size=g at p1 p2 |-;simp only[ġ,p1,p2,Result.andThen,p4,ϝ,if_false,J,p3,if_true];rw[S];rfl
abbrev apo{ρ:î->y9}{o:Oper}{x y:î}{ts:Array TypeId}{u v V:y9}{w1:E5}(J:o.op = .call { callee := .value (.func 240),args := #[x,y],argTypes:=ts })(S:ρ (.func 240) = .func (.func 240) #[] #[])
  (hx:ρ x=u) (hy:ρ y=v) (hs:(Go.Extern.ReflectliteValue.set #[u,v]).run prog w = .ok V w1):(Í ρ o).run prog w = .ok (.value V) w1:=by
 have D:=@run_callFunc_extern prog 240 _ Go.Extern.ReflectliteValue.set func240 X X X X;unfold Í;rw[J];simp[go_sem,S,hx,hy,D,hs]
abbrev as_nil(t:y9)(w:E5) :
  Nq prog 144 #[.nilIface,t] w λe w'=>e = .R (.z)∧w=w':=by
 skip;refine Ä func144 ntmps144 λS=>ã S λS=>Xe S (.z) λS=>?_;exact⟨I,I⟩
abbrev akJ{b:Nat}(he:e.oneCell'=true)(hE:Ext w0 w)(ht:Bx w t #[x0,x1])(hb:w0.heap.size<=t)(D:b<w.heap.size∧w.rangeAt b 0 [.q t 0]∧t≠b) :
  Nq prog 199 #[.iface 213 (.agg #[.i n,e]),.iface 215 (.q t 0),.agg #[.q prog.globals.size 215,.q b 0,.int .u64 150],.iface 296 (.agg #[.q prog.globals.size 213])] w λev w'=>ev = .R (.b true)∧Ext w0 w'∧Ch t w w'∧Bx w' t #[.i n,e]:=by
 skip;refine BP func199 ntmps199 hE ht hb λJ S=>?_;have S:=S.view D.1 D.2.1 (λp hp=>by obtain rfl:=û.1 hp; exact D.F);refine YJ λ_ D=>Ė S 6 [.q prog.globals.size 215,.q b 0,.int .u64 150] λJ u b2 E3 aa S=>Rf S 1 [] [(8,.z)] λS=>Rh<|D _ _<|Ě<|wp_loop_rounds 1 ?_;rw[χ];refine Ě<|Ô λ_ D=>YJ λ_ D=>Rf S 4 [] [(19,.b true)] λS=>Rh<|D _ _<|Jj S<|YJ λ_ UA=>Rf S 3 [.M 0 0,.υ [(2,0)]] [(21,.agg #[.q prog.globals.size 213,.q t 0,.int .u64 409]),(22,.iface 213 (.agg #[.i n,e]))] λS=>Sx.new S 23 [.i n,e] (λb => .agg #[.q prog.globals.size 213,.q b 0,.int .u64 153]) λJ u b8 E9 D S=>?_;have D:=ad8 t b8 n e (w:=u) (S.bx 0) (S.bx 2) he;refine Sx.wrote S 2 [.i n,e] (.tuple #[]) (some 24) I I I I ?_ D.2.1 D.F (qE S.E hb _ _) λJ S=>?_
 .exact apo I I (S.s.has 21 _ I) (S.s.has 23 _ I) D.1
 have J:=Ch.trans (Ch.trans (Ch.refl t w) (Ch.aY (Ip E3 E9))) D.2.1;refine Rh<|UA _ _<|YJ λ_ D=>Rf S 1 [] [(8,.b true)] λS=>Rh<|D _ _<|Qm S results199 ?_;exact⟨I,S.E,J,S.bx 2⟩
abbrev bU.below{w w':E5}(h:bU w)(D:Ext w w'):bU w':=⟨ö h.1 D.size,Vp.qP h.2 h.1 D⟩
abbrev as_hit(he:e.oneCell'=true)(hE:Ext w0 w)(ht:Bx w t #[x0,x1])(hb:w0.heap.size<=t)(D:bU w0) :
  Nq prog 144 #[.iface 213 (.agg #[.i n,e]),.iface 215 (.q t 0)] w λev w'=>ev = .R (.b true)∧Ext w0 w'∧Ch t w w'∧Bx w' t #[.i n,e]:=by
 skip;refine BP func144 ntmps144 hE ht hb λJ S=>?_;have S:=S.view0 D.1 D.2;refine YJ λ_ D=>Rf S 1 [] [(4,.z)] λS=>Rh<|D _ _<|Ô λ_ Og=>YJ λ_ κ3=>Rf S 2 [] [(9,.z)] λS=>Rh<|κ3 _ _<|FH S<|ú<|Og _ _<|Ô λ_ Ζ=>YJ λ_ D=>Rf S 2 [] [(11,.z)] λS=>Rh<|D _ _<|FH S<|ú<|Ζ _ _<|YJ λ_ XK=>Rf S 1 [] [(13,.iface 215 (.q t 0))] λS=>Sx.new S 14 [.q t 0] (λb => .agg #[.q prog.globals.size 215,.q b 0,.int .u64 150]) λJ u b7 E8 D S=>Ė S 5 [.pointer none,.pointer none,.int .u64 0] λJ u b10 BG D S=>Ğ S 0 (off:=0) (cs:=[.q prog.globals.size 215,.q b7 0,.int .u64 150]) I λu D S=>?_;have wR:=È (Ip E8 BG) D (by have:=E8.size; omega);refine Rh<|XK _ _<|YJ λ_ D=>Rf S 3 [.M 0 0] [(6,.iface 296 (.agg #[.q prog.globals.size 215]))] λS=>Rh<|D _ _<|Ô λ_ xR=>YJ λ_ D=>Rf S 7 [.M 0 0,.υ [(1,0)]] [(23,.z)] λS=>Rh<|D _ _<|FH S<|ú<|xR _ _<|YJ λ_ XL=>Rf S 3 [] [(7,.iface 296 (.agg #[.q prog.globals.size 213]))] λS=>Rh<|XL _ _<|Ô λ_ D=>YJ λ_ aa=>Rf S 9 [.M 3 0] [(35,.z)] λS=>Rh<|aa _ _<|FH S<|ú<|D _ _<|YJ λ_ ab=>Rf S 4 [.M 0 0] [(37,.iface 213 (.agg #[.i n,e])),(38,.iface 215 (.q t 0)),(39,.agg #[.q prog.globals.size 215,.q b7 0,.int .u64 150]),(40,.iface 296 (.agg #[.q prog.globals.size 213]))] λS=>?_;have D:=(S.bx 1).1;refine alN S 2 [.i n,e] (some 41) I (akJ (n:=n) (t:=t) (b:=b7) he S.E (S.bx 2) hb ⟨(S.bx 1).1,(S.bx 1).range 0 1 I,S.ne (i:=2) (j:=1) I I O⟩) ?_;rintro e u ⟨rfl,ae,D,af⟩;refine⟨_,I,ae,D,af,λJ S=>?_⟩;have J:=Ch.trans (Ch.trans (Ch.refl t w) (Ch.aY wR)) D;refine Rf S 1 [] [(4,.b true)] λS=>Rh<|ab _ _<|Qm S results144 ?_;exact⟨I,S.E,J,S.bx 2⟩
open Na
variable{α:Type}{K:Nat}
def nT:List (Bool×Int)->Int
 | []=>0
 | p::l=>if p.1=true then p.2 else nT l
def badL(l:List (Bool×Int)):Bool:=l.any (·.1)
abbrev jL (n:Int)(e:y9):y9 := .iface 213 (.agg #[.i n,e])
theorem wM:∀l:List (Bool×Int),(badL l=false∧kX l = .nilIface∧nT l=0)∨(badL l=true∧∃n,kX l=jL 0 (jL n .nilIface)∧nT l=n)
 | [] => .inl ⟨I,I,I⟩
 | p::l=>by
  unfold kX nT badL
  rw[List.any_cons]
  cases hp:p.1 with
  | true=>exact .inr ⟨I,p.2,Á I,Á I⟩
  | false =>
   rw[UQ Y,UQ Y,Bool.false_or]
   exact wM l
def aj.rG(nd:aj):Int:=cond ((nd.kind)==1) (nT [((!(decide (1<=nd.blend)&&decide (nd.blend<=13))),2)]) (cond ((nd.kind)==2) (nT nd.tJ) ((nT [(!(nd.img.valid),16),(((nd.cZ) != 1)&&((nd.cZ) != 2),2)])))
def aj.checkN(nd:aj):Int:=_root_.cond (badL nd.iE) (nT nd.iE) nd.rG
variable{w:E5}{nd:aj}
abbrev ZU(nd:aj):(nd.WQ = .nilIface∧nd.rG=0)∨(nd.WQ=jL nd.rG .nilIface)∨(nd.WQ=jL 0 (jL nd.rG .nilIface)):=by
 have S:∀l,(kX l = .nilIface∧nT l=0)∨(kX l=jL (nT l) .nilIface)∨(kX l=jL 0 (jL (nT l) .nilIface)):=by
  intro l;rcases wM l with ⟨_,D,J⟩ | ⟨_,n,D,J⟩
  .exact .inl ⟨D,J⟩
  exact .inr (.inr (by rw[D,J]))
 have hW:∀b n,(dN b n = .nilIface∧nT [(b,n)]=0)∨(dN b n=jL (nT [(b,n)]) .nilIface)∨(dN b n=jL 0 (jL (nT [(b,n)]) .nilIface)):=by
  intro b n;cases b<;>simp[dN,nT]
 unfold aj.WQ aj.rG aj.LM;cases D:nd.kind==1
 .cases J:nd.kind==2
  .exact S _
  exact S _
 exact hW _ _
abbrev Ar(h:eH K w nd)(hg:bU w) :
  Nq prog 96 #[nd.v] w (Ï w (.i nd.checkN)):=by
 skip;refine Ä func96 ntmps96 λS=>Ú S nd.cells λu b2 J D S=>O1 S 2 [] [.M 0 0] λS=>ð S (ZT (h.below S.E)) λu D S=>?_;rcases wM nd.iE with ⟨J,he,hc⟩ | ⟨J,n,he,hc⟩
 .rw[show nd.zH = .nilIface from he]at S;try rw[show nd.zH = .nilIface from he]
  refine ã S λS=>O1 S 1 [] [.M 0 0] λS=>ð S (WR (h.below S.E)) λu D S=>?_;rcases ZU nd with ⟨D,hn⟩ | D | D
  .rw[D]at S;try rw[D]
   refine Ú S [.i 0,.nilIface] λu aa GL av S=>Š S 3 λS=>nH S (as_nil (.iface 215 (.q aa 0)) _) λS=>ă S λS=>Xe S (.i 0) λS=>?_;exact⟨by unfold aj.checkN; rw[J]; simp only[_root_.cond]; rw[hn],S.E⟩
  .rw[D]at S;try rw[D]
   refine Ú S [.i 0,.nilIface] λu ab L6 P5 S=>Š S 3 λS=>BN S 0 [.i nd.rG,.nilIface] rfl (as_hit (n:=nd.rG) (e := .nilIface) I S.E (S.bx 0) (S.old 0) hg) ?_;rintro e u ⟨rfl,ac,ae,af⟩;refine⟨_,I,ac,ae,af,λS=>?_⟩;refine ã S λS=>ć S 5 [.M 0 0,.M 0 1] [] [(4,.i nd.rG),(18,.nilIface)] trivial λu Ku S=>nH S (as_nil (.iface 215 (.q ab 0)) _) λS=>ă S λS=>Xe S (.i nd.rG) λS=>?_;exact⟨by unfold aj.checkN; rw[J]; simp only[_root_.cond],S.E⟩
  rw[D]at S;try rw[D]
  refine Ú S [.i 0,.nilIface] λu D MC aw S=>Š S 3 λS=>BN S 0 [.i 0,jL nd.rG .nilIface] rfl (as_hit (n:=0) (e:=jL nd.rG .nilIface) I S.E (S.bx 0) (S.old 0) hg) ?_;rintro e u ⟨rfl,YO,Q9,ag⟩;refine⟨_,I,YO,Q9,ag,λS=>?_⟩;refine ã S λS=>ć S 5 [.M 0 0,.M 0 1] [] [(4,.i 0),(18,jL nd.rG .nilIface)] trivial λu SC S=>BN S 0 [.i nd.rG,.nilIface] rfl (as_hit (n:=nd.rG) (e := .nilIface) I S.E (S.bx 0) (S.old 0) hg) ?_;rintro e u ⟨rfl,ah,ai,al⟩;refine⟨_,I,ah,ai,al,λS=>?_⟩;refine ã S λS=>ć S 5 [.M 0 0,.M 0 1] [] [(4,.i nd.rG),(18,.nilIface)] trivial λu ax S=>nH S (as_nil (.iface 215 (.q D 0)) _) λS=>ă S λS=>Xe S (.i nd.rG) λS=>?_;exact⟨by unfold aj.checkN; rw[J]; simp only[_root_.cond],S.E⟩
 rw[show nd.zH=jL 0 (jL n .nilIface)from he]at S;try rw[show nd.zH=jL 0 (jL n .nilIface)from he]
 refine ă S λS=>Ú S [.i 0,.nilIface] λu D Xx ay S=>Š S 3 λS=>BN S 0 [.i 0,jL n .nilIface] rfl (as_hit (n:=0) (e:=jL n .nilIface) I S.E (S.bx 0) (S.old 0) hg) ?_;rintro e u ⟨rfl,am,an,ao⟩;refine⟨_,I,am,an,ao,λS=>?_⟩;refine ã S λS=>ć S 5 [.M 0 0,.M 0 1] [] [(4,.i 0),(18,jL n .nilIface)] trivial λu az S=>BN S 0 [.i n,.nilIface] rfl (as_hit (n:=n) (e := .nilIface) I S.E (S.bx 0) (S.old 0) hg) ?_;rintro e u ⟨rfl,ap,aq,ar⟩;refine⟨_,I,ap,aq,ar,λS=>?_⟩;refine ã S λS=>ć S 5 [.M 0 0,.M 0 1] [] [(4,.i n),(18,.nilIface)] trivial λu a3 S=>nH S (as_nil (.iface 215 (.q D 0)) _) λS=>ă S λS=>Xe S (.i n) λS=>?_;exact⟨by unfold aj.checkN; rw[J]; simp only[_root_.cond]; rw[hc],S.E⟩
abbrev Nu(h:eH K w nd)(J:bU w) :
  Nq prog 58 #[nd.v] w (Ï w (.b (nd.checkN==0))):=by
 skip;refine Ä func58 ntmps58 λS=>Â S λu b2 E3 D S=>O1 S 2 [] [.M 0 0] λS=>ð S (Ar (h.below S.E) (J.below S.E)) λu D S=>Xe S (.b ((nd.checkN)==0)) λS=>?_;exact⟨I,S.E⟩
open Na
variable{α:Type}{K:Nat}
abbrev K04{base:Nat}{w:E5}{v:y9}{q:Bool×Nat×Nat}(h:dR base w v q):∃r:bH,v=r.v∧r.ok w∧r.n1=q.1∧r.l1=RI q.2.1∧r.n2=false∧r.l2=RI q.2.2:=by
 obtain⟨s,t,rfl,S,ht,_⟩:=h;have D:=S;have J:=ht;obtain⟨a1,c1,rfl,_⟩:=S;obtain⟨a2,c2,rfl,_⟩:=ht;exact⟨⟨q.1,a1,c1,RI q.2.1,false,a2,c2,RI q.2.2⟩,I,⟨D,J⟩,I,I,I,I⟩
variable{q:Bool×Nat×Nat}
abbrev Pm{r:bH}(D:r.n1=q.1)(J:r.l1=RI q.2.1)(S:r.n2=false)(h4:r.l2=RI q.2.2)(hn:NY q):r.q=q:=by
 unfold bH.q;rw[D,J,S,h4,RH,RH]; exact hn
abbrev zx{r:bH}{K:Nat}(D:r.l1=RI q.2.1)(J:r.l2=RI q.2.2)(hl:qlen K q):r.fit K:=⟨by rw[D]; exact hl.1,by rw[J]; exact hl.2⟩
abbrev RQ:Di qI:=⟨by decide,by decide,by decide,by decide,by decide,by decide⟩
abbrev aoT:VU 1 qI:=by
 have J:qlen 1 (false,1,1):=⟨Ef,Ef⟩;have D:qlen 1 (false,0,1):=⟨by show(RI 0).length<=1; rw[jR]; simp,Ef⟩;exact⟨J,D,D,J,D,D⟩
def iR(id:Int)(t:bD):aj:=⟨id,2,0,t,none,0,[],0,0,0,false,false,none,0,[],1,none,0,[],aX.bare,none,0,[],dH.bare,0⟩
def bP:aj:=⟨0,0,0,bD.none,none,0,[],0,0,0,false,false,none,0,[],0,none,0,[],aX.bare,none,0,[],dH.bare,0⟩
abbrev qj(w:E5):yH w (.sn) []:=⟨dK _ _ _,λs D=>by cases D⟩
abbrev lU(w:E5):iY w (.sn) []:=⟨dK _ _ _,λs D=>by cases D⟩
abbrev adB{w:E5}{id:Int}{t:bD}(aa:I64 id)(ht:t.ok w)(J:t.fit 1)(D:1<=K)(ab:K<=10000):eH K w (iR id t):=
 ⟨⟨aa,(show I64 2 by decide),fC,ht,qj w,fC,fC,qj w,(show I64 1 by decide),lU w,aX.gX w,lU w,dH.gX w,fC⟩,⟨J.1.mono D,J.2.1.mono D,J.D.mono D,J.C.mono D,J.A.mono D,J.J.mono D⟩,λp S=>(by cases S),λp S=>(by cases S),D,ab⟩
abbrev iq(w:E5)(S:1<=K)(J:K<=10000):eH K w bP:=
 ⟨⟨fC,fC,fC,bD.gW w,qj w,fC,fC,qj w,fC,lU w,aX.gX w,lU w,dH.gX w,fC⟩,bD.iO K,λp D=>(by cases D),λp D=>(by cases D),S,J⟩
abbrev RS:bP.checkN=2:=rfl
abbrev bH.ok.dZ{w w':E5}{r:bH}{b:Nat}{A:Array y9}(h:r.ok w)(D:Ch b w w')(J:Bx w b A)(hA:A.toList.all D8=true):r.ok w':=⟨PD h.1 D J hA,PD h.2 D J hA⟩
abbrev bD.ok.dZ{w w':E5}{t:bD}{b:Nat}{A:Array y9}(h:t.ok w)(D:Ch b w w')(J:Bx w b A)(hA:A.toList.all D8=true:=by rfl):t.ok w':=
 ⟨h.1.dZ D J hA,h.2.1.dZ D J hA,h.D.dZ D J hA,h.C.dZ D J hA,h.A.dZ D J hA,h.J.dZ D J hA⟩
end
section
open Na
variable{α:Type}
abbrev Xt(v u:y9)(l m:List UInt32)(w:E5)(hv:aH w v l)(hu:aH w u m)(J:l.length<=5000000)(D:m.length<=5000000) :
  Nq prog 220 #[v,u] w λe w'=>∃g,e = .R g∧aH w' g (RI (Nat.gcd (TR l) (TR m)))∧Ext w w':=by
 have C1:=FU (dU v l w hv Z);have D:=dB l;have D:=dB m;go_enter func220,ntmps220
 go_wp2_with fail
 refine C1.out.mono ?_;rintro e w1 ⟨x,rfl,S,ab⟩;have S:=bC S;go_wp2_with fail
 refine(dU u m w1 (hu.below ab) Z).mono ?_;rintro e w2 ⟨y,rfl,D,ac⟩;have D:=bC D;have J:=S.below ac;have ae:=Ip ab ac;clear S C1 hv hu;have HX:=FU J;have HY:=FU D;clear J D;go_wp2_with fail
 go_loopw [5,6,7,8,9] (λx y _ _ _ wr=>∃(A B:Nat),aH wr x (RI A)∧aH wr y (RI B)∧Nat.gcd A B=Nat.gcd (TR l) (TR m)∧(RI A).length<=5000000∧(RI B).length<=5000000∧Ext w wr) (λ_ y _ _ _ wr=>valOf wr y)
 case atStart=>exact⟨(TR l),(TR m),HX.out,HY.out,I,Z,Z,ae⟩
 case round =>
  obtain⟨A,B,S,D,hg,af,aa,J⟩:=hrel;have HM:=FU (D5 D);have HG:=FU hg;have HX:=FU S;have HY:=FU D;clear hg S D;obtain⟨D,S,rfl⟩:=HY.out.shape;rcases ė B with rfl | hB
  .have D:((RI 0).length:Int)=0:=by rw[lM.2 I]; rfl
   go_wp2_with fail
   go_ret
   refine⟨_,I,?_,J⟩;rw[<-HG.out,Nat.gcd_zero_right];exact HX.out
  have D:(0:Int)<((RI B).length:Int):=by
   have:(RI B).length≠0:=λh=>by have:=pU h; omega
   omega
  have D:=Aj _ _ _ _ wr HX.out HY.out (by rw[RH]; exact hB) af aa;rw[RH,RH]at D;have HD:=FU D;clear D;go_wp2_with fail
  refine HD.out.mono ?_;rintro e w' ⟨q,r,rfl,hq,hr,hb⟩;have S:=FU (bC hr);have D:=FU (HY.out.below hb);clear hq hr;go_wp2_with fail
  go_roundw
  case rel =>
   refine⟨B,A%B,D.out,S.out,?_,aa,?_,Ip J hb⟩
   .rw[<-HG.out,Nat.gcd_comm A B,Nat.gcd_rec B A,Nat.gcd_comm]
   exact ä (fO (Δ (Ŋ A hB))) aa
  case measure =>
   rw[D5 S.out,HM.out,RH,RH];exact Ŋ _ hB
abbrev wO(neg:Bool)(v:y9)(l:List UInt32)(w:E5)(J:aH w v l)(D:l.length<=1000000000) :
  Nq prog 219 #[.b neg,v] w λe w'=>∃x,e = .R x∧aS w.heap.size w' x (neg&&decide (0<TR l)) (TR l)∧Ext w w':=by
 have S:=aI w (.cells #[.z,.sn] 24);have HC:=FU (dU v l _ (J.below S) D);have ab:Hid (decide ((0:Int)<((RI (TR l)).length:Int))=decide (0<TR l)):=by
  show _=_;rw[ϸ];constructor
  .intro h;rcases ė (TR l)with D | D
   .rw[D,jR]at h; simp at h
   exact D
  intro h;have:(RI (TR l)).length≠0:=λh'=>by
   have:=lM.1 (Ś h'); omega
  omega
 rcases aG9 neg with rfl | rfl;all_goals
  go_enter func219,ntmps219
  go_wp2_with fail
  refine HC.out.mono ?_
  rintro e w1 ⟨D,rfl,ho,aa⟩
  have D:=bC ho
  have J:=SL ho
  obtain⟨hc,hf,hz⟩:=jg aa
  have ac:=Ip S aa
  have HB:=FU ac
  have HR:=FU D
  have HO:=FU J
  obtain⟨a,cap,rfl⟩:=HR.out.shape
  clear HC ho D aa S ac J
  go_wp2_with fail
 .refine bodyPost_ret (v := .agg #[.b ((0:Int)<((RI (TR l)).length:Int)),.s a (RI (TR l)).length cap]) (by simp[results,results219,go_sem,hc]) I ⟨_,I,⟨_,by rw[Ł,ab.out],?_⟩,?_⟩
  .exact⟨HR.out.ch (((Ch.refl _ _).setCell _ _).setCell _ _) (λ_=>HO.out.off Y),HO.out.mono Y⟩
  exact(HB.out.setCell (p:=⟨w.heap.size,0,none⟩) (Ç _) _).setCell (p:=⟨w.heap.size,1,none⟩) (Ç _) _
 refine bodyPost_ret (v := .agg #[.z,.s a (RI (TR l)).length cap]) (by simp[results,results219,go_sem,hc]) I ⟨_,I,⟨_,by rw[ŕ],?_⟩,?_⟩
 .exact⟨HR.out.ch (((Ch.refl _ _).setCell _ _).setCell _ _) (λ_=>HO.out.off Y),HO.out.mono Y⟩
 exact(HB.out.setCell (p:=⟨w.heap.size,0,none⟩) (Ç _) _).setCell (p:=⟨w.heap.size,1,none⟩) (Ç _) _
abbrev yP(x:Nat)(w:E5)(h:(x:Int)<=9223372036854775807) :
  Nq prog 172 #[.i x] w λe w'=>∃v,e = .R v∧aS w.heap.size w' v false x∧Ext w w':=by
 have hN:x<18446744073709551616:=Z
 obtain⟨y,rfl⟩:∃y:UInt64,x=y.toNat:=⟨UInt64.ofNat x,by simp; omega⟩;have h0:¬(y.toNat:Int)<0:=Z
 have aa:=y.toNat_lt;have hw:=aiz y;have J:=aI w (.cells #[.z,.sn] 24);have hr:aH ((w.alloc (.cells #[.z,.sn] 24)).alloc (.cells #[bn y.toUInt32,bn (y>>>32).toUInt32] 119)) (.s (some ⟨w.heap.size+1,0,none⟩) 2 2) [y.toUInt32,(y>>>32).toUInt32]:=by
  have:=PW (w.alloc (.cells #[.z,.sn] 24)) [y.toUInt32,(y>>>32).toUInt32] (f:=bn) 119 (by unfold maxLen; simp);simpa using this
 have S:=wO false _ _ _ hr Y;rw[S9]at S;have HI:=FU S;have HB:=FU (J.alloc Y (.cells #[bn y.toUInt32,bn (y>>>32).toUInt32] 119));clear hr S J;have HE:Hid (((y>>>32).toNat:Int)=((y>>>32).toUInt32.toNat:Int)):=by
  show _=_;rw[<-yU,<-PY]; omega
 go_enter func172,ntmps172
 go_wp2_with fail
 rw[yU,PY,HE.out];refine HI.out.mono ?_;rintro e w2 ⟨z,rfl,⟨s,rfl,hs,fs⟩,D⟩;obtain⟨b1,d1,rfl⟩:=hs.shape;have r0:∀i,w2.cell? ⟨w.heap.size,i,none⟩ = #[Value.z,.sn][i]?:=λi=>by rw[D.cell (p:=⟨w.heap.size,i,none⟩) (by simp; omega)]; simp[go_sem]
 have f0:∀i,w2.frozen? ⟨w.heap.size,i,none⟩=false:=λi=>by rw[D.frozen (p:=⟨w.heap.size,i,none⟩) (by simp; omega)]; simp[go_sem]
 have hz:w.heap.size<w2.heap.size:=by have:=D.size; simp at this; omega
 have HX:=FU (Ip HB.out D);have F:=FU (And.intro hs fs);clear hs fs D HI;go_wp2_with fail
 refine bodyPost_ret (v := .agg #[.z,.s b1 (RI y.toNat).length d1]) (by simp[results,results172,go_sem,r0]) I ⟨_,I,⟨_,I,?_,?_⟩,?_⟩
 .exact F.out.1.ch (((Ch.refl w.heap.size _).setCell 0 _).setCell 1 _) (λ_=>F.out.2.off (by simp; omega))
 .exact F.out.2.mono (by simp; omega)
 exact(HX.out.setCell (p:=⟨_,0,none⟩) (by simp only; omega) _).setCell (p:=⟨_,1,none⟩) (by simp only; omega) _
abbrev sD(neg:Bool)(s:y9)(l:List UInt32)(w:E5)(S:aH w s l)(D:l.length<=100000000) :
  Nq prog 173 #[.agg #[.b neg,s]] w (Ï w (.i (qF neg (TR l)))):=by
 have D:=aI w (.cells #[.b neg,s] 24);have J:=FU (wO neg s l _ (S.below D) Z);have HB:=FU D;obtain⟨a,cap,rfl⟩:=S.shape;clear S D;by_cases h0:TR l=0
 .have hs:Hid (qF neg (TR l)=0):=by show _=_; unfold qF; rw[Á h0]
  have hd:(((RI (TR l)).length:Int)==0)=true:=by rw[h0]; rfl
  clear h0;go_enter func173,ntmps173
  go_wp2_with fail
  refine J.out.mono ?_;rintro e w' ⟨x,rfl,⟨t,rfl,ht,ft⟩,hb⟩;obtain⟨b1,d1,rfl⟩:=ht.shape;have S:=FU (Ip HB.out hb);have D:=S.out.size;clear ht ft hb J HB;go_wp2_with fail
  go_ret
  exact⟨by rw[hs.out]; rfl,S.out.alloc D _⟩
 have hd:(((RI (TR l)).length:Int)==0)=false:=by
  rw[õ];intro h;exact h0 (pU Z)
 have aa:Hid (∀neg,qF neg (TR l)=if neg then -1 else 1):=λneg=>UQ h0;have hp:decide (0<TR l)=true:=ņ Z;rw[hp]at J;clear h0 hp;rcases aG9 neg with rfl | rfl;all_goals
  go_enter func173,ntmps173
  go_wp2_with fail
  refine J.out.mono ?_
  rintro e w' ⟨x,rfl,⟨t,rfl,ht,ft⟩,hb⟩
  obtain⟨b1,d1,rfl⟩:=ht.shape
  have S:=FU (Ip HB.out hb)
  have D:=S.out.size
  clear ht ft hb J HB
  go_wp2_with fail
  go_ret
  exact⟨by rw[aa.out]; rfl,S.out.alloc D _⟩
abbrev IU(neg:Bool)(s:y9)(l:List UInt32)(w:E5)(S:aH w s l)(D:l.length<=100000000) :
  Nq prog 221 #[.agg #[.b neg,s]] w λe w'=>∃x,e = .R x∧aS w.heap.size w' x (!neg&&decide (0<TR l)) (TR l)∧Ext w w':=by
 have J:=aI w (.cells #[.b neg,s] 24);have D:=J.alloc Y (.cells #[.z,.sn] 24);have HC:=FU (wO (!neg) s l _ (S.below D) Z);have HB:=FU D;obtain⟨a,cap,rfl⟩:=S.shape;clear S D J;go_enter func221,ntmps221
 go_wp2_with fail
 refine HC.out.mono ?_;rintro e w2 ⟨z,rfl,⟨s,rfl,S,fs⟩,D⟩;obtain⟨b1,d1,rfl⟩:=S.shape;have r0:∀i,w2.cell? ⟨w.heap.size+1,i,none⟩ = #[Value.z,.sn][i]?:=λi=>by rw[D.cell (p:=⟨w.heap.size+1,i,none⟩) Y]; simp[go_sem]
 have J:∀i,w2.frozen? ⟨w.heap.size+1,i,none⟩=false:=λi=>by rw[D.frozen (p:=⟨w.heap.size+1,i,none⟩) Y]; simp[go_sem]
 have J:w.heap.size+1<w2.heap.size:=by have:=D.size; simp at this; omega
 have HX:=FU (Ip HB.out D);have F:=FU (And.intro S fs);generalize hnb:(!neg&&decide (0<TR l))=nb at *;have J:=FU hnb;clear S fs D HC hnb;go_wp2_with fail
 refine bodyPost_ret (v := .agg #[.b nb,.s b1 (RI (TR l)).length d1]) (by simp[results,results221,go_sem,r0]) I ⟨_,I,⟨_,by rw[J.out],?_,?_⟩,?_⟩
 .exact F.out.1.ch (((Ch.refl (w.heap.size+1) _).setCell 0 _).setCell 1 _) (λ_=>F.out.2.off Y)
 .exact F.out.2.mono (by simp; omega)
 exact(HX.out.setCell (p:=⟨_,0,none⟩) (by simp only; omega) _).setCell (p:=⟨_,1,none⟩) (by simp only; omega) _
abbrev jy(x:Nat)(w:E5)(h:(x:Int)<=9223372036854775807) :
  Nq prog 124 #[.i x] w λe w'=>∃v,e = .R v∧aC w.heap.size w' v false x 1∧Ext w w':=by
 have D:=aI w (.cells #[.z,.sn,.z,.sn] 26);have H1:=FU (yP x (w.alloc (.cells #[.z,.sn,.z,.sn] 26)) h);have S:=FU D;clear D;go_enter func124,ntmps124
 go_wp2_with fail
 refine H1.out.mono ?_;rintro e w1 ⟨y,rfl,⟨s,rfl,hs,fs⟩,D⟩;have h2:=yP 1 w1 O;have H2:=FU h2;have HS:=FU (And.intro hs fs);have J:=FU D;clear h2 H1 hs fs D;go_wp2_with fail
 refine H2.out.mono ?_;rintro e w2 ⟨y,rfl,⟨t,rfl,ht,ft⟩,D⟩;obtain⟨b1,d1,rfl⟩:=HS.out.1.shape;obtain⟨b2,d2,rfl⟩:=ht.shape;obtain⟨r0,f0,hz⟩:=jg (Ip J.out D);obtain⟨-,-,aa⟩:=jg J.out;have F:=FU (And.intro (HS.out.1.below D) (And.intro ht (And.intro HS.out.2 ft)));have HX:=FU (Ip S.out (Ip J.out D));clear ht ft D H2;go_wp2_with fail
 refine bodyPost_ret (v := .agg #[.z,.s b1 (RI x).length d1,.z,.s b2 (RI 1).length d2]) (by simp[results,results124,go_sem,r0]) I ⟨_,I,⟨_,_,I,?_,?_,?_,?_⟩,?_⟩
 .exact F.out.1.ch (((((Ch.refl w.heap.size _).setCell _ _).setCell _ _).setCell _ _).setCell _ _) (λ_=>F.out.D.off Y)
 .exact F.out.2.1.ch (((((Ch.refl w.heap.size _).setCell _ _).setCell _ _).setCell _ _).setCell _ _) (λ_=>F.out.N.off aa)
 .exact F.out.D.mono Y
 .exact F.out.N.mono Z
 exact(((HX.out.setCell (p:=⟨_,0,none⟩) (by simp only; omega) _).setCell (p:=⟨_,1,none⟩) (by simp only; omega) _).setCell (p:=⟨_,2,none⟩) (by simp only; omega) _).setCell (p:=⟨_,3,none⟩) (by simp only; omega) _
abbrev vC{v:y9}{a:Nat}{w:E5}(neg:Bool)(J:aH w v (RI a))(D:(RI a).length<=1000000000) :
  Nq prog 219 #[.b neg,v] w λe w'=>∃x,e = .R x∧aS w.heap.size w' x (neg&&decide (0<a)) a∧Ext w w':=by
 have h:=wO neg v _ w J D;rw[RH]at h;exact h
