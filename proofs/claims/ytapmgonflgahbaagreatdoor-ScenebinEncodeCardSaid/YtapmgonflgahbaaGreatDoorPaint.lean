/- What paints say: plain laws. -/
import Derived.Test.YtapmgonflgahbaaGreatDoorImg
import Derived.Test.YtapmgonflgahbaaGreatDoorPk15
import Derived.Great.BuildSlice
set_option linter.unusedVariables false
set_option maxHeartbeats 1600000
set_option maxRecDepth 100000
namespace Go.Proofs.YtapmgonflgahbaaGreatDoor
open _root_.Go.Proofs.Tryz
open Go.RowKit
variable{α:Type}
def dH.none:dH:=⟨false,Option.none,0,[],false,Option.none,0,[]⟩
theorem dH.zN:dH.none.q=q0:=by decide
def bD.none:bD:=⟨.none,.none,.none,.none,.none,.none⟩
theorem dH.iy(w:World):dH.none.ok w:=⟨⟨Option.none,0,rfl,aoa _,.inl ⟨rfl,fun _=>rfl⟩⟩,⟨Option.none,0,rfl,aoa _,.inl ⟨rfl,fun _=>rfl⟩⟩⟩
theorem dH.je(K:Nat):dH.none.fit K:=⟨aoa _,aoa _⟩
theorem bD.iy(w:World):bD.none.ok w:=⟨dH.iy w,dH.iy w,dH.iy w,dH.iy w,dH.iy w,dH.iy w⟩
theorem bD.je(K:Nat):bD.none.fit K:=⟨dH.je K,dH.je K,dH.je K,dH.je K,dH.je K,dH.je K⟩
def dB.bare:dB:=⟨0,0,Option.none,0,[]⟩
theorem kT:I64 0:=⟨by decide,by decide⟩
theorem dB.pX(w:World):dB.bare.ok w:=⟨kT,kT,jD _ _ _⟩
def kU.none:kU:=⟨0,0⟩
theorem kU.iy:kU.none.ok:=⟨kT,kT⟩
def bT.none:bT:=⟨0,0,0,0⟩
def ak.bare(k:Int):ak:=⟨k,.none,.none,.none,0,Option.none,0,[],0,.bare,0,.none⟩
theorem ak.pX{k:Int}(hk:I64 k)(w:World):(ak.bare k).ok w:=⟨hk,kU.iy,kU.iy,kT,jD _ _ _,fun s hs=>by simp[ak.bare]at hs,kT,dB.pX w,kT,bD.iy w⟩
def ak.Um(p:ak):ak:={ p with t := .none,color := .none }
def ak.only2(p:ak):ak:={ p with t := .none,p0 := .none,p1 := .none,sva:=Option.none,svc:=0,stops:=[],spread:=0 }
def ak.Un(p:ak):ak:={ p with t := .none,p0 := .none,bn:=0,sva:=Option.none,svc:=0,stops:=[],spread:=0 }
def ak.Uo(p:ak):ak:={ p with t := .none,img := .bare,spread:=0,bY:=0 }
def ak.Zm(p:ak):ak:={ p with t := .none }
def ak.without(p:ak):ak:=cond (p.kind==1) p.Um (cond (p.kind==2) p.only2 (cond (p.kind==3) p.Un (cond (p.kind==4) p.Uo p.Zm)))
theorem ak.Rl{w:World}{p:ak}(h:p.ok w):p.without.ok w:=by
 obtain⟨h1,h2,h3,h4,h5,h6,h7,h8,h9,h10⟩:=h;have a:=bD.iy w;have r:=jD 5 fH.cells w;have n:∀s∈([]:List fH),s.ok:=fun s hs=>by simp at hs
 unfold ak.without;cases (p.kind==1)<;>cases (p.kind==2)<;>cases (p.kind==3)<;>cases (p.kind==4);all_goals first
  | exact⟨h1,h2,h3,h4,h5,h6,h7,h8,h9,a⟩
  | exact⟨h1,kU.iy,kU.iy,h4,r,n,kT,h8,h9,a⟩
  | exact⟨h1,kU.iy,h3,kT,r,n,kT,h8,h9,a⟩
  | exact⟨h1,h2,h3,h4,h5,h6,kT,dB.pX w,kT,a⟩
theorem ak.NY(p:ak)(K:Nat):p.without.t.fit K:=by
 unfold ak.without;cases (p.kind==1)<;>cases (p.kind==2)<;>cases (p.kind==3)<;>cases (p.kind==4);all_goals exact bD.je K
theorem zN(w:World):dQ 1 w (.agg #[.z,.sn,.z,.sn]) q0:=by
 rw[←dH.zN]; exact dH.toQ (r:=dH.none) (dH.iy w) (dH.je 1)
theorem yj(Q:Q6):IB Q.wV:=FH _ _
theorem yu{K:Nat}{Q:Q6}(hK:1≤K)(h:Zn K Q):qlen (K+K+(K+K)+1) Q.wV:=Zo (by omega) (uI hK h.1 h.2.2.2.1) (uI hK h.2.1 h.2.2.1)
theorem Wq.Ws{K:Nat}{w:World}{v:Value}{Q:Q6}(h:jQ K w v Q)(hK:1≤K):Zn K Q:=h.len hK
def ak.eq(p q:ak):Bool:=((((((((((p.kind)==q.kind)&&(((p.color.r.toNat:Int)==(q.color.r.toNat:Int))&&(((p.color.g.toNat:Int)==(q.color.g.toNat:Int))&&(((p.color.b.toNat:Int)==(q.color.b.toNat:Int))&&((p.color.a.toNat:Int)==(q.color.a.toNat:Int))))))&&((p.p0.x==q.p0.x)&&(p.p0.y==q.p0.y)))&&((p.p1.x==q.p1.x)&&(p.p1.y==q.p1.y)))&&((p.bn)==q.bn))&&((p.spread)==q.spread))&&((p.bY)==q.bY))&&(decide (p.stops=q.stops)))&&(p.img.eq q.img))&&(p.t.q.eq q.t.q)
def ak.valid(p:ak):Bool:=cond ((!(p.t.q.valid))||(!(p.without.eq (ak.bare p.kind)))) (false) (cond ((p.kind)==1) ((p.t.q.eq bD.none.q)) (cond ((p.kind)==2) (cond (((!(kU.valid ⟨p.p0.x,p.p0.y⟩))||(!(kU.valid ⟨p.p1.x,p.p1.y⟩)))||(!(fA p.stops&&jc p.spread))) (false) (((lD p.t.q.wV q0)) != 0)) (cond ((p.kind)==3) (cond ((((!(kU.valid ⟨p.p0.x,p.p0.y⟩))||(decide (p.bn<1)))||(decide (1048576<p.bn)))||(!(fA p.stops&&jc p.spread))) (false) (((lD p.t.q.wV q0)) != 0)) (cond ((p.kind)==4) (cond (((!(p.img.valid))||(((p.spread) != 0)&&(!(jc p.spread))))||(((p.bY) != 1)&&((p.bY) != 2))) (false) (((lD p.t.q.wV q0)) != 0)) (false)))))
open Go.RowKit
variable{α:Type}
theorem wW{w:World}{p q:ak}{K:Nat}(h:p.ok w)(h':q.ok w)(hf:p.t.fit K)(hf':q.t.fit K)(hK1:1≤K)(hK:K≤10000) :
  Calls prog 71 #[p.v,q.v] w fun e w'=>e = .returned (.bool (p.eq q))∧Ext w w':=by
 skip;refine anA func71 ntmps71 fun ac S=>anv fun _ aS=>anw S 2 p.cells fun ac u b2 E3 hb4 S=>anw S 3 q.cells fun ac u b5 E6 hb7 S=>adr S 1 [] [(4,.z)] fun S=>anu<|aS _ _<|anv fun _ eu=>anK S 69 [.mem 1 0,.mem 0 0,.mem 1 1,.mem 0 1,.cmp .eql 23 (.tmp 12) (.tmp 14) (.agg #[.u (p.color.r.toNat:Int),.u (p.color.g.toNat:Int),.u (p.color.b.toNat:Int),.u (p.color.a.toNat:Int)]) (.agg #[.u (q.color.r.toNat:Int),.u (q.color.g.toNat:Int),.u (q.color.b.toNat:Int),.u (q.color.a.toNat:Int)]) (.bool (((p.color.r.toNat:Int)==(q.color.r.toNat:Int))&&(((p.color.g.toNat:Int)==(q.color.g.toNat:Int))&&(((p.color.b.toNat:Int)==(q.color.b.toNat:Int))&&((p.color.a.toNat:Int)==(q.color.a.toNat:Int)))))),.mem 1 5,.mem 0 5,.cmp .eql 123 (.tmp 19) (.tmp 21) (.agg #[.i p.p0.x,.i p.p0.y]) (.agg #[.i q.p0.x,.i q.p0.y]) (.bool ((p.p0.x==q.p0.x)&&(p.p0.y==q.p0.y))),.mem 1 7,.mem 0 7,.cmp .eql 123 (.tmp 26) (.tmp 28) (.agg #[.i p.p1.x,.i p.p1.y]) (.agg #[.i q.p1.x,.i q.p1.y]) (.bool ((p.p1.x==q.p1.x)&&(p.p1.y==q.p1.y))),.mem 1 9,.mem 0 9,.mem 1 11,.mem 0 11,.mem 1 15,.mem 0 15,.mem 1 10,.mem 0 10,.mem 1 12,.mem 0 12,.mem 1 16,.mem 0 16] [(_,_,((((((((p.kind)==q.kind)&&(((p.color.r.toNat:Int)==(q.color.r.toNat:Int))&&(((p.color.g.toNat:Int)==(q.color.g.toNat:Int))&&(((p.color.b.toNat:Int)==(q.color.b.toNat:Int))&&((p.color.a.toNat:Int)==(q.color.a.toNat:Int))))))&&((p.p0.x==q.p0.x)&&(p.p0.y==q.p0.y)))&&((p.p1.x==q.p1.x)&&(p.p1.y==q.p1.y)))&&((p.bn)==q.bn))&&((p.spread)==q.spread))&&((p.bY)==q.bY)),.bool (p.stops=q.stops)),(_,_,(((((((((p.kind)==q.kind)&&(((p.color.r.toNat:Int)==(q.color.r.toNat:Int))&&(((p.color.g.toNat:Int)==(q.color.g.toNat:Int))&&(((p.color.b.toNat:Int)==(q.color.b.toNat:Int))&&((p.color.a.toNat:Int)==(q.color.a.toNat:Int))))))&&((p.p0.x==q.p0.x)&&(p.p0.y==q.p0.y)))&&((p.p1.x==q.p1.x)&&(p.p1.y==q.p1.y)))&&((p.bn)==q.bn))&&((p.spread)==q.spread))&&((p.bY)==q.bY))&&(decide (p.stops=q.stops))),.bool (p.img.eq q.img)),(_,_,((((((((((p.kind)==q.kind)&&(((p.color.r.toNat:Int)==(q.color.r.toNat:Int))&&(((p.color.g.toNat:Int)==(q.color.g.toNat:Int))&&(((p.color.b.toNat:Int)==(q.color.b.toNat:Int))&&((p.color.a.toNat:Int)==(q.color.a.toNat:Int))))))&&((p.p0.x==q.p0.x)&&(p.p0.y==q.p0.y)))&&((p.p1.x==q.p1.x)&&(p.p1.y==q.p1.y)))&&((p.bn)==q.bn))&&((p.spread)==q.spread))&&((p.bY)==q.bY))&&(decide (p.stops=q.stops)))&&(p.img.eq q.img)),.bool (p.t.q.eq q.t.q))] [(4,.bool (((((((((((p.kind)==q.kind)&&(((p.color.r.toNat:Int)==(q.color.r.toNat:Int))&&(((p.color.g.toNat:Int)==(q.color.g.toNat:Int))&&(((p.color.b.toNat:Int)==(q.color.b.toNat:Int))&&((p.color.a.toNat:Int)==(q.color.a.toNat:Int))))))&&((p.p0.x==q.p0.x)&&(p.p0.y==q.p0.y)))&&((p.p1.x==q.p1.x)&&(p.p1.y==q.p1.y)))&&((p.bn)==q.bn))&&((p.spread)==q.spread))&&((p.bY)==q.bY))&&(decide (p.stops=q.stops)))&&(p.img.eq q.img))&&(p.t.q.eq q.t.q)))] ⟨fun u hC g=>QG (h.2.2.2.2.1.below (Ext.trans' S.E hC)) (h'.2.2.2.2.1.below (Ext.trans' S.E hC)),fun u hC g=>vH (m:=p.img) (n:=q.img) (h.2.2.2.2.2.2.2.1.below (Ext.trans' S.E hC)) (h'.2.2.2.2.2.2.2.1.below (Ext.trans' S.E hC)),fun u hC g=>zO p.t.v q.t.v p.t.q q.t.q K _ ((bD.toQ h.2.2.2.2.2.2.2.2.2 hf).fM (Ext.trans' S.E hC)) ((bD.toQ h'.2.2.2.2.2.2.2.2.2 hf').fM (Ext.trans' S.E hC)) hK1 hK,trivial⟩ (hk:=⟨anN (fun _=>I8 ..) (by kernel_rfl),anN (fun _=>eqPt ..) (by kernel_rfl),anN (fun _=>eqPt ..) (by kernel_rfl),trivial⟩) fun ac u E9 S=>anu<|eu _ _<|anz S results71 ?_;exact⟨rfl,S.E⟩
theorem wX{w:World}{p:ak}(h:p.ok w) :
  Calls prog 322 #[p.v] w fun e w'=>e = .returned (.bool (fA p.stops&&jc p.spread))∧Ext w w':=by
 skip;refine anA func322 ntmps322 fun ac S=>anv fun _ aS=>anw S 1 p.cells fun ac u b2 E3 hb4 S=>adr S 1 [] [(2,.z)] fun S=>anu<|aS _ _<|anv fun _ bM=>adr S 2 [.mem 0 10] [(4,p.sv)] fun S=>anE S 5 (Iw (h.2.2.2.2.1.below S.E)) fun ac u E6 S=>anK S 6 [.mem 0 11] [(_,_,(fA p.stops),.bool (jc p.spread))] [(2,.bool ((fA p.stops)&&(jc p.spread)))] ⟨fun u hC g=>anO (EX p.spread _),trivial⟩ fun ac u E7 S=>anu<|bM _ _<|anz S results322 ?_;exact⟨rfl,S.E⟩
open Go.RowKit
variable{α:Type}
theorem NZ{w:World}{p:ak}(h:p.ok w) :
  Calls prog 321 #[p.v] w fun e w'=>e = .returned p.without.v∧Ext w w':=by
 obtain⟨h1,h2,h3,h4,h5,h6,h7,h8,h9,h10⟩:=h;obtain⟨t0,t1,t2,t3,t4,t5⟩:=h10;have o0:=Vp.Zp h5;have o1:=Vp.Zp h8.2.2;have o2:=Vp.mW t0.1;have o3:=Vp.mW t0.2;have o4:=Vp.mW t1.1;have o5:=Vp.mW t1.2;have o6:=Vp.mW t2.1;have o7:=Vp.mW t2.2;have o8:=Vp.mW t3.1;have o9:=Vp.mW t3.2;have o10:=Vp.mW t4.1;have o11:=Vp.mW t4.2;have o12:=Vp.mW t5.1;have o13:=Vp.mW t5.2;refine anA func321 ntmps321 fun ac S=>anv fun _ aS=>anw S 1 p.cells fun ac u b2 E3 hb4 S=>anw S 2 (Sx.L [.i 0,.u 0,.u 0,.u 0,.u 0,.i 0,.i 0,.i 0,.i 0,.i 0,.sn,.i 0,.i 0,.i 0,.sn,.i 0]++Sx.za) fun ac u b5 E6 hb7 S=>anu<|aS _ _<|anv fun _ eu=>adr S 1 [.mem 1 0] [(4,p.v)] fun S=>anw S 3 (Sx.L [.i 0,.u 0,.u 0,.u 0,.u 0,.i 0,.i 0,.i 0,.i 0,.i 0,.sn,.i 0,.i 0,.i 0,.sn,.i 0]++Sx.za) fun ac u b9 X3 N7 S=>anC S 0 (off:=0) (cs:=p.cells) rfl fun u C12 S=>anu<|eu _ _<|anv fun _ iH=>adr S 2 [] [(5,.agg Sx.za.toArray),(6,.q b9 16)] fun S=>anC S 0 (off:=16) (cs:=Sx.za) rfl fun u C14 S=>anu<|iH _ _<|anV fun _ gQ=>anv fun _ iM=>adr S 2 [.mem 2 0] [(8,.i p.kind)] fun S=>anu<|iM _ _<|an1<|anv fun _ gV=>adr S 2 [] [(9,.bool ((p.kind)==1))] fun S=>anu (gV _ _ ?_);refine anx S (fun hc18=>?_) (fun hc18=>?_)
 ·refine an3<|adr S 2 [] [(11,.agg #[.u 0,.u 0,.u 0,.u 0]),(12,.q b9 1)] fun S=>anC S 0 (off:=1) (cs:=[.u 0,.u 0,.u 0,.u 0]) rfl fun u Wu S=>anu<|gQ _ _<|anv fun _ jk=>adr S 1 [.mem 0 0] [(34,.agg (Sx.L [.i p.kind,.u 0,.u 0,.u 0,.u 0,.i p.p0.x,.i p.p0.y,.i p.p1.x,.i p.p1.y,.i p.bn,p.sv,.i p.spread]++p.img.cells++Sx.L [.i p.bY]++Sx.za).toArray)] fun S=>anC S 1 (off:=0) (cs:=(Sx.L [.i p.kind,.u 0,.u 0,.u 0,.u 0,.i p.p0.x,.i p.p0.y,.i p.p1.x,.i p.p1.y,.i p.bn,p.sv,.i p.spread]++p.img.cells++Sx.L [.i p.bY]++Sx.za)) rfl fun u C21 S=>anu<|jk _ _<|an2 ?_;have e:p.without=p.Um:=by unfold ak.without; rw[hc18]; rfl
  refine Sx.Wv S 1 results321 rfl (v := .agg (Sx.L [.i p.kind,.u 0,.u 0,.u 0,.u 0,.i p.p0.x,.i p.p0.y,.i p.p1.x,.i p.p1.y,.i p.bn,p.sv,.i p.spread]++p.img.cells++Sx.L [.i p.bY]++Sx.za).toArray) ?_;exact⟨by rw[e]; rfl,S.E⟩
 refine anv fun _ jA=>adr S 2 [] [(13,.bool ((p.kind)==2))] fun S=>anu (jA _ _ ?_);refine anx S (fun pF=>?_) (fun pF=>?_)
 ·refine an3<|adr S 3 [] [(15,.agg #[.i 0,.i 0]),(16,.agg #[.i 0,.i 0]),(17,.q b9 5)] fun S=>anC S 0 (off:=5) (cs:=[.i 0,.i 0]) rfl fun u C24 S=>adr S 1 [] [(18,.q b9 7)] fun S=>anC S 0 (off:=7) (cs:=[.i 0,.i 0]) rfl fun u X6 S=>adr S 1 [] [(19,.q b9 10)] fun S=>anT S 0 (off:=10) (v := .sn) rfl fun u C26 S=>adr S 1 [] [(20,.q b9 11)] fun S=>anT S 0 (off:=11) (v := .i 0) rfl fun u C27 S=>anu<|gQ _ _<|anv fun _ ni=>adr S 1 [.mem 0 0] [(34,.agg (Sx.L [.i p.kind]++p.color.cells++Sx.L [.i 0,.i 0,.i 0,.i 0,.i p.bn,.sn,.i 0]++p.img.cells++Sx.L [.i p.bY]++Sx.za).toArray)] fun S=>anC S 1 (off:=0) (cs:=(Sx.L [.i p.kind]++p.color.cells++Sx.L [.i 0,.i 0,.i 0,.i 0,.i p.bn,.sn,.i 0]++p.img.cells++Sx.L [.i p.bY]++Sx.za)) rfl fun u C29 S=>anu<|ni _ _<|an2 ?_;have e:p.without=p.only2:=by unfold ak.without; rw[hc18,pF]; rfl
  refine Sx.Wv S 1 results321 rfl (v := .agg (Sx.L [.i p.kind]++p.color.cells++Sx.L [.i 0,.i 0,.i 0,.i 0,.i p.bn,.sn,.i 0]++p.img.cells++Sx.L [.i p.bY]++Sx.za).toArray) ?_;exact⟨by rw[e]; rfl,S.E⟩
 refine anv fun _ mM=>adr S 2 [] [(21,.bool ((p.kind)==3))] fun S=>anu (mM _ _ ?_);refine anx S (fun hc31=>?_) (fun hc31=>?_)
 ·refine an3<|adr S 2 [] [(23,.agg #[.i 0,.i 0]),(24,.q b9 5)] fun S=>anC S 0 (off:=5) (cs:=[.i 0,.i 0]) rfl fun u C32 S=>adr S 1 [] [(25,.q b9 9)] fun S=>anT S 0 (off:=9) (v := .i 0) rfl fun u Ya S=>adr S 1 [] [(26,.q b9 10)] fun S=>anT S 0 (off:=10) (v := .sn) rfl fun u C34 S=>adr S 1 [] [(27,.q b9 11)] fun S=>anT S 0 (off:=11) (v := .i 0) rfl fun u C35 S=>anu<|gQ _ _<|anv fun _ nD=>adr S 1 [.mem 0 0] [(34,.agg (Sx.L [.i p.kind]++p.color.cells++Sx.L [.i 0,.i 0,.i p.p1.x,.i p.p1.y,.i 0,.sn,.i 0]++p.img.cells++Sx.L [.i p.bY]++Sx.za).toArray)] fun S=>anC S 1 (off:=0) (cs:=(Sx.L [.i p.kind]++p.color.cells++Sx.L [.i 0,.i 0,.i p.p1.x,.i p.p1.y,.i 0,.sn,.i 0]++p.img.cells++Sx.L [.i p.bY]++Sx.za)) rfl fun u C37 S=>anu<|nD _ _<|an2 ?_;have e:p.without=p.Un:=by unfold ak.without; rw[hc18,pF,hc31]; rfl
  refine Sx.Wv S 1 results321 rfl (v := .agg (Sx.L [.i p.kind]++p.color.cells++Sx.L [.i 0,.i 0,.i p.p1.x,.i p.p1.y,.i 0,.sn,.i 0]++p.img.cells++Sx.L [.i p.bY]++Sx.za).toArray) ?_;exact⟨by rw[e]; rfl,S.E⟩
 refine anv fun _ l7=>adr S 2 [] [(28,.bool ((p.kind)==4))] fun S=>anu (l7 _ _ ?_);refine anx S (fun hc39=>?_) (fun hc39=>?_)
 ·refine an3<|adr S 2 [] [(30,.agg #[.i 0,.i 0,.sn]),(31,.q b9 12)] fun S=>anC S 0 (off:=12) (cs:=[.i 0,.i 0,.sn]) rfl fun u C40 S=>adr S 1 [] [(32,.q b9 11)] fun S=>anT S 0 (off:=11) (v := .i 0) rfl fun u C41 S=>adr S 1 [] [(33,.q b9 15)] fun S=>anT S 0 (off:=15) (v := .i 0) rfl fun u C42 S=>anu<|gQ _ _<|anv fun _ rX=>adr S 1 [.mem 0 0] [(34,.agg (Sx.L [.i p.kind]++p.color.cells++Sx.L [.i p.p0.x,.i p.p0.y,.i p.p1.x,.i p.p1.y,.i p.bn,p.sv,.i 0,.i 0,.i 0,.sn,.i 0]++Sx.za).toArray)] fun S=>anC S 1 (off:=0) (cs:=(Sx.L [.i p.kind]++p.color.cells++Sx.L [.i p.p0.x,.i p.p0.y,.i p.p1.x,.i p.p1.y,.i p.bn,p.sv,.i 0,.i 0,.i 0,.sn,.i 0]++Sx.za)) rfl fun u C44 S=>anu<|rX _ _<|an2 ?_;have e:p.without=p.Uo:=by unfold ak.without; rw[hc18,pF,hc31,hc39]; rfl
  refine Sx.Wv S 1 results321 rfl (v := .agg (Sx.L [.i p.kind]++p.color.cells++Sx.L [.i p.p0.x,.i p.p0.y,.i p.p1.x,.i p.p1.y,.i p.bn,p.sv,.i 0,.i 0,.i 0,.sn,.i 0]++Sx.za).toArray) ?_;exact⟨by rw[e]; rfl,S.E⟩
 refine anZ<|gQ _ _<|anv fun _ FI=>adr S 1 [.mem 0 0] [(34,.agg (Sx.L [.i p.kind]++p.color.cells++Sx.L [.i p.p0.x,.i p.p0.y,.i p.p1.x,.i p.p1.y,.i p.bn,p.sv,.i p.spread]++p.img.cells++Sx.L [.i p.bY]++Sx.za).toArray)] fun S=>anC S 1 (off:=0) (cs:=(Sx.L [.i p.kind]++p.color.cells++Sx.L [.i p.p0.x,.i p.p0.y,.i p.p1.x,.i p.p1.y,.i p.bn,p.sv,.i p.spread]++p.img.cells++Sx.L [.i p.bY]++Sx.za)) rfl fun u C46 S=>anu<|FI _ _<|an2 ?_;have e:p.without=p.Zm:=by unfold ak.without; rw[hc18,pF,hc31,hc39]; rfl
 refine Sx.Wv S 1 results321 rfl (v := .agg (Sx.L [.i p.kind]++p.color.cells++Sx.L [.i p.p0.x,.i p.p0.y,.i p.p1.x,.i p.p1.y,.i p.bn,p.sv,.i p.spread]++p.img.cells++Sx.L [.i p.bY]++Sx.za).toArray) ?_;exact⟨by rw[e]; rfl,S.E⟩
open Go.RowKit
variable{α:Type}
theorem FK{w:World}{p:ak}{K:Nat}(h:p.ok w)(hf:p.t.fit K)(hK1:1≤K)(hK:K≤10000) :
  Calls prog 290 #[p.v] w fun e w'=>e = .returned (.bool p.valid)∧Ext w w':=by
 skip;refine anA func290 ntmps290 fun ac S=>anv fun _ aS=>anw S 1 p.cells fun ac u b2 E3 hb4 S=>adr S 1 [] [(2,.z)] fun S=>anu<|aS _ _<|anV fun _ bM=>anV fun _ iL=>anI S 13 [.mem 0 16,.mem 0 0,.mem 0 0] [(_,_,true,.bool (p.t.q.valid)),(_,_,(!(!(p.t.q.valid))),p.without.v),(_,_,(!(!(p.t.q.valid))),.bool (p.without.eq (ak.bare p.kind)))] [(15,.bool ((!(p.t.q.valid))||(!(p.without.eq (ak.bare p.kind)))))] ⟨fun u hC g=>FM p.t.v p.t.q K _ ((bD.toQ h.2.2.2.2.2.2.2.2.2 hf).fM (Ext.trans' S.E hC)) hK1 (by omega),fun u hC g=>NZ (h.below (Ext.trans' S.E hC)),fun u hC g=>wW (p:=p.without) (q:=ak.bare p.kind) (K:=K) ((ak.Rl h).below (Ext.trans' S.E hC)) (ak.pX h.1 _) (ak.NY p K) (bD.je K) hK1 hK,trivial⟩ fun ac u E7 S=>anu (iL _ _ ?_);refine anx S (fun hc8=>?_) (fun hc8=>?_)
 ·refine anv fun _ ig=>adr S 1 [] [(2,.z)] fun S=>anu<|ig _ _<|anz S results290 ?_;exact⟨aC (by unfold ak.valid; rw[hc8]; rfl),S.E⟩
 refine anZ<|bM _ _<|anV fun _ eX=>anv fun _ cZ=>adr S 2 [.mem 0 0] [(17,.i p.kind)] fun S=>anu<|cZ _ _<|an1<|anv fun _ dW=>adr S 2 [] [(18,.bool ((p.kind)==1))] fun S=>anu (dW _ _ ?_);refine anx S (fun hc13=>?_) (fun hc13=>?_)
 ·refine anv fun _ fP=>adr S 3 [.mem 0 16] [(21,p.t.v),(22,.agg Sx.za.toArray)] fun S=>anE S 23 (zO p.t.v bD.none.v p.t.q bD.none.q K _ ((bD.toQ h.2.2.2.2.2.2.2.2.2 hf).fM S.E) ((bD.toQ (bD.iy _) (bD.je K)).fM (aor _ _)) hK1 hK) fun ac u Ez S=>adr S 1 [] [(2,.bool (p.t.q.eq bD.none.q))] fun S=>anu<|fP _ _<|anz S results290 ?_;exact⟨aC (by unfold ak.valid; rw[hc8,hc13]; rfl),S.E⟩
 refine anv fun _ iM=>adr S 2 [] [(24,.bool ((p.kind)==2))] fun S=>anu (iM _ _ ?_);refine anx S (fun hc17=>?_) (fun hc17=>?_)
 ·refine anv fun _ iI=>adr S 2 [.mem 0 5] [(27,.agg #[.i p.p0.x,.i p.p0.y])] fun S=>anE S 28 (lS (p.p0.x) (p.p0.y) _) fun ac u Il S=>anK S 12 [.mem 0 7,.mem 0 0] [(_,_,(!(!(kU.valid ⟨p.p0.x,p.p0.y⟩))),.bool (kU.valid ⟨p.p1.x,p.p1.y⟩)),(_,_,(!((!(kU.valid ⟨p.p0.x,p.p0.y⟩))||(!(kU.valid ⟨p.p1.x,p.p1.y⟩)))),.bool (fA p.stops&&jc p.spread))] [(40,.bool (((!(kU.valid ⟨p.p0.x,p.p0.y⟩))||(!(kU.valid ⟨p.p1.x,p.p1.y⟩)))||(!(fA p.stops&&jc p.spread))))] ⟨fun u hC g=>lS (p.p1.x) (p.p1.y) _,fun u hC g=>wX (h.below (Ext.trans' S.E hC)),trivial⟩ fun ac u Am S=>anu (iI _ _ ?_);refine anx S (fun hc21=>?_) (fun hc21=>?_)
  ·refine anv fun _ jA=>adr S 1 [] [(2,.z)] fun S=>anu<|jA _ _<|anz S results290 ?_;exact⟨aC (by unfold ak.valid; rw[hc8,hc13,hc17,hc21]; rfl),S.E⟩
  refine anZ<|eX _ _<|anv fun _ qL=>adr S 2 [.mem 0 16] [(90,p.t.v)] fun S=>anB S (some 91) (Ur p.t.v p.t.q K _ ((bD.toQ h.2.2.2.2.2.2.2.2.2 hf).fM S.E) hK1 hK) ?_;rintro e u ⟨x,rfl,hd,MQ⟩;refine⟨_,rfl,MQ,fun ac S=>?_⟩;refine adr S 1 [] [(92,.agg Sx.zr.toArray)] fun S=>anE S 93 (mO _ _ p.t.q.wV q0 (K+K+(K+K)+1) 1 _ (aB.toQ hd (yj _) (yu hK1 (Wq.Ws ((bD.toQ h.2.2.2.2.2.2.2.2.2 hf).fM (aor _ _)) hK1))) (zN _) (by omega) (by omega) (by omega) (by omega)) fun ac u Ap S=>adr S 2 [] [(2,.bool (((lD p.t.q.wV q0)) != 0))] fun S=>anu<|qL _ _<|anz S results290 ?_;exact⟨aC (by unfold ak.valid; rw[hc8,hc13,hc17,hc21]; rfl),S.E⟩
 refine anv fun _ jf=>adr S 2 [] [(41,.bool ((p.kind)==3))] fun S=>anu (jf _ _ ?_);refine anx S (fun hc27=>?_) (fun hc27=>?_)
 ·refine anv fun _ ni=>adr S 2 [.mem 0 5] [(44,.agg #[.i p.p0.x,.i p.p0.y])] fun S=>anE S 45 (lS (p.p0.x) (p.p0.y) _) fun ac u BZ S=>anK S 16 [.mem 0 9,.mem 0 9,.mem 0 0] [(_,_,(!(((!(kU.valid ⟨p.p0.x,p.p0.y⟩))||(decide (p.bn<1)))||(decide (1048576<p.bn)))),.bool (fA p.stops&&jc p.spread))] [(61,.bool ((((!(kU.valid ⟨p.p0.x,p.p0.y⟩))||(decide (p.bn<1)))||(decide (1048576<p.bn)))||(!(fA p.stops&&jc p.spread))))] ⟨fun u hC g=>wX (h.below (Ext.trans' S.E hC)),trivial⟩ fun ac u E30 S=>anu (ni _ _ ?_);refine anx S (fun hc31=>?_) (fun hc31=>?_)
  ·refine anv fun _ mZ=>adr S 1 [] [(2,.z)] fun S=>anu<|mZ _ _<|anz S results290 ?_;exact⟨aC (by unfold ak.valid; rw[hc8,hc13,hc17,hc27,hc31]; rfl),S.E⟩
  refine anZ<|eX _ _<|anv fun _ jO=>adr S 2 [.mem 0 16] [(90,p.t.v)] fun S=>anB S (some 91) (Ur p.t.v p.t.q K _ ((bD.toQ h.2.2.2.2.2.2.2.2.2 hf).fM S.E) hK1 hK) ?_;rintro e u ⟨x,rfl,hd,MV⟩;refine⟨_,rfl,MV,fun ac S=>?_⟩;refine adr S 1 [] [(92,.agg Sx.zr.toArray)] fun S=>anE S 93 (mO _ _ p.t.q.wV q0 (K+K+(K+K)+1) 1 _ (aB.toQ hd (yj _) (yu hK1 (Wq.Ws ((bD.toQ h.2.2.2.2.2.2.2.2.2 hf).fM (aor _ _)) hK1))) (zN _) (by omega) (by omega) (by omega) (by omega)) fun ac u J7 S=>adr S 2 [] [(2,.bool (((lD p.t.q.wV q0)) != 0))] fun S=>anu<|jO _ _<|anz S results290 ?_;exact⟨aC (by unfold ak.valid; rw[hc8,hc13,hc17,hc27,hc31]; rfl),S.E⟩
 refine anv fun _ nD=>adr S 2 [] [(62,.bool ((p.kind)==4))] fun S=>anu (nD _ _ ?_);refine anx S (fun vN=>?_) (fun vN=>?_)
 ·refine anv fun _ l7=>adr S 2 [.mem 0 12] [(65,p.img.v)] fun S=>anE S 66 (AA (m:=p.img) (h.2.2.2.2.2.2.2.1.below S.E)) fun ac u TW S=>anK S 22 [.mem 0 11,.mem 0 11,.mem 0 15,.mem 0 15] [(_,_,((!(!(p.img.valid)))&&((p.spread) != 0)),.bool (jc p.spread))] [(88,.bool (((!(p.img.valid))||(((p.spread) != 0)&&(!(jc p.spread))))||(((p.bY) != 1)&&((p.bY) != 2))))] ⟨fun u hC g=>anO (EX p.spread _),trivial⟩ fun ac u E40 S=>anu (l7 _ _ ?_);refine anx S (fun Wx=>?_) (fun Wx=>?_)
  ·refine anv fun _ sF=>adr S 1 [] [(2,.z)] fun S=>anu<|sF _ _<|anz S results290 ?_;exact⟨aC (by unfold ak.valid; rw[hc8,hc13,hc17,hc27,vN,Wx]; rfl),S.E⟩
  refine anZ<|eX _ _<|anv fun _ rX=>adr S 2 [.mem 0 16] [(90,p.t.v)] fun S=>anB S (some 91) (Ur p.t.v p.t.q K _ ((bD.toQ h.2.2.2.2.2.2.2.2.2 hf).fM S.E) hK1 hK) ?_;rintro e u ⟨x,rfl,hd,Vy⟩;refine⟨_,rfl,Vy,fun ac S=>?_⟩;refine adr S 1 [] [(92,.agg Sx.zr.toArray)] fun S=>anE S 93 (mO _ _ p.t.q.wV q0 (K+K+(K+K)+1) 1 _ (aB.toQ hd (yj _) (yu hK1 (Wq.Ws ((bD.toQ h.2.2.2.2.2.2.2.2.2 hf).fM (aor _ _)) hK1))) (zN _) (by omega) (by omega) (by omega) (by omega)) fun ac u E45 S=>adr S 2 [] [(2,.bool (((lD p.t.q.wV q0)) != 0))] fun S=>anu<|rX _ _<|anz S results290 ?_;exact⟨aC (by unfold ak.valid; rw[hc8,hc13,hc17,hc27,vN,Wx]; rfl),S.E⟩
 refine anv fun _ Ef=>adr S 1 [] [(2,.z)] fun S=>anu<|Ef _ _<|anz S results290 ?_;exact⟨aC (by unfold ak.valid; rw[hc8,hc13,hc17,hc27,vN]; rfl),S.E⟩
theorem Zq{w:World}{p:ak}{K:Nat}(h:p.ok w)(hf:p.t.fit K)(hK1:1≤K)(hK:K≤10000) :
  Calls prog 289 #[p.v] w fun e w'=>e = .returned (.bool (!p.valid))∧Ext w w':=by
 skip;refine anA func289 ntmps289 fun ac S=>anv fun _ aS=>anw S 1 p.cells fun ac u b2 E3 hb4 S=>adr S 1 [] [(2,.z)] fun S=>anu<|aS _ _<|anv fun _ bM=>adr S 1 [.mem 0 0] [(3,p.v)] fun S=>anE S 4 (FK (h.below S.E) hf hK1 hK) fun ac u E6 S=>adr S 2 [] [(2,.bool (!p.valid))] fun S=>anu<|bM _ _<|anz S results289 ?_;exact⟨rfl,S.E⟩
open Go.RowKit
variable{α:Type}{K:Nat}
def ql(K:Nat)(w:World)(v:Value)(l:List ak):Prop:=jM w v l∧(∀p∈l,p.t.fit K)∧1≤K∧K≤10000
theorem ql.below{w w':World}{v:Value}{l:List ak}(h:ql K w v l)(hb:Ext w w'):ql K w' v l:=⟨h.1.below hb,h.2⟩
theorem Ut:∃ie,Tryz.prog.info? 177=some ie∧ie.size=1∧ie.zero=some .nilIface:=by
 have h1:(Tryz.prog.info? 177).map (fun i=>(i.size,i.zero))=some (1,some .nilIface):=by kernel_rfl
 cases h:Tryz.prog.info? 177 with
 | none=>rw[h]at h1; cases h1
 | some i=>rw[h]at h1; simp at h1; exact⟨i,rfl,h1.1,h1.2⟩
theorem fU(b:Bool)(n:Int):(dN b n).cells = #[dN b n]:=by unfold dN; split<;>rfl
theorem Jq{P:Program}{ρ:Operand→Value}{o:Oper}{w w1:World}{t:TypeId}{n:Nat}{parts:Array (Nat×Operand)}{vs:Array (Nat×Value)}{V:Value}(hop:o.op = .buildSlice t n parts)(hp:(parts.map fun(i,x)=>(i,ρ x))=vs)(h:(Instr.buildSlice t n vs).run P w = .ok V w1) :
  (execOp ρ o).run P w = .ok (.value V) w1:=by
 unfold execOp;simp only[hop,hp,aoV,h];rfl
theorem Wy(v0 v1 v2 v3 v4 v5:Value)(w:World)(h0:v0.cells = #[v0])(h1:v1.cells = #[v1])(h2:v2.cells = #[v2])(h3:v3.cells = #[v3])(h4:v4.cells = #[v4])(h5:v5.cells = #[v5]) :
  (Instr.buildSlice 288 6 #[(0,v0),(1,v1),(2,v2),(3,v3),(4,v4),(5,v5)]).run prog w = .ok (.slice (some ⟨w.heap.size,0,none⟩) 6 6) (w.alloc (.cells #[v0,v1,v2,v3,v4,v5] 177)):=by
 obtain⟨ie,hi,hs,hz⟩:=Ut;refine run_buildSlice w _ 177 6 _ _ ie .nilIface underlying288 hi hz (by rw[hs]; decide) (by rw[hs]; decide) ?_;rw[hs];have ez:((Array.range (6*1)).map (Value.nilIface.cells[· % Value.nilIface.cells.size]!)) = #[.nilIface,.nilIface,.nilIface,.nilIface,.nilIface,.nilIface]:=by kernel_rfl
 rw[ez];simp[Instr.fill,h0,h1,h2,h3,h4,h5]
theorem N8{Q:Exit→Act→World→Prop}{ops:Array Oper}{w0:World}{a:Act}{w:World}{os:List Oper}{N:Nat}{l:List (Nat×Value)}{bl:List (Nat×List Value)}{vs:List Sx.gX}(S:Sx.St w0 a w N l bl vs)(d:Nat)(v0 v1 v2 v3 v4 v5:Value){t0 t1 t2 t3 t4 t5:Nat}{o:Oper}{os':List Oper} 
  (hos:os=o::os') (hg:o.guard=none) (hd:o.dst=some d) (hop:o.op = .buildSlice 288 6 #[(0,.tmp t0),(1,.tmp t1),(2,.tmp t2),(3,.tmp t3),(4,.tmp t4),(5,.tmp t5)]) (c0:v0.cells = #[v0]) (c1:v1.cells = #[v1]) (c2:v2.cells = #[v2]) (c3:v3.cells = #[v3]) (c4:v4.cells = #[v4]) (c5:v5.cells = #[v5])
  (next:∀a' w' b,Ext w w'→b=w.heap.size→Sx.St w0 a' w' N ((d,.slice (some ⟨b,0,none⟩) 6 6)::l) ((b,[v0,v1,v2,v3,v4,v5])::bl) vs→wpList prog ops Q (os.drop 1) a' w')
  (l0:l.lookup t0=some v0:=by kernel_rfl) (l1:l.lookup t1=some v1:=by kernel_rfl) (l2:l.lookup t2=some v2:=by kernel_rfl) (l3:l.lookup t3=some v3:=by kernel_rfl) (l4:l.lookup t4=some v4:=by kernel_rfl) (l5:l.lookup t5=some v5:=by kernel_rfl) (hdn:Sx.Cb N (some d)=true:=by rfl):wpList prog ops Q os a w:=
 Sx.Zr S d [v0,v1,v2,v3,v4,v5] 177 (fun b => .slice (some ⟨b,0,none⟩) 6 6) hos hg hd (Jq hop (by simp[S.s.has _ _ l0,S.s.has _ _ l1,S.s.has _ _ l2,S.s.has _ _ l3,S.s.has _ _ l4,S.s.has _ _ l5]) (Wy v0 v1 v2 v3 v4 v5 w c0 c1 c2 c3 c4 c5)) next hdn
theorem WA(v0 v1:Value)(w:World)(h0:v0.cells = #[v0])(h1:v1.cells = #[v1]) :
  (Instr.buildSlice 288 2 #[(0,v0),(1,v1)]).run prog w = .ok (.slice (some ⟨w.heap.size,0,none⟩) 2 2) (w.alloc (.cells #[v0,v1] 177)):=by
 obtain⟨ie,hi,hs,hz⟩:=Ut;refine run_buildSlice w _ 177 2 _ _ ie .nilIface underlying288 hi hz (by rw[hs]; decide) (by rw[hs]; decide) ?_;rw[hs];have ez:((Array.range (2*1)).map (Value.nilIface.cells[· % Value.nilIface.cells.size]!)) = #[.nilIface,.nilIface]:=by kernel_rfl
 rw[ez];simp[Instr.fill,h0,h1]
theorem Zt{Q:Exit→Act→World→Prop}{ops:Array Oper}{w0:World}{a:Act}{w:World}{os:List Oper}{N:Nat}{l:List (Nat×Value)}{bl:List (Nat×List Value)}{vs:List Sx.gX}(S:Sx.St w0 a w N l bl vs)(d:Nat)(v0 v1:Value){t0 t1:Nat}{o:Oper}{os':List Oper} 
  (hos:os=o::os') (hg:o.guard=none) (hd:o.dst=some d) (hop:o.op = .buildSlice 288 2 #[(0,.tmp t0),(1,.tmp t1)]) (c0:v0.cells = #[v0]) (c1:v1.cells = #[v1])
  (next:∀a' w' b,Ext w w'→b=w.heap.size→Sx.St w0 a' w' N ((d,.slice (some ⟨b,0,none⟩) 2 2)::l) ((b,[v0,v1])::bl) vs→wpList prog ops Q (os.drop 1) a' w')
  (l0:l.lookup t0=some v0:=by kernel_rfl) (l1:l.lookup t1=some v1:=by kernel_rfl) (hdn:Sx.Cb N (some d)=true:=by rfl):wpList prog ops Q os a w:=
 Sx.Zr S d [v0,v1] 177 (fun b => .slice (some ⟨b,0,none⟩) 2 2) hos hg hd (Jq hop (by simp[S.s.has _ _ l0,S.s.has _ _ l1]) (WA v0 v1 w c0 c1)) next hdn
theorem FN{w:World}{v:Value}{l:List ak}(h:ql K w v l) :
  Calls prog 320 #[v,.func (.func 289) #[] #[]] w fun e w'=>∃z,e = .returned (.i z)∧decide (0≤z) = !(l.all ak.valid)∧Ext w w':=by
 obtain⟨a,cap,rfl⟩:=h.1.1.shape;have hmax:l.length≤9223372036854775807:=h.1.1.len;refine anA func320 ntmps320 fun ac S=>anv fun _ aS=>adr S 1 [] [(4,.i 0)] fun S=>anu<|aS _ _<|anV fun _ eP=>anv fun _ jv=>adr S 3 [] [(7,.i l.length),(8,.i 0)] fun S=>anu<|jv _ _<|an1 ?_;refine aow (ι:=Nat) (fun p a' w'=>p≤l.length∧((l.take p).all ak.valid=true)∧Sx.St w a' w' 19 [(0,.slice a l.length cap),(1,.func (.func 289) #[] #[]),(4,.i 0),(7,.i l.length),(8,.i p)] [] []) (fun p=>l.length-p) (0) ⟨aoa _,rfl,S.sn⟩ ?_;rintro k ac u hI;try dsimp only at hI
 obtain⟨hk,hR,S⟩:=hI;refine anv fun _ oq=>adr S 1 [] [(9,.bool ((k:Int)<(l.length:Int)))] fun S=>anu<|oq _ _<|anV (fun _ bM=>?_);refine anx S (fun hc6=>?_) (fun hc6=>?_)
 ·refine anZ<|bM _ _<|anV fun _ iZ=>an1<|anv fun _ eu=>adr S 2 [] [(5,.i k)] fun S=>anu<|eu _ _<|anv (fun _ ig=>?_);have qX:k<l.length:=by have:=aoe hc6; omega
  obtain⟨b10,o11,rfl,x16,wG,Ku,EW⟩:=aom h.1.1 (fun _=>rfl) (k) qX;have S:=S.view0 Ku EW;refine adr S 5 [.idx k l.length,.mem 0 0] [(11,.func (.func 289) #[] #[]),(15,x16.v)] (hk:=⟨qX,trivial⟩) fun S=>anE S 16 (Zq ((h.1.2 _ (wG▸aot qX)).below S.E) (h.2.1 _ (wG▸aot qX)) h.2.2.1 h.2.2.2) fun ac u uY S=>anu (ig _ _ ?_);refine anx S (fun hc19=>?_) (fun hc19=>?_)
  ·refine anv fun _ jk=>adr S 2 [] [(4,.i k)] fun S=>anu<|jk _ _<|anz S results320 ?_;exact⟨_,rfl,by rw[vF qX (by rw[wG]; simpa using hc19)]; simp,S.E⟩
  refine anZ<|iZ _ _<|an3<|adr S 2 [.re 18 (.i (IntKind.i64.wrap ((k:Int)+1))) (.i (k+1:Nat))] [(8,.i (k+1:Nat))] (hk:=⟨anJ (by omega),trivial⟩) fun S=>anu ?_;show ∃i',_∧_;exact⟨(k+1),⟨by omega,(kL qX hR (by rw[wG]; simpa using hc19)),S.sn⟩,by show _-_<_-_; omega⟩
 refine aod<|eP _ _<|anv fun _ jC=>adr S 1 [] [(4,.i (-1))] fun S=>anu<|jC _ _<|anz S results320 ?_;exact⟨_,rfl,by rw[nM (by have:=aoi hc6; omega) hR]; rfl,S.E⟩
theorem IC{w:World}{v:Value}{l:List ak}(h:ql K w v l) :
  Calls prog 288 #[v,.func (.func 289) #[] #[]] w fun e w'=>e = .returned (.bool (!(l.all ak.valid)))∧Ext w w':=by
 skip;refine anA func288 ntmps288 fun ac S=>anv fun _ aS=>adr S 1 [] [(4,.z)] fun S=>anu<|aS _ _<|anv fun _ eP=>adr S 2 [] [(5,v),(6,.func (.func 289) #[] #[])] fun S=>anB S (some 7) (FN (h.below S.E)) ?_;rintro e u ⟨z,rfl,hz,E3⟩;refine⟨_,rfl,E3,fun ac S=>?_⟩;refine adr S 2 [] [(4,.bool (0≤z))] fun S=>anu<|eP _ _<|anz S results288 ?_;exact⟨aC hz,S.E⟩
theorem Uu{w:World}{v:Value}{l:List ak}(h:ql K w v l) :
  Calls prog 245 #[v] w fun e w'=>e = .returned (.bool (l.all ak.valid))∧Ext w w':=by
 skip;refine anA func245 ntmps245 fun ac S=>anv fun _ aS=>adr S 1 [] [(2,.z)] fun S=>anu<|aS _ _<|anv fun _ eP=>adr S 1 [] [(3,v)] fun S=>anE S 4 (IC (h.below S.E)) fun ac u E3 S=>adr S 2 [] [(2,.bool (!(!(l.all ak.valid))))] fun S=>anu<|eP _ _<|anz S results245 ?_;exact⟨aC (by simp),S.E⟩
end Go.Proofs.YtapmgonflgahbaaGreatDoor
