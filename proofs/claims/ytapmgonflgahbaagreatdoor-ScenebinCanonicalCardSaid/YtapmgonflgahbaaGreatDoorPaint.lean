/- What paints say: plain laws. -/
import Derived.Test.YtapmgonflgahbaaGreatDoorImg
import Derived.Test.YtapmgonflgahbaaGreatDoorPk15
import Derived.Great.BuildSlice
set_option linter.unusedVariables false
set_option maxHeartbeats 1600000
set_option maxRecDepth 100000
namespace Go.Proofs.YtapmgonflgahbaaGreatDoor
open _root_.Go.Proofs.Tryz
open Go.RowKit
variable{α:Type}
def bJ.none:bJ:=⟨false,Option.none,0,[],false,Option.none,0,[]⟩
theorem bJ.zL:bJ.none.q=q0:=by decide
def bD.none:bD:=⟨.none,.none,.none,.none,.none,.none⟩
theorem bJ.iD(w:World):bJ.none.ok w:=⟨⟨Option.none,0,rfl,awt _,.inl ⟨rfl,fun _=>rfl⟩⟩,⟨Option.none,0,rfl,awt _,.inl ⟨rfl,fun _=>rfl⟩⟩⟩
theorem bJ.jh(K:Nat):bJ.none.fit K:=⟨awt _,awt _⟩
theorem bD.iD(w:World):bD.none.ok w:=⟨bJ.iD w,bJ.iD w,bJ.iD w,bJ.iD w,bJ.iD w,bJ.iD w⟩
theorem bD.jh(K:Nat):bD.none.fit K:=⟨bJ.jh K,bJ.jh K,bJ.jh K,bJ.jh K,bJ.jh K,bJ.jh K⟩
def dL.bare:dL:=⟨0,0,Option.none,0,[]⟩
theorem iH:I64 0:=⟨by decide,by decide⟩
theorem dL.jk(w:World):dL.bare.ok w:=⟨iH,iH,dH _ _ _⟩
def kV.none:kV:=⟨0,0⟩
theorem kV.iD:kV.none.ok:=⟨iH,iH⟩
def bW.none:bW:=⟨0,0,0,0⟩
def au.bare(k:Int):au:=⟨k,.none,.none,.none,0,Option.none,0,[],0,.bare,0,.none⟩
theorem au.jk{k:Int}(hk:I64 k)(w:World):(au.bare k).ok w:=⟨hk,kV.iD,kV.iD,iH,dH _ _ _,fun s hs=>by simp[au.bare]at hs,iH,dL.jk w,iH,bD.iD w⟩
def au.abE(p:au):au:={ p with t := .none,color := .none }
def au.only2(p:au):au:={ p with t := .none,p0 := .none,p1 := .none,sva:=Option.none,svc:=0,stops:=[],spread:=0 }
def au.abG(p:au):au:={ p with t := .none,p0 := .none,bH:=0,sva:=Option.none,svc:=0,stops:=[],spread:=0 }
def au.abH(p:au):au:={ p with t := .none,img := .bare,spread:=0,dn:=0 }
def au.abI(p:au):au:={ p with t := .none }
def au.without(p:au):au:=cond (p.kind==1) p.abE (cond (p.kind==2) p.only2 (cond (p.kind==3) p.abG (cond (p.kind==4) p.abH p.abI)))
theorem au.TS{w:World}{p:au}(h:p.ok w):p.without.ok w:=by
 obtain⟨h1,h2,h3,h4,h5,h6,h7,h8,h9,h10⟩:=h;have a:=bD.iD w;have r:=dH 5 dM.cells w;have n:∀s∈([]:List dM),s.ok:=fun s hs=>by simp at hs
 unfold au.without;cases (p.kind==1)<;>cases (p.kind==2)<;>cases (p.kind==3)<;>cases (p.kind==4);all_goals first
  | exact⟨h1,h2,h3,h4,h5,h6,h7,h8,h9,a⟩
  | exact⟨h1,kV.iD,kV.iD,h4,r,n,iH,h8,h9,a⟩
  | exact⟨h1,kV.iD,h3,iH,r,n,iH,h8,h9,a⟩
  | exact⟨h1,h2,h3,h4,h5,h6,iH,dL.jk w,iH,a⟩
theorem au.Pm(p:au)(K:Nat):p.without.t.fit K:=by
 unfold au.without;cases (p.kind==1)<;>cases (p.kind==2)<;>cases (p.kind==3)<;>cases (p.kind==4);all_goals exact bD.jh K
theorem zL(w:World):eY 1 w (.agg #[.z,.sn,.z,.sn]) q0:=by
 rw[←bJ.zL]; exact bJ.toQ (r:=bJ.none) (bJ.iD w) (bJ.jh 1)
theorem Ey(Q:Q6):LD Q.Ez:=TU _ _
theorem EC{K:Nat}{Q:Q6}(hK:1≤K)(h:abJ K Q):qlen (K+K+(K+K)+1) Q.Ez:=abK (by omega) (AQ hK h.1 h.2.2.2.1) (AQ hK h.2.1 h.2.2.1)
theorem aeL.aeM{K:Nat}{w:World}{v:Value}{Q:Q6}(h:mX K w v Q)(hK:1≤K):abJ K Q:=h.len hK
def au.eq(p q:au):Bool:=((((((((((p.kind)==q.kind)&&(((p.color.r.toNat:Int)==(q.color.r.toNat:Int))&&(((p.color.g.toNat:Int)==(q.color.g.toNat:Int))&&(((p.color.b.toNat:Int)==(q.color.b.toNat:Int))&&((p.color.a.toNat:Int)==(q.color.a.toNat:Int))))))&&((p.p0.x==q.p0.x)&&(p.p0.y==q.p0.y)))&&((p.p1.x==q.p1.x)&&(p.p1.y==q.p1.y)))&&((p.bH)==q.bH))&&((p.spread)==q.spread))&&((p.dn)==q.dn))&&(decide (p.stops=q.stops)))&&(p.img.eq q.img))&&(p.t.q.eq q.t.q)
def au.valid(p:au):Bool:=cond ((!(p.t.q.valid))||(!(p.without.eq (au.bare p.kind)))) (false) (cond ((p.kind)==1) ((p.t.q.eq bD.none.q)) (cond ((p.kind)==2) (cond (((!(kV.valid ⟨p.p0.x,p.p0.y⟩))||(!(kV.valid ⟨p.p1.x,p.p1.y⟩)))||(!(jl p.stops&&jQ p.spread))) (false) (((qj p.t.q.Ez q0)) != 0)) (cond ((p.kind)==3) (cond ((((!(kV.valid ⟨p.p0.x,p.p0.y⟩))||(decide (p.bH<1)))||(decide (1048576<p.bH)))||(!(jl p.stops&&jQ p.spread))) (false) (((qj p.t.q.Ez q0)) != 0)) (cond ((p.kind)==4) (cond (((!(p.img.valid))||(((p.spread) != 0)&&(!(jQ p.spread))))||(((p.dn) != 1)&&((p.dn) != 2))) (false) (((qj p.t.q.Ez q0)) != 0)) (false)))))
open Go.RowKit
variable{α:Type}
theorem xE{w:World}{p q:au}{K:Nat}(h:p.ok w)(h':q.ok w)(hf:p.t.fit K)(hf':q.t.fit K)(hK1:1≤K)(hK:K≤10000) :
  Calls prog 71 #[p.v,q.v] w fun e w'=>e = .returned (.bool (p.eq q))∧Ext w w':=by
 skip;refine avU func71 ntmps71 fun ac S=>avP fun _ aV=>avQ S 2 p.cells fun ac u b2 E3 hb4 S=>avQ S 3 q.cells fun ac u b5 E6 hb7 S=>adr S 1 [] [(4,.z)] fun S=>apB<|aV _ _<|avP fun _ dS=>av9 S 69 [.mem 1 0,.mem 0 0,.mem 1 1,.mem 0 1,.cmp .eql 23 (.tmp 12) (.tmp 14) (.agg #[.u (p.color.r.toNat:Int),.u (p.color.g.toNat:Int),.u (p.color.b.toNat:Int),.u (p.color.a.toNat:Int)]) (.agg #[.u (q.color.r.toNat:Int),.u (q.color.g.toNat:Int),.u (q.color.b.toNat:Int),.u (q.color.a.toNat:Int)]) (.bool (((p.color.r.toNat:Int)==(q.color.r.toNat:Int))&&(((p.color.g.toNat:Int)==(q.color.g.toNat:Int))&&(((p.color.b.toNat:Int)==(q.color.b.toNat:Int))&&((p.color.a.toNat:Int)==(q.color.a.toNat:Int)))))),.mem 1 5,.mem 0 5,.cmp .eql 123 (.tmp 19) (.tmp 21) (.agg #[.i p.p0.x,.i p.p0.y]) (.agg #[.i q.p0.x,.i q.p0.y]) (.bool ((p.p0.x==q.p0.x)&&(p.p0.y==q.p0.y))),.mem 1 7,.mem 0 7,.cmp .eql 123 (.tmp 26) (.tmp 28) (.agg #[.i p.p1.x,.i p.p1.y]) (.agg #[.i q.p1.x,.i q.p1.y]) (.bool ((p.p1.x==q.p1.x)&&(p.p1.y==q.p1.y))),.mem 1 9,.mem 0 9,.mem 1 11,.mem 0 11,.mem 1 15,.mem 0 15,.mem 1 10,.mem 0 10,.mem 1 12,.mem 0 12,.mem 1 16,.mem 0 16] [(_,_,((((((((p.kind)==q.kind)&&(((p.color.r.toNat:Int)==(q.color.r.toNat:Int))&&(((p.color.g.toNat:Int)==(q.color.g.toNat:Int))&&(((p.color.b.toNat:Int)==(q.color.b.toNat:Int))&&((p.color.a.toNat:Int)==(q.color.a.toNat:Int))))))&&((p.p0.x==q.p0.x)&&(p.p0.y==q.p0.y)))&&((p.p1.x==q.p1.x)&&(p.p1.y==q.p1.y)))&&((p.bH)==q.bH))&&((p.spread)==q.spread))&&((p.dn)==q.dn)),.bool (p.stops=q.stops)),(_,_,(((((((((p.kind)==q.kind)&&(((p.color.r.toNat:Int)==(q.color.r.toNat:Int))&&(((p.color.g.toNat:Int)==(q.color.g.toNat:Int))&&(((p.color.b.toNat:Int)==(q.color.b.toNat:Int))&&((p.color.a.toNat:Int)==(q.color.a.toNat:Int))))))&&((p.p0.x==q.p0.x)&&(p.p0.y==q.p0.y)))&&((p.p1.x==q.p1.x)&&(p.p1.y==q.p1.y)))&&((p.bH)==q.bH))&&((p.spread)==q.spread))&&((p.dn)==q.dn))&&(decide (p.stops=q.stops))),.bool (p.img.eq q.img)),(_,_,((((((((((p.kind)==q.kind)&&(((p.color.r.toNat:Int)==(q.color.r.toNat:Int))&&(((p.color.g.toNat:Int)==(q.color.g.toNat:Int))&&(((p.color.b.toNat:Int)==(q.color.b.toNat:Int))&&((p.color.a.toNat:Int)==(q.color.a.toNat:Int))))))&&((p.p0.x==q.p0.x)&&(p.p0.y==q.p0.y)))&&((p.p1.x==q.p1.x)&&(p.p1.y==q.p1.y)))&&((p.bH)==q.bH))&&((p.spread)==q.spread))&&((p.dn)==q.dn))&&(decide (p.stops=q.stops)))&&(p.img.eq q.img)),.bool (p.t.q.eq q.t.q))] [(4,.bool (((((((((((p.kind)==q.kind)&&(((p.color.r.toNat:Int)==(q.color.r.toNat:Int))&&(((p.color.g.toNat:Int)==(q.color.g.toNat:Int))&&(((p.color.b.toNat:Int)==(q.color.b.toNat:Int))&&((p.color.a.toNat:Int)==(q.color.a.toNat:Int))))))&&((p.p0.x==q.p0.x)&&(p.p0.y==q.p0.y)))&&((p.p1.x==q.p1.x)&&(p.p1.y==q.p1.y)))&&((p.bH)==q.bH))&&((p.spread)==q.spread))&&((p.dn)==q.dn))&&(decide (p.stops=q.stops)))&&(p.img.eq q.img))&&(p.t.q.eq q.t.q)))] ⟨fun u hC g=>Ti (h.2.2.2.2.1.below (Ext.trans' S.E hC)) (h'.2.2.2.2.1.below (Ext.trans' S.E hC)),fun u hC g=>vI (m:=p.img) (n:=q.img) (h.2.2.2.2.2.2.2.1.below (Ext.trans' S.E hC)) (h'.2.2.2.2.2.2.2.1.below (Ext.trans' S.E hC)),fun u hC g=>zM p.t.v q.t.v p.t.q q.t.q K _ ((bD.toQ h.2.2.2.2.2.2.2.2.2 hf).iL (Ext.trans' S.E hC)) ((bD.toQ h'.2.2.2.2.2.2.2.2.2 hf').iL (Ext.trans' S.E hC)) hK1 hK,trivial⟩ (hk:=⟨awe (fun _=>aaX ..) (by kernel_rfl),awe (fun _=>eqPt ..) (by kernel_rfl),awe (fun _=>eqPt ..) (by kernel_rfl),trivial⟩) fun ac u E9 S=>apB<|dS _ _<|avS S results71 ?_;exact⟨rfl,S.E⟩
theorem xG{w:World}{p:au}(h:p.ok w) :
  Calls prog 322 #[p.v] w fun e w'=>e = .returned (.bool (jl p.stops&&jQ p.spread))∧Ext w w':=by
 skip;refine avU func322 ntmps322 fun ac S=>avP fun _ aV=>avQ S 1 p.cells fun ac u b2 E3 hb4 S=>adr S 1 [] [(2,.z)] fun S=>apB<|aV _ _<|avP fun _ dA=>adr S 2 [.mem 0 10] [(4,p.sv)] fun S=>avZ S 5 (IU (h.2.2.2.2.1.below S.E)) fun ac u E6 S=>av9 S 6 [.mem 0 11] [(_,_,(jl p.stops),.bool (jQ p.spread))] [(2,.bool ((jl p.stops)&&(jQ p.spread)))] ⟨fun u hC g=>av8 (FI p.spread _),trivial⟩ fun ac u E7 S=>apB<|dA _ _<|avS S results322 ?_;exact⟨rfl,S.E⟩
open Go.RowKit
variable{α:Type}
theorem Pn{w:World}{p:au}(h:p.ok w) :
  Calls prog 321 #[p.v] w fun e w'=>e = .returned p.without.v∧Ext w w':=by
 obtain⟨h1,h2,h3,h4,h5,h6,h7,h8,h9,h10⟩:=h;obtain⟨t0,t1,t2,t3,t4,t5⟩:=h10;have o0:=Vp.abL h5;have o1:=Vp.abL h8.2.2;have o2:=Vp.mO t0.1;have o3:=Vp.mO t0.2;have o4:=Vp.mO t1.1;have o5:=Vp.mO t1.2;have o6:=Vp.mO t2.1;have o7:=Vp.mO t2.2;have o8:=Vp.mO t3.1;have o9:=Vp.mO t3.2;have o10:=Vp.mO t4.1;have o11:=Vp.mO t4.2;have o12:=Vp.mO t5.1;have o13:=Vp.mO t5.2;refine avU func321 ntmps321 fun ac S=>avP fun _ aV=>avQ S 1 p.cells fun ac u b2 E3 hb4 S=>avQ S 2 (Sx.L [.i 0,.u 0,.u 0,.u 0,.u 0,.i 0,.i 0,.i 0,.i 0,.i 0,.sn,.i 0,.i 0,.i 0,.sn,.i 0]++Sx.za) fun ac u b5 E6 hb7 S=>apB<|aV _ _<|avP fun _ dS=>adr S 1 [.mem 1 0] [(4,p.v)] fun S=>avQ S 3 (Sx.L [.i 0,.u 0,.u 0,.u 0,.u 0,.i 0,.i 0,.i 0,.i 0,.i 0,.sn,.i 0,.i 0,.i 0,.sn,.i 0]++Sx.za) fun ac u b9 OE aa1 S=>avT S 0 (off:=0) (cs:=p.cells) rfl fun u C12 S=>apB<|dS _ _<|avP fun _ gW=>adr S 2 [] [(5,.agg Sx.za.toArray),(6,.q b9 16)] fun S=>avT S 0 (off:=16) (cs:=Sx.za) rfl fun u C14 S=>apB<|gW _ _<|awg fun _ iG=>avP fun _ iR=>adr S 2 [.mem 2 0] [(8,.i p.kind)] fun S=>apB<|iR _ _<|awi<|avP fun _ gI=>adr S 2 [] [(9,.bool ((p.kind)==1))] fun S=>apB (gI _ _ ?_);refine avR S (fun hc18=>?_) (fun hc18=>?_)
 ·refine awk<|adr S 2 [] [(11,.agg #[.u 0,.u 0,.u 0,.u 0]),(12,.q b9 1)] fun S=>avT S 0 (off:=1) (cs:=[.u 0,.u 0,.u 0,.u 0]) rfl fun u Vl S=>apB<|iG _ _<|avP fun _ l9=>adr S 1 [.mem 0 0] [(34,.agg (Sx.L [.i p.kind,.u 0,.u 0,.u 0,.u 0,.i p.p0.x,.i p.p0.y,.i p.p1.x,.i p.p1.y,.i p.bH,p.sv,.i p.spread]++p.img.cells++Sx.L [.i p.dn]++Sx.za).toArray)] fun S=>avT S 1 (off:=0) (cs:=(Sx.L [.i p.kind,.u 0,.u 0,.u 0,.u 0,.i p.p0.x,.i p.p0.y,.i p.p1.x,.i p.p1.y,.i p.bH,p.sv,.i p.spread]++p.img.cells++Sx.L [.i p.dn]++Sx.za)) rfl fun u C21 S=>apB<|l9 _ _<|awq ?_;have e:p.without=p.abE:=by unfold au.without; rw[hc18]; rfl
  refine Sx.wR S 1 results321 rfl (v := .agg (Sx.L [.i p.kind,.u 0,.u 0,.u 0,.u 0,.i p.p0.x,.i p.p0.y,.i p.p1.x,.i p.p1.y,.i p.bH,p.sv,.i p.spread]++p.img.cells++Sx.L [.i p.dn]++Sx.za).toArray) ?_;exact⟨by rw[e]; rfl,S.E⟩
 refine avP fun _ jm=>adr S 2 [] [(13,.bool ((p.kind)==2))] fun S=>apB (jm _ _ ?_);refine avR S (fun FQ=>?_) (fun FQ=>?_)
 ·refine awk<|adr S 3 [] [(15,.agg #[.i 0,.i 0]),(16,.agg #[.i 0,.i 0]),(17,.q b9 5)] fun S=>avT S 0 (off:=5) (cs:=[.i 0,.i 0]) rfl fun u ZH S=>adr S 1 [] [(18,.q b9 7)] fun S=>avT S 0 (off:=7) (cs:=[.i 0,.i 0]) rfl fun u KN S=>adr S 1 [] [(19,.q b9 10)] fun S=>av1 S 0 (off:=10) (v := .sn) rfl fun u C26 S=>adr S 1 [] [(20,.q b9 11)] fun S=>av1 S 0 (off:=11) (v := .i 0) rfl fun u C27 S=>apB<|iG _ _<|avP fun _ qh=>adr S 1 [.mem 0 0] [(34,.agg (Sx.L [.i p.kind]++p.color.cells++Sx.L [.i 0,.i 0,.i 0,.i 0,.i p.bH,.sn,.i 0]++p.img.cells++Sx.L [.i p.dn]++Sx.za).toArray)] fun S=>avT S 1 (off:=0) (cs:=(Sx.L [.i p.kind]++p.color.cells++Sx.L [.i 0,.i 0,.i 0,.i 0,.i p.bH,.sn,.i 0]++p.img.cells++Sx.L [.i p.dn]++Sx.za)) rfl fun u C29 S=>apB<|qh _ _<|awq ?_;have e:p.without=p.only2:=by unfold au.without; rw[hc18,FQ]; rfl
  refine Sx.wR S 1 results321 rfl (v := .agg (Sx.L [.i p.kind]++p.color.cells++Sx.L [.i 0,.i 0,.i 0,.i 0,.i p.bH,.sn,.i 0]++p.img.cells++Sx.L [.i p.dn]++Sx.za).toArray) ?_;exact⟨by rw[e]; rfl,S.E⟩
 refine avP fun _ kM=>adr S 2 [] [(21,.bool ((p.kind)==3))] fun S=>apB (kM _ _ ?_);refine avR S (fun hc31=>?_) (fun hc31=>?_)
 ·refine awk<|adr S 2 [] [(23,.agg #[.i 0,.i 0]),(24,.q b9 5)] fun S=>avT S 0 (off:=5) (cs:=[.i 0,.i 0]) rfl fun u C32 S=>adr S 1 [] [(25,.q b9 9)] fun S=>av1 S 0 (off:=9) (v := .i 0) rfl fun u NZ S=>adr S 1 [] [(26,.q b9 10)] fun S=>av1 S 0 (off:=10) (v := .sn) rfl fun u C34 S=>adr S 1 [] [(27,.q b9 11)] fun S=>av1 S 0 (off:=11) (v := .i 0) rfl fun u C35 S=>apB<|iG _ _<|avP fun _ lg=>adr S 1 [.mem 0 0] [(34,.agg (Sx.L [.i p.kind]++p.color.cells++Sx.L [.i 0,.i 0,.i p.p1.x,.i p.p1.y,.i 0,.sn,.i 0]++p.img.cells++Sx.L [.i p.dn]++Sx.za).toArray)] fun S=>avT S 1 (off:=0) (cs:=(Sx.L [.i p.kind]++p.color.cells++Sx.L [.i 0,.i 0,.i p.p1.x,.i p.p1.y,.i 0,.sn,.i 0]++p.img.cells++Sx.L [.i p.dn]++Sx.za)) rfl fun u C37 S=>apB<|lg _ _<|awq ?_;have e:p.without=p.abG:=by unfold au.without; rw[hc18,FQ,hc31]; rfl
  refine Sx.wR S 1 results321 rfl (v := .agg (Sx.L [.i p.kind]++p.color.cells++Sx.L [.i 0,.i 0,.i p.p1.x,.i p.p1.y,.i 0,.sn,.i 0]++p.img.cells++Sx.L [.i p.dn]++Sx.za).toArray) ?_;exact⟨by rw[e]; rfl,S.E⟩
 refine avP fun _ jD=>adr S 2 [] [(28,.bool ((p.kind)==4))] fun S=>apB (jD _ _ ?_);refine avR S (fun hc39=>?_) (fun hc39=>?_)
 ·refine awk<|adr S 2 [] [(30,.agg #[.i 0,.i 0,.sn]),(31,.q b9 12)] fun S=>avT S 0 (off:=12) (cs:=[.i 0,.i 0,.sn]) rfl fun u C40 S=>adr S 1 [] [(32,.q b9 11)] fun S=>av1 S 0 (off:=11) (v := .i 0) rfl fun u C41 S=>adr S 1 [] [(33,.q b9 15)] fun S=>av1 S 0 (off:=15) (v := .i 0) rfl fun u C42 S=>apB<|iG _ _<|avP fun _ vP=>adr S 1 [.mem 0 0] [(34,.agg (Sx.L [.i p.kind]++p.color.cells++Sx.L [.i p.p0.x,.i p.p0.y,.i p.p1.x,.i p.p1.y,.i p.bH,p.sv,.i 0,.i 0,.i 0,.sn,.i 0]++Sx.za).toArray)] fun S=>avT S 1 (off:=0) (cs:=(Sx.L [.i p.kind]++p.color.cells++Sx.L [.i p.p0.x,.i p.p0.y,.i p.p1.x,.i p.p1.y,.i p.bH,p.sv,.i 0,.i 0,.i 0,.sn,.i 0]++Sx.za)) rfl fun u C44 S=>apB<|vP _ _<|awq ?_;have e:p.without=p.abH:=by unfold au.without; rw[hc18,FQ,hc31,hc39]; rfl
  refine Sx.wR S 1 results321 rfl (v := .agg (Sx.L [.i p.kind]++p.color.cells++Sx.L [.i p.p0.x,.i p.p0.y,.i p.p1.x,.i p.p1.y,.i p.bH,p.sv,.i 0,.i 0,.i 0,.sn,.i 0]++Sx.za).toArray) ?_;exact⟨by rw[e]; rfl,S.E⟩
 refine awh<|iG _ _<|avP fun _ BO=>adr S 1 [.mem 0 0] [(34,.agg (Sx.L [.i p.kind]++p.color.cells++Sx.L [.i p.p0.x,.i p.p0.y,.i p.p1.x,.i p.p1.y,.i p.bH,p.sv,.i p.spread]++p.img.cells++Sx.L [.i p.dn]++Sx.za).toArray)] fun S=>avT S 1 (off:=0) (cs:=(Sx.L [.i p.kind]++p.color.cells++Sx.L [.i p.p0.x,.i p.p0.y,.i p.p1.x,.i p.p1.y,.i p.bH,p.sv,.i p.spread]++p.img.cells++Sx.L [.i p.dn]++Sx.za)) rfl fun u C46 S=>apB<|BO _ _<|awq ?_;have e:p.without=p.abI:=by unfold au.without; rw[hc18,FQ,hc31,hc39]; rfl
 refine Sx.wR S 1 results321 rfl (v := .agg (Sx.L [.i p.kind]++p.color.cells++Sx.L [.i p.p0.x,.i p.p0.y,.i p.p1.x,.i p.p1.y,.i p.bH,p.sv,.i p.spread]++p.img.cells++Sx.L [.i p.dn]++Sx.za).toArray) ?_;exact⟨by rw[e]; rfl,S.E⟩
open Go.RowKit
variable{α:Type}
theorem Gm{w:World}{p:au}{K:Nat}(h:p.ok w)(hf:p.t.fit K)(hK1:1≤K)(hK:K≤10000) :
  Calls prog 290 #[p.v] w fun e w'=>e = .returned (.bool p.valid)∧Ext w w':=by
 skip;refine avU func290 ntmps290 fun ac S=>avP fun _ aV=>avQ S 1 p.cells fun ac u b2 E3 hb4 S=>adr S 1 [] [(2,.z)] fun S=>apB<|aV _ _<|awg fun _ dA=>awg fun _ jq=>av3 S 13 [.mem 0 16,.mem 0 0,.mem 0 0] [(_,_,true,.bool (p.t.q.valid)),(_,_,(!(!(p.t.q.valid))),p.without.v),(_,_,(!(!(p.t.q.valid))),.bool (p.without.eq (au.bare p.kind)))] [(15,.bool ((!(p.t.q.valid))||(!(p.without.eq (au.bare p.kind)))))] ⟨fun u hC g=>Gn p.t.v p.t.q K _ ((bD.toQ h.2.2.2.2.2.2.2.2.2 hf).iL (Ext.trans' S.E hC)) hK1 (by omega),fun u hC g=>Pn (h.below (Ext.trans' S.E hC)),fun u hC g=>xE (p:=p.without) (q:=au.bare p.kind) (K:=K) ((au.TS h).below (Ext.trans' S.E hC)) (au.jk h.1 _) (au.Pm p K) (bD.jh K) hK1 hK,trivial⟩ fun ac u E7 S=>apB (jq _ _ ?_);refine avR S (fun hc8=>?_) (fun hc8=>?_)
 ·refine avP fun _ ig=>adr S 1 [] [(2,.z)] fun S=>apB<|ig _ _<|avS S results290 ?_;exact⟨aH (by unfold au.valid; rw[hc8]; rfl),S.E⟩
 refine awh<|dA _ _<|awg fun _ dZ=>avP fun _ eG=>adr S 2 [.mem 0 0] [(17,.i p.kind)] fun S=>apB<|eG _ _<|awi<|avP fun _ dV=>adr S 2 [] [(18,.bool ((p.kind)==1))] fun S=>apB (dV _ _ ?_);refine avR S (fun hc13=>?_) (fun hc13=>?_)
 ·refine avP fun _ gK=>adr S 3 [.mem 0 16] [(21,p.t.v),(22,.agg Sx.za.toArray)] fun S=>avZ S 23 (zM p.t.v bD.none.v p.t.q bD.none.q K _ ((bD.toQ h.2.2.2.2.2.2.2.2.2 hf).iL S.E) ((bD.toQ (bD.iD _) (bD.jh K)).iL (awD _ _)) hK1 hK) fun ac u Lm S=>adr S 1 [] [(2,.bool (p.t.q.eq bD.none.q))] fun S=>apB<|gK _ _<|avS S results290 ?_;exact⟨aH (by unfold au.valid; rw[hc8,hc13]; rfl),S.E⟩
 refine avP fun _ iR=>adr S 2 [] [(24,.bool ((p.kind)==2))] fun S=>apB (iR _ _ ?_);refine avR S (fun hc17=>?_) (fun hc17=>?_)
 ·refine avP fun _ iZ=>adr S 2 [.mem 0 5] [(27,.agg #[.i p.p0.x,.i p.p0.y])] fun S=>avZ S 28 (lM (p.p0.x) (p.p0.y) _) fun ac u Ep S=>av9 S 12 [.mem 0 7,.mem 0 0] [(_,_,(!(!(kV.valid ⟨p.p0.x,p.p0.y⟩))),.bool (kV.valid ⟨p.p1.x,p.p1.y⟩)),(_,_,(!((!(kV.valid ⟨p.p0.x,p.p0.y⟩))||(!(kV.valid ⟨p.p1.x,p.p1.y⟩)))),.bool (jl p.stops&&jQ p.spread))] [(40,.bool (((!(kV.valid ⟨p.p0.x,p.p0.y⟩))||(!(kV.valid ⟨p.p1.x,p.p1.y⟩)))||(!(jl p.stops&&jQ p.spread))))] ⟨fun u hC g=>lM (p.p1.x) (p.p1.y) _,fun u hC g=>xG (h.below (Ext.trans' S.E hC)),trivial⟩ fun ac u uV S=>apB (iZ _ _ ?_);refine avR S (fun hc21=>?_) (fun hc21=>?_)
  ·refine avP fun _ jm=>adr S 1 [] [(2,.z)] fun S=>apB<|jm _ _<|avS S results290 ?_;exact⟨aH (by unfold au.valid; rw[hc8,hc13,hc17,hc21]; rfl),S.E⟩
  refine awh<|dZ _ _<|avP fun _ mQ=>adr S 2 [.mem 0 16] [(90,p.t.v)] fun S=>avV S (some 91) (VN p.t.v p.t.q K _ ((bD.toQ h.2.2.2.2.2.2.2.2.2 hf).iL S.E) hK1 hK) ?_;rintro e u ⟨x,rfl,hd,RS⟩;refine⟨_,rfl,RS,fun ac S=>?_⟩;refine adr S 1 [] [(92,.agg Sx.zr.toArray)] fun S=>avZ S 93 (mg _ _ p.t.q.Ez q0 (K+K+(K+K)+1) 1 _ (aG.toQ hd (Ey _) (EC hK1 (aeL.aeM ((bD.toQ h.2.2.2.2.2.2.2.2.2 hf).iL (awD _ _)) hK1))) (zL _) (by omega) (by omega) (by omega) (by omega)) fun ac u IL S=>adr S 2 [] [(2,.bool (((qj p.t.q.Ez q0)) != 0))] fun S=>apB<|mQ _ _<|avS S results290 ?_;exact⟨aH (by unfold au.valid; rw[hc8,hc13,hc17,hc21]; rfl),S.E⟩
 refine avP fun _ jd=>adr S 2 [] [(41,.bool ((p.kind)==3))] fun S=>apB (jd _ _ ?_);refine avR S (fun hc27=>?_) (fun hc27=>?_)
 ·refine avP fun _ qh=>adr S 2 [.mem 0 5] [(44,.agg #[.i p.p0.x,.i p.p0.y])] fun S=>avZ S 45 (lM (p.p0.x) (p.p0.y) _) fun ac u Dp S=>av9 S 16 [.mem 0 9,.mem 0 9,.mem 0 0] [(_,_,(!(((!(kV.valid ⟨p.p0.x,p.p0.y⟩))||(decide (p.bH<1)))||(decide (1048576<p.bH)))),.bool (jl p.stops&&jQ p.spread))] [(61,.bool ((((!(kV.valid ⟨p.p0.x,p.p0.y⟩))||(decide (p.bH<1)))||(decide (1048576<p.bH)))||(!(jl p.stops&&jQ p.spread))))] ⟨fun u hC g=>xG (h.below (Ext.trans' S.E hC)),trivial⟩ fun ac u E30 S=>apB (qh _ _ ?_);refine avR S (fun hc31=>?_) (fun hc31=>?_)
  ·refine avP fun _ jM=>adr S 1 [] [(2,.z)] fun S=>apB<|jM _ _<|avS S results290 ?_;exact⟨aH (by unfold au.valid; rw[hc8,hc13,hc17,hc27,hc31]; rfl),S.E⟩
  refine awh<|dZ _ _<|avP fun _ jO=>adr S 2 [.mem 0 16] [(90,p.t.v)] fun S=>avV S (some 91) (VN p.t.v p.t.q K _ ((bD.toQ h.2.2.2.2.2.2.2.2.2 hf).iL S.E) hK1 hK) ?_;rintro e u ⟨x,rfl,hd,Gp⟩;refine⟨_,rfl,Gp,fun ac S=>?_⟩;refine adr S 1 [] [(92,.agg Sx.zr.toArray)] fun S=>avZ S 93 (mg _ _ p.t.q.Ez q0 (K+K+(K+K)+1) 1 _ (aG.toQ hd (Ey _) (EC hK1 (aeL.aeM ((bD.toQ h.2.2.2.2.2.2.2.2.2 hf).iL (awD _ _)) hK1))) (zL _) (by omega) (by omega) (by omega) (by omega)) fun ac u KZ S=>adr S 2 [] [(2,.bool (((qj p.t.q.Ez q0)) != 0))] fun S=>apB<|jO _ _<|avS S results290 ?_;exact⟨aH (by unfold au.valid; rw[hc8,hc13,hc17,hc27,hc31]; rfl),S.E⟩
 refine avP fun _ lg=>adr S 2 [] [(62,.bool ((p.kind)==4))] fun S=>apB (lg _ _ ?_);refine avR S (fun Ea=>?_) (fun Ea=>?_)
 ·refine avP fun _ jD=>adr S 2 [.mem 0 12] [(65,p.img.v)] fun S=>avZ S 66 (Az (m:=p.img) (h.2.2.2.2.2.2.2.1.below S.E)) fun ac u E39 S=>av9 S 22 [.mem 0 11,.mem 0 11,.mem 0 15,.mem 0 15] [(_,_,((!(!(p.img.valid)))&&((p.spread) != 0)),.bool (jQ p.spread))] [(88,.bool (((!(p.img.valid))||(((p.spread) != 0)&&(!(jQ p.spread))))||(((p.dn) != 1)&&((p.dn) != 2))))] ⟨fun u hC g=>av8 (FI p.spread _),trivial⟩ fun ac u E40 S=>apB (jD _ _ ?_);refine avR S (fun Yp=>?_) (fun Yp=>?_)
  ·refine avP fun _ vC=>adr S 1 [] [(2,.z)] fun S=>apB<|vC _ _<|avS S results290 ?_;exact⟨aH (by unfold au.valid; rw[hc8,hc13,hc17,hc27,Ea,Yp]; rfl),S.E⟩
  refine awh<|dZ _ _<|avP fun _ vP=>adr S 2 [.mem 0 16] [(90,p.t.v)] fun S=>avV S (some 91) (VN p.t.v p.t.q K _ ((bD.toQ h.2.2.2.2.2.2.2.2.2 hf).iL S.E) hK1 hK) ?_;rintro e u ⟨x,rfl,hd,ZK⟩;refine⟨_,rfl,ZK,fun ac S=>?_⟩;refine adr S 1 [] [(92,.agg Sx.zr.toArray)] fun S=>avZ S 93 (mg _ _ p.t.q.Ez q0 (K+K+(K+K)+1) 1 _ (aG.toQ hd (Ey _) (EC hK1 (aeL.aeM ((bD.toQ h.2.2.2.2.2.2.2.2.2 hf).iL (awD _ _)) hK1))) (zL _) (by omega) (by omega) (by omega) (by omega)) fun ac u E45 S=>adr S 2 [] [(2,.bool (((qj p.t.q.Ez q0)) != 0))] fun S=>apB<|vP _ _<|avS S results290 ?_;exact⟨aH (by unfold au.valid; rw[hc8,hc13,hc17,hc27,Ea,Yp]; rfl),S.E⟩
 refine avP fun _ uh=>adr S 1 [] [(2,.z)] fun S=>apB<|uh _ _<|avS S results290 ?_;exact⟨aH (by unfold au.valid; rw[hc8,hc13,hc17,hc27,Ea]; rfl),S.E⟩
theorem abM{w:World}{p:au}{K:Nat}(h:p.ok w)(hf:p.t.fit K)(hK1:1≤K)(hK:K≤10000) :
  Calls prog 289 #[p.v] w fun e w'=>e = .returned (.bool (!p.valid))∧Ext w w':=by
 skip;refine avU func289 ntmps289 fun ac S=>avP fun _ aV=>avQ S 1 p.cells fun ac u b2 E3 hb4 S=>adr S 1 [] [(2,.z)] fun S=>apB<|aV _ _<|avP fun _ dA=>adr S 1 [.mem 0 0] [(3,p.v)] fun S=>avZ S 4 (Gm (h.below S.E) hf hK1 hK) fun ac u E6 S=>adr S 2 [] [(2,.bool (!p.valid))] fun S=>apB<|dA _ _<|avS S results289 ?_;exact⟨rfl,S.E⟩
open Go.RowKit
variable{α:Type}{K:Nat}
def pU(K:Nat)(w:World)(v:Value)(l:List au):Prop:=jy w v l∧(∀p∈l,p.t.fit K)∧1≤K∧K≤10000
theorem pU.below{w w':World}{v:Value}{l:List au}(h:pU K w v l)(hb:Ext w w'):pU K w' v l:=⟨h.1.below hb,h.2⟩
theorem VO:∃ie,Tryz.prog.info? 177=some ie∧ie.size=1∧ie.zero=some .nilIface:=by
 have h1:(Tryz.prog.info? 177).map (fun i=>(i.size,i.zero))=some (1,some .nilIface):=by kernel_rfl
 cases h:Tryz.prog.info? 177 with
 | none=>rw[h]at h1; cases h1
 | some i=>rw[h]at h1; simp at h1; exact⟨i,rfl,h1.1,h1.2⟩
theorem fG(b:Bool)(n:Int):(dG b n).cells = #[dG b n]:=by unfold dG; split<;>rfl
theorem JE{P:Program}{ρ:Operand→Value}{o:Oper}{w w1:World}{t:TypeId}{n:Nat}{parts:Array (Nat×Operand)}{vs:Array (Nat×Value)}{V:Value}(hop:o.op = .buildSlice t n parts)(hp:(parts.map fun(i,x)=>(i,ρ x))=vs)(h:(Instr.buildSlice t n vs).run P w = .ok V w1) :
  (execOp ρ o).run P w = .ok (.value V) w1:=by
 unfold execOp;simp only[hop,hp,aw7,h];rfl
theorem Yq(v0 v1 v2 v3 v4 v5:Value)(w:World)(h0:v0.cells = #[v0])(h1:v1.cells = #[v1])(h2:v2.cells = #[v2])(h3:v3.cells = #[v3])(h4:v4.cells = #[v4])(h5:v5.cells = #[v5]) :
  (Instr.buildSlice 288 6 #[(0,v0),(1,v1),(2,v2),(3,v3),(4,v4),(5,v5)]).run prog w = .ok (.slice (some ⟨w.heap.size,0,none⟩) 6 6) (w.alloc (.cells #[v0,v1,v2,v3,v4,v5] 177)):=by
 obtain⟨ie,hi,hs,hz⟩:=VO;refine run_buildSlice w _ 177 6 _ _ ie .nilIface underlying288 hi hz (by rw[hs]; decide) (by rw[hs]; decide) ?_;rw[hs];have ez:((Array.range (6*1)).map (Value.nilIface.cells[· % Value.nilIface.cells.size]!)) = #[.nilIface,.nilIface,.nilIface,.nilIface,.nilIface,.nilIface]:=by kernel_rfl
 rw[ez];simp[Instr.fill,h0,h1,h2,h3,h4,h5]
theorem Po{Q:Exit→Act→World→Prop}{ops:Array Oper}{w0:World}{a:Act}{w:World}{os:List Oper}{N:Nat}{l:List (Nat×Value)}{bl:List (Nat×List Value)}{vs:List Sx.gJ}(S:Sx.St w0 a w N l bl vs)(d:Nat)(v0 v1 v2 v3 v4 v5:Value){t0 t1 t2 t3 t4 t5:Nat}{o:Oper}{os':List Oper} 
  (hos:os=o::os') (hg:o.guard=none) (hd:o.dst=some d) (hop:o.op = .buildSlice 288 6 #[(0,.tmp t0),(1,.tmp t1),(2,.tmp t2),(3,.tmp t3),(4,.tmp t4),(5,.tmp t5)]) (c0:v0.cells = #[v0]) (c1:v1.cells = #[v1]) (c2:v2.cells = #[v2]) (c3:v3.cells = #[v3]) (c4:v4.cells = #[v4]) (c5:v5.cells = #[v5])
  (next:∀a' w' b,Ext w w'→b=w.heap.size→Sx.St w0 a' w' N ((d,.slice (some ⟨b,0,none⟩) 6 6)::l) ((b,[v0,v1,v2,v3,v4,v5])::bl) vs→wpList prog ops Q (os.drop 1) a' w')
  (l0:l.lookup t0=some v0:=by kernel_rfl) (l1:l.lookup t1=some v1:=by kernel_rfl) (l2:l.lookup t2=some v2:=by kernel_rfl) (l3:l.lookup t3=some v3:=by kernel_rfl) (l4:l.lookup t4=some v4:=by kernel_rfl) (l5:l.lookup t5=some v5:=by kernel_rfl) (hdn:Sx.Cb N (some d)=true:=by rfl):wpList prog ops Q os a w:=
 Sx.abN S d [v0,v1,v2,v3,v4,v5] 177 (fun b => .slice (some ⟨b,0,none⟩) 6 6) hos hg hd (JE hop (by simp[S.s.has _ _ l0,S.s.has _ _ l1,S.s.has _ _ l2,S.s.has _ _ l3,S.s.has _ _ l4,S.s.has _ _ l5]) (Yq v0 v1 v2 v3 v4 v5 w c0 c1 c2 c3 c4 c5)) next hdn
theorem Yr(v0 v1:Value)(w:World)(h0:v0.cells = #[v0])(h1:v1.cells = #[v1]) :
  (Instr.buildSlice 288 2 #[(0,v0),(1,v1)]).run prog w = .ok (.slice (some ⟨w.heap.size,0,none⟩) 2 2) (w.alloc (.cells #[v0,v1] 177)):=by
 obtain⟨ie,hi,hs,hz⟩:=VO;refine run_buildSlice w _ 177 2 _ _ ie .nilIface underlying288 hi hz (by rw[hs]; decide) (by rw[hs]; decide) ?_;rw[hs];have ez:((Array.range (2*1)).map (Value.nilIface.cells[· % Value.nilIface.cells.size]!)) = #[.nilIface,.nilIface]:=by kernel_rfl
 rw[ez];simp[Instr.fill,h0,h1]
theorem abO{Q:Exit→Act→World→Prop}{ops:Array Oper}{w0:World}{a:Act}{w:World}{os:List Oper}{N:Nat}{l:List (Nat×Value)}{bl:List (Nat×List Value)}{vs:List Sx.gJ}(S:Sx.St w0 a w N l bl vs)(d:Nat)(v0 v1:Value){t0 t1:Nat}{o:Oper}{os':List Oper} 
  (hos:os=o::os') (hg:o.guard=none) (hd:o.dst=some d) (hop:o.op = .buildSlice 288 2 #[(0,.tmp t0),(1,.tmp t1)]) (c0:v0.cells = #[v0]) (c1:v1.cells = #[v1])
  (next:∀a' w' b,Ext w w'→b=w.heap.size→Sx.St w0 a' w' N ((d,.slice (some ⟨b,0,none⟩) 2 2)::l) ((b,[v0,v1])::bl) vs→wpList prog ops Q (os.drop 1) a' w')
  (l0:l.lookup t0=some v0:=by kernel_rfl) (l1:l.lookup t1=some v1:=by kernel_rfl) (hdn:Sx.Cb N (some d)=true:=by rfl):wpList prog ops Q os a w:=
 Sx.abN S d [v0,v1] 177 (fun b => .slice (some ⟨b,0,none⟩) 2 2) hos hg hd (JE hop (by simp[S.s.has _ _ l0,S.s.has _ _ l1]) (Yr v0 v1 w c0 c1)) next hdn
theorem Gq{w:World}{v:Value}{l:List au}(h:pU K w v l) :
  Calls prog 320 #[v,.func (.func 289) #[] #[]] w fun e w'=>∃z,e = .returned (.i z)∧decide (0≤z) = !(l.all au.valid)∧Ext w w':=by
 obtain⟨a,cap,rfl⟩:=h.1.1.shape;have hmax:l.length≤9223372036854775807:=h.1.1.len;refine avU func320 ntmps320 fun ac S=>avP fun _ aV=>adr S 1 [] [(4,.i 0)] fun S=>apB<|aV _ _<|awg fun _ fK=>avP fun _ jC=>adr S 3 [] [(7,.i l.length),(8,.i 0)] fun S=>apB<|jC _ _<|awi ?_;refine awS (ι:=Nat) (fun p a' w'=>p≤l.length∧((l.take p).all au.valid=true)∧Sx.St w a' w' 19 [(0,.slice a l.length cap),(1,.func (.func 289) #[] #[]),(4,.i 0),(7,.i l.length),(8,.i p)] [] []) (fun p=>l.length-p) (0) ⟨awt _,rfl,S.sn⟩ ?_;rintro k ac u hI;try dsimp only at hI
 obtain⟨hk,hR,S⟩:=hI;refine avP fun _ nT=>adr S 1 [] [(9,.bool ((k:Int)<(l.length:Int)))] fun S=>apB<|nT _ _<|awg (fun _ dA=>?_);refine avR S (fun hc6=>?_) (fun hc6=>?_)
 ·refine awh<|dA _ _<|awg fun _ jr=>awi<|avP fun _ dS=>adr S 2 [] [(5,.i k)] fun S=>apB<|dS _ _<|avP (fun _ ig=>?_);have uz:k<l.length:=by have:=awz hc6; omega
  obtain⟨b10,o11,rfl,x16,zG,zx,EX⟩:=awN h.1.1 (fun _=>rfl) (k) uz;have S:=S.view0 zx EX;refine adr S 5 [.idx k l.length,.mem 0 0] [(11,.func (.func 289) #[] #[]),(15,x16.v)] (hk:=⟨uz,trivial⟩) fun S=>avZ S 16 (abM ((h.1.2 _ (zG▸awT uz)).below S.E) (h.2.1 _ (zG▸awT uz)) h.2.2.1 h.2.2.2) fun ac u yg S=>apB (ig _ _ ?_);refine avR S (fun hc19=>?_) (fun hc19=>?_)
  ·refine avP fun _ l9=>adr S 2 [] [(4,.i k)] fun S=>apB<|l9 _ _<|avS S results320 ?_;exact⟨_,rfl,by rw[Aw uz (by rw[zG]; simpa using hc19)]; simp,S.E⟩
  refine awh<|jr _ _<|awk<|adr S 2 [.re 18 (.i (IntKind.i64.wrap ((k:Int)+1))) (.i (k+1:Nat))] [(8,.i (k+1:Nat))] (hk:=⟨av5 (by omega),trivial⟩) fun S=>apB ?_;show ∃i',_∧_;exact⟨(k+1),⟨by omega,(pF uz hR (by rw[zG]; simpa using hc19)),S.sn⟩,by show _-_<_-_; omega⟩
 refine awy<|fK _ _<|avP fun _ oz=>adr S 1 [] [(4,.i (-1))] fun S=>apB<|oz _ _<|avS S results320 ?_;exact⟨_,rfl,by rw[rY (by have:=awG hc6; omega) hR]; rfl,S.E⟩
theorem IW{w:World}{v:Value}{l:List au}(h:pU K w v l) :
  Calls prog 288 #[v,.func (.func 289) #[] #[]] w fun e w'=>e = .returned (.bool (!(l.all au.valid)))∧Ext w w':=by
 skip;refine avU func288 ntmps288 fun ac S=>avP fun _ aV=>adr S 1 [] [(4,.z)] fun S=>apB<|aV _ _<|avP fun _ fK=>adr S 2 [] [(5,v),(6,.func (.func 289) #[] #[])] fun S=>avV S (some 7) (Gq (h.below S.E)) ?_;rintro e u ⟨z,rfl,hz,E3⟩;refine⟨_,rfl,E3,fun ac S=>?_⟩;refine adr S 2 [] [(4,.bool (0≤z))] fun S=>apB<|fK _ _<|avS S results288 ?_;exact⟨aH hz,S.E⟩
theorem VP{w:World}{v:Value}{l:List au}(h:pU K w v l) :
  Calls prog 245 #[v] w fun e w'=>e = .returned (.bool (l.all au.valid))∧Ext w w':=by
 skip;refine avU func245 ntmps245 fun ac S=>avP fun _ aV=>adr S 1 [] [(2,.z)] fun S=>apB<|aV _ _<|avP fun _ fK=>adr S 1 [] [(3,v)] fun S=>avZ S 4 (IW (h.below S.E)) fun ac u E3 S=>adr S 2 [] [(2,.bool (!(!(l.all au.valid))))] fun S=>apB<|fK _ _<|avS S results245 ?_;exact⟨aH (by simp),S.E⟩
end Go.Proofs.YtapmgonflgahbaaGreatDoor
