/- What paints say: plain laws. -/
import Derived.Test.YtapmgonflgahbaaGreatDoorImg
import Derived.Test.YtapmgonflgahbaaGreatDoorAffG
import Derived.Great.BuildSlice
set_option linter.unusedVariables false
set_option maxHeartbeats 1600000
set_option maxRecDepth 100000
namespace Go.Proofs.YtapmgonflgahbaaGreatDoor
open _root_.Go.Proofs.Tryz
open Go.RowKit
variable{α:Type}
def bP.none:bP:=⟨false,Option.none,0,[],false,Option.none,0,[]⟩
theorem bP.vX:bP.none.q=q0:=by decide
def bn.none:bn:=⟨.none,.none,.none,.none,.none,.none⟩
theorem bP.fP(w:World):bP.none.ok w:=⟨⟨Option.none,0,rfl,aij _,.inl ⟨rfl,fun _=>rfl⟩⟩,⟨Option.none,0,rfl,aij _,.inl ⟨rfl,fun _=>rfl⟩⟩⟩
theorem bP.gW(K:Nat):bP.none.fit K:=⟨aij _,aij _⟩
theorem bn.fP(w:World):bn.none.ok w:=⟨bP.fP w,bP.fP w,bP.fP w,bP.fP w,bP.fP w,bP.fP w⟩
theorem bn.gW(K:Nat):bn.none.fit K:=⟨bP.gW K,bP.gW K,bP.gW K,bP.gW K,bP.gW K,bP.gW K⟩
def cZ.bare:cZ:=⟨0,0,Option.none,0,[]⟩
theorem jq:I64 0:=⟨by decide,by decide⟩
theorem cZ.lJ(w:World):cZ.bare.ok w:=⟨jq,jq,jC _ _ _⟩
def kH.none:kH:=⟨0,0⟩
theorem kH.fP:kH.none.ok:=⟨jq,jq⟩
def dA.none:dA:=⟨0,0,0,0⟩
def au.bare(k:Int):au:=⟨k,.none,.none,.none,0,Option.none,0,[],0,.bare,0,.none⟩
theorem au.lJ{k:Int}(hk:I64 k)(w:World):(au.bare k).ok w:=⟨hk,kH.fP,kH.fP,jq,jC _ _ _,fun s hs=>by simp[au.bare]at hs,jq,cZ.lJ w,jq,bn.fP w⟩
def au.Vj(p:au):au:={ p with t := .none,color := .none }
def au.only2(p:au):au:={ p with t := .none,p0 := .none,p1 := .none,sva:=Option.none,svc:=0,stops:=[],spread:=0 }
def au.Vk(p:au):au:={ p with t := .none,p0 := .none,bF:=0,sva:=Option.none,svc:=0,stops:=[],spread:=0 }
def au.Vl(p:au):au:={ p with t := .none,img := .bare,spread:=0,bQ:=0 }
def au.Vm(p:au):au:={ p with t := .none }
def au.without(p:au):au:=cond (p.kind==1) p.Vj (cond (p.kind==2) p.only2 (cond (p.kind==3) p.Vk (cond (p.kind==4) p.Vl p.Vm)))
theorem au.LZ{w:World}{p:au}(h:p.ok w):p.without.ok w:=by
 obtain⟨h1,h2,h3,h4,h5,h6,h7,h8,h9,h10⟩:=h;have a:=bn.fP w;have r:=jC 5 eY.cells w;have n:∀s∈([]:List eY),s.ok:=fun s hs=>by simp at hs
 unfold au.without;cases (p.kind==1)<;>cases (p.kind==2)<;>cases (p.kind==3)<;>cases (p.kind==4);all_goals first
  | exact⟨h1,h2,h3,h4,h5,h6,h7,h8,h9,a⟩
  | exact⟨h1,kH.fP,kH.fP,h4,r,n,jq,h8,h9,a⟩
  | exact⟨h1,kH.fP,h3,jq,r,n,jq,h8,h9,a⟩
  | exact⟨h1,h2,h3,h4,h5,h6,jq,cZ.lJ w,jq,a⟩
theorem au.Je(p:au)(K:Nat):p.without.t.fit K:=by
 unfold au.without;cases (p.kind==1)<;>cases (p.kind==2)<;>cases (p.kind==3)<;>cases (p.kind==4);all_goals exact bn.gW K
theorem vX(w:World):dM 1 w (.agg #[.z,.sn,.z,.sn]) q0:=by
 rw[←bP.vX]; exact bP.toQ (r:=bP.none) (bP.fP w) (bP.gW 1)
theorem zS(Q:Q6):Hr Q.zK:=KE _ _
theorem zT{K:Nat}{Q:Q6}(hK:1≤K)(h:Vo K Q):qlen (K+K+(K+K)+1) Q.zK:=Vq (by omega) (wK hK h.1 h.2.2.2.1) (wK hK h.2.1 h.2.2.1)
theorem YJ.YK{K:Nat}{w:World}{v:Value}{Q:Q6}(h:kC K w v Q)(hK:1≤K):Vo K Q:=h.len hK
def au.eq(p q:au):Bool:=((((((((((p.kind)==q.kind)&&(((p.color.r.toNat:Int)==(q.color.r.toNat:Int))&&(((p.color.g.toNat:Int)==(q.color.g.toNat:Int))&&(((p.color.b.toNat:Int)==(q.color.b.toNat:Int))&&((p.color.a.toNat:Int)==(q.color.a.toNat:Int))))))&&((p.p0.x==q.p0.x)&&(p.p0.y==q.p0.y)))&&((p.p1.x==q.p1.x)&&(p.p1.y==q.p1.y)))&&((p.bF)==q.bF))&&((p.spread)==q.spread))&&((p.bQ)==q.bQ))&&(decide (p.stops=q.stops)))&&(p.img.eq q.img))&&(p.t.q.eq q.t.q)
def au.valid(p:au):Bool:=cond ((!(p.t.q.valid))||(!(p.without.eq (au.bare p.kind)))) (false) (cond ((p.kind)==1) ((p.t.q.eq bn.none.q)) (cond ((p.kind)==2) (cond (((!(kH.valid ⟨p.p0.x,p.p0.y⟩))||(!(kH.valid ⟨p.p1.x,p.p1.y⟩)))||(!(gK p.stops&&iM p.spread))) (false) (((mg p.t.q.zK q0)) != 0)) (cond ((p.kind)==3) (cond ((((!(kH.valid ⟨p.p0.x,p.p0.y⟩))||(decide (p.bF<1)))||(decide (1048576<p.bF)))||(!(gK p.stops&&iM p.spread))) (false) (((mg p.t.q.zK q0)) != 0)) (cond ((p.kind)==4) (cond (((!(p.img.valid))||(((p.spread) != 0)&&(!(iM p.spread))))||(((p.bQ) != 1)&&((p.bQ) != 2))) (false) (((mg p.t.q.zK q0)) != 0)) (false)))))
open Go.RowKit
variable{α:Type}
theorem sW{w:World}{p q:au}{K:Nat}(h:p.ok w)(h':q.ok w)(hf:p.t.fit K)(hf':q.t.fit K)(hK1:1≤K)(hK:K≤10000) :
  Calls prog 71 #[p.v,q.v] w fun e w'=>e = .returned (.bool (p.eq q))∧Ext w w':=by
 skip;refine ahO func71 ntmps71 fun ac S=>ahK fun _ aY=>ahL S 2 p.cells fun ac u b2 E3 hb4 S=>ahL S 3 q.cells fun ac u b5 E6 hb7 S=>adr S 1 [] [(4,.z)] fun S=>ahJ<|aY _ _<|ahK fun _ dR=>Sx.nV S 69 [.mem 1 0,.mem 0 0,.mem 1 1,.mem 0 1,.cmp .eql 23 (.tmp 12) (.tmp 14) (.agg #[.u (p.color.r.toNat:Int),.u (p.color.g.toNat:Int),.u (p.color.b.toNat:Int),.u (p.color.a.toNat:Int)]) (.agg #[.u (q.color.r.toNat:Int),.u (q.color.g.toNat:Int),.u (q.color.b.toNat:Int),.u (q.color.a.toNat:Int)]) (.bool (((p.color.r.toNat:Int)==(q.color.r.toNat:Int))&&(((p.color.g.toNat:Int)==(q.color.g.toNat:Int))&&(((p.color.b.toNat:Int)==(q.color.b.toNat:Int))&&((p.color.a.toNat:Int)==(q.color.a.toNat:Int)))))),.mem 1 5,.mem 0 5,.cmp .eql 123 (.tmp 19) (.tmp 21) (.agg #[.i p.p0.x,.i p.p0.y]) (.agg #[.i q.p0.x,.i q.p0.y]) (.bool ((p.p0.x==q.p0.x)&&(p.p0.y==q.p0.y))),.mem 1 7,.mem 0 7,.cmp .eql 123 (.tmp 26) (.tmp 28) (.agg #[.i p.p1.x,.i p.p1.y]) (.agg #[.i q.p1.x,.i q.p1.y]) (.bool ((p.p1.x==q.p1.x)&&(p.p1.y==q.p1.y))),.mem 1 9,.mem 0 9,.mem 1 11,.mem 0 11,.mem 1 15,.mem 0 15,.mem 1 10,.mem 0 10,.mem 1 12,.mem 0 12,.mem 1 16,.mem 0 16] [(_,_,((((((((p.kind)==q.kind)&&(((p.color.r.toNat:Int)==(q.color.r.toNat:Int))&&(((p.color.g.toNat:Int)==(q.color.g.toNat:Int))&&(((p.color.b.toNat:Int)==(q.color.b.toNat:Int))&&((p.color.a.toNat:Int)==(q.color.a.toNat:Int))))))&&((p.p0.x==q.p0.x)&&(p.p0.y==q.p0.y)))&&((p.p1.x==q.p1.x)&&(p.p1.y==q.p1.y)))&&((p.bF)==q.bF))&&((p.spread)==q.spread))&&((p.bQ)==q.bQ)),.bool (p.stops=q.stops)),(_,_,(((((((((p.kind)==q.kind)&&(((p.color.r.toNat:Int)==(q.color.r.toNat:Int))&&(((p.color.g.toNat:Int)==(q.color.g.toNat:Int))&&(((p.color.b.toNat:Int)==(q.color.b.toNat:Int))&&((p.color.a.toNat:Int)==(q.color.a.toNat:Int))))))&&((p.p0.x==q.p0.x)&&(p.p0.y==q.p0.y)))&&((p.p1.x==q.p1.x)&&(p.p1.y==q.p1.y)))&&((p.bF)==q.bF))&&((p.spread)==q.spread))&&((p.bQ)==q.bQ))&&(decide (p.stops=q.stops))),.bool (p.img.eq q.img)),(_,_,((((((((((p.kind)==q.kind)&&(((p.color.r.toNat:Int)==(q.color.r.toNat:Int))&&(((p.color.g.toNat:Int)==(q.color.g.toNat:Int))&&(((p.color.b.toNat:Int)==(q.color.b.toNat:Int))&&((p.color.a.toNat:Int)==(q.color.a.toNat:Int))))))&&((p.p0.x==q.p0.x)&&(p.p0.y==q.p0.y)))&&((p.p1.x==q.p1.x)&&(p.p1.y==q.p1.y)))&&((p.bF)==q.bF))&&((p.spread)==q.spread))&&((p.bQ)==q.bQ))&&(decide (p.stops=q.stops)))&&(p.img.eq q.img)),.bool (p.t.q.eq q.t.q))] [(4,.bool (((((((((((p.kind)==q.kind)&&(((p.color.r.toNat:Int)==(q.color.r.toNat:Int))&&(((p.color.g.toNat:Int)==(q.color.g.toNat:Int))&&(((p.color.b.toNat:Int)==(q.color.b.toNat:Int))&&((p.color.a.toNat:Int)==(q.color.a.toNat:Int))))))&&((p.p0.x==q.p0.x)&&(p.p0.y==q.p0.y)))&&((p.p1.x==q.p1.x)&&(p.p1.y==q.p1.y)))&&((p.bF)==q.bF))&&((p.spread)==q.spread))&&((p.bQ)==q.bQ))&&(decide (p.stops=q.stops)))&&(p.img.eq q.img))&&(p.t.q.eq q.t.q)))] ⟨fun u hC g=>Lc (h.2.2.2.2.1.below (Ext.trans' S.E hC)) (h'.2.2.2.2.1.below (Ext.trans' S.E hC)),fun u hC g=>qV (m:=p.img) (n:=q.img) (h.2.2.2.2.2.2.2.1.below (Ext.trans' S.E hC)) (h'.2.2.2.2.2.2.2.1.below (Ext.trans' S.E hC)),fun u hC g=>vH p.t.v q.t.v p.t.q q.t.q K _ ((bn.toQ h.2.2.2.2.2.2.2.2.2 hf).fV (Ext.trans' S.E hC)) ((bn.toQ h'.2.2.2.2.2.2.2.2.2 hf').fV (Ext.trans' S.E hC)) hK1 hK,trivial⟩ (hk:=⟨Sx.fQ (fun _=>aae ..) (by kernel_rfl),Sx.fQ (fun _=>eqPt ..) (by kernel_rfl),Sx.fQ (fun _=>eqPt ..) (by kernel_rfl),trivial⟩) fun ac u E9 S=>ahJ<|dR _ _<|ahM S results71 ?_;exact⟨rfl,S.E⟩
theorem sZ{w:World}{p:au}(h:p.ok w) :
  Calls prog 322 #[p.v] w fun e w'=>e = .returned (.bool (gK p.stops&&iM p.spread))∧Ext w w':=by
 skip;refine ahO func322 ntmps322 fun ac S=>ahK fun _ aY=>ahL S 1 p.cells fun ac u b2 E3 hb4 S=>adr S 1 [] [(2,.z)] fun S=>ahJ<|aY _ _<|ahK fun _ dw=>adr S 2 [.mem 0 10] [(4,p.sv)] fun S=>ahS S 5 (DF (h.2.2.2.2.1.below S.E)) fun ac u E6 S=>Sx.nV S 6 [.mem 0 11] [(_,_,(gK p.stops),.bool (iM p.spread))] [(2,.bool ((gK p.stops)&&(iM p.spread)))] ⟨fun u hC g=>ah0 (AY p.spread _),trivial⟩ fun ac u E7 S=>ahJ<|dw _ _<|ahM S results322 ?_;exact⟨rfl,S.E⟩
open Go.RowKit
variable{α:Type}
theorem Jf{w:World}{p:au}(h:p.ok w) :
  Calls prog 321 #[p.v] w fun e w'=>e = .returned p.without.v∧Ext w w':=by
 obtain⟨h1,h2,h3,h4,h5,h6,h7,h8,h9,h10⟩:=h;obtain⟨t0,t1,t2,t3,t4,t5⟩:=h10;have o0:=Vp.Vr h5;have o1:=Vp.Vr h8.2.2;have o2:=Vp.ku t0.1;have o3:=Vp.ku t0.2;have o4:=Vp.ku t1.1;have o5:=Vp.ku t1.2;have o6:=Vp.ku t2.1;have o7:=Vp.ku t2.2;have o8:=Vp.ku t3.1;have o9:=Vp.ku t3.2;have o10:=Vp.ku t4.1;have o11:=Vp.ku t4.2;have o12:=Vp.ku t5.1;have o13:=Vp.ku t5.2;refine ahO func321 ntmps321 fun ac S=>ahK fun _ aY=>ahL S 1 p.cells fun ac u b2 E3 hb4 S=>ahL S 2 (Sx.L [.i 0,.u 0,.u 0,.u 0,.u 0,.i 0,.i 0,.i 0,.i 0,.i 0,.sn,.i 0,.i 0,.i 0,.sn,.i 0]++Sx.za) fun ac u b5 E6 hb7 S=>ahJ<|aY _ _<|ahK fun _ dR=>adr S 1 [.mem 1 0] [(4,p.v)] fun S=>ahL S 3 (Sx.L [.i 0,.u 0,.u 0,.u 0,.u 0,.i 0,.i 0,.i 0,.i 0,.i 0,.sn,.i 0,.i 0,.i 0,.sn,.i 0]++Sx.za) fun ac u b9 Nw aaE S=>ahP S 0 (off:=0) (cs:=p.cells) rfl fun u C12 S=>ahJ<|dR _ _<|ahK fun _ iI=>adr S 2 [] [(5,.agg Sx.za.toArray),(6,.q b9 16)] fun S=>ahP S 0 (off:=16) (cs:=Sx.za) rfl fun u C14 S=>ahJ<|iI _ _<|ah2 fun _ iJ=>ahK fun _ jQ=>adr S 2 [.mem 2 0] [(8,.i p.kind)] fun S=>ahJ<|jQ _ _<|ah5<|ahK fun _ iq=>adr S 2 [] [(9,.bool ((p.kind)==1))] fun S=>ahJ (iq _ _ ?_);refine ahN S (fun hc18=>?_) (fun hc18=>?_)
 ·refine aia<|adr S 2 [] [(11,.agg #[.u 0,.u 0,.u 0,.u 0]),(12,.q b9 1)] fun S=>ahP S 0 (off:=1) (cs:=[.u 0,.u 0,.u 0,.u 0]) rfl fun u C19 S=>ahJ<|iJ _ _<|ahK fun _ kP=>adr S 1 [.mem 0 0] [(34,.agg (Sx.L [.i p.kind,.u 0,.u 0,.u 0,.u 0,.i p.p0.x,.i p.p0.y,.i p.p1.x,.i p.p1.y,.i p.bF,p.sv,.i p.spread]++p.img.cells++Sx.L [.i p.bQ]++Sx.za).toArray)] fun S=>ahP S 1 (off:=0) (cs:=(Sx.L [.i p.kind,.u 0,.u 0,.u 0,.u 0,.i p.p0.x,.i p.p0.y,.i p.p1.x,.i p.p1.y,.i p.bF,p.sv,.i p.spread]++p.img.cells++Sx.L [.i p.bQ]++Sx.za)) rfl fun u C21 S=>ahJ<|kP _ _<|aii ?_;have e:p.without=p.Vj:=by unfold au.without; rw[hc18]; rfl
  refine Sx.QV S 1 results321 rfl (v := .agg (Sx.L [.i p.kind,.u 0,.u 0,.u 0,.u 0,.i p.p0.x,.i p.p0.y,.i p.p1.x,.i p.p1.y,.i p.bF,p.sv,.i p.spread]++p.img.cells++Sx.L [.i p.bQ]++Sx.za).toArray) ?_;exact⟨by rw[e]; rfl,S.E⟩
 refine ahK fun _ kW=>adr S 2 [] [(13,.bool ((p.kind)==2))] fun S=>ahJ (kW _ _ ?_);refine ahN S (fun Bc=>?_) (fun Bc=>?_)
 ·refine aia<|adr S 3 [] [(15,.agg #[.i 0,.i 0]),(16,.agg #[.i 0,.i 0]),(17,.q b9 5)] fun S=>ahP S 0 (off:=5) (cs:=[.i 0,.i 0]) rfl fun u C24 S=>adr S 1 [] [(18,.q b9 7)] fun S=>ahP S 0 (off:=7) (cs:=[.i 0,.i 0]) rfl fun u Uz S=>adr S 1 [] [(19,.q b9 10)] fun S=>ah3 S 0 (off:=10) (v := .sn) rfl fun u C26 S=>adr S 1 [] [(20,.q b9 11)] fun S=>ah3 S 0 (off:=11) (v := .i 0) rfl fun u C27 S=>ahJ<|iJ _ _<|ahK fun _ pO=>adr S 1 [.mem 0 0] [(34,.agg (Sx.L [.i p.kind]++p.color.cells++Sx.L [.i 0,.i 0,.i 0,.i 0,.i p.bF,.sn,.i 0]++p.img.cells++Sx.L [.i p.bQ]++Sx.za).toArray)] fun S=>ahP S 1 (off:=0) (cs:=(Sx.L [.i p.kind]++p.color.cells++Sx.L [.i 0,.i 0,.i 0,.i 0,.i p.bF,.sn,.i 0]++p.img.cells++Sx.L [.i p.bQ]++Sx.za)) rfl fun u C29 S=>ahJ<|pO _ _<|aii ?_;have e:p.without=p.only2:=by unfold au.without; rw[hc18,Bc]; rfl
  refine Sx.QV S 1 results321 rfl (v := .agg (Sx.L [.i p.kind]++p.color.cells++Sx.L [.i 0,.i 0,.i 0,.i 0,.i p.bF,.sn,.i 0]++p.img.cells++Sx.L [.i p.bQ]++Sx.za).toArray) ?_;exact⟨by rw[e]; rfl,S.E⟩
 refine ahK fun _ oJ=>adr S 2 [] [(21,.bool ((p.kind)==3))] fun S=>ahJ (oJ _ _ ?_);refine ahN S (fun hc31=>?_) (fun hc31=>?_)
 ·refine aia<|adr S 2 [] [(23,.agg #[.i 0,.i 0]),(24,.q b9 5)] fun S=>ahP S 0 (off:=5) (cs:=[.i 0,.i 0]) rfl fun u C32 S=>adr S 1 [] [(25,.q b9 9)] fun S=>ah3 S 0 (off:=9) (v := .i 0) rfl fun u SH S=>adr S 1 [] [(26,.q b9 10)] fun S=>ah3 S 0 (off:=10) (v := .sn) rfl fun u C34 S=>adr S 1 [] [(27,.q b9 11)] fun S=>ah3 S 0 (off:=11) (v := .i 0) rfl fun u C35 S=>ahJ<|iJ _ _<|ahK fun _ mY=>adr S 1 [.mem 0 0] [(34,.agg (Sx.L [.i p.kind]++p.color.cells++Sx.L [.i 0,.i 0,.i p.p1.x,.i p.p1.y,.i 0,.sn,.i 0]++p.img.cells++Sx.L [.i p.bQ]++Sx.za).toArray)] fun S=>ahP S 1 (off:=0) (cs:=(Sx.L [.i p.kind]++p.color.cells++Sx.L [.i 0,.i 0,.i p.p1.x,.i p.p1.y,.i 0,.sn,.i 0]++p.img.cells++Sx.L [.i p.bQ]++Sx.za)) rfl fun u C37 S=>ahJ<|mY _ _<|aii ?_;have e:p.without=p.Vk:=by unfold au.without; rw[hc18,Bc,hc31]; rfl
  refine Sx.QV S 1 results321 rfl (v := .agg (Sx.L [.i p.kind]++p.color.cells++Sx.L [.i 0,.i 0,.i p.p1.x,.i p.p1.y,.i 0,.sn,.i 0]++p.img.cells++Sx.L [.i p.bQ]++Sx.za).toArray) ?_;exact⟨by rw[e]; rfl,S.E⟩
 refine ahK fun _ lq=>adr S 2 [] [(28,.bool ((p.kind)==4))] fun S=>ahJ (lq _ _ ?_);refine ahN S (fun hc39=>?_) (fun hc39=>?_)
 ·refine aia<|adr S 2 [] [(30,.agg #[.i 0,.i 0,.sn]),(31,.q b9 12)] fun S=>ahP S 0 (off:=12) (cs:=[.i 0,.i 0,.sn]) rfl fun u C40 S=>adr S 1 [] [(32,.q b9 11)] fun S=>ah3 S 0 (off:=11) (v := .i 0) rfl fun u C41 S=>adr S 1 [] [(33,.q b9 15)] fun S=>ah3 S 0 (off:=15) (v := .i 0) rfl fun u C42 S=>ahJ<|iJ _ _<|ahK fun _ vF=>adr S 1 [.mem 0 0] [(34,.agg (Sx.L [.i p.kind]++p.color.cells++Sx.L [.i p.p0.x,.i p.p0.y,.i p.p1.x,.i p.p1.y,.i p.bF,p.sv,.i 0,.i 0,.i 0,.sn,.i 0]++Sx.za).toArray)] fun S=>ahP S 1 (off:=0) (cs:=(Sx.L [.i p.kind]++p.color.cells++Sx.L [.i p.p0.x,.i p.p0.y,.i p.p1.x,.i p.p1.y,.i p.bF,p.sv,.i 0,.i 0,.i 0,.sn,.i 0]++Sx.za)) rfl fun u C44 S=>ahJ<|vF _ _<|aii ?_;have e:p.without=p.Vl:=by unfold au.without; rw[hc18,Bc,hc31,hc39]; rfl
  refine Sx.QV S 1 results321 rfl (v := .agg (Sx.L [.i p.kind]++p.color.cells++Sx.L [.i p.p0.x,.i p.p0.y,.i p.p1.x,.i p.p1.y,.i p.bF,p.sv,.i 0,.i 0,.i 0,.sn,.i 0]++Sx.za).toArray) ?_;exact⟨by rw[e]; rfl,S.E⟩
 refine ah4<|iJ _ _<|ahK fun _ Vs=>adr S 1 [.mem 0 0] [(34,.agg (Sx.L [.i p.kind]++p.color.cells++Sx.L [.i p.p0.x,.i p.p0.y,.i p.p1.x,.i p.p1.y,.i p.bF,p.sv,.i p.spread]++p.img.cells++Sx.L [.i p.bQ]++Sx.za).toArray)] fun S=>ahP S 1 (off:=0) (cs:=(Sx.L [.i p.kind]++p.color.cells++Sx.L [.i p.p0.x,.i p.p0.y,.i p.p1.x,.i p.p1.y,.i p.bF,p.sv,.i p.spread]++p.img.cells++Sx.L [.i p.bQ]++Sx.za)) rfl fun u C46 S=>ahJ<|Vs _ _<|aii ?_;have e:p.without=p.Vm:=by unfold au.without; rw[hc18,Bc,hc31,hc39]; rfl
 refine Sx.QV S 1 results321 rfl (v := .agg (Sx.L [.i p.kind]++p.color.cells++Sx.L [.i p.p0.x,.i p.p0.y,.i p.p1.x,.i p.p1.y,.i p.bF,p.sv,.i p.spread]++p.img.cells++Sx.L [.i p.bQ]++Sx.za).toArray) ?_;exact⟨by rw[e]; rfl,S.E⟩
open Go.RowKit
variable{α:Type}
theorem BL{w:World}{p:au}{K:Nat}(h:p.ok w)(hf:p.t.fit K)(hK1:1≤K)(hK:K≤10000) :
  Calls prog 290 #[p.v] w fun e w'=>e = .returned (.bool p.valid)∧Ext w w':=by
 skip;refine ahO func290 ntmps290 fun ac S=>ahK fun _ aY=>ahL S 1 p.cells fun ac u b2 E3 hb4 S=>adr S 1 [] [(2,.z)] fun S=>ahJ<|aY _ _<|ah2 fun _ dw=>ah2 fun _ iT=>ahW S 13 [.mem 0 16,.mem 0 0,.mem 0 0] [(_,_,true,.bool (p.t.q.valid)),(_,_,(!(!(p.t.q.valid))),p.without.v),(_,_,(!(!(p.t.q.valid))),.bool (p.without.eq (au.bare p.kind)))] [(15,.bool ((!(p.t.q.valid))||(!(p.without.eq (au.bare p.kind)))))] ⟨fun u hC g=>Ae p.t.v p.t.q K _ ((bn.toQ h.2.2.2.2.2.2.2.2.2 hf).fV (Ext.trans' S.E hC)) hK1 (by omega),fun u hC g=>Jf (h.below (Ext.trans' S.E hC)),fun u hC g=>sW (p:=p.without) (q:=au.bare p.kind) (K:=K) ((au.LZ h).below (Ext.trans' S.E hC)) (au.lJ h.1 _) (au.Je p K) (bn.gW K) hK1 hK,trivial⟩ fun ac u E7 S=>ahJ (iT _ _ ?_);refine ahN S (fun hc8=>?_) (fun hc8=>?_)
 ·refine ahK fun _ iD=>adr S 1 [] [(2,.z)] fun S=>ahJ<|iD _ _<|ahM S results290 ?_;exact⟨aH (by unfold au.valid; rw[hc8]; rfl),S.E⟩
 refine ah4<|dw _ _<|ah2 fun _ gu=>ahK fun _ dO=>adr S 2 [.mem 0 0] [(17,.i p.kind)] fun S=>ahJ<|dO _ _<|ah5<|ahK fun _ fD=>adr S 2 [] [(18,.bool ((p.kind)==1))] fun S=>ahJ (fD _ _ ?_);refine ahN S (fun hc13=>?_) (fun hc13=>?_)
 ·refine ahK fun _ gU=>adr S 3 [.mem 0 16] [(21,p.t.v),(22,.agg Sx.za.toArray)] fun S=>ahS S 23 (vH p.t.v bn.none.v p.t.q bn.none.q K _ ((bn.toQ h.2.2.2.2.2.2.2.2.2 hf).fV S.E) ((bn.toQ (bn.fP _) (bn.gW K)).fV (ais _ _)) hK1 hK) fun ac u FX S=>adr S 1 [] [(2,.bool (p.t.q.eq bn.none.q))] fun S=>ahJ<|gU _ _<|ahM S results290 ?_;exact⟨aH (by unfold au.valid; rw[hc8,hc13]; rfl),S.E⟩
 refine ahK fun _ jQ=>adr S 2 [] [(24,.bool ((p.kind)==2))] fun S=>ahJ (jQ _ _ ?_);refine ahN S (fun hc17=>?_) (fun hc17=>?_)
 ·refine ahK fun _ jy=>adr S 2 [.mem 0 5] [(27,.agg #[.i p.p0.x,.i p.p0.y])] fun S=>ahS S 28 (jM (p.p0.x) (p.p0.y) _) fun ac u Dz S=>Sx.nV S 12 [.mem 0 7,.mem 0 0] [(_,_,(!(!(kH.valid ⟨p.p0.x,p.p0.y⟩))),.bool (kH.valid ⟨p.p1.x,p.p1.y⟩)),(_,_,(!((!(kH.valid ⟨p.p0.x,p.p0.y⟩))||(!(kH.valid ⟨p.p1.x,p.p1.y⟩)))),.bool (gK p.stops&&iM p.spread))] [(40,.bool (((!(kH.valid ⟨p.p0.x,p.p0.y⟩))||(!(kH.valid ⟨p.p1.x,p.p1.y⟩)))||(!(gK p.stops&&iM p.spread))))] ⟨fun u hC g=>jM (p.p1.x) (p.p1.y) _,fun u hC g=>sZ (h.below (Ext.trans' S.E hC)),trivial⟩ fun ac u Aa S=>ahJ (jy _ _ ?_);refine ahN S (fun hc21=>?_) (fun hc21=>?_)
  ·refine ahK fun _ kW=>adr S 1 [] [(2,.z)] fun S=>ahJ<|kW _ _<|ahM S results290 ?_;exact⟨aH (by unfold au.valid; rw[hc8,hc13,hc17,hc21]; rfl),S.E⟩
  refine ah4<|gu _ _<|ahK fun _ pR=>adr S 2 [.mem 0 16] [(90,p.t.v)] fun S=>ahQ S (some 91) (NC p.t.v p.t.q K _ ((bn.toQ h.2.2.2.2.2.2.2.2.2 hf).fV S.E) hK1 hK) ?_;rintro e u ⟨x,rfl,hd,N8⟩;refine⟨_,rfl,N8,fun ac S=>?_⟩;refine adr S 1 [] [(92,.agg Sx.zr.toArray)] fun S=>ahS S 93 (jU _ _ p.t.q.zK q0 (K+K+(K+K)+1) 1 _ (aB.toQ hd (zS _) (zT hK1 (YJ.YK ((bn.toQ h.2.2.2.2.2.2.2.2.2 hf).fV (ais _ _)) hK1))) (vX _) (by omega) (by omega) (by omega) (by omega)) fun ac u LC S=>adr S 2 [] [(2,.bool (((mg p.t.q.zK q0)) != 0))] fun S=>ahJ<|pR _ _<|ahM S results290 ?_;exact⟨aH (by unfold au.valid; rw[hc8,hc13,hc17,hc21]; rfl),S.E⟩
 refine ahK fun _ jA=>adr S 2 [] [(41,.bool ((p.kind)==3))] fun S=>ahJ (jA _ _ ?_);refine ahN S (fun hc27=>?_) (fun hc27=>?_)
 ·refine ahK fun _ pO=>adr S 2 [.mem 0 5] [(44,.agg #[.i p.p0.x,.i p.p0.y])] fun S=>ahS S 45 (jM (p.p0.x) (p.p0.y) _) fun ac u zA S=>Sx.nV S 16 [.mem 0 9,.mem 0 9,.mem 0 0] [(_,_,(!(((!(kH.valid ⟨p.p0.x,p.p0.y⟩))||(decide (p.bF<1)))||(decide (1048576<p.bF)))),.bool (gK p.stops&&iM p.spread))] [(61,.bool ((((!(kH.valid ⟨p.p0.x,p.p0.y⟩))||(decide (p.bF<1)))||(decide (1048576<p.bF)))||(!(gK p.stops&&iM p.spread))))] ⟨fun u hC g=>sZ (h.below (Ext.trans' S.E hC)),trivial⟩ fun ac u E30 S=>ahJ (pO _ _ ?_);refine ahN S (fun hc31=>?_) (fun hc31=>?_)
  ·refine ahK fun _ mG=>adr S 1 [] [(2,.z)] fun S=>ahJ<|mG _ _<|ahM S results290 ?_;exact⟨aH (by unfold au.valid; rw[hc8,hc13,hc17,hc27,hc31]; rfl),S.E⟩
  refine ah4<|gu _ _<|ahK fun _ kD=>adr S 2 [.mem 0 16] [(90,p.t.v)] fun S=>ahQ S (some 91) (NC p.t.v p.t.q K _ ((bn.toQ h.2.2.2.2.2.2.2.2.2 hf).fV S.E) hK1 hK) ?_;rintro e u ⟨x,rfl,hd,PL⟩;refine⟨_,rfl,PL,fun ac S=>?_⟩;refine adr S 1 [] [(92,.agg Sx.zr.toArray)] fun S=>ahS S 93 (jU _ _ p.t.q.zK q0 (K+K+(K+K)+1) 1 _ (aB.toQ hd (zS _) (zT hK1 (YJ.YK ((bn.toQ h.2.2.2.2.2.2.2.2.2 hf).fV (ais _ _)) hK1))) (vX _) (by omega) (by omega) (by omega) (by omega)) fun ac u Ky S=>adr S 2 [] [(2,.bool (((mg p.t.q.zK q0)) != 0))] fun S=>ahJ<|kD _ _<|ahM S results290 ?_;exact⟨aH (by unfold au.valid; rw[hc8,hc13,hc17,hc27,hc31]; rfl),S.E⟩
 refine ahK fun _ mY=>adr S 2 [] [(62,.bool ((p.kind)==4))] fun S=>ahJ (mY _ _ ?_);refine ahN S (fun zI=>?_) (fun zI=>?_)
 ·refine ahK fun _ lq=>adr S 2 [.mem 0 12] [(65,p.img.v)] fun S=>ahS S 66 (wV (m:=p.img) (h.2.2.2.2.2.2.2.1.below S.E)) fun ac u XV S=>Sx.nV S 22 [.mem 0 11,.mem 0 11,.mem 0 15,.mem 0 15] [(_,_,((!(!(p.img.valid)))&&((p.spread) != 0)),.bool (iM p.spread))] [(88,.bool (((!(p.img.valid))||(((p.spread) != 0)&&(!(iM p.spread))))||(((p.bQ) != 1)&&((p.bQ) != 2))))] ⟨fun u hC g=>ah0 (AY p.spread _),trivial⟩ fun ac u E40 S=>ahJ (lq _ _ ?_);refine ahN S (fun QW=>?_) (fun QW=>?_)
  ·refine ahK fun _ vC=>adr S 1 [] [(2,.z)] fun S=>ahJ<|vC _ _<|ahM S results290 ?_;exact⟨aH (by unfold au.valid; rw[hc8,hc13,hc17,hc27,zI,QW]; rfl),S.E⟩
  refine ah4<|gu _ _<|ahK fun _ vF=>adr S 2 [.mem 0 16] [(90,p.t.v)] fun S=>ahQ S (some 91) (NC p.t.v p.t.q K _ ((bn.toQ h.2.2.2.2.2.2.2.2.2 hf).fV S.E) hK1 hK) ?_;rintro e u ⟨x,rfl,hd,SI⟩;refine⟨_,rfl,SI,fun ac S=>?_⟩;refine adr S 1 [] [(92,.agg Sx.zr.toArray)] fun S=>ahS S 93 (jU _ _ p.t.q.zK q0 (K+K+(K+K)+1) 1 _ (aB.toQ hd (zS _) (zT hK1 (YJ.YK ((bn.toQ h.2.2.2.2.2.2.2.2.2 hf).fV (ais _ _)) hK1))) (vX _) (by omega) (by omega) (by omega) (by omega)) fun ac u Z4 S=>adr S 2 [] [(2,.bool (((mg p.t.q.zK q0)) != 0))] fun S=>ahJ<|vF _ _<|ahM S results290 ?_;exact⟨aH (by unfold au.valid; rw[hc8,hc13,hc17,hc27,zI,QW]; rfl),S.E⟩
 refine ahK fun _ zB=>adr S 1 [] [(2,.z)] fun S=>ahJ<|zB _ _<|ahM S results290 ?_;exact⟨aH (by unfold au.valid; rw[hc8,hc13,hc17,hc27,zI]; rfl),S.E⟩
theorem Vt{w:World}{p:au}{K:Nat}(h:p.ok w)(hf:p.t.fit K)(hK1:1≤K)(hK:K≤10000) :
  Calls prog 289 #[p.v] w fun e w'=>e = .returned (.bool (!p.valid))∧Ext w w':=by
 skip;refine ahO func289 ntmps289 fun ac S=>ahK fun _ aY=>ahL S 1 p.cells fun ac u b2 E3 hb4 S=>adr S 1 [] [(2,.z)] fun S=>ahJ<|aY _ _<|ahK fun _ dw=>adr S 1 [.mem 0 0] [(3,p.v)] fun S=>ahS S 4 (BL (h.below S.E) hf hK1 hK) fun ac u E6 S=>adr S 2 [] [(2,.bool (!p.valid))] fun S=>ahJ<|dw _ _<|ahM S results289 ?_;exact⟨rfl,S.E⟩
open Go.RowKit
variable{α:Type}{K:Nat}
def lW(K:Nat)(w:World)(v:Value)(l:List au):Prop:=jf w v l∧(∀p∈l,p.t.fit K)∧1≤K∧K≤10000
theorem lW.below{w w':World}{v:Value}{l:List au}(h:lW K w v l)(hb:Ext w w'):lW K w' v l:=⟨h.1.below hb,h.2⟩
theorem OA:∃ie,Tryz.prog.info? 177=some ie∧ie.size=1∧ie.zero=some .nilIface:=by
 have h1:(Tryz.prog.info? 177).map (fun i=>(i.size,i.zero))=some (1,some .nilIface):=by kernel_rfl
 cases h:Tryz.prog.info? 177 with
 | none=>rw[h]at h1; cases h1
 | some i=>rw[h]at h1; simp at h1; exact⟨i,rfl,h1.1,h1.2⟩
theorem dW(b:Bool)(n:Int):(bT b n).cells = #[bT b n]:=by unfold bT; split<;>rfl
theorem Ez{P:Program}{ρ:Operand→Value}{o:Oper}{w w1:World}{t:TypeId}{n:Nat}{parts:Array (Nat×Operand)}{vs:Array (Nat×Value)}{V:Value}(hop:o.op = .buildSlice t n parts)(hp:(parts.map fun(i,x)=>(i,ρ x))=vs)(h:(Instr.buildSlice t n vs).run P w = .ok V w1) :
  (execOp ρ o).run P w = .ok (.value V) w1:=by
 unfold execOp;simp only[hop,hp,aiU,h];rfl
theorem QX(v0 v1 v2 v3 v4 v5:Value)(w:World)(h0:v0.cells = #[v0])(h1:v1.cells = #[v1])(h2:v2.cells = #[v2])(h3:v3.cells = #[v3])(h4:v4.cells = #[v4])(h5:v5.cells = #[v5]) :
  (Instr.buildSlice 288 6 #[(0,v0),(1,v1),(2,v2),(3,v3),(4,v4),(5,v5)]).run prog w = .ok (.slice (some ⟨w.heap.size,0,none⟩) 6 6) (w.alloc (.cells #[v0,v1,v2,v3,v4,v5] 177)):=by
 obtain⟨ie,hi,hs,hz⟩:=OA;refine run_buildSlice w _ 177 6 _ _ ie .nilIface underlying288 hi hz (by rw[hs]; decide) (by rw[hs]; decide) ?_;rw[hs];have ez:((Array.range (6*1)).map (Value.nilIface.cells[· % Value.nilIface.cells.size]!)) = #[.nilIface,.nilIface,.nilIface,.nilIface,.nilIface,.nilIface]:=by kernel_rfl
 rw[ez];simp[Instr.fill,h0,h1,h2,h3,h4,h5]
theorem I8{Q:Exit→Act→World→Prop}{ops:Array Oper}{w0:World}{a:Act}{w:World}{os:List Oper}{N:Nat}{l:List (Nat×Value)}{bl:List (Nat×List Value)}{vs:List Sx.fG}(S:Sx.St w0 a w N l bl vs)(d:Nat)(v0 v1 v2 v3 v4 v5:Value){t0 t1 t2 t3 t4 t5:Nat}{o:Oper}{os':List Oper} 
  (hos:os=o::os') (hg:o.guard=none) (hd:o.dst=some d) (hop:o.op = .buildSlice 288 6 #[(0,.tmp t0),(1,.tmp t1),(2,.tmp t2),(3,.tmp t3),(4,.tmp t4),(5,.tmp t5)]) (c0:v0.cells = #[v0]) (c1:v1.cells = #[v1]) (c2:v2.cells = #[v2]) (c3:v3.cells = #[v3]) (c4:v4.cells = #[v4]) (c5:v5.cells = #[v5])
  (next:∀a' w' b,Ext w w'→b=w.heap.size→Sx.St w0 a' w' N ((d,.slice (some ⟨b,0,none⟩) 6 6)::l) ((b,[v0,v1,v2,v3,v4,v5])::bl) vs→wpList prog ops Q (os.drop 1) a' w')
  (l0:l.lookup t0=some v0:=by kernel_rfl) (l1:l.lookup t1=some v1:=by kernel_rfl) (l2:l.lookup t2=some v2:=by kernel_rfl) (l3:l.lookup t3=some v3:=by kernel_rfl) (l4:l.lookup t4=some v4:=by kernel_rfl) (l5:l.lookup t5=some v5:=by kernel_rfl) (hdn:Sx.zH N (some d)=true:=by rfl):wpList prog ops Q os a w:=
 Sx.Vu S d [v0,v1,v2,v3,v4,v5] 177 (fun b => .slice (some ⟨b,0,none⟩) 6 6) hos hg hd (Ez hop (by simp[S.s.has _ _ l0,S.s.has _ _ l1,S.s.has _ _ l2,S.s.has _ _ l3,S.s.has _ _ l4,S.s.has _ _ l5]) (QX v0 v1 v2 v3 v4 v5 w c0 c1 c2 c3 c4 c5)) next hdn
theorem QY(v0 v1:Value)(w:World)(h0:v0.cells = #[v0])(h1:v1.cells = #[v1]) :
  (Instr.buildSlice 288 2 #[(0,v0),(1,v1)]).run prog w = .ok (.slice (some ⟨w.heap.size,0,none⟩) 2 2) (w.alloc (.cells #[v0,v1] 177)):=by
 obtain⟨ie,hi,hs,hz⟩:=OA;refine run_buildSlice w _ 177 2 _ _ ie .nilIface underlying288 hi hz (by rw[hs]; decide) (by rw[hs]; decide) ?_;rw[hs];have ez:((Array.range (2*1)).map (Value.nilIface.cells[· % Value.nilIface.cells.size]!)) = #[.nilIface,.nilIface]:=by kernel_rfl
 rw[ez];simp[Instr.fill,h0,h1]
theorem U9{Q:Exit→Act→World→Prop}{ops:Array Oper}{w0:World}{a:Act}{w:World}{os:List Oper}{N:Nat}{l:List (Nat×Value)}{bl:List (Nat×List Value)}{vs:List Sx.fG}(S:Sx.St w0 a w N l bl vs)(d:Nat)(v0 v1:Value){t0 t1:Nat}{o:Oper}{os':List Oper} 
  (hos:os=o::os') (hg:o.guard=none) (hd:o.dst=some d) (hop:o.op = .buildSlice 288 2 #[(0,.tmp t0),(1,.tmp t1)]) (c0:v0.cells = #[v0]) (c1:v1.cells = #[v1])
  (next:∀a' w' b,Ext w w'→b=w.heap.size→Sx.St w0 a' w' N ((d,.slice (some ⟨b,0,none⟩) 2 2)::l) ((b,[v0,v1])::bl) vs→wpList prog ops Q (os.drop 1) a' w')
  (l0:l.lookup t0=some v0:=by kernel_rfl) (l1:l.lookup t1=some v1:=by kernel_rfl) (hdn:Sx.zH N (some d)=true:=by rfl):wpList prog ops Q os a w:=
 Sx.Vu S d [v0,v1] 177 (fun b => .slice (some ⟨b,0,none⟩) 2 2) hos hg hd (Ez hop (by simp[S.s.has _ _ l0,S.s.has _ _ l1]) (QY v0 v1 w c0 c1)) next hdn
theorem BM{w:World}{v:Value}{l:List au}(h:lW K w v l) :
  Calls prog 320 #[v,.func (.func 289) #[] #[]] w fun e w'=>∃z,e = .returned (.i z)∧decide (0≤z) = !(l.all au.valid)∧Ext w w':=by
 obtain⟨a,cap,rfl⟩:=h.1.1.shape;have hmax:l.length≤9223372036854775807:=h.1.1.len;refine ahO func320 ntmps320 fun ac S=>ahK fun _ aY=>adr S 1 [] [(4,.i 0)] fun S=>ahJ<|aY _ _<|ah2 fun _ fA=>ahK fun _ jw=>adr S 3 [] [(7,.i l.length),(8,.i 0)] fun S=>ahJ<|jw _ _<|ah5 ?_;refine aiM (ι:=Nat) (fun p a' w'=>p≤l.length∧((l.take p).all au.valid=true)∧Sx.St w a' w' 19 [(0,.slice a l.length cap),(1,.func (.func 289) #[] #[]),(4,.i 0),(7,.i l.length),(8,.i p)] [] []) (fun p=>l.length-p) (0) ⟨aij _,rfl,S.sn⟩ ?_;rintro k ac u hI;try dsimp only at hI
 obtain⟨hk,hR,S⟩:=hI;refine ahK fun _ nT=>adr S 1 [] [(9,.bool ((k:Int)<(l.length:Int)))] fun S=>ahJ<|nT _ _<|ah2 (fun _ dw=>?_);refine ahN S (fun hc6=>?_) (fun hc6=>?_)
 ·refine ah4<|dw _ _<|ah2 fun _ iL=>ah5<|ahK fun _ dR=>adr S 2 [] [(5,.i k)] fun S=>ahJ<|dR _ _<|ahK (fun _ iD=>?_);have qm:k<l.length:=by have:=ain hc6; omega
  obtain⟨b10,o11,rfl,x16,vS,Lj,FT⟩:=aiy h.1.1 (fun _=>rfl) (k) qm;have S:=S.view0 Lj FT;refine adr S 5 [.idx k l.length,.mem 0 0] [(11,.func (.func 289) #[] #[]),(15,x16.v)] (hk:=⟨qm,trivial⟩) fun S=>ahS S 16 (Vt ((h.1.2 _ (vS▸aiD qm)).below S.E) (h.2.1 _ (vS▸aiD qm)) h.2.2.1 h.2.2.2) fun ac u tZ S=>ahJ (iD _ _ ?_);refine ahN S (fun hc19=>?_) (fun hc19=>?_)
  ·refine ahK fun _ kP=>adr S 2 [] [(4,.i k)] fun S=>ahJ<|kP _ _<|ahM S results320 ?_;exact⟨_,rfl,by rw[wU qm (by rw[vS]; simpa using hc19)]; simp,S.E⟩
  refine ah4<|iL _ _<|aia<|adr S 2 [.re 18 (.i (IntKind.i64.wrap ((k:Int)+1))) (.i (k+1:Nat))] [(8,.i (k+1:Nat))] (hk:=⟨ahY (by omega),trivial⟩) fun S=>ahJ ?_;show ∃i',_∧_;exact⟨(k+1),⟨by omega,(lM qm hR (by rw[vS]; simpa using hc19)),S.sn⟩,by show _-_<_-_; omega⟩
 refine ail<|fA _ _<|ahK fun _ mX=>adr S 1 [] [(4,.i (-1))] fun S=>ahJ<|mX _ _<|ahM S results320 ?_;exact⟨_,rfl,by rw[oW (by have:=aiu hc6; omega) hR]; rfl,S.E⟩
theorem DJ{w:World}{v:Value}{l:List au}(h:lW K w v l) :
  Calls prog 288 #[v,.func (.func 289) #[] #[]] w fun e w'=>e = .returned (.bool (!(l.all au.valid)))∧Ext w w':=by
 skip;refine ahO func288 ntmps288 fun ac S=>ahK fun _ aY=>adr S 1 [] [(4,.z)] fun S=>ahJ<|aY _ _<|ahK fun _ fA=>adr S 2 [] [(5,v),(6,.func (.func 289) #[] #[])] fun S=>ahQ S (some 7) (BM (h.below S.E)) ?_;rintro e u ⟨z,rfl,hz,E3⟩;refine⟨_,rfl,E3,fun ac S=>?_⟩;refine adr S 2 [] [(4,.bool (0≤z))] fun S=>ahJ<|fA _ _<|ahM S results288 ?_;exact⟨aH hz,S.E⟩
theorem Ot{w:World}{v:Value}{l:List au}(h:lW K w v l) :
  Calls prog 245 #[v] w fun e w'=>e = .returned (.bool (l.all au.valid))∧Ext w w':=by
 skip;refine ahO func245 ntmps245 fun ac S=>ahK fun _ aY=>adr S 1 [] [(2,.z)] fun S=>ahJ<|aY _ _<|ahK fun _ fA=>adr S 1 [] [(3,v)] fun S=>ahS S 4 (DJ (h.below S.E)) fun ac u E3 S=>adr S 2 [] [(2,.bool (!(!(l.all au.valid))))] fun S=>ahJ<|fA _ _<|ahM S results245 ?_;exact⟨aH (by simp),S.E⟩
end Go.Proofs.YtapmgonflgahbaaGreatDoor
