/- What paints say: plain laws. -/
import Derived.Test.YtfmkkemfhjkajaaGreatDoorImg
import Derived.Test.YtfmkkemfhjkajaaGreatDoorAffG
import Derived.Great.BuildSlice
set_option linter.unusedVariables false
set_option maxHeartbeats 1600000
set_option maxRecDepth 100000
namespace Go.Proofs.YtfmkkemfhjkajaaGreatDoor
open Go.RowKit
variable{α:Type}
def bM.none:bM:=⟨false,Option.none,0,[],false,Option.none,0,[]⟩
theorem bM.zC:bM.none.q=q0:=by decide
def aV.none:aV:=⟨.none,.none,.none,.none,.none,.none⟩
theorem bM.gK(w:World):bM.none.ok w:=⟨⟨Option.none,0,rfl,Nat.zero_le _,.inl ⟨rfl,fun _=>rfl⟩⟩,⟨Option.none,0,rfl,Nat.zero_le _,.inl ⟨rfl,fun _=>rfl⟩⟩⟩
theorem bM.iI(K:Nat):bM.none.fit K:=⟨Nat.zero_le _,Nat.zero_le _⟩
theorem aV.gK(w:World):aV.none.ok w:=⟨bM.gK w,bM.gK w,bM.gK w,bM.gK w,bM.gK w,bM.gK w⟩
theorem aV.iI(K:Nat):aV.none.fit K:=⟨bM.iI K,bM.iI K,bM.iI K,bM.iI K,bM.iI K,bM.iI K⟩
def bU.bare:bU:=⟨0,0,Option.none,0,[]⟩
theorem gX:I64 0:=⟨by decide,by decide⟩
theorem bU.jH(w:World):bU.bare.ok w:=⟨gX,gX,nR _ _ _⟩
def kE.none:kE:=⟨0,0⟩
theorem kE.gK:kE.none.ok:=⟨gX,gX⟩
def dI.none:dI:=⟨0,0,0,0⟩
def ak.bare(k:Int):ak:=⟨k,.none,.none,.none,0,Option.none,0,[],0,.bare,0,.none⟩
theorem ak.jH{k:Int}(hk:I64 k)(w:World):(ak.bare k).ok w:=⟨hk,kE.gK,kE.gK,gX,nR _ _ _,fun s hs=>by simp[ak.bare]at hs,gX,bU.jH w,gX,aV.gK w⟩
def ak.TU(p:ak):ak:={ p with t := .none,color := .none }
def ak.only2(p:ak):ak:={ p with t := .none,p0 := .none,p1 := .none,sva:=Option.none,svc:=0,stops:=[],spread:=0 }
def ak.TV(p:ak):ak:={ p with t := .none,p0 := .none,bG:=0,sva:=Option.none,svc:=0,stops:=[],spread:=0 }
def ak.TW(p:ak):ak:={ p with t := .none,img := .bare,spread:=0,cZ:=0 }
def ak.Y1(p:ak):ak:={ p with t := .none }
def ak.without(p:ak):ak:=cond (p.kind==1) p.TU (cond (p.kind==2) p.only2 (cond (p.kind==3) p.TV (cond (p.kind==4) p.TW p.Y1)))
theorem ak.QY{w:World}{p:ak}(h:p.ok w):p.without.ok w:=by
 obtain⟨h1,h2,h3,h4,h5,h6,h7,h8,h9,h10⟩:=h
 have a:=aV.gK w
 have r:=nR 5 fK.cells w
 have n:∀s∈([]:List fK),s.ok:=fun s hs=>by simp at hs
 unfold ak.without
 cases (p.kind==1)<;>cases (p.kind==2)<;>cases (p.kind==3)<;>cases (p.kind==4)
 all_goals first
  | exact⟨h1,h2,h3,h4,h5,h6,h7,h8,h9,a⟩
  | exact⟨h1,kE.gK,kE.gK,h4,r,n,gX,h8,h9,a⟩
  | exact⟨h1,kE.gK,h3,gX,r,n,gX,h8,h9,a⟩
  | exact⟨h1,h2,h3,h4,h5,h6,gX,bU.jH w,gX,a⟩
theorem ak.NK(p:ak)(K:Nat):p.without.t.fit K:=by
 unfold ak.without
 cases (p.kind==1)<;>cases (p.kind==2)<;>cases (p.kind==3)<;>cases (p.kind==4)
 all_goals exact aV.iI K
theorem zC(w:World):cO 1 w (.agg #[.bool false,.slice none 0 0,.bool false,.slice none 0 0]) q0:=by
 rw[←bM.zC]; exact bM.toQ (r:=bM.none) (bM.gK w) (bM.iI 1)
theorem xQ(Q:Q6):Hw Q.vU:=Ec _ _
theorem xR{K:Nat}{Q:Q6}(hK:1≤K)(h:Em K Q):qlen (K+K+(K+K)+1) Q.vU:=Y2 (by omega) (uh hK h.1 h.2.2.2.1) (uh hK h.2.1 h.2.2.1)
theorem VO.VP{K:Nat}{w:World}{v:Value}{Q:Q6}(h:jk K w v Q)(hK:1≤K):Em K Q:=h.len hK
def ak.eq(p q:ak):Bool:=((((((((((p.kind)==q.kind)&&(((p.color.r.toNat:Int)==(q.color.r.toNat:Int))&&(((p.color.g.toNat:Int)==(q.color.g.toNat:Int))&&(((p.color.b.toNat:Int)==(q.color.b.toNat:Int))&&((p.color.a.toNat:Int)==(q.color.a.toNat:Int))))))&&((p.p0.x==q.p0.x)&&(p.p0.y==q.p0.y)))&&((p.p1.x==q.p1.x)&&(p.p1.y==q.p1.y)))&&((p.bG)==q.bG))&&((p.spread)==q.spread))&&((p.cZ)==q.cZ))&&(decide (p.stops=q.stops)))&&(p.img.eq q.img))&&(p.t.q.eq q.t.q)
def ak.valid(p:ak):Bool:=cond ((!(p.t.q.valid))||(!(p.without.eq (ak.bare p.kind)))) (false) (cond ((p.kind)==1) ((p.t.q.eq aV.none.q)) (cond ((p.kind)==2) (cond (((!(kE.valid ⟨p.p0.x,p.p0.y⟩))||(!(kE.valid ⟨p.p1.x,p.p1.y⟩)))||(!(dY p.stops&&iJ p.spread))) (false) (((kJ p.t.q.vU q0)) != 0)) (cond ((p.kind)==3) (cond ((((!(kE.valid ⟨p.p0.x,p.p0.y⟩))||(decide (p.bG<1)))||(decide (1048576<p.bG)))||(!(dY p.stops&&iJ p.spread))) (false) (((kJ p.t.q.vU q0)) != 0)) (cond ((p.kind)==4) (cond (((!(p.img.valid))||(((p.spread) != 0)&&(!(iJ p.spread))))||(((p.cZ) != 1)&&((p.cZ) != 2))) (false) (((kJ p.t.q.vU q0)) != 0)) (false)))))
open Go.RowKit
variable{α:Type}
theorem wQ{w:World}{p q:ak}{K:Nat}(h:p.ok w)(h':q.ok w)(hf:p.t.fit K)(hf':q.t.fit K)(hK1:1≤K)(hK:K≤10000) :
  Calls Tryz.prog 95 #[p.v,q.v] w fun e w'=>e = .returned (.bool (p.eq q))∧Ext w w':=by
 skip
 refine aiK Tryz.func95 Tryz.ntmps95 fun ac S=>aiG fun _ aU=>aiJ S 2 p.cells fun ac u b2 E3 hb4 S=>aiJ S 3 q.cells fun ac u b5 E6 hb7 S=>adr S 1 [] [(4,.bool false)] fun ac S=>aiF<|aU _ _<|aiG fun _ dP=>aiT S 69 [.mem 1 0,.mem 0 0,.mem 1 1,.mem 0 1,.cmp .eql 23 (.tmp 12) (.tmp 14) (.agg #[.int .u8 (p.color.r.toNat:Int),.int .u8 (p.color.g.toNat:Int),.int .u8 (p.color.b.toNat:Int),.int .u8 (p.color.a.toNat:Int)]) (.agg #[.int .u8 (q.color.r.toNat:Int),.int .u8 (q.color.g.toNat:Int),.int .u8 (q.color.b.toNat:Int),.int .u8 (q.color.a.toNat:Int)]) (.bool (((p.color.r.toNat:Int)==(q.color.r.toNat:Int))&&(((p.color.g.toNat:Int)==(q.color.g.toNat:Int))&&(((p.color.b.toNat:Int)==(q.color.b.toNat:Int))&&((p.color.a.toNat:Int)==(q.color.a.toNat:Int)))))),.mem 1 5,.mem 0 5,.cmp .eql 60 (.tmp 19) (.tmp 21) (.agg #[.int .i64 p.p0.x,.int .i64 p.p0.y]) (.agg #[.int .i64 q.p0.x,.int .i64 q.p0.y]) (.bool ((p.p0.x==q.p0.x)&&(p.p0.y==q.p0.y))),.mem 1 7,.mem 0 7,.cmp .eql 60 (.tmp 26) (.tmp 28) (.agg #[.int .i64 p.p1.x,.int .i64 p.p1.y]) (.agg #[.int .i64 q.p1.x,.int .i64 q.p1.y]) (.bool ((p.p1.x==q.p1.x)&&(p.p1.y==q.p1.y))),.mem 1 9,.mem 0 9,.mem 1 11,.mem 0 11,.mem 1 15,.mem 0 15,.mem 1 10,.mem 0 10,.mem 1 12,.mem 0 12,.mem 1 16,.mem 0 16] [(_,_,((((((((p.kind)==q.kind)&&(((p.color.r.toNat:Int)==(q.color.r.toNat:Int))&&(((p.color.g.toNat:Int)==(q.color.g.toNat:Int))&&(((p.color.b.toNat:Int)==(q.color.b.toNat:Int))&&((p.color.a.toNat:Int)==(q.color.a.toNat:Int))))))&&((p.p0.x==q.p0.x)&&(p.p0.y==q.p0.y)))&&((p.p1.x==q.p1.x)&&(p.p1.y==q.p1.y)))&&((p.bG)==q.bG))&&((p.spread)==q.spread))&&((p.cZ)==q.cZ)),.bool (decide (p.stops=q.stops))),(_,_,(((((((((p.kind)==q.kind)&&(((p.color.r.toNat:Int)==(q.color.r.toNat:Int))&&(((p.color.g.toNat:Int)==(q.color.g.toNat:Int))&&(((p.color.b.toNat:Int)==(q.color.b.toNat:Int))&&((p.color.a.toNat:Int)==(q.color.a.toNat:Int))))))&&((p.p0.x==q.p0.x)&&(p.p0.y==q.p0.y)))&&((p.p1.x==q.p1.x)&&(p.p1.y==q.p1.y)))&&((p.bG)==q.bG))&&((p.spread)==q.spread))&&((p.cZ)==q.cZ))&&(decide (p.stops=q.stops))),.bool (p.img.eq q.img)),(_,_,((((((((((p.kind)==q.kind)&&(((p.color.r.toNat:Int)==(q.color.r.toNat:Int))&&(((p.color.g.toNat:Int)==(q.color.g.toNat:Int))&&(((p.color.b.toNat:Int)==(q.color.b.toNat:Int))&&((p.color.a.toNat:Int)==(q.color.a.toNat:Int))))))&&((p.p0.x==q.p0.x)&&(p.p0.y==q.p0.y)))&&((p.p1.x==q.p1.x)&&(p.p1.y==q.p1.y)))&&((p.bG)==q.bG))&&((p.spread)==q.spread))&&((p.cZ)==q.cZ))&&(decide (p.stops=q.stops)))&&(p.img.eq q.img)),.bool (p.t.q.eq q.t.q))] [(4,.bool (((((((((((p.kind)==q.kind)&&(((p.color.r.toNat:Int)==(q.color.r.toNat:Int))&&(((p.color.g.toNat:Int)==(q.color.g.toNat:Int))&&(((p.color.b.toNat:Int)==(q.color.b.toNat:Int))&&((p.color.a.toNat:Int)==(q.color.a.toNat:Int))))))&&((p.p0.x==q.p0.x)&&(p.p0.y==q.p0.y)))&&((p.p1.x==q.p1.x)&&(p.p1.y==q.p1.y)))&&((p.bG)==q.bG))&&((p.spread)==q.spread))&&((p.cZ)==q.cZ))&&(decide (p.stops=q.stops)))&&(p.img.eq q.img))&&(p.t.q.eq q.t.q)))] ⟨fun u hC g=>Qs (h.2.2.2.2.1.below (Ext.trans' S.E hC)) (h'.2.2.2.2.1.below (Ext.trans' S.E hC)),fun u hC g=>vF (m:=p.img) (n:=q.img) (h.2.2.2.2.2.2.2.1.below (Ext.trans' S.E hC)) (h'.2.2.2.2.2.2.2.1.below (Ext.trans' S.E hC)),fun u hC g=>y7 p.t.v q.t.v p.t.q q.t.q K _ ((aV.toQ h.2.2.2.2.2.2.2.2.2 hf).eU (Ext.trans' S.E hC)) ((aV.toQ h'.2.2.2.2.2.2.2.2.2 hf').eU (Ext.trans' S.E hC)) hK1 hK,trivial⟩ (hk:=⟨aiX (fun _=>IQ ..) (by kernel_rfl),aiX (fun _=>eqPt ..) (by kernel_rfl),aiX (fun _=>eqPt ..) (by kernel_rfl),trivial⟩) fun ac u E9 S=>aiF<|dP _ _<|Vp.rt ?_
 refine aiH S Tryz.results95 ?_
 exact⟨rfl,S.E⟩
theorem wR{w:World}{p:ak}(h:p.ok w) :
  Calls Tryz.prog 228 #[p.v] w fun e w'=>e = .returned (.bool (dY p.stops&&iJ p.spread))∧Ext w w':=by
 skip
 refine aiK Tryz.func228 Tryz.ntmps228 fun ac S=>aiG fun _ aU=>aiJ S 1 p.cells fun ac u b2 E3 hb4 S=>adr S 1 [] [(2,.bool false)] fun ac S=>aiF<|aU _ _<|aiG fun _ bV=>adr S 2 [.mem 0 10] [(4,p.sv)] fun ac S=>aiM S 5 (Ic (h.2.2.2.2.1.below S.E)) fun ac u E6 S=>aiT S 6 [.mem 0 11] [(_,_,(dY p.stops),.bool (iJ p.spread))] [(2,.bool ((dY p.stops)&&(iJ p.spread)))] ⟨fun u hC g=>aiU (EN p.spread _),trivial⟩ fun ac u E7 S=>aiF<|bV _ _<|Vp.rt ?_
 refine aiH S Tryz.results228 ?_
 exact⟨rfl,S.E⟩
open Go.RowKit
variable{α:Type}
theorem NM{w:World}{p:ak}(h:p.ok w) :
  Calls Tryz.prog 227 #[p.v] w fun e w'=>e = .returned p.without.v∧Ext w w':=by
 obtain⟨h1,h2,h3,h4,h5,h6,h7,h8,h9,h10⟩:=h
 obtain⟨t0,t1,t2,t3,t4,t5⟩:=h10
 have o0:=Vp.Y3 h5
 have o1:=Vp.Y3 h8.2.2
 have o2:=Vp.lT t0.1
 have o3:=Vp.lT t0.2
 have o4:=Vp.lT t1.1
 have o5:=Vp.lT t1.2
 have o6:=Vp.lT t2.1
 have o7:=Vp.lT t2.2
 have o8:=Vp.lT t3.1
 have o9:=Vp.lT t3.2
 have o10:=Vp.lT t4.1
 have Vt:=Vp.lT t4.2
 have o12:=Vp.lT t5.1
 have o13:=Vp.lT t5.2
 refine aiK Tryz.func227 Tryz.ntmps227 fun ac S=>aiG fun _ aU=>aiJ S 1 p.cells fun ac u b2 E3 hb4 S=>aiJ S 2 (Sx.L [.int .i64 0,.int .u8 0,.int .u8 0,.int .u8 0,.int .u8 0,.int .i64 0,.int .i64 0,.int .i64 0,.int .i64 0,.int .i64 0,.slice none 0 0,.int .i64 0,.int .i64 0,.int .i64 0,.slice none 0 0,.int .i64 0]++Sx.za) fun ac u b5 E6 hb7 S=>aiF<|aU _ _<|aiG fun _ dP=>adr S 1 [.mem 1 0] [(4,p.v)] fun ac S=>aiJ S 3 (Sx.L [.int .i64 0,.int .u8 0,.int .u8 0,.int .u8 0,.int .u8 0,.int .i64 0,.int .i64 0,.int .i64 0,.int .i64 0,.int .i64 0,.slice none 0 0,.int .i64 0,.int .i64 0,.int .i64 0,.slice none 0 0,.int .i64 0]++Sx.za) fun ac u b9 Bj LJ S=>aiL S 0 (off:=0) (cs:=p.cells) rfl fun u C12 S=>aiF<|dP _ _<|aiG fun _ fZ=>adr S 2 [] [(5,.agg Sx.za.toArray),(6,.pointer (some ⟨b9,16,none⟩))] fun ac S=>aiL S 0 (off:=16) (cs:=Sx.za) rfl fun u C14 S=>aiF<|fZ _ _<|wp_seq_k fun _ fH=>aiG fun _ iR=>adr S 2 [.mem 2 0] [(8,.int .i64 p.kind)] fun ac S=>aiF<|iR _ _<|wp_block<|aiG fun _ ig=>adr S 2 [] [(9,.bool ((p.kind)==1))] fun ac S=>aiF (ig _ _ ?_)
 refine aiI S (fun hc18=>?_) (fun hc18=>?_)
 ·refine Vp.region<|adr S 2 [] [(11,.agg #[.int .u8 0,.int .u8 0,.int .u8 0,.int .u8 0]),(12,.pointer (some ⟨b9,1,none⟩))] fun ac S=>aiL S 0 (off:=1) (cs:=[.int .u8 0,.int .u8 0,.int .u8 0,.int .u8 0]) rfl fun u VZ S=>aiF<|fH _ _<|aiG fun _ iU=>adr S 1 [.mem 0 0] [(34,.agg (Sx.L [.int .i64 p.kind,.int .u8 0,.int .u8 0,.int .u8 0,.int .u8 0,.int .i64 p.p0.x,.int .i64 p.p0.y,.int .i64 p.p1.x,.int .i64 p.p1.y,.int .i64 p.bG,p.sv,.int .i64 p.spread]++p.img.cells++Sx.L [.int .i64 p.cZ]++Sx.za).toArray)] fun ac S=>aiL S 1 (off:=0) (cs:=(Sx.L [.int .i64 p.kind,.int .u8 0,.int .u8 0,.int .u8 0,.int .u8 0,.int .i64 p.p0.x,.int .i64 p.p0.y,.int .i64 p.p1.x,.int .i64 p.p1.y,.int .i64 p.bG,p.sv,.int .i64 p.spread]++p.img.cells++Sx.L [.int .i64 p.cZ]++Sx.za)) rfl fun u C21 S=>aiF<|iU _ _<|Vp.rt ?_
  have e:p.without=p.TU:=by unfold ak.without; rw[hc18]; rfl
  refine aiS S 1 Tryz.results227 rfl (v := .agg (Sx.L [.int .i64 p.kind,.int .u8 0,.int .u8 0,.int .u8 0,.int .u8 0,.int .i64 p.p0.x,.int .i64 p.p0.y,.int .i64 p.p1.x,.int .i64 p.p1.y,.int .i64 p.bG,p.sv,.int .i64 p.spread]++p.img.cells++Sx.L [.int .i64 p.cZ]++Sx.za).toArray) ?_
  exact⟨by rw[e]; rfl,S.E⟩
 ·refine aiG fun _ jM=>adr S 2 [] [(13,.bool ((p.kind)==2))] fun ac S=>aiF (jM _ _ ?_)
  refine aiI S (fun tV=>?_) (fun tV=>?_)
  ·refine Vp.region<|adr S 3 [] [(15,.agg #[.int .i64 0,.int .i64 0]),(16,.agg #[.int .i64 0,.int .i64 0]),(17,.pointer (some ⟨b9,5,none⟩))] fun ac S=>aiL S 0 (off:=5) (cs:=[.int .i64 0,.int .i64 0]) rfl fun u C24 S=>adr S 1 [] [(18,.pointer (some ⟨b9,7,none⟩))] fun ac S=>aiL S 0 (off:=7) (cs:=[.int .i64 0,.int .i64 0]) rfl fun u C25 S=>adr S 1 [] [(19,.pointer (some ⟨b9,10,none⟩))] fun ac S=>aiW S 0 (off:=10) (v := .slice none 0 0) rfl fun u C26 S=>adr S 1 [] [(20,.pointer (some ⟨b9,11,none⟩))] fun ac S=>aiW S 0 (off:=11) (v := .int .i64 0) rfl fun u C27 S=>aiF<|fH _ _<|aiG fun _ lK=>adr S 1 [.mem 0 0] [(34,.agg (Sx.L [.int .i64 p.kind]++p.color.cells++Sx.L [.int .i64 0,.int .i64 0,.int .i64 0,.int .i64 0,.int .i64 p.bG,.slice none 0 0,.int .i64 0]++p.img.cells++Sx.L [.int .i64 p.cZ]++Sx.za).toArray)] fun ac S=>aiL S 1 (off:=0) (cs:=(Sx.L [.int .i64 p.kind]++p.color.cells++Sx.L [.int .i64 0,.int .i64 0,.int .i64 0,.int .i64 0,.int .i64 p.bG,.slice none 0 0,.int .i64 0]++p.img.cells++Sx.L [.int .i64 p.cZ]++Sx.za)) rfl fun u C29 S=>aiF<|lK _ _<|Vp.rt ?_
   have e:p.without=p.only2:=by unfold ak.without; rw[hc18,tV]; rfl
   refine aiS S 1 Tryz.results227 rfl (v := .agg (Sx.L [.int .i64 p.kind]++p.color.cells++Sx.L [.int .i64 0,.int .i64 0,.int .i64 0,.int .i64 0,.int .i64 p.bG,.slice none 0 0,.int .i64 0]++p.img.cells++Sx.L [.int .i64 p.cZ]++Sx.za).toArray) ?_
   exact⟨by rw[e]; rfl,S.E⟩
  ·refine aiG fun _ nI=>adr S 2 [] [(21,.bool ((p.kind)==3))] fun ac S=>aiF (nI _ _ ?_)
   refine aiI S (fun hc31=>?_) (fun hc31=>?_)
   ·refine Vp.region<|adr S 2 [] [(23,.agg #[.int .i64 0,.int .i64 0]),(24,.pointer (some ⟨b9,5,none⟩))] fun ac S=>aiL S 0 (off:=5) (cs:=[.int .i64 0,.int .i64 0]) rfl fun u C32 S=>adr S 1 [] [(25,.pointer (some ⟨b9,9,none⟩))] fun ac S=>aiW S 0 (off:=9) (v := .int .i64 0) rfl fun u UO S=>adr S 1 [] [(26,.pointer (some ⟨b9,10,none⟩))] fun ac S=>aiW S 0 (off:=10) (v := .slice none 0 0) rfl fun u C34 S=>adr S 1 [] [(27,.pointer (some ⟨b9,11,none⟩))] fun ac S=>aiW S 0 (off:=11) (v := .int .i64 0) rfl fun u C35 S=>aiF<|fH _ _<|aiG fun _ nJ=>adr S 1 [.mem 0 0] [(34,.agg (Sx.L [.int .i64 p.kind]++p.color.cells++Sx.L [.int .i64 0,.int .i64 0,.int .i64 p.p1.x,.int .i64 p.p1.y,.int .i64 0,.slice none 0 0,.int .i64 0]++p.img.cells++Sx.L [.int .i64 p.cZ]++Sx.za).toArray)] fun ac S=>aiL S 1 (off:=0) (cs:=(Sx.L [.int .i64 p.kind]++p.color.cells++Sx.L [.int .i64 0,.int .i64 0,.int .i64 p.p1.x,.int .i64 p.p1.y,.int .i64 0,.slice none 0 0,.int .i64 0]++p.img.cells++Sx.L [.int .i64 p.cZ]++Sx.za)) rfl fun u C37 S=>aiF<|nJ _ _<|Vp.rt ?_
    have e:p.without=p.TV:=by unfold ak.without; rw[hc18,tV,hc31]; rfl
    refine aiS S 1 Tryz.results227 rfl (v := .agg (Sx.L [.int .i64 p.kind]++p.color.cells++Sx.L [.int .i64 0,.int .i64 0,.int .i64 p.p1.x,.int .i64 p.p1.y,.int .i64 0,.slice none 0 0,.int .i64 0]++p.img.cells++Sx.L [.int .i64 p.cZ]++Sx.za).toArray) ?_
    exact⟨by rw[e]; rfl,S.E⟩
   ·refine aiG fun _ jG=>adr S 2 [] [(28,.bool ((p.kind)==4))] fun ac S=>aiF (jG _ _ ?_)
    refine aiI S (fun hc39=>?_) (fun hc39=>?_)
    ·refine Vp.region<|adr S 2 [] [(30,.agg #[.int .i64 0,.int .i64 0,.slice none 0 0]),(31,.pointer (some ⟨b9,12,none⟩))] fun ac S=>aiL S 0 (off:=12) (cs:=[.int .i64 0,.int .i64 0,.slice none 0 0]) rfl fun u C40 S=>adr S 1 [] [(32,.pointer (some ⟨b9,11,none⟩))] fun ac S=>aiW S 0 (off:=11) (v := .int .i64 0) rfl fun u C41 S=>adr S 1 [] [(33,.pointer (some ⟨b9,15,none⟩))] fun ac S=>aiW S 0 (off:=15) (v := .int .i64 0) rfl fun u C42 S=>aiF<|fH _ _<|aiG fun _ tH=>adr S 1 [.mem 0 0] [(34,.agg (Sx.L [.int .i64 p.kind]++p.color.cells++Sx.L [.int .i64 p.p0.x,.int .i64 p.p0.y,.int .i64 p.p1.x,.int .i64 p.p1.y,.int .i64 p.bG,p.sv,.int .i64 0,.int .i64 0,.int .i64 0,.slice none 0 0,.int .i64 0]++Sx.za).toArray)] fun ac S=>aiL S 1 (off:=0) (cs:=(Sx.L [.int .i64 p.kind]++p.color.cells++Sx.L [.int .i64 p.p0.x,.int .i64 p.p0.y,.int .i64 p.p1.x,.int .i64 p.p1.y,.int .i64 p.bG,p.sv,.int .i64 0,.int .i64 0,.int .i64 0,.slice none 0 0,.int .i64 0]++Sx.za)) rfl fun u C44 S=>aiF<|tH _ _<|Vp.rt ?_
     have e:p.without=p.TW:=by unfold ak.without; rw[hc18,tV,hc31,hc39]; rfl
     refine aiS S 1 Tryz.results227 rfl (v := .agg (Sx.L [.int .i64 p.kind]++p.color.cells++Sx.L [.int .i64 p.p0.x,.int .i64 p.p0.y,.int .i64 p.p1.x,.int .i64 p.p1.y,.int .i64 p.bG,p.sv,.int .i64 0,.int .i64 0,.int .i64 0,.slice none 0 0,.int .i64 0]++Sx.za).toArray) ?_
     exact⟨by rw[e]; rfl,S.E⟩
    ·refine wp_skip<|fH _ _<|aiG fun _ Bv=>adr S 1 [.mem 0 0] [(34,.agg (Sx.L [.int .i64 p.kind]++p.color.cells++Sx.L [.int .i64 p.p0.x,.int .i64 p.p0.y,.int .i64 p.p1.x,.int .i64 p.p1.y,.int .i64 p.bG,p.sv,.int .i64 p.spread]++p.img.cells++Sx.L [.int .i64 p.cZ]++Sx.za).toArray)] fun ac S=>aiL S 1 (off:=0) (cs:=(Sx.L [.int .i64 p.kind]++p.color.cells++Sx.L [.int .i64 p.p0.x,.int .i64 p.p0.y,.int .i64 p.p1.x,.int .i64 p.p1.y,.int .i64 p.bG,p.sv,.int .i64 p.spread]++p.img.cells++Sx.L [.int .i64 p.cZ]++Sx.za)) rfl fun u UQ S=>aiF<|Bv _ _<|Vp.rt ?_
     have e:p.without=p.Y1:=by unfold ak.without; rw[hc18,tV,hc31,hc39]; rfl
     refine aiS S 1 Tryz.results227 rfl (v := .agg (Sx.L [.int .i64 p.kind]++p.color.cells++Sx.L [.int .i64 p.p0.x,.int .i64 p.p0.y,.int .i64 p.p1.x,.int .i64 p.p1.y,.int .i64 p.bG,p.sv,.int .i64 p.spread]++p.img.cells++Sx.L [.int .i64 p.cZ]++Sx.za).toArray) ?_
     exact⟨by rw[e]; rfl,S.E⟩
open Go.RowKit
variable{α:Type}
theorem FB{w:World}{p:ak}{K:Nat}(h:p.ok w)(hf:p.t.fit K)(hK1:1≤K)(hK:K≤10000) :
  Calls Tryz.prog 199 #[p.v] w fun e w'=>e = .returned (.bool p.valid)∧Ext w w':=by
 skip
 refine aiK Tryz.func199 Tryz.ntmps199 fun ac S=>aiG fun _ aU=>aiJ S 1 p.cells fun ac u b2 E3 hb4 S=>adr S 1 [] [(2,.bool false)] fun ac S=>aiF<|aU _ _<|wp_seq_k fun _ bV=>wp_seq_k fun _ iK=>aiO S 13 [.mem 0 16,.mem 0 0,.mem 0 0] [(_,_,true,.bool (p.t.q.valid)),(_,_,(!(!(p.t.q.valid))),p.without.v),(_,_,(!(!(p.t.q.valid))),.bool (p.without.eq (ak.bare p.kind)))] [(15,.bool ((!(p.t.q.valid))||(!(p.without.eq (ak.bare p.kind)))))] ⟨fun u hC g=>Eb p.t.v p.t.q K _ ((aV.toQ h.2.2.2.2.2.2.2.2.2 hf).eU (Ext.trans' S.E hC)) hK1 (by omega),fun u hC g=>NM (h.below (Ext.trans' S.E hC)),fun u hC g=>wQ (p:=p.without) (q:=ak.bare p.kind) (K:=K) ((ak.QY h).below (Ext.trans' S.E hC)) (ak.jH h.1 _) (ak.NK p K) (aV.iI K) hK1 hK,trivial⟩ fun ac u E7 S=>aiF (iK _ _ ?_)
 refine aiI S (fun hc8=>?_) (fun hc8=>?_)
 ·refine aiG fun _ gB=>adr S 1 [] [(2,.bool false)] fun ac S=>aiF<|gB _ _<|Vp.rt ?_
  refine aiH S Tryz.results199 ?_
  exact⟨aB (by unfold ak.valid; rw[hc8]; rfl),S.E⟩
 ·refine wp_skip<|bV _ _<|wp_seq_k fun _ dV=>aiG fun _ dB=>adr S 2 [.mem 0 0] [(17,.int .i64 p.kind)] fun ac S=>aiF<|dB _ _<|wp_block<|aiG fun _ dw=>adr S 2 [] [(18,.bool ((p.kind)==1))] fun ac S=>aiF (dw _ _ ?_)
  refine aiI S (fun hc13=>?_) (fun hc13=>?_)
  ·refine aiG fun _ fU=>adr S 3 [.mem 0 16] [(21,p.t.v),(22,.agg Sx.za.toArray)] fun ac S=>aiM S 23 (y7 p.t.v aV.none.v p.t.q aV.none.q K _ ((aV.toQ h.2.2.2.2.2.2.2.2.2 hf).eU S.E) ((aV.toQ (aV.gK _) (aV.iI K)).eU (Below.refl _ _)) hK1 hK) fun ac u Vb S=>adr S 1 [] [(2,.bool (p.t.q.eq aV.none.q))] fun ac S=>aiF<|fU _ _<|Vp.rt ?_
   refine aiH S Tryz.results199 ?_
   exact⟨aB (by unfold ak.valid; rw[hc8,hc13]; rfl),S.E⟩
  ·refine aiG fun _ iR=>adr S 2 [] [(24,.bool ((p.kind)==2))] fun ac S=>aiF (iR _ _ ?_)
   refine aiI S (fun hc17=>?_) (fun hc17=>?_)
   ·refine aiG fun _ je=>adr S 2 [.mem 0 5] [(27,.agg #[.int .i64 p.p0.x,.int .i64 p.p0.y])] fun ac S=>aiM S 28 (lq (p.p0.x) (p.p0.y) _) fun ac u Xm S=>aiT S 12 [.mem 0 7,.mem 0 0] [(_,_,(!(!(kE.valid ⟨p.p0.x,p.p0.y⟩))),.bool (kE.valid ⟨p.p1.x,p.p1.y⟩)),(_,_,(!((!(kE.valid ⟨p.p0.x,p.p0.y⟩))||(!(kE.valid ⟨p.p1.x,p.p1.y⟩)))),.bool (dY p.stops&&iJ p.spread))] [(40,.bool (((!(kE.valid ⟨p.p0.x,p.p0.y⟩))||(!(kE.valid ⟨p.p1.x,p.p1.y⟩)))||(!(dY p.stops&&iJ p.spread))))] ⟨fun u hC g=>lq (p.p1.x) (p.p1.y) _,fun u hC g=>wR (h.below (Ext.trans' S.E hC)),trivial⟩ fun ac u Iz S=>aiF (je _ _ ?_)
    refine aiI S (fun hc21=>?_) (fun hc21=>?_)
    ·refine aiG fun _ jM=>adr S 1 [] [(2,.bool false)] fun ac S=>aiF<|jM _ _<|Vp.rt ?_
     refine aiH S Tryz.results199 ?_
     exact⟨aB (by unfold ak.valid; rw[hc8,hc13,hc17,hc21]; rfl),S.E⟩
    ·refine wp_skip<|dV _ _<|aiG fun _ oJ=>adr S 2 [.mem 0 16] [(90,p.t.v)] fun ac S=>aiQ S (some 91) (SK p.t.v p.t.q K _ ((aV.toQ h.2.2.2.2.2.2.2.2.2 hf).eU S.E) hK1 hK) ?_
     rintro e u ⟨x,rfl,hd,Xn⟩
     refine⟨_,rfl,Xn,fun ac S=>?_⟩
     refine adr S 1 [] [(92,.agg Sx.zr.toArray)] fun ac S=>aiM S 93 (lN _ _ p.t.q.vU q0 (K+K+(K+K)+1) 1 _ (aA.toQ hd (xQ _) (xR hK1 (VO.VP ((aV.toQ h.2.2.2.2.2.2.2.2.2 hf).eU (Below.refl _ _)) hK1))) (zC _) (by omega) (by omega) (by omega) (by omega)) fun ac u E25 S=>adr S 2 [] [(2,.bool (((kJ p.t.q.vU q0)) != 0))] fun ac S=>aiF<|oJ _ _<|Vp.rt ?_
     refine aiH S Tryz.results199 ?_
     exact⟨aB (by unfold ak.valid; rw[hc8,hc13,hc17,hc21]; rfl),S.E⟩
   ·refine aiG fun _ kH=>adr S 2 [] [(41,.bool ((p.kind)==3))] fun ac S=>aiF (kH _ _ ?_)
    refine aiI S (fun hc27=>?_) (fun hc27=>?_)
    ·refine aiG fun _ lK=>adr S 2 [.mem 0 5] [(44,.agg #[.int .i64 p.p0.x,.int .i64 p.p0.y])] fun ac S=>aiM S 45 (lq (p.p0.x) (p.p0.y) _) fun ac u XG S=>aiT S 16 [.mem 0 9,.mem 0 9,.mem 0 0] [(_,_,(!(((!(kE.valid ⟨p.p0.x,p.p0.y⟩))||(decide (p.bG<1)))||(decide (1048576<p.bG)))),.bool (dY p.stops&&iJ p.spread))] [(61,.bool ((((!(kE.valid ⟨p.p0.x,p.p0.y⟩))||(decide (p.bG<1)))||(decide (1048576<p.bG)))||(!(dY p.stops&&iJ p.spread))))] ⟨fun u hC g=>wR (h.below (Ext.trans' S.E hC)),trivial⟩ fun ac u E30 S=>aiF (lK _ _ ?_)
     refine aiI S (fun hc31=>?_) (fun hc31=>?_)
     ·refine aiG fun _ kM=>adr S 1 [] [(2,.bool false)] fun ac S=>aiF<|kM _ _<|Vp.rt ?_
      refine aiH S Tryz.results199 ?_
      exact⟨aB (by unfold ak.valid; rw[hc8,hc13,hc17,hc27,hc31]; rfl),S.E⟩
     ·refine wp_skip<|dV _ _<|aiG fun _ lW=>adr S 2 [.mem 0 16] [(90,p.t.v)] fun ac S=>aiQ S (some 91) (SK p.t.v p.t.q K _ ((aV.toQ h.2.2.2.2.2.2.2.2.2 hf).eU S.E) hK1 hK) ?_
      rintro e u ⟨x,rfl,hd,Xh⟩
      refine⟨_,rfl,Xh,fun ac S=>?_⟩
      refine adr S 1 [] [(92,.agg Sx.zr.toArray)] fun ac S=>aiM S 93 (lN _ _ p.t.q.vU q0 (K+K+(K+K)+1) 1 _ (aA.toQ hd (xQ _) (xR hK1 (VO.VP ((aV.toQ h.2.2.2.2.2.2.2.2.2 hf).eU (Below.refl _ _)) hK1))) (zC _) (by omega) (by omega) (by omega) (by omega)) fun ac u Xi S=>adr S 2 [] [(2,.bool (((kJ p.t.q.vU q0)) != 0))] fun ac S=>aiF<|lW _ _<|Vp.rt ?_
      refine aiH S Tryz.results199 ?_
      exact⟨aB (by unfold ak.valid; rw[hc8,hc13,hc17,hc27,hc31]; rfl),S.E⟩
    ·refine aiG fun _ nJ=>adr S 2 [] [(62,.bool ((p.kind)==4))] fun ac S=>aiF (nJ _ _ ?_)
     refine aiI S (fun l9=>?_) (fun l9=>?_)
     ·refine aiG fun _ jG=>adr S 2 [.mem 0 12] [(65,p.img.v)] fun ac S=>aiM S 66 (Aj (m:=p.img) (h.2.2.2.2.2.2.2.1.below S.E)) fun ac u E39 S=>aiT S 22 [.mem 0 11,.mem 0 11,.mem 0 15,.mem 0 15] [(_,_,((!(!(p.img.valid)))&&((p.spread) != 0)),.bool (iJ p.spread))] [(88,.bool (((!(p.img.valid))||(((p.spread) != 0)&&(!(iJ p.spread))))||(((p.cZ) != 1)&&((p.cZ) != 2))))] ⟨fun u hC g=>aiU (EN p.spread _),trivial⟩ fun ac u E40 S=>aiF (jG _ _ ?_)
      refine aiI S (fun QZ=>?_) (fun QZ=>?_)
      ·refine aiG fun _ qX=>adr S 1 [] [(2,.bool false)] fun ac S=>aiF<|qX _ _<|Vp.rt ?_
       refine aiH S Tryz.results199 ?_
       exact⟨aB (by unfold ak.valid; rw[hc8,hc13,hc17,hc27,l9,QZ]; rfl),S.E⟩
      ·refine wp_skip<|dV _ _<|aiG fun _ tH=>adr S 2 [.mem 0 16] [(90,p.t.v)] fun ac S=>aiQ S (some 91) (SK p.t.v p.t.q K _ ((aV.toQ h.2.2.2.2.2.2.2.2.2 hf).eU S.E) hK1 hK) ?_
       rintro e u ⟨x,rfl,hd,E44⟩
       refine⟨_,rfl,E44,fun ac S=>?_⟩
       refine adr S 1 [] [(92,.agg Sx.zr.toArray)] fun ac S=>aiM S 93 (lN _ _ p.t.q.vU q0 (K+K+(K+K)+1) 1 _ (aA.toQ hd (xQ _) (xR hK1 (VO.VP ((aV.toQ h.2.2.2.2.2.2.2.2.2 hf).eU (Below.refl _ _)) hK1))) (zC _) (by omega) (by omega) (by omega) (by omega)) fun ac u E45 S=>adr S 2 [] [(2,.bool (((kJ p.t.q.vU q0)) != 0))] fun ac S=>aiF<|tH _ _<|Vp.rt ?_
       refine aiH S Tryz.results199 ?_
       exact⟨aB (by unfold ak.valid; rw[hc8,hc13,hc17,hc27,l9,QZ]; rfl),S.E⟩
     ·refine aiG fun _ zU=>adr S 1 [] [(2,.bool false)] fun ac S=>aiF<|zU _ _<|Vp.rt ?_
      refine aiH S Tryz.results199 ?_
      exact⟨aB (by unfold ak.valid; rw[hc8,hc13,hc17,hc27,l9]; rfl),S.E⟩
theorem Y4{w:World}{p:ak}{K:Nat}(h:p.ok w)(hf:p.t.fit K)(hK1:1≤K)(hK:K≤10000) :
  Calls Tryz.prog 198 #[p.v] w fun e w'=>e = .returned (.bool (!p.valid))∧Ext w w':=by
 skip
 refine aiK Tryz.func198 Tryz.ntmps198 fun ac S=>aiG fun _ aU=>aiJ S 1 p.cells fun ac u b2 E3 hb4 S=>adr S 1 [] [(2,.bool false)] fun ac S=>aiF<|aU _ _<|aiG fun _ bV=>adr S 1 [.mem 0 0] [(3,p.v)] fun ac S=>aiM S 4 (FB (h.below S.E) hf hK1 hK) fun ac u E6 S=>adr S 2 [] [(2,.bool (!p.valid))] fun ac S=>aiF<|bV _ _<|Vp.rt ?_
 refine aiH S Tryz.results198 ?_
 exact⟨rfl,S.E⟩
open Go.RowKit
variable{α:Type}{K:Nat}
def pV(K:Nat)(w:World)(v:Value)(l:List ak):Prop:=iV w v l∧(∀p∈l,p.t.fit K)∧1≤K∧K≤10000
theorem pV.below{w w':World}{v:Value}{l:List ak}(h:pV K w v l)(hb:Ext w w'):pV K w' v l:=⟨h.1.below hb,h.2⟩
theorem TY:∃ie,Tryz.prog.info? 108=some ie∧ie.size=1∧ie.zero=some .nilIface:=by
 have h1:(Tryz.prog.info? 108).map (fun i=>(i.size,i.zero))=some (1,some .nilIface):=by kernel_rfl
 cases h:Tryz.prog.info? 108 with
 | none=>rw[h]at h1; cases h1
 | some i=>rw[h]at h1; simp at h1; exact⟨i,rfl,h1.1,h1.2⟩
theorem fG(b:Bool)(n:Int):(dD b n).cells = #[dD b n]:=by unfold dD; split<;>rfl
theorem Ja{P:Program}{ρ:Operand→Value}{o:Oper}{w w1:World}{t:TypeId}{n:Nat}{parts:Array (Nat×Operand)}{vs:Array (Nat×Value)}{V:Value}(hop:o.op = .buildSlice t n parts)(hp:(parts.map fun(i,x)=>(i,ρ x))=vs)(h:(Instr.buildSlice t n vs).run P w = .ok V w1) :
  (execOp ρ o).run P w = .ok (.value V) w1:=by
 unfold execOp
 simp only[hop,hp,Sem.run_bind,h]
 rfl
theorem ae0{f:α→Value}(l:List α)(w:World)(t:TypeId)(hl:l.length≤maxLen):aT 1 (fun x=>[f x]) (w.alloc (.cells (l.map f).toArray t)) (.slice (some ⟨w.heap.size,0,none⟩) l.length l.length) l:=by
 refine⟨_,_,rfl,hl,.inr ⟨w.heap.size,0,rfl,by simp,Nat.le_refl _,fun i hi j hj=>?_⟩⟩
 obtain rfl:j=0:=by omega
 simp[go_sem,hi]
theorem V3(v0 v1 v2 v3 v4 v5:Value)(w:World)(h0:v0.cells = #[v0])(h1:v1.cells = #[v1])(h2:v2.cells = #[v2])(h3:v3.cells = #[v3])(h4:v4.cells = #[v4])(h5:v5.cells = #[v5]) :
  (Instr.buildSlice 166 6 #[(0,v0),(1,v1),(2,v2),(3,v3),(4,v4),(5,v5)]).run Tryz.prog w = .ok (.slice (some ⟨w.heap.size,0,none⟩) 6 6) (w.alloc (.cells #[v0,v1,v2,v3,v4,v5] 108)):=by
 obtain⟨ie,hi,hs,hz⟩:=TY
 refine run_buildSlice w _ 108 6 _ _ ie .nilIface Tryz.underlying166 hi hz (by rw[hs]; decide) (by rw[hs]; decide) ?_
 rw[hs]
 have ez:((Array.range (6*1)).map (Value.nilIface.cells[· % Value.nilIface.cells.size]!)) = #[.nilIface,.nilIface,.nilIface,.nilIface,.nilIface,.nilIface]:=by kernel_rfl
 rw[ez]
 simp[Instr.fill,h0,h1,h2,h3,h4,h5]
theorem NC{Q:Exit→Act→World→Prop}{ops:Array Oper}{w0:World}{a:Act}{w:World}{os:List Oper}{N:Nat}{l:List (Nat×Value)}{bl:List (Nat×List Value)}{vs:List Sx.iG}(S:Sx.St w0 a w N l bl vs)(d:Nat)(v0 v1 v2 v3 v4 v5:Value){t0 t1 t2 t3 t4 t5:Nat}{o:Oper}{os':List Oper} 
  (hos:os=o::os') (hg:o.guard=none) (hd:o.dst=some d) (hop:o.op = .buildSlice 166 6 #[(0,.tmp t0),(1,.tmp t1),(2,.tmp t2),(3,.tmp t3),(4,.tmp t4),(5,.tmp t5)]) (c0:v0.cells = #[v0]) (c1:v1.cells = #[v1]) (c2:v2.cells = #[v2]) (c3:v3.cells = #[v3]) (c4:v4.cells = #[v4]) (c5:v5.cells = #[v5])
  (next:∀a' w' b,Ext w w'→b=w.heap.size→Sx.St w0 a' w' N ((d,.slice (some ⟨b,0,none⟩) 6 6)::l) ((b,[v0,v1,v2,v3,v4,v5])::bl) vs→wpList Tryz.prog ops Q (os.drop 1) a' w')
  (l0:l.lookup t0=some v0:=by kernel_rfl) (l1:l.lookup t1=some v1:=by kernel_rfl) (l2:l.lookup t2=some v2:=by kernel_rfl) (l3:l.lookup t3=some v3:=by kernel_rfl) (l4:l.lookup t4=some v4:=by kernel_rfl) (l5:l.lookup t5=some v5:=by kernel_rfl) (hdn:Sx.J7 N (some d)=true:=by rfl):wpList Tryz.prog ops Q os a w:=
 Sx.Y5 S d [v0,v1,v2,v3,v4,v5] 108 (fun b => .slice (some ⟨b,0,none⟩) 6 6) hos hg hd (Ja hop (by simp[S.s.has _ _ l0,S.s.has _ _ l1,S.s.has _ _ l2,S.s.has _ _ l3,S.s.has _ _ l4,S.s.has _ _ l5]) (V3 v0 v1 v2 v3 v4 v5 w c0 c1 c2 c3 c4 c5)) next hdn
theorem V4(v0 v1:Value)(w:World)(h0:v0.cells = #[v0])(h1:v1.cells = #[v1]) :
  (Instr.buildSlice 166 2 #[(0,v0),(1,v1)]).run Tryz.prog w = .ok (.slice (some ⟨w.heap.size,0,none⟩) 2 2) (w.alloc (.cells #[v0,v1] 108)):=by
 obtain⟨ie,hi,hs,hz⟩:=TY
 refine run_buildSlice w _ 108 2 _ _ ie .nilIface Tryz.underlying166 hi hz (by rw[hs]; decide) (by rw[hs]; decide) ?_
 rw[hs]
 have ez:((Array.range (2*1)).map (Value.nilIface.cells[· % Value.nilIface.cells.size]!)) = #[.nilIface,.nilIface]:=by kernel_rfl
 rw[ez]
 simp[Instr.fill,h0,h1]
theorem YU{Q:Exit→Act→World→Prop}{ops:Array Oper}{w0:World}{a:Act}{w:World}{os:List Oper}{N:Nat}{l:List (Nat×Value)}{bl:List (Nat×List Value)}{vs:List Sx.iG}(S:Sx.St w0 a w N l bl vs)(d:Nat)(v0 v1:Value){t0 t1:Nat}{o:Oper}{os':List Oper} 
  (hos:os=o::os') (hg:o.guard=none) (hd:o.dst=some d) (hop:o.op = .buildSlice 166 2 #[(0,.tmp t0),(1,.tmp t1)]) (c0:v0.cells = #[v0]) (c1:v1.cells = #[v1])
  (next:∀a' w' b,Ext w w'→b=w.heap.size→Sx.St w0 a' w' N ((d,.slice (some ⟨b,0,none⟩) 2 2)::l) ((b,[v0,v1])::bl) vs→wpList Tryz.prog ops Q (os.drop 1) a' w')
  (l0:l.lookup t0=some v0:=by kernel_rfl) (l1:l.lookup t1=some v1:=by kernel_rfl) (hdn:Sx.J7 N (some d)=true:=by rfl):wpList Tryz.prog ops Q os a w:=
 Sx.Y5 S d [v0,v1] 108 (fun b => .slice (some ⟨b,0,none⟩) 2 2) hos hg hd (Ja hop (by simp[S.s.has _ _ l0,S.s.has _ _ l1]) (V4 v0 v1 w c0 c1)) next hdn
theorem FC{w:World}{v:Value}{l:List ak}(h:pV K w v l) :
  Calls Tryz.prog 226 #[v,.func (.func 198) #[] #[]] w fun e w'=>∃z,e = .returned (.int .i64 z)∧decide (0≤z) = !(l.all ak.valid)∧Ext w w':=by
 obtain⟨a,cap,rfl⟩:=h.1.1.shape
 have hmax:l.length≤9223372036854775807:=h.1.1.len
 refine aiK Tryz.func226 Tryz.ntmps226 fun ac S=>aiG fun _ aU=>adr S 1 [] [(4,.int .i64 0)] fun ac S=>aiF<|aU _ _<|wp_seq_k fun _ fE=>aiG fun _ gW=>adr S 3 [] [(7,.int .i64 ((l.length:Nat):Int)),(8,.int .i64 0)] fun ac S=>aiF<|gW _ _<|wp_block ?_
 refine Vp.loop (ι:=Nat) (fun p a' w'=>p≤l.length∧((l.take p).all ak.valid=true)∧Sx.St w a' w' 19 [(0,.slice a l.length cap),(1,.func (.func 198) #[] #[]),(4,.int .i64 0),(7,.int .i64 ((l.length:Nat):Int)),(8,.int .i64 ((p:Nat):Int))] [] []) (fun p=>l.length-p) (0) ⟨Nat.zero_le _,rfl,(S.sub [(0,.slice a l.length cap),(1,.func (.func 198) #[] #[]),(4,.int .i64 0),(7,.int .i64 ((l.length:Nat):Int)),(8,.int .i64 ((0:Nat):Int))]).aK⟩ ?_
 rintro k ac u hI
 try dsimp only at hI
 obtain⟨hk,hR,S⟩:=hI
 refine aiG fun _ lG=>adr S 1 [] [(9,.bool (decide (((k:Nat):Int)<((l.length:Nat):Int))))] fun ac S=>aiF<|lG _ _<|wp_seq_k (fun _ bV=>?_)
 refine aiI S (fun hc6=>?_) (fun hc6=>?_)
 ·refine wp_skip<|bV _ _<|wp_seq_k fun _ kC=>wp_block<|aiG fun _ dP=>adr S 2 [] [(5,.int .i64 ((k:Nat):Int))] fun ac S=>aiF<|dP _ _<|aiG (fun _ gB=>?_)
  have nG:k<l.length:=by have:=of_decide_eq_true hc6; omega
  obtain⟨b10,Vt,c12,hv,Dy,wH⟩:=Vp.aF h.1.1 (fun _=>rfl) (k) nG
  simp only[Value.slice.injEq,true_and]at hv
  obtain⟨rfl,rfl⟩:=hv
  obtain⟨x16,pO⟩:∃z,l[k]=z:=⟨_,rfl⟩
  rw[pO]at wH
  have S:=S.view0 Dy wH
  refine adr S 5 [.idx k l.length,.mem 0 0] [(11,.func (.func 198) #[] #[]),(15,x16.v)] (hk:=⟨nG,trivial⟩) fun ac S=>aiM S 16 (Y4 ((h.1.2 _ (pO▸List.getElem_mem nG)).below S.E) (h.2.1 _ (pO▸List.getElem_mem nG)) h.2.2.1 h.2.2.2) fun ac u JD S=>aiF (gB _ _ ?_)
  refine aiI S (fun hc19=>?_) (fun hc19=>?_)
  ·refine aiG fun _ iU=>adr S 2 [] [(4,.int .i64 ((k:Nat):Int))] fun ac S=>aiF<|iU _ _<|Vp.rt ?_
   refine aiH S Tryz.results226 ?_
   exact⟨_,rfl,by rw[vg nG (by rw[pO]; simpa using hc19)]; simp,S.E⟩
  ·refine wp_skip<|kC _ _<|Vp.region<|adr S 2 [.re 18 (.int .i64 (IntKind.i64.wrap (((k:Nat):Int)+1))) (.int .i64 (((k+1):Nat):Int))] [(8,.int .i64 (((k+1):Nat):Int))] (hk:=⟨aiR (by omega),trivial⟩) fun ac S=>aiF ?_
   show ∃i',_∧_
   exact⟨(k+1),⟨by omega,(jR nG hR (by rw[pO]; simpa using hc19)),(S.sub [(0,.slice (some ⟨b10,Vt,none⟩) l.length cap),(1,.func (.func 198) #[] #[]),(4,.int .i64 0),(7,.int .i64 ((l.length:Nat):Int)),(8,.int .i64 (((k+1):Nat):Int))]).aK⟩,by show _-_<_-_; omega⟩
 ·refine wp_exit<|fE _ _<|aiG fun _ jo=>adr S 1 [] [(4,.int .i64 (-1))] fun ac S=>aiF<|jo _ _<|Vp.rt ?_
  refine aiH S Tryz.results226 ?_
  exact⟨_,rfl,by rw[mP (by have:=of_decide_eq_false hc6; omega) hR]; rfl,S.E⟩
theorem Ig{w:World}{v:Value}{l:List ak}(h:pV K w v l) :
  Calls Tryz.prog 197 #[v,.func (.func 198) #[] #[]] w fun e w'=>e = .returned (.bool (!(l.all ak.valid)))∧Ext w w':=by
 skip
 refine aiK Tryz.func197 Tryz.ntmps197 fun ac S=>aiG fun _ aU=>adr S 1 [] [(4,.bool false)] fun ac S=>aiF<|aU _ _<|aiG fun _ fE=>adr S 2 [] [(5,v),(6,.func (.func 198) #[] #[])] fun ac S=>aiQ S (some 7) (FC (h.below S.E)) ?_
 rintro e u ⟨z,rfl,hz,E3⟩
 refine⟨_,rfl,E3,fun ac S=>?_⟩
 refine adr S 2 [] [(4,.bool (decide (0≤z)))] fun ac S=>aiF<|fE _ _<|Vp.rt ?_
 refine aiH S Tryz.results197 ?_
 exact⟨aB hz,S.E⟩
theorem TL{w:World}{v:Value}{l:List ak}(h:pV K w v l) :
  Calls Tryz.prog 156 #[v] w fun e w'=>e = .returned (.bool (l.all ak.valid))∧Ext w w':=by
 skip
 refine aiK Tryz.func156 Tryz.ntmps156 fun ac S=>aiG fun _ aU=>adr S 1 [] [(2,.bool false)] fun ac S=>aiF<|aU _ _<|aiG fun _ fE=>adr S 1 [] [(3,v)] fun ac S=>aiM S 4 (Ig (h.below S.E)) fun ac u E3 S=>adr S 2 [] [(2,.bool (!(!(l.all ak.valid))))] fun ac S=>aiF<|fE _ _<|Vp.rt ?_
 refine aiH S Tryz.results156 ?_
 exact⟨aB (by simp),S.E⟩
end Go.Proofs.YtfmkkemfhjkajaaGreatDoor
