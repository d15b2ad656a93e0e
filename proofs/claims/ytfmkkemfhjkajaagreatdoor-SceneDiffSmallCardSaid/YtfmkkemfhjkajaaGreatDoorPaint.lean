/- What paints say: plain laws. -/
import Derived.Test.YtfmkkemfhjkajaaGreatDoorImg
import Derived.Test.YtfmkkemfhjkajaaGreatDoorAffG
import Derived.Great.BuildSlice
set_option maxHeartbeats 1600000
set_option maxRecDepth 100000
namespace Go.Proofs.YtfmkkemfhjkajaaGreatDoor
open Go.RowKit
variable{α:Type}
set_option linter.unusedVariables false
def RatD.none:RatD:=⟨false,Option.none,0,[],false,Option.none,0,[]⟩
theorem RatD.none_q:RatD.none.q=q0:=by decide
def AffD.none:AffD:=⟨.none,.none,.none,.none,.none,.none⟩
theorem RatD.none_ok(w:World):RatD.none.ok w:=⟨⟨Option.none,0,rfl,Nat.zero_le _,.inl ⟨rfl,fun _=>rfl⟩⟩,⟨Option.none,0,rfl,Nat.zero_le _,.inl ⟨rfl,fun _=>rfl⟩⟩⟩
theorem RatD.none_fit(K:Nat):RatD.none.fit K:=⟨Nat.zero_le _,Nat.zero_le _⟩
theorem AffD.none_ok(w:World):AffD.none.ok w:=⟨RatD.none_ok w,RatD.none_ok w,RatD.none_ok w,RatD.none_ok w,RatD.none_ok w,RatD.none_ok w⟩
theorem AffD.none_fit(K:Nat):AffD.none.fit K:=⟨RatD.none_fit K,RatD.none_fit K,RatD.none_fit K,RatD.none_fit K,RatD.none_fit K,RatD.none_fit K⟩
def ImgD.bare:ImgD:=⟨0,0,Option.none,0,[]⟩
theorem i64_0:I64 0:=⟨by decide,by decide⟩
theorem ImgD.bare_ok(w:World):ImgD.bare.ok w:=⟨i64_0,i64_0,rowN_nil _ _ _⟩
def PtD.none:PtD:=⟨0,0⟩
theorem PtD.none_ok:PtD.none.ok:=⟨i64_0,i64_0⟩
def PixD.none:PixD:=⟨0,0,0,0⟩
def PaintD.bare(k:Int):PaintD:=⟨k,.none,.none,.none,0,Option.none,0,[],0,.bare,0,.none⟩
theorem PaintD.bare_ok{k:Int}(hk:I64 k)(w:World):(PaintD.bare k).ok w:=⟨hk,PtD.none_ok,PtD.none_ok,i64_0,rowN_nil _ _ _,fun s hs=>by simp[PaintD.bare]at hs,i64_0,ImgD.bare_ok w,i64_0,AffD.none_ok w⟩
def PaintD.only1(p:PaintD):PaintD:={ p with t := .none,color := .none }
def PaintD.only2(p:PaintD):PaintD:={ p with t := .none,p0 := .none,p1 := .none,sva:=Option.none,svc:=0,stops:=[],spread:=0 }
def PaintD.only3(p:PaintD):PaintD:={ p with t := .none,p0 := .none,radius:=0,sva:=Option.none,svc:=0,stops:=[],spread:=0 }
def PaintD.only4(p:PaintD):PaintD:={ p with t := .none,img := .bare,spread:=0,samp:=0 }
def PaintD.only5(p:PaintD):PaintD:={ p with t := .none }
/-- A paint without the fields of its own kind. -/
def PaintD.without(p:PaintD):PaintD:=cond (p.kind==1) p.only1 (cond (p.kind==2) p.only2 (cond (p.kind==3) p.only3 (cond (p.kind==4) p.only4 p.only5)))
theorem PaintD.without_ok{w:World}{p:PaintD}(h:p.ok w):p.without.ok w:=by
 obtain⟨h1,h2,h3,h4,h5,h6,h7,h8,h9,h10⟩:=h
 have a:=AffD.none_ok w
 have r:=rowN_nil 5 StopD.cells w
 have n:∀s∈([]:List StopD),s.ok:=fun s hs=>by simp at hs
 unfold PaintD.without
 cases (p.kind==1)<;>cases (p.kind==2)<;>cases (p.kind==3)<;>cases (p.kind==4)
 all_goals first
  | exact⟨h1,h2,h3,h4,h5,h6,h7,h8,h9,a⟩
  | exact⟨h1,PtD.none_ok,PtD.none_ok,h4,r,n,i64_0,h8,h9,a⟩
  | exact⟨h1,PtD.none_ok,h3,i64_0,r,n,i64_0,h8,h9,a⟩
  | exact⟨h1,h2,h3,h4,h5,h6,i64_0,ImgD.bare_ok w,i64_0,a⟩
theorem PaintD.without_fit(p:PaintD)(K:Nat):p.without.t.fit K:=by
 unfold PaintD.without
 cases (p.kind==1)<;>cases (p.kind==2)<;>cases (p.kind==3)<;>cases (p.kind==4)
 all_goals exact AffD.none_fit K
theorem none_q(w:World):IsRatQ 1 w (.agg #[.bool false,.slice none 0 0,.bool false,.slice none 0 0]) q0:=by
 rw[←RatD.none_q]; exact RatD.toQ (r:=RatD.none) (RatD.none_ok w) (RatD.none_fit 1)
theorem det_nrm(Q:Q6):Nrm Q.det:=nz_nrm _ _
theorem det_len{K:Nat}{Q:Q6}(hK:1≤K)(h:qlen6 K Q):qlen (K+K+(K+K)+1) Q.det:=qsub_len (by omega) (qmul_len hK h.1 h.2.2.2.1) (qmul_len hK h.2.1 h.2.2.1)
theorem AffR.len6{K:Nat}{w:World}{v:Value}{Q:Q6}(h:IsAffQ K w v Q)(hK:1≤K):qlen6 K Q:=h.len hK
def PaintD.eq(p q:PaintD):Bool:=((((((((((p.kind)==q.kind)&&(((p.color.r.toNat:Int)==(q.color.r.toNat:Int))&&(((p.color.g.toNat:Int)==(q.color.g.toNat:Int))&&(((p.color.b.toNat:Int)==(q.color.b.toNat:Int))&&((p.color.a.toNat:Int)==(q.color.a.toNat:Int))))))&&((p.p0.x==q.p0.x)&&(p.p0.y==q.p0.y)))&&((p.p1.x==q.p1.x)&&(p.p1.y==q.p1.y)))&&((p.radius)==q.radius))&&((p.spread)==q.spread))&&((p.samp)==q.samp))&&(decide (p.stops=q.stops)))&&(p.img.eq q.img))&&(p.t.q.eq q.t.q)
def PaintD.valid(p:PaintD):Bool:=cond ((!(p.t.q.valid))||(!(p.without.eq (PaintD.bare p.kind)))) (false) (cond ((p.kind)==1) ((p.t.q.eq AffD.none.q)) (cond ((p.kind)==2) (cond (((!(PtD.valid ⟨p.p0.x,p.p0.y⟩))||(!(PtD.valid ⟨p.p1.x,p.p1.y⟩)))||(!(stopsOk p.stops&&spreadOk p.spread))) (false) (((qcmp p.t.q.det q0)) != 0)) (cond ((p.kind)==3) (cond ((((!(PtD.valid ⟨p.p0.x,p.p0.y⟩))||(decide (p.radius<1)))||(decide (1048576<p.radius)))||(!(stopsOk p.stops&&spreadOk p.spread))) (false) (((qcmp p.t.q.det q0)) != 0)) (cond ((p.kind)==4) (cond (((!(p.img.valid))||(((p.spread) != 0)&&(!(spreadOk p.spread))))||(((p.samp) != 1)&&((p.samp) != 2))) (false) (((qcmp p.t.q.det q0)) != 0)) (false)))))
end Go.Proofs.YtfmkkemfhjkajaaGreatDoor
namespace Go.Proofs.YtfmkkemfhjkajaaGreatDoor
open Go.RowKit
variable{α:Type}
set_option linter.unusedVariables false
theorem paintEqual_any{w:World}{p q:PaintD}{K:Nat}(h:p.ok w)(h':q.ok w)(hf:p.t.fit K)(hf':q.t.fit K)(hK1:1≤K)(hK:K≤10000) :
  Calls Tryz.prog 95 #[p.v,q.v] w fun e w'=>e = .returned (.bool (p.eq q))∧Ext w w':=by
 skip
 refine Sx.enter Tryz.func95 Tryz.ntmps95 fun ac S=>Sx.seqP fun _ κ1=>Sx.newp S 2 p.cells fun ac u b2 E3 hb4 S=>Sx.newp S 3 q.cells fun ac u b5 E6 hb7 S=>Sx.run S 1 [] [(4,.bool false)] fun ac S=>Sx.done<|κ1 _ _<|Sx.seqP fun _ κ8=>Sx.runC S 69 [.mem 1 0,.mem 0 0,.mem 1 1,.mem 0 1,.cmp .eql 23 (.tmp 12) (.tmp 14) (.agg #[.int .u8 (p.color.r.toNat:Int),.int .u8 (p.color.g.toNat:Int),.int .u8 (p.color.b.toNat:Int),.int .u8 (p.color.a.toNat:Int)]) (.agg #[.int .u8 (q.color.r.toNat:Int),.int .u8 (q.color.g.toNat:Int),.int .u8 (q.color.b.toNat:Int),.int .u8 (q.color.a.toNat:Int)]) (.bool (((p.color.r.toNat:Int)==(q.color.r.toNat:Int))&&(((p.color.g.toNat:Int)==(q.color.g.toNat:Int))&&(((p.color.b.toNat:Int)==(q.color.b.toNat:Int))&&((p.color.a.toNat:Int)==(q.color.a.toNat:Int)))))),.mem 1 5,.mem 0 5,.cmp .eql 60 (.tmp 19) (.tmp 21) (.agg #[.int .i64 p.p0.x,.int .i64 p.p0.y]) (.agg #[.int .i64 q.p0.x,.int .i64 q.p0.y]) (.bool ((p.p0.x==q.p0.x)&&(p.p0.y==q.p0.y))),.mem 1 7,.mem 0 7,.cmp .eql 60 (.tmp 26) (.tmp 28) (.agg #[.int .i64 p.p1.x,.int .i64 p.p1.y]) (.agg #[.int .i64 q.p1.x,.int .i64 q.p1.y]) (.bool ((p.p1.x==q.p1.x)&&(p.p1.y==q.p1.y))),.mem 1 9,.mem 0 9,.mem 1 11,.mem 0 11,.mem 1 15,.mem 0 15,.mem 1 10,.mem 0 10,.mem 1 12,.mem 0 12,.mem 1 16,.mem 0 16] [(_,_,((((((((p.kind)==q.kind)&&(((p.color.r.toNat:Int)==(q.color.r.toNat:Int))&&(((p.color.g.toNat:Int)==(q.color.g.toNat:Int))&&(((p.color.b.toNat:Int)==(q.color.b.toNat:Int))&&((p.color.a.toNat:Int)==(q.color.a.toNat:Int))))))&&((p.p0.x==q.p0.x)&&(p.p0.y==q.p0.y)))&&((p.p1.x==q.p1.x)&&(p.p1.y==q.p1.y)))&&((p.radius)==q.radius))&&((p.spread)==q.spread))&&((p.samp)==q.samp)),.bool (decide (p.stops=q.stops))),(_,_,(((((((((p.kind)==q.kind)&&(((p.color.r.toNat:Int)==(q.color.r.toNat:Int))&&(((p.color.g.toNat:Int)==(q.color.g.toNat:Int))&&(((p.color.b.toNat:Int)==(q.color.b.toNat:Int))&&((p.color.a.toNat:Int)==(q.color.a.toNat:Int))))))&&((p.p0.x==q.p0.x)&&(p.p0.y==q.p0.y)))&&((p.p1.x==q.p1.x)&&(p.p1.y==q.p1.y)))&&((p.radius)==q.radius))&&((p.spread)==q.spread))&&((p.samp)==q.samp))&&(decide (p.stops=q.stops))),.bool (p.img.eq q.img)),(_,_,((((((((((p.kind)==q.kind)&&(((p.color.r.toNat:Int)==(q.color.r.toNat:Int))&&(((p.color.g.toNat:Int)==(q.color.g.toNat:Int))&&(((p.color.b.toNat:Int)==(q.color.b.toNat:Int))&&((p.color.a.toNat:Int)==(q.color.a.toNat:Int))))))&&((p.p0.x==q.p0.x)&&(p.p0.y==q.p0.y)))&&((p.p1.x==q.p1.x)&&(p.p1.y==q.p1.y)))&&((p.radius)==q.radius))&&((p.spread)==q.spread))&&((p.samp)==q.samp))&&(decide (p.stops=q.stops)))&&(p.img.eq q.img)),.bool (p.t.q.eq q.t.q))] [(4,.bool (((((((((((p.kind)==q.kind)&&(((p.color.r.toNat:Int)==(q.color.r.toNat:Int))&&(((p.color.g.toNat:Int)==(q.color.g.toNat:Int))&&(((p.color.b.toNat:Int)==(q.color.b.toNat:Int))&&((p.color.a.toNat:Int)==(q.color.a.toNat:Int))))))&&((p.p0.x==q.p0.x)&&(p.p0.y==q.p0.y)))&&((p.p1.x==q.p1.x)&&(p.p1.y==q.p1.y)))&&((p.radius)==q.radius))&&((p.spread)==q.spread))&&((p.samp)==q.samp))&&(decide (p.stops=q.stops)))&&(p.img.eq q.img))&&(p.t.q.eq q.t.q)))] ⟨fun u hC g=>slStop_any (h.2.2.2.2.1.below (Ext.trans' S.E hC)) (h'.2.2.2.2.1.below (Ext.trans' S.E hC)),fun u hC g=>imgEqual_any (m:=p.img) (n:=q.img) (h.2.2.2.2.2.2.2.1.below (Ext.trans' S.E hC)) (h'.2.2.2.2.2.2.2.1.below (Ext.trans' S.E hC)),fun u hC g=>affEqual_q p.t.v q.t.v p.t.q q.t.q K _ ((AffD.toQ h.2.2.2.2.2.2.2.2.2 hf).belowQ (Ext.trans' S.E hC)) ((AffD.toQ h'.2.2.2.2.2.2.2.2.2 hf').belowQ (Ext.trans' S.E hC)) hK1 hK,trivial⟩ (hk:=⟨Sx.cmp_agg (fun _=>eqCol ..) (by kernel_rfl),Sx.cmp_agg (fun _=>eqPt ..) (by kernel_rfl),Sx.cmp_agg (fun _=>eqPt ..) (by kernel_rfl),trivial⟩) fun ac u E9 S=>Sx.done<|κ8 _ _<|Vp.rt ?_
 refine Sx.ret1 S Tryz.results95 ?_
 exact⟨rfl,S.E⟩
theorem validStops_any{w:World}{p:PaintD}(h:p.ok w) :
  Calls Tryz.prog 228 #[p.v] w fun e w'=>e = .returned (.bool (stopsOk p.stops&&spreadOk p.spread))∧Ext w w':=by
 skip
 refine Sx.enter Tryz.func228 Tryz.ntmps228 fun ac S=>Sx.seqP fun _ κ1=>Sx.newp S 1 p.cells fun ac u b2 E3 hb4 S=>Sx.run S 1 [] [(2,.bool false)] fun ac S=>Sx.done<|κ1 _ _<|Sx.seqP fun _ κ5=>Sx.run S 2 [.mem 0 10] [(4,p.sv)] fun ac S=>Sx.callv S 5 (gradValid_any (h.2.2.2.2.1.below S.E)) fun ac u E6 S=>Sx.runC S 6 [.mem 0 11] [(_,_,(stopsOk p.stops),.bool (spreadOk p.spread))] [(2,.bool ((stopsOk p.stops)&&(spreadOk p.spread)))] ⟨fun u hC g=>Sx.same (spread_any p.spread _),trivial⟩ fun ac u E7 S=>Sx.done<|κ5 _ _<|Vp.rt ?_
 refine Sx.ret1 S Tryz.results228 ?_
 exact⟨rfl,S.E⟩
end Go.Proofs.YtfmkkemfhjkajaaGreatDoor
namespace Go.Proofs.YtfmkkemfhjkajaaGreatDoor
open Go.RowKit
variable{α:Type}
set_option linter.unusedVariables false
theorem without_any{w:World}{p:PaintD}(h:p.ok w) :
  Calls Tryz.prog 227 #[p.v] w fun e w'=>e = .returned p.without.v∧Ext w w':=by
 obtain⟨h1,h2,h3,h4,h5,h6,h7,h8,h9,h10⟩:=h
 obtain⟨t0,t1,t2,t3,t4,t5⟩:=h10
 have o0:=Vp.oc_row h5
 have o1:=Vp.oc_row h8.2.2
 have o2:=Vp.oc_u32s t0.1
 have o3:=Vp.oc_u32s t0.2
 have o4:=Vp.oc_u32s t1.1
 have o5:=Vp.oc_u32s t1.2
 have o6:=Vp.oc_u32s t2.1
 have o7:=Vp.oc_u32s t2.2
 have o8:=Vp.oc_u32s t3.1
 have o9:=Vp.oc_u32s t3.2
 have o10:=Vp.oc_u32s t4.1
 have o11:=Vp.oc_u32s t4.2
 have o12:=Vp.oc_u32s t5.1
 have o13:=Vp.oc_u32s t5.2
 refine Sx.enter Tryz.func227 Tryz.ntmps227 fun ac S=>Sx.seqP fun _ κ1=>Sx.newp S 1 p.cells fun ac u b2 E3 hb4 S=>Sx.newp S 2 (Sx.L [.int .i64 0,.int .u8 0,.int .u8 0,.int .u8 0,.int .u8 0,.int .i64 0,.int .i64 0,.int .i64 0,.int .i64 0,.int .i64 0,.slice none 0 0,.int .i64 0,.int .i64 0,.int .i64 0,.slice none 0 0,.int .i64 0]++Sx.za) fun ac u b5 E6 hb7 S=>Sx.done<|κ1 _ _<|Sx.seqP fun _ κ8=>Sx.run S 1 [.mem 1 0] [(4,p.v)] fun ac S=>Sx.newp S 3 (Sx.L [.int .i64 0,.int .u8 0,.int .u8 0,.int .u8 0,.int .u8 0,.int .i64 0,.int .i64 0,.int .i64 0,.int .i64 0,.int .i64 0,.slice none 0 0,.int .i64 0,.int .i64 0,.int .i64 0,.slice none 0 0,.int .i64 0]++Sx.za) fun ac u b9 E10 hb11 S=>Sx.store S 0 (off:=0) (cs:=p.cells) rfl fun u C12 S=>Sx.done<|κ8 _ _<|Sx.seqP fun _ κ13=>Sx.run S 2 [] [(5,.agg Sx.za.toArray),(6,.pointer (some ⟨b9,16,none⟩))] fun ac S=>Sx.store S 0 (off:=16) (cs:=Sx.za) rfl fun u C14 S=>Sx.done<|κ13 _ _<|wp_seq_k fun _ κ15=>Sx.seqP fun _ κ16=>Sx.run S 2 [.mem 2 0] [(8,.int .i64 p.kind)] fun ac S=>Sx.done<|κ16 _ _<|wp_block<|Sx.seqP fun _ κ17=>Sx.run S 2 [] [(9,.bool ((p.kind)==1))] fun ac S=>Sx.done (κ17 _ _ ?_)
 refine Sx.cond S (fun hc18=>?_) (fun hc18=>?_)
 ·refine Vp.region<|Sx.run S 2 [] [(11,.agg #[.int .u8 0,.int .u8 0,.int .u8 0,.int .u8 0]),(12,.pointer (some ⟨b9,1,none⟩))] fun ac S=>Sx.store S 0 (off:=1) (cs:=[.int .u8 0,.int .u8 0,.int .u8 0,.int .u8 0]) rfl fun u C19 S=>Sx.done<|κ15 _ _<|Sx.seqP fun _ κ20=>Sx.run S 1 [.mem 0 0] [(34,.agg (Sx.L [.int .i64 p.kind,.int .u8 0,.int .u8 0,.int .u8 0,.int .u8 0,.int .i64 p.p0.x,.int .i64 p.p0.y,.int .i64 p.p1.x,.int .i64 p.p1.y,.int .i64 p.radius,p.sv,.int .i64 p.spread]++p.img.cells++Sx.L [.int .i64 p.samp]++Sx.za).toArray)] fun ac S=>Sx.store S 1 (off:=0) (cs:=(Sx.L [.int .i64 p.kind,.int .u8 0,.int .u8 0,.int .u8 0,.int .u8 0,.int .i64 p.p0.x,.int .i64 p.p0.y,.int .i64 p.p1.x,.int .i64 p.p1.y,.int .i64 p.radius,p.sv,.int .i64 p.spread]++p.img.cells++Sx.L [.int .i64 p.samp]++Sx.za)) rfl fun u C21 S=>Sx.done<|κ20 _ _<|Vp.rt ?_
  have e:p.without=p.only1:=by unfold PaintD.without; rw[hc18]; rfl
  refine Sx.retc S 1 Tryz.results227 rfl (v := .agg (Sx.L [.int .i64 p.kind,.int .u8 0,.int .u8 0,.int .u8 0,.int .u8 0,.int .i64 p.p0.x,.int .i64 p.p0.y,.int .i64 p.p1.x,.int .i64 p.p1.y,.int .i64 p.radius,p.sv,.int .i64 p.spread]++p.img.cells++Sx.L [.int .i64 p.samp]++Sx.za).toArray) ?_
  exact⟨by rw[e]; rfl,S.E⟩
 ·refine Sx.seqP fun _ κ22=>Sx.run S 2 [] [(13,.bool ((p.kind)==2))] fun ac S=>Sx.done (κ22 _ _ ?_)
  refine Sx.cond S (fun hc23=>?_) (fun hc23=>?_)
  ·refine Vp.region<|Sx.run S 3 [] [(15,.agg #[.int .i64 0,.int .i64 0]),(16,.agg #[.int .i64 0,.int .i64 0]),(17,.pointer (some ⟨b9,5,none⟩))] fun ac S=>Sx.store S 0 (off:=5) (cs:=[.int .i64 0,.int .i64 0]) rfl fun u C24 S=>Sx.run S 1 [] [(18,.pointer (some ⟨b9,7,none⟩))] fun ac S=>Sx.store S 0 (off:=7) (cs:=[.int .i64 0,.int .i64 0]) rfl fun u C25 S=>Sx.run S 1 [] [(19,.pointer (some ⟨b9,10,none⟩))] fun ac S=>Sx.store1 S 0 (off:=10) (v := .slice none 0 0) rfl fun u C26 S=>Sx.run S 1 [] [(20,.pointer (some ⟨b9,11,none⟩))] fun ac S=>Sx.store1 S 0 (off:=11) (v := .int .i64 0) rfl fun u C27 S=>Sx.done<|κ15 _ _<|Sx.seqP fun _ κ28=>Sx.run S 1 [.mem 0 0] [(34,.agg (Sx.L [.int .i64 p.kind]++p.color.cells++Sx.L [.int .i64 0,.int .i64 0,.int .i64 0,.int .i64 0,.int .i64 p.radius,.slice none 0 0,.int .i64 0]++p.img.cells++Sx.L [.int .i64 p.samp]++Sx.za).toArray)] fun ac S=>Sx.store S 1 (off:=0) (cs:=(Sx.L [.int .i64 p.kind]++p.color.cells++Sx.L [.int .i64 0,.int .i64 0,.int .i64 0,.int .i64 0,.int .i64 p.radius,.slice none 0 0,.int .i64 0]++p.img.cells++Sx.L [.int .i64 p.samp]++Sx.za)) rfl fun u C29 S=>Sx.done<|κ28 _ _<|Vp.rt ?_
   have e:p.without=p.only2:=by unfold PaintD.without; rw[hc18,hc23]; rfl
   refine Sx.retc S 1 Tryz.results227 rfl (v := .agg (Sx.L [.int .i64 p.kind]++p.color.cells++Sx.L [.int .i64 0,.int .i64 0,.int .i64 0,.int .i64 0,.int .i64 p.radius,.slice none 0 0,.int .i64 0]++p.img.cells++Sx.L [.int .i64 p.samp]++Sx.za).toArray) ?_
   exact⟨by rw[e]; rfl,S.E⟩
  ·refine Sx.seqP fun _ κ30=>Sx.run S 2 [] [(21,.bool ((p.kind)==3))] fun ac S=>Sx.done (κ30 _ _ ?_)
   refine Sx.cond S (fun hc31=>?_) (fun hc31=>?_)
   ·refine Vp.region<|Sx.run S 2 [] [(23,.agg #[.int .i64 0,.int .i64 0]),(24,.pointer (some ⟨b9,5,none⟩))] fun ac S=>Sx.store S 0 (off:=5) (cs:=[.int .i64 0,.int .i64 0]) rfl fun u C32 S=>Sx.run S 1 [] [(25,.pointer (some ⟨b9,9,none⟩))] fun ac S=>Sx.store1 S 0 (off:=9) (v := .int .i64 0) rfl fun u C33 S=>Sx.run S 1 [] [(26,.pointer (some ⟨b9,10,none⟩))] fun ac S=>Sx.store1 S 0 (off:=10) (v := .slice none 0 0) rfl fun u C34 S=>Sx.run S 1 [] [(27,.pointer (some ⟨b9,11,none⟩))] fun ac S=>Sx.store1 S 0 (off:=11) (v := .int .i64 0) rfl fun u C35 S=>Sx.done<|κ15 _ _<|Sx.seqP fun _ κ36=>Sx.run S 1 [.mem 0 0] [(34,.agg (Sx.L [.int .i64 p.kind]++p.color.cells++Sx.L [.int .i64 0,.int .i64 0,.int .i64 p.p1.x,.int .i64 p.p1.y,.int .i64 0,.slice none 0 0,.int .i64 0]++p.img.cells++Sx.L [.int .i64 p.samp]++Sx.za).toArray)] fun ac S=>Sx.store S 1 (off:=0) (cs:=(Sx.L [.int .i64 p.kind]++p.color.cells++Sx.L [.int .i64 0,.int .i64 0,.int .i64 p.p1.x,.int .i64 p.p1.y,.int .i64 0,.slice none 0 0,.int .i64 0]++p.img.cells++Sx.L [.int .i64 p.samp]++Sx.za)) rfl fun u C37 S=>Sx.done<|κ36 _ _<|Vp.rt ?_
    have e:p.without=p.only3:=by unfold PaintD.without; rw[hc18,hc23,hc31]; rfl
    refine Sx.retc S 1 Tryz.results227 rfl (v := .agg (Sx.L [.int .i64 p.kind]++p.color.cells++Sx.L [.int .i64 0,.int .i64 0,.int .i64 p.p1.x,.int .i64 p.p1.y,.int .i64 0,.slice none 0 0,.int .i64 0]++p.img.cells++Sx.L [.int .i64 p.samp]++Sx.za).toArray) ?_
    exact⟨by rw[e]; rfl,S.E⟩
   ·refine Sx.seqP fun _ κ38=>Sx.run S 2 [] [(28,.bool ((p.kind)==4))] fun ac S=>Sx.done (κ38 _ _ ?_)
    refine Sx.cond S (fun hc39=>?_) (fun hc39=>?_)
    ·refine Vp.region<|Sx.run S 2 [] [(30,.agg #[.int .i64 0,.int .i64 0,.slice none 0 0]),(31,.pointer (some ⟨b9,12,none⟩))] fun ac S=>Sx.store S 0 (off:=12) (cs:=[.int .i64 0,.int .i64 0,.slice none 0 0]) rfl fun u C40 S=>Sx.run S 1 [] [(32,.pointer (some ⟨b9,11,none⟩))] fun ac S=>Sx.store1 S 0 (off:=11) (v := .int .i64 0) rfl fun u C41 S=>Sx.run S 1 [] [(33,.pointer (some ⟨b9,15,none⟩))] fun ac S=>Sx.store1 S 0 (off:=15) (v := .int .i64 0) rfl fun u C42 S=>Sx.done<|κ15 _ _<|Sx.seqP fun _ κ43=>Sx.run S 1 [.mem 0 0] [(34,.agg (Sx.L [.int .i64 p.kind]++p.color.cells++Sx.L [.int .i64 p.p0.x,.int .i64 p.p0.y,.int .i64 p.p1.x,.int .i64 p.p1.y,.int .i64 p.radius,p.sv,.int .i64 0,.int .i64 0,.int .i64 0,.slice none 0 0,.int .i64 0]++Sx.za).toArray)] fun ac S=>Sx.store S 1 (off:=0) (cs:=(Sx.L [.int .i64 p.kind]++p.color.cells++Sx.L [.int .i64 p.p0.x,.int .i64 p.p0.y,.int .i64 p.p1.x,.int .i64 p.p1.y,.int .i64 p.radius,p.sv,.int .i64 0,.int .i64 0,.int .i64 0,.slice none 0 0,.int .i64 0]++Sx.za)) rfl fun u C44 S=>Sx.done<|κ43 _ _<|Vp.rt ?_
     have e:p.without=p.only4:=by unfold PaintD.without; rw[hc18,hc23,hc31,hc39]; rfl
     refine Sx.retc S 1 Tryz.results227 rfl (v := .agg (Sx.L [.int .i64 p.kind]++p.color.cells++Sx.L [.int .i64 p.p0.x,.int .i64 p.p0.y,.int .i64 p.p1.x,.int .i64 p.p1.y,.int .i64 p.radius,p.sv,.int .i64 0,.int .i64 0,.int .i64 0,.slice none 0 0,.int .i64 0]++Sx.za).toArray) ?_
     exact⟨by rw[e]; rfl,S.E⟩
    ·refine wp_skip<|κ15 _ _<|Sx.seqP fun _ κ45=>Sx.run S 1 [.mem 0 0] [(34,.agg (Sx.L [.int .i64 p.kind]++p.color.cells++Sx.L [.int .i64 p.p0.x,.int .i64 p.p0.y,.int .i64 p.p1.x,.int .i64 p.p1.y,.int .i64 p.radius,p.sv,.int .i64 p.spread]++p.img.cells++Sx.L [.int .i64 p.samp]++Sx.za).toArray)] fun ac S=>Sx.store S 1 (off:=0) (cs:=(Sx.L [.int .i64 p.kind]++p.color.cells++Sx.L [.int .i64 p.p0.x,.int .i64 p.p0.y,.int .i64 p.p1.x,.int .i64 p.p1.y,.int .i64 p.radius,p.sv,.int .i64 p.spread]++p.img.cells++Sx.L [.int .i64 p.samp]++Sx.za)) rfl fun u C46 S=>Sx.done<|κ45 _ _<|Vp.rt ?_
     have e:p.without=p.only5:=by unfold PaintD.without; rw[hc18,hc23,hc31,hc39]; rfl
     refine Sx.retc S 1 Tryz.results227 rfl (v := .agg (Sx.L [.int .i64 p.kind]++p.color.cells++Sx.L [.int .i64 p.p0.x,.int .i64 p.p0.y,.int .i64 p.p1.x,.int .i64 p.p1.y,.int .i64 p.radius,p.sv,.int .i64 p.spread]++p.img.cells++Sx.L [.int .i64 p.samp]++Sx.za).toArray) ?_
     exact⟨by rw[e]; rfl,S.E⟩
end Go.Proofs.YtfmkkemfhjkajaaGreatDoor
namespace Go.Proofs.YtfmkkemfhjkajaaGreatDoor
open Go.RowKit
variable{α:Type}
set_option linter.unusedVariables false
theorem paintValid_any{w:World}{p:PaintD}{K:Nat}(h:p.ok w)(hf:p.t.fit K)(hK1:1≤K)(hK:K≤10000) :
  Calls Tryz.prog 199 #[p.v] w fun e w'=>e = .returned (.bool p.valid)∧Ext w w':=by
 skip
 refine Sx.enter Tryz.func199 Tryz.ntmps199 fun ac S=>Sx.seqP fun _ κ1=>Sx.newp S 1 p.cells fun ac u b2 E3 hb4 S=>Sx.run S 1 [] [(2,.bool false)] fun ac S=>Sx.done<|κ1 _ _<|wp_seq_k fun _ κ5=>wp_seq_k fun _ κ6=>Sx.draw S 13 [.mem 0 16,.mem 0 0,.mem 0 0] [(_,_,true,.bool (p.t.q.valid)),(_,_,(!(!(p.t.q.valid))),p.without.v),(_,_,(!(!(p.t.q.valid))),.bool (p.without.eq (PaintD.bare p.kind)))] [(15,.bool ((!(p.t.q.valid))||(!(p.without.eq (PaintD.bare p.kind)))))] ⟨fun u hC g=>affValid_q p.t.v p.t.q K _ ((AffD.toQ h.2.2.2.2.2.2.2.2.2 hf).belowQ (Ext.trans' S.E hC)) hK1 (by omega),fun u hC g=>without_any (h.below (Ext.trans' S.E hC)),fun u hC g=>paintEqual_any (p:=p.without) (q:=PaintD.bare p.kind) (K:=K) ((PaintD.without_ok h).below (Ext.trans' S.E hC)) (PaintD.bare_ok h.1 _) (PaintD.without_fit p K) (AffD.none_fit K) hK1 hK,trivial⟩ fun ac u E7 S=>Sx.done (κ6 _ _ ?_)
 refine Sx.cond S (fun hc8=>?_) (fun hc8=>?_)
 ·refine Sx.seqP fun _ κ9=>Sx.run S 1 [] [(2,.bool false)] fun ac S=>Sx.done<|κ9 _ _<|Vp.rt ?_
  refine Sx.ret1 S Tryz.results199 ?_
  exact⟨ret_bool (by unfold PaintD.valid; rw[hc8]; rfl),S.E⟩
 ·refine wp_skip<|κ5 _ _<|wp_seq_k fun _ κ10=>Sx.seqP fun _ κ11=>Sx.run S 2 [.mem 0 0] [(17,.int .i64 p.kind)] fun ac S=>Sx.done<|κ11 _ _<|wp_block<|Sx.seqP fun _ κ12=>Sx.run S 2 [] [(18,.bool ((p.kind)==1))] fun ac S=>Sx.done (κ12 _ _ ?_)
  refine Sx.cond S (fun hc13=>?_) (fun hc13=>?_)
  ·refine Sx.seqP fun _ κ14=>Sx.run S 3 [.mem 0 16] [(21,p.t.v),(22,.agg Sx.za.toArray)] fun ac S=>Sx.callv S 23 (affEqual_q p.t.v AffD.none.v p.t.q AffD.none.q K _ ((AffD.toQ h.2.2.2.2.2.2.2.2.2 hf).belowQ S.E) ((AffD.toQ (AffD.none_ok _) (AffD.none_fit K)).belowQ (Below.refl _ _)) hK1 hK) fun ac u E15 S=>Sx.run S 1 [] [(2,.bool (p.t.q.eq AffD.none.q))] fun ac S=>Sx.done<|κ14 _ _<|Vp.rt ?_
   refine Sx.ret1 S Tryz.results199 ?_
   exact⟨ret_bool (by unfold PaintD.valid; rw[hc8,hc13]; rfl),S.E⟩
  ·refine Sx.seqP fun _ κ16=>Sx.run S 2 [] [(24,.bool ((p.kind)==2))] fun ac S=>Sx.done (κ16 _ _ ?_)
   refine Sx.cond S (fun hc17=>?_) (fun hc17=>?_)
   ·refine Sx.seqP fun _ κ18=>Sx.run S 2 [.mem 0 5] [(27,.agg #[.int .i64 p.p0.x,.int .i64 p.p0.y])] fun ac S=>Sx.callv S 28 (vecValid_any (p.p0.x) (p.p0.y) _) fun ac u E19 S=>Sx.runC S 12 [.mem 0 7,.mem 0 0] [(_,_,(!(!(PtD.valid ⟨p.p0.x,p.p0.y⟩))),.bool (PtD.valid ⟨p.p1.x,p.p1.y⟩)),(_,_,(!((!(PtD.valid ⟨p.p0.x,p.p0.y⟩))||(!(PtD.valid ⟨p.p1.x,p.p1.y⟩)))),.bool (stopsOk p.stops&&spreadOk p.spread))] [(40,.bool (((!(PtD.valid ⟨p.p0.x,p.p0.y⟩))||(!(PtD.valid ⟨p.p1.x,p.p1.y⟩)))||(!(stopsOk p.stops&&spreadOk p.spread))))] ⟨fun u hC g=>vecValid_any (p.p1.x) (p.p1.y) _,fun u hC g=>validStops_any (h.below (Ext.trans' S.E hC)),trivial⟩ fun ac u E20 S=>Sx.done (κ18 _ _ ?_)
    refine Sx.cond S (fun hc21=>?_) (fun hc21=>?_)
    ·refine Sx.seqP fun _ κ22=>Sx.run S 1 [] [(2,.bool false)] fun ac S=>Sx.done<|κ22 _ _<|Vp.rt ?_
     refine Sx.ret1 S Tryz.results199 ?_
     exact⟨ret_bool (by unfold PaintD.valid; rw[hc8,hc13,hc17,hc21]; rfl),S.E⟩
    ·refine wp_skip<|κ10 _ _<|Sx.seqP fun _ κ23=>Sx.run S 2 [.mem 0 16] [(90,p.t.v)] fun ac S=>Sx.callG S (some 91) (det_q p.t.v p.t.q K _ ((AffD.toQ h.2.2.2.2.2.2.2.2.2 hf).belowQ S.E) hK1 hK) ?_
     rintro e u ⟨x,rfl,hd,E24⟩
     refine⟨_,rfl,E24,fun ac S=>?_⟩
     refine Sx.run S 1 [] [(92,.agg Sx.zr.toArray)] fun ac S=>Sx.callv S 93 (ratCmp_q _ _ p.t.q.det q0 (K+K+(K+K)+1) 1 _ (IsRatN.toQ hd (det_nrm _) (det_len hK1 (AffR.len6 ((AffD.toQ h.2.2.2.2.2.2.2.2.2 hf).belowQ (Below.refl _ _)) hK1))) (none_q _) (by omega) (by omega) (by omega) (by omega)) fun ac u E25 S=>Sx.run S 2 [] [(2,.bool (((qcmp p.t.q.det q0)) != 0))] fun ac S=>Sx.done<|κ23 _ _<|Vp.rt ?_
     refine Sx.ret1 S Tryz.results199 ?_
     exact⟨ret_bool (by unfold PaintD.valid; rw[hc8,hc13,hc17,hc21]; rfl),S.E⟩
   ·refine Sx.seqP fun _ κ26=>Sx.run S 2 [] [(41,.bool ((p.kind)==3))] fun ac S=>Sx.done (κ26 _ _ ?_)
    refine Sx.cond S (fun hc27=>?_) (fun hc27=>?_)
    ·refine Sx.seqP fun _ κ28=>Sx.run S 2 [.mem 0 5] [(44,.agg #[.int .i64 p.p0.x,.int .i64 p.p0.y])] fun ac S=>Sx.callv S 45 (vecValid_any (p.p0.x) (p.p0.y) _) fun ac u E29 S=>Sx.runC S 16 [.mem 0 9,.mem 0 9,.mem 0 0] [(_,_,(!(((!(PtD.valid ⟨p.p0.x,p.p0.y⟩))||(decide (p.radius<1)))||(decide (1048576<p.radius)))),.bool (stopsOk p.stops&&spreadOk p.spread))] [(61,.bool ((((!(PtD.valid ⟨p.p0.x,p.p0.y⟩))||(decide (p.radius<1)))||(decide (1048576<p.radius)))||(!(stopsOk p.stops&&spreadOk p.spread))))] ⟨fun u hC g=>validStops_any (h.below (Ext.trans' S.E hC)),trivial⟩ fun ac u E30 S=>Sx.done (κ28 _ _ ?_)
     refine Sx.cond S (fun hc31=>?_) (fun hc31=>?_)
     ·refine Sx.seqP fun _ κ32=>Sx.run S 1 [] [(2,.bool false)] fun ac S=>Sx.done<|κ32 _ _<|Vp.rt ?_
      refine Sx.ret1 S Tryz.results199 ?_
      exact⟨ret_bool (by unfold PaintD.valid; rw[hc8,hc13,hc17,hc27,hc31]; rfl),S.E⟩
     ·refine wp_skip<|κ10 _ _<|Sx.seqP fun _ κ33=>Sx.run S 2 [.mem 0 16] [(90,p.t.v)] fun ac S=>Sx.callG S (some 91) (det_q p.t.v p.t.q K _ ((AffD.toQ h.2.2.2.2.2.2.2.2.2 hf).belowQ S.E) hK1 hK) ?_
      rintro e u ⟨x,rfl,hd,E34⟩
      refine⟨_,rfl,E34,fun ac S=>?_⟩
      refine Sx.run S 1 [] [(92,.agg Sx.zr.toArray)] fun ac S=>Sx.callv S 93 (ratCmp_q _ _ p.t.q.det q0 (K+K+(K+K)+1) 1 _ (IsRatN.toQ hd (det_nrm _) (det_len hK1 (AffR.len6 ((AffD.toQ h.2.2.2.2.2.2.2.2.2 hf).belowQ (Below.refl _ _)) hK1))) (none_q _) (by omega) (by omega) (by omega) (by omega)) fun ac u E35 S=>Sx.run S 2 [] [(2,.bool (((qcmp p.t.q.det q0)) != 0))] fun ac S=>Sx.done<|κ33 _ _<|Vp.rt ?_
      refine Sx.ret1 S Tryz.results199 ?_
      exact⟨ret_bool (by unfold PaintD.valid; rw[hc8,hc13,hc17,hc27,hc31]; rfl),S.E⟩
    ·refine Sx.seqP fun _ κ36=>Sx.run S 2 [] [(62,.bool ((p.kind)==4))] fun ac S=>Sx.done (κ36 _ _ ?_)
     refine Sx.cond S (fun hc37=>?_) (fun hc37=>?_)
     ·refine Sx.seqP fun _ κ38=>Sx.run S 2 [.mem 0 12] [(65,p.img.v)] fun ac S=>Sx.callv S 66 (imgValid_any (m:=p.img) (h.2.2.2.2.2.2.2.1.below S.E)) fun ac u E39 S=>Sx.runC S 22 [.mem 0 11,.mem 0 11,.mem 0 15,.mem 0 15] [(_,_,((!(!(p.img.valid)))&&((p.spread) != 0)),.bool (spreadOk p.spread))] [(88,.bool (((!(p.img.valid))||(((p.spread) != 0)&&(!(spreadOk p.spread))))||(((p.samp) != 1)&&((p.samp) != 2))))] ⟨fun u hC g=>Sx.same (spread_any p.spread _),trivial⟩ fun ac u E40 S=>Sx.done (κ38 _ _ ?_)
      refine Sx.cond S (fun hc41=>?_) (fun hc41=>?_)
      ·refine Sx.seqP fun _ κ42=>Sx.run S 1 [] [(2,.bool false)] fun ac S=>Sx.done<|κ42 _ _<|Vp.rt ?_
       refine Sx.ret1 S Tryz.results199 ?_
       exact⟨ret_bool (by unfold PaintD.valid; rw[hc8,hc13,hc17,hc27,hc37,hc41]; rfl),S.E⟩
      ·refine wp_skip<|κ10 _ _<|Sx.seqP fun _ κ43=>Sx.run S 2 [.mem 0 16] [(90,p.t.v)] fun ac S=>Sx.callG S (some 91) (det_q p.t.v p.t.q K _ ((AffD.toQ h.2.2.2.2.2.2.2.2.2 hf).belowQ S.E) hK1 hK) ?_
       rintro e u ⟨x,rfl,hd,E44⟩
       refine⟨_,rfl,E44,fun ac S=>?_⟩
       refine Sx.run S 1 [] [(92,.agg Sx.zr.toArray)] fun ac S=>Sx.callv S 93 (ratCmp_q _ _ p.t.q.det q0 (K+K+(K+K)+1) 1 _ (IsRatN.toQ hd (det_nrm _) (det_len hK1 (AffR.len6 ((AffD.toQ h.2.2.2.2.2.2.2.2.2 hf).belowQ (Below.refl _ _)) hK1))) (none_q _) (by omega) (by omega) (by omega) (by omega)) fun ac u E45 S=>Sx.run S 2 [] [(2,.bool (((qcmp p.t.q.det q0)) != 0))] fun ac S=>Sx.done<|κ43 _ _<|Vp.rt ?_
       refine Sx.ret1 S Tryz.results199 ?_
       exact⟨ret_bool (by unfold PaintD.valid; rw[hc8,hc13,hc17,hc27,hc37,hc41]; rfl),S.E⟩
     ·refine Sx.seqP fun _ κ46=>Sx.run S 1 [] [(2,.bool false)] fun ac S=>Sx.done<|κ46 _ _<|Vp.rt ?_
      refine Sx.ret1 S Tryz.results199 ?_
      exact⟨ret_bool (by unfold PaintD.valid; rw[hc8,hc13,hc17,hc27,hc37]; rfl),S.E⟩
theorem may1_any{w:World}{p:PaintD}{K:Nat}(h:p.ok w)(hf:p.t.fit K)(hK1:1≤K)(hK:K≤10000) :
  Calls Tryz.prog 198 #[p.v] w fun e w'=>e = .returned (.bool (!p.valid))∧Ext w w':=by
 skip
 refine Sx.enter Tryz.func198 Tryz.ntmps198 fun ac S=>Sx.seqP fun _ κ1=>Sx.newp S 1 p.cells fun ac u b2 E3 hb4 S=>Sx.run S 1 [] [(2,.bool false)] fun ac S=>Sx.done<|κ1 _ _<|Sx.seqP fun _ κ5=>Sx.run S 1 [.mem 0 0] [(3,p.v)] fun ac S=>Sx.callv S 4 (paintValid_any (h.below S.E) hf hK1 hK) fun ac u E6 S=>Sx.run S 2 [] [(2,.bool (!p.valid))] fun ac S=>Sx.done<|κ5 _ _<|Vp.rt ?_
 refine Sx.ret1 S Tryz.results198 ?_
 exact⟨rfl,S.E⟩
end Go.Proofs.YtfmkkemfhjkajaaGreatDoor
namespace Go.Proofs.YtfmkkemfhjkajaaGreatDoor
open Go.RowKit
variable{α:Type}{K:Nat}
set_option linter.unusedVariables false
def PaintsOk(K:Nat)(w:World)(v:Value)(l:List PaintD):Prop:=IsPaints w v l∧(∀p∈l,p.t.fit K)∧1≤K∧K≤10000
theorem PaintsOk.below{w w':World}{v:Value}{l:List PaintD}(h:PaintsOk K w v l)(hb:Ext w w'):PaintsOk K w' v l:=⟨h.1.below hb,h.2⟩
theorem errInfo:∃ie,Tryz.prog.info? 108=some ie∧ie.size=1∧ie.zero=some .nilIface:=by
 have h1:(Tryz.prog.info? 108).map (fun i=>(i.size,i.zero))=some (1,some .nilIface):=by kernel_rfl
 cases h:Tryz.prog.info? 108 with
 | none=>rw[h]at h1; cases h1
 | some i=>rw[h]at h1; simp at h1; exact⟨i,rfl,h1.1,h1.2⟩
theorem whenE_cells(b:Bool)(n:Int):(whenE b n).cells = #[whenE b n]:=by unfold whenE; split<;>rfl
theorem run_rowop{P:Program}{ρ:Operand→Value}{o:Oper}{w w1:World}{t:TypeId}{n:Nat}{parts:Array (Nat×Operand)}{vs:Array (Nat×Value)}{V:Value}(hop:o.op = .buildSlice t n parts)(hp:(parts.map fun(i,x)=>(i,ρ x))=vs)(h:(Instr.buildSlice t n vs).run P w = .ok V w1) :
  (execOp ρ o).run P w = .ok (.value V) w1:=by
 unfold execOp
 simp only[hop,hp,Sem.run_bind,h]
 rfl
theorem run_errs6(v0 v1 v2 v3 v4 v5:Value)(w:World)(h0:v0.cells = #[v0])(h1:v1.cells = #[v1])(h2:v2.cells = #[v2])(h3:v3.cells = #[v3])(h4:v4.cells = #[v4])(h5:v5.cells = #[v5]) :
  (Instr.buildSlice 166 6 #[(0,v0),(1,v1),(2,v2),(3,v3),(4,v4),(5,v5)]).run Tryz.prog w = .ok (.slice (some ⟨w.heap.size,0,none⟩) 6 6) (w.alloc (.cells #[v0,v1,v2,v3,v4,v5] 108)):=by
 obtain⟨ie,hi,hs,hz⟩:=errInfo
 refine run_buildSlice w _ 108 6 _ _ ie .nilIface Tryz.underlying166 hi hz (by rw[hs]; decide) (by rw[hs]; decide) ?_
 rw[hs]
 have ez:((Array.range (6*1)).map (Value.nilIface.cells[· % Value.nilIface.cells.size]!)) = #[.nilIface,.nilIface,.nilIface,.nilIface,.nilIface,.nilIface]:=by kernel_rfl
 rw[ez]
 simp[Instr.fill,h0,h1,h2,h3,h4,h5]
theorem newErrs6{Q:Exit→Act→World→Prop}{ops:Array Oper}{w0:World}{a:Act}{w:World}{os:List Oper}{N:Nat}{l:List (Nat×Value)}{bl:List (Nat×List Value)}{vs:List Sx.Mem1}(S:Sx.St w0 a w N l bl vs)(d:Nat)(v0 v1 v2 v3 v4 v5:Value){t0 t1 t2 t3 t4 t5:Nat}{o:Oper}{os':List Oper} 
  (hos:os=o::os') (hg:o.guard=none) (hd:o.dst=some d) (hop:o.op = .buildSlice 166 6 #[(0,.tmp t0),(1,.tmp t1),(2,.tmp t2),(3,.tmp t3),(4,.tmp t4),(5,.tmp t5)]) (c0:v0.cells = #[v0]) (c1:v1.cells = #[v1]) (c2:v2.cells = #[v2]) (c3:v3.cells = #[v3]) (c4:v4.cells = #[v4]) (c5:v5.cells = #[v5])
  (next:∀a' w' b,Ext w w'→b=w.heap.size→Sx.St w0 a' w' N ((d,.slice (some ⟨b,0,none⟩) 6 6)::l) ((b,[v0,v1,v2,v3,v4,v5])::bl) vs→wpList Tryz.prog ops Q (os.drop 1) a' w')
  (l0:l.lookup t0=some v0:=by kernel_rfl) (l1:l.lookup t1=some v1:=by kernel_rfl) (l2:l.lookup t2=some v2:=by kernel_rfl) (l3:l.lookup t3=some v3:=by kernel_rfl) (l4:l.lookup t4=some v4:=by kernel_rfl) (l5:l.lookup t5=some v5:=by kernel_rfl) (hdn:Sx.dOk N (some d)=true:=by rfl):wpList Tryz.prog ops Q os a w:=
 Sx.newRun S d [v0,v1,v2,v3,v4,v5] 108 (fun b => .slice (some ⟨b,0,none⟩) 6 6) hos hg hd (run_rowop hop (by simp[S.s.has _ _ l0,S.s.has _ _ l1,S.s.has _ _ l2,S.s.has _ _ l3,S.s.has _ _ l4,S.s.has _ _ l5]) (run_errs6 v0 v1 v2 v3 v4 v5 w c0 c1 c2 c3 c4 c5)) next hdn
theorem run_errs2(v0 v1:Value)(w:World)(h0:v0.cells = #[v0])(h1:v1.cells = #[v1]) :
  (Instr.buildSlice 166 2 #[(0,v0),(1,v1)]).run Tryz.prog w = .ok (.slice (some ⟨w.heap.size,0,none⟩) 2 2) (w.alloc (.cells #[v0,v1] 108)):=by
 obtain⟨ie,hi,hs,hz⟩:=errInfo
 refine run_buildSlice w _ 108 2 _ _ ie .nilIface Tryz.underlying166 hi hz (by rw[hs]; decide) (by rw[hs]; decide) ?_
 rw[hs]
 have ez:((Array.range (2*1)).map (Value.nilIface.cells[· % Value.nilIface.cells.size]!)) = #[.nilIface,.nilIface]:=by kernel_rfl
 rw[ez]
 simp[Instr.fill,h0,h1]
theorem newErrs2{Q:Exit→Act→World→Prop}{ops:Array Oper}{w0:World}{a:Act}{w:World}{os:List Oper}{N:Nat}{l:List (Nat×Value)}{bl:List (Nat×List Value)}{vs:List Sx.Mem1}(S:Sx.St w0 a w N l bl vs)(d:Nat)(v0 v1:Value){t0 t1:Nat}{o:Oper}{os':List Oper} 
  (hos:os=o::os') (hg:o.guard=none) (hd:o.dst=some d) (hop:o.op = .buildSlice 166 2 #[(0,.tmp t0),(1,.tmp t1)]) (c0:v0.cells = #[v0]) (c1:v1.cells = #[v1])
  (next:∀a' w' b,Ext w w'→b=w.heap.size→Sx.St w0 a' w' N ((d,.slice (some ⟨b,0,none⟩) 2 2)::l) ((b,[v0,v1])::bl) vs→wpList Tryz.prog ops Q (os.drop 1) a' w')
  (l0:l.lookup t0=some v0:=by kernel_rfl) (l1:l.lookup t1=some v1:=by kernel_rfl) (hdn:Sx.dOk N (some d)=true:=by rfl):wpList Tryz.prog ops Q os a w:=
 Sx.newRun S d [v0,v1] 108 (fun b => .slice (some ⟨b,0,none⟩) 2 2) hos hg hd (run_rowop hop (by simp[S.s.has _ _ l0,S.s.has _ _ l1]) (run_errs2 v0 v1 w c0 c1)) next hdn
theorem paintIndex_any{w:World}{v:Value}{l:List PaintD}(h:PaintsOk K w v l) :
  Calls Tryz.prog 226 #[v,.func (.func 198) #[] #[]] w fun e w'=>∃z,e = .returned (.int .i64 z)∧decide (0≤z) = !(l.all PaintD.valid)∧Ext w w':=by
 obtain⟨a,cap,rfl⟩:=h.1.1.shape
 have hmax:l.length≤9223372036854775807:=h.1.1.len
 refine Sx.enter Tryz.func226 Tryz.ntmps226 fun ac S=>Sx.seqP fun _ κ1=>Sx.run S 1 [] [(4,.int .i64 0)] fun ac S=>Sx.done<|κ1 _ _<|wp_seq_k fun _ κ2=>Sx.seqP fun _ κ3=>Sx.run S 3 [] [(7,.int .i64 ((l.length:Nat):Int)),(8,.int .i64 0)] fun ac S=>Sx.done<|κ3 _ _<|wp_block ?_
 refine Vp.loop (ι:=Nat) (fun p a' w'=>p≤l.length∧((l.take p).all PaintD.valid=true)∧Sx.St w a' w' 19 [(0,.slice a l.length cap),(1,.func (.func 198) #[] #[]),(4,.int .i64 0),(7,.int .i64 ((l.length:Nat):Int)),(8,.int .i64 ((p:Nat):Int))] [] []) (fun p=>l.length-p) (0) ⟨Nat.zero_le _,rfl,(S.sub [(0,.slice a l.length cap),(1,.func (.func 198) #[] #[]),(4,.int .i64 0),(7,.int .i64 ((l.length:Nat):Int)),(8,.int .i64 ((0:Nat):Int))]).noviews⟩ ?_
 rintro k ac u hI
 try dsimp only at hI
 obtain⟨hk,hR,S⟩:=hI
 refine Sx.seqP fun _ κ4=>Sx.run S 1 [] [(9,.bool (decide (((k:Nat):Int)<((l.length:Nat):Int))))] fun ac S=>Sx.done<|κ4 _ _<|wp_seq_k (fun _ κ5=>?_)
 refine Sx.cond S (fun hc6=>?_) (fun hc6=>?_)
 ·refine wp_skip<|κ5 _ _<|wp_seq_k fun _ κ7=>wp_block<|Sx.seqP fun _ κ8=>Sx.run S 2 [] [(5,.int .i64 ((k:Nat):Int))] fun ac S=>Sx.done<|κ8 _ _<|Sx.seqP (fun _ κ9=>?_)
  have lt15:k<l.length:=by have:=of_decide_eq_true hc6; omega
  obtain⟨b10,o11,c12,hv,hb17,hr13⟩:=Vp.rowN_range2 h.1.1 (fun _=>rfl) (k) lt15
  simp only[Value.slice.injEq,true_and]at hv
  obtain⟨rfl,rfl⟩:=hv
  obtain⟨x16,hx14⟩:∃z,l[k]=z:=⟨_,rfl⟩
  rw[hx14]at hr13
  have S:=S.view0 hb17 hr13
  refine Sx.run S 5 [.idx k l.length,.mem 0 0] [(11,.func (.func 198) #[] #[]),(15,x16.v)] (hk:=⟨lt15,trivial⟩) fun ac S=>Sx.callv S 16 (may1_any ((h.1.2 _ (hx14▸List.getElem_mem lt15)).below S.E) (h.2.1 _ (hx14▸List.getElem_mem lt15)) h.2.2.1 h.2.2.2) fun ac u E18 S=>Sx.done (κ9 _ _ ?_)
  refine Sx.cond S (fun hc19=>?_) (fun hc19=>?_)
  ·refine Sx.seqP fun _ κ20=>Sx.run S 2 [] [(4,.int .i64 ((k:Nat):Int))] fun ac S=>Sx.done<|κ20 _ _<|Vp.rt ?_
   refine Sx.ret1 S Tryz.results226 ?_
   exact⟨_,rfl,by rw[not_all lt15 (by rw[hx14]; simpa using hc19)]; simp,S.E⟩
  ·refine wp_skip<|κ7 _ _<|Vp.region<|Sx.run S 2 [.re 18 (.int .i64 (IntKind.i64.wrap (((k:Nat):Int)+1))) (.int .i64 (((k+1):Nat):Int))] [(8,.int .i64 (((k+1):Nat):Int))] (hk:=⟨Sx.wrap_succ (by omega),trivial⟩) fun ac S=>Sx.done ?_
   show ∃i',_∧_
   exact⟨(k+1),⟨by omega,(all_take_succ lt15 hR (by rw[hx14]; simpa using hc19)),(S.sub [(0,.slice (some ⟨b10,o11,none⟩) l.length cap),(1,.func (.func 198) #[] #[]),(4,.int .i64 0),(7,.int .i64 ((l.length:Nat):Int)),(8,.int .i64 (((k+1):Nat):Int))]).noviews⟩,by show _-_<_-_; omega⟩
 ·refine wp_exit<|κ2 _ _<|Sx.seqP fun _ κ21=>Sx.run S 1 [] [(4,.int .i64 (-1))] fun ac S=>Sx.done<|κ21 _ _<|Vp.rt ?_
  refine Sx.ret1 S Tryz.results226 ?_
  exact⟨_,rfl,by rw[all_of_take (by have:=of_decide_eq_false hc6; omega) hR]; rfl,S.E⟩
theorem paintSome_any{w:World}{v:Value}{l:List PaintD}(h:PaintsOk K w v l) :
  Calls Tryz.prog 197 #[v,.func (.func 198) #[] #[]] w fun e w'=>e = .returned (.bool (!(l.all PaintD.valid)))∧Ext w w':=by
 skip
 refine Sx.enter Tryz.func197 Tryz.ntmps197 fun ac S=>Sx.seqP fun _ κ1=>Sx.run S 1 [] [(4,.bool false)] fun ac S=>Sx.done<|κ1 _ _<|Sx.seqP fun _ κ2=>Sx.run S 2 [] [(5,v),(6,.func (.func 198) #[] #[])] fun ac S=>Sx.callG S (some 7) (paintIndex_any (h.below S.E)) ?_
 rintro e u ⟨z,rfl,hz,E3⟩
 refine⟨_,rfl,E3,fun ac S=>?_⟩
 refine Sx.run S 2 [] [(4,.bool (decide (0≤z)))] fun ac S=>Sx.done<|κ2 _ _<|Vp.rt ?_
 refine Sx.ret1 S Tryz.results197 ?_
 exact⟨ret_bool hz,S.E⟩
theorem may_any{w:World}{v:Value}{l:List PaintD}(h:PaintsOk K w v l) :
  Calls Tryz.prog 156 #[v] w fun e w'=>e = .returned (.bool (l.all PaintD.valid))∧Ext w w':=by
 skip
 refine Sx.enter Tryz.func156 Tryz.ntmps156 fun ac S=>Sx.seqP fun _ κ1=>Sx.run S 1 [] [(2,.bool false)] fun ac S=>Sx.done<|κ1 _ _<|Sx.seqP fun _ κ2=>Sx.run S 1 [] [(3,v)] fun ac S=>Sx.callv S 4 (paintSome_any (h.below S.E)) fun ac u E3 S=>Sx.run S 2 [] [(2,.bool (!(!(l.all PaintD.valid))))] fun ac S=>Sx.done<|κ2 _ _<|Vp.rt ?_
 refine Sx.ret1 S Tryz.results156 ?_
 exact⟨ret_bool (by simp),S.E⟩
end Go.Proofs.YtfmkkemfhjkajaaGreatDoor
