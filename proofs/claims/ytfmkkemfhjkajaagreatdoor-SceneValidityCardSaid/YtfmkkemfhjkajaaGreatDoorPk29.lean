/- Reference 36: Check. Equality of nodes: package node. -/
import Derived.Test.YtfmkkemfhjkajaaGreatDoorPk28
set_option linter.unusedVariables false
namespace Go.Proofs.YtfmkkemfhjkajaaGreatDoor
section
set_option maxHeartbeats 3200000
set_option maxRecDepth 100000
open Go.RowKit
variable{α:Type}{K:Nat}
theorem Jd:vY aV.none.q:=(aV.toQ (w:=default) (aV.gK _) (aV.iI 1)).nrm
theorem yP{w:World}{v:Value}{l:List ak}(h:iV w v l)(hf:∀p∈l,p.t.fit K)(hK1:1≤K)(hK:K≤10000) :
  Calls Tryz.prog 177 #[v] w fun e w'=>e = .returned (.bool (l.all ak.valid))∧Ext w w':=by
 obtain⟨a,cap,rfl⟩:=h.1.shape
 have hmax:l.length≤9223372036854775807:=h.1.len
 refine aiK Tryz.func177 Tryz.ntmps177 fun ac S=>aiG fun _ aU=>adr S 1 [] [(2,.bool false)] fun ac S=>aiF<|aU _ _<|wp_seq_k fun _ fE=>aiG fun _ gW=>adr S 1 [] [(3,.int .i64 0)] fun ac S=>aiF<|gW _ _<|wp_block ?_
 refine Vp.loop (ι:=Nat) (fun p a' w'=>p≤l.length∧((l.take p).all ak.valid=true)∧Sx.St w a' w' 16 [(0,.slice a l.length cap),(2,.bool false),(3,.int .i64 ((p:Nat):Int))] [] []) (fun p=>l.length-p) (0) ⟨Nat.zero_le _,rfl,(S.sub [(0,.slice a l.length cap),(2,.bool false),(3,.int .i64 ((0:Nat):Int))]).aK⟩ ?_
 rintro k ac u hI
 try dsimp only at hI
 obtain⟨hk,hR,S⟩:=hI
 refine wp_seq_k fun _ lG=>aiG fun _ bV=>adr S 4 [] [(7,.bool (decide (((k:Nat):Int)<((l.length:Nat):Int))))] fun ac S=>aiF (bV _ _ ?_)
 refine aiI S (fun hc6=>?_) (fun hc6=>?_)
 ·refine wp_skip<|lG _ _<|wp_seq_k fun _ kC=>wp_block<|aiG (fun _ dP=>?_)
  have tN:k<l.length:=by have:=of_decide_eq_true hc6; omega
  obtain⟨b9,o10,c11,hv,hb16,EO⟩:=Vp.aF h.1 (fun _=>rfl) (k) tN
  simp only[Value.slice.injEq,true_and]at hv
  obtain⟨rfl,rfl⟩:=hv
  obtain⟨x15,wJ⟩:∃z,l[k]=z:=⟨_,rfl⟩
  rw[wJ]at EO
  have hpo:=h.2 _ (wJ▸List.getElem_mem tN)
  have hpq:=aV.toQ hpo.2.2.2.2.2.2.2.2.2 (hf _ (wJ▸List.getElem_mem tN))
  have S:=S.view0 hb16 EO
  refine adr S 4 [.idx k l.length,.mem 0 0] [(13,x15.v)] (hk:=⟨tN,trivial⟩) fun ac S=>aiM S 14 (Kv (p:=x15) (K:=K) (hpo.below S.E) (hpq.eU S.E) hK1 hK) fun ac u LZ S=>adr S 1 [] [(15,.bool (!x15.sV))] fun ac S=>aiF (dP _ _ ?_)
  refine aiI S (fun hc18=>?_) (fun hc18=>?_)
  ·refine aiG fun _ jf=>adr S 1 [] [(2,.bool false)] fun ac S=>aiF<|jf _ _<|Vp.rt ?_
   refine aiH S Tryz.results177 ?_
   exact⟨aB (vg tN (by rw[wJ,←FQ hpq.nrm Jd]; simpa using hc18)).symm,S.E⟩
  ·refine wp_skip<|kC _ _<|Vp.region<|adr S 3 [.re 9 (.int .i64 (IntKind.i64.wrap (((k:Nat):Int)+1))) (.int .i64 (((k+1):Nat):Int))] [(3,.int .i64 (((k+1):Nat):Int))] (hk:=⟨aiR (by omega),trivial⟩) fun ac S=>aiF ?_
   show ∃i',_∧_
   exact⟨(k+1),⟨by omega,(jR tN hR (by rw[wJ,←FQ hpq.nrm Jd]; simpa using hc18)),(S.sub [(0,.slice (some ⟨b9,o10,none⟩) l.length cap),(2,.bool false),(3,.int .i64 (((k+1):Nat):Int))]).aK⟩,by show _-_<_-_; omega⟩
 ·refine wp_exit<|fE _ _<|aiG fun _ iU=>adr S 1 [] [(2,.bool true)] fun ac S=>aiF<|iU _ _<|Vp.rt ?_
  refine aiH S Tryz.results177 ?_
  exact⟨aB (mP (by have:=of_decide_eq_false hc6; omega) hR).symm,S.E⟩
def aj.lV(nd:aj):Int:=cond (!(iW nd.path)) (10) (cond (!((nd.aY==1)||(nd.aY==2))) (2) (cond ((decide (1<((nd.fill.length:Nat):Int)))||(decide (1<((nd.stroke.length:Nat):Int)))) (5) (cond ((decide (0<((nd.stroke.length:Nat):Int)))&&(!nd.style.valid)) (13) (cond (((((nd.stroke.length:Nat):Int))==0)&&(!nd.lC)) (17) (cond ((!(nd.fill.all ak.valid))||(!(nd.stroke.all ak.valid))) (16) (0))))))
theorem Ky{w:World}{nd:aj}(h:fJ K w nd) :
  Calls Tryz.prog 132 #[nd.v] w fun e w'=>e = .returned (.int .i64 nd.lV)∧Ext w w':=by
 skip
 refine aiK Tryz.func132 Tryz.ntmps132 fun ac S=>aiG fun _ aU=>aiJ S 1 nd.cells fun ac u b2 E3 hb4 S=>adr S 1 [] [(2,.int .i64 0)] fun ac S=>aiF<|aU _ _<|wp_seq_k fun _ bV=>wp_block<|aiG fun _ iK=>adr S 2 [.mem 0 33] [(5,nd.ps)] fun ac S=>aiM S 6 (AL (l:=nd.path) (h.1.2.2.2.2.2.2.2.1.below S.E)) fun ac u E7 S=>adr S 2 [] [(3,.bool (!(iW nd.path)))] fun ac S=>aiF (iK _ _ ?_)
 refine aiI S (fun hc8=>?_) (fun hc8=>?_)
 ·refine aiG fun _ gB=>adr S 1 [] [(2,.int .i64 10)] fun ac S=>aiF<|gB _ _<|Vp.rt ?_
  have p0:=hc8
  refine aiH S Tryz.results132 ?_
  exact⟨congrArg (fun z:Int=>Ending.returned (.int .i64 z)) (by unfold aj.lV; simp only[p0,cond_true]),S.E⟩
 ·refine aiG fun _ dV=>adr S 2 [.mem 0 34] [(10,.int .i64 nd.aY)] fun ac S=>ai1 S 11 (Dc nd.aY _) fun ac S=>adr S 2 [] [(8,.bool (!((nd.aY==1)||(nd.aY==2))))] fun ac S=>aiF (dV _ _ ?_)
  refine aiI S (fun gu=>?_) (fun gu=>?_)
  ·refine aiG fun _ dw=>adr S 1 [] [(2,.int .i64 2)] fun ac S=>aiF<|dw _ _<|Vp.rt ?_
   have p0:=hc8
   have p1:=gu
   refine aiH S Tryz.results132 ?_
   exact⟨congrArg (fun z:Int=>Ending.returned (.int .i64 z)) (by unfold aj.lV; simp only[p0,p1,cond_true,cond_false]),S.E⟩
  ·refine aiG fun _ fZ=>adr S 11 [.mem 0 35,.mem 0 42] [(13,.bool ((decide (1<((nd.fill.length:Nat):Int)))||(decide (1<((nd.stroke.length:Nat):Int)))))] fun ac S=>aiF (fZ _ _ ?_)
   refine aiI S (fun nZ=>?_) (fun nZ=>?_)
   ·refine aiG fun _ fH=>adr S 1 [] [(2,.int .i64 5)] fun ac S=>aiF<|fH _ _<|Vp.rt ?_
    have p0:=hc8
    have p1:=gu
    have p2:=nZ
    refine aiH S Tryz.results132 ?_
    exact⟨congrArg (fun z:Int=>Ending.returned (.int .i64 z)) (by unfold aj.lV; simp only[p0,p1,p2,cond_true,cond_false]),S.E⟩
   ·refine aiG fun _ iR=>aiT S 11 [.mem 0 42,.mem 0 36] [(_,_,(decide (0<((nd.stroke.length:Nat):Int))),.bool nd.style.valid)] [(24,.bool ((decide (0<((nd.stroke.length:Nat):Int)))&&(!nd.style.valid)))] ⟨fun u hC g=>Kz (p:=nd.style) (h.1.2.2.2.2.2.2.2.2.2.2.1.below (Ext.trans' S.E hC)),trivial⟩ fun ac u LZ S=>aiF (iR _ _ ?_)
    refine aiI S (fun hc18=>?_) (fun hc18=>?_)
    ·refine aiG fun _ jf=>adr S 1 [] [(2,.int .i64 13)] fun ac S=>aiF<|jf _ _<|Vp.rt ?_
     have p0:=hc8
     have p1:=gu
     have p2:=nZ
     have p3:=hc18
     refine aiH S Tryz.results132 ?_
     exact⟨congrArg (fun z:Int=>Ending.returned (.int .i64 z)) (by unfold aj.lV; simp only[p0,p1,p2,p3,cond_true,cond_false]),S.E⟩
    ·refine aiG fun _ iU=>aiT S 10 [.mem 0 42,.mem 0 0] [(_,_,((((nd.stroke.length:Nat):Int))==0),.bool nd.lC)] [(35,.bool (((((nd.stroke.length:Nat):Int))==0)&&(!nd.lC)))] ⟨fun u hC g=>rO (h.1.below (Ext.trans' S.E hC)),trivial⟩ fun ac u LD S=>aiF (iU _ _ ?_)
     refine aiI S (fun hc22=>?_) (fun hc22=>?_)
     ·refine aiG fun _ oJ=>adr S 1 [] [(2,.int .i64 17)] fun ac S=>aiF<|oJ _ _<|Vp.rt ?_
      have p0:=hc8
      have p1:=gu
      have p2:=nZ
      have p3:=hc18
      have p4:=hc22
      refine aiH S Tryz.results132 ?_
      exact⟨congrArg (fun z:Int=>Ending.returned (.int .i64 z)) (by unfold aj.lV; simp only[p0,p1,p2,p3,p4,cond_true,cond_false]),S.E⟩
     ·refine aiG fun _ kK=>adr S 2 [.mem 0 35] [(47,nd.fs)] fun ac S=>aiM S 48 (yP (l:=nd.fill) (K:=K) (h.1.2.2.2.2.2.2.2.2.2.1.below S.E) h.2.2.1 h.2.2.2.2.1 h.2.2.2.2.2) fun ac u E25 S=>aiT S 8 [.mem 0 42] [(_,_,(!(!(nd.fill.all ak.valid))),.bool (nd.stroke.all ak.valid))] [(45,.bool ((!(nd.fill.all ak.valid))||(!(nd.stroke.all ak.valid))))] ⟨fun u hC g=>yP (l:=nd.stroke) (K:=K) (h.1.2.2.2.2.2.2.2.2.2.2.2.1.below (Ext.trans' S.E hC)) h.2.2.2.1 h.2.2.2.2.1 h.2.2.2.2.2,trivial⟩ fun ac u E26 S=>aiF (kK _ _ ?_)
      refine aiI S (fun hc27=>?_) (fun hc27=>?_)
      ·refine aiG fun _ lK=>adr S 1 [] [(2,.int .i64 16)] fun ac S=>aiF<|lK _ _<|Vp.rt ?_
       have p0:=hc8
       have p1:=gu
       have p2:=nZ
       have p3:=hc18
       have p4:=hc22
       have p5:=hc27
       refine aiH S Tryz.results132 ?_
       exact⟨congrArg (fun z:Int=>Ending.returned (.int .i64 z)) (by unfold aj.lV; simp only[p0,p1,p2,p3,p4,p5,cond_true,cond_false]),S.E⟩
      ·refine wp_skip<|bV _ _<|aiG fun _ qm=>adr S 1 [] [(2,.int .i64 0)] fun ac S=>aiF<|qm _ _<|Vp.rt ?_
       have p0:=hc8
       have p1:=gu
       have p2:=nZ
       have p3:=hc18
       have p4:=hc22
       have p5:=hc27
       refine aiH S Tryz.results132 ?_
       exact⟨congrArg (fun z:Int=>Ending.returned (.int .i64 z)) (by unfold aj.lV; simp only[p0,p1,p2,p3,p4,p5,cond_false]),S.E⟩
def aj.jL(nd:aj):Int:=cond ((decide (nd.kind<1))||(decide (3<nd.kind))) (2) (cond ((((decide (nd.id<1))||(decide (1073741824<nd.id)))||(decide (nd.depth<0)))||(decide (8≤nd.depth))) (6) (cond (!nd.t.q.valid) (5) (cond (((kJ nd.t.q.vU q0))==0) (9) (cond (!(iW nd.clip)) (10) (cond (!nd.qF) (17) (cond ((nd.kind)==2) (nd.lV) (cond ((nd.kind)==1) (cond (!(decide (1≤nd.blend)&&decide (nd.blend≤13))) (2) (0)) (cond (!nd.img.valid) (16) (cond (((nd.cZ) != 1)&&((nd.cZ) != 2)) (2) (0))))))))))
theorem KA{w:World}{nd:aj}(h:fJ K w nd) :
  Calls Tryz.prog 90 #[nd.v] w fun e w'=>e = .returned (.int .i64 nd.jL)∧Ext w w':=by
 skip
 refine aiK Tryz.func90 Tryz.ntmps90 fun ac S=>aiG fun _ aU=>aiJ S 1 nd.cells fun ac u b2 E3 hb4 S=>adr S 1 [] [(2,.int .i64 0)] fun ac S=>aiF<|aU _ _<|wp_seq_k fun _ bV=>wp_block<|aiG fun _ iK=>adr S 9 [.mem 0 1,.mem 0 1] [(3,.bool ((decide (nd.kind<1))||(decide (3<nd.kind))))] fun ac S=>aiF (iK _ _ ?_)
 refine aiI S (fun kV=>?_) (fun kV=>?_)
 ·refine aiG fun _ dP=>adr S 1 [] [(2,.int .i64 2)] fun ac S=>aiF<|dP _ _<|Vp.rt ?_
  have p0:=kV
  refine aiH S Tryz.results90 ?_
  exact⟨congrArg (fun z:Int=>Ending.returned (.int .i64 z)) (by unfold aj.jL; simp only[p0,cond_true]),S.E⟩
 ·refine aiG fun _ gB=>adr S 19 [.mem 0 0,.mem 0 0,.mem 0 2,.mem 0 2] [(12,.bool ((((decide (nd.id<1))||(decide (1073741824<nd.id)))||(decide (nd.depth<0)))||(decide (8≤nd.depth))))] fun ac S=>aiF (gB _ _ ?_)
  refine aiI S (fun bY=>?_) (fun bY=>?_)
  ·refine aiG fun _ dB=>adr S 1 [] [(2,.int .i64 6)] fun ac S=>aiF<|dB _ _<|Vp.rt ?_
   have p0:=kV
   have p1:=bY
   refine aiH S Tryz.results90 ?_
   exact⟨congrArg (fun z:Int=>Ending.returned (.int .i64 z)) (by unfold aj.jL; simp only[p0,p1,cond_true,cond_false]),S.E⟩
  ·refine aiG fun _ dw=>adr S 2 [.mem 0 3] [(33,nd.t.v)] fun ac S=>aiM S 34 (yO nd.t.v nd.t.q K _ ((aV.toQ h.1.2.2.2.1 h.2.1).eU S.E) h.2.2.2.2.1 (by have:=h.2.2.2.2.2; omega)) fun ac u H7 S=>adr S 2 [] [(31,.bool (!nd.t.q.valid))] fun ac S=>aiF (dw _ _ ?_)
   refine aiI S (fun nZ=>?_) (fun nZ=>?_)
   ·refine aiG fun _ fH=>adr S 1 [] [(2,.int .i64 5)] fun ac S=>aiF<|fH _ _<|Vp.rt ?_
    have p0:=kV
    have p1:=bY
    have p2:=nZ
    refine aiH S Tryz.results90 ?_
    exact⟨congrArg (fun z:Int=>Ending.returned (.int .i64 z)) (by unfold aj.jL; simp only[p0,p1,p2,cond_true,cond_false]),S.E⟩
   ·refine aiG fun _ iR=>adr S 2 [.mem 0 3] [(38,nd.t.v)] fun ac S=>aiQ S (some 39) (Oh nd.t.v nd.t.q K _ ((aV.toQ h.1.2.2.2.1 h.2.1).eU S.E) h.2.2.2.2.1 h.2.2.2.2.2) ?_
    rintro e u ⟨x,rfl,hd,LZ⟩
    refine⟨_,rfl,LZ,fun ac S=>?_⟩
    refine aiQ S (some 40) (nY 0 _ (by decide)) ?_
    rintro e u ⟨z,rfl,hz,JD⟩
    refine⟨_,rfl,JD,fun ac S=>?_⟩
    refine aiM S 41 (Og _ _ nd.t.q.vU q0 (K+K+(K+K)+1) 1 _ (aA.toQ (hd.ext JD) (xQ _) (xR h.2.2.2.2.1 (VO.VP (aV.toQ h.1.2.2.2.1 h.2.1) h.2.2.2.2.1))) (aA.toQ (q:=q0) hz QS QT) (by have:=h.2.2.2.2.1; omega) (by omega) (by have:=h.2.2.2.2.2; omega) (by omega)) fun ac u Xm S=>adr S 2 [] [(36,.bool (((kJ nd.t.q.vU q0))==0))] fun ac S=>aiF (iR _ _ ?_)
    refine aiI S (fun rY=>?_) (fun rY=>?_)
    ·refine aiG fun _ jo=>adr S 1 [] [(2,.int .i64 9)] fun ac S=>aiF<|jo _ _<|Vp.rt ?_
     have p0:=kV
     have p1:=bY
     have p2:=nZ
     have p3:=rY
     refine aiH S Tryz.results90 ?_
     exact⟨congrArg (fun z:Int=>Ending.returned (.int .i64 z)) (by unfold aj.jL; simp only[p0,p1,p2,p3,cond_true,cond_false]),S.E⟩
    ·refine aiG fun _ jM=>adr S 2 [.mem 0 27] [(45,nd.cs)] fun ac S=>aiM S 46 (AL (l:=nd.clip) (h.1.2.2.2.2.1.below S.E)) fun ac u JA S=>adr S 2 [] [(43,.bool (!(iW nd.clip)))] fun ac S=>aiF (jM _ _ ?_)
     refine aiI S (fun hc24=>?_) (fun hc24=>?_)
     ·refine aiG fun _ wB=>adr S 1 [] [(2,.int .i64 10)] fun ac S=>aiF<|wB _ _<|Vp.rt ?_
      have p0:=kV
      have p1:=bY
      have p2:=nZ
      have p3:=rY
      have p4:=hc24
      refine aiH S Tryz.results90 ?_
      exact⟨congrArg (fun z:Int=>Ending.returned (.int .i64 z)) (by unfold aj.jL; simp only[p0,p1,p2,p3,p4,cond_true,cond_false]),S.E⟩
     ·refine aiG fun _ kH=>adr S 1 [.mem 0 0] [(49,nd.v)] fun ac S=>aiM S 50 (Rk (h.1.below S.E)) fun ac u E27 S=>adr S 2 [] [(48,.bool (!nd.qF))] fun ac S=>aiF (kH _ _ ?_)
      refine aiI S (fun hc28=>?_) (fun hc28=>?_)
      ·refine aiG fun _ qm=>adr S 1 [] [(2,.int .i64 17)] fun ac S=>aiF<|qm _ _<|Vp.rt ?_
       have p0:=kV
       have p1:=bY
       have p2:=nZ
       have p3:=rY
       have p4:=hc24
       have p5:=hc28
       refine aiH S Tryz.results90 ?_
       exact⟨congrArg (fun z:Int=>Ending.returned (.int .i64 z)) (by unfold aj.jL; simp only[p0,p1,p2,p3,p4,p5,cond_true,cond_false]),S.E⟩
      ·refine wp_skip<|bV _ _<|wp_seq_k fun _ nI=>aiG fun _ qg=>adr S 3 [.mem 0 1] [(54,.bool ((nd.kind)==2))] fun ac S=>aiF (qg _ _ ?_)
       refine aiI S (fun hc32=>?_) (fun hc32=>?_)
       ·refine aiG fun _ lW=>adr S 1 [.mem 0 0] [(55,nd.v)] fun ac S=>aiM S 56 (Ky (h.below S.E)) fun ac u Xh S=>adr S 1 [] [(2,.int .i64 nd.lV)] fun ac S=>aiF<|lW _ _<|Vp.rt ?_
        have p0:=kV
        have p1:=bY
        have p2:=nZ
        have p3:=rY
        have p4:=hc24
        have p5:=hc28
        have p6:=hc32
        refine aiH S Tryz.results90 ?_
        exact⟨congrArg (fun z:Int=>Ending.returned (.int .i64 z)) (by unfold aj.jL; simp only[p0,p1,p2,p3,p4,p5,p6,cond_true,cond_false]),S.E⟩
       ·refine wp_skip<|nI _ _<|wp_seq_k fun _ oK=>aiG fun _ nJ=>adr S 3 [.mem 0 1] [(59,.bool ((nd.kind)==1))] fun ac S=>aiF (nJ _ _ ?_)
        refine aiI S (fun l9=>?_) (fun l9=>?_)
        ·refine wp_seq_k fun _ jG=>aiG fun _ ug=>adr S 2 [.mem 0 30] [(61,.int .i64 nd.blend)] fun ac S=>ai1 S 62 (Om nd.blend _) fun ac S=>adr S 1 [] [(63,.bool (!(decide (1≤nd.blend)&&decide (nd.blend≤13))))] fun ac S=>aiF (ug _ _ ?_)
         refine aiI S (fun uI=>?_) (fun uI=>?_)
         ·refine aiG fun _ qW=>adr S 1 [] [(2,.int .i64 2)] fun ac S=>aiF<|qW _ _<|Vp.rt ?_
          have p0:=kV
          have p1:=bY
          have p2:=nZ
          have p3:=rY
          have p4:=hc24
          have p5:=hc28
          have p6:=hc32
          have p7:=l9
          have p8:=uI
          refine aiH S Tryz.results90 ?_
          exact⟨congrArg (fun z:Int=>Ending.returned (.int .i64 z)) (by unfold aj.jL; simp only[p0,p1,p2,p3,p4,p5,p6,p7,p8,cond_true,cond_false]),S.E⟩
         ·refine wp_skip<|jG _ _<|aiG fun _ qX=>adr S 1 [] [(2,.int .i64 0)] fun ac S=>aiF<|qX _ _<|Vp.rt ?_
          have p0:=kV
          have p1:=bY
          have p2:=nZ
          have p3:=rY
          have p4:=hc24
          have p5:=hc28
          have p6:=hc32
          have p7:=l9
          have p8:=uI
          refine aiH S Tryz.results90 ?_
          exact⟨congrArg (fun z:Int=>Ending.returned (.int .i64 z)) (by unfold aj.jL; simp only[p0,p1,p2,p3,p4,p5,p6,p7,p8,cond_true,cond_false]),S.E⟩
        ·refine wp_skip<|oK _ _<|wp_seq_k fun _ tH=>aiG fun _ wE=>adr S 2 [.mem 0 43] [(65,nd.img.v)] fun ac S=>aiM S 66 (AB (m:=nd.img) (h.1.2.2.2.2.2.2.2.2.2.2.2.2.1.below S.E)) fun ac u E45 S=>adr S 1 [] [(67,.bool (!nd.img.valid))] fun ac S=>aiF (wE _ _ ?_)
         refine aiI S (fun DJ=>?_) (fun DJ=>?_)
         ·refine aiG fun _ zV=>adr S 1 [] [(2,.int .i64 16)] fun ac S=>aiF<|zV _ _<|Vp.rt ?_
          have p0:=kV
          have p1:=bY
          have p2:=nZ
          have p3:=rY
          have p4:=hc24
          have p5:=hc28
          have p6:=hc32
          have p7:=l9
          have p8:=DJ
          refine aiH S Tryz.results90 ?_
          exact⟨congrArg (fun z:Int=>Ending.returned (.int .i64 z)) (by unfold aj.jL; simp only[p0,p1,p2,p3,p4,p5,p6,p7,p8,cond_true,cond_false]),S.E⟩
         ·refine wp_skip<|tH _ _<|wp_seq_k fun _ yx=>aiG fun _ yA=>adr S 8 [.mem 0 46,.mem 0 46] [(75,.bool (((nd.cZ) != 1)&&((nd.cZ) != 2)))] fun ac S=>aiF (yA _ _ ?_)
          refine aiI S (fun adA=>?_) (fun adA=>?_)
          ·refine aiG fun _ JJ=>adr S 1 [] [(2,.int .i64 2)] fun ac S=>aiF<|JJ _ _<|Vp.rt ?_
           have p0:=kV
           have p1:=bY
           have p2:=nZ
           have p3:=rY
           have p4:=hc24
           have p5:=hc28
           have p6:=hc32
           have p7:=l9
           have p8:=DJ
           have p9:=adA
           refine aiH S Tryz.results90 ?_
           exact⟨congrArg (fun z:Int=>Ending.returned (.int .i64 z)) (by unfold aj.jL; simp only[p0,p1,p2,p3,p4,p5,p6,p7,p8,p9,cond_true,cond_false]),S.E⟩
          ·refine wp_skip<|yx _ _<|aiG fun _ U3=>adr S 1 [] [(2,.int .i64 0)] fun ac S=>aiF<|U3 _ _<|Vp.rt ?_
           have p0:=kV
           have p1:=bY
           have p2:=nZ
           have p3:=rY
           have p4:=hc24
           have p5:=hc28
           have p6:=hc32
           have p7:=l9
           have p8:=DJ
           have p9:=adA
           refine aiH S Tryz.results90 ?_
           exact⟨congrArg (fun z:Int=>Ending.returned (.int .i64 z)) (by unfold aj.jL; simp only[p0,p1,p2,p3,p4,p5,p6,p7,p8,p9,cond_false]),S.E⟩
end
section
set_option maxHeartbeats 3200000
set_option maxRecDepth 100000
open Go.RowKit
variable{α:Type}{K:Nat}
def bQ(l m:List ak):Bool:=decide (l.length=m.length)&&(l.zip m).all fun p=>p.1.eq p.2
theorem Yi{l m:List ak}(h:(((l.length:Nat):Int) != ((m.length:Nat):Int))=true):false=bQ l m:=by
 have:l.length≠m.length:=fun e=>by rw[e]at h; simp at h
 simp[bQ,this]
theorem Tf{l m:List ak}{k:Nat}(hk:l.length≤k)(h:l.length=m.length)(hR:((l.zip m).take k).all (fun p=>p.1.eq p.2)=true):true=bQ l m:=by
 rw[List.take_of_length_le (by simp; omega)]at hR
 simp only[bQ,h,hR,decide_true,Bool.and_self]
theorem MC{l m:List ak}{k:Nat}(h1:k<l.length)(h2:k<m.length)(hR:((l.zip m).take k).all (fun p=>p.1.eq p.2)=true)(h:(!(l[k].eq m[k]))=false):((l.zip m).take (k+1)).all (fun p=>p.1.eq p.2)=true:=by
 rw[List.take_succ_eq_append_getElem (by simp; omega),List.all_append,hR]
 simp at h
 simp[h]
theorem Yj{l m:List ak}{k:Nat}(h1:k<l.length)(h2:k<m.length)(h:(!(l[k].eq m[k]))=true):false=bQ l m:=by
 symm
 rw[Bool.eq_false_iff]
 intro e
 simp only[bQ,Bool.and_eq_true,List.all_eq_true]at e
 have:=e.2 (l[k],m[k]) (by rw[←List.getElem_zip (h:=by simp; omega)]; exact List.getElem_mem _)
 simp[this]at h
theorem yQ{w:World}{v u:Value}{l m:List dW}(h:aT 7 dW.cells w v l)(h':aT 7 dW.cells w u m) :
  Calls Tryz.prog 93 #[v,u] w fun e w'=>e = .returned (.bool (decide (l=m)))∧Ext w w':=by
 skip
 refine aiK Tryz.func93 Tryz.ntmps93 fun ac S=>aiG fun _ aU=>adr S 1 [] [(4,.bool false)] fun ac S=>aiF<|aU _ _<|aiG fun _ fE=>adr S 2 [] [(5,v),(6,u)] fun ac S=>aiM S 7 (Vk (l:=l) (m:=m) (h.below S.E) (h'.below S.E)) fun ac u E3 S=>adr S 1 [] [(4,.bool (decide (l=m)))] fun ac S=>aiF<|fE _ _<|Vp.rt ?_
 refine aiH S Tryz.results93 ?_
 exact⟨rfl,S.E⟩
theorem AO{w:World}{v u:Value}{l m:List ak}(h:iV w v l)(h':iV w u m)(hf:∀p∈l,p.t.fit K)(hf':∀p∈m,p.t.fit K)(hK1:1≤K)(hK:K≤10000) :
  Calls Tryz.prog 94 #[v,u,.func (.func 95) #[] #[]] w fun e w'=>e = .returned (.bool (bQ l m))∧Ext w w':=by
 obtain⟨a,cap,rfl⟩:=h.1.shape
 obtain⟨d,cap',rfl⟩:=h'.1.shape
 have hmax:l.length≤9223372036854775807:=h.1.len
 refine aiK Tryz.func94 Tryz.ntmps94 fun ac S=>aiG fun _ aU=>adr S 1 [] [(6,.bool false)] fun ac S=>aiF<|aU _ _<|wp_seq_k fun _ fE=>aiG fun _ gW=>adr S 5 [] [(14,.bool ((((l.length:Nat):Int)) != ((m.length:Nat):Int)))] fun ac S=>aiF (gW _ _ ?_)
 refine aiI S (fun hc4=>?_) (fun hc4=>?_)
 ·refine aiG fun _ bV=>adr S 1 [] [(6,.bool false)] fun ac S=>aiF<|bV _ _<|Vp.rt ?_
  refine aiH S Tryz.results94 ?_
  exact⟨aB (Yi hc4),S.E⟩
 ·refine wp_skip<|fE _ _<|wp_seq_k fun _ iK=>aiG fun _ kC=>adr S 3 [] [(15,.slice a l.length cap),(16,.int .i64 ((l.length:Nat):Int)),(17,.int .i64 0)] fun ac S=>aiF<|kC _ _<|wp_block ?_
  refine Vp.loop (ι:=Nat) (fun p a' w'=>p≤l.length∧(((l.zip m).take p).all (fun p=>p.1.eq p.2)=true)∧Sx.St w a' w' 32 [(0,.slice a l.length cap),(1,.slice d m.length cap'),(2,.func (.func 95) #[] #[]),(6,.bool false),(15,.slice a l.length cap),(16,.int .i64 ((l.length:Nat):Int)),(17,.int .i64 ((p:Nat):Int))] [] []) (fun p=>l.length-p) (0) ⟨Nat.zero_le _,rfl,(S.sub [(0,.slice a l.length cap),(1,.slice d m.length cap'),(2,.func (.func 95) #[] #[]),(6,.bool false),(15,.slice a l.length cap),(16,.int .i64 ((l.length:Nat):Int)),(17,.int .i64 ((0:Nat):Int))]).aK⟩ ?_
  rintro k ac u hI
  try dsimp only at hI
  obtain⟨hk,hR,S⟩:=hI
  refine aiG fun _ dP=>adr S 1 [] [(18,.bool (decide (((k:Nat):Int)<((l.length:Nat):Int))))] fun ac S=>aiF<|dP _ _<|wp_seq_k (fun _ gB=>?_)
  refine aiI S (fun bY=>?_) (fun bY=>?_)
  ·refine wp_skip<|gB _ _<|wp_seq_k fun _ dB=>wp_block<|aiG (fun _ dw=>?_)
   have Dz:k<l.length:=by have:=of_decide_eq_true bY; omega
   obtain⟨b13,o14,c15,hv,ac5,Yl⟩:=Vp.aF h.1 (fun _=>rfl) (k) Dz
   simp only[Value.slice.injEq,true_and]at hv
   obtain⟨rfl,rfl⟩:=hv
   obtain⟨x19,Ia⟩:∃z,l[k]=z:=⟨_,rfl⟩
   rw[Ia]at Yl
   have S:=S.view0 ac5 Yl
   refine adr S 3 [.idx k l.length,.mem 0 0] [(19,.int .i64 ((k:Nat):Int)),(21,x19.v)] (hk:=⟨Dz,trivial⟩) fun ac S=>aiJ S 8 (Sx.L [.int .i64 0,.int .u8 0,.int .u8 0,.int .u8 0,.int .u8 0,.int .i64 0,.int .i64 0,.int .i64 0,.int .i64 0,.int .i64 0,.slice none 0 0,.int .i64 0,.int .i64 0,.int .i64 0,.slice none 0 0,.int .i64 0]++Sx.za) fun ac u b21 E22 XU S=>adr S 1 [] [(7,.int .i64 ((k:Nat):Int))] fun ac S=>aiL S 0 (off:=0) (cs:=x19.cells) rfl fun u C24 S=>aiF<|dw _ _<|aiG (fun _ wB=>?_)
   have Wh:k<m.length:=by have:=jV hc4; have:=of_decide_eq_true bY; omega
   obtain⟨b26,o27,c28,hv,adB,ae2⟩:=Vp.aF h'.1 (fun _=>rfl) (k) Wh
   simp only[Value.slice.injEq,true_and]at hv
   obtain⟨rfl,rfl⟩:=hv
   obtain⟨y32,Zi⟩:∃z,m[k]=z:=⟨_,rfl⟩
   rw[Zi]at ae2
   have S:=S.view0 adB ae2
   refine adr S 4 [.idx k m.length,.mem 1 0] [(25,y32.v)] (hk:=⟨Wh,trivial⟩) fun ac S=>aiJ S 9 (Sx.L [.int .i64 0,.int .u8 0,.int .u8 0,.int .u8 0,.int .u8 0,.int .i64 0,.int .i64 0,.int .i64 0,.int .i64 0,.int .i64 0,.slice none 0 0,.int .i64 0,.int .i64 0,.int .i64 0,.slice none 0 0,.int .i64 0]++Sx.za) fun ac u LC Xi U2 S=>aiL S 0 (off:=0) (cs:=y32.cells) rfl fun u C37 S=>aiF<|wB _ _<|aiG fun _ jG=>adr S 3 [.mem 1 0,.mem 0 0] [(26,.func (.func 95) #[] #[]),(27,x19.v),(28,y32.v)] fun ac S=>aiM S 29 (wQ (K:=K) (p:=x19) (q:=y32) ((h.2 _ (Ia▸List.getElem_mem Dz)).below S.E) ((h'.2 _ (Zi▸List.getElem_mem Wh)).below S.E) (hf _ (Ia▸List.getElem_mem Dz)) (hf' _ (Zi▸List.getElem_mem Wh)) hK1 hK) fun ac u E39 S=>adr S 1 [] [(30,.bool (!(x19.eq y32)))] fun ac S=>aiF (jG _ _ ?_)
   refine aiI S (fun uI=>?_) (fun uI=>?_)
   ·refine aiG fun _ qW=>adr S 1 [] [(6,.bool false)] fun ac S=>aiF<|qW _ _<|Vp.rt ?_
    refine aiH S Tryz.results94 ?_
    exact⟨aB (Yj Dz Wh (by rw[Ia,Zi]; exact uI)),S.E⟩
   ·refine wp_skip<|dB _ _<|Vp.region<|adr S 2 [.re 31 (.int .i64 (IntKind.i64.wrap (((k:Nat):Int)+1))) (.int .i64 (((k+1):Nat):Int))] [(17,.int .i64 (((k+1):Nat):Int))] (hk:=⟨aiR (by omega),trivial⟩) fun ac S=>aiF ?_
    show ∃i',_∧_
    exact⟨(k+1),⟨by omega,(MC Dz Wh hR (by rw[Ia,Zi]; exact uI)),(S.sub [(0,.slice (some ⟨b13,o14,none⟩) l.length cap),(1,.slice (some ⟨b26,o27,none⟩) m.length cap'),(2,.func (.func 95) #[] #[]),(6,.bool false),(15,.slice (some ⟨b13,o14,none⟩) l.length cap),(16,.int .i64 ((l.length:Nat):Int)),(17,.int .i64 (((k+1):Nat):Int))]).aK.uD 2⟩,by show _-_<_-_; omega⟩
  ·refine wp_exit<|iK _ _<|aiG fun _ qX=>adr S 1 [] [(6,.bool true)] fun ac S=>aiF<|qX _ _<|Vp.rt ?_
   refine aiH S Tryz.results94 ?_
   exact⟨aB (Tf (by have:=of_decide_eq_false bY; omega) (jV hc4) hR),S.E⟩
def aj.eqP(a b:aj):Bool:=cond (((((((((((a.id) != b.id)||((a.kind) != b.kind))||((a.depth) != b.depth))||((a.aO) != b.aO))||(((a.eY.toNat:Int)) != (b.eY.toNat:Int)))||((a.blend) != b.blend))||(!(a.isolated==b.isolated)))||(!(a.dN==b.dN)))||((a.aY) != b.aY))||((a.cZ) != b.cZ)) (false) (((((((a.t.q.eq b.t.q)&&(decide (a.clip=b.clip)))&&(decide (a.path=b.path)))&&(bQ a.fill b.fill))&&(bQ a.stroke b.stroke))&&(a.style.eq b.style))&&(a.img.eq b.img))
theorem Ik{w:World}{a b:aj}(h:fJ K w a)(h':fJ K w b) :
  Calls Tryz.prog 56 #[a.v,b.v] w fun e w'=>e = .returned (.bool (aj.eqP a b))∧Ext w w':=by
 skip
 refine aiK Tryz.func56 Tryz.ntmps56 fun ac S=>aiG fun _ aU=>aiJ S 2 a.cells fun ac u b2 E3 hb4 S=>aiJ S 3 b.cells fun ac u b5 E6 hb7 S=>adr S 1 [] [(4,.bool false)] fun ac S=>aiF<|aU _ _<|wp_seq_k fun _ dP=>aiG fun _ gB=>adr S 68 [.mem 1 0,.mem 0 0,.mem 1 1,.mem 0 1,.mem 1 2,.mem 0 2,.mem 1 28,.mem 0 28,.mem 1 29,.mem 0 29,.mem 1 30,.mem 0 30,.mem 1 31,.mem 0 31,.mem 1 32,.mem 0 32,.mem 1 34,.mem 0 34,.mem 1 46,.mem 0 46] [(72,.bool (((((((((((a.id) != b.id)||((a.kind) != b.kind))||((a.depth) != b.depth))||((a.aO) != b.aO))||(((a.eY.toNat:Int)) != (b.eY.toNat:Int)))||((a.blend) != b.blend))||(!(a.isolated==b.isolated)))||(!(a.dN==b.dN)))||((a.aY) != b.aY))||((a.cZ) != b.cZ)))] fun ac S=>aiF (gB _ _ ?_)
 refine aiI S (fun bY=>?_) (fun bY=>?_)
 ·refine aiG fun _ dB=>adr S 1 [] [(4,.bool false)] fun ac S=>aiF<|dB _ _<|Vp.rt ?_
  have p0:=bY
  refine aiH S Tryz.results56 ?_
  exact⟨aB (by unfold aj.eqP; simp only[p0,cond_true]),S.E⟩
 ·refine wp_skip<|dP _ _<|aiG fun _ dw=>adr S 4 [.mem 1 3,.mem 0 3] [(74,a.t.v),(76,b.t.v)] fun ac S=>aiM S 77 (y7 a.t.v b.t.v a.t.q b.t.q K _ ((aV.toQ h.1.2.2.2.1 h.2.1).eU S.E) ((aV.toQ h'.1.2.2.2.1 h'.2.1).eU S.E) h.2.2.2.2.1 h.2.2.2.2.2) fun ac u H7 S=>aiT S 43 [.mem 1 27,.mem 0 27,.mem 1 33,.mem 0 33,.mem 1 35,.mem 0 35,.mem 1 42,.mem 0 42,.mem 1 36,.mem 0 36,.mem 1 43,.mem 0 43] [(_,_,(a.t.q.eq b.t.q),.bool (decide (a.clip=b.clip))),(_,_,((a.t.q.eq b.t.q)&&(decide (a.clip=b.clip))),.bool (decide (a.path=b.path))),(_,_,(((a.t.q.eq b.t.q)&&(decide (a.clip=b.clip)))&&(decide (a.path=b.path))),.bool (bQ a.fill b.fill)),(_,_,((((a.t.q.eq b.t.q)&&(decide (a.clip=b.clip)))&&(decide (a.path=b.path)))&&(bQ a.fill b.fill)),.bool (bQ a.stroke b.stroke)),(_,_,(((((a.t.q.eq b.t.q)&&(decide (a.clip=b.clip)))&&(decide (a.path=b.path)))&&(bQ a.fill b.fill))&&(bQ a.stroke b.stroke)),.bool (a.style.eq b.style)),(_,_,((((((a.t.q.eq b.t.q)&&(decide (a.clip=b.clip)))&&(decide (a.path=b.path)))&&(bQ a.fill b.fill))&&(bQ a.stroke b.stroke))&&(a.style.eq b.style)),.bool (a.img.eq b.img))] [(4,.bool (((((((a.t.q.eq b.t.q)&&(decide (a.clip=b.clip)))&&(decide (a.path=b.path)))&&(bQ a.fill b.fill))&&(bQ a.stroke b.stroke))&&(a.style.eq b.style))&&(a.img.eq b.img)))] ⟨fun u hC g=>yQ (l:=a.clip) (m:=b.clip) (h.1.2.2.2.2.1.1.below (Ext.trans' S.E hC)) (h'.1.2.2.2.2.1.1.below (Ext.trans' S.E hC)),fun u hC g=>yQ (l:=a.path) (m:=b.path) (h.1.2.2.2.2.2.2.2.1.1.below (Ext.trans' S.E hC)) (h'.1.2.2.2.2.2.2.2.1.1.below (Ext.trans' S.E hC)),fun u hC g=>AO (l:=a.fill) (m:=b.fill) (K:=K) (h.1.2.2.2.2.2.2.2.2.2.1.below (Ext.trans' S.E hC)) (h'.1.2.2.2.2.2.2.2.2.2.1.below (Ext.trans' S.E hC)) h.2.2.1 h'.2.2.1 h.2.2.2.2.1 h.2.2.2.2.2,fun u hC g=>AO (l:=a.stroke) (m:=b.stroke) (K:=K) (h.1.2.2.2.2.2.2.2.2.2.2.2.1.below (Ext.trans' S.E hC)) (h'.1.2.2.2.2.2.2.2.2.2.2.2.1.below (Ext.trans' S.E hC)) h.2.2.2.1 h'.2.2.2.1 h.2.2.2.2.1 h.2.2.2.2.2,fun u hC g=>wI (p:=a.style) (q:=b.style) (h.1.2.2.2.2.2.2.2.2.2.2.1.below (Ext.trans' S.E hC)) (h'.1.2.2.2.2.2.2.2.2.2.2.1.below (Ext.trans' S.E hC)),fun u hC g=>vF (m:=a.img) (n:=b.img) (h.1.2.2.2.2.2.2.2.2.2.2.2.2.1.below (Ext.trans' S.E hC)) (h'.1.2.2.2.2.2.2.2.2.2.2.2.2.1.below (Ext.trans' S.E hC)),trivial⟩ fun ac u Ei S=>aiF<|dw _ _<|Vp.rt ?_
  have p0:=bY
  refine aiH S Tryz.results56 ?_
  exact⟨aB (by unfold aj.eqP; simp only[p0,cond_false]),S.E⟩
end
end Go.Proofs.YtfmkkemfhjkajaaGreatDoor
