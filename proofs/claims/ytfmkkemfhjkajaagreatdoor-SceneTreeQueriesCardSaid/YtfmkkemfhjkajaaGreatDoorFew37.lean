/- What a law asks of a scene before it looks at it: few nodes, and small ones. -/
import Derived.Test.YtfmkkemfhjkajaaGreatDoorPk41
import Derived.Test.YtfmkkemfhjkajaaGreatDoorScW2
set_option maxHeartbeats 3200000
set_option maxRecDepth 100000
namespace Go.Proofs.YtfmkkemfhjkajaaGreatDoor
open Go.RowKit
variable{α:Type}{K:Nat}
set_option linter.unusedVariables false
def aV.JW(t:aV):Bool:=cond ((decide (12<((t.a.l1.length:Nat):Int)))||(decide (12<((t.a.l2.length:Nat):Int)))) (false) (cond ((decide (12<((t.b.l1.length:Nat):Int)))||(decide (12<((t.b.l2.length:Nat):Int)))) (false) (cond ((decide (12<((t.c.l1.length:Nat):Int)))||(decide (12<((t.c.l2.length:Nat):Int)))) (false) (cond ((decide (12<((t.d.l1.length:Nat):Int)))||(decide (12<((t.d.l2.length:Nat):Int)))) (false) (cond ((decide (12<((t.e.l1.length:Nat):Int)))||(decide (12<((t.e.l2.length:Nat):Int)))) (false) (cond ((decide (12<((t.f.l1.length:Nat):Int)))||(decide (12<((t.f.l2.length:Nat):Int)))) (false) (true))))))
theorem IV{w:World}{t:aV}(h:t.ok w) :
  Calls Tryz.prog 78 #[t.v] w fun e w'=>e = .returned (.bool t.JW)∧Ext w w':=by
 obtain⟨t0,t1,t2,t3,t4,t5⟩:=h
 obtain⟨p0,c0,e0,-⟩:=t0.1
 obtain⟨q0,d0,f0,-⟩:=t0.2
 obtain⟨p1,c1,e1,-⟩:=t1.1
 obtain⟨q1,d1,f1,-⟩:=t1.2
 obtain⟨p2,c2,e2,-⟩:=t2.1
 obtain⟨q2,d2,f2,-⟩:=t2.2
 obtain⟨p3,c3,e3,-⟩:=t3.1
 obtain⟨q3,d3,f3,-⟩:=t3.2
 obtain⟨p4,c4,e4,-⟩:=t4.1
 obtain⟨q4,d4,f4,-⟩:=t4.2
 obtain⟨p5,c5,e5,-⟩:=t5.1
 obtain⟨q5,d5,f5,-⟩:=t5.2
 refine aiK Tryz.func78 Tryz.ntmps78 fun ac S=>aiG fun _ aU=>aiJ S 1 t.cells fun ac u b2 E3 hb4 S=>adr S 1 [] [(2,.bool false)] fun ac S=>aiF<|aU _ _<|aiG fun _ bV=>adr S 12 [.mem 0 0,.mem 0 4,.mem 0 8,.mem 0 12,.mem 0 16,.mem 0 20] [(6,t.a.v),(8,t.b.v),(10,t.c.v),(12,t.d.v),(14,t.e.v),(16,t.f.v)] fun ac S=>Sx.news S 17 6 t.cells fun ac u b6 E7 hb8 S=>adr S 1 [] [(3,.slice (some ⟨b6,0,none⟩) 6 6)] fun ac S=>aiF<|bV _ _<|wp_seq_k fun _ gB=>aiG fun _ dV=>adr S 1 [] [(4,.int .i64 0)] fun ac S=>aiF<|dV _ _<|wp_block<|wp_loop_rounds 7 ?_
 rw[rounds_succ]
 refine wp_seq_k fun _ dB=>aiG fun _ dw=>adr S 4 [] [(21,.bool true)] fun ac S=>aiF<|dw _ _<|aiN S<|wp_skip<|dB _ _<|wp_seq_k fun _ fZ=>wp_block<|aiG fun _ fU=>adr S 18 [.mem 0 1,.mem 0 3] [(41,.bool ((decide (12<((t.a.l1.length:Nat):Int)))||(decide (12<((t.a.l2.length:Nat):Int)))))] fun ac S=>aiF (fU _ _ ?_)
 refine aiI S (fun oD=>?_) (fun oD=>?_)
 ·refine aiG fun _ iR=>adr S 1 [] [(2,.bool false)] fun ac S=>aiF<|iR _ _<|Vp.rt ?_
  refine aiH S Tryz.results78 ?_
  exact⟨aB (by unfold aV.JW; rw[oD]; rfl),S.E⟩
 ·refine wp_skip<|fZ _ _<|Vp.region<|adr S 3 [] [(4,.int .i64 1)] fun ac S=>aiF ?_
  show Code.rounds _ _ _ 6 _ _
  rw[rounds_succ]
  refine wp_seq_k fun _ ig=>aiG fun _ je=>adr S 4 [] [(21,.bool true)] fun ac S=>aiF<|je _ _<|aiN S<|wp_skip<|ig _ _<|wp_seq_k fun _ jf=>wp_block<|aiG fun _ iU=>adr S 18 [.mem 0 5,.mem 0 7] [(41,.bool ((decide (12<((t.b.l1.length:Nat):Int)))||(decide (12<((t.b.l2.length:Nat):Int)))))] fun ac S=>aiF (iU _ _ ?_)
  refine aiI S (fun hc21=>?_) (fun hc21=>?_)
  ·refine aiG fun _ jM=>adr S 1 [] [(2,.bool false)] fun ac S=>aiF<|jM _ _<|Vp.rt ?_
   refine aiH S Tryz.results78 ?_
   exact⟨aB (by unfold aV.JW; rw[oD,hc21]; rfl),S.E⟩
  ·refine wp_skip<|jf _ _<|Vp.region<|adr S 3 [] [(4,.int .i64 2)] fun ac S=>aiF ?_
   show Code.rounds _ _ _ 5 _ _
   rw[rounds_succ]
   refine wp_seq_k fun _ oJ=>aiG fun _ kK=>adr S 4 [] [(21,.bool true)] fun ac S=>aiF<|kK _ _<|aiN S<|wp_skip<|oJ _ _<|wp_seq_k fun _ wB=>wp_block<|aiG fun _ kH=>adr S 18 [.mem 0 9,.mem 0 11] [(41,.bool ((decide (12<((t.c.l1.length:Nat):Int)))||(decide (12<((t.c.l2.length:Nat):Int)))))] fun ac S=>aiF (kH _ _ ?_)
   refine aiI S (fun hc27=>?_) (fun hc27=>?_)
   ·refine aiG fun _ lK=>adr S 1 [] [(2,.bool false)] fun ac S=>aiF<|lK _ _<|Vp.rt ?_
    refine aiH S Tryz.results78 ?_
    exact⟨aB (by unfold aV.JW; rw[oD,hc21,hc27]; rfl),S.E⟩
   ·refine wp_skip<|wB _ _<|Vp.region<|adr S 3 [] [(4,.int .i64 3)] fun ac S=>aiF ?_
    show Code.rounds _ _ _ 4 _ _
    rw[rounds_succ]
    refine wp_seq_k fun _ qm=>aiG fun _ nI=>adr S 4 [] [(21,.bool true)] fun ac S=>aiF<|nI _ _<|aiN S<|wp_skip<|qm _ _<|wp_seq_k fun _ qg=>wp_block<|aiG fun _ kM=>adr S 18 [.mem 0 13,.mem 0 15] [(41,.bool ((decide (12<((t.d.l1.length:Nat):Int)))||(decide (12<((t.d.l2.length:Nat):Int)))))] fun ac S=>aiF (kM _ _ ?_)
    refine aiI S (fun nU=>?_) (fun nU=>?_)
    ·refine aiG fun _ uQ=>adr S 1 [] [(2,.bool false)] fun ac S=>aiF<|uQ _ _<|Vp.rt ?_
     refine aiH S Tryz.results78 ?_
     exact⟨aB (by unfold aV.JW; rw[oD,hc21,hc27,nU]; rfl),S.E⟩
    ·refine wp_skip<|qg _ _<|Vp.region<|adr S 3 [] [(4,.int .i64 4)] fun ac S=>aiF ?_
     show Code.rounds _ _ _ 3 _ _
     rw[rounds_succ]
     refine wp_seq_k fun _ oK=>aiG fun _ nJ=>adr S 4 [] [(21,.bool true)] fun ac S=>aiF<|nJ _ _<|aiN S<|wp_skip<|oK _ _<|wp_seq_k fun _ qo=>wp_block<|aiG fun _ jG=>adr S 18 [.mem 0 17,.mem 0 19] [(41,.bool ((decide (12<((t.e.l1.length:Nat):Int)))||(decide (12<((t.e.l2.length:Nat):Int)))))] fun ac S=>aiF (jG _ _ ?_)
     refine aiI S (fun hc39=>?_) (fun hc39=>?_)
     ·refine aiG fun _ yY=>adr S 1 [] [(2,.bool false)] fun ac S=>aiF<|yY _ _<|Vp.rt ?_
      refine aiH S Tryz.results78 ?_
      exact⟨aB (by unfold aV.JW; rw[oD,hc21,hc27,nU,hc39]; rfl),S.E⟩
     ·refine wp_skip<|qo _ _<|Vp.region<|adr S 3 [] [(4,.int .i64 5)] fun ac S=>aiF ?_
      show Code.rounds _ _ _ 2 _ _
      rw[rounds_succ]
      refine wp_seq_k fun _ qW=>aiG fun _ qX=>adr S 4 [] [(21,.bool true)] fun ac S=>aiF<|qX _ _<|aiN S<|wp_skip<|qW _ _<|wp_seq_k fun _ tH=>wp_block<|aiG fun _ wE=>adr S 18 [.mem 0 21,.mem 0 23] [(41,.bool ((decide (12<((t.f.l1.length:Nat):Int)))||(decide (12<((t.f.l2.length:Nat):Int)))))] fun ac S=>aiF (wE _ _ ?_)
      refine aiI S (fun yZ=>?_) (fun yZ=>?_)
      ·refine aiG fun _ zU=>adr S 1 [] [(2,.bool false)] fun ac S=>aiF<|zU _ _<|Vp.rt ?_
       refine aiH S Tryz.results78 ?_
       exact⟨aB (by unfold aV.JW; rw[oD,hc21,hc27,nU,hc39,yZ]; rfl),S.E⟩
      ·refine wp_skip<|tH _ _<|Vp.region<|adr S 3 [] [(4,.int .i64 6)] fun ac S=>aiF ?_
       show Code.rounds _ _ _ 1 _ _
       rw[rounds_succ]
       refine wp_seq_k fun _ zV=>aiG fun _ yx=>adr S 4 [] [(21,.bool false)] fun ac S=>aiF<|yx _ _<|aiY S<|wp_exit<|gB _ _<|aiG fun _ yA=>adr S 1 [] [(2,.bool true)] fun ac S=>aiF<|yA _ _<|Vp.rt ?_
       refine aiH S Tryz.results78 ?_
       exact⟨aB (by unfold aV.JW; rw[oD,hc21,hc27,nU,hc39,yZ]; rfl),S.E⟩
theorem Qm{w:World}{t:aV}(h:t.ok w) :
  Calls Tryz.prog 46 #[t.v] w fun e w'=>e = .returned (.bool t.JW)∧Ext w w':=by
 skip
 refine aiK Tryz.func46 Tryz.ntmps46 fun ac S=>aiG fun _ aU=>aiJ S 1 t.cells fun ac u b2 E3 hb4 S=>adr S 1 [] [(2,.bool false)] fun ac S=>aiF<|aU _ _<|aiG fun _ bV=>adr S 1 [.mem 0 0] [(3,t.v)] fun ac S=>aiM S 4 (IV (t:=t) (h.below S.E)) fun ac u E6 S=>adr S 1 [] [(2,.bool t.JW)] fun ac S=>aiF<|bV _ _<|Vp.rt ?_
 refine aiH S Tryz.results46 ?_
 exact⟨rfl,S.E⟩
def ak.few(p:ak):Bool:=((decide (((p.stops.length:Nat):Int)≤40))&&(decide (((p.img.l.length:Nat):Int)≤300)))&&p.t.JW
theorem Vd{w:World}{p:ak}(h:p.ok w) :
  Calls Tryz.prog 79 #[p.v] w fun e w'=>e = .returned (.bool p.few)∧Ext w w':=by
 obtain⟨r1,r2,er1⟩:=h.2.2.2.2.1.shape
 obtain⟨r3,r4,er2⟩:=h.2.2.2.2.2.2.2.1.2.2.shape
 refine aiK Tryz.func79 Tryz.ntmps79 fun ac S=>aiG fun _ aU=>aiJ S 1 p.cells fun ac u b2 E3 hb4 S=>adr S 1 [] [(2,.bool false)] fun ac S=>aiF<|aU _ _<|aiG fun _ bV=>aiT S 17 [.mem 0 10,.mem 0 14,.mem 0 16] [(_,_,((decide (((p.stops.length:Nat):Int)≤40))&&(decide (((p.img.l.length:Nat):Int)≤300))),.bool p.t.JW)] [(2,.bool (((decide (((p.stops.length:Nat):Int)≤40))&&(decide (((p.img.l.length:Nat):Int)≤300)))&&p.t.JW))] ⟨fun u hC g=>IV (t:=p.t) (h.2.2.2.2.2.2.2.2.2.below (Ext.trans' S.E hC)),trivial⟩ fun ac u E6 S=>aiF<|bV _ _<|Vp.rt ?_
 refine aiH S Tryz.results79 ?_
 exact⟨rfl,S.E⟩
def iT(l:List ak):Bool:=decide (l.length≤4)&&l.all ak.few
theorem yI{w:World}{v:Value}{l:List ak}(h:iV w v l) :
  Calls Tryz.prog 47 #[v] w fun e w'=>e = .returned (.bool (iT l))∧Ext w w':=by
 obtain⟨a,cap,rfl⟩:=h.1.shape
 have hmax:l.length≤9223372036854775807:=h.1.len
 refine aiK Tryz.func47 Tryz.ntmps47 fun ac S=>aiG fun _ aU=>adr S 1 [] [(2,.bool false)] fun ac S=>aiF<|aU _ _<|wp_seq_k fun _ fE=>aiG fun _ gW=>adr S 3 [] [(6,.bool (decide (4<((l.length:Nat):Int))))] fun ac S=>aiF (gW _ _ ?_)
 refine aiI S (fun hc4=>?_) (fun hc4=>?_)
 ·refine aiG fun _ bV=>adr S 1 [] [(2,.bool false)] fun ac S=>aiF<|bV _ _<|Vp.rt ?_
  refine aiH S Tryz.results47 ?_
  exact⟨aB (by unfold iT; simp[show ¬l.length≤4 from by have:=of_decide_eq_true hc4; omega]),S.E⟩
 ·refine wp_skip<|fE _ _<|wp_seq_k fun _ iK=>aiG fun _ kC=>adr S 1 [] [(3,.int .i64 0)] fun ac S=>aiF<|kC _ _<|wp_block ?_
  refine Vp.loop (ι:=Nat) (fun p a' w'=>p≤l.length∧((l.take p).all ak.few=true)∧Sx.St w a' w' 19 [(0,.slice a l.length cap),(2,.bool false),(3,.int .i64 ((p:Nat):Int))] [] []) (fun p=>l.length-p) (0) ⟨Nat.zero_le _,rfl,(S.sub [(0,.slice a l.length cap),(2,.bool false),(3,.int .i64 ((0:Nat):Int))]).aK⟩ ?_
  rintro k ac u hI
  try dsimp only at hI
  obtain⟨hk,hR,S⟩:=hI
  refine wp_seq_k fun _ dP=>aiG fun _ gB=>adr S 4 [] [(10,.bool (decide (((k:Nat):Int)<((l.length:Nat):Int))))] fun ac S=>aiF (gB _ _ ?_)
  refine aiI S (fun bY=>?_) (fun bY=>?_)
  ·refine wp_skip<|dP _ _<|wp_seq_k fun _ dB=>wp_block<|aiG (fun _ dw=>?_)
   have Dz:k<l.length:=by have:=of_decide_eq_true bY; omega
   obtain⟨b13,o14,c15,hv,ac5,Yl⟩:=Vp.aF h.1 (fun _=>rfl) (k) Dz
   simp only[Value.slice.injEq,true_and]at hv
   obtain⟨rfl,rfl⟩:=hv
   obtain⟨x19,Ia⟩:∃z,l[k]=z:=⟨_,rfl⟩
   rw[Ia]at Yl
   have S:=S.view0 ac5 Yl
   refine adr S 4 [.idx k l.length,.mem 0 0] [(16,x19.v)] (hk:=⟨Dz,trivial⟩) fun ac S=>aiM S 17 (Vd ((h.2 _ (Ia▸List.getElem_mem Dz)).below S.E)) fun ac u LD S=>adr S 1 [] [(18,.bool (!(x19.few)))] fun ac S=>aiF (dw _ _ ?_)
   refine aiI S (fun hc22=>?_) (fun hc22=>?_)
   ·refine aiG fun _ oJ=>adr S 1 [] [(2,.bool false)] fun ac S=>aiF<|oJ _ _<|Vp.rt ?_
    refine aiH S Tryz.results47 ?_
    exact⟨aB (by unfold iT; rw[vg Dz (by rw[Ia]; simpa using hc22)]; simp),S.E⟩
   ·refine wp_skip<|dB _ _<|Vp.region<|adr S 3 [.re 12 (.int .i64 (IntKind.i64.wrap (((k:Nat):Int)+1))) (.int .i64 (((k+1):Nat):Int))] [(3,.int .i64 (((k+1):Nat):Int))] (hk:=⟨aiR (by omega),trivial⟩) fun ac S=>aiF ?_
    show ∃i',_∧_
    exact⟨(k+1),⟨by omega,(jR Dz hR (by rw[Ia]; simpa using hc22)),(S.sub [(0,.slice (some ⟨b13,o14,none⟩) l.length cap),(2,.bool false),(3,.int .i64 (((k+1):Nat):Int))]).aK⟩,by show _-_<_-_; omega⟩
  ·refine wp_exit<|iK _ _<|aiG fun _ kK=>adr S 1 [] [(2,.bool true)] fun ac S=>aiF<|kK _ _<|Vp.rt ?_
   refine aiH S Tryz.results47 ?_
   exact⟨aB (by unfold iT; rw[mP (by have:=of_decide_eq_false bY; omega) hR]; simp[show l.length≤4 from by have:=of_decide_eq_false hc4; omega]),S.E⟩
def aj.sO(nd:aj):Bool:=cond ((((decide (40<((nd.clip.length:Nat):Int)))||(decide (40<((nd.path.length:Nat):Int))))||(decide (40<((nd.style.dash.length:Nat):Int))))||(decide (300<((nd.img.l.length:Nat):Int)))) false ((nd.t.JW&&(iT nd.fill))&&(iT nd.stroke))
theorem MG{w:World}{nd:aj}(h:nd.ok w) :
  Calls Tryz.prog 15 #[nd.v] w fun e w'=>e = .returned (.bool nd.sO)∧Ext w w':=by
 obtain⟨a1,c1,ecs⟩:=h.2.2.2.2.1.1.shape
 obtain⟨a2,c2,eps⟩:=h.2.2.2.2.2.2.2.1.1.shape
 obtain⟨a3,c3,efs⟩:=h.2.2.2.2.2.2.2.2.2.1.1.shape
 obtain⟨a4,c4,ess⟩:=h.2.2.2.2.2.2.2.2.2.2.2.1.1.shape
 obtain⟨a5,c5,est,-⟩:=h.2.2.2.2.2.2.2.2.2.2.1.2.2.2.2.1
 obtain⟨a6,c6,eim⟩:=h.2.2.2.2.2.2.2.2.2.2.2.2.1.2.2.shape
 refine aiK Tryz.func15 Tryz.ntmps15 fun ac S=>aiG fun _ aU=>aiJ S 1 nd.cells fun ac u b2 E3 hb4 S=>adr S 1 [] [(2,.bool false)] fun ac S=>aiF<|aU _ _<|wp_seq_k fun _ bV=>aiG fun _ iK=>adr S 24 [.mem 0 27,.mem 0 33,.mem 0 40,.mem 0 45] [(26,.bool ((((decide (40<((nd.clip.length:Nat):Int)))||(decide (40<((nd.path.length:Nat):Int))))||(decide (40<((nd.style.dash.length:Nat):Int))))||(decide (300<((nd.img.l.length:Nat):Int)))))] fun ac S=>aiF (iK _ _ ?_)
 refine aiI S (fun kV=>?_) (fun kV=>?_)
 ·refine aiG fun _ dP=>adr S 1 [] [(2,.bool false)] fun ac S=>aiF<|dP _ _<|Vp.rt ?_
  refine aiH S Tryz.results15 ?_
  exact⟨aB (by unfold aj.sO; rw[kV]; rfl),S.E⟩
 ·refine wp_skip<|bV _ _<|aiG fun _ gB=>adr S 2 [.mem 0 3] [(28,nd.t.v)] fun ac S=>aiM S 29 (Qm (t:=nd.t) (h.2.2.2.1.below S.E)) fun ac u Bj S=>aiT S 11 [.mem 0 35,.mem 0 42] [(_,_,nd.t.JW,.bool (iT nd.fill)),(_,_,(nd.t.JW&&(iT nd.fill)),.bool (iT nd.stroke))] [(2,.bool ((nd.t.JW&&(iT nd.fill))&&(iT nd.stroke)))] ⟨fun u hC g=>yI (l:=nd.fill) (h.2.2.2.2.2.2.2.2.2.1.below (Ext.trans' S.E hC)),fun u hC g=>yI (l:=nd.stroke) (h.2.2.2.2.2.2.2.2.2.2.2.1.below (Ext.trans' S.E hC)),trivial⟩ fun ac u sF S=>aiF<|gB _ _<|Vp.rt ?_
  refine aiH S Tryz.results15 ?_
  exact⟨aB (by unfold aj.sO; rw[kV]; rfl),S.E⟩
def aS.few(s:aS)(n:Int):Bool:=decide ((s.ns.length:Int)≤n)&&s.ns.all aj.sO
theorem BD{w:World}{s:aS}(h:aT 47 aj.cells w s.s s.ns∧∀n∈s.ns,n.ok w)(n:Int) :
  Calls Tryz.prog 14 #[s.v,.int .i64 n] w fun e w'=>e = .returned (.bool (s.few n))∧Ext w w':=by
 have hmax:s.ns.length≤9223372036854775807:=h.1.len
 refine aiK Tryz.func14 Tryz.ntmps14 (fun ac S=>?_)
 obtain⟨a,cap,es⟩:∃a c,s.s = .slice a s.ns.length c:=⟨_,_,rfl⟩
 have hr:=h.1
 rw[es]at hr
 refine aiG fun _ aU=>aiJ S 2 s.cells fun ac u b2 E3 hb4 S=>adr S 1 [] [(4,.bool false)] fun ac S=>aiF<|aU _ _<|wp_seq_k fun _ bV=>aiG fun _ iK=>adr S 5 [.mem 0 6,.re 7 s.s (.slice a s.ns.length cap)] [(10,.bool (decide (n<((s.ns.length:Nat):Int))))] (hk:=⟨es,trivial⟩) fun ac S=>aiF (iK _ _ ?_)
 refine aiI S (fun kV=>?_) (fun kV=>?_)
 ·refine aiG fun _ dP=>adr S 1 [] [(4,.bool false)] fun ac S=>aiF<|dP _ _<|Vp.rt ?_
  refine aiH S Tryz.results14 ?_
  exact⟨aB (by unfold aS.few; simp[show ¬((s.ns.length:Int)≤n)from by have:=of_decide_eq_true kV; omega]),S.E⟩
 ·refine wp_skip<|bV _ _<|wp_seq_k fun _ gB=>aiG fun _ dV=>adr S 1 [] [(5,.int .i64 0)] fun ac S=>aiF<|dV _ _<|wp_block ?_
  refine Vp.loop (ι:=Nat) (fun p a' w'=>p≤s.ns.length∧((s.ns.take p).all aj.sO=true)∧Sx.St w a' w' 25 [(0,s.v),(1,.int .i64 n),(2,.pointer (some ⟨b2,0,none⟩)),(4,.bool false),(5,.int .i64 ((p:Nat):Int))] [(b2,s.cells)] []) (fun p=>s.ns.length-p) (0) ⟨Nat.zero_le _,rfl,(S.sub [(0,s.v),(1,.int .i64 n),(2,.pointer (some ⟨b2,0,none⟩)),(4,.bool false),(5,.int .i64 ((0:Nat):Int))]).aK⟩ ?_
  rintro k ac u hI
  try dsimp only at hI
  obtain⟨hk,hR,S⟩:=hI
  refine wp_seq_k fun _ dB=>aiG fun _ dw=>adr S 5 [.mem 0 6,.re 13 s.s (.slice a s.ns.length cap)] [(15,.bool (decide (((k:Nat):Int)<((s.ns.length:Nat):Int))))] (hk:=⟨es,trivial⟩) fun ac S=>aiF (dw _ _ ?_)
  refine aiI S (fun hc13=>?_) (fun hc13=>?_)
  ·refine wp_skip<|dB _ _<|wp_seq_k fun _ fU=>wp_block<|aiG (fun _ fH=>?_)
   have Ib:k<s.ns.length:=by have:=of_decide_eq_true hc13; omega
   obtain⟨b16,o17,c18,hv,XU,Ym⟩:=Vp.aF hr (fun _=>rfl) (k) Ib
   simp only[Value.slice.injEq,true_and]at hv
   obtain⟨rfl,rfl⟩:=hv
   obtain⟨x22,MH⟩:∃z,s.ns[k]=z:=⟨_,rfl⟩
   rw[MH]at Ym
   have S:=S.view0 XU Ym
   refine adr S 5 [.mem 0 6,.re 19 s.s (.slice (some ⟨b16,o17,none⟩) s.ns.length cap),.idx k s.ns.length,.mem 1 0] [(22,x22.v)] (hk:=⟨es,Ib,trivial⟩) fun ac S=>aiM S 23 (MG ((h.2 _ (MH▸List.getElem_mem Ib)).below S.E)) fun ac u Xn S=>adr S 1 [] [(24,.bool (!x22.sO))] fun ac S=>aiF (fH _ _ ?_)
   refine aiI S (fun hc25=>?_) (fun hc25=>?_)
   ·refine aiG fun _ kH=>adr S 1 [] [(4,.bool false)] fun ac S=>aiF<|kH _ _<|Vp.rt ?_
    refine aiH S Tryz.results14 ?_
    exact⟨aB (by unfold aS.few; rw[vg Ib (by rw[MH]; simpa using hc25)]; simp),S.E⟩
   ·refine wp_skip<|fU _ _<|Vp.region<|adr S 3 [.re 17 (.int .i64 (IntKind.i64.wrap (((k:Nat):Int)+1))) (.int .i64 (((k+1):Nat):Int))] [(5,.int .i64 (((k+1):Nat):Int))] (hk:=⟨aiR (by omega),trivial⟩) fun ac S=>aiF ?_
    show ∃i',_∧_
    exact⟨(k+1),⟨by omega,(jR Ib hR (by rw[MH]; simpa using hc25)),(S.sub [(0,s.v),(1,.int .i64 n),(2,.pointer (some ⟨b2,0,none⟩)),(4,.bool false),(5,.int .i64 (((k+1):Nat):Int))]).aK⟩,by show _-_<_-_; omega⟩
  ·refine wp_exit<|gB _ _<|aiG fun _ lJ=>adr S 1 [] [(4,.bool true)] fun ac S=>aiF<|lJ _ _<|Vp.rt ?_
   refine aiH S Tryz.results14 ?_
   exact⟨aB (by unfold aS.few; rw[mP (by have:=of_decide_eq_false hc13; omega) hR]; simp[show((s.ns.length:Int)≤n)from by have:=of_decide_eq_false kV; omega]),S.E⟩
theorem vk:∀{a b:Bool},cond a false b=true→a=false∧b=true:=by decide
theorem Ae{t:aV}(h:t.fit 20):t.lim:=⟨h.1.mono (by decide),h.2.1.mono (by decide),h.2.2.1.mono (by decide),h.2.2.2.1.mono (by decide),h.2.2.2.2.1.mono (by decide),h.2.2.2.2.2.mono (by decide)⟩
theorem BF{r:bM}(h:((decide (12<((r.l1.length:Nat):Int)))||(decide (12<((r.l2.length:Nat):Int))))=false):r.fit 20:=by
 simp only[Bool.or_eq_false_iff,decide_eq_false_iff_not]at h
 exact⟨by omega,by omega⟩
theorem aV.Tj{t:aV}(h:t.JW=true):t.fit 20:=by
 unfold aV.JW at h
 obtain⟨h0,h⟩:=vk h
 obtain⟨h1,h⟩:=vk h
 obtain⟨h2,h⟩:=vk h
 obtain⟨h3,h⟩:=vk h
 obtain⟨h4,h⟩:=vk h
 obtain⟨h5,h⟩:=vk h
 exact⟨BF h0,BF h1,BF h2,BF h3,BF h4,BF h5⟩
theorem IW{p:ak}(h:p.few=true):p.t.fit 20∧p.lim:=by
 unfold ak.few at h
 simp only[Bool.and_eq_true,decide_eq_true_eq]at h
 have:=aV.Tj h.2
 exact⟨this,by omega,by omega,Ae this⟩
theorem EG{l:List ak}(h:iT l=true):(∀p∈l,p.t.fit 20)∧l.length≤10000000∧∀p∈l,p.lim:=by
 unfold iT at h
 simp only[Bool.and_eq_true,decide_eq_true_eq,List.all_eq_true]at h
 exact⟨fun p hp=>(IW (h.2 p hp)).1,by omega,fun p hp=>(IW (h.2 p hp)).2⟩
theorem EH{w:World}{nd:aj}(h:nd.sO=true)(ho:nd.ok w):fJ 20 w nd∧nd.lim:=by
 unfold aj.sO at h
 obtain⟨h1,h2⟩:=vk h
 simp only[Bool.or_eq_false_iff,decide_eq_false_iff_not]at h1
 simp only[Bool.and_eq_true]at h2
 have hf:=EG h2.1.2
 have hs:=EG h2.2
 have ht:=aV.Tj h2.1.1
 exact⟨⟨ho,ht,hf.1,hs.1,by decide,by decide⟩,Ae ht,by omega,by omega,hf.2.1,hf.2.2,by omega,hs.2.1,hs.2.2,by omega⟩
theorem MI{w:World}{s:aS}{n:Int}(h:s.few n=true)(hw:I64 s.w)(hh:I64 s.h)(ho:aT 47 aj.cells w s.s s.ns∧∀n∈s.ns,n.ok w):bW 20 w s∧(∀n∈s.ns,n.lim)∧(s.ns.length:Int)≤n:=by
 unfold aS.few at h
 simp only[Bool.and_eq_true,decide_eq_true_eq,List.all_eq_true]at h
 exact⟨⟨hw,hh,ho.1,fun n hn=>(EH (h.2 n hn) (ho.2 n hn)).1⟩,fun n hn=>(EH (h.2 n hn) (ho.2 n hn)).2,h.1⟩
end Go.Proofs.YtfmkkemfhjkajaaGreatDoor
