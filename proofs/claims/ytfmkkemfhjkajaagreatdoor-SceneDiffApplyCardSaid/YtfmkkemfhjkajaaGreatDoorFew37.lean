/- What a law asks of a scene before it looks at it: few nodes, and small ones. -/
import Derived.Test.YtfmkkemfhjkajaaGreatDoorPk37
set_option maxHeartbeats 3200000
set_option maxRecDepth 100000
namespace Go.Proofs.YtfmkkemfhjkajaaGreatDoor
open Go.RowKit
variable{α:Type}{K:Nat}
set_option linter.unusedVariables false
def AffD.dig(t:AffD):Bool:=cond ((decide (12<((t.a.l1.length:Nat):Int)))||(decide (12<((t.a.l2.length:Nat):Int)))) (false) (cond ((decide (12<((t.b.l1.length:Nat):Int)))||(decide (12<((t.b.l2.length:Nat):Int)))) (false) (cond ((decide (12<((t.c.l1.length:Nat):Int)))||(decide (12<((t.c.l2.length:Nat):Int)))) (false) (cond ((decide (12<((t.d.l1.length:Nat):Int)))||(decide (12<((t.d.l2.length:Nat):Int)))) (false) (cond ((decide (12<((t.e.l1.length:Nat):Int)))||(decide (12<((t.e.l2.length:Nat):Int)))) (false) (cond ((decide (12<((t.f.l1.length:Nat):Int)))||(decide (12<((t.f.l2.length:Nat):Int)))) (false) (true))))))
theorem dig34_any{w:World}{t:AffD}(h:t.ok w) :
  Calls Tryz.prog 78 #[t.v] w fun e w'=>e = .returned (.bool t.dig)∧Ext w w':=by
 obtain⟨t0,t1,t2,t3,t4,t5⟩:=h
 obtain⟨p0,c0,e0,-⟩:=t0.1
 obtain⟨q0,d0,f0,-⟩:=t0.2
 obtain⟨p1,c1,e1,-⟩:=t1.1
 obtain⟨q1,d1,f1,-⟩:=t1.2
 obtain⟨p2,c2,e2,-⟩:=t2.1
 obtain⟨q2,d2,f2,-⟩:=t2.2
 obtain⟨p3,c3,e3,-⟩:=t3.1
 obtain⟨q3,d3,f3,-⟩:=t3.2
 obtain⟨p4,c4,e4,-⟩:=t4.1
 obtain⟨q4,d4,f4,-⟩:=t4.2
 obtain⟨p5,c5,e5,-⟩:=t5.1
 obtain⟨q5,d5,f5,-⟩:=t5.2
 refine Sx.enter Tryz.func78 Tryz.ntmps78 fun ac S=>Sx.seqP fun _ κ1=>Sx.newp S 1 t.cells fun ac u b2 E3 hb4 S=>Sx.run S 1 [] [(2,.bool false)] fun ac S=>Sx.done<|κ1 _ _<|Sx.seqP fun _ κ5=>Sx.run S 12 [.mem 0 0,.mem 0 4,.mem 0 8,.mem 0 12,.mem 0 16,.mem 0 20] [(6,t.a.v),(8,t.b.v),(10,t.c.v),(12,t.d.v),(14,t.e.v),(16,t.f.v)] fun ac S=>Sx.news S 17 6 t.cells fun ac u b6 E7 hb8 S=>Sx.run S 1 [] [(3,.slice (some ⟨b6,0,none⟩) 6 6)] fun ac S=>Sx.done<|κ5 _ _<|wp_seq_k fun _ κ9=>Sx.seqP fun _ κ10=>Sx.run S 1 [] [(4,.int .i64 0)] fun ac S=>Sx.done<|κ10 _ _<|wp_block<|wp_loop_rounds 7 ?_
 rw[rounds_succ]
 refine wp_seq_k fun _ κ11=>Sx.seqP fun _ κ12=>Sx.run S 4 [] [(21,.bool true)] fun ac S=>Sx.done<|κ12 _ _<|Sx.condT S<|wp_skip<|κ11 _ _<|wp_seq_k fun _ κ13=>wp_block<|Sx.seqP fun _ κ14=>Sx.run S 18 [.mem 0 1,.mem 0 3] [(41,.bool ((decide (12<((t.a.l1.length:Nat):Int)))||(decide (12<((t.a.l2.length:Nat):Int)))))] fun ac S=>Sx.done (κ14 _ _ ?_)
 refine Sx.cond S (fun hc15=>?_) (fun hc15=>?_)
 ·refine Sx.seqP fun _ κ16=>Sx.run S 1 [] [(2,.bool false)] fun ac S=>Sx.done<|κ16 _ _<|Vp.rt ?_
  refine Sx.ret1 S Tryz.results78 ?_
  exact⟨ret_bool (by unfold AffD.dig; rw[hc15]; rfl),S.E⟩
 ·refine wp_skip<|κ13 _ _<|Vp.region<|Sx.run S 3 [] [(4,.int .i64 1)] fun ac S=>Sx.done ?_
  show Code.rounds _ _ _ 6 _ _
  rw[rounds_succ]
  refine wp_seq_k fun _ κ17=>Sx.seqP fun _ κ18=>Sx.run S 4 [] [(21,.bool true)] fun ac S=>Sx.done<|κ18 _ _<|Sx.condT S<|wp_skip<|κ17 _ _<|wp_seq_k fun _ κ19=>wp_block<|Sx.seqP fun _ κ20=>Sx.run S 18 [.mem 0 5,.mem 0 7] [(41,.bool ((decide (12<((t.b.l1.length:Nat):Int)))||(decide (12<((t.b.l2.length:Nat):Int)))))] fun ac S=>Sx.done (κ20 _ _ ?_)
  refine Sx.cond S (fun hc21=>?_) (fun hc21=>?_)
  ·refine Sx.seqP fun _ κ22=>Sx.run S 1 [] [(2,.bool false)] fun ac S=>Sx.done<|κ22 _ _<|Vp.rt ?_
   refine Sx.ret1 S Tryz.results78 ?_
   exact⟨ret_bool (by unfold AffD.dig; rw[hc15,hc21]; rfl),S.E⟩
  ·refine wp_skip<|κ19 _ _<|Vp.region<|Sx.run S 3 [] [(4,.int .i64 2)] fun ac S=>Sx.done ?_
   show Code.rounds _ _ _ 5 _ _
   rw[rounds_succ]
   refine wp_seq_k fun _ κ23=>Sx.seqP fun _ κ24=>Sx.run S 4 [] [(21,.bool true)] fun ac S=>Sx.done<|κ24 _ _<|Sx.condT S<|wp_skip<|κ23 _ _<|wp_seq_k fun _ κ25=>wp_block<|Sx.seqP fun _ κ26=>Sx.run S 18 [.mem 0 9,.mem 0 11] [(41,.bool ((decide (12<((t.c.l1.length:Nat):Int)))||(decide (12<((t.c.l2.length:Nat):Int)))))] fun ac S=>Sx.done (κ26 _ _ ?_)
   refine Sx.cond S (fun hc27=>?_) (fun hc27=>?_)
   ·refine Sx.seqP fun _ κ28=>Sx.run S 1 [] [(2,.bool false)] fun ac S=>Sx.done<|κ28 _ _<|Vp.rt ?_
    refine Sx.ret1 S Tryz.results78 ?_
    exact⟨ret_bool (by unfold AffD.dig; rw[hc15,hc21,hc27]; rfl),S.E⟩
   ·refine wp_skip<|κ25 _ _<|Vp.region<|Sx.run S 3 [] [(4,.int .i64 3)] fun ac S=>Sx.done ?_
    show Code.rounds _ _ _ 4 _ _
    rw[rounds_succ]
    refine wp_seq_k fun _ κ29=>Sx.seqP fun _ κ30=>Sx.run S 4 [] [(21,.bool true)] fun ac S=>Sx.done<|κ30 _ _<|Sx.condT S<|wp_skip<|κ29 _ _<|wp_seq_k fun _ κ31=>wp_block<|Sx.seqP fun _ κ32=>Sx.run S 18 [.mem 0 13,.mem 0 15] [(41,.bool ((decide (12<((t.d.l1.length:Nat):Int)))||(decide (12<((t.d.l2.length:Nat):Int)))))] fun ac S=>Sx.done (κ32 _ _ ?_)
    refine Sx.cond S (fun hc33=>?_) (fun hc33=>?_)
    ·refine Sx.seqP fun _ κ34=>Sx.run S 1 [] [(2,.bool false)] fun ac S=>Sx.done<|κ34 _ _<|Vp.rt ?_
     refine Sx.ret1 S Tryz.results78 ?_
     exact⟨ret_bool (by unfold AffD.dig; rw[hc15,hc21,hc27,hc33]; rfl),S.E⟩
    ·refine wp_skip<|κ31 _ _<|Vp.region<|Sx.run S 3 [] [(4,.int .i64 4)] fun ac S=>Sx.done ?_
     show Code.rounds _ _ _ 3 _ _
     rw[rounds_succ]
     refine wp_seq_k fun _ κ35=>Sx.seqP fun _ κ36=>Sx.run S 4 [] [(21,.bool true)] fun ac S=>Sx.done<|κ36 _ _<|Sx.condT S<|wp_skip<|κ35 _ _<|wp_seq_k fun _ κ37=>wp_block<|Sx.seqP fun _ κ38=>Sx.run S 18 [.mem 0 17,.mem 0 19] [(41,.bool ((decide (12<((t.e.l1.length:Nat):Int)))||(decide (12<((t.e.l2.length:Nat):Int)))))] fun ac S=>Sx.done (κ38 _ _ ?_)
     refine Sx.cond S (fun hc39=>?_) (fun hc39=>?_)
     ·refine Sx.seqP fun _ κ40=>Sx.run S 1 [] [(2,.bool false)] fun ac S=>Sx.done<|κ40 _ _<|Vp.rt ?_
      refine Sx.ret1 S Tryz.results78 ?_
      exact⟨ret_bool (by unfold AffD.dig; rw[hc15,hc21,hc27,hc33,hc39]; rfl),S.E⟩
     ·refine wp_skip<|κ37 _ _<|Vp.region<|Sx.run S 3 [] [(4,.int .i64 5)] fun ac S=>Sx.done ?_
      show Code.rounds _ _ _ 2 _ _
      rw[rounds_succ]
      refine wp_seq_k fun _ κ41=>Sx.seqP fun _ κ42=>Sx.run S 4 [] [(21,.bool true)] fun ac S=>Sx.done<|κ42 _ _<|Sx.condT S<|wp_skip<|κ41 _ _<|wp_seq_k fun _ κ43=>wp_block<|Sx.seqP fun _ κ44=>Sx.run S 18 [.mem 0 21,.mem 0 23] [(41,.bool ((decide (12<((t.f.l1.length:Nat):Int)))||(decide (12<((t.f.l2.length:Nat):Int)))))] fun ac S=>Sx.done (κ44 _ _ ?_)
      refine Sx.cond S (fun hc45=>?_) (fun hc45=>?_)
      ·refine Sx.seqP fun _ κ46=>Sx.run S 1 [] [(2,.bool false)] fun ac S=>Sx.done<|κ46 _ _<|Vp.rt ?_
       refine Sx.ret1 S Tryz.results78 ?_
       exact⟨ret_bool (by unfold AffD.dig; rw[hc15,hc21,hc27,hc33,hc39,hc45]; rfl),S.E⟩
      ·refine wp_skip<|κ43 _ _<|Vp.region<|Sx.run S 3 [] [(4,.int .i64 6)] fun ac S=>Sx.done ?_
       show Code.rounds _ _ _ 1 _ _
       rw[rounds_succ]
       refine wp_seq_k fun _ κ47=>Sx.seqP fun _ κ48=>Sx.run S 4 [] [(21,.bool false)] fun ac S=>Sx.done<|κ48 _ _<|Sx.condF S<|wp_exit<|κ9 _ _<|Sx.seqP fun _ κ49=>Sx.run S 1 [] [(2,.bool true)] fun ac S=>Sx.done<|κ49 _ _<|Vp.rt ?_
       refine Sx.ret1 S Tryz.results78 ?_
       exact⟨ret_bool (by unfold AffD.dig; rw[hc15,hc21,hc27,hc33,hc39,hc45]; rfl),S.E⟩
theorem dig34b_any{w:World}{t:AffD}(h:t.ok w) :
  Calls Tryz.prog 46 #[t.v] w fun e w'=>e = .returned (.bool t.dig)∧Ext w w':=by
 skip
 refine Sx.enter Tryz.func46 Tryz.ntmps46 fun ac S=>Sx.seqP fun _ κ1=>Sx.newp S 1 t.cells fun ac u b2 E3 hb4 S=>Sx.run S 1 [] [(2,.bool false)] fun ac S=>Sx.done<|κ1 _ _<|Sx.seqP fun _ κ5=>Sx.run S 1 [.mem 0 0] [(3,t.v)] fun ac S=>Sx.callv S 4 (dig34_any (t:=t) (h.below S.E)) fun ac u E6 S=>Sx.run S 1 [] [(2,.bool t.dig)] fun ac S=>Sx.done<|κ5 _ _<|Vp.rt ?_
 refine Sx.ret1 S Tryz.results46 ?_
 exact⟨rfl,S.E⟩
def PaintD.few(p:PaintD):Bool:=((decide (((p.stops.length:Nat):Int)≤40))&&(decide (((p.img.l.length:Nat):Int)≤300)))&&p.t.dig
theorem few34_any{w:World}{p:PaintD}(h:p.ok w) :
  Calls Tryz.prog 79 #[p.v] w fun e w'=>e = .returned (.bool p.few)∧Ext w w':=by
 obtain⟨r1,r2,er1⟩:=h.2.2.2.2.1.shape
 obtain⟨r3,r4,er2⟩:=h.2.2.2.2.2.2.2.1.2.2.shape
 refine Sx.enter Tryz.func79 Tryz.ntmps79 fun ac S=>Sx.seqP fun _ κ1=>Sx.newp S 1 p.cells fun ac u b2 E3 hb4 S=>Sx.run S 1 [] [(2,.bool false)] fun ac S=>Sx.done<|κ1 _ _<|Sx.seqP fun _ κ5=>Sx.runC S 17 [.mem 0 10,.mem 0 14,.mem 0 16] [(_,_,((decide (((p.stops.length:Nat):Int)≤40))&&(decide (((p.img.l.length:Nat):Int)≤300))),.bool p.t.dig)] [(2,.bool (((decide (((p.stops.length:Nat):Int)≤40))&&(decide (((p.img.l.length:Nat):Int)≤300)))&&p.t.dig))] ⟨fun u hC g=>dig34_any (t:=p.t) (h.2.2.2.2.2.2.2.2.2.below (Ext.trans' S.E hC)),trivial⟩ fun ac u E6 S=>Sx.done<|κ5 _ _<|Vp.rt ?_
 refine Sx.ret1 S Tryz.results79 ?_
 exact⟨rfl,S.E⟩
def paintsFew(l:List PaintD):Bool:=decide (l.length≤4)&&l.all PaintD.few
theorem paintsFew_any{w:World}{v:Value}{l:List PaintD}(h:IsPaints w v l) :
  Calls Tryz.prog 47 #[v] w fun e w'=>e = .returned (.bool (paintsFew l))∧Ext w w':=by
 obtain⟨a,cap,rfl⟩:=h.1.shape
 have hmax:l.length≤9223372036854775807:=h.1.len
 refine Sx.enter Tryz.func47 Tryz.ntmps47 fun ac S=>Sx.seqP fun _ κ1=>Sx.run S 1 [] [(2,.bool false)] fun ac S=>Sx.done<|κ1 _ _<|wp_seq_k fun _ κ2=>Sx.seqP fun _ κ3=>Sx.run S 3 [] [(6,.bool (decide (4<((l.length:Nat):Int))))] fun ac S=>Sx.done (κ3 _ _ ?_)
 refine Sx.cond S (fun hc4=>?_) (fun hc4=>?_)
 ·refine Sx.seqP fun _ κ5=>Sx.run S 1 [] [(2,.bool false)] fun ac S=>Sx.done<|κ5 _ _<|Vp.rt ?_
  refine Sx.ret1 S Tryz.results47 ?_
  exact⟨ret_bool (by unfold paintsFew; simp[show ¬l.length≤4 from by have:=of_decide_eq_true hc4; omega]),S.E⟩
 ·refine wp_skip<|κ2 _ _<|wp_seq_k fun _ κ6=>Sx.seqP fun _ κ7=>Sx.run S 1 [] [(3,.int .i64 0)] fun ac S=>Sx.done<|κ7 _ _<|wp_block ?_
  refine Vp.loop (ι:=Nat) (fun p a' w'=>p≤l.length∧((l.take p).all PaintD.few=true)∧Sx.St w a' w' 19 [(0,.slice a l.length cap),(2,.bool false),(3,.int .i64 ((p:Nat):Int))] [] []) (fun p=>l.length-p) (0) ⟨Nat.zero_le _,rfl,(S.sub [(0,.slice a l.length cap),(2,.bool false),(3,.int .i64 ((0:Nat):Int))]).noviews⟩ ?_
  rintro k ac u hI
  try dsimp only at hI
  obtain⟨hk,hR,S⟩:=hI
  refine wp_seq_k fun _ κ8=>Sx.seqP fun _ κ9=>Sx.run S 4 [] [(10,.bool (decide (((k:Nat):Int)<((l.length:Nat):Int))))] fun ac S=>Sx.done (κ9 _ _ ?_)
  refine Sx.cond S (fun hc10=>?_) (fun hc10=>?_)
  ·refine wp_skip<|κ8 _ _<|wp_seq_k fun _ κ11=>wp_block<|Sx.seqP (fun _ κ12=>?_)
   have lt18:k<l.length:=by have:=of_decide_eq_true hc10; omega
   obtain⟨b13,o14,c15,hv,hb20,hr16⟩:=Vp.rowN_range2 h.1 (fun _=>rfl) (k) lt18
   simp only[Value.slice.injEq,true_and]at hv
   obtain⟨rfl,rfl⟩:=hv
   obtain⟨x19,hx17⟩:∃z,l[k]=z:=⟨_,rfl⟩
   rw[hx17]at hr16
   have S:=S.view0 hb20 hr16
   refine Sx.run S 4 [.idx k l.length,.mem 0 0] [(16,x19.v)] (hk:=⟨lt18,trivial⟩) fun ac S=>Sx.callv S 17 (few34_any ((h.2 _ (hx17▸List.getElem_mem lt18)).below S.E)) fun ac u E21 S=>Sx.run S 1 [] [(18,.bool (!(x19.few)))] fun ac S=>Sx.done (κ12 _ _ ?_)
   refine Sx.cond S (fun hc22=>?_) (fun hc22=>?_)
   ·refine Sx.seqP fun _ κ23=>Sx.run S 1 [] [(2,.bool false)] fun ac S=>Sx.done<|κ23 _ _<|Vp.rt ?_
    refine Sx.ret1 S Tryz.results47 ?_
    exact⟨ret_bool (by unfold paintsFew; rw[not_all lt18 (by rw[hx17]; simpa using hc22)]; simp),S.E⟩
   ·refine wp_skip<|κ11 _ _<|Vp.region<|Sx.run S 3 [.re 12 (.int .i64 (IntKind.i64.wrap (((k:Nat):Int)+1))) (.int .i64 (((k+1):Nat):Int))] [(3,.int .i64 (((k+1):Nat):Int))] (hk:=⟨Sx.wrap_succ (by omega),trivial⟩) fun ac S=>Sx.done ?_
    show ∃i',_∧_
    exact⟨(k+1),⟨by omega,(all_take_succ lt18 hR (by rw[hx17]; simpa using hc22)),(S.sub [(0,.slice (some ⟨b13,o14,none⟩) l.length cap),(2,.bool false),(3,.int .i64 (((k+1):Nat):Int))]).noviews⟩,by show _-_<_-_; omega⟩
  ·refine wp_exit<|κ6 _ _<|Sx.seqP fun _ κ24=>Sx.run S 1 [] [(2,.bool true)] fun ac S=>Sx.done<|κ24 _ _<|Vp.rt ?_
   refine Sx.ret1 S Tryz.results47 ?_
   exact⟨ret_bool (by unfold paintsFew; rw[all_of_take (by have:=of_decide_eq_false hc10; omega) hR]; simp[show l.length≤4 from by have:=of_decide_eq_false hc4; omega]),S.E⟩
def NodeD.small37(nd:NodeD):Bool:=cond ((((decide (40<((nd.clip.length:Nat):Int)))||(decide (40<((nd.path.length:Nat):Int))))||(decide (40<((nd.style.dash.length:Nat):Int))))||(decide (300<((nd.img.l.length:Nat):Int)))) false ((nd.t.dig&&(paintsFew nd.fill))&&(paintsFew nd.stroke))
theorem small37_any{w:World}{nd:NodeD}(h:nd.ok w) :
  Calls Tryz.prog 15 #[nd.v] w fun e w'=>e = .returned (.bool nd.small37)∧Ext w w':=by
 obtain⟨a1,c1,ecs⟩:=h.2.2.2.2.1.1.shape
 obtain⟨a2,c2,eps⟩:=h.2.2.2.2.2.2.2.1.1.shape
 obtain⟨a3,c3,efs⟩:=h.2.2.2.2.2.2.2.2.2.1.1.shape
 obtain⟨a4,c4,ess⟩:=h.2.2.2.2.2.2.2.2.2.2.2.1.1.shape
 obtain⟨a5,c5,est,-⟩:=h.2.2.2.2.2.2.2.2.2.2.1.2.2.2.2.1
 obtain⟨a6,c6,eim⟩:=h.2.2.2.2.2.2.2.2.2.2.2.2.1.2.2.shape
 refine Sx.enter Tryz.func15 Tryz.ntmps15 fun ac S=>Sx.seqP fun _ κ1=>Sx.newp S 1 nd.cells fun ac u b2 E3 hb4 S=>Sx.run S 1 [] [(2,.bool false)] fun ac S=>Sx.done<|κ1 _ _<|wp_seq_k fun _ κ5=>Sx.seqP fun _ κ6=>Sx.run S 24 [.mem 0 27,.mem 0 33,.mem 0 40,.mem 0 45] [(26,.bool ((((decide (40<((nd.clip.length:Nat):Int)))||(decide (40<((nd.path.length:Nat):Int))))||(decide (40<((nd.style.dash.length:Nat):Int))))||(decide (300<((nd.img.l.length:Nat):Int)))))] fun ac S=>Sx.done (κ6 _ _ ?_)
 refine Sx.cond S (fun hc7=>?_) (fun hc7=>?_)
 ·refine Sx.seqP fun _ κ8=>Sx.run S 1 [] [(2,.bool false)] fun ac S=>Sx.done<|κ8 _ _<|Vp.rt ?_
  refine Sx.ret1 S Tryz.results15 ?_
  exact⟨ret_bool (by unfold NodeD.small37; rw[hc7]; rfl),S.E⟩
 ·refine wp_skip<|κ5 _ _<|Sx.seqP fun _ κ9=>Sx.run S 2 [.mem 0 3] [(28,nd.t.v)] fun ac S=>Sx.callv S 29 (dig34b_any (t:=nd.t) (h.2.2.2.1.below S.E)) fun ac u E10 S=>Sx.runC S 11 [.mem 0 35,.mem 0 42] [(_,_,nd.t.dig,.bool (paintsFew nd.fill)),(_,_,(nd.t.dig&&(paintsFew nd.fill)),.bool (paintsFew nd.stroke))] [(2,.bool ((nd.t.dig&&(paintsFew nd.fill))&&(paintsFew nd.stroke)))] ⟨fun u hC g=>paintsFew_any (l:=nd.fill) (h.2.2.2.2.2.2.2.2.2.1.below (Ext.trans' S.E hC)),fun u hC g=>paintsFew_any (l:=nd.stroke) (h.2.2.2.2.2.2.2.2.2.2.2.1.below (Ext.trans' S.E hC)),trivial⟩ fun ac u E11 S=>Sx.done<|κ9 _ _<|Vp.rt ?_
  refine Sx.ret1 S Tryz.results15 ?_
  exact⟨ret_bool (by unfold NodeD.small37; rw[hc7]; rfl),S.E⟩
def SceneD.few(s:SceneD)(n:Int):Bool:=decide ((s.ns.length:Int)≤n)&&s.ns.all NodeD.small37
theorem few37_any{w:World}{s:SceneD}(h:IsRowN 47 NodeD.cells w s.s s.ns∧∀n∈s.ns,n.ok w)(n:Int) :
  Calls Tryz.prog 14 #[s.v,.int .i64 n] w fun e w'=>e = .returned (.bool (s.few n))∧Ext w w':=by
 have hmax:s.ns.length≤9223372036854775807:=h.1.len
 refine Sx.enter Tryz.func14 Tryz.ntmps14 (fun ac S=>?_)
 obtain⟨a,cap,es⟩:∃a c,s.s = .slice a s.ns.length c:=⟨_,_,rfl⟩
 have hr:=h.1
 rw[es]at hr
 refine Sx.seqP fun _ κ1=>Sx.newp S 2 s.cells fun ac u b2 E3 hb4 S=>Sx.run S 1 [] [(4,.bool false)] fun ac S=>Sx.done<|κ1 _ _<|wp_seq_k fun _ κ5=>Sx.seqP fun _ κ6=>Sx.run S 5 [.mem 0 6,.re 7 s.s (.slice a s.ns.length cap)] [(10,.bool (decide (n<((s.ns.length:Nat):Int))))] (hk:=⟨es,trivial⟩) fun ac S=>Sx.done (κ6 _ _ ?_)
 refine Sx.cond S (fun hc7=>?_) (fun hc7=>?_)
 ·refine Sx.seqP fun _ κ8=>Sx.run S 1 [] [(4,.bool false)] fun ac S=>Sx.done<|κ8 _ _<|Vp.rt ?_
  refine Sx.ret1 S Tryz.results14 ?_
  exact⟨ret_bool (by unfold SceneD.few; simp[show ¬((s.ns.length:Int)≤n)from by have:=of_decide_eq_true hc7; omega]),S.E⟩
 ·refine wp_skip<|κ5 _ _<|wp_seq_k fun _ κ9=>Sx.seqP fun _ κ10=>Sx.run S 1 [] [(5,.int .i64 0)] fun ac S=>Sx.done<|κ10 _ _<|wp_block ?_
  refine Vp.loop (ι:=Nat) (fun p a' w'=>p≤s.ns.length∧((s.ns.take p).all NodeD.small37=true)∧Sx.St w a' w' 25 [(0,s.v),(1,.int .i64 n),(2,.pointer (some ⟨b2,0,none⟩)),(4,.bool false),(5,.int .i64 ((p:Nat):Int))] [(b2,s.cells)] []) (fun p=>s.ns.length-p) (0) ⟨Nat.zero_le _,rfl,(S.sub [(0,s.v),(1,.int .i64 n),(2,.pointer (some ⟨b2,0,none⟩)),(4,.bool false),(5,.int .i64 ((0:Nat):Int))]).noviews⟩ ?_
  rintro k ac u hI
  try dsimp only at hI
  obtain⟨hk,hR,S⟩:=hI
  refine wp_seq_k fun _ κ11=>Sx.seqP fun _ κ12=>Sx.run S 5 [.mem 0 6,.re 13 s.s (.slice a s.ns.length cap)] [(15,.bool (decide (((k:Nat):Int)<((s.ns.length:Nat):Int))))] (hk:=⟨es,trivial⟩) fun ac S=>Sx.done (κ12 _ _ ?_)
  refine Sx.cond S (fun hc13=>?_) (fun hc13=>?_)
  ·refine wp_skip<|κ11 _ _<|wp_seq_k fun _ κ14=>wp_block<|Sx.seqP (fun _ κ15=>?_)
   have lt21:k<s.ns.length:=by have:=of_decide_eq_true hc13; omega
   obtain⟨b16,o17,c18,hv,hb23,hr19⟩:=Vp.rowN_range2 hr (fun _=>rfl) (k) lt21
   simp only[Value.slice.injEq,true_and]at hv
   obtain⟨rfl,rfl⟩:=hv
   obtain⟨x22,hx20⟩:∃z,s.ns[k]=z:=⟨_,rfl⟩
   rw[hx20]at hr19
   have S:=S.view0 hb23 hr19
   refine Sx.run S 5 [.mem 0 6,.re 19 s.s (.slice (some ⟨b16,o17,none⟩) s.ns.length cap),.idx k s.ns.length,.mem 1 0] [(22,x22.v)] (hk:=⟨es,lt21,trivial⟩) fun ac S=>Sx.callv S 23 (small37_any ((h.2 _ (hx20▸List.getElem_mem lt21)).below S.E)) fun ac u E24 S=>Sx.run S 1 [] [(24,.bool (!x22.small37))] fun ac S=>Sx.done (κ15 _ _ ?_)
   refine Sx.cond S (fun hc25=>?_) (fun hc25=>?_)
   ·refine Sx.seqP fun _ κ26=>Sx.run S 1 [] [(4,.bool false)] fun ac S=>Sx.done<|κ26 _ _<|Vp.rt ?_
    refine Sx.ret1 S Tryz.results14 ?_
    exact⟨ret_bool (by unfold SceneD.few; rw[not_all lt21 (by rw[hx20]; simpa using hc25)]; simp),S.E⟩
   ·refine wp_skip<|κ14 _ _<|Vp.region<|Sx.run S 3 [.re 17 (.int .i64 (IntKind.i64.wrap (((k:Nat):Int)+1))) (.int .i64 (((k+1):Nat):Int))] [(5,.int .i64 (((k+1):Nat):Int))] (hk:=⟨Sx.wrap_succ (by omega),trivial⟩) fun ac S=>Sx.done ?_
    show ∃i',_∧_
    exact⟨(k+1),⟨by omega,(all_take_succ lt21 hR (by rw[hx20]; simpa using hc25)),(S.sub [(0,s.v),(1,.int .i64 n),(2,.pointer (some ⟨b2,0,none⟩)),(4,.bool false),(5,.int .i64 (((k+1):Nat):Int))]).noviews⟩,by show _-_<_-_; omega⟩
  ·refine wp_exit<|κ9 _ _<|Sx.seqP fun _ κ27=>Sx.run S 1 [] [(4,.bool true)] fun ac S=>Sx.done<|κ27 _ _<|Vp.rt ?_
   refine Sx.ret1 S Tryz.results14 ?_
   exact⟨ret_bool (by unfold SceneD.few; rw[all_of_take (by have:=of_decide_eq_false hc13; omega) hR]; simp[show((s.ns.length:Int)≤n)from by have:=of_decide_eq_false hc7; omega]),S.E⟩
theorem cond_ff:∀{a b:Bool},cond a false b=true→a=false∧b=true:=by decide
theorem fit_lim{t:AffD}(h:t.fit 20):t.lim:=⟨h.1.mono (by decide),h.2.1.mono (by decide),h.2.2.1.mono (by decide),h.2.2.2.1.mono (by decide),h.2.2.2.2.1.mono (by decide),h.2.2.2.2.2.mono (by decide)⟩
theorem dig_of{r:RatD}(h:((decide (12<((r.l1.length:Nat):Int)))||(decide (12<((r.l2.length:Nat):Int))))=false):r.fit 20:=by
 simp only[Bool.or_eq_false_iff,decide_eq_false_iff_not]at h
 exact⟨by omega,by omega⟩
theorem AffD.dig_fit{t:AffD}(h:t.dig=true):t.fit 20:=by
 unfold AffD.dig at h
 obtain⟨h0,h⟩:=cond_ff h
 obtain⟨h1,h⟩:=cond_ff h
 obtain⟨h2,h⟩:=cond_ff h
 obtain⟨h3,h⟩:=cond_ff h
 obtain⟨h4,h⟩:=cond_ff h
 obtain⟨h5,h⟩:=cond_ff h
 exact⟨dig_of h0,dig_of h1,dig_of h2,dig_of h3,dig_of h4,dig_of h5⟩
theorem few_paint{p:PaintD}(h:p.few=true):p.t.fit 20∧p.lim:=by
 unfold PaintD.few at h
 simp only[Bool.and_eq_true,decide_eq_true_eq]at h
 have:=AffD.dig_fit h.2
 exact⟨this,by omega,by omega,fit_lim this⟩
theorem few_paints{l:List PaintD}(h:paintsFew l=true):(∀p∈l,p.t.fit 20)∧l.length≤10000000∧∀p∈l,p.lim:=by
 unfold paintsFew at h
 simp only[Bool.and_eq_true,decide_eq_true_eq,List.all_eq_true]at h
 exact⟨fun p hp=>(few_paint (h.2 p hp)).1,by omega,fun p hp=>(few_paint (h.2 p hp)).2⟩
theorem small37_ok{w:World}{nd:NodeD}(h:nd.small37=true)(ho:nd.ok w):NodeOk 20 w nd∧nd.lim:=by
 unfold NodeD.small37 at h
 obtain⟨h1,h2⟩:=cond_ff h
 simp only[Bool.or_eq_false_iff,decide_eq_false_iff_not]at h1
 simp only[Bool.and_eq_true]at h2
 have hf:=few_paints h2.1.2
 have hs:=few_paints h2.2
 have ht:=AffD.dig_fit h2.1.1
 exact⟨⟨ho,ht,hf.1,hs.1,by decide,by decide⟩,fit_lim ht,by omega,by omega,hf.2.1,hf.2.2,by omega,hs.2.1,hs.2.2,by omega⟩
theorem few37_ok{w:World}{s:SceneD}{n:Int}(h:s.few n=true)(hw:I64 s.w)(hh:I64 s.h)(ho:IsRowN 47 NodeD.cells w s.s s.ns∧∀n∈s.ns,n.ok w):SceneOk 20 w s∧(∀n∈s.ns,n.lim)∧(s.ns.length:Int)≤n:=by
 unfold SceneD.few at h
 simp only[Bool.and_eq_true,decide_eq_true_eq,List.all_eq_true]at h
 exact⟨⟨hw,hh,ho.1,fun n hn=>(small37_ok (h.2 n hn) (ho.2 n hn)).1⟩,fun n hn=>(small37_ok (h.2 n hn) (ho.2 n hn)).2,h.1⟩
end Go.Proofs.YtfmkkemfhjkajaaGreatDoor
