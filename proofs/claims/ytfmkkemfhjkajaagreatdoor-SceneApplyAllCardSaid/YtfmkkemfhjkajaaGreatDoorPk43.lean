/- What a law asks of a scene before it looks at it: few -/
import Derived.Test.YtfmkkemfhjkajaaGreatDoorPk40
import Derived.Test.YtfmkkemfhjkajaaGreatDoorPk37
import Derived.Test.YtfmkkemfhjkajaaGreatDoorPk31
import Derived.Test.YtfmkkemfhjkajaaGreatDoorOpn36
set_option linter.unusedVariables false
namespace Go.Proofs.YtfmkkemfhjkajaaGreatDoor
section
set_option maxHeartbeats 3200000
set_option maxRecDepth 100000
open Go.RowKit
variable{α:Type}{K:Nat}
def aS.MG(t:aS):Bool:=cond ((decide (12<(t.a.l1.length:Int)))||(decide (12<(t.a.l2.length:Int)))) (false) (cond ((decide (12<(t.b.l1.length:Int)))||(decide (12<(t.b.l2.length:Int)))) (false) (cond ((decide (12<(t.c.l1.length:Int)))||(decide (12<(t.c.l2.length:Int)))) (false) (cond ((decide (12<(t.d.l1.length:Int)))||(decide (12<(t.d.l2.length:Int)))) (false) (cond ((decide (12<(t.e.l1.length:Int)))||(decide (12<(t.e.l2.length:Int)))) (false) (cond ((decide (12<(t.f.l1.length:Int)))||(decide (12<(t.f.l2.length:Int)))) (false) (true))))))
theorem J7{w:World}{t:aS}(h:t.ok w) :
  Calls Tryz.prog 78 #[t.v] w fun e w'=>e = .returned (.bool t.MG)∧Ext w w':=by
 obtain⟨t0,t1,t2,t3,t4,t5⟩:=h;obtain⟨p0,c0,e0,-⟩:=t0.1;obtain⟨q0,d0,f0,-⟩:=t0.2;obtain⟨p1,c1,e1,-⟩:=t1.1;obtain⟨q1,d1,f1,-⟩:=t1.2;obtain⟨p2,c2,e2,-⟩:=t2.1;obtain⟨q2,d2,f2,-⟩:=t2.2;obtain⟨p3,c3,e3,-⟩:=t3.1;obtain⟨q3,d3,f3,-⟩:=t3.2;obtain⟨p4,c4,e4,-⟩:=t4.1;obtain⟨q4,d4,f4,-⟩:=t4.2;obtain⟨p5,c5,e5,-⟩:=t5.1;obtain⟨q5,d5,f5,-⟩:=t5.2;refine akk Tryz.func78 Tryz.ntmps78 fun ac S=>akg fun _ aP=>akh S 1 t.cells fun ac u b2 E3 hb4 S=>adr S 1 [] [(2,.bool false)] fun S=>akf<|aP _ _<|akg fun _ dG=>adr S 12 [.mem 0 0,.mem 0 4,.mem 0 8,.mem 0 12,.mem 0 16,.mem 0 20] [(6,t.a.v),(8,t.b.v),(10,t.c.v),(12,t.d.v),(14,t.e.v),(16,t.f.v)] fun S=>akC S 17 6 t.cells fun ac u b6 E7 hb8 S=>adr S 1 [] [(3,.slice (some ⟨b6,0,none⟩) 6 6)] fun S=>akf<|dG _ _<|wp_seq_k fun _ gX=>akg fun _ fD=>adr S 1 [] [(4,.i 0)] fun S=>akf<|fD _ _<|wp_block<|wp_loop_rounds 7 ?_;rw[rounds_succ];refine wp_seq_k fun _ dn=>akg fun _ bV=>adr S 4 [] [(21,.bool true)] fun S=>akf<|bV _ _<|akq S<|wp_skip<|dn _ _<|wp_seq_k fun _ gJ=>wp_block<|akg fun _ fC=>adr S 18 [.mem 0 1,.mem 0 3] [(41,.bool ((decide (12<(t.a.l1.length:Int)))||(decide (12<(t.a.l2.length:Int)))))] fun S=>akf (fC _ _ ?_);refine aki S (fun oO=>?_) (fun oO=>?_)
 ·refine akg fun _ jH=>adr S 1 [] [(2,.bool false)] fun S=>akf<|jH _ _<|akj S Tryz.results78 ?_;exact⟨aB (by unfold aS.MG; rw[oO]; rfl),S.E⟩
 refine wp_skip<|gJ _ _<|Vp.region<|adr S 3 [] [(4,.i 1)] fun S=>akf ?_;show Code.rounds _ _ _ 6 _ _;rw[rounds_succ];refine wp_seq_k fun _ gI=>akg fun _ jm=>adr S 4 [] [(21,.bool true)] fun S=>akf<|jm _ _<|akq S<|wp_skip<|gI _ _<|wp_seq_k fun _ jI=>wp_block<|akg fun _ iT=>adr S 18 [.mem 0 5,.mem 0 7] [(41,.bool ((decide (12<(t.b.l1.length:Int)))||(decide (12<(t.b.l2.length:Int)))))] fun S=>akf (iT _ _ ?_);refine aki S (fun hc21=>?_) (fun hc21=>?_)
 ·refine akg fun _ jv=>adr S 1 [] [(2,.bool false)] fun S=>akf<|jv _ _<|akj S Tryz.results78 ?_;exact⟨aB (by unfold aS.MG; rw[oO,hc21]; rfl),S.E⟩
 refine wp_skip<|jI _ _<|Vp.region<|adr S 3 [] [(4,.i 2)] fun S=>akf ?_;show Code.rounds _ _ _ 5 _ _;rw[rounds_succ];refine wp_seq_k fun _ jU=>akg fun _ jB=>adr S 4 [] [(21,.bool true)] fun S=>akf<|jB _ _<|akq S<|wp_skip<|jU _ _<|wp_seq_k fun _ nZ=>wp_block<|akg fun _ kN=>adr S 18 [.mem 0 9,.mem 0 11] [(41,.bool ((decide (12<(t.c.l1.length:Int)))||(decide (12<(t.c.l2.length:Int)))))] fun S=>akf (kN _ _ ?_);refine aki S (fun hc27=>?_) (fun hc27=>?_)
 ·refine akg fun _ jh=>adr S 1 [] [(2,.bool false)] fun S=>akf<|jh _ _<|akj S Tryz.results78 ?_;exact⟨aB (by unfold aS.MG; rw[oO,hc21,hc27]; rfl),S.E⟩
 refine wp_skip<|nZ _ _<|Vp.region<|adr S 3 [] [(4,.i 3)] fun S=>akf ?_;show Code.rounds _ _ _ 4 _ _;rw[rounds_succ];refine wp_seq_k fun _ qX=>akg fun _ jM=>adr S 4 [] [(21,.bool true)] fun S=>akf<|jM _ _<|akq S<|wp_skip<|qX _ _<|wp_seq_k fun _ qJ=>wp_block<|akg fun _ kW=>adr S 18 [.mem 0 13,.mem 0 15] [(41,.bool ((decide (12<(t.d.l1.length:Int)))||(decide (12<(t.d.l2.length:Int)))))] fun S=>akf (kW _ _ ?_);refine aki S (fun lU=>?_) (fun lU=>?_)
 ·refine akg fun _ uq=>adr S 1 [] [(2,.bool false)] fun S=>akf<|uq _ _<|akj S Tryz.results78 ?_;exact⟨aB (by unfold aS.MG; rw[oO,hc21,hc27,lU]; rfl),S.E⟩
 refine wp_skip<|qJ _ _<|Vp.region<|adr S 3 [] [(4,.i 4)] fun S=>akf ?_;show Code.rounds _ _ _ 3 _ _;rw[rounds_succ];refine wp_seq_k fun _ oh=>akg fun _ lG=>adr S 4 [] [(21,.bool true)] fun S=>akf<|lG _ _<|akq S<|wp_skip<|oh _ _<|wp_seq_k fun _ oM=>wp_block<|akg fun _ jC=>adr S 18 [.mem 0 17,.mem 0 19] [(41,.bool ((decide (12<(t.e.l1.length:Int)))||(decide (12<(t.e.l2.length:Int)))))] fun S=>akf (jC _ _ ?_);refine aki S (fun hc39=>?_) (fun hc39=>?_)
 ·refine akg fun _ Ai=>adr S 1 [] [(2,.bool false)] fun S=>akf<|Ai _ _<|akj S Tryz.results78 ?_;exact⟨aB (by unfold aS.MG; rw[oO,hc21,hc27,lU,hc39]; rfl),S.E⟩
 refine wp_skip<|oM _ _<|Vp.region<|adr S 3 [] [(4,.i 5)] fun S=>akf ?_;show Code.rounds _ _ _ 2 _ _;rw[rounds_succ];refine wp_seq_k fun _ pJ=>akg fun _ qL=>adr S 4 [] [(21,.bool true)] fun S=>akf<|qL _ _<|akq S<|wp_skip<|pJ _ _<|wp_seq_k fun _ rY=>wp_block<|akg fun _ uw=>adr S 18 [.mem 0 21,.mem 0 23] [(41,.bool ((decide (12<(t.f.l1.length:Int)))||(decide (12<(t.f.l2.length:Int)))))] fun S=>akf (uw _ _ ?_);refine aki S (fun wI=>?_) (fun wI=>?_)
 ·refine akg fun _ xk=>adr S 1 [] [(2,.bool false)] fun S=>akf<|xk _ _<|akj S Tryz.results78 ?_;exact⟨aB (by unfold aS.MG; rw[oO,hc21,hc27,lU,hc39,wI]; rfl),S.E⟩
 refine wp_skip<|rY _ _<|Vp.region<|adr S 3 [] [(4,.i 6)] fun S=>akf ?_;show Code.rounds _ _ _ 1 _ _;rw[rounds_succ];refine wp_seq_k fun _ zi=>akg fun _ uU=>adr S 4 [] [(21,.bool false)] fun S=>akf<|uU _ _<|akz S<|wp_exit<|gX _ _<|akg fun _ uV=>adr S 1 [] [(2,.bool true)] fun S=>akf<|uV _ _<|akj S Tryz.results78 ?_;exact⟨aB (by unfold aS.MG; rw[oO,hc21,hc27,lU,hc39,wI]; rfl),S.E⟩
theorem Um{w:World}{t:aS}(h:t.ok w) :
  Calls Tryz.prog 46 #[t.v] w fun e w'=>e = .returned (.bool t.MG)∧Ext w w':=by
 skip;refine akk Tryz.func46 Tryz.ntmps46 fun ac S=>akg fun _ aP=>akh S 1 t.cells fun ac u b2 E3 hb4 S=>adr S 1 [] [(2,.bool false)] fun S=>akf<|aP _ _<|akg fun _ dG=>adr S 1 [.mem 0 0] [(3,t.v)] fun S=>akn S 4 (J7 (t:=t) (h.below S.E)) fun ac u E6 S=>adr S 1 [] [(2,.bool t.MG)] fun S=>akf<|dG _ _<|akj S Tryz.results46 ?_;exact⟨rfl,S.E⟩
def ak.few(p:ak):Bool:=((decide ((p.stops.length:Int)≤40))&&(decide ((p.img.l.length:Int)≤300)))&&p.t.MG
theorem Yk{w:World}{p:ak}(h:p.ok w) :
  Calls Tryz.prog 79 #[p.v] w fun e w'=>e = .returned (.bool p.few)∧Ext w w':=by
 obtain⟨r1,r2,er1⟩:=h.2.2.2.2.1.shape;obtain⟨r3,r4,er2⟩:=h.2.2.2.2.2.2.2.1.2.2.shape;refine akk Tryz.func79 Tryz.ntmps79 fun ac S=>akg fun _ aP=>akh S 1 p.cells fun ac u b2 E3 hb4 S=>adr S 1 [] [(2,.bool false)] fun S=>akf<|aP _ _<|akg fun _ dG=>aku S 17 [.mem 0 10,.mem 0 14,.mem 0 16] [(_,_,((decide ((p.stops.length:Int)≤40))&&(decide ((p.img.l.length:Int)≤300))),.bool p.t.MG)] [(2,.bool (((decide ((p.stops.length:Int)≤40))&&(decide ((p.img.l.length:Int)≤300)))&&p.t.MG))] ⟨fun u hC g=>J7 (t:=p.t) (h.2.2.2.2.2.2.2.2.2.below (Ext.trans' S.E hC)),trivial⟩ fun ac u E6 S=>akf<|dG _ _<|akj S Tryz.results79 ?_;exact⟨rfl,S.E⟩
def jd(l:List ak):Bool:=decide (l.length≤4)&&l.all ak.few
theorem zN{w:World}{v:Value}{l:List ak}(h:iU w v l) :
  Calls Tryz.prog 47 #[v] w fun e w'=>e = .returned (.bool (jd l))∧Ext w w':=by
 obtain⟨a,cap,rfl⟩:=h.1.shape;have hmax:l.length≤9223372036854775807:=h.1.len;refine akk Tryz.func47 Tryz.ntmps47 fun ac S=>akg fun _ aP=>adr S 1 [] [(2,.bool false)] fun S=>akf<|aP _ _<|wp_seq_k fun _ fE=>akg fun _ iM=>adr S 3 [] [(6,.bool (4<(l.length:Int)))] fun S=>akf (iM _ _ ?_);refine aki S (fun hc4=>?_) (fun hc4=>?_)
 ·refine akg fun _ dG=>adr S 1 [] [(2,.bool false)] fun S=>akf<|dG _ _<|akj S Tryz.results47 ?_;exact⟨aB (by unfold jd; simp[show ¬l.length≤4 from by have:=of_decide_eq_true hc4; omega]),S.E⟩
 refine wp_skip<|fE _ _<|wp_seq_k fun _ jl=>akg fun _ jT=>adr S 1 [] [(3,.i 0)] fun S=>akf<|jT _ _<|wp_block ?_;refine Vp.loop (ι:=Nat) (fun p a' w'=>p≤l.length∧((l.take p).all ak.few=true)∧Sx.St w a' w' 19 [(0,.slice a l.length cap),(2,.bool false),(3,.i p)] [] []) (fun p=>l.length-p) (0) ⟨Nat.zero_le _,rfl,S.sn⟩ ?_;rintro k ac u hI;try dsimp only at hI
 obtain⟨hk,hR,S⟩:=hI;refine wp_seq_k fun _ dM=>akg fun _ gX=>adr S 4 [] [(10,.bool ((k:Int)<(l.length:Int)))] fun S=>akf (gX _ _ ?_);refine aki S (fun bW=>?_) (fun bW=>?_)
 ·refine wp_skip<|dM _ _<|wp_seq_k fun _ dn=>wp_block<|akg (fun _ bV=>?_);have rZ:k<l.length:=by have:=of_decide_eq_true bW; omega
  obtain⟨b13,o14,rfl,x19,zU,Oa,RF⟩:=Vp.gY h.1 (fun _=>rfl) (k) rZ;have S:=S.view0 Oa RF;refine adr S 4 [.idx k l.length,.mem 0 0] [(16,x19.v)] (hk:=⟨rZ,trivial⟩) fun S=>akn S 17 (Yk ((h.2 _ (zU▸List.getElem_mem rZ)).below S.E)) fun ac u zo S=>adr S 1 [] [(18,.bool (!(x19.few)))] fun S=>akf (bV _ _ ?_);refine aki S (fun hc22=>?_) (fun hc22=>?_)
  ·refine akg fun _ jU=>adr S 1 [] [(2,.bool false)] fun S=>akf<|jU _ _<|akj S Tryz.results47 ?_;exact⟨aB (by unfold jd; rw[wu rZ (by rw[zU]; simpa using hc22)]; simp),S.E⟩
  refine wp_skip<|dn _ _<|Vp.region<|adr S 3 [.re 12 (.i (IntKind.i64.wrap ((k:Int)+1))) (.i (k+1:Nat))] [(3,.i (k+1:Nat))] (hk:=⟨aks (by omega),trivial⟩) fun S=>akf ?_;show ∃i',_∧_;exact⟨(k+1),⟨by omega,(kJ rZ hR (by rw[zU]; simpa using hc22)),S.sn⟩,by show _-_<_-_; omega⟩
 refine wp_exit<|jl _ _<|akg fun _ jB=>adr S 1 [] [(2,.bool true)] fun S=>akf<|jB _ _<|akj S Tryz.results47 ?_;exact⟨aB (by unfold jd; rw[nJ (by have:=of_decide_eq_false bW; omega) hR]; simp[show l.length≤4 from by have:=of_decide_eq_false hc4; omega]),S.E⟩
def aj.kT(nd:aj):Bool:=cond ((((decide (40<(nd.clip.length:Int)))||(decide (40<(nd.path.length:Int))))||(decide (40<(nd.style.dash.length:Int))))||(decide (300<(nd.img.l.length:Int)))) false ((nd.t.MG&&(jd nd.fill))&&(jd nd.stroke))
theorem yw{w:World}{nd:aj}(h:nd.ok w) :
  Calls Tryz.prog 15 #[nd.v] w fun e w'=>e = .returned (.bool nd.kT)∧Ext w w':=by
 obtain⟨a1,c1,ecs⟩:=h.2.2.2.2.1.1.shape;obtain⟨a2,c2,eps⟩:=h.2.2.2.2.2.2.2.1.1.shape;obtain⟨a3,c3,efs⟩:=h.2.2.2.2.2.2.2.2.2.1.1.shape;obtain⟨a4,c4,ess⟩:=h.2.2.2.2.2.2.2.2.2.2.2.1.1.shape;obtain⟨a5,c5,est,-⟩:=h.2.2.2.2.2.2.2.2.2.2.1.2.2.2.2.1;obtain⟨a6,c6,eim⟩:=h.2.2.2.2.2.2.2.2.2.2.2.2.1.2.2.shape;refine akk Tryz.func15 Tryz.ntmps15 fun ac S=>akg fun _ aP=>akh S 1 nd.cells fun ac u b2 E3 hb4 S=>adr S 1 [] [(2,.bool false)] fun S=>akf<|aP _ _<|wp_seq_k fun _ dG=>akg fun _ jl=>adr S 24 [.mem 0 27,.mem 0 33,.mem 0 40,.mem 0 45] [(26,.bool ((((decide (40<(nd.clip.length:Int)))||(decide (40<(nd.path.length:Int))))||(decide (40<(nd.style.dash.length:Int))))||(decide (300<(nd.img.l.length:Int)))))] fun S=>akf (jl _ _ ?_);refine aki S (fun lD=>?_) (fun lD=>?_)
 ·refine akg fun _ dM=>adr S 1 [] [(2,.bool false)] fun S=>akf<|dM _ _<|akj S Tryz.results15 ?_;exact⟨aB (by unfold aj.kT; rw[lD]; rfl),S.E⟩
 refine wp_skip<|dG _ _<|akg fun _ gX=>adr S 2 [.mem 0 3] [(28,nd.t.v)] fun S=>akn S 29 (Um (t:=nd.t) (h.2.2.2.1.below S.E)) fun ac u zV S=>aku S 11 [.mem 0 35,.mem 0 42] [(_,_,nd.t.MG,.bool (jd nd.fill)),(_,_,(nd.t.MG&&(jd nd.fill)),.bool (jd nd.stroke))] [(2,.bool ((nd.t.MG&&(jd nd.fill))&&(jd nd.stroke)))] ⟨fun u hC g=>zN (l:=nd.fill) (h.2.2.2.2.2.2.2.2.2.1.below (Ext.trans' S.E hC)),fun u hC g=>zN (l:=nd.stroke) (h.2.2.2.2.2.2.2.2.2.2.2.1.below (Ext.trans' S.E hC)),trivial⟩ fun ac u xA S=>akf<|gX _ _<|akj S Tryz.results15 ?_;exact⟨aB (by unfold aj.kT; rw[lD]; rfl),S.E⟩
def aF.few(s:aF)(n:Int):Bool:=decide ((s.ns.length:Int)≤n)&&s.ns.all aj.kT
theorem J8{w:World}{s:aF}(h:aN 47 aj.cells w s.s s.ns∧∀n∈s.ns,n.ok w)(n:Int) :
  Calls Tryz.prog 14 #[s.v,.i n] w fun e w'=>e = .returned (.bool (s.few n))∧Ext w w':=by
 have hmax:s.ns.length≤9223372036854775807:=h.1.len;refine akk Tryz.func14 Tryz.ntmps14 (fun ac S=>?_);obtain⟨a,cap,es⟩:∃a c,s.s = .slice a s.ns.length c:=⟨_,_,rfl⟩;have hr:=h.1;rw[es]at hr;refine akg fun _ aP=>akh S 2 s.cells fun ac u b2 E3 hb4 S=>adr S 1 [] [(4,.bool false)] fun S=>akf<|aP _ _<|wp_seq_k fun _ dG=>akg fun _ jl=>adr S 5 [.mem 0 6,.re 7 s.s (.slice a s.ns.length cap)] [(10,.bool (n<(s.ns.length:Int)))] (hk:=⟨es,trivial⟩) fun S=>akf (jl _ _ ?_);refine aki S (fun lD=>?_) (fun lD=>?_)
 ·refine akg fun _ dM=>adr S 1 [] [(4,.bool false)] fun S=>akf<|dM _ _<|akj S Tryz.results14 ?_;exact⟨aB (by unfold aF.few; simp[show ¬((s.ns.length:Int)≤n)from by have:=of_decide_eq_true lD; omega]),S.E⟩
 refine wp_skip<|dG _ _<|wp_seq_k fun _ gX=>akg fun _ fD=>adr S 1 [] [(5,.i 0)] fun S=>akf<|fD _ _<|wp_block ?_;refine Vp.loop (ι:=Nat) (fun p a' w'=>p≤s.ns.length∧((s.ns.take p).all aj.kT=true)∧Sx.St w a' w' 25 [(0,s.v),(1,.i n),(2,.pointer (some ⟨b2,0,none⟩)),(4,.bool false),(5,.i p)] [(b2,s.cells)] []) (fun p=>s.ns.length-p) (0) ⟨Nat.zero_le _,rfl,S.sn⟩ ?_;rintro k ac u hI;try dsimp only at hI
 obtain⟨hk,hR,S⟩:=hI;refine wp_seq_k fun _ dn=>akg fun _ bV=>adr S 5 [.mem 0 6,.re 13 s.s (.slice a s.ns.length cap)] [(15,.bool ((k:Int)<(s.ns.length:Int)))] (hk:=⟨es,trivial⟩) fun S=>akf (bV _ _ ?_);refine aki S (fun hc13=>?_) (fun hc13=>?_)
 ·refine wp_skip<|dn _ _<|wp_seq_k fun _ fC=>wp_block<|akg (fun _ fP=>?_);have Ji:k<s.ns.length:=by have:=of_decide_eq_true hc13; omega
  obtain⟨b16,o17,rfl,x22,Yl,NK,afi⟩:=Vp.gY hr (fun _=>rfl) (k) Ji;have S:=S.view0 NK afi;refine adr S 5 [.mem 0 6,.re 19 s.s (.slice (some ⟨b16,o17,none⟩) s.ns.length cap),.idx k s.ns.length,.mem 1 0] [(22,x22.v)] (hk:=⟨es,Ji,trivial⟩) fun S=>akn S 23 (yw ((h.2 _ (Yl▸List.getElem_mem Ji)).below S.E)) fun ac u Nz S=>adr S 1 [] [(24,.bool (!x22.kT))] fun S=>akf (fP _ _ ?_);refine aki S (fun hc25=>?_) (fun hc25=>?_)
  ·refine akg fun _ kN=>adr S 1 [] [(4,.bool false)] fun S=>akf<|kN _ _<|akj S Tryz.results14 ?_;exact⟨aB (by unfold aF.few; rw[wu Ji (by rw[Yl]; simpa using hc25)]; simp),S.E⟩
  refine wp_skip<|fC _ _<|Vp.region<|adr S 3 [.re 17 (.i (IntKind.i64.wrap ((k:Int)+1))) (.i (k+1:Nat))] [(5,.i (k+1:Nat))] (hk:=⟨aks (by omega),trivial⟩) fun S=>akf ?_;show ∃i',_∧_;exact⟨(k+1),⟨by omega,(kJ Ji hR (by rw[Yl]; simpa using hc25)),S.sn⟩,by show _-_<_-_; omega⟩
 refine wp_exit<|gX _ _<|akg fun _ jK=>adr S 1 [] [(4,.bool true)] fun S=>akf<|jK _ _<|akj S Tryz.results14 ?_;exact⟨aB (by unfold aF.few; rw[nJ (by have:=of_decide_eq_false hc13; omega) hR]; simp[show((s.ns.length:Int)≤n)from by have:=of_decide_eq_false lD; omega]),S.E⟩
theorem wO:∀{a b:Bool},cond a false b=true→a=false∧b=true:=by decide
theorem Bl{t:aS}(h:t.fit 20):t.lim:=⟨h.1.mono (by decide),h.2.1.mono (by decide),h.2.2.1.mono (by decide),h.2.2.2.1.mono (by decide),h.2.2.2.2.1.mono (by decide),h.2.2.2.2.2.mono (by decide)⟩
theorem Dz{r:bK}(h:((decide (12<(r.l1.length:Int)))||(decide (12<(r.l2.length:Int))))=false):r.fit 20:=by
 simp only[Bool.or_eq_false_iff,decide_eq_false_iff_not]at h;exact⟨by omega,by omega⟩
theorem aS.VX{t:aS}(h:t.MG=true):t.fit 20:=by
 unfold aS.MG at h;obtain⟨h0,h⟩:=wO h;obtain⟨h1,h⟩:=wO h;obtain⟨h2,h⟩:=wO h;obtain⟨h3,h⟩:=wO h;obtain⟨h4,h⟩:=wO h;obtain⟨h5,h⟩:=wO h;exact⟨Dz h0,Dz h1,Dz h2,Dz h3,Dz h4,Dz h5⟩
theorem J9{p:ak}(h:p.few=true):p.t.fit 20∧p.lim:=by
 unfold ak.few at h;simp only[Bool.and_eq_true,decide_eq_true_eq]at h;have:=aS.VX h.2;exact⟨this,by omega,by omega,Bl this⟩
theorem Ij{l:List ak}(h:jd l=true):(∀p∈l,p.t.fit 20)∧l.length≤10000000∧∀p∈l,p.lim:=by
 unfold jd at h;simp only[Bool.and_eq_true,decide_eq_true_eq,List.all_eq_true]at h;exact⟨fun p hp=>(J9 (h.2 p hp)).1,by omega,fun p hp=>(J9 (h.2 p hp)).2⟩
theorem pU{w:World}{nd:aj}(h:nd.kT=true)(ho:nd.ok w):eF 20 w nd∧nd.lim:=by
 unfold aj.kT at h;obtain⟨h1,h2⟩:=wO h;simp only[Bool.or_eq_false_iff,decide_eq_false_iff_not]at h1;simp only[Bool.and_eq_true]at h2;have hf:=Ij h2.1.2;have hs:=Ij h2.2;have ht:=aS.VX h2.1.1;exact⟨⟨ho,ht,hf.1,hs.1,by decide,by decide⟩,Bl ht,by omega,by omega,hf.2.1,hf.2.2,by omega,hs.2.1,hs.2.2,by omega⟩
theorem Qk{w:World}{s:aF}{n:Int}(h:s.few n=true)(hw:I64 s.w)(hh:I64 s.h)(ho:aN 47 aj.cells w s.s s.ns∧∀n∈s.ns,n.ok w):bP 20 w s∧(∀n∈s.ns,n.lim)∧(s.ns.length:Int)≤n:=by
 unfold aF.few at h;simp only[Bool.and_eq_true,decide_eq_true_eq,List.all_eq_true]at h;exact⟨⟨hw,hh,ho.1,fun n hn=>(pU (h.2 n hn) (ho.2 n hn)).1⟩,fun n hn=>(pU (h.2 n hn) (ho.2 n hn)).2,h.1⟩
end
section
open Go.RowKit
variable{α:Type}{K:Nat}
def Un(id:Int)(t:aS):aj:=⟨id,1,0,t,none,0,[],0,255,1,false,false,none,0,[],0,none,0,[],aY.bare,none,0,[],bZ.bare,0⟩
def agG:bY:=⟨0,0,0,0⟩
def MH(id:Int)(t:aS)(b:Nat):aj:=⟨id,3,0,t,none,0,[],0,0,0,false,false,none,0,[],0,none,0,[],aY.bare,none,0,[],⟨1,1,some ⟨b,0,none⟩,1,[agG]⟩,1⟩
def TI(w:World)(t:aS):Prop:=t.ok w∧t.Is qI
theorem TI.below{w w':World}{t:aS}(h:TI w t)(hE:Ext w w'):TI w' t:=⟨h.1.below hE,h.2⟩
theorem TI.bD{w w':World}{t:aS}{b:Nat}{A:Array Value}(h:TI w t)(hc:Ch b w w')(hx:Bx w b A)(hA:A.toList.all zA=true:=by rfl):TI w' t:=⟨h.1.bD hc hx hA,h.2⟩
theorem aS.Is.q{t:aS}{Q:Q6}(h:t.Is Q)(hn:xq Q):t.q=Q:=by
 obtain⟨n0,n1,n2,n3,n4,n5⟩:=hn;obtain⟨⟨a0,b0,c0,d0⟩,⟨a1,b1,c1,d1⟩,⟨a2,b2,c2,d2⟩,⟨a3,b3,c3,d3⟩,⟨a4,b4,c4,d4⟩,⟨a5,b5,c5,d5⟩⟩:=h;unfold aS.q;rw[wR a0 b0 c0 d0 n0,wR a1 b1 c1 d1 n1,wR a2 b2 c2 d2 n2,wR a3 b3 c3 d3 n3,wR a4 b4 c4 d4 n4,wR a5 b5 c5 d5 n5]
theorem aS.Is.fit{t:aS}{Q:Q6}{K:Nat}(h:t.Is Q)(hl:Fe K Q):t.fit K:=by
 obtain⟨l0,l1,l2,l3,l4,l5⟩:=hl;obtain⟨h0,h1,h2,h3,h4,h5⟩:=h;exact⟨mg h0.2.1 h0.2.2.2 l0,mg h1.2.1 h1.2.2.2 l1,mg h2.2.1 h2.2.2.2 l2,mg h3.2.1 h3.2.2.2 l3,mg h4.2.1 h4.2.2.2 l4,mg h5.2.1 h5.2.2.2 l5⟩
theorem afj{base:Nat}{w:World}{v:Value}(h:jO base w v qI):∃t:aS,v=t.v∧TI w t:=by
 obtain⟨t,rfl,k⟩:=h.sT;obtain⟨r,e,ho,hi⟩:=TQ k;exact⟨r,e,ho,hi⟩
def gq(w:World)(id kind:Int)(nd:aj):Prop:=
 (kind=1∧∃t,TI w t∧nd=Un id t)∨(kind=2∧∃t,TI w t∧nd=gW id t)∨(kind=3∧∃t b,TI w t∧Bx w b #[.int .u8 0,.int .u8 0,.int .u8 0,.int .u8 0]∧nd=MH id t b)∨((kind≠1∧kind≠2∧kind≠3)∧nd=jY)
theorem gq.below{w w':World}{id kind:Int}{nd:aj}(h:gq w id kind nd)(hE:Ext w w'):gq w' id kind nd:=by
 rcases h with ⟨e,t,ht,h⟩ | ⟨e,t,ht,h⟩ | ⟨e,t,b,ht,hb,h⟩ | h
 ·exact .inl ⟨e,t,ht.below hE,h⟩
 ·exact .inr (.inl ⟨e,t,ht.below hE,h⟩)
 ·exact .inr (.inr (.inl ⟨e,t,b,ht.below hE,hb.ext hE,h⟩))
 exact .inr (.inr (.inr h))
theorem gq.bD{w w':World}{id kind:Int}{nd:aj}{b:Nat}{A:Array Value}(h:gq w id kind nd)(hc:Ch b w w')(hx:Bx w b A)(hA:A.toList.all zA=true:=by rfl)(h4:decide (4<A.size)=true:=by kernel_rfl):gq w' id kind nd:=by
 rcases h with ⟨e,t,ht,h⟩ | ⟨e,t,ht,h⟩ | ⟨e,t,c,ht,hb,h⟩ | h
 ·exact .inl ⟨e,t,ht.bD hc hx hA,h⟩
 ·exact .inr (.inl ⟨e,t,ht.bD hc hx hA,h⟩)
 ·exact .inr (.inr (.inl ⟨e,t,c,ht.bD hc hx hA,hb.ch hc (fun e=>by subst e; have h1:=hb.2.1 4; have h2:=hx.2.1 4; rw[h1]at h2; have h3:=of_decide_eq_true h4; simp at h2; omega),h⟩))
 exact .inr (.inr (.inr h))
set_option maxRecDepth 100000 in
set_option maxHeartbeats 3200000 in
theorem qM(id kind:Int)(w:World) :
  Calls Tryz.prog 80 #[.i id,.i kind] w fun e w'=>∃nd,e = .returned (aj.v nd)∧gq w' id kind nd∧Ext w w':=by
 skip;refine akk Tryz.func80 Tryz.ntmps80 fun ac S=>akg fun _ aP=>akh S 4 (Sx.L [.i 0,.i 0,.i 0]++Sx.za++Sx.L [.slice none 0 0,.i 0,.int .u8 0,.i 0,.bool false,.bool false,.slice none 0 0,.i 0,.slice none 0 0,.i 0,.i 0,.i 0,.i 0,.slice none 0 0,.i 0,.slice none 0 0,.i 0,.i 0,.slice none 0 0,.i 0]) fun ac u b2 E3 hb4 S=>akf<|aP _ _<|akg fun _ dG=>adr S 2 [] [(6,.i id),(7,.i kind)] fun S=>ako S (some 8) (TD _) ?_;rintro e u ⟨y,rfl,hx,E6⟩;obtain⟨t,rfl,ht⟩:=afj hx;refine⟨_,rfl,E6,fun ac S=>?_⟩;refine adr S 1 [] [(9,.agg (Sx.L [.i id,.i kind,.i 0]++t.cells++Sx.L [.slice none 0 0,.i 0,.int .u8 0,.i 0,.bool false,.bool false,.slice none 0 0,.i 0,.slice none 0 0,.i 0,.i 0,.i 0,.i 0,.slice none 0 0,.i 0,.slice none 0 0,.i 0,.i 0,.slice none 0 0,.i 0]).toArray)] fun S=>akh S 5 (Sx.L [.i 0,.i 0,.i 0]++Sx.za++Sx.L [.slice none 0 0,.i 0,.int .u8 0,.i 0,.bool false,.bool false,.slice none 0 0,.i 0,.slice none 0 0,.i 0,.i 0,.i 0,.i 0,.slice none 0 0,.i 0,.slice none 0 0,.i 0,.i 0,.slice none 0 0,.i 0]) fun ac u b7 E8 hb9 S=>akl S 0 (off:=0) (cs:=(Sx.L [.i id,.i kind,.i 0]++t.cells++Sx.L [.slice none 0 0,.i 0,.int .u8 0,.i 0,.bool false,.bool false,.slice none 0 0,.i 0,.slice none 0 0,.i 0,.i 0,.i 0,.i 0,.slice none 0 0,.i 0,.slice none 0 0,.i 0,.i 0,.slice none 0 0,.i 0])) rfl (fun u C10 S=>?_);have xA:=akp E8 C10 (by omega);refine akf<|dG _ _<|wp_seq_k fun _ bV=>akg fun _ gJ=>adr S 1 [] [(10,.i kind)] fun S=>akf<|gJ _ _<|wp_block<|akg fun _ fC=>adr S 2 [] [(12,.bool ((kind)==1))] fun S=>akf (fC _ _ ?_);refine aki S (fun oO=>?_) (fun oO=>?_)
 ·refine Vp.region<|adr S 1 [] [(14,.pointer (some ⟨b7,29,none⟩))] fun S=>akv S 0 (off:=29) (v := .int .u8 255) rfl (fun u Rz S=>?_);have Eu:=akp xA Rz (by omega);refine adr S 1 [] [(15,.pointer (some ⟨b7,30,none⟩))] fun S=>akv S 0 (off:=30) (v := .i 1) rfl (fun u YR S=>?_);have RH:=akp Eu YR (by omega);refine akf<|bV _ _<|akg fun _ iT=>adr S 1 [.mem 0 0] [(25,.agg (Sx.L [.i id,.i kind,.i 0]++t.cells++Sx.L [.slice none 0 0,.i 0,.int .u8 255,.i 1,.bool false,.bool false,.slice none 0 0,.i 0,.slice none 0 0,.i 0,.i 0,.i 0,.i 0,.slice none 0 0,.i 0,.slice none 0 0,.i 0,.i 0,.slice none 0 0,.i 0]).toArray)] (fun S=>?_);have X22:=S.bx 1;refine akl S 1 (off:=0) (cs:=(Sx.L [.i id,.i kind,.i 0]++t.cells++Sx.L [.slice none 0 0,.i 0,.int .u8 255,.i 1,.bool false,.bool false,.slice none 0 0,.i 0,.slice none 0 0,.i 0,.i 0,.i 0,.i 0,.slice none 0 0,.i 0,.slice none 0 0,.i 0,.i 0,.slice none 0 0,.i 0])) rfl (fun u C21 S=>?_);have GU:=TI.bD (ht.below RH) C21 X22;refine akf<|iT _ _<|akt S 1 Tryz.results80 rfl (v := .agg (Sx.L [.i id,.i kind,.i 0]++t.cells++Sx.L [.slice none 0 0,.i 0,.int .u8 255,.i 1,.bool false,.bool false,.slice none 0 0,.i 0,.slice none 0 0,.i 0,.i 0,.i 0,.i 0,.slice none 0 0,.i 0,.slice none 0 0,.i 0,.i 0,.slice none 0 0,.i 0]).toArray) ?_;have e:kind=1:=(by simpa using oO);subst e;exact⟨Un id t,rfl,.inl ⟨rfl,t,GU,rfl⟩,S.E⟩
 refine akg fun _ jB=>adr S 2 [] [(16,.bool ((kind)==2))] fun S=>akf (jB _ _ ?_);refine aki S (fun hc25=>?_) (fun hc25=>?_)
 ·refine Vp.region<|adr S 1 [] [(18,.pointer (some ⟨b7,34,none⟩))] fun S=>akv S 0 (off:=34) (v := .i 1) rfl (fun u C26 S=>?_);have E27:=akp xA C26 (by omega);refine akf<|bV _ _<|akg fun _ jh=>adr S 1 [.mem 0 0] [(25,.agg (Sx.L [.i id,.i kind,.i 0]++t.cells++Sx.L [.slice none 0 0,.i 0,.int .u8 0,.i 0,.bool false,.bool false,.slice none 0 0,.i 1,.slice none 0 0,.i 0,.i 0,.i 0,.i 0,.slice none 0 0,.i 0,.slice none 0 0,.i 0,.i 0,.slice none 0 0,.i 0]).toArray)] (fun S=>?_);have X30:=S.bx 1;refine akl S 1 (off:=0) (cs:=(Sx.L [.i id,.i kind,.i 0]++t.cells++Sx.L [.slice none 0 0,.i 0,.int .u8 0,.i 0,.bool false,.bool false,.slice none 0 0,.i 1,.slice none 0 0,.i 0,.i 0,.i 0,.i 0,.slice none 0 0,.i 0,.slice none 0 0,.i 0,.i 0,.slice none 0 0,.i 0])) rfl (fun u C29 S=>?_);have CV:=TI.bD (ht.below E27) C29 X30;refine akf<|jh _ _<|akt S 1 Tryz.results80 rfl (v := .agg (Sx.L [.i id,.i kind,.i 0]++t.cells++Sx.L [.slice none 0 0,.i 0,.int .u8 0,.i 0,.bool false,.bool false,.slice none 0 0,.i 1,.slice none 0 0,.i 0,.i 0,.i 0,.i 0,.slice none 0 0,.i 0,.slice none 0 0,.i 0,.i 0,.slice none 0 0,.i 0]).toArray) ?_;have e:kind=2:=(by simpa using hc25);subst e;exact⟨gW id t,rfl,.inr (.inl ⟨rfl,t,CV,rfl⟩),S.E⟩
 refine akg fun _ kW=>adr S 2 [] [(19,.bool ((kind)==3))] fun S=>akf (kW _ _ ?_);refine aki S (fun lU=>?_) (fun lU=>?_)
 ·refine Vp.region<|akC S 21 1 [.int .u8 0,.int .u8 0,.int .u8 0,.int .u8 0] fun ac u NM Jr WC S=>adr S 2 [] [(22,.agg #[.i 1,.i 1,.slice (some ⟨NM,0,none⟩) 1 1]),(23,.pointer (some ⟨b7,43,none⟩))] fun S=>akl S 1 (off:=43) (cs:=[.i 1,.i 1,.slice (some ⟨NM,0,none⟩) 1 1]) rfl (fun u C37 S=>?_);have XY:=akp (Ext.trans' xA Jr) C37 (by omega);refine adr S 1 [] [(24,.pointer (some ⟨b7,46,none⟩))] fun S=>akv S 1 (off:=46) (v := .i 1) rfl (fun u YZ S=>?_);have KU:=akp XY YZ (by omega);refine akf<|bV _ _<|akg fun _ pJ=>adr S 1 [.mem 1 0] [(25,.agg (Sx.L [.i id,.i kind,.i 0]++t.cells++Sx.L [.slice none 0 0,.i 0,.int .u8 0,.i 0,.bool false,.bool false,.slice none 0 0,.i 0,.slice none 0 0,.i 0,.i 0,.i 0,.i 0,.slice none 0 0,.i 0,.slice none 0 0,.i 1,.i 1,.slice (some ⟨NM,0,none⟩) 1 1,.i 1]).toArray)] (fun S=>?_);have X43:=S.bx 2;refine akl S 2 (off:=0) (cs:=(Sx.L [.i id,.i kind,.i 0]++t.cells++Sx.L [.slice none 0 0,.i 0,.int .u8 0,.i 0,.bool false,.bool false,.slice none 0 0,.i 0,.slice none 0 0,.i 0,.i 0,.i 0,.i 0,.slice none 0 0,.i 0,.slice none 0 0,.i 1,.i 1,.slice (some ⟨NM,0,none⟩) 1 1,.i 1])) rfl (fun u ZJ S=>?_);have N8:=TI.bD (ht.below KU) ZJ X43;refine akf<|pJ _ _<|akt S 2 Tryz.results80 rfl (v := .agg (Sx.L [.i id,.i kind,.i 0]++t.cells++Sx.L [.slice none 0 0,.i 0,.int .u8 0,.i 0,.bool false,.bool false,.slice none 0 0,.i 0,.slice none 0 0,.i 0,.i 0,.i 0,.i 0,.slice none 0 0,.i 0,.slice none 0 0,.i 1,.i 1,.slice (some ⟨NM,0,none⟩) 1 1,.i 1]).toArray) ?_;have e:kind=3:=(by simpa using lU);subst e;exact⟨MH id t NM,rfl,.inr (.inr (.inl ⟨rfl,t,NM,N8,S.bx 0,rfl⟩)),S.E⟩
 refine akg fun _ xB=>adr S 1 [] [(11,.agg (Sx.L [.i 0,.i 0,.i 0]++Sx.za++Sx.L [.slice none 0 0,.i 0,.int .u8 0,.i 0,.bool false,.bool false,.slice none 0 0,.i 0,.slice none 0 0,.i 0,.i 0,.i 0,.i 0,.slice none 0 0,.i 0,.slice none 0 0,.i 0,.i 0,.slice none 0 0,.i 0]).toArray)] (fun S=>?_);have X47:=S.bx 1;refine akl S 1 (off:=0) (cs:=(Sx.L [.i 0,.i 0,.i 0]++Sx.za++Sx.L [.slice none 0 0,.i 0,.int .u8 0,.i 0,.bool false,.bool false,.slice none 0 0,.i 0,.slice none 0 0,.i 0,.i 0,.i 0,.i 0,.slice none 0 0,.i 0,.slice none 0 0,.i 0,.i 0,.slice none 0 0,.i 0])) rfl (fun u WJ S=>?_);have WL:=TI.bD (ht.below xA) WJ X47;refine akf<|xB _ _<|akt S 1 Tryz.results80 rfl (v := .agg (Sx.L [.i 0,.i 0,.i 0]++Sx.za++Sx.L [.slice none 0 0,.i 0,.int .u8 0,.i 0,.bool false,.bool false,.slice none 0 0,.i 0,.slice none 0 0,.i 0,.i 0,.i 0,.i 0,.slice none 0 0,.i 0,.slice none 0 0,.i 0,.i 0,.slice none 0 0,.i 0]).toArray) ?_;exact⟨jY,rfl,.inr (.inr (.inr ⟨⟨(by simpa using oO),(by simpa using hc25),(by simpa using lU)⟩,rfl⟩)),S.E⟩
end
section
open Go.RowKit
variable{α:Type}{K:Nat}
theorem TI.fit{w:World}{t:aS}(h:TI w t)(hK:1≤K):t.fit K:=by
 obtain⟨h1,h2,h3,h4,h5,h6⟩:=h.2.fit adW;exact⟨h1.mono hK,h2.mono hK,h3.mono hK,h4.mono hK,h5.mono hK,h6.mono hK⟩
theorem gq.ok{w:World}{id kind:Int}{nd:aj}(h:gq w id kind nd)(hi:I64 id)(hK:1≤K)(hK2:K≤10000):eF K w nd:=by
 rcases h with ⟨-,t,ht,rfl⟩ | ⟨-,t,ht,rfl⟩ | ⟨-,t,b,ht,hb,rfl⟩ | ⟨-,rfl⟩
 ·exact⟨⟨hi,(show I64 1 by decide),iE,ht.1,ql w,iE,(show I64 1 by decide),ql w,iE,kX w,aY.jZ w,kX w,bZ.jZ w,iE⟩,ht.fit hK,fun p hp=>(by cases hp),fun p hp=>(by cases hp),hK,hK2⟩
 ·exact WE hi ht.1 (ht.fit (Nat.le_refl 1)) hK hK2
 ·refine⟨⟨hi,(show I64 3 by decide),iE,ht.1,ql w,iE,iE,ql w,iE,kX w,aY.jZ w,kX w,⟨(show I64 1 by decide),(show I64 1 by decide),?_⟩,(show I64 1 by decide)⟩,ht.fit hK,fun p hp=>(by cases hp),fun p hp=>(by cases hp),hK,hK2⟩;refine⟨some ⟨b,0,none⟩,1,rfl,by decide,.inr ⟨b,0,rfl,hb.1,Nat.le_refl _,fun i hi j hj=>?_⟩⟩;obtain rfl:i=0:=by simp[MH]at hi; exact hi
  have:=hb.2.1 j;rw[show 0+0*4+j=j by omega,this];show _=(bY.cells agG)[j]?;rw[←List.getElem?_toArray];rfl
 exact oW w hK hK2
theorem gq.key{w w2:World}{id kind:Int}{nd m:aj}(h:gq w id kind nd)(k:gq w2 id kind m):nd.key=m.key∧nd.t.same m.t=true:=by
 have hs:qI.same qI=true:=by decide
 rcases h with ⟨rfl,t,ht,rfl⟩ | ⟨rfl,t,ht,rfl⟩ | ⟨rfl,t,b,ht,-,rfl⟩ | ⟨⟨k1,k2,k3⟩,rfl⟩ <;>
 rcases k with ⟨e,u,hu,rfl⟩ | ⟨e,u,hu,rfl⟩ | ⟨e,u,c,hu,-,rfl⟩ | ⟨⟨j1,j2,j3⟩,rfl⟩ <;>
 first | contradiction | (exact absurd e (by decide)) | skip
 ·exact⟨by unfold aj.key Un; simp only[ht.2.q vV,hu.2.q vV],by show t.same u=true; rw[EO ht.2 hu.2,hs]⟩
 ·exact⟨by unfold aj.key gW; simp only[ht.2.q vV,hu.2.q vV],by show t.same u=true; rw[EO ht.2 hu.2,hs]⟩
 ·exact⟨by unfold aj.key MH bZ.key; simp only[ht.2.q vV,hu.2.q vV],by show t.same u=true; rw[EO ht.2 hu.2,hs]⟩
 exact⟨rfl,by decide⟩
theorem gq.check{w:World}{id kind:Int}{nd:aj}(h:gq w id kind nd):(nd.checkN==0)=((((decide (1≤id))&&(decide (id≤1073741824)))&&(decide (1≤kind)))&&(decide (kind≤3))):=by
 have hv:qI.valid=true:=by decide
 have hd:oL qI.wU q0=false:=by decide
 have key:∀(n:aj),n.gZ=[(false,2),((((decide (id<1))||(decide (1073741824<id)))||false)||false,6),(!n.t.q.valid,5),(oL n.t.q.wU q0,9),(false,10),(false,17)]→n.t.q=qI→n.qH=0→(n.checkN==0)=((decide (1≤id))&&(decide (id≤1073741824))):=by
  intro n hL hq ho;unfold aj.checkN;rw[hL,hq,hv,hd,ho];rw[Bool.eq_iff_iff];by_cases h1:id<1
  ·simp[badL,kP,h1]; omega
  by_cases h2:1073741824<id
  ·simp[badL,kP,h2];try omega
  simp[badL,kP,h1,h2]; omega
 rcases h with ⟨rfl,t,ht,rfl⟩ | ⟨rfl,t,ht,rfl⟩ | ⟨rfl,t,b,ht,-,rfl⟩ | ⟨⟨k1,k2,k3⟩,rfl⟩
 ·rw[key _ rfl (ht.2.q vV) rfl]; simp
 ·rw[key _ rfl (ht.2.q vV) rfl]; simp
 ·rw[key _ rfl (ht.2.q vV) rfl]; simp
 rw[KI];symm;rw[Bool.eq_iff_iff];simp only[Bool.and_eq_true,decide_eq_true_eq,beq_iff_eq];omega
end
end Go.Proofs.YtfmkkemfhjkajaaGreatDoor
