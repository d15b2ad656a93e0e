/- What a law asks of a scene before it looks at it: few -/
import Derived.Test.YtfmkkemfhjkajaaGreatDoorPk39
set_option linter.unusedVariables false
namespace Go.Proofs.YtfmkkemfhjkajaaGreatDoor
open _root_.Go.Proofs.Tryz
section
set_option maxHeartbeats 3200000
set_option maxRecDepth 100000
open Go.RowKit
variable{α:Type}{K:Nat}
def aP.NJ(t:aP):Bool:=cond ((decide (12<(t.a.l1.length:Int)))||(decide (12<(t.a.l2.length:Int)))) (false) (cond ((decide (12<(t.b.l1.length:Int)))||(decide (12<(t.b.l2.length:Int)))) (false) (cond ((decide (12<(t.c.l1.length:Int)))||(decide (12<(t.c.l2.length:Int)))) (false) (cond ((decide (12<(t.d.l1.length:Int)))||(decide (12<(t.d.l2.length:Int)))) (false) (cond ((decide (12<(t.e.l1.length:Int)))||(decide (12<(t.e.l2.length:Int)))) (false) (cond ((decide (12<(t.f.l1.length:Int)))||(decide (12<(t.f.l2.length:Int)))) (false) (true))))))
theorem KY{w:World}{t:aP}(h:t.ok w) :
  Calls prog 78 #[t.v] w fun e w'=>e = .returned (.bool t.NJ)∧Ext w w':=by
 obtain⟨t0,t1,t2,t3,t4,t5⟩:=h;obtain⟨p0,c0,e0,-⟩:=t0.1;obtain⟨q0,d0,f0,-⟩:=t0.2;obtain⟨p1,c1,e1,-⟩:=t1.1;obtain⟨q1,d1,f1,-⟩:=t1.2;obtain⟨p2,c2,e2,-⟩:=t2.1;obtain⟨q2,d2,f2,-⟩:=t2.2;obtain⟨p3,c3,e3,-⟩:=t3.1;obtain⟨q3,d3,f3,-⟩:=t3.2;obtain⟨p4,c4,e4,-⟩:=t4.1;obtain⟨q4,d4,f4,-⟩:=t4.2;obtain⟨p5,c5,e5,-⟩:=t5.1;obtain⟨q5,d5,f5,-⟩:=t5.2;refine am0 func78 ntmps78 fun ac S=>amW fun _ aO=>amY S 1 t.cells fun ac u b2 E3 hb4 S=>adr S 1 [] [(2,.bool false)] fun S=>amV<|aO _ _<|amW fun _ dA=>adr S 12 [.mem 0 0,.mem 0 4,.mem 0 8,.mem 0 12,.mem 0 16,.mem 0 20] [(6,t.a.v),(8,t.b.v),(10,t.c.v),(12,t.d.v),(14,t.e.v),(16,t.f.v)] fun S=>ani S 17 6 t.cells fun ac u b6 E7 hb8 S=>adr S 1 [] [(3,.slice (some ⟨b6,0,none⟩) 6 6)] fun S=>amV<|dA _ _<|anj fun _ gZ=>amW fun _ fE=>adr S 1 [] [(4,.i 0)] fun S=>amV<|fE _ _<|anp<|aoP 7 ?_;rw[anH];refine anj fun _ bW=>amW fun _ cZ=>adr S 4 [] [(21,.bool true)] fun S=>amV<|cZ _ _<|am7 S<|ano<|bW _ _<|anj fun _ gJ=>anp<|amW fun _ gU=>adr S 18 [.mem 0 1,.mem 0 3] [(41,.bool ((decide (12<(t.a.l1.length:Int)))||(decide (12<(t.a.l2.length:Int)))))] fun S=>amV (gU _ _ ?_);refine amX S (fun rV=>?_) (fun rV=>?_)
 ·refine amW fun _ jM=>adr S 1 [] [(2,.bool false)] fun S=>amV<|jM _ _<|amZ S results78 ?_;exact⟨aB (by unfold aP.NJ; rw[rV]; rfl),S.E⟩
 refine ano<|gJ _ _<|ant<|adr S 3 [] [(4,.i 1)] fun S=>amV ?_;show Code.rounds _ _ _ 6 _ _;rw[anH];refine anj fun _ iD=>amW fun _ jH=>adr S 4 [] [(21,.bool true)] fun S=>amV<|jH _ _<|am7 S<|ano<|iD _ _<|anj fun _ ji=>anp<|amW fun _ jo=>adr S 18 [.mem 0 5,.mem 0 7] [(41,.bool ((decide (12<(t.b.l1.length:Int)))||(decide (12<(t.b.l2.length:Int)))))] fun S=>amV (jo _ _ ?_);refine amX S (fun hc21=>?_) (fun hc21=>?_)
 ·refine amW fun _ kE=>adr S 1 [] [(2,.bool false)] fun S=>amV<|kE _ _<|amZ S results78 ?_;exact⟨aB (by unfold aP.NJ; rw[rV,hc21]; rfl),S.E⟩
 refine ano<|ji _ _<|ant<|adr S 3 [] [(4,.i 2)] fun S=>amV ?_;show Code.rounds _ _ _ 5 _ _;rw[anH];refine anj fun _ oO=>amW fun _ lq=>adr S 4 [] [(21,.bool true)] fun S=>amV<|lq _ _<|am7 S<|ano<|oO _ _<|anj fun _ uz=>anp<|amW fun _ kQ=>adr S 18 [.mem 0 9,.mem 0 11] [(41,.bool ((decide (12<(t.c.l1.length:Int)))||(decide (12<(t.c.l2.length:Int)))))] fun S=>amV (kQ _ _ ?_);refine amX S (fun hc27=>?_) (fun hc27=>?_)
 ·refine amW fun _ kR=>adr S 1 [] [(2,.bool false)] fun S=>amV<|kR _ _<|amZ S results78 ?_;exact⟨aB (by unfold aP.NJ; rw[rV,hc21,hc27]; rfl),S.E⟩
 refine ano<|uz _ _<|ant<|adr S 3 [] [(4,.i 3)] fun S=>amV ?_;show Code.rounds _ _ _ 4 _ _;rw[anH];refine anj fun _ qm=>amW fun _ mM=>adr S 4 [] [(21,.bool true)] fun S=>amV<|mM _ _<|am7 S<|ano<|qm _ _<|anj fun _ qp=>anp<|amW fun _ jF=>adr S 18 [.mem 0 13,.mem 0 15] [(41,.bool ((decide (12<(t.d.l1.length:Int)))||(decide (12<(t.d.l2.length:Int)))))] fun S=>amV (jF _ _ ?_);refine amX S (fun mX=>?_) (fun mX=>?_)
 ·refine amW fun _ wQ=>adr S 1 [] [(2,.bool false)] fun S=>amV<|wQ _ _<|amZ S results78 ?_;exact⟨aB (by unfold aP.NJ; rw[rV,hc21,hc27,mX]; rfl),S.E⟩
 refine ano<|qp _ _<|ant<|adr S 3 [] [(4,.i 4)] fun S=>amV ?_;show Code.rounds _ _ _ 3 _ _;rw[anH];refine anj fun _ nI=>amW fun _ oP=>adr S 4 [] [(21,.bool true)] fun S=>amV<|oP _ _<|am7 S<|ano<|nI _ _<|anj fun _ uH=>anp<|amW fun _ jG=>adr S 18 [.mem 0 17,.mem 0 19] [(41,.bool ((decide (12<(t.e.l1.length:Int)))||(decide (12<(t.e.l2.length:Int)))))] fun S=>amV (jG _ _ ?_);refine amX S (fun hc39=>?_) (fun hc39=>?_)
 ·refine amW fun _ yj=>adr S 1 [] [(2,.bool false)] fun S=>amV<|yj _ _<|amZ S results78 ?_;exact⟨aB (by unfold aP.NJ; rw[rV,hc21,hc27,mX,hc39]; rfl),S.E⟩
 refine ano<|uH _ _<|ant<|adr S 3 [] [(4,.i 5)] fun S=>amV ?_;show Code.rounds _ _ _ 2 _ _;rw[anH];refine anj fun _ qj=>amW fun _ ql=>adr S 4 [] [(21,.bool true)] fun S=>amV<|ql _ _<|am7 S<|ano<|qj _ _<|anj fun _ rE=>anp<|amW fun _ vg=>adr S 18 [.mem 0 21,.mem 0 23] [(41,.bool ((decide (12<(t.f.l1.length:Int)))||(decide (12<(t.f.l2.length:Int)))))] fun S=>amV (vg _ _ ?_);refine amX S (fun AX=>?_) (fun AX=>?_)
 ·refine amW fun _ zH=>adr S 1 [] [(2,.bool false)] fun S=>amV<|zH _ _<|amZ S results78 ?_;exact⟨aB (by unfold aP.NJ; rw[rV,hc21,hc27,mX,hc39,AX]; rfl),S.E⟩
 refine ano<|rE _ _<|ant<|adr S 3 [] [(4,.i 6)] fun S=>amV ?_;show Code.rounds _ _ _ 1 _ _;rw[anH];refine anj fun _ zK=>amW fun _ zN=>adr S 4 [] [(21,.bool false)] fun S=>amV<|zN _ _<|ane S<|anB<|gZ _ _<|amW fun _ xU=>adr S 1 [] [(2,.bool true)] fun S=>amV<|xU _ _<|amZ S results78 ?_;exact⟨aB (by unfold aP.NJ; rw[rV,hc21,hc27,mX,hc39,AX]; rfl),S.E⟩
theorem U1{w:World}{t:aP}(h:t.ok w) :
  Calls prog 46 #[t.v] w fun e w'=>e = .returned (.bool t.NJ)∧Ext w w':=by
 skip;refine am0 func46 ntmps46 fun ac S=>amW fun _ aO=>amY S 1 t.cells fun ac u b2 E3 hb4 S=>adr S 1 [] [(2,.bool false)] fun S=>amV<|aO _ _<|amW fun _ dA=>adr S 1 [.mem 0 0] [(3,t.v)] fun S=>am3 S 4 (KY (t:=t) (h.below S.E)) fun ac u E6 S=>adr S 1 [] [(2,.bool t.NJ)] fun S=>amV<|dA _ _<|amZ S results46 ?_;exact⟨rfl,S.E⟩
def ak.few(p:ak):Bool:=((decide ((p.stops.length:Int)≤40))&&(decide ((p.img.l.length:Int)≤300)))&&p.t.NJ
theorem Y7{w:World}{p:ak}(h:p.ok w) :
  Calls prog 79 #[p.v] w fun e w'=>e = .returned (.bool p.few)∧Ext w w':=by
 obtain⟨r1,r2,er1⟩:=h.2.2.2.2.1.shape;obtain⟨r3,r4,er2⟩:=h.2.2.2.2.2.2.2.1.2.2.shape;refine am0 func79 ntmps79 fun ac S=>amW fun _ aO=>amY S 1 p.cells fun ac u b2 E3 hb4 S=>adr S 1 [] [(2,.bool false)] fun S=>amV<|aO _ _<|amW fun _ dA=>am9 S 17 [.mem 0 10,.mem 0 14,.mem 0 16] [(_,_,((decide ((p.stops.length:Int)≤40))&&(decide ((p.img.l.length:Int)≤300))),.bool p.t.NJ)] [(2,.bool (((decide ((p.stops.length:Int)≤40))&&(decide ((p.img.l.length:Int)≤300)))&&p.t.NJ))] ⟨fun u hC g=>KY (t:=p.t) (h.2.2.2.2.2.2.2.2.2.below (Ext.trans' S.E hC)),trivial⟩ fun ac u E6 S=>amV<|dA _ _<|amZ S results79 ?_;exact⟨rfl,S.E⟩
def jq(l:List ak):Bool:=decide (l.length≤4)&&l.all ak.few
theorem Aj{w:World}{v:Value}{l:List ak}(h:jd w v l) :
  Calls prog 47 #[v] w fun e w'=>e = .returned (.bool (jq l))∧Ext w w':=by
 obtain⟨a,cap,rfl⟩:=h.1.shape;have hmax:l.length≤9223372036854775807:=h.1.len;refine am0 func47 ntmps47 fun ac S=>amW fun _ aO=>adr S 1 [] [(2,.bool false)] fun S=>amV<|aO _ _<|anj fun _ eG=>amW fun _ gY=>adr S 3 [] [(6,.bool (4<(l.length:Int)))] fun S=>amV (gY _ _ ?_);refine amX S (fun hc4=>?_) (fun hc4=>?_)
 ·refine amW fun _ dA=>adr S 1 [] [(2,.bool false)] fun S=>amV<|dA _ _<|amZ S results47 ?_;exact⟨aB (by unfold jq; simp[show ¬l.length≤4 from by have:=anC hc4; omega]),S.E⟩
 refine ano<|eG _ _<|anj fun _ iQ=>amW fun _ jB=>adr S 1 [] [(3,.i 0)] fun S=>amV<|jB _ _<|anp ?_;refine anP (ι:=Nat) (fun p a' w'=>p≤l.length∧((l.take p).all ak.few=true)∧Sx.St w a' w' 19 [(0,.slice a l.length cap),(2,.bool false),(3,.i p)] [] []) (fun p=>l.length-p) (0) ⟨anz _,rfl,S.sn⟩ ?_;rintro k ac u hI;try dsimp only at hI
 obtain⟨hk,hR,S⟩:=hI;refine anj fun _ dJ=>amW fun _ gZ=>adr S 4 [] [(10,.bool ((k:Int)<(l.length:Int)))] fun S=>amV (gZ _ _ ?_);refine amX S (fun bM=>?_) (fun bM=>?_)
 ·refine ano<|dJ _ _<|anj fun _ bW=>anp<|amW (fun _ cZ=>?_);have mG:k<l.length:=by have:=anC bM; omega
  obtain⟨b13,o14,rfl,x19,xR,Js,LX⟩:=anF h.1 (fun _=>rfl) (k) mG;have S:=S.view0 Js LX;refine adr S 4 [.idx k l.length,.mem 0 0] [(16,x19.v)] (hk:=⟨mG,trivial⟩) fun S=>am3 S 17 (Y7 ((h.2 _ (xR▸anJ mG)).below S.E)) fun ac u ES S=>adr S 1 [] [(18,.bool (!(x19.few)))] fun S=>amV (cZ _ _ ?_);refine amX S (fun hc22=>?_) (fun hc22=>?_)
  ·refine amW fun _ oO=>adr S 1 [] [(2,.bool false)] fun S=>amV<|oO _ _<|amZ S results47 ?_;exact⟨aB (by unfold jq; rw[wV mG (by rw[xR]; simpa using hc22)]; simp),S.E⟩
  refine ano<|bW _ _<|ant<|adr S 3 [.re 12 (.i (IntKind.i64.wrap ((k:Int)+1))) (.i (k+1:Nat))] [(3,.i (k+1:Nat))] (hk:=⟨am8 (by omega),trivial⟩) fun S=>amV ?_;show ∃i',_∧_;exact⟨(k+1),⟨by omega,(kK mG hR (by rw[xR]; simpa using hc22)),S.sn⟩,by show _-_<_-_; omega⟩
 refine anB<|iQ _ _<|amW fun _ lq=>adr S 1 [] [(2,.bool true)] fun S=>amV<|lq _ _<|amZ S results47 ?_;exact⟨aB (by unfold jq; rw[og (by have:=anE bM; omega) hR]; simp[show l.length≤4 from by have:=anE hc4; omega]),S.E⟩
def aj.uZ(nd:aj):Bool:=cond ((((decide (40<(nd.clip.length:Int)))||(decide (40<(nd.path.length:Int))))||(decide (40<(nd.style.dash.length:Int))))||(decide (300<(nd.img.l.length:Int)))) false ((nd.t.NJ&&(jq nd.fill))&&(jq nd.stroke))
theorem Q5{w:World}{nd:aj}(h:nd.ok w) :
  Calls prog 15 #[nd.v] w fun e w'=>e = .returned (.bool nd.uZ)∧Ext w w':=by
 obtain⟨a1,c1,ecs⟩:=h.2.2.2.2.1.1.shape;obtain⟨a2,c2,eps⟩:=h.2.2.2.2.2.2.2.1.1.shape;obtain⟨a3,c3,efs⟩:=h.2.2.2.2.2.2.2.2.2.1.1.shape;obtain⟨a4,c4,ess⟩:=h.2.2.2.2.2.2.2.2.2.2.2.1.1.shape;obtain⟨a5,c5,est,-⟩:=h.2.2.2.2.2.2.2.2.2.2.1.2.2.2.2.1;obtain⟨a6,c6,eim⟩:=h.2.2.2.2.2.2.2.2.2.2.2.2.1.2.2.shape;refine am0 func15 ntmps15 fun ac S=>amW fun _ aO=>amY S 1 nd.cells fun ac u b2 E3 hb4 S=>adr S 1 [] [(2,.bool false)] fun S=>amV<|aO _ _<|anj fun _ dA=>amW fun _ iQ=>adr S 24 [.mem 0 27,.mem 0 33,.mem 0 40,.mem 0 45] [(26,.bool ((((decide (40<(nd.clip.length:Int)))||(decide (40<(nd.path.length:Int))))||(decide (40<(nd.style.dash.length:Int))))||(decide (300<(nd.img.l.length:Int)))))] fun S=>amV (iQ _ _ ?_);refine amX S (fun kP=>?_) (fun kP=>?_)
 ·refine amW fun _ dJ=>adr S 1 [] [(2,.bool false)] fun S=>amV<|dJ _ _<|amZ S results15 ?_;exact⟨aB (by unfold aj.uZ; rw[kP]; rfl),S.E⟩
 refine ano<|dA _ _<|amW fun _ gZ=>adr S 2 [.mem 0 3] [(28,nd.t.v)] fun S=>am3 S 29 (U1 (t:=nd.t) (h.2.2.2.1.below S.E)) fun ac u BF S=>am9 S 11 [.mem 0 35,.mem 0 42] [(_,_,nd.t.NJ,.bool (jq nd.fill)),(_,_,(nd.t.NJ&&(jq nd.fill)),.bool (jq nd.stroke))] [(2,.bool ((nd.t.NJ&&(jq nd.fill))&&(jq nd.stroke)))] ⟨fun u hC g=>Aj (l:=nd.fill) (h.2.2.2.2.2.2.2.2.2.1.below (Ext.trans' S.E hC)),fun u hC g=>Aj (l:=nd.stroke) (h.2.2.2.2.2.2.2.2.2.2.2.1.below (Ext.trans' S.E hC)),trivial⟩ fun ac u wO S=>amV<|gZ _ _<|amZ S results15 ?_;exact⟨aB (by unfold aj.uZ; rw[kP]; rfl),S.E⟩
def aT.few(s:aT)(n:Int):Bool:=decide ((s.ns.length:Int)≤n)&&s.ns.all aj.uZ
theorem KZ{w:World}{s:aT}(h:aN 47 aj.cells w s.s s.ns∧∀n∈s.ns,n.ok w)(n:Int) :
  Calls prog 14 #[s.v,.i n] w fun e w'=>e = .returned (.bool (s.few n))∧Ext w w':=by
 have hmax:s.ns.length≤9223372036854775807:=h.1.len;refine am0 func14 ntmps14 (fun ac S=>?_);obtain⟨a,cap,es⟩:∃a c,s.s = .slice a s.ns.length c:=⟨_,_,rfl⟩;have hr:=h.1;rw[es]at hr;refine amW fun _ aO=>amY S 2 s.cells fun ac u b2 E3 hb4 S=>adr S 1 [] [(4,.bool false)] fun S=>amV<|aO _ _<|anj fun _ dA=>amW fun _ iQ=>adr S 5 [.mem 0 6,.re 7 s.s (.slice a s.ns.length cap)] [(10,.bool (n<(s.ns.length:Int)))] (hk:=⟨es,trivial⟩) fun S=>amV (iQ _ _ ?_);refine amX S (fun kP=>?_) (fun kP=>?_)
 ·refine amW fun _ dJ=>adr S 1 [] [(4,.bool false)] fun S=>amV<|dJ _ _<|amZ S results14 ?_;exact⟨aB (by unfold aT.few; simp[show ¬((s.ns.length:Int)≤n)from by have:=anC kP; omega]),S.E⟩
 refine ano<|dA _ _<|anj fun _ gZ=>amW fun _ fE=>adr S 1 [] [(5,.i 0)] fun S=>amV<|fE _ _<|anp ?_;refine anP (ι:=Nat) (fun p a' w'=>p≤s.ns.length∧((s.ns.take p).all aj.uZ=true)∧Sx.St w a' w' 25 [(0,s.v),(1,.i n),(2,.pointer (some ⟨b2,0,none⟩)),(4,.bool false),(5,.i p)] [(b2,s.cells)] []) (fun p=>s.ns.length-p) (0) ⟨anz _,rfl,S.sn⟩ ?_;rintro k ac u hI;try dsimp only at hI
 obtain⟨hk,hR,S⟩:=hI;refine anj fun _ bW=>amW fun _ cZ=>adr S 5 [.mem 0 6,.re 13 s.s (.slice a s.ns.length cap)] [(15,.bool ((k:Int)<(s.ns.length:Int)))] (hk:=⟨es,trivial⟩) fun S=>amV (cZ _ _ ?_);refine amX S (fun hc13=>?_) (fun hc13=>?_)
 ·refine ano<|bW _ _<|anj fun _ gU=>anp<|amW (fun _ gV=>?_);have BI:k<s.ns.length:=by have:=anC hc13; omega
  obtain⟨b16,o17,rfl,x22,Ju,Jt,aaq⟩:=anF hr (fun _=>rfl) (k) BI;have S:=S.view0 Jt aaq;refine adr S 5 [.mem 0 6,.re 19 s.s (.slice (some ⟨b16,o17,none⟩) s.ns.length cap),.idx k s.ns.length,.mem 1 0] [(22,x22.v)] (hk:=⟨es,BI,trivial⟩) fun S=>am3 S 23 (Q5 ((h.2 _ (Ju▸anJ BI)).below S.E)) fun ac u Ul S=>adr S 1 [] [(24,.bool (!x22.uZ))] fun S=>amV (gV _ _ ?_);refine amX S (fun hc25=>?_) (fun hc25=>?_)
  ·refine amW fun _ kQ=>adr S 1 [] [(4,.bool false)] fun S=>amV<|kQ _ _<|amZ S results14 ?_;exact⟨aB (by unfold aT.few; rw[wV BI (by rw[Ju]; simpa using hc25)]; simp),S.E⟩
  refine ano<|gU _ _<|ant<|adr S 3 [.re 17 (.i (IntKind.i64.wrap ((k:Int)+1))) (.i (k+1:Nat))] [(5,.i (k+1:Nat))] (hk:=⟨am8 (by omega),trivial⟩) fun S=>amV ?_;show ∃i',_∧_;exact⟨(k+1),⟨by omega,(kK BI hR (by rw[Ju]; simpa using hc25)),S.sn⟩,by show _-_<_-_; omega⟩
 refine anB<|gZ _ _<|amW fun _ kY=>adr S 1 [] [(4,.bool true)] fun S=>amV<|kY _ _<|amZ S results14 ?_;exact⟨aB (by unfold aT.few; rw[og (by have:=anE hc13; omega) hR]; simp[show((s.ns.length:Int)≤n)from by have:=anE kP; omega]),S.E⟩
theorem xE:∀{a b:Bool},cond a false b=true→a=false∧b=true:=by decide
theorem CY{t:aP}(h:t.fit 20):t.lim:=⟨h.1.mono (by decide),h.2.1.mono (by decide),h.2.2.1.mono (by decide),h.2.2.2.1.mono (by decide),h.2.2.2.2.1.mono (by decide),h.2.2.2.2.2.mono (by decide)⟩
theorem D5{r:bP}(h:((decide (12<(r.l1.length:Int)))||(decide (12<(r.l2.length:Int))))=false):r.fit 20:=by
 simp only[aom,aoC]at h;exact⟨by omega,by omega⟩
theorem aP.Xg{t:aP}(h:t.NJ=true):t.fit 20:=by
 unfold aP.NJ at h;obtain⟨h0,h⟩:=xE h;obtain⟨h1,h⟩:=xE h;obtain⟨h2,h⟩:=xE h;obtain⟨h3,h⟩:=xE h;obtain⟨h4,h⟩:=xE h;obtain⟨h5,h⟩:=xE h;exact⟨D5 h0,D5 h1,D5 h2,D5 h3,D5 h4,D5 h5⟩
theorem La{p:ak}(h:p.few=true):p.t.fit 20∧p.lim:=by
 unfold ak.few at h;simp only[anM,anT]at h;have:=aP.Xg h.2;exact⟨this,by omega,by omega,CY this⟩
theorem IL{l:List ak}(h:jq l=true):(∀p∈l,p.t.fit 20)∧l.length≤10000000∧∀p∈l,p.lim:=by
 unfold jq at h;simp only[anM,anT,anV]at h;exact⟨fun p hp=>(La (h.2 p hp)).1,by omega,fun p hp=>(La (h.2 p hp)).2⟩
theorem IQ{w:World}{nd:aj}(h:nd.uZ=true)(ho:nd.ok w):fV 20 w nd∧nd.lim:=by
 unfold aj.uZ at h;obtain⟨h1,h2⟩:=xE h;simp only[aom,aoC]at h1;simp only[anM]at h2;have hf:=IL h2.1.2;have hs:=IL h2.2;have ht:=aP.Xg h2.1.1;exact⟨⟨ho,ht,hf.1,hs.1,by decide,by decide⟩,CY ht,by omega,by omega,hf.2.1,hf.2.2,by omega,hs.2.1,hs.2.2,by omega⟩
theorem Q7{w:World}{s:aT}{n:Int}(h:s.few n=true)(hw:I64 s.w)(hh:I64 s.h)(ho:aN 47 aj.cells w s.s s.ns∧∀n∈s.ns,n.ok w):dU 20 w s∧(∀n∈s.ns,n.lim)∧(s.ns.length:Int)≤n:=by
 unfold aT.few at h;simp only[anM,anT,anV]at h;exact⟨⟨hw,hh,ho.1,fun n hn=>(IQ (h.2 n hn) (ho.2 n hn)).1⟩,fun n hn=>(IQ (h.2 n hn) (ho.2 n hn)).2,h.1⟩
end
section
open Go.RowKit
variable{α:Type}{K:Nat}
def U2(id:Int)(t:aP):aj:=⟨id,1,0,t,none,0,[],0,255,1,false,false,none,0,[],0,none,0,[],aW.bare,none,0,[],cO.bare,0⟩
def aie:dO:=⟨0,0,0,0⟩
def NK(id:Int)(t:aP)(b:Nat):aj:=⟨id,3,0,t,none,0,[],0,0,0,false,false,none,0,[],0,none,0,[],aW.bare,none,0,[],⟨1,1,some ⟨b,0,none⟩,1,[aie]⟩,1⟩
def TI(w:World)(t:aP):Prop:=t.ok w∧t.Is qI
theorem TI.below{w w':World}{t:aP}(h:TI w t)(hE:Ext w w'):TI w' t:=⟨h.1.below hE,h.2⟩
theorem TI.bG{w w':World}{t:aP}{b:Nat}{A:Array Value}(h:TI w t)(hc:Ch b w w')(hx:Bx w b A)(hA:A.toList.all zW=true:=by rfl):TI w' t:=⟨h.1.bG hc hx hA,h.2⟩
theorem aP.Is.q{t:aP}{Q:Q6}(h:t.Is Q)(hn:xX Q):t.q=Q:=by
 obtain⟨n0,n1,n2,n3,n4,n5⟩:=hn;obtain⟨⟨a0,b0,c0,d0⟩,⟨a1,b1,c1,d1⟩,⟨a2,b2,c2,d2⟩,⟨a3,b3,c3,d3⟩,⟨a4,b4,c4,d4⟩,⟨a5,b5,c5,d5⟩⟩:=h;unfold aP.q;rw[xO a0 b0 c0 d0 n0,xO a1 b1 c1 d1 n1,xO a2 b2 c2 d2 n2,xO a3 b3 c3 d3 n3,xO a4 b4 c4 d4 n4,xO a5 b5 c5 d5 n5]
theorem aP.Is.fit{t:aP}{Q:Q6}{K:Nat}(h:t.Is Q)(hl:G8 K Q):t.fit K:=by
 obtain⟨l0,l1,l2,l3,l4,l5⟩:=hl;obtain⟨h0,h1,h2,h3,h4,h5⟩:=h;exact⟨nG h0.2.1 h0.2.2.2 l0,nG h1.2.1 h1.2.2.2 l1,nG h2.2.1 h2.2.2.2 l2,nG h3.2.1 h3.2.2.2 l3,nG h4.2.1 h4.2.2.2 l4,nG h5.2.1 h5.2.2.2 l5⟩
theorem agM{base:Nat}{w:World}{v:Value}(h:jQ base w v qI):∃t:aP,v=t.v∧TI w t:=by
 obtain⟨t,rfl,k⟩:=h.sT;obtain⟨r,e,ho,hi⟩:=UF k;exact⟨r,e,ho,hi⟩
def gB(w:World)(id kind:Int)(nd:aj):Prop:=
 (kind=1∧∃t,TI w t∧nd=U2 id t)∨(kind=2∧∃t,TI w t∧nd=iE id t)∨(kind=3∧∃t b,TI w t∧Bx w b #[.int .u8 0,.int .u8 0,.int .u8 0,.int .u8 0]∧nd=NK id t b)∨((kind≠1∧kind≠2∧kind≠3)∧nd=gK)
theorem gB.below{w w':World}{id kind:Int}{nd:aj}(h:gB w id kind nd)(hE:Ext w w'):gB w' id kind nd:=by
 rcases h with ⟨e,t,ht,h⟩ | ⟨e,t,ht,h⟩ | ⟨e,t,b,ht,hb,h⟩ | h
 ·exact .inl ⟨e,t,ht.below hE,h⟩
 ·exact .inr (.inl ⟨e,t,ht.below hE,h⟩)
 ·exact .inr (.inr (.inl ⟨e,t,b,ht.below hE,hb.ext hE,h⟩))
 exact .inr (.inr (.inr h))
theorem gB.bG{w w':World}{id kind:Int}{nd:aj}{b:Nat}{A:Array Value}(h:gB w id kind nd)(hc:Ch b w w')(hx:Bx w b A)(hA:A.toList.all zW=true:=by rfl)(h4:decide (4<A.size)=true:=by kernel_rfl):gB w' id kind nd:=by
 rcases h with ⟨e,t,ht,h⟩ | ⟨e,t,ht,h⟩ | ⟨e,t,c,ht,hb,h⟩ | h
 ·exact .inl ⟨e,t,ht.bG hc hx hA,h⟩
 ·exact .inr (.inl ⟨e,t,ht.bG hc hx hA,h⟩)
 ·exact .inr (.inr (.inl ⟨e,t,c,ht.bG hc hx hA,hb.ch hc (fun e=>by subst e; have h1:=hb.2.1 4; have h2:=hx.2.1 4; rw[h1]at h2; have h3:=anC h4; simp at h2; omega),h⟩))
 exact .inr (.inr (.inr h))
set_option maxRecDepth 100000 in
set_option maxHeartbeats 3200000 in
theorem rM(id kind:Int)(w:World) :
  Calls prog 80 #[.i id,.i kind] w fun e w'=>∃nd,e = .returned (aj.v nd)∧gB w' id kind nd∧Ext w w':=by
 skip;refine am0 func80 ntmps80 fun ac S=>amW fun _ aO=>amY S 4 (Sx.L [.i 0,.i 0,.i 0]++Sx.za++Sx.L [.slice none 0 0,.i 0,.int .u8 0,.i 0,.bool false,.bool false,.slice none 0 0,.i 0,.slice none 0 0,.i 0,.i 0,.i 0,.i 0,.slice none 0 0,.i 0,.slice none 0 0,.i 0,.i 0,.slice none 0 0,.i 0]) fun ac u b2 E3 hb4 S=>amV<|aO _ _<|amW fun _ dA=>adr S 2 [] [(6,.i id),(7,.i kind)] fun S=>am4 S (some 8) (Un _) ?_;rintro e u ⟨y,rfl,hx,E6⟩;obtain⟨t,rfl,ht⟩:=agM hx;refine⟨_,rfl,E6,fun ac S=>?_⟩;refine adr S 1 [] [(9,.agg (Sx.L [.i id,.i kind,.i 0]++t.cells++Sx.L [.slice none 0 0,.i 0,.int .u8 0,.i 0,.bool false,.bool false,.slice none 0 0,.i 0,.slice none 0 0,.i 0,.i 0,.i 0,.i 0,.slice none 0 0,.i 0,.slice none 0 0,.i 0,.i 0,.slice none 0 0,.i 0]).toArray)] fun S=>amY S 5 (Sx.L [.i 0,.i 0,.i 0]++Sx.za++Sx.L [.slice none 0 0,.i 0,.int .u8 0,.i 0,.bool false,.bool false,.slice none 0 0,.i 0,.slice none 0 0,.i 0,.i 0,.i 0,.i 0,.slice none 0 0,.i 0,.slice none 0 0,.i 0,.i 0,.slice none 0 0,.i 0]) fun ac u b7 E8 hb9 S=>am1 S 0 (off:=0) (cs:=(Sx.L [.i id,.i kind,.i 0]++t.cells++Sx.L [.slice none 0 0,.i 0,.int .u8 0,.i 0,.bool false,.bool false,.slice none 0 0,.i 0,.slice none 0 0,.i 0,.i 0,.i 0,.i 0,.slice none 0 0,.i 0,.slice none 0 0,.i 0,.i 0,.slice none 0 0,.i 0])) rfl (fun u C10 S=>?_);have wO:=am5 E8 C10 (by omega);refine amV<|dA _ _<|anj fun _ cZ=>amW fun _ gJ=>adr S 1 [] [(10,.i kind)] fun S=>amV<|gJ _ _<|anp<|amW fun _ gU=>adr S 2 [] [(12,.bool ((kind)==1))] fun S=>amV (gU _ _ ?_);refine amX S (fun rV=>?_) (fun rV=>?_)
 ·refine ant<|adr S 1 [] [(14,.pointer (some ⟨b7,29,none⟩))] fun S=>anb S 0 (off:=29) (v := .int .u8 255) rfl (fun u VN S=>?_);have Oy:=am5 wO VN (by omega);refine adr S 1 [] [(15,.pointer (some ⟨b7,30,none⟩))] fun S=>anb S 0 (off:=30) (v := .i 1) rfl (fun u ZC S=>?_);have XL:=am5 Oy ZC (by omega);refine amV<|cZ _ _<|amW fun _ jo=>adr S 1 [.mem 0 0] [(25,.agg (Sx.L [.i id,.i kind,.i 0]++t.cells++Sx.L [.slice none 0 0,.i 0,.int .u8 255,.i 1,.bool false,.bool false,.slice none 0 0,.i 0,.slice none 0 0,.i 0,.i 0,.i 0,.i 0,.slice none 0 0,.i 0,.slice none 0 0,.i 0,.i 0,.slice none 0 0,.i 0]).toArray)] (fun S=>?_);have X22:=S.bx 1;refine am1 S 1 (off:=0) (cs:=(Sx.L [.i id,.i kind,.i 0]++t.cells++Sx.L [.slice none 0 0,.i 0,.int .u8 255,.i 1,.bool false,.bool false,.slice none 0 0,.i 0,.slice none 0 0,.i 0,.i 0,.i 0,.i 0,.slice none 0 0,.i 0,.slice none 0 0,.i 0,.i 0,.slice none 0 0,.i 0])) rfl (fun u C21 S=>?_);have Hq:=TI.bG (ht.below XL) C21 X22;refine amV<|jo _ _<|ana S 1 results80 rfl (v := .agg (Sx.L [.i id,.i kind,.i 0]++t.cells++Sx.L [.slice none 0 0,.i 0,.int .u8 255,.i 1,.bool false,.bool false,.slice none 0 0,.i 0,.slice none 0 0,.i 0,.i 0,.i 0,.i 0,.slice none 0 0,.i 0,.slice none 0 0,.i 0,.i 0,.slice none 0 0,.i 0]).toArray) ?_;have e:kind=1:=(by simpa using rV);subst e;exact⟨U2 id t,rfl,.inl ⟨rfl,t,Hq,rfl⟩,S.E⟩
 refine amW fun _ lq=>adr S 2 [] [(16,.bool ((kind)==2))] fun S=>amV (lq _ _ ?_);refine amX S (fun hc25=>?_) (fun hc25=>?_)
 ·refine ant<|adr S 1 [] [(18,.pointer (some ⟨b7,34,none⟩))] fun S=>anb S 0 (off:=34) (v := .i 1) rfl (fun u C26 S=>?_);have E27:=am5 wO C26 (by omega);refine amV<|cZ _ _<|amW fun _ kR=>adr S 1 [.mem 0 0] [(25,.agg (Sx.L [.i id,.i kind,.i 0]++t.cells++Sx.L [.slice none 0 0,.i 0,.int .u8 0,.i 0,.bool false,.bool false,.slice none 0 0,.i 1,.slice none 0 0,.i 0,.i 0,.i 0,.i 0,.slice none 0 0,.i 0,.slice none 0 0,.i 0,.i 0,.slice none 0 0,.i 0]).toArray)] (fun S=>?_);have X30:=S.bx 1;refine am1 S 1 (off:=0) (cs:=(Sx.L [.i id,.i kind,.i 0]++t.cells++Sx.L [.slice none 0 0,.i 0,.int .u8 0,.i 0,.bool false,.bool false,.slice none 0 0,.i 1,.slice none 0 0,.i 0,.i 0,.i 0,.i 0,.slice none 0 0,.i 0,.slice none 0 0,.i 0,.i 0,.slice none 0 0,.i 0])) rfl (fun u C29 S=>?_);have Dp:=TI.bG (ht.below E27) C29 X30;refine amV<|kR _ _<|ana S 1 results80 rfl (v := .agg (Sx.L [.i id,.i kind,.i 0]++t.cells++Sx.L [.slice none 0 0,.i 0,.int .u8 0,.i 0,.bool false,.bool false,.slice none 0 0,.i 1,.slice none 0 0,.i 0,.i 0,.i 0,.i 0,.slice none 0 0,.i 0,.slice none 0 0,.i 0,.i 0,.slice none 0 0,.i 0]).toArray) ?_;have e:kind=2:=(by simpa using hc25);subst e;exact⟨iE id t,rfl,.inr (.inl ⟨rfl,t,Dp,rfl⟩),S.E⟩
 refine amW fun _ jF=>adr S 2 [] [(19,.bool ((kind)==3))] fun S=>amV (jF _ _ ?_);refine amX S (fun mX=>?_) (fun mX=>?_)
 ·refine ant<|ani S 21 1 [.int .u8 0,.int .u8 0,.int .u8 0,.int .u8 0] fun ac u PK WE ad2 S=>adr S 2 [] [(22,.agg #[.i 1,.i 1,.slice (some ⟨PK,0,none⟩) 1 1]),(23,.pointer (some ⟨b7,43,none⟩))] fun S=>am1 S 1 (off:=43) (cs:=[.i 1,.i 1,.slice (some ⟨PK,0,none⟩) 1 1]) rfl (fun u C37 S=>?_);have E38:=am5 (Ext.trans' wO WE) C37 (by omega);refine adr S 1 [] [(24,.pointer (some ⟨b7,46,none⟩))] fun S=>anb S 1 (off:=46) (v := .i 1) rfl (fun u C39 S=>?_);have XK:=am5 E38 C39 (by omega);refine amV<|cZ _ _<|amW fun _ qj=>adr S 1 [.mem 1 0] [(25,.agg (Sx.L [.i id,.i kind,.i 0]++t.cells++Sx.L [.slice none 0 0,.i 0,.int .u8 0,.i 0,.bool false,.bool false,.slice none 0 0,.i 0,.slice none 0 0,.i 0,.i 0,.i 0,.i 0,.slice none 0 0,.i 0,.slice none 0 0,.i 1,.i 1,.slice (some ⟨PK,0,none⟩) 1 1,.i 1]).toArray)] (fun S=>?_);have X43:=S.bx 2;refine am1 S 2 (off:=0) (cs:=(Sx.L [.i id,.i kind,.i 0]++t.cells++Sx.L [.slice none 0 0,.i 0,.int .u8 0,.i 0,.bool false,.bool false,.slice none 0 0,.i 0,.slice none 0 0,.i 0,.i 0,.i 0,.i 0,.slice none 0 0,.i 0,.slice none 0 0,.i 1,.i 1,.slice (some ⟨PK,0,none⟩) 1 1,.i 1])) rfl (fun u C42 S=>?_);have OJ:=TI.bG (ht.below XK) C42 X43;refine amV<|qj _ _<|ana S 2 results80 rfl (v := .agg (Sx.L [.i id,.i kind,.i 0]++t.cells++Sx.L [.slice none 0 0,.i 0,.int .u8 0,.i 0,.bool false,.bool false,.slice none 0 0,.i 0,.slice none 0 0,.i 0,.i 0,.i 0,.i 0,.slice none 0 0,.i 0,.slice none 0 0,.i 1,.i 1,.slice (some ⟨PK,0,none⟩) 1 1,.i 1]).toArray) ?_;have e:kind=3:=(by simpa using mX);subst e;exact⟨NK id t PK,rfl,.inr (.inr (.inl ⟨rfl,t,PK,OJ,S.bx 0,rfl⟩)),S.E⟩
 refine amW fun _ vk=>adr S 1 [] [(11,.agg (Sx.L [.i 0,.i 0,.i 0]++Sx.za++Sx.L [.slice none 0 0,.i 0,.int .u8 0,.i 0,.bool false,.bool false,.slice none 0 0,.i 0,.slice none 0 0,.i 0,.i 0,.i 0,.i 0,.slice none 0 0,.i 0,.slice none 0 0,.i 0,.i 0,.slice none 0 0,.i 0]).toArray)] (fun S=>?_);have X47:=S.bx 1;refine am1 S 1 (off:=0) (cs:=(Sx.L [.i 0,.i 0,.i 0]++Sx.za++Sx.L [.slice none 0 0,.i 0,.int .u8 0,.i 0,.bool false,.bool false,.slice none 0 0,.i 0,.slice none 0 0,.i 0,.i 0,.i 0,.i 0,.slice none 0 0,.i 0,.slice none 0 0,.i 0,.i 0,.slice none 0 0,.i 0])) rfl (fun u XG S=>?_);have XH:=TI.bG (ht.below wO) XG X47;refine amV<|vk _ _<|ana S 1 results80 rfl (v := .agg (Sx.L [.i 0,.i 0,.i 0]++Sx.za++Sx.L [.slice none 0 0,.i 0,.int .u8 0,.i 0,.bool false,.bool false,.slice none 0 0,.i 0,.slice none 0 0,.i 0,.i 0,.i 0,.i 0,.slice none 0 0,.i 0,.slice none 0 0,.i 0,.i 0,.slice none 0 0,.i 0]).toArray) ?_;exact⟨gK,rfl,.inr (.inr (.inr ⟨⟨(by simpa using rV),(by simpa using hc25),(by simpa using mX)⟩,rfl⟩)),S.E⟩
end
section
open Go.RowKit
variable{α:Type}{K:Nat}
theorem TI.fit{w:World}{t:aP}(h:TI w t)(hK:1≤K):t.fit K:=by
 obtain⟨h1,h2,h3,h4,h5,h6⟩:=h.2.fit ags;exact⟨h1.mono hK,h2.mono hK,h3.mono hK,h4.mono hK,h5.mono hK,h6.mono hK⟩
theorem gB.ok{w:World}{id kind:Int}{nd:aj}(h:gB w id kind nd)(hi:I64 id)(hK:1≤K)(hK2:K≤10000):fV K w nd:=by
 rcases h with ⟨-,t,ht,rfl⟩ | ⟨-,t,ht,rfl⟩ | ⟨-,t,b,ht,hb,rfl⟩ | ⟨-,rfl⟩
 ·exact⟨⟨hi,(show I64 1 by decide),iK,ht.1,qX w,iK,(show I64 1 by decide),qX w,iK,lJ w,aW.jZ w,lJ w,cO.jZ w,iK⟩,ht.fit hK,fun p hp=>(by cases hp),fun p hp=>(by cases hp),hK,hK2⟩
 ·exact YQ hi ht.1 (ht.fit (anw 1)) hK hK2
 ·refine⟨⟨hi,(show I64 3 by decide),iK,ht.1,qX w,iK,iK,qX w,iK,lJ w,aW.jZ w,lJ w,⟨(show I64 1 by decide),(show I64 1 by decide),?_⟩,(show I64 1 by decide)⟩,ht.fit hK,fun p hp=>(by cases hp),fun p hp=>(by cases hp),hK,hK2⟩;refine⟨some ⟨b,0,none⟩,1,rfl,by decide,.inr ⟨b,0,rfl,hb.1,anw _,fun i hi j hj=>?_⟩⟩;obtain rfl:i=0:=by simp[NK]at hi; exact hi
  have:=hb.2.1 j;rw[show 0+0*4+j=j by omega,this];show _=(dO.cells aie)[j]?;rw[←List.getElem?_toArray];rfl
 exact lU w hK hK2
theorem gB.key{w w2:World}{id kind:Int}{nd m:aj}(h:gB w id kind nd)(k:gB w2 id kind m):nd.key=m.key∧nd.t.same m.t=true:=by
 have hs:qI.same qI=true:=by decide
 rcases h with ⟨rfl,t,ht,rfl⟩ | ⟨rfl,t,ht,rfl⟩ | ⟨rfl,t,b,ht,-,rfl⟩ | ⟨⟨k1,k2,k3⟩,rfl⟩ <;>
 rcases k with ⟨e,u,hu,rfl⟩ | ⟨e,u,hu,rfl⟩ | ⟨e,u,c,hu,-,rfl⟩ | ⟨⟨j1,j2,j3⟩,rfl⟩ <;>
 first | contradiction | (exact absurd e (by decide)) | skip
 ·exact⟨by unfold aj.key U2; simp only[ht.2.q xA,hu.2.q xA],by show t.same u=true; rw[Fj ht.2 hu.2,hs]⟩
 ·exact⟨by unfold aj.key iE; simp only[ht.2.q xA,hu.2.q xA],by show t.same u=true; rw[Fj ht.2 hu.2,hs]⟩
 ·exact⟨by unfold aj.key NK cO.key; simp only[ht.2.q xA,hu.2.q xA],by show t.same u=true; rw[Fj ht.2 hu.2,hs]⟩
 exact⟨rfl,by decide⟩
theorem gB.check{w:World}{id kind:Int}{nd:aj}(h:gB w id kind nd):(nd.checkN==0)=((((decide (1≤id))&&(decide (id≤1073741824)))&&(decide (1≤kind)))&&(decide (kind≤3))):=by
 have hv:qI.valid=true:=by decide
 have hd:pW qI.xI q0=false:=by decide
 have key:∀(n:aj),n.iH=[(false,2),((((decide (id<1))||(decide (1073741824<id)))||false)||false,6),(!n.t.q.valid,5),(pW n.t.q.xI q0,9),(false,10),(false,17)]→n.t.q=qI→n.rH=0→(n.checkN==0)=((decide (1≤id))&&(decide (id≤1073741824))):=by
  intro n hL hq ho;unfold aj.checkN;rw[hL,hq,hv,hd,ho];rw[aop];by_cases h1:id<1
  ·simp[badL,kV,h1]; omega
  by_cases h2:1073741824<id
  ·simp[badL,kV,h2];try omega
  simp[badL,kV,h1,h2]; omega
 rcases h with ⟨rfl,t,ht,rfl⟩ | ⟨rfl,t,ht,rfl⟩ | ⟨rfl,t,b,ht,-,rfl⟩ | ⟨⟨k1,k2,k3⟩,rfl⟩
 ·rw[key _ rfl (ht.2.q xA) rfl]; simp
 ·rw[key _ rfl (ht.2.q xA) rfl]; simp
 ·rw[key _ rfl (ht.2.q xA) rfl]; simp
 rw[MW];symm;rw[aop];simp only[anM,anT,anO];omega
end
end Go.Proofs.YtfmkkemfhjkajaaGreatDoor
