/- What a law asks of a scene before it looks at it: few -/
import Derived.Test.YtfmkkemfhjkajaaGreatDoorPk41
set_option linter.unusedVariables false
namespace Go.Proofs.YtfmkkemfhjkajaaGreatDoor
open _root_.Go.Proofs.Tryz
section
set_option maxHeartbeats 3200000
set_option maxRecDepth 100000
open Go.RowKit
variable{α:Type}{K:Nat}
def aQ.LQ(t:aQ):Bool:=cond ((decide (12<(t.a.l1.length:Int)))||(decide (12<(t.a.l2.length:Int)))) (false) (cond ((decide (12<(t.b.l1.length:Int)))||(decide (12<(t.b.l2.length:Int)))) (false) (cond ((decide (12<(t.c.l1.length:Int)))||(decide (12<(t.c.l2.length:Int)))) (false) (cond ((decide (12<(t.d.l1.length:Int)))||(decide (12<(t.d.l2.length:Int)))) (false) (cond ((decide (12<(t.e.l1.length:Int)))||(decide (12<(t.e.l2.length:Int)))) (false) (cond ((decide (12<(t.f.l1.length:Int)))||(decide (12<(t.f.l2.length:Int)))) (false) (true))))))
theorem JJ{w:World}{t:aQ}(h:t.ok w) :
  Calls prog 78 #[t.v] w fun e w'=>e = .returned (.bool t.LQ)∧Ext w w':=by
 obtain⟨t0,t1,t2,t3,t4,t5⟩:=h;obtain⟨p0,c0,e0,-⟩:=t0.1;obtain⟨q0,d0,f0,-⟩:=t0.2;obtain⟨p1,c1,e1,-⟩:=t1.1;obtain⟨q1,d1,f1,-⟩:=t1.2;obtain⟨p2,c2,e2,-⟩:=t2.1;obtain⟨q2,d2,f2,-⟩:=t2.2;obtain⟨p3,c3,e3,-⟩:=t3.1;obtain⟨q3,d3,f3,-⟩:=t3.2;obtain⟨p4,c4,e4,-⟩:=t4.1;obtain⟨q4,d4,f4,-⟩:=t4.2;obtain⟨p5,c5,e5,-⟩:=t5.1;obtain⟨q5,d5,f5,-⟩:=t5.2;refine akN func78 ntmps78 fun ac S=>akJ fun _ aS=>akK S 1 t.cells fun ac u b2 E3 hb4 S=>adr S 1 [] [(2,.bool false)] fun S=>akI<|aS _ _<|akJ fun _ dB=>adr S 12 [.mem 0 0,.mem 0 4,.mem 0 8,.mem 0 12,.mem 0 16,.mem 0 20] [(6,t.a.v),(8,t.b.v),(10,t.c.v),(12,t.d.v),(14,t.e.v),(16,t.f.v)] fun S=>ak5 S 17 6 t.cells fun ac u b6 E7 hb8 S=>adr S 1 [] [(3,.slice (some ⟨b6,0,none⟩) 6 6)] fun S=>akI<|dB _ _<|ak6 fun _ iq=>akJ fun _ fE=>adr S 1 [] [(4,.i 0)] fun S=>akI<|fE _ _<|ak8<|amn 7 ?_;rw[aln];refine ak6 fun _ dn=>akJ fun _ cO=>adr S 4 [] [(21,.bool true)] fun S=>akI<|cO _ _<|akT S<|ak7<|dn _ _<|ak6 fun _ gu=>ak8<|akJ fun _ fH=>adr S 18 [.mem 0 1,.mem 0 3] [(41,.bool ((decide (12<(t.a.l1.length:Int)))||(decide (12<(t.a.l2.length:Int)))))] fun S=>akI (fH _ _ ?_);refine akL S (fun qE=>?_) (fun qE=>?_)
 ·refine akJ fun _ jC=>adr S 1 [] [(2,.bool false)] fun S=>akI<|jC _ _<|akM S results78 ?_;exact⟨aB (by unfold aQ.LQ; rw[qE]; rfl),S.E⟩
 refine ak7<|gu _ _<|alc<|adr S 3 [] [(4,.i 1)] fun S=>akI ?_;show Code.rounds _ _ _ 6 _ _;rw[aln];refine ak6 fun _ gJ=>akJ fun _ jh=>adr S 4 [] [(21,.bool true)] fun S=>akI<|jh _ _<|akT S<|ak7<|gJ _ _<|ak6 fun _ jf=>ak8<|akJ fun _ iT=>adr S 18 [.mem 0 5,.mem 0 7] [(41,.bool ((decide (12<(t.b.l1.length:Int)))||(decide (12<(t.b.l2.length:Int)))))] fun S=>akI (iT _ _ ?_);refine akL S (fun hc21=>?_) (fun hc21=>?_)
 ·refine akJ fun _ jJ=>adr S 1 [] [(2,.bool false)] fun S=>akI<|jJ _ _<|akM S results78 ?_;exact⟨aB (by unfold aQ.LQ; rw[qE,hc21]; rfl),S.E⟩
 refine ak7<|jf _ _<|alc<|adr S 3 [] [(4,.i 2)] fun S=>akI ?_;show Code.rounds _ _ _ 5 _ _;rw[aln];refine ak6 fun _ lX=>akJ fun _ kN=>adr S 4 [] [(21,.bool true)] fun S=>akI<|kN _ _<|akT S<|ak7<|lX _ _<|ak6 fun _ tK=>ak8<|akJ fun _ jZ=>adr S 18 [.mem 0 9,.mem 0 11] [(41,.bool ((decide (12<(t.c.l1.length:Int)))||(decide (12<(t.c.l2.length:Int)))))] fun S=>akI (jZ _ _ ?_);refine akL S (fun hc27=>?_) (fun hc27=>?_)
 ·refine akJ fun _ lF=>adr S 1 [] [(2,.bool false)] fun S=>akI<|lF _ _<|akM S results78 ?_;exact⟨aB (by unfold aQ.LQ; rw[qE,hc21,hc27]; rfl),S.E⟩
 refine ak7<|tK _ _<|alc<|adr S 3 [] [(4,.i 3)] fun S=>akI ?_;show Code.rounds _ _ _ 4 _ _;rw[aln];refine ak6 fun _ qA=>akJ fun _ nN=>adr S 4 [] [(21,.bool true)] fun S=>akI<|nN _ _<|akT S<|ak7<|qA _ _<|ak6 fun _ oL=>ak8<|akJ fun _ kP=>adr S 18 [.mem 0 13,.mem 0 15] [(41,.bool ((decide (12<(t.d.l1.length:Int)))||(decide (12<(t.d.l2.length:Int)))))] fun S=>akI (kP _ _ ?_);refine akL S (fun oh=>?_) (fun oh=>?_)
 ·refine akJ fun _ tJ=>adr S 1 [] [(2,.bool false)] fun S=>akI<|tJ _ _<|akM S results78 ?_;exact⟨aB (by unfold aQ.LQ; rw[qE,hc21,hc27,oh]; rfl),S.E⟩
 refine ak7<|oL _ _<|alc<|adr S 3 [] [(4,.i 4)] fun S=>akI ?_;show Code.rounds _ _ _ 3 _ _;rw[aln];refine ak6 fun _ lY=>akJ fun _ lZ=>adr S 4 [] [(21,.bool true)] fun S=>akI<|lZ _ _<|akT S<|ak7<|lY _ _<|ak6 fun _ oH=>ak8<|akJ fun _ iW=>adr S 18 [.mem 0 17,.mem 0 19] [(41,.bool ((decide (12<(t.e.l1.length:Int)))||(decide (12<(t.e.l2.length:Int)))))] fun S=>akI (iW _ _ ?_);refine akL S (fun hc39=>?_) (fun hc39=>?_)
 ·refine akJ fun _ wO=>adr S 1 [] [(2,.bool false)] fun S=>akI<|wO _ _<|akM S results78 ?_;exact⟨aB (by unfold aQ.LQ; rw[qE,hc21,hc27,oh,hc39]; rfl),S.E⟩
 refine ak7<|oH _ _<|alc<|adr S 3 [] [(4,.i 5)] fun S=>akI ?_;show Code.rounds _ _ _ 2 _ _;rw[aln];refine ak6 fun _ rF=>akJ fun _ nM=>adr S 4 [] [(21,.bool true)] fun S=>akI<|nM _ _<|akT S<|ak7<|rF _ _<|ak6 fun _ rG=>ak8<|akJ fun _ wP=>adr S 18 [.mem 0 21,.mem 0 23] [(41,.bool ((decide (12<(t.f.l1.length:Int)))||(decide (12<(t.f.l2.length:Int)))))] fun S=>akI (wP _ _ ?_);refine akL S (fun zo=>?_) (fun zo=>?_)
 ·refine akJ fun _ Aa=>adr S 1 [] [(2,.bool false)] fun S=>akI<|Aa _ _<|akM S results78 ?_;exact⟨aB (by unfold aQ.LQ; rw[qE,hc21,hc27,oh,hc39,zo]; rfl),S.E⟩
 refine ak7<|rG _ _<|alc<|adr S 3 [] [(4,.i 6)] fun S=>akI ?_;show Code.rounds _ _ _ 1 _ _;rw[aln];refine ak6 fun _ yJ=>akJ fun _ wC=>adr S 4 [] [(21,.bool false)] fun S=>akI<|wC _ _<|ak1 S<|alk<|iq _ _<|akJ fun _ wE=>adr S 1 [] [(2,.bool true)] fun S=>akI<|wE _ _<|akM S results78 ?_;exact⟨aB (by unfold aQ.LQ; rw[qE,hc21,hc27,oh,hc39,zo]; rfl),S.E⟩
theorem TU{w:World}{t:aQ}(h:t.ok w) :
  Calls prog 46 #[t.v] w fun e w'=>e = .returned (.bool t.LQ)∧Ext w w':=by
 skip;refine akN func46 ntmps46 fun ac S=>akJ fun _ aS=>akK S 1 t.cells fun ac u b2 E3 hb4 S=>adr S 1 [] [(2,.bool false)] fun S=>akI<|aS _ _<|akJ fun _ dB=>adr S 1 [.mem 0 0] [(3,t.v)] fun S=>akQ S 4 (JJ (t:=t) (h.below S.E)) fun ac u E6 S=>adr S 1 [] [(2,.bool t.LQ)] fun S=>akI<|dB _ _<|akM S results46 ?_;exact⟨rfl,S.E⟩
def ak.few(p:ak):Bool:=((decide ((p.stops.length:Int)≤40))&&(decide ((p.img.l.length:Int)≤300)))&&p.t.LQ
theorem XW{w:World}{p:ak}(h:p.ok w) :
  Calls prog 79 #[p.v] w fun e w'=>e = .returned (.bool p.few)∧Ext w w':=by
 obtain⟨r1,r2,er1⟩:=h.2.2.2.2.1.shape;obtain⟨r3,r4,er2⟩:=h.2.2.2.2.2.2.2.1.2.2.shape;refine akN func79 ntmps79 fun ac S=>akJ fun _ aS=>akK S 1 p.cells fun ac u b2 E3 hb4 S=>adr S 1 [] [(2,.bool false)] fun S=>akI<|aS _ _<|akJ fun _ dB=>akX S 17 [.mem 0 10,.mem 0 14,.mem 0 16] [(_,_,((decide ((p.stops.length:Int)≤40))&&(decide ((p.img.l.length:Int)≤300))),.bool p.t.LQ)] [(2,.bool (((decide ((p.stops.length:Int)≤40))&&(decide ((p.img.l.length:Int)≤300)))&&p.t.LQ))] ⟨fun u hC g=>JJ (t:=p.t) (h.2.2.2.2.2.2.2.2.2.below (Ext.trans' S.E hC)),trivial⟩ fun ac u E6 S=>akI<|dB _ _<|akM S results79 ?_;exact⟨rfl,S.E⟩
def iU(l:List ak):Bool:=decide (l.length≤4)&&l.all ak.few
theorem y9{w:World}{v:Value}{l:List ak}(h:iL w v l) :
  Calls prog 47 #[v] w fun e w'=>e = .returned (.bool (iU l))∧Ext w w':=by
 obtain⟨a,cap,rfl⟩:=h.1.shape;have hmax:l.length≤9223372036854775807:=h.1.len;refine akN func47 ntmps47 fun ac S=>akJ fun _ aS=>adr S 1 [] [(2,.bool false)] fun S=>akI<|aS _ _<|ak6 fun _ fD=>akJ fun _ iD=>adr S 3 [] [(6,.bool (4<(l.length:Int)))] fun S=>akI (iD _ _ ?_);refine akL S (fun hc4=>?_) (fun hc4=>?_)
 ·refine akJ fun _ dB=>adr S 1 [] [(2,.bool false)] fun S=>akI<|dB _ _<|akM S results47 ?_;exact⟨aB (by unfold iU; simp[show ¬l.length≤4 from by have:=alj hc4; omega]),S.E⟩
 refine ak7<|fD _ _<|ak6 fun _ je=>akJ fun _ kJ=>adr S 1 [] [(3,.i 0)] fun S=>akI<|kJ _ _<|ak8 ?_;refine alC (ι:=Nat) (fun p a' w'=>p≤l.length∧((l.take p).all ak.few=true)∧Sx.St w a' w' 19 [(0,.slice a l.length cap),(2,.bool false),(3,.i p)] [] []) (fun p=>l.length-p) (0) ⟨alg _,rfl,S.sn⟩ ?_;rintro k ac u hI;try dsimp only at hI
 obtain⟨hk,hR,S⟩:=hI;refine ak6 fun _ dP=>akJ fun _ iq=>adr S 4 [] [(10,.bool ((k:Int)<(l.length:Int)))] fun S=>akI (iq _ _ ?_);refine akL S (fun bV=>?_) (fun bV=>?_)
 ·refine ak7<|dP _ _<|ak6 fun _ dn=>ak8<|akJ (fun _ cO=>?_);have wJ:k<l.length:=by have:=alj bV; omega
  obtain⟨b13,o14,rfl,x19,DT,WL,Zt⟩:=als h.1 (fun _=>rfl) (k) wJ;have S:=S.view0 WL Zt;refine adr S 4 [.idx k l.length,.mem 0 0] [(16,x19.v)] (hk:=⟨wJ,trivial⟩) fun S=>akQ S 17 (XW ((h.2 _ (DT▸aly wJ)).below S.E)) fun ac u BA S=>adr S 1 [] [(18,.bool (!(x19.few)))] fun S=>akI (cO _ _ ?_);refine akL S (fun hc22=>?_) (fun hc22=>?_)
  ·refine akJ fun _ lX=>adr S 1 [] [(2,.bool false)] fun S=>akI<|lX _ _<|akM S results47 ?_;exact⟨aB (by unfold iU; rw[vg wJ (by rw[DT]; simpa using hc22)]; simp),S.E⟩
  refine ak7<|dn _ _<|alc<|adr S 3 [.re 12 (.i (IntKind.i64.wrap ((k:Int)+1))) (.i (k+1:Nat))] [(3,.i (k+1:Nat))] (hk:=⟨akV (by omega),trivial⟩) fun S=>akI ?_;show ∃i',_∧_;exact⟨(k+1),⟨by omega,(jW wJ hR (by rw[DT]; simpa using hc22)),S.sn⟩,by show _-_<_-_; omega⟩
 refine alk<|je _ _<|akJ fun _ kN=>adr S 1 [] [(2,.bool true)] fun S=>akI<|kN _ _<|akM S results47 ?_;exact⟨aB (by unfold iU; rw[mY (by have:=alo bV; omega) hR]; simp[show l.length≤4 from by have:=alo hc4; omega]),S.E⟩
def aj.tC(nd:aj):Bool:=cond ((((decide (40<(nd.clip.length:Int)))||(decide (40<(nd.path.length:Int))))||(decide (40<(nd.style.dash.length:Int))))||(decide (300<(nd.img.l.length:Int)))) false ((nd.t.LQ&&(iU nd.fill))&&(iU nd.stroke))
theorem PV{w:World}{nd:aj}(h:nd.ok w) :
  Calls prog 15 #[nd.v] w fun e w'=>e = .returned (.bool nd.tC)∧Ext w w':=by
 obtain⟨a1,c1,ecs⟩:=h.2.2.2.2.1.1.shape;obtain⟨a2,c2,eps⟩:=h.2.2.2.2.2.2.2.1.1.shape;obtain⟨a3,c3,efs⟩:=h.2.2.2.2.2.2.2.2.2.1.1.shape;obtain⟨a4,c4,ess⟩:=h.2.2.2.2.2.2.2.2.2.2.2.1.1.shape;obtain⟨a5,c5,est,-⟩:=h.2.2.2.2.2.2.2.2.2.2.1.2.2.2.2.1;obtain⟨a6,c6,eim⟩:=h.2.2.2.2.2.2.2.2.2.2.2.2.1.2.2.shape;refine akN func15 ntmps15 fun ac S=>akJ fun _ aS=>akK S 1 nd.cells fun ac u b2 E3 hb4 S=>adr S 1 [] [(2,.bool false)] fun S=>akI<|aS _ _<|ak6 fun _ dB=>akJ fun _ je=>adr S 24 [.mem 0 27,.mem 0 33,.mem 0 40,.mem 0 45] [(26,.bool ((((decide (40<(nd.clip.length:Int)))||(decide (40<(nd.path.length:Int))))||(decide (40<(nd.style.dash.length:Int))))||(decide (300<(nd.img.l.length:Int)))))] fun S=>akI (je _ _ ?_);refine akL S (fun kW=>?_) (fun kW=>?_)
 ·refine akJ fun _ dP=>adr S 1 [] [(2,.bool false)] fun S=>akI<|dP _ _<|akM S results15 ?_;exact⟨aB (by unfold aj.tC; rw[kW]; rfl),S.E⟩
 refine ak7<|dB _ _<|akJ fun _ iq=>adr S 2 [.mem 0 3] [(28,nd.t.v)] fun S=>akQ S 29 (TU (t:=nd.t) (h.2.2.2.1.below S.E)) fun ac u zZ S=>akX S 11 [.mem 0 35,.mem 0 42] [(_,_,nd.t.LQ,.bool (iU nd.fill)),(_,_,(nd.t.LQ&&(iU nd.fill)),.bool (iU nd.stroke))] [(2,.bool ((nd.t.LQ&&(iU nd.fill))&&(iU nd.stroke)))] ⟨fun u hC g=>y9 (l:=nd.fill) (h.2.2.2.2.2.2.2.2.2.1.below (Ext.trans' S.E hC)),fun u hC g=>y9 (l:=nd.stroke) (h.2.2.2.2.2.2.2.2.2.2.2.1.below (Ext.trans' S.E hC)),trivial⟩ fun ac u wM S=>akI<|iq _ _<|akM S results15 ?_;exact⟨aB (by unfold aj.tC; rw[kW]; rfl),S.E⟩
def aK.few(s:aK)(n:Int):Bool:=decide ((s.ns.length:Int)≤n)&&s.ns.all aj.tC
theorem JK{w:World}{s:aK}(h:aP 47 aj.cells w s.s s.ns∧∀n∈s.ns,n.ok w)(n:Int) :
  Calls prog 14 #[s.v,.i n] w fun e w'=>e = .returned (.bool (s.few n))∧Ext w w':=by
 have hmax:s.ns.length≤9223372036854775807:=h.1.len;refine akN func14 ntmps14 (fun ac S=>?_);obtain⟨a,cap,es⟩:∃a c,s.s = .slice a s.ns.length c:=⟨_,_,rfl⟩;have hr:=h.1;rw[es]at hr;refine akJ fun _ aS=>akK S 2 s.cells fun ac u b2 E3 hb4 S=>adr S 1 [] [(4,.bool false)] fun S=>akI<|aS _ _<|ak6 fun _ dB=>akJ fun _ je=>adr S 5 [.mem 0 6,.re 7 s.s (.slice a s.ns.length cap)] [(10,.bool (n<(s.ns.length:Int)))] (hk:=⟨es,trivial⟩) fun S=>akI (je _ _ ?_);refine akL S (fun kW=>?_) (fun kW=>?_)
 ·refine akJ fun _ dP=>adr S 1 [] [(4,.bool false)] fun S=>akI<|dP _ _<|akM S results14 ?_;exact⟨aB (by unfold aK.few; simp[show ¬((s.ns.length:Int)≤n)from by have:=alj kW; omega]),S.E⟩
 refine ak7<|dB _ _<|ak6 fun _ iq=>akJ fun _ fE=>adr S 1 [] [(5,.i 0)] fun S=>akI<|fE _ _<|ak8 ?_;refine alC (ι:=Nat) (fun p a' w'=>p≤s.ns.length∧((s.ns.take p).all aj.tC=true)∧Sx.St w a' w' 25 [(0,s.v),(1,.i n),(2,.pointer (some ⟨b2,0,none⟩)),(4,.bool false),(5,.i p)] [(b2,s.cells)] []) (fun p=>s.ns.length-p) (0) ⟨alg _,rfl,S.sn⟩ ?_;rintro k ac u hI;try dsimp only at hI
 obtain⟨hk,hR,S⟩:=hI;refine ak6 fun _ dn=>akJ fun _ cO=>adr S 5 [.mem 0 6,.re 13 s.s (.slice a s.ns.length cap)] [(15,.bool ((k:Int)<(s.ns.length:Int)))] (hk:=⟨es,trivial⟩) fun S=>akI (cO _ _ ?_);refine akL S (fun hc13=>?_) (fun hc13=>?_)
 ·refine ak7<|dn _ _<|ak6 fun _ fH=>ak8<|akJ (fun _ fJ=>?_);have IV:k<s.ns.length:=by have:=alj hc13; omega
  obtain⟨b16,o17,rfl,x22,XY,Np,aeO⟩:=als hr (fun _=>rfl) (k) IV;have S:=S.view0 Np aeO;refine adr S 5 [.mem 0 6,.re 19 s.s (.slice (some ⟨b16,o17,none⟩) s.ns.length cap),.idx k s.ns.length,.mem 1 0] [(22,x22.v)] (hk:=⟨es,IV,trivial⟩) fun S=>akQ S 23 (PV ((h.2 _ (XY▸aly IV)).below S.E)) fun ac u S9 S=>adr S 1 [] [(24,.bool (!x22.tC))] fun S=>akI (fJ _ _ ?_);refine akL S (fun hc25=>?_) (fun hc25=>?_)
  ·refine akJ fun _ jZ=>adr S 1 [] [(4,.bool false)] fun S=>akI<|jZ _ _<|akM S results14 ?_;exact⟨aB (by unfold aK.few; rw[vg IV (by rw[XY]; simpa using hc25)]; simp),S.E⟩
  refine ak7<|fH _ _<|alc<|adr S 3 [.re 17 (.i (IntKind.i64.wrap ((k:Int)+1))) (.i (k+1:Nat))] [(5,.i (k+1:Nat))] (hk:=⟨akV (by omega),trivial⟩) fun S=>akI ?_;show ∃i',_∧_;exact⟨(k+1),⟨by omega,(jW IV hR (by rw[XY]; simpa using hc25)),S.sn⟩,by show _-_<_-_; omega⟩
 refine alk<|iq _ _<|akJ fun _ kL=>adr S 1 [] [(4,.bool true)] fun S=>akI<|kL _ _<|akM S results14 ?_;exact⟨aB (by unfold aK.few; rw[mY (by have:=alo hc13; omega) hR]; simp[show((s.ns.length:Int)≤n)from by have:=alo kW; omega]),S.E⟩
theorem vS:∀{a b:Bool},cond a false b=true→a=false∧b=true:=by decide
theorem Am{t:aQ}(h:t.fit 20):t.lim:=⟨h.1.mono (by decide),h.2.1.mono (by decide),h.2.2.1.mono (by decide),h.2.2.2.1.mono (by decide),h.2.2.2.2.1.mono (by decide),h.2.2.2.2.2.mono (by decide)⟩
theorem Cm{r:bK}(h:((decide (12<(r.l1.length:Int)))||(decide (12<(r.l2.length:Int))))=false):r.fit 20:=by
 simp only[al0,amc]at h;exact⟨by omega,by omega⟩
theorem aQ.VG{t:aQ}(h:t.LQ=true):t.fit 20:=by
 unfold aQ.LQ at h;obtain⟨h0,h⟩:=vS h;obtain⟨h1,h⟩:=vS h;obtain⟨h2,h⟩:=vS h;obtain⟨h3,h⟩:=vS h;obtain⟨h4,h⟩:=vS h;obtain⟨h5,h⟩:=vS h;exact⟨Cm h0,Cm h1,Cm h2,Cm h3,Cm h4,Cm h5⟩
theorem JL{p:ak}(h:p.few=true):p.t.fit 20∧p.lim:=by
 unfold ak.few at h;simp only[alr,alz]at h;have:=aQ.VG h.2;exact⟨this,by omega,by omega,Am this⟩
theorem Hq{l:List ak}(h:iU l=true):(∀p∈l,p.t.fit 20)∧l.length≤10000000∧∀p∈l,p.lim:=by
 unfold iU at h;simp only[alr,alz,alE]at h;exact⟨fun p hp=>(JL (h.2 p hp)).1,by omega,fun p hp=>(JL (h.2 p hp)).2⟩
theorem Hr{w:World}{nd:aj}(h:nd.tC=true)(ho:nd.ok w):fK 20 w nd∧nd.lim:=by
 unfold aj.tC at h;obtain⟨h1,h2⟩:=vS h;simp only[al0,amc]at h1;simp only[alr]at h2;have hf:=Hq h2.1.2;have hs:=Hq h2.2;have ht:=aQ.VG h2.1.1;exact⟨⟨ho,ht,hf.1,hs.1,by decide,by decide⟩,Am ht,by omega,by omega,hf.2.1,hf.2.2,by omega,hs.2.1,hs.2.2,by omega⟩
theorem PW{w:World}{s:aK}{n:Int}(h:s.few n=true)(hw:I64 s.w)(hh:I64 s.h)(ho:aP 47 aj.cells w s.s s.ns∧∀n∈s.ns,n.ok w):bU 20 w s∧(∀n∈s.ns,n.lim)∧(s.ns.length:Int)≤n:=by
 unfold aK.few at h;simp only[alr,alz,alE]at h;exact⟨⟨hw,hh,ho.1,fun n hn=>(Hr (h.2 n hn) (ho.2 n hn)).1⟩,fun n hn=>(Hr (h.2 n hn) (ho.2 n hn)).2,h.1⟩
end
section
open Go.RowKit
variable{α:Type}{K:Nat}
def TV(id:Int)(t:aQ):aj:=⟨id,1,0,t,none,0,[],0,255,1,false,false,none,0,[],0,none,0,[],aX.bare,none,0,[],bW.bare,0⟩
def af8:dF:=⟨0,0,0,0⟩
def LU(id:Int)(t:aQ)(b:Nat):aj:=⟨id,3,0,t,none,0,[],0,0,0,false,false,none,0,[],0,none,0,[],aX.bare,none,0,[],⟨1,1,some ⟨b,0,none⟩,1,[af8]⟩,1⟩
def TI(w:World)(t:aQ):Prop:=t.ok w∧t.Is qI
theorem TI.below{w w':World}{t:aQ}(h:TI w t)(hE:Ext w w'):TI w' t:=⟨h.1.below hE,h.2⟩
theorem TI.bC{w w':World}{t:aQ}{b:Nat}{A:Array Value}(h:TI w t)(hc:Ch b w w')(hx:Bx w b A)(hA:A.toList.all yP=true:=by rfl):TI w' t:=⟨h.1.bC hc hx hA,h.2⟩
theorem aQ.Is.q{t:aQ}{Q:Q6}(h:t.Is Q)(hn:wH Q):t.q=Q:=by
 obtain⟨n0,n1,n2,n3,n4,n5⟩:=hn;obtain⟨⟨a0,b0,c0,d0⟩,⟨a1,b1,c1,d1⟩,⟨a2,b2,c2,d2⟩,⟨a3,b3,c3,d3⟩,⟨a4,b4,c4,d4⟩,⟨a5,b5,c5,d5⟩⟩:=h;unfold aQ.q;rw[vX a0 b0 c0 d0 n0,vX a1 b1 c1 d1 n1,vX a2 b2 c2 d2 n2,vX a3 b3 c3 d3 n3,vX a4 b4 c4 d4 n4,vX a5 b5 c5 d5 n5]
theorem aQ.Is.fit{t:aQ}{Q:Q6}{K:Nat}(h:t.Is Q)(hl:EG K Q):t.fit K:=by
 obtain⟨l0,l1,l2,l3,l4,l5⟩:=hl;obtain⟨h0,h1,h2,h3,h4,h5⟩:=h;exact⟨lS h0.2.1 h0.2.2.2 l0,lS h1.2.1 h1.2.2.2 l1,lS h2.2.1 h2.2.2.2 l2,lS h3.2.1 h3.2.2.2 l3,lS h4.2.1 h4.2.2.2 l4,lS h5.2.1 h5.2.2.2 l5⟩
theorem aeP{base:Nat}{w:World}{v:Value}(h:jg base w v qI):∃t:aQ,v=t.v∧TI w t:=by
 obtain⟨t,rfl,k⟩:=h.sT;obtain⟨r,e,ho,hi⟩:=Tt k;exact⟨r,e,ho,hi⟩
def fO(w:World)(id kind:Int)(nd:aj):Prop:=
 (kind=1∧∃t,TI w t∧nd=TV id t)∨(kind=2∧∃t,TI w t∧nd=gK id t)∨(kind=3∧∃t b,TI w t∧Bx w b #[.int .u8 0,.int .u8 0,.int .u8 0,.int .u8 0]∧nd=LU id t b)∨((kind≠1∧kind≠2∧kind≠3)∧nd=l7)
theorem fO.below{w w':World}{id kind:Int}{nd:aj}(h:fO w id kind nd)(hE:Ext w w'):fO w' id kind nd:=by
 rcases h with ⟨e,t,ht,h⟩ | ⟨e,t,ht,h⟩ | ⟨e,t,b,ht,hb,h⟩ | h
 ·exact .inl ⟨e,t,ht.below hE,h⟩
 ·exact .inr (.inl ⟨e,t,ht.below hE,h⟩)
 ·exact .inr (.inr (.inl ⟨e,t,b,ht.below hE,hb.ext hE,h⟩))
 exact .inr (.inr (.inr h))
theorem fO.bC{w w':World}{id kind:Int}{nd:aj}{b:Nat}{A:Array Value}(h:fO w id kind nd)(hc:Ch b w w')(hx:Bx w b A)(hA:A.toList.all yP=true:=by rfl)(h4:decide (4<A.size)=true:=by kernel_rfl):fO w' id kind nd:=by
 rcases h with ⟨e,t,ht,h⟩ | ⟨e,t,ht,h⟩ | ⟨e,t,c,ht,hb,h⟩ | h
 ·exact .inl ⟨e,t,ht.bC hc hx hA,h⟩
 ·exact .inr (.inl ⟨e,t,ht.bC hc hx hA,h⟩)
 ·exact .inr (.inr (.inl ⟨e,t,c,ht.bC hc hx hA,hb.ch hc (fun e=>by subst e; have h1:=hb.2.1 4; have h2:=hx.2.1 4; rw[h1]at h2; have h3:=alj h4; simp at h2; omega),h⟩))
 exact .inr (.inr (.inr h))
set_option maxRecDepth 100000 in
set_option maxHeartbeats 3200000 in
theorem qo(id kind:Int)(w:World) :
  Calls prog 80 #[.i id,.i kind] w fun e w'=>∃nd,e = .returned (aj.v nd)∧fO w' id kind nd∧Ext w w':=by
 skip;refine akN func80 ntmps80 fun ac S=>akJ fun _ aS=>akK S 4 (Sx.L [.i 0,.i 0,.i 0]++Sx.za++Sx.L [.slice none 0 0,.i 0,.int .u8 0,.i 0,.bool false,.bool false,.slice none 0 0,.i 0,.slice none 0 0,.i 0,.i 0,.i 0,.i 0,.slice none 0 0,.i 0,.slice none 0 0,.i 0,.i 0,.slice none 0 0,.i 0]) fun ac u b2 E3 hb4 S=>akI<|aS _ _<|akJ fun _ dB=>adr S 2 [] [(6,.i id),(7,.i kind)] fun S=>akS S (some 8) (QJ _) ?_;rintro e u ⟨y,rfl,hx,E6⟩;obtain⟨t,rfl,ht⟩:=aeP hx;refine⟨_,rfl,E6,fun ac S=>?_⟩;refine adr S 1 [] [(9,.agg (Sx.L [.i id,.i kind,.i 0]++t.cells++Sx.L [.slice none 0 0,.i 0,.int .u8 0,.i 0,.bool false,.bool false,.slice none 0 0,.i 0,.slice none 0 0,.i 0,.i 0,.i 0,.i 0,.slice none 0 0,.i 0,.slice none 0 0,.i 0,.i 0,.slice none 0 0,.i 0]).toArray)] fun S=>akK S 5 (Sx.L [.i 0,.i 0,.i 0]++Sx.za++Sx.L [.slice none 0 0,.i 0,.int .u8 0,.i 0,.bool false,.bool false,.slice none 0 0,.i 0,.slice none 0 0,.i 0,.i 0,.i 0,.i 0,.slice none 0 0,.i 0,.slice none 0 0,.i 0,.i 0,.slice none 0 0,.i 0]) fun ac u b7 E8 hb9 S=>akO S 0 (off:=0) (cs:=(Sx.L [.i id,.i kind,.i 0]++t.cells++Sx.L [.slice none 0 0,.i 0,.int .u8 0,.i 0,.bool false,.bool false,.slice none 0 0,.i 0,.slice none 0 0,.i 0,.i 0,.i 0,.i 0,.slice none 0 0,.i 0,.slice none 0 0,.i 0,.i 0,.slice none 0 0,.i 0])) rfl (fun u C10 S=>?_);have wM:=akR E8 C10 (by omega);refine akI<|dB _ _<|ak6 fun _ cO=>akJ fun _ gu=>adr S 1 [] [(10,.i kind)] fun S=>akI<|gu _ _<|ak8<|akJ fun _ fH=>adr S 2 [] [(12,.bool ((kind)==1))] fun S=>akI (fH _ _ ?_);refine akL S (fun qE=>?_) (fun qE=>?_)
 ·refine alc<|adr S 1 [] [(14,.pointer (some ⟨b7,29,none⟩))] fun S=>akY S 0 (off:=29) (v := .int .u8 255) rfl (fun u Qy S=>?_);have EM:=akR wM Qy (by omega);refine adr S 1 [] [(15,.pointer (some ⟨b7,30,none⟩))] fun S=>akY S 0 (off:=30) (v := .i 1) rfl (fun u YC S=>?_);have MS:=akR EM YC (by omega);refine akI<|cO _ _<|akJ fun _ iT=>adr S 1 [.mem 0 0] [(25,.agg (Sx.L [.i id,.i kind,.i 0]++t.cells++Sx.L [.slice none 0 0,.i 0,.int .u8 255,.i 1,.bool false,.bool false,.slice none 0 0,.i 0,.slice none 0 0,.i 0,.i 0,.i 0,.i 0,.slice none 0 0,.i 0,.slice none 0 0,.i 0,.i 0,.slice none 0 0,.i 0]).toArray)] (fun S=>?_);have X22:=S.bx 1;refine akO S 1 (off:=0) (cs:=(Sx.L [.i id,.i kind,.i 0]++t.cells++Sx.L [.slice none 0 0,.i 0,.int .u8 255,.i 1,.bool false,.bool false,.slice none 0 0,.i 0,.slice none 0 0,.i 0,.i 0,.i 0,.i 0,.slice none 0 0,.i 0,.slice none 0 0,.i 0,.i 0,.slice none 0 0,.i 0])) rfl (fun u C21 S=>?_);have Ey:=TI.bC (ht.below MS) C21 X22;refine akI<|iT _ _<|akW S 1 results80 rfl (v := .agg (Sx.L [.i id,.i kind,.i 0]++t.cells++Sx.L [.slice none 0 0,.i 0,.int .u8 255,.i 1,.bool false,.bool false,.slice none 0 0,.i 0,.slice none 0 0,.i 0,.i 0,.i 0,.i 0,.slice none 0 0,.i 0,.slice none 0 0,.i 0,.i 0,.slice none 0 0,.i 0]).toArray) ?_;have e:kind=1:=(by simpa using qE);subst e;exact⟨TV id t,rfl,.inl ⟨rfl,t,Ey,rfl⟩,S.E⟩
 refine akJ fun _ kN=>adr S 2 [] [(16,.bool ((kind)==2))] fun S=>akI (kN _ _ ?_);refine akL S (fun hc25=>?_) (fun hc25=>?_)
 ·refine alc<|adr S 1 [] [(18,.pointer (some ⟨b7,34,none⟩))] fun S=>akY S 0 (off:=34) (v := .i 1) rfl (fun u C26 S=>?_);have E27:=akR wM C26 (by omega);refine akI<|cO _ _<|akJ fun _ lF=>adr S 1 [.mem 0 0] [(25,.agg (Sx.L [.i id,.i kind,.i 0]++t.cells++Sx.L [.slice none 0 0,.i 0,.int .u8 0,.i 0,.bool false,.bool false,.slice none 0 0,.i 1,.slice none 0 0,.i 0,.i 0,.i 0,.i 0,.slice none 0 0,.i 0,.slice none 0 0,.i 0,.i 0,.slice none 0 0,.i 0]).toArray)] (fun S=>?_);have X30:=S.bx 1;refine akO S 1 (off:=0) (cs:=(Sx.L [.i id,.i kind,.i 0]++t.cells++Sx.L [.slice none 0 0,.i 0,.int .u8 0,.i 0,.bool false,.bool false,.slice none 0 0,.i 1,.slice none 0 0,.i 0,.i 0,.i 0,.i 0,.slice none 0 0,.i 0,.slice none 0 0,.i 0,.i 0,.slice none 0 0,.i 0])) rfl (fun u C29 S=>?_);have BI:=TI.bC (ht.below E27) C29 X30;refine akI<|lF _ _<|akW S 1 results80 rfl (v := .agg (Sx.L [.i id,.i kind,.i 0]++t.cells++Sx.L [.slice none 0 0,.i 0,.int .u8 0,.i 0,.bool false,.bool false,.slice none 0 0,.i 1,.slice none 0 0,.i 0,.i 0,.i 0,.i 0,.slice none 0 0,.i 0,.slice none 0 0,.i 0,.i 0,.slice none 0 0,.i 0]).toArray) ?_;have e:kind=2:=(by simpa using hc25);subst e;exact⟨gK id t,rfl,.inr (.inl ⟨rfl,t,BI,rfl⟩),S.E⟩
 refine akJ fun _ kP=>adr S 2 [] [(19,.bool ((kind)==3))] fun S=>akI (kP _ _ ?_);refine akL S (fun oh=>?_) (fun oh=>?_)
 ·refine alc<|ak5 S 21 1 [.int .u8 0,.int .u8 0,.int .u8 0,.int .u8 0] fun ac u Nq I8 Wy S=>adr S 2 [] [(22,.agg #[.i 1,.i 1,.slice (some ⟨Nq,0,none⟩) 1 1]),(23,.pointer (some ⟨b7,43,none⟩))] fun S=>akO S 1 (off:=43) (cs:=[.i 1,.i 1,.slice (some ⟨Nq,0,none⟩) 1 1]) rfl (fun u C37 S=>?_);have E38:=akR (Ext.trans' wM I8) C37 (by omega);refine adr S 1 [] [(24,.pointer (some ⟨b7,46,none⟩))] fun S=>akY S 1 (off:=46) (v := .i 1) rfl (fun u C39 S=>?_);have WO:=akR E38 C39 (by omega);refine akI<|cO _ _<|akJ fun _ rF=>adr S 1 [.mem 1 0] [(25,.agg (Sx.L [.i id,.i kind,.i 0]++t.cells++Sx.L [.slice none 0 0,.i 0,.int .u8 0,.i 0,.bool false,.bool false,.slice none 0 0,.i 0,.slice none 0 0,.i 0,.i 0,.i 0,.i 0,.slice none 0 0,.i 0,.slice none 0 0,.i 1,.i 1,.slice (some ⟨Nq,0,none⟩) 1 1,.i 1]).toArray)] (fun S=>?_);have X43:=S.bx 2;refine akO S 2 (off:=0) (cs:=(Sx.L [.i id,.i kind,.i 0]++t.cells++Sx.L [.slice none 0 0,.i 0,.int .u8 0,.i 0,.bool false,.bool false,.slice none 0 0,.i 0,.slice none 0 0,.i 0,.i 0,.i 0,.i 0,.slice none 0 0,.i 0,.slice none 0 0,.i 1,.i 1,.slice (some ⟨Nq,0,none⟩) 1 1,.i 1])) rfl (fun u C42 S=>?_);have NJ:=TI.bC (ht.below WO) C42 X43;refine akI<|rF _ _<|akW S 2 results80 rfl (v := .agg (Sx.L [.i id,.i kind,.i 0]++t.cells++Sx.L [.slice none 0 0,.i 0,.int .u8 0,.i 0,.bool false,.bool false,.slice none 0 0,.i 0,.slice none 0 0,.i 0,.i 0,.i 0,.i 0,.slice none 0 0,.i 0,.slice none 0 0,.i 1,.i 1,.slice (some ⟨Nq,0,none⟩) 1 1,.i 1]).toArray) ?_;have e:kind=3:=(by simpa using oh);subst e;exact⟨LU id t Nq,rfl,.inr (.inr (.inl ⟨rfl,t,Nq,NJ,S.bx 0,rfl⟩)),S.E⟩
 refine akJ fun _ zy=>adr S 1 [] [(11,.agg (Sx.L [.i 0,.i 0,.i 0]++Sx.za++Sx.L [.slice none 0 0,.i 0,.int .u8 0,.i 0,.bool false,.bool false,.slice none 0 0,.i 0,.slice none 0 0,.i 0,.i 0,.i 0,.i 0,.slice none 0 0,.i 0,.slice none 0 0,.i 0,.i 0,.slice none 0 0,.i 0]).toArray)] (fun S=>?_);have X47:=S.bx 1;refine akO S 1 (off:=0) (cs:=(Sx.L [.i 0,.i 0,.i 0]++Sx.za++Sx.L [.slice none 0 0,.i 0,.int .u8 0,.i 0,.bool false,.bool false,.slice none 0 0,.i 0,.slice none 0 0,.i 0,.i 0,.i 0,.i 0,.slice none 0 0,.i 0,.slice none 0 0,.i 0,.i 0,.slice none 0 0,.i 0])) rfl (fun u V8 S=>?_);have WI:=TI.bC (ht.below wM) V8 X47;refine akI<|zy _ _<|akW S 1 results80 rfl (v := .agg (Sx.L [.i 0,.i 0,.i 0]++Sx.za++Sx.L [.slice none 0 0,.i 0,.int .u8 0,.i 0,.bool false,.bool false,.slice none 0 0,.i 0,.slice none 0 0,.i 0,.i 0,.i 0,.i 0,.slice none 0 0,.i 0,.slice none 0 0,.i 0,.i 0,.slice none 0 0,.i 0]).toArray) ?_;exact⟨l7,rfl,.inr (.inr (.inr ⟨⟨(by simpa using qE),(by simpa using hc25),(by simpa using oh)⟩,rfl⟩)),S.E⟩
end
section
open Go.RowKit
variable{α:Type}{K:Nat}
theorem TI.fit{w:World}{t:aQ}(h:TI w t)(hK:1≤K):t.fit K:=by
 obtain⟨h1,h2,h3,h4,h5,h6⟩:=h.2.fit adL;exact⟨h1.mono hK,h2.mono hK,h3.mono hK,h4.mono hK,h5.mono hK,h6.mono hK⟩
theorem fO.ok{w:World}{id kind:Int}{nd:aj}(h:fO w id kind nd)(hi:I64 id)(hK:1≤K)(hK2:K≤10000):fK K w nd:=by
 rcases h with ⟨-,t,ht,rfl⟩ | ⟨-,t,ht,rfl⟩ | ⟨-,t,b,ht,hb,rfl⟩ | ⟨-,rfl⟩
 ·exact⟨⟨hi,(show I64 1 by decide),gZ,ht.1,pI w,gZ,(show I64 1 by decide),pI w,gZ,kQ w,aX.jM w,kQ w,bW.jM w,gZ⟩,ht.fit hK,fun p hp=>(by cases hp),fun p hp=>(by cases hp),hK,hK2⟩
 ·exact WA hi ht.1 (ht.fit (alf 1)) hK hK2
 ·refine⟨⟨hi,(show I64 3 by decide),gZ,ht.1,pI w,gZ,gZ,pI w,gZ,kQ w,aX.jM w,kQ w,⟨(show I64 1 by decide),(show I64 1 by decide),?_⟩,(show I64 1 by decide)⟩,ht.fit hK,fun p hp=>(by cases hp),fun p hp=>(by cases hp),hK,hK2⟩;refine⟨some ⟨b,0,none⟩,1,rfl,by decide,.inr ⟨b,0,rfl,hb.1,alf _,fun i hi j hj=>?_⟩⟩;obtain rfl:i=0:=by simp[LU]at hi; exact hi
  have:=hb.2.1 j;rw[show 0+0*4+j=j by omega,this];show _=(dF.cells af8)[j]?;rw[←List.getElem?_toArray];rfl
 exact oM w hK hK2
theorem fO.key{w w2:World}{id kind:Int}{nd m:aj}(h:fO w id kind nd)(k:fO w2 id kind m):nd.key=m.key∧nd.t.same m.t=true:=by
 have hs:qI.same qI=true:=by decide
 rcases h with ⟨rfl,t,ht,rfl⟩ | ⟨rfl,t,ht,rfl⟩ | ⟨rfl,t,b,ht,-,rfl⟩ | ⟨⟨k1,k2,k3⟩,rfl⟩ <;>
 rcases k with ⟨e,u,hu,rfl⟩ | ⟨e,u,hu,rfl⟩ | ⟨e,u,c,hu,-,rfl⟩ | ⟨⟨j1,j2,j3⟩,rfl⟩ <;>
 first | contradiction | (exact absurd e (by decide)) | skip
 ·exact⟨by unfold aj.key TV; simp only[ht.2.q uU,hu.2.q uU],by show t.same u=true; rw[Ec ht.2 hu.2,hs]⟩
 ·exact⟨by unfold aj.key gK; simp only[ht.2.q uU,hu.2.q uU],by show t.same u=true; rw[Ec ht.2 hu.2,hs]⟩
 ·exact⟨by unfold aj.key LU bW.key; simp only[ht.2.q uU,hu.2.q uU],by show t.same u=true; rw[Ec ht.2 hu.2,hs]⟩
 exact⟨rfl,by decide⟩
theorem fO.check{w:World}{id kind:Int}{nd:aj}(h:fO w id kind nd):(nd.checkN==0)=((((decide (1≤id))&&(decide (id≤1073741824)))&&(decide (1≤kind)))&&(decide (kind≤3))):=by
 have hv:qI.valid=true:=by decide
 have hd:oG qI.vW q0=false:=by decide
 have key:∀(n:aj),n.gU=[(false,2),((((decide (id<1))||(decide (1073741824<id)))||false)||false,6),(!n.t.q.valid,5),(oG n.t.q.vW q0,9),(false,10),(false,17)]→n.t.q=qI→n.ql=0→(n.checkN==0)=((decide (1≤id))&&(decide (id≤1073741824))):=by
  intro n hL hq ho;unfold aj.checkN;rw[hL,hq,hv,hd,ho];rw[al4];by_cases h1:id<1
  ·simp[badL,kE,h1]; omega
  by_cases h2:1073741824<id
  ·simp[badL,kE,h2];try omega
  simp[badL,kE,h1,h2]; omega
 rcases h with ⟨rfl,t,ht,rfl⟩ | ⟨rfl,t,ht,rfl⟩ | ⟨rfl,t,b,ht,-,rfl⟩ | ⟨⟨k1,k2,k3⟩,rfl⟩
 ·rw[key _ rfl (ht.2.q uU) rfl]; simp
 ·rw[key _ rfl (ht.2.q uU) rfl]; simp
 ·rw[key _ rfl (ht.2.q uU) rfl]; simp
 rw[Kv];symm;rw[al4];simp only[alr,alz,alu];omega
end
end Go.Proofs.YtfmkkemfhjkajaaGreatDoor
