/- Numbers in lowest terms are equal by value exactly if -/
import Derived.Test.YtapmgonflgahbaaGreatDoorPk25
namespace Go.Proofs.YtapmgonflgahbaaGreatDoor
open _root_.Go.Proofs.Tryz
section
theorem IB.facts{q:Bool×Nat×Nat}(h:IB q):0<q.2.2∧Nat.Coprime q.2.1 q.2.2∧(q.1=true→0<q.2.1):=by
 obtain⟨n,a,b⟩:=q;unfold IB nrm at h;simp only at h ⊢;split at h
 ·rename_i hb;simp only[aob]at h;omega
 rename_i hb;simp only[aob]at h;obtain⟨h1,h2,h3⟩:=h;have hg:Nat.gcd a b=1:=by
  have hb':0<b:=by omega
  have:=Nat.div_mul_cancel (aqh a b);rw[h3]at this;exact Nat.eq_of_mul_eq_mul_left hb' (by omega)
 refine⟨by omega,hg,fun hn=>?_⟩;rw[hn]at h1;unfold nP at h1;rw[aoq]at h1;have:=h1.2;rw[hg,Nat.div_one]at this;simpa using this
theorem uP{p q:Bool×Nat×Nat}(hp:IB p)(hq:IB q):qQ p q=decide (p=q):=by
 obtain⟨p1,p2,p3⟩:=hp.facts;obtain⟨q1,q2,q3⟩:=hq.facts;rw[aoR];unfold qQ lD;simp only[aoo,aov,Int.sign_eq_zero_iff_zero];constructor
 ·intro h;obtain⟨n,a,b⟩:=p;obtain⟨m,c,d⟩:=q;simp only at *;have hz:qz (n,a,b)*(d:Int)=qz (m,c,d)*(b:Int):=by simpa using (by omega:qz (n,a,b)*(d:Int)-qz (m,c,d)*(b:Int)=0→qz (n,a,b)*(d:Int)=qz (m,c,d)*(b:Int)) h
  have habs:=an9 Int.natAbs hz;have hzv:∀(s:Bool) (x:Nat),(zv s x).natAbs=x:=by intro s x; unfold zv; split<;>simp
  unfold qz at hz habs;simp only[Int.natAbs_mul,hzv,apu]at habs;have hbd:b∣d:=p2.symm.dvd_of_dvd_mul_left ⟨c,by rw[habs,aoH]⟩;have hdb:d∣b:=q2.symm.dvd_of_dvd_mul_left ⟨a,by rw[←habs,aoH]⟩;obtain rfl:b=d:=Nat.dvd_antisymm hbd hdb;obtain rfl:a=c:=Nat.eq_of_mul_eq_mul_right p1 habs;have hz2:zv n a=zv m a:=Int.eq_of_mul_eq_mul_right (by omega) hz;obtain rfl:n=m:=by
   unfold zv at hz2;cases n<;>cases m<;>simp at * <;> omega
  rfl
 intro h; rw[h]; omega
theorem Q6.same_eq{P Q:Q6}(hp:Aw P)(hq:Aw Q):P.same Q=P.eq Q:=by
 unfold Q6.same Q6.eq;rw[uP hp.1 hq.1,uP hp.2.1 hq.2.1,uP hp.2.2.1 hq.2.2.1,uP hp.2.2.2.1 hq.2.2.2.1,uP hp.2.2.2.2.1 hq.2.2.2.2.1,uP hp.2.2.2.2.2 hq.2.2.2.2.2]
end
section
set_option maxHeartbeats 3200000
set_option maxRecDepth 100000
open Go.RowKit
variable{α:Type}{K:Nat}
set_option linter.unusedVariables false
def ak.qN(p:ak):Bool:=((((p.p0.x==0)&&(p.p0.y==0))&&((p.p1.x==0)&&(p.p1.y==0)))&&((p.bn)==0))&&(((p.stops.length:Int))==0)
theorem DX{w:World}{p:ak}(h:p.ok w) :
  Calls prog 337 #[p.v] w fun e w'=>e = .returned (.bool (p.qN))∧Ext w w':=by
 skip;refine anA func337 ntmps337 fun ac S=>anv fun _ aS=>anw S 1 p.cells fun ac u b2 E3 hb4 S=>adr S 1 [] [(2,.z)] fun S=>anu<|aS _ _<|anv fun _ bM=>adr S 22 [.mem 0 5,.cmp .eql 123 (.tmp 4) (.tmp 5) (.agg #[.i p.p0.x,.i p.p0.y]) (.agg #[.i 0,.i 0]) (.bool ((p.p0.x==0)&&(p.p0.y==0))),.mem 0 7,.cmp .eql 123 (.tmp 9) (.tmp 10) (.agg #[.i p.p1.x,.i p.p1.y]) (.agg #[.i 0,.i 0]) (.bool ((p.p1.x==0)&&(p.p1.y==0))),.mem 0 9,.mem 0 10] [(2,.bool (((((p.p0.x==0)&&(p.p0.y==0))&&((p.p1.x==0)&&(p.p1.y==0)))&&((p.bn)==0))&&(((p.stops.length:Int))==0)))] (hk:=⟨anN (fun _=>eqPt ..) (by kernel_rfl),anN (fun _=>eqPt ..) (by kernel_rfl),trivial⟩) fun S=>anu<|bM _ _<|anz S results337 ?_;exact⟨rfl,S.E⟩
def ak.nU(p:ak):Bool:=((((p.img.w)==0)&&((p.img.h)==0))&&(((p.img.l.length:Int))==0))&&((p.bY)==0)
theorem vS{w:World}{p:ak}(h:p.ok w) :
  Calls prog 338 #[p.v] w fun e w'=>e = .returned (.bool (p.nU))∧Ext w w':=by
 skip;refine anA func338 ntmps338 fun ac S=>anv fun _ aS=>anw S 1 p.cells fun ac u b2 E3 hb4 S=>adr S 1 [] [(2,.z)] fun S=>anu<|aS _ _<|anv fun _ bM=>adr S 23 [.mem 0 12,.mem 0 13,.mem 0 14,.mem 0 15] [(2,.bool (((((p.img.w)==0)&&((p.img.h)==0))&&(((p.img.l.length:Int))==0))&&((p.bY)==0)))] fun S=>anu<|bM _ _<|anz S results338 ?_;exact⟨rfl,S.E⟩
theorem O4{w:World}{t:bD}(h:jQ K w t.v t.q)(hK1:1≤K)(hK:K≤10000) :
  Calls prog 339 #[t.v] w fun e w'=>e = .returned (.bool (t.q.same bD.none.q))∧Ext w w':=by
 skip;refine anA func339 ntmps339 fun ac S=>anv fun _ aS=>anw S 1 t.cells fun ac u b2 E3 hb4 S=>adr S 1 [] [(2,.z)] fun S=>anu<|aS _ _<|anv fun _ bM=>adr S 2 [.mem 0 0] [(3,t.v),(4,.agg Sx.za.toArray)] fun S=>anE S 5 (vk (t:=t) (t2:=bD.none) (h.fM S.E) ((bD.toQ (bD.iy _) (bD.je K)).fM (aor _ _)) hK1 hK) fun ac u E6 S=>adr S 1 [] [(2,.bool (t.q.same bD.none.q))] fun S=>anu<|bM _ _<|anz S results339 ?_;exact⟨rfl,S.E⟩
def ak.sK(p:ak):Bool:=cond ((p.kind)==1) (((p.qN&&p.nU)&&((p.spread)==0))&&(p.t.q.same bD.none.q)) (cond ((p.kind)==2) ((((((p.nU&&(((p.color.r.toNat:Int)==0)&&(((p.color.g.toNat:Int)==0)&&(((p.color.b.toNat:Int)==0)&&((p.color.a.toNat:Int)==0)))))&&((p.bn)==0))&&(oU p.p0.x p.p0.y))&&(oU p.p1.x p.p1.y))&&(fA p.stops))&&(decide (1≤p.spread)&&decide (p.spread≤3))) (cond ((p.kind)==3) (((((((p.nU&&(((p.color.r.toNat:Int)==0)&&(((p.color.g.toNat:Int)==0)&&(((p.color.b.toNat:Int)==0)&&((p.color.a.toNat:Int)==0)))))&&((p.p1.x==0)&&(p.p1.y==0)))&&(oU p.p0.x p.p0.y))&&(decide (1≤p.bn)))&&(decide (p.bn≤1048576)))&&(fA p.stops))&&(decide (1≤p.spread)&&decide (p.spread≤3))) (cond ((p.kind)==4) ((((p.qN&&(((p.color.r.toNat:Int)==0)&&(((p.color.g.toNat:Int)==0)&&(((p.color.b.toNat:Int)==0)&&((p.color.a.toNat:Int)==0)))))&&(p.img.valid))&&(((p.spread)==0)||(decide (1≤p.spread)&&decide (p.spread≤3))))&&(((p.bY)==1)||((p.bY)==2))) (false))))
theorem RX{w:World}{p:ak}(h:p.ok w)(hq:jQ K w p.t.v p.t.q)(hK1:1≤K)(hK:K≤10000) :
  Calls prog 308 #[p.v] w fun e w'=>e = .returned (.bool p.sK)∧Ext w w':=by
 skip;refine anA func308 ntmps308 fun ac S=>anv fun _ aS=>anw S 1 p.cells fun ac u b2 E3 hb4 S=>adr S 1 [] [(2,.z)] fun S=>anu<|aS _ _<|anV fun _ bM=>anv fun _ iL=>adr S 2 [.mem 0 0] [(4,.i p.kind)] fun S=>anu<|iL _ _<|an1<|anv fun _ iZ=>adr S 2 [] [(5,.bool ((p.kind)==1))] fun S=>anu (iZ _ _ ?_);refine anx S (fun hc8=>?_) (fun hc8=>?_)
 ·refine anv fun _ ig=>adr S 1 [.mem 0 0] [(7,p.v)] fun S=>anE S 8 (DX (h.below S.E)) fun ac u X3 S=>anK S 15 [.mem 0 0,.mem 0 11,.mem 0 16] [(_,_,p.qN,.bool p.nU),(_,_,((p.qN&&p.nU)&&((p.spread)==0)),.bool (p.t.q.same bD.none.q))] [(2,.bool (((p.qN&&p.nU)&&((p.spread)==0))&&(p.t.q.same bD.none.q)))] ⟨fun u hC g=>vS (h.below (Ext.trans' S.E hC)),fun u hC g=>O4 (K:=K) (t:=p.t) (hq.fM (Ext.trans' S.E hC)) hK1 hK,trivial⟩ fun ac u wu S=>anu<|ig _ _<|an2 ?_;have p0:=hc8;refine anD S results308 ?_;exact⟨aC (by unfold ak.sK; simp only[p0,cond_true]),S.E⟩
 refine anv fun _ dW=>adr S 2 [] [(23,.bool ((p.kind)==2))] fun S=>anu (dW _ _ ?_);refine anx S (fun hc13=>?_) (fun hc13=>?_)
 ·refine anv fun _ fP=>adr S 1 [.mem 0 0] [(25,p.v)] fun S=>anE S 26 (vS (h.below S.E)) fun ac u Ez S=>anK S 32 [.mem 0 1,.cmp .eql 23 (.tmp 29) (.tmp 30) (.agg #[.u (p.color.r.toNat:Int),.u (p.color.g.toNat:Int),.u (p.color.b.toNat:Int),.u (p.color.a.toNat:Int)]) (.agg #[.u 0,.u 0,.u 0,.u 0]) (.bool (((p.color.r.toNat:Int)==0)&&(((p.color.g.toNat:Int)==0)&&(((p.color.b.toNat:Int)==0)&&((p.color.a.toNat:Int)==0))))),.mem 0 9,.mem 0 5,.mem 0 7,.mem 0 10,.mem 0 11] [(_,_,((p.nU&&(((p.color.r.toNat:Int)==0)&&(((p.color.g.toNat:Int)==0)&&(((p.color.b.toNat:Int)==0)&&((p.color.a.toNat:Int)==0)))))&&((p.bn)==0)),.bool (oU p.p0.x p.p0.y)),(_,_,(((p.nU&&(((p.color.r.toNat:Int)==0)&&(((p.color.g.toNat:Int)==0)&&(((p.color.b.toNat:Int)==0)&&((p.color.a.toNat:Int)==0)))))&&((p.bn)==0))&&(oU p.p0.x p.p0.y)),.bool (oU p.p1.x p.p1.y)),(_,_,((((p.nU&&(((p.color.r.toNat:Int)==0)&&(((p.color.g.toNat:Int)==0)&&(((p.color.b.toNat:Int)==0)&&((p.color.a.toNat:Int)==0)))))&&((p.bn)==0))&&(oU p.p0.x p.p0.y))&&(oU p.p1.x p.p1.y)),.bool (fA p.stops)),(_,_,(((((p.nU&&(((p.color.r.toNat:Int)==0)&&(((p.color.g.toNat:Int)==0)&&(((p.color.b.toNat:Int)==0)&&((p.color.a.toNat:Int)==0)))))&&((p.bn)==0))&&(oU p.p0.x p.p0.y))&&(oU p.p1.x p.p1.y))&&(fA p.stops)),.bool (decide (1≤p.spread)&&decide (p.spread≤3)))] [(2,.bool ((((((p.nU&&(((p.color.r.toNat:Int)==0)&&(((p.color.g.toNat:Int)==0)&&(((p.color.b.toNat:Int)==0)&&((p.color.a.toNat:Int)==0)))))&&((p.bn)==0))&&(oU p.p0.x p.p0.y))&&(oU p.p1.x p.p1.y))&&(fA p.stops))&&(decide (1≤p.spread)&&decide (p.spread≤3))))] ⟨fun u hC g=>lU p.p0.x p.p0.y _,fun u hC g=>lU p.p1.x p.p1.y _,fun u hC g=>Bj (h.2.2.2.2.1.below (Ext.trans' S.E hC)),fun u hC g=>anO (uy p.spread _),trivial⟩ (hk:=⟨anN (fun _=>I8 ..) (by kernel_rfl),trivial⟩) fun ac u Oo S=>anu<|fP _ _<|an2 ?_;have p0:=hc8;have p1:=hc13;refine anD S results308 ?_;exact⟨aC (by unfold ak.sK; simp only[p0,p1,cond_true,cond_false]),S.E⟩
 refine anv fun _ gV=>adr S 2 [] [(58,.bool ((p.kind)==3))] fun S=>anu (gV _ _ ?_);refine anx S (fun hc18=>?_) (fun hc18=>?_)
 ·refine anv fun _ iU=>adr S 1 [.mem 0 0] [(60,p.v)] fun S=>anE S 61 (vS (h.below S.E)) fun ac u Am S=>anK S 38 [.mem 0 1,.cmp .eql 23 (.tmp 64) (.tmp 65) (.agg #[.u (p.color.r.toNat:Int),.u (p.color.g.toNat:Int),.u (p.color.b.toNat:Int),.u (p.color.a.toNat:Int)]) (.agg #[.u 0,.u 0,.u 0,.u 0]) (.bool (((p.color.r.toNat:Int)==0)&&(((p.color.g.toNat:Int)==0)&&(((p.color.b.toNat:Int)==0)&&((p.color.a.toNat:Int)==0))))),.mem 0 7,.cmp .eql 123 (.tmp 70) (.tmp 71) (.agg #[.i p.p1.x,.i p.p1.y]) (.agg #[.i 0,.i 0]) (.bool ((p.p1.x==0)&&(p.p1.y==0))),.mem 0 5,.mem 0 9,.mem 0 9,.mem 0 10,.mem 0 11] [(_,_,((p.nU&&(((p.color.r.toNat:Int)==0)&&(((p.color.g.toNat:Int)==0)&&(((p.color.b.toNat:Int)==0)&&((p.color.a.toNat:Int)==0)))))&&((p.p1.x==0)&&(p.p1.y==0))),.bool (oU p.p0.x p.p0.y)),(_,_,(((((p.nU&&(((p.color.r.toNat:Int)==0)&&(((p.color.g.toNat:Int)==0)&&(((p.color.b.toNat:Int)==0)&&((p.color.a.toNat:Int)==0)))))&&((p.p1.x==0)&&(p.p1.y==0)))&&(oU p.p0.x p.p0.y))&&(decide (1≤p.bn)))&&(decide (p.bn≤1048576))),.bool (fA p.stops)),(_,_,((((((p.nU&&(((p.color.r.toNat:Int)==0)&&(((p.color.g.toNat:Int)==0)&&(((p.color.b.toNat:Int)==0)&&((p.color.a.toNat:Int)==0)))))&&((p.p1.x==0)&&(p.p1.y==0)))&&(oU p.p0.x p.p0.y))&&(decide (1≤p.bn)))&&(decide (p.bn≤1048576)))&&(fA p.stops)),.bool (decide (1≤p.spread)&&decide (p.spread≤3)))] [(2,.bool (((((((p.nU&&(((p.color.r.toNat:Int)==0)&&(((p.color.g.toNat:Int)==0)&&(((p.color.b.toNat:Int)==0)&&((p.color.a.toNat:Int)==0)))))&&((p.p1.x==0)&&(p.p1.y==0)))&&(oU p.p0.x p.p0.y))&&(decide (1≤p.bn)))&&(decide (p.bn≤1048576)))&&(fA p.stops))&&(decide (1≤p.spread)&&decide (p.spread≤3))))] ⟨fun u hC g=>lU p.p0.x p.p0.y _,fun u hC g=>Bj (h.2.2.2.2.1.below (Ext.trans' S.E hC)),fun u hC g=>anO (uy p.spread _),trivial⟩ (hk:=⟨anN (fun _=>I8 ..) (by kernel_rfl),anN (fun _=>eqPt ..) (by kernel_rfl),trivial⟩) fun ac u uh S=>anu<|iU _ _<|an2 ?_;have p0:=hc8;have p1:=hc13;have p2:=hc18;refine anD S results308 ?_;exact⟨aC (by unfold ak.sK; simp only[p0,p1,p2,cond_true,cond_false]),S.E⟩
 refine anv fun _ jA=>adr S 2 [] [(99,.bool ((p.kind)==4))] fun S=>anu (jA _ _ ?_);refine anx S (fun pF=>?_) (fun pF=>?_)
 ·refine anv fun _ jY=>adr S 1 [.mem 0 0] [(101,p.v)] fun S=>anE S 102 (DX (h.below S.E)) fun ac u Ap S=>anK S 32 [.mem 0 1,.cmp .eql 23 (.tmp 105) (.tmp 106) (.agg #[.u (p.color.r.toNat:Int),.u (p.color.g.toNat:Int),.u (p.color.b.toNat:Int),.u (p.color.a.toNat:Int)]) (.agg #[.u 0,.u 0,.u 0,.u 0]) (.bool (((p.color.r.toNat:Int)==0)&&(((p.color.g.toNat:Int)==0)&&(((p.color.b.toNat:Int)==0)&&((p.color.a.toNat:Int)==0))))),.mem 0 12,.mem 0 11,.mem 0 11,.mem 0 15,.mem 0 15] [(_,_,(p.qN&&(((p.color.r.toNat:Int)==0)&&(((p.color.g.toNat:Int)==0)&&(((p.color.b.toNat:Int)==0)&&((p.color.a.toNat:Int)==0))))),.bool (p.img.valid)),(_,_,(((p.qN&&(((p.color.r.toNat:Int)==0)&&(((p.color.g.toNat:Int)==0)&&(((p.color.b.toNat:Int)==0)&&((p.color.a.toNat:Int)==0)))))&&(p.img.valid))&&(!((p.spread)==0))),.bool (decide (1≤p.spread)&&decide (p.spread≤3)))] [(2,.bool ((((p.qN&&(((p.color.r.toNat:Int)==0)&&(((p.color.g.toNat:Int)==0)&&(((p.color.b.toNat:Int)==0)&&((p.color.a.toNat:Int)==0)))))&&(p.img.valid))&&(((p.spread)==0)||(decide (1≤p.spread)&&decide (p.spread≤3))))&&(((p.bY)==1)||((p.bY)==2))))] ⟨fun u hC g=>Bh (m:=p.img) (h.2.2.2.2.2.2.2.1.below (Ext.trans' S.E hC)),fun u hC g=>anO (uy p.spread _),trivial⟩ (hk:=⟨anN (fun _=>I8 ..) (by kernel_rfl),trivial⟩) fun ac u Yd S=>anu<|jY _ _<|an2 ?_;have p0:=hc8;have p1:=hc13;have p2:=hc18;have p3:=pF;refine anD S results308 ?_;exact⟨aC (by unfold ak.sK; simp only[p0,p1,p2,p3,cond_true,cond_false]),S.E⟩
 refine anZ<|bM _ _<|anv fun _ jX=>adr S 1 [] [(2,.z)] fun S=>anu<|jX _ _<|an2 ?_;have p0:=hc8;have p1:=hc13;have p2:=hc18;have p3:=pF;refine anD S results308 ?_;exact⟨aC (by unfold ak.sK; simp only[p0,p1,p2,p3,cond_false]),S.E⟩
def ak.tZ(p:ak):Bool:=(p.t.q.valid&&p.sK)&&((p.kind==1)||((lD p.t.q.wV q0) != 0))
theorem aeS{p:ak}(h:((!(p.t.q.valid))||(!(p.sK)))=true):false=p.tZ:=by
 unfold ak.tZ;cases hv:p.t.q.valid<;>cases hh:p.sK<;>simp[hv,hh]at h ⊢
theorem UQ{p:ak}(h:((!(p.t.q.valid))||(!(p.sK)))=false):(p.t.q.valid&&p.sK)=true:=by
 cases hv:p.t.q.valid<;>cases hh:p.sK<;>simp[hv,hh]at h ⊢
theorem KW{w:World}{p:ak}(h:p.ok w)(hq:jQ K w p.t.v p.t.q)(hK1:1≤K)(hK:K≤10000) :
  Calls prog 268 #[p.v] w fun e w'=>e = .returned (.bool p.tZ)∧Ext w w':=by
 skip;refine anA func268 ntmps268 fun ac S=>anv fun _ aS=>anw S 1 p.cells fun ac u b2 E3 hb4 S=>adr S 1 [] [(2,.z)] fun S=>anu<|aS _ _<|anV fun _ bM=>anv fun _ iL=>adr S 2 [.mem 0 16] [(4,p.t.v)] fun S=>anE S 5 (zf p.t.v p.t.q K _ (hq.fM S.E) hK1 (by omega)) fun ac u E7 S=>anK S 6 [.mem 0 0] [(_,_,(!(!p.t.q.valid)),.bool p.sK)] [(11,.bool ((!p.t.q.valid)||(!p.sK)))] ⟨fun u hC g=>RX (K:=K) (h.below (Ext.trans' S.E hC)) (hq.fM (Ext.trans' S.E hC)) hK1 hK,trivial⟩ fun ac u E8 S=>anu (iL _ _ ?_);refine anx S (fun VO=>?_) (fun VO=>?_)
 ·refine anv fun _ eX=>adr S 1 [] [(2,.z)] fun S=>anu<|eX _ _<|an2 ?_;have p0:=VO;refine anD S results268 ?_;exact⟨aC (aeS p0),S.E⟩
 refine anZ<|bM _ _<|anv (fun _ cZ=>?_);cases hk:(p.kind==1)
 ·refine adr S 6 [.mem 0 0,.re 14 (.bool ((p.kind)==1)) (.z),.mem 0 16] [(15,.z),(17,p.t.v)] (hk:=⟨an9 Value.bool hk,trivial⟩) fun S=>Sx.zX S (some 18) (OV p.t.v p.t.q K _ (hq.fM S.E) hK1 hK) ?_;rintro e u ⟨y,rfl,hd,wE⟩;refine⟨_,rfl,wE,fun ac S=>?_⟩;refine Sx.zX S (some 19) (oK 0 _ (by decide)) ?_;rintro e u ⟨z,rfl,hz,Dv⟩;refine⟨_,rfl,Dv,fun ac S=>?_⟩;refine Sx.zX S (some 20) (O5 _ _ p.t.q.wV q0 (K+K+(K+K)+1) 1 _ (aB.toQ (hd.ext Dv) (yj _) (yu hK1 (Wq.Ws hq hK1))) (aB.toQ (q:=q0) hz Rx Ry) (by omega) (by omega) (by omega) (by omega)) ?_;rintro e u ⟨rfl,zD⟩;refine⟨_,rfl,zD,fun ac S=>?_⟩;refine adr S 3 [] [(2,.bool (((lD p.t.q.wV q0)) != 0))] fun S=>anu<|cZ _ _<|an2 ?_;have p0:=VO;refine anD S results268 ?_;exact⟨aC (by unfold ak.tZ; rw[UQ p0,hk]; rfl),S.E⟩
 refine adr S 12 [.mem 0 0,.re 14 (.bool ((p.kind)==1)) (.bool true),.dead 16 (.z),.dead 17 (.z),.dead 18 (.z),.dead 19 (.z),.dead 20 (.z),.dead 21 (.z)] [(2,.bool true)] (hk:=⟨an9 Value.bool hk,trivial⟩) fun S=>anu<|cZ _ _<|an2 ?_;have p0:=VO;refine anD S results268 ?_;exact⟨aC (by unfold ak.tZ; rw[UQ p0,hk]; rfl),S.E⟩
end
section
theorem len0{α:Type}(l:List α):((l.length:Int)==0)=l.isEmpty:=by cases l<;>simp<;>omega
theorem nil0{α:Type}[DecidableEq α](l:List α):decide (l=[])=l.isEmpty:=by cases l<;>simp
theorem Gz{p:ak}(hn:Aw p.t.q)(h0:Aw bD.none.q):p.tZ=p.valid:=by
 have hs:p.t.q.same bD.none.q=p.t.q.eq bD.none.q:=Q6.same_eq hn h0;have ha:bD.none.q.eq bD.none.q=true:=by rw[←Q6.same_eq h0 h0]; unfold Q6.same; simp
 have e1:oU p.p0.x p.p0.y=kU.valid ⟨p.p0.x,p.p0.y⟩:=KX ⟨p.p0.x,p.p0.y⟩;have e2:oU p.p1.x p.p1.y=kU.valid ⟨p.p1.x,p.p1.y⟩:=KX ⟨p.p1.x,p.p1.y⟩;unfold ak.tZ ak.valid ak.sK;rw[hs,e1,e2];cases htv:p.t.q.valid
 ·simp
 by_cases k1:p.kind=1
 ·simp[k1,ak.without,ak.Um,ak.eq,ak.bare,ak.qN,ak.nU,ha,bT.none,kU.none,dB.eq,dB.bare,len0,nil0];cases p.t.q.eq bD.none.q<;>simp;ac_rfl
 by_cases k2:p.kind=2
 ·simp[k2,ak.without,ak.only2,ak.eq,ak.bare,ak.nU,ha,bT.none,kU.none,dB.eq,dB.bare,len0,jc];ac_rfl
 by_cases k3:p.kind=3
 ·simp[k3,ak.without,ak.Un,ak.eq,ak.bare,ak.nU,ak.qN,ha,bT.none,kU.none,dB.eq,dB.bare,len0,jc,←Int.not_lt];ac_rfl
 by_cases k4:p.kind=4
 ·simp[k4,ak.without,ak.Uo,bne,ak.eq,ak.bare,ak.nU,ak.qN,ha,bT.none,kU.none,dB.eq,dB.bare,len0,nil0,jc];ac_rfl
 have j1:(p.kind==1)=false:=by simpa using k1
 have j2:(p.kind==2)=false:=by simpa using k2
 have j3:(p.kind==3)=false:=by simpa using k3
 have j4:(p.kind==4)=false:=by simpa using k4
 rw[j1,j2,j3,j4];simp
end
end Go.Proofs.YtapmgonflgahbaaGreatDoor
