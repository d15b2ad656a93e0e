/- Numbers in lowest terms are equal by value exactly if -/
import Derived.Test.YtfmkkemfhjkajaaGreatDoorPk27
import Derived.Test.YtfmkkemfhjkajaaGreatDoorPk24
namespace Go.Proofs.YtfmkkemfhjkajaaGreatDoor
section
theorem IW.facts{q:Bool×Nat×Nat}(h:IW q):0<q.2.2∧Nat.Coprime q.2.1 q.2.2∧(q.1=true→0<q.2.1):=by
 obtain⟨n,a,b⟩:=q;unfold IW nrm at h;simp only at h ⊢;split at h
 ·rename_i hb;simp only[Prod.mk.injEq]at h;omega
 rename_i hb;simp only[Prod.mk.injEq]at h;obtain⟨h1,h2,h3⟩:=h;have hg:Nat.gcd a b=1:=by
  have hb':0<b:=by omega
  have:=Nat.div_mul_cancel (Nat.gcd_dvd_right a b);rw[h3]at this;exact Nat.eq_of_mul_eq_mul_left hb' (by omega)
 refine⟨by omega,hg,fun hn=>?_⟩;rw[hn]at h1;unfold nM at h1;rw[Bool.and_eq_true]at h1;have:=h1.2;rw[hg,Nat.div_one]at this;simpa using this
theorem vH{p q:Bool×Nat×Nat}(hp:IW p)(hq:IW q):oL p q=decide (p=q):=by
 obtain⟨p1,p2,p3⟩:=hp.facts;obtain⟨q1,q2,q3⟩:=hq.facts;rw[Bool.eq_iff_iff];unfold oL kZ;simp only[beq_iff_eq,decide_eq_true_eq,Int.sign_eq_zero_iff_zero];constructor
 ·intro h;obtain⟨n,a,b⟩:=p;obtain⟨m,c,d⟩:=q;simp only at *;have hz:qz (n,a,b)*(d:Int)=qz (m,c,d)*(b:Int):=by simpa using (by omega:qz (n,a,b)*(d:Int)-qz (m,c,d)*(b:Int)=0→qz (n,a,b)*(d:Int)=qz (m,c,d)*(b:Int)) h
  have habs:=congrArg Int.natAbs hz;have hzv:∀(s:Bool) (x:Nat),(zv s x).natAbs=x:=by intro s x; unfold zv; split<;>simp
  unfold qz at hz habs;simp only[Int.natAbs_mul,hzv,Int.natAbs_natCast]at habs;have hbd:b∣d:=p2.symm.dvd_of_dvd_mul_left ⟨c,by rw[habs,Nat.mul_comm]⟩;have hdb:d∣b:=q2.symm.dvd_of_dvd_mul_left ⟨a,by rw[←habs,Nat.mul_comm]⟩;obtain rfl:b=d:=Nat.dvd_antisymm hbd hdb;obtain rfl:a=c:=Nat.eq_of_mul_eq_mul_right p1 habs;have hz2:zv n a=zv m a:=Int.eq_of_mul_eq_mul_right (by omega) hz;obtain rfl:n=m:=by
   unfold zv at hz2;cases n<;>cases m<;>simp at * <;> omega
  rfl
 intro h; rw[h]; omega
theorem Q6.same_eq{P Q:Q6}(hp:xq P)(hq:xq Q):P.same Q=P.eq Q:=by
 unfold Q6.same Q6.eq;rw[vH hp.1 hq.1,vH hp.2.1 hq.2.1,vH hp.2.2.1 hq.2.2.1,vH hp.2.2.2.1 hq.2.2.2.1,vH hp.2.2.2.2.1 hq.2.2.2.2.1,vH hp.2.2.2.2.2 hq.2.2.2.2.2]
end
section
set_option maxHeartbeats 3200000
set_option maxRecDepth 100000
open Go.RowKit
variable{α:Type}{K:Nat}
set_option linter.unusedVariables false
def ak.qR(p:ak):Bool:=((((p.p0.x==0)&&(p.p0.y==0))&&((p.p1.x==0)&&(p.p1.y==0)))&&((p.bC)==0))&&(((p.stops.length:Int))==0)
theorem D7{w:World}{p:ak}(h:p.ok w) :
  Calls Tryz.prog 254 #[p.v] w fun e w'=>e = .returned (.bool (p.qR))∧Ext w w':=by
 skip;refine akk Tryz.func254 Tryz.ntmps254 fun ac S=>akg fun _ aP=>akh S 1 p.cells fun ac u b2 E3 hb4 S=>adr S 1 [] [(2,.bool false)] fun S=>akf<|aP _ _<|akg fun _ dG=>adr S 22 [.mem 0 5,.cmp .eql 60 (.tmp 4) (.tmp 5) (.agg #[.i p.p0.x,.i p.p0.y]) (.agg #[.i 0,.i 0]) (.bool ((p.p0.x==0)&&(p.p0.y==0))),.mem 0 7,.cmp .eql 60 (.tmp 9) (.tmp 10) (.agg #[.i p.p1.x,.i p.p1.y]) (.agg #[.i 0,.i 0]) (.bool ((p.p1.x==0)&&(p.p1.y==0))),.mem 0 9,.mem 0 10] [(2,.bool (((((p.p0.x==0)&&(p.p0.y==0))&&((p.p1.x==0)&&(p.p1.y==0)))&&((p.bC)==0))&&(((p.stops.length:Int))==0)))] (hk:=⟨aky (fun _=>eqPt ..) (by kernel_rfl),aky (fun _=>eqPt ..) (by kernel_rfl),trivial⟩) fun S=>akf<|dG _ _<|akj S Tryz.results254 ?_;exact⟨rfl,S.E⟩
def ak.nR(p:ak):Bool:=((((p.img.w)==0)&&((p.img.h)==0))&&(((p.img.l.length:Int))==0))&&((p.bQ)==0)
theorem wK{w:World}{p:ak}(h:p.ok w) :
  Calls Tryz.prog 255 #[p.v] w fun e w'=>e = .returned (.bool (p.nR))∧Ext w w':=by
 skip;refine akk Tryz.func255 Tryz.ntmps255 fun ac S=>akg fun _ aP=>akh S 1 p.cells fun ac u b2 E3 hb4 S=>adr S 1 [] [(2,.bool false)] fun S=>akf<|aP _ _<|akg fun _ dG=>adr S 23 [.mem 0 12,.mem 0 13,.mem 0 14,.mem 0 15] [(2,.bool (((((p.img.w)==0)&&((p.img.h)==0))&&(((p.img.l.length:Int))==0))&&((p.bQ)==0)))] fun S=>akf<|dG _ _<|akj S Tryz.results255 ?_;exact⟨rfl,S.E⟩
theorem PX{w:World}{t:aS}(h:jF K w t.v t.q)(hK1:1≤K)(hK:K≤10000) :
  Calls Tryz.prog 256 #[t.v] w fun e w'=>e = .returned (.bool (t.q.same aS.none.q))∧Ext w w':=by
 skip;refine akk Tryz.func256 Tryz.ntmps256 fun ac S=>akg fun _ aP=>akh S 1 t.cells fun ac u b2 E3 hb4 S=>adr S 1 [] [(2,.bool false)] fun S=>akf<|aP _ _<|akg fun _ dG=>adr S 2 [.mem 0 0] [(3,t.v),(4,.agg Sx.za.toArray)] fun S=>akn S 5 (vX (t:=t) (t2:=aS.none) (h.fG S.E) ((aS.toQ (aS.ig _) (aS.iV K)).fG (Below.refl _ _)) hK1 hK) fun ac u E6 S=>adr S 1 [] [(2,.bool (t.q.same aS.none.q))] fun S=>akf<|dG _ _<|akj S Tryz.results256 ?_;exact⟨rfl,S.E⟩
def ak.sN(p:ak):Bool:=cond ((p.kind)==1) (((p.qR&&p.nR)&&((p.spread)==0))&&(p.t.q.same aS.none.q)) (cond ((p.kind)==2) ((((((p.nR&&(((p.color.r.toNat:Int)==0)&&(((p.color.g.toNat:Int)==0)&&(((p.color.b.toNat:Int)==0)&&((p.color.a.toNat:Int)==0)))))&&((p.bC)==0))&&(oQ p.p0.x p.p0.y))&&(oQ p.p1.x p.p1.y))&&(eP p.stops))&&(decide (1≤p.spread)&&decide (p.spread≤3))) (cond ((p.kind)==3) (((((((p.nR&&(((p.color.r.toNat:Int)==0)&&(((p.color.g.toNat:Int)==0)&&(((p.color.b.toNat:Int)==0)&&((p.color.a.toNat:Int)==0)))))&&((p.p1.x==0)&&(p.p1.y==0)))&&(oQ p.p0.x p.p0.y))&&(decide (1≤p.bC)))&&(decide (p.bC≤1048576)))&&(eP p.stops))&&(decide (1≤p.spread)&&decide (p.spread≤3))) (cond ((p.kind)==4) ((((p.qR&&(((p.color.r.toNat:Int)==0)&&(((p.color.g.toNat:Int)==0)&&(((p.color.b.toNat:Int)==0)&&((p.color.a.toNat:Int)==0)))))&&(p.img.valid))&&(((p.spread)==0)||(decide (1≤p.spread)&&decide (p.spread≤3))))&&(((p.bQ)==1)||((p.bQ)==2))) (false))))
theorem TR{w:World}{p:ak}(h:p.ok w)(hq:jF K w p.t.v p.t.q)(hK1:1≤K)(hK:K≤10000) :
  Calls Tryz.prog 239 #[p.v] w fun e w'=>e = .returned (.bool p.sN)∧Ext w w':=by
 skip;refine akk Tryz.func239 Tryz.ntmps239 fun ac S=>akg fun _ aP=>akh S 1 p.cells fun ac u b2 E3 hb4 S=>adr S 1 [] [(2,.bool false)] fun S=>akf<|aP _ _<|wp_seq_k fun _ dG=>akg fun _ jl=>adr S 2 [.mem 0 0] [(4,.i p.kind)] fun S=>akf<|jl _ _<|wp_block<|akg fun _ jT=>adr S 2 [] [(5,.bool ((p.kind)==1))] fun S=>akf (jT _ _ ?_);refine aki S (fun hc8=>?_) (fun hc8=>?_)
 ·refine akg fun _ gX=>adr S 1 [.mem 0 0] [(7,p.v)] fun S=>akn S 8 (D7 (h.below S.E)) fun ac u zV S=>aku S 15 [.mem 0 0,.mem 0 11,.mem 0 16] [(_,_,p.qR,.bool p.nR),(_,_,((p.qR&&p.nR)&&((p.spread)==0)),.bool (p.t.q.same aS.none.q))] [(2,.bool (((p.qR&&p.nR)&&((p.spread)==0))&&(p.t.q.same aS.none.q)))] ⟨fun u hC g=>wK (h.below (Ext.trans' S.E hC)),fun u hC g=>PX (K:=K) (t:=p.t) (hq.fG (Ext.trans' S.E hC)) hK1 hK,trivial⟩ fun ac u xA S=>akf<|gX _ _<|Vp.rt ?_;have p0:=hc8;refine akm S Tryz.results239 ?_;exact⟨aB (by unfold ak.sN; simp only[p0,cond_true]),S.E⟩
 refine akg fun _ bV=>adr S 2 [] [(23,.bool ((p.kind)==2))] fun S=>akf (bV _ _ ?_);refine aki S (fun hc13=>?_) (fun hc13=>?_)
 ·refine akg fun _ fC=>adr S 1 [.mem 0 0] [(25,p.v)] fun S=>akn S 26 (wK (h.below S.E)) fun ac u QM S=>aku S 32 [.mem 0 1,.cmp .eql 23 (.tmp 29) (.tmp 30) (.agg #[.int .u8 (p.color.r.toNat:Int),.int .u8 (p.color.g.toNat:Int),.int .u8 (p.color.b.toNat:Int),.int .u8 (p.color.a.toNat:Int)]) (.agg #[.int .u8 0,.int .u8 0,.int .u8 0,.int .u8 0]) (.bool (((p.color.r.toNat:Int)==0)&&(((p.color.g.toNat:Int)==0)&&(((p.color.b.toNat:Int)==0)&&((p.color.a.toNat:Int)==0))))),.mem 0 9,.mem 0 5,.mem 0 7,.mem 0 10,.mem 0 11] [(_,_,((p.nR&&(((p.color.r.toNat:Int)==0)&&(((p.color.g.toNat:Int)==0)&&(((p.color.b.toNat:Int)==0)&&((p.color.a.toNat:Int)==0)))))&&((p.bC)==0)),.bool (oQ p.p0.x p.p0.y)),(_,_,(((p.nR&&(((p.color.r.toNat:Int)==0)&&(((p.color.g.toNat:Int)==0)&&(((p.color.b.toNat:Int)==0)&&((p.color.a.toNat:Int)==0)))))&&((p.bC)==0))&&(oQ p.p0.x p.p0.y)),.bool (oQ p.p1.x p.p1.y)),(_,_,((((p.nR&&(((p.color.r.toNat:Int)==0)&&(((p.color.g.toNat:Int)==0)&&(((p.color.b.toNat:Int)==0)&&((p.color.a.toNat:Int)==0)))))&&((p.bC)==0))&&(oQ p.p0.x p.p0.y))&&(oQ p.p1.x p.p1.y)),.bool (eP p.stops)),(_,_,(((((p.nR&&(((p.color.r.toNat:Int)==0)&&(((p.color.g.toNat:Int)==0)&&(((p.color.b.toNat:Int)==0)&&((p.color.a.toNat:Int)==0)))))&&((p.bC)==0))&&(oQ p.p0.x p.p0.y))&&(oQ p.p1.x p.p1.y))&&(eP p.stops)),.bool (decide (1≤p.spread)&&decide (p.spread≤3)))] [(2,.bool ((((((p.nR&&(((p.color.r.toNat:Int)==0)&&(((p.color.g.toNat:Int)==0)&&(((p.color.b.toNat:Int)==0)&&((p.color.a.toNat:Int)==0)))))&&((p.bC)==0))&&(oQ p.p0.x p.p0.y))&&(oQ p.p1.x p.p1.y))&&(eP p.stops))&&(decide (1≤p.spread)&&decide (p.spread≤3))))] ⟨fun u hC g=>lM p.p0.x p.p0.y _,fun u hC g=>lM p.p1.x p.p1.y _,fun u hC g=>BN (h.2.2.2.2.1.below (Ext.trans' S.E hC)),fun u hC g=>akw (uO p.spread _),trivial⟩ (hk:=⟨aky (fun _=>Jw ..) (by kernel_rfl),trivial⟩) fun ac u Nv S=>akf<|fC _ _<|Vp.rt ?_;have p0:=hc8;have p1:=hc13;refine akm S Tryz.results239 ?_;exact⟨aB (by unfold ak.sN; simp only[p0,p1,cond_true,cond_false]),S.E⟩
 refine akg fun _ gI=>adr S 2 [] [(58,.bool ((p.kind)==3))] fun S=>akf (gI _ _ ?_);refine aki S (fun hc18=>?_) (fun hc18=>?_)
 ·refine akg fun _ jI=>adr S 1 [.mem 0 0] [(60,p.v)] fun S=>akn S 61 (wK (h.below S.E)) fun ac u Ez S=>aku S 38 [.mem 0 1,.cmp .eql 23 (.tmp 64) (.tmp 65) (.agg #[.int .u8 (p.color.r.toNat:Int),.int .u8 (p.color.g.toNat:Int),.int .u8 (p.color.b.toNat:Int),.int .u8 (p.color.a.toNat:Int)]) (.agg #[.int .u8 0,.int .u8 0,.int .u8 0,.int .u8 0]) (.bool (((p.color.r.toNat:Int)==0)&&(((p.color.g.toNat:Int)==0)&&(((p.color.b.toNat:Int)==0)&&((p.color.a.toNat:Int)==0))))),.mem 0 7,.cmp .eql 60 (.tmp 70) (.tmp 71) (.agg #[.i p.p1.x,.i p.p1.y]) (.agg #[.i 0,.i 0]) (.bool ((p.p1.x==0)&&(p.p1.y==0))),.mem 0 5,.mem 0 9,.mem 0 9,.mem 0 10,.mem 0 11] [(_,_,((p.nR&&(((p.color.r.toNat:Int)==0)&&(((p.color.g.toNat:Int)==0)&&(((p.color.b.toNat:Int)==0)&&((p.color.a.toNat:Int)==0)))))&&((p.p1.x==0)&&(p.p1.y==0))),.bool (oQ p.p0.x p.p0.y)),(_,_,(((((p.nR&&(((p.color.r.toNat:Int)==0)&&(((p.color.g.toNat:Int)==0)&&(((p.color.b.toNat:Int)==0)&&((p.color.a.toNat:Int)==0)))))&&((p.p1.x==0)&&(p.p1.y==0)))&&(oQ p.p0.x p.p0.y))&&(decide (1≤p.bC)))&&(decide (p.bC≤1048576))),.bool (eP p.stops)),(_,_,((((((p.nR&&(((p.color.r.toNat:Int)==0)&&(((p.color.g.toNat:Int)==0)&&(((p.color.b.toNat:Int)==0)&&((p.color.a.toNat:Int)==0)))))&&((p.p1.x==0)&&(p.p1.y==0)))&&(oQ p.p0.x p.p0.y))&&(decide (1≤p.bC)))&&(decide (p.bC≤1048576)))&&(eP p.stops)),.bool (decide (1≤p.spread)&&decide (p.spread≤3)))] [(2,.bool (((((((p.nR&&(((p.color.r.toNat:Int)==0)&&(((p.color.g.toNat:Int)==0)&&(((p.color.b.toNat:Int)==0)&&((p.color.a.toNat:Int)==0)))))&&((p.p1.x==0)&&(p.p1.y==0)))&&(oQ p.p0.x p.p0.y))&&(decide (1≤p.bC)))&&(decide (p.bC≤1048576)))&&(eP p.stops))&&(decide (1≤p.spread)&&decide (p.spread≤3))))] ⟨fun u hC g=>lM p.p0.x p.p0.y _,fun u hC g=>BN (h.2.2.2.2.1.below (Ext.trans' S.E hC)),fun u hC g=>akw (uO p.spread _),trivial⟩ (hk:=⟨aky (fun _=>Jw ..) (by kernel_rfl),aky (fun _=>eqPt ..) (by kernel_rfl),trivial⟩) fun ac u zo S=>akf<|jI _ _<|Vp.rt ?_;have p0:=hc8;have p1:=hc13;have p2:=hc18;refine akm S Tryz.results239 ?_;exact⟨aB (by unfold ak.sN; simp only[p0,p1,p2,cond_true,cond_false]),S.E⟩
 refine akg fun _ jv=>adr S 2 [] [(99,.bool ((p.kind)==4))] fun S=>akf (jv _ _ ?_);refine aki S (fun uJ=>?_) (fun uJ=>?_)
 ·refine akg fun _ jB=>adr S 1 [.mem 0 0] [(101,p.v)] fun S=>akn S 102 (D7 (h.below S.E)) fun ac u SK S=>aku S 32 [.mem 0 1,.cmp .eql 23 (.tmp 105) (.tmp 106) (.agg #[.int .u8 (p.color.r.toNat:Int),.int .u8 (p.color.g.toNat:Int),.int .u8 (p.color.b.toNat:Int),.int .u8 (p.color.a.toNat:Int)]) (.agg #[.int .u8 0,.int .u8 0,.int .u8 0,.int .u8 0]) (.bool (((p.color.r.toNat:Int)==0)&&(((p.color.g.toNat:Int)==0)&&(((p.color.b.toNat:Int)==0)&&((p.color.a.toNat:Int)==0))))),.mem 0 12,.mem 0 11,.mem 0 11,.mem 0 15,.mem 0 15] [(_,_,(p.qR&&(((p.color.r.toNat:Int)==0)&&(((p.color.g.toNat:Int)==0)&&(((p.color.b.toNat:Int)==0)&&((p.color.a.toNat:Int)==0))))),.bool (p.img.valid)),(_,_,(((p.qR&&(((p.color.r.toNat:Int)==0)&&(((p.color.g.toNat:Int)==0)&&(((p.color.b.toNat:Int)==0)&&((p.color.a.toNat:Int)==0)))))&&(p.img.valid))&&(!((p.spread)==0))),.bool (decide (1≤p.spread)&&decide (p.spread≤3)))] [(2,.bool ((((p.qR&&(((p.color.r.toNat:Int)==0)&&(((p.color.g.toNat:Int)==0)&&(((p.color.b.toNat:Int)==0)&&((p.color.a.toNat:Int)==0)))))&&(p.img.valid))&&(((p.spread)==0)||(decide (1≤p.spread)&&decide (p.spread≤3))))&&(((p.bQ)==1)||((p.bQ)==2))))] ⟨fun u hC g=>BO (m:=p.img) (h.2.2.2.2.2.2.2.1.below (Ext.trans' S.E hC)),fun u hC g=>akw (uO p.spread _),trivial⟩ (hk:=⟨aky (fun _=>Jw ..) (by kernel_rfl),trivial⟩) fun ac u UW S=>akf<|jB _ _<|Vp.rt ?_;have p0:=hc8;have p1:=hc13;have p2:=hc18;have p3:=uJ;refine akm S Tryz.results239 ?_;exact⟨aB (by unfold ak.sN; simp only[p0,p1,p2,p3,cond_true,cond_false]),S.E⟩
 refine wp_skip<|dG _ _<|akg fun _ jK=>adr S 1 [] [(2,.bool false)] fun S=>akf<|jK _ _<|Vp.rt ?_;have p0:=hc8;have p1:=hc13;have p2:=hc18;have p3:=uJ;refine akm S Tryz.results239 ?_;exact⟨aB (by unfold ak.sN; simp only[p0,p1,p2,p3,cond_false]),S.E⟩
def ak.uh(p:ak):Bool:=(p.t.q.valid&&p.sN)&&((p.kind==1)||((kZ p.t.q.wU q0) != 0))
theorem ae3{p:ak}(h:((!(p.t.q.valid))||(!(p.sN)))=true):false=p.uh:=by
 unfold ak.uh;cases hv:p.t.q.valid<;>cases hh:p.sN<;>simp[hv,hh]at h ⊢
theorem VO{p:ak}(h:((!(p.t.q.valid))||(!(p.sN)))=false):(p.t.q.valid&&p.sN)=true:=by
 cases hv:p.t.q.valid<;>cases hh:p.sN<;>simp[hv,hh]at h ⊢
theorem LQ{w:World}{p:ak}(h:p.ok w)(hq:jF K w p.t.v p.t.q)(hK1:1≤K)(hK:K≤10000) :
  Calls Tryz.prog 212 #[p.v] w fun e w'=>e = .returned (.bool p.uh)∧Ext w w':=by
 skip;refine akk Tryz.func212 Tryz.ntmps212 fun ac S=>akg fun _ aP=>akh S 1 p.cells fun ac u b2 E3 hb4 S=>adr S 1 [] [(2,.bool false)] fun S=>akf<|aP _ _<|wp_seq_k fun _ dG=>akg fun _ jl=>adr S 2 [.mem 0 16] [(4,p.t.v)] fun S=>akn S 5 (zI p.t.v p.t.q K _ (hq.fG S.E) hK1 (by omega)) fun ac u E7 S=>aku S 6 [.mem 0 0] [(_,_,(!(!p.t.q.valid)),.bool p.sN)] [(11,.bool ((!p.t.q.valid)||(!p.sN)))] ⟨fun u hC g=>TR (K:=K) (h.below (Ext.trans' S.E hC)) (hq.fG (Ext.trans' S.E hC)) hK1 hK,trivial⟩ fun ac u E8 S=>akf (jl _ _ ?_);refine aki S (fun U7=>?_) (fun U7=>?_)
 ·refine akg fun _ fD=>adr S 1 [] [(2,.bool false)] fun S=>akf<|fD _ _<|Vp.rt ?_;have p0:=U7;refine akm S Tryz.results212 ?_;exact⟨aB (ae3 p0),S.E⟩
 refine wp_skip<|dG _ _<|akg (fun _ dn=>?_);cases hk:(p.kind==1)
 ·refine adr S 6 [.mem 0 0,.re 14 (.bool ((p.kind)==1)) (.bool false),.mem 0 16] [(15,.bool false),(17,p.t.v)] (hk:=⟨congrArg Value.bool hk,trivial⟩) fun S=>Sx.uH S (some 18) (PS p.t.v p.t.q K _ (hq.fG S.E) hK1 hK) ?_;rintro e u ⟨y,rfl,hd,EK⟩;refine⟨_,rfl,EK,fun ac S=>?_⟩;refine Sx.uH S (some 19) (oI 0 _ (by decide)) ?_;rintro e u ⟨z,rfl,hz,Et⟩;refine⟨_,rfl,Et,fun ac S=>?_⟩;refine Sx.uH S (some 20) (PY _ _ p.t.q.wU q0 (K+K+(K+K)+1) 1 _ (aA.toQ (hd.ext Et) (yO _) (yP hK1 (XA.XB hq hK1))) (aA.toQ (q:=q0) hz Tj Tm) (by omega) (by omega) (by omega) (by omega)) ?_;rintro e u ⟨rfl,Es⟩;refine⟨_,rfl,Es,fun ac S=>?_⟩;refine adr S 3 [] [(2,.bool (((kZ p.t.q.wU q0)) != 0))] fun S=>akf<|dn _ _<|Vp.rt ?_;have p0:=U7;refine akm S Tryz.results212 ?_;exact⟨aB (by unfold ak.uh; rw[VO p0,hk]; rfl),S.E⟩
 refine adr S 12 [.mem 0 0,.re 14 (.bool ((p.kind)==1)) (.bool true),.dead 16 (.bool false),.dead 17 (.bool false),.dead 18 (.bool false),.dead 19 (.bool false),.dead 20 (.bool false),.dead 21 (.bool false)] [(2,.bool true)] (hk:=⟨congrArg Value.bool hk,trivial⟩) fun S=>akf<|dn _ _<|Vp.rt ?_;have p0:=U7;refine akm S Tryz.results212 ?_;exact⟨aB (by unfold ak.uh; rw[VO p0,hk]; rfl),S.E⟩
end
section
theorem len0{α:Type}(l:List α):((l.length:Int)==0)=l.isEmpty:=by cases l<;>simp<;>omega
theorem nil0{α:Type}[DecidableEq α](l:List α):decide (l=[])=l.isEmpty:=by cases l<;>simp
theorem G9{p:ak}(hn:xq p.t.q)(h0:xq aS.none.q):p.uh=p.valid:=by
 have hs:p.t.q.same aS.none.q=p.t.q.eq aS.none.q:=Q6.same_eq hn h0;have ha:aS.none.q.eq aS.none.q=true:=by rw[←Q6.same_eq h0 h0]; unfold Q6.same; simp
 have e1:oQ p.p0.x p.p0.y=kU.valid ⟨p.p0.x,p.p0.y⟩:=LU ⟨p.p0.x,p.p0.y⟩;have e2:oQ p.p1.x p.p1.y=kU.valid ⟨p.p1.x,p.p1.y⟩:=LU ⟨p.p1.x,p.p1.y⟩;unfold ak.uh ak.valid ak.sN;rw[hs,e1,e2];cases htv:p.t.q.valid
 ·simp
 by_cases k1:p.kind=1
 ·simp[k1,ak.without,ak.Vu,ak.eq,ak.bare,ak.qR,ak.nR,ha,bY.none,kU.none,bZ.eq,bZ.bare,len0,nil0];cases p.t.q.eq aS.none.q<;>simp;ac_rfl
 by_cases k2:p.kind=2
 ·simp[k2,ak.without,ak.only2,ak.eq,ak.bare,ak.nR,ha,bY.none,kU.none,bZ.eq,bZ.bare,len0,iW];ac_rfl
 by_cases k3:p.kind=3
 ·simp[k3,ak.without,ak.Vw,ak.eq,ak.bare,ak.nR,ak.qR,ha,bY.none,kU.none,bZ.eq,bZ.bare,len0,iW,←Int.not_lt];ac_rfl
 by_cases k4:p.kind=4
 ·simp[k4,ak.without,ak.Vx,bne,ak.eq,ak.bare,ak.nR,ak.qR,ha,bY.none,kU.none,bZ.eq,bZ.bare,len0,nil0,iW];ac_rfl
 have j1:(p.kind==1)=false:=by simpa using k1
 have j2:(p.kind==2)=false:=by simpa using k2
 have j3:(p.kind==3)=false:=by simpa using k3
 have j4:(p.kind==4)=false:=by simpa using k4
 rw[j1,j2,j3,j4];simp
end
end Go.Proofs.YtfmkkemfhjkajaaGreatDoor
