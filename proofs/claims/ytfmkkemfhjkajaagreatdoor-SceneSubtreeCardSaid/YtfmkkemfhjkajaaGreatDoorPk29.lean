/- Numbers in lowest terms are equal by value exactly if -/
import Derived.Test.YtfmkkemfhjkajaaGreatDoorPk28
namespace Go.Proofs.YtfmkkemfhjkajaaGreatDoor
open _root_.Go.Proofs.Tryz
section
theorem Io.facts{q:Bool×Nat×Nat}(h:Io q):0<q.2.2∧Nat.Coprime q.2.1 q.2.2∧(q.1=true→0<q.2.1):=by
 obtain⟨n,a,b⟩:=q;unfold Io nrm at h;simp only at h ⊢;split at h
 ·rename_i hb;simp only[ali]at h;omega
 rename_i hb;simp only[ali]at h;obtain⟨h1,h2,h3⟩:=h;have hg:Nat.gcd a b=1:=by
  have hb':0<b:=by omega
  have:=Nat.div_mul_cancel (anF a b);rw[h3]at this;exact Nat.eq_of_mul_eq_mul_left hb' (by omega)
 refine⟨by omega,hg,fun hn=>?_⟩;rw[hn]at h1;unfold mZ at h1;rw[alr]at h1;have:=h1.2;rw[hg,Nat.div_one]at this;simpa using this
theorem uJ{p q:Bool×Nat×Nat}(hp:Io p)(hq:Io q):oG p q=decide (p=q):=by
 obtain⟨p1,p2,p3⟩:=hp.facts;obtain⟨q1,q2,q3⟩:=hq.facts;rw[al4];unfold oG kM;simp only[alu,alz,Int.sign_eq_zero_iff_zero];constructor
 ·intro h;obtain⟨n,a,b⟩:=p;obtain⟨m,c,d⟩:=q;simp only at *;have hz:qz (n,a,b)*(d:Int)=qz (m,c,d)*(b:Int):=by simpa using (by omega:qz (n,a,b)*(d:Int)-qz (m,c,d)*(b:Int)=0→qz (n,a,b)*(d:Int)=qz (m,c,d)*(b:Int)) h
  have habs:=alb Int.natAbs hz;have hzv:∀(s:Bool) (x:Nat),(zv s x).natAbs=x:=by intro s x; unfold zv; split<;>simp
  unfold qz at hz habs;simp only[Int.natAbs_mul,hzv,amy]at habs;have hbd:b∣d:=p2.symm.dvd_of_dvd_mul_left ⟨c,by rw[habs,alM]⟩;have hdb:d∣b:=q2.symm.dvd_of_dvd_mul_left ⟨a,by rw[←habs,alM]⟩;obtain rfl:b=d:=Nat.dvd_antisymm hbd hdb;obtain rfl:a=c:=Nat.eq_of_mul_eq_mul_right p1 habs;have hz2:zv n a=zv m a:=Int.eq_of_mul_eq_mul_right (by omega) hz;obtain rfl:n=m:=by
   unfold zv at hz2;cases n<;>cases m<;>simp at * <;> omega
  rfl
 intro h; rw[h]; omega
theorem Q6.same_eq{P Q:Q6}(hp:wH P)(hq:wH Q):P.same Q=P.eq Q:=by
 unfold Q6.same Q6.eq;rw[uJ hp.1 hq.1,uJ hp.2.1 hq.2.1,uJ hp.2.2.1 hq.2.2.1,uJ hp.2.2.2.1 hq.2.2.2.1,uJ hp.2.2.2.2.1 hq.2.2.2.2.1,uJ hp.2.2.2.2.2 hq.2.2.2.2.2]
end
section
set_option maxHeartbeats 3200000
set_option maxRecDepth 100000
open Go.RowKit
variable{α:Type}{K:Nat}
set_option linter.unusedVariables false
def ak.qx(p:ak):Bool:=((((p.p0.x==0)&&(p.p0.y==0))&&((p.p1.x==0)&&(p.p1.y==0)))&&((p.bn)==0))&&(((p.stops.length:Int))==0)
theorem Dn{w:World}{p:ak}(h:p.ok w) :
  Calls prog 254 #[p.v] w fun e w'=>e = .returned (.bool (p.qx))∧Ext w w':=by
 skip;refine akN func254 ntmps254 fun ac S=>akJ fun _ aS=>akK S 1 p.cells fun ac u b2 E3 hb4 S=>adr S 1 [] [(2,.bool false)] fun S=>akI<|aS _ _<|akJ fun _ dB=>adr S 22 [.mem 0 5,.cmp .eql 60 (.tmp 4) (.tmp 5) (.agg #[.i p.p0.x,.i p.p0.y]) (.agg #[.i 0,.i 0]) (.bool ((p.p0.x==0)&&(p.p0.y==0))),.mem 0 7,.cmp .eql 60 (.tmp 9) (.tmp 10) (.agg #[.i p.p1.x,.i p.p1.y]) (.agg #[.i 0,.i 0]) (.bool ((p.p1.x==0)&&(p.p1.y==0))),.mem 0 9,.mem 0 10] [(2,.bool (((((p.p0.x==0)&&(p.p0.y==0))&&((p.p1.x==0)&&(p.p1.y==0)))&&((p.bn)==0))&&(((p.stops.length:Int))==0)))] (hk:=⟨ak2 (fun _=>eqPt ..) (by kernel_rfl),ak2 (fun _=>eqPt ..) (by kernel_rfl),trivial⟩) fun S=>akI<|dB _ _<|akM S results254 ?_;exact⟨rfl,S.E⟩
def ak.nG(p:ak):Bool:=((((p.img.w)==0)&&((p.img.h)==0))&&(((p.img.l.length:Int))==0))&&((p.bP)==0)
theorem vM{w:World}{p:ak}(h:p.ok w) :
  Calls prog 255 #[p.v] w fun e w'=>e = .returned (.bool (p.nG))∧Ext w w':=by
 skip;refine akN func255 ntmps255 fun ac S=>akJ fun _ aS=>akK S 1 p.cells fun ac u b2 E3 hb4 S=>adr S 1 [] [(2,.bool false)] fun S=>akI<|aS _ _<|akJ fun _ dB=>adr S 23 [.mem 0 12,.mem 0 13,.mem 0 14,.mem 0 15] [(2,.bool (((((p.img.w)==0)&&((p.img.h)==0))&&(((p.img.l.length:Int))==0))&&((p.bP)==0)))] fun S=>akI<|dB _ _<|akM S results255 ?_;exact⟨rfl,S.E⟩
theorem Pm{w:World}{t:aQ}(h:jq K w t.v t.q)(hK1:1≤K)(hK:K≤10000) :
  Calls prog 256 #[t.v] w fun e w'=>e = .returned (.bool (t.q.same aQ.none.q))∧Ext w w':=by
 skip;refine akN func256 ntmps256 fun ac S=>akJ fun _ aS=>akK S 1 t.cells fun ac u b2 E3 hb4 S=>adr S 1 [] [(2,.bool false)] fun S=>akI<|aS _ _<|akJ fun _ dB=>adr S 2 [.mem 0 0] [(3,t.v),(4,.agg Sx.za.toArray)] fun S=>akQ S 5 (uY (t:=t) (t2:=aQ.none) (h.eU S.E) ((aQ.toQ (aQ.gV _) (aQ.iM K)).eU (alD _ _)) hK1 hK) fun ac u E6 S=>adr S 1 [] [(2,.bool (t.q.same aQ.none.q))] fun S=>akI<|dB _ _<|akM S results256 ?_;exact⟨rfl,S.E⟩
def ak.rP(p:ak):Bool:=cond ((p.kind)==1) (((p.qx&&p.nG)&&((p.spread)==0))&&(p.t.q.same aQ.none.q)) (cond ((p.kind)==2) ((((((p.nG&&(((p.color.r.toNat:Int)==0)&&(((p.color.g.toNat:Int)==0)&&(((p.color.b.toNat:Int)==0)&&((p.color.a.toNat:Int)==0)))))&&((p.bn)==0))&&(oI p.p0.x p.p0.y))&&(oI p.p1.x p.p1.y))&&(eG p.stops))&&(decide (1≤p.spread)&&decide (p.spread≤3))) (cond ((p.kind)==3) (((((((p.nG&&(((p.color.r.toNat:Int)==0)&&(((p.color.g.toNat:Int)==0)&&(((p.color.b.toNat:Int)==0)&&((p.color.a.toNat:Int)==0)))))&&((p.p1.x==0)&&(p.p1.y==0)))&&(oI p.p0.x p.p0.y))&&(decide (1≤p.bn)))&&(decide (p.bn≤1048576)))&&(eG p.stops))&&(decide (1≤p.spread)&&decide (p.spread≤3))) (cond ((p.kind)==4) ((((p.qx&&(((p.color.r.toNat:Int)==0)&&(((p.color.g.toNat:Int)==0)&&(((p.color.b.toNat:Int)==0)&&((p.color.a.toNat:Int)==0)))))&&(p.img.valid))&&(((p.spread)==0)||(decide (1≤p.spread)&&decide (p.spread≤3))))&&(((p.bP)==1)||((p.bP)==2))) (false))))
theorem Tv{w:World}{p:ak}(h:p.ok w)(hq:jq K w p.t.v p.t.q)(hK1:1≤K)(hK:K≤10000) :
  Calls prog 239 #[p.v] w fun e w'=>e = .returned (.bool p.rP)∧Ext w w':=by
 skip;refine akN func239 ntmps239 fun ac S=>akJ fun _ aS=>akK S 1 p.cells fun ac u b2 E3 hb4 S=>adr S 1 [] [(2,.bool false)] fun S=>akI<|aS _ _<|ak6 fun _ dB=>akJ fun _ je=>adr S 2 [.mem 0 0] [(4,.i p.kind)] fun S=>akI<|je _ _<|ak8<|akJ fun _ kJ=>adr S 2 [] [(5,.bool ((p.kind)==1))] fun S=>akI (kJ _ _ ?_);refine akL S (fun hc8=>?_) (fun hc8=>?_)
 ·refine akJ fun _ iq=>adr S 1 [.mem 0 0] [(7,p.v)] fun S=>akQ S 8 (Dn (h.below S.E)) fun ac u zZ S=>akX S 15 [.mem 0 0,.mem 0 11,.mem 0 16] [(_,_,p.qx,.bool p.nG),(_,_,((p.qx&&p.nG)&&((p.spread)==0)),.bool (p.t.q.same aQ.none.q))] [(2,.bool (((p.qx&&p.nG)&&((p.spread)==0))&&(p.t.q.same aQ.none.q)))] ⟨fun u hC g=>vM (h.below (Ext.trans' S.E hC)),fun u hC g=>Pm (K:=K) (t:=p.t) (hq.eU (Ext.trans' S.E hC)) hK1 hK,trivial⟩ fun ac u wM S=>akI<|iq _ _<|ala ?_;have p0:=hc8;refine akP S results239 ?_;exact⟨aB (by unfold ak.rP; simp only[p0,cond_true]),S.E⟩
 refine akJ fun _ cO=>adr S 2 [] [(23,.bool ((p.kind)==2))] fun S=>akI (cO _ _ ?_);refine akL S (fun hc13=>?_) (fun hc13=>?_)
 ·refine akJ fun _ fH=>adr S 1 [.mem 0 0] [(25,p.v)] fun S=>akQ S 26 (vM (h.below S.E)) fun ac u NQ S=>akX S 32 [.mem 0 1,.cmp .eql 23 (.tmp 29) (.tmp 30) (.agg #[.int .u8 (p.color.r.toNat:Int),.int .u8 (p.color.g.toNat:Int),.int .u8 (p.color.b.toNat:Int),.int .u8 (p.color.a.toNat:Int)]) (.agg #[.int .u8 0,.int .u8 0,.int .u8 0,.int .u8 0]) (.bool (((p.color.r.toNat:Int)==0)&&(((p.color.g.toNat:Int)==0)&&(((p.color.b.toNat:Int)==0)&&((p.color.a.toNat:Int)==0))))),.mem 0 9,.mem 0 5,.mem 0 7,.mem 0 10,.mem 0 11] [(_,_,((p.nG&&(((p.color.r.toNat:Int)==0)&&(((p.color.g.toNat:Int)==0)&&(((p.color.b.toNat:Int)==0)&&((p.color.a.toNat:Int)==0)))))&&((p.bn)==0)),.bool (oI p.p0.x p.p0.y)),(_,_,(((p.nG&&(((p.color.r.toNat:Int)==0)&&(((p.color.g.toNat:Int)==0)&&(((p.color.b.toNat:Int)==0)&&((p.color.a.toNat:Int)==0)))))&&((p.bn)==0))&&(oI p.p0.x p.p0.y)),.bool (oI p.p1.x p.p1.y)),(_,_,((((p.nG&&(((p.color.r.toNat:Int)==0)&&(((p.color.g.toNat:Int)==0)&&(((p.color.b.toNat:Int)==0)&&((p.color.a.toNat:Int)==0)))))&&((p.bn)==0))&&(oI p.p0.x p.p0.y))&&(oI p.p1.x p.p1.y)),.bool (eG p.stops)),(_,_,(((((p.nG&&(((p.color.r.toNat:Int)==0)&&(((p.color.g.toNat:Int)==0)&&(((p.color.b.toNat:Int)==0)&&((p.color.a.toNat:Int)==0)))))&&((p.bn)==0))&&(oI p.p0.x p.p0.y))&&(oI p.p1.x p.p1.y))&&(eG p.stops)),.bool (decide (1≤p.spread)&&decide (p.spread≤3)))] [(2,.bool ((((((p.nG&&(((p.color.r.toNat:Int)==0)&&(((p.color.g.toNat:Int)==0)&&(((p.color.b.toNat:Int)==0)&&((p.color.a.toNat:Int)==0)))))&&((p.bn)==0))&&(oI p.p0.x p.p0.y))&&(oI p.p1.x p.p1.y))&&(eG p.stops))&&(decide (1≤p.spread)&&decide (p.spread≤3))))] ⟨fun u hC g=>lu p.p0.x p.p0.y _,fun u hC g=>lu p.p1.x p.p1.y _,fun u hC g=>AY (h.2.2.2.2.1.below (Ext.trans' S.E hC)),fun u hC g=>akZ (ug p.spread _),trivial⟩ (hk:=⟨ak2 (fun _=>Ji ..) (by kernel_rfl),trivial⟩) fun ac u Qx S=>akI<|fH _ _<|ala ?_;have p0:=hc8;have p1:=hc13;refine akP S results239 ?_;exact⟨aB (by unfold ak.rP; simp only[p0,p1,cond_true,cond_false]),S.E⟩
 refine akJ fun _ gJ=>adr S 2 [] [(58,.bool ((p.kind)==3))] fun S=>akI (gJ _ _ ?_);refine akL S (fun hc18=>?_) (fun hc18=>?_)
 ·refine akJ fun _ jf=>adr S 1 [.mem 0 0] [(60,p.v)] fun S=>akQ S 61 (vM (h.below S.E)) fun ac u zk S=>akX S 38 [.mem 0 1,.cmp .eql 23 (.tmp 64) (.tmp 65) (.agg #[.int .u8 (p.color.r.toNat:Int),.int .u8 (p.color.g.toNat:Int),.int .u8 (p.color.b.toNat:Int),.int .u8 (p.color.a.toNat:Int)]) (.agg #[.int .u8 0,.int .u8 0,.int .u8 0,.int .u8 0]) (.bool (((p.color.r.toNat:Int)==0)&&(((p.color.g.toNat:Int)==0)&&(((p.color.b.toNat:Int)==0)&&((p.color.a.toNat:Int)==0))))),.mem 0 7,.cmp .eql 60 (.tmp 70) (.tmp 71) (.agg #[.i p.p1.x,.i p.p1.y]) (.agg #[.i 0,.i 0]) (.bool ((p.p1.x==0)&&(p.p1.y==0))),.mem 0 5,.mem 0 9,.mem 0 9,.mem 0 10,.mem 0 11] [(_,_,((p.nG&&(((p.color.r.toNat:Int)==0)&&(((p.color.g.toNat:Int)==0)&&(((p.color.b.toNat:Int)==0)&&((p.color.a.toNat:Int)==0)))))&&((p.p1.x==0)&&(p.p1.y==0))),.bool (oI p.p0.x p.p0.y)),(_,_,(((((p.nG&&(((p.color.r.toNat:Int)==0)&&(((p.color.g.toNat:Int)==0)&&(((p.color.b.toNat:Int)==0)&&((p.color.a.toNat:Int)==0)))))&&((p.p1.x==0)&&(p.p1.y==0)))&&(oI p.p0.x p.p0.y))&&(decide (1≤p.bn)))&&(decide (p.bn≤1048576))),.bool (eG p.stops)),(_,_,((((((p.nG&&(((p.color.r.toNat:Int)==0)&&(((p.color.g.toNat:Int)==0)&&(((p.color.b.toNat:Int)==0)&&((p.color.a.toNat:Int)==0)))))&&((p.p1.x==0)&&(p.p1.y==0)))&&(oI p.p0.x p.p0.y))&&(decide (1≤p.bn)))&&(decide (p.bn≤1048576)))&&(eG p.stops)),.bool (decide (1≤p.spread)&&decide (p.spread≤3)))] [(2,.bool (((((((p.nG&&(((p.color.r.toNat:Int)==0)&&(((p.color.g.toNat:Int)==0)&&(((p.color.b.toNat:Int)==0)&&((p.color.a.toNat:Int)==0)))))&&((p.p1.x==0)&&(p.p1.y==0)))&&(oI p.p0.x p.p0.y))&&(decide (1≤p.bn)))&&(decide (p.bn≤1048576)))&&(eG p.stops))&&(decide (1≤p.spread)&&decide (p.spread≤3))))] ⟨fun u hC g=>lu p.p0.x p.p0.y _,fun u hC g=>AY (h.2.2.2.2.1.below (Ext.trans' S.E hC)),fun u hC g=>akZ (ug p.spread _),trivial⟩ (hk:=⟨ak2 (fun _=>Ji ..) (by kernel_rfl),ak2 (fun _=>eqPt ..) (by kernel_rfl),trivial⟩) fun ac u BA S=>akI<|jf _ _<|ala ?_;have p0:=hc8;have p1:=hc13;have p2:=hc18;refine akP S results239 ?_;exact⟨aB (by unfold ak.rP; simp only[p0,p1,p2,cond_true,cond_false]),S.E⟩
 refine akJ fun _ jJ=>adr S 2 [] [(99,.bool ((p.kind)==4))] fun S=>akI (jJ _ _ ?_);refine akL S (fun tZ=>?_) (fun tZ=>?_)
 ·refine akJ fun _ kN=>adr S 1 [.mem 0 0] [(101,p.v)] fun S=>akQ S 102 (Dn (h.below S.E)) fun ac u QB S=>akX S 32 [.mem 0 1,.cmp .eql 23 (.tmp 105) (.tmp 106) (.agg #[.int .u8 (p.color.r.toNat:Int),.int .u8 (p.color.g.toNat:Int),.int .u8 (p.color.b.toNat:Int),.int .u8 (p.color.a.toNat:Int)]) (.agg #[.int .u8 0,.int .u8 0,.int .u8 0,.int .u8 0]) (.bool (((p.color.r.toNat:Int)==0)&&(((p.color.g.toNat:Int)==0)&&(((p.color.b.toNat:Int)==0)&&((p.color.a.toNat:Int)==0))))),.mem 0 12,.mem 0 11,.mem 0 11,.mem 0 15,.mem 0 15] [(_,_,(p.qx&&(((p.color.r.toNat:Int)==0)&&(((p.color.g.toNat:Int)==0)&&(((p.color.b.toNat:Int)==0)&&((p.color.a.toNat:Int)==0))))),.bool (p.img.valid)),(_,_,(((p.qx&&(((p.color.r.toNat:Int)==0)&&(((p.color.g.toNat:Int)==0)&&(((p.color.b.toNat:Int)==0)&&((p.color.a.toNat:Int)==0)))))&&(p.img.valid))&&(!((p.spread)==0))),.bool (decide (1≤p.spread)&&decide (p.spread≤3)))] [(2,.bool ((((p.qx&&(((p.color.r.toNat:Int)==0)&&(((p.color.g.toNat:Int)==0)&&(((p.color.b.toNat:Int)==0)&&((p.color.a.toNat:Int)==0)))))&&(p.img.valid))&&(((p.spread)==0)||(decide (1≤p.spread)&&decide (p.spread≤3))))&&(((p.bP)==1)||((p.bP)==2))))] ⟨fun u hC g=>AZ (m:=p.img) (h.2.2.2.2.2.2.2.1.below (Ext.trans' S.E hC)),fun u hC g=>akZ (ug p.spread _),trivial⟩ (hk:=⟨ak2 (fun _=>Ji ..) (by kernel_rfl),trivial⟩) fun ac u Yz S=>akI<|kN _ _<|ala ?_;have p0:=hc8;have p1:=hc13;have p2:=hc18;have p3:=tZ;refine akP S results239 ?_;exact⟨aB (by unfold ak.rP; simp only[p0,p1,p2,p3,cond_true,cond_false]),S.E⟩
 refine ak7<|dB _ _<|akJ fun _ kL=>adr S 1 [] [(2,.bool false)] fun S=>akI<|kL _ _<|ala ?_;have p0:=hc8;have p1:=hc13;have p2:=hc18;have p3:=tZ;refine akP S results239 ?_;exact⟨aB (by unfold ak.rP; simp only[p0,p1,p2,p3,cond_false]),S.E⟩
def ak.sZ(p:ak):Bool:=(p.t.q.valid&&p.rP)&&((p.kind==1)||((kM p.t.q.vW q0) != 0))
theorem aeB{p:ak}(h:((!(p.t.q.valid))||(!(p.rP)))=true):false=p.sZ:=by
 unfold ak.sZ;cases hv:p.t.q.valid<;>cases hh:p.rP<;>simp[hv,hh]at h ⊢
theorem Vy{p:ak}(h:((!(p.t.q.valid))||(!(p.rP)))=false):(p.t.q.valid&&p.rP)=true:=by
 cases hv:p.t.q.valid<;>cases hh:p.rP<;>simp[hv,hh]at h ⊢
theorem Le{w:World}{p:ak}(h:p.ok w)(hq:jq K w p.t.v p.t.q)(hK1:1≤K)(hK:K≤10000) :
  Calls prog 212 #[p.v] w fun e w'=>e = .returned (.bool p.sZ)∧Ext w w':=by
 skip;refine akN func212 ntmps212 fun ac S=>akJ fun _ aS=>akK S 1 p.cells fun ac u b2 E3 hb4 S=>adr S 1 [] [(2,.bool false)] fun S=>akI<|aS _ _<|ak6 fun _ dB=>akJ fun _ je=>adr S 2 [.mem 0 16] [(4,p.t.v)] fun S=>akQ S 5 (yX p.t.v p.t.q K _ (hq.eU S.E) hK1 (by omega)) fun ac u E7 S=>akX S 6 [.mem 0 0] [(_,_,(!(!p.t.q.valid)),.bool p.rP)] [(11,.bool ((!p.t.q.valid)||(!p.rP)))] ⟨fun u hC g=>Tv (K:=K) (h.below (Ext.trans' S.E hC)) (hq.eU (Ext.trans' S.E hC)) hK1 hK,trivial⟩ fun ac u E8 S=>akI (je _ _ ?_);refine akL S (fun hc9=>?_) (fun hc9=>?_)
 ·refine akJ fun _ fE=>adr S 1 [] [(2,.bool false)] fun S=>akI<|fE _ _<|ala ?_;have p0:=hc9;refine akP S results212 ?_;exact⟨aB (aeB p0),S.E⟩
 refine ak7<|dB _ _<|akJ (fun _ dn=>?_);cases hk:(p.kind==1)
 ·refine adr S 6 [.mem 0 0,.re 14 (.bool ((p.kind)==1)) (.bool false),.mem 0 16] [(15,.bool false),(17,p.t.v)] (hk:=⟨alb Value.bool hk,trivial⟩) fun S=>Sx.wW S (some 18) (O9 p.t.v p.t.q K _ (hq.eU S.E) hK1 hK) ?_;rintro e u ⟨y,rfl,hd,DL⟩;refine⟨_,rfl,DL,fun ac S=>?_⟩;refine Sx.wW S (some 19) (oq 0 _ (by decide)) ?_;rintro e u ⟨z,rfl,hz,DN⟩;refine⟨_,rfl,DN,fun ac S=>?_⟩;refine Sx.wW S (some 20) (Pn _ _ p.t.q.vW q0 (K+K+(K+K)+1) 1 _ (aA.toQ (hd.ext DN) (yj _) (yu hK1 (Xw.Xx hq hK1))) (aA.toQ (q:=q0) hz SL SN) (by omega) (by omega) (by omega) (by omega)) ?_;rintro e u ⟨rfl,CS⟩;refine⟨_,rfl,CS,fun ac S=>?_⟩;refine adr S 3 [] [(2,.bool (((kM p.t.q.vW q0)) != 0))] fun S=>akI<|dn _ _<|ala ?_;have p0:=hc9;refine akP S results212 ?_;exact⟨aB (by unfold ak.sZ; rw[Vy p0,hk]; rfl),S.E⟩
 refine adr S 12 [.mem 0 0,.re 14 (.bool ((p.kind)==1)) (.bool true),.dead 16 (.bool false),.dead 17 (.bool false),.dead 18 (.bool false),.dead 19 (.bool false),.dead 20 (.bool false),.dead 21 (.bool false)] [(2,.bool true)] (hk:=⟨alb Value.bool hk,trivial⟩) fun S=>akI<|dn _ _<|ala ?_;have p0:=hc9;refine akP S results212 ?_;exact⟨aB (by unfold ak.sZ; rw[Vy p0,hk]; rfl),S.E⟩
end
section
theorem len0{α:Type}(l:List α):((l.length:Int)==0)=l.isEmpty:=by cases l<;>simp<;>omega
theorem nil0{α:Type}[DecidableEq α](l:List α):decide (l=[])=l.isEmpty:=by cases l<;>simp
theorem Gu{p:ak}(hn:wH p.t.q)(h0:wH aQ.none.q):p.sZ=p.valid:=by
 have hs:p.t.q.same aQ.none.q=p.t.q.eq aQ.none.q:=Q6.same_eq hn h0;have ha:aQ.none.q.eq aQ.none.q=true:=by rw[←Q6.same_eq h0 h0]; unfold Q6.same; simp
 have e1:oI p.p0.x p.p0.y=kK.valid ⟨p.p0.x,p.p0.y⟩:=Lh ⟨p.p0.x,p.p0.y⟩;have e2:oI p.p1.x p.p1.y=kK.valid ⟨p.p1.x,p.p1.y⟩:=Lh ⟨p.p1.x,p.p1.y⟩;unfold ak.sZ ak.valid ak.rP;rw[hs,e1,e2];cases htv:p.t.q.valid
 ·simp
 by_cases k1:p.kind=1
 ·simp[k1,ak.without,ak.Vg,ak.eq,ak.bare,ak.qx,ak.nG,ha,dF.none,kK.none,bW.eq,bW.bare,len0,nil0];cases p.t.q.eq aQ.none.q<;>simp;ac_rfl
 by_cases k2:p.kind=2
 ·simp[k2,ak.without,ak.only2,ak.eq,ak.bare,ak.nG,ha,dF.none,kK.none,bW.eq,bW.bare,len0,iO];ac_rfl
 by_cases k3:p.kind=3
 ·simp[k3,ak.without,ak.Vh,ak.eq,ak.bare,ak.nG,ak.qx,ha,dF.none,kK.none,bW.eq,bW.bare,len0,iO,←Int.not_lt];ac_rfl
 by_cases k4:p.kind=4
 ·simp[k4,ak.without,ak.Vj,bne,ak.eq,ak.bare,ak.nG,ak.qx,ha,dF.none,kK.none,bW.eq,bW.bare,len0,nil0,iO];ac_rfl
 have j1:(p.kind==1)=false:=by simpa using k1
 have j2:(p.kind==2)=false:=by simpa using k2
 have j3:(p.kind==3)=false:=by simpa using k3
 have j4:(p.kind==4)=false:=by simpa using k4
 rw[j1,j2,j3,j4];simp
end
end Go.Proofs.YtfmkkemfhjkajaaGreatDoor
