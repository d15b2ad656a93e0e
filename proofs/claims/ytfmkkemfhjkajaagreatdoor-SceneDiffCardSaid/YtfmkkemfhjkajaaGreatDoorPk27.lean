/- Numbers in lowest terms are equal by value exactly if -/
import Derived.Test.YtfmkkemfhjkajaaGreatDoorPk26
namespace Go.Proofs.YtfmkkemfhjkajaaGreatDoor
open _root_.Go.Proofs.Tryz
section
theorem Jo.facts{q:Bool×Nat×Nat}(h:Jo q):0<q.2.2∧Nat.Coprime q.2.1 q.2.2∧(q.1=true→0<q.2.1):=by
 obtain⟨n,a,b⟩:=q;unfold Jo nrm at h;simp only at h ⊢;split at h
 ·rename_i hb;simp only[anD]at h;omega
 rename_i hb;simp only[anD]at h;obtain⟨h1,h2,h3⟩:=h;have hg:Nat.gcd a b=1:=by
  have hb':0<b:=by omega
  have:=Nat.div_mul_cancel (apX a b);rw[h3]at this;exact Nat.eq_of_mul_eq_mul_left hb' (by omega)
 refine⟨by omega,hg,fun hn=>?_⟩;rw[hn]at h1;unfold oq at h1;rw[anM]at h1;have:=h1.2;rw[hg,Nat.div_one]at this;simpa using this
theorem wF{p q:Bool×Nat×Nat}(hp:Jo p)(hq:Jo q):pW p q=decide (p=q):=by
 obtain⟨p1,p2,p3⟩:=hp.facts;obtain⟨q1,q2,q3⟩:=hq.facts;rw[aop];unfold pW lD;simp only[anO,anT,Int.sign_eq_zero_iff_zero];constructor
 ·intro h;obtain⟨n,a,b⟩:=p;obtain⟨m,c,d⟩:=q;simp only at *;have hz:qz (n,a,b)*(d:Int)=qz (m,c,d)*(b:Int):=by simpa using (by omega:qz (n,a,b)*(d:Int)-qz (m,c,d)*(b:Int)=0→qz (n,a,b)*(d:Int)=qz (m,c,d)*(b:Int)) h
  have habs:=anu Int.natAbs hz;have hzv:∀(s:Bool) (x:Nat),(zv s x).natAbs=x:=by intro s x; unfold zv; split<;>simp
  unfold qz at hz habs;simp only[Int.natAbs_mul,hzv,aoU]at habs;have hbd:b∣d:=p2.symm.dvd_of_dvd_mul_left ⟨c,by rw[habs,an5]⟩;have hdb:d∣b:=q2.symm.dvd_of_dvd_mul_left ⟨a,by rw[←habs,an5]⟩;obtain rfl:b=d:=Nat.dvd_antisymm hbd hdb;obtain rfl:a=c:=Nat.eq_of_mul_eq_mul_right p1 habs;have hz2:zv n a=zv m a:=Int.eq_of_mul_eq_mul_right (by omega) hz;obtain rfl:n=m:=by
   unfold zv at hz2;cases n<;>cases m<;>simp at * <;> omega
  rfl
 intro h; rw[h]; omega
theorem Q6.same_eq{P Q:Q6}(hp:xX P)(hq:xX Q):P.same Q=P.eq Q:=by
 unfold Q6.same Q6.eq;rw[wF hp.1 hq.1,wF hp.2.1 hq.2.1,wF hp.2.2.1 hq.2.2.1,wF hp.2.2.2.1 hq.2.2.2.1,wF hp.2.2.2.2.1 hq.2.2.2.2.1,wF hp.2.2.2.2.2 hq.2.2.2.2.2]
end
section
set_option maxHeartbeats 3200000
set_option maxRecDepth 100000
open Go.RowKit
variable{α:Type}{K:Nat}
set_option linter.unusedVariables false
def ak.rJ(p:ak):Bool:=((((p.p0.x==0)&&(p.p0.y==0))&&((p.p1.x==0)&&(p.p1.y==0)))&&((p.bD)==0))&&(((p.stops.length:Int))==0)
theorem Et{w:World}{p:ak}(h:p.ok w) :
  Calls prog 254 #[p.v] w fun e w'=>e = .returned (.bool (p.rJ))∧Ext w w':=by
 skip;refine am0 func254 ntmps254 fun ac S=>amW fun _ aO=>amY S 1 p.cells fun ac u b2 E3 hb4 S=>adr S 1 [] [(2,.bool false)] fun S=>amV<|aO _ _<|amW fun _ dA=>adr S 22 [.mem 0 5,.cmp .eql 60 (.tmp 4) (.tmp 5) (.agg #[.i p.p0.x,.i p.p0.y]) (.agg #[.i 0,.i 0]) (.bool ((p.p0.x==0)&&(p.p0.y==0))),.mem 0 7,.cmp .eql 60 (.tmp 9) (.tmp 10) (.agg #[.i p.p1.x,.i p.p1.y]) (.agg #[.i 0,.i 0]) (.bool ((p.p1.x==0)&&(p.p1.y==0))),.mem 0 9,.mem 0 10] [(2,.bool (((((p.p0.x==0)&&(p.p0.y==0))&&((p.p1.x==0)&&(p.p1.y==0)))&&((p.bD)==0))&&(((p.stops.length:Int))==0)))] (hk:=⟨ang (fun _=>eqPt ..) (by kernel_rfl),ang (fun _=>eqPt ..) (by kernel_rfl),trivial⟩) fun S=>amV<|dA _ _<|amZ S results254 ?_;exact⟨rfl,S.E⟩
def ak.oG(p:ak):Bool:=((((p.img.w)==0)&&((p.img.h)==0))&&(((p.img.l.length:Int))==0))&&((p.bY)==0)
theorem xC{w:World}{p:ak}(h:p.ok w) :
  Calls prog 255 #[p.v] w fun e w'=>e = .returned (.bool (p.oG))∧Ext w w':=by
 skip;refine am0 func255 ntmps255 fun ac S=>amW fun _ aO=>amY S 1 p.cells fun ac u b2 E3 hb4 S=>adr S 1 [] [(2,.bool false)] fun S=>amV<|aO _ _<|amW fun _ dA=>adr S 23 [.mem 0 12,.mem 0 13,.mem 0 14,.mem 0 15] [(2,.bool (((((p.img.w)==0)&&((p.img.h)==0))&&(((p.img.l.length:Int))==0))&&((p.bY)==0)))] fun S=>amV<|dA _ _<|amZ S results255 ?_;exact⟨rfl,S.E⟩
theorem Qv{w:World}{t:aP}(h:jJ K w t.v t.q)(hK1:1≤K)(hK:K≤10000) :
  Calls prog 256 #[t.v] w fun e w'=>e = .returned (.bool (t.q.same aP.none.q))∧Ext w w':=by
 skip;refine am0 func256 ntmps256 fun ac S=>amW fun _ aO=>amY S 1 t.cells fun ac u b2 E3 hb4 S=>adr S 1 [] [(2,.bool false)] fun S=>amV<|aO _ _<|amW fun _ dA=>adr S 2 [.mem 0 0] [(3,t.v),(4,.agg Sx.za.toArray)] fun S=>am3 S 5 (wU (t:=t) (t2:=aP.none) (h.fJ S.E) ((aP.toQ (aP.iG _) (aP.jg K)).fJ (anU _ _)) hK1 hK) fun ac u E6 S=>adr S 1 [] [(2,.bool (t.q.same aP.none.q))] fun S=>amV<|dA _ _<|amZ S results256 ?_;exact⟨rfl,S.E⟩
def ak.uf(p:ak):Bool:=cond ((p.kind)==1) (((p.rJ&&p.oG)&&((p.spread)==0))&&(p.t.q.same aP.none.q)) (cond ((p.kind)==2) ((((((p.oG&&(((p.color.r.toNat:Int)==0)&&(((p.color.g.toNat:Int)==0)&&(((p.color.b.toNat:Int)==0)&&((p.color.a.toNat:Int)==0)))))&&((p.bD)==0))&&(pX p.p0.x p.p0.y))&&(pX p.p1.x p.p1.y))&&(fC p.stops))&&(decide (1≤p.spread)&&decide (p.spread≤3))) (cond ((p.kind)==3) (((((((p.oG&&(((p.color.r.toNat:Int)==0)&&(((p.color.g.toNat:Int)==0)&&(((p.color.b.toNat:Int)==0)&&((p.color.a.toNat:Int)==0)))))&&((p.p1.x==0)&&(p.p1.y==0)))&&(pX p.p0.x p.p0.y))&&(decide (1≤p.bD)))&&(decide (p.bD≤1048576)))&&(fC p.stops))&&(decide (1≤p.spread)&&decide (p.spread≤3))) (cond ((p.kind)==4) ((((p.rJ&&(((p.color.r.toNat:Int)==0)&&(((p.color.g.toNat:Int)==0)&&(((p.color.b.toNat:Int)==0)&&((p.color.a.toNat:Int)==0)))))&&(p.img.valid))&&(((p.spread)==0)||(decide (1≤p.spread)&&decide (p.spread≤3))))&&(((p.bY)==1)||((p.bY)==2))) (false))))
theorem UG{w:World}{p:ak}(h:p.ok w)(hq:jJ K w p.t.v p.t.q)(hK1:1≤K)(hK:K≤10000) :
  Calls prog 239 #[p.v] w fun e w'=>e = .returned (.bool p.uf)∧Ext w w':=by
 skip;refine am0 func239 ntmps239 fun ac S=>amW fun _ aO=>amY S 1 p.cells fun ac u b2 E3 hb4 S=>adr S 1 [] [(2,.bool false)] fun S=>amV<|aO _ _<|anj fun _ dA=>amW fun _ iQ=>adr S 2 [.mem 0 0] [(4,.i p.kind)] fun S=>amV<|iQ _ _<|anp<|amW fun _ jB=>adr S 2 [] [(5,.bool ((p.kind)==1))] fun S=>amV (jB _ _ ?_);refine amX S (fun hc8=>?_) (fun hc8=>?_)
 ·refine amW fun _ gZ=>adr S 1 [.mem 0 0] [(7,p.v)] fun S=>am3 S 8 (Et (h.below S.E)) fun ac u BF S=>am9 S 15 [.mem 0 0,.mem 0 11,.mem 0 16] [(_,_,p.rJ,.bool p.oG),(_,_,((p.rJ&&p.oG)&&((p.spread)==0)),.bool (p.t.q.same aP.none.q))] [(2,.bool (((p.rJ&&p.oG)&&((p.spread)==0))&&(p.t.q.same aP.none.q)))] ⟨fun u hC g=>xC (h.below (Ext.trans' S.E hC)),fun u hC g=>Qv (K:=K) (t:=p.t) (hq.fJ (Ext.trans' S.E hC)) hK1 hK,trivial⟩ fun ac u wO S=>amV<|gZ _ _<|anr ?_;have p0:=hc8;refine am2 S results239 ?_;exact⟨aB (by unfold ak.uf; simp only[p0,cond_true]),S.E⟩
 refine amW fun _ cZ=>adr S 2 [] [(23,.bool ((p.kind)==2))] fun S=>amV (cZ _ _ ?_);refine amX S (fun hc13=>?_) (fun hc13=>?_)
 ·refine amW fun _ gU=>adr S 1 [.mem 0 0] [(25,p.v)] fun S=>am3 S 26 (xC (h.below S.E)) fun ac u TU S=>am9 S 32 [.mem 0 1,.cmp .eql 23 (.tmp 29) (.tmp 30) (.agg #[.int .u8 (p.color.r.toNat:Int),.int .u8 (p.color.g.toNat:Int),.int .u8 (p.color.b.toNat:Int),.int .u8 (p.color.a.toNat:Int)]) (.agg #[.int .u8 0,.int .u8 0,.int .u8 0,.int .u8 0]) (.bool (((p.color.r.toNat:Int)==0)&&(((p.color.g.toNat:Int)==0)&&(((p.color.b.toNat:Int)==0)&&((p.color.a.toNat:Int)==0))))),.mem 0 9,.mem 0 5,.mem 0 7,.mem 0 10,.mem 0 11] [(_,_,((p.oG&&(((p.color.r.toNat:Int)==0)&&(((p.color.g.toNat:Int)==0)&&(((p.color.b.toNat:Int)==0)&&((p.color.a.toNat:Int)==0)))))&&((p.bD)==0)),.bool (pX p.p0.x p.p0.y)),(_,_,(((p.oG&&(((p.color.r.toNat:Int)==0)&&(((p.color.g.toNat:Int)==0)&&(((p.color.b.toNat:Int)==0)&&((p.color.a.toNat:Int)==0)))))&&((p.bD)==0))&&(pX p.p0.x p.p0.y)),.bool (pX p.p1.x p.p1.y)),(_,_,((((p.oG&&(((p.color.r.toNat:Int)==0)&&(((p.color.g.toNat:Int)==0)&&(((p.color.b.toNat:Int)==0)&&((p.color.a.toNat:Int)==0)))))&&((p.bD)==0))&&(pX p.p0.x p.p0.y))&&(pX p.p1.x p.p1.y)),.bool (fC p.stops)),(_,_,(((((p.oG&&(((p.color.r.toNat:Int)==0)&&(((p.color.g.toNat:Int)==0)&&(((p.color.b.toNat:Int)==0)&&((p.color.a.toNat:Int)==0)))))&&((p.bD)==0))&&(pX p.p0.x p.p0.y))&&(pX p.p1.x p.p1.y))&&(fC p.stops)),.bool (decide (1≤p.spread)&&decide (p.spread≤3)))] [(2,.bool ((((((p.oG&&(((p.color.r.toNat:Int)==0)&&(((p.color.g.toNat:Int)==0)&&(((p.color.b.toNat:Int)==0)&&((p.color.a.toNat:Int)==0)))))&&((p.bD)==0))&&(pX p.p0.x p.p0.y))&&(pX p.p1.x p.p1.y))&&(fC p.stops))&&(decide (1≤p.spread)&&decide (p.spread≤3))))] ⟨fun u hC g=>lY p.p0.x p.p0.y _,fun u hC g=>lY p.p1.x p.p1.y _,fun u hC g=>CG (h.2.2.2.2.1.below (Ext.trans' S.E hC)),fun u hC g=>anc (vN p.spread _),trivial⟩ (hk:=⟨ang (fun _=>J9 ..) (by kernel_rfl),trivial⟩) fun ac u Oq S=>amV<|gU _ _<|anr ?_;have p0:=hc8;have p1:=hc13;refine am2 S results239 ?_;exact⟨aB (by unfold ak.uf; simp only[p0,p1,cond_true,cond_false]),S.E⟩
 refine amW fun _ iD=>adr S 2 [] [(58,.bool ((p.kind)==3))] fun S=>amV (iD _ _ ?_);refine amX S (fun hc18=>?_) (fun hc18=>?_)
 ·refine amW fun _ ji=>adr S 1 [.mem 0 0] [(60,p.v)] fun S=>am3 S 61 (xC (h.below S.E)) fun ac u Eh S=>am9 S 38 [.mem 0 1,.cmp .eql 23 (.tmp 64) (.tmp 65) (.agg #[.int .u8 (p.color.r.toNat:Int),.int .u8 (p.color.g.toNat:Int),.int .u8 (p.color.b.toNat:Int),.int .u8 (p.color.a.toNat:Int)]) (.agg #[.int .u8 0,.int .u8 0,.int .u8 0,.int .u8 0]) (.bool (((p.color.r.toNat:Int)==0)&&(((p.color.g.toNat:Int)==0)&&(((p.color.b.toNat:Int)==0)&&((p.color.a.toNat:Int)==0))))),.mem 0 7,.cmp .eql 60 (.tmp 70) (.tmp 71) (.agg #[.i p.p1.x,.i p.p1.y]) (.agg #[.i 0,.i 0]) (.bool ((p.p1.x==0)&&(p.p1.y==0))),.mem 0 5,.mem 0 9,.mem 0 9,.mem 0 10,.mem 0 11] [(_,_,((p.oG&&(((p.color.r.toNat:Int)==0)&&(((p.color.g.toNat:Int)==0)&&(((p.color.b.toNat:Int)==0)&&((p.color.a.toNat:Int)==0)))))&&((p.p1.x==0)&&(p.p1.y==0))),.bool (pX p.p0.x p.p0.y)),(_,_,(((((p.oG&&(((p.color.r.toNat:Int)==0)&&(((p.color.g.toNat:Int)==0)&&(((p.color.b.toNat:Int)==0)&&((p.color.a.toNat:Int)==0)))))&&((p.p1.x==0)&&(p.p1.y==0)))&&(pX p.p0.x p.p0.y))&&(decide (1≤p.bD)))&&(decide (p.bD≤1048576))),.bool (fC p.stops)),(_,_,((((((p.oG&&(((p.color.r.toNat:Int)==0)&&(((p.color.g.toNat:Int)==0)&&(((p.color.b.toNat:Int)==0)&&((p.color.a.toNat:Int)==0)))))&&((p.p1.x==0)&&(p.p1.y==0)))&&(pX p.p0.x p.p0.y))&&(decide (1≤p.bD)))&&(decide (p.bD≤1048576)))&&(fC p.stops)),.bool (decide (1≤p.spread)&&decide (p.spread≤3)))] [(2,.bool (((((((p.oG&&(((p.color.r.toNat:Int)==0)&&(((p.color.g.toNat:Int)==0)&&(((p.color.b.toNat:Int)==0)&&((p.color.a.toNat:Int)==0)))))&&((p.p1.x==0)&&(p.p1.y==0)))&&(pX p.p0.x p.p0.y))&&(decide (1≤p.bD)))&&(decide (p.bD≤1048576)))&&(fC p.stops))&&(decide (1≤p.spread)&&decide (p.spread≤3))))] ⟨fun u hC g=>lY p.p0.x p.p0.y _,fun u hC g=>CG (h.2.2.2.2.1.below (Ext.trans' S.E hC)),fun u hC g=>anc (vN p.spread _),trivial⟩ (hk:=⟨ang (fun _=>J9 ..) (by kernel_rfl),ang (fun _=>eqPt ..) (by kernel_rfl),trivial⟩) fun ac u ES S=>amV<|ji _ _<|anr ?_;have p0:=hc8;have p1:=hc13;have p2:=hc18;refine am2 S results239 ?_;exact⟨aB (by unfold ak.uf; simp only[p0,p1,p2,cond_true,cond_false]),S.E⟩
 refine amW fun _ kE=>adr S 2 [] [(99,.bool ((p.kind)==4))] fun S=>amV (kE _ _ ?_);refine amX S (fun vJ=>?_) (fun vJ=>?_)
 ·refine amW fun _ lq=>adr S 1 [.mem 0 0] [(101,p.v)] fun S=>am3 S 102 (Et (h.below S.E)) fun ac u ZK S=>am9 S 32 [.mem 0 1,.cmp .eql 23 (.tmp 105) (.tmp 106) (.agg #[.int .u8 (p.color.r.toNat:Int),.int .u8 (p.color.g.toNat:Int),.int .u8 (p.color.b.toNat:Int),.int .u8 (p.color.a.toNat:Int)]) (.agg #[.int .u8 0,.int .u8 0,.int .u8 0,.int .u8 0]) (.bool (((p.color.r.toNat:Int)==0)&&(((p.color.g.toNat:Int)==0)&&(((p.color.b.toNat:Int)==0)&&((p.color.a.toNat:Int)==0))))),.mem 0 12,.mem 0 11,.mem 0 11,.mem 0 15,.mem 0 15] [(_,_,(p.rJ&&(((p.color.r.toNat:Int)==0)&&(((p.color.g.toNat:Int)==0)&&(((p.color.b.toNat:Int)==0)&&((p.color.a.toNat:Int)==0))))),.bool (p.img.valid)),(_,_,(((p.rJ&&(((p.color.r.toNat:Int)==0)&&(((p.color.g.toNat:Int)==0)&&(((p.color.b.toNat:Int)==0)&&((p.color.a.toNat:Int)==0)))))&&(p.img.valid))&&(!((p.spread)==0))),.bool (decide (1≤p.spread)&&decide (p.spread≤3)))] [(2,.bool ((((p.rJ&&(((p.color.r.toNat:Int)==0)&&(((p.color.g.toNat:Int)==0)&&(((p.color.b.toNat:Int)==0)&&((p.color.a.toNat:Int)==0)))))&&(p.img.valid))&&(((p.spread)==0)||(decide (1≤p.spread)&&decide (p.spread≤3))))&&(((p.bY)==1)||((p.bY)==2))))] ⟨fun u hC g=>CJ (m:=p.img) (h.2.2.2.2.2.2.2.1.below (Ext.trans' S.E hC)),fun u hC g=>anc (vN p.spread _),trivial⟩ (hk:=⟨ang (fun _=>J9 ..) (by kernel_rfl),trivial⟩) fun ac u ZE S=>amV<|lq _ _<|anr ?_;have p0:=hc8;have p1:=hc13;have p2:=hc18;have p3:=vJ;refine am2 S results239 ?_;exact⟨aB (by unfold ak.uf; simp only[p0,p1,p2,p3,cond_true,cond_false]),S.E⟩
 refine ano<|dA _ _<|amW fun _ kY=>adr S 1 [] [(2,.bool false)] fun S=>amV<|kY _ _<|anr ?_;have p0:=hc8;have p1:=hc13;have p2:=hc18;have p3:=vJ;refine am2 S results239 ?_;exact⟨aB (by unfold ak.uf; simp only[p0,p1,p2,p3,cond_false]),S.E⟩
def ak.uV(p:ak):Bool:=(p.t.q.valid&&p.uf)&&((p.kind==1)||((lD p.t.q.xI q0) != 0))
theorem agy{p:ak}(h:((!(p.t.q.valid))||(!(p.uf)))=true):false=p.uV:=by
 unfold ak.uV;cases hv:p.t.q.valid<;>cases hh:p.uf<;>simp[hv,hh]at h ⊢
theorem WZ{p:ak}(h:((!(p.t.q.valid))||(!(p.uf)))=false):(p.t.q.valid&&p.uf)=true:=by
 cases hv:p.t.q.valid<;>cases hh:p.uf<;>simp[hv,hh]at h ⊢
theorem Nk{w:World}{p:ak}(h:p.ok w)(hq:jJ K w p.t.v p.t.q)(hK1:1≤K)(hK:K≤10000) :
  Calls prog 212 #[p.v] w fun e w'=>e = .returned (.bool p.uV)∧Ext w w':=by
 skip;refine am0 func212 ntmps212 fun ac S=>amW fun _ aO=>amY S 1 p.cells fun ac u b2 E3 hb4 S=>adr S 1 [] [(2,.bool false)] fun S=>amV<|aO _ _<|anj fun _ dA=>amW fun _ iQ=>adr S 2 [.mem 0 16] [(4,p.t.v)] fun S=>am3 S 5 (Ad p.t.v p.t.q K _ (hq.fJ S.E) hK1 (by omega)) fun ac u E7 S=>am9 S 6 [.mem 0 0] [(_,_,(!(!p.t.q.valid)),.bool p.uf)] [(11,.bool ((!p.t.q.valid)||(!p.uf)))] ⟨fun u hC g=>UG (K:=K) (h.below (Ext.trans' S.E hC)) (hq.fJ (Ext.trans' S.E hC)) hK1 hK,trivial⟩ fun ac u E8 S=>amV (iQ _ _ ?_);refine amX S (fun ZJ=>?_) (fun ZJ=>?_)
 ·refine amW fun _ fE=>adr S 1 [] [(2,.bool false)] fun S=>amV<|fE _ _<|anr ?_;have p0:=ZJ;refine am2 S results212 ?_;exact⟨aB (agy p0),S.E⟩
 refine ano<|dA _ _<|amW (fun _ bW=>?_);cases hk:(p.kind==1)
 ·refine adr S 6 [.mem 0 0,.re 14 (.bool ((p.kind)==1)) (.bool false),.mem 0 16] [(15,.bool false),(17,p.t.v)] (hk:=⟨anu Value.bool hk,trivial⟩) fun S=>Sx.Bc S (some 18) (Qq p.t.v p.t.q K _ (hq.fJ S.E) hK1 hK) ?_;rintro e u ⟨y,rfl,hd,Ed⟩;refine⟨_,rfl,Ed,fun ac S=>?_⟩;refine Sx.Bc S (some 19) (pG 0 _ (by decide)) ?_;rintro e u ⟨z,rfl,hz,Dn⟩;refine⟨_,rfl,Dn,fun ac S=>?_⟩;refine Sx.Bc S (some 20) (Qw _ _ p.t.q.xI q0 (K+K+(K+K)+1) 1 _ (aA.toQ (hd.ext Dn) (zn _) (zo hK1 (YB.YC hq hK1))) (aA.toQ (q:=q0) hz Uo Ur) (by omega) (by omega) (by omega) (by omega)) ?_;rintro e u ⟨rfl,Dj⟩;refine⟨_,rfl,Dj,fun ac S=>?_⟩;refine adr S 3 [] [(2,.bool (((lD p.t.q.xI q0)) != 0))] fun S=>amV<|bW _ _<|anr ?_;have p0:=ZJ;refine am2 S results212 ?_;exact⟨aB (by unfold ak.uV; rw[WZ p0,hk]; rfl),S.E⟩
 refine adr S 12 [.mem 0 0,.re 14 (.bool ((p.kind)==1)) (.bool true),.dead 16 (.bool false),.dead 17 (.bool false),.dead 18 (.bool false),.dead 19 (.bool false),.dead 20 (.bool false),.dead 21 (.bool false)] [(2,.bool true)] (hk:=⟨anu Value.bool hk,trivial⟩) fun S=>amV<|bW _ _<|anr ?_;have p0:=ZJ;refine am2 S results212 ?_;exact⟨aB (by unfold ak.uV; rw[WZ p0,hk]; rfl),S.E⟩
end
section
theorem len0{α:Type}(l:List α):((l.length:Int)==0)=l.isEmpty:=by cases l<;>simp<;>omega
theorem nil0{α:Type}[DecidableEq α](l:List α):decide (l=[])=l.isEmpty:=by cases l<;>simp
theorem Ib{p:ak}(hn:xX p.t.q)(h0:xX aP.none.q):p.uV=p.valid:=by
 have hs:p.t.q.same aP.none.q=p.t.q.eq aP.none.q:=Q6.same_eq hn h0;have ha:aP.none.q.eq aP.none.q=true:=by rw[←Q6.same_eq h0 h0]; unfold Q6.same; simp
 have e1:pX p.p0.x p.p0.y=kZ.valid ⟨p.p0.x,p.p0.y⟩:=Nl ⟨p.p0.x,p.p0.y⟩;have e2:pX p.p1.x p.p1.y=kZ.valid ⟨p.p1.x,p.p1.y⟩:=Nl ⟨p.p1.x,p.p1.y⟩;unfold ak.uV ak.valid ak.uf;rw[hs,e1,e2];cases htv:p.t.q.valid
 ·simp
 by_cases k1:p.kind=1
 ·simp[k1,ak.without,ak.Wy,ak.eq,ak.bare,ak.rJ,ak.oG,ha,dO.none,kZ.none,cO.eq,cO.bare,len0,nil0];cases p.t.q.eq aP.none.q<;>simp;ac_rfl
 by_cases k2:p.kind=2
 ·simp[k2,ak.without,ak.only2,ak.eq,ak.bare,ak.oG,ha,dO.none,kZ.none,cO.eq,cO.bare,len0,jf];ac_rfl
 by_cases k3:p.kind=3
 ·simp[k3,ak.without,ak.WA,ak.eq,ak.bare,ak.oG,ak.rJ,ha,dO.none,kZ.none,cO.eq,cO.bare,len0,jf,←Int.not_lt];ac_rfl
 by_cases k4:p.kind=4
 ·simp[k4,ak.without,ak.WB,bne,ak.eq,ak.bare,ak.oG,ak.rJ,ha,dO.none,kZ.none,cO.eq,cO.bare,len0,nil0,jf];ac_rfl
 have j1:(p.kind==1)=false:=by simpa using k1
 have j2:(p.kind==2)=false:=by simpa using k2
 have j3:(p.kind==3)=false:=by simpa using k3
 have j4:(p.kind==4)=false:=by simpa using k4
 rw[j1,j2,j3,j4];simp
end
end Go.Proofs.YtfmkkemfhjkajaaGreatDoor
