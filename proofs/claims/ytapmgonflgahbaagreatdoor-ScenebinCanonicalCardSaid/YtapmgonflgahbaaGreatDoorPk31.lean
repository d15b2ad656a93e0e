/- A region that draws its order, all of its operations by -/
import Derived.Test.YtapmgonflgahbaaGreatDoorPk25
set_option linter.unusedVariables false
section
namespace Go.Sx
open Go.Proofs.YtapmgonflgahbaaGreatDoor Go.RowKit Go.Rel
variable{P:Program}{Q:Exit→Act→World→Prop}{w0 w:World}{a:Act}{os:List Oper}{n:Nat}{l:List (Nat×Value)}{bl:List (Nat×List Value)}{vs:List gJ}{o:Oper}{ρ:Operand→Value}
def KnL(ρ:Operand→Value):List (Nat×Value)→Prop
 | []=>True
 | p::r=>ρ (.tmp p.1)=p.2∧KnL ρ r
theorem KnL.look{ρ:Operand→Value}:∀{l:List (Nat×Value)},KnL ρ l→∀q v,l.lookup q=some v→ρ (.tmp q)=v
 | [],_,q,v,h=>by simp at h
 | p::r,hk,q,v,h=>by
  rw[aw8]at h
  split at h
  ·rename_i hq
   obtain rfl:q=p.1:=by simpa using hq
   rw[←awx h]; exact hk.1
  ·exact hk.2.look q v h
theorem dv(hs:Std ρ)(l:List (Nat×Value)){V:Value}(hl:KnL ρ l)(hx:evV P o l=some V:=by kernel_rfl)(hd:o.dst.isSome=true:=by rfl):Does P o ρ w (fun v w'=>Ext w w'∧Rel.is V (kept o v) w'):=
 yC (os:=[o]) (i:=0) rfl hs l hl.look V ⟨Ext.rfl',by obtain⟨d,hd⟩:=axx.1 hd; unfold kept; rw[hd]; rfl⟩ hx
def evC(P:Program)(o:Oper)(l:List (Nat×Value)):Option (FuncId×Array Value):=match yT o.op || !o.op.operands.all (fun x=>(rd (lift l) [] x).isSome),jg (ev0 P (execOp (zK (lift l) []) o))with
 | false,some (.enter f args)=>some (f,args)
 | _,_=>none
theorem dc(hs:Std ρ)(l:List (Nat×Value)){T:Fact}{f:FuncId}{args:Array Value}(hl:KnL ρ l)(hc:Calls P f args w (fun e w''=>∃v,e = .returned v∧Ext w w''∧T v w''))(hx:evC P o l=some (f,args):=by kernel_rfl)(hd:o.dst.isSome=true:=by rfl) :
  Does P o ρ w (fun v w'=>Ext w w'∧T (kept o v) w'):=by
 unfold evC at hx;split at hx
 ·rename_i f' args' hav hev;simp only[awn,awo]at hx;obtain⟨rfl,rfl⟩:=hx;simp only[aw9]at hav;have hH:Holds ρ (lift l):=fun q x hq=>by
   rw[jX]at hq;cases h2:l.lookup q with
   | none=>simp[h2]at hq
   | some u =>
    simp only[h2,aw5,awn]at hq;subst hq;rw[hl.look q u h2]; rfl
  have hrun:(execOp ρ o).run P w = .ok (.enter f' args') w:=oW hs (jE hH o) (p:=[]) rfl hav.1 (by simpa using hav.2) hev;refine CP hrun (hc.mono fun e w'' h=>?_);obtain⟨v,h1,h2,h3⟩:=h;obtain⟨d,hd⟩:=axx.1 hd;exact⟨v,h1,h2,by unfold kept; rw[hd]; exact h3⟩
 cases hx
def cvB(P:Program)(o:Oper):Option Nat:=match o.op with
 | .convert s t (.tmp x)=>(match P.underlying s,P.underlying t with
  | some (.slice e),some .string=>(match P.underlying e with
   | some (.int .u8)=>some x
   | _=>none)
  | _,_=>none)
 | _=>none
theorem am6{x:Nat}{v:Value}{bs:List UInt8}(hx:ρ (.tmp x)=v)(hv:bG w v bs)(hc:cvB P o=some x:=by kernel_rfl)(hd:o.dst.isSome=true:=by rfl):Does P o ρ w (fun v w'=>Ext w w'∧Rel.is (.string ⟨bs.toArray⟩) (kept o v) w'):=by
 unfold cvB at hc;split at hc
 ·rename_i s t x' hop;split at hc
  ·rename_i e hs ht;split at hc
   ·rename_i he;obtain rfl:=awx hc;have hr:=nP (P:=P) hs he ht hv;have hrun:(execOp ρ o).run P w = .ok (.value (.string ⟨bs.toArray⟩)) w:=by
     unfold execOp;rw[hop];simp only[hx];rw[aw7,hr];rfl
    unfold Does;rw[hrun];exact⟨Ext.rfl',by obtain⟨d,hd⟩:=axx.1 hd; unfold kept; rw[hd]; rfl⟩
   cases hc
  cases hc
 cases hc
theorem dld{t b off:Nat}{ty:TypeId}{cs:List Value}{V:Value}(hx:ρ (.tmp t) = .q b off)(hr:w.rangeAt b off cs)(ho:o.op = .load ty (.tmp t):=by rfl)(hl:VQ P ty cs=some V:=by kernel_rfl)(hd:o.dst.isSome=true:=by rfl) :
  Does P o ρ w (fun v w'=>Ext w w'∧Rel.is V (kept o v) w'):=by
 have h1:=Md hl hr;have hrun:(execOp ρ o).run P w = .ok (.value V) w:=by
  unfold execOp;rw[ho];simp only[hx,aw7,h1];rfl
 unfold Does;rw[hrun];exact⟨Ext.rfl',by obtain⟨d,hd⟩:=axx.1 hd; unfold kept; rw[hd]; rfl⟩
theorem aqC{t r:TypeId}{x y:Nat}{l m:List UInt8}{B:Bool}(hx:ρ (.tmp x) = .string ⟨l.toArray⟩)(hy:ρ (.tmp y) = .string ⟨m.toArray⟩)(hV:(l==m)=B)(ho:o.op = .binOp .eql t (.tmp x) (.tmp y) r:=by rfl)(hd:o.dst.isSome=true:=by rfl) :
  Does P o ρ w (fun v w'=>Ext w w'∧Rel.is (.bool B) (kept o v) w'):=by
 have hrun:(execOp ρ o).run P w = .ok (.value (.bool (l==m))) w:=by
  unfold execOp;rw[ho];simp only[hx,hy];have hg:(eqGuard .eql t (.tmp x) (.tmp y) (.string ⟨l.toArray⟩) (.string ⟨m.toArray⟩)).run P w = .ok () w:=rfl;have hb:(binOp .eql t (.string ⟨l.toArray⟩) (.string ⟨m.toArray⟩)).run P w = .ok (.bool (l==m)) w:=by
   rw[binOp_string_eql,ayJ,ayJ]; rfl
  simp only[aw7,hg,hb,ayf];rfl
 unfold Does;rw[hrun];exact⟨Ext.rfl',by obtain⟨d,hd⟩:=axx.1 hd; unfold kept; rw[hd,hV]; rfl⟩
theorem sK{q:Nat→Bool}{i:Nat}{v:Value}:∀{l:List (Nat×Value)},(l.filter fun p=>q p.1).lookup i=some v→q i=true∧l.lookup i=some v
 | [],h=>by simp at h
 | (x,u)::l,h=>by
  by_cases hp:q x=true
  ·rw[List.filter_cons_of_pos (by exact hp)]at h
   by_cases e:i=x
   ·subst e
    simp only[aw8,ax7]at h ⊢
    exact⟨hp,h⟩
   ·have e2:(i==x)=false:=by simpa using e
    simp only[aw8,e2]at h ⊢
    exact sK h
  ·rw[List.filter_cons_of_neg (by exact hp)]at h
   obtain⟨h1,h2⟩:=sK h
   refine⟨h1,?_⟩
   have e2:(i==x)=false:=by simp; intro e; subst e; exact hp h1
   simp only[aw8,e2]
   exact h2
theorem am7(S:St w0 a w n l bl vs){id:Nat}(m:Nat)(Ts:List Fact)(j d:Nat)(V:Value)(hm:Rel.y8 Ext Ts)(hob:Go.Rel.qo P os.toArray (os.take m) Ts Ext (Ext w) a.eval (os.take m) Ts)
  (next:∀a' w',Ext w w'→St w0 a' w' n ((d,V)::l.filter fun p=>os.all fun o => !(o.dst==some p.1)) bl vs→wpList P os.toArray Q [] a' w') (hV:Ts[j]?=some (Rel.is V)) (hj:((os[j]?).bind (·.dst)==some d&&os.length==m&&decide (j<m))=true:=by kernel_rfl)
  (hmo:P.follows .mixedOrders=true:=by kernel_rfl) (hB:okB os.toArray m n=true:=by kernel_rfl):(Code.region id os.toArray true).wp P Q a w:=by
 simp only[awC,awE,awL]at hj;obtain⟨⟨h1,rfl⟩,h3⟩:=hj;obtain⟨hlen,hget⟩:=Go.Rel.lD _ _ hob;refine ayz hmo (Hl (R:=Ext) (C:=Ext w) os.length [] (by rw[S.s.size]; exact hB) Ts EF (below_drewN (awD _ _) 1) (fun _ _ h k=>Ext.trans' h k) (fun T hT v w1 w2 hR h=>Rel.y8.mem hm T hT v w1 w2 hR h)
  (fun i o hi ho=>hget i o (by rw[List.getElem?_take_of_lt hi]; exact ho)) fun a' w' hE hd hs hf hout _=>?_)
 have ho:∃o,os[j]?=some o∧o.dst=some d:=by
  cases h:os[j]? with
  | none=>rw[h]at h1; cases h1
  | some o=>rw[h]at h1; exact⟨o,rfl,h1⟩
 obtain⟨o,ho,hdo⟩:=ho;have hf1:=hf j o (by rw[List.getElem?_take_of_lt h3]; exact ho);have e1:Ts.getD j top=Rel.is V:=by simp[List.getD,hV]
 rw[e1,hdo]at hf1;have hf2:a'.eval (.tmp d)=V:=hf1;rw[List.drop_length];refine next a' w' hE ((S.grow hE).act ⟨hs.trans S.s.size,hd.trans S.s.defers,fun i v hi=>?_⟩);rw[aw8]at hi;split at hi
 ·rename_i hi2;obtain rfl:i=d:=by simpa using hi2
  rw[←awx hi]; exact hf2
 obtain⟨hq,hi⟩:=sK (q:=fun x=>os.all fun o => !(o.dst==some x)) hi;exact(hout i (by rw[axa]; exact hq)).trans (S.s.has i v hi)
end Go.Sx
end
section
namespace Go.Sx
open Go.Proofs.YtapmgonflgahbaaGreatDoor Go.RowKit Go.Rel
section
variable{w0 w w1 w2:World}{a a0:Act}{n:Nat}{l l0:List (Nat×Value)}{bl:List (Nat×List Value)}{vs vs0:List gJ}
theorem St.re(S:St w0 a w n l bl vs):St w a w n l [] (lV bl vs):=⟨S.s,Ext.rfl',fun p hp=>(by cases hp),List.nodup_nil,fun m hm=>⟨S.Cj m hm,fun p hp=>(by cases hp)⟩⟩
theorem St.back(S0:St w0 a0 w1 n l0 bl vs0)(S:St w2 a w n l [] vs)(h:Ext w1 w2):St w0 a w n l bl []:=
 have hE:Ext w1 w:=Ext.trans' h S.E
 ⟨S.s,(S0.grow hE).E,(S0.grow hE).own,S0.apart,fun m hm=>by cases hm⟩
end
end Go.Sx
end
section
set_option maxHeartbeats 3200000
set_option maxRecDepth 100000
namespace Go.Proofs.YtapmgonflgahbaaGreatDoor
open Go.RowKit
variable{α:Type}{K:Nat}
def bD.Me(t:bD):Bool:=cond ((decide (12<(t.a.l1.length:Int)))||(decide (12<(t.a.l2.length:Int)))) (false) (cond ((decide (12<(t.b.l1.length:Int)))||(decide (12<(t.b.l2.length:Int)))) (false) (cond ((decide (12<(t.c.l1.length:Int)))||(decide (12<(t.c.l2.length:Int)))) (false) (cond ((decide (12<(t.d.l1.length:Int)))||(decide (12<(t.d.l2.length:Int)))) (false) (cond ((decide (12<(t.e.l1.length:Int)))||(decide (12<(t.e.l2.length:Int)))) (false) (cond ((decide (12<(t.f.l1.length:Int)))||(decide (12<(t.f.l2.length:Int)))) (false) (true))))))
theorem JR{w:World}{t:bD}(h:t.ok w) :
  Calls Tryz.prog 74 #[t.v] w fun e w'=>e = .returned (.bool t.Me)∧Ext w w':=by
 obtain⟨t0,t1,t2,t3,t4,t5⟩:=h;obtain⟨p0,c0,e0,-⟩:=t0.1;obtain⟨q0,d0,f0,-⟩:=t0.2;obtain⟨p1,c1,e1,-⟩:=t1.1;obtain⟨q1,d1,f1,-⟩:=t1.2;obtain⟨p2,c2,e2,-⟩:=t2.1;obtain⟨q2,d2,f2,-⟩:=t2.2;obtain⟨p3,c3,e3,-⟩:=t3.1;obtain⟨q3,d3,f3,-⟩:=t3.2;obtain⟨p4,c4,e4,-⟩:=t4.1;obtain⟨q4,d4,f4,-⟩:=t4.2;obtain⟨p5,c5,e5,-⟩:=t5.1;obtain⟨q5,d5,f5,-⟩:=t5.2;refine avU Tryz.func74 Tryz.ntmps74 fun ac S=>avP fun _ aV=>avQ S 1 t.cells fun ac u b2 E3 hb4 S=>adr S 1 [] [(2,.z)] fun S=>apB<|aV _ _<|avP fun _ dA=>adr S 12 [.mem 0 0,.mem 0 4,.mem 0 8,.mem 0 12,.mem 0 16,.mem 0 20] [(6,t.a.v),(8,t.b.v),(10,t.c.v),(12,t.d.v),(14,t.e.v),(16,t.f.v)] fun S=>awc S 17 6 t.cells fun ac u b6 E7 hb8 S=>adr S 1 [] [(3,.slice (some ⟨b6,0,none⟩) 6 6)] fun S=>apB<|dA _ _<|awg fun _ ig=>avP fun _ dZ=>adr S 1 [] [(4,.i 0)] fun S=>apB<|dZ _ _<|awi<|axk 7 ?_;rw[awv];refine awg fun _ eG=>avP fun _ dV=>adr S 4 [] [(21,.bool true)] fun S=>apB<|dV _ _<|avX S<|awh<|eG _ _<|awg fun _ gW=>awi<|avP fun _ gK=>adr S 18 [.mem 0 1,.mem 0 3] [(41,.bool ((decide (12<(t.a.l1.length:Int)))||(decide (12<(t.a.l2.length:Int)))))] fun S=>apB (gK _ _ ?_);refine avR S (fun tq=>?_) (fun tq=>?_)
 ·refine avP fun _ iR=>adr S 1 [] [(2,.z)] fun S=>apB<|iR _ _<|avS S Tryz.results74 ?_;exact⟨aH (by unfold bD.Me; rw[tq]; rfl),S.E⟩
 refine awh<|gW _ _<|awk<|adr S 3 [] [(4,.i 1)] fun S=>apB ?_;show Code.rounds _ _ _ 6 _ _;rw[awv];refine awg fun _ gI=>avP fun _ iZ=>adr S 4 [] [(21,.bool true)] fun S=>apB<|iZ _ _<|avX S<|awh<|gI _ _<|awg fun _ lY=>awi<|avP fun _ l9=>adr S 18 [.mem 0 5,.mem 0 7] [(41,.bool ((decide (12<(t.b.l1.length:Int)))||(decide (12<(t.b.l2.length:Int)))))] fun S=>apB (l9 _ _ ?_);refine avR S (fun hc21=>?_) (fun hc21=>?_)
 ·refine avP fun _ jm=>adr S 1 [] [(2,.z)] fun S=>apB<|jm _ _<|avS S Tryz.results74 ?_;exact⟨aH (by unfold bD.Me; rw[tq,hc21]; rfl),S.E⟩
 refine awh<|lY _ _<|awk<|adr S 3 [] [(4,.i 2)] fun S=>apB ?_;show Code.rounds _ _ _ 5 _ _;rw[awv];refine awg fun _ mQ=>avP fun _ kU=>adr S 4 [] [(21,.bool true)] fun S=>apB<|kU _ _<|avX S<|awh<|mQ _ _<|awg fun _ oI=>awi<|avP fun _ jd=>adr S 18 [.mem 0 9,.mem 0 11] [(41,.bool ((decide (12<(t.c.l1.length:Int)))||(decide (12<(t.c.l2.length:Int)))))] fun S=>apB (jd _ _ ?_);refine avR S (fun hc27=>?_) (fun hc27=>?_)
 ·refine avP fun _ qh=>adr S 1 [] [(2,.z)] fun S=>apB<|qh _ _<|avS S Tryz.results74 ?_;exact⟨aH (by unfold bD.Me; rw[tq,hc21,hc27]; rfl),S.E⟩
 refine awh<|oI _ _<|awk<|adr S 3 [] [(4,.i 3)] fun S=>apB ?_;show Code.rounds _ _ _ 4 _ _;rw[awv];refine awg fun _ pO=>avP fun _ kM=>adr S 4 [] [(21,.bool true)] fun S=>apB<|kM _ _<|avX S<|awh<|pO _ _<|awg fun _ rH=>awi<|avP fun _ jM=>adr S 18 [.mem 0 13,.mem 0 15] [(41,.bool ((decide (12<(t.d.l1.length:Int)))||(decide (12<(t.d.l2.length:Int)))))] fun S=>apB (jM _ _ ?_);refine avR S (fun Au=>?_) (fun Au=>?_)
 ·refine avP fun _ qU=>adr S 1 [] [(2,.z)] fun S=>apB<|qU _ _<|avS S Tryz.results74 ?_;exact⟨aH (by unfold bD.Me; rw[tq,hc21,hc27,Au]; rfl),S.E⟩
 refine awh<|rH _ _<|awk<|adr S 3 [] [(4,.i 4)] fun S=>apB ?_;show Code.rounds _ _ _ 3 _ _;rw[awv];refine awg fun _ oD=>avP fun _ lg=>adr S 4 [] [(21,.bool true)] fun S=>apB<|lg _ _<|avX S<|awh<|oD _ _<|awg fun _ nV=>awi<|avP fun _ jD=>adr S 18 [.mem 0 17,.mem 0 19] [(41,.bool ((decide (12<(t.e.l1.length:Int)))||(decide (12<(t.e.l2.length:Int)))))] fun S=>apB (jD _ _ ?_);refine avR S (fun hc39=>?_) (fun hc39=>?_)
 ·refine avP fun _ qO=>adr S 1 [] [(2,.z)] fun S=>apB<|qO _ _<|avS S Tryz.results74 ?_;exact⟨aH (by unfold bD.Me; rw[tq,hc21,hc27,Au,hc39]; rfl),S.E⟩
 refine awh<|nV _ _<|awk<|adr S 3 [] [(4,.i 5)] fun S=>apB ?_;show Code.rounds _ _ _ 2 _ _;rw[awv];refine awg fun _ wQ=>avP fun _ vC=>adr S 4 [] [(21,.bool true)] fun S=>apB<|vC _ _<|avX S<|awh<|wQ _ _<|awg fun _ vP=>awi<|avP fun _ BQ=>adr S 18 [.mem 0 21,.mem 0 23] [(41,.bool ((decide (12<(t.f.l1.length:Int)))||(decide (12<(t.f.l2.length:Int)))))] fun S=>apB (BQ _ _ ?_);refine avR S (fun I4=>?_) (fun I4=>?_)
 ·refine avP fun _ uh=>adr S 1 [] [(2,.z)] fun S=>apB<|uh _ _<|avS S Tryz.results74 ?_;exact⟨aH (by unfold bD.Me; rw[tq,hc21,hc27,Au,hc39,I4]; rfl),S.E⟩
 refine awh<|vP _ _<|awk<|adr S 3 [] [(4,.i 6)] fun S=>apB ?_;show Code.rounds _ _ _ 1 _ _;rw[awv];refine awg fun _ uT=>avP fun _ sO=>adr S 4 [] [(21,.z)] fun S=>apB<|sO _ _<|av4 S<|awy<|ig _ _<|avP fun _ uU=>adr S 1 [] [(2,.bool true)] fun S=>apB<|uU _ _<|avS S Tryz.results74 ?_;exact⟨aH (by unfold bD.Me; rw[tq,hc21,hc27,Au,hc39,I4]; rfl),S.E⟩
theorem UK{w:World}{t:bD}(h:t.ok w) :
  Calls Tryz.prog 29 #[t.v] w fun e w'=>e = .returned (.bool t.Me)∧Ext w w':=by
 skip;refine avU Tryz.func29 Tryz.ntmps29 fun ac S=>avP fun _ aV=>avQ S 1 t.cells fun ac u b2 E3 hb4 S=>adr S 1 [] [(2,.z)] fun S=>apB<|aV _ _<|avP fun _ dA=>adr S 1 [.mem 0 0] [(3,t.v)] fun S=>avZ S 4 (JR (t:=t) (h.below S.E)) fun ac u E6 S=>adr S 1 [] [(2,.bool t.Me)] fun S=>apB<|dA _ _<|avS S Tryz.results29 ?_;exact⟨rfl,S.E⟩
def au.few(p:au):Bool:=((decide ((p.stops.length:Int)≤40))&&(decide ((p.img.l.length:Int)≤300)))&&p.t.Me
theorem Y2{w:World}{p:au}(h:p.ok w) :
  Calls Tryz.prog 75 #[p.v] w fun e w'=>e = .returned (.bool p.few)∧Ext w w':=by
 obtain⟨r1,r2,er1⟩:=h.2.2.2.2.1.shape;obtain⟨r3,r4,er2⟩:=h.2.2.2.2.2.2.2.1.2.2.shape;refine avU Tryz.func75 Tryz.ntmps75 fun ac S=>avP fun _ aV=>avQ S 1 p.cells fun ac u b2 E3 hb4 S=>adr S 1 [] [(2,.z)] fun S=>apB<|aV _ _<|avP fun _ dA=>av9 S 17 [.mem 0 10,.mem 0 14,.mem 0 16] [(_,_,((decide ((p.stops.length:Int)≤40))&&(decide ((p.img.l.length:Int)≤300))),.bool p.t.Me)] [(2,.bool (((decide ((p.stops.length:Int)≤40))&&(decide ((p.img.l.length:Int)≤300)))&&p.t.Me))] ⟨fun u hC g=>JR (t:=p.t) (h.2.2.2.2.2.2.2.2.2.below (Ext.trans' S.E hC)),trivial⟩ fun ac u E6 S=>apB<|dA _ _<|avS S Tryz.results75 ?_;exact⟨rfl,S.E⟩
def jc(l:List au):Bool:=decide (l.length≤4)&&l.all au.few
theorem zf{w:World}{v:Value}{l:List au}(h:jy w v l) :
  Calls Tryz.prog 30 #[v] w fun e w'=>e = .returned (.bool (jc l))∧Ext w w':=by
 obtain⟨a,cap,rfl⟩:=h.1.shape;have hmax:l.length≤9223372036854775807:=h.1.len;refine avU Tryz.func30 Tryz.ntmps30 fun ac S=>avP fun _ aV=>adr S 1 [] [(2,.z)] fun S=>apB<|aV _ _<|awg fun _ fK=>avP fun _ jC=>adr S 3 [] [(6,.bool (4<(l.length:Int)))] fun S=>apB (jC _ _ ?_);refine avR S (fun hc4=>?_) (fun hc4=>?_)
 ·refine avP fun _ dA=>adr S 1 [] [(2,.z)] fun S=>apB<|dA _ _<|avS S Tryz.results30 ?_;exact⟨aH (by unfold jc; simp[show ¬l.length≤4 from by have:=of_decide_eq_true hc4; omega]),S.E⟩
 refine awh<|fK _ _<|awg fun _ jq=>avP fun _ jr=>adr S 1 [] [(3,.i 0)] fun S=>apB<|jr _ _<|awi ?_;refine awS (ι:=Nat) (fun p a' w'=>p≤l.length∧((l.take p).all au.few=true)∧Sx.St w a' w' 19 [(0,.slice a l.length cap),(2,.z),(3,.i p)] [] []) (fun p=>l.length-p) (0) ⟨awt _,rfl,S.sn⟩ ?_;rintro k ac u hI;try dsimp only at hI
 obtain⟨hk,hR,S⟩:=hI;refine awg fun _ dS=>avP fun _ ig=>adr S 4 [] [(10,.bool ((k:Int)<(l.length:Int)))] fun S=>apB (ig _ _ ?_);refine avR S (fun dR=>?_) (fun dR=>?_)
 ·refine awh<|dS _ _<|awg fun _ eG=>awi<|avP (fun _ dV=>?_);have Ec:k<l.length:=by have:=awz dR; omega
  obtain⟨b13,o14,rfl,x19,PX,YJ,aiA⟩:=awN h.1 (fun _=>rfl) (k) Ec;have S:=S.view0 YJ aiA;refine adr S 4 [.idx k l.length,.mem 0 0] [(16,x19.v)] (hk:=⟨Ec,trivial⟩) fun S=>avZ S 17 (Y2 ((h.2 _ (PX▸awT Ec)).below S.E)) fun ac u wu S=>adr S 1 [] [(18,.bool (!(x19.few)))] fun S=>apB (dV _ _ ?_);refine avR S (fun hc22=>?_) (fun hc22=>?_)
  ·refine avP fun _ mQ=>adr S 1 [] [(2,.z)] fun S=>apB<|mQ _ _<|avS S Tryz.results30 ?_;exact⟨aH (by unfold jc; rw[Aw Ec (by rw[PX]; simpa using hc22)]; simp),S.E⟩
  refine awh<|eG _ _<|awk<|adr S 3 [.re 12 (.i (IntKind.i64.wrap ((k:Int)+1))) (.i (k+1:Nat))] [(3,.i (k+1:Nat))] (hk:=⟨av5 (by omega),trivial⟩) fun S=>apB ?_;show ∃i',_∧_;exact⟨(k+1),⟨by omega,(pF Ec hR (by rw[PX]; simpa using hc22)),S.sn⟩,by show _-_<_-_; omega⟩
 refine awy<|jq _ _<|avP fun _ kU=>adr S 1 [] [(2,.bool true)] fun S=>apB<|kU _ _<|avS S Tryz.results30 ?_;exact⟨aH (by unfold jc; rw[rY (by have:=awG dR; omega) hR]; simp[show l.length≤4 from by have:=of_decide_eq_false hc4; omega]),S.E⟩
def aA.nZ(nd:aA):Bool:=cond ((((decide (40<(nd.clip.length:Int)))||(decide (40<(nd.path.length:Int))))||(decide (40<(nd.style.dash.length:Int))))||(decide (300<(nd.img.l.length:Int)))) false ((nd.t.Me&&(jc nd.fill))&&(jc nd.stroke))
theorem Dy{w:World}{nd:aA}(h:nd.ok w) :
  Calls Tryz.prog 10 #[nd.v] w fun e w'=>e = .returned (.bool nd.nZ)∧Ext w w':=by
 obtain⟨a1,c1,ecs⟩:=h.2.2.2.2.1.1.shape;obtain⟨a2,c2,eps⟩:=h.2.2.2.2.2.2.2.1.1.shape;obtain⟨a3,c3,efs⟩:=h.2.2.2.2.2.2.2.2.2.1.1.shape;obtain⟨a4,c4,ess⟩:=h.2.2.2.2.2.2.2.2.2.2.2.1.1.shape;obtain⟨a5,c5,est,-⟩:=h.2.2.2.2.2.2.2.2.2.2.1.2.2.2.2.1;obtain⟨a6,c6,eim⟩:=h.2.2.2.2.2.2.2.2.2.2.2.2.1.2.2.shape;refine avU Tryz.func10 Tryz.ntmps10 fun ac S=>avP fun _ aV=>avQ S 1 nd.cells fun ac u b2 E3 hb4 S=>adr S 1 [] [(2,.z)] fun S=>apB<|aV _ _<|awg fun _ dA=>avP fun _ jq=>adr S 24 [.mem 0 27,.mem 0 33,.mem 0 40,.mem 0 45] [(26,.bool ((((decide (40<(nd.clip.length:Int)))||(decide (40<(nd.path.length:Int))))||(decide (40<(nd.style.dash.length:Int))))||(decide (300<(nd.img.l.length:Int)))))] fun S=>apB (jq _ _ ?_);refine avR S (fun oL=>?_) (fun oL=>?_)
 ·refine avP fun _ dS=>adr S 1 [] [(2,.z)] fun S=>apB<|dS _ _<|avS S Tryz.results10 ?_;exact⟨aH (by unfold aA.nZ; rw[oL]; rfl),S.E⟩
 refine awh<|dA _ _<|avP fun _ ig=>adr S 2 [.mem 0 3] [(28,nd.t.v)] fun S=>avZ S 29 (UK (t:=nd.t) (h.2.2.2.1.below S.E)) fun ac u OE S=>av9 S 11 [.mem 0 35,.mem 0 42] [(_,_,nd.t.Me,.bool (jc nd.fill)),(_,_,(nd.t.Me&&(jc nd.fill)),.bool (jc nd.stroke))] [(2,.bool ((nd.t.Me&&(jc nd.fill))&&(jc nd.stroke)))] ⟨fun u hC g=>zf (l:=nd.fill) (h.2.2.2.2.2.2.2.2.2.1.below (Ext.trans' S.E hC)),fun u hC g=>zf (l:=nd.stroke) (h.2.2.2.2.2.2.2.2.2.2.2.1.below (Ext.trans' S.E hC)),trivial⟩ fun ac u tJ S=>apB<|ig _ _<|avS S Tryz.results10 ?_;exact⟨aH (by unfold aA.nZ; rw[oL]; rfl),S.E⟩
def bF.few(s:bF)(n:Int):Bool:=decide ((s.ns.length:Int)≤n)&&s.ns.all aA.nZ
theorem Y3{w:World}{s:bF}(h:aO 47 aA.cells w s.s s.ns∧∀n∈s.ns,n.ok w)(n:Int) :
  Calls Tryz.prog 9 #[s.v,.i n] w fun e w'=>e = .returned (.bool (s.few n))∧Ext w w':=by
 have hmax:s.ns.length≤9223372036854775807:=h.1.len;refine avU Tryz.func9 Tryz.ntmps9 (fun ac S=>?_);obtain⟨a,cap,es⟩:∃a c,s.s = .slice a s.ns.length c:=⟨_,_,rfl⟩;have hr:=h.1;rw[es]at hr;refine avP fun _ aV=>avQ S 2 s.cells fun ac u b2 E3 hb4 S=>adr S 1 [] [(4,.z)] fun S=>apB<|aV _ _<|awg fun _ dA=>avP fun _ jq=>adr S 5 [.mem 0 6,.re 7 s.s (.slice a s.ns.length cap)] [(10,.bool (n<(s.ns.length:Int)))] (hk:=⟨es,trivial⟩) fun S=>apB (jq _ _ ?_);refine avR S (fun oL=>?_) (fun oL=>?_)
 ·refine avP fun _ dS=>adr S 1 [] [(4,.z)] fun S=>apB<|dS _ _<|avS S Tryz.results9 ?_;exact⟨aH (by unfold bF.few; simp[show ¬((s.ns.length:Int)≤n)from by have:=of_decide_eq_true oL; omega]),S.E⟩
 refine awh<|dA _ _<|awg fun _ ig=>avP fun _ dZ=>adr S 1 [] [(5,.i 0)] fun S=>apB<|dZ _ _<|awi ?_;refine awS (ι:=Nat) (fun p a' w'=>p≤s.ns.length∧((s.ns.take p).all aA.nZ=true)∧Sx.St w a' w' 25 [(0,s.v),(1,.i n),(2,.q b2 0),(4,.z),(5,.i p)] [(b2,s.cells)] []) (fun p=>s.ns.length-p) (0) ⟨awt _,rfl,S.sn⟩ ?_;rintro k ac u hI;try dsimp only at hI
 obtain⟨hk,hR,S⟩:=hI;refine awg fun _ eG=>avP fun _ dV=>adr S 5 [.mem 0 6,.re 13 s.s (.slice a s.ns.length cap)] [(15,.bool ((k:Int)<(s.ns.length:Int)))] (hk:=⟨es,trivial⟩) fun S=>apB (dV _ _ ?_);refine avR S (fun hc13=>?_) (fun hc13=>?_)
 ·refine awh<|eG _ _<|awg fun _ gK=>awi<|avP (fun _ iG=>?_);have acP:k<s.ns.length:=by have:=awz hc13; omega
  obtain⟨b16,o17,rfl,x22,aiU,ab7,aqD⟩:=awN hr (fun _=>rfl) (k) acP;have S:=S.view0 ab7 aqD;refine adr S 5 [.mem 0 6,.re 19 s.s (.slice (some ⟨b16,o17,none⟩) s.ns.length cap),.idx k s.ns.length,.mem 1 0] [(22,x22.v)] (hk:=⟨es,acP,trivial⟩) fun S=>avZ S 23 (Dy ((h.2 _ (aiU▸awT acP)).below S.E)) fun ac u RS S=>adr S 1 [] [(24,.bool (!x22.nZ))] fun S=>apB (iG _ _ ?_);refine avR S (fun hc25=>?_) (fun hc25=>?_)
  ·refine avP fun _ jd=>adr S 1 [] [(4,.z)] fun S=>apB<|jd _ _<|avS S Tryz.results9 ?_;exact⟨aH (by unfold bF.few; rw[Aw acP (by rw[aiU]; simpa using hc25)]; simp),S.E⟩
  refine awh<|gK _ _<|awk<|adr S 3 [.re 17 (.i (IntKind.i64.wrap ((k:Int)+1))) (.i (k+1:Nat))] [(5,.i (k+1:Nat))] (hk:=⟨av5 (by omega),trivial⟩) fun S=>apB ?_;show ∃i',_∧_;exact⟨(k+1),⟨by omega,(pF acP hR (by rw[aiU]; simpa using hc25)),S.sn⟩,by show _-_<_-_; omega⟩
 refine awy<|ig _ _<|avP fun _ mV=>adr S 1 [] [(4,.bool true)] fun S=>apB<|mV _ _<|avS S Tryz.results9 ?_;exact⟨aH (by unfold bF.few; rw[rY (by have:=awG hc13; omega) hR]; simp[show((s.ns.length:Int)≤n)from by have:=of_decide_eq_false oL; omega]),S.E⟩
theorem vV:∀{a b:Bool},cond a false b=true→a=false∧b=true:=by decide
theorem WE{t:bD}(h:t.fit 20):t.lim:=⟨h.1.mono (by decide),h.2.1.mono (by decide),h.2.2.1.mono (by decide),h.2.2.2.1.mono (by decide),h.2.2.2.2.1.mono (by decide),h.2.2.2.2.2.mono (by decide)⟩
theorem CQ{r:bJ}(h:((decide (12<(r.l1.length:Int)))||(decide (12<(r.l2.length:Int))))=false):r.fit 20:=by
 simp only[aw9,axw]at h;exact⟨by omega,by omega⟩
theorem bD.WG{t:bD}(h:t.Me=true):t.fit 20:=by
 unfold bD.Me at h;obtain⟨h0,h⟩:=vV h;obtain⟨h1,h⟩:=vV h;obtain⟨h2,h⟩:=vV h;obtain⟨h3,h⟩:=vV h;obtain⟨h4,h⟩:=vV h;obtain⟨h5,h⟩:=vV h;exact⟨CQ h0,CQ h1,CQ h2,CQ h3,CQ h4,CQ h5⟩
theorem JU{p:au}(h:p.few=true):p.t.fit 20∧p.lim:=by
 unfold au.few at h;simp only[awC,awL]at h;have:=bD.WG h.2;exact⟨this,by omega,by omega,WE this⟩
theorem Ho{l:List au}(h:jc l=true):(∀p∈l,p.t.fit 20)∧l.length≤10000000∧∀p∈l,p.lim:=by
 unfold jc at h;simp only[awC,awL,awQ]at h;exact⟨fun p hp=>(JU (h.2 p hp)).1,by omega,fun p hp=>(JU (h.2 p hp)).2⟩
theorem zT{w:World}{nd:aA}(h:nd.nZ=true)(ho:nd.ok w):fB 20 w nd∧nd.lim:=by
 unfold aA.nZ at h;obtain⟨h1,h2⟩:=vV h;simp only[aw9,axw]at h1;simp only[awC]at h2;have hf:=Ho h2.1.2;have hs:=Ho h2.2;have ht:=bD.WG h2.1.1;exact⟨⟨ho,ht,hf.1,hs.1,by decide,by decide⟩,WE ht,by omega,by omega,hf.2.1,hf.2.2,by omega,hs.2.1,hs.2.2,by omega⟩
theorem acQ{w:World}{s:bF}{n:Int}(h:s.few n=true)(hw:I64 s.w)(hh:I64 s.h)(ho:aO 47 aA.cells w s.s s.ns∧∀n∈s.ns,n.ok w):eX 20 w s∧(∀n∈s.ns,n.lim)∧(s.ns.length:Int)≤n:=by
 unfold bF.few at h;simp only[awC,awL,awQ]at h;exact⟨⟨hw,hh,ho.1,fun n hn=>(zT (h.2 n hn) (ho.2 n hn)).1⟩,fun n hn=>(zT (h.2 n hn) (ho.2 n hn)).2,h.1⟩
end Go.Proofs.YtapmgonflgahbaaGreatDoor
end
theorem av6:type_of% @Go.Sx.dv:=@Go.Sx.dv
