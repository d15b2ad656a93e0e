/- A region that draws its order, all of its operations by -/
import Derived.Test.YtapmgonflgahbaaGreatDoorPk30
set_option linter.unusedVariables false
section
namespace Go.Sx
open Go.Proofs.YtapmgonflgahbaaGreatDoor Go.RowKit Go.Rel
variable{P:Program}{Q:Exit→Act→World→Prop}{w0 w:World}{a:Act}{os:List Oper}{n:Nat}{l:List (Nat×Value)}{bl:List (Nat×List Value)}{vs:List gX}{o:Oper}{ρ:Operand→Value}
def KnL(ρ:Operand→Value):List (Nat×Value)→Prop
 | []=>True
 | p::r=>ρ (.tmp p.1)=p.2∧KnL ρ r
theorem KnL.look{ρ:Operand→Value}:∀{l:List (Nat×Value)},KnL ρ l→∀q v,l.lookup q=some v→ρ (.tmp q)=v
 | [],_,q,v,h=>by simp at h
 | p::r,hk,q,v,h=>by
  rw[aoN]at h
  split at h
  ·rename_i hq
   obtain rfl:q=p.1:=by simpa using hq
   rw[←aof h]; exact hk.1
  ·exact hk.2.look q v h
theorem dv(hs:Std ρ)(l:List (Nat×Value)){V:Value}(hl:KnL ρ l)(hx:evV P o l=some V:=by kernel_rfl)(hd:o.dst.isSome=true:=by rfl):Does P o ρ w (fun v w'=>Ext w w'∧Rel.is V (kept o v) w'):=
 acw (os:=[o]) (i:=0) rfl hs l hl.look V ⟨Ext.rfl',by obtain⟨d,hd⟩:=ao1.1 hd; unfold kept; rw[hd]; rfl⟩ hx
def evC(P:Program)(o:Oper)(l:List (Nat×Value)):Option (FuncId×Array Value):=match yX o.op || !o.op.operands.all (fun x=>(rd (lift l) [] x).isSome),jh (ev0 P (execOp (yL (lift l) []) o))with
 | false,some (.enter f args)=>some (f,args)
 | _,_=>none
theorem dc(hs:Std ρ)(l:List (Nat×Value)){T:Fact}{f:FuncId}{args:Array Value}(hl:KnL ρ l)(hc:Calls P f args w (fun e w''=>∃v,e = .returned v∧Ext w w''∧T v w''))(hx:evC P o l=some (f,args):=by kernel_rfl)(hd:o.dst.isSome=true:=by rfl) :
  Does P o ρ w (fun v w'=>Ext w w'∧T (kept o v) w'):=by
 unfold evC at hx;split at hx
 ·rename_i f' args' hav hev;simp only[an8,aob]at hx;obtain⟨rfl,rfl⟩:=hx;simp only[aoP]at hav;have hH:Holds ρ (lift l):=fun q x hq=>by
   rw[jW]at hq;cases h2:l.lookup q with
   | none=>simp[h2]at hq
   | some u =>
    simp only[h2,aoO,an8]at hq;subst hq;rw[hl.look q u h2]; rfl
  have hrun:(execOp ρ o).run P w = .ok (.enter f' args') w:=qM hs (jP hH o) (p:=[]) rfl hav.1 (by simpa using hav.2) hev;refine Df hrun (hc.mono fun e w'' h=>?_);obtain⟨v,h1,h2,h3⟩:=h;obtain⟨d,hd⟩:=ao1.1 hd;exact⟨v,h1,h2,by unfold kept; rw[hd]; exact h3⟩
 cases hx
def cvB(P:Program)(o:Oper):Option Nat:=match o.op with
 | .convert s t (.tmp x)=>(match P.underlying s,P.underlying t with
  | some (.slice e),some .string=>(match P.underlying e with
   | some (.int .u8)=>some x
   | _=>none)
  | _,_=>none)
 | _=>none
theorem PO{x:Nat}{v:Value}{bs:List UInt8}(hx:ρ (.tmp x)=v)(hv:bI w v bs)(hc:cvB P o=some x:=by kernel_rfl)(hd:o.dst.isSome=true:=by rfl):Does P o ρ w (fun v w'=>Ext w w'∧Rel.is (.string ⟨bs.toArray⟩) (kept o v) w'):=by
 unfold cvB at hc;split at hc
 ·rename_i s t x' hop;split at hc
  ·rename_i e hs ht;split at hc
   ·rename_i he;obtain rfl:=aof hc;have hr:=rU (P:=P) hs he ht hv;have hrun:(execOp ρ o).run P w = .ok (.value (.string ⟨bs.toArray⟩)) w:=by
     unfold execOp;rw[hop];simp only[hx];rw[aoV,hr];rfl
    unfold Does;rw[hrun];exact⟨Ext.rfl',by obtain⟨d,hd⟩:=ao1.1 hd; unfold kept; rw[hd]; rfl⟩
   cases hc
  cases hc
 cases hc
theorem dvb(hs:Std ρ)(l:List (Nat×Value))(c:Bool){B:Bool}(hl:KnL ρ l)(hc:c=B)(hx:evV P o l=some (.bool c):=by kernel_rfl)(hd:o.dst.isSome=true:=by rfl):Does P o ρ w (fun v w'=>Ext w w'∧Rel.is (.bool B) (kept o v) w'):=by
 subst hc; exact dv hs l hl hx hd
theorem dld{t b off:Nat}{ty:TypeId}{cs:List Value}{V:Value}(hx:ρ (.tmp t) = .q b off)(hr:w.rangeAt b off cs)(ho:o.op = .load ty (.tmp t):=by rfl)(hl:Uw P ty cs=some V:=by kernel_rfl)(hd:o.dst.isSome=true:=by rfl) :
  Does P o ρ w (fun v w'=>Ext w w'∧Rel.is V (kept o v) w'):=by
 have h1:=LC hl hr;have hrun:(execOp ρ o).run P w = .ok (.value V) w:=by
  unfold execOp;rw[ho];simp only[hx,aoV,h1];rfl
 unfold Does;rw[hrun];exact⟨Ext.rfl',by obtain⟨d,hd⟩:=ao1.1 hd; unfold kept; rw[hd]; rfl⟩
theorem acL{t r:TypeId}{x y:Nat}{l m:List UInt8}{B:Bool}(hx:ρ (.tmp x) = .string ⟨l.toArray⟩)(hy:ρ (.tmp y) = .string ⟨m.toArray⟩)(hV:(l==m)=B)(ho:o.op = .binOp .eql t (.tmp x) (.tmp y) r:=by rfl)(hd:o.dst.isSome=true:=by rfl) :
  Does P o ρ w (fun v w'=>Ext w w'∧Rel.is (.bool B) (kept o v) w'):=by
 have hrun:(execOp ρ o).run P w = .ok (.value (.bool (l==m))) w:=by
  unfold execOp;rw[ho];simp only[hx,hy];have hg:(eqGuard .eql t (.tmp x) (.tmp y) (.string ⟨l.toArray⟩) (.string ⟨m.toArray⟩)).run P w = .ok () w:=rfl;have hb:(binOp .eql t (.string ⟨l.toArray⟩) (.string ⟨m.toArray⟩)).run P w = .ok (.bool (l==m)) w:=by
   rw[binOp_string_eql,ByteArray.toList_eq,ByteArray.toList_eq]; rfl
  simp only[aoV,hg,hb,ap2];rfl
 unfold Does;rw[hrun];exact⟨Ext.rfl',by obtain⟨d,hd⟩:=ao1.1 hd; unfold kept; rw[hd,hV]; rfl⟩
theorem qj{q:Nat→Bool}{i:Nat}{v:Value}:∀{l:List (Nat×Value)},(l.filter fun p=>q p.1).lookup i=some v→q i=true∧l.lookup i=some v
 | [],h=>by simp at h
 | (x,u)::l,h=>by
  by_cases hp:q x=true
  ·rw[List.filter_cons_of_pos (by exact hp)]at h
   by_cases e:i=x
   ·subst e
    simp only[aoN,apS]at h ⊢
    exact⟨hp,h⟩
   ·have e2:(i==x)=false:=by simpa using e
    simp only[aoN,e2]at h ⊢
    exact qj h
  ·rw[List.filter_cons_of_neg (by exact hp)]at h
   obtain⟨h1,h2⟩:=qj h
   refine⟨h1,?_⟩
   have e2:(i==x)=false:=by simp; intro e; subst e; exact hp h1
   simp only[aoN,e2]
   exact h2
theorem adM(S:St w0 a w n l bl vs){id:Nat}(m:Nat)(Ts:List Fact)(j d:Nat)(V:Value)(hm:Rel.yV Ext Ts)(hob:Go.Rel.pG P os.toArray (os.take m) Ts Ext (Ext w) a.eval (os.take m) Ts)
  (next:∀a' w',Ext w w'→St w0 a' w' n ((d,V)::l.filter fun p=>os.all fun o => !(o.dst==some p.1)) bl vs→wpList P os.toArray Q [] a' w') (hV:Ts[j]?=some (Rel.is V)) (hj:((os[j]?).bind (·.dst)==some d&&os.length==m&&decide (j<m))=true:=by kernel_rfl)
  (hmo:P.follows .mixedOrders=true:=by kernel_rfl) (hB:okB os.toArray m n=true:=by kernel_rfl):(Code.region id os.toArray true).wp P Q a w:=by
 simp only[aoq,aoo,aov]at hj;obtain⟨⟨h1,rfl⟩,h3⟩:=hj;obtain⟨hlen,hget⟩:=Go.Rel.jZ _ _ hob;refine apJ hmo (zH (R:=Ext) (C:=Ext w) os.length [] (by rw[S.s.size]; exact hB) Ts AQ (below_drewN (aor _ _) 1) (fun _ _ h k=>Ext.trans' h k) (fun T hT v w1 w2 hR h=>Rel.yV.mem hm T hT v w1 w2 hR h)
  (fun i o hi ho=>hget i o (by rw[List.getElem?_take_of_lt hi]; exact ho)) fun a' w' hE hd hs hf hout _=>?_)
 have ho:∃o,os[j]?=some o∧o.dst=some d:=by
  cases h:os[j]? with
  | none=>rw[h]at h1; cases h1
  | some o=>rw[h]at h1; exact⟨o,rfl,h1⟩
 obtain⟨o,ho,hdo⟩:=ho;have hf1:=hf j o (by rw[List.getElem?_take_of_lt h3]; exact ho);have e1:Ts.getD j top=Rel.is V:=by simp[List.getD,hV]
 rw[e1,hdo]at hf1;have hf2:a'.eval (.tmp d)=V:=hf1;rw[List.drop_length];refine next a' w' hE ((S.grow hE).act ⟨hs.trans S.s.size,hd.trans S.s.defers,fun i v hi=>?_⟩);rw[aoN]at hi;split at hi
 ·rename_i hi2;obtain rfl:i=d:=by simpa using hi2
  rw[←aof hi]; exact hf2
 obtain⟨hq,hi⟩:=qj (q:=fun x=>os.all fun o => !(o.dst==some x)) hi;exact(hout i (by rw[aoQ]; exact hq)).trans (S.s.has i v hi)
end Go.Sx
end
section
namespace Go.Sx
open Go.Proofs.YtapmgonflgahbaaGreatDoor Go.RowKit Go.Rel
section
variable{w0 w w1 w2:World}{a a0:Act}{n:Nat}{l l0:List (Nat×Value)}{bl:List (Nat×List Value)}{vs vs0:List gX}
theorem St.re(S:St w0 a w n l bl vs):St w a w n l [] (mD bl vs):=⟨S.s,Ext.rfl',fun p hp=>(by cases hp),List.nodup_nil,fun m hm=>⟨S.CW m hm,fun p hp=>(by cases hp)⟩⟩
theorem St.back(S0:St w0 a0 w1 n l0 bl vs0)(S:St w2 a w n l [] vs)(h:Ext w1 w2):St w0 a w n l bl []:=
 have hE:Ext w1 w:=Ext.trans' h S.E
 ⟨S.s,(S0.grow hE).E,(S0.grow hE).own,S0.apart,fun m hm=>by cases hm⟩
end
end Go.Sx
end
namespace Go.Proofs.YtapmgonflgahbaaGreatDoor
section
set_option maxHeartbeats 3200000
set_option maxRecDepth 100000
open Go.RowKit
variable{α:Type}{K:Nat}
def bD.LD(t:bD):Bool:=cond ((decide (12<(t.a.l1.length:Int)))||(decide (12<(t.a.l2.length:Int)))) (false) (cond ((decide (12<(t.b.l1.length:Int)))||(decide (12<(t.b.l2.length:Int)))) (false) (cond ((decide (12<(t.c.l1.length:Int)))||(decide (12<(t.c.l2.length:Int)))) (false) (cond ((decide (12<(t.d.l1.length:Int)))||(decide (12<(t.d.l2.length:Int)))) (false) (cond ((decide (12<(t.e.l1.length:Int)))||(decide (12<(t.e.l2.length:Int)))) (false) (cond ((decide (12<(t.f.l1.length:Int)))||(decide (12<(t.f.l2.length:Int)))) (false) (true))))))
theorem JE{w:World}{t:bD}(h:t.ok w) :
  Calls Tryz.prog 74 #[t.v] w fun e w'=>e = .returned (.bool t.LD)∧Ext w w':=by
 obtain⟨t0,t1,t2,t3,t4,t5⟩:=h;obtain⟨p0,c0,e0,-⟩:=t0.1;obtain⟨q0,d0,f0,-⟩:=t0.2;obtain⟨p1,c1,e1,-⟩:=t1.1;obtain⟨q1,d1,f1,-⟩:=t1.2;obtain⟨p2,c2,e2,-⟩:=t2.1;obtain⟨q2,d2,f2,-⟩:=t2.2;obtain⟨p3,c3,e3,-⟩:=t3.1;obtain⟨q3,d3,f3,-⟩:=t3.2;obtain⟨p4,c4,e4,-⟩:=t4.1;obtain⟨q4,d4,f4,-⟩:=t4.2;obtain⟨p5,c5,e5,-⟩:=t5.1;obtain⟨q5,d5,f5,-⟩:=t5.2;refine anA Tryz.func74 Tryz.ntmps74 fun ac S=>anv fun _ aS=>anw S 1 t.cells fun ac u b2 E3 hb4 S=>adr S 1 [] [(2,.z)] fun S=>anu<|aS _ _<|anv fun _ bM=>adr S 12 [.mem 0 0,.mem 0 4,.mem 0 8,.mem 0 12,.mem 0 16,.mem 0 20] [(6,t.a.v),(8,t.b.v),(10,t.c.v),(12,t.d.v),(14,t.e.v),(16,t.f.v)] fun S=>anP S 17 6 t.cells fun ac u b6 E7 hb8 S=>adr S 1 [] [(3,.slice (some ⟨b6,0,none⟩) 6 6)] fun S=>anu<|bM _ _<|anV fun _ ig=>anv fun _ eX=>adr S 1 [] [(4,.i 0)] fun S=>anu<|eX _ _<|an1<|apb 7 ?_;rw[aoj];refine anV fun _ cZ=>anv fun _ dW=>adr S 4 [] [(21,.bool true)] fun S=>anu<|dW _ _<|anH S<|anZ<|cZ _ _<|anV fun _ iH=>an1<|anv fun _ fP=>adr S 18 [.mem 0 1,.mem 0 3] [(41,.bool ((decide (12<(t.a.l1.length:Int)))||(decide (12<(t.a.l2.length:Int)))))] fun S=>anu (fP _ _ ?_);refine anx S (fun vw=>?_) (fun vw=>?_)
 ·refine anv fun _ iM=>adr S 1 [] [(2,.z)] fun S=>anu<|iM _ _<|anz S Tryz.results74 ?_;exact⟨aC (by unfold bD.LD; rw[vw]; rfl),S.E⟩
 refine anZ<|iH _ _<|an3<|adr S 3 [] [(4,.i 1)] fun S=>anu ?_;show Code.rounds _ _ _ 6 _ _;rw[aoj];refine anV fun _ gV=>anv fun _ iI=>adr S 4 [] [(21,.bool true)] fun S=>anu<|iI _ _<|anH S<|anZ<|gV _ _<|anV fun _ iU=>an1<|anv fun _ jk=>adr S 18 [.mem 0 5,.mem 0 7] [(41,.bool ((decide (12<(t.b.l1.length:Int)))||(decide (12<(t.b.l2.length:Int)))))] fun S=>anu (jk _ _ ?_);refine anx S (fun hc21=>?_) (fun hc21=>?_)
 ·refine anv fun _ jA=>adr S 1 [] [(2,.z)] fun S=>anu<|jA _ _<|anz S Tryz.results74 ?_;exact⟨aC (by unfold bD.LD; rw[vw,hc21]; rfl),S.E⟩
 refine anZ<|iU _ _<|an3<|adr S 3 [] [(4,.i 2)] fun S=>anu ?_;show Code.rounds _ _ _ 5 _ _;rw[aoj];refine anV fun _ qL=>anv fun _ jY=>adr S 4 [] [(21,.bool true)] fun S=>anu<|jY _ _<|anH S<|anZ<|qL _ _<|anV fun _ uo=>an1<|anv fun _ jf=>adr S 18 [.mem 0 9,.mem 0 11] [(41,.bool ((decide (12<(t.c.l1.length:Int)))||(decide (12<(t.c.l2.length:Int)))))] fun S=>anu (jf _ _ ?_);refine anx S (fun hc27=>?_) (fun hc27=>?_)
 ·refine anv fun _ ni=>adr S 1 [] [(2,.z)] fun S=>anu<|ni _ _<|anz S Tryz.results74 ?_;exact⟨aC (by unfold bD.LD; rw[vw,hc21,hc27]; rfl),S.E⟩
 refine anZ<|uo _ _<|an3<|adr S 3 [] [(4,.i 3)] fun S=>anu ?_;show Code.rounds _ _ _ 4 _ _;rw[aoj];refine anV fun _ oP=>anv fun _ mM=>adr S 4 [] [(21,.bool true)] fun S=>anu<|mM _ _<|anH S<|anZ<|oP _ _<|anV fun _ qg=>an1<|anv fun _ mZ=>adr S 18 [.mem 0 13,.mem 0 15] [(41,.bool ((decide (12<(t.d.l1.length:Int)))||(decide (12<(t.d.l2.length:Int)))))] fun S=>anu (mZ _ _ ?_);refine anx S (fun qY=>?_) (fun qY=>?_)
 ·refine anv fun _ oQ=>adr S 1 [] [(2,.z)] fun S=>anu<|oQ _ _<|anz S Tryz.results74 ?_;exact⟨aC (by unfold bD.LD; rw[vw,hc21,hc27,qY]; rfl),S.E⟩
 refine anZ<|qg _ _<|an3<|adr S 3 [] [(4,.i 4)] fun S=>anu ?_;show Code.rounds _ _ _ 3 _ _;rw[aoj];refine anV fun _ nZ=>anv fun _ nD=>adr S 4 [] [(21,.bool true)] fun S=>anu<|nD _ _<|anH S<|anZ<|nZ _ _<|anV fun _ qK=>an1<|anv fun _ l7=>adr S 18 [.mem 0 17,.mem 0 19] [(41,.bool ((decide (12<(t.e.l1.length:Int)))||(decide (12<(t.e.l2.length:Int)))))] fun S=>anu (l7 _ _ ?_);refine anx S (fun hc39=>?_) (fun hc39=>?_)
 ·refine anv fun _ wY=>adr S 1 [] [(2,.z)] fun S=>anu<|wY _ _<|anz S Tryz.results74 ?_;exact⟨aC (by unfold bD.LD; rw[vw,hc21,hc27,qY,hc39]; rfl),S.E⟩
 refine anZ<|qK _ _<|an3<|adr S 3 [] [(4,.i 5)] fun S=>anu ?_;show Code.rounds _ _ _ 2 _ _;rw[aoj];refine anV fun _ xk=>anv fun _ sF=>adr S 4 [] [(21,.bool true)] fun S=>anu<|sF _ _<|anH S<|anZ<|xk _ _<|anV fun _ rX=>an1<|anv fun _ zQ=>adr S 18 [.mem 0 21,.mem 0 23] [(41,.bool ((decide (12<(t.f.l1.length:Int)))||(decide (12<(t.f.l2.length:Int)))))] fun S=>anu (zQ _ _ ?_);refine anx S (fun zT=>?_) (fun zT=>?_)
 ·refine anv fun _ Ef=>adr S 1 [] [(2,.z)] fun S=>anu<|Ef _ _<|anz S Tryz.results74 ?_;exact⟨aC (by unfold bD.LD; rw[vw,hc21,hc27,qY,hc39,zT]; rfl),S.E⟩
 refine anZ<|rX _ _<|an3<|adr S 3 [] [(4,.i 6)] fun S=>anu ?_;show Code.rounds _ _ _ 1 _ _;rw[aoj];refine anV fun _ yP=>anv fun _ wF=>adr S 4 [] [(21,.z)] fun S=>anu<|wF _ _<|anM S<|aod<|ig _ _<|anv fun _ yM=>adr S 1 [] [(2,.bool true)] fun S=>anu<|yM _ _<|anz S Tryz.results74 ?_;exact⟨aC (by unfold bD.LD; rw[vw,hc21,hc27,qY,hc39,zT]; rfl),S.E⟩
theorem SV{w:World}{t:bD}(h:t.ok w) :
  Calls Tryz.prog 29 #[t.v] w fun e w'=>e = .returned (.bool t.LD)∧Ext w w':=by
 skip;refine anA Tryz.func29 Tryz.ntmps29 fun ac S=>anv fun _ aS=>anw S 1 t.cells fun ac u b2 E3 hb4 S=>adr S 1 [] [(2,.z)] fun S=>anu<|aS _ _<|anv fun _ bM=>adr S 1 [.mem 0 0] [(3,t.v)] fun S=>anE S 4 (JE (t:=t) (h.below S.E)) fun ac u E6 S=>adr S 1 [] [(2,.bool t.LD)] fun S=>anu<|bM _ _<|anz S Tryz.results29 ?_;exact⟨rfl,S.E⟩
def ak.few(p:ak):Bool:=((decide ((p.stops.length:Int)≤40))&&(decide ((p.img.l.length:Int)≤300)))&&p.t.LD
theorem Xy{w:World}{p:ak}(h:p.ok w) :
  Calls Tryz.prog 75 #[p.v] w fun e w'=>e = .returned (.bool p.few)∧Ext w w':=by
 obtain⟨r1,r2,er1⟩:=h.2.2.2.2.1.shape;obtain⟨r3,r4,er2⟩:=h.2.2.2.2.2.2.2.1.2.2.shape;refine anA Tryz.func75 Tryz.ntmps75 fun ac S=>anv fun _ aS=>anw S 1 p.cells fun ac u b2 E3 hb4 S=>adr S 1 [] [(2,.z)] fun S=>anu<|aS _ _<|anv fun _ bM=>anK S 17 [.mem 0 10,.mem 0 14,.mem 0 16] [(_,_,((decide ((p.stops.length:Int)≤40))&&(decide ((p.img.l.length:Int)≤300))),.bool p.t.LD)] [(2,.bool (((decide ((p.stops.length:Int)≤40))&&(decide ((p.img.l.length:Int)≤300)))&&p.t.LD))] ⟨fun u hC g=>JE (t:=p.t) (h.2.2.2.2.2.2.2.2.2.below (Ext.trans' S.E hC)),trivial⟩ fun ac u E6 S=>anu<|bM _ _<|anz S Tryz.results75 ?_;exact⟨rfl,S.E⟩
def jl(l:List ak):Bool:=decide (l.length≤4)&&l.all ak.few
theorem zq{w:World}{v:Value}{l:List ak}(h:jM w v l) :
  Calls Tryz.prog 30 #[v] w fun e w'=>e = .returned (.bool (jl l))∧Ext w w':=by
 obtain⟨a,cap,rfl⟩:=h.1.shape;have hmax:l.length≤9223372036854775807:=h.1.len;refine anA Tryz.func30 Tryz.ntmps30 fun ac S=>anv fun _ aS=>adr S 1 [] [(2,.z)] fun S=>anu<|aS _ _<|anV fun _ eP=>anv fun _ jv=>adr S 3 [] [(6,.bool (4<(l.length:Int)))] fun S=>anu (jv _ _ ?_);refine anx S (fun hc4=>?_) (fun hc4=>?_)
 ·refine anv fun _ bM=>adr S 1 [] [(2,.z)] fun S=>anu<|bM _ _<|anz S Tryz.results30 ?_;exact⟨aC (by unfold jl; simp[show ¬l.length≤4 from by have:=of_decide_eq_true hc4; omega]),S.E⟩
 refine anZ<|eP _ _<|anV fun _ iL=>anv fun _ iZ=>adr S 1 [] [(3,.i 0)] fun S=>anu<|iZ _ _<|an1 ?_;refine aow (ι:=Nat) (fun p a' w'=>p≤l.length∧((l.take p).all ak.few=true)∧Sx.St w a' w' 19 [(0,.slice a l.length cap),(2,.z),(3,.i p)] [] []) (fun p=>l.length-p) (0) ⟨aoa _,rfl,S.sn⟩ ?_;rintro k ac u hI;try dsimp only at hI
 obtain⟨hk,hR,S⟩:=hI;refine anV fun _ eu=>anv fun _ ig=>adr S 4 [] [(10,.bool ((k:Int)<(l.length:Int)))] fun S=>anu (ig _ _ ?_);refine anx S (fun dn=>?_) (fun dn=>?_)
 ·refine anZ<|eu _ _<|anV fun _ cZ=>an1<|anv (fun _ dW=>?_);have Eo:k<l.length:=by have:=aoe dn; omega
  obtain⟨b13,o14,rfl,x19,O6,aeU,aeV⟩:=aom h.1 (fun _=>rfl) (k) Eo;have S:=S.view0 aeU aeV;refine adr S 4 [.idx k l.length,.mem 0 0] [(16,x19.v)] (hk:=⟨Eo,trivial⟩) fun S=>anE S 17 (Xy ((h.2 _ (O6▸aot Eo)).below S.E)) fun ac u uh S=>adr S 1 [] [(18,.bool (!(x19.few)))] fun S=>anu (dW _ _ ?_);refine anx S (fun hc22=>?_) (fun hc22=>?_)
  ·refine anv fun _ qL=>adr S 1 [] [(2,.z)] fun S=>anu<|qL _ _<|anz S Tryz.results30 ?_;exact⟨aC (by unfold jl; rw[vF Eo (by rw[O6]; simpa using hc22)]; simp),S.E⟩
  refine anZ<|cZ _ _<|an3<|adr S 3 [.re 12 (.i (IntKind.i64.wrap ((k:Int)+1))) (.i (k+1:Nat))] [(3,.i (k+1:Nat))] (hk:=⟨anJ (by omega),trivial⟩) fun S=>anu ?_;show ∃i',_∧_;exact⟨(k+1),⟨by omega,(kL Eo hR (by rw[O6]; simpa using hc22)),S.sn⟩,by show _-_<_-_; omega⟩
 refine aod<|iL _ _<|anv fun _ jY=>adr S 1 [] [(2,.bool true)] fun S=>anu<|jY _ _<|anz S Tryz.results30 ?_;exact⟨aC (by unfold jl; rw[nM (by have:=aoi dn; omega) hR]; simp[show l.length≤4 from by have:=of_decide_eq_false hc4; omega]),S.E⟩
def aA.kG(nd:aA):Bool:=cond ((((decide (40<(nd.clip.length:Int)))||(decide (40<(nd.path.length:Int))))||(decide (40<(nd.style.dash.length:Int))))||(decide (300<(nd.img.l.length:Int)))) false ((nd.t.LD&&(jl nd.fill))&&(jl nd.stroke))
theorem xI{w:World}{nd:aA}(h:nd.ok w) :
  Calls Tryz.prog 10 #[nd.v] w fun e w'=>e = .returned (.bool nd.kG)∧Ext w w':=by
 obtain⟨a1,c1,ecs⟩:=h.2.2.2.2.1.1.shape;obtain⟨a2,c2,eps⟩:=h.2.2.2.2.2.2.2.1.1.shape;obtain⟨a3,c3,efs⟩:=h.2.2.2.2.2.2.2.2.2.1.1.shape;obtain⟨a4,c4,ess⟩:=h.2.2.2.2.2.2.2.2.2.2.2.1.1.shape;obtain⟨a5,c5,est,-⟩:=h.2.2.2.2.2.2.2.2.2.2.1.2.2.2.2.1;obtain⟨a6,c6,eim⟩:=h.2.2.2.2.2.2.2.2.2.2.2.2.1.2.2.shape;refine anA Tryz.func10 Tryz.ntmps10 fun ac S=>anv fun _ aS=>anw S 1 nd.cells fun ac u b2 E3 hb4 S=>adr S 1 [] [(2,.z)] fun S=>anu<|aS _ _<|anV fun _ bM=>anv fun _ iL=>adr S 24 [.mem 0 27,.mem 0 33,.mem 0 40,.mem 0 45] [(26,.bool ((((decide (40<(nd.clip.length:Int)))||(decide (40<(nd.path.length:Int))))||(decide (40<(nd.style.dash.length:Int))))||(decide (300<(nd.img.l.length:Int)))))] fun S=>anu (iL _ _ ?_);refine anx S (fun mG=>?_) (fun mG=>?_)
 ·refine anv fun _ eu=>adr S 1 [] [(2,.z)] fun S=>anu<|eu _ _<|anz S Tryz.results10 ?_;exact⟨aC (by unfold aA.kG; rw[mG]; rfl),S.E⟩
 refine anZ<|bM _ _<|anv fun _ ig=>adr S 2 [.mem 0 3] [(28,nd.t.v)] fun S=>anE S 29 (SV (t:=nd.t) (h.2.2.2.1.below S.E)) fun ac u X3 S=>anK S 11 [.mem 0 35,.mem 0 42] [(_,_,nd.t.LD,.bool (jl nd.fill)),(_,_,(nd.t.LD&&(jl nd.fill)),.bool (jl nd.stroke))] [(2,.bool ((nd.t.LD&&(jl nd.fill))&&(jl nd.stroke)))] ⟨fun u hC g=>zq (l:=nd.fill) (h.2.2.2.2.2.2.2.2.2.1.below (Ext.trans' S.E hC)),fun u hC g=>zq (l:=nd.stroke) (h.2.2.2.2.2.2.2.2.2.2.2.1.below (Ext.trans' S.E hC)),trivial⟩ fun ac u wu S=>anu<|ig _ _<|anz S Tryz.results10 ?_;exact⟨aC (by unfold aA.kG; rw[mG]; rfl),S.E⟩
def dF.few(s:dF)(n:Int):Bool:=decide ((s.ns.length:Int)≤n)&&s.ns.all aA.kG
theorem Xz{w:World}{s:dF}(h:aV 47 aA.cells w s.s s.ns∧∀n∈s.ns,n.ok w)(n:Int) :
  Calls Tryz.prog 9 #[s.v,.i n] w fun e w'=>e = .returned (.bool (s.few n))∧Ext w w':=by
 have hmax:s.ns.length≤9223372036854775807:=h.1.len;refine anA Tryz.func9 Tryz.ntmps9 (fun ac S=>?_);obtain⟨a,cap,es⟩:∃a c,s.s = .slice a s.ns.length c:=⟨_,_,rfl⟩;have hr:=h.1;rw[es]at hr;refine anv fun _ aS=>anw S 2 s.cells fun ac u b2 E3 hb4 S=>adr S 1 [] [(4,.z)] fun S=>anu<|aS _ _<|anV fun _ bM=>anv fun _ iL=>adr S 5 [.mem 0 6,.re 7 s.s (.slice a s.ns.length cap)] [(10,.bool (n<(s.ns.length:Int)))] (hk:=⟨es,trivial⟩) fun S=>anu (iL _ _ ?_);refine anx S (fun mG=>?_) (fun mG=>?_)
 ·refine anv fun _ eu=>adr S 1 [] [(4,.z)] fun S=>anu<|eu _ _<|anz S Tryz.results9 ?_;exact⟨aC (by unfold dF.few; simp[show ¬((s.ns.length:Int)≤n)from by have:=of_decide_eq_true mG; omega]),S.E⟩
 refine anZ<|bM _ _<|anV fun _ ig=>anv fun _ eX=>adr S 1 [] [(5,.i 0)] fun S=>anu<|eX _ _<|an1 ?_;refine aow (ι:=Nat) (fun p a' w'=>p≤s.ns.length∧((s.ns.take p).all aA.kG=true)∧Sx.St w a' w' 25 [(0,s.v),(1,.i n),(2,.q b2 0),(4,.z),(5,.i p)] [(b2,s.cells)] []) (fun p=>s.ns.length-p) (0) ⟨aoa _,rfl,S.sn⟩ ?_;rintro k ac u hI;try dsimp only at hI
 obtain⟨hk,hR,S⟩:=hI;refine anV fun _ cZ=>anv fun _ dW=>adr S 5 [.mem 0 6,.re 13 s.s (.slice a s.ns.length cap)] [(15,.bool ((k:Int)<(s.ns.length:Int)))] (hk:=⟨es,trivial⟩) fun S=>anu (dW _ _ ?_);refine anx S (fun hc13=>?_) (fun hc13=>?_)
 ·refine anZ<|cZ _ _<|anV fun _ fP=>an1<|anv (fun _ gQ=>?_);have yQ:k<s.ns.length:=by have:=aoe hc13; omega
  obtain⟨b16,o17,rfl,x22,OD,Ou,aad⟩:=aom hr (fun _=>rfl) (k) yQ;have S:=S.view0 Ou aad;refine adr S 5 [.mem 0 6,.re 19 s.s (.slice (some ⟨b16,o17,none⟩) s.ns.length cap),.idx k s.ns.length,.mem 1 0] [(22,x22.v)] (hk:=⟨es,yQ,trivial⟩) fun S=>anE S 23 (xI ((h.2 _ (OD▸aot yQ)).below S.E)) fun ac u MQ S=>adr S 1 [] [(24,.bool (!x22.kG))] fun S=>anu (gQ _ _ ?_);refine anx S (fun hc25=>?_) (fun hc25=>?_)
  ·refine anv fun _ jf=>adr S 1 [] [(4,.z)] fun S=>anu<|jf _ _<|anz S Tryz.results9 ?_;exact⟨aC (by unfold dF.few; rw[vF yQ (by rw[OD]; simpa using hc25)]; simp),S.E⟩
  refine anZ<|fP _ _<|an3<|adr S 3 [.re 17 (.i (IntKind.i64.wrap ((k:Int)+1))) (.i (k+1:Nat))] [(5,.i (k+1:Nat))] (hk:=⟨anJ (by omega),trivial⟩) fun S=>anu ?_;show ∃i',_∧_;exact⟨(k+1),⟨by omega,(kL yQ hR (by rw[OD]; simpa using hc25)),S.sn⟩,by show _-_<_-_; omega⟩
 refine aod<|ig _ _<|anv fun _ jX=>adr S 1 [] [(4,.bool true)] fun S=>anu<|jX _ _<|anz S Tryz.results9 ?_;exact⟨aC (by unfold dF.few; rw[nM (by have:=aoi hc13; omega) hR]; simp[show((s.ns.length:Int)≤n)from by have:=of_decide_eq_false mG; omega]),S.E⟩
theorem vU:∀{a b:Bool},cond a false b=true→a=false∧b=true:=by decide
theorem U9{t:bD}(h:t.fit 20):t.lim:=⟨h.1.mono (by decide),h.2.1.mono (by decide),h.2.2.1.mono (by decide),h.2.2.2.1.mono (by decide),h.2.2.2.2.1.mono (by decide),h.2.2.2.2.2.mono (by decide)⟩
theorem Dh{r:dH}(h:((decide (12<(r.l1.length:Int)))||(decide (12<(r.l2.length:Int))))=false):r.fit 20:=by
 simp only[aoP,ao3]at h;exact⟨by omega,by omega⟩
theorem bD.Va{t:bD}(h:t.LD=true):t.fit 20:=by
 unfold bD.LD at h;obtain⟨h0,h⟩:=vU h;obtain⟨h1,h⟩:=vU h;obtain⟨h2,h⟩:=vU h;obtain⟨h3,h⟩:=vU h;obtain⟨h4,h⟩:=vU h;obtain⟨h5,h⟩:=vU h;exact⟨Dh h0,Dh h1,Dh h2,Dh h3,Dh h4,Dh h5⟩
theorem JF{p:ak}(h:p.few=true):p.t.fit 20∧p.lim:=by
 unfold ak.few at h;simp only[aoq,aov]at h;have:=bD.Va h.2;exact⟨this,by omega,by omega,U9 this⟩
theorem He{l:List ak}(h:jl l=true):(∀p∈l,p.t.fit 20)∧l.length≤10000000∧∀p∈l,p.lim:=by
 unfold jl at h;simp only[aoq,aov,aoA]at h;exact⟨fun p hp=>(JF (h.2 p hp)).1,by omega,fun p hp=>(JF (h.2 p hp)).2⟩
theorem vV{w:World}{nd:aA}(h:nd.kG=true)(ho:nd.ok w):fG 20 w nd∧nd.lim:=by
 unfold aA.kG at h;obtain⟨h1,h2⟩:=vU h;simp only[aoP,ao3]at h1;simp only[aoq]at h2;have hf:=He h2.1.2;have hs:=He h2.2;have ht:=bD.Va h2.1.1;exact⟨⟨ho,ht,hf.1,hs.1,by decide,by decide⟩,U9 ht,by omega,by omega,hf.2.1,hf.2.2,by omega,hs.2.1,hs.2.2,by omega⟩
theorem aaP{w:World}{s:dF}{n:Int}(h:s.few n=true)(hw:I64 s.w)(hh:I64 s.h)(ho:aV 47 aA.cells w s.s s.ns∧∀n∈s.ns,n.ok w):kW 20 w s∧(∀n∈s.ns,n.lim)∧(s.ns.length:Int)≤n:=by
 unfold dF.few at h;simp only[aoq,aov,aoA]at h;exact⟨⟨hw,hh,ho.1,fun n hn=>(vV (h.2 n hn) (ho.2 n hn)).1⟩,fun n hn=>(vV (h.2 n hn) (ho.2 n hn)).2,h.1⟩
end
section
open Go.RowKit
variable{α:Type}{K:Nat}
theorem BD{f:FuncId}{args:Array Value}{w:World}{v v':Value}(h:Calls Tryz.prog f args w fun e w'=>e = .returned v∧Ext w w')(hv:v=v'):Calls Tryz.prog f args w fun e w'=>e = .returned v'∧Ext w w':=hv▸h
end
end Go.Proofs.YtapmgonflgahbaaGreatDoor
theorem anG:type_of% @Go.Sx.dv:=@Go.Sx.dv
