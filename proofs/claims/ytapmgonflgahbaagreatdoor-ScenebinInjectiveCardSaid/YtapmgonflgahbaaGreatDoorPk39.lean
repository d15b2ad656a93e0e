/- A region that draws its order, all of its operations by -/
import Derived.Test.YtapmgonflgahbaaGreatDoorPk31
set_option linter.unusedVariables false
section
namespace Go.Sx
open Go.Proofs.YtapmgonflgahbaaGreatDoor Go.RowKit Go.Rel
variable{P:Program}{Q:Exit→Act→World→Prop}{w0 w:World}{a:Act}{os:List Oper}{n:Nat}{l:List (Nat×Value)}{bl:List (Nat×List Value)}{vs:List fG}{o:Oper}{ρ:Operand→Value}
def KnL(ρ:Operand→Value):List (Nat×Value)→Prop
 | []=>True
 | p::r=>ρ (.tmp p.1)=p.2∧KnL ρ r
theorem KnL.look{ρ:Operand→Value}:∀{l:List (Nat×Value)},KnL ρ l→∀q v,l.lookup q=some v→ρ (.tmp q)=v
 | [],_,q,v,h=>by simp at h
 | p::r,hk,q,v,h=>by
  rw[aiT]at h
  split at h
  ·rename_i hq
   obtain rfl:q=p.1:=by simpa using hq
   rw[←aik h]; exact hk.1
  ·exact hk.2.look q v h
theorem dv(hs:Std ρ)(l:List (Nat×Value)){V:Value}(hl:KnL ρ l)(hx:evV P o l=some V:=by kernel_rfl)(hd:o.dst.isSome=true:=by rfl):Does P o ρ w (fun v w'=>Ext w w'∧Rel.is V (kept o v) w'):=
 YZ (os:=[o]) (i:=0) rfl hs l hl.look V ⟨Ext.rfl',by obtain⟨d,hd⟩:=aja.1 hd; unfold kept; rw[hd]; rfl⟩ hx
def evC(P:Program)(o:Oper)(l:List (Nat×Value)):Option (FuncId×Array Value):=match uU o.op || !o.op.operands.all (fun x=>(rd (lift l) [] x).isSome),gJ (ev0 P (execOp (vZ (lift l) []) o))with
 | false,some (.enter f args)=>some (f,args)
 | _,_=>none
theorem dc(hs:Std ρ)(l:List (Nat×Value)){T:Fact}{f:FuncId}{args:Array Value}(hl:KnL ρ l)(hc:Calls P f args w (fun e w''=>∃v,e = .returned v∧Ext w w''∧T v w''))(hx:evC P o l=some (f,args):=by kernel_rfl)(hd:o.dst.isSome=true:=by rfl) :
  Does P o ρ w (fun v w'=>Ext w w'∧T (kept o v) w'):=by
 unfold evC at hx;split at hx
 ·rename_i f' args' hav hev;simp only[ah8,aie]at hx;obtain⟨rfl,rfl⟩:=hx;simp only[aiX]at hav;have hH:Holds ρ (lift l):=fun q x hq=>by
   rw[iU]at hq;cases h2:l.lookup q with
   | none=>simp[h2]at hq
   | some u =>
    simp only[h2,aiY,ah8]at hq;subst hq;rw[hl.look q u h2]; rfl
  have hrun:(execOp ρ o).run P w = .ok (.enter f' args') w:=mO hs (iR hH o) (p:=[]) rfl hav.1 (by simpa using hav.2) hev;refine yH hrun (hc.mono fun e w'' h=>?_);obtain⟨v,h1,h2,h3⟩:=h;obtain⟨d,hd⟩:=aja.1 hd;exact⟨v,h1,h2,by unfold kept; rw[hd]; exact h3⟩
 cases hx
def cvB(P:Program)(o:Oper):Option Nat:=match o.op with
 | .convert s t (.tmp x)=>(match P.underlying s,P.underlying t with
  | some (.slice e),some .string=>(match P.underlying e with
   | some (.int .u8)=>some x
   | _=>none)
  | _,_=>none)
 | _=>none
theorem Qx{x:Nat}{v:Value}{bs:List UInt8}(hx:ρ (.tmp x)=v)(hv:bH w v bs)(hc:cvB P o=some x:=by kernel_rfl)(hd:o.dst.isSome=true:=by rfl):Does P o ρ w (fun v w'=>Ext w w'∧Rel.is (.string ⟨bs.toArray⟩) (kept o v) w'):=by
 unfold cvB at hc;split at hc
 ·rename_i s t x' hop;split at hc
  ·rename_i e hs ht;split at hc
   ·rename_i he;obtain rfl:=aik hc;have hr:=nS (P:=P) hs he ht hv;have hrun:(execOp ρ o).run P w = .ok (.value (.string ⟨bs.toArray⟩)) w:=by
     unfold execOp;rw[hop];simp only[hx];rw[aiU,hr];rfl
    unfold Does;rw[hrun];exact⟨Ext.rfl',by obtain⟨d,hd⟩:=aja.1 hd; unfold kept; rw[hd]; rfl⟩
   cases hc
  cases hc
 cases hc
theorem dvb(hs:Std ρ)(l:List (Nat×Value))(c:Bool){B:Bool}(hl:KnL ρ l)(hc:c=B)(hx:evV P o l=some (.bool c):=by kernel_rfl)(hd:o.dst.isSome=true:=by rfl):Does P o ρ w (fun v w'=>Ext w w'∧Rel.is (.bool B) (kept o v) w'):=by
 subst hc; exact dv hs l hl hx hd
theorem Qw{t b off:Nat}{ty:TypeId}{cs:List Value}{V:Value}(hx:ρ (.tmp t) = .q b off)(hr:w.rangeAt b off cs)(ho:o.op = .load ty (.tmp t):=by rfl)(hl:OX P ty cs=some V:=by kernel_rfl)(hd:o.dst.isSome=true:=by rfl) :
  Does P o ρ w (fun v w'=>Ext w w'∧Rel.is V (kept o v) w'):=by
 have h1:=Gy hl hr;have hrun:(execOp ρ o).run P w = .ok (.value V) w:=by
  unfold execOp;rw[ho];simp only[hx,aiU,h1];rfl
 unfold Does;rw[hrun];exact⟨Ext.rfl',by obtain⟨d,hd⟩:=aja.1 hd; unfold kept; rw[hd]; rfl⟩
theorem abo{t r:TypeId}{x y:Nat}{l m:List UInt8}{B:Bool}(hx:ρ (.tmp x) = .string ⟨l.toArray⟩)(hy:ρ (.tmp y) = .string ⟨m.toArray⟩)(hV:(l==m)=B)(ho:o.op = .binOp .eql t (.tmp x) (.tmp y) r:=by rfl)(hd:o.dst.isSome=true:=by rfl) :
  Does P o ρ w (fun v w'=>Ext w w'∧Rel.is (.bool B) (kept o v) w'):=by
 have hrun:(execOp ρ o).run P w = .ok (.value (.bool (l==m))) w:=by
  unfold execOp;rw[ho];simp only[hx,hy];have hg:(eqGuard .eql t (.tmp x) (.tmp y) (.string ⟨l.toArray⟩) (.string ⟨m.toArray⟩)).run P w = .ok () w:=rfl;have hb:(binOp .eql t (.string ⟨l.toArray⟩) (.string ⟨m.toArray⟩)).run P w = .ok (.bool (l==m)) w:=by
   rw[binOp_string_eql,ByteArray.toList_eq,ByteArray.toList_eq]; rfl
  simp only[aiU,hg,hb,aj0];rfl
 unfold Does;rw[hrun];exact⟨Ext.rfl',by obtain⟨d,hd⟩:=aja.1 hd; unfold kept; rw[hd,hV]; rfl⟩
theorem pI{q:Nat→Bool}{i:Nat}{v:Value}:∀{l:List (Nat×Value)},(l.filter fun p=>q p.1).lookup i=some v→q i=true∧l.lookup i=some v
 | [],h=>by simp at h
 | (x,u)::l,h=>by
  by_cases hp:q x=true
  ·rw[List.filter_cons_of_pos (by exact hp)]at h
   by_cases e:i=x
   ·subst e
    simp only[aiT,ajT]at h ⊢
    exact⟨hp,h⟩
   ·have e2:(i==x)=false:=by simpa using e
    simp only[aiT,e2]at h ⊢
    exact pI h
  ·rw[List.filter_cons_of_neg (by exact hp)]at h
   obtain⟨h1,h2⟩:=pI h
   refine⟨h1,?_⟩
   have e2:(i==x)=false:=by simp; intro e; subst e; exact hp h1
   simp only[aiT,e2]
   exact h2
theorem UM(S:St w0 a w n l bl vs){id:Nat}(m:Nat)(Ts:List Fact)(j d:Nat)(V:Value)(hm:Rel.zi Ext Ts)(hob:Go.Rel.mP P os.toArray (os.take m) Ts Ext (Ext w) a.eval (os.take m) Ts)
  (next:∀a' w',Ext w w'→St w0 a' w' n ((d,V)::l.filter fun p=>os.all fun o => !(o.dst==some p.1)) bl vs→wpList P os.toArray Q [] a' w') (hV:Ts[j]?=some (Rel.is V)) (hj:((os[j]?).bind (·.dst)==some d&&os.length==m&&decide (j<m))=true:=by kernel_rfl)
  (hmo:P.follows .mixedOrders=true:=by kernel_rfl) (hB:okB os.toArray m n=true:=by kernel_rfl):(Code.region id os.toArray true).wp P Q a w:=by
 simp only[aiq,aiv,aiz]at hj;obtain⟨⟨h1,rfl⟩,h3⟩:=hj;obtain⟨hlen,hget⟩:=Go.Rel.jI _ _ hob;refine wp_region_any hmo (Cj (R:=Ext) (C:=Ext w) os.length [] (by rw[S.s.size]; exact hB) Ts zV (below_drewN (ais _ _) 1) (fun _ _ h k=>Ext.trans' h k) (fun T hT v w1 w2 hR h=>Rel.zi.mem hm T hT v w1 w2 hR h)
  (fun i o hi ho=>hget i o (by rw[List.getElem?_take_of_lt hi]; exact ho)) fun a' w' hE hd hs hf hout _=>?_)
 have ho:∃o,os[j]?=some o∧o.dst=some d:=by
  cases h:os[j]? with
  | none=>rw[h]at h1; cases h1
  | some o=>rw[h]at h1; exact⟨o,rfl,h1⟩
 obtain⟨o,ho,hdo⟩:=ho;have hf1:=hf j o (by rw[List.getElem?_take_of_lt h3]; exact ho);have e1:Ts.getD j top=Rel.is V:=by simp[List.getD,hV]
 rw[e1,hdo]at hf1;have hf2:a'.eval (.tmp d)=V:=hf1;rw[List.drop_length];refine next a' w' hE ((S.grow hE).act ⟨hs.trans S.s.size,hd.trans S.s.defers,fun i v hi=>?_⟩);rw[aiT]at hi;split at hi
 ·rename_i hi2;obtain rfl:i=d:=by simpa using hi2
  rw[←aik hi]; exact hf2
 obtain⟨hq,hi⟩:=pI (q:=fun x=>os.all fun o => !(o.dst==some x)) hi;exact(hout i (by rw[ai1]; exact hq)).trans (S.s.has i v hi)
end Go.Sx
end
section
set_option maxHeartbeats 3200000
set_option maxRecDepth 100000
namespace Go.Proofs.YtapmgonflgahbaaGreatDoor
open Go.RowKit
variable{α:Type}{K:Nat}
def bn.Gz(t:bn):Bool:=cond ((decide (12<(t.a.l1.length:Int)))||(decide (12<(t.a.l2.length:Int)))) (false) (cond ((decide (12<(t.b.l1.length:Int)))||(decide (12<(t.b.l2.length:Int)))) (false) (cond ((decide (12<(t.c.l1.length:Int)))||(decide (12<(t.c.l2.length:Int)))) (false) (cond ((decide (12<(t.d.l1.length:Int)))||(decide (12<(t.d.l2.length:Int)))) (false) (cond ((decide (12<(t.e.l1.length:Int)))||(decide (12<(t.e.l2.length:Int)))) (false) (cond ((decide (12<(t.f.l1.length:Int)))||(decide (12<(t.f.l2.length:Int)))) (false) (true))))))
theorem EJ{w:World}{t:bn}(h:t.ok w) :
  Calls Tryz.prog 74 #[t.v] w fun e w'=>e = .returned (.bool t.Gz)∧Ext w w':=by
 obtain⟨t0,t1,t2,t3,t4,t5⟩:=h;obtain⟨p0,c0,e0,-⟩:=t0.1;obtain⟨q0,d0,f0,-⟩:=t0.2;obtain⟨p1,c1,e1,-⟩:=t1.1;obtain⟨q1,d1,f1,-⟩:=t1.2;obtain⟨p2,c2,e2,-⟩:=t2.1;obtain⟨q2,d2,f2,-⟩:=t2.2;obtain⟨p3,c3,e3,-⟩:=t3.1;obtain⟨q3,d3,f3,-⟩:=t3.2;obtain⟨p4,c4,e4,-⟩:=t4.1;obtain⟨q4,d4,f4,-⟩:=t4.2;obtain⟨p5,c5,e5,-⟩:=t5.1;obtain⟨q5,d5,f5,-⟩:=t5.2;refine ahO Tryz.func74 Tryz.ntmps74 fun ac S=>ahK fun _ aY=>ahL S 1 t.cells fun ac u b2 E3 hb4 S=>adr S 1 [] [(2,.z)] fun S=>ahJ<|aY _ _<|ahK fun _ dw=>adr S 12 [.mem 0 0,.mem 0 4,.mem 0 8,.mem 0 12,.mem 0 16,.mem 0 20] [(6,t.a.v),(8,t.b.v),(10,t.c.v),(12,t.d.v),(14,t.e.v),(16,t.f.v)] fun S=>ah6 S 17 6 t.cells fun ac u b6 E7 hb8 S=>adr S 1 [] [(3,.slice (some ⟨b6,0,none⟩) 6 6)] fun S=>ahJ<|dw _ _<|ah2 fun _ iD=>ahK fun _ gu=>adr S 1 [] [(4,.i 0)] fun S=>ahJ<|gu _ _<|ah5<|ajo 7 ?_;rw[aio];refine ah2 fun _ dO=>ahK fun _ fD=>adr S 4 [] [(21,.bool true)] fun S=>ahJ<|fD _ _<|ahV S<|ah4<|dO _ _<|ah2 fun _ iI=>ah5<|ahK fun _ gU=>adr S 18 [.mem 0 1,.mem 0 3] [(41,.bool ((decide (12<(t.a.l1.length:Int)))||(decide (12<(t.a.l2.length:Int)))))] fun S=>ahJ (gU _ _ ?_);refine ahN S (fun uM=>?_) (fun uM=>?_)
 ·refine ahK fun _ jQ=>adr S 1 [] [(2,.z)] fun S=>ahJ<|jQ _ _<|ahM S Tryz.results74 ?_;exact⟨aH (by unfold bn.Gz; rw[uM]; rfl),S.E⟩
 refine ah4<|iI _ _<|aia<|adr S 3 [] [(4,.i 1)] fun S=>ahJ ?_;show Code.rounds _ _ _ 6 _ _;rw[aio];refine ah2 fun _ iq=>ahK fun _ jy=>adr S 4 [] [(21,.bool true)] fun S=>ahJ<|jy _ _<|ahV S<|ah4<|iq _ _<|ah2 fun _ kX=>ah5<|ahK fun _ kP=>adr S 18 [.mem 0 5,.mem 0 7] [(41,.bool ((decide (12<(t.b.l1.length:Int)))||(decide (12<(t.b.l2.length:Int)))))] fun S=>ahJ (kP _ _ ?_);refine ahN S (fun hc21=>?_) (fun hc21=>?_)
 ·refine ahK fun _ kW=>adr S 1 [] [(2,.z)] fun S=>ahJ<|kW _ _<|ahM S Tryz.results74 ?_;exact⟨aH (by unfold bn.Gz; rw[uM,hc21]; rfl),S.E⟩
 refine ah4<|kX _ _<|aia<|adr S 3 [] [(4,.i 2)] fun S=>ahJ ?_;show Code.rounds _ _ _ 5 _ _;rw[aio];refine ah2 fun _ pR=>ahK fun _ rX=>adr S 4 [] [(21,.bool true)] fun S=>ahJ<|rX _ _<|ahV S<|ah4<|pR _ _<|ah2 fun _ vI=>ah5<|ahK fun _ jA=>adr S 18 [.mem 0 9,.mem 0 11] [(41,.bool ((decide (12<(t.c.l1.length:Int)))||(decide (12<(t.c.l2.length:Int)))))] fun S=>ahJ (jA _ _ ?_);refine ahN S (fun hc27=>?_) (fun hc27=>?_)
 ·refine ahK fun _ pO=>adr S 1 [] [(2,.z)] fun S=>ahJ<|pO _ _<|ahM S Tryz.results74 ?_;exact⟨aH (by unfold bn.Gz; rw[uM,hc21,hc27]; rfl),S.E⟩
 refine ah4<|vI _ _<|aia<|adr S 3 [] [(4,.i 3)] fun S=>ahJ ?_;show Code.rounds _ _ _ 4 _ _;rw[aio];refine ah2 fun _ uJ=>ahK fun _ oJ=>adr S 4 [] [(21,.bool true)] fun S=>ahJ<|oJ _ _<|ahV S<|ah4<|uJ _ _<|ah2 fun _ qj=>ah5<|ahK fun _ mG=>adr S 18 [.mem 0 13,.mem 0 15] [(41,.bool ((decide (12<(t.d.l1.length:Int)))||(decide (12<(t.d.l2.length:Int)))))] fun S=>ahJ (mG _ _ ?_);refine ahN S (fun DK=>?_) (fun DK=>?_)
 ·refine ahK fun _ qE=>adr S 1 [] [(2,.z)] fun S=>ahJ<|qE _ _<|ahM S Tryz.results74 ?_;exact⟨aH (by unfold bn.Gz; rw[uM,hc21,hc27,DK]; rfl),S.E⟩
 refine ah4<|qj _ _<|aia<|adr S 3 [] [(4,.i 4)] fun S=>ahJ ?_;show Code.rounds _ _ _ 3 _ _;rw[aio];refine ah2 fun _ qF=>ahK fun _ mY=>adr S 4 [] [(21,.bool true)] fun S=>ahJ<|mY _ _<|ahV S<|ah4<|qF _ _<|ah2 fun _ mD=>ah5<|ahK fun _ lq=>adr S 18 [.mem 0 17,.mem 0 19] [(41,.bool ((decide (12<(t.e.l1.length:Int)))||(decide (12<(t.e.l2.length:Int)))))] fun S=>ahJ (lq _ _ ?_);refine ahN S (fun hc39=>?_) (fun hc39=>?_)
 ·refine ahK fun _ xX=>adr S 1 [] [(2,.z)] fun S=>ahJ<|xX _ _<|ahM S Tryz.results74 ?_;exact⟨aH (by unfold bn.Gz; rw[uM,hc21,hc27,DK,hc39]; rfl),S.E⟩
 refine ah4<|mD _ _<|aia<|adr S 3 [] [(4,.i 5)] fun S=>ahJ ?_;show Code.rounds _ _ _ 2 _ _;rw[aio];refine ah2 fun _ Ac=>ahK fun _ vC=>adr S 4 [] [(21,.bool true)] fun S=>ahJ<|vC _ _<|ahV S<|ah4<|Ac _ _<|ah2 fun _ vF=>ah5<|ahK fun _ Gi=>adr S 18 [.mem 0 21,.mem 0 23] [(41,.bool ((decide (12<(t.f.l1.length:Int)))||(decide (12<(t.f.l2.length:Int)))))] fun S=>ahJ (Gi _ _ ?_);refine ahN S (fun Dv=>?_) (fun Dv=>?_)
 ·refine ahK fun _ zB=>adr S 1 [] [(2,.z)] fun S=>ahJ<|zB _ _<|ahM S Tryz.results74 ?_;exact⟨aH (by unfold bn.Gz; rw[uM,hc21,hc27,DK,hc39,Dv]; rfl),S.E⟩
 refine ah4<|vF _ _<|aia<|adr S 3 [] [(4,.i 6)] fun S=>ahJ ?_;show Code.rounds _ _ _ 1 _ _;rw[aio];refine ah2 fun _ Hu=>ahK fun _ zC=>adr S 4 [] [(21,.z)] fun S=>ahJ<|zC _ _<|ahX S<|ail<|iD _ _<|ahK fun _ Af=>adr S 1 [] [(2,.bool true)] fun S=>ahJ<|Af _ _<|ahM S Tryz.results74 ?_;exact⟨aH (by unfold bn.Gz; rw[uM,hc21,hc27,DK,hc39,Dv]; rfl),S.E⟩
theorem MS{w:World}{t:bn}(h:t.ok w) :
  Calls Tryz.prog 29 #[t.v] w fun e w'=>e = .returned (.bool t.Gz)∧Ext w w':=by
 skip;refine ahO Tryz.func29 Tryz.ntmps29 fun ac S=>ahK fun _ aY=>ahL S 1 t.cells fun ac u b2 E3 hb4 S=>adr S 1 [] [(2,.z)] fun S=>ahJ<|aY _ _<|ahK fun _ dw=>adr S 1 [.mem 0 0] [(3,t.v)] fun S=>ahS S 4 (EJ (t:=t) (h.below S.E)) fun ac u E6 S=>adr S 1 [] [(2,.bool t.Gz)] fun S=>ahJ<|dw _ _<|ahM S Tryz.results29 ?_;exact⟨rfl,S.E⟩
def au.few(p:au):Bool:=((decide ((p.stops.length:Int)≤40))&&(decide ((p.img.l.length:Int)≤300)))&&p.t.Gz
theorem RJ{w:World}{p:au}(h:p.ok w) :
  Calls Tryz.prog 75 #[p.v] w fun e w'=>e = .returned (.bool p.few)∧Ext w w':=by
 obtain⟨r1,r2,er1⟩:=h.2.2.2.2.1.shape;obtain⟨r3,r4,er2⟩:=h.2.2.2.2.2.2.2.1.2.2.shape;refine ahO Tryz.func75 Tryz.ntmps75 fun ac S=>ahK fun _ aY=>ahL S 1 p.cells fun ac u b2 E3 hb4 S=>adr S 1 [] [(2,.z)] fun S=>ahJ<|aY _ _<|ahK fun _ dw=>Sx.nV S 17 [.mem 0 10,.mem 0 14,.mem 0 16] [(_,_,((decide ((p.stops.length:Int)≤40))&&(decide ((p.img.l.length:Int)≤300))),.bool p.t.Gz)] [(2,.bool (((decide ((p.stops.length:Int)≤40))&&(decide ((p.img.l.length:Int)≤300)))&&p.t.Gz))] ⟨fun u hC g=>EJ (t:=p.t) (h.2.2.2.2.2.2.2.2.2.below (Ext.trans' S.E hC)),trivial⟩ fun ac u E6 S=>ahJ<|dw _ _<|ahM S Tryz.results75 ?_;exact⟨rfl,S.E⟩
def gG(l:List au):Bool:=decide (l.length≤4)&&l.all au.few
theorem vg{w:World}{v:Value}{l:List au}(h:jf w v l) :
  Calls Tryz.prog 30 #[v] w fun e w'=>e = .returned (.bool (gG l))∧Ext w w':=by
 obtain⟨a,cap,rfl⟩:=h.1.shape;have hmax:l.length≤9223372036854775807:=h.1.len;refine ahO Tryz.func30 Tryz.ntmps30 fun ac S=>ahK fun _ aY=>adr S 1 [] [(2,.z)] fun S=>ahJ<|aY _ _<|ah2 fun _ fA=>ahK fun _ jw=>adr S 3 [] [(6,.bool (4<(l.length:Int)))] fun S=>ahJ (jw _ _ ?_);refine ahN S (fun hc4=>?_) (fun hc4=>?_)
 ·refine ahK fun _ dw=>adr S 1 [] [(2,.z)] fun S=>ahJ<|dw _ _<|ahM S Tryz.results30 ?_;exact⟨aH (by unfold gG; simp[show ¬l.length≤4 from by have:=of_decide_eq_true hc4; omega]),S.E⟩
 refine ah4<|fA _ _<|ah2 fun _ iT=>ahK fun _ iL=>adr S 1 [] [(3,.i 0)] fun S=>ahJ<|iL _ _<|ah5 ?_;refine aiM (ι:=Nat) (fun p a' w'=>p≤l.length∧((l.take p).all au.few=true)∧Sx.St w a' w' 19 [(0,.slice a l.length cap),(2,.z),(3,.i p)] [] []) (fun p=>l.length-p) (0) ⟨aij _,rfl,S.sn⟩ ?_;rintro k ac u hI;try dsimp only at hI
 obtain⟨hk,hR,S⟩:=hI;refine ah2 fun _ dR=>ahK fun _ iD=>adr S 4 [] [(10,.bool ((k:Int)<(l.length:Int)))] fun S=>ahJ (iD _ _ ?_);refine ahN S (fun dG=>?_) (fun dG=>?_)
 ·refine ah4<|dR _ _<|ah2 fun _ dO=>ah5<|ahK (fun _ fD=>?_);have zJ:k<l.length:=by have:=ain dG; omega
  obtain⟨b13,o14,rfl,x19,Jl,VH,abL⟩:=aiy h.1 (fun _=>rfl) (k) zJ;have S:=S.view0 VH abL;refine adr S 4 [.idx k l.length,.mem 0 0] [(16,x19.v)] (hk:=⟨zJ,trivial⟩) fun S=>ahS S 17 (RJ ((h.2 _ (Jl▸aiD zJ)).below S.E)) fun ac u sF S=>adr S 1 [] [(18,.bool (!(x19.few)))] fun S=>ahJ (fD _ _ ?_);refine ahN S (fun hc22=>?_) (fun hc22=>?_)
  ·refine ahK fun _ pR=>adr S 1 [] [(2,.z)] fun S=>ahJ<|pR _ _<|ahM S Tryz.results30 ?_;exact⟨aH (by unfold gG; rw[wU zJ (by rw[Jl]; simpa using hc22)]; simp),S.E⟩
  refine ah4<|dO _ _<|aia<|adr S 3 [.re 12 (.i (IntKind.i64.wrap ((k:Int)+1))) (.i (k+1:Nat))] [(3,.i (k+1:Nat))] (hk:=⟨ahY (by omega),trivial⟩) fun S=>ahJ ?_;show ∃i',_∧_;exact⟨(k+1),⟨by omega,(lM zJ hR (by rw[Jl]; simpa using hc22)),S.sn⟩,by show _-_<_-_; omega⟩
 refine ail<|iT _ _<|ahK fun _ rX=>adr S 1 [] [(2,.bool true)] fun S=>ahJ<|rX _ _<|ahM S Tryz.results30 ?_;exact⟨aH (by unfold gG; rw[oW (by have:=aiu dG; omega) hR]; simp[show l.length≤4 from by have:=of_decide_eq_false hc4; omega]),S.E⟩
def aA.iZ(nd:aA):Bool:=cond ((((decide (40<(nd.clip.length:Int)))||(decide (40<(nd.path.length:Int))))||(decide (40<(nd.style.dash.length:Int))))||(decide (300<(nd.img.l.length:Int)))) false ((nd.t.Gz&&(gG nd.fill))&&(gG nd.stroke))
theorem sJ{w:World}{nd:aA}(h:nd.ok w) :
  Calls Tryz.prog 10 #[nd.v] w fun e w'=>e = .returned (.bool nd.iZ)∧Ext w w':=by
 obtain⟨a1,c1,ecs⟩:=h.2.2.2.2.1.1.shape;obtain⟨a2,c2,eps⟩:=h.2.2.2.2.2.2.2.1.1.shape;obtain⟨a3,c3,efs⟩:=h.2.2.2.2.2.2.2.2.2.1.1.shape;obtain⟨a4,c4,ess⟩:=h.2.2.2.2.2.2.2.2.2.2.2.1.1.shape;obtain⟨a5,c5,est,-⟩:=h.2.2.2.2.2.2.2.2.2.2.1.2.2.2.2.1;obtain⟨a6,c6,eim⟩:=h.2.2.2.2.2.2.2.2.2.2.2.2.1.2.2.shape;refine ahO Tryz.func10 Tryz.ntmps10 fun ac S=>ahK fun _ aY=>ahL S 1 nd.cells fun ac u b2 E3 hb4 S=>adr S 1 [] [(2,.z)] fun S=>ahJ<|aY _ _<|ah2 fun _ dw=>ahK fun _ iT=>adr S 24 [.mem 0 27,.mem 0 33,.mem 0 40,.mem 0 45] [(26,.bool ((((decide (40<(nd.clip.length:Int)))||(decide (40<(nd.path.length:Int))))||(decide (40<(nd.style.dash.length:Int))))||(decide (300<(nd.img.l.length:Int)))))] fun S=>ahJ (iT _ _ ?_);refine ahN S (fun vT=>?_) (fun vT=>?_)
 ·refine ahK fun _ dR=>adr S 1 [] [(2,.z)] fun S=>ahJ<|dR _ _<|ahM S Tryz.results10 ?_;exact⟨aH (by unfold aA.iZ; rw[vT]; rfl),S.E⟩
 refine ah4<|dw _ _<|ahK fun _ iD=>adr S 2 [.mem 0 3] [(28,nd.t.v)] fun S=>ahS S 29 (MS (t:=nd.t) (h.2.2.2.1.below S.E)) fun ac u Nw S=>Sx.nV S 11 [.mem 0 35,.mem 0 42] [(_,_,nd.t.Gz,.bool (gG nd.fill)),(_,_,(nd.t.Gz&&(gG nd.fill)),.bool (gG nd.stroke))] [(2,.bool ((nd.t.Gz&&(gG nd.fill))&&(gG nd.stroke)))] ⟨fun u hC g=>vg (l:=nd.fill) (h.2.2.2.2.2.2.2.2.2.1.below (Ext.trans' S.E hC)),fun u hC g=>vg (l:=nd.stroke) (h.2.2.2.2.2.2.2.2.2.2.2.1.below (Ext.trans' S.E hC)),trivial⟩ fun ac u wL S=>ahJ<|iD _ _<|ahM S Tryz.results10 ?_;exact⟨aH (by unfold aA.iZ; rw[vT]; rfl),S.E⟩
def bC.few(s:bC)(n:Int):Bool:=decide ((s.ns.length:Int)≤n)&&s.ns.all aA.iZ
theorem yx{w:World}{s:bC}(h:aN 47 aA.cells w s.s s.ns∧∀n∈s.ns,n.ok w)(n:Int) :
  Calls Tryz.prog 9 #[s.v,.i n] w fun e w'=>e = .returned (.bool (s.few n))∧Ext w w':=by
 have hmax:s.ns.length≤9223372036854775807:=h.1.len;refine ahO Tryz.func9 Tryz.ntmps9 (fun ac S=>?_);obtain⟨a,cap,es⟩:∃a c,s.s = .slice a s.ns.length c:=⟨_,_,rfl⟩;have hr:=h.1;rw[es]at hr;refine ahK fun _ aY=>ahL S 2 s.cells fun ac u b2 E3 hb4 S=>adr S 1 [] [(4,.z)] fun S=>ahJ<|aY _ _<|ah2 fun _ dw=>ahK fun _ iT=>adr S 5 [.mem 0 6,.re 7 s.s (.slice a s.ns.length cap)] [(10,.bool (n<(s.ns.length:Int)))] (hk:=⟨es,trivial⟩) fun S=>ahJ (iT _ _ ?_);refine ahN S (fun vT=>?_) (fun vT=>?_)
 ·refine ahK fun _ dR=>adr S 1 [] [(4,.z)] fun S=>ahJ<|dR _ _<|ahM S Tryz.results9 ?_;exact⟨aH (by unfold bC.few; simp[show ¬((s.ns.length:Int)≤n)from by have:=of_decide_eq_true vT; omega]),S.E⟩
 refine ah4<|dw _ _<|ah2 fun _ iD=>ahK fun _ gu=>adr S 1 [] [(5,.i 0)] fun S=>ahJ<|gu _ _<|ah5 ?_;refine aiM (ι:=Nat) (fun p a' w'=>p≤s.ns.length∧((s.ns.take p).all aA.iZ=true)∧Sx.St w a' w' 25 [(0,s.v),(1,.i n),(2,.q b2 0),(4,.z),(5,.i p)] [(b2,s.cells)] []) (fun p=>s.ns.length-p) (0) ⟨aij _,rfl,S.sn⟩ ?_;rintro k ac u hI;try dsimp only at hI
 obtain⟨hk,hR,S⟩:=hI;refine ah2 fun _ dO=>ahK fun _ fD=>adr S 5 [.mem 0 6,.re 13 s.s (.slice a s.ns.length cap)] [(15,.bool ((k:Int)<(s.ns.length:Int)))] (hk:=⟨es,trivial⟩) fun S=>ahJ (fD _ _ ?_);refine ahN S (fun hc13=>?_) (fun hc13=>?_)
 ·refine ah4<|dO _ _<|ah2 fun _ gU=>ah5<|ahK (fun _ iJ=>?_);have WH:k<s.ns.length:=by have:=ain hc13; omega
  obtain⟨b16,o17,rfl,x22,acf,Ya,agk⟩:=aiy hr (fun _=>rfl) (k) WH;have S:=S.view0 Ya agk;refine adr S 5 [.mem 0 6,.re 19 s.s (.slice (some ⟨b16,o17,none⟩) s.ns.length cap),.idx k s.ns.length,.mem 1 0] [(22,x22.v)] (hk:=⟨es,WH,trivial⟩) fun S=>ahS S 23 (sJ ((h.2 _ (acf▸aiD WH)).below S.E)) fun ac u N8 S=>adr S 1 [] [(24,.bool (!x22.iZ))] fun S=>ahJ (iJ _ _ ?_);refine ahN S (fun hc25=>?_) (fun hc25=>?_)
  ·refine ahK fun _ jA=>adr S 1 [] [(4,.z)] fun S=>ahJ<|jA _ _<|ahM S Tryz.results9 ?_;exact⟨aH (by unfold bC.few; rw[wU WH (by rw[acf]; simpa using hc25)]; simp),S.E⟩
  refine ah4<|gU _ _<|aia<|adr S 3 [.re 17 (.i (IntKind.i64.wrap ((k:Int)+1))) (.i (k+1:Nat))] [(5,.i (k+1:Nat))] (hk:=⟨ahY (by omega),trivial⟩) fun S=>ahJ ?_;show ∃i',_∧_;exact⟨(k+1),⟨by omega,(lM WH hR (by rw[acf]; simpa using hc25)),S.sn⟩,by show _-_<_-_; omega⟩
 refine ail<|iD _ _<|ahK fun _ l9=>adr S 1 [] [(4,.bool true)] fun S=>ahJ<|l9 _ _<|ahM S Tryz.results9 ?_;exact⟨aH (by unfold bC.few; rw[oW (by have:=aiu hc13; omega) hR]; simp[show((s.ns.length:Int)≤n)from by have:=of_decide_eq_false vT; omega]),S.E⟩
theorem rJ:∀{a b:Bool},cond a false b=true→a=false∧b=true:=by decide
theorem OY{t:bn}(h:t.fit 20):t.lim:=⟨h.1.mono (by decide),h.2.1.mono (by decide),h.2.2.1.mono (by decide),h.2.2.2.1.mono (by decide),h.2.2.2.2.1.mono (by decide),h.2.2.2.2.2.mono (by decide)⟩
theorem yI{r:bP}(h:((decide (12<(r.l1.length:Int)))||(decide (12<(r.l2.length:Int))))=false):r.fit 20:=by
 simp only[aiX,aji]at h;exact⟨by omega,by omega⟩
theorem bn.OZ{t:bn}(h:t.Gz=true):t.fit 20:=by
 unfold bn.Gz at h;obtain⟨h0,h⟩:=rJ h;obtain⟨h1,h⟩:=rJ h;obtain⟨h2,h⟩:=rJ h;obtain⟨h3,h⟩:=rJ h;obtain⟨h4,h⟩:=rJ h;obtain⟨h5,h⟩:=rJ h;exact⟨yI h0,yI h1,yI h2,yI h3,yI h4,yI h5⟩
theorem EK{p:au}(h:p.few=true):p.t.fit 20∧p.lim:=by
 unfold au.few at h;simp only[aiq,aiz]at h;have:=bn.OZ h.2;exact⟨this,by omega,by omega,OY this⟩
theorem Cm{l:List au}(h:gG l=true):(∀p∈l,p.t.fit 20)∧l.length≤10000000∧∀p∈l,p.lim:=by
 unfold gG at h;simp only[aiq,aiz,aiA]at h;exact⟨fun p hp=>(EK (h.2 p hp)).1,by omega,fun p hp=>(EK (h.2 p hp)).2⟩
theorem qX{w:World}{nd:aA}(h:nd.iZ=true)(ho:nd.ok w):eF 20 w nd∧nd.lim:=by
 unfold aA.iZ at h;obtain⟨h1,h2⟩:=rJ h;simp only[aiX,aji]at h1;simp only[aiq]at h2;have hf:=Cm h2.1.2;have hs:=Cm h2.2;have ht:=bn.OZ h2.1.1;exact⟨⟨ho,ht,hf.1,hs.1,by decide,by decide⟩,OY ht,by omega,by omega,hf.2.1,hf.2.2,by omega,hs.2.1,hs.2.2,by omega⟩
theorem Bh{w:World}{s:bC}{n:Int}(h:s.few n=true)(hw:I64 s.w)(hh:I64 s.h)(ho:aN 47 aA.cells w s.s s.ns∧∀n∈s.ns,n.ok w):gQ 20 w s∧(∀n∈s.ns,n.lim)∧(s.ns.length:Int)≤n:=by
 unfold bC.few at h;simp only[aiq,aiz,aiA]at h;exact⟨⟨hw,hh,ho.1,fun n hn=>(qX (h.2 n hn) (ho.2 n hn)).1⟩,fun n hn=>(qX (h.2 n hn) (ho.2 n hn)).2,h.1⟩
end Go.Proofs.YtapmgonflgahbaaGreatDoor
end
theorem ahT:type_of% @Go.Sx.dv:=@Go.Sx.dv
