/- A set of numbers kept as a map from int to bool, made by -/
import Derived.Maps.Own
import Derived.Maps.Views
import Derived.Test.YtfmkkemfhjkajaaGreatDoorOwn
import Derived.Test.YtfmkkemfhjkajaaGreatDoorPk31
set_option linter.unusedVariables false
section
namespace Go.Proofs.YtfmkkemfhjkajaaGreatDoor
open Go.Maps
variable{P:Program}{k e t:TypeId}{b:Nat}{ids:List Int}{w w':World}
def kW(P:Program)(k e:TypeId)(w:World)(b:Nat)(ids:List Int):Prop:=
 ∃D:DataW Unit,w.ownsMap P k (plainElem P e) b ids.length D∧IsMap D∧∀x:Int,I64 x→D.atKey (.int .i64 x) (.lit (.bool false)) = .lit (.bool (ids.any (· == x)))
theorem UR(P:Program)(k e:TypeId)(w:World):kW P k e (w.alloc (.map #[] 0)) w.heap.size []:=
 ⟨.map [],World.ownsMap_made w P k _,isMap_empty,fun x _=>rfl⟩
theorem wf_i64{x:Int}(h:I64 x):(Lit.int .i64 x).wf=true:=by
 obtain⟨h1,h2⟩:=h;have e1:IntKind.i64.min = -9223372036854775808:=by decide
 have e2:IntKind.i64.max=9223372036854775807:=by decide
 simp[Lit.wf,e1,e2];omega
theorem Bg{H:Type}(he:P.underlying e=some .bool){v:Value}{z:DataW H×List MemPlace}(h:plainElem P e v=some z):∃c,v = .bool c∧z=(.lit (.bool c),[]):=by
 unfold plainElem at h;rw[he]at h;cases v<;>simp at h;exact⟨_,rfl,h.symm⟩
theorem kW.lt(h:kW P k e w b ids):b<w.heap.size:=by obtain⟨D,h,_⟩:=h; exact h.lt
theorem kW.kept(h:kW P k e w b ids)(hb:∀i,i=b→w'.heap[i]?=w.heap[i]?):kW P k e w' b ids:=by
 obtain⟨D,⟨es,clock,hB,F,hs,hD⟩,h2,h3⟩:=h;exact⟨D,⟨es,clock,(hb b rfl).trans hB,F,hs,hD⟩,h2,h3⟩
theorem kW.ext(h:kW P k e w b ids)(hb:Ext w w'):kW P k e w' b ids:=h.kept fun i hi=>hb.block i (by rw[hi]; exact h.lt)
theorem kW.lookup(h:kW P k e w b ids)(hk:P.underlying k=some (.int .i64))(he:P.underlying e=some .bool)(ht:P.underlying t=some (.map k e))(hz:(zeroValue e).run P w = .ok (.bool false) w){x:Int}(hx:I64 x) :
  (Instr.lookup t (.map (some b)) (.i x) false).run P w = .ok (.bool (ids.any (· == x))) w:=by
 obtain⟨D,h1,h2,h3⟩:=h;obtain⟨v,ps,hrun,hv⟩:=h1.lookup (int_keyed hk) ht hz (plainElem_bool he false) (keyOf_int_mk hk (wf_i64 hx));obtain⟨c,rfl,hc⟩:=Bg he hv;simp only[anD]at hc;rw[h3 x hx]at hc;obtain⟨hc,-⟩:=hc;cases hc;exact hrun
theorem kW.update(h:kW P k e w b ids)(hk:P.underlying k=some (.int .i64))(he:P.underlying e=some .bool)(ht:P.underlying t=some (.map k e))(hn:ids.length<maxLen){x:Int}(hx:I64 x) :
  ∃w',(Instr.mapUpdate t (.map (some b)) (.i x) (.bool true)).run P w = .ok () w'∧kW P k e w' b (ids++[x])∧w.grownBy w' (some b):=by
 obtain⟨D,h1,h2,h3⟩:=h;obtain⟨w',hrun,ho,hg⟩:=h1.update (int_keyed hk) ht hn (keyOf_int_mk hk (wf_i64 hx)) (plainElem_bool he true);refine⟨w',hrun,⟨D.put (.int .i64 x) (.lit (.bool true)),?_,h2.put _ _,fun y hy=>?_⟩,hg⟩
 ·rw[anX,apL]; exact ho
 rw[List.any_append,List.any_cons,List.any_nil,Bool.or_false];by_cases hxy:x=y
 ·subst hxy;rw[atKey_put_same h2 (k := .int .i64 x) (by first | trivial | simp[WideAt.IsKeyLit])];simp
 rw[atKey_put_other (by simpa using fun h=>hxy h.symm),h3 y hy];simp[hxy]
end Go.Proofs.YtfmkkemfhjkajaaGreatDoor
namespace Go.Sx
open Go.Proofs.YtfmkkemfhjkajaaGreatDoor Go.RowKit Go.Rel
variable{P:Program}{k e:TypeId}{b:Nat}{ids:List Int}{w w':World}
variable{ops:Array Oper}{Q:Exit→Act→World→Prop}{w0:World}{a:Act}{os:List Oper}{n:Nat}{l:List (Nat×Value)}{bl:List (Nat×List Value)}{vs:List iM}
def QD(os:List Oper):Option Nat:=match os with
 | o::_=>(match o.guard,o.dst,o.op with
  | none,some d,.makeMap _ none=>some d
  | _,_,_=>none)
 | []=>none
def lookOf(os:List Oper)(l:List (Nat×Value)):Option (TypeId×Nat×Int×Nat):=match os with
 | o::_=>(match o.guard,o.dst,o.op with
  | none,some d,.lookup t x i false=>(match rd (lift l) [] x,rd (lift l) [] i with
   | some (.map (some b)),some (.i z)=>some (t,b,z,d)
   | _,_=>none)
  | _,_,_=>none)
 | []=>none
def aeW(os:List Oper)(l:List (Nat×Value)):Option (TypeId×Nat×Int):=match os with
 | o::_=>(match o.guard,o.dst,o.op with
  | none,none,.mapUpdate t x i v=>(match rd (lift l) [] x,rd (lift l) [] i,rd (lift l) [] v with
   | some (.map (some b)),some (.i z),some (.bool true)=>some (t,b,z)
   | _,_,_=>none)
  | _,_,_=>none)
 | []=>none
theorem akY(S:St w0 a w n l bl vs)(d:Nat)(next:∀a' w' b,Ext w w'→b=w.heap.size→(∀k e,kW P k e w' b [])→St w0 a' w' n ((d,.map (some b))::l) bl vs→wpList P ops Q (os.drop 1) a' w')
  (hx:QD os=some d:=by kernel_rfl) (hd:KA n (some d)=true:=by rfl):wpList P ops Q os a w:=by
 unfold QD at hx;split at hx
 ·rename_i o os';split at hx
  ·rename_i d' t hg hdst hop;cases hx;have hrun:(execOp a.eval o).run P w = .ok (.value (.map (some w.heap.size))) (w.alloc (.map #[] 0)):=by
    unfold execOp;simp only[hop];rfl
   unfold wpList;rw[anv (by simp[Region.wanted,hg])];left;unfold Oper.wp;rw[hrun];simp only[Oper.upon];have hE:Ext w (w.alloc (.map #[] 0)):=aS _ _;have S1:=S.grow hE;rw[hdst];exact next _ _ w.heap.size hE rfl (fun k e=>UR P k e w) ⟨ET S.s hd _,S1.E,S1.own,S1.apart,S1.mem⟩
  cases hx
 cases hx
theorem ah8(S:St w0 a w n l bl vs)(d:Nat){t:TypeId}{z:Int}(h:kW P k e w b ids)(hk:P.underlying k=some (.int .i64))(he:P.underlying e=some .bool)(ht:P.underlying t=some (.map k e))(hz:(zeroValue e).run P w = .ok (.bool false) w)(hi:I64 z)
  (next:∀a',St w0 a' w n ((d,.bool (ids.any (· == z)))::l) bl vs→wpList P ops Q (os.drop 1) a' w)
  (hx:lookOf os l=some (t,b,z,d):=by kernel_rfl) (hd:KA n (some d)=true:=by rfl):wpList P ops Q os a w:=by
 unfold lookOf at hx;split at hx
 ·rename_i o os';split at hx
  ·rename_i d' t' x i hg hdst hop;split at hx
   ·rename_i b' z' hxx hii;cases hx;have hR:=jX (dL S.s) o;have hxv:=iW (Std.act a) (hR x (by rw[hop]; simp[Op.operands])) (p:=[]) rfl hxx;have hyv:=iW (Std.act a) (hR i (by rw[hop]; simp[Op.operands])) (p:=[]) rfl hii;have hrun:(execOp a.eval o).run P w = .ok (.value (.bool (ids.any (· == z)))) w:=by
     unfold execOp;simp only[hop,hxv,hyv,aor,h.lookup hk he ht hz hi];rfl
    unfold wpList;rw[anv (by simp[Region.wanted,hg])];left;unfold Oper.wp;rw[hrun];simp only[Oper.upon];rw[hdst];exact next _ (S.act (ET S.s hd _))
   cases hx
  cases hx
 cases hx
theorem St.akZ(S:St w0 a w n l bl vs)(h:kW P k e w b ids)(hb:w0.heap.size≤b)(hg:w.grownBy w' (some b))(h1:bl.all (fun p => !p.2.isEmpty)=true)(h2:vs.all (fun m => !m.2.2.isEmpty)=true):St w0 a w' n l bl vs:=by
 have hm:∀i,w.cell? ⟨b,i,none⟩=none:=by
  obtain⟨D,⟨es,clock,hB,_⟩,_⟩:=h;intro i;simp[World.cell?,hB]
 have hcell:∀c i,c<w.heap.size→c≠b→w'.cell? ⟨c,i,none⟩=w.cell? ⟨c,i,none⟩:=by
  intro c i hc hne;simp only[World.cell?];rw[hg.block c hc (fun e=>hne (anG e))]
 have ah9:∀c i,c<w.heap.size→c≠b→w'.frozen? ⟨c,i,none⟩=w.frozen? ⟨c,i,none⟩:=by
  intro c i hc hne;simp only[World.frozen?];rw[hg.block c hc (fun e=>hne (anG e))]
 have hE:Ext w0 w':=S.E.grown hg S.E.size (fun k e=>by cases e; exact hb);refine⟨S.s,hE,fun p hp=>?_,S.apart,fun m hmm=>?_⟩
 ·obtain⟨⟨q1,q2,q3⟩,q4⟩:=S.own p hp;have hne:p.1≠b:=by
   intro e;have h3:=anV.1 h1 p hp;have h4:=q2 0;rw[e,hm 0]at h4;cases hA:p.2 with
   | nil=>rw[hA]at h3; cases h3
   | cons x A=>rw[hA]at h4; simp at h4
  exact⟨⟨an3 q1 hg.size,fun i=>by rw[hcell _ _ q1 hne]; exact q2 i,fun i=>by rw[ah9 _ _ q1 hne]; exact q3 i⟩,q4⟩
 obtain⟨⟨q1,q2⟩,q3⟩:=S.mem m hmm;have hne:m.1≠b:=by
  intro e;have h3:=anV.1 h2 m hmm;cases hA:m.2.2 with
  | nil=>rw[hA]at h3; cases h3
  | cons x A =>
   have h4:=q2 0 x (by rw[hA]; rfl);rw[e,hm]at h4;cases h4
 exact⟨⟨an3 q1 hg.size,fun i v hi=>by rw[hcell _ _ q1 hne]; exact q2 i v hi⟩,q3⟩
theorem ak0(S:St w0 a w n l bl vs){t:TypeId}{z:Int}(h:kW P k e w b ids)(hb:w0.heap.size≤b)(hk:P.underlying k=some (.int .i64))(he:P.underlying e=some .bool)(ht:P.underlying t=some (.map k e))(hn:ids.length<maxLen)(hi:I64 z)
  (next:∀w',kW P k e w' b (ids++[z])→w.grownBy w' (some b)→St w0 a w' n l bl vs→wpList P ops Q (os.drop 1) a w')
  (hx:aeW os l=some (t,b,z):=by kernel_rfl) (h1:bl.all (fun p => !p.2.isEmpty)=true:=by kernel_rfl) (h2:vs.all (fun m => !m.2.2.isEmpty)=true:=by kernel_rfl):wpList P ops Q os a w:=by
 unfold aeW at hx;split at hx
 ·rename_i o os';split at hx
  ·rename_i t' x i v hg hdst hop;split at hx
   ·rename_i b' z' hxx hii hvv;cases hx;have hR:=jX (dL S.s) o;have hxv:=iW (Std.act a) (hR x (by rw[hop]; simp[Op.operands])) (p:=[]) rfl hxx;have hyv:=iW (Std.act a) (hR i (by rw[hop]; simp[Op.operands])) (p:=[]) rfl hii;have hzv:=iW (Std.act a) (hR v (by rw[hop]; simp[Op.operands])) (p:=[]) rfl hvv;obtain⟨w',hrun,h',hg'⟩:=h.update hk he ht hn hi;have hrun:(execOp a.eval o).run P w = .ok .skip w':=by
     unfold execOp;simp only[hop,hxv,hyv,hzv,aor,hrun];rfl
    unfold wpList;rw[anv (by simp[Region.wanted,hg])];left;unfold Oper.wp;rw[hrun];simp only[Oper.upon];rw[hdst];exact next _ h' hg' (S.akZ h hb hg' h1 h2)
   cases hx
  cases hx
 cases hx
theorem QE(h:kW P k e w b ids):On (fun i=>i=b) (fun w=>kW P k e w b ids) w:=fun w' hs hb=>h.kept fun i hi=>hb i (by rw[hi]; exact h.lt) hi
end Go.Sx
end
section
namespace Go.Proofs.YtfmkkemfhjkajaaGreatDoor
def dX:Nat→List aF→List Nat
 | _,[]=>[]
 | k,x::l=>if x.depth=0 then k::dX (k+1) l else dX (k+1) l
def fH(l:List aF):List Nat:=0::dX 1 (l.drop 1)++(if 0<l.length then [l.length]else [])
def QF:Nat→List (List aF)→List Nat
 | k,[]=>[k]
 | k,t::x=>k::QF (k+t.length) x
theorem Ai:∀{r:List aF} {k:Nat} {l:List aF},(∀y∈r,0<y.depth)→dX k (r++l)=dX (k+r.length) l
 | [],k,l,_=>rfl
 | y::r,k,l,h=>by
  have:=h y anK
  rw[aoD]
  unfold dX
  rw[anq (by omega),Ai fun z hz=>h z (aot _ hz),an1]
  rw[show k+1+r.length=k+(r.length+1) by omega]
  cases l<;>rfl
theorem KQ:∀{x:List (List aF)} {k:Nat},(∀t∈x,Xd t)→dX k x.flatten++[k+x.flatten.length]=QF k x
 | [],k,_=>rfl
 | t::x,k,h=>by
  obtain⟨z,r,rfl,hz,hr⟩:=h t anK
  have ih:=KQ (x:=x) (k:=k+(z::r).length) fun t ht=>h t (aot _ ht)
  rw[ap3,aoD]
  show(if z.depth=0 then k::dX (k+1) (r++x.flatten)else _)++_=k::QF (k+(z::r).length) x
  rw[anv hz,Ai hr,←ih,aoD]
  rw[show k+1+r.length=k+(z::r).length by rw[an1]; omega]
  congr 3
  rw[an1,an1,anX]; omega
theorem QG{l:List aF}(h:VL l):fH l=QF 0 (bZ l):=by
 have hz:=KQ (k:=0) h.roots;rw[uj,aok]at hz;rw[←hz];cases l with
 | nil=>rfl
 | cons x t =>
  have hx:=h.head x rfl;unfold fH;rw[anv (by simp)];show 0::dX 1 t++_=(if x.depth=0 then 0::dX (0+1) t else _)++_;rw[anv hx]
theorem EF:∀(x:List (List aF)) (k:Nat),(QF k x).length=x.length+1
 | [],k=>rfl
 | t::x,k=>by unfold QF; rw[an1,EF,an1]
theorem QH:∀{x:List (List aF)} {k p:Nat},p≤x.length→(QF k x)[p]?=some (k+(x.take p).flatten.length)
 | [],k,p,h=>by obtain rfl:p=0:=(by simpa using h); rfl
 | t::x,k,0,h=>rfl
 | t::x,k,p+1,h=>by
  unfold QF
  rw[List.getElem?_cons_succ,QH (by simpa using h),apE,ap3,anX,apo]
theorem Xe{x:List (List aF)}{i j:Nat}(h:i≤j)(hj:j≤x.length):(x.flatten.drop ((x.take i).flatten.length)).take ((x.take j).flatten.length-(x.take i).flatten.length)=((x.drop i).take (j-i)).flatten:=by
 have e1:x=x.take i++((x.drop i).take (j-i)++x.drop j):=by
  rw[show x.drop j=(x.drop i).drop (j-i) by rw[ao9]; congr 1; omega,aoE,aoE]
 have e2:x.take j=x.take i++(x.drop i).take (j-i):=by rw[←List.take_add]; congr 1; omega
 have e3:x.flatten=(x.take i).flatten++(((x.drop i).take (j-i)).flatten++(x.drop j).flatten):=by
  conv=>lhs; rw[e1]
  rw[apm,apm]
 rw[e2,apm,anX,ap2,e3,List.drop_left,List.take_left]
theorem abY{x:List (List aF)}{p:Nat}(h:p<x.length):(x.flatten.drop ((x.take p).flatten.length)).take ((x.take (p+1)).flatten.length-(x.take p).flatten.length)=x[p]:=by
 rw[Xe (by omega) (by omega),ap2,aoo h,apE,List.take_zero,ap3,List.flatten_nil,aoK]
end Go.Proofs.YtfmkkemfhjkajaaGreatDoor
end
