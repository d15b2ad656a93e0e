/- A set of numbers kept as a map from int to bool, made by the call itself. -/
import Derived.Maps.Own
import Derived.Maps.Views
import Derived.Test.YtfmkkemfhjkajaaGreatDoorOwn
namespace Go.Proofs.YtfmkkemfhjkajaaGreatDoor
open Go.Maps
set_option linter.unusedVariables false
variable{P:Program}{k e t:TypeId}{b:Nat}{ids:List Int}{w w':World}
def kS(P:Program)(k e:TypeId)(w:World)(b:Nat)(ids:List Int):Prop:=
 ∃D:DataW Unit,w.ownsMap P k (plainElem P e) b ids.length D∧IsMap D∧∀x:Int,I64 x→D.atKey (.int .i64 x) (.lit (.bool false)) = .lit (.bool (ids.any (· == x)))
theorem SN(P:Program)(k e:TypeId)(w:World):kS P k e (w.alloc (.map #[] 0)) w.heap.size []:=
 ⟨.map [],World.ownsMap_made w P k _,isMap_empty,fun x _=>rfl⟩
theorem wf_i64{x:Int}(h:I64 x):(Lit.int .i64 x).wf=true:=by
 obtain⟨h1,h2⟩:=h;have e1:IntKind.i64.min = -9223372036854775808:=by decide
 have e2:IntKind.i64.max=9223372036854775807:=by decide
 simp[Lit.wf,e1,e2];omega
theorem Ac{H:Type}(he:P.underlying e=some .bool){v:Value}{z:DataW H×List MemPlace}(h:plainElem P e v=some z):∃c,v = .bool c∧z=(.lit (.bool c),[]):=by
 unfold plainElem at h;rw[he]at h;cases v<;>simp at h;exact⟨_,rfl,h.symm⟩
theorem kS.lt(h:kS P k e w b ids):b<w.heap.size:=by obtain⟨D,h,_⟩:=h; exact h.lt
theorem kS.kept(h:kS P k e w b ids)(hb:∀i,i=b→w'.heap[i]?=w.heap[i]?):kS P k e w' b ids:=by
 obtain⟨D,⟨es,clock,hB,F,hs,hD⟩,h2,h3⟩:=h;exact⟨D,⟨es,clock,(hb b rfl).trans hB,F,hs,hD⟩,h2,h3⟩
theorem kS.ext(h:kS P k e w b ids)(hb:Ext w w'):kS P k e w' b ids:=h.kept fun i hi=>hb.block i (by rw[hi]; exact h.lt)
theorem kS.lookup(h:kS P k e w b ids)(hk:P.underlying k=some (.int .i64))(he:P.underlying e=some .bool)(ht:P.underlying t=some (.map k e))(hz:(zeroValue e).run P w = .ok (.bool false) w){x:Int}(hx:I64 x) :
  (Instr.lookup t (.map (some b)) (.i x) false).run P w = .ok (.bool (ids.any (· == x))) w:=by
 obtain⟨D,h1,h2,h3⟩:=h;obtain⟨v,ps,hrun,hv⟩:=h1.lookup (int_keyed hk) ht hz (plainElem_bool he false) (keyOf_int_mk hk (wf_i64 hx));obtain⟨c,rfl,hc⟩:=Ac he hv;simp only[Prod.mk.injEq]at hc;rw[h3 x hx]at hc;obtain⟨hc,-⟩:=hc;cases hc;exact hrun
theorem kS.update(h:kS P k e w b ids)(hk:P.underlying k=some (.int .i64))(he:P.underlying e=some .bool)(ht:P.underlying t=some (.map k e))(hn:ids.length<maxLen){x:Int}(hx:I64 x) :
  ∃w',(Instr.mapUpdate t (.map (some b)) (.i x) (.bool true)).run P w = .ok () w'∧kS P k e w' b (ids++[x])∧w.grownBy w' (some b):=by
 obtain⟨D,h1,h2,h3⟩:=h;obtain⟨w',hrun,ho,hg⟩:=h1.update (int_keyed hk) ht hn (keyOf_int_mk hk (wf_i64 hx)) (plainElem_bool he true);refine⟨w',hrun,⟨D.put (.int .i64 x) (.lit (.bool true)),?_,h2.put _ _,fun y hy=>?_⟩,hg⟩
 ·rw[List.length_append,List.length_singleton]; exact ho
 rw[List.any_append,List.any_cons,List.any_nil,Bool.or_false];by_cases hxy:x=y
 ·subst hxy;rw[atKey_put_same h2 (k := .int .i64 x) (by first | trivial | simp[WideAt.IsKeyLit])];simp
 rw[atKey_put_other (by simpa using fun h=>hxy h.symm),h3 y hy];simp[hxy]
end Go.Proofs.YtfmkkemfhjkajaaGreatDoor
namespace Go.Sx
open Go.Proofs.YtfmkkemfhjkajaaGreatDoor Go.RowKit Go.Rel
variable{P:Program}{k e:TypeId}{b:Nat}{ids:List Int}{w w':World}
variable{ops:Array Oper}{Q:Exit→Act→World→Prop}{w0:World}{a:Act}{os:List Oper}{n:Nat}{l:List (Nat×Value)}{bl:List (Nat×List Value)}{vs:List iF}
def OI(os:List Oper):Option Nat:=match os with
 | o::_=>(match o.guard,o.dst,o.op with
  | none,some d,.makeMap _ none=>some d
  | _,_,_=>none)
 | []=>none
def lookOf(os:List Oper)(l:List (Nat×Value)):Option (TypeId×Nat×Int×Nat):=match os with
 | o::_=>(match o.guard,o.dst,o.op with
  | none,some d,.lookup t x i false=>(match rd (lift l) [] x,rd (lift l) [] i with
   | some (.map (some b)),some (.i z)=>some (t,b,z,d)
   | _,_=>none)
  | _,_,_=>none)
 | []=>none
def adz(os:List Oper)(l:List (Nat×Value)):Option (TypeId×Nat×Int):=match os with
 | o::_=>(match o.guard,o.dst,o.op with
  | none,none,.mapUpdate t x i v=>(match rd (lift l) [] x,rd (lift l) [] i,rd (lift l) [] v with
   | some (.map (some b)),some (.i z),some (.bool true)=>some (t,b,z)
   | _,_,_=>none)
  | _,_,_=>none)
 | []=>none
theorem ahU(S:St w0 a w n l bl vs)(d:Nat)(next:∀a' w' b,Ext w w'→b=w.heap.size→(∀k e,kS P k e w' b [])→St w0 a' w' n ((d,.map (some b))::l) bl vs→wpList P ops Q (os.drop 1) a' w')
  (hx:OI os=some d:=by kernel_rfl) (hd:JC n (some d)=true:=by rfl):wpList P ops Q os a w:=by
 unfold OI at hx;split at hx
 ·rename_i o os';split at hx
  ·rename_i d' t hg hdst hop;cases hx;have hrun:(execOp a.eval o).run P w = .ok (.value (.map (some w.heap.size))) (w.alloc (.map #[] 0)):=by
    unfold execOp;simp only[hop];rfl
   unfold wpList;rw[if_pos (by simp[Region.wanted,hg])];left;unfold Oper.wp;rw[hrun];simp only[Oper.upon];have hE:Ext w (w.alloc (.map #[] 0)):=aT _ _;have S1:=S.grow hE;rw[hdst];exact next _ _ w.heap.size hE rfl (fun k e=>SN P k e w) ⟨EC S.s hd _,S1.E,S1.own,S1.apart,S1.mem⟩
  cases hx
 cases hx
theorem afS(S:St w0 a w n l bl vs)(d:Nat){t:TypeId}{z:Int}(h:kS P k e w b ids)(hk:P.underlying k=some (.int .i64))(he:P.underlying e=some .bool)(ht:P.underlying t=some (.map k e))(hz:(zeroValue e).run P w = .ok (.bool false) w)(hi:I64 z)
  (next:∀a',St w0 a' w n ((d,.bool (ids.any (· == z)))::l) bl vs→wpList P ops Q (os.drop 1) a' w)
  (hx:lookOf os l=some (t,b,z,d):=by kernel_rfl) (hd:JC n (some d)=true:=by rfl):wpList P ops Q os a w:=by
 unfold lookOf at hx;split at hx
 ·rename_i o os';split at hx
  ·rename_i d' t' x i hg hdst hop;split at hx
   ·rename_i b' z' hxx hii;cases hx;have hR:=jR (dJ S.s) o;have hxv:=iI (Std.act a) (hR x (by rw[hop]; simp[Op.operands])) (p:=[]) rfl hxx;have hyv:=iI (Std.act a) (hR i (by rw[hop]; simp[Op.operands])) (p:=[]) rfl hii;have hrun:(execOp a.eval o).run P w = .ok (.value (.bool (ids.any (· == z)))) w:=by
     unfold execOp;simp only[hop,hxv,hyv,Sem.run_bind,h.lookup hk he ht hz hi];rfl
    unfold wpList;rw[if_pos (by simp[Region.wanted,hg])];left;unfold Oper.wp;rw[hrun];simp only[Oper.upon];rw[hdst];exact next _ (S.act (EC S.s hd _))
   cases hx
  cases hx
 cases hx
theorem St.ahV(S:St w0 a w n l bl vs)(h:kS P k e w b ids)(hb:w0.heap.size≤b)(hg:w.grownBy w' (some b))(h1:bl.all (fun p => !p.2.isEmpty)=true)(h2:vs.all (fun m => !m.2.2.isEmpty)=true):St w0 a w' n l bl vs:=by
 have hm:∀i,w.cell? ⟨b,i,none⟩=none:=by
  obtain⟨D,⟨es,clock,hB,_⟩,_⟩:=h;intro i;simp[World.cell?,hB]
 have hcell:∀c i,c<w.heap.size→c≠b→w'.cell? ⟨c,i,none⟩=w.cell? ⟨c,i,none⟩:=by
  intro c i hc hne;simp only[World.cell?];rw[hg.block c hc (fun e=>hne (Option.some.inj e))]
 have afT:∀c i,c<w.heap.size→c≠b→w'.frozen? ⟨c,i,none⟩=w.frozen? ⟨c,i,none⟩:=by
  intro c i hc hne;simp only[World.frozen?];rw[hg.block c hc (fun e=>hne (Option.some.inj e))]
 have hE:Ext w0 w':=S.E.grown hg S.E.size (fun k e=>by cases e; exact hb);refine⟨S.s,hE,fun p hp=>?_,S.apart,fun m hmm=>?_⟩
 ·obtain⟨⟨q1,q2,q3⟩,q4⟩:=S.own p hp;have hne:p.1≠b:=by
   intro e;have h3:=List.all_eq_true.1 h1 p hp;have h4:=q2 0;rw[e,hm 0]at h4;cases hA:p.2 with
   | nil=>rw[hA]at h3; cases h3
   | cons x A=>rw[hA]at h4; simp at h4
  exact⟨⟨Nat.lt_of_lt_of_le q1 hg.size,fun i=>by rw[hcell _ _ q1 hne]; exact q2 i,fun i=>by rw[afT _ _ q1 hne]; exact q3 i⟩,q4⟩
 obtain⟨⟨q1,q2⟩,q3⟩:=S.mem m hmm;have hne:m.1≠b:=by
  intro e;have h3:=List.all_eq_true.1 h2 m hmm;cases hA:m.2.2 with
  | nil=>rw[hA]at h3; cases h3
  | cons x A =>
   have h4:=q2 0 x (by rw[hA]; rfl);rw[e,hm]at h4;cases h4
 exact⟨⟨Nat.lt_of_lt_of_le q1 hg.size,fun i v hi=>by rw[hcell _ _ q1 hne]; exact q2 i v hi⟩,q3⟩
theorem ahW(S:St w0 a w n l bl vs){t:TypeId}{z:Int}(h:kS P k e w b ids)(hb:w0.heap.size≤b)(hk:P.underlying k=some (.int .i64))(he:P.underlying e=some .bool)(ht:P.underlying t=some (.map k e))(hn:ids.length<maxLen)(hi:I64 z)
  (next:∀w',kS P k e w' b (ids++[z])→w.grownBy w' (some b)→St w0 a w' n l bl vs→wpList P ops Q (os.drop 1) a w')
  (hx:adz os l=some (t,b,z):=by kernel_rfl) (h1:bl.all (fun p => !p.2.isEmpty)=true:=by kernel_rfl) (h2:vs.all (fun m => !m.2.2.isEmpty)=true:=by kernel_rfl):wpList P ops Q os a w:=by
 unfold adz at hx;split at hx
 ·rename_i o os';split at hx
  ·rename_i t' x i v hg hdst hop;split at hx
   ·rename_i b' z' hxx hii hvv;cases hx;have hR:=jR (dJ S.s) o;have hxv:=iI (Std.act a) (hR x (by rw[hop]; simp[Op.operands])) (p:=[]) rfl hxx;have hyv:=iI (Std.act a) (hR i (by rw[hop]; simp[Op.operands])) (p:=[]) rfl hii;have hzv:=iI (Std.act a) (hR v (by rw[hop]; simp[Op.operands])) (p:=[]) rfl hvv;obtain⟨w',hrun,h',hg'⟩:=h.update hk he ht hn hi;have hrun:(execOp a.eval o).run P w = .ok .skip w':=by
     unfold execOp;simp only[hop,hxv,hyv,hzv,Sem.run_bind,hrun];rfl
    unfold wpList;rw[if_pos (by simp[Region.wanted,hg])];left;unfold Oper.wp;rw[hrun];simp only[Oper.upon];rw[hdst];exact next _ h' hg' (S.ahV h hb hg' h1 h2)
   cases hx
  cases hx
 cases hx
theorem OJ(h:kS P k e w b ids):On (fun i=>i=b) (fun w=>kS P k e w b ids) w:=fun w' hs hb=>h.kept fun i hi=>hb i (by rw[hi]; exact h.lt) hi
end Go.Sx
