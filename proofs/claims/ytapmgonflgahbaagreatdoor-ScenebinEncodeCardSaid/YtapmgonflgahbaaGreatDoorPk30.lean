/- A region that draws its order, where some operations are -/
import Derived.Test.YtapmgonflgahbaaGreatDoorPk29
import Derived.Maps.Own
import Derived.Maps.Views
set_option linter.unusedVariables false
section
namespace Go.Sx
open Go.Proofs.YtapmgonflgahbaaGreatDoor Go.RowKit Go.Rel
section
variable{P:Program}{ops ops':Array Oper}{Q:Exit→Act→World→Prop}{a:Act}{w:World}
def anb(P:Program)(ops:Array Oper)(l:List (Nat×Value))(h:Nat):Option (Nat×Value):=match ops[h]? with
 | some o=>(match o.guard,o.dst,yX o.op || !o.op.operands.all (fun x=>(rd (lift l) [] x).isSome),jh (ev0 P (execOp (yL (lift l) []) o))with
  | none,some d,false,some (.val v)=>some (d,v)
  | _,_,_,_=>none)
 | none=>none
end
theorem Fb{P:Program}{w:World}{os:List Oper}{i:Nat}{o:Oper}{ρ:Operand→Value}(ho:os[i]?=some o)(hs:Std ρ)(l:List (Nat×Value))(hl:∀q v,l.lookup q=some v→ρ (.tmp q)=v)(A:List Value)(sh:Option Nat){Post:Value→World→Prop}(hT:∀v w',dX w.heap.size A sh v w'→Ext w w'→Post v w')
  (hx:∀r,((os[i]?).bind fun o=>um P r [o] l).map (fun q=>(q.1,q.2.2.1,q.2.2.2.isSome))=some (A,YW sh r,true):=by intro r; kernel_rfl):Does P o ρ w Post:=by
 have hx:=hx w.heap.size;rw[ho,apX]at hx;unfold um at hx;simp only at hx;split at hx
 ·rename_i A' ty k' hg hav hev;split at hx
  ·rename_i v hv;simp only[aoO,an8,aob]at hx;obtain⟨rfl,rfl,hd⟩:=hx;simp only[aoP]at hav;have hH:Holds ρ (lift l):=fun q x hq=>by
    rw[jW]at hq;cases h2:l.lookup q with
    | none=>simp[h2]at hq
    | some u =>
     simp only[h2,aoO,an8]at hq;subst hq;rw[hl q u h2]; rfl
   have hc:execOp ρ o=execOp (yL (lift l) []) o:=by
    refine execOp_congr o (fun cs b e1=>by rw[e1]at hav; cases hav.1) fun x hx=>?_;have h2:=hav.2;simp only[ao4,apT]at h2;obtain⟨z,hz⟩:=ao1.1 (h2 x hx);rw[jd hs (jP hH o x hx) (p:=[]) rfl hz];simp[yL,hz]
   have hv':ev0 P k'=some (.value (YW sh w.heap.size)):=by
    unfold jh at hv;split at hv
    ·rename_i h; obtain h2:=aof hv; rw[h]; simp only[ED.val.injEq]at h2; rw[h2]
    ·cases hv
    cases hv
   have hrun:(execOp ρ o).run P w = .ok (.value (YW sh w.heap.size)) (w.alloc (.cells A'.toArray ty)):=by rw[hc,nN hev,oG hv']
   unfold Does;rw[hrun];exact hT _ _ ⟨w.heap.size,rfl,an7 _,Ld _ _ _⟩ (aG _ _)
  simp at hx
 simp at hx
theorem GX{α:Type}{k:Nat}{f:α→List Value}{w:World}{a:Option Addr}{L:List α}{c:Nat}(h:aV k f w (.slice a L.length c) L){l h' m:Nat}(h1:l≤h')(h2:h'≤L.length)(h3:h'≤m)(h4:m≤c):aV k f w (.slice (UZ a l m k) (h'-l) (m-l)) ((L.drop l).take (h'-l)):=by
 have hlen:((L.drop l).take (h'-l)).length=h'-l:=by simp; omega
 obtain⟨a',cap,hv,hm,hh⟩:=h;simp only[aoB,true_and]at hv;obtain⟨rfl,rfl⟩:=hv;refine⟨UZ a l m k,m-l,by rw[hlen],aoE (by omega) hm,?_⟩;rcases hh with ⟨rfl,hz⟩ | ⟨b,o,rfl,hb,hl,hc⟩
 ·refine .inl ⟨by simp,fun e=>?_⟩;have:c=0:=hz (by
   unfold UZ at e;split at e
   ·exact e
   cases a with
   | none=>rfl
   | some _=>cases e)
  omega
 by_cases hlm:m=l
 ·refine .inl ⟨by rw[show h'-l=0 by omega]; rfl,fun e=>by
  unfold UZ at e; rw[an6 hlm]at e; cases e⟩
 refine .inr ⟨b,o+l*k,by unfold UZ; rw[an0 hlm]; simp[Addr.add],hb,by rw[hlen]; omega,fun i hi j hj=>?_⟩;rw[hlen]at hi;have h5:=hc (l+i) (by omega) j hj;have e1:o+l*k+i*k+j=o+(l+i)*k+j:=by rw[apk]; omega
 rw[e1,h5,List.getElem_take,List.getElem_drop]
theorem BA{α:Type}{k:Nat}{f:α→List Value}{w:World}{a:Option Addr}{L:List α}{c:Nat}(h:aV k f w (.slice a L.length c) L):L.length≤c:=by
 obtain⟨a',cap,hv,hm,hh⟩:=h;simp only[aoB,true_and]at hv;obtain⟨rfl,rfl⟩:=hv;rcases hh with ⟨rfl,_⟩ | ⟨b,o,_,_,hl,_⟩
 ·exact aoa _
 exact hl
theorem aK{w w':World}{B:Nat}{e:TypeId}{k n:Nat}{v:Value}{xs:List Value}(h:w.ownsRow B e k v n xs)(hE:Ext w w'):w'.ownsRow B e k v n xs:=sD h fun g hg=>hE.block g (nC h hg).2
def evV(P:Program)(o:Oper)(l:List (Nat×Value)):Option Value:=match yX o.op || !o.op.operands.all (fun x=>(rd (lift l) [] x).isSome),jh (ev0 P (execOp (yL (lift l) []) o))with
 | false,some (.val v)=>some v
 | _,_=>none
theorem acw{P:Program}{w:World}{os:List Oper}{i:Nat}{o:Oper}{ρ:Operand→Value}(ho:os[i]?=some o)(hs:Std ρ)(l:List (Nat×Value))(hl:∀q v,l.lookup q=some v→ρ (.tmp q)=v){Post:Value→World→Prop}(v:Value)(hK:Post v w)
  (hx:(os[i]?).bind (fun o=>evV P o l)=some v:=by kernel_rfl):Does P o ρ w Post:=by
 rw[ho,apX]at hx;unfold evV at hx;split at hx
 ·rename_i v' hav hev;obtain rfl:=aof hx;simp only[aoP]at hav;have hH:Holds ρ (lift l):=fun q x hq=>by
   rw[jW]at hq;cases h2:l.lookup q with
   | none=>simp[h2]at hq
   | some u =>
    simp only[h2,aoO,an8]at hq;subst hq;rw[hl q u h2]; rfl
  have hrun:(execOp ρ o).run P w = .ok (.value v') w:=qM hs (jP hH o) (p:=[]) rfl hav.1 (by simpa using hav.2) hev;unfold Does;rw[hrun];exact hK
 cases hx
theorem look1{ρ:Operand→Value}{s:Nat}{u:Value}(h:ρ (.tmp s)=u):∀q v,List.lookup q [(s,u)]=some v→ρ (.tmp q)=v:=fun q v hq=>by
 rw[aoN]at hq;split at hq
 ·rename_i hq2;obtain rfl:q=s:=by simpa using hq2
  rw[←aof hq,h]
 cases hq
end Go.Sx
end
section
namespace Go.Proofs.YtapmgonflgahbaaGreatDoor
open Go.Maps
variable{P:Program}{k e t:TypeId}{b:Nat}{ids:List Int}{w w':World}
def mQ(P:Program)(k e:TypeId)(w:World)(b:Nat)(ids:List Int):Prop:=
 ∃D:DataW Unit,w.ownsMap P k (plainElem P e) b ids.length D∧IsMap D∧∀x:Int,I64 x→D.atKey (.int .i64 x) (.lit (.bool false)) = .lit (.bool (ids.any (· == x)))
theorem SA(P:Program)(k e:TypeId)(w:World):mQ P k e (w.alloc (.map #[] 0)) w.heap.size []:=
 ⟨.map [],World.ownsMap_made w P k _,isMap_empty,fun x _=>rfl⟩
theorem wf_i64{x:Int}(h:I64 x):(Lit.int .i64 x).wf=true:=by
 obtain⟨h1,h2⟩:=h;have e1:IntKind.i64.min = -9223372036854775808:=by decide
 have e2:IntKind.i64.max=9223372036854775807:=by decide
 simp[Lit.wf,e1,e2];omega
theorem Ad{H:Type}(he:P.underlying e=some .bool){v:Value}{z:DataW H×List MemPlace}(h:plainElem P e v=some z):∃c,v = .bool c∧z=(.lit (.bool c),[]):=by
 unfold plainElem at h;rw[he]at h;cases v<;>simp at h;exact⟨_,rfl,h.symm⟩
theorem mQ.lt(h:mQ P k e w b ids):b<w.heap.size:=by obtain⟨D,h,_⟩:=h; exact h.lt
theorem mQ.kept(h:mQ P k e w b ids)(hb:∀i,i=b→w'.heap[i]?=w.heap[i]?):mQ P k e w' b ids:=by
 obtain⟨D,⟨es,clock,hB,F,hs,hD⟩,h2,h3⟩:=h;exact⟨D,⟨es,clock,(hb b rfl).trans hB,F,hs,hD⟩,h2,h3⟩
theorem mQ.lookup(h:mQ P k e w b ids)(hk:P.underlying k=some (.int .i64))(he:P.underlying e=some .bool)(ht:P.underlying t=some (.map k e))(hz:(zeroValue e).run P w = .ok (.z) w){x:Int}(hx:I64 x) :
  (Instr.lookup t (.map (some b)) (.i x) false).run P w = .ok (.bool (ids.any (· == x))) w:=by
 obtain⟨D,h1,h2,h3⟩:=h;obtain⟨v,ps,hrun,hv⟩:=h1.lookup (int_keyed hk) ht hz (plainElem_bool he false) (keyOf_int_mk hk (wf_i64 hx));obtain⟨c,rfl,hc⟩:=Ad he hv;simp only[aob]at hc;rw[h3 x hx]at hc;obtain⟨hc,-⟩:=hc;cases hc;exact hrun
theorem mQ.update(h:mQ P k e w b ids)(hk:P.underlying k=some (.int .i64))(he:P.underlying e=some .bool)(ht:P.underlying t=some (.map k e))(hn:ids.length<maxLen){x:Int}(hx:I64 x) :
  ∃w',(Instr.mapUpdate t (.map (some b)) (.i x) (.bool true)).run P w = .ok () w'∧mQ P k e w' b (ids++[x])∧w.grownBy w' (some b):=by
 obtain⟨D,h1,h2,h3⟩:=h;obtain⟨w',hrun,ho,hg⟩:=h1.update (int_keyed hk) ht hn (keyOf_int_mk hk (wf_i64 hx)) (plainElem_bool he true);refine⟨w',hrun,⟨D.put (.int .i64 x) (.lit (.bool true)),?_,h2.put _ _,fun y hy=>?_⟩,hg⟩
 ·rw[an5,List.length_singleton]; exact ho
 rw[List.any_append,List.any_cons,List.any_nil,Bool.or_false];by_cases hxy:x=y
 ·subst hxy;rw[atKey_put_same h2 (k := .int .i64 x) (by first | trivial | simp[WideAt.IsKeyLit])];simp
 rw[atKey_put_other (by simpa using fun h=>hxy h.symm),h3 y hy];simp[hxy]
end Go.Proofs.YtapmgonflgahbaaGreatDoor
namespace Go.Sx
open Go.Proofs.YtapmgonflgahbaaGreatDoor Go.RowKit Go.Rel
variable{P:Program}{k e:TypeId}{b:Nat}{ids:List Int}{w w':World}
variable{ops:Array Oper}{Q:Exit→Act→World→Prop}{w0:World}{a:Act}{os:List Oper}{n:Nat}{l:List (Nat×Value)}{bl:List (Nat×List Value)}{vs:List gX}
def Ph(os:List Oper):Option Nat:=match os with
 | o::_=>(match o.guard,o.dst,o.op with
  | none,some d,.makeMap _ none=>some d
  | _,_,_=>none)
 | []=>none
def lookOf(os:List Oper)(l:List (Nat×Value)):Option (TypeId×Nat×Int×Nat):=match os with
 | o::_=>(match o.guard,o.dst,o.op with
  | none,some d,.lookup t x i false=>(match rd (lift l) [] x,rd (lift l) [] i with
   | some (.map (some b)),some (.i z)=>some (t,b,z,d)
   | _,_=>none)
  | _,_,_=>none)
 | []=>none
def adC(os:List Oper)(l:List (Nat×Value)):Option (TypeId×Nat×Int):=match os with
 | o::_=>(match o.guard,o.dst,o.op with
  | none,none,.mapUpdate t x i v=>(match rd (lift l) [] x,rd (lift l) [] i,rd (lift l) [] v with
   | some (.map (some b)),some (.i z),some (.bool true)=>some (t,b,z)
   | _,_,_=>none)
  | _,_,_=>none)
 | []=>none
theorem ajK(S:St w0 a w n l bl vs)(d:Nat)(next:∀a' w' b,Ext w w'→b=w.heap.size→(∀k e,mQ P k e w' b [])→St w0 a' w' n ((d,.map (some b))::l) bl vs→wpList P ops Q (os.drop 1) a' w')
  (hx:Ph os=some d:=by kernel_rfl) (hd:Cb n (some d)=true:=by rfl):wpList P ops Q os a w:=by
 unfold Ph at hx;split at hx
 ·rename_i o os';split at hx
  ·rename_i d' t hg hdst hop;cases hx;have hrun:(execOp a.eval o).run P w = .ok (.value (.map (some w.heap.size))) (w.alloc (.map #[] 0)):=by
    unfold execOp;simp only[hop];rfl
   unfold wpList;rw[an6 (by simp[Region.wanted,hg])];left;unfold Oper.wp;rw[hrun];simp only[Oper.upon];have hE:Ext w (w.alloc (.map #[] 0)):=aG _ _;have S1:=S.grow hE;rw[hdst];exact next _ _ w.heap.size hE rfl (fun k e=>SA P k e w) ⟨wP S.s hd _,S1.E,S1.own,S1.apart,S1.mem⟩
  cases hx
 cases hx
theorem ag6(S:St w0 a w n l bl vs)(d:Nat){t:TypeId}{z:Int}(h:mQ P k e w b ids)(hk:P.underlying k=some (.int .i64))(he:P.underlying e=some .bool)(ht:P.underlying t=some (.map k e))(hz:(zeroValue e).run P w = .ok (.z) w)(hi:I64 z)
  (next:∀a',St w0 a' w n ((d,.bool (ids.any (· == z)))::l) bl vs→wpList P ops Q (os.drop 1) a' w)
  (hx:lookOf os l=some (t,b,z,d):=by kernel_rfl) (hd:Cb n (some d)=true:=by rfl):wpList P ops Q os a w:=by
 unfold lookOf at hx;split at hx
 ·rename_i o os';split at hx
  ·rename_i d' t' x i hg hdst hop;split at hx
   ·rename_i b' z' hxx hii;cases hx;have hR:=jP (dU S.s) o;have hxv:=jd (Std.act a) (hR x (by rw[hop]; simp[Op.operands])) (p:=[]) rfl hxx;have hyv:=jd (Std.act a) (hR i (by rw[hop]; simp[Op.operands])) (p:=[]) rfl hii;have hrun:(execOp a.eval o).run P w = .ok (.value (.bool (ids.any (· == z)))) w:=by
     unfold execOp;simp only[hop,hxv,hyv,aoV,h.lookup hk he ht hz hi];rfl
    unfold wpList;rw[an6 (by simp[Region.wanted,hg])];left;unfold Oper.wp;rw[hrun];simp only[Oper.upon];rw[hdst];exact next _ (S.act (wP S.s hd _))
   cases hx
  cases hx
 cases hx
theorem St.ajL(S:St w0 a w n l bl vs)(h:mQ P k e w b ids)(hb:w0.heap.size≤b)(hg:w.grownBy w' (some b))(h1:bl.all (fun p => !p.2.isEmpty)=true)(h2:vs.all (fun m => !m.2.2.isEmpty)=true):St w0 a w' n l bl vs:=by
 have hm:∀i,w.cell? ⟨b,i,none⟩=none:=by
  obtain⟨D,⟨es,clock,hB,_⟩,_⟩:=h;intro i;simp[World.cell?,hB]
 have hcell:∀c i,c<w.heap.size→c≠b→w'.cell? ⟨c,i,none⟩=w.cell? ⟨c,i,none⟩:=by
  intro c i hc hne;simp only[World.cell?];rw[hg.block c hc (fun e=>hne (aof e))]
 have ag7:∀c i,c<w.heap.size→c≠b→w'.frozen? ⟨c,i,none⟩=w.frozen? ⟨c,i,none⟩:=by
  intro c i hc hne;simp only[World.frozen?];rw[hg.block c hc (fun e=>hne (aof e))]
 have hE:Ext w0 w':=S.E.grown hg S.E.size (fun k e=>by cases e; exact hb);refine⟨S.s,hE,fun p hp=>?_,S.apart,fun m hmm=>?_⟩
 ·obtain⟨⟨q1,q2,q3⟩,q4⟩:=S.own p hp;have hne:p.1≠b:=by
   intro e;have h3:=aoA.1 h1 p hp;have h4:=q2 0;rw[e,hm 0]at h4;cases hA:p.2 with
   | nil=>rw[hA]at h3; cases h3
   | cons x A=>rw[hA]at h4; simp at h4
  exact⟨⟨aoC q1 hg.size,fun i=>by rw[hcell _ _ q1 hne]; exact q2 i,fun i=>by rw[ag7 _ _ q1 hne]; exact q3 i⟩,q4⟩
 obtain⟨⟨q1,q2⟩,q3⟩:=S.mem m hmm;have hne:m.1≠b:=by
  intro e;have h3:=aoA.1 h2 m hmm;cases hA:m.2.2 with
  | nil=>rw[hA]at h3; cases h3
  | cons x A =>
   have h4:=q2 0 x (by rw[hA]; rfl);rw[e,hm]at h4;cases h4
 exact⟨⟨aoC q1 hg.size,fun i v hi=>by rw[hcell _ _ q1 hne]; exact q2 i v hi⟩,q3⟩
theorem ajM(S:St w0 a w n l bl vs){t:TypeId}{z:Int}(h:mQ P k e w b ids)(hb:w0.heap.size≤b)(hk:P.underlying k=some (.int .i64))(he:P.underlying e=some .bool)(ht:P.underlying t=some (.map k e))(hn:ids.length<maxLen)(hi:I64 z)
  (next:∀w',mQ P k e w' b (ids++[z])→w.grownBy w' (some b)→St w0 a w' n l bl vs→wpList P ops Q (os.drop 1) a w')
  (hx:adC os l=some (t,b,z):=by kernel_rfl) (h1:bl.all (fun p => !p.2.isEmpty)=true:=by kernel_rfl) (h2:vs.all (fun m => !m.2.2.isEmpty)=true:=by kernel_rfl):wpList P ops Q os a w:=by
 unfold adC at hx;split at hx
 ·rename_i o os';split at hx
  ·rename_i t' x i v hg hdst hop;split at hx
   ·rename_i b' z' hxx hii hvv;cases hx;have hR:=jP (dU S.s) o;have hxv:=jd (Std.act a) (hR x (by rw[hop]; simp[Op.operands])) (p:=[]) rfl hxx;have hyv:=jd (Std.act a) (hR i (by rw[hop]; simp[Op.operands])) (p:=[]) rfl hii;have hzv:=jd (Std.act a) (hR v (by rw[hop]; simp[Op.operands])) (p:=[]) rfl hvv;obtain⟨w',hrun,h',hg'⟩:=h.update hk he ht hn hi;have hrun:(execOp a.eval o).run P w = .ok .skip w':=by
     unfold execOp;simp only[hop,hxv,hyv,hzv,aoV,hrun];rfl
    unfold wpList;rw[an6 (by simp[Region.wanted,hg])];left;unfold Oper.wp;rw[hrun];simp only[Oper.upon];rw[hdst];exact next _ h' hg' (S.ajL h hb hg' h1 h2)
   cases hx
  cases hx
 cases hx
theorem Pj(h:mQ P k e w b ids):On (fun i=>i=b) (fun w=>mQ P k e w b ids) w:=fun w' hs hb=>h.kept fun i hi=>hb i (by rw[hi]; exact h.lt) hi
end Go.Sx
end
namespace Go.Proofs.YtapmgonflgahbaaGreatDoor
section
open Go.RowKit
variable{α:Type}{K:Nat}
abbrev keys (l:List aA):List dR:=l.map aA.key
theorem aau{l:List aA}{id:Int}{k:Nat}(hk:k<l.length)(h:l[k].id=id)(hR:∀(j:Nat) (hj:j<l.length),j<k→l[j].id≠id):Bq (keys l) id=(k:Int):=by
 have:zn (keys l) id=some k:=by
  unfold zn;rw[List.findIdx?_eq_some_iff_getElem];refine⟨by simpa using hk,by simpa[keys,aA.key]using h,fun j hj=>?_⟩;have:=hR j (by omega) hj;simpa[keys,aA.key]using this
 unfold Bq; rw[this]
theorem SB{l:List aA}{id:Int}(hR:∀(j:Nat) (hj:j<l.length),l[j].id≠id):Bq (keys l) id = -1:=by
 have:zn (keys l) id=none:=by
  unfold zn;rw[List.findIdx?_eq_none_iff];intro κ hκ;obtain⟨n,hn,rfl⟩:=aoW.1 hκ;obtain⟨j,hj,rfl⟩:=List.getElem_of_mem hn;simpa[aA.key]using hR j hj
 unfold Bq; rw[this]
theorem Xj{l:List aA}{id:Int}{k:Nat}(hk:k<l.length)(hR:∀(j:Nat) (hj:j<l.length),j<k→l[j].id≠id)(h:l[k].id≠id):∀(j:Nat) (hj:j<l.length),j<k+1→l[j].id≠id:=fun j hj h1=>by
 by_cases e:j=k
 ·subst e; exact h
 exact hR j hj (by omega)
theorem Pn{s:jU}(h:((((decide (s.w<1))||(decide (256<s.w)))||(decide (s.h<1)))||(decide (256<s.h)))=true):s.chk=(6,0):=by
 unfold jU.chk;rw[an6 (by simpa[or_assoc]using h)]
theorem nV{s:jU}(h:((((decide (s.w<1))||(decide (256<s.w)))||(decide (s.h<1)))||(decide (256<s.h)))=false):s.chk=if 64<s.ns.length then (5,64)else lW [] s.ns:=by
 unfold jU.chk;rw[an0 (by simpa[or_assoc,and_assoc]using h)]
theorem GY{l:List dR}{k:Nat}(hk:k<l.length):lW (l.take k) (l.drop k)=if iR (l.take k) l[k]=0 then lW (l.take (k+1)) (l.drop (k+1))else (iR (l.take k) l[k],(k:Int)):=by
 rw[ao2 hk,aoZ hk];conv=>lhs; unfold lW
 rw[ap3,Nat.min_eq_left (by omega)]
theorem Dc{l:List aA}{k:Nat}(hk:k<l.length){x:aA}(hx:l[k]=x):(keys l)[k]'(by simpa using hk)=x.key:=by simp[keys,hx]
theorem Le(l:List aA)(k:Nat)(id:Int):((l.take k).map aA.id).any (· == id)=((keys l).take k).any fun κ=>κ.id==id:=by
 rw[←aqb,List.any_map,List.any_map]; rfl
structure uQ (l:List aA) (k:Nat) (m:Int):Prop where
 all:lW [] (keys l)=lW ((keys l).take k) ((keys l).drop k)
 room:m=xH ((keys l).take k)
theorem uQ.start(l:List aA):uQ l 0 0:=⟨by simp,rfl⟩
theorem uQ.bad{l:List aA}{k:Nat}{m n:Int}{x:aA}(h:uQ l k m)(hk:k<l.length)(hx:l[k]=x)(hw:iR ((keys l).take k) x.key=n)(hn:n≠0):lW [] (keys l)=(n,(k:Int)):=by
 rw[h.all,GY (by simpa using hk),Dc hk hx,hw,an0 hn]
theorem uQ.next{l:List aA}{k:Nat}{m m':Int}{x:aA}(h:uQ l k m)(hk:k<l.length)(hx:l[k]=x)(hw:iR ((keys l).take k) x.key=0)(hm:m'=if x.kind=1 then x.depth+1 else x.depth):uQ l (k+1) m':=by
 have hk':k<(keys l).length:=by simpa using hk
 refine⟨?_,?_⟩
 ·rw[h.all,GY hk',Dc hk hx,hw,an6 rfl]
 rw[aoZ hk',GL,Dc hk hx,hm]; rfl
theorem uQ.done{l:List aA}{k:Nat}{m:Int}(h:uQ l k m)(hk:l.length≤k):lW [] (keys l)=(0,0):=by
 rw[h.all,apm (by simpa using hk)]; rfl
theorem GZ{pre:List dR}{x:aA}(h:x.checkN≠0):iR pre x.key=x.checkN:=by rw[←kV]at h ⊢; exact Sz h
theorem JC{pre:List dR}{x:aA}(h:x.checkN=0)(h2:pre.any (fun κ=>κ.id==x.id)=true):iR pre x.key=7:=by
 unfold iR;rw[kV,h,an0 (by simp),an6 (show(pre.any fun κ=>κ.id==x.key.id)=true from h2)]
theorem D5{pre:List dR}{x:aA}(h:x.checkN=0)(h2:pre.any (fun κ=>κ.id==x.id)=false)(h3:xH pre<x.depth):iR pre x.key=17:=by
 unfold iR;rw[kV,h,an0 (by simp),an0 (by rw[show x.key.id=x.id from rfl,h2]; simp),an0 (by show ¬x.depth≤_; omega)]
theorem G5{pre:List dR}{x:aA}(h:x.checkN=0)(h2:pre.any (fun κ=>κ.id==x.id)=false)(h3:x.depth≤xH pre):iR pre x.key=0:=by
 unfold iR;rw[kV,h,an0 (by simp),an0 (by rw[show x.key.id=x.id from rfl,h2]; simp),an6 (by exact h3)]
theorem Xk(w:World):(zeroValue 4).run Tryz.prog w = .ok (.z) w:=Sx.oG (by kernel_rfl)
theorem aav{l:List aA}{k:Nat}{x:aA}(hk:k<l.length)(hx:l[k]=x):(l.take k).map aA.id++[x.id]=(l.take (k+1)).map aA.id:=by
 rw[aoZ hk,aoL,hx]; rfl
set_option maxRecDepth 100000 in
set_option maxHeartbeats 3200000 in
theorem Po{w:World}{s:dF}(h:kW K w s)(hg:gI w) :
  Calls Tryz.prog 64 #[s.v] w fun e w'=>e = .returned (.tuple #[.i s.key.chk.1,.i s.key.chk.2])∧Ext w w':=by
 have hmax:s.ns.length≤9223372036854775807:=h.2.2.1.len;refine anA Tryz.func64 Tryz.ntmps64 (fun ac S=>?_);obtain⟨a,cap,es⟩:∃a c,s.s = .slice a s.ns.length c:=⟨_,_,rfl⟩;have hr:=h.2.2.1;rw[es]at hr;refine anv fun _ aS=>anw S 1 s.cells fun ac u b2 E3 hb4 S=>adr S 2 [] [(2,.i 0),(3,.i 0)] fun S=>anu<|aS _ _<|anV fun _ bM=>anv fun _ iL=>adr S 18 [.mem 0 0,.mem 0 0,.mem 0 1,.mem 0 1] [(26,.bool ((((decide (s.w<1))||(decide (256<s.w)))||(decide (s.h<1)))||(decide (256<s.h))))] fun S=>anu (iL _ _ ?_);refine anx S (fun mG=>?_) (fun mG=>?_)
 ·refine anv fun _ eu=>adr S 2 [] [(2,.i 6),(3,.i 0)] fun S=>anu<|eu _ _<|Sx.Pq S Tryz.results64 ?_;exact⟨by rw[Pn (s:=s.key) mG],S.E⟩
 refine anZ<|bM _ _<|anV fun _ ig=>anv fun _ eX=>adr S 4 [.mem 0 6,.re 28 s.s (.slice a s.ns.length cap)] [(30,.bool (64<(s.ns.length:Int)))] (hk:=⟨es,trivial⟩) fun S=>anu (eX _ _ ?_);refine anx S (fun jB=>?_) (fun jB=>?_)
 ·refine anv fun _ dW=>adr S 2 [] [(2,.i 5),(3,.i 64)] fun S=>anu<|dW _ _<|an2 ?_;have hq:=nV (s:=s.key) mG;rw[show s.key.ns=keys s.ns from rfl,apD]at hq;refine Sx.qZ S Tryz.results64 ?_;exact⟨by rw[hq,an6 (by have:=aoe jB; omega)],S.E⟩
 refine anZ<|ig _ _<|anv (fun _ iH=>?_);have hold:=S.E.size;have amM:=(S.bx 0).1;refine Sx.ajK S 31 (fun ac u b E0 hb hM S=>?_);have R:=aoz S;have hbo:w.heap.size≤b∧b≠b2:=⟨by omega,by omega⟩;have hMo:Sx.Ow _ (Sx.Ob [(b2,s.cells)] []) (fun W=>mQ Tryz.prog 3 4 W b []) _:=Sx.On.mono (Sx.Pj (hM _ _)) fun i hi=>by subst hi; exact⟨hbo.1,by simpa[Sx.Ob]using hbo.2⟩
 refine adr S 1 [] [(4,.map (some b))] fun S=>anu<|iH _ _<|anv fun _ fP=>adr S 1 [] [(5,.i 0)] fun S=>anu<|fP _ _<|anV fun _ gQ=>anv fun _ iM=>adr S 4 [.mem 0 6,.re 33 s.s (.slice a s.ns.length cap)] [(33,.slice a s.ns.length cap),(34,.i s.ns.length),(35,.i 0)] (hk:=⟨es,trivial⟩) fun S=>anu<|iM _ _<|an1 ?_;refine aow (ι:=Nat×Int) (fun p a' w'=>p.1≤s.ns.length∧(uQ s.ns p.1 p.2)∧Sx.Rw w w' [(b2,s.cells)] []∧Sx.Ow w.heap.size (Sx.Ob [(b2,s.cells)] []) (fun W=>mQ Tryz.prog 3 4 W b ((s.ns.take p.1).map aA.id)) w'∧Sx.St w a' w' 67 [(0,s.v),(1,.q b2 0),(2,.i 0),(3,.i 0),(4,.map (some b)),(5,.i p.2),(33,.slice a s.ns.length cap),(34,.i s.ns.length),(35,.i p.1)] [(b2,s.cells)] []) (fun p=>s.ns.length-p.1) (0,0) ⟨aoa _,uQ.start _,R,hMo,S.sn⟩ ?_;rintro⟨k,m⟩ ac u hI;try dsimp only at hI
 obtain⟨hk,hR,R,aeZ,S⟩:=hI;refine anv fun _ gV=>adr S 1 [] [(36,.bool ((k:Int)<(s.ns.length:Int)))] fun S=>anu<|gV _ _<|anV (fun _ iI=>?_);refine anx S (fun hc19=>?_) (fun hc19=>?_)
 ·refine anZ<|iI _ _<|anV fun _ jk=>an1<|anv (fun _ jC=>?_);have hMl:=(Sx.On.self (aeZ)).lt;have oZ:k<s.ns.length:=by have:=aoe hc19; omega
  obtain⟨b22,o23,rfl,x28,uZ,Io,Qu⟩:=aom hr (fun _=>rfl) (k) oZ;have hxo:=h.2.2.2 _ (uZ▸aot oZ);have S:=S.view0 Io Qu;refine adr S 3 [.idx k s.ns.length,.mem 1 0] [(37,.i k),(39,x28.v)] (hk:=⟨oZ,trivial⟩) fun S=>anw S 7 (Sx.L [.i 0,.i 0,.i 0]++Sx.za++Sx.L [.sn,.i 0,.u 0,.i 0,.z,.z,.sn,.i 0,.sn,.i 0,.i 0,.i 0,.i 0,.sn,.i 0,.sn,.i 0,.i 0,.sn,.i 0]) fun ac u b30 DF A8 S=>adr S 1 [] [(6,.i k)] fun S=>anC S 0 (off:=0) (cs:=x28.cells) rfl (fun u Ya S=>?_);have hbn:b≠b30:=by omega
  refine anu<|jC _ _<|anV fun _ oQ=>anv fun _ nZ=>adr S 1 [.mem 0 0] [(40,x28.v)] fun S=>anE S 41 (yZ ((h.2.2.2 _ (uZ▸aot oZ)).below S.E) (hg.below S.E)) fun ac u Xf S=>adr S 1 [] [(8,.i x28.checkN)] fun S=>anu<|nZ _ _<|anv fun _ qK=>adr S 2 [] [(43,.bool ((x28.checkN) != 0))] fun S=>anu (qK _ _ ?_);refine anx S (fun hc38=>?_) (fun hc38=>?_)
  ·refine anv fun _ qm=>adr S 4 [] [(2,.i x28.checkN),(3,.i k)] fun S=>anu<|qm _ _<|an2 ?_;have hq:=nV (s:=s.key) mG;rw[show s.key.ns=keys s.ns from rfl,apD]at hq;refine Sx.qZ S Tryz.results64 ?_;rw[an0 (by have:=aoi jB; omega)]at hq;exact⟨by rw[hq,hR.bad oZ uZ (GZ (by simpa using hc38)) (by simpa using hc38)],S.E⟩
  refine anZ<|oQ _ _<|anV fun _ wY=>anv fun _ xk=>adr S 3 [.mem 0 0] [(46,.map (some b)),(48,.i x28.id)] (fun S=>?_);obtain⟨R,Y42⟩:=R.aT S (an4 (aoG DF A8) (an4 (Sx.Stp.chm Ya (by simp[Sx.vb])) (aoc Xf)));have hMn:=Sx.On.self ((aoh aeZ Y42));refine Sx.ag6 S 49 hMn Tryz.underlying3 Tryz.underlying4 Tryz.underlying174 (Xk _) (hxo.1.1) fun ac S=>anu (xk _ _ ?_);refine anx S (fun aaw=>?_) (fun aaw=>?_)
  ·refine anv fun _ zQ=>adr S 3 [] [(2,.i 7),(3,.i k)] fun S=>anu<|zQ _ _<|an2 ?_;have hq:=nV (s:=s.key) mG;rw[show s.key.ns=keys s.ns from rfl,apD]at hq;refine Sx.qZ S Tryz.results64 ?_;rw[an0 (by have:=aoi jB; omega)]at hq;exact⟨by rw[hq,hR.bad oZ uZ (JC (by simpa using hc38) (by rw[←Le]; exact aaw)) (by decide)],S.E⟩
  refine anZ<|wY _ _<|anV fun _ FI=>anv fun _ Ef=>adr S 4 [.mem 0 2] [(54,.bool (m<x28.depth))] fun S=>anu (Ef _ _ ?_);refine anx S (fun hc47=>?_) (fun hc47=>?_)
  ·refine anv fun _ wF=>adr S 3 [] [(2,.i 17),(3,.i k)] fun S=>anu<|wF _ _<|an2 ?_;have hq:=nV (s:=s.key) mG;rw[show s.key.ns=keys s.ns from rfl,apD]at hq;refine Sx.qZ S Tryz.results64 ?_;rw[an0 (by have:=aoi jB; omega)]at hq;exact⟨by rw[hq,hR.bad oZ uZ (D5 (by simpa using hc38) (by rw[←Le]; exact aaw) (by have:=aoe hc47; rw[←hR.room]; omega)) (by decide)],S.E⟩
  refine anZ<|FI _ _<|anv fun _ yM=>adr S 3 [.mem 0 0] [(56,.map (some b)),(58,.i x28.id)] (fun S=>?_);have hMn:=Sx.On.self ((aoh aeZ Y42));refine Sx.ajM S hMn (S.E.size |> fun _=>hbo.1) Tryz.underlying3 Tryz.underlying4 Tryz.underlying174 (by rw[apD,ap3]; show _<9223372036854775807; omega) hxo.1.1 (fun u hM2 hgr S=>?_);have R:=aoz S;have hMo:Sx.Ow w.heap.size (Sx.Ob [(b30,x28.cells),(b2,s.cells)] []) (fun W=>mQ Tryz.prog 3 4 W b ((s.ns.take (k+1)).map aA.id)) u:=by
   rw[aav oZ uZ]at hM2;exact Sx.On.mono (Sx.Pj hM2) fun i hi=>by subst hi; exact⟨hbo.1,by simpa[Sx.Ob]using ⟨hbn,hbo.2⟩⟩
  refine anu<|yM _ _<|anv fun _ yN=>adr S 3 [.mem 0 2] [(5,.i x28.depth)] fun S=>anu<|yN _ _<|anv fun _ FP=>adr S 3 [.mem 0 1] [(63,.bool ((x28.kind)==1))] fun S=>anu (FP _ _ ?_);refine anx S (fun zU=>?_) (fun zU=>?_)
  ·refine an3<|adr S 3 [Sx.kw 65 (x28.depth+1)] [(5,.i (x28.depth+1))] (hk:=⟨Sx.Z5 (by have:=vT (n:=x28) (by simpa using hc38); omega),trivial⟩) fun S=>anu<|jk _ _<|an3<|adr S 2 [.re 66 (.i (IntKind.i64.wrap ((k:Int)+1))) (.i (k+1:Nat))] [(35,.i (k+1:Nat))] (hk:=⟨anJ (by omega),trivial⟩) fun S=>anu ?_;have S:=S.gq 1;obtain⟨R,Y53⟩:=R.aT S (aoD 1);show ∃i',_∧_;exact⟨((k+1),(x28.depth+1)),⟨by omega,hR.next oZ uZ (G5 (by simpa using hc38) (by rw[←Le]; exact aaw) (by have:=aoi hc47; rw[←hR.room]; omega)) (by rw[an6 (by simpa using zU)]),R,(aoh hMo Y53),S.sn⟩,by show _-_<_-_; omega⟩
  refine anZ<|jk _ _<|an3<|adr S 2 [.re 66 (.i (IntKind.i64.wrap ((k:Int)+1))) (.i (k+1:Nat))] [(35,.i (k+1:Nat))] (hk:=⟨anJ (by omega),trivial⟩) fun S=>anu ?_;have S:=S.gq 1;obtain⟨R,Y54⟩:=R.aT S (aoD 1);show ∃i',_∧_;exact⟨((k+1),x28.depth),⟨by omega,hR.next oZ uZ (G5 (by simpa using hc38) (by rw[←Le]; exact aaw) (by have:=aoi hc47; rw[←hR.room]; omega)) (by rw[an0 (by simpa using zU)]),R,(aoh hMo Y54),S.sn⟩,by show _-_<_-_; omega⟩
 refine aod<|gQ _ _<|anv fun _ Om=>adr S 2 [] [(2,.i 0),(3,.i 0)] fun S=>anu<|Om _ _<|an2 ?_;have hq:=nV (s:=s.key) mG;rw[show s.key.ns=keys s.ns from rfl,apD]at hq;refine Sx.qZ S Tryz.results64 ?_;rw[an0 (by have:=aoi jB; omega)]at hq;exact⟨by rw[hq,hR.done (by have:=aoi hc19; omega)],S.E⟩
end
section
open Go.RowKit
variable{α:Type}{K:Nat}
theorem fG.eqP{w w':World}{a b:aA}(h:fG K w a)(h':fG K w' b):a.eqP b=decide (a.key=b.key):=acu h.nrm h'.nrm
theorem Lh(c d:bT):(((c.r.toNat:Int)==d.r.toNat)&&(((c.g.toNat:Int)==d.g.toNat)&&(((c.b.toNat:Int)==d.b.toNat)&&((c.a.toNat:Int)==d.a.toNat))))=decide (c=d):=by
 rw[aoR];simp only[aoq,aoo,La,aov];exact UR
theorem Lj(c d:bT)(w:World):(binOp .eql 23 (.agg c.cells.toArray) (.agg d.cells.toArray)).run Tryz.prog w = .ok (.bool (c=d)) w:=by
 rw[←Lh]; exact I8 ..
theorem adD(a b c d e f g h:Int)(w:World):(binOp .neq 23 (.agg #[.u a,.u b,.u c,.u d]) (.agg #[.u e,.u f,.u g,.u h])).run Tryz.prog w = .ok (.bool (!((a==e)&&((b==f)&&((c==g)&&(d==h)))))) w:=by
 simp[go_sem];(repeat' split)<;>simp_all
theorem ae0(c d:bT)(w:World):(binOp .neq 23 (.agg c.cells.toArray) (.agg d.cells.toArray)).run Tryz.prog w = .ok (.bool (!decide (c=d))) w:=by
 rw[←Lh]; exact adD ..
theorem ae1{l m:List aA}{k:Nat}(hk:l.length≤k)(h:l.length=m.length)(hR:(keys l).take k=(keys m).take k):true=decide (keys l=keys m):=by
 rw[aou (by simpa using hk),aou (by simpa using (show m.length≤k by omega))]at hR;simp[hR]
theorem acy{l m:List aA}{k:Nat}(h1:k<l.length)(h2:k<m.length)(hR:(keys l).take k=(keys m).take k){x y:aA}(hx:l[k]=x)(hy:m[k]=y)(h:(!decide (x.key=y.key))=false):(keys l).take (k+1)=(keys m).take (k+1):=by
 rw[aoZ (by simpa using h1),aoZ (by simpa using h2),hR,Dc h1 hx,Dc h2 hy];simp at h;rw[h]
theorem ag8{l m:List aA}{k:Nat}(h1:k<l.length)(h2:k<m.length){x y:aA}(hx:l[k]=x)(hy:m[k]=y)(h:(!decide (x.key=y.key))=true):false=decide (keys l=keys m):=by
 symm;rw[ao3];intro e;have:=an9 (·[k]?) e;simp only[keys,List.getElem?_map,List.getElem?_eq_getElem h1,List.getElem?_eq_getElem h2,hx,hy,aoO,an8]at this;simp[this]at h
theorem ag9{s t:dF}(h:((((s.w) != t.w)||((s.h) != t.h))||(!decide (s.bg=t.bg))||((s.ns.length:Int) != (t.ns.length:Int)))=true):false=decide (s.key=t.key):=by
 symm;rw[ao3];intro e;simp only[dF.key,jU.mk.injEq]at e;have hl:=an9 List.length e.2.2.2;simp at hl;simp[e.1,e.2.1,e.2.2.1,hl]at h
theorem aax{s t:dF}(h:((((s.w) != t.w)||((s.h) != t.h))||(!decide (s.bg=t.bg))||((s.ns.length:Int) != (t.ns.length:Int)))=false):s.ns.length=t.ns.length:=by
 simp at h; omega
theorem adE{s t:dF}{b:Bool}(h:((((s.w) != t.w)||((s.h) != t.h))||(!decide (s.bg=t.bg))||((s.ns.length:Int) != (t.ns.length:Int)))=false)(hb:b=decide (keys s.ns=keys t.ns)):b=decide (s.key=t.key):=by
 rw[hb];simp at h;simp[dF.key,h]
theorem yC{w:World}{a b:aA}(h:fG K w a)(h':fG K w b):Calls Tryz.prog 28 #[a.v,b.v] w fun e w'=>e = .returned (.bool (a.key=b.key))∧Ext w w':=by
 rw[←h.eqP h']; exact IL h h'
set_option maxRecDepth 100000 in
set_option maxHeartbeats 1600000 in
theorem D6{w:World}{s:dF}(h:kW K w s)(hg:gI w) :
  Calls Tryz.prog 24 #[s.v] w fun e w'=>e = .returned (.bool s.key.valid)∧Ext w w':=by
 skip;refine anA Tryz.func24 Tryz.ntmps24 fun ac S=>anv fun _ aS=>anw S 1 s.cells fun ac u b2 E3 hb4 S=>adr S 1 [] [(2,.z)] fun S=>anu<|aS _ _<|anv fun _ bM=>adr S 1 [.mem 0 0] [(6,s.v)] fun S=>anE S 7 (Po (h.below S.E) (hg.below S.E)) fun ac u E6 S=>adr S 5 [] [(3,.i s.key.chk.1)] fun S=>anu<|bM _ _<|anv fun _ iZ=>adr S 3 [] [(2,.bool ((s.key.chk.1)==0))] fun S=>anu<|iZ _ _<|anz S Tryz.results24 ?_;exact⟨rfl,S.E⟩
end
section
open Go.RowKit
variable{α:Type}{K:Nat}
theorem iT{f:α→Value}{w:World}{v:Value}{l:List α}(h:aV 1 (fun x=>[f x]) w v l):dS f w v l:=by
 obtain⟨a,cap,hv,hm,h⟩:=h;refine⟨a,cap,hv,hm,?_⟩;rcases h with h | ⟨b,o,ha,hlt,hl,hc⟩
 ·exact .inl h
 exact .inr ⟨b,o,ha,hlt,hl,fun i hi=>by have:=hc i hi 0 (by omega); simpa using this⟩
def bD.lim(t:bD):Prop:=t.fit 1000000
end
section
open Go.RowKit
variable{α:Type}{K:Nat}
def ak.lim(p:ak):Prop:=p.stops.length≤10000000∧p.img.l.length≤10000000∧p.t.lim
def aA.lim(n:aA):Prop:=n.t.lim∧n.clip.length≤10000000∧n.path.length≤10000000∧n.fill.length≤10000000∧(∀p∈n.fill,p.lim)∧n.style.dash.length≤10000000∧n.stroke.length≤10000000∧(∀p∈n.stroke,p.lim)∧n.img.l.length≤10000000
end
section
open Go.RowKit
variable{α:Type}{K:Nat}
abbrev OwnB (base:Nat)(w:World)(v:Value)(l:List UInt8):Prop:=w.ownsRow base 5 1 v l.length (l.map dY)
theorem Ll(l:List UInt8):l.flatMap (fun n:UInt8=>[dY n])=l.map dY:=by induction l<;>simp_all
theorem rowB{base:Nat}{w:World}{v:Value}{l:List UInt8}(h:OwnB base w v l):aV 1 (fun n:UInt8=>[dY n]) w v l:=Sx.On.self (Sx.FD (f:=fun n:UInt8=>[dY n]) (L:=l) (fun _=>rfl) h rfl (Ll l).symm)
theorem jL{base:Nat}{w:World}{v:Value}{l:List UInt8}(h:OwnB base w v l):fK w 1 v l.length (l.map dY):=by
 have:=Sx.Zi (rowB h) (fun _=>rfl) (fun _=>rfl);rwa [Ll]at this
theorem kQ{base:Nat}{w:World}{v:Value}{l:List UInt8}(h:OwnB base w v l):bI w v l:=iT (rowB h)
theorem wrap_u64{n:Nat}(h:n<18446744073709551616):Value.int .u64 (IntKind.u64.wrap (n:Int)) = .int .u64 (n:Int):=by
 congr 1;rw[ao8];omega
end
end Go.Proofs.YtapmgonflgahbaaGreatDoor
theorem anL:type_of% @Go.Sx.aK:=@Go.Sx.aK
