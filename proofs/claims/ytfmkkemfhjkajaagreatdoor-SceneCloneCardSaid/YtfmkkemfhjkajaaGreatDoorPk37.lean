/- A set of numbers kept as a map from int to bool, made by -/
import Derived.Maps.Own
import Derived.Maps.Views
import Derived.Test.YtfmkkemfhjkajaaGreatDoorPk33
import Derived.Test.YtfmkkemfhjkajaaGreatDoorHoist2
set_option linter.unusedVariables false
section
namespace Go.Proofs.YtfmkkemfhjkajaaGreatDoor
open Go.Maps
variable{P:Program}{k e t:TypeId}{b:Nat}{ids:List Int}{w w':World}
def kH(P:Program)(k e:TypeId)(w:World)(b:Nat)(ids:List Int):Prop:=
 ∃D:DataW Unit,w.ownsMap P k (plainElem P e) b ids.length D∧IsMap D∧∀x:Int,I64 x→D.atKey (.int .i64 x) (.lit (.bool false)) = .lit (.bool (ids.any (· == x)))
theorem TM(P:Program)(k e:TypeId)(w:World):kH P k e (w.alloc (.map #[] 0)) w.heap.size []:=
 ⟨.map [],World.ownsMap_made w P k _,isMap_empty,fun x _=>rfl⟩
theorem wf_i64{x:Int}(h:I64 x):(Lit.int .i64 x).wf=true:=by
 obtain⟨h1,h2⟩:=h;have e1:IntKind.i64.min = -9223372036854775808:=by decide
 have e2:IntKind.i64.max=9223372036854775807:=by decide
 simp[Lit.wf,e1,e2];omega
theorem zQ{H:Type}(he:P.underlying e=some .bool){v:Value}{z:DataW H×List MemPlace}(h:plainElem P e v=some z):∃c,v = .bool c∧z=(.lit (.bool c),[]):=by
 unfold plainElem at h;rw[he]at h;cases v<;>simp at h;exact⟨_,rfl,h.symm⟩
theorem kH.lt(h:kH P k e w b ids):b<w.heap.size:=by obtain⟨D,h,_⟩:=h; exact h.lt
theorem kH.kept(h:kH P k e w b ids)(hb:∀i,i=b→w'.heap[i]?=w.heap[i]?):kH P k e w' b ids:=by
 obtain⟨D,⟨es,clock,hB,F,hs,hD⟩,h2,h3⟩:=h;exact⟨D,⟨es,clock,(hb b rfl).trans hB,F,hs,hD⟩,h2,h3⟩
theorem kH.ext(h:kH P k e w b ids)(hb:Ext w w'):kH P k e w' b ids:=h.kept fun i hi=>hb.block i (by rw[hi]; exact h.lt)
theorem kH.lookup(h:kH P k e w b ids)(hk:P.underlying k=some (.int .i64))(he:P.underlying e=some .bool)(ht:P.underlying t=some (.map k e))(hz:(zeroValue e).run P w = .ok (.bool false) w){x:Int}(hx:I64 x) :
  (Instr.lookup t (.map (some b)) (.i x) false).run P w = .ok (.bool (ids.any (· == x))) w:=by
 obtain⟨D,h1,h2,h3⟩:=h;obtain⟨v,ps,hrun,hv⟩:=h1.lookup (int_keyed hk) ht hz (plainElem_bool he false) (keyOf_int_mk hk (wf_i64 hx));obtain⟨c,rfl,hc⟩:=zQ he hv;simp only[ali]at hc;rw[h3 x hx]at hc;obtain⟨hc,-⟩:=hc;cases hc;exact hrun
theorem kH.update(h:kH P k e w b ids)(hk:P.underlying k=some (.int .i64))(he:P.underlying e=some .bool)(ht:P.underlying t=some (.map k e))(hn:ids.length<maxLen){x:Int}(hx:I64 x) :
  ∃w',(Instr.mapUpdate t (.map (some b)) (.i x) (.bool true)).run P w = .ok () w'∧kH P k e w' b (ids++[x])∧w.grownBy w' (some b):=by
 obtain⟨D,h1,h2,h3⟩:=h;obtain⟨w',hrun,ho,hg⟩:=h1.update (int_keyed hk) ht hn (keyOf_int_mk hk (wf_i64 hx)) (plainElem_bool he true);refine⟨w',hrun,⟨D.put (.int .i64 x) (.lit (.bool true)),?_,h2.put _ _,fun y hy=>?_⟩,hg⟩
 ·rw[amC,anG]; exact ho
 rw[List.any_append,List.any_cons,List.any_nil,Bool.or_false];by_cases hxy:x=y
 ·subst hxy;rw[atKey_put_same h2 (k := .int .i64 x) (by first | trivial | simp[WideAt.IsKeyLit])];simp
 rw[atKey_put_other (by simpa using fun h=>hxy h.symm),h3 y hy];simp[hxy]
end Go.Proofs.YtfmkkemfhjkajaaGreatDoor
namespace Go.Sx
open Go.Proofs.YtfmkkemfhjkajaaGreatDoor Go.RowKit Go.Rel
variable{P:Program}{k e:TypeId}{b:Nat}{ids:List Int}{w w':World}
variable{ops:Array Oper}{Q:Exit→Act→World→Prop}{w0:World}{a:Act}{os:List Oper}{n:Nat}{l:List (Nat×Value)}{bl:List (Nat×List Value)}{vs:List gX}
def PD(os:List Oper):Option Nat:=match os with
 | o::_=>(match o.guard,o.dst,o.op with
  | none,some d,.makeMap _ none=>some d
  | _,_,_=>none)
 | []=>none
def lookOf(os:List Oper)(l:List (Nat×Value)):Option (TypeId×Nat×Int×Nat):=match os with
 | o::_=>(match o.guard,o.dst,o.op with
  | none,some d,.lookup t x i false=>(match rd (lift l) [] x,rd (lift l) [] i with
   | some (.map (some b)),some (.i z)=>some (t,b,z,d)
   | _,_=>none)
  | _,_,_=>none)
 | []=>none
def ade(os:List Oper)(l:List (Nat×Value)):Option (TypeId×Nat×Int):=match os with
 | o::_=>(match o.guard,o.dst,o.op with
  | none,none,.mapUpdate t x i v=>(match rd (lift l) [] x,rd (lift l) [] i,rd (lift l) [] v with
   | some (.map (some b)),some (.i z),some (.bool true)=>some (t,b,z)
   | _,_,_=>none)
  | _,_,_=>none)
 | []=>none
theorem aiq(S:St w0 a w n l bl vs)(d:Nat)(next:∀a' w' b,Ext w w'→b=w.heap.size→(∀k e,kH P k e w' b [])→St w0 a' w' n ((d,.map (some b))::l) bl vs→wpList P ops Q (os.drop 1) a' w')
  (hx:PD os=some d:=by kernel_rfl) (hd:Jt n (some d)=true:=by rfl):wpList P ops Q os a w:=by
 unfold PD at hx;split at hx
 ·rename_i o os';split at hx
  ·rename_i d' t hg hdst hop;cases hx;have hrun:(execOp a.eval o).run P w = .ok (.value (.map (some w.heap.size))) (w.alloc (.map #[] 0)):=by
    unfold execOp;simp only[hop];rfl
   unfold wpList;rw[ale (by simp[Region.wanted,hg])];left;unfold Oper.wp;rw[hrun];simp only[Oper.upon];have hE:Ext w (w.alloc (.map #[] 0)):=aT _ _;have S1:=S.grow hE;rw[hdst];exact next _ _ w.heap.size hE rfl (fun k e=>TM P k e w) ⟨DU S.s hd _,S1.E,S1.own,S1.apart,S1.mem⟩
  cases hx
 cases hx
theorem af4(S:St w0 a w n l bl vs)(d:Nat){t:TypeId}{z:Int}(h:kH P k e w b ids)(hk:P.underlying k=some (.int .i64))(he:P.underlying e=some .bool)(ht:P.underlying t=some (.map k e))(hz:(zeroValue e).run P w = .ok (.bool false) w)(hi:I64 z)
  (next:∀a',St w0 a' w n ((d,.bool (ids.any (· == z)))::l) bl vs→wpList P ops Q (os.drop 1) a' w)
  (hx:lookOf os l=some (t,b,z,d):=by kernel_rfl) (hd:Jt n (some d)=true:=by rfl):wpList P ops Q os a w:=by
 unfold lookOf at hx;split at hx
 ·rename_i o os';split at hx
  ·rename_i d' t' x i hg hdst hop;split at hx
   ·rename_i b' z' hxx hii;cases hx;have hR:=jH (dG S.s) o;have hxv:=ig (Std.act a) (hR x (by rw[hop]; simp[Op.operands])) (p:=[]) rfl hxx;have hyv:=ig (Std.act a) (hR i (by rw[hop]; simp[Op.operands])) (p:=[]) rfl hii;have hrun:(execOp a.eval o).run P w = .ok (.value (.bool (ids.any (· == z)))) w:=by
     unfold execOp;simp only[hop,hxv,hyv,al1,h.lookup hk he ht hz hi];rfl
    unfold wpList;rw[ale (by simp[Region.wanted,hg])];left;unfold Oper.wp;rw[hrun];simp only[Oper.upon];rw[hdst];exact next _ (S.act (DU S.s hd _))
   cases hx
  cases hx
 cases hx
theorem St.air(S:St w0 a w n l bl vs)(h:kH P k e w b ids)(hb:w0.heap.size≤b)(hg:w.grownBy w' (some b))(h1:bl.all (fun p => !p.2.isEmpty)=true)(h2:vs.all (fun m => !m.2.2.isEmpty)=true):St w0 a w' n l bl vs:=by
 have hm:∀i,w.cell? ⟨b,i,none⟩=none:=by
  obtain⟨D,⟨es,clock,hB,_⟩,_⟩:=h;intro i;simp[World.cell?,hB]
 have hcell:∀c i,c<w.heap.size→c≠b→w'.cell? ⟨c,i,none⟩=w.cell? ⟨c,i,none⟩:=by
  intro c i hc hne;simp only[World.cell?];rw[hg.block c hc (fun e=>hne (alm e))]
 have af5:∀c i,c<w.heap.size→c≠b→w'.frozen? ⟨c,i,none⟩=w.frozen? ⟨c,i,none⟩:=by
  intro c i hc hne;simp only[World.frozen?];rw[hg.block c hc (fun e=>hne (alm e))]
 have hE:Ext w0 w':=S.E.grown hg S.E.size (fun k e=>by cases e; exact hb);refine⟨S.s,hE,fun p hp=>?_,S.apart,fun m hmm=>?_⟩
 ·obtain⟨⟨q1,q2,q3⟩,q4⟩:=S.own p hp;have hne:p.1≠b:=by
   intro e;have h3:=alE.1 h1 p hp;have h4:=q2 0;rw[e,hm 0]at h4;cases hA:p.2 with
   | nil=>rw[hA]at h3; cases h3
   | cons x A=>rw[hA]at h4; simp at h4
  exact⟨⟨alH q1 hg.size,fun i=>by rw[hcell _ _ q1 hne]; exact q2 i,fun i=>by rw[af5 _ _ q1 hne]; exact q3 i⟩,q4⟩
 obtain⟨⟨q1,q2⟩,q3⟩:=S.mem m hmm;have hne:m.1≠b:=by
  intro e;have h3:=alE.1 h2 m hmm;cases hA:m.2.2 with
  | nil=>rw[hA]at h3; cases h3
  | cons x A =>
   have h4:=q2 0 x (by rw[hA]; rfl);rw[e,hm]at h4;cases h4
 exact⟨⟨alH q1 hg.size,fun i v hi=>by rw[hcell _ _ q1 hne]; exact q2 i v hi⟩,q3⟩
theorem ais(S:St w0 a w n l bl vs){t:TypeId}{z:Int}(h:kH P k e w b ids)(hb:w0.heap.size≤b)(hk:P.underlying k=some (.int .i64))(he:P.underlying e=some .bool)(ht:P.underlying t=some (.map k e))(hn:ids.length<maxLen)(hi:I64 z)
  (next:∀w',kH P k e w' b (ids++[z])→w.grownBy w' (some b)→St w0 a w' n l bl vs→wpList P ops Q (os.drop 1) a w')
  (hx:ade os l=some (t,b,z):=by kernel_rfl) (h1:bl.all (fun p => !p.2.isEmpty)=true:=by kernel_rfl) (h2:vs.all (fun m => !m.2.2.isEmpty)=true:=by kernel_rfl):wpList P ops Q os a w:=by
 unfold ade at hx;split at hx
 ·rename_i o os';split at hx
  ·rename_i t' x i v hg hdst hop;split at hx
   ·rename_i b' z' hxx hii hvv;cases hx;have hR:=jH (dG S.s) o;have hxv:=ig (Std.act a) (hR x (by rw[hop]; simp[Op.operands])) (p:=[]) rfl hxx;have hyv:=ig (Std.act a) (hR i (by rw[hop]; simp[Op.operands])) (p:=[]) rfl hii;have hzv:=ig (Std.act a) (hR v (by rw[hop]; simp[Op.operands])) (p:=[]) rfl hvv;obtain⟨w',hrun,h',hg'⟩:=h.update hk he ht hn hi;have hrun:(execOp a.eval o).run P w = .ok .skip w':=by
     unfold execOp;simp only[hop,hxv,hyv,hzv,al1,hrun];rfl
    unfold wpList;rw[ale (by simp[Region.wanted,hg])];left;unfold Oper.wp;rw[hrun];simp only[Oper.upon];rw[hdst];exact next _ h' hg' (S.air h hb hg' h1 h2)
   cases hx
  cases hx
 cases hx
theorem PE(h:kH P k e w b ids):On (fun i=>i=b) (fun w=>kH P k e w b ids) w:=fun w' hs hb=>h.kept fun i hi=>hb i (by rw[hi]; exact h.lt) hi
end Go.Sx
end
section
set_option maxHeartbeats 3200000
set_option maxRecDepth 100000
namespace Go.Proofs.YtfmkkemfhjkajaaGreatDoor
open Go.RowKit
variable{α:Type}{K:Nat}
abbrev keys (l:List aj):List aI:=l.map aj.key
theorem gB{l:List aj}{i:Nat}(h:i<l.length):jE (keys l) i=l[i].depth:=by
 rw[pG (by simpa using h)]; simp[keys,aj.key]
theorem TN{z:Int}(h:0≤z):∃i:Nat,z=(i:Int):=⟨z.toNat,by omega⟩
theorem PG{l:List aj}{id:Int}{k:Nat}(hk:k<l.length)(h:l[k].id=id)(hR:∀(j:Nat) (hj:j<l.length),j<k→l[j].id≠id):jB (keys l) id=(k:Int):=by
 have:jl (keys l) id=some k:=by
  unfold jl;rw[List.findIdx?_eq_some_iff_getElem];refine⟨by simpa using hk,by simpa[keys,aj.key]using h,fun j hj=>?_⟩;have:=hR j (by omega) hj;simpa[keys,aj.key]using this
 unfold jB; rw[this]
theorem GV{l:List aj}{id:Int}(hR:∀(j:Nat) (hj:j<l.length),l[j].id≠id):jB (keys l) id = -1:=by
 have:jl (keys l) id=none:=by
  unfold jl;rw[List.findIdx?_eq_none_iff];intro κ hκ;obtain⟨n,hn,rfl⟩:=alL.1 hκ;obtain⟨j,hj,rfl⟩:=List.getElem_of_mem hn;simpa[aj.key]using hR j hj
 unfold jB; rw[this]
theorem JF{l:List aj}{id:Int}{k:Nat}(hk:k<l.length)(hR:∀(j:Nat) (hj:j<l.length),j<k→l[j].id≠id)(h:l[k].id≠id):∀(j:Nat) (hj:j<l.length),j<k+1→l[j].id≠id:=fun j hj h1=>by
 by_cases e:j=k
 ·subst e; exact h
 exact hR j hj (by omega)
theorem aeH{l:List aj}{i j:Nat}(hj:j<l.length)(hi:i<l.length)(h:¬l[j].depth=l[i].depth-1):mW (jE (keys l)) (jE (keys l) i-1) (j+1)=mW (jE (keys l)) (jE (keys l) i-1) j:=by
 conv=>lhs; unfold mW
 rw[ak9 (by rw[gB hj,gB hi]; exact h)]
theorem acr{l:List aj}{i j:Nat}(hj:j<l.length)(hi:i<l.length)(h:l[j].depth=l[i].depth-1):mW (jE (keys l)) (jE (keys l) i-1) (j+1)=(j:Int):=by
 unfold mW;rw[ale (by rw[gB hj,gB hi]; exact h)]
theorem PI{s:aN}(h:((((decide (s.w<1))||(decide (256<s.w)))||(decide (s.h<1)))||(decide (256<s.h)))=true):s.chk=(6,0):=by
 unfold aN.chk;rw[ale (by simpa[or_assoc]using h)]
theorem nH{s:aN}(h:((((decide (s.w<1))||(decide (256<s.w)))||(decide (s.h<1)))||(decide (256<s.h)))=false):s.chk=if 64<s.ns.length then (5,64)else iQ [] s.ns:=by
 unfold aN.chk;rw[ak9 (by simpa[or_assoc,and_assoc]using h)]
theorem GX{l:List aI}{k:Nat}(hk:k<l.length):iQ (l.take k) (l.drop k)=if eY (l.take k) l[k]=0 then iQ (l.take (k+1)) (l.drop (k+1))else (eY (l.take k) l[k],(k:Int)):=by
 rw[al8 hk,alY hk];conv=>lhs; unfold iQ
 rw[amR,amG (by omega)]
theorem Cj{l:List aj}{k:Nat}(hk:k<l.length){x:aj}(hx:l[k]=x):(keys l)[k]'(by simpa using hk)=x.key:=by simp[keys,hx]
theorem LG(l:List aj)(k:Nat)(id:Int):((l.take k).map aj.id).any (· == id)=((keys l).take k).any fun κ=>κ.id==id:=by
 rw[←anf,List.any_map,List.any_map]; rfl
structure uM (l:List aj) (k:Nat) (m:Int):Prop where
 all:iQ [] (keys l)=iQ ((keys l).take k) ((keys l).drop k)
 room:m=nV ((keys l).take k)
theorem uM.start(l:List aj):uM l 0 0:=⟨by simp,rfl⟩
theorem uM.bad{l:List aj}{k:Nat}{m n:Int}{x:aj}(h:uM l k m)(hk:k<l.length)(hx:l[k]=x)(hw:eY ((keys l).take k) x.key=n)(hn:n≠0):iQ [] (keys l)=(n,(k:Int)):=by
 rw[h.all,GX (by simpa using hk),Cj hk hx,hw,ak9 hn]
theorem uM.next{l:List aj}{k:Nat}{m m':Int}{x:aj}(h:uM l k m)(hk:k<l.length)(hx:l[k]=x)(hw:eY ((keys l).take k) x.key=0)(hm:m'=if x.kind=1 then x.depth+1 else x.depth):uM l (k+1) m':=by
 have hk':k<(keys l).length:=by simpa using hk
 refine⟨?_,?_⟩
 ·rw[h.all,GX hk',Cj hk hx,hw,ale rfl]
 rw[alY hk',GR,Cj hk hx,hm]; rfl
theorem uM.done{l:List aj}{k:Nat}{m:Int}(h:uM l k m)(hk:l.length≤k):iQ [] (keys l)=(0,0):=by
 rw[h.all,amd (by simpa using hk)]; rfl
theorem GY{pre:List aI}{x:aj}(h:x.checkN≠0):eY pre x.key=x.checkN:=by rw[←nX]at h ⊢; exact GL h
theorem JG{pre:List aI}{x:aj}(h:x.checkN=0)(h2:pre.any (fun κ=>κ.id==x.id)=true):eY pre x.key=7:=by
 unfold eY;rw[nX,h,ak9 (by simp),ale (show(pre.any fun κ=>κ.id==x.key.id)=true from h2)]
theorem Dv{pre:List aI}{x:aj}(h:x.checkN=0)(h2:pre.any (fun κ=>κ.id==x.id)=false)(h3:nV pre<x.depth):eY pre x.key=17:=by
 unfold eY;rw[nX,h,ak9 (by simp),ak9 (by rw[show x.key.id=x.id from rfl,h2]; simp),ak9 (by show ¬x.depth≤_; omega)]
theorem GZ{pre:List aI}{x:aj}(h:x.checkN=0)(h2:pre.any (fun κ=>κ.id==x.id)=false)(h3:x.depth≤nV pre):eY pre x.key=0:=by
 unfold eY;rw[nX,h,ak9 (by simp),ak9 (by rw[show x.key.id=x.id from rfl,h2]; simp),ale (by exact h3)]
theorem XQ(w:World):(zeroValue 4).run Tryz.prog w = .ok (.bool false) w:=Sx.qF (by kernel_rfl)
theorem yC{w:World}{v:Value}{l:List aj}(h:aP 47 aj.cells w v l){i:Nat}(hi:i<l.length){z:Int}(hz:z=(i:Int)){r:Nat}(hr:r=dU (keys l) i) :
  Calls Tryz.prog 58 #[v,.i z] w fun e w'=>e = .returned (.i r)∧Ext w w':=by
 subst hz hr;obtain⟨a,cap,rfl⟩:=h.shape;have hmax:l.length≤9223372036854775807:=h.len;refine akN Tryz.func58 Tryz.ntmps58 fun ac S=>akJ fun _ aS=>adr S 1 [] [(4,.i 0)] fun S=>akI<|aS _ _<|akJ fun _ fD=>adr S 3 [.re 7 (.i (IntKind.i64.wrap ((i:Int)+1))) (.i (i+1:Nat))] [(5,.i (i+1:Nat))] (hk:=⟨akV (by omega),trivial⟩) fun S=>akI<|fD _ _<|ak6 fun _ iD=>ak8 ?_;refine alC (ι:=Nat) (fun p a' w'=>(i<p∧p≤l.length∧∀j,i<j→j<p→jE (keys l) i<jE (keys l) j)∧Sx.St w a' w' 28 [(0,.slice a l.length cap),(1,.i i),(4,.i 0),(5,.i p)] [] []) (fun p=>l.length-p) ((i+1)) ⟨⟨by omega,by omega,fun j h1 h2=>by omega⟩,S.sn⟩ ?_;rintro k ac u hI;try dsimp only at hI
 obtain⟨hR,S⟩:=hI;refine ak6 fun _ lI=>ak6 (fun _ dB=>?_);rcases alW k l.length with hk | hk
 ·have ek:decide ((k:Int)<(l.length:Int))=true:=ame (by omega);obtain⟨b1,o1,c1,hv1,hb1,hr1⟩:=Vp.jm h (fun _=>rfl) i hi;simp only[alF,true_and]at hv1;obtain⟨rfl,rfl⟩:=hv1;obtain⟨b2,o2,c2,hv2,hb2,hr2⟩:=Vp.jm h (fun _=>rfl) k hk;simp only[alF,ald,amw,true_and,and_true]at hv2;obtain⟨⟨rfl,rfl⟩,rfl⟩:=hv2;obtain⟨x,hx⟩:∃z,l[i]=z:=⟨_,rfl⟩;rw[hx]at hr1;obtain⟨y,hy⟩:∃z,l[k]=z:=⟨_,rfl⟩;rw[hy]at hr2;have S:=S.view0 hb1 hr1;have S:=S.view0 hb2 hr2;refine akU S 17 [.re 11 (.bool ((k:Int)<(l.length:Int))) (.bool true),.idx k l.length,.mem 0 2,.idx i l.length,.mem 1 2] [] [(24,.bool (x.depth<y.depth))] trivial (hk:=⟨(alb Value.bool ek),hk,hi,trivial⟩) fun ac u E6 S=>akI (dB _ _ ?_);refine akL S (fun kW=>?_) (fun kW=>?_)
  ·refine ak7<|lI _ _<|ak8<|alc<|adr S 3 [.re 26 (.i (IntKind.i64.wrap ((k:Int)+1))) (.i (k+1:Nat))] [(5,.i (k+1:Nat))] (hk:=⟨akV (by omega),trivial⟩) fun S=>akI ?_;show ∃i',_∧_;exact⟨(k+1),⟨⟨by omega,by omega,fun j h1 h2=>by
    by_cases e:j=k
    ·subst e; rw[gB hi,gB hk,hx,hy]; have:=alj kW; omega
    exact hR.2.2 j h1 (by omega)⟩,S.sn⟩,by show l.length-(k+1)<l.length-k; omega⟩
  refine alk<|iD _ _<|akJ fun _ dP=>adr S 2 [] [(4,.i k)] fun S=>akI<|dP _ _<|akM S Tryz.results58 ?_;have he:dU (keys l) i=k:=by
   rw[uw (by simpa using hi)];exact Ap (by simpa using hi) hR.1 (by simpa using hR.2.1) hR.2.2 (fun hk=>by rw[gB hi,gB (by simpa using hk),hx,hy]; have:=alo kW; omega)
  exact⟨by rw[he],S.E⟩
 have ek:decide ((k:Int)<(l.length:Int))=false:=amr (by omega);refine akU S 17 [.re 11 (.bool ((k:Int)<(l.length:Int))) (.bool false),.dead 13 (.bool false),.dead 14 (.bool false),.dead 15 (.bool false),.dead 16 (.bool false),.dead 17 (.bool false),.dead 18 (.bool false),.dead 19 (.bool false),.dead 20 (.bool false),.dead 21 (.bool false),.dead 22 (.bool false),.dead 23 (.bool false)] [] [(24,.bool false)] trivial (hk:=⟨(alb Value.bool ek),trivial⟩) fun ac u E9 S=>akI<|dB _ _<|ak1 S<|alk<|iD _ _<|akJ fun _ fE=>adr S 2 [] [(4,.i k)] fun S=>akI<|fE _ _<|akM S Tryz.results58 ?_;have he:dU (keys l) i=k:=by
  rw[uw (by simpa using hi)];exact Ap (by simpa using hi) hR.1 (by simpa using hR.2.1) hR.2.2 (fun hk2=>by simp at hk2; omega)
 exact⟨by rw[he],S.E⟩
theorem zS{w:World}{v:Value}{l:List aj}(h:aP 47 aj.cells w v l){id:Int} :
  Calls Tryz.prog 59 #[v,.i id] w fun e w'=>e = .returned (.i (jB (keys l) id))∧Ext w w':=by
 obtain⟨a,cap,rfl⟩:=h.shape;have hmax:l.length≤9223372036854775807:=h.len;refine akN Tryz.func59 Tryz.ntmps59 fun ac S=>akJ fun _ aS=>adr S 1 [] [(4,.i 0)] fun S=>akI<|aS _ _<|ak6 fun _ fD=>akJ fun _ iD=>adr S 3 [] [(7,.slice a l.length cap),(8,.i l.length),(9,.i 0)] fun S=>akI<|iD _ _<|ak8 ?_;refine alC (ι:=Nat) (fun p a' w'=>p≤l.length∧(∀(j:Nat) (hj:j<l.length),j<p→l[j].id≠id)∧Sx.St w a' w' 20 [(0,.slice a l.length cap),(1,.i id),(4,.i 0),(7,.slice a l.length cap),(8,.i l.length),(9,.i p)] [] []) (fun p=>l.length-p) (0) ⟨alg _,fun j hj h=>by omega,S.sn⟩ ?_;rintro k ac u hI;try dsimp only at hI
 obtain⟨hk,hR,S⟩:=hI;refine akJ fun _ lI=>adr S 1 [] [(10,.bool ((k:Int)<(l.length:Int)))] fun S=>akI<|lI _ _<|ak6 (fun _ dB=>?_);refine akL S (fun hc6=>?_) (fun hc6=>?_)
 ·refine ak7<|dB _ _<|ak6 fun _ kJ=>ak8<|akJ (fun _ dP=>?_);have tY:k<l.length:=by have:=alj hc6; omega
  obtain⟨b9,o10,rfl,x15,BO,hb16,RZ⟩:=als h (fun _=>rfl) (k) tY;have S:=S.view0 hb16 RZ;refine adr S 3 [.idx k l.length,.mem 0 0] [(11,.i k),(13,x15.v)] (hk:=⟨tY,trivial⟩) fun S=>akK S 6 (Sx.L [.i 0,.i 0,.i 0]++Sx.za++Sx.L [.slice none 0 0,.i 0,.int .u8 0,.i 0,.bool false,.bool false,.slice none 0 0,.i 0,.slice none 0 0,.i 0,.i 0,.i 0,.i 0,.slice none 0 0,.i 0,.slice none 0 0,.i 0,.i 0,.slice none 0 0,.i 0]) fun ac u b17 D5 akh S=>adr S 1 [] [(5,.i k)] fun S=>akO S 0 (off:=0) (cs:=x15.cells) rfl fun u C20 S=>akI<|dP _ _<|akJ fun _ jI=>adr S 4 [.mem 0 0] [(17,.bool ((x15.id)==id))] fun S=>akI (jI _ _ ?_);refine akL S (fun hc22=>?_) (fun hc22=>?_)
  ·refine akJ fun _ lX=>adr S 2 [] [(4,.i k)] fun S=>akI<|lX _ _<|akM S Tryz.results59 ?_;exact⟨by rw[PG tY (by rw[BO]; simpa using hc22) hR],S.E⟩
  refine ak7<|kJ _ _<|alc<|adr S 2 [.re 19 (.i (IntKind.i64.wrap ((k:Int)+1))) (.i (k+1:Nat))] [(9,.i (k+1:Nat))] (hk:=⟨akV (by omega),trivial⟩) fun S=>akI ?_;show ∃i',_∧_;exact⟨(k+1),⟨by omega,(JF tY hR (by rw[BO]; simpa using hc22)),(S.sub [(0,.slice (some ⟨b9,o10,none⟩) l.length cap),(1,.i id),(4,.i 0),(7,.slice (some ⟨b9,o10,none⟩) l.length cap),(8,.i l.length),(9,.i (k+1:Nat))]).sS.sJ 1⟩,by show _-_<_-_; omega⟩
 refine alk<|fD _ _<|akJ fun _ kN=>adr S 1 [] [(4,.i (-1))] fun S=>akI<|kN _ _<|akM S Tryz.results59 ?_;have hk:=alo hc6;exact⟨by rw[GV (fun j hj=>hR j hj (by omega))],S.E⟩
theorem LH{w:World}{v:Value}{l:List aj}(h:aP 47 aj.cells w v l){i:Nat}(hi:i<l.length)(hd:0≤l[i].depth∧l[i].depth<8){q:Int}(hz:q=(i:Int)) :
  Calls Tryz.prog 70 #[v,.i q] w fun e w'=>e = .returned (.i (sD (jE (keys l)) i))∧Ext w w':=by
 subst hz;obtain⟨a,cap,rfl⟩:=h.shape;have hmax:l.length≤9223372036854775807:=h.len;refine akN Tryz.func70 Tryz.ntmps70 fun ac S=>akJ fun _ aS=>adr S 1 [] [(4,.i 0)] fun S=>akI<|aS _ _<|ak6 fun _ fD=>akJ fun _ iD=>adr S 3 [Sx.kw 7 ((i:Int)-1)] [(5,.i ((i:Int)-1))] (hk:=⟨Sx.G5 (by omega),trivial⟩) fun S=>akI<|iD _ _<|ak8 ?_;refine alC (ι:=Int) (fun p a' w'=>(-1≤p∧p<i∧mW (jE (keys l)) ((jE (keys l)) i-1) i=mW (jE (keys l)) ((jE (keys l)) i-1) (p+1).toNat)∧Sx.St w a' w' 25 [(0,.slice a l.length cap),(1,.i i),(4,.i 0),(5,.i p)] [] []) (fun p=>(p+1).toNat) (((i:Int)-1)) ⟨⟨by omega,by omega,by rw[show((i:Int)-1+1).toNat=i by omega]⟩,S.sn⟩ ?_;rintro z ac u hI;try dsimp only at hI
 obtain⟨hR,S⟩:=hI;refine ak6 fun _ lI=>akJ fun _ dB=>adr S 2 [] [(9,.bool (0≤z))] fun S=>akI (dB _ _ ?_);refine akL S (fun hc6=>?_) (fun hc6=>?_)
 ·obtain⟨j,rfl⟩:=TN (alj hc6);rw[show((j:Int)+1).toNat=j+1 by omega]at hR;refine ak7<|lI _ _<|ak6 fun _ kJ=>ak8<|ak6 (fun _ dP=>?_);have qw:j<l.length:=by omega
  obtain⟨b10,o11,rfl,x16,wY,Iz,KR⟩:=als h (fun _=>rfl) (j) qw;have S:=S.view0 Iz KR;have lt23:i<l.length:=by omega
  obtain⟨x24,aeI,ait,aiu⟩:=Vp.XR h (fun _=>rfl) (i) lt23;have hd0:0≤x24.depth∧x24.depth<8:=aeI▸hd;have S:=S.view0 ait aiu;refine akU S 12 [.idx j l.length,.mem 1 2,.idx i l.length,.mem 0 2,Sx.kw 22 (x24.depth-1)] [] [(23,.bool ((x16.depth)==(x24.depth-1)))] trivial (hk:=⟨qw,lt23,Sx.G5 (by omega),trivial⟩) fun ac u E9 S=>akI (dP _ _ ?_);refine akL S (fun aeJ=>?_) (fun aeJ=>?_)
  ·refine akJ fun _ kL=>adr S 2 [] [(4,.i j)] fun S=>akI<|kL _ _<|akM S Tryz.results70 ?_;exact⟨by unfold sD; rw[hR.2.2,acr qw hi (by rw[wY,aeI]; simpa using aeJ)],S.E⟩
  refine ak7<|kJ _ _<|alc<|adr S 3 [Sx.kw 11 ((j:Int)-1)] [(5,.i ((j:Int)-1))] (hk:=⟨Sx.G5 (by omega),trivial⟩) fun S=>akI ?_;show ∃i',_∧_;exact⟨((j:Int)-1),⟨⟨by omega,by omega,by rw[hR.2.2,show((j:Int)-1+1).toNat=j by omega]; exact aeH qw hi (by rw[wY,aeI]; simpa using aeJ)⟩,S.sn⟩,by show((j:Int)-1+1).toNat<((j:Int)+1).toNat; omega⟩
 refine alk<|fD _ _<|akJ fun _ lF=>adr S 1 [] [(4,.i (-1))] fun S=>akI<|lF _ _<|akM S Tryz.results70 ?_;have hz:=alo hc6;exact⟨by unfold sD; rw[hR.2.2,show(z+1).toNat=0 by omega]; rfl,S.E⟩
theorem aaO{l:List aj}{k:Nat}{x:aj}(hk:k<l.length)(hx:l[k]=x):(l.take k).map aj.id++[x.id]=(l.take (k+1)).map aj.id:=by
 rw[alY hk,alV,hx]; rfl
theorem wV{w:World}{s:aK}(h:bU K w s)(hg:jL w) :
  Calls Tryz.prog 20 #[s.v] w fun e w'=>e = .returned (.tuple #[.i s.key.chk.1,.i s.key.chk.2])∧Ext w w':=by
 have hmax:s.ns.length≤9223372036854775807:=h.2.2.1.len;refine akN Tryz.func20 Tryz.ntmps20 (fun ac S=>?_);obtain⟨a,cap,es⟩:∃a c,s.s = .slice a s.ns.length c:=⟨_,_,rfl⟩;have hr:=h.2.2.1;rw[es]at hr;refine akJ fun _ aS=>akK S 1 s.cells fun ac u b2 E3 hb4 S=>adr S 2 [] [(2,.i 0),(3,.i 0)] fun S=>akI<|aS _ _<|ak6 fun _ dB=>akJ fun _ je=>adr S 18 [.mem 0 0,.mem 0 0,.mem 0 1,.mem 0 1] [(26,.bool ((((decide (s.w<1))||(decide (256<s.w)))||(decide (s.h<1)))||(decide (256<s.h))))] fun S=>akI (je _ _ ?_);refine akL S (fun kW=>?_) (fun kW=>?_)
 ·refine akJ fun _ dP=>adr S 2 [] [(2,.i 6),(3,.i 0)] fun S=>akI<|dP _ _<|Sx.rt2 S Tryz.results20 ?_;exact⟨by rw[PI (s:=s.key) kW],S.E⟩
 refine ak7<|dB _ _<|ak6 fun _ iq=>akJ fun _ fE=>adr S 4 [.mem 0 6,.re 28 s.s (.slice a s.ns.length cap)] [(30,.bool (64<(s.ns.length:Int)))] (hk:=⟨es,trivial⟩) fun S=>akI (fE _ _ ?_);refine akL S (fun fU=>?_) (fun fU=>?_)
 ·refine akJ fun _ cO=>adr S 2 [] [(2,.i 5),(3,.i 64)] fun S=>akI<|cO _ _<|ala ?_;have hq:=nH (s:=s.key) kW;rw[show s.key.ns=keys s.ns from rfl,al6]at hq;refine Sx.xB S Tryz.results20 ?_;exact⟨by rw[hq,ale (by have:=alj fU; omega)],S.E⟩
 refine ak7<|iq _ _<|akJ (fun _ gu=>?_);have hold:=S.E.size;have ajI:=(S.bx 0).1;refine Sx.aiq S 31 (fun ac u b E0 hb hM S=>?_);have R:=amo S;have hbo:w.heap.size≤b∧b≠b2:=⟨by omega,by omega⟩;have hMo:Sx.Ow _ (Sx.Ob [(b2,s.cells)] []) (fun W=>kH Tryz.prog 3 4 W b []) _:=Sx.On.mono (Sx.PE (hM _ _)) fun i hi=>by subst hi; exact⟨hbo.1,by simpa[Sx.Ob]using hbo.2⟩
 refine adr S 1 [] [(4,.map (some b))] fun S=>akI<|gu _ _<|akJ fun _ fH=>adr S 1 [] [(5,.i 0)] fun S=>akI<|fH _ _<|ak6 fun _ fJ=>akJ fun _ jC=>adr S 4 [.mem 0 6,.re 33 s.s (.slice a s.ns.length cap)] [(33,.slice a s.ns.length cap),(34,.i s.ns.length),(35,.i 0)] (hk:=⟨es,trivial⟩) fun S=>akI<|jC _ _<|ak8 ?_;refine alC (ι:=Nat×Int) (fun p a' w'=>p.1≤s.ns.length∧(uM s.ns p.1 p.2)∧Sx.Rw w w' [(b2,s.cells)] []∧Sx.Ow w.heap.size (Sx.Ob [(b2,s.cells)] []) (fun W=>kH Tryz.prog 3 4 W b ((s.ns.take p.1).map aj.id)) w'∧Sx.St w a' w' 67 [(0,s.v),(1,.pointer (some ⟨b2,0,none⟩)),(2,.i 0),(3,.i 0),(4,.map (some b)),(5,.i p.2),(33,.slice a s.ns.length cap),(34,.i s.ns.length),(35,.i p.1)] [(b2,s.cells)] []) (fun p=>s.ns.length-p.1) (0,0) ⟨alg _,uM.start _,R,hMo,S.sn⟩ ?_;rintro⟨k,m⟩ ac u hI;try dsimp only at hI
 obtain⟨hk,hR,R,su,S⟩:=hI;refine akJ fun _ gJ=>adr S 1 [] [(36,.bool ((k:Int)<(s.ns.length:Int)))] fun S=>akI<|gJ _ _<|ak6 (fun _ jh=>?_);refine akL S (fun hc19=>?_) (fun hc19=>?_)
 ·refine ak7<|jh _ _<|ak6 fun _ iT=>ak8<|akJ (fun _ jI=>?_);have hMl:=(alR (su)).lt;have jP:k<s.ns.length:=by have:=alj hc19; omega
  obtain⟨b22,o23,rfl,x28,oN,Aj,EW⟩:=als hr (fun _=>rfl) (k) jP;have hxo:=h.2.2.2 _ (oN▸aly jP);have S:=S.view0 Aj EW;refine adr S 3 [.idx k s.ns.length,.mem 1 0] [(37,.i k),(39,x28.v)] (hk:=⟨jP,trivial⟩) fun S=>akK S 7 (Sx.L [.i 0,.i 0,.i 0]++Sx.za++Sx.L [.slice none 0 0,.i 0,.int .u8 0,.i 0,.bool false,.bool false,.slice none 0 0,.i 0,.slice none 0 0,.i 0,.i 0,.i 0,.i 0,.slice none 0 0,.i 0,.slice none 0 0,.i 0,.i 0,.slice none 0 0,.i 0]) fun ac u b30 DZ J3 S=>adr S 1 [] [(6,.i k)] fun S=>akO S 0 (off:=0) (cs:=x28.cells) rfl (fun u MQ S=>?_);have hbn:b≠b30:=by omega
  refine akI<|jI _ _<|ak6 fun _ tJ=>akJ fun _ lY=>adr S 1 [.mem 0 0] [(40,x28.v)] fun S=>akQ S 41 (Iu ((h.2.2.2 _ (oN▸aly jP)).below S.E) (hg.below S.E)) fun ac u WC S=>adr S 1 [] [(8,.i x28.checkN)] fun S=>akI<|lY _ _<|akJ fun _ oH=>adr S 2 [] [(43,.bool ((x28.checkN) != 0))] fun S=>akI (oH _ _ ?_);refine akL S (fun hc38=>?_) (fun hc38=>?_)
  ·refine akJ fun _ qB=>adr S 4 [] [(2,.i x28.checkN),(3,.i k)] fun S=>akI<|qB _ _<|ala ?_;have hq:=nH (s:=s.key) kW;rw[show s.key.ns=keys s.ns from rfl,al6]at hq;refine Sx.xB S Tryz.results20 ?_;rw[ak9 (by have:=alo fU; omega)]at hq;exact⟨by rw[hq,hR.bad jP oN (GY (by simpa using hc38)) (by simpa using hc38)],S.E⟩
  refine ak7<|tJ _ _<|ak6 fun _ wO=>akJ fun _ rF=>adr S 3 [.mem 0 0] [(46,.map (some b)),(48,.i x28.id)] (fun S=>?_);obtain⟨R,Y42⟩:=R.dN S (alh (amq DZ J3) (alh (Sx.Stp.Jg MQ (by simp[Sx.vb])) (alI WC)));have hMn:=alR ((alx su Y42));refine Sx.af4 S 49 hMn Tryz.underlying3 Tryz.underlying4 Tryz.underlying85 (XQ _) (hxo.1.1) fun ac S=>akI (rF _ _ ?_);refine akL S (fun LJ=>?_) (fun LJ=>?_)
  ·refine akJ fun _ wP=>adr S 3 [] [(2,.i 7),(3,.i k)] fun S=>akI<|wP _ _<|ala ?_;have hq:=nH (s:=s.key) kW;rw[show s.key.ns=keys s.ns from rfl,al6]at hq;refine Sx.xB S Tryz.results20 ?_;rw[ak9 (by have:=alo fU; omega)]at hq;exact⟨by rw[hq,hR.bad jP oN (JG (by simpa using hc38) (by rw[←LG]; exact LJ)) (by decide)],S.E⟩
  refine ak7<|wO _ _<|ak6 fun _ zy=>akJ fun _ Aa=>adr S 4 [.mem 0 2] [(54,.bool (m<x28.depth))] fun S=>akI (Aa _ _ ?_);refine akL S (fun hc47=>?_) (fun hc47=>?_)
  ·refine akJ fun _ wC=>adr S 3 [] [(2,.i 17),(3,.i k)] fun S=>akI<|wC _ _<|ala ?_;have hq:=nH (s:=s.key) kW;rw[show s.key.ns=keys s.ns from rfl,al6]at hq;refine Sx.xB S Tryz.results20 ?_;rw[ak9 (by have:=alo fU; omega)]at hq;exact⟨by rw[hq,hR.bad jP oN (Dv (by simpa using hc38) (by rw[←LG]; exact LJ) (by have:=alj hc47; rw[←hR.room]; omega)) (by decide)],S.E⟩
  refine ak7<|zy _ _<|akJ fun _ wE=>adr S 3 [.mem 0 0] [(56,.map (some b)),(58,.i x28.id)] (fun S=>?_);have hMn:=alR ((alx su Y42));refine Sx.ais S hMn (S.E.size |> fun _=>hbo.1) Tryz.underlying3 Tryz.underlying4 Tryz.underlying85 (by rw[al6,amR]; show _<9223372036854775807; omega) hxo.1.1 (fun u hM2 hgr S=>?_);have R:=amo S;have hMo:Sx.Ow w.heap.size (Sx.Ob [(b30,x28.cells),(b2,s.cells)] []) (fun W=>kH Tryz.prog 3 4 W b ((s.ns.take (k+1)).map aj.id)) u:=by
   rw[aaO jP oN]at hM2;exact Sx.On.mono (Sx.PE hM2) fun i hi=>by subst hi; exact⟨hbo.1,by simpa[Sx.Ob]using ⟨hbn,hbo.2⟩⟩
  refine akI<|wE _ _<|akJ fun _ Ac=>adr S 3 [.mem 0 2] [(5,.i x28.depth)] fun S=>akI<|Ac _ _<|akJ fun _ EF=>adr S 3 [.mem 0 1] [(63,.bool ((x28.kind)==1))] fun S=>akI (EF _ _ ?_);refine akL S (fun wF=>?_) (fun wF=>?_)
  ·refine alc<|adr S 3 [Sx.kw 65 (x28.depth+1)] [(5,.i (x28.depth+1))] (hk:=⟨Sx.G5 (by have:=qO (n:=x28) (by simpa using hc38); omega),trivial⟩) fun S=>akI<|iT _ _<|alc<|adr S 2 [.re 66 (.i (IntKind.i64.wrap ((k:Int)+1))) (.i (k+1:Nat))] [(35,.i (k+1:Nat))] (hk:=⟨akV (by omega),trivial⟩) fun S=>akI ?_;have S:=S.sJ 1;obtain⟨R,Y53⟩:=R.dN S (Sx.Stp.CU 1);show ∃i',_∧_;exact⟨((k+1),(x28.depth+1)),⟨by omega,hR.next jP oN (GZ (by simpa using hc38) (by rw[←LG]; exact LJ) (by have:=alo hc47; rw[←hR.room]; omega)) (by rw[ale (by simpa using wF)]),R,(alx hMo Y53),S.sn⟩,by show _-_<_-_; omega⟩
  refine ak7<|iT _ _<|alc<|adr S 2 [.re 66 (.i (IntKind.i64.wrap ((k:Int)+1))) (.i (k+1:Nat))] [(35,.i (k+1:Nat))] (hk:=⟨akV (by omega),trivial⟩) fun S=>akI ?_;have S:=S.sJ 1;obtain⟨R,Y54⟩:=R.dN S (Sx.Stp.CU 1);show ∃i',_∧_;exact⟨((k+1),x28.depth),⟨by omega,hR.next jP oN (GZ (by simpa using hc38) (by rw[←LG]; exact LJ) (by have:=alo hc47; rw[←hR.room]; omega)) (by rw[ak9 (by simpa using wF)]),R,(alx hMo Y54),S.sn⟩,by show _-_<_-_; omega⟩
 refine alk<|fJ _ _<|akJ fun _ Eo=>adr S 2 [] [(2,.i 0),(3,.i 0)] fun S=>akI<|Eo _ _<|ala ?_;have hq:=nH (s:=s.key) kW;rw[show s.key.ns=keys s.ns from rfl,al6]at hq;refine Sx.xB S Tryz.results20 ?_;rw[ak9 (by have:=alo fU; omega)]at hq;exact⟨by rw[hq,hR.done (by have:=alo hc19; omega)],S.E⟩
end Go.Proofs.YtfmkkemfhjkajaaGreatDoor
end
