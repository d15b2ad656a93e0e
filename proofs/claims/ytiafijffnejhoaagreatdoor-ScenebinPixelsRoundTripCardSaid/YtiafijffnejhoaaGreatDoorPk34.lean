/- A set of numbers kept as a map from int to bool, made by -/
import Derived.Maps.Own
import Derived.Maps.Views
import Derived.Test.YtiafijffnejhoaaGreatDoorOwn
import Derived.Test.YtiafijffnejhoaaGreatDoorPk33
import Derived.Test.YtiafijffnejhoaaGreatDoorCheck
set_option linter.unusedVariables false
section
namespace Go.Proofs.YtiafijffnejhoaaGreatDoor
open Go.Maps
variable{P:Program}{k e t:TypeId}{b:Nat}{ids:List Int}{w w':World}
def jh(P:Program)(k e:TypeId)(w:World)(b:Nat)(ids:List Int):Prop:=
 ∃D:DataW Unit,w.ownsMap P k (plainElem P e) b ids.length D∧IsMap D∧∀x:Int,I64 x→D.atKey (.int .i64 x) (.lit (.bool false)) = .lit (.bool (ids.any (· == x)))
theorem KN(P:Program)(k e:TypeId)(w:World):jh P k e (w.alloc (.map #[] 0)) w.heap.size []:=
 ⟨.map [],World.ownsMap_made w P k _,isMap_empty,fun x _=>rfl⟩
theorem wf_i64{x:Int}(h:I64 x):(Lit.int .i64 x).wf=true:=by
 obtain⟨h1,h2⟩:=h;have e1:IntKind.i64.min = -9223372036854775808:=by decide
 have e2:IntKind.i64.max=9223372036854775807:=by decide
 simp[Lit.wf,e1,e2];omega
theorem vP{H:Type}(he:P.underlying e=some .bool){v:Value}{z:DataW H×List MemPlace}(h:plainElem P e v=some z):∃c,v = .bool c∧z=(.lit (.bool c),[]):=by
 unfold plainElem at h;rw[he]at h;cases v<;>simp at h;exact⟨_,rfl,h.symm⟩
theorem jh.lt(h:jh P k e w b ids):b<w.heap.size:=by obtain⟨D,h,_⟩:=h; exact h.lt
theorem jh.kept(h:jh P k e w b ids)(hb:∀i,i=b→w'.heap[i]?=w.heap[i]?):jh P k e w' b ids:=by
 obtain⟨D,⟨es,clock,hB,F,hs,hD⟩,h2,h3⟩:=h;exact⟨D,⟨es,clock,(hb b rfl).trans hB,F,hs,hD⟩,h2,h3⟩
theorem jh.ext(h:jh P k e w b ids)(hb:Ext w w'):jh P k e w' b ids:=h.kept fun i hi=>hb.block i (by rw[hi]; exact h.lt)
theorem jh.lookup(h:jh P k e w b ids)(hk:P.underlying k=some (.int .i64))(he:P.underlying e=some .bool)(ht:P.underlying t=some (.map k e))(hz:(zeroValue e).run P w = .ok (.bool false) w){x:Int}(hx:I64 x) :
  (Instr.lookup t (.map (some b)) (.i x) false).run P w = .ok (.bool (ids.any (· == x))) w:=by
 obtain⟨D,h1,h2,h3⟩:=h;obtain⟨v,ps,hrun,hv⟩:=h1.lookup (int_keyed hk) ht hz (plainElem_bool he false) (keyOf_int_mk hk (wf_i64 hx));obtain⟨c,rfl,hc⟩:=vP he hv;simp only[ahg]at hc;rw[h3 x hx]at hc;obtain⟨hc,-⟩:=hc;cases hc;exact hrun
theorem jh.update(h:jh P k e w b ids)(hk:P.underlying k=some (.int .i64))(he:P.underlying e=some .bool)(ht:P.underlying t=some (.map k e))(hn:ids.length<maxLen){x:Int}(hx:I64 x) :
  ∃w',(Instr.mapUpdate t (.map (some b)) (.i x) (.bool true)).run P w = .ok () w'∧jh P k e w' b (ids++[x])∧w.grownBy w' (some b):=by
 obtain⟨D,h1,h2,h3⟩:=h;obtain⟨w',hrun,ho,hg⟩:=h1.update (int_keyed hk) ht hn (keyOf_int_mk hk (wf_i64 hx)) (plainElem_bool he true);refine⟨w',hrun,⟨D.put (.int .i64 x) (.lit (.bool true)),?_,h2.put _ _,fun y hy=>?_⟩,hg⟩
 ·rw[ahP,ajr]; exact ho
 rw[List.any_append,List.any_cons,List.any_nil,Bool.or_false];by_cases hxy:x=y
 ·subst hxy;rw[atKey_put_same h2 (k := .int .i64 x) (by first | trivial | simp[WideAt.IsKeyLit])];simp
 rw[atKey_put_other (by simpa using fun h=>hxy h.symm),h3 y hy];simp[hxy]
end Go.Proofs.YtiafijffnejhoaaGreatDoor
namespace Go.Sx
open Go.Proofs.YtiafijffnejhoaaGreatDoor Go.RowKit Go.Rel
variable{P:Program}{k e:TypeId}{b:Nat}{ids:List Int}{w w':World}
variable{ops:Array Oper}{Q:Exit→Act→World→Prop}{w0:World}{a:Act}{os:List Oper}{n:Nat}{l:List (Nat×Value)}{bl:List (Nat×List Value)}{vs:List dY}
def Ip(os:List Oper):Option Nat:=match os with
 | o::_=>(match o.guard,o.dst,o.op with
  | none,some d,.makeMap _ none=>some d
  | _,_,_=>none)
 | []=>none
def lookOf(os:List Oper)(l:List (Nat×Value)):Option (TypeId×Nat×Int×Nat):=match os with
 | o::_=>(match o.guard,o.dst,o.op with
  | none,some d,.lookup t x i false=>(match rd (lift l) [] x,rd (lift l) [] i with
   | some (.map (some b)),some (.i z)=>some (t,b,z,d)
   | _,_=>none)
  | _,_,_=>none)
 | []=>none
def YU(os:List Oper)(l:List (Nat×Value)):Option (TypeId×Nat×Int):=match os with
 | o::_=>(match o.guard,o.dst,o.op with
  | none,none,.mapUpdate t x i v=>(match rd (lift l) [] x,rd (lift l) [] i,rd (lift l) [] v with
   | some (.map (some b)),some (.i z),some (.bool true)=>some (t,b,z)
   | _,_,_=>none)
  | _,_,_=>none)
 | []=>none
theorem afi(S:St w0 a w n l bl vs)(d:Nat)(next:∀a' w' b,Ext w w'→b=w.heap.size→(∀k e,jh P k e w' b [])→St w0 a' w' n ((d,.map (some b))::l) bl vs→wpList P ops Q (os.drop 1) a' w')
  (hx:Ip os=some d:=by kernel_rfl) (hd:Aq n (some d)=true:=by rfl):wpList P ops Q os a w:=by
 unfold Ip at hx;split at hx
 ·rename_i o os';split at hx
  ·rename_i d' t hg hdst hop;cases hx;have hrun:(execOp a.eval o).run P w = .ok (.value (.map (some w.heap.size))) (w.alloc (.map #[] 0)):=by
    unfold execOp;simp only[hop];rfl
   unfold wpList;rw[ahf (by simp[Region.wanted,hg])];left;unfold Oper.wp;rw[hrun];simp only[Oper.upon];have hE:Ext w (w.alloc (.map #[] 0)):=aF _ _;have S1:=S.grow hE;rw[hdst];exact next _ _ w.heap.size hE rfl (fun k e=>KN P k e w) ⟨wP S.s hd _,S1.E,S1.own,S1.apart,S1.mem⟩
  cases hx
 cases hx
theorem acU(S:St w0 a w n l bl vs)(d:Nat){t:TypeId}{z:Int}(h:jh P k e w b ids)(hk:P.underlying k=some (.int .i64))(he:P.underlying e=some .bool)(ht:P.underlying t=some (.map k e))(hz:(zeroValue e).run P w = .ok (.bool false) w)(hi:I64 z)
  (next:∀a',St w0 a' w n ((d,.bool (ids.any (· == z)))::l) bl vs→wpList P ops Q (os.drop 1) a' w)
  (hx:lookOf os l=some (t,b,z,d):=by kernel_rfl) (hd:Aq n (some d)=true:=by rfl):wpList P ops Q os a w:=by
 unfold lookOf at hx;split at hx
 ·rename_i o os';split at hx
  ·rename_i d' t' x i hg hdst hop;split at hx
   ·rename_i b' z' hxx hii;cases hx;have hR:=jd (bP S.s) o;have hxv:=gy (Std.act a) (hR x (by rw[hop]; simp[Op.operands])) (p:=[]) rfl hxx;have hyv:=gy (Std.act a) (hR i (by rw[hop]; simp[Op.operands])) (p:=[]) rfl hii;have hrun:(execOp a.eval o).run P w = .ok (.value (.bool (ids.any (· == z)))) w:=by
     unfold execOp;simp only[hop,hxv,hyv,ahS,h.lookup hk he ht hz hi];rfl
    unfold wpList;rw[ahf (by simp[Region.wanted,hg])];left;unfold Oper.wp;rw[hrun];simp only[Oper.upon];rw[hdst];exact next _ (S.act (wP S.s hd _))
   cases hx
  cases hx
 cases hx
theorem St.afj(S:St w0 a w n l bl vs)(h:jh P k e w b ids)(hb:w0.heap.size≤b)(hg:w.grownBy w' (some b))(h1:bl.all (fun p => !p.2.isEmpty)=true)(h2:vs.all (fun m => !m.2.2.isEmpty)=true):St w0 a w' n l bl vs:=by
 have hm:∀i,w.cell? ⟨b,i,none⟩=none:=by
  obtain⟨D,⟨es,clock,hB,_⟩,_⟩:=h;intro i;simp[World.cell?,hB]
 have hcell:∀c i,c<w.heap.size→c≠b→w'.cell? ⟨c,i,none⟩=w.cell? ⟨c,i,none⟩:=by
  intro c i hc hne;simp only[World.cell?];rw[hg.block c hc (fun e=>hne (ahl e))]
 have acV:∀c i,c<w.heap.size→c≠b→w'.frozen? ⟨c,i,none⟩=w.frozen? ⟨c,i,none⟩:=by
  intro c i hc hne;simp only[World.frozen?];rw[hg.block c hc (fun e=>hne (ahl e))]
 have hE:Ext w0 w':=S.E.grown hg S.E.size (fun k e=>by cases e; exact hb);refine⟨S.s,hE,fun p hp=>?_,S.apart,fun m hmm=>?_⟩
 ·obtain⟨⟨q1,q2,q3⟩,q4⟩:=S.own p hp;have hne:p.1≠b:=by
   intro e;have h3:=ahz.1 h1 p hp;have h4:=q2 0;rw[e,hm 0]at h4;cases hA:p.2 with
   | nil=>rw[hA]at h3; cases h3
   | cons x A=>rw[hA]at h4; simp at h4
  exact⟨⟨ahG q1 hg.size,fun i=>by rw[hcell _ _ q1 hne]; exact q2 i,fun i=>by rw[acV _ _ q1 hne]; exact q3 i⟩,q4⟩
 obtain⟨⟨q1,q2⟩,q3⟩:=S.mem m hmm;have hne:m.1≠b:=by
  intro e;have h3:=ahz.1 h2 m hmm;cases hA:m.2.2 with
  | nil=>rw[hA]at h3; cases h3
  | cons x A =>
   have h4:=q2 0 x (by rw[hA]; rfl);rw[e,hm]at h4;cases h4
 exact⟨⟨ahG q1 hg.size,fun i v hi=>by rw[hcell _ _ q1 hne]; exact q2 i v hi⟩,q3⟩
theorem afk(S:St w0 a w n l bl vs){t:TypeId}{z:Int}(h:jh P k e w b ids)(hb:w0.heap.size≤b)(hk:P.underlying k=some (.int .i64))(he:P.underlying e=some .bool)(ht:P.underlying t=some (.map k e))(hn:ids.length<maxLen)(hi:I64 z)
  (next:∀w',jh P k e w' b (ids++[z])→w.grownBy w' (some b)→St w0 a w' n l bl vs→wpList P ops Q (os.drop 1) a w')
  (hx:YU os l=some (t,b,z):=by kernel_rfl) (h1:bl.all (fun p => !p.2.isEmpty)=true:=by kernel_rfl) (h2:vs.all (fun m => !m.2.2.isEmpty)=true:=by kernel_rfl):wpList P ops Q os a w:=by
 unfold YU at hx;split at hx
 ·rename_i o os';split at hx
  ·rename_i t' x i v hg hdst hop;split at hx
   ·rename_i b' z' hxx hii hvv;cases hx;have hR:=jd (bP S.s) o;have hxv:=gy (Std.act a) (hR x (by rw[hop]; simp[Op.operands])) (p:=[]) rfl hxx;have hyv:=gy (Std.act a) (hR i (by rw[hop]; simp[Op.operands])) (p:=[]) rfl hii;have hzv:=gy (Std.act a) (hR v (by rw[hop]; simp[Op.operands])) (p:=[]) rfl hvv;obtain⟨w',hrun,h',hg'⟩:=h.update hk he ht hn hi;have hrun:(execOp a.eval o).run P w = .ok .skip w':=by
     unfold execOp;simp only[hop,hxv,hyv,hzv,ahS,hrun];rfl
    unfold wpList;rw[ahf (by simp[Region.wanted,hg])];left;unfold Oper.wp;rw[hrun];simp only[Oper.upon];rw[hdst];exact next _ h' hg' (S.afj h hb hg' h1 h2)
   cases hx
  cases hx
 cases hx
theorem Iq(h:jh P k e w b ids):On (fun i=>i=b) (fun w=>jh P k e w b ids) w:=fun w' hs hb=>h.kept fun i hi=>hb i (by rw[hi]; exact h.lt) hi
end Go.Sx
end
section
namespace Go.Proofs.YtiafijffnejhoaaGreatDoor
open Go.RowKit
variable{α:Type}{K:Nat}
abbrev keys (l:List aB):List aJ:=l.map aB.key
theorem Uj{s:aY}(h:((((decide (s.w<1))||(decide (256<s.w)))||(decide (s.h<1)))||(decide (256<s.h)))=true):s.chk=(6,0):=by
 unfold aY.chk;rw[ahf (by simpa[or_assoc]using h)]
theorem pX{s:aY}(h:((((decide (s.w<1))||(decide (256<s.w)))||(decide (s.h<1)))||(decide (256<s.h)))=false):s.chk=if 64<s.ns.length then (5,64)else iy [] s.ns:=by
 unfold aY.chk;rw[ahe (by simpa[or_assoc,and_assoc]using h)]
theorem Bl{l:List aJ}{k:Nat}(hk:k<l.length):iy (l.take k) (l.drop k)=if fJ (l.take k) l[k]=0 then iy (l.take (k+1)) (l.drop (k+1))else (fJ (l.take k) l[k],(k:Int)):=by
 rw[ahU hk,ahM hk];conv=>lhs; unfold iy
 rw[aiS,Nat.min_eq_left (by omega)]
theorem yj{l:List aB}{k:Nat}(hk:k<l.length){x:aB}(hx:l[k]=x):(keys l)[k]'(by simpa using hk)=x.key:=by simp[keys,hx]
theorem Fh(l:List aB)(k:Nat)(id:Int):((l.take k).map aB.id).any (· == id)=((keys l).take k).any fun κ=>κ.id==id:=by
 rw[←List.map_take,List.any_map,List.any_map]; rfl
structure qV (l:List aB) (k:Nat) (m:Int):Prop where
 all:iy [] (keys l)=iy ((keys l).take k) ((keys l).drop k)
 room:m=lM ((keys l).take k)
theorem qV.start(l:List aB):qV l 0 0:=⟨by simp,rfl⟩
theorem qV.bad{l:List aB}{k:Nat}{m n:Int}{x:aB}(h:qV l k m)(hk:k<l.length)(hx:l[k]=x)(hw:fJ ((keys l).take k) x.key=n)(hn:n≠0):iy [] (keys l)=(n,(k:Int)):=by
 rw[h.all,Bl (by simpa using hk),yj hk hx,hw,ahe hn]
theorem qV.next{l:List aB}{k:Nat}{m m':Int}{x:aB}(h:qV l k m)(hk:k<l.length)(hx:l[k]=x)(hw:fJ ((keys l).take k) x.key=0)(hm:m'=if x.kind=1 then x.depth+1 else x.depth):qV l (k+1) m':=by
 have hk':k<(keys l).length:=by simpa using hk
 refine⟨?_,?_⟩
 ·rw[h.all,Bl hk',yj hk hx,hw,ahf rfl]
 rw[ahM hk',Bg,yj hk hx,hm]; rfl
theorem qV.done{l:List aB}{k:Nat}{m:Int}(h:qV l k m)(hk:l.length≤k):iy [] (keys l)=(0,0):=by
 rw[h.all,aic (by simpa using hk)]; rfl
theorem KO{pre:List aJ}{x:aB}(h:x.checkN≠0):fJ pre x.key=x.checkN:=by rw[←xg]at h ⊢; exact KH h
theorem PZ{pre:List aJ}{x:aB}(h:x.checkN=0)(h2:pre.any (fun κ=>κ.id==x.id)=true):fJ pre x.key=7:=by
 unfold fJ;rw[xg,h,ahe (by simp),ahf (show(pre.any fun κ=>κ.id==x.key.id)=true from h2)]
theorem Ir{pre:List aJ}{x:aB}(h:x.checkN=0)(h2:pre.any (fun κ=>κ.id==x.id)=false)(h3:lM pre<x.depth):fJ pre x.key=17:=by
 unfold fJ;rw[xg,h,ahe (by simp),ahe (by rw[show x.key.id=x.id from rfl,h2]; simp),ahe (by show ¬x.depth≤_; omega)]
theorem Iu{pre:List aJ}{x:aB}(h:x.checkN=0)(h2:pre.any (fun κ=>κ.id==x.id)=false)(h3:x.depth≤lM pre):fJ pre x.key=0:=by
 unfold fJ;rw[xg,h,ahe (by simp),ahe (by rw[show x.key.id=x.id from rfl,h2]; simp),ahf (by exact h3)]
theorem P5(w:World):(zeroValue 4).run Tryz.prog w = .ok (.bool false) w:=Sx.l7 (by kernel_rfl)
theorem Uk{l:List aB}{k:Nat}{x:aB}(hk:k<l.length)(hx:l[k]=x):(l.take k).map aB.id++[x.id]=(l.take (k+1)).map aB.id:=by
 rw[ahM hk,ahT,hx]; rfl
set_option maxRecDepth 100000 in
set_option maxHeartbeats 3200000 in
theorem Iw{w:World}{s:dH}(h:mg K w s)(hg:dV w) :
  Calls Tryz.prog 54 #[s.v] w fun e w'=>e = .returned (.tuple #[.i s.key.chk.1,.i s.key.chk.2])∧Ext w w':=by
 have hmax:s.ns.length≤9223372036854775807:=h.2.2.1.len;refine agX Tryz.func54 Tryz.ntmps54 (fun ac S=>?_);obtain⟨a,cap,es⟩:∃a c,s.s = .slice a s.ns.length c:=⟨_,_,rfl⟩;have hr:=h.2.2.1;rw[es]at hr;refine agS fun _ aX=>agT S 1 s.cells fun ac u b2 E3 hb4 S=>adr S 2 [] [(2,.i 0),(3,.i 0)] fun S=>agR<|aX _ _<|ag9 fun _ dM=>agS fun _ iI=>adr S 18 [.mem 0 0,.mem 0 0,.mem 0 1,.mem 0 1] [(26,.bool ((((decide (s.w<1))||(decide (256<s.w)))||(decide (s.h<1)))||(decide (256<s.h))))] fun S=>agR (iI _ _ ?_);refine agU S (fun zX=>?_) (fun zX=>?_)
 ·refine agS fun _ dU=>adr S 2 [] [(2,.i 6),(3,.i 0)] fun S=>agR<|dU _ _<|Sx.TQ S Tryz.results54 ?_;exact⟨by rw[Uj (s:=s.key) zX],S.E⟩
 refine aha<|dM _ _<|ag9 fun _ iP=>agS fun _ gI=>adr S 4 [.mem 0 6,.re 28 s.s (.slice a s.ns.length cap)] [(30,.bool (64<(s.ns.length:Int)))] (hk:=⟨es,trivial⟩) fun S=>agR (gI _ _ ?_);refine agU S (fun jc=>?_) (fun jc=>?_)
 ·refine agS fun _ dP=>adr S 2 [] [(2,.i 5),(3,.i 64)] fun S=>agR<|dP _ _<|ahj ?_;have hq:=pX (s:=s.key) zX;rw[show s.key.ns=keys s.ns from rfl,ai8]at hq;refine Sx.um S Tryz.results54 ?_;exact⟨by rw[hq,ahf (by have:=aho jc; omega)],S.E⟩
 refine aha<|iP _ _<|agS (fun _ gX=>?_);have hold:=S.E.size;have agi:=(S.bx 0).1;refine Sx.afi S 31 (fun ac u b E0 hb hM S=>?_);have R:=aiI S;have WS:w.heap.size≤b∧b≠b2:=⟨by omega,by omega⟩;have hMo:Sx.Ow _ (Sx.Ob [(b2,s.cells)] []) (fun W=>jh Tryz.prog 3 4 W b []) _:=Sx.On.mono (Sx.Iq (hM _ _)) fun i hi=>by subst hi; exact⟨WS.1,by simpa[Sx.Ob]using WS.2⟩
 refine adr S 1 [] [(4,.map (some b))] fun S=>agR<|gX _ _<|agS fun _ fP=>adr S 1 [] [(5,.i 0)] fun S=>agR<|fP _ _<|ag9 fun _ jk=>agS fun _ kG=>adr S 4 [.mem 0 6,.re 33 s.s (.slice a s.ns.length cap)] [(33,.slice a s.ns.length cap),(34,.i s.ns.length),(35,.i 0)] (hk:=⟨es,trivial⟩) fun S=>agR<|kG _ _<|ahc ?_;refine ahJ (ι:=Nat×Int) (fun p a' w'=>p.1≤s.ns.length∧(qV s.ns p.1 p.2)∧Sx.Rw w w' [(b2,s.cells)] []∧Sx.Ow w.heap.size (Sx.Ob [(b2,s.cells)] []) (fun W=>jh Tryz.prog 3 4 W b ((s.ns.take p.1).map aB.id)) w'∧Sx.St w a' w' 67 [(0,s.v),(1,.pointer (some ⟨b2,0,none⟩)),(2,.i 0),(3,.i 0),(4,.map (some b)),(5,.i p.2),(33,.slice a s.ns.length cap),(34,.i s.ns.length),(35,.i p.1)] [(b2,s.cells)] []) (fun p=>s.ns.length-p.1) (0,0) ⟨ahk _,qV.start _,R,hMo,S.sn⟩ ?_;rintro⟨k,m⟩ ac u hI;try dsimp only at hI
 obtain⟨hk,hR,R,aaL,S⟩:=hI;refine agS fun _ iC=>adr S 1 [] [(36,.bool ((k:Int)<(s.ns.length:Int)))] fun S=>agR<|iC _ _<|ag9 (fun _ jE=>?_);refine agU S (fun hc19=>?_) (fun hc19=>?_)
 ·refine aha<|jE _ _<|ag9 fun _ kH=>ahc<|agS (fun _ nV=>?_);have hMl:=(ai7 (aaL)).lt;have jP:k<s.ns.length:=by have:=aho hc19; omega
  obtain⟨b22,o23,rfl,x28,mZ,yZ,Eo⟩:=ahx hr (fun _=>rfl) (k) jP;have hxo:=h.2.2.2 _ (mZ▸ah3 jP);have S:=S.view0 yZ Eo;refine adr S 3 [.idx k s.ns.length,.mem 1 0] [(37,.i k),(39,x28.v)] (hk:=⟨jP,trivial⟩) fun S=>agT S 7 (Sx.L [.i 0,.i 0,.i 0]++Sx.za++Sx.L [.slice none 0 0,.i 0,.int .u8 0,.i 0,.bool false,.bool false,.slice none 0 0,.i 0,.slice none 0 0,.i 0,.i 0,.i 0,.i 0,.slice none 0 0,.i 0,.slice none 0 0,.i 0,.i 0,.slice none 0 0,.i 0]) fun ac u b30 Dl Oc S=>adr S 1 [] [(6,.i k)] fun S=>agW S 0 (off:=0) (cs:=x28.cells) rfl (fun u Qq S=>?_);have hbn:b≠b30:=by omega
  refine agR<|nV _ _<|ag9 fun _ vY=>agS fun _ uO=>adr S 1 [.mem 0 0] [(40,x28.v)] fun S=>ag0 S 41 (uq ((h.2.2.2 _ (mZ▸ah3 jP)).below S.E) (hg.below S.E)) fun ac u Qu S=>adr S 1 [] [(8,.i x28.checkN)] fun S=>agR<|uO _ _<|agS fun _ oO=>adr S 2 [] [(43,.bool ((x28.checkN) != 0))] fun S=>agR (oO _ _ ?_);refine agU S (fun hc38=>?_) (fun hc38=>?_)
  ·refine agS fun _ vX=>adr S 4 [] [(2,.i x28.checkN),(3,.i k)] fun S=>agR<|vX _ _<|ahj ?_;have hq:=pX (s:=s.key) zX;rw[show s.key.ns=keys s.ns from rfl,ai8]at hq;refine Sx.um S Tryz.results54 ?_;rw[ahe (by have:=aht jc; omega)]at hq;exact⟨by rw[hq,hR.bad jP mZ (KO (by simpa using hc38)) (by simpa using hc38)],S.E⟩
  refine aha<|vY _ _<|ag9 fun _ uM=>agS fun _ D8=>adr S 3 [.mem 0 0] [(46,.map (some b)),(48,.i x28.id)] (fun S=>?_);obtain⟨R,Y42⟩:=R.dQ S (ah9 (aiz Dl Oc) (ah9 (Sx.Stp.Xb Qq (by simp[Sx.vb])) (ahQ Qu)));have hMn:=ai7 ((Sx.On.step aaL Y42));refine Sx.acU S 49 hMn Tryz.underlying3 Tryz.underlying4 Tryz.underlying158 (P5 _) (hxo.1.1) fun ac S=>agR (D8 _ _ ?_);refine agU S (fun Ul=>?_) (fun Ul=>?_)
  ·refine agS fun _ EW=>adr S 3 [] [(2,.i 7),(3,.i k)] fun S=>agR<|EW _ _<|ahj ?_;have hq:=pX (s:=s.key) zX;rw[show s.key.ns=keys s.ns from rfl,ai8]at hq;refine Sx.um S Tryz.results54 ?_;rw[ahe (by have:=aht jc; omega)]at hq;exact⟨by rw[hq,hR.bad jP mZ (PZ (by simpa using hc38) (by rw[←Fh]; exact Ul)) (by decide)],S.E⟩
  refine aha<|uM _ _<|ag9 fun _ Kr=>agS fun _ Gj=>adr S 4 [.mem 0 2] [(54,.bool (m<x28.depth))] fun S=>agR (Gj _ _ ?_);refine agU S (fun hc47=>?_) (fun hc47=>?_)
  ·refine agS fun _ Gl=>adr S 3 [] [(2,.i 17),(3,.i k)] fun S=>agR<|Gl _ _<|ahj ?_;have hq:=pX (s:=s.key) zX;rw[show s.key.ns=keys s.ns from rfl,ai8]at hq;refine Sx.um S Tryz.results54 ?_;rw[ahe (by have:=aht jc; omega)]at hq;exact⟨by rw[hq,hR.bad jP mZ (Ir (by simpa using hc38) (by rw[←Fh]; exact Ul) (by have:=aho hc47; rw[←hR.room]; omega)) (by decide)],S.E⟩
  refine aha<|Kr _ _<|agS fun _ Ed=>adr S 3 [.mem 0 0] [(56,.map (some b)),(58,.i x28.id)] (fun S=>?_);have hMn:=ai7 ((Sx.On.step aaL Y42));refine Sx.afk S hMn (S.E.size |> fun _=>WS.1) Tryz.underlying3 Tryz.underlying4 Tryz.underlying158 (by rw[ai8,aiS]; show _<9223372036854775807; omega) hxo.1.1 (fun u hM2 hgr S=>?_);have R:=aiI S;have hMo:Sx.Ow w.heap.size (Sx.Ob [(b30,x28.cells),(b2,s.cells)] []) (fun W=>jh Tryz.prog 3 4 W b ((s.ns.take (k+1)).map aB.id)) u:=by
   rw[Uk jP mZ]at hM2;exact Sx.On.mono (Sx.Iq hM2) fun i hi=>by subst hi; exact⟨WS.1,by simpa[Sx.Ob]using ⟨hbn,WS.2⟩⟩
  refine agR<|Ed _ _<|agS fun _ Ce=>adr S 3 [.mem 0 2] [(5,.i x28.depth)] fun S=>agR<|Ce _ _<|agS fun _ QW=>adr S 3 [.mem 0 1] [(63,.bool ((x28.kind)==1))] fun S=>agR (QW _ _ ?_);refine agU S (fun zG=>?_) (fun zG=>?_)
  ·refine ahi<|adr S 3 [Sx.kw 65 (x28.depth+1)] [(5,.i (x28.depth+1))] (hk:=⟨Sx.YQ (by have:=xk (n:=x28) (by simpa using hc38); omega),trivial⟩) fun S=>agR<|kH _ _<|ahi<|adr S 2 [.re 66 (.i (IntKind.i64.wrap ((k:Int)+1))) (.i (k+1:Nat))] [(35,.i (k+1:Nat))] (hk:=⟨ag7 (by omega),trivial⟩) fun S=>agR ?_;have S:=S.nD 1;obtain⟨R,Y53⟩:=R.dQ S (ai2 1);show ∃i',_∧_;exact⟨((k+1),(x28.depth+1)),⟨by omega,hR.next jP mZ (Iu (by simpa using hc38) (by rw[←Fh]; exact Ul) (by have:=aht hc47; rw[←hR.room]; omega)) (by rw[ahf (by simpa using zG)]),R,(Sx.On.step hMo Y53),S.sn⟩,by show _-_<_-_; omega⟩
  refine aha<|kH _ _<|ahi<|adr S 2 [.re 66 (.i (IntKind.i64.wrap ((k:Int)+1))) (.i (k+1:Nat))] [(35,.i (k+1:Nat))] (hk:=⟨ag7 (by omega),trivial⟩) fun S=>agR ?_;have S:=S.nD 1;obtain⟨R,Y54⟩:=R.dQ S (ai2 1);show ∃i',_∧_;exact⟨((k+1),x28.depth),⟨by omega,hR.next jP mZ (Iu (by simpa using hc38) (by rw[←Fh]; exact Ul) (by have:=aht hc47; rw[←hR.room]; omega)) (by rw[ahe (by simpa using zG)]),R,(Sx.On.step hMo Y54),S.sn⟩,by show _-_<_-_; omega⟩
 refine ahn<|jk _ _<|agS fun _ Oe=>adr S 2 [] [(2,.i 0),(3,.i 0)] fun S=>agR<|Oe _ _<|ahj ?_;have hq:=pX (s:=s.key) zX;rw[show s.key.ns=keys s.ns from rfl,ai8]at hq;refine Sx.um S Tryz.results54 ?_;rw[ahe (by have:=aht jc; omega)]at hq;exact⟨by rw[hq,hR.done (by have:=aht hc19; omega)],S.E⟩
end Go.Proofs.YtiafijffnejhoaaGreatDoor
end
