/- A region that draws its order, all of its operations by -/
import Derived.Test.YtiafijffnejhoaaGreatDoorPk24
import Derived.Test.YtiafijffnejhoaaGreatDoorPk33
import Derived.Test.YtiafijffnejhoaaGreatDoorPk35
import Derived.Test.YtiafijffnejhoaaGreatDoorPk32
import Derived.Test.YtiafijffnejhoaaGreatDoorOwn
set_option linter.unusedVariables false
section
namespace Go.Sx
open Go.Proofs.YtiafijffnejhoaaGreatDoor Go.RowKit Go.Rel
variable{P:Program}{Q:Exit→Act→World→Prop}{w0 w:World}{a:Act}{os:List Oper}{n:Nat}{l:List (Nat×Value)}{bl:List (Nat×List Value)}{vs:List dY}{o:Oper}{ρ:Operand→Value}
def KnL(ρ:Operand→Value):List (Nat×Value)→Prop
 | []=>True
 | p::r=>ρ (.tmp p.1)=p.2∧KnL ρ r
theorem KnL.look{ρ:Operand→Value}:∀{l:List (Nat×Value)},KnL ρ l→∀q v,l.lookup q=some v→ρ (.tmp q)=v
 | [],_,q,v,h=>by simp at h
 | p::r,hk,q,v,h=>by
  rw[ahR]at h
  split at h
  ·rename_i hq
   obtain rfl:q=p.1:=by simpa using hq
   rw[←ahl h]; exact hk.1
  ·exact hk.2.look q v h
theorem dv(hs:Std ρ)(l:List (Nat×Value)){V:Value}(hl:KnL ρ l)(hx:evV P o l=some V:=by kernel_rfl)(hd:o.dst.isSome=true:=by rfl):Does P o ρ w (fun v w'=>Ext w w'∧Rel.is V (kept o v) w'):=
 Xr (os:=[o]) (i:=0) rfl hs l hl.look V ⟨Ext.rfl',by obtain⟨d,hd⟩:=aij.1 hd; unfold kept; rw[hd]; rfl⟩ hx
def evC(P:Program)(o:Oper)(l:List (Nat×Value)):Option (FuncId×Array Value):=match qQ o.op || !o.op.operands.all (fun x=>(rd (lift l) [] x).isSome),gJ (ev0 P (execOp (wQ (lift l) []) o))with
 | false,some (.enter f args)=>some (f,args)
 | _,_=>none
theorem dc(hs:Std ρ)(l:List (Nat×Value)){T:Fact}{f:FuncId}{args:Array Value}(hl:KnL ρ l)(hc:Calls P f args w (fun e w''=>∃v,e = .returned v∧Ext w w''∧T v w''))(hx:evC P o l=some (f,args):=by kernel_rfl)(hd:o.dst.isSome=true:=by rfl) :
  Does P o ρ w (fun v w'=>Ext w w'∧T (kept o v) w'):=by
 unfold evC at hx;split at hx
 ·rename_i f' args' hav hev;simp only[ahd,ahg]at hx;obtain⟨rfl,rfl⟩:=hx;simp only[ah5]at hav;have hH:Holds ρ (lift l):=fun q x hq=>by
   rw[jy]at hq;cases h2:l.lookup q with
   | none=>simp[h2]at hq
   | some u =>
    simp only[h2,ahW,ahd]at hq;subst hq;rw[hl.look q u h2]; rfl
  have hrun:(execOp ρ o).run P w = .ok (.enter f' args') w:=lQ hs (jd hH o) (p:=[]) rfl hav.1 (by simpa using hav.2) hev;refine yw hrun (hc.mono fun e w'' h=>?_);obtain⟨v,h1,h2,h3⟩:=h;obtain⟨d,hd⟩:=aij.1 hd;exact⟨v,h1,h2,by unfold kept; rw[hd]; exact h3⟩
 cases hx
def cvB(P:Program)(o:Oper):Option Nat:=match o.op with
 | .convert s t (.tmp x)=>(match P.underlying s,P.underlying t with
  | some (.slice e),some .string=>(match P.underlying e with
   | some (.int .u8)=>some x
   | _=>none)
  | _,_=>none)
 | _=>none
theorem OZ{x:Nat}{v:Value}{bs:List UInt8}(hx:ρ (.tmp x)=v)(hv:bZ w v bs)(hc:cvB P o=some x:=by kernel_rfl)(hd:o.dst.isSome=true:=by rfl):Does P o ρ w (fun v w'=>Ext w w'∧Rel.is (.string ⟨bs.toArray⟩) (kept o v) w'):=by
 unfold cvB at hc;split at hc
 ·rename_i s t x' hop;split at hc
  ·rename_i e hs ht;split at hc
   ·rename_i he;obtain rfl:=ahl hc;have hr:=jl (P:=P) hs he ht hv;have hrun:(execOp ρ o).run P w = .ok (.value (.string ⟨bs.toArray⟩)) w:=by
     unfold execOp;rw[hop];simp only[hx];rw[ahS,hr];rfl
    unfold Does;rw[hrun];exact⟨Ext.rfl',by obtain⟨d,hd⟩:=aij.1 hd; unfold kept; rw[hd]; rfl⟩
   cases hc
  cases hc
 cases hc
theorem dvb(hs:Std ρ)(l:List (Nat×Value))(c:Bool){B:Bool}(hl:KnL ρ l)(hc:c=B)(hx:evV P o l=some (.bool c):=by kernel_rfl)(hd:o.dst.isSome=true:=by rfl):Does P o ρ w (fun v w'=>Ext w w'∧Rel.is (.bool B) (kept o v) w'):=by
 subst hc; exact dv hs l hl hx hd
theorem dld{t b off:Nat}{ty:TypeId}{cs:List Value}{V:Value}(hx:ρ (.tmp t) = .pointer (some ⟨b,off,none⟩))(hr:w.rangeAt b off cs)(ho:o.op = .load ty (.tmp t):=by rfl)(hl:Ib P ty cs=some V:=by kernel_rfl)(hd:o.dst.isSome=true:=by rfl) :
  Does P o ρ w (fun v w'=>Ext w w'∧Rel.is V (kept o v) w'):=by
 have h1:=Fq hl hr;have hrun:(execOp ρ o).run P w = .ok (.value V) w:=by
  unfold execOp;rw[ho];simp only[hx,ahS,h1];rfl
 unfold Does;rw[hrun];exact⟨Ext.rfl',by obtain⟨d,hd⟩:=aij.1 hd; unfold kept; rw[hd]; rfl⟩
theorem Z9{t r:TypeId}{x y:Nat}{l m:List UInt8}{B:Bool}(hx:ρ (.tmp x) = .string ⟨l.toArray⟩)(hy:ρ (.tmp y) = .string ⟨m.toArray⟩)(hV:(l==m)=B)(ho:o.op = .binOp .eql t (.tmp x) (.tmp y) r:=by rfl)(hd:o.dst.isSome=true:=by rfl) :
  Does P o ρ w (fun v w'=>Ext w w'∧Rel.is (.bool B) (kept o v) w'):=by
 have hrun:(execOp ρ o).run P w = .ok (.value (.bool (l==m))) w:=by
  unfold execOp;rw[ho];simp only[hx,hy];have hg:(eqGuard .eql t (.tmp x) (.tmp y) (.string ⟨l.toArray⟩) (.string ⟨m.toArray⟩)).run P w = .ok () w:=rfl;have hb:(binOp .eql t (.string ⟨l.toArray⟩) (.string ⟨m.toArray⟩)).run P w = .ok (.bool (l==m)) w:=by
   rw[binOp_string_eql,ByteArray.toList_eq,ByteArray.toList_eq]; rfl
  simp only[ahS,hg,hb,ajd];rfl
 unfold Does;rw[hrun];exact⟨Ext.rfl',by obtain⟨d,hd⟩:=aij.1 hd; unfold kept; rw[hd,hV]; rfl⟩
theorem sS{q:Nat→Bool}{i:Nat}{v:Value}:∀{l:List (Nat×Value)},(l.filter fun p=>q p.1).lookup i=some v→q i=true∧l.lookup i=some v
 | [],h=>by simp at h
 | (x,u)::l,h=>by
  by_cases hp:q x=true
  ·rw[List.filter_cons_of_pos (by exact hp)]at h
   by_cases e:i=x
   ·subst e
    simp only[ahR,aiU]at h ⊢
    exact⟨hp,h⟩
   ·have e2:(i==x)=false:=by simpa using e
    simp only[ahR,e2]at h ⊢
    exact sS h
  ·rw[List.filter_cons_of_neg (by exact hp)]at h
   obtain⟨h1,h2⟩:=sS h
   refine⟨h1,?_⟩
   have e2:(i==x)=false:=by simp; intro e; subst e; exact hp h1
   simp only[ahR,e2]
   exact h2
theorem Sj(S:St w0 a w n l bl vs){id:Nat}(m:Nat)(Ts:List Fact)(j d:Nat)(V:Value)(hm:Rel.Bz Ext Ts)(hob:Go.Rel.nM P os.toArray (os.take m) Ts Ext (Ext w) a.eval (os.take m) Ts)
  (next:∀a' w',Ext w w'→St w0 a' w' n ((d,V)::l.filter fun p=>os.all fun o => !(o.dst==some p.1)) bl vs→wpList P os.toArray Q [] a' w') (hV:Ts[j]?=some (Rel.is V)) (hj:((os[j]?).bind (·.dst)==some d&&os.length==m&&decide (j<m))=true:=by kernel_rfl)
  (hmo:P.follows .mixedOrders=true:=by kernel_rfl) (hB:okB os.toArray m n=true:=by kernel_rfl):(Code.region id os.toArray true).wp P Q a w:=by
 simp only[ahD,ahu,ahK]at hj;obtain⟨⟨h1,rfl⟩,h3⟩:=hj;obtain⟨hlen,hget⟩:=Go.Rel.jR _ _ hob;refine wp_region_any hmo (BA (R:=Ext) (C:=Ext w) os.length [] (by rw[S.s.size]; exact hB) Ts Fv (below_drewN (ahs _ _) 1) (fun _ _ h k=>Ext.trans' h k) (fun T hT v w1 w2 hR h=>Rel.Bz.mem hm T hT v w1 w2 hR h)
  (fun i o hi ho=>hget i o (by rw[List.getElem?_take_of_lt hi]; exact ho)) fun a' w' hE hd hs hf hout _=>?_)
 have ho:∃o,os[j]?=some o∧o.dst=some d:=by
  cases h:os[j]? with
  | none=>rw[h]at h1; cases h1
  | some o=>rw[h]at h1; exact⟨o,rfl,h1⟩
 obtain⟨o,ho,hdo⟩:=ho;have hf1:=hf j o (by rw[List.getElem?_take_of_lt h3]; exact ho);have e1:Ts.getD j top=Rel.is V:=by simp[List.getD,hV]
 rw[e1,hdo]at hf1;have hf2:a'.eval (.tmp d)=V:=hf1;rw[List.drop_length];refine next a' w' hE ((S.grow hE).act ⟨hs.trans S.s.size,hd.trans S.s.defers,fun i v hi=>?_⟩);rw[ahR]at hi;split at hi
 ·rename_i hi2;obtain rfl:i=d:=by simpa using hi2
  rw[←ahl hi]; exact hf2
 obtain⟨hq,hi⟩:=sS (q:=fun x=>os.all fun o => !(o.dst==some x)) hi;exact(hout i (by rw[ahX]; exact hq)).trans (S.s.has i v hi)
end Go.Sx
end
section
namespace Go.Sx
open Go.Proofs.YtiafijffnejhoaaGreatDoor Go.RowKit Go.Rel
section
variable{P:Program}{os:List Oper}{Q:Exit→Act→World→Prop}{w0:World}{a:Act}{w:World}{n:Nat}{l:List (Nat×Value)}{bl:List (Nat×List Value)}{vs:List dY}
def one(os:List Oper)(i:Nat):List Oper:=(os.drop i).take 1
end
end Go.Sx
end
namespace Go.Proofs.YtiafijffnejhoaaGreatDoor
section
open Go.RowKit
variable{α:Type}{K:Nat}
theorem all_nil{s m:dH}{es:List ku}{k:Nat}(hR:dG s.key (es.map ku.key) 0=dG m.key ((es.map ku.key).drop k) k)(hk:es.length≤k):dG s.key (es.map ku.key) 0=(m.key,(k:Int),0):=by
 rw[hR,aic (by simpa using hk)]; rfl
theorem all_cons{s m t:dH}{es:List ku}{e:ku}{code:Int}{k:Nat}(hR:dG s.key (es.map ku.key) 0=dG m.key ((es.map ku.key).drop k) k)(hk:k<es.length)(he:es[k]=e)(h:(t.key,code)=oU m.key e.key) :
  dG s.key (es.map ku.key) 0=if code=0 then dG t.key ((es.map ku.key).drop (k+1)) (k+1)else (.zero,(k:Int),code):=by
 rw[hR,ahU (by simpa using hk),List.getElem_map,he];unfold dG;rw[←h];cases hc:(es.map ku.key).drop (k+1)<;>rfl
end
section
theorem IsTree.aa8{n:Nat}{f:Nat→Int}(T:IsTree n f){k i:Nat}(hk:k<n)(h:vM f k=(i:Int)):pW n f k≤pW n f i:=by
 obtain⟨h1,h2,h3⟩:=(T.Uf hk).1 h;obtain⟨a1,a2,a3,a4⟩:=mO (n:=n) (f:=f) (i:=i) (by omega);obtain⟨b1,b2,b3,b4⟩:=mO (n:=n) (f:=f) hk;by_cases hx:pW n f k≤pW n f i
 ·exact hx
 have:=b3 (pW n f i) h2 (by omega);have:=a4 (by omega);omega
theorem IsTree.UK{n:Nat}{f:Nat→Int}(T:IsTree n f){m k:Nat}(hk:k<n)(hm:f k<m):((xq f m k).length:Int)=f k+1:=by
 rw[T.Ug m k hk hm,ai8,List.length_range];have:=T.nn k hk;omega
structure Way (n:Nat) (f:Nat→Int) (L:List Nat) (k:Nat):Prop where
 last:L.getLast?=some k
 head:∀(h:0<L.length),vM f L[0] = -1
 lt:∀x∈L,x<n
 next:∀j (h:j+1<L.length),vM f L[j+1]=(L[j]:Int)∧pW n f L[j+1]≤pW n f L[j]
theorem IsTree.way{n:Nat}{f:Nat→Int}(T:IsTree n f):∀(m k:Nat),k<n→f k<m→Way n f (xq f m k) k
 | 0,k,hk,h=>by have:=T.nn k hk; omega
 | m+1,k,hk,h=>by
  rcases Int.lt_or_le 0 (f k)with h0 | h0
  ·obtain⟨j,h1,h2,h3⟩:=T.NC hk h0
   have e:xq f (m+1) k=xq f m j++[k]:=by
    show(if vM f k<0 then []else xq f m (vM f k).toNat)++[k]=_
    rw[h1,ahe (by omega),ajc]
   have ih:=T.way m j (by omega) (by omega)
   have hlen:=T.UK (m:=m) (k:=j) (by omega) (by omega)
   have hnn:=T.nn j (by omega)
   rw[e]
   refine⟨List.getLast?_concat ..,fun hp=>?_,fun x hx=>?_,fun i hi=>?_⟩
   ·rw[ajb (by omega)]
    exact ih.head _
   ·rcases ah8.1 hx with hx | hx
    ·exact ih.lt x hx
    ·rw[aiK.1 hx]; exact hk
   ·rw[ahP,ajr]at hi
    by_cases hl:i+1<(xq f m j).length
    ·rw[ajb hl,ajb (by omega)]
     exact ih.next i hl
    ·have e2:(xq f m j++[k])[i+1]'(by rw[ahP,ajr]; omega)=k:=by
      rw[ajs (by omega)]; simp
     have e3:(xq f m j++[k])[i]'(by rw[ahP,ajr]; omega)=j:=by
      rw[ajb (by omega)]
      have:=ih.last
      rw[List.getLast?_eq_getElem?,List.getElem?_eq_getElem (by omega)]at this
      have h5:=ahl this
      have h6:i=(xq f m j).length-1:=by omega
      subst h6
      exact h5
     rw[e2,e3]
     exact⟨h1,T.aa8 hk h1⟩
  ·have hz:f k=0:=by have:=T.nn k hk; omega
   have hp:=(T.par_none hk).2 hz
   have e:xq f (m+1) k=[k]:=by
    show(if vM f k<0 then []else xq f m (vM f k).toNat)++[k]=_
    rw[hp,ahf (by decide)]; rfl
   rw[e]
   refine⟨rfl,fun _=>hp,fun x hx=>by rw[aiK.1 hx]; exact hk,fun i hi=>?_⟩
   rw[ajr]at hi; omega
end
section
open Go.RowKit
variable{α:Type}{K:Nat}
def ac8(n:Nat):Value := .i n
theorem wS(l:List Nat):l.flatMap (fun n:Nat=>[ac8 n])=l.map ac8:=by induction l<;>simp_all
end
end Go.Proofs.YtiafijffnejhoaaGreatDoor
section
namespace Go.Sx
open Go.Proofs.YtiafijffnejhoaaGreatDoor Go.RowKit Go.Rel
structure Rl (kp:TypeId→Nat→Bool) (base:Nat) (w w':World):Prop where
 bel:Below base w w'
 obj:∀(g:Nat) (cur:Array Value) (e:TypeId),w.heap[g]?=some (.cells cur e (0,0))→∃cur':Array Value,w'.heap[g]?=some (.cells cur' e (0,0))∧cur'.size=cur.size∧∀i:Nat,kp e i=true→cur'[i]?=cur[i]?
section
variable{kp:TypeId→Nat→Bool}{base:Nat}{w w' w2:World}
theorem Rl.refl:Rl kp base w w:=⟨ahs _ _,fun g cur e h=>⟨cur,h,rfl,fun _ _=>rfl⟩⟩
theorem Rl.trans(h:Rl kp base w w')(k:Rl kp base w' w2):Rl kp base w w2:=⟨h.bel.trans k.bel,fun g cur e hg=>by
 obtain⟨c1,h1,h2,h3⟩:=h.obj g cur e hg;obtain⟨c2,k1,k2,k3⟩:=k.obj g c1 e h1;exact⟨c2,k1,k2.trans h2,fun i hi=>(k3 i hi).trans (h3 i hi)⟩⟩
theorem Rl.ext(h:Rl kp base w w')(hE:Ext w' w2)(hb:base≤w'.heap.size):Rl kp base w w2:=h.trans ⟨⟨hE.os,hE.tape,hE.output,hE.size,fun k hk=>hE.block k (ahG hk hb)⟩,fun g cur e hg=>⟨cur,(hE.block g (nJ hg).1).trans hg,rfl,fun _ _=>rfl⟩⟩
theorem Rl.set{g off:Nat}{cur:Array Value}{e:TypeId}{cs:List Value}(h:w.heap[g]?=some (.cells cur e (0,0)))(hb:base≤g)(hf:off+cs.length≤cur.size)(hk:∀j,j<cs.length→kp e (off+j)=false):Rl kp base w (w.setCells g off cs):=by
 have hc:Ch g w (w.setCells g off cs):=(Ch.refl g w).setCells cs off;refine⟨hc.below hb (ahC hb (aiw (nJ h).1)),fun g' cur' e' hg'=>?_⟩;by_cases hgg:g'=g
 ·subst hgg;rw[h]at hg';simp only[ahd,Obj.cells.injEq,and_true]at hg';obtain⟨rfl,rfl⟩:=hg';refine⟨_,qF g' e (0,0) cs off w cur h hf,by unfold spl; simp; omega,fun i hi=>?_⟩;rw[List.getElem?_toArray];unfold spl;rw[List.getElem?_append,List.getElem?_append];simp only[ahP,aiS,Array.length_toList,List.getElem?_take,List.getElem?_drop];rw[Nat.min_eq_left (by omega)];by_cases h1:i<off
  ·simp[h1,show i<off+cs.length by omega]
  by_cases h2:i<off+cs.length
  ·exfalso;have:=hk (i-off) (by omega);rw[show off+(i-off)=i by omega,hi]at this;cases this
  simp[h2,show off+cs.length+(i-(off+cs.length))=i by omega]
 exact⟨cur',(hc.block g' (nJ hg').1 fun e=>hgg (ahl e)).trans hg',rfl,fun _ _=>rfl⟩
theorem Ty.now{k n:Nat}{e:TypeId}{v:Value}(h:Ty e k base v n w)(hR:Rl kp base w w')(hn:0<n):∃g cap,v = .slice (some ⟨g,0,none⟩) n cap∧base≤g∧g<w.heap.size∧∃cur,w'.heap[g]?=some (.cells cur e (0,0))∧n*k≤cur.size:=by
 rcases h with h | ⟨g,cap,cur,h1,h2,h3,h4⟩
 ·omega
 obtain⟨c,h5,h6,-⟩:=hR.obj g cur e h3;exact⟨g,cap,h1,h2,(nJ h3).1,c,h5,by rw[h6]; exact h4⟩
theorem ET.now{α:Type}{k:Nat}{e:TypeId}{f:α→List Value}{v:Value}{L:List α}(h:ET e k f base v L w)(hR:Rl kp base w w'){i:Nat}(hi:i<L.length)(j m:Nat){cs:List Value}(hm:j+cs.length≤k)(hc:((f L[i]).drop j).take cs.length=cs)(hk:∀q,q<cs.length→kp e (i*k+j+q)=true){g cap:Nat}(hv:v = .slice (some ⟨g,0,none⟩) L.length cap):w'.rangeAt g (0+i*k+j) cs:=by
 subst hv;obtain⟨hrow,hty⟩:=h;rcases hty with hty | ⟨g',cap',cur,h1,h2,h3,h4⟩
 ·omega
 simp only[ahE,ahd,aiV,and_true,true_and]at h1;obtain⟨rfl,rfl⟩:=h1;obtain⟨c,h5,h6,h7⟩:=hR.obj g cur e h3;obtain⟨a,cp,hv,hm2,⟨rfl,_⟩ | ⟨b,o,rfl,hb,hl,hcell⟩⟩:=hrow
 ·simp at hi
 simp only[ahE,ahd,aiV,and_true,true_and]at hv;obtain⟨⟨rfl,rfl⟩,rfl⟩:=hv;intro q u hq;have hql:q<cs.length:=by
  by_cases h:q<cs.length
  ·exact h
  rw[List.getElem?_eq_none (by omega)]at hq; cases hq
 have h8:=hcell i hi (j+q) (by omega);rw[(nJ h3).2.1]at h8;have h9:=h7 (i*k+j+q) (hk q hql);rw[(nJ h5).2.1,show 0+i*k+j+q=i*k+j+q by omega,h9,show i*k+j+q=0+i*k+(j+q) by omega,h8];rw[←hc,List.getElem?_take_of_lt hql,List.getElem?_drop]at hq;exact hq
variable{P:Program}{ops:Array Oper}{Q:Exit→Act→World→Prop}{w0:World}{a:Act}{os:List Oper}{n:Nat}{l:List (Nat×Value)}{bl:List (Nat×List Value)}{vs:List dY}
def cut(base:Nat)(w:World):World:={ w with heap:=w.heap.extract 0 base }
theorem IU(hb:base≤w.heap.size):(cut base w).heap.size=base:=by unfold cut; simp; omega
theorem XG(hb:base≤w.heap.size):Ext (cut base w) w:=⟨rfl,rfl,rfl,by rw[IU hb]; exact hb,fun k hk=>by
 rw[IU hb]at hk;unfold cut;rw[Array.getElem?_extract];simp; omega⟩
theorem St.from(S:St w a w n l [] [])(hb:base≤w.heap.size):St (cut base w) a w n l [] []:=⟨S.s,XG hb,fun p hp=>(by cases hp),S.apart,fun m hm=>(by cases hm)⟩
end
end Go.Sx
end
section
namespace Go.Sx
open Go.Proofs.YtiafijffnejhoaaGreatDoor Go.RowKit Go.Rel
section
variable{w0 w w1 w2:World}{a a0:Act}{n:Nat}{l l0:List (Nat×Value)}{bl:List (Nat×List Value)}{vs vs0:List dY}
theorem St.re(S:St w0 a w n l bl vs):St w a w n l [] (jG bl vs):=⟨S.s,Ext.rfl',fun p hp=>(by cases hp),List.nodup_nil,fun m hm=>⟨S.yc m hm,fun p hp=>(by cases hp)⟩⟩
theorem St.back(S0:St w0 a0 w1 n l0 bl vs0)(S:St w2 a w n l [] vs)(h:Ext w1 w2):St w0 a w n l bl []:=
 have hE:Ext w1 w:=Ext.trans' h S.E
 ⟨S.s,(S0.grow hE).E,(S0.grow hE).own,S0.apart,fun m hm=>by cases hm⟩
end
end Go.Sx
end
section
namespace Go.Proofs.YtiafijffnejhoaaGreatDoor
open Go.RowKit
variable{α:Type}{K:Nat}
structure gB where
 a:Option Addr
 l:List aB
def gB.v(t:gB):Value := .slice t.a t.l.length t.l.length
abbrev gB.key (t:gB):List aJ:=keys t.l
abbrev Fz (K:Nat)(w:World)(v:Value)(l:List gB):Prop:=aK 1 (fun t=>[t.v]) w v l∧∀t∈l,lF K w t.v t.l
theorem Fz.below{w w':World}{v:Value}{l:List gB}(h:Fz K w v l)(hb:Ext w w'):Fz K w' v l:=⟨h.1.below hb,fun t ht=>(h.2 t ht).below hb⟩
structure FB (K:Nat) (w:World) (L:List aB) (i:Nat) (ts:List gB):Prop where
 le:i≤L.length
 key:yh (keys L)=ts.map gB.key++yh ((keys L).drop i)
 flat:(ts.map gB.l).flatten=L.take i
 ok:∀t∈ts,lF K w t.v t.l
 len:ts.length≤i
 ne:∀t∈ts,0<t.l.length
theorem XH{β:Type}(p:β→Bool)(X:List β):X.take (X.takeWhile p).length=X.takeWhile p∧X.drop (X.takeWhile p).length=X.dropWhile p:=by
 have h:=List.takeWhile_append_dropWhile (p:=p) (l:=X);generalize X.takeWhile p=A at *;generalize X.dropWhile p=B at *;subst h;exact⟨List.take_left,List.drop_left⟩
theorem Lc{l:List aJ}{i:Nat}(hi:i<l.length):yh (l.drop i)=((l.drop i).take (iW l i-i))::yh (l.drop (iW l i)):=by
 have hd:l.drop i=l[i]::l.drop (i+1):=(ajw hi).symm;have h1:=Fg hi;have e:iW l i-i=((l.drop (i+1)).takeWhile fun κ=>decide (l[i].depth<κ.depth)).length+1:=by
  unfold iW; rw[oM hi]; omega
 obtain⟨t1,t2⟩:=XH (fun κ:aJ=>decide (l[i].depth<κ.depth)) (l.drop (i+1));rw[show l.drop (iW l i)=(l.drop (i+1)).drop (iW l i-i-1) by rw[aiQ]; congr 1; omega,e,Nat.add_sub_cancel,hd,KI,List.take_succ_cons,t1,t2]
theorem FC{w:World}{a:Option Addr}{L:List aB}{c i j:Nat}(h:lF K w (.slice a L.length c) L)(hi:i≤j)(hj:j≤L.length):lF K w (.slice (Sx.KL a i j 47) (j-i) (j-i)) ((L.drop i).take (j-i)):=
 ⟨Sx.Bh h.1 hi hj (ahh j) (ahC hj (Sx.Bj h.1)),fun n hn=>h.2 n (List.mem_of_mem_drop (List.mem_of_mem_take hn))⟩
theorem FB.step{w:World}{a:Option Addr}{L:List aB}{c i:Nat}{ts:List gB}(h:lF K w (.slice a L.length c) L)(hT:FB K w L i ts)(hi:i<L.length) :
  FB K w L (iW (keys L) i) (ts++[⟨Sx.KL a i (iW (keys L) i) 47,(L.drop i).take (iW (keys L) i-i)⟩]):=by
 have hi':i<(keys L).length:=by simpa using hi
 obtain⟨h1,h2⟩:=Fg hi';have h3:iW (keys L) i≤L.length:=by simpa using h2
 refine⟨h3,?_,?_,fun t ht=>?_,?_,fun t ht=>?_⟩
 ·rw[hT.key,Lc hi',ahT,List.map_singleton,aik,List.singleton_append];show _=_++((L.drop i).take _).map _::_;rw[List.map_take,List.map_drop]
 ·rw[ahT,List.flatten_append,hT.flat,List.map_singleton,List.flatten_singleton];conv=>rhs; rw[show iW (keys L) i=i+(iW (keys L) i-i) by omega,List.take_add]
 ·rcases ah8.1 ht with ht | ht
  ·exact hT.ok t ht
  rw[aiK.1 ht];have:=FC h (i:=i) (j:=iW (keys L) i) (by omega) h3;unfold gB.v;rwa [show((L.drop i).take (iW (keys L) i-i)).length=iW (keys L) i-i by simp; omega]
 ·rw[ahP,ajr]; have:=hT.len; omega
 rcases ah8.1 ht with ht | ht
 ·exact hT.ne t ht
 rw[aiK.1 ht]; simp; omega
theorem IV:∀{x y:List (List aJ)} {p:Nat},p≤x.length→p≤y.length→x.take p=y.take p→(∀(hx:p<x.length) (hy:p<y.length),x[p]≠y[p])→pK x y=p
 | [],y,p,h1,_,_,_=>by
  obtain rfl:p=0:=by simpa using h1
  simp[pK]
 | x::a,[],p,_,h2,_,_=>by
  obtain rfl:p=0:=by simpa using h2
  simp[pK]
 | x::a,y::b,0,_,_,_,h=>by
  unfold pK
  have:=h (by simp) (by simp)
  simp only[ajf]at this
  rw[ahe this]
 | x::a,y::b,p+1,h1,h2,h3,h4=>by
  rw[List.take_succ_cons,List.take_succ_cons,ahA]at h3
  unfold pK
  rw[ahf h3.1,IV (by simpa using h1) (by simpa using h2) h3.2 fun hx hy=>by
   have:=h4 (by simpa using hx) (by simpa using hy)
   simpa using this]
theorem rev_at{x:List (List aJ)}{p q:Nat}(h:q+p<x.length):∃h2:q<(x.drop p).reverse.length,(x.drop p).reverse[q]=x[x.length-1-q]'(by omega):=by
 refine⟨by simp; omega,?_⟩;rw[List.getElem_reverse,ajj];congr 1;simp only[List.length_drop]; omega
abbrev kD (l:List gB):List (List aJ):=l.map gB.key
theorem NP{l:List gB}{k:Nat}{x:gB}(h:k<l.length)(hx:l[k]=x):(kD l)[k]'(by simpa using h)=x.key:=by simp[hx]
structure Dc (l m:List gB) (p:Nat):Prop where
 l1:p≤l.length
 l2:p≤m.length
 e:(kD l).take p=(kD m).take p
theorem Dc.zero(l m:List gB):Dc l m 0:=⟨ahk _,ahk _,rfl⟩
theorem Dc.step{l m:List gB}{p:Nat}(h:Dc l m p)(h1:p<l.length)(h2:p<m.length){x y:gB}(hx:l[p]=x)(hy:m[p]=y)(he:decide (keys x.l=keys y.l)=true):Dc l m (p+1):=by
 refine⟨h1,h2,?_⟩;rw[ahM (by simpa using h1),ahM (by simpa using h2),h.e,NP h1 hx,NP h2 hy];have:=aho he;rw[show x.key=y.key from this]
theorem Dc.full{l m:List gB}{p:Nat}(h:Dc l m p)(hn:¬p<min l.length m.length):pK (kD l) (kD m)=p:=
 IV (by simpa using h.l1) (by simpa using h.l2) h.e fun hx hy=>by simp at hx hy; omega
theorem Dc.no{l m:List gB}{p:Nat}(h:Dc l m p)(h1:p<l.length)(h2:p<m.length){x y:gB}(hx:l[p]=x)(hy:m[p]=y)(he:decide (keys x.l=keys y.l)=false):pK (kD l) (kD m)=p:=
 IV (by simpa using h.l1) (by simpa using h.l2) h.e fun _ _=>by
  rw[NP h1 hx,NP h2 hy]
  exact aht he
structure xC (l m:List gB) (p q:Nat):Prop where
 l1:q+p≤l.length
 l2:q+p≤m.length
 e:((kD l).drop p).reverse.take q=((kD m).drop p).reverse.take q
theorem xC.zero{l m:List gB}{p:Nat}(h:Dc l m p):xC l m p 0:=⟨by have:=h.l1; omega,by have:=h.l2; omega,rfl⟩
theorem xC.at{l:List gB}{p q:Nat}{x:gB}(h:q+p<l.length)(hx:l[l.length-1-q]'(by omega)=x):∃h2:q<((kD l).drop p).reverse.length,((kD l).drop p).reverse[q]=x.key:=by
 obtain⟨h2,h3⟩:=rev_at (x:=kD l) (p:=p) (q:=q) (by simpa using h);refine⟨h2,h3.trans ?_⟩;rw[List.getElem_map];simp only[ai8,hx]
theorem xC.step{l m:List gB}{p q:Nat}(h:xC l m p q)(h1:q+p<l.length)(h2:q+p<m.length){x y:gB}(hx:l[l.length-1-q]'(by omega)=x)(hy:m[m.length-1-q]'(by omega)=y)(he:decide (keys x.l=keys y.l)=true):xC l m p (q+1):=by
 obtain⟨a1,a2⟩:=xC.at h1 hx;obtain⟨b1,b2⟩:=xC.at h2 hy;refine⟨by omega,by omega,?_⟩;rw[ahM a1,ahM b1,h.e,a2,b2,show x.key=y.key from aho he]
theorem xC.full{l m:List gB}{p q:Nat}(h:xC l m p q)(hp:pK (kD l) (kD m)=p)(hn:¬q+p<min l.length m.length):qK (kD l) (kD m)=q:=by
 unfold qK;rw[hp];refine IV ?_ ?_ h.e fun hx hy=>?_
 ·have:=h.l1; simp; omega
 ·have:=h.l2; simp; omega
 simp at hx hy; omega
theorem xC.no{l m:List gB}{p q:Nat}(h:xC l m p q)(hp:pK (kD l) (kD m)=p)(h1:q+p<l.length)(h2:q+p<m.length){x y:gB}(hx:l[l.length-1-q]'(by omega)=x)(hy:m[m.length-1-q]'(by omega)=y)(he:decide (keys x.l=keys y.l)=false):qK (kD l) (kD m)=q:=by
 obtain⟨a1,a2⟩:=xC.at h1 hx;obtain⟨b1,b2⟩:=xC.at h2 hy;unfold qK;rw[hp];refine IV ?_ ?_ h.e fun hx hy=>?_
 ·have:=h.l1; simp; omega
 ·have:=h.l2; simp; omega
 rw[a2,b2]; exact aht he
end Go.Proofs.YtiafijffnejhoaaGreatDoor
end
theorem ag1:type_of% @Go.Sx.dv:=@Go.Sx.dv
