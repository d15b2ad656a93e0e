/- Small laws beside the law for regions that draw their -/
import Derived.Deep.MidRow
import Derived.Test.YtapmgonflgahbaaGreatDoorPk5
import Derived.Test.YtapmgonflgahbaaGreatDoorData
set_option linter.unusedVariables false
section
namespace Go.Rel
variable{P:Program}{o:Oper}{ρ:Operand→Value}{w:World}
theorem JW{u:Value}{R:World→World→Prop}{T:Fact}(h:(execOp ρ o).run P w = .ok (.value u) w)(hR:R w w)(hT:T (kept o u) w):Does P o ρ w (fun v w'=>R w w'∧T (kept o v) w'):=by
 unfold Does; rw[h]; exact⟨hR,hT⟩
theorem Zr{u:Value}{w1:World}{R:World→World→Prop}{T:Fact}(h:(execOp ρ o).run P w = .ok (.value u) w1)(hR:R w w1)(hT:T (kept o u) w1):Does P o ρ w (fun v w'=>R w w'∧T (kept o v) w'):=by
 unfold Does; rw[h]; exact⟨hR,hT⟩
theorem yH{f:Nat}{args:Array Value}{K:Value→World→Prop}(h:(execOp ρ o).run P w = .ok (.enter f args) w)(hc:Calls P f args w (fun e w'=>∃v,e = .returned v∧K v w')):Does P o ρ w K:=by
 unfold Does; rw[h]; exact hc
end Go.Rel
namespace Go.Proofs.YtapmgonflgahbaaGreatDoor
open Go.RowKit
end Go.Proofs.YtapmgonflgahbaaGreatDoor
namespace Go.Proofs.YtapmgonflgahbaaGreatDoor
open Go.RowKit
variable{α:Type}
def Bx(w:World)(b:Nat)(A:Array Value):Prop:=b<w.heap.size∧(∀i,w.cell? ⟨b,i,none⟩=A[i]?)∧(∀i,w.frozen? ⟨b,i,none⟩=false)
theorem Bx.ext{w w':World}{b:Nat}{A:Array Value}(h:Bx w b A)(hb:Ext w w'):Bx w' b A:=
 ⟨by have:=hb.size; have:=h.1; omega,fun i=>(hb.cell (p:=⟨b,i,none⟩) h.1).trans (h.2.1 i),fun i=>(hb.frozen (p:=⟨b,i,none⟩) h.1).trans (h.2.2 i)⟩
theorem Gn(w:World)(A:Array Value)(t:TypeId):Bx (w.alloc (.cells A t)) w.heap.size A:=⟨by simp,fun i=>by simp[go_sem],fun i=>by simp[go_sem]⟩
theorem Bx.ch{w w':World}{b c:Nat}{A:Array Value}(h:Bx w b A)(hc:Ch c w w')(hne:b≠c):Bx w' b A:=
 ⟨by have:=hc.size; have:=h.1; omega,fun i=>(hc.cell (p:=⟨b,i,none⟩) h.1 hne).trans (h.2.1 i),fun i=>(hc.frozen (p:=⟨b,i,none⟩) h.1 hne).trans (h.2.2 i)⟩
theorem Ch.setCells{b:Nat}{w w':World}(h:Ch b w w'):∀(vs:List Value) (o:Nat),Ch b w (w'.setCells b o vs)
 | [],_=>h
 | v::vs,o=>Ch.setCells (h.setCell o v) vs (o+1)
theorem ni{W w:World}(h:Ext W w){c:Nat}(hc:W.heap.size≤c)(vs:List Value)(o:Nat):Ext W (w.setCells c o vs):=
 (Ch.setCells (Ch.iE h) vs o).below hc (ah9 _)
theorem Bx.there{w:World}{b n:Nat}{A:Array Value}(h:Bx w b A)(hn:A.size=n):w.there b 0 n:=fun j hj=>by
 rw[ai0,h.2.1,h.2.2,Array.getElem?_eq_getElem (by omega)]; exact⟨rfl,rfl⟩
theorem size_setCells(b:Nat):∀(vs:List Value) (o:Nat) (w:World),(w.setCells b o vs).heap.size=w.heap.size
 | [],_,_=>rfl
 | v::vs,o,w=>by
  show((w.setCell ⟨b,o,none⟩ v).setCells b (o+1) vs).heap.size=_
  rw[size_setCells b vs (o+1)]; simp
theorem jJ(b:Nat)(vs:List Value)(o:Nat)(w:World)(j:Nat)(h:j<o∨o+vs.length≤j):(w.setCells b o vs).cell? ⟨b,j,none⟩=w.cell? ⟨b,j,none⟩:=
 World.cell?_setCells_out b vs o w ⟨b,j,none⟩ (fun _ _=>h)
theorem mQ(b:Nat):∀(vs:List Value) (o:Nat) (w:World) (p:Addr),(w.setCells b o vs).frozen? p=w.frozen? p
 | [],_,_,_=>rfl
 | v::vs,o,w,p=>by
  show((w.setCell ⟨b,o,none⟩ v).setCells b (o+1) vs).frozen? _=_
  rw[mQ b vs (o+1)]; simp[go_sem]
theorem Bx.set{w:World}{b:Nat}{A:Array Value}(h:Bx w b A)(vs:List Value)(hn:A.size=vs.length):Bx (w.setCells b 0 vs) b vs.toArray:=by
 refine⟨by rw[size_setCells]; exact h.1,fun i=>?_,fun i=>by rw[mQ]; exact h.2.2 i⟩;by_cases hi:i<vs.length
 ·have:=World.rangeAt_setCells_same w b 0 vs (h.there hn) i vs[i] (by simp[hi]);rw[ai0]at this;rw[this]; simp[hi]
 rw[jJ b vs 0 w i (.inr (by omega)),h.2.1,Array.getElem?_eq_none (by omega),Array.getElem?_eq_none (by simp; omega)]
theorem Bx.range{w:World}{b:Nat}{A:Array Value}(h:Bx w b A)(o n:Nat){cs:List Value}(hcs:(A.toList.drop o).take n=cs):w.rangeAt b o cs:=fun j v hv=>by
 subst hcs;rw[h.2.1];rw[List.getElem?_take]at hv;split at hv
 ·rw[List.getElem?_drop]at hv; simpa using hv
 cases hv
theorem Bx.off{f:α→Value}{w:World}{b:Nat}{A:Array Value}(h:Bx w b A)(hA:∀(i:Nat) (x:α),A[i]?≠some (f x)){s:Value}{l:List α}(hs:bV f w s l):0<l.length→Off b s:=by
 intro h0 ad n cap e;obtain⟨b',o,c,hv,hb,_,_,hc⟩:=dF hs rfl h0;rw[hv]at e;simp only[aiK,ah8]at e;obtain⟨rfl,-,-⟩:=e;intro hbg;simp only at hbg;subst hbg;have h1:=hc 0 h0;rw[h.2.1]at h1;exact hA _ _ h1
end Go.Proofs.YtapmgonflgahbaaGreatDoor
namespace Go.Rel
open Go.Proofs.YtapmgonflgahbaaGreatDoor
variable{P:Program}{o:Oper}{ρ:Operand→Value}{w:World}
end Go.Rel
end
namespace Go.Proofs.YtapmgonflgahbaaGreatDoor
section
open Go.RowKit
variable{α:Type}
attribute [local go_sem] Go.Rel.valOf
theorem aJ.shape{base:Nat}{w:World}{v:Value}{neg:Bool}{n:Nat}(h:aJ base w v neg n):∃a d,v = .agg #[.bool neg,.slice a (Na.ak n).length d]:=by
 obtain⟨s,rfl,hs,_⟩:=h;obtain⟨a,d,rfl⟩:=hs.shape;exact⟨a,d,rfl⟩
def iP(K:Nat)(w:World)(v:Value)(z:Int):Prop:=∃n s l,v = .agg #[.bool n,s]∧aC w s l∧l.length≤K∧zv n (Na.val l)=z
theorem iP.mono{K K':Nat}{w:World}{v:Value}{z:Int}(h:iP K w v z)(hk:K≤K'):iP K' w v z:=by
 obtain⟨n,s,l,hv,hs,hl,hz⟩:=h; exact⟨n,s,l,hv,hs,by omega,hz⟩
theorem wI.toQ{base K:Nat}{w:World}{v:Value}{z:Int}(h:wI base w v z)(hk:(Na.ak z.natAbs).length≤K):iP K w v z:=by
 obtain⟨s,hv,hs,_⟩:=h; exact⟨_,s,_,hv,hs,hk,by rw[Na.aF,NP]⟩
theorem CQ{K:Nat}{w:World}{v:Value}{z:Int}(h:iP K w v z):(Na.ak z.natAbs).length≤K:=by
 obtain⟨n,s,l,hv,hs,hl,rfl⟩:=h;rw[pV]; exact aiQ (bD l) hl
theorem iY(x y:Int){K L:Nat}(hx:(Na.ak x.natAbs).length≤K)(hy:(Na.ak y.natAbs).length≤L):(Na.ak (x*y).natAbs).length≤K+L:=by
 apply Na.bf;have h1:=Na.dI (Na.ak x.natAbs);have h2:=Na.dI (Na.ak y.natAbs);rw[Na.aF]at h1 h2;have h3:Na.B^(Na.ak x.natAbs).length≤Na.B^K:=aiV (by decide) hx;have h4:Na.B^(Na.ak y.natAbs).length≤Na.B^L:=aiV (by decide) hy;rw[Int.natAbs_mul,ajP];exact Nat.mul_lt_mul_of_lt_of_lt (aiG h1 h3) (aiG h2 h4)
theorem Oe(x y:Int){K:Nat}(hx:(Na.ak x.natAbs).length≤K)(hy:(Na.ak y.natAbs).length≤K):(Na.ak (x+y).natAbs).length≤K+1:=by
 apply Na.bf;have h1:=Na.dI (Na.ak x.natAbs);have h2:=Na.dI (Na.ak y.natAbs);rw[Na.aF]at h1 h2;have h3:Na.B^(Na.ak x.natAbs).length≤Na.B^K:=aiV (by decide) hx;have h4:Na.B^(Na.ak y.natAbs).length≤Na.B^K:=aiV (by decide) hy;have h6:Na.B^K*2≤Na.B^K*Na.B:=aiN _ (by decide);have h7:=Int.natAbs_add_le x y;rw[aiE];generalize Na.B^K*Na.B=q at *;generalize Na.B^K=p at *;omega
theorem FY(x y:Int){K:Nat}(hx:(Na.ak x.natAbs).length≤K)(hy:(Na.ak y.natAbs).length≤K):(Na.ak (x-y).natAbs).length≤K+1:=by
 rw[Int.sub_eq_add_neg]; exact Oe x (-y) hx (by rw[Int.natAbs_neg]; exact hy)
end
section
open Go.RowKit
variable{α:Type}
theorem acD(n:Bool)(a d:Nat):nrm n false a d=nz (zv n a) d:=by
 unfold nz;rw[pV,TQ];unfold nrm;split
 ·rfl
 congr 1;unfold kT;rcases aiL a with h | h
 ·subst h; simp[oK]
 rw[ajd h,Bool.and_true]
abbrev Hr (q:Bool×Nat×Nat):Prop:=nrm q.1 false q.2.1 q.2.2=q
theorem JX(n1 n2:Bool)(a b:Nat):Hr (nrm n1 n2 a b):=by
 unfold Hr;rcases aiL b with hb | hb
 ·have e:nrm n1 n2 a b=(false,0,1):=by unfold nrm; rw[aib hb]
  rw[e]; decide
 have hg:0<Nat.gcd a b:=akz a hb;have hb':0<b/Nat.gcd a b:=Nat.div_pos (Nat.le_of_dvd hb (akn a b)) hg;have hc:Nat.gcd (a/Nat.gcd a b) (b/Nat.gcd a b)=1:=Nat.coprime_div_gcd_div_gcd hg;have e:nrm n1 n2 a b=(kT n1 n2 a b,a/Nat.gcd a b,b/Nat.gcd a b):=by unfold nrm; rw[ah7 (by omega)]
 rw[e];have hneg:kT n1 n2 a b=true→0<a/Nat.gcd a b:=by
  unfold kT; rw[aiq]; intro h; simpa using h.2
 generalize kT n1 n2 a b=n at *;generalize a/Nat.gcd a b=x at *;generalize b/Nat.gcd a b=y at *;unfold nrm;rw[ah7 (by simp only; omega)];simp only[hc,Nat.div_one];congr 1;unfold kT;rcases aiL x with h | h
 ·subst h;have:n=false:=by
   cases n
   ·rfl
   exact absurd (hneg rfl) (by omega)
  subst this; simp[oK]
 rw[hc,Nat.div_one,ajd h,Bool.and_true];unfold oK;have hx:x≠0:=by omega
 have hy:y≠0:=by omega
 rw[ah7 hx,ah7 hy];cases n<;>decide
theorem KE(z:Int)(d:Nat):Hr (nz z d):=JX _ _ _ _
theorem Zt(n1 n2:Bool)(a b:Nat):0<(nrm n1 n2 a b).2.2:=by
 unfold nrm;split
 ·exact Nat.one_pos
 exact Nat.div_pos (Nat.le_of_dvd (by omega) (akn a b)) (akz a (by omega))
def qlen(K:Nat)(q:Bool×Nat×Nat):Prop:=(Na.ak q.2.1).length≤K∧(Na.ak q.2.2).length≤K
theorem WY:(Na.ak 1).length≤1:=Na.bf (by decide)
theorem WZ{K:Nat}(z:Int)(d:Nat)(hK:1≤K)(h1:(Na.ak z.natAbs).length≤K)(h2:(Na.ak d).length≤K):qlen K (nz z d):=by
 unfold nz nrm;split
 ·exact⟨by rw[Na.nK]; simp,aiQ WY hK⟩
 exact⟨aiQ (dU (ajO _ _)) h1,aiQ (dU (ajO _ _)) h2⟩
theorem mV{K:Nat}{q:Bool×Nat×Nat}(h:qlen K q):(Na.ak (qz q).natAbs).length≤K:=by unfold qz; rw[pV]; exact h.1
theorem iH{n K:Nat}(h:(Na.ak n).length≤K):(Na.ak (n:Int).natAbs).length≤K:=by rw[ajK]; exact h
theorem wK{K L:Nat}{p q:Bool×Nat×Nat}(hK:1≤K)(h1:qlen K p)(h2:qlen L q):qlen (K+L) (vG p q):=by
 refine WZ _ _ (by omega) (iY _ _ (mV h1) (mV h2)) ?_;have:=iY p.2.2 q.2.2 (iH h1.2) (iH h2.2);rwa [show((p.2.2:Int)*(q.2.2:Int))=((p.2.2*q.2.2:Nat):Int) by simp,ajK]at this
theorem Vq{K L:Nat}{p q:Bool×Nat×Nat}(hK:1≤K)(h1:qlen K p)(h2:qlen L q):qlen (K+L+1) (Dy p q):=by
 refine WZ _ _ (by omega) (FY _ _ (iY _ _ (mV h1) (iH h2.2)) (by rw[ajI]; exact iY _ _ (mV h2) (iH h1.2))) ?_;have:=iY p.2.2 q.2.2 (iH h1.2) (iH h2.2);rw[show((p.2.2:Int)*(q.2.2:Int))=((p.2.2*q.2.2:Nat):Int) by simp,ajK]at this;omega
def dM(K:Nat)(w:World)(v:Value)(q:Bool×Nat×Nat):Prop:=
 ∃n1 s1 l1 n2 s2 l2,v = .agg #[.bool n1,s1,.bool n2,s2]∧aC w s1 l1∧aC w s2 l2∧l1.length≤K∧l2.length≤K∧nrm n1 n2 (Na.val l1) (Na.val l2)=q
theorem dM.below{K:Nat}{w w':World}{v:Value}{q:Bool×Nat×Nat}(h:dM K w v q)(hb:Ext w w'):dM K w' v q:=by
 obtain⟨n1,s1,l1,n2,s2,l2,hv,h1,h2,h3,h4,h5⟩:=h; exact⟨n1,s1,l1,n2,s2,l2,hv,h1.below hb,h2.below hb,h3,h4,h5⟩
theorem dM.shape{K:Nat}{w:World}{v:Value}{q:Bool×Nat×Nat}(h:dM K w v q):∃n1 a1 m1 c1 n2 a2 m2 c2,v = .agg #[.bool n1,.slice a1 m1 c1,.bool n2,.slice a2 m2 c2]:=by
 obtain⟨n1,s1,l1,n2,s2,l2,rfl,h1,h2,_⟩:=h;obtain⟨a1,c1,rfl⟩:=h1.shape;obtain⟨a2,c2,rfl⟩:=h2.shape;exact⟨_,_,_,_,_,_,_,_,rfl⟩
theorem dM.nrm{K:Nat}{w:World}{v:Value}{q:Bool×Nat×Nat}(h:dM K w v q):Hr q:=by
 obtain⟨n1,s1,l1,n2,s2,l2,_,_,_,_,_,rfl⟩:=h; exact JX _ _ _ _
theorem dM.pos{K:Nat}{w:World}{v:Value}{q:Bool×Nat×Nat}(h:dM K w v q):0<q.2.2:=by
 obtain⟨n1,s1,l1,n2,s2,l2,_,_,_,_,_,rfl⟩:=h; exact Zt _ _ _ _
theorem dM.len{K:Nat}{w:World}{v:Value}{q:Bool×Nat×Nat}(h:dM K w v q)(hK:1≤K):qlen K q:=by
 obtain⟨n1,s1,l1,n2,s2,l2,_,_,_,h3,h4,rfl⟩:=h;have:=NQ n1 n2 l1 l2;exact⟨by omega,by omega⟩
theorem bP.toQ{w:World}{r:bP}{K:Nat}(h:r.ok w)(hf:r.fit K):dM K w r.v r.q:=⟨r.n1,r.s1,r.l1,r.n2,r.s2,r.l2,rfl,h.1,h.2,hf.1,hf.2,rfl⟩
theorem aB.toQ{base K:Nat}{w:World}{v:Value}{q:Bool×Nat×Nat}(h:dB base w v q)(hn:Hr q)(hl:qlen K q):dM K w v q:=by
 obtain⟨s,t,rfl,hs,ht,_,_⟩:=h;exact⟨_,s,_,_,t,_,rfl,hs,ht,hl.1,hl.2,by rw[Na.aF,Na.aF]; exact hn⟩
theorem aB.parts'{base K:Nat}{w:World}{n m:Bool}{s t:Value}{q:Bool×Nat×Nat}(h:dB base w (.agg #[.bool n,s,.bool m,t]) q)(hl:qlen K q) :
  iP K w (.agg #[.bool n,s]) (qz q)∧iP K w (.agg #[.bool m,t]) (q.2.2:Int):=by
 obtain⟨s',t',e,hs,ht,_,_⟩:=h;simp only[ajE,ajF,aix,Value.bool.injEq,and_true]at e;obtain⟨rfl,rfl,rfl,rfl⟩:=e;exact⟨⟨_,_,_,rfl,hs,hl.1,by rw[Na.aF]; rfl⟩,⟨_,_,_,rfl,ht,hl.2,by rw[Na.aF]; rfl⟩⟩
end
end Go.Proofs.YtapmgonflgahbaaGreatDoor
section
namespace Go.Vp
open Go.Proofs.YtapmgonflgahbaaGreatDoor Go.RowKit Go.Rel
structure St (a:Act) (n:Nat) (l:List (Nat×Value)):Prop where
 size:a.tmps.size=n
 defers:a.defers=[]
 has:∀i v,l.lookup i=some v→a.eval (.tmp i)=v
def ev(l:List (Nat×Value)):Operand→Option Value
 | .tmp i=>l.lookup i
 | .const v=>some v
 | .global g=>some (.q g 0)
 | .func f=>some (.func (.func f) #[] #[])
section
variable{P:Program}{ops:Array Oper}{Q:Exit→Act→World→Prop}{a:Act}{w:World}{rest:List Oper}{o:Oper}{n:Nat}{l:List (Nat×Value)}
theorem St.ev{x:Operand}{v:Value}(h:St a n l)(he:ev l x=some v):a.eval x=v:=by
 cases x with
 | tmp i=>exact h.has i v he
 | const c=>exact aik he
 | global g=>exact aik he
 | func f=>exact aik he
theorem St.put(h:St a n l)(d:Nat)(hd:d<n)(v:Value):St (a.put (some d) v) n ((d,v)::l):=by
 refine⟨by rw[tN]; exact h.size,by rw[put_defers]; exact h.defers,fun i u hu=>?_⟩;rw[aiT]at hu;by_cases hi:i=d
 ·subst hi;simp only[ajT]at hu;obtain rfl:=aik hu;have hlt:i<a.tmps.size:=by rw[h.size]; exact hd
  simp[Act.eval,Act.put,hlt]
 have e:(i==d)=false:=by simpa using hi
 rw[e]at hu;rw[l7 (oG a (some d) v i (fun e=>hi (aik e).symm))];exact h.has i u hu
theorem Sl{ty:TypeId}{b off:Nat}{d:TypeDesc}{v:Value}(hv:w.cell? ⟨b,off,none⟩=some v)(hu:P.underlying ty=some d)(hrow:d.isRow=false) :
  (Instr.loadAt ty (.q b off)).run P w = .ok v w:=by
 have hagg:(isAgg ty).run P w = .ok false w:=by
  unfold isAgg;rw[aiU,run_underlying hu w];cases d<;>simp_all
 simp only[aiU,Instr.loadAt,Instr.sureAddr,akd,aj0,loadVar,hagg];simp[hv]
class Zu (Q:Exit→Act→World→Prop) (Q':outParam (Exit→Act→World→Prop)):Prop where
 out:∀a w,Q' .ret a w→Q .ret a w
instance aec {fn:Func}{R:Ending→World→Prop}:Zu (bodyPost P fn R) (bodyPost P fn R):=⟨fun _ _ h=>h⟩
instance aed {Q Q':Exit→Act→World→Prop}{K:Act→World→Prop}[r:Zu Q Q']:Zu (Exit.then K Q) Q':=⟨fun a w h=>r.out a w h⟩
instance ac0 {Q Q':Exit→Act→World→Prop}{id:Nat}[r:Zu Q Q']:Zu (Exit.inBlock id Q) Q':=⟨fun a w h=>r.out a w h⟩
theorem rt{Q Q':Exit→Act→World→Prop}[r:Zu Q Q'](h:Q' .ret a w):Code.ret.wp P Q a w:=wp_ret (r.out a w h)
theorem enter{f:FuncId}{fn:Func}{c:Code}{args:Array Value}{R:Ending→World→Prop}(hf:P.funcs[f]?=some fn)(hb:fn.body=some c)(hsz:decide (args.size≤fn.ntmps)=true)
  (h:∀a,St a fn.ntmps ((List.range args.size).zip args.toList)→c.wp P (bodyPost P fn R) a w):Calls P f args w R:=by
 refine calls_of_wp hf hb (h _ ⟨?_,rfl,fun i v hv=>?_⟩)
 ·have:args.size≤fn.ntmps:=by simpa using hsz
  simp; omega
 have key:∀(l:List Value) (k:Nat),((List.range' k l.length).zip l).lookup i=some v→k≤i∧l[i-k]?=some v:=by
  intro l;induction l with
  | nil=>intro k h; simp at h
  | cons x l ih =>
   intro k h;simp only[aiO,List.range'_succ,List.zip_cons_cons,aiT]at h;by_cases hik:i=k
   ·subst hik; simp at h; simp[h]
   have e:(i==k)=false:=by simpa using hik
   rw[e]at h;obtain⟨h1,h2⟩:=ih (k+1) h;exact⟨by omega,by rw[show i-k=(i-(k+1))+1 by omega,List.getElem?_cons_succ]; exact h2⟩
 rw[List.range_eq_range',←Array.length_toList]at hv;obtain⟨-,h2⟩:=key args.toList 0 hv;simp only[Nat.sub_zero]at h2;simp only[Act.eval,Array.getD_eq_getD_getElem?];have hlt:i<args.size:=by have:=(List.getElem?_eq_some_iff.1 h2).1; simpa using this
 rw[Array.getElem?_append_left hlt];have:args[i]?=some v:=by simpa using h2
 rw[this]; rfl
theorem region{id:Nat}{l':List Oper}(h:wpList P l'.toArray Q l' a w):(Code.region id l'.toArray false).wp P Q a w:=wp_region_lit h
theorem loop{ι:Type}{c:Code}(I:ι→Act→World→Prop)(μ:ι→Nat)(i0:ι)(h0:I i0 a w)
  (round:∀i a w,I i a w→c.wp P (Exit.then (fun a' w'=>∃i',I i' a' w'∧μ i'<μ i) Q) a w):(Code.loop c).wp P Q a w:=by
 intro b k cs;have key:∀m i a w,μ i=m→I i a w→∃e a' w',Q e a' w'∧Arrives P (lone (b.at a (.code c :: .inLoop c::k)) cs w) b k cs e a' w':=by
  intro m;induction m using Nat.strongRecOn with
  | _ m ih =>
   intro i a w hm hI;obtain⟨e,a₁,w₁,hq,harr⟩:=round i a w hI b (.inLoop c::k) cs;cases e with
   | normal =>
    obtain⟨i',hI₁,hlt⟩:=hq;obtain⟨e₂,a₂,w₂,hq₂,harr₂⟩:=ih (μ i') (hm▸hlt) i' a₁ w₁ rfl hI₁;exact⟨e₂,a₂,w₂,hq₂,.of_steps (Steps.trans harr (.one step_inLoop)) harr₂⟩
   | exit id=>exact⟨_,a₁,w₁,hq,.pass (x := .inLoop c) rfl (fun _ _ => .inl (by simp)) harr⟩
   | goto l=>exact⟨_,a₁,w₁,hq,.pass (x := .inLoop c) rfl (fun _ _ => .inl (by simp)) harr⟩
   | ret=>exact⟨_,a₁,w₁,hq,.pass (x := .inLoop c) rfl (fun _ _ => .inl (by simp)) harr⟩
   | panic ch=>exact⟨_,a₁,w₁,hq,.pass (x := .inLoop c) rfl (fun _ _ => .inl (by simp)) harr⟩
   | outgrown=>exact⟨_,a₁,w₁,hq,.pass (x := .inLoop c) rfl (fun _ _ => .inl (by simp)) harr⟩
 obtain⟨e,a',w',hq,harr⟩:=key _ i0 a w rfl h0;exact⟨e,a',w',hq,.of_steps (.one step_loop) harr⟩
theorem Zv(hs:St a n l){fn:Func}{R:Ending→World→Prop}{r:Nat}{v:Value}(hr:fn.results = #[.tmp r])(hv:ev l (.tmp r)=some v)(h:R (.returned v) w):bodyPost P fn R .ret a w:=by
 refine⟨hs.defers,v,?_,h⟩;have h1:=hs.ev hv;unfold results;rw[hr];simp only[Act.eval,Array.getD_eq_getD_getElem?]at h1;simp[h1]
theorem W9(hs:St a n l){fn:Func}{R:Ending→World→Prop}{r s:Nat}{v u:Value}(hr:fn.results = #[.tmp r,.tmp s])(hv:ev l (.tmp r)=some v)(hu:ev l (.tmp s)=some u)(h:R (.returned (.tuple #[v,u])) w):bodyPost P fn R .ret a w:=by
 refine⟨hs.defers,_,?_,h⟩;have h1:=hs.ev hv;have h2:=hs.ev hu;unfold results;rw[hr];simp only[Act.eval,Array.getD_eq_getD_getElem?]at h1 h2;simp[h1,h2]
end
end Go.Vp
end
section
namespace Go.Vp
open Go.Proofs.YtapmgonflgahbaaGreatDoor Go.RowKit Go.Rel
section
variable{P:Program}{ops:Array Oper}{Q:Exit→Act→World→Prop}{a:Act}{w:World}{rest:List Oper}{o:Oper}{n:Nat}{l:List (Nat×Value)}
theorem Sm{ρ:Operand→Value}{t e:TypeId}{x ix:Operand}{b off len cap k:Nat}{kd:IntKind}(i:Nat)(hop:o.op = .indexAddr t x ix)(hx:ρ x = .slice (some ⟨b,off,none⟩) len cap)(hi:ρ ix = .int kd (i:Int))(hlt:i<len)
  (hu:P.underlying t=some (.slice e)) (hsz:(P.info? e).map (·.size)=some k):(execOp ρ o).run P w = .ok (.value (.pointer (some ⟨b,off+i*k,none⟩))) w:=by
 have he:P.elem t=e:=by unfold Program.elem; rw[hu]
 have h1:=run_indexAt_slice (P:=P) w t ⟨b,off,none⟩ len cap kd (i:Int) (by rw[he]; exact hu);rw[aib ⟨by omega,by omega⟩,he]at h1;have h2:(sizeOf e).run P w = .ok k w:=by
  cases hq:P.info? e with
  | none=>simp[hq]at hsz
  | some j =>
   have:j.size=k:=by simpa[hq]using hsz
   simp[sizeOf,typeInfo,hq,this]
 rw[h2]at h1;simp only[Result.andThen,akq]at h1;have e2:(⟨b,off,none⟩:Addr).add (i*k)=⟨b,off+i*k,none⟩:=Addr.add_mid _ _ _;rw[e2]at h1;unfold execOp;simp only[hop,hx,hi,aiU,h1];rfl
theorem JY{α:Type}{k:Nat}{f:α→List Value}{v:Value}{L:List α}(h:aN k f w v L)(hf:∀x,(f x).length=k)(i:Nat)(hi:i<L.length) :
  ∃b off cap,v = .slice (some ⟨b,off,none⟩) L.length cap∧b<w.heap.size∧w.rangeAt b (off+i*k) (f L[i]):=by
 obtain⟨b,off,cap,hv,hb,hl,hm,hc⟩:=P8 h (by omega);refine⟨b,off,cap,hv,hb,fun j u hj=>?_⟩;have hjl:j<k:=by have:=(List.getElem?_eq_some_iff.1 hj).1; rw[hf]at this; exact this
 rw[hc i hi j hjl]; exact hj
theorem gX{α:Type}{k:Nat}{f:α→List Value}{a:Option Addr}{n c:Nat}{L:List α}(h:aN k f w (.slice a n c) L)(hf:∀x,(f x).length=k)(i:Nat)(hi:i<L.length) :
  ∃b o,a=some ⟨b,o,none⟩∧∃x,L[i]=x∧b<w.heap.size∧w.rangeAt b (o+i*k) (f x):=by
 obtain⟨b,o,cap,hv,hb,hr⟩:=JY h hf i hi;simp only[aiK]at hv;exact⟨b,o,hv.1,_,rfl,hb,hr⟩
theorem aga{α:Type}{k:Nat}{f:α→List Value}{b o n c:Nat}{L:List α}(h:aN k f w (.slice (some ⟨b,o,none⟩) n c) L)(hf:∀x,(f x).length=k)(i:Nat)(hi:i<L.length) :
  ∃x,L[i]=x∧b<w.heap.size∧w.rangeAt b (o+i*k) (f x):=by
 obtain⟨b1,o1,h1,x,hx,hb,hr⟩:=gX h hf i hi;simp only[ah8,Addr.mk.injEq,and_true]at h1;obtain⟨rfl,rfl⟩:=h1;exact⟨x,hx,hb,hr⟩
theorem qh{w w':World}{b off:Nat}{cs:List Value}(h:w.rangeAt b off cs)(hb:b<w.heap.size)(he:Ext w w'):w'.rangeAt b off cs:=fun j v hv=>by
 rw[he.cell (p:=⟨b,off+j,none⟩) hb]; exact h j v hv
theorem Vr{α:Type}{k:Nat}{f:α→List Value}{v:Value}{L:List α}(h:aN k f w v L):v.oneCell'=true:=by obtain⟨a,cap,rfl⟩:=h.shape; rfl
theorem ku{v:Value}{L:List UInt32}(h:aC w v L):v.oneCell'=true:=by obtain⟨a,cap,rfl,_⟩:=h; rfl
end
end Go.Vp
namespace Go.Vp
open Go.Proofs.YtapmgonflgahbaaGreatDoor Go.RowKit Go.Rel
end Go.Vp
end
theorem aia:type_of% @Go.Vp.region:=@Go.Vp.region
theorem aii:type_of% @Go.Vp.rt:=@Go.Vp.rt
theorem aiy:type_of% @Go.Vp.gX:=@Go.Vp.gX
theorem aiM:type_of% @Go.Vp.loop:=@Go.Vp.loop
