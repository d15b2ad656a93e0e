/- Small laws beside the law for regions that draw their -/
import Derived.Test.YtodpgjjgaddkeaaGreatDoorPk0
import Derived.Deep.MidRow
section
namespace Go.Rel
variable{P:Program}{o:Oper}{ρ:Operand→Value}{w:World}
theorem Qv{u:Value}{R:World→World→Prop}{T:Fact}(h:(execOp ρ o).run P w = .ok (.value u) w)(hR:R w w)(hT:T (kept o u) w):Does P o ρ w (fun v w'=>R w w'∧T (kept o v) w'):=by
 unfold Does; rw[h]; exact⟨hR,hT⟩
theorem agc{u:Value}{w1:World}{R:World→World→Prop}{T:Fact}(h:(execOp ρ o).run P w = .ok (.value u) w1)(hR:R w w1)(hT:T (kept o u) w1):Does P o ρ w (fun v w'=>R w w'∧T (kept o v) w'):=by
 unfold Does; rw[h]; exact⟨hR,hT⟩
theorem CQ{f:Nat}{args:Array Value}{K:Value→World→Prop}(h:(execOp ρ o).run P w = .ok (.enter f args) w)(hc:Calls P f args w (fun e w'=>∃v,e = .returned v∧K v w')):Does P o ρ w K:=by
 unfold Does; rw[h]; exact hc
end Go.Rel
namespace Go.Proofs.YtodpgjjgaddkeaaGreatDoor
open Go.RowKit
open Go.RowKit
variable{α:Type}
def Bx(w:World)(b:Nat)(A:Array Value):Prop:=b<w.heap.size∧(∀i,w.cell? ⟨b,i,none⟩=A[i]?)∧(∀i,w.frozen? ⟨b,i,none⟩=false)
theorem Bx.ext{w w':World}{b:Nat}{A:Array Value}(h:Bx w b A)(hb:Ext w w'):Bx w' b A:=
 ⟨by have:=hb.size; have:=h.1; omega,fun i=>(hb.cell (p:=⟨b,i,none⟩) h.1).trans (h.2.1 i),fun i=>(hb.frozen (p:=⟨b,i,none⟩) h.1).trans (h.2.2 i)⟩
theorem Gu(w:World)(A:Array Value)(t:TypeId):Bx (w.alloc (.cells A t)) w.heap.size A:=⟨by simp,fun i=>by simp[go_sem],fun i=>by simp[go_sem]⟩
theorem Bx.ch{w w':World}{b c:Nat}{A:Array Value}(h:Bx w b A)(hc:Ch c w w')(hne:b≠c):Bx w' b A:=
 ⟨by have:=hc.size; have:=h.1; omega,fun i=>(hc.cell (p:=⟨b,i,none⟩) h.1 hne).trans (h.2.1 i),fun i=>(hc.frozen (p:=⟨b,i,none⟩) h.1 hne).trans (h.2.2 i)⟩
theorem Ch.setCells{b:Nat}{w w':World}(h:Ch b w w'):∀(vs:List Value) (o:Nat),Ch b w (w'.setCells b o vs)
 | [],_=>h
 | v::vs,o=>Ch.setCells (h.setCell o v) vs (o+1)
theorem uI{W w:World}(h:Ext W w){c:Nat}(hc:W.heap.size≤c)(vs:List Value)(o:Nat):Ext W (w.setCells c o vs):=
 (Ch.setCells (Ch.aZ h) vs o).below hc (azJ _)
theorem Bx.there{w:World}{b n:Nat}{A:Array Value}(h:Bx w b A)(hn:A.size=n):w.there b 0 n:=fun j hj=>by
 rw[aAD,h.2.1,h.2.2,Array.getElem?_eq_getElem (by omega)]; exact⟨rfl,rfl⟩
theorem size_setCells(b:Nat):∀(vs:List Value) (o:Nat) (w:World),(w.setCells b o vs).heap.size=w.heap.size
 | [],_,_=>rfl
 | v::vs,o,w=>by
  show((w.setCell ⟨b,o,none⟩ v).setCells b (o+1) vs).heap.size=_
  rw[size_setCells b vs (o+1)]; simp
theorem kL(b:Nat)(vs:List Value)(o:Nat)(w:World)(j:Nat)(h:j<o∨o+vs.length≤j):(w.setCells b o vs).cell? ⟨b,j,none⟩=w.cell? ⟨b,j,none⟩:=
 World.cell?_setCells_out b vs o w ⟨b,j,none⟩ (fun _ _=>h)
theorem oV(b:Nat):∀(vs:List Value) (o:Nat) (w:World) (p:Addr),(w.setCells b o vs).frozen? p=w.frozen? p
 | [],_,_,_=>rfl
 | v::vs,o,w,p=>by
  show((w.setCell ⟨b,o,none⟩ v).setCells b (o+1) vs).frozen? _=_
  rw[oV b vs (o+1)]; simp[go_sem]
theorem Bx.set{w:World}{b:Nat}{A:Array Value}(h:Bx w b A)(vs:List Value)(hn:A.size=vs.length):Bx (w.setCells b 0 vs) b vs.toArray:=by
 refine⟨by rw[size_setCells]; exact h.1,fun i=>?_,fun i=>by rw[oV]; exact h.2.2 i⟩;by_cases hi:i<vs.length
 ·have:=World.rangeAt_setCells_same w b 0 vs (h.there hn) i vs[i] (by simp[hi]);rw[aAD]at this;rw[this]; simp[hi]
 rw[kL b vs 0 w i (.inr (by omega)),h.2.1,Array.getElem?_eq_none (by omega),Array.getElem?_eq_none (by simp; omega)]
theorem Bx.range{w:World}{b:Nat}{A:Array Value}(h:Bx w b A)(o n:Nat){cs:List Value}(hcs:(A.toList.drop o).take n=cs):w.rangeAt b o cs:=fun j v hv=>by
 subst hcs;rw[h.2.1];rw[List.getElem?_take]at hv;split at hv
 ·rw[List.getElem?_drop]at hv; simpa using hv
 cases hv
theorem Bx.off{f:α→Value}{w:World}{b:Nat}{A:Array Value}(h:Bx w b A)(hA:∀(i:Nat) (x:α),A[i]?≠some (f x)){s:Value}{l:List α}(hs:dD f w s l):0<l.length→Off b s:=by
 intro h0 ad n cap e;obtain⟨b',o,c,hv,hb,_,_,hc⟩:=dN hs rfl h0;rw[hv]at e;simp only[aAg,azK]at e;obtain⟨rfl,-,-⟩:=e;intro hbg;simp only at hbg;subst hbg;have h1:=hc 0 h0;rw[h.2.1]at h1;exact hA _ _ h1
end Go.Proofs.YtodpgjjgaddkeaaGreatDoor
namespace Go.Rel
open Go.Proofs.YtodpgjjgaddkeaaGreatDoor
variable{P:Program}{o:Oper}{ρ:Operand→Value}{w:World}
end Go.Rel
namespace Go.Vp
open Go.Proofs.YtodpgjjgaddkeaaGreatDoor Go.RowKit Go.Rel
set_option linter.unusedVariables false
set_option linter.unusedSimpArgs false
structure St (a:Act) (n:Nat) (l:List (Nat×Value)):Prop where
 size:a.tmps.size=n
 defers:a.defers=[]
 has:∀i v,l.lookup i=some v→a.eval (.tmp i)=v
def ev(l:List (Nat×Value)):Operand→Option Value
 | .tmp i=>l.lookup i
 | .const v=>some v
 | .global g=>some (.q g 0)
 | .func f=>some (.func (.func f) #[] #[])
section
variable{P:Program}{ops:Array Oper}{Q:Exit→Act→World→Prop}{a:Act}{w:World}{rest:List Oper}{o:Oper}{n:Nat}{l:List (Nat×Value)}
theorem St.ev{x:Operand}{v:Value}(h:St a n l)(he:ev l x=some v):a.eval x=v:=by
 cases x with
 | tmp i=>exact h.has i v he
 | const c=>exact azR he
 | global g=>exact azR he
 | func f=>exact azR he
theorem St.put(h:St a n l)(d:Nat)(hd:d<n)(v:Value):St (a.put (some d) v) n ((d,v)::l):=by
 refine⟨by rw[sU]; exact h.size,by rw[put_defers]; exact h.defers,fun i u hu=>?_⟩;rw[aAw]at hu;by_cases hi:i=d
 ·subst hi;simp only[aBp]at hu;obtain rfl:=azR hu;have hlt:i<a.tmps.size:=by rw[h.size]; exact hd
  simp[Act.eval,Act.put,hlt]
 have e:(i==d)=false:=by simpa using hi
 rw[e]at hu;rw[mO (qp a (some d) v i (fun e=>hi (azR e).symm))];exact h.has i u hu
theorem ZO{ty:TypeId}{b off:Nat}{d:TypeDesc}{v:Value}(hv:w.cell? ⟨b,off,none⟩=some v)(hu:P.underlying ty=some d)(hrow:d.isRow=false) :
  (Instr.loadAt ty (.q b off)).run P w = .ok v w:=by
 have hagg:(isAgg ty).run P w = .ok false w:=by
  unfold isAgg;rw[aAI,run_underlying hu w];cases d<;>simp_all
 simp only[aAI,Instr.loadAt,Instr.sureAddr,aBZ,aBU,loadVar,hagg];simp[hv]
class Ret (Q:Exit→Act→World→Prop) (Q':outParam (Exit→Act→World→Prop)):Prop where
 out:∀a w,Q' .ret a w→Q .ret a w
instance amE {fn:Func}{R:Ending→World→Prop}:Ret (bodyPost P fn R) (bodyPost P fn R):=⟨fun _ _ h=>h⟩
instance amF {Q Q':Exit→Act→World→Prop}{K:Act→World→Prop}[r:Ret Q Q']:Ret (Exit.then K Q) Q':=⟨fun a w h=>r.out a w h⟩
instance amm {Q Q':Exit→Act→World→Prop}{id:Nat}[r:Ret Q Q']:Ret (Exit.inBlock id Q) Q':=⟨fun a w h=>r.out a w h⟩
theorem rt{Q Q':Exit→Act→World→Prop}[r:Ret Q Q'](h:Q' .ret a w):Code.ret.wp P Q a w:=wp_ret (r.out a w h)
theorem enter{f:FuncId}{fn:Func}{c:Code}{args:Array Value}{R:Ending→World→Prop}(hf:P.funcs[f]?=some fn)(hb:fn.body=some c)(hsz:decide (args.size≤fn.ntmps)=true)
  (h:∀a,St a fn.ntmps ((List.range args.size).zip args.toList)→c.wp P (bodyPost P fn R) a w):Calls P f args w R:=by
 refine calls_of_wp hf hb (h _ ⟨?_,rfl,fun i v hv=>?_⟩)
 ·have:args.size≤fn.ntmps:=by simpa using hsz
  simp; omega
 have key:∀(l:List Value) (k:Nat),((List.range' k l.length).zip l).lookup i=some v→k≤i∧l[i-k]?=some v:=by
  intro l;induction l with
  | nil=>intro k h; simp at h
  | cons x l ih =>
   intro k h;simp only[aAn,List.range'_succ,List.zip_cons_cons,aAw]at h;by_cases hik:i=k
   ·subst hik; simp at h; simp[h]
   have e:(i==k)=false:=by simpa using hik
   rw[e]at h;obtain⟨h1,h2⟩:=ih (k+1) h;exact⟨by omega,by rw[show i-k=(i-(k+1))+1 by omega,List.getElem?_cons_succ]; exact h2⟩
 rw[List.range_eq_range',←Array.length_toList]at hv;obtain⟨-,h2⟩:=key args.toList 0 hv;simp only[Nat.sub_zero]at h2;simp only[Act.eval,Array.getD_eq_getD_getElem?];have hlt:i<args.size:=by have:=(List.getElem?_eq_some_iff.1 h2).1; simpa using this
 rw[Array.getElem?_append_left hlt];have:args[i]?=some v:=by simpa using h2
 rw[this]; rfl
theorem region{id:Nat}{l':List Oper}(h:wpList P l'.toArray Q l' a w):(Code.region id l'.toArray false).wp P Q a w:=wp_region_lit h
theorem loop{ι:Type}{c:Code}(I:ι→Act→World→Prop)(μ:ι→Nat)(i0:ι)(h0:I i0 a w)
  (round:∀i a w,I i a w→c.wp P (Exit.then (fun a' w'=>∃i',I i' a' w'∧μ i'<μ i) Q) a w):(Code.loop c).wp P Q a w:=by
 intro b k cs;have key:∀m i a w,μ i=m→I i a w→∃e a' w',Q e a' w'∧Arrives P (lone (b.at a (.code c :: .inLoop c::k)) cs w) b k cs e a' w':=by
  intro m;induction m using Nat.strongRecOn with
  | _ m ih =>
   intro i a w hm hI;obtain⟨e,a₁,w₁,hq,harr⟩:=round i a w hI b (.inLoop c::k) cs;cases e with
   | normal =>
    obtain⟨i',hI₁,hlt⟩:=hq;obtain⟨e₂,a₂,w₂,hq₂,harr₂⟩:=ih (μ i') (hm▸hlt) i' a₁ w₁ rfl hI₁;exact⟨e₂,a₂,w₂,hq₂,.of_steps (Steps.trans harr (.one step_inLoop)) harr₂⟩
   | exit id=>exact⟨_,a₁,w₁,hq,.pass (x := .inLoop c) rfl (fun _ _ => .inl (by simp)) harr⟩
   | goto l=>exact⟨_,a₁,w₁,hq,.pass (x := .inLoop c) rfl (fun _ _ => .inl (by simp)) harr⟩
   | ret=>exact⟨_,a₁,w₁,hq,.pass (x := .inLoop c) rfl (fun _ _ => .inl (by simp)) harr⟩
   | panic ch=>exact⟨_,a₁,w₁,hq,.pass (x := .inLoop c) rfl (fun _ _ => .inl (by simp)) harr⟩
   | outgrown=>exact⟨_,a₁,w₁,hq,.pass (x := .inLoop c) rfl (fun _ _ => .inl (by simp)) harr⟩
 obtain⟨e,a',w',hq,harr⟩:=key _ i0 a w rfl h0;exact⟨e,a',w',hq,.of_steps (.one step_loop) harr⟩
theorem agd(hs:St a n l){fn:Func}{R:Ending→World→Prop}{r:Nat}{v:Value}(hr:fn.results = #[.tmp r])(hv:ev l (.tmp r)=some v)(h:R (.returned v) w):bodyPost P fn R .ret a w:=by
 refine⟨hs.defers,v,?_,h⟩;have h1:=hs.ev hv;unfold results;rw[hr];simp only[Act.eval,Array.getD_eq_getD_getElem?]at h1;simp[h1]
theorem acs(hs:St a n l){fn:Func}{R:Ending→World→Prop}{r s:Nat}{v u:Value}(hr:fn.results = #[.tmp r,.tmp s])(hv:ev l (.tmp r)=some v)(hu:ev l (.tmp s)=some u)(h:R (.returned (.tuple #[v,u])) w):bodyPost P fn R .ret a w:=by
 refine⟨hs.defers,_,?_,h⟩;have h1:=hs.ev hv;have h2:=hs.ev hu;unfold results;rw[hr];simp only[Act.eval,Array.getD_eq_getD_getElem?]at h1 h2;simp[h1,h2]
end
end Go.Vp
namespace Na
def B:Nat:=4294967296
theorem jU:0<B:=by decide
theorem Qw:1<B:=by decide
def val:List UInt32→Nat
 | []=>0
 | d::l=>d.toNat+B*val l
def norm(l:List UInt32):Prop:=l.getLast?≠some 0
def kJ:Nat→Nat→List UInt32
 | 0,_=>[]
 | f+1,n=>if n=0 then []else UInt32.ofNat n::kJ f (n/B)
def au(n:Nat):List UInt32:=kJ n n
theorem val_append(l m:List UInt32):val (l++m)=val l+B^l.length*val m:=by
 induction l with
 | nil=>simp[val]
 | cons d l ih=>simp only[aA0,val,ih,aAn,aAr,az6]; rw[aAm (B^l.length) B,aAs]; omega
theorem dR(l:List UInt32):val l<B^l.length:=by
 induction l with
 | nil=>simp[val]
 | cons d l ih =>
  have hd:d.toNat<B:=d.toNat_lt;simp only[val,aAn,aAr];have:B*val l+B≤B^l.length*B:=by
   rw[aAm (B^l.length)]; rw[←aA6]; exact aAq _ ih
  omega
theorem KH(n:Nat):val (List.replicate n 0)=0:=by
 induction n with
 | zero=>rfl
 | succ n ih=>simp[List.replicate_succ,val,ih]
theorem sV(f:Nat):∀n,n≤f→val (kJ f n)=n:=by
 induction f with
 | zero=>intro n h; simp[kJ,val]; omega
 | succ f ih =>
  intro n h;unfold kJ;split
  ·rename_i h0; subst h0; rfl
  rename_i h0;have hlt:n/B<n:=Nat.div_lt_self (by omega) Qw;simp only[val];rw[ih (n/B) (by omega)];have:(UInt32.ofNat n).toNat=n%B:=by simp[B]
  rw[this];exact aBg n B
theorem aB(n:Nat):val (au n)=n:=sV n n (azJ _)
theorem zf(f:Nat):∀n,n≤f→norm (kJ f n):=by
 induction f with
 | zero=>intro n _; simp[kJ,norm]
 | succ f ih =>
  intro n h;unfold kJ;split
  ·simp[norm]
  rename_i h0;have hlt:n/B<n:=Nat.div_lt_self (by omega) Qw;have hn:=ih (n/B) (by omega);have hv:=sV f (n/B) (by omega);unfold norm at hn ⊢;generalize kJ f (n/B)=l at hn hv;cases l with
  | nil =>
   simp only[List.getLast?_singleton];intro he;have h1:=azT UInt32.toNat (azR he);have h2:(UInt32.ofNat n).toNat=n%B:=by simp[B]
   rw[h2]at h1;simp[val]at hv;have:=aBg n B;rw[←hv]at this;simp at h1;omega
  | cons a l=>simpa[List.getLast?_cons_cons]using hn
theorem gI(n:Nat):norm (au n):=zf n n (azJ _)
theorem kU{d:UInt32}{l:List UInt32}(h:norm (d::l)):norm l:=by
 cases l with
 | nil=>simp[norm]
 | cons a l=>unfold norm at h ⊢; simpa[List.getLast?_cons_cons]using h
theorem val_eq_zero{l:List UInt32}(h:norm l)(h0:val l=0):l=[]:=by
 induction l with
 | nil=>rfl
 | cons d l ih =>
  simp only[val]at h0;have hl:val l=0:=by
   rcases aAt (val l)with e | e
   ·exact e
   have:0<B*val l:=aB0 jU e;omega
  have:=ih (kU h) hl;subst this;have hd:d=0:=aBf.1 (by simp; omega);subst hd;exact(h rfl).elim
theorem Gv{l:List UInt32}:∀{m:List UInt32},norm l→norm m→val l=val m→l=m:=by
 induction l with
 | nil=>intro m _ hm h; exact(val_eq_zero hm h.symm).symm
 | cons d l ih =>
  intro m hl hm h;cases m with
  | nil=>exact val_eq_zero hl h
  | cons e m =>
   simp only[val]at h;have hd:d.toNat<B:=d.toNat_lt;have he:e.toNat<B:=e.toNat_lt;have h1:d.toNat=e.toNat:=by
    have:=azT (· % B) h;simpa[aBw hd,aBw he]using this
   have h2:val l=val m:=by
    have:B*val l=B*val m:=by omega
    exact Nat.eq_of_mul_eq_mul_left jU this
   rw[aBf.1 h1,ih (kU hl) (kU hm) h2]
theorem Gw{l:List UInt32}(h:norm l):au (val l)=l:=Gv (gI _) h (aB _)
theorem jA:au 0=[]:=rfl
theorem kK{n:Nat}:au n=[]↔n=0:=by
 constructor
 ·intro h; have:=aB n; rw[h]at this; simpa[val]using this.symm
 intro h; rw[h]; rfl
theorem uJ{l:List UInt32}(h:0<l.length)(hn:l[l.length-1]≠0):norm l:=by
 unfold norm;rw[List.getLast?_eq_getElem?,List.getElem?_eq_getElem (by omega)];simpa using hn
theorem uG{l:List UInt32}(h:norm l)(hp:0<l.length):l[l.length-1]≠0:=by
 unfold norm at h;rw[List.getLast?_eq_getElem?,List.getElem?_eq_getElem (by omega)]at h;simpa using h
theorem CJ{l:List UInt32}(h:norm l)(hp:0<l.length):B^(l.length-1)≤val l:=by
 induction l with
 | nil=>simp at hp
 | cons d l ih =>
  cases l with
  | nil =>
   have:=uG h (by simp);simp only[val,aAn,aAS];have hd:d.toNat≠0:=fun e=>this (aBf.1 (by simpa using e));simp; omega
  | cons a m =>
   have:=ih (kU h) (by simp);simp only[aAn,Nat.add_sub_cancel]at this ⊢;have e:val (d::a::m)=d.toNat+B*val (a::m):=rfl;rw[e,aAr];have:=aAq B this;rw[aAm]at this;omega
theorem length_le{l:List UInt32}{k:Nat}(h:norm l)(hv:val l<B^k):l.length≤k:=by
 rcases aAx k l.length with hk | hk
 ·have h1:=CJ h (by omega);have h2:B^k≤B^(l.length-1):=aAK jU (by omega);omega
 exact hk
theorem bH{n k:Nat}(h:n<B^k):(au n).length≤k:=length_le (gI n) (by rw[aB]; exact h)
theorem iR(l:List UInt32)(k:Nat)(hk:k≤l.length):val l=val (l.take k)+B^k*val (l.drop k):=by
 conv=>lhs; rw[←aBC k l]
 rw[val_append]; simp[Nat.min_eq_left hk]
theorem jd(l:List UInt32)(d:UInt32):val (l++[d])=val l+B^l.length*d.toNat:=by
 rw[val_append]; simp[val]
theorem cO(l:List UInt32)(k:Nat)(h:k<l.length):val (l.take (k+1))=val (l.take k)+B^k*l[k].toNat:=by
 rw[aAJ h,jd]; simp[Nat.min_eq_left (Nat.le_of_lt h)]
theorem nK(l:List UInt32)(k:Nat)(h:k<l.length):val (l.drop k)=l[k].toNat+B*val (l.drop (k+1)):=by
 rw[aAR h]; rfl
theorem kT{l:List UInt32}{n:Nat}(hn:n≤l.length)(hv:val (l.take n)=val l)(h:n=0∨∃h:n-1<l.length,l[n-1]≠0):au (val l)=l.take n:=by
 rw[←hv];apply Gw;rcases h with rfl | ⟨h1,h2⟩
 ·simp[norm]
 rcases aAt n with rfl | hp
 ·simp[norm]
 have hl:(l.take n).length=n:=by simp[Nat.min_eq_left hn]
 apply uJ (by omega);simp only[hl];rw[aCi];exact h2
def shr(p:Nat):List UInt32→List UInt32
 | []=>[]
 | d::l=>UInt32.ofNat ((d.toNat+B*(l.headD 0).toNat)/2^p)::shr p l
theorem yY(p:Nat)(l:List UInt32):(shr p l).length=l.length:=by
 induction l with
 | nil=>rfl
 | cons d l ih=>simp[shr,ih]
theorem XQ(p:Nat)(l:List UInt32):∀(i:Nat) (h:i<l.length),(shr p l)[i]'(by rw[yY]; exact h)=UInt32.ofNat (((l.getD i 0).toNat+B*(l.getD (i+1) 0).toNat)/2^p):=by
 induction l with
 | nil=>intro i h; simp at h
 | cons d l ih =>
  intro i h;cases i with
  | zero=>cases l<;>simp[shr]
  | succ i =>
   have:=ih i (by simpa using h);simp only[shr,List.getElem_cons_succ,List.getD_cons_succ];exact this
theorem KD(p:Nat)(h:p≤32):B=2^p*2^(32-p):=by
 rw[←aBx,show p+(32-p)=32 by omega]; rfl
theorem ofNat_toNat(n:Nat):(UInt32.ofNat n).toNat=n%B:=by simp[B]
theorem XR(p:Nat)(h:p≤32)(l:List UInt32):val (shr p l)=val l/2^p:=by
 induction l with
 | nil=>simp[shr,val]
 | cons d l ih =>
  simp only[shr,val,ih,ofNat_toNat];have h2:0<2^p:=aA9 p;cases l with
  | nil =>
   simp only[List.headD_nil,val];have hd:d.toNat<B:=d.toNat_lt;have:d.toNat/2^p<B:=aBY (aBK _ _) hd;simp[Nat.mod_eq_of_lt this]
  | cons e m =>
   simp only[List.headD_cons,val];generalize val m=V;have hD:d.toNat<B:=d.toNat_lt;generalize d.toNat=D at hD;generalize e.toNat=E;obtain⟨c,hc⟩:∃c,B=2^p*c:=⟨_,KD p h⟩;have e0:B*V=2^p*(c*V):=by rw[←aAs,←hc]
   have e1:D+B*(E+B*V)=(D+B*E)+2^p*(B*(c*V)):=by
    rw[az6,e0,aBS B (2^p),aBD]
   rw[e1,e0,aCf _ _ h2,aCf _ _ h2,az6,←aBD];congr 1;have e3:(D+B*E)/2^p/B=E/2^p:=by
    rw[Nat.div_div_eq_div_mul,aAm (2^p) B,←Nat.div_div_eq_div_mul];rw[aCf _ _ jU,aCg hD,aAD]
   have:=aBg ((D+B*E)/2^p) B;rw[e3]at this;exact this
theorem ZK{m P V L D0 D1 D2 M V0 V1 q:Nat}(hP:P=L+B^m*(D0+B*D1+B*B*D2))(hL:L<B^m)(hV:V=M+B^m*(V0+B*V1))(hM:M<B^m)
  (hV1:0<V1) (hD0:D0<B) (hq:q<B) (hPV:P<B*V) (h1:q*(V1*B+V0)≤(D2*B+D1)*B+D0)
  (h2:q=(D2*B+D1)/V1∨B≤q+1∨(D2*B+D1)*B+D0<(q+1)*(V1*B+V0)):P/V≤q∧q≤P/V+1:=by
 have hE:0<B^m:=aCa jU;generalize B^m=E at *;have hT:D0+B*D1+B*B*D2=(D2*B+D1)*B+D0:=by
  rw[aA8,aAm D1 B,aAs D2,aAm D2]; omega
 have hW:V0+B*V1=V1*B+V0:=by rw[aAm B]; omega
 rw[hT]at hP;rw[hW]at hV;have hVp:0<V:=by
  have:0<E*(V1*B+V0):=aB0 hE (by have:=aB0 hV1 jU; omega);omega
 constructor
 ·
  rcases h2 with h | h | h
  ·
   have hle:P/V*V≤P:=Nat.div_mul_le_self P V;rw[h];rw[Nat.le_div_iff_mul_le hV1];generalize P/V=c at hle;generalize D2*B+D1=T at *;have e1:c*V=c*M+E*(c*V1*B)+E*(c*V0):=by
    rw[hV,az6,az6 E,az6 c,aBS c E,aBS c E,←aAs c V1 B]; omega
   have hlt:P<E*((T+1)*B):=by
    have:E*(T*B+D0)+E≤E*((T+1)*B):=by
     rw[←aA6]; exact aAq _ (by rw[aA8]; omega)
    omega
   have h3:E*(c*V1*B)<E*((T+1)*B):=by omega
   have h4:=aCv h3;have h5:=Nat.lt_of_mul_lt_mul_right h4;omega
  ·have:P/V<B:=aBQ (by rw[aAm]; exact hPV);omega
  have h3:P<(q+1)*V:=by
   have h4:E*((D2*B+D1)*B+D0)+E≤E*((q+1)*(V1*B+V0)):=by
    rw[←aA6]; exact aAq _ h
   have h5:(q+1)*V=(q+1)*M+E*((q+1)*(V1*B+V0)):=by rw[hV,az6,aBS]
   generalize (q+1)*V=x1 at *;generalize (q+1)*M=x2 at *;generalize E*((q+1)*(V1*B+V0))=x3 at *;generalize E*((D2*B+D1)*B+D0)=x4 at *;omega
  exact aCp ((aCq hVp).2 h3)
 
 rcases aAt q with rfl | hq0
 ·exact azQ _
 obtain⟨c,rfl⟩:∃c,q=c+1:=⟨q-1,by omega⟩;have h3:c*V≤P:=by
  have h4:E*((c+1)*(V1*B+V0))≤E*((D2*B+D1)*B+D0):=aAq _ h1;have h5:(c+1)*V=(c+1)*M+E*((c+1)*(V1*B+V0)):=by rw[hV,az6,aBS]
  have h6:(c+1)*M≤B*E:=aBo (aBy hq) (aBy hM);have h7:B*E≤V:=by
   rw[hV];have:E*(1*B)≤E*(V1*B+V0):=aAq _ (by have:=aA7 B hV1; omega);rw[Nat.one_mul,aAm]at this; omega
  rw[Nat.succ_mul c V]at h5;generalize c*V=x0 at *;generalize (c+1)*M=x2 at *;generalize E*((c+1)*(V1*B+V0))=x3 at *;generalize E*((D2*B+D1)*B+D0)=x4 at *;generalize B*E=x5 at *;omega
 exact Nat.succ_le_succ ((Nat.le_div_iff_mul_le hVp).2 h3)
theorem ab8{P V q x E:Nat}(neg:Bool)(hVp:0<V)(h1:P/V≤q)(h2:q≤P/V+1)(hx:x<E)(h:P+(if neg then E else 0)=x+q*V) :
  (neg=false→x=P%V∧q=P/V)∧(neg=true→1≤q∧q-1=P/V∧x+V=E+P%V):=by
 have hm:=aBg P V;have hl:=aAY P hVp;rcases(show q=P/V∨q=P/V+1 from by
  rcases aAx (P/V) q with h | h
  ·exact .inr (Nat.le_antisymm h2 h)
  exact .inl (Nat.le_antisymm h h1))with rfl | rfl
 ·rw[aAm (P/V) V]at h;refine⟨fun hn=>?_,fun hn=>?_⟩
  ·subst hn;simp only[aB1,if_false,aBz]at h;generalize V*(P/V)=y at *;exact⟨by omega,rfl⟩
  subst hn;simp only[if_true]at h;generalize V*(P/V)=y at *;omega
 rw[Nat.succ_mul,aAm (P/V) V]at h;refine⟨fun hn=>?_,fun hn=>?_⟩
 ·subst hn;simp only[aB1,if_false,aBz]at h;generalize V*(P/V)=y at *;omega
 subst hn;simp only[if_true]at h;refine⟨Nat.succ_le_succ (azQ _),rfl,?_⟩;generalize V*(P/V)=y at *;omega
theorem agf(l:List UInt32):∃n,n≤l.length∧val (l.take n)=val l∧(n=0∨∃h:n-1<l.length,l[n-1]≠0):=by
 have key:∀k,k≤l.length→val (l.take k)=val l→∃n,n≤l.length∧val (l.take n)=val l∧(n=0∨∃h:n-1<l.length,l[n-1]≠0):=by
  intro k;induction k with
  | zero=>intro hk hv; exact⟨0,hk,hv,.inl rfl⟩
  | succ k ih =>
   intro hk hv;by_cases h0:l[k]'(by omega)=0
   ·refine ih (by omega) ?_;rw[←hv,cO l k (by omega),h0]; simp
   exact⟨k+1,hk,hv,.inr ⟨by simp; omega,by simpa using h0⟩⟩
 exact key l.length (azJ _) (by rw[aAA])
theorem U4(l:List UInt32):Na.au (val l)=l.take (au (val l)).length∧(au (val l)).length≤l.length ∧
  (∀j (h:j<l.length),(au (val l)).length≤j→l[j]=0)∧(∀j (h:j<l.length),j+1=(au (val l)).length→l[j]≠0):=by
 obtain⟨n,hn,hv,ht⟩:=agf l;have hd:=kT hn hv ht;have hl:(au (val l)).length=n:=by rw[hd]; simp; omega
 rw[hl];refine⟨hd,hn,fun j h hj=>?_,fun j h hj=>?_⟩
 ·have h1:=iR l j (by omega);rw[nK l j h]at h1;have h2:=iR (l.take j) n (by simp; omega);rw[List.take_take,aBk hj,hv]at h2;have h3:B^j*(l[j].toNat+B*val (l.drop (j+1)))=0:=by omega
  rcases Nat.mul_eq_zero.1 h3 with h4 | h4
  ·have:=aCa (n:=j) jU; omega
  exact aBf.1 (by simp; omega)
 rcases ht with h0 | ⟨h1,h2⟩
 ·omega
 have e:n-1=j:=by omega
 simp only[e]at h2;exact h2
theorem mP(l:List UInt32)(j:Nat):val l=val (l.take j)+B^j*val (l.drop j):=by
 rcases Nat.le_total j l.length with h | h
 ·exact iR l j h
 rw[aAp h,aA4 h]; simp[val]
theorem oC(l:List UInt32)(j:Nat):val (l.drop j)=(l.getD j 0).toNat+B*val (l.drop (j+1)):=by
 rcases aAx j l.length with h | h
 ·rw[nK l j h]; simp[List.getD,List.getElem?_eq_getElem h]
 rw[aA4 h,aA4 (by omega)]; simp[val,List.getD,List.getElem?_eq_none h]
theorem wz(l:List UInt32)(j:Nat):val (l.take j)<B^j:=
 aAa (dR _) (aAK jU (List.length_take_le _ _))
theorem jB(l:List UInt32)(j:Nat):val (l.take (j+1))=val (l.take j)+B^j*(l.getD j 0).toNat:=by
 rcases aAx j l.length with h | h
 ·rw[cO l j h]; simp[List.getD,List.getElem?_eq_getElem h]
 rw[aAp (by omega),aAp h]; simp[List.getD,List.getElem?_eq_none h]
theorem uK{l:List UInt32}{j:Nat}(h:val l<B^j):val (l.take j)=val l:=by
 have h1:=mP l j;rcases aAt (val (l.drop j))with h0 | h0
 ·rw[h0]at h1; omega
 have:B^j*1≤B^j*val (l.drop j):=aAq _ h0;omega
theorem acu{l m:List UInt32}{j:Nat}(he:val (l.drop (j+1))=val (m.drop (j+1)))(h:(l.getD j 0).toNat<(m.getD j 0).toNat):val l<val m:=by
 have h1:=mP l j;have h2:=mP m j;rw[oC l j]at h1;rw[oC m j,←he]at h2;have h3:=wz l j;have h4:=wz m j;have h5:B^j*((l.getD j 0).toNat+1+B*val (l.drop (j+1)))≤B^j*((m.getD j 0).toNat+B*val (l.drop (j+1))):=aAq _ (by omega);rw[show(l.getD j 0).toNat+1+B*val (l.drop (j+1))=(l.getD j 0).toNat+B*val (l.drop (j+1))+1 by omega,aA6]at h5;omega
theorem amG{l m:List UInt32}{j:Nat}(he:val (l.drop (j+1))=val (m.drop (j+1)))(h:(l.getD j 0).toNat=(m.getD j 0).toNat):val (l.drop j)=val (m.drop j):=by
 rw[oC l j,oC m j,he,h]
theorem dg(n:Nat):(UInt32.ofNat n).toNat=n%B:=by simp[B]
theorem step_up{out:List UInt32}{i A c n t:Nat}(hl:out.length=i)(h:val out+B^i*c=A)(hn:n=t+c):val (out++[UInt32.ofNat n])+B^(i+1)*(n/B)=A+B^i*t:=by
 rw[jd,hl,dg,←h,hn,aAr,aAs];have:=aBg (t+c) B;have h2:B^i*((t+c)%B)+B^i*(B*((t+c)/B))=B^i*t+B^i*c:=by rw[←az6,this,az6]
 omega
theorem ZP{out:List UInt32}{i A C U5 acv n x y:Nat}(hl:out.length=i)(h:A+B^i*U5=val out+C)(hn:x+B*acv=n%B+y+U5) :
  A+B^i*x+B^(i+1)*acv=val (out++[UInt32.ofNat n])+(C+B^i*y):=by
 rw[jd,hl,dg,aAr,aAs];have h2:B^i*x+B^i*(B*acv)=B^i*(n%B)+B^i*y+B^i*U5:=by rw[←az6,hn,az6,az6]
 omega
theorem ajp{r b T Lr V M E:Nat}(hr:r=Lr+E*T)(hLr:Lr<E)(hb:b=M+E*V)(hV:0<V):r/b≤T/V:=by
 have hE:0<E:=by omega
 have hbp:0<b:=by have:E*1≤E*V:=aAq _ hV; omega
 rw[Nat.le_div_iff_mul_le hV];have h1:r/b*b≤r:=Nat.div_mul_le_self r b;have h2:r/b*(E*V)≤r/b*b:=aAq _ (by omega);have h3:E*(r/b*V)=r/b*(E*V):=by rw[aBS]
 have h4:E*(r/b*V)<E*(T+1):=by rw[aA6]; omega
 exact aCp (aCv h4)
theorem U6{l m:List UInt32}{n:Nat}(hm:m.length=n+1)(ht:0<(m.getD n 0).toNat)(hlt:val l<B*val m) :
  val l/val m≤((l.getD (n+1) 0).toNat*4294967296+(l.getD n 0).toNat)/(m.getD n 0).toNat∧val l/val m≤4294967295∧0<val m:=by
 have h1:=mP m n;rw[oC m n,aA4 (by omega)]at h1;simp only[val,Nat.mul_zero,aBz]at h1;have hml:=dR m;rw[hm]at hml;have hpos:0<val m:=by
  have:=aB0 (aCa (n:=n) jU) ht;omega
 have h2:=mP l n;rw[oC l n,oC l (n+1)]at h2;have h3:val (l.drop (n+1+1))=0:=by
  rcases aAt (val (l.drop (n+1+1)))with h | h
  ·exact h
  have h4:=mP l (n+1+1);have h5:B^(n+1+1)*1≤B^(n+1+1)*val (l.drop (n+1+1)):=aAq _ h;have h6:B*val m<B*B^(n+1):=aCu hml jU;have h7:B^(n+1+1)=B*B^(n+1):=by rw[aAr,aAm]
  omega
 rw[h3]at h2;refine⟨?_,?_,hpos⟩
 ·refine ajp (Lr:=val (l.take n)) (M:=val (m.take n)) (E:=B^n) ?_ (wz l n) h1 ht;rw[h2];have:B=4294967296:=rfl;rw[this];congr 2;omega
 have:val l/val m<B:=by rw[aCq hpos]; exact hlt
 exact aCp this
theorem U7{r b d:Nat}(hq:r/b≤d)(h:b*d≤r)(hb:0<b):d=r/b∧r-b*d=r%b:=by
 have h1:d≤r/b:=(Nat.le_div_iff_mul_le hb).2 (by rw[aAm]; exact h);have e:d=r/b:=Nat.le_antisymm h1 hq;subst e;have:=aBg r b;exact⟨rfl,by omega⟩
theorem ZQ{r b d:Nat}(hq:r/b≤d)(h:r<b*d)(hb:0<b):1≤d∧r/b≤d-1∧b*d-b=b*(d-1)∧b≤b*d:=by
 have h1:r/b<d:=by rw[aCq hb,aAm]; exact h
 have h2:0<d:=aBY (azQ _) h1;obtain⟨k,rfl⟩:∃k,d=k+1:=⟨d-1,by omega⟩;refine⟨by omega,aCp h1,?_,?_⟩
 ·rw[aA6]; simp
 rw[aA6]; omega
theorem ZR{U Q r b u:Nat}(hb:0<b)(hr:r<b)(hu:u<B)(h:Q*b+r=U) :
  ((u+B*r)/b+B*Q)*b+(u+B*r)%b=u+B*U∧(u+B*r)/b<B∧(u+B*r)%b<b:=by
 refine⟨?_,?_,aAY _ hb⟩
 ·have:=aBg (u+B*r) b;rw[aA8,←h,az6,aAm ((u+B*r)/b) b,aAs];omega
 rw[aCq hb];have:B*(r+1)≤B*b:=aAq _ hr;rw[aA6]at this;omega
theorem acw{U Q r b:Nat}(h:Q*b+r=U)(hr:r<b):Q=U/b∧r=U%b:=by
 have hb:0<b:=by omega
 subst h;rw[aBv,aAm,aCf _ _ hb,aCg hr,Nat.add_mul_mod_self_left,aBw hr];omega
end Na
namespace Nb
def B:Nat:=256
theorem jU:0<B:=by decide
theorem Qw:1<B:=by decide
def val:List UInt8→Nat
 | []=>0
 | d::l=>d.toNat+B*val l
def norm(l:List UInt8):Prop:=l.getLast?≠some 0
def kJ:Nat→Nat→List UInt8
 | 0,_=>[]
 | f+1,n=>if n=0 then []else UInt8.ofNat n::kJ f (n/B)
def au(n:Nat):List UInt8:=kJ n n
theorem val_append(l m:List UInt8):val (l++m)=val l+B^l.length*val m:=by
 induction l with
 | nil=>simp[val]
 | cons d l ih=>simp only[aA0,val,ih,aAn,aAr,az6]; rw[aAm (B^l.length) B,aAs]; omega
theorem dR(l:List UInt8):val l<B^l.length:=by
 induction l with
 | nil=>simp[val]
 | cons d l ih =>
  have hd:d.toNat<B:=d.toNat_lt;simp only[val,aAn,aAr];have:B*val l+B≤B^l.length*B:=by
   rw[aAm (B^l.length)]; rw[←aA6]; exact aAq _ ih
  omega
theorem sV(f:Nat):∀n,n≤f→val (kJ f n)=n:=by
 induction f with
 | zero=>intro n h; simp[kJ,val]; omega
 | succ f ih =>
  intro n h;unfold kJ;split
  ·rename_i h0; subst h0; rfl
  rename_i h0;have hlt:n/B<n:=Nat.div_lt_self (by omega) Qw;simp only[val];rw[ih (n/B) (by omega)];have:(UInt8.ofNat n).toNat=n%B:=by simp[B]
  rw[this];exact aBg n B
theorem aB(n:Nat):val (au n)=n:=sV n n (azJ _)
theorem zf(f:Nat):∀n,n≤f→norm (kJ f n):=by
 induction f with
 | zero=>intro n _; simp[kJ,norm]
 | succ f ih =>
  intro n h;unfold kJ;split
  ·simp[norm]
  rename_i h0;have hlt:n/B<n:=Nat.div_lt_self (by omega) Qw;have hn:=ih (n/B) (by omega);have hv:=sV f (n/B) (by omega);unfold norm at hn ⊢;generalize kJ f (n/B)=l at hn hv;cases l with
  | nil =>
   simp only[List.getLast?_singleton];intro he;have h1:=azT UInt8.toNat (azR he);have h2:(UInt8.ofNat n).toNat=n%B:=by simp[B]
   rw[h2]at h1;simp[val]at hv;have:=aBg n B;rw[←hv]at this;simp at h1;omega
  | cons a l=>simpa[List.getLast?_cons_cons]using hn
theorem gI(n:Nat):norm (au n):=zf n n (azJ _)
theorem kU{d:UInt8}{l:List UInt8}(h:norm (d::l)):norm l:=by
 cases l with
 | nil=>simp[norm]
 | cons a l=>unfold norm at h ⊢; simpa[List.getLast?_cons_cons]using h
theorem val_eq_zero{l:List UInt8}(h:norm l)(h0:val l=0):l=[]:=by
 induction l with
 | nil=>rfl
 | cons d l ih =>
  simp only[val]at h0;have hl:val l=0:=by
   rcases aAt (val l)with e | e
   ·exact e
   have:0<B*val l:=aB0 jU e;omega
  have:=ih (kU h) hl;subst this;have hd:d=0:=aBO.1 (by simp; omega);subst hd;exact(h rfl).elim
theorem Gv{l:List UInt8}:∀{m:List UInt8},norm l→norm m→val l=val m→l=m:=by
 induction l with
 | nil=>intro m _ hm h; exact(val_eq_zero hm h.symm).symm
 | cons d l ih =>
  intro m hl hm h;cases m with
  | nil=>exact val_eq_zero hl h
  | cons e m =>
   simp only[val]at h;have hd:d.toNat<B:=d.toNat_lt;have he:e.toNat<B:=e.toNat_lt;have h1:d.toNat=e.toNat:=by
    have:=azT (· % B) h;simpa[aBw hd,aBw he]using this
   have h2:val l=val m:=by
    have:B*val l=B*val m:=by omega
    exact Nat.eq_of_mul_eq_mul_left jU this
   rw[aBO.1 h1,ih (kU hl) (kU hm) h2]
theorem Gw{l:List UInt8}(h:norm l):au (val l)=l:=Gv (gI _) h (aB _)
theorem uJ{l:List UInt8}(h:0<l.length)(hn:l[l.length-1]≠0):norm l:=by
 unfold norm;rw[List.getLast?_eq_getElem?,List.getElem?_eq_getElem (by omega)];simpa using hn
theorem uG{l:List UInt8}(h:norm l)(hp:0<l.length):l[l.length-1]≠0:=by
 unfold norm at h;rw[List.getLast?_eq_getElem?,List.getElem?_eq_getElem (by omega)]at h;simpa using h
theorem CJ{l:List UInt8}(h:norm l)(hp:0<l.length):B^(l.length-1)≤val l:=by
 induction l with
 | nil=>simp at hp
 | cons d l ih =>
  cases l with
  | nil =>
   have:=uG h (by simp);simp only[val,aAn,aAS];have hd:d.toNat≠0:=fun e=>this (aBO.1 (by simpa using e));simp; omega
  | cons a m =>
   have:=ih (kU h) (by simp);simp only[aAn,Nat.add_sub_cancel]at this ⊢;have e:val (d::a::m)=d.toNat+B*val (a::m):=rfl;rw[e,aAr];have:=aAq B this;rw[aAm]at this;omega
theorem length_le{l:List UInt8}{k:Nat}(h:norm l)(hv:val l<B^k):l.length≤k:=by
 rcases aAx k l.length with hk | hk
 ·have h1:=CJ h (by omega);have h2:B^k≤B^(l.length-1):=aAK jU (by omega);omega
 exact hk
theorem bH{n k:Nat}(h:n<B^k):(au n).length≤k:=length_le (gI n) (by rw[aB]; exact h)
theorem jd(l:List UInt8)(d:UInt8):val (l++[d])=val l+B^l.length*d.toNat:=by
 rw[val_append]; simp[val]
theorem cO(l:List UInt8)(k:Nat)(h:k<l.length):val (l.take (k+1))=val (l.take k)+B^k*l[k].toNat:=by
 rw[aAJ h,jd]; simp[Nat.min_eq_left (Nat.le_of_lt h)]
theorem kT{l:List UInt8}{n:Nat}(hn:n≤l.length)(hv:val (l.take n)=val l)(h:n=0∨∃h:n-1<l.length,l[n-1]≠0):au (val l)=l.take n:=by
 rw[←hv];apply Gw;rcases h with rfl | ⟨h1,h2⟩
 ·simp[norm]
 rcases aAt n with rfl | hp
 ·simp[norm]
 have hl:(l.take n).length=n:=by simp[Nat.min_eq_left hn]
 apply uJ (by omega);simp only[hl];rw[aCi];exact h2
def le4(d:UInt32):List UInt8:=[d.toUInt8,(d>>>8).toUInt8,(d>>>16).toUInt8,(d>>>24).toUInt8]
def bytes(l:List UInt32):List UInt8:=l.flatMap le4
theorem agh(d:UInt32):val (le4 d)=d.toNat:=by
 have:=d.toNat_lt;simp[le4,val,B,UInt32.toNat_shiftRight,Nat.shiftRight_eq_div_pow];omega
theorem ZT(l:List UInt32):(bytes l).length=4*l.length:=by
 induction l with
 | nil=>rfl
 | cons d l ih=>unfold bytes at ih ⊢; rw[aAO,azL,ih]; simp[le4]; omega
theorem ZU(l:List UInt32):val (bytes l)=Na.val l:=by
 induction l with
 | nil=>rfl
 | cons d l ih =>
  unfold bytes at ih ⊢;rw[aAO,val_append,ih,agh];have h4:(le4 d).length=4:=rfl;have:B^(le4 d).length=Na.B:=by rw[h4]; simp[B,Na.B]
  rw[this]; rfl
theorem U8(l:List UInt32)(d:UInt32):bytes (l++[d])=bytes l++le4 d:=by simp[bytes]
end Nb
end
theorem aBe:type_of% @Go.Vp.region:=@Go.Vp.region
