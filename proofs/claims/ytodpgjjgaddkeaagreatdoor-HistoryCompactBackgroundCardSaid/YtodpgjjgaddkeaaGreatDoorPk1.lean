/- Small laws beside the law for regions that draw their -/
import Derived.Test.YtodpgjjgaddkeaaGreatDoorPk0
import Derived.Deep.MidRow
section
namespace Go.Rel
variable{P:Program}{o:Oper}{ρ:Operand->Value}{w:World}
variable{u:Value}{R:World->World->Prop}{T:Fact}
theorem QO(h:(execOp ρ o).run P w = .ok (.value u) w)(hR:R w w)(hT:T (kept o u) w):Does P o ρ w (λv w'=>R w w'∧T (kept o v) w'):=by
 unfold Does; rw[h]; exact⟨hR,hT⟩
theorem agh{w1:World}(h:(execOp ρ o).run P w = .ok (.value u) w1)(hR:R w w1)(hT:T (kept o u) w1):Does P o ρ w (λv w'=>R w w'∧T (kept o v) w'):=by
 unfold Does; rw[h]; exact⟨hR,hT⟩
theorem Dp{f:Nat}{args:Array Value}{K:Value->World->Prop}(h:(execOp ρ o).run P w = .ok (.enter f args) w)(hc:Calls P f args w (λe w'=>∃v,e = .returned v∧K v w')):Does P o ρ w K:=by
 unfold Does; rw[h]; exact hc
end Go.Rel
namespace Go.Proofs.YtodpgjjgaddkeaaGreatDoor
open Go.RowKit
open Go.RowKit
variable{α:Type}
def Bx(w:World)(b:Nat)(A:Array Value):Prop:=b<w.heap.size∧(∀i,w.cell? ⟨b,i,none⟩=A[i]?)∧(∀i,w.frozen? ⟨b,i,none⟩=false)
theorem Bx.ext{w w':World}{b:Nat}{A:Array Value}(h:Bx w b A)(hb:Ext w w'):Bx w' b A:=
 ⟨by have:=hb.size; have:=h.1; omega,λi=>(hb.cell (p:=⟨b,i,none⟩) h.1).trans (h.2.1 i),λi=>(hb.frozen (p:=⟨b,i,none⟩) h.1).trans (h.2.2 i)⟩
theorem GY(w:World)(A:Array Value)(t:TypeId):Bx (w.alloc (.cells A t)) w.heap.size A:=⟨by simp,λi=>by simp[go_sem],λi=>by simp[go_sem]⟩
theorem Bx.ch{w w':World}{b c:Nat}{A:Array Value}(h:Bx w b A)(hc:Ch c w w')(hne:b≠c):Bx w' b A:=
 ⟨by have:=hc.size; have:=h.1; omega,λi=>(hc.cell (p:=⟨b,i,none⟩) h.1 hne).trans (h.2.1 i),λi=>(hc.frozen (p:=⟨b,i,none⟩) h.1 hne).trans (h.2.2 i)⟩
theorem Ch.setCells{b:Nat}{w w':World}(h:Ch b w w'):∀(vs:List Value) (o:Nat),Ch b w (w'.setCells b o vs)
 | [],_=>h
 | v::vs,o=>Ch.setCells (h.setCell o v) vs (o+1)
theorem uI{W w:World}(h:Ext W w){c:Nat}(hc:W.heap.size<=c)(vs:List Value)(o:Nat):Ext W (w.setCells c o vs):=
 (Ch.setCells (Ch.aT h) vs o).below hc (azS _)
theorem Bx.there{w:World}{b n:Nat}{A:Array Value}(h:Bx w b A)(hn:A.size=n):w.there b 0 n:=λj hj=>by
 rw[aAK,h.2.1,h.2.2,Array.getElem?_eq_getElem Z]; exact⟨I,I⟩
theorem size_setCells(b:Nat):∀(vs:List Value) (o:Nat) (w:World),(w.setCells b o vs).heap.size=w.heap.size
 | [],_,_=>rfl
 | v::vs,o,w=>by
  show((w.setCell ⟨b,o,none⟩ v).setCells b (o+1) vs).heap.size=_
  rw[size_setCells b vs (o+1)]; simp
theorem kU(b:Nat)(vs:List Value)(o:Nat)(w:World)(j:Nat)(h:j<o∨o+vs.length<=j):(w.setCells b o vs).cell? ⟨b,j,none⟩=w.cell? ⟨b,j,none⟩:=
 World.cell?_setCells_out b vs o w ⟨b,j,none⟩ (λ_ _=>h)
theorem oV(b:Nat):∀(vs:List Value) (o:Nat) (w:World) (p:Addr),(w.setCells b o vs).frozen? p=w.frozen? p
 | [],_,_,_=>rfl
 | v::vs,o,w,p=>by
  show((w.setCell ⟨b,o,none⟩ v).setCells b (o+1) vs).frozen? _=_
  rw[oV b vs (o+1)]; simp[go_sem]
theorem Bx.set{w:World}{b:Nat}{A:Array Value}(h:Bx w b A)(vs:List Value)(hn:A.size=vs.length):Bx (w.setCells b 0 vs) b vs.toArray:=by
 refine⟨by rw[size_setCells]; exact h.1,λi=>?_,λi=>by rw[oV]; exact h.2.2 i⟩;by_cases hi:i<vs.length
 .have:=World.rangeAt_setCells_same w b 0 vs (h.there hn) i vs[i] (by simp[hi]);rw[aAK]at this;rw[this]; simp[hi]
 rw[kU b vs 0 w i (.inr Z),h.2.1,Array.getElem?_eq_none Z,Array.getElem?_eq_none (by simp; omega)]
theorem Bx.range{w:World}{b:Nat}{A:Array Value}(h:Bx w b A)(o n:Nat){cs:List Value}(hcs:(A.toList.drop o).take n=cs):w.rangeAt b o cs:=λj v hv=>by
 subst hcs;rw[h.2.1];rw[List.getElem?_take]at hv;split at hv
 .rw[List.getElem?_drop]at hv; simpa using hv
 cases hv
theorem Bx.off{f:α->Value}{w:World}{b:Nat}{A:Array Value}(h:Bx w b A)(hA:∀(i:Nat) (x:α),A[i]?≠some (f x)){s:Value}{l:List α}(hs:dG f w s l):0<l.length->Off b s:=by
 intro h0 ad n cap e;obtain⟨b',o,c,hv,hb,_,_,hc⟩:=dO hs I h0;rw[hv]at e;simp only[aAq,azT]at e;obtain⟨rfl,-,-⟩:=e;intro hbg;simp only at hbg;subst hbg;have h1:=hc 0 h0;rw[h.2.1]at h1;exact hA _ _ h1
end Go.Proofs.YtodpgjjgaddkeaaGreatDoor
namespace Go.Rel
open Go.Proofs.YtodpgjjgaddkeaaGreatDoor
variable{P:Program}{o:Oper}{ρ:Operand->Value}{w:World}
end Go.Rel
namespace Go.Vp
open Go.Proofs.YtodpgjjgaddkeaaGreatDoor Go.RowKit Go.Rel
set_option linter.unusedVariables false
set_option linter.unusedSimpArgs false
structure St (a:Act) (n:Nat) (l:List (Nat×Value)):Prop where
 size:a.tmps.size=n
 defers:a.defers=[]
 has:∀i v,l.lookup i=some v->a.eval (.tmp i)=v
def ev(l:List (Nat×Value)):Operand->Option Value
 | .tmp i=>l.lookup i
 | .const v=>some v
 | .global g=>some (.q g 0)
 | .func f=>some (.func (.func f) #[] #[])
section
variable{P:Program}{ops:Array Oper}{Q:Exit->Act->World->Prop}{a:Act}{w:World}{rest:List Oper}{o:Oper}{n:Nat}{l:List (Nat×Value)}
theorem St.ev{x:Operand}{v:Value}(h:St a n l)(he:ev l x=some v):a.eval x=v:=by
 cases x with
 | tmp i=>exact h.has i v he
 | const c=>exact az1 he
 | global g=>exact az1 he
 | func f=>exact az1 he
theorem St.put(h:St a n l)(d:Nat)(hd:d<n)(v:Value):St (a.put (some d) v) n ((d,v)::l):=by
 refine⟨by rw[sS]; exact h.size,by rw[put_defers]; exact h.defers,λi u hu=>?_⟩;rw[aAG]at hu;by_cases hi:i=d
 .subst hi;simp only[aBB]at hu;obtain rfl:=az1 hu;have hlt:i<a.tmps.size:=by rw[h.size]; exact hd
  simp[Act.eval,Act.put,hlt]
 have e:(i==d)=false:=by simpa using hi
 rw[e]at hu;rw[mV (qB a (some d) v i (λe=>hi (az1 e).symm))];exact h.has i u hu
variable{v:Value}{fn:Func}{R:Ending->World->Prop}{c:Code}{r:Nat}
theorem aae{ty:TypeId}{b off:Nat}{d:TypeDesc}(hv:w.cell? ⟨b,off,none⟩=some v)(hu:P.underlying ty=some d)(hrow:d.isRow=false) :
  (Instr.loadAt ty (.q b off)).run P w = .ok v w:=by
 have hagg:(isAgg ty).run P w = .ok false w:=by
  unfold isAgg;rw[aAS,run_underlying hu w];cases d<;>simp_all
 simp only[aAS,Instr.loadAt,Instr.sureAddr,aCb,aB6,loadVar,hagg];simp[hv]
class Ret (Q:Exit->Act->World->Prop) (Q':outParam (Exit->Act->World->Prop)):Prop where
 out:∀a w,Q' .ret a w->Q .ret a w
instance amP {fn:Func}{R:Ending->World->Prop}:Ret (bodyPost P fn R) (bodyPost P fn R):=⟨λ_ _ h=>h⟩
instance amQ {Q Q':Exit->Act->World->Prop}{K:Act->World->Prop}[r:Ret Q Q']:Ret (Exit.then K Q) Q':=⟨λa w h=>r.out a w h⟩
instance amA {Q Q':Exit->Act->World->Prop}{id:Nat}[r:Ret Q Q']:Ret (Exit.inBlock id Q) Q':=⟨λa w h=>r.out a w h⟩
theorem rt{Q Q':Exit->Act->World->Prop}[r:Ret Q Q'](h:Q' .ret a w):Code.ret.wp P Q a w:=wp_ret (r.out a w h)
theorem enter{f:FuncId}{args:Array Value}(hf:P.funcs[f]?=some fn)(hb:fn.body=some c)(hsz:decide (args.size<=fn.ntmps)=true)
  (h:∀a,St a fn.ntmps ((List.range args.size).zip args.toList)->c.wp P (bodyPost P fn R) a w):Calls P f args w R:=by
 refine calls_of_wp hf hb (h _ ⟨?_,I,λi v hv=>?_⟩)
 .have:args.size<=fn.ntmps:=by simpa using hsz
  simp; omega
 have key:∀(l:List Value) (k:Nat),((List.range' k l.length).zip l).lookup i=some v->k<=i∧l[i-k]?=some v:=by
  intro l;induction l with
  | nil=>intro k h; simp at h
  | cons x l ih =>
   intro k h;simp only[aAx,List.range'_succ,List.zip_cons_cons,aAG]at h;by_cases hik:i=k
   .subst hik; simp at h; simp[h]
   have e:(i==k)=false:=by simpa using hik
   rw[e]at h;obtain⟨h1,h2⟩:=ih (k+1) h;exact⟨Z,by rw[show i-k=(i-(k+1))+1 by omega,List.getElem?_cons_succ]; exact h2⟩
 rw[List.range_eq_range',<-Array.length_toList]at hv;obtain⟨-,h2⟩:=key args.toList 0 hv;simp only[Nat.sub_zero]at h2;simp only[Act.eval,Array.getD_eq_getD_getElem?];have hlt:i<args.size:=by have:=(List.getElem?_eq_some_iff.1 h2).1; simpa using this
 rw[Array.getElem?_append_left hlt];have:args[i]?=some v:=by simpa using h2
 rw[this]; rfl
theorem region{id:Nat}{l':List Oper}(h:wpList P l'.toArray Q l' a w):(Code.region id l'.toArray false).wp P Q a w:=wp_region_lit h
theorem loop{ι:Type}(A00:ι->Act->World->Prop)(μ:ι->Nat)(i0:ι)(h0:A00 i0 a w)
  (round:∀i a w,A00 i a w->c.wp P (Exit.then (λa' w'=>∃i',A00 i' a' w'∧μ i'<μ i) Q) a w):(Code.loop c).wp P Q a w:=by
 intro b k cs;have key:∀m i a w,μ i=m->A00 i a w->∃e a' w',Q e a' w'∧Arrives P (lone (b.at a (.code c :: .inLoop c::k)) cs w) b k cs e a' w':=by
  intro m;induction m using Nat.strongRecOn with
  | _ m ih =>
   intro i a w hm hI;obtain⟨e,a₁,w₁,hq,harr⟩:=round i a w hI b (.inLoop c::k) cs;cases e with
   | normal =>
    obtain⟨i',hI₁,hlt⟩:=hq;obtain⟨e₂,a₂,w₂,hq₂,harr₂⟩:=ih (μ i') (hm▸hlt) i' a₁ w₁ I hI₁;exact⟨e₂,a₂,w₂,hq₂,.of_steps (Steps.trans harr (.one step_inLoop)) harr₂⟩
   | exit id=>exact⟨_,a₁,w₁,hq,.pass (x := .inLoop c) I (λ_ _ => .inl Y) harr⟩
   | goto l=>exact⟨_,a₁,w₁,hq,.pass (x := .inLoop c) I (λ_ _ => .inl Y) harr⟩
   | ret=>exact⟨_,a₁,w₁,hq,.pass (x := .inLoop c) I (λ_ _ => .inl Y) harr⟩
   | panic ch=>exact⟨_,a₁,w₁,hq,.pass (x := .inLoop c) I (λ_ _ => .inl Y) harr⟩
   | outgrown=>exact⟨_,a₁,w₁,hq,.pass (x := .inLoop c) I (λ_ _ => .inl Y) harr⟩
 obtain⟨e,a',w',hq,harr⟩:=key _ i0 a w I h0;exact⟨e,a',w',hq,.of_steps (.one step_loop) harr⟩
theorem agi(hs:St a n l)(hr:fn.results = #[.tmp r])(hv:ev l (.tmp r)=some v)(h:R (.returned v) w):bodyPost P fn R .ret a w:=by
 refine⟨hs.defers,v,?_,h⟩;have h1:=hs.ev hv;unfold results;rw[hr];simp only[Act.eval,Array.getD_eq_getD_getElem?]at h1;simp[h1]
theorem acJ(hs:St a n l){s:Nat}{u:Value}(hr:fn.results = #[.tmp r,.tmp s])(hv:ev l (.tmp r)=some v)(hu:ev l (.tmp s)=some u)(h:R (.returned (.tuple #[v,u])) w):bodyPost P fn R .ret a w:=by
 refine⟨hs.defers,_,?_,h⟩;have h1:=hs.ev hv;have h2:=hs.ev hu;unfold results;rw[hr];simp only[Act.eval,Array.getD_eq_getD_getElem?]at h1 h2;simp[h1,h2]
end
end Go.Vp
namespace Na
def Gg:Nat:=4294967296
variable{r b V k M q x E i A d U:Nat}{out:List UInt32}
theorem jY:0<Gg:=by decide
theorem QS:1<Gg:=by decide
def Zk:List UInt32->Nat
 | []=>0
 | d::l=>d.toNat+Gg*Zk l
def norm(l:List UInt32):Prop:=l.getLast?≠some 0
def kS:Nat->Nat->List UInt32
 | 0,_=>[]
 | f+1,n=>if n=0 then []else UInt32.ofNat n::kS f (n/Gg)
def Ux(n:Nat):List UInt32:=kS n n
theorem val_append(l m:List UInt32):Zk (l++m)=Zk l+Gg^l.length*Zk m:=by
 induction l with
 | nil=>simp[Zk]
 | cons d l ih=>simp only[aBe,Zk,ih,aAx,aAA,aAf]; rw[aAw (Gg^l.length) Gg,aAB]; omega
theorem dS(l:List UInt32):Zk l<Gg^l.length:=by
 induction l with
 | nil=>simp[Zk]
 | cons d l ih =>
  have hd:d.toNat<Gg:=d.toNat_lt;simp only[Zk,aAx,aAA];have:Gg*Zk l+Gg<=Gg^l.length*Gg:=by
   rw[aAw (Gg^l.length)]; rw[<-aBi]; exact aAz _ ih
  omega
theorem Lc(n:Nat):Zk (List.replicate n 0)=0:=by
 induction n with
 | zero=>rfl
 | succ n ih=>simp[List.replicate_succ,Zk,ih]
theorem sU(f:Nat):∀n,n<=f->Zk (kS f n)=n:=by
 induction f with
 | zero=>intro n h; simp[kS,Zk]; omega
 | succ f ih =>
  intro n h;unfold kS;split
  .rename_i h0; subst h0; rfl
  rename_i h0;have hlt:n/Gg<n:=Nat.div_lt_self Z QS;simp only[Zk];rw[ih (n/Gg) Z];have:(UInt32.ofNat n).toNat=n%Gg:=by simp[Gg]
  rw[this];exact aBr n Gg
theorem PV(n:Nat):Zk (Ux n)=n:=sU n n (azS _)
theorem zX(f:Nat):∀n,n<=f->norm (kS f n):=by
 induction f with
 | zero=>intro n _; simp[kS,norm]
 | succ f ih =>
  intro n h;unfold kS;split
  .simp[norm]
  rename_i h0;have hlt:n/Gg<n:=Nat.div_lt_self Z QS;have hn:=ih (n/Gg) Z;have hv:=sU f (n/Gg) Z;unfold norm at hn |-;generalize kS f (n/Gg)=l at hn hv;cases l with
  | nil =>
   simp only[List.getLast?_singleton];intro he;have h1:=az0 UInt32.toNat (az1 he);have h2:(UInt32.ofNat n).toNat=n%Gg:=by simp[Gg]
   rw[h2]at h1;simp[Zk]at hv;have:=aBr n Gg;rw[<-hv]at this;simp at h1;omega
  | cons a l=>simpa[List.getLast?_cons_cons]using hn
theorem gI(n:Nat):norm (Ux n):=zX n n (azS _)
theorem lu{d:UInt32}{l:List UInt32}(h:norm (d::l)):norm l:=by
 cases l with
 | nil=>simp[norm]
 | cons a l=>unfold norm at h |-; simpa[List.getLast?_cons_cons]using h
theorem val_eq_zero{l:List UInt32}(h:norm l)(h0:Zk l=0):l=[]:=by
 induction l with
 | nil=>rfl
 | cons d l ih =>
  simp only[Zk]at h0;have hl:Zk l=0:=by
   rcases aAC (Zk l)with e | e
   .exact e
   have:0<Gg*Zk l:=aCc jY e;omega
  have:=ih (lu h) hl;subst this;have hd:d=0:=aBq.1 (by simp; omega);subst hd;exact(h I).elim
theorem GZ{l:List UInt32}:∀{m:List UInt32},norm l->norm m->Zk l=Zk m->l=m:=by
 induction l with
 | nil=>intro m _ hm h; exact(val_eq_zero hm h.symm).symm
 | cons d l ih =>
  intro m hl hm h;cases m with
  | nil=>exact val_eq_zero hl h
  | cons e m =>
   simp only[Zk]at h;have hd:d.toNat<Gg:=d.toNat_lt;have he:e.toNat<Gg:=e.toNat_lt;have h1:d.toNat=e.toNat:=by
    have:=az0 (· % Gg) h;simpa[aBJ hd,aBJ he]using this
   have h2:Zk l=Zk m:=by
    have:Gg*Zk l=Gg*Zk m:=Z
    exact Nat.eq_of_mul_eq_mul_left jY this
   rw[aBq.1 h1,ih (lu hl) (lu hm) h2]
theorem G5{l:List UInt32}(h:norm l):Ux (Zk l)=l:=GZ (gI _) h (PV _)
theorem jD:Ux 0=[]:=rfl
theorem kT{n:Nat}:Ux n=[]↔n=0:=by
 constructor
 .intro h; have:=PV n; rw[h]at this; simpa[Zk]using this.symm
 intro h; rw[h]; rfl
theorem uJ{l:List UInt32}(h:0<l.length)(hn:l[l.length-1]≠0):norm l:=by
 unfold norm;rw[List.getLast?_eq_getElem?,List.getElem?_eq_getElem Z];simpa using hn
theorem uG{l:List UInt32}(h:norm l)(hp:0<l.length):l[l.length-1]≠0:=by
 unfold norm at h;rw[List.getLast?_eq_getElem?,List.getElem?_eq_getElem Z]at h;simpa using h
theorem Dl{l:List UInt32}(h:norm l)(hp:0<l.length):Gg^(l.length-1)<=Zk l:=by
 induction l with
 | nil=>simp at hp
 | cons d l ih =>
  cases l with
  | nil =>
   have:=uG h Y;simp only[Zk,aAx,aA3];have hd:d.toNat≠0:=λe=>this (aBq.1 (by simpa using e));simp; omega
  | cons a m =>
   have:=ih (lu h) Y;simp only[aAx,Nat.add_sub_cancel]at this |-;have e:Zk (d::a::m)=d.toNat+Gg*Zk (a::m):=I;rw[e,aAA];have:=aAz Gg this;rw[aAw]at this;omega
theorem length_le{l:List UInt32}(h:norm l)(hv:Zk l<Gg^k):l.length<=k:=by
 rcases aAH k l.length with hk | hk
 .have h1:=Dl h Z;have h2:Gg^k<=Gg^(l.length-1):=aAV jY Z;omega
 exact hk
theorem bI{n:Nat}(h:n<Gg^k):(Ux n).length<=k:=length_le (gI n) (by rw[PV]; exact h)
theorem iU(l:List UInt32)(k:Nat)(hk:k<=l.length):Zk l=Zk (l.take k)+Gg^k*Zk (l.drop k):=by
 conv=>lhs; rw[<-aBQ k l]
 rw[val_append]; simp[Nat.min_eq_left hk]
theorem jf(l:List UInt32)(d:UInt32):Zk (l++[d])=Zk l+Gg^l.length*d.toNat:=by
 rw[val_append]; simp[Zk]
theorem cZ(l:List UInt32)(k:Nat)(h:k<l.length):Zk (l.take (k+1))=Zk (l.take k)+Gg^k*l[k].toNat:=by
 rw[aAU h,jf]; simp[Nat.min_eq_left (Nat.le_of_lt h)]
theorem nK(l:List UInt32)(k:Nat)(h:k<l.length):Zk (l.drop k)=l[k].toNat+Gg*Zk (l.drop (k+1)):=by
 rw[aAZ h]; rfl
theorem lg{l:List UInt32}{n:Nat}(hn:n<=l.length)(hv:Zk (l.take n)=Zk l)(h:n=0∨∃h:n-1<l.length,l[n-1]≠0):Ux (Zk l)=l.take n:=by
 rw[<-hv];apply G5;rcases h with rfl | ⟨h1,h2⟩
 .simp[norm]
 rcases aAC n with rfl | hp
 .simp[norm]
 have hl:(l.take n).length=n:=by simp[Nat.min_eq_left hn]
 apply uJ Z;simp only[hl];rw[aCu];exact h2
def shr(p:Nat):List UInt32->List UInt32
 | []=>[]
 | d::l=>UInt32.ofNat ((d.toNat+Gg*(l.headD 0).toNat)/2^p)::shr p l
theorem zS(p:Nat)(l:List UInt32):(shr p l).length=l.length:=by
 induction l with
 | nil=>rfl
 | cons d l ih=>simp[shr,ih]
theorem Yb(p:Nat)(l:List UInt32):∀(i:Nat) (h:i<l.length),(shr p l)[i]'(by rw[zS]; exact h)=UInt32.ofNat (((l.getD i 0).toNat+Gg*(l.getD (i+1) 0).toNat)/2^p):=by
 induction l with
 | nil=>intro i h; simp at h
 | cons d l ih =>
  intro i h;cases i with
  | zero=>cases l<;>simp[shr]
  | succ i =>
   have:=ih i (by simpa using h);simp only[shr,List.getElem_cons_succ,List.getD_cons_succ];exact this
theorem KX(p:Nat)(h:p<=32):Gg=2^p*2^(32-p):=by
 rw[<-aBL,show p+(32-p)=32 by omega]; rfl
theorem ofNat_toNat(n:Nat):(UInt32.ofNat n).toNat=n%Gg:=by simp[Gg]
theorem Yc(p:Nat)(h:p<=32)(l:List UInt32):Zk (shr p l)=Zk l/2^p:=by
 induction l with
 | nil=>simp[shr,Zk]
 | cons d l ih =>
  simp only[shr,Zk,ih,ofNat_toNat];have h2:0<2^p:=aBl p;cases l with
  | nil =>
   simp only[List.headD_nil,Zk];have hd:d.toNat<Gg:=d.toNat_lt;have:d.toNat/2^p<Gg:=aCa (aBX _ _) hd;simp[Nat.mod_eq_of_lt this]
  | cons e m =>
   simp only[List.headD_cons,Zk];generalize Zk m=V;have hD:d.toNat<Gg:=d.toNat_lt;generalize d.toNat=D at hD;generalize e.toNat=E;obtain⟨c,hc⟩:∃c,Gg=2^p*c:=⟨_,KX p h⟩;have e0:Gg*V=2^p*(c*V):=by rw[<-aAB,<-hc]
   have e1:D+Gg*(E+Gg*V)=(D+Gg*E)+2^p*(Gg*(c*V)):=by
    rw[aAf,e0,aB4 Gg (2^p),aBR]
   rw[e1,e0,aCr _ _ h2,aCr _ _ h2,aAf,<-aBR];congr 1;have e3:(D+Gg*E)/2^p/Gg=E/2^p:=by
    rw[Nat.div_div_eq_div_mul,aAw (2^p) Gg,<-Nat.div_div_eq_div_mul];rw[aCr _ _ jY,aCs hD,aAK]
   have:=aBr ((D+Gg*E)/2^p) Gg;rw[e3]at this;exact this
theorem Z8{m P L D0 D1 D2 V0 V1:Nat}(hP:P=L+Gg^m*(D0+Gg*D1+Gg*Gg*D2))(hL:L<Gg^m)(hV:V=M+Gg^m*(V0+Gg*V1))(hM:M<Gg^m)
  (hV1:0<V1) (hD0:D0<Gg) (hq:q<Gg) (hPV:P<Gg*V) (h1:q*(V1*Gg+V0)<=(D2*Gg+D1)*Gg+D0)
  (h2:q=(D2*Gg+D1)/V1∨Gg<=q+1∨(D2*Gg+D1)*Gg+D0<(q+1)*(V1*Gg+V0)):P/V<=q∧q<=P/V+1:=by
 have hE:0<Gg^m:=aCk jY;generalize Gg^m=E at *;have hT:D0+Gg*D1+Gg*Gg*D2=(D2*Gg+D1)*Gg+D0:=by
  rw[aBk,aAw D1 Gg,aAB D2,aAw D2]; omega
 have hW:V0+Gg*V1=V1*Gg+V0:=by rw[aAw Gg]; omega
 rw[hT]at hP;rw[hW]at hV;have hVp:0<V:=by
  have:0<E*(V1*Gg+V0):=aCc hE (by have:=aCc hV1 jY; omega);omega
 constructor
 ·
  rcases h2 with h | h | h
  ·
   have hle:P/V*V<=P:=Nat.div_mul_le_self P V;rw[h];rw[Nat.le_div_iff_mul_le hV1];generalize P/V=c at hle;generalize D2*Gg+D1=T at *;have e1:c*V=c*M+E*(c*V1*Gg)+E*(c*V0):=by
    rw[hV,aAf,aAf E,aAf c,aB4 c E,aB4 c E,<-aAB c V1 Gg]; omega
   have hlt:P<E*((T+1)*Gg):=by
    have:E*(T*Gg+D0)+E<=E*((T+1)*Gg):=by
     rw[<-aBi]; exact aAz _ (by rw[aBk]; omega)
    omega
   have h3:E*(c*V1*Gg)<E*((T+1)*Gg):=Z
   have h4:=aCF h3;have h5:=Nat.lt_of_mul_lt_mul_right h4;omega
  .have:P/V<Gg:=aB2 (by rw[aAw]; exact hPV);omega
  have h3:P<(q+1)*V:=by
   have h4:E*((D2*Gg+D1)*Gg+D0)+E<=E*((q+1)*(V1*Gg+V0)):=by
    rw[<-aBi]; exact aAz _ h
   have h5:(q+1)*V=(q+1)*M+E*((q+1)*(V1*Gg+V0)):=by rw[hV,aAf,aB4]
   generalize (q+1)*V=x1 at *;generalize (q+1)*M=x2 at *;generalize E*((q+1)*(V1*Gg+V0))=x3 at *;generalize E*((D2*Gg+D1)*Gg+D0)=x4 at *;omega
  exact aCA ((aCB hVp).2 h3)
 
 rcases aAC q with rfl | hq0
 .exact azZ _
 obtain⟨c,rfl⟩:∃c,q=c+1:=⟨q-1,Z⟩;have h3:c*V<=P:=by
  have h4:E*((c+1)*(V1*Gg+V0))<=E*((D2*Gg+D1)*Gg+D0):=aAz _ h1;have h5:(c+1)*V=(c+1)*M+E*((c+1)*(V1*Gg+V0)):=by rw[hV,aAf,aB4]
  have h6:(c+1)*M<=Gg*E:=aBA (aBM hq) (aBM hM);have h7:Gg*E<=V:=by
   rw[hV];have:E*(1*Gg)<=E*(V1*Gg+V0):=aAz _ (by have:=aBj Gg hV1; omega);rw[Nat.one_mul,aAw]at this; omega
  rw[Nat.succ_mul c V]at h5;generalize c*V=x0 at *;generalize (c+1)*M=x2 at *;generalize E*((c+1)*(V1*Gg+V0))=x3 at *;generalize E*((D2*Gg+D1)*Gg+D0)=x4 at *;generalize Gg*E=x5 at *;omega
 exact Nat.succ_le_succ ((Nat.le_div_iff_mul_le hVp).2 h3)
theorem acu{P:Nat}(neg:Bool)(hVp:0<V)(h1:P/V<=q)(h2:q<=P/V+1)(hx:x<E)(h:P+(if neg then E else 0)=x+q*V) :
  (neg=false->x=P%V∧q=P/V)∧(neg=true->1<=q∧q-1=P/V∧x+V=E+P%V):=by
 have hm:=aBr P V;have hl:=aBb P hVp;rcases(show q=P/V∨q=P/V+1 from by
  rcases aAH (P/V) q with h | h
  .exact .inr (Nat.le_antisymm h2 h)
  exact .inl (Nat.le_antisymm h h1))with rfl | rfl
 .rw[aAw (P/V) V]at h;refine⟨λhn=>?_,λhn=>?_⟩
  .subst hn;simp only[aCd,if_false,aBN]at h;generalize V*(P/V)=y at *;exact⟨Z,I⟩
  subst hn;simp only[if_true]at h;generalize V*(P/V)=y at *;omega
 rw[Nat.succ_mul,aAw (P/V) V]at h;refine⟨λhn=>?_,λhn=>?_⟩
 .subst hn;simp only[aCd,if_false,aBN]at h;generalize V*(P/V)=y at *;omega
 subst hn;simp only[if_true]at h;refine⟨Nat.succ_le_succ (azZ _),I,?_⟩;generalize V*(P/V)=y at *;omega
theorem agj(l:List UInt32):∃n,n<=l.length∧Zk (l.take n)=Zk l∧(n=0∨∃h:n-1<l.length,l[n-1]≠0):=by
 have key:∀k,k<=l.length->Zk (l.take k)=Zk l->∃n,n<=l.length∧Zk (l.take n)=Zk l∧(n=0∨∃h:n-1<l.length,l[n-1]≠0):=by
  intro k;induction k with
  | zero=>intro hk hv; exact⟨0,hk,hv,.inl I⟩
  | succ k ih =>
   intro hk hv;by_cases h0:l[k]'Z=0
   .refine ih Z ?_;rw[<-hv,cZ l k Z,h0]; simp
   exact⟨k+1,hk,hv,.inr ⟨by simp; omega,by simpa using h0⟩⟩
 exact key l.length (azS _) (by rw[aAJ])
theorem Vm(l:List UInt32):Na.Ux (Zk l)=l.take (Ux (Zk l)).length∧(Ux (Zk l)).length<=l.length ∧
  (∀j (h:j<l.length),(Ux (Zk l)).length<=j->l[j]=0)∧(∀j (h:j<l.length),j+1=(Ux (Zk l)).length->l[j]≠0):=by
 obtain⟨n,hn,hv,ht⟩:=agj l;have hd:=lg hn hv ht;have hl:(Ux (Zk l)).length=n:=by rw[hd]; simp; omega
 rw[hl];refine⟨hd,hn,λj h hj=>?_,λj h hj=>?_⟩
 .have h1:=iU l j Z;rw[nK l j h]at h1;have h2:=iU (l.take j) n (by simp; omega);rw[List.take_take,aBw hj,hv]at h2;have h3:Gg^j*(l[j].toNat+Gg*Zk (l.drop (j+1)))=0:=Z
  rcases Nat.mul_eq_zero.1 h3 with h4 | h4
  .have:=aCk (n:=j) jY; omega
  exact aBq.1 (by simp; omega)
 rcases ht with h0 | ⟨h1,h2⟩
 .omega
 have e:n-1=j:=Z
 simp only[e]at h2;exact h2
theorem mW(l:List UInt32)(j:Nat):Zk l=Zk (l.take j)+Gg^j*Zk (l.drop j):=by
 rcases Nat.le_total j l.length with h | h
 .exact iU l j h
 rw[aAv h,aA7 h]; simp[Zk]
theorem oh(l:List UInt32)(j:Nat):Zk (l.drop j)=(l.getD j 0).toNat+Gg*Zk (l.drop (j+1)):=by
 rcases aAH j l.length with h | h
 .rw[nK l j h]; simp[List.getD,List.getElem?_eq_getElem h]
 rw[aA7 h,aA7 Z]; simp[Zk,List.getD,List.getElem?_eq_none h]
theorem wF(l:List UInt32)(j:Nat):Zk (l.take j)<Gg^j:=
 aAk (dS _) (aAV jY (List.length_take_le _ _))
theorem jE(l:List UInt32)(j:Nat):Zk (l.take (j+1))=Zk (l.take j)+Gg^j*(l.getD j 0).toNat:=by
 rcases aAH j l.length with h | h
 .rw[cZ l j h]; simp[List.getD,List.getElem?_eq_getElem h]
 rw[aAv Z,aAv h]; simp[List.getD,List.getElem?_eq_none h]
theorem uK{l:List UInt32}{j:Nat}(h:Zk l<Gg^j):Zk (l.take j)=Zk l:=by
 have h1:=mW l j;rcases aAC (Zk (l.drop j))with h0 | h0
 .rw[h0]at h1; omega
 have:Gg^j*1<=Gg^j*Zk (l.drop j):=aAz _ h0;omega
theorem acK{l m:List UInt32}{j:Nat}(he:Zk (l.drop (j+1))=Zk (m.drop (j+1)))(h:(l.getD j 0).toNat<(m.getD j 0).toNat):Zk l<Zk m:=by
 have h1:=mW l j;have h2:=mW m j;rw[oh l j]at h1;rw[oh m j,<-he]at h2;have h3:=wF l j;have h4:=wF m j;have h5:Gg^j*((l.getD j 0).toNat+1+Gg*Zk (l.drop (j+1)))<=Gg^j*((m.getD j 0).toNat+Gg*Zk (l.drop (j+1))):=aAz _ Z;rw[show(l.getD j 0).toNat+1+Gg*Zk (l.drop (j+1))=(l.getD j 0).toNat+Gg*Zk (l.drop (j+1))+1 by omega,aBi]at h5;omega
theorem amR{l m:List UInt32}{j:Nat}(he:Zk (l.drop (j+1))=Zk (m.drop (j+1)))(h:(l.getD j 0).toNat=(m.getD j 0).toNat):Zk (l.drop j)=Zk (m.drop j):=by
 rw[oh l j,oh m j,he,h]
theorem dg(n:Nat):(UInt32.ofNat n).toNat=n%Gg:=by simp[Gg]
theorem step_up{c n t:Nat}(hl:out.length=i)(h:Zk out+Gg^i*c=A)(hn:n=t+c):Zk (out++[UInt32.ofNat n])+Gg^(i+1)*(n/Gg)=A+Gg^i*t:=by
 rw[jf,hl,dg,<-h,hn,aAA,aAB];have:=aBr (t+c) Gg;have h2:Gg^i*((t+c)%Gg)+Gg^i*(Gg*((t+c)/Gg))=Gg^i*t+Gg^i*c:=by rw[<-aAf,this,aAf]
 omega
theorem aaf{C Vo acL n y:Nat}(hl:out.length=i)(h:A+Gg^i*Vo=Zk out+C)(hn:x+Gg*acL=n%Gg+y+Vo) :
  A+Gg^i*x+Gg^(i+1)*acL=Zk (out++[UInt32.ofNat n])+(C+Gg^i*y):=by
 rw[jf,hl,dg,aAA,aAB];have h2:Gg^i*x+Gg^i*(Gg*acL)=Gg^i*(n%Gg)+Gg^i*y+Gg^i*Vo:=by rw[<-aAf,hn,aAf,aAf]
 omega
theorem ajC{T Lr:Nat}(hr:r=Lr+E*T)(hLr:Lr<E)(hb:b=M+E*V)(hV:0<V):r/b<=T/V:=by
 have hE:0<E:=Z
 have hbp:0<b:=by have:E*1<=E*V:=aAz _ hV; omega
 rw[Nat.le_div_iff_mul_le hV];have h1:r/b*b<=r:=Nat.div_mul_le_self r b;have h2:r/b*(E*V)<=r/b*b:=aAz _ Z;have h3:E*(r/b*V)=r/b*(E*V):=by rw[aB4]
 have h4:E*(r/b*V)<E*(T+1):=by rw[aBi]; omega
 exact aCA (aCF h4)
theorem Vq{l m:List UInt32}{n:Nat}(hm:m.length=n+1)(ht:0<(m.getD n 0).toNat)(hlt:Zk l<Gg*Zk m) :
  Zk l/Zk m<=((l.getD (n+1) 0).toNat*4294967296+(l.getD n 0).toNat)/(m.getD n 0).toNat∧Zk l/Zk m<=4294967295∧0<Zk m:=by
 have h1:=mW m n;rw[oh m n,aA7 Z]at h1;simp only[Zk,Nat.mul_zero,aBN]at h1;have hml:=dS m;rw[hm]at hml;have hpos:0<Zk m:=by
  have:=aCc (aCk (n:=n) jY) ht;omega
 have h2:=mW l n;rw[oh l n,oh l (n+1)]at h2;have h3:Zk (l.drop (n+1+1))=0:=by
  rcases aAC (Zk (l.drop (n+1+1)))with h | h
  .exact h
  have h4:=mW l (n+1+1);have h5:Gg^(n+1+1)*1<=Gg^(n+1+1)*Zk (l.drop (n+1+1)):=aAz _ h;have h6:Gg*Zk m<Gg*Gg^(n+1):=aCE hml jY;have h7:Gg^(n+1+1)=Gg*Gg^(n+1):=by rw[aAA,aAw]
  omega
 rw[h3]at h2;refine⟨?_,?_,hpos⟩
 .refine ajC (Lr:=Zk (l.take n)) (M:=Zk (m.take n)) (E:=Gg^n) ?_ (wF l n) h1 ht;rw[h2];have:Gg=4294967296:=I;rw[this];congr 2;omega
 have:Zk l/Zk m<Gg:=by rw[aCB hpos]; exact hlt
 exact aCA this
theorem Vr(hq:r/b<=d)(h:b*d<=r)(hb:0<b):d=r/b∧r-b*d=r%b:=by
 have h1:d<=r/b:=(Nat.le_div_iff_mul_le hb).2 (by rw[aAw]; exact h);have e:d=r/b:=Nat.le_antisymm h1 hq;subst e;have:=aBr r b;exact⟨I,Z⟩
theorem aag(hq:r/b<=d)(h:r<b*d)(hb:0<b):1<=d∧r/b<=d-1∧b*d-b=b*(d-1)∧b<=b*d:=by
 have h1:r/b<d:=by rw[aCB hb,aAw]; exact h
 have h2:0<d:=aCa (azZ _) h1;obtain⟨k,rfl⟩:∃k,d=k+1:=⟨d-1,Z⟩;refine⟨Z,aCA h1,?_,?_⟩
 .rw[aBi]; simp
 rw[aBi]; omega
theorem aah{Q u:Nat}(hb:0<b)(hr:r<b)(hu:u<Gg)(h:Q*b+r=U) :
  ((u+Gg*r)/b+Gg*Q)*b+(u+Gg*r)%b=u+Gg*U∧(u+Gg*r)/b<Gg∧(u+Gg*r)%b<b:=by
 refine⟨?_,?_,aBb _ hb⟩
 .have:=aBr (u+Gg*r) b;rw[aBk,<-h,aAf,aAw ((u+Gg*r)/b) b,aAB];omega
 rw[aCB hb];have:Gg*(r+1)<=Gg*b:=aAz _ hr;rw[aBi]at this;omega
theorem acM{Q:Nat}(h:Q*b+r=U)(hr:r<b):Q=U/b∧r=U%b:=by
 have hb:0<b:=Z
 subst h;rw[aBI,aAw,aCr _ _ hb,aCs hr,Nat.add_mul_mod_self_left,aBJ hr];omega
end Na
namespace Nb
def B:Nat:=256
theorem jY:0<B:=by decide
theorem QS:1<B:=by decide
def val:List UInt8->Nat
 | []=>0
 | d::l=>d.toNat+B*val l
def norm(l:List UInt8):Prop:=l.getLast?≠some 0
def kS:Nat->Nat->List UInt8
 | 0,_=>[]
 | f+1,n=>if n=0 then []else UInt8.ofNat n::kS f (n/B)
def au(n:Nat):List UInt8:=kS n n
theorem val_append(l m:List UInt8):val (l++m)=val l+B^l.length*val m:=by
 induction l with
 | nil=>simp[val]
 | cons d l ih=>simp only[aBe,val,ih,aAx,aAA,aAf]; rw[aAw (B^l.length) B,aAB]; omega
theorem dS(l:List UInt8):val l<B^l.length:=by
 induction l with
 | nil=>simp[val]
 | cons d l ih =>
  have hd:d.toNat<B:=d.toNat_lt;simp only[val,aAx,aAA];have:B*val l+B<=B^l.length*B:=by
   rw[aAw (B^l.length)]; rw[<-aBi]; exact aAz _ ih
  omega
theorem sU(f:Nat):∀n,n<=f->val (kS f n)=n:=by
 induction f with
 | zero=>intro n h; simp[kS,val]; omega
 | succ f ih =>
  intro n h;unfold kS;split
  .rename_i h0; subst h0; rfl
  rename_i h0;have hlt:n/B<n:=Nat.div_lt_self Z QS;simp only[val];rw[ih (n/B) Z];have:(UInt8.ofNat n).toNat=n%B:=by simp[B]
  rw[this];exact aBr n B
theorem aB(n:Nat):val (au n)=n:=sU n n (azS _)
theorem zX(f:Nat):∀n,n<=f->norm (kS f n):=by
 induction f with
 | zero=>intro n _; simp[kS,norm]
 | succ f ih =>
  intro n h;unfold kS;split
  .simp[norm]
  rename_i h0;have hlt:n/B<n:=Nat.div_lt_self Z QS;have hn:=ih (n/B) Z;have hv:=sU f (n/B) Z;unfold norm at hn |-;generalize kS f (n/B)=l at hn hv;cases l with
  | nil =>
   simp only[List.getLast?_singleton];intro he;have h1:=az0 UInt8.toNat (az1 he);have h2:(UInt8.ofNat n).toNat=n%B:=by simp[B]
   rw[h2]at h1;simp[val]at hv;have:=aBr n B;rw[<-hv]at this;simp at h1;omega
  | cons a l=>simpa[List.getLast?_cons_cons]using hn
theorem gI(n:Nat):norm (au n):=zX n n (azS _)
theorem lu{d:UInt8}{l:List UInt8}(h:norm (d::l)):norm l:=by
 cases l with
 | nil=>simp[norm]
 | cons a l=>unfold norm at h |-; simpa[List.getLast?_cons_cons]using h
theorem val_eq_zero{l:List UInt8}(h:norm l)(h0:val l=0):l=[]:=by
 induction l with
 | nil=>rfl
 | cons d l ih =>
  simp only[val]at h0;have hl:val l=0:=by
   rcases aAC (val l)with e | e
   .exact e
   have:0<B*val l:=aCc jY e;omega
  have:=ih (lu h) hl;subst this;have hd:d=0:=aB0.1 (by simp; omega);subst hd;exact(h I).elim
theorem GZ{l:List UInt8}:∀{m:List UInt8},norm l->norm m->val l=val m->l=m:=by
 induction l with
 | nil=>intro m _ hm h; exact(val_eq_zero hm h.symm).symm
 | cons d l ih =>
  intro m hl hm h;cases m with
  | nil=>exact val_eq_zero hl h
  | cons e m =>
   simp only[val]at h;have hd:d.toNat<B:=d.toNat_lt;have he:e.toNat<B:=e.toNat_lt;have h1:d.toNat=e.toNat:=by
    have:=az0 (· % B) h;simpa[aBJ hd,aBJ he]using this
   have h2:val l=val m:=by
    have:B*val l=B*val m:=Z
    exact Nat.eq_of_mul_eq_mul_left jY this
   rw[aB0.1 h1,ih (lu hl) (lu hm) h2]
theorem G5{l:List UInt8}(h:norm l):au (val l)=l:=GZ (gI _) h (aB _)
theorem uJ{l:List UInt8}(h:0<l.length)(hn:l[l.length-1]≠0):norm l:=by
 unfold norm;rw[List.getLast?_eq_getElem?,List.getElem?_eq_getElem Z];simpa using hn
theorem uG{l:List UInt8}(h:norm l)(hp:0<l.length):l[l.length-1]≠0:=by
 unfold norm at h;rw[List.getLast?_eq_getElem?,List.getElem?_eq_getElem Z]at h;simpa using h
theorem Dl{l:List UInt8}(h:norm l)(hp:0<l.length):B^(l.length-1)<=val l:=by
 induction l with
 | nil=>simp at hp
 | cons d l ih =>
  cases l with
  | nil =>
   have:=uG h Y;simp only[val,aAx,aA3];have hd:d.toNat≠0:=λe=>this (aB0.1 (by simpa using e));simp; omega
  | cons a m =>
   have:=ih (lu h) Y;simp only[aAx,Nat.add_sub_cancel]at this |-;have e:val (d::a::m)=d.toNat+B*val (a::m):=I;rw[e,aAA];have:=aAz B this;rw[aAw]at this;omega
theorem length_le{l:List UInt8}{k:Nat}(h:norm l)(hv:val l<B^k):l.length<=k:=by
 rcases aAH k l.length with hk | hk
 .have h1:=Dl h Z;have h2:B^k<=B^(l.length-1):=aAV jY Z;omega
 exact hk
theorem bI{n k:Nat}(h:n<B^k):(au n).length<=k:=length_le (gI n) (by rw[aB]; exact h)
theorem jf(l:List UInt8)(d:UInt8):val (l++[d])=val l+B^l.length*d.toNat:=by
 rw[val_append]; simp[val]
theorem cZ(l:List UInt8)(k:Nat)(h:k<l.length):val (l.take (k+1))=val (l.take k)+B^k*l[k].toNat:=by
 rw[aAU h,jf]; simp[Nat.min_eq_left (Nat.le_of_lt h)]
theorem lg{l:List UInt8}{n:Nat}(hn:n<=l.length)(hv:val (l.take n)=val l)(h:n=0∨∃h:n-1<l.length,l[n-1]≠0):au (val l)=l.take n:=by
 rw[<-hv];apply G5;rcases h with rfl | ⟨h1,h2⟩
 .simp[norm]
 rcases aAC n with rfl | hp
 .simp[norm]
 have hl:(l.take n).length=n:=by simp[Nat.min_eq_left hn]
 apply uJ Z;simp only[hl];rw[aCu];exact h2
def le4(d:UInt32):List UInt8:=[d.toUInt8,(d>>>8).toUInt8,(d>>>16).toUInt8,(d>>>24).toUInt8]
def bytes(l:List UInt32):List UInt8:=l.flatMap le4
theorem agk(d:UInt32):val (le4 d)=d.toNat:=by
 have:=d.toNat_lt;simp[le4,val,B,UInt32.toNat_shiftRight,Nat.shiftRight_eq_div_pow];omega
theorem aai(l:List UInt32):(bytes l).length=4*l.length:=by
 induction l with
 | nil=>rfl
 | cons d l ih=>unfold bytes at ih |-; rw[aA0,azU,ih]; simp[le4]; omega
theorem aaj(l:List UInt32):val (bytes l)=Na.Zk l:=by
 induction l with
 | nil=>rfl
 | cons d l ih =>
  unfold bytes at ih |-;rw[aA0,val_append,ih,agk];have h4:(le4 d).length=4:=I;have:B^(le4 d).length=Na.Gg:=by rw[h4]; simp[B,Na.Gg]
  rw[this]; rfl
theorem Vs(l:List UInt32)(d:UInt32):bytes (l++[d])=bytes l++le4 d:=by simp[bytes]
end Nb
end
theorem aBo:type_of% @Go.Vp.region:=@Go.Vp.region
