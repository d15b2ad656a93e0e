/- Small laws beside the law for -/
import Derived.Test.YtodpgjjgaddkeaaGreatDoorPk0
import Derived.Deep.MidRow
import Derived.Test.YtodpgjjgaddkeaaGreatDoorShelf
import Derived.Lib.ItoaNum
set_option maxHeartbeats 9999999
open Go renaming World->VO,Value->aaT,Calls->abB,Operand->aGf,bodyPost->aGn
open Go.Proofs.Tryz
set_option maxRecDepth 100000
set_option linter.unusedVariables false
set_option linter.unusedSimpArgs false
section
namespace Go.Rel
variable{P:Program}{o:Oper}{ρ:aGf->aaT}{w:VO}
variable{u:aaT}{R:VO->VO->Prop}{T:Fact}
abbrev SQ(h:(execOp ρ o).run P w = .ok (.value u) w)(D:R w w)(J:T (kept o u) w):Does P o ρ w (λv w'=>R w w'∧T (kept o v) w'):=by
 unfold Does; rw[h]; exact⟨D,J⟩
abbrev aio{w1:VO}(h:(execOp ρ o).run P w = .ok (.value u) w1)(D:R w w1)(J:T (kept o u) w1):Does P o ρ w (λv w'=>R w w'∧T (kept o v) w'):=by
 unfold Does; rw[h]; exact⟨D,J⟩
abbrev Ei{f:Nat}{args:Array aaT}{K:aaT->VO->Prop}(h:(execOp ρ o).run P w = .ok (.enter f args) w)(D:abB P f args w (λe w'=>∃v,e = .R v∧K v w')):Does P o ρ w K:=by
 unfold Does; rw[h]; exact D
end Go.Rel
namespace Go.Proofs.Vy
open Go.RowKit
open Go.RowKit
variable{α:Type}
def Bx(w:VO)(b:Nat)(A:Array aaT):Prop:=b<w.heap.size∧(∀i,w.cell? ⟨b,i,none⟩=A[i]?)∧(∀i,w.frozen? ⟨b,i,none⟩=false)
abbrev Bx.ext{w w':VO}{b:Nat}{A:Array aaT}(h:Bx w b A)(D:Ext w w'):Bx w' b A:=
 ⟨by have:=D.size; have:=h.1; omega,λi=>(D.cell (p:=⟨b,i,none⟩) h.1).trans (h.2.1 i),λi=>(D.frozen (p:=⟨b,i,none⟩) h.1).trans (h.2.2 i)⟩
abbrev Iu(w:VO)(A:Array aaT)(t:TypeId):Bx (w.alloc (.cells A t)) w.heap.size A:=⟨by simp,λi=>by simp[go_sem],λi=>by simp[go_sem]⟩
abbrev Bx.ch{w w':VO}{b c:Nat}{A:Array aaT}(h:Bx w b A)(J:Ch c w w')(D:b≠c):Bx w' b A:=
 ⟨by have:=J.size; have:=h.1; omega,λi=>(J.cell (p:=⟨b,i,none⟩) h.1 D).trans (h.2.1 i),λi=>(J.frozen (p:=⟨b,i,none⟩) h.1 D).trans (h.2.2 i)⟩
abbrev Ch.setCells{b:Nat}{w w':VO}(h:Ch b w w'):∀(vs:List aaT) (o:Nat),Ch b w (w'.setCells b o vs)
 | [],_=>h
 | v::vs,o=>Ch.setCells (h.setCell o v) vs (o+1)
abbrev uS{W w:VO}(h:Ext W w){c:Nat}(D:W.heap.size<=c)(vs:List aaT)(o:Nat):Ext W (w.setCells c o vs):=
 (Ch.setCells (Ch.aT h) vs o).below D (aDd _)
abbrev Bx.there{w:VO}{b n:Nat}{A:Array aaT}(h:Bx w b A)(hn:A.size=n):w.there b 0 n:=λj D=>by
 rw[aEa,h.2.1,h.2.2,Array.getElem?_eq_getElem Z]; exact⟨I,I⟩
theorem size_setCells(b:Nat):∀(vs:List aaT) (o:Nat) (w:VO),(w.setCells b o vs).heap.size=w.heap.size
 | [],_,_=>rfl
 | v::vs,o,w=>by
  show((w.setCell ⟨b,o,none⟩ v).setCells b (o+1) vs).heap.size=_
  rw[size_setCells b vs (o+1)]; simp
abbrev lJ(b:Nat)(vs:List aaT)(o:Nat)(w:VO)(j:Nat)(h:j<o∨o+vs.length<=j):(w.setCells b o vs).cell? ⟨b,j,none⟩=w.cell? ⟨b,j,none⟩:=
 World.cell?_setCells_out b vs o w ⟨b,j,none⟩ (λ_ _=>h)
theorem qg(b:Nat):∀(vs:List aaT) (o:Nat) (w:VO) (p:Addr),(w.setCells b o vs).frozen? p=w.frozen? p
 | [],_,_,_=>rfl
 | v::vs,o,w,p=>by
  show((w.setCell ⟨b,o,none⟩ v).setCells b (o+1) vs).frozen? _=_
  rw[qg b vs (o+1)]; simp[go_sem]
abbrev Bx.set{w:VO}{b:Nat}{A:Array aaT}(h:Bx w b A)(vs:List aaT)(hn:A.size=vs.length):Bx (w.setCells b 0 vs) b vs.toArray:=by
 refine⟨by rw[size_setCells]; exact h.1,λi=>?_,λi=>by rw[qg]; exact h.2.2 i⟩;by_cases hi:i<vs.length
 .have:=World.rangeAt_setCells_same w b 0 vs (h.there hn) i vs[i] (by simp[hi]);rw[aEa]at this;rw[this]; simp[hi]
 rw[lJ b vs 0 w i (.inr Z),h.2.1,Array.getElem?_eq_none Z,Array.getElem?_eq_none (by simp; omega)]
abbrev Bx.range{w:VO}{b:Nat}{A:Array aaT}(h:Bx w b A)(o n:Nat){cs:List aaT}(J:(A.toList.drop o).take n=cs):w.rangeAt b o cs:=λj v D=>by
 subst J;rw[h.2.1];rw[List.getElem?_take]at D;split at D
 .rw[List.getElem?_drop]at D; simpa using D
 cases D
abbrev Bx.off{f:α->aaT}{w:VO}{b:Nat}{A:Array aaT}(h:Bx w b A)(hA:∀(i:Nat) (x:α),A[i]?≠some (f x)){s:aaT}{l:List α}(hs:dH f w s l):0<l.length->Off b s:=by
 intro J ad n cap e;obtain⟨b',o,c,D,hb,_,_,S⟩:=dP hs I J;rw[D]at e;simp only[aDO,aDe]at e;obtain⟨rfl,-,-⟩:=e;intro D;simp only at D;subst D;have D:=S 0 J;rw[h.2.1]at D;exact hA _ _ D
end Go.Proofs.Vy
namespace Go.Rel
open Go.Proofs.Vy
variable{P:Program}{o:Oper}{ρ:aGf->aaT}{w:VO}
end Go.Rel
namespace Go.Vp
open Go.Proofs.Vy Go.RowKit Go.Rel
structure St (a:Act) (n:Nat) (l:List (Nat×aaT)):Prop where
 size:a.tmps.size=n
 defers:a.defers=[]
 has:∀i v,l.lookup i=some v->a.eval (.tmp i)=v
def ev(l:List (Nat×aaT)):aGf->Option aaT
 | .tmp i=>l.lookup i
 | .const v=>some v
 | .global g=>some (.q g 0)
 | .func f=>some (.func (.func f) #[] #[])
section
variable{P:Program}{ops:Array Oper}{Q:Exit->Act->VO->Prop}{a:Act}{w:VO}{rest:List Oper}{o:Oper}{n:Nat}{l:List (Nat×aaT)}
theorem St.ev{x:aGf}{v:aaT}(h:St a n l)(D:ev l x=some v):a.eval x=v:=by
 cases x with
 | tmp i=>exact h.has i v D
 | const c=>exact aDo D
 | global g=>exact aDo D
 | func f=>exact aDo D
abbrev St.put(h:St a n l)(d:Nat)(hd:d<n)(v:aaT):St (a.put (some d) v) n ((d,v)::l):=by
 refine⟨by rw[tX]; exact h.size,by rw[put_defers]; exact h.defers,λi u D=>?_⟩;rw[aD5]at D;by_cases hi:i=d
 .subst hi;simp only[aE3]at D;obtain rfl:=aDo D;have J:i<a.tmps.size:=by rw[h.size]; exact hd
  simp[Act.eval,Act.put,J]
 have e:(i==d)=false:=by simpa using hi
 rw[e]at D;rw[lI (oP a (some d) v i (λe=>hi (aDo e).symm))];exact h.has i u D
variable{v:aaT}{fn:Func}{R:Ending->VO->Prop}{c:Code}{r:Nat}
abbrev abm{ty:TypeId}{b off:Nat}{d:TypeDesc}(J:w.cell? ⟨b,off,none⟩=some v)(S:P.underlying ty=some d)(D:d.isRow=false) :
  (Instr.loadAt ty (.q b off)).run P w = .ok v w:=by
 have D:(isAgg ty).run P w = .ok false w:=by
  unfold isAgg;rw[aEe,run_underlying S w];cases d<;>simp_all
 simp only[aEe,Instr.loadAt,Instr.sureAddr,aFy,aFq,loadVar,D];simp[J]
class Ret (Q:Exit->Act->VO->Prop) (Q':outParam (Exit->Act->VO->Prop)):Prop where
 out:∀a w,Q' .ret a w->Q .ret a w
instance apq {fn:Func}{R:Ending->VO->Prop}:Ret (aGn P fn R) (aGn P fn R):=⟨λ_ _ h=>h⟩
instance apr {Q Q':Exit->Act->VO->Prop}{K:Act->VO->Prop}[r:Ret Q Q']:Ret (Exit.then K Q) Q':=⟨λa w h=>r.out a w h⟩
instance apa {Q Q':Exit->Act->VO->Prop}{id:Nat}[r:Ret Q Q']:Ret (Exit.inBlock id Q) Q':=⟨λa w h=>r.out a w h⟩
abbrev rt{Q Q':Exit->Act->VO->Prop}[r:Ret Q Q'](h:Q' .ret a w):Code.ret.wp P Q a w:=wp_ret (r.out a w h)
abbrev enter{f:FuncId}{args:Array aaT}(S:P.funcs[f]?=some fn)(hb:fn.body=some c)(D:decide (args.size<=fn.ntmps)=true)
  (h:∀a,St a fn.ntmps ((List.range args.size).zip args.toList)->c.wp P (aGn P fn R) a w):abB P f args w R:=by
 refine calls_of_wp S hb (h _ ⟨?_,I,λi v J=>?_⟩)
 .have:args.size<=fn.ntmps:=by simpa using D
  simp; omega
 have key:∀(l:List aaT) (k:Nat),((List.range' k l.length).zip l).lookup i=some v->k<=i∧l[i-k]?=some v:=by
  intro l;induction l with
  | nil=>intro k h; simp at h
  | cons x l ih =>
   intro k h;simp only[aDU,List.range'_succ,List.zip_cons_cons,aD5]at h;by_cases hik:i=k
   .subst hik; simp at h; simp[h]
   have e:(i==k)=false:=by simpa using hik
   rw[e]at h;obtain⟨S,D⟩:=ih (k+1) h;exact⟨Z,by rw[show i-k=(i-(k+1))+1 by omega,List.getElem?_cons_succ]; exact D⟩
 rw[List.range_eq_range',<-Array.length_toList]at J;obtain⟨-,D⟩:=key args.toList 0 J;simp only[Nat.sub_zero]at D;simp only[Act.eval,Array.getD_eq_getD_getElem?];have J:i<args.size:=by have:=(List.getElem?_eq_some_iff.1 D).1; simpa using this
 rw[Array.getElem?_append_left J];have:args[i]?=some v:=by simpa using D
 rw[this]; rfl
abbrev region{id:Nat}{D:List Oper}(h:wpList P D.toArray Q D a w):(Code.region id D.toArray false).wp P Q a w:=wp_region_lit h
abbrev loop{ι:Type}(A00:ι->Act->VO->Prop)(μ:ι->Nat)(i0:ι)(h0:A00 i0 a w)
  (ae:∀i a w,A00 i a w->c.wp P (Exit.then (λa' w'=>∃i',A00 i' a' w'∧μ i'<μ i) Q) a w):(Code.loop c).wp P Q a w:=by
 intro b k cs;have key:∀m i a w,μ i=m->A00 i a w->∃e a' w',Q e a' w'∧Arrives P (lone (b.at a (.code c :: .inLoop c::k)) cs w) b k cs e a' w':=by
  intro m;induction m using Nat.strongRecOn with
  | _ m ih =>
   intro i a w hm hI;obtain⟨e,J,S,hq,D⟩:=ae i a w hI b (.inLoop c::k) cs;cases e with
   | normal =>
    obtain⟨i',ab,af⟩:=hq;obtain⟨e₂,a₂,w₂,ac,aa⟩:=ih (μ i') (hm▸af) i' J S I ab;exact⟨e₂,a₂,w₂,ac,.of_steps (Steps.trans D (.one step_inLoop)) aa⟩
   | exit id=>exact⟨_,J,S,hq,.pass (x := .inLoop c) I (λ_ _ => .inl Y) D⟩
   | goto l=>exact⟨_,J,S,hq,.pass (x := .inLoop c) I (λ_ _ => .inl Y) D⟩
   | ret=>exact⟨_,J,S,hq,.pass (x := .inLoop c) I (λ_ _ => .inl Y) D⟩
   | panic ch=>exact⟨_,J,S,hq,.pass (x := .inLoop c) I (λ_ _ => .inl Y) D⟩
   | outgrown=>exact⟨_,J,S,hq,.pass (x := .inLoop c) I (λ_ _ => .inl Y) D⟩
 obtain⟨e,a',w',hq,D⟩:=key _ i0 a w I h0;exact⟨e,a',w',hq,.of_steps (.one step_loop) D⟩
abbrev aip(J:St a n l)(S:fn.results = #[.tmp r])(hv:ev l (.tmp r)=some v)(h:R (.R v) w):aGn P fn R .ret a w:=by
 refine⟨J.defers,v,?_,h⟩;have D:=J.ev hv;unfold results;rw[S];simp only[Act.eval,Array.getD_eq_getD_getElem?]at D;simp[D]
abbrev aei(D:St a n l){s:Nat}{u:aaT}(hr:fn.results = #[.tmp r,.tmp s])(S:ev l (.tmp r)=some v)(hu:ev l (.tmp s)=some u)(h:R (.R (.tuple #[v,u])) w):aGn P fn R .ret a w:=by
 refine⟨D.defers,_,?_,h⟩;have J:=D.ev S;have S:=D.ev hu;unfold results;rw[hr];simp only[Act.eval,Array.getD_eq_getD_getElem?]at J S;simp[J,S]
end
end Go.Vp
namespace Na
def Hw:Nat:=4294967296
variable{r b V k M q x E i A d U:Nat}{out:List UInt32}
abbrev kQ:0<Hw:=by decide
abbrev SS:1<Hw:=by decide
def TP:List UInt32->Nat
 | []=>0
 | d::l=>d.toNat+Hw*TP l
def norm(l:List UInt32):Prop:=l.getLast?≠some 0
def lH:Nat->Nat->List UInt32
 | 0,_=>[]
 | f+1,n=>if n=0 then []else UInt32.ofNat n::lH f (n/Hw)
def Ro(n:Nat):List UInt32:=lH n n
abbrev val_append(l m:List UInt32):TP (l++m)=TP l+Hw^l.length*TP m:=by
 induction l with
 | nil=>simp[TP]
 | cons d l ih=>simp only[aEp,TP,ih,aDU,aDY,aDE]; rw[aDW (Hw^l.length) Hw,aD2]; omega
abbrev dU(l:List UInt32):TP l<Hw^l.length:=by
 induction l with
 | nil=>simp[TP]
 | cons d l ih =>
  have hd:d.toNat<Hw:=d.toNat_lt;simp only[TP,aDU,aDY];have:Hw*TP l+Hw<=Hw^l.length*Hw:=by
   rw[aDW (Hw^l.length)]; rw[<-aEN]; exact aDZ _ ih
  omega
abbrev Ns(n:Nat):TP (List.replicate n 0)=0:=by
 induction n with
 | zero=>rfl
 | succ n ih=>simp[List.replicate_succ,TP,ih]
abbrev tY(f:Nat):∀n,n<=f->TP (lH f n)=n:=by
 induction f with
 | zero=>intro n h; simp[lH,TP]; omega
 | succ f ih =>
  intro n h;unfold lH;split
  .rename_i D; subst D; rfl
  rename_i D;have D:n/Hw<n:=Nat.div_lt_self Z SS;simp only[TP];rw[ih (n/Hw) Z];have:(UInt32.ofNat n).toNat=n%Hw:=by simp[Hw]
  rw[this];exact aES n Hw
abbrev NP(n:Nat):TP (Ro n)=n:=tY n n (aDd _)
abbrev Aw(f:Nat):∀n,n<=f->norm (lH f n):=by
 induction f with
 | zero=>intro n _; simp[lH,norm]
 | succ f ih =>
  intro n h;unfold lH;split
  .simp[norm]
  rename_i D;have D:n/Hw<n:=Nat.div_lt_self Z SS;have hn:=ih (n/Hw) Z;have D:=tY f (n/Hw) Z;unfold norm at hn |-;generalize lH f (n/Hw)=l at hn D;cases l with
  | nil =>
   simp only[List.getLast?_singleton];intro S;have J:=aDc UInt32.toNat (aDo S);have S:(UInt32.ofNat n).toNat=n%Hw:=by simp[Hw]
   rw[S]at J;simp[TP]at D;have:=aES n Hw;rw[<-D]at this;simp at J;omega
  | cons a l=>simpa[List.getLast?_cons_cons]using hn
abbrev iq(n:Nat):norm (Ro n):=Aw n n (aDd _)
abbrev lU{d:UInt32}{l:List UInt32}(h:norm (d::l)):norm l:=by
 cases l with
 | nil=>simp[norm]
 | cons a l=>unfold norm at h |-; simpa[List.getLast?_cons_cons]using h
abbrev val_eq_zero{l:List UInt32}(h:norm l)(D:TP l=0):l=[]:=by
 induction l with
 | nil=>rfl
 | cons d l ih =>
  simp only[TP]at D;have hl:TP l=0:=by
   rcases aD0 (TP l)with e | e
   .exact e
   have:0<Hw*TP l:=aFF kQ e;omega
  have:=ih (lU h) hl;subst this;have hd:d=0:=aET.1 (by simp; omega);subst hd;exact(h I).elim
abbrev Iw{l:List UInt32}:∀{m:List UInt32},norm l->norm m->TP l=TP m->l=m:=by
 induction l with
 | nil=>intro m _ D h; exact(val_eq_zero D h.symm).symm
 | cons d l ih =>
  intro m hl D h;cases m with
  | nil=>exact val_eq_zero hl h
  | cons e m =>
   simp only[TP]at h;have hd:d.toNat<Hw:=d.toNat_lt;have J:e.toNat<Hw:=e.toNat_lt;have S:d.toNat=e.toNat:=by
    have:=aDc (· % Hw) h;simpa[aFf hd,aFf J]using this
   have J:TP l=TP m:=by
    have:Hw*TP l=Hw*TP m:=Z
    exact Nat.eq_of_mul_eq_mul_left kQ this
   rw[aET.1 S,ih (lU hl) (lU D) J]
abbrev Iy{l:List UInt32}(h:norm l):Ro (TP l)=l:=Iw (iq _) h (NP _)
abbrev jU:Ro 0=[]:=rfl
abbrev lG{n:Nat}:Ro n=[]↔n=0:=by
 constructor
 .intro h; have:=NP n; rw[h]at this; simpa[TP]using this.symm
 intro h; rw[h]; rfl
abbrev uT{l:List UInt32}(h:0<l.length)(hn:l[l.length-1]≠0):norm l:=by
 unfold norm;rw[List.getLast?_eq_getElem?,List.getElem?_eq_getElem Z];simpa using hn
abbrev uP{l:List UInt32}(h:norm l)(D:0<l.length):l[l.length-1]≠0:=by
 unfold norm at h;rw[List.getLast?_eq_getElem?,List.getElem?_eq_getElem Z]at h;simpa using h
abbrev Ee{l:List UInt32}(h:norm l)(D:0<l.length):Hw^(l.length-1)<=TP l:=by
 induction l with
 | nil=>simp at D
 | cons d l ih =>
  cases l with
  | nil =>
   have:=uP h Y;simp only[TP,aDU,aEt];have hd:d.toNat≠0:=λe=>this (aET.1 (by simpa using e));simp; omega
  | cons a m =>
   have:=ih (lU h) Y;simp only[aDU,Nat.add_sub_cancel]at this |-;have e:TP (d::a::m)=d.toNat+Hw*TP (a::m):=I;rw[e,aDY];have:=aDZ Hw this;rw[aDW]at this;omega
abbrev length_le{l:List UInt32}(h:norm l)(D:TP l<Hw^k):l.length<=k:=by
 rcases aD7 k l.length with hk | hk
 .have h1:=Ee h Z;have D:Hw^k<=Hw^(l.length-1):=aEm kQ Z;omega
 exact hk
abbrev bK{n:Nat}(h:n<Hw^k):(Ro n).length<=k:=length_le (iq n) (by rw[NP]; exact h)
abbrev jf(l:List UInt32)(k:Nat)(hk:k<=l.length):TP l=TP (l.take k)+Hw^k*TP (l.drop k):=by
 conv=>lhs; rw[<-aEH k l]
 rw[val_append]; simp[Nat.min_eq_left hk]
abbrev jC(l:List UInt32)(d:UInt32):TP (l++[d])=TP l+Hw^l.length*d.toNat:=by
 rw[val_append]; simp[TP]
abbrev dF(l:List UInt32)(k:Nat)(h:k<l.length):TP (l.take (k+1))=TP (l.take k)+Hw^k*l[k].toNat:=by
 rw[aEj h,jC]; simp[Nat.min_eq_left (Nat.le_of_lt h)]
abbrev oh(l:List UInt32)(k:Nat)(h:k<l.length):TP (l.drop k)=l[k].toNat+Hw*TP (l.drop (k+1)):=by
 rw[aEu h]; rfl
abbrev lV{l:List UInt32}{n:Nat}(hn:n<=l.length)(D:TP (l.take n)=TP l)(h:n=0∨∃h:n-1<l.length,l[n-1]≠0):Ro (TP l)=l.take n:=by
 rw[<-D];apply Iy;rcases h with rfl | ⟨J,D⟩
 .simp[norm]
 rcases aD0 n with rfl | J
 .simp[norm]
 have hl:(l.take n).length=n:=by simp[Nat.min_eq_left hn]
 apply uT Z;simp only[hl];rw[aFC];exact D
def shr(p:Nat):List UInt32->List UInt32
 | []=>[]
 | d::l=>UInt32.ofNat ((d.toNat+Hw*(l.headD 0).toNat)/2^p)::shr p l
abbrev Az(p:Nat)(l:List UInt32):(shr p l).length=l.length:=by
 induction l with
 | nil=>rfl
 | cons d l ih=>simp[shr,ih]
abbrev ZN(p:Nat)(l:List UInt32):∀(i:Nat) (h:i<l.length),(shr p l)[i]'(by rw[Az]; exact h)=UInt32.ofNat (((l.getD i 0).toNat+Hw*(l.getD (i+1) 0).toNat)/2^p):=by
 induction l with
 | nil=>intro i h; simp at h
 | cons d l ih =>
  intro i h;cases i with
  | zero=>cases l<;>simp[shr]
  | succ i =>
   have:=ih i (by simpa using h);simp only[shr,List.getElem_cons_succ,List.getD_cons_succ];exact this
abbrev Nu(p:Nat)(h:p<=32):Hw=2^p*2^(32-p):=by
 rw[<-aFg,show p+(32-p)=32 by omega]; rfl
abbrev ofNat_toNat(n:Nat):(UInt32.ofNat n).toNat=n%Hw:=by simp[Hw]
abbrev ZO(p:Nat)(h:p<=32)(l:List UInt32):TP (shr p l)=TP l/2^p:=by
 induction l with
 | nil=>simp[shr,TP]
 | cons d l ih =>
  simp only[shr,TP,ih,ofNat_toNat];have J:0<2^p:=aEP p;cases l with
  | nil =>
   simp only[List.headD_nil,TP];have hd:d.toNat<Hw:=d.toNat_lt;have:d.toNat/2^p<Hw:=aFD (aFr _ _) hd;simp[Nat.mod_eq_of_lt this]
  | cons e m =>
   simp only[List.headD_cons,TP];generalize TP m=V;have S:d.toNat<Hw:=d.toNat_lt;generalize d.toNat=D at S;generalize e.toNat=E;obtain⟨c,hc⟩:∃c,Hw=2^p*c:=⟨_,Nu p h⟩;have e0:Hw*V=2^p*(c*V):=by rw[<-aD2,<-hc]
   have e1:D+Hw*(E+Hw*V)=(D+Hw*E)+2^p*(Hw*(c*V)):=by
    rw[aDE,e0,aFv Hw (2^p),aE4]
   rw[e1,e0,aFW _ _ J,aFW _ _ J,aDE,<-aE4];congr 1;have J:(D+Hw*E)/2^p/Hw=E/2^p:=by
    rw[Nat.div_div_eq_div_mul,aDW (2^p) Hw,<-Nat.div_div_eq_div_mul];rw[aFW _ _ kQ,aFX S,aEa]
   have:=aES ((D+Hw*E)/2^p) Hw;rw[J]at this;exact this
abbrev abk{m P L D0 S J V0 D:Nat}(hP:P=L+Hw^m*(D0+Hw*S+Hw*Hw*J))(hL:L<Hw^m)(hV:V=M+Hw^m*(V0+Hw*D))(hM:M<Hw^m)
  (aa:0<D) (ah:D0<Hw) (hq:q<Hw) (ae:P<Hw*V) (h1:q*(D*Hw+V0)<=(J*Hw+S)*Hw+D0)
  (h2:q=(J*Hw+S)/D∨Hw<=q+1∨(J*Hw+S)*Hw+D0<(q+1)*(D*Hw+V0)):P/V<=q∧q<=P/V+1:=by
 have hE:0<Hw^m:=aFM kQ;generalize Hw^m=E at *;have hT:D0+Hw*S+Hw*Hw*J=(J*Hw+S)*Hw+D0:=by
  rw[aEO,aDW S Hw,aD2 J,aDW J]; omega
 have hW:V0+Hw*D=D*Hw+V0:=by rw[aDW Hw]; omega
 rw[hT]at hP;rw[hW]at hV;have ab:0<V:=by
  have:0<E*(D*Hw+V0):=aFF hE (by have:=aFF aa kQ; omega);omega
 constructor
 ·
  rcases h2 with h | h | h
  ·
   have ac:P/V*V<=P:=Nat.div_mul_le_self P V;rw[h];rw[Nat.le_div_iff_mul_le aa];generalize P/V=c at ac;generalize J*Hw+S=T at *;have e1:c*V=c*M+E*(c*D*Hw)+E*(c*V0):=by
    rw[hV,aDE,aDE E,aDE c,aFv c E,aFv c E,<-aD2 c D Hw]; omega
   have af:P<E*((T+1)*Hw):=by
    have:E*(T*Hw+D0)+E<=E*((T+1)*Hw):=by
     rw[<-aEN]; exact aDZ _ (by rw[aEO]; omega)
    omega
   have h3:E*(c*D*Hw)<E*((T+1)*Hw):=Z
   have h4:=aGc h3;have h5:=Nat.lt_of_mul_lt_mul_right h4;omega
  .have:P/V<Hw:=aFw (by rw[aDW]; exact ae);omega
  have h3:P<(q+1)*V:=by
   have h4:E*((J*Hw+S)*Hw+D0)+E<=E*((q+1)*(D*Hw+V0)):=by
    rw[<-aEN]; exact aDZ _ h
   have h5:(q+1)*V=(q+1)*M+E*((q+1)*(D*Hw+V0)):=by rw[hV,aDE,aFv]
   generalize (q+1)*V=x1 at *;generalize (q+1)*M=x2 at *;generalize E*((q+1)*(D*Hw+V0))=x3 at *;generalize E*((J*Hw+S)*Hw+D0)=x4 at *;omega
  exact aF3 ((aF4 ab).2 h3)
 
 rcases aD0 q with rfl | ag
 .exact aDl _
 obtain⟨c,rfl⟩:∃c,q=c+1:=⟨q-1,Z⟩;have h3:c*V<=P:=by
  have h4:E*((c+1)*(D*Hw+V0))<=E*((J*Hw+S)*Hw+D0):=aDZ _ h1;have h5:(c+1)*V=(c+1)*M+E*((c+1)*(D*Hw+V0)):=by rw[hV,aDE,aFv]
  have h6:(c+1)*M<=Hw*E:=aE1 (aFc hq) (aFc hM);have h7:Hw*E<=V:=by
   rw[hV];have:E*(1*Hw)<=E*(D*Hw+V0):=aDZ _ (by have:=aEM Hw aa; omega);rw[Nat.one_mul,aDW]at this; omega
  rw[Nat.succ_mul c V]at h5;generalize c*V=x0 at *;generalize (c+1)*M=x2 at *;generalize E*((c+1)*(D*Hw+V0))=x3 at *;generalize E*((J*Hw+S)*Hw+D0)=x4 at *;generalize Hw*E=x5 at *;omega
 exact Nat.succ_le_succ ((Nat.le_div_iff_mul_le ab).2 h3)
abbrev ad4{P:Nat}(neg:Bool)(D:0<V)(J:P/V<=q)(S:q<=P/V+1)(hx:x<E)(h:P+(if neg then E else 0)=x+q*V) :
  (neg=false->x=P%V∧q=P/V)∧(neg=true->1<=q∧q-1=P/V∧x+V=E+P%V):=by
 have hm:=aES P V;have hl:=aEF P D;rcases(show q=P/V∨q=P/V+1 from by
  rcases aD7 (P/V) q with h | h
  .exact .inr (Nat.le_antisymm S h)
  exact .inl (Nat.le_antisymm h J))with rfl | rfl
 .rw[aDW (P/V) V]at h;refine⟨λhn=>?_,λhn=>?_⟩
  .subst hn;simp only[aFG,if_false,aFe]at h;generalize V*(P/V)=y at *;exact⟨Z,I⟩
  subst hn;simp only[if_true]at h;generalize V*(P/V)=y at *;omega
 rw[Nat.succ_mul,aDW (P/V) V]at h;refine⟨λhn=>?_,λhn=>?_⟩
 .subst hn;simp only[aFG,if_false,aFe]at h;generalize V*(P/V)=y at *;omega
 subst hn;simp only[if_true]at h;refine⟨Nat.succ_le_succ (aDl _),I,?_⟩;generalize V*(P/V)=y at *;omega
abbrev aiq(l:List UInt32):∃n,n<=l.length∧TP (l.take n)=TP l∧(n=0∨∃h:n-1<l.length,l[n-1]≠0):=by
 have key:∀k,k<=l.length->TP (l.take k)=TP l->∃n,n<=l.length∧TP (l.take n)=TP l∧(n=0∨∃h:n-1<l.length,l[n-1]≠0):=by
  intro k;induction k with
  | zero=>intro hk D; exact⟨0,hk,D,.inl I⟩
  | succ k ih =>
   intro hk D;by_cases h0:l[k]'Z=0
   .refine ih Z ?_;rw[<-D,dF l k Z,h0]; simp
   exact⟨k+1,hk,D,.inr ⟨by simp; omega,by simpa using h0⟩⟩
 exact key l.length (aDd _) (by rw[aEc])
abbrev Xa(l:List UInt32):Na.Ro (TP l)=l.take (Ro (TP l)).length∧(Ro (TP l)).length<=l.length ∧
  (∀j (h:j<l.length),(Ro (TP l)).length<=j->l[j]=0)∧(∀j (h:j<l.length),j+1=(Ro (TP l)).length->l[j]≠0):=by
 obtain⟨n,hn,S,ht⟩:=aiq l;have hd:=lV hn S ht;have hl:(Ro (TP l)).length=n:=by rw[hd]; simp; omega
 rw[hl];refine⟨hd,hn,λj h J=>?_,λj h J=>?_⟩
 .have h1:=jf l j Z;rw[oh l j h]at h1;have D:=jf (l.take j) n (by simp; omega);rw[List.take_take,aEW J,S]at D;have J:Hw^j*(l[j].toNat+Hw*TP (l.drop (j+1)))=0:=Z
  rcases Nat.mul_eq_zero.1 J with S | S
  .have:=aFM (n:=j) kQ; omega
  exact aET.1 (by simp; omega)
 rcases ht with J | ⟨h1,D⟩
 .omega
 have e:n-1=j:=Z
 simp only[e]at D;exact D
abbrev nJ(l:List UInt32)(j:Nat):TP l=TP (l.take j)+Hw^j*TP (l.drop j):=by
 rcases Nat.le_total j l.length with h | h
 .exact jf l j h
 rw[aDG h,aEB h]; simp[TP]
abbrev oQ(l:List UInt32)(j:Nat):TP (l.drop j)=(l.getD j 0).toNat+Hw*TP (l.drop (j+1)):=by
 rcases aD7 j l.length with h | h
 .rw[oh l j h]; simp[List.getD,List.getElem?_eq_getElem h]
 rw[aEB h,aEB Z]; simp[TP,List.getD,List.getElem?_eq_none h]
abbrev xg(l:List UInt32)(j:Nat):TP (l.take j)<Hw^j:=
 aDL (dU _) (aEm kQ (List.length_take_le _ _))
abbrev jV(l:List UInt32)(j:Nat):TP (l.take (j+1))=TP (l.take j)+Hw^j*(l.getD j 0).toNat:=by
 rcases aD7 j l.length with h | h
 .rw[dF l j h]; simp[List.getD,List.getElem?_eq_getElem h]
 rw[aDG Z,aDG h]; simp[List.getD,List.getElem?_eq_none h]
abbrev uU{l:List UInt32}{j:Nat}(h:TP l<Hw^j):TP (l.take j)=TP l:=by
 have J:=nJ l j;rcases aD0 (TP (l.drop j))with D | D
 .rw[D]at J; omega
 have:Hw^j*1<=Hw^j*TP (l.drop j):=aDZ _ D;omega
abbrev aej{l m:List UInt32}{j:Nat}(S:TP (l.drop (j+1))=TP (m.drop (j+1)))(h:(l.getD j 0).toNat<(m.getD j 0).toNat):TP l<TP m:=by
 have D:=nJ l j;have J:=nJ m j;rw[oQ l j]at D;rw[oQ m j,<-S]at J;have D:=xg l j;have D:=xg m j;have D:Hw^j*((l.getD j 0).toNat+1+Hw*TP (l.drop (j+1)))<=Hw^j*((m.getD j 0).toNat+Hw*TP (l.drop (j+1))):=aDZ _ Z;rw[show(l.getD j 0).toNat+1+Hw*TP (l.drop (j+1))=(l.getD j 0).toNat+Hw*TP (l.drop (j+1))+1 by omega,aEN]at D;omega
abbrev aps{l m:List UInt32}{j:Nat}(D:TP (l.drop (j+1))=TP (m.drop (j+1)))(h:(l.getD j 0).toNat=(m.getD j 0).toNat):TP (l.drop j)=TP (m.drop j):=by
 rw[oQ l j,oQ m j,D,h]
abbrev dg(n:Nat):(UInt32.ofNat n).toNat=n%Hw:=by simp[Hw]
abbrev step_up{c n t:Nat}(hl:out.length=i)(h:TP out+Hw^i*c=A)(hn:n=t+c):TP (out++[UInt32.ofNat n])+Hw^(i+1)*(n/Hw)=A+Hw^i*t:=by
 rw[jC,hl,dg,<-h,hn,aDY,aD2];have:=aES (t+c) Hw;have D:Hw^i*((t+c)%Hw)+Hw^i*(Hw*((t+c)/Hw))=Hw^i*t+Hw^i*c:=by rw[<-aDE,this,aDE]
 omega
abbrev abn{C J D n y:Nat}(hl:out.length=i)(h:A+Hw^i*J=TP out+C)(hn:x+Hw*D=n%Hw+y+J) :
  A+Hw^i*x+Hw^(i+1)*D=TP (out++[UInt32.ofNat n])+(C+Hw^i*y):=by
 rw[jC,hl,dg,aDY,aD2];have S:Hw^i*x+Hw^i*(Hw*D)=Hw^i*(n%Hw)+Hw^i*y+Hw^i*J:=by rw[<-aDE,hn,aDE,aDE]
 omega
abbrev alP{T Lr:Nat}(S:r=Lr+E*T)(J:Lr<E)(hb:b=M+E*V)(D:0<V):r/b<=T/V:=by
 have J:0<E:=Z
 have J:0<b:=by have:E*1<=E*V:=aDZ _ D; omega
 rw[Nat.le_div_iff_mul_le D];have D:r/b*b<=r:=Nat.div_mul_le_self r b;have D:r/b*(E*V)<=r/b*b:=aDZ _ Z;have D:E*(r/b*V)=r/b*(E*V):=by rw[aFv]
 have D:E*(r/b*V)<E*(T+1):=by rw[aEN]; omega
 exact aF3 (aGc D)
abbrev Xc{l m:List UInt32}{n:Nat}(D:m.length=n+1)(ht:0<(m.getD n 0).toNat)(aa:TP l<Hw*TP m) :
  TP l/TP m<=((l.getD (n+1) 0).toNat*4294967296+(l.getD n 0).toNat)/(m.getD n 0).toNat∧TP l/TP m<=4294967295∧0<TP m:=by
 have S:=nJ m n;rw[oQ m n,aEB Z]at S;simp only[TP,Nat.mul_zero,aFe]at S;have J:=dU m;rw[D]at J;have D:0<TP m:=by
  have:=aFF (aFM (n:=n) kQ) ht;omega
 have h2:=nJ l n;rw[oQ l n,oQ l (n+1)]at h2;have h3:TP (l.drop (n+1+1))=0:=by
  rcases aD0 (TP (l.drop (n+1+1)))with h | h
  .exact h
  have h4:=nJ l (n+1+1);have h5:Hw^(n+1+1)*1<=Hw^(n+1+1)*TP (l.drop (n+1+1)):=aDZ _ h;have h6:Hw*TP m<Hw*Hw^(n+1):=aGb J kQ;have J:Hw^(n+1+1)=Hw*Hw^(n+1):=by rw[aDY,aDW]
  omega
 rw[h3]at h2;refine⟨?_,?_,D⟩
 .refine alP (Lr:=TP (l.take n)) (M:=TP (m.take n)) (E:=Hw^n) ?_ (xg l n) S ht;rw[h2];have:Hw=4294967296:=I;rw[this];congr 2;omega
 have:TP l/TP m<Hw:=by rw[aF4 D]; exact aa
 exact aF3 this
abbrev Xd(J:r/b<=d)(h:b*d<=r)(S:0<b):d=r/b∧r-b*d=r%b:=by
 have D:d<=r/b:=(Nat.le_div_iff_mul_le S).2 (by rw[aDW]; exact h);have e:d=r/b:=Nat.le_antisymm D J;subst e;have:=aES r b;exact⟨I,Z⟩
abbrev abo(D:r/b<=d)(h:r<b*d)(J:0<b):1<=d∧r/b<=d-1∧b*d-b=b*(d-1)∧b<=b*d:=by
 have D:r/b<d:=by rw[aF4 J,aDW]; exact h
 have J:0<d:=aFD (aDl _) D;obtain⟨k,rfl⟩:∃k,d=k+1:=⟨d-1,Z⟩;refine⟨Z,aF3 D,?_,?_⟩
 .rw[aEN]; simp
 rw[aEN]; omega
abbrev abp{Q u:Nat}(D:0<b)(J:r<b)(S:u<Hw)(h:Q*b+r=U) :
  ((u+Hw*r)/b+Hw*Q)*b+(u+Hw*r)%b=u+Hw*U∧(u+Hw*r)/b<Hw∧(u+Hw*r)%b<b:=by
 refine⟨?_,?_,aEF _ D⟩
 .have:=aES (u+Hw*r) b;rw[aEO,<-h,aDE,aDW ((u+Hw*r)/b) b,aD2];omega
 rw[aF4 D];have:Hw*(r+1)<=Hw*b:=aDZ _ J;rw[aEN]at this;omega
abbrev ael{Q:Nat}(h:Q*b+r=U)(D:r<b):Q=U/b∧r=U%b:=by
 have J:0<b:=Z
 subst h;rw[aFl,aDW,aFW _ _ J,aFX D,Nat.add_mul_mod_self_left,aFf D];omega
end Na
namespace Nb
def B:Nat:=256
abbrev kQ:0<B:=by decide
abbrev SS:1<B:=by decide
def val:List UInt8->Nat
 | []=>0
 | d::l=>d.toNat+B*val l
def norm(l:List UInt8):Prop:=l.getLast?≠some 0
def lH:Nat->Nat->List UInt8
 | 0,_=>[]
 | f+1,n=>if n=0 then []else UInt8.ofNat n::lH f (n/B)
def au(n:Nat):List UInt8:=lH n n
abbrev val_append(l m:List UInt8):val (l++m)=val l+B^l.length*val m:=by
 induction l with
 | nil=>simp[val]
 | cons d l ih=>simp only[aEp,val,ih,aDU,aDY,aDE]; rw[aDW (B^l.length) B,aD2]; omega
abbrev dU(l:List UInt8):val l<B^l.length:=by
 induction l with
 | nil=>simp[val]
 | cons d l ih =>
  have hd:d.toNat<B:=d.toNat_lt;simp only[val,aDU,aDY];have:B*val l+B<=B^l.length*B:=by
   rw[aDW (B^l.length)]; rw[<-aEN]; exact aDZ _ ih
  omega
abbrev tY(f:Nat):∀n,n<=f->val (lH f n)=n:=by
 induction f with
 | zero=>intro n h; simp[lH,val]; omega
 | succ f ih =>
  intro n h;unfold lH;split
  .rename_i D; subst D; rfl
  rename_i D;have D:n/B<n:=Nat.div_lt_self Z SS;simp only[val];rw[ih (n/B) Z];have:(UInt8.ofNat n).toNat=n%B:=by simp[B]
  rw[this];exact aES n B
abbrev aF(n:Nat):val (au n)=n:=tY n n (aDd _)
abbrev Aw(f:Nat):∀n,n<=f->norm (lH f n):=by
 induction f with
 | zero=>intro n _; simp[lH,norm]
 | succ f ih =>
  intro n h;unfold lH;split
  .simp[norm]
  rename_i D;have D:n/B<n:=Nat.div_lt_self Z SS;have hn:=ih (n/B) Z;have D:=tY f (n/B) Z;unfold norm at hn |-;generalize lH f (n/B)=l at hn D;cases l with
  | nil =>
   simp only[List.getLast?_singleton];intro S;have J:=aDc UInt8.toNat (aDo S);have S:(UInt8.ofNat n).toNat=n%B:=by simp[B]
   rw[S]at J;simp[val]at D;have:=aES n B;rw[<-D]at this;simp at J;omega
  | cons a l=>simpa[List.getLast?_cons_cons]using hn
abbrev iq(n:Nat):norm (au n):=Aw n n (aDd _)
abbrev lU{d:UInt8}{l:List UInt8}(h:norm (d::l)):norm l:=by
 cases l with
 | nil=>simp[norm]
 | cons a l=>unfold norm at h |-; simpa[List.getLast?_cons_cons]using h
abbrev val_eq_zero{l:List UInt8}(h:norm l)(D:val l=0):l=[]:=by
 induction l with
 | nil=>rfl
 | cons d l ih =>
  simp only[val]at D;have hl:val l=0:=by
   rcases aD0 (val l)with e | e
   .exact e
   have:0<B*val l:=aFF kQ e;omega
  have:=ih (lU h) hl;subst this;have hd:d=0:=aFA.1 (by simp; omega);subst hd;exact(h I).elim
abbrev Iw{l:List UInt8}:∀{m:List UInt8},norm l->norm m->val l=val m->l=m:=by
 induction l with
 | nil=>intro m _ D h; exact(val_eq_zero D h.symm).symm
 | cons d l ih =>
  intro m hl D h;cases m with
  | nil=>exact val_eq_zero hl h
  | cons e m =>
   simp only[val]at h;have hd:d.toNat<B:=d.toNat_lt;have J:e.toNat<B:=e.toNat_lt;have S:d.toNat=e.toNat:=by
    have:=aDc (· % B) h;simpa[aFf hd,aFf J]using this
   have J:val l=val m:=by
    have:B*val l=B*val m:=Z
    exact Nat.eq_of_mul_eq_mul_left kQ this
   rw[aFA.1 S,ih (lU hl) (lU D) J]
abbrev Iy{l:List UInt8}(h:norm l):au (val l)=l:=Iw (iq _) h (aF _)
abbrev uT{l:List UInt8}(h:0<l.length)(hn:l[l.length-1]≠0):norm l:=by
 unfold norm;rw[List.getLast?_eq_getElem?,List.getElem?_eq_getElem Z];simpa using hn
abbrev uP{l:List UInt8}(h:norm l)(D:0<l.length):l[l.length-1]≠0:=by
 unfold norm at h;rw[List.getLast?_eq_getElem?,List.getElem?_eq_getElem Z]at h;simpa using h
abbrev Ee{l:List UInt8}(h:norm l)(D:0<l.length):B^(l.length-1)<=val l:=by
 induction l with
 | nil=>simp at D
 | cons d l ih =>
  cases l with
  | nil =>
   have:=uP h Y;simp only[val,aDU,aEt];have hd:d.toNat≠0:=λe=>this (aFA.1 (by simpa using e));simp; omega
  | cons a m =>
   have:=ih (lU h) Y;simp only[aDU,Nat.add_sub_cancel]at this |-;have e:val (d::a::m)=d.toNat+B*val (a::m):=I;rw[e,aDY];have:=aDZ B this;rw[aDW]at this;omega
abbrev length_le{l:List UInt8}{k:Nat}(h:norm l)(D:val l<B^k):l.length<=k:=by
 rcases aD7 k l.length with hk | hk
 .have h1:=Ee h Z;have D:B^k<=B^(l.length-1):=aEm kQ Z;omega
 exact hk
abbrev bK{n k:Nat}(h:n<B^k):(au n).length<=k:=length_le (iq n) (by rw[aF]; exact h)
abbrev jC(l:List UInt8)(d:UInt8):val (l++[d])=val l+B^l.length*d.toNat:=by
 rw[val_append]; simp[val]
abbrev dF(l:List UInt8)(k:Nat)(h:k<l.length):val (l.take (k+1))=val (l.take k)+B^k*l[k].toNat:=by
 rw[aEj h,jC]; simp[Nat.min_eq_left (Nat.le_of_lt h)]
abbrev lV{l:List UInt8}{n:Nat}(hn:n<=l.length)(D:val (l.take n)=val l)(h:n=0∨∃h:n-1<l.length,l[n-1]≠0):au (val l)=l.take n:=by
 rw[<-D];apply Iy;rcases h with rfl | ⟨J,D⟩
 .simp[norm]
 rcases aD0 n with rfl | J
 .simp[norm]
 have hl:(l.take n).length=n:=by simp[Nat.min_eq_left hn]
 apply uT Z;simp only[hl];rw[aFC];exact D
def le4(d:UInt32):List UInt8:=[d.toUInt8,(d>>>8).toUInt8,(d>>>16).toUInt8,(d>>>24).toUInt8]
def bytes(l:List UInt32):List UInt8:=l.flatMap le4
abbrev air(d:UInt32):val (le4 d)=d.toNat:=by
 have:=d.toNat_lt;simp[le4,val,B,UInt32.toNat_shiftRight,Nat.shiftRight_eq_div_pow];omega
abbrev abq(l:List UInt32):(bytes l).length=4*l.length:=by
 induction l with
 | nil=>rfl
 | cons d l ih=>unfold bytes at ih |-; rw[aEn,aDg,ih]; simp[le4]; omega
abbrev abr(l:List UInt32):val (bytes l)=Na.TP l:=by
 induction l with
 | nil=>rfl
 | cons d l ih =>
  unfold bytes at ih |-;rw[aEn,val_append,ih,air];have D:(le4 d).length=4:=I;have:B^(le4 d).length=Na.Hw:=by rw[D]; simp[B,Na.Hw]
  rw[this]; rfl
abbrev Xe(l:List UInt32)(d:UInt32):bytes (l++[d])=bytes l++le4 d:=by simp[bytes]
end Nb
namespace Go.Proofs.Vy
abbrev mM:gI prog 22 119 (.int .u32 0) 1 4:=⟨underlying22,info_parts X,I,by decide⟩
abbrev AA:gI prog 53 5 (.u 0) 1 1:=⟨underlying53,info_parts X,I,by decide⟩
open Go.RowKit
variable{α:Type}
abbrev Iz(l:List UInt32)(k:Nat)(hk:k<l.length)(D:Na.TP (l.take (k+1))=Na.TP l)(h:l[k]=0):Na.TP (l.take k)=Na.TP l:=by
 rw[<-D,Na.dF l k hk,h]; simp
abbrev short_any(v:aaT)(l:List UInt32)(w:VO)(S:aG w v l) :
  abB prog 318 #[v] w λe w'=>∃a,e = .R (.s a (Na.Ro (Na.TP l)).length (Na.Ro (Na.TP l)).length) ∧
   aG w (.s a (Na.Ro (Na.TP l)).length (Na.Ro (Na.TP l)).length) (Na.Ro (Na.TP l))∧w=w':=by
 have J:=aC8 S;obtain⟨a,cap,rfl,hm,D⟩:=S;have hl:=rQ hm D;have S:l.length<=cap:=by
  rcases D with ⟨rfl,_⟩ | ⟨_,_,_,_,h,_⟩
  .simp
  exact h
 have HA:=aC8 D;clear D;unfold maxLen at hm;go_enter func318,ntmps318
 go_wp2
 go_loop [3] (λi=>∃k:Nat,k<=l.length∧i = .i k∧Na.TP (l.take k)=Na.TP l) (λi=>(intOf i).toNat)
 case atStart=>exact⟨l.length,aDd _,I,by rw[aEc]⟩
 case round =>
  obtain⟨k,hk,rfl,D⟩:=hrel;have S:=aC8 D;clear D;by_cases h0:k=0
  .subst h0;go_wp2
   go_ret
   have D:Na.Ro (Na.TP l)=l.take 0:=Na.lV Z S.out (.inl I);have hr:=GX (cap':=0) (n:=0) J.out Z Z (by unfold maxLen; omega) (λ_=>I);refine⟨a,by rw[D]; rfl,by rw[D]; exact hr,I⟩
  obtain⟨j,rfl⟩:∃j,k=j+1:=⟨k-1,Z⟩;rcases HA.out with ⟨rfl,_⟩ | ⟨b,o,rfl,hb,ae,hc⟩
  .simp at hk
  have aa:=hc j Z;have ab:j<l.length:=Z
  clear hc;by_cases hz:l[j]=0
  .have HE:=aC8 (Iz l j ab S.out hz);rw[hz]at aa;go_wp2
   go_round
   case rel=>exact⟨j,Z,by go_num,HE.out⟩
   case measure=>simp[intOf]
  have ac:((l[j].toNat:Int)==0)=false:=by
   rw[aDH]; intro e; exact hz (aET.1 (by simp; omega))
  have HZ:=aC8 hz;clear hz;go_wp2
  go_ret
  have D:Na.Ro (Na.TP l)=l.take (j+1):=Na.lV Z S.out (.inr ⟨Z,HZ.out⟩);have hr:=GX (cap':=j+1) (n:=j+1) J.out Z Z (by unfold maxLen; omega) (λh=>by cases h);have e:(l.take (j+1)).length=j+1:=by simp; omega
  refine⟨_,by rw[D,e]; rfl,by rw[D,e]; exact hr,I⟩
abbrev ZJ(v:aaT)(l:List UInt32)(w:VO)(D:aG w v l)(J:l.length<=1000000000) :
  abB prog 200 #[v] w λe w'=>∃v',e = .R v'∧w'.ownsRow w.heap.size 119 1 v' l.length (l.map bC)∧Ext w w':=by
 have J:=D.raw (λ_=>I);obtain⟨a,cap,rfl,S,ha⟩:=D;rcases a with _ | ad
 .have hz:l=[]∧cap=0:=by
   rcases ha with ⟨h,D⟩ | ⟨b,o,h,_⟩
   .exact⟨h,D I⟩
   cases h
  obtain⟨rfl,rfl⟩:=hz;have D:=Lib.run_eql_slice_nil (P:=prog) w 22 119 none 0 0 0 0 underlying22;clear ha J;go_enter func200,ntmps200
  go_wp2
  go_ret
  exact⟨_,I,aFN _ _ _ _,aDC _ _⟩
 have D:=Lib.run_eql_slice_nil (P:=prog) w 22 119 (some ad) l.length cap 0 0 underlying22;have D:=aFB (base:=w.heap.size) (e:=119) (size:=1) w #[] 0 (aDd _) (aDl _) I;have J:=Ef J (.cells #[] 119);have S:0+l.length<=maxLen:=by unfold maxLen; omega
 have aa:(0+l.length)*4<=140737488355328:=Z
 clear ha;go_enter func200,ntmps200
 go_wp2_with (at_builtin; refine bV I _ _ _ I mM w.heap.size D I J I S aa Y ?_; intro v' w' D J)
 go_ret
 simp only[aEa,aD8]at D;exact⟨_,I,by simpa using D,((aDC _ _).alloc (aDd _) _).grown J Y (by simp[Value.ownBlock])⟩
abbrev dA(l:List UInt32):(Na.Ro (Na.TP l)).length<=l.length:=Na.bK (Na.dU l)
abbrev pK(v:aaT)(l:List UInt32)(w:VO)(J:aG w v l)(D:l.length<=1000000000) :
  abB prog 313 #[v] w λe w'=>∃D,e = .R D ∧
   w'.ownsRow w.heap.size 119 1 D (Na.Ro (Na.TP l)).length ((Na.Ro (Na.TP l)).map bC)∧Ext w w':=by
 have hd:=dA l;have S:=aC8 J;clear J;go_enter func313,ntmps313
 go_wp2_with fail
 refine(short_any _ _ _ S.out).mono ?_;rintro e w' ⟨a,rfl,J,rfl⟩;generalize hx:Na.Ro (Na.TP l)=m at hd J;have S:=aC8 hx;clear hx;go_wp2_with fail
 refine(ZJ _ _ _ J Z).mono ?_;rintro e w' ⟨D,rfl,J,hb⟩;have D:=aC8 J;clear J;go_wp2_with fail
 go_ret
 exact⟨_,I,by rw[S.out]; exact D.out,hb⟩
abbrev ig(d:UInt32):IntKind.u64.wrap (d.toNat:Int)=(d.toNat:Int):=by
 have:=d.toNat_lt; rw[aEE]; omega
abbrev SV(x:UInt64):Na.TP [x.toUInt32,(x>>>32).toUInt32]=x.toNat:=by
 have:=x.toNat_lt;simp[Na.TP,Na.Hw,UInt64.toNat_shiftRight,Nat.shiftRight_eq_div_pow];omega
abbrev yN(x:UInt64):(x.toNat:Int)%(4294967296:Int)=(x.toUInt32.toNat:Int):=by simp
abbrev Pq(x:UInt64):(x.toNat:Int)/(4294967296:Int)=((x>>>32).toNat:Int):=by
 rw[UInt64.toNat_shiftRight]; simp[Nat.shiftRight_eq_div_pow]
abbrev qQ(x:UInt64)(w:VO) :
  abB prog 294 #[ah7 x] w λe w'=>∃S,e = .R S ∧
   w'.ownsRow w.heap.size 119 1 S (Na.Ro x.toNat).length ((Na.Ro x.toNat).map bC)∧Ext w w':=by
 have hr:aG (w.alloc (.cells #[bC x.toUInt32,bC (x>>>32).toUInt32] 119)) (.s (some ⟨w.heap.size,0,none⟩) 2 2) [x.toUInt32,(x>>>32).toUInt32]:=
  Pm w [x.toUInt32,(x>>>32).toUInt32] _ (by unfold maxLen; simp)
 have D:=aH w (.cells #[bC x.toUInt32,bC (x>>>32).toUInt32] 119);have J:=pK _ _ _ hr Y;rw[SV]at J;have HC:=aC8 J;clear J;go_enter func294,ntmps294
 go_wp2_with fail
 rw[yN,Pq,yN];refine HC.out.mono ?_;rintro e w' ⟨S,rfl,J,hb⟩;have S:=aC8 (bF J D.size);clear J HC;go_wp2_with fail
 go_ret
 exact⟨_,I,S.out,K00 D hb⟩
abbrev qL(v:aaT)(l:List UInt32)(i:Nat)(w:VO)(S:aG w v l)(D:i<=4000000000) :
  abB prog 332 #[v,.i i] w λe w'=>e = .R (.int .u64 ((l.getD i 0).toNat:Int))∧w=w':=by
 obtain⟨a,cap,rfl,J,D⟩:=S;have hl:=rQ J D;have J:=aC8 D;clear D;by_cases hlt:i<l.length
 .rcases J.out with ⟨rfl,_⟩ | ⟨b,o,rfl,hb,hlc,hc⟩
  .simp at hlt
  have D:=hc i hlt;clear hc;have e:l.getD i 0=l[i]:=by simp[List.getD,List.getElem?_eq_getElem hlt]
  rw[e];go_enter func332,ntmps332
  go_wp2
  go_ret
  exact⟨jS (ig _),I⟩
 have e:l.getD i 0=0:=by simp[List.getD,List.getElem?_eq_none (Nat.le_of_not_lt hlt)]
 rw[e];go_enter func332,ntmps332
 go_wp2
 go_ret
 exact⟨I,I⟩
def rH(a b:Nat):Int:=if a<b then -1 else if b<a then 1 else 0
abbrev ais(a b:List UInt32)(h:a.length=b.length)(k:Nat)(hk:k<a.length)(S:a.drop (k+1)=b.drop (k+1)) :
  (a[k]<b[k]'Z->Na.TP a<Na.TP b)∧(b[k]'Z<a[k]->Na.TP b<Na.TP a):=by
 have D:=Na.jf a k Z;have J:=Na.jf b k Z;rw[Na.oh a k hk]at D;rw[Na.oh b k Z,<-S]at J;have D:=Na.dU (a.take k);have lb:=Na.dU (b.take k);have ea:(a.take k).length=k:=by simp; omega
 have J:(b.take k).length=k:=by simp; omega
 rw[ea]at D;rw[J]at lb;have key:∀x y z:Nat,x<y->Na.Hw^k*(x+Na.Hw*z)+Na.Hw^k<=Na.Hw^k*(y+Na.Hw*z):=by
  intro x y z D;rw[<-aEN];exact aDZ _ Z
 constructor
 .intro D;have:=key _ _ (Na.TP (a.drop (k+1))) (UInt32.lt_iff_toNat_lt.1 D);omega
 intro D;have:=key _ _ (Na.TP (a.drop (k+1))) (UInt32.lt_iff_toNat_lt.1 D);omega
abbrev ZP{a b:List UInt32}(J:Na.norm a)(D:Na.norm b)(h:a.length<b.length):Na.TP a<Na.TP b:=by
 have J:=Na.dU a;have J:=Na.Ee D Z;have D:Na.Hw^a.length<=Na.Hw^(b.length-1):=aEm Na.kQ Z;omega
abbrev CG{a b:Nat}(h:a<b):rH a b = -1:=by unfold rH; rw[aDb h]
abbrev GZ{a b:Nat}(h:b<a):rH a b=1:=by unfold rH; rw[aC9 Z,aDb h]
abbrev ZQ{a b:Nat}(h:a=b):rH a b=0:=by unfold rH; rw[aC9 Z,aC9 Z]
abbrev CJ(v u:aaT)(l m:List UInt32)(w:VO)(D:aG w v l)(J:aG w u m) :
  abB prog 320 #[v,u] w (VH w (.i (rH (Na.TP l) (Na.TP m)))):=by
 have na:=Na.iq (Na.TP l);have nb:=Na.iq (Na.TP m);have ea:=Na.NP (Na.TP l);have S:=Na.NP (Na.TP m);have hll:(Na.Ro (Na.TP l)).length<=maxLen:=aDy (dA l) D.len;have al:(Na.Ro (Na.TP m)).length<=maxLen:=aDy (dA m) J.len;have H1:=aC8 D;have H2:=aC8 J;have C1:=aC8 (short_any v l w D);have C2:=aC8 (short_any u m w J);clear D J;unfold maxLen at hll al;rw[<-ea,<-S];generalize Na.Ro (Na.TP l)=a at *;generalize Na.Ro (Na.TP m)=b at *;have D:=aC8 ea;have D:=aC8 S;have NA:=aC8 na;have NB:=aC8 nb;clear ea S na nb;go_enter func320,ntmps320
 go_wp2_with fail
 refine C1.out.mono ?_;rintro e w' ⟨x,rfl,hx,rfl⟩;go_wp2_with fail
 refine C2.out.mono ?_;rintro e w' ⟨y,rfl,hy,rfl⟩;clear C1 C2 H1 H2;rcases aFU a.length b.length with S | D | ap
 .have ae:((a.length:Int) != (b.length:Int))=true:=by rw[bne_iff_ne]; omega
  have J:=aC8 (CG (ZP NA.out NB.out S));go_wp2_with fail
  go_ret
  exact⟨by rw[J.out]; rfl,aDC _ _⟩
 .have ae:((a.length:Int) != (b.length:Int))=false:=by rw[bne_eq_false_iff_eq]; omega
  have HQ:=aC8 D;clear D;go_wp2_with fail
  rw[HQ.out]at hx |-;rw[HQ.out]at hll;go_loopw [5] (λi wr=>∃k:Nat,k<=b.length∧i = .i ((k:Int)-1)∧a.drop k=b.drop k∧Ext w wr) (λi _=>(intOf i+1).toNat)
  case atStart=>exact⟨b.length,aDd _,I,by rw[List.drop_length,<-HQ.out,List.drop_length],aDC _ _⟩
  case round =>
   obtain⟨k,hk,rfl,hd,D⟩:=hrel;have HD:=aC8 hd;clear hd;cases k with
   | zero =>
    have J:=aC8 (ZQ (aDc Na.TP (show a=b from HD.out)));go_wp2_with fail
    go_ret
    exact⟨by rw[J.out]; rfl,D⟩
   | succ j =>
    have S:(((j+1:Nat):Int)-1)=(j:Int):=Z
    rw[S];obtain⟨bx,ox,cx,S,an,aq,ar,af⟩:=dP hx HQ.out Z;obtain⟨ag,oy,cy,ah,ao,av,aw,ai⟩:=dP hy I Z;simp only[aDO]at S ah;obtain⟨rfl,-,-⟩:=S;obtain⟨rfl,-,-⟩:=ah;have aa:j<a.length:=by rw[HQ.out]; omega
    have c1:wr.cell? ⟨bx,ox+j,none⟩=some (bC a[j]):=by rw[D.cell (p:=⟨bx,ox+j,none⟩) an]; exact af j aa
    have c2:wr.cell? ⟨ag,oy+j,none⟩=some (bC b[j]):=by rw[D.cell (p:=⟨ag,oy+j,none⟩) ao]; exact ai j Z
    clear af ai;have S:(0:Int)<=j:=Z
    have S:(j:Int)<b.length:=Z
    have S:=aC8 (ais a b HQ.out j aa HD.out);have ab:Hid (a[j]=b[j]->a.drop j=b.drop j):=λe=>by
     rw[aEu aa,aEu (show j<b.length by omega),e,HD.out]
    rcases aFU a[j].toNat b[j].toNat with h1 | h1 | h1
    .have J:=aC8 (CG (S.out.1 (UInt32.lt_iff_toNat_lt.2 h1)));have ac:(a[j].toNat:Int)<b[j].toNat:=Z
     go_wp2_with fail
     go_quiet (fail)
     go_wp2_with fail
     go_ret
     exact⟨by rw[J.out]; rfl,below_drewN D _⟩
    .have ac:¬(a[j].toNat:Int)<b[j].toNat:=Z
     have am:¬(b[j].toNat:Int)<a[j].toNat:=Z
     have HE:=aC8 h1;clear h1;go_wp2_with fail
     go_quiet (fail)
     go_wp2_with fail
     go_quiet (fail)
     go_wp2_with fail
     go_roundw
     case rel=>exact⟨j,Z,I,ab.out (aET.1 HE.out),below_drewN D _⟩
     case measure=>simp[intOf]
    have J:=aC8 (GZ (S.out.2 (UInt32.lt_iff_toNat_lt.2 h1)));have ac:¬(a[j].toNat:Int)<b[j].toNat:=Z
    have am:(b[j].toNat:Int)<a[j].toNat:=Z
    go_wp2_with fail
    go_quiet (fail)
    go_wp2_with fail
    go_quiet (fail)
    go_wp2_with fail
    go_ret
    exact⟨by rw[J.out]; rfl,below_drewN (below_drewN D _) _⟩
 have ae:((a.length:Int) != (b.length:Int))=true:=by rw[bne_iff_ne]; omega
 have J:=aC8 (GZ (ZP NB.out NA.out ap));go_wp2_with fail
 go_ret
 exact⟨by rw[J.out]; rfl,aDC _ _⟩
open Go.RowKit
variable{α:Type}
abbrev ait(r:Nat)(x:UInt32)(h:r<4294967296):bits .or .u64 ((r:Int)*4294967296) (IntKind.u64.wrap (x.toNat:Int))=((r*4294967296+x.toNat:Nat):Int):=by
 have D:=x.toNat_lt;rw[ig];have e:((r:Int)*4294967296)=((r*4294967296:Nat):Int):=by simp
 rw[e,u64_or_nat _ _ Z Z,nat_join 32 _ _ Z Z]
abbrev SX(a b:Nat):(a:Int).tdiv (b:Int)=((a/b:Nat):Int):=by
 rw[Int.tdiv_eq_ediv_of_nonneg (Int.natCast_nonneg _)]; rfl
abbrev dn{n:Nat}(h:n<4294967296):(UInt32.ofNat n).toNat=n:=by simp; omega
abbrev abt(N d:Nat)(hd:0<d)(D:d<4294967296)(h:N<d*4294967296) :
  IntKind.u64.wrap ((N:Int)/(d:Int))%(4294967296:Int)=((UInt32.ofNat (N/d)).toNat:Int):=by
 have D:N/d<4294967296:=aFw h;rw[dn D,aEE];have e:(N:Int)/(d:Int)=((N/d:Nat):Int):=I;rw[e];generalize N/d=q at D;omega
abbrev aiu(q r d n:Nat)(h:q*d+r=n)(D:r<d):q=n/d∧r=n%d:=by
 subst h;have:0<d:=Z
 rw[aFl,aDW,aFW _ _ this,aFX D,Nat.add_mul_mod_self_left,aFf D];omega
abbrev one_any(v:aaT)(l:List UInt32)(d:UInt32)(w:VO)(J:aG w v l)(hd:0<d.toNat)(D:l.length<=1000000000) :
  abB prog 321 #[v,bC d] w λe w'=>∃D,e = .R (.tuple #[D,.int .u32 ((Na.TP l%d.toNat:Nat):Int)]) ∧
   aG w' D (Na.Ro (Na.TP l/d.toNat))∧Ext w w':=by
 have D:=aC8 J;obtain⟨a,cap,rfl,S,D⟩:=J;have HA:=aC8 D;clear D;have D:l.length<=maxLen:=by unfold maxLen; omega
 have J:4*l.length<=281474976710656:=Z
 have ab:=d.toNat_lt;go_enter func321,ntmps321
 go_wp2_with (at_make; refine wpList_make_row I _ _ _ I mM I w.heap.size l.length I I I J D (aDd _) ?_; intro w1 D S)
 have J:=gU (aDC w.heap.size w) S (aDd _);clear S;have HO:=aC8 D;clear D;go_loopw [7,8] (λr i wr=>∃(k rest:Nat) (q:List UInt32),k+q.length=l.length∧i = .i ((k:Int)-1)∧r = .int .u64 rest∧rest<d.toNat ∧
  Na.TP q*d.toNat+rest=Na.TP (l.drop k)∧wr.ownsRow w.heap.size 119 1 (.s (some ⟨w.heap.size,0,none⟩) l.length l.length) l.length ((List.replicate k 0++q).map bC)∧Ext w wr) (λ_ i _=>(intOf i+1).toNat)
 case atStart=>exact⟨l.length,0,[],by simp,I,I,hd,by simp[Na.TP],by simpa[bC]using HO.out,J⟩
 case round =>
  obtain⟨k,rest,q,aa,rfl,rfl,hr,S,D,J⟩:=hrel;have HV:=aC8 S;have HK:=aC8 aa;have HW:=aC8 D;have ac:k<=l.length:=Z
  clear S aa D;cases k with
  | zero =>
   simp only[aFH,aD8]at HW;simp only[aEa]at HK;have D:aG wr (.s (some ⟨w.heap.size,0,none⟩) l.length l.length) q:=by
    have:=HW.out; rw[<-HK.out]at this |-; exact bD this
   have S:=aiu (Na.TP q) rest d.toNat (Na.TP l) (by have:=HV.out; simpa using this) hr;have HQ:=aC8 S;clear S HO;go_wp2_with fail
   refine(short_any _ _ _ D).mono ?_;rintro e w' ⟨S,rfl,D,rfl⟩;have S:(rest:Int)%4294967296=rest:=Z
   go_wp2_with fail
   go_ret2
   rw[HQ.out.1]at D |-;exact⟨_,by rw[HQ.out.2]; rfl,D,J⟩
  | succ j =>
   have D:(((j+1:Nat):Int)-1)=(j:Int):=Z
   rw[D];rcases HA.out with ⟨rfl,_⟩ | ⟨b,o,rfl,hb,af,S⟩
   .simp at ac
   have ae:wr.cell? ⟨b,o+j,none⟩=some (bC l[j]):=by rw[J.cell (p:=⟨b,o+j,none⟩) hb]; exact S j Z
   clear S D;obtain⟨N,hN⟩:∃N,N=rest*4294967296+l[j].toNat:=⟨_,I⟩;have D:bits .or .u64 ((rest:Int)*4294967296) (IntKind.u64.wrap (l[j].toNat:Int))=(N:Int):=by rw[hN]; exact ait rest l[j] Z
   have S:=aC8 hN;have D:(List.replicate (j+1) (0:UInt32)++q).length=l.length:=by have:=HK.out; simp; omega
   have D:=HW.out.cellAt j Z;rw[List.getElem?_map,List.getElem?_append_left Y,List.getElem?_replicate,aDb Z,aD3]at D;have D:=HW.out.frozenAt j;have D:=HW.out.stored j (bC (UInt32.ofNat (N/d.toNat)));rw[aEb,aFY,GR]at D;have HS:=aC8 D;clear hN D HO;go_wp2_with fail
   go_roundw
   case rel =>
    have D:N<d.toNat*4294967296:=by have:=S.out; have:=l[j].toNat_lt; have:=aEM 4294967296 (show rest+1<=d.toNat from hr); omega
    rw[abt N d.toNat hd ab D,show(N:Int)%(d.toNat:Int)=((N%d.toNat:Nat):Int)from rfl];refine⟨j,N%d.toNat,UInt32.ofNat (N/d.toNat)::q,?_,I,I,aEF _ hd,?_,?_,?_⟩
    .have:=HK.out; simp; omega
    .rw[Na.oh l j Z,<-HV.out];have e:(UInt32.ofNat (N/d.toNat)).toNat=N/d.toNat:=dn (by exact aFw D);have:=aES N d.toNat;have D:=S.out;simp only[Na.TP,Na.Hw,e];rw[aEO,aDW (N/d.toNat)];rw[aDE,aD2];omega
    .simpa[bC]using HS.out.1
    exact J.setCell (p:=⟨w.heap.size,j,none⟩) (aDd _) _
   case measure=>simp[intOf]
open Go.RowKit
variable{α:Type}
abbrev aem(r:Nat)(x:Nat)(h:r<4294967296)(D:x<4294967296):bits .or .u64 (x:Int) ((r:Int)*4294967296)=((x+Na.Hw*r:Nat):Int):=by
 have e:((r:Int)*4294967296)=((r*4294967296:Nat):Int):=by simp
 rw[e,u64_or_nat _ _ Z Z,Nat.or_comm,nat_join 32 _ _ Z Z];congr 1;unfold Na.Hw; omega
abbrev aen{β:Type}(l:List β)(z:β)(i:Nat)(h:i<l.length):(l.take i++List.replicate (l.length-i) z).set i l[i]=l.take (i+1)++List.replicate (l.length-(i+1)) z:=by
 obtain⟨k,hk⟩:∃k,l.length-i=k+1:=⟨l.length-i-1,Z⟩;rw[hk,show l.length-(i+1)=k by omega,List.set_append,aFz];have e:(l.take i).length=i:=by simp; omega
 rw[e,aC9 Z,aE5,List.set_cons_zero,take_snoc l i h,aDz];rfl
abbrev Nv(N p:Nat):(N:Int)/2^p%(4294967296:Int)=((UInt32.ofNat (N/2^p)).toNat:Int):=by simp
abbrev WU(v:aaT)(l:List UInt32)(p:Nat)(w:VO)(D:aG w v l)(hp:0<p)(S:p<=31)(J:l.length<=1000000000) :
  abB prog 323 #[v,.i (-(p:Int))] w λe w'=>∃a,e = .R (.s a (Na.Ro (Na.TP l/2^p)).length (Na.Ro (Na.TP l/2^p)).length) ∧
   aG w' (.s a (Na.Ro (Na.TP l/2^p)).length (Na.Ro (Na.TP l/2^p)).length) (Na.Ro (Na.TP l/2^p))∧Ext w w':=by
 have hd:=dA l;have ea:=Na.NP (Na.TP l);have S:=aC8 (short_any v l w D);clear D;rw[<-ea];generalize Na.Ro (Na.TP l)=a at *;have D:=aC8 ea;clear ea;have D : -(p:Int)<0:=Z
 by_cases h0:a.length=0
 .obtain rfl:a=[]:=aEA h0;go_enter func323,ntmps323
  go_wp2_with fail
  refine S.out.mono ?_;rintro e w' ⟨x,rfl,hx,rfl⟩;go_wp2_with fail
  go_ret
  exact⟨none,by simp[Na.TP,Na.Ro,Na.lH],by simpa[Na.TP,Na.Ro,Na.lH]using GU w,aDC _ _⟩
 have D:0<a.length:=Z
 have D:a.length<=maxLen:=by unfold maxLen; omega
 have J:4*a.length<=281474976710656:=Z
 go_enter func323,ntmps323
 go_wp2_with fail
 refine S.out.mono ?_;rintro e w' ⟨x,rfl,hx,rfl⟩;have S:¬-(p:Int) <= -32*(a.length:Int):=Z
 have ac:(p:Int)/32=0:=Z
 have ag:(p:Int)%32=(p:Int):=Z
 go_wp2_with (at_make; refine wpList_make_row I _ _ _ I mM I w.heap.size a.length I I I J D (aDd _) ?_; intro w1 D J)
 have ae:=gU (aDC w.heap.size w) J (aDd _);clear J;have HO:=aC8 D;clear D ac S;have J:=Na.Az p a;go_loopw [37] (λi wr=>∃k:Nat,k<=a.length∧i = .i k∧wr.ownsRow w.heap.size 119 1 (.s (some ⟨w.heap.size,0,none⟩) a.length a.length) a.length (((Na.shr p a).take k++List.replicate ((Na.shr p a).length-k) 0).map bC)∧Ext w wr) (λi _=>a.length-(intOf i).toNat)
 case atStart=>exact⟨0,Z,I,by simpa[bC,J]using HO.out,ae⟩
 case round =>
  obtain⟨k,hk,rfl,D,S⟩:=hrel;have HW:=aC8 D;have aa:=hx.below S;clear D;by_cases hlt:k<a.length
  .have g0:=(a.getD k 0).toNat_lt;have g1:=(a.getD (k+1) 0).toNat_lt;have D:=Na.ZN p a k hlt;have d0:=qL _ a k _ aa Z;have d1:=qL _ a (k+1) _ aa Z;generalize (a.getD k 0).toNat=D0 at *;generalize (a.getD (k+1) 0).toNat=D1 at *;have ah:=aem D1 D0 g1 g0;generalize hN:D0+Na.Hw*D1=N at *;obtain⟨⟨cv,af⟩,ai⟩:=rP HW.out k hlt;have HG:=aC8 D;have ab:=aC8 J;have E0:=aC8 d0;have E1:=aC8 d1;clear D J hN d0 d1;go_wp2_with fail
   refine E0.out.mono ?_;rintro e w' ⟨rfl,rfl⟩;go_wp2_with fail
   refine E1.out.mono ?_;rintro e w' ⟨rfl,rfl⟩;go_wp2_with fail
   go_roundw
   case rel =>
    have D:=HW.out.stored k (bC ((Na.shr p a)[k]'(by rw[ab.out]; exact hlt)));rw[<-aE2,aen _ _ k (by rw[ab.out]; exact hlt)]at D;rw[HG.out]at D;rw[Nv];exact⟨k+1,Z,by go_num,D.1,S.setCell (p:=⟨w.heap.size,k,none⟩) (aDd _) _⟩
   case measure=>simp[intOf]; omega
  obtain rfl:k=a.length:=by omega
  have D:aG wr (.s (some ⟨w.heap.size,0,none⟩) a.length a.length) (Na.shr p a):=by
   have:=HW.out;rw[<-J,aEc,aE5,aFH,aEk]at this;have h2:=bD this;rw[J]at h2; exact h2
  have J:=short_any _ _ _ D;rw[Na.ZO p Z]at J;have HS:=aC8 J;clear J D;go_wp2_with fail
  refine HS.out.mono ?_;rintro e w' ⟨J,rfl,D,rfl⟩;have J:=aC8 D;clear D;go_wp2_with fail
  go_ret
  exact⟨_,I,J.out,S⟩
abbrev wide(c:UInt32)(p:Nat)(h:p<=31):IntKind.u64.wrap (IntKind.u64.wrap (c.toNat:Int)*2^p)=((c.toNat*2^p:Nat):Int):=by
 have D:=c.toNat_lt;have D:2^p<=2^31:=aEm Z h;have J:c.toNat*2^p<=4294967296*2^31:=aE1 Z D;have e:(c.toNat:Int)*2^p=((c.toNat*2^p:Nat):Int):=by simp
 rw[ig,e,aEE];omega
abbrev alR(t:UInt32)(c p:Nat)(D:p<=31)(ht:t.toNat<2^p) :
  bits .or .u32 (t.toNat:Int) (((c*2^p:Nat):Int)%4294967296)=((UInt32.ofNat (t.toNat+c*2^p%Na.Hw)).toNat:Int)∧t.toNat+c*2^p%Na.Hw<Na.Hw:=by
 have hB:=Na.Nu p Z;have D:0<2^p:=aEP p;have J:c*2^p%Na.Hw=c%2^(32-p)*2^p:=by
  rw[hB,aDW c,Nat.mul_mod_mul_left,aDW]
 have D:c%2^(32-p)+1<=2^(32-p):=aEF _ (aEP _);have S:c*2^p%Na.Hw+2^p<=Na.Hw:=by
  rw[J,<-Nat.succ_mul,hB,aDW (2^p)]; exact aEM _ D
 have D:t.toNat+c*2^p%Na.Hw<Na.Hw:=Z
 refine⟨?_,D⟩;have D:((c*2^p:Nat):Int)%4294967296=((c*2^p%Na.Hw:Nat):Int):=by simp[Na.Hw]
 have S:Na.Hw=4294967296:=I;rw[D,u32_or_nat _ _ t.toNat_lt Z,Nat.or_comm,nat_join p _ _ (by rw[J]; simp) ht,dn Z,aFl]
abbrev aiv{β:Type}(q:List β)(t x y z:β)(k m:Nat)(D:q.length=k):((q++t::List.replicate (m+1) z).set k x).set (k+1) y=(q++[x])++y::List.replicate m z:=by
 subst D;rw[List.set_append,aC9 Z,aE5,List.set_cons_zero,List.set_append,aC9 Z,aF5,aFz];simp
abbrev Aq(v:aaT)(l:List UInt32)(p:Nat)(w:VO)(S:aG w v l)(ac:p<=31)(D:l.length<=1000000000) :
  abB prog 323 #[v,.i p] w λe w'=>∃a,e = .R (.s a (Na.Ro (Na.TP l*2^p)).length (Na.Ro (Na.TP l*2^p)).length) ∧
   aG w' (.s a (Na.Ro (Na.TP l*2^p)).length (Na.Ro (Na.TP l*2^p)).length) (Na.Ro (Na.TP l*2^p))∧Ext w w':=by
 have hd:=dA l;have ea:=Na.NP (Na.TP l);have C1:=aC8 (short_any v l w S);clear S;rw[<-ea];generalize Na.Ro (Na.TP l)=a at *;have D:=aC8 ea;clear ea;have D:a.length+1<=maxLen:=by unfold maxLen; omega
 have J:4*(a.length+1)<=281474976710656:=Z
 have am:(p:Int)/32=0:=Z
 have an:(p:Int)%32=(p:Int):=Z
 have al:min (p:Int) 4096=(p:Int):=Z
 go_enter func323,ntmps323
 go_wp2_with fail
 refine C1.out.mono ?_;rintro e w' ⟨x,rfl,hx,rfl⟩;go_wp2_with (at_make; refine wpList_make_row I _ _ _ I mM I w.heap.size (a.length+1) I I I J D (aDd _) ?_; intro w1 D hg)
 have J:=gU (aDC w.heap.size w) hg (aDd _);clear hg;have HO:=aC8 D;clear D;go_loopw [76] (λi wr=>∃(k:Nat) (q:List UInt32) (t:UInt32),k<=a.length∧i = .i k∧q.length=k∧t.toNat<2^p∧Na.TP (q++[t])=Na.TP (a.take k)*2^p ∧
  wr.ownsRow w.heap.size 119 1 (.s (some ⟨w.heap.size,0,none⟩) (a.length+1) (a.length+1)) (a.length+1) ((q++t::List.replicate (a.length-k) 0).map bC)∧Ext w wr) (λi _=>a.length-(intOf i).toNat)
 case atStart=>exact⟨0,[],0,Z,I,I,by simpa using aEP p,by simp[Na.TP],by simpa[bC,aFz]using HO.out,J⟩
 case round =>
  obtain⟨k,q,t,hk,rfl,hq,ht,aa,D,J⟩:=hrel;have HW:=aC8 D;have ae:=hx.below J;have HV:=aC8 aa;have HT:=aC8 ht;have HQ:=aC8 hq;clear D aa ht hq HO;by_cases hlt:k<a.length
  .obtain⟨bx,ox,cx,hxs,hbx,hlx,hmx,hcx⟩:=dP ae I Z;simp only[aDO]at hxs;obtain⟨rfl,-,-⟩:=hxs;have af:=hcx k hlt;clear hcx;have ag:=HW.out.cellAt k Z;have D:=HW.out.frozenAt k;have D:=HW.out.frozenAt (k+1);obtain⟨⟨cv,D⟩,_⟩:=rP HW.out (k+1) Z;rw[List.getElem?_map,List.getElem?_append_right (by rw[HQ.out]; omega),HQ.out,aE5,List.getElem?_cons_zero,aD3]at ag;have HA:=aC8 (Na.dF a k hlt);generalize a[k]=c at af HA;go_wp2_with fail
   go_roundw
   case rel =>
    obtain⟨o1,o2⟩:=alR t c.toNat p ac HT.out;have hq:=HQ.out;have ht:=HT.out;obtain⟨m,hm⟩:∃m,a.length-k=m+1:=⟨a.length-k-1,Z⟩;have ah:=(HW.out.stored k (bC (UInt32.ofNat (t.toNat+c.toNat*2^p%Na.Hw)))).1;have D:=(ah.stored (k+1) (bC (UInt32.ofNat (c.toNat*2^p/Na.Hw)))).1;rw[hm,<-aE2,<-aE2,aiv q t _ _ 0 k m hq]at D;have ai:c.toNat*2^p/Na.Hw<2^p:=by
     refine aFw ?_;have hc:=c.toNat_lt;exact aGd hc (aEP p)
    have ab:c.toNat*2^p/Na.Hw<4294967296:=by
     have:2^p<=2^31:=aEm Z ac;omega
    have e5:((c.toNat*2^p:Nat):Int)/4294967296%4294967296=((UInt32.ofNat (c.toNat*2^p/Na.Hw)).toNat:Int):=by
     rw[dn ab];have:((c.toNat*2^p:Nat):Int)/4294967296=((c.toNat*2^p/Na.Hw:Nat):Int):=by simp[Na.Hw]
     rw[this]; omega
    rw[wide c p ac,o1,e5];refine⟨k+1,q++[UInt32.ofNat (t.toNat+c.toNat*2^p%Na.Hw)],UInt32.ofNat (c.toNat*2^p/Na.Hw),Z,by go_num,by simp[hq],by rw[dn ab]; exact ai,?_,?_,?_⟩
    .have S:=HV.out;rw[Na.jC,hq]at S;rw[Na.jC,Na.jC,HA.out,aEO,<-S,dn o2,dn ab,aDg,hq];have:=aES (c.toNat*2^p) Na.Hw;simp only[aDU,aEt,aDY];generalize c.toNat*2^p/Na.Hw=hi at *;generalize c.toNat*2^p%Na.Hw=lo at *;rw[aD2 (Na.Hw^k) c.toNat,<-this,aDE,aDE,<-aD2 (Na.Hw^k) Na.Hw hi];omega
    .rw[show a.length-(k+1)=m by omega]; exact D
    exact(J.setCell (p:=⟨w.heap.size,k,none⟩) (aDd _) _).setCell (p:=⟨w.heap.size,k+1,none⟩) (aDd _) _
   case measure=>simp[intOf]; omega
  obtain rfl:k=a.length:=by omega
  have D:aG wr (.s (some ⟨w.heap.size,0,none⟩) (a.length+1) (a.length+1)) (q++[t]):=by
   have:=HW.out;rw[aE5,aFH]at this;have e:(q++[t]).length=a.length+1:=by have:=HQ.out; simp[this]
   have h2:=bD (l:=q++[t]) (by rw[e]; exact this);exact h2
  have hs:=short_any _ _ _ D;have S:=HV.out;rw[aEc]at S;rw[S]at hs;have HS:=aC8 hs;clear hs D S;go_wp2_with fail
  refine HS.out.mono ?_;rintro e w' ⟨S,rfl,D,rfl⟩;have S:=aC8 D;clear D;go_wp2_with fail
  go_ret
  exact⟨_,I,S.out,J⟩
def bl(n:Nat):Nat:=if n=0 then 0 else Nat.log2 n+1
abbrev apt{n k:Nat}(J:2^k<=n)(S:n<2^(k+1)):bl n=k+1:=by
 have D:n≠0:=by have:=aEP k; omega
 unfold bl;rw[aC9 D,(Nat.log2_eq_iff D).2 ⟨J,S⟩]
abbrev ZR(a:List UInt32)(x:UInt32)(D:x≠0)(c:Nat)(J:2^(c-1)<=x.toNat)(S:x.toNat<2^c)(h3:1<=c):bl (Na.TP (a++[x]))=32*a.length+c:=by
 have D:=Na.jC a x;have hl:=Na.dU a;have hB:Na.Hw^a.length=2^(32*a.length):=by rw[Nat.pow_mul]; rfl
 rw[hB]at D hl;have e:32*a.length+c=(32*a.length+(c-1))+1:=Z
 rw[e];apply apt
 .rw[D,aFg];have:=aDZ (2^(32*a.length)) J;omega
 rw[D,show 32*a.length+(c-1)+1=32*a.length+c by omega,aFg];have:=aDZ (2^(32*a.length)) (show x.toNat+1<=2^c by omega);rw[aDE]at this;omega
abbrev IB(v:aaT)(l:List UInt32)(w:VO)(D:aG w v l)(J:l.length<=1000000000) :
  abB prog 290 #[v] w λe w'=>e = .R (.i (bl (Na.TP l):Int))∧w=w':=by
 have hd:=dA l;have ea:=Na.NP (Na.TP l);have na:=Na.iq (Na.TP l);have C1:=aC8 (short_any v l w D);clear D;rw[<-ea];generalize Na.Ro (Na.TP l)=a at *;by_cases h0:a.length=0
 .obtain rfl:a=[]:=aEA h0;clear ea;go_enter func290,ntmps290
  go_wp2_with fail
  refine C1.out.mono ?_;rintro e w' ⟨x,rfl,hx,rfl⟩;go_wp2_with fail
  go_ret
  exact⟨I,I⟩
 obtain⟨m,hm⟩:∃m,a.length=m+1:=⟨a.length-1,Z⟩;have D:a[m]'Z≠0:=by
  have:=Na.uP na Z;simpa[hm]using this
 have J:1<=Lib.bitLen (a[m]'Z).toNat∧2^(Lib.bitLen (a[m]'Z).toNat-1)<=(a[m]'Z).toNat∧(a[m]'Z).toNat<2^Lib.bitLen (a[m]'Z).toNat:=
  Lib.bitLenAux_bounds 64 _ (by have:=(a[m]'Z).toNat_lt; omega) (λe=>D (aET.1 (by simpa using e)))
 have S:=ZR (a.take m) (a[m]'Z) D _ J.2.1 J.2.2 J.1;have aa:=Lib.bitLen_le (a[m]'Z).toNat 32 Z (a[m]'Z).toNat_lt;have e1:a.take m++[a[m]'Z]=a:=by
  rw[<-aEj Z,<-hm,aEc]
 rw[e1]at S;have e2:(a.take m).length=m:=by simp; omega
 rw[e2]at S;have HR:=aC8 S;have HM:=aC8 hm;have ab:(m:Int)<=1000000000:=Z
 have ac:=(a[m]'Z).toNat_lt;clear ea na S J D e1 e2;go_enter func290,ntmps290
 go_wp2_with fail
 refine C1.out.mono ?_;rintro e w' ⟨x,rfl,hx,rfl⟩;obtain⟨bx,ox,cx,D,S,ae,af,J⟩:=dP hx I Z;simp only[aDO]at D;obtain⟨rfl,-,-⟩:=D;have D:=J m Z;clear J;have D:((m:Int)+1==0)=false:=by rw[aDH]; omega
 generalize a[m]=c at *;rw[HM.out]at hx |-;go_wp2_with fail
 refine(bits_Len32 (c.toNat:Int) _ Z Z).mono ?_;rintro e w' ⟨rfl,rfl⟩;rw[aEU];go_wp2_with fail
 go_ret
 exact⟨jS (by rw[HR.out]; omega),I⟩
end Go.Proofs.Vy
end
abbrev aD6:=@Go.Vp.rt
abbrev aEw:=@Go.Vp.region
