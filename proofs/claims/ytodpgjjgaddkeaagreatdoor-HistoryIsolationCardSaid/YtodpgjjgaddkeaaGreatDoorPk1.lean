/- Small laws beside the law for -/
import Derived.Test.YtodpgjjgaddkeaaGreatDoorPk0
import Derived.Deep.MidRow
import Derived.Test.YtodpgjjgaddkeaaGreatDoorShelf
import Derived.Lib.ItoaNum
set_option maxHeartbeats 9999999
open Go renaming World->E5,Value->y9,Calls->Nq,Oper->YM,execOp->Í,Operand->î,Act->á,bodyPost->Ĩ
set_option maxRecDepth 100000
set_option linter.unusedVariables false
set_option linter.unusedSimpArgs false
open Go.Proofs.Tryz Go.RowKit Go.Proofs.Õ Go.Rel
section
namespace Go.Rel
variable{P:Program}{o:YM}{ρ:î->y9}{w:E5}
variable{u:y9}{R:E5->E5->Prop}{T:Fact}
abbrev xA(h:(Í ρ o).run P w = .ok (.value u) w)(D:R w w)(J:T (kept o u) w):Does P o ρ w (λv w'=>R w w'∧T (kept o v) w'):=by
 unfold Does; rw[h]; exact⟨D,J⟩
abbrev Hl{w1:E5}(h:(Í ρ o).run P w = .ok (.value u) w1)(D:R w w1)(J:T (kept o u) w1):Does P o ρ w (λv w'=>R w w'∧T (kept o v) w'):=by
 unfold Does; rw[h]; exact⟨D,J⟩
abbrev Et{f:Nat}{args:Array y9}{K:y9->E5->Prop}(h:(Í ρ o).run P w = .ok (.enter f args) w)(D:Nq P f args w (λe w'=>∃v,e = .R v∧K v w')):Does P o ρ w K:=by
 unfold Does; rw[h]; exact D
end Go.Rel
namespace Go.Proofs.Õ
variable{α:Type}
def Bx(w:E5)(b:Nat)(A:Array y9):Prop:=b<w.heap.size∧(∀i,w.cell? ⟨b,i,none⟩=A[i]?)∧(∀i,w.frozen? ⟨b,i,none⟩=false)
abbrev Bx.ext{w w':E5}{b:Nat}{A:Array y9}(h:Bx w b A)(D:Ext w w'):Bx w' b A:=
 ⟨by have:=D.size; have:=h.1; omega,λi=>(D.cell (p:=⟨b,i,none⟩) h.1).trans (h.2.1 i),λi=>(D.frozen (p:=⟨b,i,none⟩) h.1).trans (h.F i)⟩
abbrev Iz(w:E5)(A:Array y9)(t:TypeId):Bx (w.alloc (.cells A t)) w.heap.size A:=⟨by simp,λi=>by simp[go_sem],λi=>by simp[go_sem]⟩
abbrev Bx.ch{w w':E5}{b c:Nat}{A:Array y9}(h:Bx w b A)(J:Ch c w w')(D:b≠c):Bx w' b A:=
 ⟨by have:=J.size; have:=h.1; omega,λi=>(J.cell (p:=⟨b,i,none⟩) h.1 D).trans (h.2.1 i),λi=>(J.frozen (p:=⟨b,i,none⟩) h.1 D).trans (h.F i)⟩
abbrev Ch.setCells{b:Nat}{w w':E5}(h:Ch b w w'):∀(vs:List y9) (o:Nat),Ch b w (w'.setCells b o vs)
 | [],_=>h
 | v::vs,o=>Ch.setCells (h.setCell o v) vs (o+1)
abbrev qE{W w:E5}(h:Ext W w){c:Nat}(D:W.heap.size<=c)(vs:List y9)(o:Nat):Ext W (w.setCells c o vs):=
 (Ch.setCells (Ch.aY h) vs o).below D (Ç _)
abbrev Bx.there{w:E5}{b n:Nat}{A:Array y9}(h:Bx w b A)(hn:A.size=n):w.there b 0 n:=λj D=>by
 rw[Ī,h.2.1,h.F,Array.getElem?_eq_getElem Z]; exact⟨I,I⟩
theorem size_setCells(b:Nat):∀(vs:List y9) (o:Nat) (w:E5),(w.setCells b o vs).heap.size=w.heap.size
 | [],_,_=>rfl
 | v::vs,o,w=>by
  show((w.setCell ⟨b,o,none⟩ v).setCells b (o+1) vs).heap.size=_
  rw[size_setCells b vs (o+1)]; simp
abbrev lJ(b:Nat)(vs:List y9)(o:Nat)(w:E5)(j:Nat)(h:j<o∨o+vs.length<=j):(w.setCells b o vs).cell? ⟨b,j,none⟩=w.cell? ⟨b,j,none⟩:=
 World.cell?_setCells_out b vs o w ⟨b,j,none⟩ (λ_ _=>h)
theorem qm(b:Nat):∀(vs:List y9) (o:Nat) (w:E5) (p:Addr),(w.setCells b o vs).frozen? p=w.frozen? p
 | [],_,_,_=>rfl
 | v::vs,o,w,p=>by
  show((w.setCell ⟨b,o,none⟩ v).setCells b (o+1) vs).frozen? _=_
  rw[qm b vs (o+1)]; simp[go_sem]
abbrev Bx.set{w:E5}{b:Nat}{A:Array y9}(h:Bx w b A)(vs:List y9)(hn:A.size=vs.length):Bx (w.setCells b 0 vs) b vs.toArray:=by
 refine⟨by rw[size_setCells]; exact h.1,λi=>?_,λi=>by rw[qm]; exact h.F i⟩;by_cases hi:i<vs.length
 .have:=World.rangeAt_setCells_same w b 0 vs (h.there hn) i vs[i] (by simp[hi]);rw[Ī]at this;rw[this]; simp[hi]
 rw[lJ b vs 0 w i (.inr Z),h.2.1,Array.getElem?_eq_none Z,Array.getElem?_eq_none (by simp; omega)]
abbrev Bx.range{w:E5}{b:Nat}{A:Array y9}(h:Bx w b A)(o n:Nat){cs:List y9}(J:(A.toList.drop o).take n=cs):w.rangeAt b o cs:=λj v D=>by
 subst J;rw[h.2.1];rw[List.getElem?_take]at D;split at D
 .rw[List.getElem?_drop]at D; simpa using D
 cases D
abbrev Bx.off{f:α->y9}{w:E5}{b:Nat}{A:Array y9}(h:Bx w b A)(hA:∀(i:Nat) (x:α),A[i]?≠some (f x)){s:y9}{l:List α}(hs:dG f w s l):0<l.length->Off b s:=by
 intro J ad n cap e;obtain⟨b',o,c,D,hb,_,_,S⟩:=dO hs I J;rw[D]at e;simp only[Ĉ,Æ]at e;obtain⟨rfl,-,-⟩:=e;intro D;simp only at D;subst D;have D:=S 0 J;rw[h.2.1]at D;exact hA _ _ D
end Go.Proofs.Õ
namespace Go.Rel
variable{P:Program}{o:YM}{ρ:î->y9}{w:E5}
abbrev IB{ty:TypeId}{x:î}{b off:Nat}{A:Array y9}{d:TypeDesc}{v:y9}{R:E5->E5->Prop}{T:Fact}(S:o.op = .load ty x)(hx:ρ x = .q b off)(hb:Bx w b A)
  (hv:A[off]?=some v) (J:P.underlying ty=some d) (hd:d.isRow=false) (D:R w w) (hT:T (kept o v) w):Does P o ρ w (λv w'=>R w w'∧T (kept o v) w'):=by
 refine xA (u:=v) ?_ D hT;have D:(isAgg ty).run P w = .ok false w:=by
  unfold isAgg;rw[ġ,run_underlying J w];cases d<;>simp_all
 have J:w.cell? ⟨b,off,none⟩=some v:=by rw[hb.2.1]; exact hv
 unfold Í;simp only[S,hx,ġ,Instr.loadAt,Instr.sureAddr,ž,ş,loadVar,D];simp[J]
end Go.Rel
namespace Go.Vp
structure St (a:á) (n:Nat) (l:List (Nat×y9)):Prop where
 size:a.tmps.size=n
 defers:a.defers=[]
 has:∀i v,l.lookup i=some v->a.eval (.tmp i)=v
def ev(l:List (Nat×y9)):î->Option y9
 | .tmp i=>l.lookup i
 | .const v=>some v
 | .global g=>some (.q g 0)
 | .func f=>some (.func (.func f) #[] #[])
section
variable{P:Program}{ops:Array YM}{Q:Exit->á->E5->Prop}{a:á}{w:E5}{rest:List YM}{o:YM}{n:Nat}{l:List (Nat×y9)}
theorem St.ev{x:î}{v:y9}(h:St a n l)(D:ev l x=some v):a.eval x=v:=by
 cases x with
 | tmp i=>exact h.has i v D
 | const c=>exact Ò D
 | global g=>exact Ò D
 | func f=>exact Ò D
abbrev St.put(h:St a n l)(d:Nat)(hd:d<n)(v:y9):St (a.put (some d) v) n ((d,v)::l):=by
 refine⟨by rw[uw]; exact h.size,by rw[put_defers]; exact h.defers,λi u D=>?_⟩;rw[ĝ]at D;by_cases hi:i=d
 .subst hi;simp only[Ų]at D;obtain rfl:=Ò D;have J:i<a.tmps.size:=by rw[h.size]; exact hd
  simp[Act.eval,Act.put,J]
 have e:(i==d)=false:=by simpa using hi
 rw[e]at D;rw[lH (pG a (some d) v i (λe=>hi (Ò e).symm))];exact h.has i u D
def ext(l:List (Nat×y9)):Option Tmp->y9->List (Nat×y9)
 | some d,v=>(d,v)::l
 | none,_=>l
abbrev St.auw(h:St a n l)(d:Option Tmp)(hd:∀t,d=some t->t<n)(v:y9):St (a.put d v) n (Vp.ext l d v):=by
 cases d with
 | none=>exact h
 | some t=>exact h.put t (hd t I) v
variable{v:y9}{fn:Func}{R:Ending->E5->Prop}{c:Code}{r:Nat}
abbrev apC{o:YM}{n:Nat}(h:(match o.dst with | some d=>decide (d<n) | none=>true)=true):∀t,o.dst=some t->t<n:=by
 intro t D; rw[D]at h; simpa using h
abbrev abv{ty:TypeId}{b off:Nat}{d:TypeDesc}(J:w.cell? ⟨b,off,none⟩=some v)(S:P.underlying ty=some d)(D:d.isRow=false) :
  (Instr.loadAt ty (.q b off)).run P w = .ok v w:=by
 have D:(isAgg ty).run P w = .ok false w:=by
  unfold isAgg;rw[ġ,run_underlying S w];cases d<;>simp_all
 simp only[ġ,Instr.loadAt,Instr.sureAddr,ž,ş,loadVar,D];simp[J]
class ώ (Q:Exit->á->E5->Prop) (Q':outParam (Exit->á->E5->Prop)):Prop where
 out:∀a w,Q' .ret a w->Q .ret a w
instance apD {fn:Func}{R:Ending->E5->Prop}:ώ (Ĩ P fn R) (Ĩ P fn R):=⟨λ_ _ h=>h⟩
instance apE {Q Q':Exit->á->E5->Prop}{K:á->E5->Prop}[r:ώ Q Q']:ώ (Exit.then K Q) Q':=⟨λa w h=>r.out a w h⟩
instance apy {Q Q':Exit->á->E5->Prop}{id:Nat}[r:ώ Q Q']:ώ (Exit.inBlock id Q) Q':=⟨λa w h=>r.out a w h⟩
abbrev rt{Q Q':Exit->á->E5->Prop}[r:ώ Q Q'](h:Q' .ret a w):Code.ret.wp P Q a w:=wp_ret (r.out a w h)
abbrev enter{f:FuncId}{args:Array y9}(S:P.funcs[f]?=some fn)(hb:fn.body=some c)(D:decide (args.size<=fn.ntmps)=true)
  (h:∀a,St a fn.ntmps ((List.range args.size).zip args.toList)->c.wp P (Ĩ P fn R) a w):Nq P f args w R:=by
 refine calls_of_wp S hb (h _ ⟨?_,I,λi v J=>?_⟩)
 .have:args.size<=fn.ntmps:=by simpa using D
  simp; omega
 have key:∀(l:List y9) (k:Nat),((List.range' k l.length).zip l).lookup i=some v->k<=i∧l[i-k]?=some v:=by
  intro l;induction l with
  | nil=>intro k h; simp at h
  | cons x l ih =>
   intro k h;simp only[Ē,List.range'_succ,List.zip_cons_cons,ĝ]at h;by_cases hik:i=k
   .subst hik; simp at h; simp[h]
   have e:(i==k)=false:=by simpa using hik
   rw[e]at h;obtain⟨S,D⟩:=ih (k+1) h;exact⟨Z,by rw[show i-k=(i-(k+1))+1 by omega,List.getElem?_cons_succ]; exact D⟩
 rw[List.range_eq_range',<-Array.length_toList]at J;obtain⟨-,D⟩:=key args.toList 0 J;simp only[Nat.sub_zero]at D;simp only[Act.eval,Array.getD_eq_getD_getElem?];have J:i<args.size:=by have:=(List.getElem?_eq_some_iff.1 D).1; simpa using this
 rw[Array.getElem?_append_left J];have:args[i]?=some v:=by simpa using D
 rw[this]; rfl
abbrev region{id:Nat}{D:List YM}(h:wpList P D.toArray Q D a w):(Code.region id D.toArray false).wp P Q a w:=wp_region_lit h
abbrev loop{ι:Type}(Ő:ι->á->E5->Prop)(μ:ι->Nat)(i0:ι)(h0:Ő i0 a w)
  (ae:∀i a w,Ő i a w->c.wp P (Exit.then (λa' w'=>∃i',Ő i' a' w'∧μ i'<μ i) Q) a w):(Code.loop c).wp P Q a w:=by
 intro b k cs;have key:∀m i a w,μ i=m->Ő i a w->∃e a' w',Q e a' w'∧Arrives P (lone (b.at a (.code c :: .inLoop c::k)) cs w) b k cs e a' w':=by
  intro m;induction m using Nat.strongRecOn with
  | _ m ih =>
   intro i a w hm hI;obtain⟨e,J,S,hq,D⟩:=ae i a w hI b (.inLoop c::k) cs;cases e with
   | normal =>
    obtain⟨i',ab,af⟩:=hq;obtain⟨e₂,a₂,w₂,ac,aa⟩:=ih (μ i') (hm▸af) i' J S I ab;exact⟨e₂,a₂,w₂,ac,.of_steps (Steps.trans D (.one step_inLoop)) aa⟩
   | exit id=>exact⟨_,J,S,hq,.pass (x := .inLoop c) I (λ_ _ => .inl Y) D⟩
   | goto l=>exact⟨_,J,S,hq,.pass (x := .inLoop c) I (λ_ _ => .inl Y) D⟩
   | ret=>exact⟨_,J,S,hq,.pass (x := .inLoop c) I (λ_ _ => .inl Y) D⟩
   | panic ch=>exact⟨_,J,S,hq,.pass (x := .inLoop c) I (λ_ _ => .inl Y) D⟩
   | outgrown=>exact⟨_,J,S,hq,.pass (x := .inLoop c) I (λ_ _ => .inl Y) D⟩
 obtain⟨e,a',w',hq,D⟩:=key _ i0 a w I h0;exact⟨e,a',w',hq,.of_steps (.one step_loop) D⟩
abbrev aiH(J:St a n l)(S:fn.results = #[.tmp r])(hv:ev l (.tmp r)=some v)(h:R (.R v) w):Ĩ P fn R .ret a w:=by
 refine⟨J.defers,v,?_,h⟩;have D:=J.ev hv;unfold results;rw[S];simp only[Act.eval,Array.getD_eq_getD_getElem?]at D;simp[D]
abbrev aes(D:St a n l){s:Nat}{u:y9}(hr:fn.results = #[.tmp r,.tmp s])(S:ev l (.tmp r)=some v)(hu:ev l (.tmp s)=some u)(h:R (.R (.tuple #[v,u])) w):Ĩ P fn R .ret a w:=by
 refine⟨D.defers,_,?_,h⟩;have J:=D.ev S;have S:=D.ev hu;unfold results;rw[hr];simp only[Act.eval,Array.getD_eq_getD_getElem?]at J S;simp[J,S]
def apF(K:á->Prop)(w:E5)(n:Nat):List YM->List Fact->List (Nat×y9)->Prop
 | o::os,T::Us,l=>∀v,T v w->apF K w n os Us (Vp.ext l o.dst v)
 | _,_,l=>∀a,St a n l->K a
theorem aeu{K:á->Prop}:∀(os:List YM) (D:List Fact) (a:á) (l:List (Nat×y9)),St a n l->(os.all λo=>match o.dst with | some d=>decide (d<n) | none=>true)=true->apF K w n os D l->Go.Rel.End K w os D a
 | [],_,a,l,hs,_,h=>by cases ‹List Fact› <;> exact h a hs
 | _::_,[],a,l,hs,_,h=>h a hs
 | o::os,T::D,a,l,hs,hd,h=>λv J=>by
  rw[ϯ,Û]at hd
  exact aeu os D _ _ (hs.auw o.dst (apC hd.1) v) hd.2 (h v J)
end
end Go.Vp
namespace Na
def NZ:Nat:=4294967296
variable{r b V k M q x E i A d U:Nat}{out:List UInt32}
abbrev kN:0<NZ:=by decide
abbrev SY:1<NZ:=by decide
def TR:List UInt32->Nat
 | []=>0
 | d::l=>d.toNat+NZ*TR l
def norm(l:List UInt32):Prop:=l.getLast?≠some 0
def lK:Nat->Nat->List UInt32
 | 0,_=>[]
 | f+1,n=>if n=0 then []else UInt32.ofNat n::lK f (n/NZ)
def RI(n:Nat):List UInt32:=lK n n
abbrev val_append(l m:List UInt32):TR (l++m)=TR l+NZ^l.length*TR m:=by
 induction l with
 | nil=>simp[TR]
 | cons d l ih=>simp only[Ĵ,TR,ih,Ē,ę,ó]; rw[ĕ (NZ^l.length) NZ,Ĝ]; omega
abbrev dS(l:List UInt32):TR l<NZ^l.length:=by
 induction l with
 | nil=>simp[TR]
 | cons d l ih =>
  have hd:d.toNat<NZ:=d.toNat_lt;simp only[TR,Ē,ę];have:NZ*TR l+NZ<=NZ^l.length*NZ:=by
   rw[ĕ (NZ^l.length)]; rw[<-Ŕ]; exact Ę _ ih
  omega
abbrev NP(n:Nat):TR (List.replicate n 0)=0:=by
 induction n with
 | zero=>rfl
 | succ n ih=>simp[List.replicate_succ,TR,ih]
abbrev uy(f:Nat):∀n,n<=f->TR (lK f n)=n:=by
 induction f with
 | zero=>intro n h; simp[lK,TR]; omega
 | succ f ih =>
  intro n h;unfold lK;split
  .rename_i D; subst D; rfl
  rename_i D;have D:n/NZ<n:=Nat.div_lt_self Z SY;simp only[TR];rw[ih (n/NZ) Z];have:(UInt32.ofNat n).toNat=n%NZ:=by simp[NZ]
  rw[this];exact ř n NZ
abbrev RH(n:Nat):TR (RI n)=n:=uy n n (Ç _)
abbrev AU(f:Nat):∀n,n<=f->norm (lK f n):=by
 induction f with
 | zero=>intro n _; simp[lK,norm]
 | succ f ih =>
  intro n h;unfold lK;split
  .simp[norm]
  rename_i D;have D:n/NZ<n:=Nat.div_lt_self Z SY;have hn:=ih (n/NZ) Z;have D:=uy f (n/NZ) Z;unfold norm at hn |-;generalize lK f (n/NZ)=l at hn D;cases l with
  | nil =>
   simp only[List.getLast?_singleton];intro S;have J:=Ñ UInt32.toNat (Ò S);have S:(UInt32.ofNat n).toNat=n%NZ:=by simp[NZ]
   rw[S]at J;simp[TR]at D;have:=ř n NZ;rw[<-D]at this;simp at J;omega
  | cons a l=>simpa[List.getLast?_cons_cons]using hn
abbrev gZ(n:Nat):norm (RI n):=AU n n (Ç _)
abbrev lV{d:UInt32}{l:List UInt32}(h:norm (d::l)):norm l:=by
 cases l with
 | nil=>simp[norm]
 | cons a l=>unfold norm at h |-; simpa[List.getLast?_cons_cons]using h
abbrev val_eq_zero{l:List UInt32}(h:norm l)(D:TR l=0):l=[]:=by
 induction l with
 | nil=>rfl
 | cons d l ih =>
  simp only[TR]at D;have hl:TR l=0:=by
   rcases ė (TR l)with e | e
   .exact e
   have:0<NZ*TR l:=Ϡ kN e;omega
  have:=ih (lV h) hl;subst this;have hd:d=0:=Ř.1 (by simp; omega);subst hd;exact(h I).elim
abbrev IC{l:List UInt32}:∀{m:List UInt32},norm l->norm m->TR l=TR m->l=m:=by
 induction l with
 | nil=>intro m _ D h; exact(val_eq_zero D h.symm).symm
 | cons d l ih =>
  intro m hl D h;cases m with
  | nil=>exact val_eq_zero hl h
  | cons e m =>
   simp only[TR]at h;have hd:d.toNat<NZ:=d.toNat_lt;have J:e.toNat<NZ:=e.toNat_lt;have S:d.toNat=e.toNat:=by
    have:=Ñ (· % NZ) h;simpa[Ξ hd,Ξ J]using this
   have J:TR l=TR m:=by
    have:NZ*TR l=NZ*TR m:=Z
    exact Nat.eq_of_mul_eq_mul_left kN this
   rw[Ř.1 S,ih (lV hl) (lV D) J]
abbrev IE{l:List UInt32}(h:norm l):RI (TR l)=l:=IC (gZ _) h (RH _)
abbrev jR:RI 0=[]:=rfl
abbrev lM{n:Nat}:RI n=[]↔n=0:=by
 constructor
 .intro h; have:=RH n; rw[h]at this; simpa[TR]using this.symm
 intro h; rw[h]; rfl
abbrev vg{l:List UInt32}(h:0<l.length)(hn:l[l.length-1]≠0):norm l:=by
 unfold norm;rw[List.getLast?_eq_getElem?,List.getElem?_eq_getElem Z];simpa using hn
abbrev vk{l:List UInt32}(h:norm l)(D:0<l.length):l[l.length-1]≠0:=by
 unfold norm at h;rw[List.getLast?_eq_getElem?,List.getElem?_eq_getElem Z]at h;simpa using h
abbrev Eu{l:List UInt32}(h:norm l)(D:0<l.length):NZ^(l.length-1)<=TR l:=by
 induction l with
 | nil=>simp at D
 | cons d l ih =>
  cases l with
  | nil =>
   have:=vk h Y;simp only[TR,Ē,ł];have hd:d.toNat≠0:=λe=>this (Ř.1 (by simpa using e));simp; omega
  | cons a m =>
   have:=ih (lV h) Y;simp only[Ē,Nat.add_sub_cancel]at this |-;have e:TR (d::a::m)=d.toNat+NZ*TR (a::m):=I;rw[e,ę];have:=Ę NZ this;rw[ĕ]at this;omega
abbrev length_le{l:List UInt32}(h:norm l)(D:TR l<NZ^k):l.length<=k:=by
 rcases ĩ k l.length with hk | hk
 .have h1:=Eu h Z;have D:NZ^k<=NZ^(l.length-1):=ķ kN Z;omega
 exact hk
abbrev bJ{n:Nat}(h:n<NZ^k):(RI n).length<=k:=length_le (gZ n) (by rw[RH]; exact h)
abbrev je(l:List UInt32)(k:Nat)(hk:k<=l.length):TR l=TR (l.take k)+NZ^k*TR (l.drop k):=by
 conv=>lhs; rw[<-ň k l]
 rw[val_append]; simp[Nat.min_eq_left hk]
abbrev jv(l:List UInt32)(d:UInt32):TR (l++[d])=TR l+NZ^l.length*d.toNat:=by
 rw[val_append]; simp[TR]
abbrev dD(l:List UInt32)(k:Nat)(h:k<l.length):TR (l.take (k+1))=TR (l.take k)+NZ^k*l[k].toNat:=by
 rw[ĸ h,jv]; simp[Nat.min_eq_left (Nat.le_of_lt h)]
abbrev oG(l:List UInt32)(k:Nat)(h:k<l.length):TR (l.drop k)=l[k].toNat+NZ*TR (l.drop (k+1)):=by
 rw[ń h]; rfl
abbrev lW{l:List UInt32}{n:Nat}(hn:n<=l.length)(D:TR (l.take n)=TR l)(h:n=0∨∃h:n-1<l.length,l[n-1]≠0):RI (TR l)=l.take n:=by
 rw[<-D];apply IE;rcases h with rfl | ⟨J,D⟩
 .simp[norm]
 rcases ė n with rfl | J
 .simp[norm]
 have hl:(l.take n).length=n:=by simp[Nat.min_eq_left hn]
 apply vg Z;simp only[hl];rw[ϟ];exact D
def shr(p:Nat):List UInt32->List UInt32
 | []=>[]
 | d::l=>UInt32.ofNat ((d.toNat+NZ*(l.headD 0).toNat)/2^p)::shr p l
abbrev AV(p:Nat)(l:List UInt32):(shr p l).length=l.length:=by
 induction l with
 | nil=>rfl
 | cons d l ih=>simp[shr,ih]
abbrev Z5(p:Nat)(l:List UInt32):∀(i:Nat) (h:i<l.length),(shr p l)[i]'(by rw[AV]; exact h)=UInt32.ofNat (((l.getD i 0).toNat+NZ*(l.getD (i+1) 0).toNat)/2^p):=by
 induction l with
 | nil=>intro i h; simp at h
 | cons d l ih =>
  intro i h;cases i with
  | zero=>cases l<;>simp[shr]
  | succ i =>
   have:=ih i (by simpa using h);simp only[shr,List.getElem_cons_succ,List.getD_cons_succ];exact this
abbrev NQ(p:Nat)(h:p<=32):NZ=2^p*2^(32-p):=by
 rw[<-Ž,show p+(32-p)=32 by omega]; rfl
abbrev ofNat_toNat(n:Nat):(UInt32.ofNat n).toNat=n%NZ:=by simp[NZ]
abbrev Z7(p:Nat)(h:p<=32)(l:List UInt32):TR (shr p l)=TR l/2^p:=by
 induction l with
 | nil=>simp[shr,TR]
 | cons d l ih =>
  simp only[shr,TR,ih,ofNat_toNat];have J:0<2^p:=œ p;cases l with
  | nil =>
   simp only[List.headD_nil,TR];have hd:d.toNat<NZ:=d.toNat_lt;have:d.toNat/2^p<NZ:=Ϟ (Μ _ _) hd;simp[Nat.mod_eq_of_lt this]
  | cons e m =>
   simp only[List.headD_cons,TR];generalize TR m=V;have S:d.toNat<NZ:=d.toNat_lt;generalize d.toNat=D at S;generalize e.toNat=E;obtain⟨c,hc⟩:∃c,NZ=2^p*c:=⟨_,NQ p h⟩;have e0:NZ*V=2^p*(c*V):=by rw[<-Ĝ,<-hc]
   have e1:D+NZ*(E+NZ*V)=(D+NZ*E)+2^p*(NZ*(c*V)):=by
    rw[ó,e0,ύ NZ (2^p),Ο]
   rw[e1,e0,aGU _ _ J,aGU _ _ J,ó,<-Ο];congr 1;have J:(D+NZ*E)/2^p/NZ=E/2^p:=by
    rw[Nat.div_div_eq_div_mul,ĕ (2^p) NZ,<-Nat.div_div_eq_div_mul];rw[aGU _ _ kN,aGV S,Ī]
   have:=ř ((D+NZ*E)/2^p) NZ;rw[J]at this;exact this
abbrev abw{m P L D0 S J V0 D:Nat}(hP:P=L+NZ^m*(D0+NZ*S+NZ*NZ*J))(hL:L<NZ^m)(hV:V=M+NZ^m*(V0+NZ*D))(hM:M<NZ^m)
  (aa:0<D) (ah:D0<NZ) (hq:q<NZ) (ae:P<NZ*V) (h1:q*(D*NZ+V0)<=(J*NZ+S)*NZ+D0)
  (h2:q=(J*NZ+S)/D∨NZ<=q+1∨(J*NZ+S)*NZ+D0<(q+1)*(D*NZ+V0)):P/V<=q∧q<=P/V+1:=by
 have hE:0<NZ^m:=Ϯ kN;generalize NZ^m=E at *;have hT:D0+NZ*S+NZ*NZ*J=(J*NZ+S)*NZ+D0:=by
  rw[Œ,ĕ S NZ,Ĝ J,ĕ J]; omega
 have hW:V0+NZ*D=D*NZ+V0:=by rw[ĕ NZ]; omega
 rw[hT]at hP;rw[hW]at hV;have ab:0<V:=by
  have:0<E*(D*NZ+V0):=Ϡ hE (by have:=Ϡ aa kN; omega);omega
 constructor
 ·
  rcases h2 with h | h | h
  ·
   have ac:P/V*V<=P:=Nat.div_mul_le_self P V;rw[h];rw[Nat.le_div_iff_mul_le aa];generalize P/V=c at ac;generalize J*NZ+S=T at *;have e1:c*V=c*M+E*(c*D*NZ)+E*(c*V0):=by
    rw[hV,ó,ó E,ó c,ύ c E,ύ c E,<-Ĝ c D NZ]; omega
   have af:P<E*((T+1)*NZ):=by
    have:E*(T*NZ+D0)+E<=E*((T+1)*NZ):=by
     rw[<-Ŕ]; exact Ę _ (by rw[Œ]; omega)
    omega
   have h3:E*(c*D*NZ)<E*((T+1)*NZ):=Z
   have h4:=aHa h3;have h5:=Nat.lt_of_mul_lt_mul_right h4;omega
  .have:P/V<NZ:=ό (by rw[ĕ]; exact ae);omega
  have h3:P<(q+1)*V:=by
   have h4:E*((J*NZ+S)*NZ+D0)+E<=E*((q+1)*(D*NZ+V0)):=by
    rw[<-Ŕ]; exact Ę _ h
   have h5:(q+1)*V=(q+1)*M+E*((q+1)*(D*NZ+V0)):=by rw[hV,ó,ύ]
   generalize (q+1)*V=x1 at *;generalize (q+1)*M=x2 at *;generalize E*((q+1)*(D*NZ+V0))=x3 at *;generalize E*((J*NZ+S)*NZ+D0)=x4 at *;omega
  exact aG2 ((aG3 ab).2 h3)
 
 rcases ė q with rfl | ag
 .exact Î _
 obtain⟨c,rfl⟩:∃c,q=c+1:=⟨q-1,Z⟩;have h3:c*V<=P:=by
  have h4:E*((c+1)*(D*NZ+V0))<=E*((J*NZ+S)*NZ+D0):=Ę _ h1;have h5:(c+1)*V=(c+1)*M+E*((c+1)*(D*NZ+V0)):=by rw[hV,ó,ύ]
  have h6:(c+1)*M<=NZ*E:=ű (Δ hq) (Δ hM);have h7:NZ*E<=V:=by
   rw[hV];have:E*(1*NZ)<=E*(D*NZ+V0):=Ę _ (by have:=ō NZ aa; omega);rw[Nat.one_mul,ĕ]at this; omega
  rw[Nat.succ_mul c V]at h5;generalize c*V=x0 at *;generalize (c+1)*M=x2 at *;generalize E*((c+1)*(D*NZ+V0))=x3 at *;generalize E*((J*NZ+S)*NZ+D0)=x4 at *;generalize NZ*E=x5 at *;omega
 exact Nat.succ_le_succ ((Nat.le_div_iff_mul_le ab).2 h3)
abbrev aev{P:Nat}(neg:Bool)(D:0<V)(J:P/V<=q)(S:q<=P/V+1)(hx:x<E)(h:P+(if neg then E else 0)=x+q*V) :
  (neg=false->x=P%V∧q=P/V)∧(neg=true->1<=q∧q-1=P/V∧x+V=E+P%V):=by
 have hm:=ř P V;have hl:=Ŋ P D;rcases(show q=P/V∨q=P/V+1 from by
  rcases ĩ (P/V) q with h | h
  .exact .inr (Nat.le_antisymm S h)
  exact .inl (Nat.le_antisymm h J))with rfl | rfl
 .rw[ĕ (P/V) V]at h;refine⟨λhn=>?_,λhn=>?_⟩
  .subst hn;simp only[ϝ,if_false,ż]at h;generalize V*(P/V)=y at *;exact⟨Z,I⟩
  subst hn;simp only[if_true]at h;generalize V*(P/V)=y at *;omega
 rw[Nat.succ_mul,ĕ (P/V) V]at h;refine⟨λhn=>?_,λhn=>?_⟩
 .subst hn;simp only[ϝ,if_false,ż]at h;generalize V*(P/V)=y at *;omega
 subst hn;simp only[if_true]at h;refine⟨Nat.succ_le_succ (Î _),I,?_⟩;generalize V*(P/V)=y at *;omega
abbrev aiI(l:List UInt32):∃n,n<=l.length∧TR (l.take n)=TR l∧(n=0∨∃h:n-1<l.length,l[n-1]≠0):=by
 have key:∀k,k<=l.length->TR (l.take k)=TR l->∃n,n<=l.length∧TR (l.take n)=TR l∧(n=0∨∃h:n-1<l.length,l[n-1]≠0):=by
  intro k;induction k with
  | zero=>intro hk D; exact⟨0,hk,D,.inl I⟩
  | succ k ih =>
   intro hk D;by_cases h0:l[k]'Z=0
   .refine ih Z ?_;rw[<-D,dD l k Z,h0]; simp
   exact⟨k+1,hk,D,.inr ⟨by simp; omega,by simpa using h0⟩⟩
 exact key l.length (Ç _) (by rw[ħ])
abbrev Xd(l:List UInt32):Na.RI (TR l)=l.take (RI (TR l)).length∧(RI (TR l)).length<=l.length ∧
  (∀j (h:j<l.length),(RI (TR l)).length<=j->l[j]=0)∧(∀j (h:j<l.length),j+1=(RI (TR l)).length->l[j]≠0):=by
 obtain⟨n,hn,S,ht⟩:=aiI l;have hd:=lW hn S ht;have hl:(RI (TR l)).length=n:=by rw[hd]; simp; omega
 rw[hl];refine⟨hd,hn,λj h J=>?_,λj h J=>?_⟩
 .have h1:=je l j Z;rw[oG l j h]at h1;have D:=je (l.take j) n (by simp; omega);rw[List.take_take,Ε J,S]at D;have J:NZ^j*(l[j].toNat+NZ*TR (l.drop (j+1)))=0:=Z
  rcases Nat.mul_eq_zero.1 J with S | S
  .have:=Ϯ (n:=j) kN; omega
  exact Ř.1 (by simp; omega)
 rcases ht with J | ⟨h1,D⟩
 .omega
 have e:n-1=j:=Z
 simp only[e]at D;exact D
abbrev nJ(l:List UInt32)(j:Nat):TR l=TR (l.take j)+NZ^j*TR (l.drop j):=by
 rcases Nat.le_total j l.length with h | h
 .exact je l j h
 rw[Ď h,Ō h]; simp[TR]
abbrev pI(l:List UInt32)(j:Nat):TR (l.drop j)=(l.getD j 0).toNat+NZ*TR (l.drop (j+1)):=by
 rcases ĩ j l.length with h | h
 .rw[oG l j h]; simp[List.getD,List.getElem?_eq_getElem h]
 rw[Ō h,Ō Z]; simp[TR,List.getD,List.getElem?_eq_none h]
abbrev xB(l:List UInt32)(j:Nat):TR (l.take j)<NZ^j:=
 ö (dS _) (ķ kN (List.length_take_le _ _))
abbrev jS(l:List UInt32)(j:Nat):TR (l.take (j+1))=TR (l.take j)+NZ^j*(l.getD j 0).toNat:=by
 rcases ĩ j l.length with h | h
 .rw[dD l j h]; simp[List.getD,List.getElem?_eq_getElem h]
 rw[Ď Z,Ď h]; simp[List.getD,List.getElem?_eq_none h]
abbrev vw{l:List UInt32}{j:Nat}(h:TR l<NZ^j):TR (l.take j)=TR l:=by
 have J:=nJ l j;rcases ė (TR (l.drop j))with D | D
 .rw[D]at J; omega
 have:NZ^j*1<=NZ^j*TR (l.drop j):=Ę _ D;omega
abbrev aew{l m:List UInt32}{j:Nat}(S:TR (l.drop (j+1))=TR (m.drop (j+1)))(h:(l.getD j 0).toNat<(m.getD j 0).toNat):TR l<TR m:=by
 have D:=nJ l j;have J:=nJ m j;rw[pI l j]at D;rw[pI m j,<-S]at J;have D:=xB l j;have D:=xB m j;have D:NZ^j*((l.getD j 0).toNat+1+NZ*TR (l.drop (j+1)))<=NZ^j*((m.getD j 0).toNat+NZ*TR (l.drop (j+1))):=Ę _ Z;rw[show(l.getD j 0).toNat+1+NZ*TR (l.drop (j+1))=(l.getD j 0).toNat+NZ*TR (l.drop (j+1))+1 by omega,Ŕ]at D;omega
abbrev apG{l m:List UInt32}{j:Nat}(D:TR (l.drop (j+1))=TR (m.drop (j+1)))(h:(l.getD j 0).toNat=(m.getD j 0).toNat):TR (l.drop j)=TR (m.drop j):=by
 rw[pI l j,pI m j,D,h]
abbrev dg(n:Nat):(UInt32.ofNat n).toNat=n%NZ:=by simp[NZ]
abbrev step_up{c n t:Nat}(hl:out.length=i)(h:TR out+NZ^i*c=A)(hn:n=t+c):TR (out++[UInt32.ofNat n])+NZ^(i+1)*(n/NZ)=A+NZ^i*t:=by
 rw[jv,hl,dg,<-h,hn,ę,Ĝ];have:=ř (t+c) NZ;have D:NZ^i*((t+c)%NZ)+NZ^i*(NZ*((t+c)/NZ))=NZ^i*t+NZ^i*c:=by rw[<-ó,this,ó]
 omega
abbrev abx{C J D n y:Nat}(hl:out.length=i)(h:A+NZ^i*J=TR out+C)(hn:x+NZ*D=n%NZ+y+J) :
  A+NZ^i*x+NZ^(i+1)*D=TR (out++[UInt32.ofNat n])+(C+NZ^i*y):=by
 rw[jv,hl,dg,ę,Ĝ];have S:NZ^i*x+NZ^i*(NZ*D)=NZ^i*(n%NZ)+NZ^i*y+NZ^i*J:=by rw[<-ó,hn,ó,ó]
 omega
abbrev alZ{T Lr:Nat}(S:r=Lr+E*T)(J:Lr<E)(hb:b=M+E*V)(D:0<V):r/b<=T/V:=by
 have J:0<E:=Z
 have J:0<b:=by have:E*1<=E*V:=Ę _ D; omega
 rw[Nat.le_div_iff_mul_le D];have D:r/b*b<=r:=Nat.div_mul_le_self r b;have D:r/b*(E*V)<=r/b*b:=Ę _ Z;have D:E*(r/b*V)=r/b*(E*V):=by rw[ύ]
 have D:E*(r/b*V)<E*(T+1):=by rw[Ŕ]; omega
 exact aG2 (aHa D)
abbrev Xf{l m:List UInt32}{n:Nat}(D:m.length=n+1)(ht:0<(m.getD n 0).toNat)(aa:TR l<NZ*TR m) :
  TR l/TR m<=((l.getD (n+1) 0).toNat*4294967296+(l.getD n 0).toNat)/(m.getD n 0).toNat∧TR l/TR m<=4294967295∧0<TR m:=by
 have S:=nJ m n;rw[pI m n,Ō Z]at S;simp only[TR,Nat.mul_zero,ż]at S;have J:=dS m;rw[D]at J;have D:0<TR m:=by
  have:=Ϡ (Ϯ (n:=n) kN) ht;omega
 have h2:=nJ l n;rw[pI l n,pI l (n+1)]at h2;have h3:TR (l.drop (n+1+1))=0:=by
  rcases ė (TR (l.drop (n+1+1)))with h | h
  .exact h
  have h4:=nJ l (n+1+1);have h5:NZ^(n+1+1)*1<=NZ^(n+1+1)*TR (l.drop (n+1+1)):=Ę _ h;have h6:NZ*TR m<NZ*NZ^(n+1):=aHb J kN;have J:NZ^(n+1+1)=NZ*NZ^(n+1):=by rw[ę,ĕ]
  omega
 rw[h3]at h2;refine⟨?_,?_,D⟩
 .refine alZ (Lr:=TR (l.take n)) (M:=TR (m.take n)) (E:=NZ^n) ?_ (xB l n) S ht;rw[h2];have:NZ=4294967296:=I;rw[this];congr 2;omega
 have:TR l/TR m<NZ:=by rw[aG3 D]; exact aa
 exact aG2 this
abbrev Xg(J:r/b<=d)(h:b*d<=r)(S:0<b):d=r/b∧r-b*d=r%b:=by
 have D:d<=r/b:=(Nat.le_div_iff_mul_le S).2 (by rw[ĕ]; exact h);have e:d=r/b:=Nat.le_antisymm D J;subst e;have:=ř r b;exact⟨I,Z⟩
abbrev aby(D:r/b<=d)(h:r<b*d)(J:0<b):1<=d∧r/b<=d-1∧b*d-b=b*(d-1)∧b<=b*d:=by
 have D:r/b<d:=by rw[aG3 J,ĕ]; exact h
 have J:0<d:=Ϟ (Î _) D;obtain⟨k,rfl⟩:∃k,d=k+1:=⟨d-1,Z⟩;refine⟨Z,aG2 D,?_,?_⟩
 .rw[Ŕ]; simp
 rw[Ŕ]; omega
abbrev abz{Q u:Nat}(D:0<b)(J:r<b)(S:u<NZ)(h:Q*b+r=U) :
  ((u+NZ*r)/b+NZ*Q)*b+(u+NZ*r)%b=u+NZ*U∧(u+NZ*r)/b<NZ∧(u+NZ*r)%b<b:=by
 refine⟨?_,?_,Ŋ _ D⟩
 .have:=ř (u+NZ*r) b;rw[Œ,<-h,ó,ĕ ((u+NZ*r)/b) b,Ĝ];omega
 rw[aG3 D];have:NZ*(r+1)<=NZ*b:=Ę _ J;rw[Ŕ]at this;omega
abbrev aey{Q:Nat}(h:Q*b+r=U)(D:r<b):Q=U/b∧r=U%b:=by
 have J:0<b:=Z
 subst h;rw[Ν,ĕ,aGU _ _ J,aGV D,Nat.add_mul_mod_self_left,Ξ D];omega
end Na
namespace Nb
def B:Nat:=256
abbrev kN:0<B:=by decide
abbrev SY:1<B:=by decide
def val:List UInt8->Nat
 | []=>0
 | d::l=>d.toNat+B*val l
def norm(l:List UInt8):Prop:=l.getLast?≠some 0
def lK:Nat->Nat->List UInt8
 | 0,_=>[]
 | f+1,n=>if n=0 then []else UInt8.ofNat n::lK f (n/B)
def au(n:Nat):List UInt8:=lK n n
abbrev val_append(l m:List UInt8):val (l++m)=val l+B^l.length*val m:=by
 induction l with
 | nil=>simp[val]
 | cons d l ih=>simp only[Ĵ,val,ih,Ē,ę,ó]; rw[ĕ (B^l.length) B,Ĝ]; omega
abbrev dS(l:List UInt8):val l<B^l.length:=by
 induction l with
 | nil=>simp[val]
 | cons d l ih =>
  have hd:d.toNat<B:=d.toNat_lt;simp only[val,Ē,ę];have:B*val l+B<=B^l.length*B:=by
   rw[ĕ (B^l.length)]; rw[<-Ŕ]; exact Ę _ ih
  omega
abbrev uy(f:Nat):∀n,n<=f->val (lK f n)=n:=by
 induction f with
 | zero=>intro n h; simp[lK,val]; omega
 | succ f ih =>
  intro n h;unfold lK;split
  .rename_i D; subst D; rfl
  rename_i D;have D:n/B<n:=Nat.div_lt_self Z SY;simp only[val];rw[ih (n/B) Z];have:(UInt8.ofNat n).toNat=n%B:=by simp[B]
  rw[this];exact ř n B
abbrev aF(n:Nat):val (au n)=n:=uy n n (Ç _)
abbrev AU(f:Nat):∀n,n<=f->norm (lK f n):=by
 induction f with
 | zero=>intro n _; simp[lK,norm]
 | succ f ih =>
  intro n h;unfold lK;split
  .simp[norm]
  rename_i D;have D:n/B<n:=Nat.div_lt_self Z SY;have hn:=ih (n/B) Z;have D:=uy f (n/B) Z;unfold norm at hn |-;generalize lK f (n/B)=l at hn D;cases l with
  | nil =>
   simp only[List.getLast?_singleton];intro S;have J:=Ñ UInt8.toNat (Ò S);have S:(UInt8.ofNat n).toNat=n%B:=by simp[B]
   rw[S]at J;simp[val]at D;have:=ř n B;rw[<-D]at this;simp at J;omega
  | cons a l=>simpa[List.getLast?_cons_cons]using hn
abbrev gZ(n:Nat):norm (au n):=AU n n (Ç _)
abbrev lV{d:UInt8}{l:List UInt8}(h:norm (d::l)):norm l:=by
 cases l with
 | nil=>simp[norm]
 | cons a l=>unfold norm at h |-; simpa[List.getLast?_cons_cons]using h
abbrev val_eq_zero{l:List UInt8}(h:norm l)(D:val l=0):l=[]:=by
 induction l with
 | nil=>rfl
 | cons d l ih =>
  simp only[val]at D;have hl:val l=0:=by
   rcases ė (val l)with e | e
   .exact e
   have:0<B*val l:=Ϡ kN e;omega
  have:=ih (lV h) hl;subst this;have hd:d=0:=ϋ.1 (by simp; omega);subst hd;exact(h I).elim
abbrev IC{l:List UInt8}:∀{m:List UInt8},norm l->norm m->val l=val m->l=m:=by
 induction l with
 | nil=>intro m _ D h; exact(val_eq_zero D h.symm).symm
 | cons d l ih =>
  intro m hl D h;cases m with
  | nil=>exact val_eq_zero hl h
  | cons e m =>
   simp only[val]at h;have hd:d.toNat<B:=d.toNat_lt;have J:e.toNat<B:=e.toNat_lt;have S:d.toNat=e.toNat:=by
    have:=Ñ (· % B) h;simpa[Ξ hd,Ξ J]using this
   have J:val l=val m:=by
    have:B*val l=B*val m:=Z
    exact Nat.eq_of_mul_eq_mul_left kN this
   rw[ϋ.1 S,ih (lV hl) (lV D) J]
abbrev IE{l:List UInt8}(h:norm l):au (val l)=l:=IC (gZ _) h (aF _)
abbrev vg{l:List UInt8}(h:0<l.length)(hn:l[l.length-1]≠0):norm l:=by
 unfold norm;rw[List.getLast?_eq_getElem?,List.getElem?_eq_getElem Z];simpa using hn
abbrev vk{l:List UInt8}(h:norm l)(D:0<l.length):l[l.length-1]≠0:=by
 unfold norm at h;rw[List.getLast?_eq_getElem?,List.getElem?_eq_getElem Z]at h;simpa using h
abbrev Eu{l:List UInt8}(h:norm l)(D:0<l.length):B^(l.length-1)<=val l:=by
 induction l with
 | nil=>simp at D
 | cons d l ih =>
  cases l with
  | nil =>
   have:=vk h Y;simp only[val,Ē,ł];have hd:d.toNat≠0:=λe=>this (ϋ.1 (by simpa using e));simp; omega
  | cons a m =>
   have:=ih (lV h) Y;simp only[Ē,Nat.add_sub_cancel]at this |-;have e:val (d::a::m)=d.toNat+B*val (a::m):=I;rw[e,ę];have:=Ę B this;rw[ĕ]at this;omega
abbrev length_le{l:List UInt8}{k:Nat}(h:norm l)(D:val l<B^k):l.length<=k:=by
 rcases ĩ k l.length with hk | hk
 .have h1:=Eu h Z;have D:B^k<=B^(l.length-1):=ķ kN Z;omega
 exact hk
abbrev bJ{n k:Nat}(h:n<B^k):(au n).length<=k:=length_le (gZ n) (by rw[aF]; exact h)
abbrev jv(l:List UInt8)(d:UInt8):val (l++[d])=val l+B^l.length*d.toNat:=by
 rw[val_append]; simp[val]
abbrev dD(l:List UInt8)(k:Nat)(h:k<l.length):val (l.take (k+1))=val (l.take k)+B^k*l[k].toNat:=by
 rw[ĸ h,jv]; simp[Nat.min_eq_left (Nat.le_of_lt h)]
abbrev lW{l:List UInt8}{n:Nat}(hn:n<=l.length)(D:val (l.take n)=val l)(h:n=0∨∃h:n-1<l.length,l[n-1]≠0):au (val l)=l.take n:=by
 rw[<-D];apply IE;rcases h with rfl | ⟨J,D⟩
 .simp[norm]
 rcases ė n with rfl | J
 .simp[norm]
 have hl:(l.take n).length=n:=by simp[Nat.min_eq_left hn]
 apply vg Z;simp only[hl];rw[ϟ];exact D
def le4(d:UInt32):List UInt8:=[d.toUInt8,(d>>>8).toUInt8,(d>>>16).toUInt8,(d>>>24).toUInt8]
def bytes(l:List UInt32):List UInt8:=l.flatMap le4
abbrev aiJ(d:UInt32):val (le4 d)=d.toNat:=by
 have:=d.toNat_lt;simp[le4,val,B,UInt32.toNat_shiftRight,Nat.shiftRight_eq_div_pow];omega
abbrev abA(l:List UInt32):(bytes l).length=4*l.length:=by
 induction l with
 | nil=>rfl
 | cons d l ih=>unfold bytes at ih |-; rw[Ķ,Å,ih]; simp[le4]; omega
abbrev abB(l:List UInt32):val (bytes l)=Na.TR l:=by
 induction l with
 | nil=>rfl
 | cons d l ih =>
  unfold bytes at ih |-;rw[Ķ,val_append,ih,aiJ];have D:(le4 d).length=4:=I;have:B^(le4 d).length=Na.NZ:=by rw[D]; simp[B,Na.NZ]
  rw[this]; rfl
abbrev Xh(l:List UInt32)(d:UInt32):bytes (l++[d])=bytes l++le4 d:=by simp[bytes]
end Nb
namespace Go.Proofs.Õ
abbrev mD:fM prog 22 119 (.int .u32 0) 1 4:=⟨underlying22,info_parts X,I,by decide⟩
abbrev AX:fM prog 53 5 (.u 0) 1 1:=⟨underlying53,info_parts X,I,by decide⟩
variable{α:Type}
abbrev IG(l:List UInt32)(k:Nat)(hk:k<l.length)(D:Na.TR (l.take (k+1))=Na.TR l)(h:l[k]=0):Na.TR (l.take k)=Na.TR l:=by
 rw[<-D,Na.dD l k hk,h]; simp
abbrev short_any(v:y9)(l:List UInt32)(w:E5)(S:aH w v l) :
  Nq prog 318 #[v] w λe w'=>∃a,e = .R (.s a (Na.RI (Na.TR l)).length (Na.RI (Na.TR l)).length) ∧
   aH w (.s a (Na.RI (Na.TR l)).length (Na.RI (Na.TR l)).length) (Na.RI (Na.TR l))∧w=w':=by
 have J:=FU S;obtain⟨a,cap,rfl,hm,D⟩:=S;have hl:=rZ hm D;have S:l.length<=cap:=by
  rcases D with ⟨rfl,_⟩ | ⟨_,_,_,_,h,_⟩
  .simp
  exact h
 have HA:=FU D;clear D;unfold maxLen at hm;go_enter func318,ntmps318
 go_wp2
 go_loop [3] (λi=>∃k:Nat,k<=l.length∧i = .i k∧Na.TR (l.take k)=Na.TR l) (λi=>(intOf i).toNat)
 case atStart=>exact⟨l.length,Ç _,I,by rw[ħ]⟩
 case round =>
  obtain⟨k,hk,rfl,D⟩:=hrel;have S:=FU D;clear D;by_cases h0:k=0
  .subst h0;go_wp2
   go_ret
   have D:Na.RI (Na.TR l)=l.take 0:=Na.lW Z S.out (.inl I);have hr:=Hf (cap':=0) (n:=0) J.out Z Z (by unfold maxLen; omega) (λ_=>I);refine⟨a,by rw[D]; rfl,by rw[D]; exact hr,I⟩
  obtain⟨j,rfl⟩:∃j,k=j+1:=⟨k-1,Z⟩;rcases HA.out with ⟨rfl,_⟩ | ⟨b,o,rfl,hb,ae,hc⟩
  .simp at hk
  have aa:=hc j Z;have ab:j<l.length:=Z
  clear hc;by_cases hz:l[j]=0
  .have HE:=FU (IG l j ab S.out hz);rw[hz]at aa;go_wp2
   go_round
   case rel=>exact⟨j,Z,by go_num,HE.out⟩
   case measure=>simp[intOf]
  have ac:((l[j].toNat:Int)==0)=false:=by
   rw[õ]; intro e; exact hz (Ř.1 (by simp; omega))
  have HZ:=FU hz;clear hz;go_wp2
  go_ret
  have D:Na.RI (Na.TR l)=l.take (j+1):=Na.lW Z S.out (.inr ⟨Z,HZ.out⟩);have hr:=Hf (cap':=j+1) (n:=j+1) J.out Z Z (by unfold maxLen; omega) (λh=>by cases h);have e:(l.take (j+1)).length=j+1:=by simp; omega
  refine⟨_,by rw[D,e]; rfl,by rw[D,e]; exact hr,I⟩
abbrev Z8(v:y9)(l:List UInt32)(w:E5)(D:aH w v l)(J:l.length<=1000000000) :
  Nq prog 200 #[v] w λe w'=>∃v',e = .R v'∧w'.ownsRow w.heap.size 119 1 v' l.length (l.map bn)∧Ext w w':=by
 have J:=D.raw (λ_=>I);obtain⟨a,cap,rfl,S,ha⟩:=D;rcases a with _ | ad
 .have hz:l=[]∧cap=0:=by
   rcases ha with ⟨h,D⟩ | ⟨b,o,h,_⟩
   .exact⟨h,D I⟩
   cases h
  obtain⟨rfl,rfl⟩:=hz;have D:=Lib.run_eql_slice_nil (P:=prog) w 22 119 none 0 0 0 0 underlying22;clear ha J;go_enter func200,ntmps200
  go_wp2
  go_ret
  exact⟨_,I,ϭ _ _ _ _,ø _ _⟩
 have D:=Lib.run_eql_slice_nil (P:=prog) w 22 119 (some ad) l.length cap 0 0 underlying22;have D:=ϊ (base:=w.heap.size) (e:=119) (size:=1) w #[] 0 (Ç _) (Î _) I;have J:=Ep J (.cells #[] 119);have S:0+l.length<=maxLen:=by unfold maxLen; omega
 have aa:(0+l.length)*4<=140737488355328:=Z
 clear ha;go_enter func200,ntmps200
 go_wp2_with (at_builtin; refine bV I _ _ _ I mD w.heap.size D I J I S aa Y ?_; intro v' w' D J)
 go_ret
 simp only[Ī,Ģ]at D;exact⟨_,I,by simpa using D,((ø _ _).alloc (Ç _) _).grown J Y (by simp[Value.ownBlock])⟩
abbrev dB(l:List UInt32):(Na.RI (Na.TR l)).length<=l.length:=Na.bJ (Na.dS l)
abbrev pV(v:y9)(l:List UInt32)(w:E5)(J:aH w v l)(D:l.length<=1000000000) :
  Nq prog 313 #[v] w λe w'=>∃D,e = .R D ∧
   w'.ownsRow w.heap.size 119 1 D (Na.RI (Na.TR l)).length ((Na.RI (Na.TR l)).map bn)∧Ext w w':=by
 have hd:=dB l;have S:=FU J;clear J;go_enter func313,ntmps313
 go_wp2_with fail
 refine(short_any _ _ _ S.out).mono ?_;rintro e w' ⟨a,rfl,J,rfl⟩;generalize hx:Na.RI (Na.TR l)=m at hd J;have S:=FU hx;clear hx;go_wp2_with fail
 refine(Z8 _ _ _ J Z).mono ?_;rintro e w' ⟨D,rfl,J,hb⟩;have D:=FU J;clear J;go_wp2_with fail
 go_ret
 exact⟨_,I,by rw[S.out]; exact D.out,hb⟩
abbrev ig(d:UInt32):IntKind.u64.wrap (d.toNat:Int)=(d.toNat:Int):=by
 have:=d.toNat_lt; rw[ŏ]; omega
abbrev S9(x:UInt64):Na.TR [x.toUInt32,(x>>>32).toUInt32]=x.toNat:=by
 have:=x.toNat_lt;simp[Na.TR,Na.NZ,UInt64.toNat_shiftRight,Nat.shiftRight_eq_div_pow];omega
abbrev yU(x:UInt64):(x.toNat:Int)%(4294967296:Int)=(x.toUInt32.toNat:Int):=by simp
abbrev PY(x:UInt64):(x.toNat:Int)/(4294967296:Int)=((x>>>32).toNat:Int):=by
 rw[UInt64.toNat_shiftRight]; simp[Nat.shiftRight_eq_div_pow]
abbrev qY(x:UInt64)(w:E5) :
  Nq prog 294 #[aiy x] w λe w'=>∃S,e = .R S ∧
   w'.ownsRow w.heap.size 119 1 S (Na.RI x.toNat).length ((Na.RI x.toNat).map bn)∧Ext w w':=by
 have hr:aH (w.alloc (.cells #[bn x.toUInt32,bn (x>>>32).toUInt32] 119)) (.s (some ⟨w.heap.size,0,none⟩) 2 2) [x.toUInt32,(x>>>32).toUInt32]:=
  PW w [x.toUInt32,(x>>>32).toUInt32] _ (by unfold maxLen; simp)
 have D:=aI w (.cells #[bn x.toUInt32,bn (x>>>32).toUInt32] 119);have J:=pV _ _ _ hr Y;rw[S9]at J;have HC:=FU J;clear J;go_enter func294,ntmps294
 go_wp2_with fail
 rw[yU,PY,yU];refine HC.out.mono ?_;rintro e w' ⟨S,rfl,J,hb⟩;have S:=FU (bF J D.size);clear J HC;go_wp2_with fail
 go_ret
 exact⟨_,I,S.out,Ip D hb⟩
abbrev qM(v:y9)(l:List UInt32)(i:Nat)(w:E5)(S:aH w v l)(D:i<=4000000000) :
  Nq prog 332 #[v,.i i] w λe w'=>e = .R (.int .u64 ((l.getD i 0).toNat:Int))∧w=w':=by
 obtain⟨a,cap,rfl,J,D⟩:=S;have hl:=rZ J D;have J:=FU D;clear D;by_cases hlt:i<l.length
 .rcases J.out with ⟨rfl,_⟩ | ⟨b,o,rfl,hb,hlc,hc⟩
  .simp at hlt
  have D:=hc i hlt;clear hc;have e:l.getD i 0=l[i]:=by simp[List.getD,List.getElem?_eq_getElem hlt]
  rw[e];go_enter func332,ntmps332
  go_wp2
  go_ret
  exact⟨jO (ig _),I⟩
 have e:l.getD i 0=0:=by simp[List.getD,List.getElem?_eq_none (Nat.le_of_not_lt hlt)]
 rw[e];go_enter func332,ntmps332
 go_wp2
 go_ret
 exact⟨I,I⟩
def rV(a b:Nat):Int:=if a<b then -1 else if b<a then 1 else 0
abbrev aiK(a b:List UInt32)(h:a.length=b.length)(k:Nat)(hk:k<a.length)(S:a.drop (k+1)=b.drop (k+1)) :
  (a[k]<b[k]'Z->Na.TR a<Na.TR b)∧(b[k]'Z<a[k]->Na.TR b<Na.TR a):=by
 have D:=Na.je a k Z;have J:=Na.je b k Z;rw[Na.oG a k hk]at D;rw[Na.oG b k Z,<-S]at J;have D:=Na.dS (a.take k);have lb:=Na.dS (b.take k);have ea:(a.take k).length=k:=by simp; omega
 have J:(b.take k).length=k:=by simp; omega
 rw[ea]at D;rw[J]at lb;have key:∀x y z:Nat,x<y->Na.NZ^k*(x+Na.NZ*z)+Na.NZ^k<=Na.NZ^k*(y+Na.NZ*z):=by
  intro x y z D;rw[<-Ŕ];exact Ę _ Z
 constructor
 .intro D;have:=key _ _ (Na.TR (a.drop (k+1))) (UInt32.lt_iff_toNat_lt.1 D);omega
 intro D;have:=key _ _ (Na.TR (a.drop (k+1))) (UInt32.lt_iff_toNat_lt.1 D);omega
abbrev Z9{a b:List UInt32}(J:Na.norm a)(D:Na.norm b)(h:a.length<b.length):Na.TR a<Na.TR b:=by
 have J:=Na.dS a;have J:=Na.Eu D Z;have D:Na.NZ^a.length<=Na.NZ^(b.length-1):=ķ Na.kN Z;omega
abbrev CW{a b:Nat}(h:a<b):rV a b = -1:=by unfold rV; rw[Á h]
abbrev Ho{a b:Nat}(h:b<a):rV a b=1:=by unfold rV; rw[UQ Z,Á h]
abbrev aac{a b:Nat}(h:a=b):rV a b=0:=by unfold rV; rw[UQ Z,UQ Z]
abbrev CX(v u:y9)(l m:List UInt32)(w:E5)(D:aH w v l)(J:aH w u m) :
  Nq prog 320 #[v,u] w (Ï w (.i (rV (Na.TR l) (Na.TR m)))):=by
 have na:=Na.gZ (Na.TR l);have nb:=Na.gZ (Na.TR m);have ea:=Na.RH (Na.TR l);have S:=Na.RH (Na.TR m);have hll:(Na.RI (Na.TR l)).length<=maxLen:=ä (dB l) D.len;have al:(Na.RI (Na.TR m)).length<=maxLen:=ä (dB m) J.len;have H1:=FU D;have H2:=FU J;have C1:=FU (short_any v l w D);have C2:=FU (short_any u m w J);clear D J;unfold maxLen at hll al;rw[<-ea,<-S];generalize Na.RI (Na.TR l)=a at *;generalize Na.RI (Na.TR m)=b at *;have D:=FU ea;have D:=FU S;have NA:=FU na;have NB:=FU nb;clear ea S na nb;go_enter func320,ntmps320
 go_wp2_with fail
 refine C1.out.mono ?_;rintro e w' ⟨x,rfl,hx,rfl⟩;go_wp2_with fail
 refine C2.out.mono ?_;rintro e w' ⟨y,rfl,hy,rfl⟩;clear C1 C2 H1 H2;rcases aGW a.length b.length with S | D | ap
 .have ae:((a.length:Int) != (b.length:Int))=true:=by rw[bne_iff_ne]; omega
  have J:=FU (CW (Z9 NA.out NB.out S));go_wp2_with fail
  go_ret
  exact⟨by rw[J.out]; rfl,ø _ _⟩
 .have ae:((a.length:Int) != (b.length:Int))=false:=by rw[bne_eq_false_iff_eq]; omega
  have HQ:=FU D;clear D;go_wp2_with fail
  rw[HQ.out]at hx |-;rw[HQ.out]at hll;go_loopw [5] (λi wr=>∃k:Nat,k<=b.length∧i = .i ((k:Int)-1)∧a.drop k=b.drop k∧Ext w wr) (λi _=>(intOf i+1).toNat)
  case atStart=>exact⟨b.length,Ç _,I,by rw[List.drop_length,<-HQ.out,List.drop_length],ø _ _⟩
  case round =>
   obtain⟨k,hk,rfl,hd,D⟩:=hrel;have HD:=FU hd;clear hd;cases k with
   | zero =>
    have J:=FU (aac (Ñ Na.TR (show a=b from HD.out)));go_wp2_with fail
    go_ret
    exact⟨by rw[J.out]; rfl,D⟩
   | succ j =>
    have S:(((j+1:Nat):Int)-1)=(j:Int):=Z
    rw[S];obtain⟨bx,ox,cx,S,an,aq,ar,af⟩:=dO hx HQ.out Z;obtain⟨ag,oy,cy,ah,ao,av,aw,ai⟩:=dO hy I Z;simp only[Ĉ]at S ah;obtain⟨rfl,-,-⟩:=S;obtain⟨rfl,-,-⟩:=ah;have aa:j<a.length:=by rw[HQ.out]; omega
    have c1:wr.cell? ⟨bx,ox+j,none⟩=some (bn a[j]):=by rw[D.cell (p:=⟨bx,ox+j,none⟩) an]; exact af j aa
    have c2:wr.cell? ⟨ag,oy+j,none⟩=some (bn b[j]):=by rw[D.cell (p:=⟨ag,oy+j,none⟩) ao]; exact ai j Z
    clear af ai;have S:(0:Int)<=j:=Z
    have S:(j:Int)<b.length:=Z
    have S:=FU (aiK a b HQ.out j aa HD.out);have ab:Hid (a[j]=b[j]->a.drop j=b.drop j):=λe=>by
     rw[ń aa,ń (show j<b.length by omega),e,HD.out]
    rcases aGW a[j].toNat b[j].toNat with h1 | h1 | h1
    .have J:=FU (CW (S.out.1 (UInt32.lt_iff_toNat_lt.2 h1)));have ac:(a[j].toNat:Int)<b[j].toNat:=Z
     go_wp2_with fail
     go_quiet (fail)
     go_wp2_with fail
     go_ret
     exact⟨by rw[J.out]; rfl,below_drewN D _⟩
    .have ac:¬(a[j].toNat:Int)<b[j].toNat:=Z
     have am:¬(b[j].toNat:Int)<a[j].toNat:=Z
     have HE:=FU h1;clear h1;go_wp2_with fail
     go_quiet (fail)
     go_wp2_with fail
     go_quiet (fail)
     go_wp2_with fail
     go_roundw
     case rel=>exact⟨j,Z,I,ab.out (Ř.1 HE.out),below_drewN D _⟩
     case measure=>simp[intOf]
    have J:=FU (Ho (S.out.2 (UInt32.lt_iff_toNat_lt.2 h1)));have ac:¬(a[j].toNat:Int)<b[j].toNat:=Z
    have am:(b[j].toNat:Int)<a[j].toNat:=Z
    go_wp2_with fail
    go_quiet (fail)
    go_wp2_with fail
    go_quiet (fail)
    go_wp2_with fail
    go_ret
    exact⟨by rw[J.out]; rfl,below_drewN (below_drewN D _) _⟩
 have ae:((a.length:Int) != (b.length:Int))=true:=by rw[bne_iff_ne]; omega
 have J:=FU (Ho (Z9 NB.out NA.out ap));go_wp2_with fail
 go_ret
 exact⟨by rw[J.out]; rfl,ø _ _⟩
variable{α:Type}
abbrev aiL(r:Nat)(x:UInt32)(h:r<4294967296):bits .or .u64 ((r:Int)*4294967296) (IntKind.u64.wrap (x.toNat:Int))=((r*4294967296+x.toNat:Nat):Int):=by
 have D:=x.toNat_lt;rw[ig];have e:((r:Int)*4294967296)=((r*4294967296:Nat):Int):=by simp
 rw[e,u64_or_nat _ _ Z Z,nat_join 32 _ _ Z Z]
abbrev Tc(a b:Nat):(a:Int).tdiv (b:Int)=((a/b:Nat):Int):=by
 rw[Int.tdiv_eq_ediv_of_nonneg (Int.natCast_nonneg _)]; rfl
abbrev dn{n:Nat}(h:n<4294967296):(UInt32.ofNat n).toNat=n:=by simp; omega
abbrev abC(N d:Nat)(hd:0<d)(D:d<4294967296)(h:N<d*4294967296) :
  IntKind.u64.wrap ((N:Int)/(d:Int))%(4294967296:Int)=((UInt32.ofNat (N/d)).toNat:Int):=by
 have D:N/d<4294967296:=ό h;rw[dn D,ŏ];have e:(N:Int)/(d:Int)=((N/d:Nat):Int):=I;rw[e];generalize N/d=q at D;omega
abbrev aiM(q r d n:Nat)(h:q*d+r=n)(D:r<d):q=n/d∧r=n%d:=by
 subst h;have:0<d:=Z
 rw[Ν,ĕ,aGU _ _ this,aGV D,Nat.add_mul_mod_self_left,Ξ D];omega
abbrev one_any(v:y9)(l:List UInt32)(d:UInt32)(w:E5)(J:aH w v l)(hd:0<d.toNat)(D:l.length<=1000000000) :
  Nq prog 321 #[v,bn d] w λe w'=>∃D,e = .R (.tuple #[D,.int .u32 ((Na.TR l%d.toNat:Nat):Int)]) ∧
   aH w' D (Na.RI (Na.TR l/d.toNat))∧Ext w w':=by
 have D:=FU J;obtain⟨a,cap,rfl,S,D⟩:=J;have HA:=FU D;clear D;have D:l.length<=maxLen:=by unfold maxLen; omega
 have J:4*l.length<=281474976710656:=Z
 have ab:=d.toNat_lt;go_enter func321,ntmps321
 go_wp2_with (at_make; refine wpList_make_row I _ _ _ I mD I w.heap.size l.length I I I J D (Ç _) ?_; intro w1 D S)
 have J:=gQ (ø w.heap.size w) S (Ç _);clear S;have HO:=FU D;clear D;go_loopw [7,8] (λr i wr=>∃(k rest:Nat) (q:List UInt32),k+q.length=l.length∧i = .i ((k:Int)-1)∧r = .int .u64 rest∧rest<d.toNat ∧
  Na.TR q*d.toNat+rest=Na.TR (l.drop k)∧wr.ownsRow w.heap.size 119 1 (.s (some ⟨w.heap.size,0,none⟩) l.length l.length) l.length ((List.replicate k 0++q).map bn)∧Ext w wr) (λ_ i _=>(intOf i+1).toNat)
 case atStart=>exact⟨l.length,0,[],by simp,I,I,hd,by simp[Na.TR],by simpa[bn]using HO.out,J⟩
 case round =>
  obtain⟨k,rest,q,aa,rfl,rfl,hr,S,D,J⟩:=hrel;have HV:=FU S;have HK:=FU aa;have HW:=FU D;have ac:k<=l.length:=Z
  clear S aa D;cases k with
  | zero =>
   simp only[Ϝ,Ģ]at HW;simp only[Ī]at HK;have D:aH wr (.s (some ⟨w.heap.size,0,none⟩) l.length l.length) q:=by
    have:=HW.out; rw[<-HK.out]at this |-; exact bC this
   have S:=aiM (Na.TR q) rest d.toNat (Na.TR l) (by have:=HV.out; simpa using this) hr;have HQ:=FU S;clear S HO;go_wp2_with fail
   refine(short_any _ _ _ D).mono ?_;rintro e w' ⟨S,rfl,D,rfl⟩;have S:(rest:Int)%4294967296=rest:=Z
   go_wp2_with fail
   go_ret2
   rw[HQ.out.1]at D |-;exact⟨_,by rw[HQ.out.2]; rfl,D,J⟩
  | succ j =>
   have D:(((j+1:Nat):Int)-1)=(j:Int):=Z
   rw[D];rcases HA.out with ⟨rfl,_⟩ | ⟨b,o,rfl,hb,af,S⟩
   .simp at ac
   have ae:wr.cell? ⟨b,o+j,none⟩=some (bn l[j]):=by rw[J.cell (p:=⟨b,o+j,none⟩) hb]; exact S j Z
   clear S D;obtain⟨N,hN⟩:∃N,N=rest*4294967296+l[j].toNat:=⟨_,I⟩;have D:bits .or .u64 ((rest:Int)*4294967296) (IntKind.u64.wrap (l[j].toNat:Int))=(N:Int):=by rw[hN]; exact aiL rest l[j] Z
   have S:=FU hN;have D:(List.replicate (j+1) (0:UInt32)++q).length=l.length:=by have:=HK.out; simp; omega
   have D:=HW.out.cellAt j Z;rw[List.getElem?_map,List.getElem?_append_left Y,List.getElem?_replicate,Á Z,ě]at D;have D:=HW.out.frozenAt j;have D:=HW.out.stored j (bn (UInt32.ofNat (N/d.toNat)));rw[Ħ,aGX,Hg]at D;have HS:=FU D;clear hN D HO;go_wp2_with fail
   go_roundw
   case rel =>
    have D:N<d.toNat*4294967296:=by have:=S.out; have:=l[j].toNat_lt; have:=ō 4294967296 (show rest+1<=d.toNat from hr); omega
    rw[abC N d.toNat hd ab D,show(N:Int)%(d.toNat:Int)=((N%d.toNat:Nat):Int)from rfl];refine⟨j,N%d.toNat,UInt32.ofNat (N/d.toNat)::q,?_,I,I,Ŋ _ hd,?_,?_,?_⟩
    .have:=HK.out; simp; omega
    .rw[Na.oG l j Z,<-HV.out];have e:(UInt32.ofNat (N/d.toNat)).toNat=N/d.toNat:=dn (by exact ό D);have:=ř N d.toNat;have D:=S.out;simp only[Na.TR,Na.NZ,e];rw[Œ,ĕ (N/d.toNat)];rw[ó,Ĝ];omega
    .simpa[bn]using HS.out.1
    exact J.setCell (p:=⟨w.heap.size,j,none⟩) (Ç _) _
   case measure=>simp[intOf]
variable{α:Type}
abbrev aez(r:Nat)(x:Nat)(h:r<4294967296)(D:x<4294967296):bits .or .u64 (x:Int) ((r:Int)*4294967296)=((x+Na.NZ*r:Nat):Int):=by
 have e:((r:Int)*4294967296)=((r*4294967296:Nat):Int):=by simp
 rw[e,u64_or_nat _ _ Z Z,Nat.or_comm,nat_join 32 _ _ Z Z];congr 1;unfold Na.NZ; omega
abbrev aeA{β:Type}(l:List β)(z:β)(i:Nat)(h:i<l.length):(l.take i++List.replicate (l.length-i) z).set i l[i]=l.take (i+1)++List.replicate (l.length-(i+1)) z:=by
 obtain⟨k,hk⟩:∃k,l.length-i=k+1:=⟨l.length-i-1,Z⟩;rw[hk,show l.length-(i+1)=k by omega,List.set_append,ϡ];have e:(l.take i).length=i:=by simp; omega
 rw[e,UQ Z,Λ,List.set_cons_zero,take_snoc l i h,ç];rfl
abbrev NR(N p:Nat):(N:Int)/2^p%(4294967296:Int)=((UInt32.ofNat (N/2^p)).toNat:Int):=by simp
abbrev Xi(v:y9)(l:List UInt32)(p:Nat)(w:E5)(D:aH w v l)(hp:0<p)(S:p<=31)(J:l.length<=1000000000) :
  Nq prog 323 #[v,.i (-(p:Int))] w λe w'=>∃a,e = .R (.s a (Na.RI (Na.TR l/2^p)).length (Na.RI (Na.TR l/2^p)).length) ∧
   aH w' (.s a (Na.RI (Na.TR l/2^p)).length (Na.RI (Na.TR l/2^p)).length) (Na.RI (Na.TR l/2^p))∧Ext w w':=by
 have hd:=dB l;have ea:=Na.RH (Na.TR l);have S:=FU (short_any v l w D);clear D;rw[<-ea];generalize Na.RI (Na.TR l)=a at *;have D:=FU ea;clear ea;have D : -(p:Int)<0:=Z
 by_cases h0:a.length=0
 .obtain rfl:a=[]:=Ś h0;go_enter func323,ntmps323
  go_wp2_with fail
  refine S.out.mono ?_;rintro e w' ⟨x,rfl,hx,rfl⟩;go_wp2_with fail
  go_ret
  exact⟨none,by simp[Na.TR,Na.RI,Na.lK],by simpa[Na.TR,Na.RI,Na.lK]using He w,ø _ _⟩
 have D:0<a.length:=Z
 have D:a.length<=maxLen:=by unfold maxLen; omega
 have J:4*a.length<=281474976710656:=Z
 go_enter func323,ntmps323
 go_wp2_with fail
 refine S.out.mono ?_;rintro e w' ⟨x,rfl,hx,rfl⟩;have S:¬-(p:Int) <= -32*(a.length:Int):=Z
 have ac:(p:Int)/32=0:=Z
 have ag:(p:Int)%32=(p:Int):=Z
 go_wp2_with (at_make; refine wpList_make_row I _ _ _ I mD I w.heap.size a.length I I I J D (Ç _) ?_; intro w1 D J)
 have ae:=gQ (ø w.heap.size w) J (Ç _);clear J;have HO:=FU D;clear D ac S;have J:=Na.AV p a;go_loopw [37] (λi wr=>∃k:Nat,k<=a.length∧i = .i k∧wr.ownsRow w.heap.size 119 1 (.s (some ⟨w.heap.size,0,none⟩) a.length a.length) a.length (((Na.shr p a).take k++List.replicate ((Na.shr p a).length-k) 0).map bn)∧Ext w wr) (λi _=>a.length-(intOf i).toNat)
 case atStart=>exact⟨0,Z,I,by simpa[bn,J]using HO.out,ae⟩
 case round =>
  obtain⟨k,hk,rfl,D,S⟩:=hrel;have HW:=FU D;have aa:=hx.below S;clear D;by_cases hlt:k<a.length
  .have g0:=(a.getD k 0).toNat_lt;have g1:=(a.getD (k+1) 0).toNat_lt;have D:=Na.Z5 p a k hlt;have d0:=qM _ a k _ aa Z;have d1:=qM _ a (k+1) _ aa Z;generalize (a.getD k 0).toNat=D0 at *;generalize (a.getD (k+1) 0).toNat=D1 at *;have ah:=aez D1 D0 g1 g0;generalize hN:D0+Na.NZ*D1=N at *;obtain⟨⟨cv,af⟩,ai⟩:=su HW.out k hlt;have HG:=FU D;have ab:=FU J;have E0:=FU d0;have E1:=FU d1;clear D J hN d0 d1;go_wp2_with fail
   refine E0.out.mono ?_;rintro e w' ⟨rfl,rfl⟩;go_wp2_with fail
   refine E1.out.mono ?_;rintro e w' ⟨rfl,rfl⟩;go_wp2_with fail
   go_roundw
   case rel =>
    have D:=HW.out.stored k (bn ((Na.shr p a)[k]'(by rw[ab.out]; exact hlt)));rw[<-Ű,aeA _ _ k (by rw[ab.out]; exact hlt)]at D;rw[HG.out]at D;rw[NR];exact⟨k+1,Z,by go_num,D.1,S.setCell (p:=⟨w.heap.size,k,none⟩) (Ç _) _⟩
   case measure=>simp[intOf]; omega
  obtain rfl:k=a.length:=by omega
  have D:aH wr (.s (some ⟨w.heap.size,0,none⟩) a.length a.length) (Na.shr p a):=by
   have:=HW.out;rw[<-J,ħ,Λ,Ϝ,ĳ]at this;have h2:=bC this;rw[J]at h2; exact h2
  have J:=short_any _ _ _ D;rw[Na.Z7 p Z]at J;have HS:=FU J;clear J D;go_wp2_with fail
  refine HS.out.mono ?_;rintro e w' ⟨J,rfl,D,rfl⟩;have J:=FU D;clear D;go_wp2_with fail
  go_ret
  exact⟨_,I,J.out,S⟩
abbrev wide(c:UInt32)(p:Nat)(h:p<=31):IntKind.u64.wrap (IntKind.u64.wrap (c.toNat:Int)*2^p)=((c.toNat*2^p:Nat):Int):=by
 have D:=c.toNat_lt;have D:2^p<=2^31:=ķ Z h;have J:c.toNat*2^p<=4294967296*2^31:=ű Z D;have e:(c.toNat:Int)*2^p=((c.toNat*2^p:Nat):Int):=by simp
 rw[ig,e,ŏ];omega
abbrev al1(t:UInt32)(c p:Nat)(D:p<=31)(ht:t.toNat<2^p) :
  bits .or .u32 (t.toNat:Int) (((c*2^p:Nat):Int)%4294967296)=((UInt32.ofNat (t.toNat+c*2^p%Na.NZ)).toNat:Int)∧t.toNat+c*2^p%Na.NZ<Na.NZ:=by
 have hB:=Na.NQ p Z;have D:0<2^p:=œ p;have J:c*2^p%Na.NZ=c%2^(32-p)*2^p:=by
  rw[hB,ĕ c,Nat.mul_mod_mul_left,ĕ]
 have D:c%2^(32-p)+1<=2^(32-p):=Ŋ _ (œ _);have S:c*2^p%Na.NZ+2^p<=Na.NZ:=by
  rw[J,<-Nat.succ_mul,hB,ĕ (2^p)]; exact ō _ D
 have D:t.toNat+c*2^p%Na.NZ<Na.NZ:=Z
 refine⟨?_,D⟩;have D:((c*2^p:Nat):Int)%4294967296=((c*2^p%Na.NZ:Nat):Int):=by simp[Na.NZ]
 have S:Na.NZ=4294967296:=I;rw[D,u32_or_nat _ _ t.toNat_lt Z,Nat.or_comm,nat_join p _ _ (by rw[J]; simp) ht,dn Z,Ν]
abbrev aiN{β:Type}(q:List β)(t x y z:β)(k m:Nat)(D:q.length=k):((q++t::List.replicate (m+1) z).set k x).set (k+1) y=(q++[x])++y::List.replicate m z:=by
 subst D;rw[List.set_append,UQ Z,Λ,List.set_cons_zero,List.set_append,UQ Z,aG4,ϡ];simp
abbrev AY(v:y9)(l:List UInt32)(p:Nat)(w:E5)(S:aH w v l)(ac:p<=31)(D:l.length<=1000000000) :
  Nq prog 323 #[v,.i p] w λe w'=>∃a,e = .R (.s a (Na.RI (Na.TR l*2^p)).length (Na.RI (Na.TR l*2^p)).length) ∧
   aH w' (.s a (Na.RI (Na.TR l*2^p)).length (Na.RI (Na.TR l*2^p)).length) (Na.RI (Na.TR l*2^p))∧Ext w w':=by
 have hd:=dB l;have ea:=Na.RH (Na.TR l);have C1:=FU (short_any v l w S);clear S;rw[<-ea];generalize Na.RI (Na.TR l)=a at *;have D:=FU ea;clear ea;have D:a.length+1<=maxLen:=by unfold maxLen; omega
 have J:4*(a.length+1)<=281474976710656:=Z
 have am:(p:Int)/32=0:=Z
 have an:(p:Int)%32=(p:Int):=Z
 have al:min (p:Int) 4096=(p:Int):=Z
 go_enter func323,ntmps323
 go_wp2_with fail
 refine C1.out.mono ?_;rintro e w' ⟨x,rfl,hx,rfl⟩;go_wp2_with (at_make; refine wpList_make_row I _ _ _ I mD I w.heap.size (a.length+1) I I I J D (Ç _) ?_; intro w1 D hg)
 have J:=gQ (ø w.heap.size w) hg (Ç _);clear hg;have HO:=FU D;clear D;go_loopw [76] (λi wr=>∃(k:Nat) (q:List UInt32) (t:UInt32),k<=a.length∧i = .i k∧q.length=k∧t.toNat<2^p∧Na.TR (q++[t])=Na.TR (a.take k)*2^p ∧
  wr.ownsRow w.heap.size 119 1 (.s (some ⟨w.heap.size,0,none⟩) (a.length+1) (a.length+1)) (a.length+1) ((q++t::List.replicate (a.length-k) 0).map bn)∧Ext w wr) (λi _=>a.length-(intOf i).toNat)
 case atStart=>exact⟨0,[],0,Z,I,I,by simpa using œ p,by simp[Na.TR],by simpa[bn,ϡ]using HO.out,J⟩
 case round =>
  obtain⟨k,q,t,hk,rfl,hq,ht,aa,D,J⟩:=hrel;have HW:=FU D;have ae:=hx.below J;have HV:=FU aa;have HT:=FU ht;have HQ:=FU hq;clear D aa ht hq HO;by_cases hlt:k<a.length
  .obtain⟨bx,ox,cx,hxs,hbx,hlx,hmx,hcx⟩:=dO ae I Z;simp only[Ĉ]at hxs;obtain⟨rfl,-,-⟩:=hxs;have af:=hcx k hlt;clear hcx;have ag:=HW.out.cellAt k Z;have D:=HW.out.frozenAt k;have D:=HW.out.frozenAt (k+1);obtain⟨⟨cv,D⟩,_⟩:=su HW.out (k+1) Z;rw[List.getElem?_map,List.getElem?_append_right (by rw[HQ.out]; omega),HQ.out,Λ,List.getElem?_cons_zero,ě]at ag;have HA:=FU (Na.dD a k hlt);generalize a[k]=c at af HA;go_wp2_with fail
   go_roundw
   case rel =>
    obtain⟨o1,o2⟩:=al1 t c.toNat p ac HT.out;have hq:=HQ.out;have ht:=HT.out;obtain⟨m,hm⟩:∃m,a.length-k=m+1:=⟨a.length-k-1,Z⟩;have ah:=(HW.out.stored k (bn (UInt32.ofNat (t.toNat+c.toNat*2^p%Na.NZ)))).1;have D:=(ah.stored (k+1) (bn (UInt32.ofNat (c.toNat*2^p/Na.NZ)))).1;rw[hm,<-Ű,<-Ű,aiN q t _ _ 0 k m hq]at D;have ai:c.toNat*2^p/Na.NZ<2^p:=by
     refine ό ?_;have hc:=c.toNat_lt;exact aHc hc (œ p)
    have ab:c.toNat*2^p/Na.NZ<4294967296:=by
     have:2^p<=2^31:=ķ Z ac;omega
    have e5:((c.toNat*2^p:Nat):Int)/4294967296%4294967296=((UInt32.ofNat (c.toNat*2^p/Na.NZ)).toNat:Int):=by
     rw[dn ab];have:((c.toNat*2^p:Nat):Int)/4294967296=((c.toNat*2^p/Na.NZ:Nat):Int):=by simp[Na.NZ]
     rw[this]; omega
    rw[wide c p ac,o1,e5];refine⟨k+1,q++[UInt32.ofNat (t.toNat+c.toNat*2^p%Na.NZ)],UInt32.ofNat (c.toNat*2^p/Na.NZ),Z,by go_num,by simp[hq],by rw[dn ab]; exact ai,?_,?_,?_⟩
    .have S:=HV.out;rw[Na.jv,hq]at S;rw[Na.jv,Na.jv,HA.out,Œ,<-S,dn o2,dn ab,Å,hq];have:=ř (c.toNat*2^p) Na.NZ;simp only[Ē,ł,ę];generalize c.toNat*2^p/Na.NZ=hi at *;generalize c.toNat*2^p%Na.NZ=lo at *;rw[Ĝ (Na.NZ^k) c.toNat,<-this,ó,ó,<-Ĝ (Na.NZ^k) Na.NZ hi];omega
    .rw[show a.length-(k+1)=m by omega]; exact D
    exact(J.setCell (p:=⟨w.heap.size,k,none⟩) (Ç _) _).setCell (p:=⟨w.heap.size,k+1,none⟩) (Ç _) _
   case measure=>simp[intOf]; omega
  obtain rfl:k=a.length:=by omega
  have D:aH wr (.s (some ⟨w.heap.size,0,none⟩) (a.length+1) (a.length+1)) (q++[t]):=by
   have:=HW.out;rw[Λ,Ϝ]at this;have e:(q++[t]).length=a.length+1:=by have:=HQ.out; simp[this]
   have h2:=bC (l:=q++[t]) (by rw[e]; exact this);exact h2
  have hs:=short_any _ _ _ D;have S:=HV.out;rw[ħ]at S;rw[S]at hs;have HS:=FU hs;clear hs D S;go_wp2_with fail
  refine HS.out.mono ?_;rintro e w' ⟨S,rfl,D,rfl⟩;have S:=FU D;clear D;go_wp2_with fail
  go_ret
  exact⟨_,I,S.out,J⟩
def bl(n:Nat):Nat:=if n=0 then 0 else Nat.log2 n+1
abbrev apH{n k:Nat}(J:2^k<=n)(S:n<2^(k+1)):bl n=k+1:=by
 have D:n≠0:=by have:=œ k; omega
 unfold bl;rw[UQ D,(Nat.log2_eq_iff D).2 ⟨J,S⟩]
abbrev aad(a:List UInt32)(x:UInt32)(D:x≠0)(c:Nat)(J:2^(c-1)<=x.toNat)(S:x.toNat<2^c)(h3:1<=c):bl (Na.TR (a++[x]))=32*a.length+c:=by
 have D:=Na.jv a x;have hl:=Na.dS a;have hB:Na.NZ^a.length=2^(32*a.length):=by rw[Nat.pow_mul]; rfl
 rw[hB]at D hl;have e:32*a.length+c=(32*a.length+(c-1))+1:=Z
 rw[e];apply apH
 .rw[D,Ž];have:=Ę (2^(32*a.length)) J;omega
 rw[D,show 32*a.length+(c-1)+1=32*a.length+c by omega,Ž];have:=Ę (2^(32*a.length)) (show x.toNat+1<=2^c by omega);rw[ó]at this;omega
abbrev II(v:y9)(l:List UInt32)(w:E5)(D:aH w v l)(J:l.length<=1000000000) :
  Nq prog 290 #[v] w λe w'=>e = .R (.i (bl (Na.TR l):Int))∧w=w':=by
 have hd:=dB l;have ea:=Na.RH (Na.TR l);have na:=Na.gZ (Na.TR l);have C1:=FU (short_any v l w D);clear D;rw[<-ea];generalize Na.RI (Na.TR l)=a at *;by_cases h0:a.length=0
 .obtain rfl:a=[]:=Ś h0;clear ea;go_enter func290,ntmps290
  go_wp2_with fail
  refine C1.out.mono ?_;rintro e w' ⟨x,rfl,hx,rfl⟩;go_wp2_with fail
  go_ret
  exact⟨I,I⟩
 obtain⟨m,hm⟩:∃m,a.length=m+1:=⟨a.length-1,Z⟩;have D:a[m]'Z≠0:=by
  have:=Na.vk na Z;simpa[hm]using this
 have J:1<=Lib.bitLen (a[m]'Z).toNat∧2^(Lib.bitLen (a[m]'Z).toNat-1)<=(a[m]'Z).toNat∧(a[m]'Z).toNat<2^Lib.bitLen (a[m]'Z).toNat:=
  Lib.bitLenAux_bounds 64 _ (by have:=(a[m]'Z).toNat_lt; omega) (λe=>D (Ř.1 (by simpa using e)))
 have S:=aad (a.take m) (a[m]'Z) D _ J.2.1 J.F J.1;have aa:=Lib.bitLen_le (a[m]'Z).toNat 32 Z (a[m]'Z).toNat_lt;have e1:a.take m++[a[m]'Z]=a:=by
  rw[<-ĸ Z,<-hm,ħ]
 rw[e1]at S;have e2:(a.take m).length=m:=by simp; omega
 rw[e2]at S;have HR:=FU S;have HM:=FU hm;have ab:(m:Int)<=1000000000:=Z
 have ac:=(a[m]'Z).toNat_lt;clear ea na S J D e1 e2;go_enter func290,ntmps290
 go_wp2_with fail
 refine C1.out.mono ?_;rintro e w' ⟨x,rfl,hx,rfl⟩;obtain⟨bx,ox,cx,D,S,ae,af,J⟩:=dO hx I Z;simp only[Ĉ]at D;obtain⟨rfl,-,-⟩:=D;have D:=J m Z;clear J;have D:((m:Int)+1==0)=false:=by rw[õ]; omega
 generalize a[m]=c at *;rw[HM.out]at hx |-;go_wp2_with fail
 refine(bits_Len32 (c.toNat:Int) _ Z Z).mono ?_;rintro e w' ⟨rfl,rfl⟩;rw[ŗ];go_wp2_with fail
 go_ret
 exact⟨jO (by rw[HR.out]; omega),I⟩
end Go.Proofs.Õ
end
abbrev ğ:=@Go.Vp.rt
abbrev į:=@Go.Vp.region
