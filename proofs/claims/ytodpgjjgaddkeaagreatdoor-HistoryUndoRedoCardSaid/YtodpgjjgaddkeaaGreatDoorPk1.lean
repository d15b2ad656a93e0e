/- Small laws beside the law for -/
import Derived.Test.YtodpgjjgaddkeaaGreatDoorPk0
import Derived.Deep.MidRow
import Derived.Test.YtodpgjjgaddkeaaGreatDoorShelf
import Derived.Lib.ItoaNum
set_option maxHeartbeats 9999999
open Go renaming World->Á,Value->À,Calls->Ä,Operand->ö,bodyPost->Ī
open Go.Proofs.Tryz
set_option maxRecDepth 100000
set_option linter.unusedVariables false
set_option linter.unusedSimpArgs false
section
namespace Go.Rel
variable{P:Program}{o:Oper}{ρ:ö->À}{w:Á}
variable{u:À}{R:Á->Á->Prop}{T:Fact}
abbrev QH(h:(execOp ρ o).run P w = .ok (.value u) w)(hR:R w w)(hT:T (kept o u) w):Does P o ρ w (λv w'=>R w w'∧T (kept o v) w'):=by
 unfold Does; rw[h]; exact⟨hR,hT⟩
abbrev agO{w1:Á}(h:(execOp ρ o).run P w = .ok (.value u) w1)(hR:R w w1)(hT:T (kept o u) w1):Does P o ρ w (λv w'=>R w w'∧T (kept o v) w'):=by
 unfold Does; rw[h]; exact⟨hR,hT⟩
abbrev yF{f:Nat}{args:Array À}{K:À->Á->Prop}(h:(execOp ρ o).run P w = .ok (.enter f args) w)(hc:Ä P f args w (λe w'=>∃v,e = .R v∧K v w')):Does P o ρ w K:=by
 unfold Does; rw[h]; exact hc
end Go.Rel
namespace Go.Proofs.Pv
open Go.RowKit
open Go.RowKit
variable{α:Type}
def Bx(w:Á)(b:Nat)(A:Array À):Prop:=b<w.heap.size∧(∀i,w.cell? ⟨b,i,none⟩=A[i]?)∧(∀i,w.frozen? ⟨b,i,none⟩=false)
abbrev Bx.ext{w w':Á}{b:Nat}{A:Array À}(h:Bx w b A)(hb:Ext w w'):Bx w' b A:=
 ⟨by have:=hb.size; have:=h.1; omega,λi=>(hb.cell (p:=⟨b,i,none⟩) h.1).trans (h.2.1 i),λi=>(hb.frozen (p:=⟨b,i,none⟩) h.1).trans (h.2.2 i)⟩
abbrev Hl(w:Á)(A:Array À)(t:TypeId):Bx (w.alloc (.cells A t)) w.heap.size A:=⟨by simp,λi=>by simp[go_sem],λi=>by simp[go_sem]⟩
abbrev Bx.ch{w w':Á}{b c:Nat}{A:Array À}(h:Bx w b A)(hc:Ch c w w')(hne:b≠c):Bx w' b A:=
 ⟨by have:=hc.size; have:=h.1; omega,λi=>(hc.cell (p:=⟨b,i,none⟩) h.1 hne).trans (h.2.1 i),λi=>(hc.frozen (p:=⟨b,i,none⟩) h.1 hne).trans (h.2.2 i)⟩
abbrev Ch.setCells{b:Nat}{w w':Á}(h:Ch b w w'):∀(vs:List À) (o:Nat),Ch b w (w'.setCells b o vs)
 | [],_=>h
 | v::vs,o=>Ch.setCells (h.setCell o v) vs (o+1)
abbrev uQ{W w:Á}(h:Ext W w){c:Nat}(hc:W.heap.size<=c)(vs:List À)(o:Nat):Ext W (w.setCells c o vs):=
 (Ch.setCells (Ch.bY h) vs o).below hc (Ó _)
abbrev Bx.there{w:Á}{b n:Nat}{A:Array À}(h:Bx w b A)(hn:A.size=n):w.there b 0 n:=λj hj=>by
 rw[Ĳ,h.2.1,h.2.2,Array.getElem?_eq_getElem Z]; exact⟨I,I⟩
theorem size_setCells(b:Nat):∀(vs:List À) (o:Nat) (w:Á),(w.setCells b o vs).heap.size=w.heap.size
 | [],_,_=>rfl
 | v::vs,o,w=>by
  show((w.setCell ⟨b,o,none⟩ v).setCells b (o+1) vs).heap.size=_
  rw[size_setCells b vs (o+1)]; simp
abbrev kT(b:Nat)(vs:List À)(o:Nat)(w:Á)(j:Nat)(h:j<o∨o+vs.length<=j):(w.setCells b o vs).cell? ⟨b,j,none⟩=w.cell? ⟨b,j,none⟩:=
 World.cell?_setCells_out b vs o w ⟨b,j,none⟩ (λ_ _=>h)
theorem pX(b:Nat):∀(vs:List À) (o:Nat) (w:Á) (p:Addr),(w.setCells b o vs).frozen? p=w.frozen? p
 | [],_,_,_=>rfl
 | v::vs,o,w,p=>by
  show((w.setCell ⟨b,o,none⟩ v).setCells b (o+1) vs).frozen? _=_
  rw[pX b vs (o+1)]; simp[go_sem]
abbrev Bx.set{w:Á}{b:Nat}{A:Array À}(h:Bx w b A)(vs:List À)(hn:A.size=vs.length):Bx (w.setCells b 0 vs) b vs.toArray:=by
 refine⟨by rw[size_setCells]; exact h.1,λi=>?_,λi=>by rw[pX]; exact h.2.2 i⟩;by_cases hi:i<vs.length
 .have:=World.rangeAt_setCells_same w b 0 vs (h.there hn) i vs[i] (by simp[hi]);rw[Ĳ]at this;rw[this]; simp[hi]
 rw[kT b vs 0 w i (.inr Z),h.2.1,Array.getElem?_eq_none Z,Array.getElem?_eq_none (by simp; omega)]
abbrev Bx.range{w:Á}{b:Nat}{A:Array À}(h:Bx w b A)(o n:Nat){cs:List À}(hcs:(A.toList.drop o).take n=cs):w.rangeAt b o cs:=λj v hv=>by
 subst hcs;rw[h.2.1];rw[List.getElem?_take]at hv;split at hv
 .rw[List.getElem?_drop]at hv; simpa using hv
 cases hv
abbrev Bx.off{f:α->À}{w:Á}{b:Nat}{A:Array À}(h:Bx w b A)(hA:∀(i:Nat) (x:α),A[i]?≠some (f x)){s:À}{l:List α}(hs:dJ f w s l):0<l.length->Off b s:=by
 intro h0 ad n cap e;obtain⟨b',o,c,hv,hb,_,_,hc⟩:=dH hs I h0;rw[hv]at e;simp only[Ĉ,Ò]at e;obtain⟨rfl,-,-⟩:=e;intro hbg;simp only at hbg;subst hbg;have h1:=hc 0 h0;rw[h.2.1]at h1;exact hA _ _ h1
end Go.Proofs.Pv
namespace Go.Rel
open Go.Proofs.Pv
variable{P:Program}{o:Oper}{ρ:ö->À}{w:Á}
end Go.Rel
namespace Go.Vp
open Go.Proofs.Pv Go.RowKit Go.Rel
structure St (a:Act) (n:Nat) (l:List (Nat×À)):Prop where
 size:a.tmps.size=n
 defers:a.defers=[]
 has:∀i v,l.lookup i=some v->a.eval (.tmp i)=v
def ev(l:List (Nat×À)):ö->Option À
 | .tmp i=>l.lookup i
 | .const v=>some v
 | .global g=>some (.q g 0)
 | .func f=>some (.func (.func f) #[] #[])
section
variable{P:Program}{ops:Array Oper}{Q:Exit->Act->Á->Prop}{a:Act}{w:Á}{rest:List Oper}{o:Oper}{n:Nat}{l:List (Nat×À)}
theorem St.ev{x:ö}{v:À}(h:St a n l)(he:ev l x=some v):a.eval x=v:=by
 cases x with
 | tmp i=>exact h.has i v he
 | const c=>exact Ü he
 | global g=>exact Ü he
 | func f=>exact Ü he
abbrev St.put(h:St a n l)(d:Nat)(hd:d<n)(v:À):St (a.put (some d) v) n ((d,v)::l):=by
 refine⟨by rw[tN]; exact h.size,by rw[put_defers]; exact h.defers,λi u hu=>?_⟩;rw[ġ]at hu;by_cases hi:i=d
 .subst hi;simp only[Ŷ]at hu;obtain rfl:=Ü hu;have hlt:i<a.tmps.size:=by rw[h.size]; exact hd
  simp[Act.eval,Act.put,hlt]
 have e:(i==d)=false:=by simpa using hi
 rw[e]at hu;rw[kR (oM a (some d) v i (λe=>hi (Ü e).symm))];exact h.has i u hu
variable{v:À}{fn:Func}{R:Ending->Á->Prop}{c:Code}{r:Nat}
abbrev ZM{ty:TypeId}{b off:Nat}{d:TypeDesc}(hv:w.cell? ⟨b,off,none⟩=some v)(hu:P.underlying ty=some d)(hrow:d.isRow=false) :
  (Instr.loadAt ty (.q b off)).run P w = .ok v w:=by
 have hagg:(isAgg ty).run P w = .ok false w:=by
  unfold isAgg;rw[ķ,run_underlying hu w];cases d<;>simp_all
 simp only[ķ,Instr.loadAt,Instr.sureAddr,ϫ,ϖ,loadVar,hagg];simp[hv]
class ϭ (Q:Exit->Act->Á->Prop) (Q':outParam (Exit->Act->Á->Prop)):Prop where
 out:∀a w,Q' .ret a w->Q .ret a w
instance amQ {fn:Func}{R:Ending->Á->Prop}:ϭ (Ī P fn R) (Ī P fn R):=⟨λ_ _ h=>h⟩
instance amR {Q Q':Exit->Act->Á->Prop}{K:Act->Á->Prop}[r:ϭ Q Q']:ϭ (Exit.then K Q) Q':=⟨λa w h=>r.out a w h⟩
instance amN {Q Q':Exit->Act->Á->Prop}{id:Nat}[r:ϭ Q Q']:ϭ (Exit.inBlock id Q) Q':=⟨λa w h=>r.out a w h⟩
abbrev rt{Q Q':Exit->Act->Á->Prop}[r:ϭ Q Q'](h:Q' .ret a w):Code.ret.wp P Q a w:=wp_ret (r.out a w h)
abbrev enter{f:FuncId}{args:Array À}(hf:P.funcs[f]?=some fn)(hb:fn.body=some c)(hsz:decide (args.size<=fn.ntmps)=true)
  (h:∀a,St a fn.ntmps ((List.range args.size).zip args.toList)->c.wp P (Ī P fn R) a w):Ä P f args w R:=by
 refine calls_of_wp hf hb (h _ ⟨?_,I,λi v hv=>?_⟩)
 .have:args.size<=fn.ntmps:=by simpa using hsz
  simp; omega
 have key:∀(l:List À) (k:Nat),((List.range' k l.length).zip l).lookup i=some v->k<=i∧l[i-k]?=some v:=by
  intro l;induction l with
  | nil=>intro k h; simp at h
  | cons x l ih =>
   intro k h;simp only[Ĺ,List.range'_succ,List.zip_cons_cons,ġ]at h;by_cases hik:i=k
   .subst hik; simp at h; simp[h]
   have e:(i==k)=false:=by simpa using hik
   rw[e]at h;obtain⟨h1,h2⟩:=ih (k+1) h;exact⟨Z,by rw[show i-k=(i-(k+1))+1 by omega,List.getElem?_cons_succ]; exact h2⟩
 rw[List.range_eq_range',<-Array.length_toList]at hv;obtain⟨-,h2⟩:=key args.toList 0 hv;simp only[Nat.sub_zero]at h2;simp only[Act.eval,Array.getD_eq_getD_getElem?];have hlt:i<args.size:=by have:=(List.getElem?_eq_some_iff.1 h2).1; simpa using this
 rw[Array.getElem?_append_left hlt];have:args[i]?=some v:=by simpa using h2
 rw[this]; rfl
abbrev region{id:Nat}{l':List Oper}(h:wpList P l'.toArray Q l' a w):(Code.region id l'.toArray false).wp P Q a w:=wp_region_lit h
abbrev loop{ι:Type}(ŏ:ι->Act->Á->Prop)(μ:ι->Nat)(i0:ι)(h0:ŏ i0 a w)
  (round:∀i a w,ŏ i a w->c.wp P (Exit.then (λa' w'=>∃i',ŏ i' a' w'∧μ i'<μ i) Q) a w):(Code.loop c).wp P Q a w:=by
 intro b k cs;have key:∀m i a w,μ i=m->ŏ i a w->∃e a' w',Q e a' w'∧Arrives P (lone (b.at a (.code c :: .inLoop c::k)) cs w) b k cs e a' w':=by
  intro m;induction m using Nat.strongRecOn with
  | _ m ih =>
   intro i a w hm hI;obtain⟨e,a₁,w₁,hq,harr⟩:=round i a w hI b (.inLoop c::k) cs;cases e with
   | normal =>
    obtain⟨i',hI₁,hlt⟩:=hq;obtain⟨e₂,a₂,w₂,hq₂,harr₂⟩:=ih (μ i') (hm▸hlt) i' a₁ w₁ I hI₁;exact⟨e₂,a₂,w₂,hq₂,.of_steps (Steps.trans harr (.one step_inLoop)) harr₂⟩
   | exit id=>exact⟨_,a₁,w₁,hq,.pass (x := .inLoop c) I (λ_ _ => .inl Y) harr⟩
   | goto l=>exact⟨_,a₁,w₁,hq,.pass (x := .inLoop c) I (λ_ _ => .inl Y) harr⟩
   | ret=>exact⟨_,a₁,w₁,hq,.pass (x := .inLoop c) I (λ_ _ => .inl Y) harr⟩
   | panic ch=>exact⟨_,a₁,w₁,hq,.pass (x := .inLoop c) I (λ_ _ => .inl Y) harr⟩
   | outgrown=>exact⟨_,a₁,w₁,hq,.pass (x := .inLoop c) I (λ_ _ => .inl Y) harr⟩
 obtain⟨e,a',w',hq,harr⟩:=key _ i0 a w I h0;exact⟨e,a',w',hq,.of_steps (.one step_loop) harr⟩
abbrev agP(hs:St a n l)(hr:fn.results = #[.tmp r])(hv:ev l (.tmp r)=some v)(h:R (.R v) w):Ī P fn R .ret a w:=by
 refine⟨hs.defers,v,?_,h⟩;have h1:=hs.ev hv;unfold results;rw[hr];simp only[Act.eval,Array.getD_eq_getD_getElem?]at h1;simp[h1]
abbrev acy(hs:St a n l){s:Nat}{u:À}(hr:fn.results = #[.tmp r,.tmp s])(hv:ev l (.tmp r)=some v)(hu:ev l (.tmp s)=some u)(h:R (.R (.tuple #[v,u])) w):Ī P fn R .ret a w:=by
 refine⟨hs.defers,_,?_,h⟩;have h1:=hs.ev hv;have h2:=hs.ev hu;unfold results;rw[hr];simp only[Act.eval,Array.getD_eq_getD_getElem?]at h1 h2;simp[h1,h2]
end
end Go.Vp
namespace Na
def JH:Nat:=4294967296
variable{r b V k M q x E i A d U:Nat}{out:List UInt32}
abbrev jX:0<JH:=by decide
abbrev QI:1<JH:=by decide
def Pq:List UInt32->Nat
 | []=>0
 | d::l=>d.toNat+JH*Pq l
def norm(l:List UInt32):Prop:=l.getLast?≠some 0
def kU:Nat->Nat->List UInt32
 | 0,_=>[]
 | f+1,n=>if n=0 then []else UInt32.ofNat n::kU f (n/JH)
def LZ(n:Nat):List UInt32:=kU n n
abbrev val_append(l m:List UInt32):Pq (l++m)=Pq l+JH^l.length*Pq m:=by
 induction l with
 | nil=>simp[Pq]
 | cons d l ih=>simp only[ō,Pq,ih,Ĺ,Ğ,õ]; rw[Ě (JH^l.length) JH,ğ]; omega
abbrev dV(l:List UInt32):Pq l<JH^l.length:=by
 induction l with
 | nil=>simp[Pq]
 | cons d l ih =>
  have hd:d.toNat<JH:=d.toNat_lt;simp only[Pq,Ĺ,Ğ];have:JH*Pq l+JH<=JH^l.length*JH:=by
   rw[Ě (JH^l.length)]; rw[<-Ŕ]; exact ĝ _ ih
  omega
abbrev DR(n:Nat):Pq (List.replicate n 0)=0:=by
 induction n with
 | zero=>rfl
 | succ n ih=>simp[List.replicate_succ,Pq,ih]
abbrev tV(f:Nat):∀n,n<=f->Pq (kU f n)=n:=by
 induction f with
 | zero=>intro n h; simp[kU,Pq]; omega
 | succ f ih =>
  intro n h;unfold kU;split
  .rename_i h0; subst h0; rfl
  rename_i h0;have hlt:n/JH<n:=Nat.div_lt_self Z QI;simp only[Pq];rw[ih (n/JH) Z];have:(UInt32.ofNat n).toNat=n%JH:=by simp[JH]
  rw[this];exact Ś n JH
abbrev L6(n:Nat):Pq (LZ n)=n:=tV n n (Ó _)
abbrev Ag(f:Nat):∀n,n<=f->norm (kU f n):=by
 induction f with
 | zero=>intro n _; simp[kU,norm]
 | succ f ih =>
  intro n h;unfold kU;split
  .simp[norm]
  rename_i h0;have hlt:n/JH<n:=Nat.div_lt_self Z QI;have hn:=ih (n/JH) Z;have hv:=tV f (n/JH) Z;unfold norm at hn |-;generalize kU f (n/JH)=l at hn hv;cases l with
  | nil =>
   simp only[List.getLast?_singleton];intro he;have h1:=Ñ UInt32.toNat (Ü he);have h2:(UInt32.ofNat n).toNat=n%JH:=by simp[JH]
   rw[h2]at h1;simp[Pq]at hv;have:=Ś n JH;rw[<-hv]at this;simp at h1;omega
  | cons a l=>simpa[List.getLast?_cons_cons]using hn
abbrev gU(n:Nat):norm (LZ n):=Ag n n (Ó _)
abbrev lK{d:UInt32}{l:List UInt32}(h:norm (d::l)):norm l:=by
 cases l with
 | nil=>simp[norm]
 | cons a l=>unfold norm at h |-; simpa[List.getLast?_cons_cons]using h
abbrev val_eq_zero{l:List UInt32}(h:norm l)(h0:Pq l=0):l=[]:=by
 induction l with
 | nil=>rfl
 | cons d l ih =>
  simp only[Pq]at h0;have hl:Pq l=0:=by
   rcases ę (Pq l)with e | e
   .exact e
   have:0<JH*Pq l:=ϕ jX e;omega
  have:=ih (lK h) hl;subst this;have hd:d=0:=ř.1 (by simp; omega);subst hd;exact(h I).elim
abbrev Ho{l:List UInt32}:∀{m:List UInt32},norm l->norm m->Pq l=Pq m->l=m:=by
 induction l with
 | nil=>intro m _ hm h; exact(val_eq_zero hm h.symm).symm
 | cons d l ih =>
  intro m hl hm h;cases m with
  | nil=>exact val_eq_zero hl h
  | cons e m =>
   simp only[Pq]at h;have hd:d.toNat<JH:=d.toNat_lt;have he:e.toNat<JH:=e.toNat_lt;have h1:d.toNat=e.toNat:=by
    have:=Ñ (· % JH) h;simpa[ϗ hd,ϗ he]using this
   have h2:Pq l=Pq m:=by
    have:JH*Pq l=JH*Pq m:=Z
    exact Nat.eq_of_mul_eq_mul_left jX this
   rw[ř.1 h1,ih (lK hl) (lK hm) h2]
abbrev Hq{l:List UInt32}(h:norm l):LZ (Pq l)=l:=Ho (gU _) h (L6 _)
abbrev jF:LZ 0=[]:=rfl
abbrev kV{n:Nat}:LZ n=[]↔n=0:=by
 constructor
 .intro h; have:=L6 n; rw[h]at this; simpa[Pq]using this.symm
 intro h; rw[h]; rfl
abbrev uS{l:List UInt32}(h:0<l.length)(hn:l[l.length-1]≠0):norm l:=by
 unfold norm;rw[List.getLast?_eq_getElem?,List.getElem?_eq_getElem Z];simpa using hn
abbrev uT{l:List UInt32}(h:norm l)(hp:0<l.length):l[l.length-1]≠0:=by
 unfold norm at h;rw[List.getLast?_eq_getElem?,List.getElem?_eq_getElem Z]at h;simpa using h
abbrev DT{l:List UInt32}(h:norm l)(hp:0<l.length):JH^(l.length-1)<=Pq l:=by
 induction l with
 | nil=>simp at hp
 | cons d l ih =>
  cases l with
  | nil =>
   have:=uT h Y;simp only[Pq,Ĺ,Ϫ];have hd:d.toNat≠0:=λe=>this (ř.1 (by simpa using e));simp; omega
  | cons a m =>
   have:=ih (lK h) Y;simp only[Ĺ,Nat.add_sub_cancel]at this |-;have e:Pq (d::a::m)=d.toNat+JH*Pq (a::m):=I;rw[e,Ğ];have:=ĝ JH this;rw[Ě]at this;omega
abbrev length_le{l:List UInt32}(h:norm l)(hv:Pq l<JH^k):l.length<=k:=by
 rcases ĳ k l.length with hk | hk
 .have h1:=DT h Z;have h2:JH^k<=JH^(l.length-1):=ĸ jX Z;omega
 exact hk
abbrev dn{n:Nat}(h:n<JH^k):(LZ n).length<=k:=length_le (gU n) (by rw[L6]; exact h)
abbrev iU(l:List UInt32)(k:Nat)(hk:k<=l.length):Pq l=Pq (l.take k)+JH^k*Pq (l.drop k):=by
 conv=>lhs; rw[<-ň k l]
 rw[val_append]; simp[Nat.min_eq_left hk]
abbrev iY(l:List UInt32)(d:UInt32):Pq (l++[d])=Pq l+JH^l.length*d.toNat:=by
 rw[val_append]; simp[Pq]
abbrev bT(l:List UInt32)(k:Nat)(h:k<l.length):Pq (l.take (k+1))=Pq (l.take k)+JH^k*l[k].toNat:=by
 rw[ı h,iY]; simp[Nat.min_eq_left (Nat.le_of_lt h)]
abbrev nU(l:List UInt32)(k:Nat)(h:k<l.length):Pq (l.drop k)=l[k].toNat+JH*Pq (l.drop (k+1)):=by
 rw[Ķ h]; rfl
abbrev lM{l:List UInt32}{n:Nat}(hn:n<=l.length)(hv:Pq (l.take n)=Pq l)(h:n=0∨∃h:n-1<l.length,l[n-1]≠0):LZ (Pq l)=l.take n:=by
 rw[<-hv];apply Hq;rcases h with rfl | ⟨h1,h2⟩
 .simp[norm]
 rcases ę n with rfl | hp
 .simp[norm]
 have hl:(l.take n).length=n:=by simp[Nat.min_eq_left hn]
 apply uS Z;simp only[hl];rw[ayP];exact h2
def shr(p:Nat):List UInt32->List UInt32
 | []=>[]
 | d::l=>UInt32.ofNat ((d.toNat+JH*(l.headD 0).toNat)/2^p)::shr p l
abbrev Ah(p:Nat)(l:List UInt32):(shr p l).length=l.length:=by
 induction l with
 | nil=>rfl
 | cons d l ih=>simp[shr,ih]
abbrev Ye(p:Nat)(l:List UInt32):∀(i:Nat) (h:i<l.length),(shr p l)[i]'(by rw[Ah]; exact h)=UInt32.ofNat (((l.getD i 0).toNat+JH*(l.getD (i+1) 0).toNat)/2^p):=by
 induction l with
 | nil=>intro i h; simp at h
 | cons d l ih =>
  intro i h;cases i with
  | zero=>cases l<;>simp[shr]
  | succ i =>
   have:=ih i (by simpa using h);simp only[shr,List.getElem_cons_succ,List.getD_cons_succ];exact this
abbrev LD(p:Nat)(h:p<=32):JH=2^p*2^(32-p):=by
 rw[<-Ν,show p+(32-p)=32 by omega]; rfl
abbrev ofNat_toNat(n:Nat):(UInt32.ofNat n).toNat=n%JH:=by simp[JH]
abbrev Yf(p:Nat)(h:p<=32)(l:List UInt32):Pq (shr p l)=Pq l/2^p:=by
 induction l with
 | nil=>simp[shr,Pq]
 | cons d l ih =>
  simp only[shr,Pq,ih,ofNat_toNat];have h2:0<2^p:=œ p;cases l with
  | nil =>
   simp only[List.headD_nil,Pq];have hd:d.toNat<JH:=d.toNat_lt;have:d.toNat/2^p<JH:=ayQ (ϔ _ _) hd;simp[Nat.mod_eq_of_lt this]
  | cons e m =>
   simp only[List.headD_cons,Pq];generalize Pq m=V;have hD:d.toNat<JH:=d.toNat_lt;generalize d.toNat=D at hD;generalize e.toNat=E;obtain⟨c,hc⟩:∃c,JH=2^p*c:=⟨_,LD p h⟩;have e0:JH*V=2^p*(c*V):=by rw[<-ğ,<-hc]
   have e1:D+JH*(E+JH*V)=(D+JH*E)+2^p*(JH*(c*V)):=by
    rw[õ,e0,ϩ JH (2^p),Ξ]
   rw[e1,e0,ay1 _ _ h2,ay1 _ _ h2,õ,<-Ξ];congr 1;have e3:(D+JH*E)/2^p/JH=E/2^p:=by
    rw[Nat.div_div_eq_div_mul,Ě (2^p) JH,<-Nat.div_div_eq_div_mul];rw[ay1 _ _ jX,ay2 hD,Ĳ]
   have:=Ś ((D+JH*E)/2^p) JH;rw[e3]at this;exact this
abbrev ZN{m P L D0 D1 D2 V0 V1:Nat}(hP:P=L+JH^m*(D0+JH*D1+JH*JH*D2))(hL:L<JH^m)(hV:V=M+JH^m*(V0+JH*V1))(hM:M<JH^m)
  (hV1:0<V1) (hD0:D0<JH) (hq:q<JH) (hPV:P<JH*V) (h1:q*(V1*JH+V0)<=(D2*JH+D1)*JH+D0)
  (h2:q=(D2*JH+D1)/V1∨JH<=q+1∨(D2*JH+D1)*JH+D0<(q+1)*(V1*JH+V0)):P/V<=q∧q<=P/V+1:=by
 have hE:0<JH^m:=ayR jX;generalize JH^m=E at *;have hT:D0+JH*D1+JH*JH*D2=(D2*JH+D1)*JH+D0:=by
  rw[Œ,Ě D1 JH,ğ D2,Ě D2]; omega
 have hW:V0+JH*V1=V1*JH+V0:=by rw[Ě JH]; omega
 rw[hT]at hP;rw[hW]at hV;have Ϛ:0<V:=by
  have:0<E*(V1*JH+V0):=ϕ hE (by have:=ϕ hV1 jX; omega);omega
 constructor
 ·
  rcases h2 with h | h | h
  ·
   have hle:P/V*V<=P:=Nat.div_mul_le_self P V;rw[h];rw[Nat.le_div_iff_mul_le hV1];generalize P/V=c at hle;generalize D2*JH+D1=T at *;have e1:c*V=c*M+E*(c*V1*JH)+E*(c*V0):=by
    rw[hV,õ,õ E,õ c,ϩ c E,ϩ c E,<-ğ c V1 JH]; omega
   have hlt:P<E*((T+1)*JH):=by
    have:E*(T*JH+D0)+E<=E*((T+1)*JH):=by
     rw[<-Ŕ]; exact ĝ _ (by rw[Œ]; omega)
    omega
   have h3:E*(c*V1*JH)<E*((T+1)*JH):=Z
   have h4:=azm h3;have h5:=Nat.lt_of_mul_lt_mul_right h4;omega
  .have:P/V<JH:=ϓ (by rw[Ě]; exact hPV);omega
  have h3:P<(q+1)*V:=by
   have h4:E*((D2*JH+D1)*JH+D0)+E<=E*((q+1)*(V1*JH+V0)):=by
    rw[<-Ŕ]; exact ĝ _ h
   have h5:(q+1)*V=(q+1)*M+E*((q+1)*(V1*JH+V0)):=by rw[hV,õ,ϩ]
   generalize (q+1)*V=x1 at *;generalize (q+1)*M=x2 at *;generalize E*((q+1)*(V1*JH+V0))=x3 at *;generalize E*((D2*JH+D1)*JH+D0)=x4 at *;omega
  exact aze ((azf Ϛ).2 h3)
 
 rcases ę q with rfl | hq0
 .exact Õ _
 obtain⟨c,rfl⟩:∃c,q=c+1:=⟨q-1,Z⟩;have h3:c*V<=P:=by
  have h4:E*((c+1)*(V1*JH+V0))<=E*((D2*JH+D1)*JH+D0):=ĝ _ h1;have h5:(c+1)*V=(c+1)*M+E*((c+1)*(V1*JH+V0)):=by rw[hV,õ,ϩ]
  have h6:(c+1)*M<=JH*E:=Μ (ϙ hq) (ϙ hM);have h7:JH*E<=V:=by
   rw[hV];have:E*(1*JH)<=E*(V1*JH+V0):=ĝ _ (by have:=ő JH hV1; omega);rw[Nat.one_mul,Ě]at this; omega
  rw[Nat.succ_mul c V]at h5;generalize c*V=x0 at *;generalize (c+1)*M=x2 at *;generalize E*((c+1)*(V1*JH+V0))=x3 at *;generalize E*((D2*JH+D1)*JH+D0)=x4 at *;generalize JH*E=x5 at *;omega
 exact Nat.succ_le_succ ((Nat.le_div_iff_mul_le Ϛ).2 h3)
abbrev acz{P:Nat}(neg:Bool)(Ϛ:0<V)(h1:P/V<=q)(h2:q<=P/V+1)(hx:x<E)(h:P+(if neg then E else 0)=x+q*V) :
  (neg=false->x=P%V∧q=P/V)∧(neg=true->1<=q∧q-1=P/V∧x+V=E+P%V):=by
 have hm:=Ś P V;have hl:=Ň P Ϛ;rcases(show q=P/V∨q=P/V+1 from by
  rcases ĳ (P/V) q with h | h
  .exact .inr (Nat.le_antisymm h2 h)
  exact .inl (Nat.le_antisymm h h1))with rfl | rfl
 .rw[Ě (P/V) V]at h;refine⟨λhn=>?_,λhn=>?_⟩
  .subst hn;simp only[ayJ,if_false,Λ]at h;generalize V*(P/V)=y at *;exact⟨Z,I⟩
  subst hn;simp only[if_true]at h;generalize V*(P/V)=y at *;omega
 rw[Nat.succ_mul,Ě (P/V) V]at h;refine⟨λhn=>?_,λhn=>?_⟩
 .subst hn;simp only[ayJ,if_false,Λ]at h;generalize V*(P/V)=y at *;omega
 subst hn;simp only[if_true]at h;refine⟨Nat.succ_le_succ (Õ _),I,?_⟩;generalize V*(P/V)=y at *;omega
abbrev agQ(l:List UInt32):∃n,n<=l.length∧Pq (l.take n)=Pq l∧(n=0∨∃h:n-1<l.length,l[n-1]≠0):=by
 have key:∀k,k<=l.length->Pq (l.take k)=Pq l->∃n,n<=l.length∧Pq (l.take n)=Pq l∧(n=0∨∃h:n-1<l.length,l[n-1]≠0):=by
  intro k;induction k with
  | zero=>intro hk hv; exact⟨0,hk,hv,.inl I⟩
  | succ k ih =>
   intro hk hv;by_cases h0:l[k]'Z=0
   .refine ih Z ?_;rw[<-hv,bT l k Z,h0]; simp
   exact⟨k+1,hk,hv,.inr ⟨by simp; omega,by simpa using h0⟩⟩
 exact key l.length (Ó _) (by rw[Ħ])
abbrev U6(l:List UInt32):Na.LZ (Pq l)=l.take (LZ (Pq l)).length∧(LZ (Pq l)).length<=l.length ∧
  (∀j (h:j<l.length),(LZ (Pq l)).length<=j->l[j]=0)∧(∀j (h:j<l.length),j+1=(LZ (Pq l)).length->l[j]≠0):=by
 obtain⟨n,hn,hv,ht⟩:=agQ l;have hd:=lM hn hv ht;have hl:(LZ (Pq l)).length=n:=by rw[hd]; simp; omega
 rw[hl];refine⟨hd,hn,λj h hj=>?_,λj h hj=>?_⟩
 .have h1:=iU l j Z;rw[nU l j h]at h1;have h2:=iU (l.take j) n (by simp; omega);rw[List.take_take,Ϭ hj,hv]at h2;have h3:JH^j*(l[j].toNat+JH*Pq (l.drop (j+1)))=0:=Z
  rcases Nat.mul_eq_zero.1 h3 with h4 | h4
  .have:=ayR (n:=j) jX; omega
  exact ř.1 (by simp; omega)
 rcases ht with h0 | ⟨h1,h2⟩
 .omega
 have e:n-1=j:=Z
 simp only[e]at h2;exact h2
abbrev nC(l:List UInt32)(j:Nat):Pq l=Pq (l.take j)+JH^j*Pq (l.drop j):=by
 rcases Nat.le_total j l.length with h | h
 .exact iU l j h
 rw[Ĝ h,Ń h]; simp[Pq]
abbrev oN(l:List UInt32)(j:Nat):Pq (l.drop j)=(l.getD j 0).toNat+JH*Pq (l.drop (j+1)):=by
 rcases ĳ j l.length with h | h
 .rw[nU l j h]; simp[List.getD,List.getElem?_eq_getElem h]
 rw[Ń h,Ń Z]; simp[Pq,List.getD,List.getElem?_eq_none h]
abbrev wM(l:List UInt32)(j:Nat):Pq (l.take j)<JH^j:=
 ā (dV _) (ĸ jX (List.length_take_le _ _))
abbrev iI(l:List UInt32)(j:Nat):Pq (l.take (j+1))=Pq (l.take j)+JH^j*(l.getD j 0).toNat:=by
 rcases ĳ j l.length with h | h
 .rw[bT l j h]; simp[List.getD,List.getElem?_eq_getElem h]
 rw[Ĝ Z,Ĝ h]; simp[List.getD,List.getElem?_eq_none h]
abbrev uU{l:List UInt32}{j:Nat}(h:Pq l<JH^j):Pq (l.take j)=Pq l:=by
 have h1:=nC l j;rcases ę (Pq (l.drop j))with h0 | h0
 .rw[h0]at h1; omega
 have:JH^j*1<=JH^j*Pq (l.drop j):=ĝ _ h0;omega
abbrev acA{l m:List UInt32}{j:Nat}(he:Pq (l.drop (j+1))=Pq (m.drop (j+1)))(h:(l.getD j 0).toNat<(m.getD j 0).toNat):Pq l<Pq m:=by
 have h1:=nC l j;have h2:=nC m j;rw[oN l j]at h1;rw[oN m j,<-he]at h2;have h3:=wM l j;have h4:=wM m j;have h5:JH^j*((l.getD j 0).toNat+1+JH*Pq (l.drop (j+1)))<=JH^j*((m.getD j 0).toNat+JH*Pq (l.drop (j+1))):=ĝ _ Z;rw[show(l.getD j 0).toNat+1+JH*Pq (l.drop (j+1))=(l.getD j 0).toNat+JH*Pq (l.drop (j+1))+1 by omega,Ŕ]at h5;omega
abbrev amS{l m:List UInt32}{j:Nat}(he:Pq (l.drop (j+1))=Pq (m.drop (j+1)))(h:(l.getD j 0).toNat=(m.getD j 0).toNat):Pq (l.drop j)=Pq (m.drop j):=by
 rw[oN l j,oN m j,he,h]
abbrev dg(n:Nat):(UInt32.ofNat n).toNat=n%JH:=by simp[JH]
abbrev step_up{c n t:Nat}(hl:out.length=i)(h:Pq out+JH^i*c=A)(hn:n=t+c):Pq (out++[UInt32.ofNat n])+JH^(i+1)*(n/JH)=A+JH^i*t:=by
 rw[iY,hl,dg,<-h,hn,Ğ,ğ];have:=Ś (t+c) JH;have h2:JH^i*((t+c)%JH)+JH^i*(JH*((t+c)/JH))=JH^i*t+JH^i*c:=by rw[<-õ,this,õ]
 omega
abbrev ZO{C U7 acB n y:Nat}(hl:out.length=i)(h:A+JH^i*U7=Pq out+C)(hn:x+JH*acB=n%JH+y+U7) :
  A+JH^i*x+JH^(i+1)*acB=Pq (out++[UInt32.ofNat n])+(C+JH^i*y):=by
 rw[iY,hl,dg,Ğ,ğ];have h2:JH^i*x+JH^i*(JH*acB)=JH^i*(n%JH)+JH^i*y+JH^i*U7:=by rw[<-õ,hn,õ,õ]
 omega
abbrev ajC{T Lr:Nat}(hr:r=Lr+E*T)(hLr:Lr<E)(hb:b=M+E*V)(hV:0<V):r/b<=T/V:=by
 have hE:0<E:=Z
 have hbp:0<b:=by have:E*1<=E*V:=ĝ _ hV; omega
 rw[Nat.le_div_iff_mul_le hV];have h1:r/b*b<=r:=Nat.div_mul_le_self r b;have h2:r/b*(E*V)<=r/b*b:=ĝ _ Z;have h3:E*(r/b*V)=r/b*(E*V):=by rw[ϩ]
 have h4:E*(r/b*V)<E*(T+1):=by rw[Ŕ]; omega
 exact aze (azm h4)
abbrev U8{l m:List UInt32}{n:Nat}(hm:m.length=n+1)(ht:0<(m.getD n 0).toNat)(hlt:Pq l<JH*Pq m) :
  Pq l/Pq m<=((l.getD (n+1) 0).toNat*4294967296+(l.getD n 0).toNat)/(m.getD n 0).toNat∧Pq l/Pq m<=4294967295∧0<Pq m:=by
 have h1:=nC m n;rw[oN m n,Ń Z]at h1;simp only[Pq,Nat.mul_zero,Λ]at h1;have hml:=dV m;rw[hm]at hml;have hpos:0<Pq m:=by
  have:=ϕ (ayR (n:=n) jX) ht;omega
 have h2:=nC l n;rw[oN l n,oN l (n+1)]at h2;have h3:Pq (l.drop (n+1+1))=0:=by
  rcases ę (Pq (l.drop (n+1+1)))with h | h
  .exact h
  have h4:=nC l (n+1+1);have h5:JH^(n+1+1)*1<=JH^(n+1+1)*Pq (l.drop (n+1+1)):=ĝ _ h;have h6:JH*Pq m<JH*JH^(n+1):=azn hml jX;have h7:JH^(n+1+1)=JH*JH^(n+1):=by rw[Ğ,Ě]
  omega
 rw[h3]at h2;refine⟨?_,?_,hpos⟩
 .refine ajC (Lr:=Pq (l.take n)) (M:=Pq (m.take n)) (E:=JH^n) ?_ (wM l n) h1 ht;rw[h2];have:JH=4294967296:=I;rw[this];congr 2;omega
 have:Pq l/Pq m<JH:=by rw[azf hpos]; exact hlt
 exact aze this
abbrev U9(hq:r/b<=d)(h:b*d<=r)(hb:0<b):d=r/b∧r-b*d=r%b:=by
 have h1:d<=r/b:=(Nat.le_div_iff_mul_le hb).2 (by rw[Ě]; exact h);have e:d=r/b:=Nat.le_antisymm h1 hq;subst e;have:=Ś r b;exact⟨I,Z⟩
abbrev ZP(hq:r/b<=d)(h:r<b*d)(hb:0<b):1<=d∧r/b<=d-1∧b*d-b=b*(d-1)∧b<=b*d:=by
 have h1:r/b<d:=by rw[azf hb,Ě]; exact h
 have h2:0<d:=ayQ (Õ _) h1;obtain⟨k,rfl⟩:∃k,d=k+1:=⟨d-1,Z⟩;refine⟨Z,aze h1,?_,?_⟩
 .rw[Ŕ]; simp
 rw[Ŕ]; omega
abbrev ZQ{Q u:Nat}(hb:0<b)(hr:r<b)(hu:u<JH)(h:Q*b+r=U) :
  ((u+JH*r)/b+JH*Q)*b+(u+JH*r)%b=u+JH*U∧(u+JH*r)/b<JH∧(u+JH*r)%b<b:=by
 refine⟨?_,?_,Ň _ hb⟩
 .have:=Ś (u+JH*r) b;rw[Œ,<-h,õ,Ě ((u+JH*r)/b) b,ğ];omega
 rw[azf hb];have:JH*(r+1)<=JH*b:=ĝ _ hr;rw[Ŕ]at this;omega
abbrev acC{Q:Nat}(h:Q*b+r=U)(hr:r<b):Q=U/b∧r=U%b:=by
 have hb:0<b:=Z
 subst h;rw[ŧ,Ě,ay1 _ _ hb,ay2 hr,Nat.add_mul_mod_self_left,ϗ hr];omega
end Na
namespace Nb
def B:Nat:=256
abbrev jX:0<B:=by decide
abbrev QI:1<B:=by decide
def val:List UInt8->Nat
 | []=>0
 | d::l=>d.toNat+B*val l
def norm(l:List UInt8):Prop:=l.getLast?≠some 0
def kU:Nat->Nat->List UInt8
 | 0,_=>[]
 | f+1,n=>if n=0 then []else UInt8.ofNat n::kU f (n/B)
def ak(n:Nat):List UInt8:=kU n n
abbrev val_append(l m:List UInt8):val (l++m)=val l+B^l.length*val m:=by
 induction l with
 | nil=>simp[val]
 | cons d l ih=>simp only[ō,val,ih,Ĺ,Ğ,õ]; rw[Ě (B^l.length) B,ğ]; omega
abbrev dV(l:List UInt8):val l<B^l.length:=by
 induction l with
 | nil=>simp[val]
 | cons d l ih =>
  have hd:d.toNat<B:=d.toNat_lt;simp only[val,Ĺ,Ğ];have:B*val l+B<=B^l.length*B:=by
   rw[Ě (B^l.length)]; rw[<-Ŕ]; exact ĝ _ ih
  omega
abbrev tV(f:Nat):∀n,n<=f->val (kU f n)=n:=by
 induction f with
 | zero=>intro n h; simp[kU,val]; omega
 | succ f ih =>
  intro n h;unfold kU;split
  .rename_i h0; subst h0; rfl
  rename_i h0;have hlt:n/B<n:=Nat.div_lt_self Z QI;simp only[val];rw[ih (n/B) Z];have:(UInt8.ofNat n).toNat=n%B:=by simp[B]
  rw[this];exact Ś n B
abbrev aG(n:Nat):val (ak n)=n:=tV n n (Ó _)
abbrev Ag(f:Nat):∀n,n<=f->norm (kU f n):=by
 induction f with
 | zero=>intro n _; simp[kU,norm]
 | succ f ih =>
  intro n h;unfold kU;split
  .simp[norm]
  rename_i h0;have hlt:n/B<n:=Nat.div_lt_self Z QI;have hn:=ih (n/B) Z;have hv:=tV f (n/B) Z;unfold norm at hn |-;generalize kU f (n/B)=l at hn hv;cases l with
  | nil =>
   simp only[List.getLast?_singleton];intro he;have h1:=Ñ UInt8.toNat (Ü he);have h2:(UInt8.ofNat n).toNat=n%B:=by simp[B]
   rw[h2]at h1;simp[val]at hv;have:=Ś n B;rw[<-hv]at this;simp at h1;omega
  | cons a l=>simpa[List.getLast?_cons_cons]using hn
abbrev gU(n:Nat):norm (ak n):=Ag n n (Ó _)
abbrev lK{d:UInt8}{l:List UInt8}(h:norm (d::l)):norm l:=by
 cases l with
 | nil=>simp[norm]
 | cons a l=>unfold norm at h |-; simpa[List.getLast?_cons_cons]using h
abbrev val_eq_zero{l:List UInt8}(h:norm l)(h0:val l=0):l=[]:=by
 induction l with
 | nil=>rfl
 | cons d l ih =>
  simp only[val]at h0;have hl:val l=0:=by
   rcases ę (val l)with e | e
   .exact e
   have:0<B*val l:=ϕ jX e;omega
  have:=ih (lK h) hl;subst this;have hd:d=0:=Ϩ.1 (by simp; omega);subst hd;exact(h I).elim
abbrev Ho{l:List UInt8}:∀{m:List UInt8},norm l->norm m->val l=val m->l=m:=by
 induction l with
 | nil=>intro m _ hm h; exact(val_eq_zero hm h.symm).symm
 | cons d l ih =>
  intro m hl hm h;cases m with
  | nil=>exact val_eq_zero hl h
  | cons e m =>
   simp only[val]at h;have hd:d.toNat<B:=d.toNat_lt;have he:e.toNat<B:=e.toNat_lt;have h1:d.toNat=e.toNat:=by
    have:=Ñ (· % B) h;simpa[ϗ hd,ϗ he]using this
   have h2:val l=val m:=by
    have:B*val l=B*val m:=Z
    exact Nat.eq_of_mul_eq_mul_left jX this
   rw[Ϩ.1 h1,ih (lK hl) (lK hm) h2]
abbrev Hq{l:List UInt8}(h:norm l):ak (val l)=l:=Ho (gU _) h (aG _)
abbrev uS{l:List UInt8}(h:0<l.length)(hn:l[l.length-1]≠0):norm l:=by
 unfold norm;rw[List.getLast?_eq_getElem?,List.getElem?_eq_getElem Z];simpa using hn
abbrev uT{l:List UInt8}(h:norm l)(hp:0<l.length):l[l.length-1]≠0:=by
 unfold norm at h;rw[List.getLast?_eq_getElem?,List.getElem?_eq_getElem Z]at h;simpa using h
abbrev DT{l:List UInt8}(h:norm l)(hp:0<l.length):B^(l.length-1)<=val l:=by
 induction l with
 | nil=>simp at hp
 | cons d l ih =>
  cases l with
  | nil =>
   have:=uT h Y;simp only[val,Ĺ,Ϫ];have hd:d.toNat≠0:=λe=>this (Ϩ.1 (by simpa using e));simp; omega
  | cons a m =>
   have:=ih (lK h) Y;simp only[Ĺ,Nat.add_sub_cancel]at this |-;have e:val (d::a::m)=d.toNat+B*val (a::m):=I;rw[e,Ğ];have:=ĝ B this;rw[Ě]at this;omega
abbrev length_le{l:List UInt8}{k:Nat}(h:norm l)(hv:val l<B^k):l.length<=k:=by
 rcases ĳ k l.length with hk | hk
 .have h1:=DT h Z;have h2:B^k<=B^(l.length-1):=ĸ jX Z;omega
 exact hk
abbrev dn{n k:Nat}(h:n<B^k):(ak n).length<=k:=length_le (gU n) (by rw[aG]; exact h)
abbrev iY(l:List UInt8)(d:UInt8):val (l++[d])=val l+B^l.length*d.toNat:=by
 rw[val_append]; simp[val]
abbrev bT(l:List UInt8)(k:Nat)(h:k<l.length):val (l.take (k+1))=val (l.take k)+B^k*l[k].toNat:=by
 rw[ı h,iY]; simp[Nat.min_eq_left (Nat.le_of_lt h)]
abbrev lM{l:List UInt8}{n:Nat}(hn:n<=l.length)(hv:val (l.take n)=val l)(h:n=0∨∃h:n-1<l.length,l[n-1]≠0):ak (val l)=l.take n:=by
 rw[<-hv];apply Hq;rcases h with rfl | ⟨h1,h2⟩
 .simp[norm]
 rcases ę n with rfl | hp
 .simp[norm]
 have hl:(l.take n).length=n:=by simp[Nat.min_eq_left hn]
 apply uS Z;simp only[hl];rw[ayP];exact h2
def le4(d:UInt32):List UInt8:=[d.toUInt8,(d>>>8).toUInt8,(d>>>16).toUInt8,(d>>>24).toUInt8]
def bytes(l:List UInt32):List UInt8:=l.flatMap le4
abbrev agR(d:UInt32):val (le4 d)=d.toNat:=by
 have:=d.toNat_lt;simp[le4,val,B,UInt32.toNat_shiftRight,Nat.shiftRight_eq_div_pow];omega
abbrev ZR(l:List UInt32):(bytes l).length=4*l.length:=by
 induction l with
 | nil=>rfl
 | cons d l ih=>unfold bytes at ih |-; rw[ł,ì,ih]; simp[le4]; omega
abbrev ZT(l:List UInt32):val (bytes l)=Na.Pq l:=by
 induction l with
 | nil=>rfl
 | cons d l ih =>
  unfold bytes at ih |-;rw[ł,val_append,ih,agR];have h4:(le4 d).length=4:=I;have:B^(le4 d).length=Na.JH:=by rw[h4]; simp[B,Na.JH]
  rw[this]; rfl
abbrev Va(l:List UInt32)(d:UInt32):bytes (l++[d])=bytes l++le4 d:=by simp[bytes]
end Nb
namespace Go.Proofs.Pv
abbrev kL:gu prog 22 119 (.int .u32 0) 1 4:=⟨underlying22,info_parts X,I,by decide⟩
abbrev DU:gu prog 53 5 (.u 0) 1 1:=⟨underlying53,info_parts X,I,by decide⟩
open Go.RowKit
variable{α:Type}
abbrev Hr(l:List UInt32)(k:Nat)(hk:k<l.length)(hv:Na.Pq (l.take (k+1))=Na.Pq l)(h:l[k]=0):Na.Pq (l.take k)=Na.Pq l:=by
 rw[<-hv,Na.bT l k hk,h]; simp
abbrev short_any(v:À)(l:List UInt32)(w:Á)(hv:aF w v l) :
  Ä prog 318 #[v] w λe w'=>∃a,e = .R (.s a (Na.LZ (Na.Pq l)).length (Na.LZ (Na.Pq l)).length) ∧
   aF w (.s a (Na.LZ (Na.Pq l)).length (Na.LZ (Na.Pq l)).length) (Na.LZ (Na.Pq l))∧w=w':=by
 have hv0:=Â hv;obtain⟨a,cap,rfl,hm,ha⟩:=hv;have hl:=rM hm ha;have hcap:l.length<=cap:=by
  rcases ha with ⟨rfl,_⟩ | ⟨_,_,_,_,h,_⟩
  .simp
  exact h
 have HA:=Â ha;clear ha;unfold maxLen at hm;go_enter func318,ntmps318
 go_wp2
 go_loop [3] (λi=>∃k:Nat,k<=l.length∧i = .i k∧Na.Pq (l.take k)=Na.Pq l) (λi=>(intOf i).toNat)
 case atStart=>exact⟨l.length,Ó _,I,by rw[Ħ]⟩
 case round =>
  obtain⟨k,hk,rfl,hval⟩:=hrel;have HV:=Â hval;clear hval;by_cases h0:k=0
  .subst h0;go_wp2
   go_ret
   have hD:Na.LZ (Na.Pq l)=l.take 0:=Na.lM Z HV.out (.inl I);have hr:=Gj (cap':=0) (n:=0) hv0.out Z Z (by unfold maxLen; omega) (λ_=>I);refine⟨a,by rw[hD]; rfl,by rw[hD]; exact hr,I⟩
  obtain⟨j,rfl⟩:∃j,k=j+1:=⟨k-1,Z⟩;rcases HA.out with ⟨rfl,_⟩ | ⟨b,o,rfl,hb,hlc,hc⟩
  .simp at hk
  have hck:=hc j Z;have hlt:j<l.length:=Z
  clear hc;by_cases hz:l[j]=0
  .have HE:=Â (Hr l j hlt HV.out hz);rw[hz]at hck;go_wp2
   go_round
   case rel=>exact⟨j,Z,by go_num,HE.out⟩
   case measure=>simp[intOf]
  have hzb:((l[j].toNat:Int)==0)=false:=by
   rw[ä]; intro e; exact hz (ř.1 (by simp; omega))
  have HZ:=Â hz;clear hz;go_wp2
  go_ret
  have hD:Na.LZ (Na.Pq l)=l.take (j+1):=Na.lM Z HV.out (.inr ⟨Z,HZ.out⟩);have hr:=Gj (cap':=j+1) (n:=j+1) hv0.out Z Z (by unfold maxLen; omega) (λh=>by cases h);have e:(l.take (j+1)).length=j+1:=by simp; omega
  refine⟨_,by rw[hD,e]; rfl,by rw[hD,e]; exact hr,I⟩
abbrev Yg(v:À)(l:List UInt32)(w:Á)(hv:aF w v l)(hlen:l.length<=1000000000) :
  Ä prog 200 #[v] w λe w'=>∃v',e = .R v'∧w'.ownsRow w.heap.size 119 1 v' l.length (l.map aU)∧Ext w w':=by
 have hr:=hv.raw (λ_=>I);obtain⟨a,cap,rfl,hm,ha⟩:=hv;rcases a with _ | ad
 .have hz:l=[]∧cap=0:=by
   rcases ha with ⟨h,h0⟩ | ⟨b,o,h,_⟩
   .exact⟨h,h0 I⟩
   cases h
  obtain⟨rfl,rfl⟩:=hz;have hnil:=Lib.run_eql_slice_nil (P:=prog) w 22 119 none 0 0 0 0 underlying22;clear ha hr;go_enter func200,ntmps200
  go_wp2
  go_ret
  exact⟨_,I,ayS _ _ _ _,ù _ _⟩
 have hnil:=Lib.run_eql_slice_nil (P:=prog) w 22 119 (some ad) l.length cap 0 0 underlying22;have hown:=ϒ (base:=w.heap.size) (e:=119) (size:=1) w #[] 0 (Ó _) (Õ _) I;have hr:=DL hr (.cells #[] 119);have h63:0+l.length<=maxLen:=by unfold maxLen; omega
 have hby:(0+l.length)*4<=140737488355328:=Z
 clear ha;go_enter func200,ntmps200
 go_wp2_with (at_builtin; refine bD I _ _ _ I kL w.heap.size hown I hr I h63 hby Y ?_; intro v' w' hown' hg)
 go_ret
 simp only[Ĳ,ĵ]at hown';exact⟨_,I,by simpa using hown',((ù _ _).alloc (Ó _) _).grown hg Y (by simp[Value.ownBlock])⟩
abbrev bP(l:List UInt32):(Na.LZ (Na.Pq l)).length<=l.length:=Na.dn (Na.dV l)
abbrev pF(v:À)(l:List UInt32)(w:Á)(hv:aF w v l)(hlen:l.length<=1000000000) :
  Ä prog 313 #[v] w λe w'=>∃v',e = .R v' ∧
   w'.ownsRow w.heap.size 119 1 v' (Na.LZ (Na.Pq l)).length ((Na.LZ (Na.Pq l)).map aU)∧Ext w w':=by
 have hd:=bP l;have HV:=Â hv;clear hv;go_enter func313,ntmps313
 go_wp2_with fail
 refine(short_any _ _ _ HV.out).mono ?_;rintro e w' ⟨a,rfl,hr,rfl⟩;generalize hx:Na.LZ (Na.Pq l)=m at hd hr;have HX:=Â hx;clear hx;go_wp2_with fail
 refine(Yg _ _ _ hr Z).mono ?_;rintro e w' ⟨v',rfl,ho,hb⟩;have HO:=Â ho;clear ho;go_wp2_with fail
 go_ret
 exact⟨_,I,by rw[HX.out]; exact HO.out,hb⟩
abbrev fA(d:UInt32):IntKind.u64.wrap (d.toNat:Int)=(d.toNat:Int):=by
 have:=d.toNat_lt; rw[Ŏ]; omega
abbrev QJ(x:UInt64):Na.Pq [x.toUInt32,(x>>>32).toUInt32]=x.toNat:=by
 have:=x.toNat_lt;simp[Na.Pq,Na.JH,UInt64.toNat_shiftRight,Nat.shiftRight_eq_div_pow];omega
abbrev yG(x:UInt64):(x.toNat:Int)%(4294967296:Int)=(x.toUInt32.toNat:Int):=by simp
abbrev NK(x:UInt64):(x.toNat:Int)/(4294967296:Int)=((x>>>32).toNat:Int):=by
 rw[UInt64.toNat_shiftRight]; simp[Nat.shiftRight_eq_div_pow]
abbrev qM(x:UInt64)(w:Á) :
  Ä prog 294 #[agF x] w λe w'=>∃v',e = .R v' ∧
   w'.ownsRow w.heap.size 119 1 v' (Na.LZ x.toNat).length ((Na.LZ x.toNat).map aU)∧Ext w w':=by
 have hr:aF (w.alloc (.cells #[aU x.toUInt32,aU (x>>>32).toUInt32] 119)) (.s (some ⟨w.heap.size,0,none⟩) 2 2) [x.toUInt32,(x>>>32).toUInt32]:=
  NI w [x.toUInt32,(x>>>32).toUInt32] _ (by unfold maxLen; simp)
 have hb1:=aH w (.cells #[aU x.toUInt32,aU (x>>>32).toUInt32] 119);have hc:=pF _ _ _ hr Y;rw[QJ]at hc;have HC:=Â hc;clear hc;go_enter func294,ntmps294
 go_wp2_with fail
 rw[yG,NK,yG];refine HC.out.mono ?_;rintro e w' ⟨v',rfl,ho,hb⟩;have HO:=Â (bK ho hb1.size);clear ho HC;go_wp2_with fail
 go_ret
 exact⟨_,I,HO.out,Ã hb1 hb⟩
abbrev qE(v:À)(l:List UInt32)(i:Nat)(w:Á)(hv:aF w v l)(hi:i<=4000000000) :
  Ä prog 332 #[v,.i i] w λe w'=>e = .R (.int .u64 ((l.getD i 0).toNat:Int))∧w=w':=by
 obtain⟨a,cap,rfl,hm,ha⟩:=hv;have hl:=rM hm ha;have HA:=Â ha;clear ha;by_cases hlt:i<l.length
 .rcases HA.out with ⟨rfl,_⟩ | ⟨b,o,rfl,hb,hlc,hc⟩
  .simp at hlt
  have hck:=hc i hlt;clear hc;have e:l.getD i 0=l[i]:=by simp[List.getD,List.getElem?_eq_getElem hlt]
  rw[e];go_enter func332,ntmps332
  go_wp2
  go_ret
  exact⟨eX (fA _),I⟩
 have e:l.getD i 0=0:=by simp[List.getD,List.getElem?_eq_none (Nat.le_of_not_lt hlt)]
 rw[e];go_enter func332,ntmps332
 go_wp2
 go_ret
 exact⟨I,I⟩
def rD(a b:Nat):Int:=if a<b then -1 else if b<a then 1 else 0
abbrev agS(a b:List UInt32)(h:a.length=b.length)(k:Nat)(hk:k<a.length)(he:a.drop (k+1)=b.drop (k+1)) :
  (a[k]<b[k]'Z->Na.Pq a<Na.Pq b)∧(b[k]'Z<a[k]->Na.Pq b<Na.Pq a):=by
 have ha:=Na.iU a k Z;have hb:=Na.iU b k Z;rw[Na.nU a k hk]at ha;rw[Na.nU b k Z,<-he]at hb;have la:=Na.dV (a.take k);have lb:=Na.dV (b.take k);have ea:(a.take k).length=k:=by simp; omega
 have eb:(b.take k).length=k:=by simp; omega
 rw[ea]at la;rw[eb]at lb;have key:∀x y z:Nat,x<y->Na.JH^k*(x+Na.JH*z)+Na.JH^k<=Na.JH^k*(y+Na.JH*z):=by
  intro x y z hxy;rw[<-Ŕ];exact ĝ _ Z
 constructor
 .intro hlt;have:=key _ _ (Na.Pq (a.drop (k+1))) (UInt32.lt_iff_toNat_lt.1 hlt);omega
 intro hlt;have:=key _ _ (Na.Pq (a.drop (k+1))) (UInt32.lt_iff_toNat_lt.1 hlt);omega
abbrev Yh{a b:List UInt32}(ha:Na.norm a)(hb:Na.norm b)(h:a.length<b.length):Na.Pq a<Na.Pq b:=by
 have h1:=Na.dV a;have h2:=Na.DT hb Z;have h3:Na.JH^a.length<=Na.JH^(b.length-1):=ĸ Na.jX Z;omega
abbrev yH{a b:Nat}(h:a<b):rD a b = -1:=by unfold rD; rw[Ï h]
abbrev Gm{a b:Nat}(h:b<a):rD a b=1:=by unfold rD; rw[É Z,Ï h]
abbrev Yi{a b:Nat}(h:a=b):rD a b=0:=by unfold rD; rw[É Z,É Z]
abbrev BK(v u:À)(l m:List UInt32)(w:Á)(hv:aF w v l)(hu:aF w u m) :
  Ä prog 320 #[v,u] w (RF w (.i (rD (Na.Pq l) (Na.Pq m)))):=by
 have na:=Na.gU (Na.Pq l);have nb:=Na.gU (Na.Pq m);have ea:=Na.L6 (Na.Pq l);have eb:=Na.L6 (Na.Pq m);have hll:(Na.LZ (Na.Pq l)).length<=maxLen:=ï (bP l) hv.len;have hlm:(Na.LZ (Na.Pq m)).length<=maxLen:=ï (bP m) hu.len;have H1:=Â hv;have H2:=Â hu;have C1:=Â (short_any v l w hv);have C2:=Â (short_any u m w hu);clear hv hu;unfold maxLen at hll hlm;rw[<-ea,<-eb];generalize Na.LZ (Na.Pq l)=a at *;generalize Na.LZ (Na.Pq m)=b at *;have EA:=Â ea;have EB:=Â eb;have NA:=Â na;have NB:=Â nb;clear ea eb na nb;go_enter func320,ntmps320
 go_wp2_with fail
 refine C1.out.mono ?_;rintro e w' ⟨x,rfl,hx,rfl⟩;go_wp2_with fail
 refine C2.out.mono ?_;rintro e w' ⟨y,rfl,hy,rfl⟩;clear C1 C2 H1 H2;rcases ay3 a.length b.length with hlt | heq | hgt
 .have hne:((a.length:Int) != (b.length:Int))=true:=by rw[bne_iff_ne]; omega
  have hr:=Â (yH (Yh NA.out NB.out hlt));go_wp2_with fail
  go_ret
  exact⟨by rw[hr.out]; rfl,ù _ _⟩
 .have hne:((a.length:Int) != (b.length:Int))=false:=by rw[bne_eq_false_iff_eq]; omega
  have HQ:=Â heq;clear heq;go_wp2_with fail
  rw[HQ.out]at hx |-;rw[HQ.out]at hll;go_loopw [5] (λi wr=>∃k:Nat,k<=b.length∧i = .i ((k:Int)-1)∧a.drop k=b.drop k∧Ext w wr) (λi _=>(intOf i+1).toNat)
  case atStart=>exact⟨b.length,Ó _,I,by rw[List.drop_length,<-HQ.out,List.drop_length],ù _ _⟩
  case round =>
   obtain⟨k,hk,rfl,hd,hbel⟩:=hrel;have HD:=Â hd;clear hd;cases k with
   | zero =>
    have hr:=Â (Yi (Ñ Na.Pq (show a=b from HD.out)));go_wp2_with fail
    go_ret
    exact⟨by rw[hr.out]; rfl,hbel⟩
   | succ j =>
    have hi:(((j+1:Nat):Int)-1)=(j:Int):=Z
    rw[hi];obtain⟨bx,ox,cx,hxs,hbx,hlx,hmx,hcx⟩:=dH hx HQ.out Z;obtain⟨by',oy,cy,hys,hby,hly,hmy,hcy⟩:=dH hy I Z;simp only[Ĉ]at hxs hys;obtain⟨rfl,-,-⟩:=hxs;obtain⟨rfl,-,-⟩:=hys;have hja:j<a.length:=by rw[HQ.out]; omega
    have c1:wr.cell? ⟨bx,ox+j,none⟩=some (aU a[j]):=by rw[hbel.cell (p:=⟨bx,ox+j,none⟩) hbx]; exact hcx j hja
    have c2:wr.cell? ⟨by',oy+j,none⟩=some (aU b[j]):=by rw[hbel.cell (p:=⟨by',oy+j,none⟩) hby]; exact hcy j Z
    clear hcx hcy;have hj1:(0:Int)<=j:=Z
    have hj2:(j:Int)<b.length:=Z
    have hcmp:=Â (agS a b HQ.out j hja HD.out);have hdrop:Hid (a[j]=b[j]->a.drop j=b.drop j):=λe=>by
     rw[Ķ hja,Ķ (show j<b.length by omega),e,HD.out]
    rcases ay3 a[j].toNat b[j].toNat with h1 | h1 | h1
    .have hr:=Â (yH (hcmp.out.1 (UInt32.lt_iff_toNat_lt.2 h1)));have h1':(a[j].toNat:Int)<b[j].toNat:=Z
     go_wp2_with fail
     go_quiet (fail)
     go_wp2_with fail
     go_ret
     exact⟨by rw[hr.out]; rfl,below_drewN hbel _⟩
    .have h1':¬(a[j].toNat:Int)<b[j].toNat:=Z
     have h2':¬(b[j].toNat:Int)<a[j].toNat:=Z
     have HE:=Â h1;clear h1;go_wp2_with fail
     go_quiet (fail)
     go_wp2_with fail
     go_quiet (fail)
     go_wp2_with fail
     go_roundw
     case rel=>exact⟨j,Z,I,hdrop.out (ř.1 HE.out),below_drewN hbel _⟩
     case measure=>simp[intOf]
    have hr:=Â (Gm (hcmp.out.2 (UInt32.lt_iff_toNat_lt.2 h1)));have h1':¬(a[j].toNat:Int)<b[j].toNat:=Z
    have h2':(b[j].toNat:Int)<a[j].toNat:=Z
    go_wp2_with fail
    go_quiet (fail)
    go_wp2_with fail
    go_quiet (fail)
    go_wp2_with fail
    go_ret
    exact⟨by rw[hr.out]; rfl,below_drewN (below_drewN hbel _) _⟩
 have hne:((a.length:Int) != (b.length:Int))=true:=by rw[bne_iff_ne]; omega
 have hr:=Â (Gm (Yh NB.out NA.out hgt));go_wp2_with fail
 go_ret
 exact⟨by rw[hr.out]; rfl,ù _ _⟩
open Go.RowKit
variable{α:Type}
abbrev agT(r:Nat)(x:UInt32)(h:r<4294967296):bits .or .u64 ((r:Int)*4294967296) (IntKind.u64.wrap (x.toNat:Int))=((r*4294967296+x.toNat:Nat):Int):=by
 have hx:=x.toNat_lt;rw[fA];have e:((r:Int)*4294967296)=((r*4294967296:Nat):Int):=by simp
 rw[e,u64_or_nat _ _ Z Z,nat_join 32 _ _ Z Z]
abbrev acD(a b:Nat):(a:Int).tdiv (b:Int)=((a/b:Nat):Int):=by
 rw[Int.tdiv_eq_ediv_of_nonneg (Int.natCast_nonneg _)]; rfl
abbrev bJ{n:Nat}(h:n<4294967296):(UInt32.ofNat n).toNat=n:=by simp; omega
abbrev ZU(N d:Nat)(hd:0<d)(hd2:d<4294967296)(h:N<d*4294967296) :
  IntKind.u64.wrap ((N:Int)/(d:Int))%(4294967296:Int)=((UInt32.ofNat (N/d)).toNat:Int):=by
 have hq:N/d<4294967296:=ϓ h;rw[bJ hq,Ŏ];have e:(N:Int)/(d:Int)=((N/d:Nat):Int):=I;rw[e];generalize N/d=q at hq;omega
abbrev agU(q r d n:Nat)(h:q*d+r=n)(hr:r<d):q=n/d∧r=n%d:=by
 subst h;have:0<d:=Z
 rw[ŧ,Ě,ay1 _ _ this,ay2 hr,Nat.add_mul_mod_self_left,ϗ hr];omega
abbrev one_any(v:À)(l:List UInt32)(d:UInt32)(w:Á)(hv:aF w v l)(hd:0<d.toNat)(hlen:l.length<=1000000000) :
  Ä prog 321 #[v,aU d] w λe w'=>∃v',e = .R (.tuple #[v',.int .u32 ((Na.Pq l%d.toNat:Nat):Int)]) ∧
   aF w' v' (Na.LZ (Na.Pq l/d.toNat))∧Ext w w':=by
 have hv0:=Â hv;obtain⟨a,cap,rfl,hm,ha⟩:=hv;have HA:=Â ha;clear ha;have h63:l.length<=maxLen:=by unfold maxLen; omega
 have hby:4*l.length<=281474976710656:=Z
 have hdl:=d.toNat_lt;go_enter func321,ntmps321
 go_wp2_with (at_make; refine wpList_make_row I _ _ _ I kL I w.heap.size l.length I I I hby h63 (Ó _) ?_; intro w1 hown hg)
 have hb1:=fU (ù w.heap.size w) hg (Ó _);clear hg;have HO:=Â hown;clear hown;go_loopw [7,8] (λr i wr=>∃(k rest:Nat) (q:List UInt32),k+q.length=l.length∧i = .i ((k:Int)-1)∧r = .int .u64 rest∧rest<d.toNat ∧
  Na.Pq q*d.toNat+rest=Na.Pq (l.drop k)∧wr.ownsRow w.heap.size 119 1 (.s (some ⟨w.heap.size,0,none⟩) l.length l.length) l.length ((List.replicate k 0++q).map aU)∧Ext w wr) (λ_ i _=>(intOf i+1).toNat)
 case atStart=>exact⟨l.length,0,[],by simp,I,I,hd,by simp[Na.Pq],by simpa[aU]using HO.out,hb1⟩
 case round =>
  obtain⟨k,rest,q,hkq,rfl,rfl,hr,hval,hown,hbel⟩:=hrel;have HV:=Â hval;have HK:=Â hkq;have HW:=Â hown;have hkl:k<=l.length:=Z
  clear hval hkq hown;cases k with
  | zero =>
   simp only[ay4,ĵ]at HW;simp only[Ĳ]at HK;have hrow:aF wr (.s (some ⟨w.heap.size,0,none⟩) l.length l.length) q:=by
    have:=HW.out; rw[<-HK.out]at this |-; exact aS this
   have hq:=agU (Na.Pq q) rest d.toNat (Na.Pq l) (by have:=HV.out; simpa using this) hr;have HQ:=Â hq;clear hq HO;go_wp2_with fail
   refine(short_any _ _ _ hrow).mono ?_;rintro e w' ⟨a',rfl,hs,rfl⟩;have hrm:(rest:Int)%4294967296=rest:=Z
   go_wp2_with fail
   go_ret2
   rw[HQ.out.1]at hs |-;exact⟨_,by rw[HQ.out.2]; rfl,hs,hbel⟩
  | succ j =>
   have hi:(((j+1:Nat):Int)-1)=(j:Int):=Z
   rw[hi];rcases HA.out with ⟨rfl,_⟩ | ⟨b,o,rfl,hb,hlc,hc⟩
   .simp at hkl
   have hck:wr.cell? ⟨b,o+j,none⟩=some (aU l[j]):=by rw[hbel.cell (p:=⟨b,o+j,none⟩) hb]; exact hc j Z
   clear hc hi;obtain⟨N,hN⟩:∃N,N=rest*4294967296+l[j].toNat:=⟨_,I⟩;have hor:bits .or .u64 ((rest:Int)*4294967296) (IntKind.u64.wrap (l[j].toNat:Int))=(N:Int):=by rw[hN]; exact agT rest l[j] Z
   have HN:=Â hN;have hlen2:(List.replicate (j+1) (0:UInt32)++q).length=l.length:=by have:=HK.out; simp; omega
   have hcell:=HW.out.cellAt j Z;rw[List.getElem?_map,List.getElem?_append_left Y,List.getElem?_replicate,Ï Z,Ę]at hcell;have hfz:=HW.out.frozenAt j;have hst:=HW.out.stored j (aU (UInt32.ofNat (N/d.toNat)));rw[ĥ,ay5,Gl]at hst;have HS:=Â hst;clear hN hst HO;go_wp2_with fail
   go_roundw
   case rel =>
    have hNd:N<d.toNat*4294967296:=by have:=HN.out; have:=l[j].toNat_lt; have:=ő 4294967296 (show rest+1<=d.toNat from hr); omega
    rw[ZU N d.toNat hd hdl hNd,show(N:Int)%(d.toNat:Int)=((N%d.toNat:Nat):Int)from rfl];refine⟨j,N%d.toNat,UInt32.ofNat (N/d.toNat)::q,?_,I,I,Ň _ hd,?_,?_,?_⟩
    .have:=HK.out; simp; omega
    .rw[Na.nU l j Z,<-HV.out];have e:(UInt32.ofNat (N/d.toNat)).toNat=N/d.toNat:=bJ (by exact ϓ hNd);have:=Ś N d.toNat;have h2:=HN.out;simp only[Na.Pq,Na.JH,e];rw[Œ,Ě (N/d.toNat)];rw[õ,ğ];omega
    .simpa[aU]using HS.out.1
    exact hbel.setCell (p:=⟨w.heap.size,j,none⟩) (Ó _) _
   case measure=>simp[intOf]
open Go.RowKit
variable{α:Type}
abbrev acE(r:Nat)(x:Nat)(h:r<4294967296)(hx:x<4294967296):bits .or .u64 (x:Int) ((r:Int)*4294967296)=((x+Na.JH*r:Nat):Int):=by
 have e:((r:Int)*4294967296)=((r*4294967296:Nat):Int):=by simp
 rw[e,u64_or_nat _ _ Z Z,Nat.or_comm,nat_join 32 _ _ Z Z];congr 1;unfold Na.JH; omega
abbrev acF{β:Type}(l:List β)(z:β)(i:Nat)(h:i<l.length):(l.take i++List.replicate (l.length-i) z).set i l[i]=l.take (i+1)++List.replicate (l.length-(i+1)) z:=by
 obtain⟨k,hk⟩:∃k,l.length-i=k+1:=⟨l.length-i-1,Z⟩;rw[hk,show l.length-(i+1)=k by omega,List.set_append,azd];have e:(l.take i).length=i:=by simp; omega
 rw[e,É Z,Κ,List.set_cons_zero,take_snoc l i h,ĭ];rfl
abbrev LG(N p:Nat):(N:Int)/2^p%(4294967296:Int)=((UInt32.ofNat (N/2^p)).toNat:Int):=by simp
abbrev Vb(v:À)(l:List UInt32)(p:Nat)(w:Á)(hv:aF w v l)(hp:0<p)(hp2:p<=31)(hlen:l.length<=1000000000) :
  Ä prog 323 #[v,.i (-(p:Int))] w λe w'=>∃a,e = .R (.s a (Na.LZ (Na.Pq l/2^p)).length (Na.LZ (Na.Pq l/2^p)).length) ∧
   aF w' (.s a (Na.LZ (Na.Pq l/2^p)).length (Na.LZ (Na.Pq l/2^p)).length) (Na.LZ (Na.Pq l/2^p))∧Ext w w':=by
 have hd:=bP l;have ea:=Na.L6 (Na.Pq l);have C1:=Â (short_any v l w hv);clear hv;rw[<-ea];generalize Na.LZ (Na.Pq l)=a at *;have EA:=Â ea;clear ea;have hneg : -(p:Int)<0:=Z
 by_cases h0:a.length=0
 .obtain rfl:a=[]:=Ŝ h0;go_enter func323,ntmps323
  go_wp2_with fail
  refine C1.out.mono ?_;rintro e w' ⟨x,rfl,hx,rfl⟩;go_wp2_with fail
  go_ret
  exact⟨none,by simp[Na.Pq,Na.LZ,Na.kU],by simpa[Na.Pq,Na.LZ,Na.kU]using Gi w,ù _ _⟩
 have h1:0<a.length:=Z
 have h63:a.length<=maxLen:=by unfold maxLen; omega
 have hby:4*a.length<=281474976710656:=Z
 go_enter func323,ntmps323
 go_wp2_with fail
 refine C1.out.mono ?_;rintro e w' ⟨x,rfl,hx,rfl⟩;have hn1:¬-(p:Int) <= -32*(a.length:Int):=Z
 have ZV:(p:Int)/32=0:=Z
 have acG:(p:Int)%32=(p:Int):=Z
 go_wp2_with (at_make; refine wpList_make_row I _ _ _ I kL I w.heap.size a.length I I I hby h63 (Ó _) ?_; intro w1 hown hg)
 have hb1:=fU (ù w.heap.size w) hg (Ó _);clear hg;have HO:=Â hown;clear hown ZV hn1;have hsl:=Na.Ah p a;go_loopw [37] (λi wr=>∃k:Nat,k<=a.length∧i = .i k∧wr.ownsRow w.heap.size 119 1 (.s (some ⟨w.heap.size,0,none⟩) a.length a.length) a.length (((Na.shr p a).take k++List.replicate ((Na.shr p a).length-k) 0).map aU)∧Ext w wr) (λi _=>a.length-(intOf i).toNat)
 case atStart=>exact⟨0,Z,I,by simpa[aU,hsl]using HO.out,hb1⟩
 case round =>
  obtain⟨k,hk,rfl,hown,hbel⟩:=hrel;have HW:=Â hown;have hx1:=hx.below hbel;clear hown;by_cases hlt:k<a.length
  .have g0:=(a.getD k 0).toNat_lt;have g1:=(a.getD (k+1) 0).toNat_lt;have hget:=Na.Ye p a k hlt;have d0:=qE _ a k _ hx1 Z;have d1:=qE _ a (k+1) _ hx1 Z;generalize (a.getD k 0).toNat=D0 at *;generalize (a.getD (k+1) 0).toNat=D1 at *;have hor:=acE D1 D0 g1 g0;generalize hN:D0+Na.JH*D1=N at *;obtain⟨⟨cv,hcell⟩,hfz⟩:=qh HW.out k hlt;have HG:=Â hget;have HSL:=Â hsl;have E0:=Â d0;have E1:=Â d1;clear hget hsl hN d0 d1;go_wp2_with fail
   refine E0.out.mono ?_;rintro e w' ⟨rfl,rfl⟩;go_wp2_with fail
   refine E1.out.mono ?_;rintro e w' ⟨rfl,rfl⟩;go_wp2_with fail
   go_roundw
   case rel =>
    have hst:=HW.out.stored k (aU ((Na.shr p a)[k]'(by rw[HSL.out]; exact hlt)));rw[<-Š,acF _ _ k (by rw[HSL.out]; exact hlt)]at hst;rw[HG.out]at hst;rw[LG];exact⟨k+1,Z,by go_num,hst.1,hbel.setCell (p:=⟨w.heap.size,k,none⟩) (Ó _) _⟩
   case measure=>simp[intOf]; omega
  obtain rfl:k=a.length:=by omega
  have hrow:aF wr (.s (some ⟨w.heap.size,0,none⟩) a.length a.length) (Na.shr p a):=by
   have:=HW.out;rw[<-hsl,Ħ,Κ,ay4,ņ]at this;have h2:=aS this;rw[hsl]at h2; exact h2
  have hs:=short_any _ _ _ hrow;rw[Na.Yf p Z]at hs;have HS:=Â hs;clear hs hrow;go_wp2_with fail
  refine HS.out.mono ?_;rintro e w' ⟨a',rfl,hr,rfl⟩;have HR:=Â hr;clear hr;go_wp2_with fail
  go_ret
  exact⟨_,I,HR.out,hbel⟩
abbrev wide(c:UInt32)(p:Nat)(h:p<=31):IntKind.u64.wrap (IntKind.u64.wrap (c.toNat:Int)*2^p)=((c.toNat*2^p:Nat):Int):=by
 have hc:=c.toNat_lt;have hp:2^p<=2^31:=ĸ Z h;have hm:c.toNat*2^p<=4294967296*2^31:=Μ Z hp;have e:(c.toNat:Int)*2^p=((c.toNat*2^p:Nat):Int):=by simp
 rw[fA,e,Ŏ];omega
abbrev ajD(t:UInt32)(c p:Nat)(hp:p<=31)(ht:t.toNat<2^p) :
  bits .or .u32 (t.toNat:Int) (((c*2^p:Nat):Int)%4294967296)=((UInt32.ofNat (t.toNat+c*2^p%Na.JH)).toNat:Int)∧t.toNat+c*2^p%Na.JH<Na.JH:=by
 have hB:=Na.LD p Z;have h2:0<2^p:=œ p;have e1:c*2^p%Na.JH=c%2^(32-p)*2^p:=by
  rw[hB,Ě c,Nat.mul_mod_mul_left,Ě]
 have e2:c%2^(32-p)+1<=2^(32-p):=Ň _ (œ _);have e3:c*2^p%Na.JH+2^p<=Na.JH:=by
  rw[e1,<-Nat.succ_mul,hB,Ě (2^p)]; exact ő _ e2
 have hlt:t.toNat+c*2^p%Na.JH<Na.JH:=Z
 refine⟨?_,hlt⟩;have e4:((c*2^p:Nat):Int)%4294967296=((c*2^p%Na.JH:Nat):Int):=by simp[Na.JH]
 have hB':Na.JH=4294967296:=I;rw[e4,u32_or_nat _ _ t.toNat_lt Z,Nat.or_comm,nat_join p _ _ (by rw[e1]; simp) ht,bJ Z,ŧ]
abbrev agV{β:Type}(q:List β)(t x y z:β)(k m:Nat)(hq:q.length=k):((q++t::List.replicate (m+1) z).set k x).set (k+1) y=(q++[x])++y::List.replicate m z:=by
 subst hq;rw[List.set_append,É Z,Κ,List.set_cons_zero,List.set_append,É Z,azg,azd];simp
abbrev Ai(v:À)(l:List UInt32)(p:Nat)(w:Á)(hv:aF w v l)(hp2:p<=31)(hlen:l.length<=1000000000) :
  Ä prog 323 #[v,.i p] w λe w'=>∃a,e = .R (.s a (Na.LZ (Na.Pq l*2^p)).length (Na.LZ (Na.Pq l*2^p)).length) ∧
   aF w' (.s a (Na.LZ (Na.Pq l*2^p)).length (Na.LZ (Na.Pq l*2^p)).length) (Na.LZ (Na.Pq l*2^p))∧Ext w w':=by
 have hd:=bP l;have ea:=Na.L6 (Na.Pq l);have C1:=Â (short_any v l w hv);clear hv;rw[<-ea];generalize Na.LZ (Na.Pq l)=a at *;have EA:=Â ea;clear ea;have h63:a.length+1<=maxLen:=by unfold maxLen; omega
 have hby:4*(a.length+1)<=281474976710656:=Z
 have ZV:(p:Int)/32=0:=Z
 have acG:(p:Int)%32=(p:Int):=Z
 have hmin:min (p:Int) 4096=(p:Int):=Z
 go_enter func323,ntmps323
 go_wp2_with fail
 refine C1.out.mono ?_;rintro e w' ⟨x,rfl,hx,rfl⟩;go_wp2_with (at_make; refine wpList_make_row I _ _ _ I kL I w.heap.size (a.length+1) I I I hby h63 (Ó _) ?_; intro w1 hown hg)
 have hb1:=fU (ù w.heap.size w) hg (Ó _);clear hg;have HO:=Â hown;clear hown;go_loopw [76] (λi wr=>∃(k:Nat) (q:List UInt32) (t:UInt32),k<=a.length∧i = .i k∧q.length=k∧t.toNat<2^p∧Na.Pq (q++[t])=Na.Pq (a.take k)*2^p ∧
  wr.ownsRow w.heap.size 119 1 (.s (some ⟨w.heap.size,0,none⟩) (a.length+1) (a.length+1)) (a.length+1) ((q++t::List.replicate (a.length-k) 0).map aU)∧Ext w wr) (λi _=>a.length-(intOf i).toNat)
 case atStart=>exact⟨0,[],0,Z,I,I,by simpa using œ p,by simp[Na.Pq],by simpa[aU,azd]using HO.out,hb1⟩
 case round =>
  obtain⟨k,q,t,hk,rfl,hq,ht,hval,hown,hbel⟩:=hrel;have HW:=Â hown;have hx1:=hx.below hbel;have HV:=Â hval;have HT:=Â ht;have HQ:=Â hq;clear hown hval ht hq HO;by_cases hlt:k<a.length
  .obtain⟨bx,ox,cx,hxs,hbx,hlx,hmx,hcx⟩:=dH hx1 I Z;simp only[Ĉ]at hxs;obtain⟨rfl,-,-⟩:=hxs;have hck:=hcx k hlt;clear hcx;have ho1:=HW.out.cellAt k Z;have hfz:=HW.out.frozenAt k;have hfz1:=HW.out.frozenAt (k+1);obtain⟨⟨cv,hcell1⟩,_⟩:=qh HW.out (k+1) Z;rw[List.getElem?_map,List.getElem?_append_right (by rw[HQ.out]; omega),HQ.out,Κ,List.getElem?_cons_zero,Ę]at ho1;have HA:=Â (Na.bT a k hlt);generalize a[k]=c at hck HA;go_wp2_with fail
   go_roundw
   case rel =>
    obtain⟨o1,o2⟩:=ajD t c.toNat p hp2 HT.out;have hq:=HQ.out;have ht:=HT.out;obtain⟨m,hm⟩:∃m,a.length-k=m+1:=⟨a.length-k-1,Z⟩;have hst:=(HW.out.stored k (aU (UInt32.ofNat (t.toNat+c.toNat*2^p%Na.JH)))).1;have hst2:=(hst.stored (k+1) (aU (UInt32.ofNat (c.toNat*2^p/Na.JH)))).1;rw[hm,<-Š,<-Š,agV q t _ _ 0 k m hq]at hst2;have hhi:c.toNat*2^p/Na.JH<2^p:=by
     refine ϓ ?_;have hc:=c.toNat_lt;exact azo hc (œ p)
    have ajE:c.toNat*2^p/Na.JH<4294967296:=by
     have:2^p<=2^31:=ĸ Z hp2;omega
    have e5:((c.toNat*2^p:Nat):Int)/4294967296%4294967296=((UInt32.ofNat (c.toNat*2^p/Na.JH)).toNat:Int):=by
     rw[bJ ajE];have:((c.toNat*2^p:Nat):Int)/4294967296=((c.toNat*2^p/Na.JH:Nat):Int):=by simp[Na.JH]
     rw[this]; omega
    rw[wide c p hp2,o1,e5];refine⟨k+1,q++[UInt32.ofNat (t.toNat+c.toNat*2^p%Na.JH)],UInt32.ofNat (c.toNat*2^p/Na.JH),Z,by go_num,by simp[hq],by rw[bJ ajE]; exact hhi,?_,?_,?_⟩
    .have hv:=HV.out;rw[Na.iY,hq]at hv;rw[Na.iY,Na.iY,HA.out,Œ,<-hv,bJ o2,bJ ajE,ì,hq];have:=Ś (c.toNat*2^p) Na.JH;simp only[Ĺ,Ϫ,Ğ];generalize c.toNat*2^p/Na.JH=hi at *;generalize c.toNat*2^p%Na.JH=lo at *;rw[ğ (Na.JH^k) c.toNat,<-this,õ,õ,<-ğ (Na.JH^k) Na.JH hi];omega
    .rw[show a.length-(k+1)=m by omega]; exact hst2
    exact(hbel.setCell (p:=⟨w.heap.size,k,none⟩) (Ó _) _).setCell (p:=⟨w.heap.size,k+1,none⟩) (Ó _) _
   case measure=>simp[intOf]; omega
  obtain rfl:k=a.length:=by omega
  have hrow:aF wr (.s (some ⟨w.heap.size,0,none⟩) (a.length+1) (a.length+1)) (q++[t]):=by
   have:=HW.out;rw[Κ,ay4]at this;have e:(q++[t]).length=a.length+1:=by have:=HQ.out; simp[this]
   have h2:=aS (l:=q++[t]) (by rw[e]; exact this);exact h2
  have hs:=short_any _ _ _ hrow;have hv:=HV.out;rw[Ħ]at hv;rw[hv]at hs;have HS:=Â hs;clear hs hrow hv;go_wp2_with fail
  refine HS.out.mono ?_;rintro e w' ⟨a',rfl,hr,rfl⟩;have HR:=Â hr;clear hr;go_wp2_with fail
  go_ret
  exact⟨_,I,HR.out,hbel⟩
def bl(n:Nat):Nat:=if n=0 then 0 else Nat.log2 n+1
abbrev amT{n k:Nat}(h1:2^k<=n)(h2:n<2^(k+1)):bl n=k+1:=by
 have h0:n≠0:=by have:=œ k; omega
 unfold bl;rw[É h0,(Nat.log2_eq_iff h0).2 ⟨h1,h2⟩]
abbrev Yj(a:List UInt32)(x:UInt32)(hx:x≠0)(c:Nat)(h1:2^(c-1)<=x.toNat)(h2:x.toNat<2^c)(h3:1<=c):bl (Na.Pq (a++[x]))=32*a.length+c:=by
 have hv:=Na.iY a x;have hl:=Na.dV a;have hB:Na.JH^a.length=2^(32*a.length):=by rw[Nat.pow_mul]; rfl
 rw[hB]at hv hl;have e:32*a.length+c=(32*a.length+(c-1))+1:=Z
 rw[e];apply amT
 .rw[hv,Ν];have:=ĝ (2^(32*a.length)) h1;omega
 rw[hv,show 32*a.length+(c-1)+1=32*a.length+c by omega,Ν];have:=ĝ (2^(32*a.length)) (show x.toNat+1<=2^c by omega);rw[õ]at this;omega
abbrev Ht(v:À)(l:List UInt32)(w:Á)(hv:aF w v l)(hlen:l.length<=1000000000) :
  Ä prog 290 #[v] w λe w'=>e = .R (.i (bl (Na.Pq l):Int))∧w=w':=by
 have hd:=bP l;have ea:=Na.L6 (Na.Pq l);have na:=Na.gU (Na.Pq l);have C1:=Â (short_any v l w hv);clear hv;rw[<-ea];generalize Na.LZ (Na.Pq l)=a at *;by_cases h0:a.length=0
 .obtain rfl:a=[]:=Ŝ h0;clear ea;go_enter func290,ntmps290
  go_wp2_with fail
  refine C1.out.mono ?_;rintro e w' ⟨x,rfl,hx,rfl⟩;go_wp2_with fail
  go_ret
  exact⟨I,I⟩
 obtain⟨m,hm⟩:∃m,a.length=m+1:=⟨a.length-1,Z⟩;have hx0:a[m]'Z≠0:=by
  have:=Na.uT na Z;simpa[hm]using this
 have hb:1<=Lib.bitLen (a[m]'Z).toNat∧2^(Lib.bitLen (a[m]'Z).toNat-1)<=(a[m]'Z).toNat∧(a[m]'Z).toNat<2^Lib.bitLen (a[m]'Z).toNat:=
  Lib.bitLenAux_bounds 64 _ (by have:=(a[m]'Z).toNat_lt; omega) (λe=>hx0 (ř.1 (by simpa using e)))
 have hr:=Yj (a.take m) (a[m]'Z) hx0 _ hb.2.1 hb.2.2 hb.1;have hbl:=Lib.bitLen_le (a[m]'Z).toNat 32 Z (a[m]'Z).toNat_lt;have e1:a.take m++[a[m]'Z]=a:=by
  rw[<-ı Z,<-hm,Ħ]
 rw[e1]at hr;have e2:(a.take m).length=m:=by simp; omega
 rw[e2]at hr;have HR:=Â hr;have HM:=Â hm;have hml:(m:Int)<=1000000000:=Z
 have hx1:=(a[m]'Z).toNat_lt;clear ea na hr hb hx0 e1 e2;go_enter func290,ntmps290
 go_wp2_with fail
 refine C1.out.mono ?_;rintro e w' ⟨x,rfl,hx,rfl⟩;obtain⟨bx,ox,cx,hxs,hbx,hlx,hmx,hcx⟩:=dH hx I Z;simp only[Ĉ]at hxs;obtain⟨rfl,-,-⟩:=hxs;have hck:=hcx m Z;clear hcx;have h0':((m:Int)+1==0)=false:=by rw[ä]; omega
 generalize a[m]=c at *;rw[HM.out]at hx |-;go_wp2_with fail
 refine(bits_Len32 (c.toNat:Int) _ Z Z).mono ?_;rintro e w' ⟨rfl,rfl⟩;rw[ş];go_wp2_with fail
 go_ret
 exact⟨eX (by rw[HR.out]; omega),I⟩
end Go.Proofs.Pv
end
abbrev Ġ:=@Go.Vp.rt
abbrev ń:=@Go.Vp.region
