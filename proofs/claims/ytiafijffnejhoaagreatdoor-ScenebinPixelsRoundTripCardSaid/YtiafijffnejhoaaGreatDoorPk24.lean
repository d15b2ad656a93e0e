/- Bytes and strings in the walk by reckoning: string(b), -/
import Derived.Test.YtiafijffnejhoaaGreatDoorSy
import Derived.Test.YtiafijffnejhoaaGreatDoorOwn
import Derived.Lib.Hide
section
namespace Go.Sx
open Go.Proofs.YtiafijffnejhoaaGreatDoor Go.RowKit Go.Rel
set_option linter.unusedVariables false
variable{P:Program}{ops:Array Oper}{Q:Exit→Act→World→Prop}{w0 w:World}{a:Act}{os:List Oper}{n:Nat}{l:List (Nat×Value)}{bl:List (Nat×List Value)}{vs:List dY}
theorem iL{x y:Int}(h:x=y)(hb : -9223372036854775808≤y∧y≤9223372036854775807):Value.i (IntKind.i64.wrap x) = .i y:=by subst h; exact YQ hb
theorem acP(S:St w0 a w n l bl vs)(d:Nat)(V:Value){w1:World}{o:Oper}{os':List Oper}(hos:os=o::os')(hg:o.guard=none)(hdst:o.dst=some d)(hrun:(execOp a.eval o).run P w = .ok (.value V) w1)(hE:Ext w w1)
  (next:∀{a'},St w0 a' w1 n ((d,V)::l) bl vs→wpList P ops Q (os.drop 1) a' w1) (hd:Aq n (some d)=true:=by rfl):wpList P ops Q os a w:=by
 subst hos;unfold wpList;rw[ahf (by simp[Region.wanted,hg])];left;unfold Oper.wp;rw[hrun];simp only[Oper.upon];rw[hdst];exact next ((S.grow hE).act (wP (d:=some d) S.s hd V))
end Go.Sx
end
section
namespace En
def dF:Nat→Nat→List UInt8
  | 0,_=>[]
  | f+1,n=>if n<128 then [UInt8.ofNat n]else UInt8.ofNat (n%128+128)::dF f (n/128)
def comb(k a:Nat):Except Nat (Nat×Nat)→Except Nat (Nat×Nat)
  | .ok (n,j) => .ok (a+128^k*n,k+j)
  | .error e => .error e
def ji:Nat→List UInt8→Except Nat (Nat×Nat)
  | _,[] => .error 4
  | 0,c::_=>if c.toNat=1 then .ok (1,1)else .error 3
  | f+1,c::l=>if c.toNat<128 then (if c.toNat=0∧f≠8 then .error 3 else .ok (c.toNat,1))else comb 1 (c.toNat%128) (ji f l)
theorem Du(r:Except Nat (Nat×Nat)):comb 0 0 r=r:=by
 rcases r with e | ⟨n,j⟩<;>simp[comb]
theorem Dv(k a c:Nat)(r:Except Nat (Nat×Nat)):comb k a (comb 1 c r)=comb (k+1) (a+128^k*c) r:=by
 rcases r with e | ⟨n,j⟩
 ·rfl
 simp only[comb,Nat.pow_one];congr 2
 ·rw[ahp,ahv]; rw[ahB]; omega
 omega
theorem MI(f:Nat):ji f [] = .error 4:=by cases f<;>rfl
theorem GN(f:Nat)(c:UInt8)(l:List UInt8)(h:¬c.toNat<128):ji (f+1) (c::l)=comb 1 (c.toNat%128) (ji f l):=by
 rw[ji,ahe h]
theorem RJ(f:Nat)(l:List UInt8)(p:Nat)(hp:p<l.length)(h:¬(l[p]).toNat<128) :
    ji (f+1) (l.drop p)=comb 1 ((l[p]).toNat%128) (ji f (l.drop (p+1))):=by
 rw[ahU hp,GN f _ _ h]
theorem uY{n:Nat}(h:n<256):(UInt8.ofNat n).toNat=n:=by simp; omega
theorem acQ(f:Nat):2^(7*(f+1)+1)=128*2^(7*f+1):=by
 rw[show 7*(f+1)+1=(7*f+1)+7 by omega,ai5,ahy]
theorem aaF(f:Nat):∀(l:List UInt8) (n k:Nat),ji f l = .ok (n,k) →
    n<2^(7*f+1)∧1≤k∧k≤l.length∧k≤f+1∧(9≤f∨f<9∧0<n)∧(f≤9→dF (f+1) n=l.take k):=by
 induction f with
 | zero =>
  intro l n k h;cases l with
  | nil=>simp[ji]at h
  | cons c l =>
   simp only[ji]at h;split at h
   ·rename_i hc;simp only[Except.ok.injEq,ahg]at h;obtain⟨rfl,rfl⟩:=h;refine⟨by decide,by omega,by simp,by omega,.inr ⟨by omega,by omega⟩,fun _=>?_⟩;simp only[dF];have:c=1:=UInt8.toNat_inj.1 (by simpa using hc);rw[this]; rfl
   cases h
 | succ f ih =>
  intro l n k h;cases l with
  | nil=>simp[ji]at h
  | cons c l =>
   rw[acQ];have hp:0<2^(7*f+1):=Nat.pow_pos (by omega);simp only[ji]at h;split at h
   ·rename_i hc;split at h
    ·cases h
    rename_i h0;simp only[Except.ok.injEq,ahg]at h;obtain⟨rfl,rfl⟩:=h;refine⟨by omega,by omega,by simp,by omega,?_,fun _=>?_⟩
    ·by_cases e:c.toNat=0
     ·left; have:¬f≠8:=fun h=>h0 ⟨e,h⟩; omega
     by_cases e9:f+1<9
     ·right; omega
     left; omega
    rw[dF,ahf hc]; simp
   rename_i hc;cases hr:ji f l with
   | error e=>rw[hr]at h; simp[comb]at h
   | ok p =>
    obtain⟨n',k'⟩:=p;rw[hr]at h;simp only[comb,Nat.pow_one,Except.ok.injEq,ahg]at h;obtain⟨rfl,rfl⟩:=h;obtain⟨h1,h2,h3,h4,h5,h6⟩:=ih l n' k' hr;refine⟨by omega,by omega,by simp; omega,by omega,?_,fun hf=>?_⟩
    ·by_cases e9:f+1<9
     ·right; omega
     left; omega
    have hn:0<n':=by rcases h5 with h5 | h5<;>omega
    rw[dF,ahe (by omega)];have e1:(c.toNat%128+128*n')/128=n':=by omega
    have e2:UInt8.ofNat ((c.toNat%128+128*n')%128+128)=c:=by
     apply UInt8.toNat_inj.1;rw[uY (by omega)];have:=c.toNat_lt;omega
    rw[e1,e2,h6 (by omega)];rw[aiD 1 k']; rfl
theorem Ua(f:Nat):∀(n:Nat) (r:List UInt8),n<2^(7*f+1)→(f=9∨f<9∧0<n)→ji f (dF (f+1) n++r) = .ok (n,(dF (f+1) n).length):=by
 induction f with
 | zero =>
  intro n r h h9;have:n=1:=by have:2^(7*0+1)=2:=rfl; omega
  subst this;rfl
 | succ f ih =>
  intro n r h h9;rw[acQ]at h;rw[dF];split
  ·rename_i hn;simp only[ahO,aib,ji,ahL,List.length_nil];rw[uY (by omega),ahf hn,ahe (by omega)]
  rename_i hn;simp only[ahO,ji,ahL];rw[uY (by omega),ahe (by omega),ih (n/128) r (by omega) (.inr ⟨by omega,by omega⟩)];simp only[comb,Nat.pow_one];congr 2
  ·omega
  omega
theorem sF(f:Nat):∀n,(dF f n).length≤f:=by
 induction f with
 | zero=>intro n; simp[dF]
 | succ f ih =>
  intro n;rw[dF]; split
  ·simp
  have:=ih (n/128); simp; omega
theorem Ub(f n:Nat):0<(dF (f+1) n).length:=by rw[dF]; split<;>simp
theorem pR(n:Nat)(r:List UInt8)(h:n<18446744073709551616):ji 9 (dF 10 n++r) = .ok (n,(dF 10 n).length):=
  Ua 9 n r (by simpa using h) (.inl rfl)
theorem zf{l:List UInt8}{n k:Nat}(h:ji 9 l = .ok (n,k)):n<18446744073709551616∧1≤k∧k≤l.length∧k≤10∧dF 10 n=l.take k:=by
 obtain⟨h1,h2,h3,h4,_,h6⟩:=aaF 9 l n k h;exact⟨by simpa using h1,h2,h3,h4,h6 (ahh _)⟩
def zig(x:Int):Nat:=if x<0 then (-2*x-1).toNat else (2*x).toNat
def yG(n:Nat):Int:=if n%2=1 then -1-((n/2:Nat):Int)else ((n/2:Nat):Int)
theorem ZW{x:Int}(h : -9223372036854775808≤x)(h2:x≤9223372036854775807):zig x<18446744073709551616:=by unfold zig; split<;>omega
theorem Uc{n:Nat}(h:n<18446744073709551616) : -9223372036854775808≤yG n∧yG n≤9223372036854775807:=by unfold yG; split<;>omega
def qo(l:List UInt8)(at_:Int):Nat×Nat×Nat:=
  if at_<0∨(l.length:Int)<at_ then (0,0,2)
  else match ji 9 (l.drop at_.toNat)with
    | .ok (n,k)=>(n,at_.toNat+k,0)
    | .error e=>(0,0,e)
def WC(l:List UInt8)(at_:Int):Int×Nat×Nat:=(yG (qo l at_).1,(qo l at_).2)
theorem MK(f:Nat):∀(l:List UInt8) (e:Nat),ji f l = .error e→e=3∨e=4:=by
 induction f with
 | zero =>
  intro l e h;cases l with
  | nil=>simp only[ji,ajv]at h; omega
  | cons c l =>
   simp only[ji]at h;split at h<;>simp only[reduceCtorEq,ajv]at h;omega
 | succ f ih =>
  intro l e h;cases l with
  | nil=>simp only[ji,ajv]at h; omega
  | cons c l =>
   simp only[ji]at h;split at h
   ·split at h<;>simp only[reduceCtorEq,ajv]at h;omega
   cases hr:ji f l with
   | error e'=>rw[hr]at h; simp only[comb,ajv]at h; subst h; exact ih l _ hr
   | ok p=>obtain⟨n',k'⟩:=p; rw[hr]at h; simp[comb]at h
end En
namespace En
variable{α:Type}
def w64(x:Int):Int:=(x+9223372036854775808)%18446744073709551616-9223372036854775808
def isc(l:List UInt8):Nat→Int→Nat→Except Nat (List Int×Nat)
  | 0,_,p => .ok ([],p)
  | m+1,last,p =>
    match ji 9 (l.drop p)with
    | .error e => .error e
    | .ok (u,k) =>
      match isc l m (w64 (last+yG u)) (p+k)with
      | .error e => .error e
      | .ok (vs,q) => .ok (w64 (last+yG u)::vs,q)
def pre(done:List α):Except Nat (List α×Nat)→Except Nat (List α×Nat)
  | .error e => .error e
  | .ok (vs,q) => .ok (done++vs,q)
def runs:List UInt8→List (Nat×UInt8)
  | []=>[]
  | c::l=>match runs l with
    | []=>[(1,c)]
    | (n,d)::r=>if d=c then (n+1,d)::r else (1,c)::(n,d)::r
def flat:List (Nat×UInt8)→List UInt8
  | []=>[]
  | (n,c)::r=>List.replicate n c++flat r
def good:Option UInt8→List (Nat×UInt8)→Prop
  | _,[]=>True
  | last,(n,c)::r=>0<n∧last≠some c∧good (some c) r
theorem pO(s:List UInt8):(∀last,(∀c,s.head?=some c→last≠some c)→good last (runs s))∧flat (runs s)=s∧(∀c n r,runs s=(n,c)::r→s.head?=some c):=by
 induction s with
 | nil=>simp[runs,good,flat]
 | cons c l ih =>
  obtain⟨h1,h2,h3⟩:=ih;cases hr:runs l with
  | nil =>
   rw[hr]at h2;simp only[runs,hr,good,flat]at h2 ⊢;subst h2;refine⟨fun last h=>⟨by omega,h c rfl,trivial⟩,rfl,?_⟩;intro c' n' r' he; simp only[ahA,ahg]at he; simp[he.1.2]
  | cons x r =>
   obtain⟨n,d⟩:=x;have hd:=h3 d n r hr;rw[hr]at h2;simp only[runs,hr];simp only[flat]at h2;split
   ·rename_i e;subst e;refine⟨fun last h=>?_,?_,?_⟩
    ·have:=h1 none (by simp);rw[hr]at this;simp only[good]at this ⊢;exact⟨by omega,h d rfl,this.2.2⟩
    ·simp only[flat,ais,ahO,h2]
    intro c' n' r' he; simp only[ahA,ahg]at he; simp[he.1.2]
   rename_i e;refine⟨fun last h=>?_,?_,?_⟩
   ·have:=h1 (some c) (by intro c' hc'; rw[hd]at hc'; simp only[ahd]at hc' ⊢; exact fun e'=>e (hc'.trans (ahl e').symm));rw[hr]at this;simp only[good]at this ⊢;exact⟨by omega,h c rfl,this⟩
   ·simp only[flat,ais,ai0,ahO,aib,h2]
   intro c' n' r' he; simp only[ahA,ahg]at he; simp[he.1.2]
theorem tJ(r:List (Nat×UInt8)):∀last,good last r→runs (flat r)=r:=by
 induction r with
 | nil=>intro _ _; rfl
 | cons x r ih =>
  obtain⟨n,c⟩:=x;intro last h;simp only[good]at h;obtain⟨hn,_,hg⟩:=h;have hr:=ih _ hg;simp only[flat];have key:∀k,runs (List.replicate (k+1) c++flat r)=(k+1,c)::r:=by
   intro k;induction k with
   | zero =>
    simp only[ais,ai0,ahO,aib,runs,hr];cases r with
    | nil=>rfl
    | cons y r' =>
     obtain⟨m,d⟩:=y;simp only[good]at hg;simp only;rw[ahe (fun e=>hg.2.1 (by rw[e]))]
   | succ k ihk =>
    rw[ais,ahO,runs,ihk];simp
  obtain⟨m,rfl⟩:∃m,n=m+1:=⟨n-1,by omega⟩;exact key m
end En
namespace En
def jw(last:Option UInt8):List (Nat×UInt8)→Option UInt8
  | []=>last
  | (_,c)::r=>jw (some c) r
theorem tK(R:List (Nat×UInt8))(n:Nat)(c:UInt8):∀last,good last (R++[(n,c)])↔good last R∧0<n∧jw last R≠some c:=by
  induction R with
  | nil=>intro last; simp[good,jw]
  | cons x R ih => intro last; obtain ⟨m, d⟩ := x; simp only [ahO, good, jw, ih]; constructor
                   · rintro⟨h1,h2,h3,h4,h5⟩; exact⟨⟨h1,h2,h3⟩,h4,h5⟩
                   · rintro⟨⟨h1,h2,h3⟩,h4,h5⟩; exact⟨h1,h2,h3,h4,h5⟩
theorem gV(R S:List (Nat×UInt8)):flat (R++S)=flat R++flat S:=by
 induction R with
 | nil=>rfl
 | cons x R ih=>obtain⟨m,d⟩:=x; simp[flat,ih]
theorem Az(R:List (Nat×UInt8))(n:Nat)(c:UInt8):∀last,jw last (R++[(n,c)])=some c:=by
 induction R with
 | nil=>intro last; rfl
 | cons x R ih=>intro last; obtain⟨m,d⟩:=x; simp[jw,ih]
theorem Nj{s:List UInt8}{R:List (Nat×UInt8)}(hg:good none R)(hf:flat R=s):runs s=R:=by rw[←hf]; exact tJ R none hg
theorem jZ(s:List UInt8):good none (runs s)∧flat (runs s)=s:=⟨(pO s).1 none (by simp),(pO s).2.1⟩
theorem Nk{R:List (Nat×UInt8)}:∀x∈R,x.1≤(flat R).length:=by
 induction R with
 | nil=>intro x hx; simp at hx
 | cons y R ih =>
  intro x hx;obtain⟨m,d⟩:=y;rcases ahw.1 hx with rfl | hx
  ·simp[flat]
  have:=ih x hx; simp[flat]; omega
end En
namespace En
end En
end
