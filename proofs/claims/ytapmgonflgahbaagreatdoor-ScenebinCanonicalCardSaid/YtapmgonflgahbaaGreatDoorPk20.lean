/- Bytes and strings in the walk by reckoning: string(b), -/
import Derived.Test.YtapmgonflgahbaaGreatDoorOwn
import Derived.IntWalk
set_option linter.unusedVariables false
section
namespace Go.Sx
open Go.Proofs.YtapmgonflgahbaaGreatDoor Go.RowKit Go.Rel
variable{P:Program}{ops:Array Oper}{Q:Exit→Act→World→Prop}{w0 w:World}{a:Act}{os:List Oper}{n:Nat}{l:List (Nat×Value)}{bl:List (Nat×List Value)}{vs:List gJ}
theorem qg{x y:Int}(h:x=y)(hb : -9223372036854775808≤y∧y≤9223372036854775807):Value.i (IntKind.i64.wrap x) = .i y:=by subst h; exact agz hb
theorem amT(S:St w0 a w n l bl vs)(d:Nat)(V:Value){w1:World}{o:Oper}{os':List Oper}(hos:os=o::os')(hg:o.guard=none)(hdst:o.dst=some d)(hrun:(execOp a.eval o).run P w = .ok (.value V) w1)(hE:Ext w w1)
  (next:∀{a'},St w0 a' w1 n ((d,V)::l) bl vs→wpList P ops Q (os.drop 1) a' w1) (hd:Cb n (some d)=true:=by rfl):wpList P ops Q os a w:=by
 subst hos;unfold wpList;rw[awl (by simp[Region.wanted,hg])];left;unfold Oper.wp;rw[hrun];simp only[Oper.upon];rw[hdst];exact next ((S.grow hE).act (xB (d:=some d) S.s hd V))
end Go.Sx
end
section
namespace En
def fZ:Nat→Nat→List UInt8
 | 0,_=>[]
 | f+1,n=>if n<128 then [UInt8.ofNat n]else UInt8.ofNat (n%128+128)::fZ f (n/128)
def comb(k a:Nat):Except Nat (Nat×Nat)→Except Nat (Nat×Nat)
 | .ok (n,j) => .ok (a+128^k*n,k+j)
 | .error e => .error e
def mM:Nat→List UInt8→Except Nat (Nat×Nat)
 | _,[] => .error 4
 | 0,c::_=>if c.toNat=1 then .ok (1,1)else .error 3
 | f+1,c::l=>if c.toNat<128 then (if c.toNat=0∧f≠8 then .error 3 else .ok (c.toNat,1))else comb 1 (c.toNat%128) (mM f l)
theorem XP(r:Except Nat (Nat×Nat)):comb 0 0 r=r:=by
 rcases r with e | ⟨n,j⟩<;>simp[comb]
theorem XQ(k a c:Nat)(r:Except Nat (Nat×Nat)):comb k a (comb 1 c r)=comb (k+1) (a+128^k*c) r:=by
 rcases r with e | ⟨n,j⟩
 ·rfl
 simp only[comb,Nat.pow_one];congr 2
 ·rw[awH,awW]; rw[aw0]; omega
 omega
theorem aer(f:Nat):mM f [] = .error 4:=by cases f<;>rfl
theorem aa7(f:Nat)(c:UInt8)(l:List UInt8)(h:¬c.toNat<128):mM (f+1) (c::l)=comb 1 (c.toNat%128) (mM f l):=by
 rw[mM,awj h]
theorem FC{n:Nat}(h:n<256):(UInt8.ofNat n).toNat=n:=by simp; omega
theorem amU(f:Nat):2^(7*(f+1)+1)=128*2^(7*f+1):=by
 rw[show 7*(f+1)+1=(7*f+1)+7 by omega,ax3,awX]
theorem aiw(f:Nat):∀(l:List UInt8) (n k:Nat),mM f l = .ok (n,k) →
  n<2^(7*f+1)∧1≤k∧k≤l.length∧k≤f+1∧(9≤f∨f<9∧0<n)∧(f≤9→fZ (f+1) n=l.take k):=by
 induction f with
 | zero =>
  intro l n k h;cases l with
  | nil=>simp[mM]at h
  | cons c l =>
   simp only[mM]at h;split at h
   ·rename_i hc;simp only[ayG,awo]at h;obtain⟨rfl,rfl⟩:=h;refine⟨by decide,by omega,by simp,by omega,.inr ⟨by omega,by omega⟩,fun _=>?_⟩;simp only[fZ];have:c=1:=ayk.1 (by simpa using hc);rw[this]; rfl
   cases h
 | succ f ih =>
  intro l n k h;cases l with
  | nil=>simp[mM]at h
  | cons c l =>
   rw[amU];have hp:0<2^(7*f+1):=Nat.pow_pos (by omega);simp only[mM]at h;split at h
   ·rename_i hc;split at h
    ·cases h
    rename_i h0;simp only[ayG,awo]at h;obtain⟨rfl,rfl⟩:=h;refine⟨by omega,by omega,by simp,by omega,?_,fun _=>?_⟩
    ·by_cases e:c.toNat=0
     ·left; have:¬f≠8:=fun h=>h0 ⟨e,h⟩; omega
     by_cases e9:f+1<9
     ·right; omega
     left; omega
    rw[fZ,awl hc]; simp
   rename_i hc;cases hr:mM f l with
   | error e=>rw[hr]at h; simp[comb]at h
   | ok p =>
    obtain⟨n',k'⟩:=p;rw[hr]at h;simp only[comb,Nat.pow_one,ayG,awo]at h;obtain⟨rfl,rfl⟩:=h;obtain⟨h1,h2,h3,h4,h5,h6⟩:=ih l n' k' hr;refine⟨by omega,by omega,by simp; omega,by omega,?_,fun hf=>?_⟩
    ·by_cases e9:f+1<9
     ·right; omega
     left; omega
    have hn:0<n':=by rcases h5 with h5 | h5<;>omega
    rw[fZ,awj (by omega)];have e1:(c.toNat%128+128*n')/128=n':=by omega
    have e2:UInt8.ofNat ((c.toNat%128+128*n')%128+128)=c:=by
     apply ayk.1;rw[FC (by omega)];have:=c.toNat_lt;omega
    rw[e1,e2,h6 (by omega)];rw[aya 1 k']; rfl
theorem ace(f:Nat):∀(n:Nat) (r:List UInt8),n<2^(7*f+1)→(f=9∨f<9∧0<n)→mM f (fZ (f+1) n++r) = .ok (n,(fZ (f+1) n).length):=by
 induction f with
 | zero =>
  intro n r h h9;have:n=1:=by have:2^(7*0+1)=2:=rfl; omega
  subst this;rfl
 | succ f ih =>
  intro n r h h9;rw[amU]at h;rw[fZ];split
  ·rename_i hn;simp only[axB,axy,mM,awV,axn];rw[FC (by omega),awl hn,awj (by omega)]
  rename_i hn;simp only[axB,mM,awV];rw[FC (by omega),awj (by omega),ih (n/128) r (by omega) (.inr ⟨by omega,by omega⟩)];simp only[comb,Nat.pow_one];congr 2
  ·omega
  omega
theorem kK(f:Nat):∀n,(fZ f n).length≤f:=by
 induction f with
 | zero=>intro n; simp[fZ]
 | succ f ih =>
  intro n;rw[fZ]; split
  ·simp
  have:=ih (n/128); simp; omega
theorem xk(f n:Nat):0<(fZ (f+1) n).length:=by rw[fZ]; split<;>simp
theorem qK(n:Nat)(r:List UInt8)(h:n<18446744073709551616):mM 9 (fZ 10 n++r) = .ok (n,(fZ 10 n).length):=
 ace 9 n r (by simpa using h) (.inl rfl)
theorem Eu{l:List UInt8}{n k:Nat}(h:mM 9 l = .ok (n,k)):n<18446744073709551616∧1≤k∧k≤l.length∧k≤10∧fZ 10 n=l.take k:=by
 obtain⟨h1,h2,h3,h4,_,h6⟩:=aiw 9 l n k h;exact⟨by simpa using h1,h2,h3,h4,h6 (awm _)⟩
def zig(x:Int):Nat:=if x<0 then (-2*x-1).toNat else (2*x).toNat
def Dl(n:Nat):Int:=if n%2=1 then -1-((n/2:Nat):Int)else ((n/2:Nat):Int)
theorem Lc{x:Int}(h : -9223372036854775808≤x)(h2:x≤9223372036854775807):zig x<18446744073709551616:=by unfold zig; split<;>omega
theorem Cm(x:Int):Dl (zig x)=x:=by unfold Dl zig; split<;>split<;>omega
theorem acf{n:Nat}(h:n<18446744073709551616) : -9223372036854775808≤Dl n∧Dl n≤9223372036854775807:=by unfold Dl; split<;>omega
def BU(l:List UInt8)(at_:Int):Nat×Nat×Nat:=
 if at_<0∨(l.length:Int)<at_ then (0,0,2)
 else match mM 9 (l.drop at_.toNat)with
  | .ok (n,k)=>(n,at_.toNat+k,0)
  | .error e=>(0,0,e)
def vat(l:List UInt8)(at_:Int):Int×Nat×Nat:=(Dl (BU l at_).1,(BU l at_).2)
theorem Et(f:Nat):∀(l:List UInt8) (e:Nat),mM f l = .error e→e=3∨e=4:=by
 induction f with
 | zero =>
  intro l e h;cases l with
  | nil=>simp only[mM,ax6]at h; omega
  | cons c l =>
   simp only[mM]at h;split at h<;>simp only[reduceCtorEq,ax6]at h;omega
 | succ f ih =>
  intro l e h;cases l with
  | nil=>simp only[mM,ax6]at h; omega
  | cons c l =>
   simp only[mM]at h;split at h
   ·split at h<;>simp only[reduceCtorEq,ax6]at h;omega
   cases hr:mM f l with
   | error e'=>rw[hr]at h; simp only[comb,ax6]at h; subst h; exact ih l _ hr
   | ok p=>obtain⟨n',k'⟩:=p; rw[hr]at h; simp[comb]at h
end En
namespace En
variable{α:Type}
def yO(most:Int)(l:List UInt8):Except Nat (List UInt8×Nat):=
 match mM 9 l with
 | .error e => .error e
 | .ok (n,k)=>if most<0∨most<(n:Int)then .error 5 else if l.length-k<n then .error 4 else .ok ((l.drop k).take n,k+n)
def kX(s:List UInt8):List UInt8:=fZ 10 s.length++s
theorem GU{most:Int}{l s:List UInt8}{k:Nat}(h:yO most l = .ok (s,k)):kX s=l.take k∧k≤l.length∧1≤k∧(s.length:Int)≤most:=by
 unfold yO at h;cases hu:mM 9 l with
 | error e=>rw[hu]at h; simp at h
 | ok p =>
  obtain⟨n,j⟩:=p;rw[hu]at h;simp only at h;obtain⟨h1,h2,h3,h4,h5⟩:=Eu hu;split at h
  ·cases h
  split at h
  ·cases h
  rename_i g1 g2;simp only[ayG,awo]at h;obtain⟨rfl,rfl⟩:=h;have hl:((l.drop j).take n).length=n:=by simp; omega
  refine⟨?_,by omega,by omega,by omega⟩;unfold kX;rw[hl,h5,←List.take_add]
theorem PS(s r:List UInt8)(most:Int)(h:(s.length:Int)≤most)(hs:s.length<18446744073709551616):yO most (kX s++r) = .ok (s,(kX s).length):=by
 unfold yO kX;rw[awF,qK _ _ hs];simp only;rw[awj (by omega),awj (by simp)];simp
end En
namespace En
end En
namespace En
theorem aix{l:List UInt8}{e:Nat}(h:mM 9 l = .error e):e≠0:=by
 rcases Et 9 l e h with rfl | rfl<;>decide
end En
end
namespace Go.Proofs.YtapmgonflgahbaaGreatDoor
section
namespace Px
set_option linter.unusedSectionVars false
open En
variable{β:Type}[DecidableEq β]
def runs:List β→List (Nat×β)
  | []=>[]
  | c::l=>match runs l with
    | []=>[(1,c)]
    | (n,d)::r=>if d=c then (n+1,d)::r else (1,c)::(n,d)::r
def flat:List (Nat×β)→List β
  | []=>[]
  | (n,c)::r=>List.replicate n c++flat r
def good:Option β→List (Nat×β)→Prop
  | _,[]=>True
  | last,(n,c)::r=>0<n∧last≠some c∧good (some c) r
theorem JJ(s:List β):(∀last,(∀c,s.head?=some c→last≠some c)→good last (runs s))∧flat (runs s)=s∧(∀c n r,runs s=(n,c)::r→s.head?=some c):=by
 induction s with
 | nil=>simp[runs,good,flat]
 | cons c l ih =>
  obtain⟨h1,h2,h3⟩:=ih;cases hr:runs l with
  | nil =>
   rw[hr]at h2;simp only[runs,hr,good,flat]at h2 ⊢;subst h2;refine⟨fun last h=>⟨by omega,h c rfl,trivial⟩,rfl,?_⟩;intro c' n' r' he; simp only[awO,awo]at he; simp[he.1.2]
  | cons x r =>
   obtain⟨n,d⟩:=x;have hd:=h3 d n r hr;rw[hr]at h2;simp only[runs,hr];simp only[flat]at h2;split
   ·rename_i e;subst e;refine⟨fun last h=>?_,?_,?_⟩
    ·have:=h1 none (by simp);rw[hr]at this;simp only[good]at this ⊢;exact⟨by omega,h d rfl,this.2.2⟩
    ·simp only[flat,ayl,axB,h2]
    intro c' n' r' he; simp only[awO,awo]at he; simp[he.1.2]
   rename_i e;refine⟨fun last h=>?_,?_,?_⟩
   ·have:=h1 (some c) (by intro c' hc'; rw[hd]at hc'; simp only[awn]at hc' ⊢; exact fun e'=>e (hc'.trans (awx e').symm));rw[hr]at this;simp only[good]at this ⊢;exact⟨by omega,h c rfl,this⟩
   ·simp only[flat,ayl,ayt,axB,axy,h2]
   intro c' n' r' he; simp only[awO,awo]at he; simp[he.1.2]
theorem YG(r:List (Nat×β)):∀last,good last r→runs (flat r)=r:=by
 induction r with
 | nil=>intro _ _; rfl
 | cons x r ih =>
  obtain⟨n,c⟩:=x;intro last h;simp only[good]at h;obtain⟨hn,_,hg⟩:=h;have hr:=ih _ hg;simp only[flat];have key:∀k,runs (List.replicate (k+1) c++flat r)=(k+1,c)::r:=by
   intro k;induction k with
   | zero =>
    simp only[ayl,ayt,axB,axy,runs,hr];cases r with
    | nil=>rfl
    | cons y r' =>
     obtain⟨m,d⟩:=y;simp only[good]at hg;simp only;rw[awj (fun e=>hg.2.1 (by rw[e]))]
   | succ k ihk =>
    rw[ayl,axB,runs,ihk];simp
  obtain⟨m,rfl⟩:∃m,n=m+1:=⟨n-1,by omega⟩;exact key m
def GV(last:Option β):List (Nat×β)→Option β
  | []=>last
  | (_,c)::r=>GV (some c) r
theorem YH(R:List (Nat×β))(n:Nat)(c:β):∀last,good last (R++[(n,c)])↔good last R∧0<n∧GV last R≠some c:=by
  induction R with
  | nil=>intro last; simp[good,GV]
  | cons x R ih => intro last; obtain ⟨m, d⟩ := x; simp only [axB, good, GV, ih]; constructor
                   · rintro⟨h1,h2,h3,h4,h5⟩; exact⟨⟨h1,h2,h3⟩,h4,h5⟩
                   · rintro⟨⟨h1,h2,h3⟩,h4,h5⟩; exact⟨h1,h2,h3,h4,h5⟩
theorem PU(R S:List (Nat×β)):flat (R++S)=flat R++flat S:=by
 induction R with
 | nil=>rfl
 | cons x R ih=>obtain⟨m,d⟩:=x; simp[flat,ih]
theorem Ul(R:List (Nat×β))(n:Nat)(c:β):∀last,GV last (R++[(n,c)])=some c:=by
 induction R with
 | nil=>intro last; rfl
 | cons x R ih=>intro last; obtain⟨m,d⟩:=x; simp[GV,ih]
theorem aeX{s:List β}{R:List (Nat×β)}(hg:good none R)(hf:flat R=s):runs s=R:=by rw[←hf]; exact YG R none hg
theorem CB(s:List β):good none (runs s)∧flat (runs s)=s:=⟨(JJ s).1 none (by simp),(JJ s).2.1⟩
theorem aeY{R:List (Nat×β)}:∀x∈R,x.1≤(flat R).length:=by
 induction R with
 | nil=>intro x hx; simp at hx
 | cons y R ih =>
  intro x hx;obtain⟨m,d⟩:=y;rcases aww.1 hx with rfl | hx
  ·simp[flat]
  have:=ih x hx; simp[flat]; omega
def pb(p:bW):List UInt8:=[p.r,p.g,p.b,p.a]
def rb:List (Nat×bW)→List UInt8
  | []=>[]
  | (n,p)::r=>fZ 10 n++pb p++rb r
def enc(l:List bW):List UInt8:=rb (runs l)
theorem YI(R S:List (Nat×bW)):rb (R++S)=rb R++rb S:=by
 induction R with
 | nil=>rfl
 | cons x R ih=>obtain⟨m,d⟩:=x; simp[rb,ih]
theorem aeZ(R:List (Nat×bW))(n:Nat)(p:bW):rb (R++[(n,p)])=rb R++(fZ 10 n++pb p):=by rw[YI]; simp[rb]
theorem aiy{R:List (Nat×bW)}:∀{last:Option bW},Px.good last R→(rb R).length≤14*(flat R).length:=by
 induction R with
 | nil=>intro _ _; exact awt _
 | cons z R ih =>
  intro last h;obtain⟨n,p⟩:=z;simp only[Px.good]at h;have:=ih h.2.2;have:=kK 10 n;simp only[rb,pb,flat,awr,awV,axn,List.length_replicate];omega
theorem RU{p q:bW}{x y:List UInt8}(h:pb p++x=pb q++y):p=q∧x=y:=by
 simp only[pb,axB,axy,awO]at h;obtain⟨h1,h2,h3,h4,h5⟩:=h;exact⟨by cases p; cases q; simp_all,h5⟩
theorem ae0{n m:Nat}{p q:bW}{x y:List UInt8}(hn:n<18446744073709551616)(hm:m<18446744073709551616)(h:fZ 10 n++pb p++x=fZ 10 m++pb q++y):n=m∧p=q∧x=y:=by
 have h1:=qK n (pb p++x) hn;have h2:=qK m (pb q++y) hm;rw[←awF]at h1 h2;rw[h,h2]at h1;simp only[ayG,awo]at h1;obtain⟨rfl,-⟩:=h1;rw[awF,awF]at h;obtain⟨h3,h4⟩:=RU (List.append_cancel_left h);exact⟨rfl,h3,h4⟩
def Bd(R:List (Nat×bW)):Prop:=∀x∈R,x.1<18446744073709551616
theorem acg:∀{R S:List (Nat×bW)} {x:List UInt8},Bd R→Bd S→rb R++x=rb S→∃T,S=R++T∧rb T=x
  | [],S,x,_,_,h=>⟨S,rfl,h.symm⟩
  | (n,p)::R,[],x,_,_,h=>by
    have:=awp List.length h
    simp[rb,pb]at this
  | (n,p)::R,(m,q)::S,x,hR,hS,h=>by
    simp only[rb,awF]at h
    obtain⟨rfl,rfl,h3⟩:=ae0 (hR _ awK) (hS _ awK) (by simpa only[awF]using h)
    obtain⟨T,rfl,hT⟩:=acg (fun z hz=>hR z (axQ _ hz)) (fun z hz=>hS z (axQ _ hz)) h3
    exact⟨T,rfl,hT⟩
theorem V7{R:List (Nat×bW)}(h:(flat R).length<18446744073709551616):Bd R:=fun x hx=>ayr (aeY x hx) h
theorem ae1{l m:List bW}(hl:l.length<18446744073709551616)(hm:m.length<18446744073709551616)(h:enc l=enc m):l=m:=by
 have h1:=CB l;have h2:=CB m;obtain⟨T,hT,hx⟩:=acg (R:=runs l) (S:=runs m) (x:=[]) (V7 (by rw[h1.2]; exact hl)) (V7 (by rw[h2.2]; exact hm)) (by rw[axt]; exact h);have hT0:T=[]:=by
  cases T with
  | nil=>rfl
  | cons z T=>obtain⟨n,p⟩:=z; have:=awp List.length hx; simp[rb,pb]at this
 rw[←h1.2,←h2.2,hT,hT0,axt]
structure Ba (L:List bW) (i:Nat) (R:List (Nat×bW)):Prop where
  good:good none R
  flat:flat R=L.take i
  le:i≤L.length
  nxt:∀h:i<L.length,GV none R≠some L[i]
theorem Ba.zero(L:List bW):Ba L 0 []:=⟨trivial,rfl,awt _,fun _ h=>by cases h⟩
theorem Ba.step{L:List bW}{i k:Nat}{R:List (Nat×bW)}{p:bW}(h:Ba L i R)(hi:i<L.length)(hp:L[i]=p)(hk:i<k)(hkl:k≤L.length)(hall:∀(j:Nat) (hj:j<L.length),i≤j→j<k→L[j]=p)(hend:∀h:k<L.length,L[k]≠p):Ba L k (R++[(k-i,p)]):=by
 subst hp;refine⟨(YH R _ _ none).2 ⟨h.good,by omega,h.nxt hi⟩,?_,hkl,fun hkk=>?_⟩
 ·rw[PU,h.flat];have e:L.take k=L.take i++(L.drop i).take (k-i):=by rw[←List.take_add]; congr 1; omega
  rw[e];congr 1;simp only[Px.flat,axt];symm;refine List.eq_replicate_iff.2 ⟨by simp; omega,fun x hx=>?_⟩;obtain⟨j,hj,rfl⟩:=List.getElem_of_mem hx;simp only[ayw,ayp]at hj;rw[List.getElem_take,List.getElem_drop];exact hall (i+j) (by omega) (by omega) (by omega)
 rw[Ul];exact fun e=>hend hkk (awx e).symm
theorem Ba.done{L:List bW}{i:Nat}{R:List (Nat×bW)}(h:Ba L i R)(hi:L.length≤i):rb R=enc L:=by
 have h2:=h.flat;rw[awP hi]at h2;unfold enc;rw[aeX h.good h2]
end Px
end
section
set_option maxHeartbeats 800000
set_option maxRecDepth 100000
open Go.RowKit
variable{α:Type}
theorem Um(v u:Value)(l m:List UInt32)(w:World)(hv:aB w v l)(hu:aB w u m)(hlen:l.length≤5000000)(hlen2:m.length≤5000000) :
  Calls Tryz.prog 237 #[v,u] w fun e w'=>∃g,e = .returned g∧aB w' g (Na.ak (Nat.gcd (Na.val l) (Na.val m)))∧Ext w w':=by
 have C1:=awf (dQ v l w hv (by omega));have hla:=bT l;have hlb:=bT m;go_enter Tryz.func237,Tryz.ntmps237
 go_wp2_with fail
 refine C1.out.mono ?_;rintro e w1 ⟨x,rfl,hx,hb1⟩;have hx:=aU hx;go_wp2_with fail
 refine(dQ u m w1 (hu.below hb1) (by omega)).mono ?_;rintro e w2 ⟨y,rfl,hy,hb2⟩;have hy:=aU hy;have hx2:=hx.below hb2;have ah3:=Ext.trans' hb1 hb2;clear hx C1 hv hu;have HX:=awf hx2;have HY:=awf hy;clear hx2 hy;go_wp2_with fail
 go_loopw [5,6,7,8,9] (fun x y _ _ _ wr=>∃(A B:Nat),aB wr x (Na.ak A)∧aB wr y (Na.ak B)∧Nat.gcd A B=Nat.gcd (Na.val l) (Na.val m)∧(Na.ak A).length≤5000000∧(Na.ak B).length≤5000000∧Ext w wr) (fun _ y _ _ _ wr=>valOf wr y)
 case atStart=>exact⟨(Na.val l),(Na.val m),HX.out,HY.out,rfl,by omega,by omega,ah3⟩
 case round =>
  obtain⟨A,B,hx,hy,hg,hlA,hlB,hbel⟩:=hrel;have HM:=awf (AO hy);have HG:=awf hg;have HX:=awf hx;have HY:=awf hy;clear hg hx hy;obtain⟨ay,cy,rfl⟩:=HY.out.shape;rcases awY B with rfl | hB
  ·have h0:((Na.ak 0).length:Int)=0:=by rw[Na.lC.2 rfl]; rfl
   go_wp2_with fail
   go_ret
   refine⟨_,rfl,?_,hbel⟩;rw[←HG.out,Nat.gcd_zero_right];exact HX.out
  have h0:(0:Int)<((Na.ak B).length:Int):=by
   have:(Na.ak B).length≠0:=fun h=>by have:=oP h; omega
   omega
  have hD:=yX _ _ _ _ wr HX.out HY.out (by rw[Na.aC]; exact hB) hlA hlB;rw[Na.aC,Na.aC]at hD;have HD:=awf hD;clear hD;go_wp2_with fail
  refine HD.out.mono ?_;rintro e w' ⟨q,r,rfl,hq,hr,hb⟩;have HR:=awf (aU hr);have HY':=awf (HY.out.below hb);clear hq hr;go_wp2_with fail
  go_roundw
  case rel =>
   refine⟨B,A%B,HY'.out,HR.out,?_,hlB,?_,Ext.trans' hbel hb⟩
   ·rw[←HG.out,Nat.gcd_comm A B,Nat.gcd_rec B A,Nat.gcd_comm]
   exact awU (fF (ax2 (axv A hB))) hlB
  case measure =>
   rw[AO HR.out,HM.out,Na.aC,Na.aC];exact axv _ hB
theorem vT(neg:Bool)(v:Value)(l:List UInt32)(w:World)(hv:aB w v l)(hlen:l.length≤1000000000) :
  Calls Tryz.prog 236 #[.bool neg,v] w fun e w'=>∃x,e = .returned x∧aK w.heap.size w' x (neg&&decide (0<Na.val l)) (Na.val l)∧Ext w w':=by
 have hb1:=aF w (.cells #[.z,.sn] 29);have HC:=awf (dQ v l _ (hv.below hb1) hlen);have hpos:Hid (decide ((0:Int)<((Na.ak (Na.val l)).length:Int))=decide (0<Na.val l)):=by
  show _=_;rw[decide_eq_decide];constructor
  ·intro h;rcases awY (Na.val l)with h0 | h0
   ·rw[h0,Na.kL]at h; simp at h
   exact h0
  intro h;have:(Na.ak (Na.val l)).length≠0:=fun h'=>by
   have:=Na.lC.1 (axD h'); omega
  omega
 rcases ayO neg with rfl | rfl;all_goals
  go_enter Tryz.func236,Tryz.ntmps236
  go_wp2_with fail
  refine HC.out.mono ?_
  rintro e w1 ⟨v',rfl,ho,hb2⟩
  have hrow:=aU ho
  have hoff:=NQ ho
  obtain⟨hc,hf,hz⟩:=iP hb2
  have hb0:=Ext.trans' hb1 hb2
  have HB:=awf hb0
  have HR:=awf hrow
  have HO:=awf hoff
  obtain⟨a,cap,rfl⟩:=HR.out.shape
  clear HC ho hrow hb2 hb1 hb0 hoff
  go_wp2_with fail
 ·refine bodyPost_ret (v := .agg #[.bool ((0:Int)<((Na.ak (Na.val l)).length:Int)),.slice a (Na.ak (Na.val l)).length cap]) (by simp[results,Tryz.results236,go_sem,hc]) rfl ⟨_,rfl,⟨_,by rw[axo,hpos.out],?_⟩,?_⟩
  ·exact⟨HR.out.ch (((Ch.refl _ _).setCell _ _).setCell _ _) (fun _=>HO.out.off (by simp)),HO.out.mono (by simp)⟩
  exact(HB.out.setCell (p:=⟨w.heap.size,0,none⟩) (awm _) _).setCell (p:=⟨w.heap.size,1,none⟩) (awm _) _
 refine bodyPost_ret (v := .agg #[.z,.slice a (Na.ak (Na.val l)).length cap]) (by simp[results,Tryz.results236,go_sem,hc]) rfl ⟨_,rfl,⟨_,by rw[axL],?_⟩,?_⟩
 ·exact⟨HR.out.ch (((Ch.refl _ _).setCell _ _).setCell _ _) (fun _=>HO.out.off (by simp)),HO.out.mono (by simp)⟩
 exact(HB.out.setCell (p:=⟨w.heap.size,0,none⟩) (awm _) _).setCell (p:=⟨w.heap.size,1,none⟩) (awm _) _
theorem xK(x:Nat)(w:World)(h:(x:Int)≤9223372036854775807) :
  Calls Tryz.prog 213 #[.i x] w fun e w'=>∃v,e = .returned v∧aK w.heap.size w' v false x∧Ext w w':=by
 have hN:x<18446744073709551616:=by omega
 obtain⟨y,rfl⟩:∃y:UInt64,x=y.toNat:=⟨UInt64.ofNat x,by simp; omega⟩;have h0:¬(y.toNat:Int)<0:=by omega
 have hyl:=y.toNat_lt;have hw:=adW y;have hb0:=aF w (.cells #[.z,.sn] 29);have hr:aB ((w.alloc (.cells #[.z,.sn] 29)).alloc (.cells #[aX y.toUInt32,aX (y>>>32).toUInt32] 66)) (.slice (some ⟨w.heap.size+1,0,none⟩) 2 2) [y.toUInt32,(y>>>32).toUInt32]:=by
  have:=KD (w.alloc (.cells #[.z,.sn] 29)) [y.toUInt32,(y>>>32).toUInt32] (f:=aX) 66 (by unfold maxLen; simp);simpa using this
 have hI:=vT false _ _ _ hr (by simp);rw[OX]at hI;have HI:=awf hI;have HB:=awf (hb0.alloc (by simp) (.cells #[aX y.toUInt32,aX (y>>>32).toUInt32] 66));clear hr hI hb0;have HE:Hid (((y>>>32).toNat:Int)=((y>>>32).toUInt32.toNat:Int)):=by
  show _=_;rw[←yu,←Lu]; omega
 go_enter Tryz.func213,Tryz.ntmps213
 go_wp2_with fail
 rw[yu,Lu,HE.out];refine HI.out.mono ?_;rintro e w2 ⟨z,rfl,⟨s,rfl,hs,fs⟩,hb2⟩;obtain⟨b1,d1,rfl⟩:=hs.shape;have r0:∀i,w2.cell? ⟨w.heap.size,i,none⟩ = #[Value.z,.sn][i]?:=fun i=>by rw[hb2.cell (p:=⟨w.heap.size,i,none⟩) (by simp; omega)]; simp[go_sem]
 have f0:∀i,w2.frozen? ⟨w.heap.size,i,none⟩=false:=fun i=>by rw[hb2.frozen (p:=⟨w.heap.size,i,none⟩) (by simp; omega)]; simp[go_sem]
 have hz:w.heap.size<w2.heap.size:=by have:=hb2.size; simp at this; omega
 have HX:=awf (Ext.trans' HB.out hb2);have F:=awf (And.intro hs fs);clear hs fs hb2 HI;go_wp2_with fail
 refine bodyPost_ret (v := .agg #[.z,.slice b1 (Na.ak y.toNat).length d1]) (by simp[results,Tryz.results213,go_sem,r0]) rfl ⟨_,rfl,⟨_,rfl,?_,?_⟩,?_⟩
 ·exact F.out.1.ch (((Ch.refl w.heap.size _).setCell 0 _).setCell 1 _) (fun _=>F.out.2.off (by simp; omega))
 ·exact F.out.2.mono (by simp; omega)
 exact(HX.out.setCell (p:=⟨_,0,none⟩) (by simp only; omega) _).setCell (p:=⟨_,1,none⟩) (by simp only; omega) _
theorem sH(neg:Bool)(s:Value)(l:List UInt32)(w:World)(hv:aB w s l)(hlen:l.length≤100000000) :
  Calls Tryz.prog 182 #[.agg #[.bool neg,s]] w fun e w'=>e = .returned (.i (qG neg (Na.val l)))∧Ext w w':=by
 have hb1:=aF w (.cells #[.bool neg,s] 29);have HC:=awf (vT neg s l _ (hv.below hb1) (by omega));have HB:=awf hb1;obtain⟨a,cap,rfl⟩:=hv.shape;clear hv hb1;by_cases h0:Na.val l=0
 ·have hs:Hid (qG neg (Na.val l)=0):=by show _=_; unfold qG; rw[awl h0]
  have hd:(((Na.ak (Na.val l)).length:Int)==0)=true:=by rw[h0]; rfl
  clear h0;go_enter Tryz.func182,Tryz.ntmps182
  go_wp2_with fail
  refine HC.out.mono ?_;rintro e w' ⟨x,rfl,⟨t,rfl,ht,ft⟩,hb⟩;obtain⟨b1,d1,rfl⟩:=ht.shape;have HX:=awf (Ext.trans' HB.out hb);have hsz:=HX.out.size;clear ht ft hb HC HB;go_wp2_with fail
  go_ret
  exact⟨by rw[hs.out]; rfl,HX.out.alloc hsz _⟩
 have hd:(((Na.ak (Na.val l)).length:Int)==0)=false:=by
  rw[awI];intro h;exact h0 (oP (by omega))
 have hs0:Hid (∀neg,qG neg (Na.val l)=if neg then -1 else 1):=fun neg=>awj h0;have hp:decide (0<Na.val l)=true:=axg (by omega);rw[hp]at HC;clear h0 hp;rcases ayO neg with rfl | rfl;all_goals
  go_enter Tryz.func182,Tryz.ntmps182
  go_wp2_with fail
  refine HC.out.mono ?_
  rintro e w' ⟨x,rfl,⟨t,rfl,ht,ft⟩,hb⟩
  obtain⟨b1,d1,rfl⟩:=ht.shape
  have HX:=awf (Ext.trans' HB.out hb)
  have hsz:=HX.out.size
  clear ht ft hb HC HB
  go_wp2_with fail
  go_ret
  exact⟨by rw[hs0.out]; rfl,HX.out.alloc hsz _⟩
theorem GX(neg:Bool)(s:Value)(l:List UInt32)(w:World)(hv:aB w s l)(hlen:l.length≤100000000) :
  Calls Tryz.prog 238 #[.agg #[.bool neg,s]] w fun e w'=>∃x,e = .returned x∧aK w.heap.size w' x (!neg&&decide (0<Na.val l)) (Na.val l)∧Ext w w':=by
 have hb0:=aF w (.cells #[.bool neg,s] 29);have hb1:=hb0.alloc (by simp) (.cells #[.z,.sn] 29);have HC:=awf (vT (!neg) s l _ (hv.below hb1) (by omega));have HB:=awf hb1;obtain⟨a,cap,rfl⟩:=hv.shape;clear hv hb1 hb0;go_enter Tryz.func238,Tryz.ntmps238
 go_wp2_with fail
 refine HC.out.mono ?_;rintro e w2 ⟨z,rfl,⟨s,rfl,hs,fs⟩,hb2⟩;obtain⟨b1,d1,rfl⟩:=hs.shape;have r0:∀i,w2.cell? ⟨w.heap.size+1,i,none⟩ = #[Value.z,.sn][i]?:=fun i=>by rw[hb2.cell (p:=⟨w.heap.size+1,i,none⟩) (by simp)]; simp[go_sem]
 have f0:∀i,w2.frozen? ⟨w.heap.size+1,i,none⟩=false:=fun i=>by rw[hb2.frozen (p:=⟨w.heap.size+1,i,none⟩) (by simp)]; simp[go_sem]
 have hz:w.heap.size+1<w2.heap.size:=by have:=hb2.size; simp at this; omega
 have HX:=awf (Ext.trans' HB.out hb2);have F:=awf (And.intro hs fs);generalize hnb:(!neg&&decide (0<Na.val l))=nb at *;have HNB:=awf hnb;clear hs fs hb2 HC hnb;go_wp2_with fail
 refine bodyPost_ret (v := .agg #[.bool nb,.slice b1 (Na.ak (Na.val l)).length d1]) (by simp[results,Tryz.results238,go_sem,r0]) rfl ⟨_,rfl,⟨_,by rw[HNB.out],?_,?_⟩,?_⟩
 ·exact F.out.1.ch (((Ch.refl (w.heap.size+1) _).setCell 0 _).setCell 1 _) (fun _=>F.out.2.off (by simp))
 ·exact F.out.2.mono (by simp; omega)
 exact(HX.out.setCell (p:=⟨_,0,none⟩) (by simp only; omega) _).setCell (p:=⟨_,1,none⟩) (by simp only; omega) _
theorem Bc(x:Nat)(w:World)(h:(x:Int)≤9223372036854775807) :
  Calls Tryz.prog 154 #[.i x] w fun e w'=>∃v,e = .returned v∧aG w.heap.size w' v false x 1∧Ext w w':=by
 have hb0:=aF w (.cells #[.z,.sn,.z,.sn] 31);have H1:=awf (xK x (w.alloc (.cells #[.z,.sn,.z,.sn] 31)) h);have HB0:=awf hb0;clear hb0;go_enter Tryz.func154,Tryz.ntmps154
 go_wp2_with fail
 refine H1.out.mono ?_;rintro e w1 ⟨y,rfl,⟨s,rfl,hs,fs⟩,hb1⟩;have h2:=xK 1 w1 (by decide);have H2:=awf h2;have HS:=awf (And.intro hs fs);have HB1:=awf hb1;clear h2 H1 hs fs hb1;go_wp2_with fail
 refine H2.out.mono ?_;rintro e w2 ⟨y,rfl,⟨t,rfl,ht,ft⟩,hb2⟩;obtain⟨b1,d1,rfl⟩:=HS.out.1.shape;obtain⟨b2,d2,rfl⟩:=ht.shape;obtain⟨r0,f0,hz⟩:=iP (Ext.trans' HB1.out hb2);obtain⟨-,-,hz1⟩:=iP HB1.out;have F:=awf (And.intro (HS.out.1.below hb2) (And.intro ht (And.intro HS.out.2 ft)));have HX:=awf (Ext.trans' HB0.out (Ext.trans' HB1.out hb2));clear ht ft hb2 H2;go_wp2_with fail
 refine bodyPost_ret (v := .agg #[.z,.slice b1 (Na.ak x).length d1,.z,.slice b2 (Na.ak 1).length d2]) (by simp[results,Tryz.results154,go_sem,r0]) rfl ⟨_,rfl,⟨_,_,rfl,?_,?_,?_,?_⟩,?_⟩
 ·exact F.out.1.ch (((((Ch.refl w.heap.size _).setCell _ _).setCell _ _).setCell _ _).setCell _ _) (fun _=>F.out.2.2.1.off (by simp))
 ·exact F.out.2.1.ch (((((Ch.refl w.heap.size _).setCell _ _).setCell _ _).setCell _ _).setCell _ _) (fun _=>F.out.2.2.2.off hz1)
 ·exact F.out.2.2.1.mono (by simp)
 ·exact F.out.2.2.2.mono (by omega)
 exact(((HX.out.setCell (p:=⟨_,0,none⟩) (by simp only; omega) _).setCell (p:=⟨_,1,none⟩) (by simp only; omega) _).setCell (p:=⟨_,2,none⟩) (by simp only; omega) _).setCell (p:=⟨_,3,none⟩) (by simp only; omega) _
end
section
open Go.RowKit
variable{α:Type}
theorem vU{v:Value}{a:Nat}{w:World}(neg:Bool)(hv:aB w v (Na.ak a))(hlen:(Na.ak a).length≤1000000000) :
  Calls Tryz.prog 236 #[.bool neg,v] w fun e w'=>∃x,e = .returned x∧aK w.heap.size w' x (neg&&decide (0<a)) a∧Ext w w':=by
 have h:=vT neg v _ w hv hlen;rw[Na.aC]at h;exact h
end
end Go.Proofs.YtapmgonflgahbaaGreatDoor
