/- Bytes and strings in the walk by reckoning: string(b), -/
import Derived.Test.YtapmgonflgahbaaGreatDoorOwn
set_option linter.unusedVariables false
section
namespace Go.Sx
open Go.Proofs.YtapmgonflgahbaaGreatDoor Go.RowKit Go.Rel
variable{P:Program}{ops:Array Oper}{Q:Exit→Act→World→Prop}{w0 w:World}{a:Act}{os:List Oper}{n:Nat}{l:List (Nat×Value)}{bl:List (Nat×List Value)}{vs:List gX}
theorem zY{x y:Int}(h:x=y)(hb : -9223372036854775808≤y∧y≤9223372036854775807):Value.i (IntKind.i64.wrap x) = .i y:=by subst h; exact Z5 hb
theorem agZ(S:St w0 a w n l bl vs)(d:Nat)(V:Value){w1:World}{o:Oper}{os':List Oper}(hos:os=o::os')(hg:o.guard=none)(hdst:o.dst=some d)(hrun:(execOp a.eval o).run P w = .ok (.value V) w1)(hE:Ext w w1)
  (next:∀{a'},St w0 a' w1 n ((d,V)::l) bl vs→wpList P ops Q (os.drop 1) a' w1) (hd:Cb n (some d)=true:=by rfl):wpList P ops Q os a w:=by
 subst hos;unfold wpList;rw[an6 (by simp[Region.wanted,hg])];left;unfold Oper.wp;rw[hrun];simp only[Oper.upon];rw[hdst];exact next ((S.grow hE).act (wP (d:=some d) S.s hd V))
end Go.Sx
end
section
namespace En
def dP:Nat→Nat→List UInt8
 | 0,_=>[]
 | f+1,n=>if n<128 then [UInt8.ofNat n]else UInt8.ofNat (n%128+128)::dP f (n/128)
def comb(k a:Nat):Except Nat (Nat×Nat)→Except Nat (Nat×Nat)
 | .ok (n,j) => .ok (a+128^k*n,k+j)
 | .error e => .error e
def qP:Nat→List UInt8→Except Nat (Nat×Nat)
 | _,[] => .error 4
 | 0,c::_=>if c.toNat=1 then .ok (1,1)else .error 3
 | f+1,c::l=>if c.toNat<128 then (if c.toNat=0∧f≠8 then .error 3 else .ok (c.toNat,1))else comb 1 (c.toNat%128) (qP f l)
theorem VD(r:Except Nat (Nat×Nat)):comb 0 0 r=r:=by
 rcases r with e | ⟨n,j⟩<;>simp[comb]
theorem VE(k a c:Nat)(r:Except Nat (Nat×Nat)):comb k a (comb 1 c r)=comb (k+1) (a+128^k*c) r:=by
 rcases r with e | ⟨n,j⟩
 ·rfl
 simp only[comb,Nat.pow_one];congr 2
 ·rw[aos,aoF]; rw[aoI]; omega
 omega
theorem abL(f:Nat):qP f [] = .error 4:=by cases f<;>rfl
theorem YO(f:Nat)(c:UInt8)(l:List UInt8)(h:¬c.toNat<128):qP (f+1) (c::l)=comb 1 (c.toNat%128) (qP f l):=by
 rw[qP,an0 h]
theorem EO{n:Nat}(h:n<256):(UInt8.ofNat n).toNat=n:=by simp; omega
theorem ajs(f:Nat):2^(7*(f+1)+1)=128*2^(7*f+1):=by
 rw[show 7*(f+1)+1=(7*f+1)+7 by omega,apV,aoH]
theorem aeL(f:Nat):∀(l:List UInt8) (n k:Nat),qP f l = .ok (n,k) →
  n<2^(7*f+1)∧1≤k∧k≤l.length∧k≤f+1∧(9≤f∨f<9∧0<n)∧(f≤9→dP (f+1) n=l.take k):=by
 induction f with
 | zero =>
  intro l n k h;cases l with
  | nil=>simp[qP]at h
  | cons c l =>
   simp only[qP]at h;split at h
   ·rename_i hc;simp only[Except.ok.injEq,aob]at h;obtain⟨rfl,rfl⟩:=h;refine⟨by decide,by omega,by simp,by omega,.inr ⟨by omega,by omega⟩,fun _=>?_⟩;simp only[dP];have:c=1:=aps.1 (by simpa using hc);rw[this]; rfl
   cases h
 | succ f ih =>
  intro l n k h;cases l with
  | nil=>simp[qP]at h
  | cons c l =>
   rw[ajs];have hp:0<2^(7*f+1):=Nat.pow_pos (by omega);simp only[qP]at h;split at h
   ·rename_i hc;split at h
    ·cases h
    rename_i h0;simp only[Except.ok.injEq,aob]at h;obtain⟨rfl,rfl⟩:=h;refine⟨by omega,by omega,by simp,by omega,?_,fun _=>?_⟩
    ·by_cases e:c.toNat=0
     ·left; have:¬f≠8:=fun h=>h0 ⟨e,h⟩; omega
     by_cases e9:f+1<9
     ·right; omega
     left; omega
    rw[dP,an6 hc]; simp
   rename_i hc;cases hr:qP f l with
   | error e=>rw[hr]at h; simp[comb]at h
   | ok p =>
    obtain⟨n',k'⟩:=p;rw[hr]at h;simp only[comb,Nat.pow_one,Except.ok.injEq,aob]at h;obtain⟨rfl,rfl⟩:=h;obtain⟨h1,h2,h3,h4,h5,h6⟩:=ih l n' k' hr;refine⟨by omega,by omega,by simp; omega,by omega,?_,fun hf=>?_⟩
    ·by_cases e9:f+1<9
     ·right; omega
     left; omega
    have hn:0<n':=by rcases h5 with h5 | h5<;>omega
    rw[dP,an0 (by omega)];have e1:(c.toNat%128+128*n')/128=n':=by omega
    have e2:UInt8.ofNat ((c.toNat%128+128*n')%128+128)=c:=by
     apply aps.1;rw[EO (by omega)];have:=c.toNat_lt;omega
    rw[e1,e2,h6 (by omega)];rw[apB 1 k']; rfl
theorem iE(f:Nat):∀n,(dP f n).length≤f:=by
 induction f with
 | zero=>intro n; simp[dP]
 | succ f ih =>
  intro n;rw[dP]; split
  ·simp
  have:=ih (n/128); simp; omega
theorem xu(f n:Nat):0<(dP (f+1) n).length:=by rw[dP]; split<;>simp
theorem Ub{l:List UInt8}{n k:Nat}(h:qP 9 l = .ok (n,k)):n<18446744073709551616∧1≤k∧k≤l.length∧k≤10∧dP 10 n=l.take k:=by
 obtain⟨h1,h2,h3,h4,_,h6⟩:=aeL 9 l n k h;exact⟨by simpa using h1,h2,h3,h4,h6 (an7 _)⟩
def zig(x:Int):Nat:=if x<0 then (-2*x-1).toNat else (2*x).toNat
def Je(n:Nat):Int:=if n%2=1 then -1-((n/2:Nat):Int)else ((n/2:Nat):Int)
theorem YH{x:Int}(h : -9223372036854775808≤x)(h2:x≤9223372036854775807):zig x<18446744073709551616:=by unfold zig; split<;>omega
theorem Z7{n:Nat}(h:n<18446744073709551616) : -9223372036854775808≤Je n∧Je n≤9223372036854775807:=by unfold Je; split<;>omega
def Dy(l:List UInt8)(at_:Int):Nat×Nat×Nat:=
 if at_<0∨(l.length:Int)<at_ then (0,0,2)
 else match qP 9 (l.drop at_.toNat)with
  | .ok (n,k)=>(n,at_.toNat+k,0)
  | .error e=>(0,0,e)
def vat(l:List UInt8)(at_:Int):Int×Nat×Nat:=(Je (Dy l at_).1,(Dy l at_).2)
theorem Ua(f:Nat):∀(l:List UInt8) (e:Nat),qP f l = .error e→e=3∨e=4:=by
 induction f with
 | zero =>
  intro l e h;cases l with
  | nil=>simp only[qP,aqk]at h; omega
  | cons c l =>
   simp only[qP]at h;split at h<;>simp only[reduceCtorEq,aqk]at h;omega
 | succ f ih =>
  intro l e h;cases l with
  | nil=>simp only[qP,aqk]at h; omega
  | cons c l =>
   simp only[qP]at h;split at h
   ·split at h<;>simp only[reduceCtorEq,aqk]at h;omega
   cases hr:qP f l with
   | error e'=>rw[hr]at h; simp only[comb,aqk]at h; subst h; exact ih l _ hr
   | ok p=>obtain⟨n',k'⟩:=p; rw[hr]at h; simp[comb]at h
end En
namespace En
variable{α:Type}
def jH(s:List UInt8):List UInt8:=dP 10 s.length++s
end En
namespace En
end En
namespace En
end En
end
namespace Go.Proofs.YtapmgonflgahbaaGreatDoor
section
namespace Px
set_option linter.unusedSectionVars false
open En
variable{β:Type}[DecidableEq β]
def runs:List β→List (Nat×β)
  | []=>[]
  | c::l=>match runs l with
    | []=>[(1,c)]
    | (n,d)::r=>if d=c then (n+1,d)::r else (1,c)::(n,d)::r
def flat:List (Nat×β)→List β
  | []=>[]
  | (n,c)::r=>List.replicate n c++flat r
def good:Option β→List (Nat×β)→Prop
  | _,[]=>True
  | last,(n,c)::r=>0<n∧last≠some c∧good (some c) r
theorem Ju(s:List β):(∀last,(∀c,s.head?=some c→last≠some c)→good last (runs s))∧flat (runs s)=s∧(∀c n r,runs s=(n,c)::r→s.head?=some c):=by
 induction s with
 | nil=>simp[runs,good,flat]
 | cons c l ih =>
  obtain⟨h1,h2,h3⟩:=ih;cases hr:runs l with
  | nil =>
   rw[hr]at h2;simp only[runs,hr,good,flat]at h2 ⊢;subst h2;refine⟨fun last h=>⟨by omega,h c rfl,trivial⟩,rfl,?_⟩;intro c' n' r' he; simp only[aoM,aob]at he; simp[he.1.2]
  | cons x r =>
   obtain⟨n,d⟩:=x;have hd:=h3 d n r hr;rw[hr]at h2;simp only[runs,hr];simp only[flat]at h2;split
   ·rename_i e;subst e;refine⟨fun last h=>?_,?_,?_⟩
    ·have:=h1 none (by simp);rw[hr]at this;simp only[good]at this ⊢;exact⟨by omega,h d rfl,this.2.2⟩
    ·simp only[flat,apU,apC,h2]
    intro c' n' r' he; simp only[aoM,aob]at he; simp[he.1.2]
   rename_i e;refine⟨fun last h=>?_,?_,?_⟩
   ·have:=h1 (some c) (by intro c' hc'; rw[hd]at hc'; simp only[an8]at hc' ⊢; exact fun e'=>e (hc'.trans (aof e').symm));rw[hr]at this;simp only[good]at this ⊢;exact⟨by omega,h c rfl,this⟩
   ·simp only[flat,apU,ap0,apC,apE,h2]
   intro c' n' r' he; simp only[aoM,aob]at he; simp[he.1.2]
theorem WY(r:List (Nat×β)):∀last,good last r→runs (flat r)=r:=by
 induction r with
 | nil=>intro _ _; rfl
 | cons x r ih =>
  obtain⟨n,c⟩:=x;intro last h;simp only[good]at h;obtain⟨hn,_,hg⟩:=h;have hr:=ih _ hg;simp only[flat];have key:∀k,runs (List.replicate (k+1) c++flat r)=(k+1,c)::r:=by
   intro k;induction k with
   | zero =>
    simp only[apU,ap0,apC,apE,runs,hr];cases r with
    | nil=>rfl
    | cons y r' =>
     obtain⟨m,d⟩:=y;simp only[good]at hg;simp only;rw[an0 (fun e=>hg.2.1 (by rw[e]))]
   | succ k ihk =>
    rw[apU,apC,runs,ihk];simp
  obtain⟨m,rfl⟩:∃m,n=m+1:=⟨n-1,by omega⟩;exact key m
def Gs(last:Option β):List (Nat×β)→Option β
  | []=>last
  | (_,c)::r=>Gs (some c) r
theorem WZ(R:List (Nat×β))(n:Nat)(c:β):∀last,good last (R++[(n,c)])↔good last R∧0<n∧Gs last R≠some c:=by
  induction R with
  | nil=>intro last; simp[good,Gs]
  | cons x R ih => intro last; obtain ⟨m, d⟩ := x; simp only [apC, good, Gs, ih]; constructor
                   · rintro⟨h1,h2,h3,h4,h5⟩; exact⟨⟨h1,h2,h3⟩,h4,h5⟩
                   · rintro⟨⟨h1,h2,h3⟩,h4,h5⟩; exact⟨h1,h2,h3,h4,h5⟩
theorem Oz(R S:List (Nat×β)):flat (R++S)=flat R++flat S:=by
 induction R with
 | nil=>rfl
 | cons x R ih=>obtain⟨m,d⟩:=x; simp[flat,ih]
theorem RG(R:List (Nat×β))(n:Nat)(c:β):∀last,Gs last (R++[(n,c)])=some c:=by
 induction R with
 | nil=>intro last; rfl
 | cons x R ih=>intro last; obtain⟨m,d⟩:=x; simp[Gs,ih]
theorem acn{s:List β}{R:List (Nat×β)}(hg:good none R)(hf:flat R=s):runs s=R:=by rw[←hf]; exact WY R none hg
theorem W9(s:List β):good none (runs s)∧flat (runs s)=s:=⟨(Ju s).1 none (by simp),(Ju s).2.1⟩
def pb(p:bT):List UInt8:=[p.r,p.g,p.b,p.a]
def rb:List (Nat×bT)→List UInt8
  | []=>[]
  | (n,p)::r=>dP 10 n++pb p++rb r
def enc(l:List bT):List UInt8:=rb (runs l)
theorem Xa(R S:List (Nat×bT)):rb (R++S)=rb R++rb S:=by
 induction R with
 | nil=>rfl
 | cons x R ih=>obtain⟨m,d⟩:=x; simp[rb,ih]
theorem UJ(R:List (Nat×bT))(n:Nat)(p:bT):rb (R++[(n,p)])=rb R++(dP 10 n++pb p):=by rw[Xa]; simp[rb]
theorem Z8{R:List (Nat×bT)}:∀{last:Option bT},Px.good last R→(rb R).length≤14*(flat R).length:=by
 induction R with
 | nil=>intro _ _; exact aoa _
 | cons z R ih =>
  intro last h;obtain⟨n,p⟩:=z;simp only[Px.good]at h;have:=ih h.2.2;have:=iE 10 n;simp only[rb,pb,flat,an5,aop,aoy,List.length_replicate];omega
structure xw (L:List bT) (i:Nat) (R:List (Nat×bT)):Prop where
  good:good none R
  flat:flat R=L.take i
  le:i≤L.length
  nxt:∀h:i<L.length,Gs none R≠some L[i]
theorem xw.zero(L:List bT):xw L 0 []:=⟨trivial,rfl,aoa _,fun _ h=>by cases h⟩
theorem xw.step{L:List bT}{i k:Nat}{R:List (Nat×bT)}{p:bT}(h:xw L i R)(hi:i<L.length)(hp:L[i]=p)(hk:i<k)(hkl:k≤L.length)(hall:∀(j:Nat) (hj:j<L.length),i≤j→j<k→L[j]=p)(hend:∀h:k<L.length,L[k]≠p):xw L k (R++[(k-i,p)]):=by
 subst hp;refine⟨(WZ R _ _ none).2 ⟨h.good,by omega,h.nxt hi⟩,?_,hkl,fun hkk=>?_⟩
 ·rw[Oz,h.flat];have e:L.take k=L.take i++(L.drop i).take (k-i):=by rw[←List.take_add]; congr 1; omega
  rw[e];congr 1;simp only[Px.flat,ao6];symm;refine List.eq_replicate_iff.2 ⟨by simp; omega,fun x hx=>?_⟩;obtain⟨j,hj,rfl⟩:=List.getElem_of_mem hx;simp only[ap3,List.length_drop]at hj;rw[List.getElem_take,List.getElem_drop];exact hall (i+j) (by omega) (by omega) (by omega)
 rw[RG];exact fun e=>hend hkk (aof e).symm
theorem xw.done{L:List bT}{i:Nat}{R:List (Nat×bT)}(h:xw L i R)(hi:L.length≤i):rb R=enc L:=by
 have h2:=h.flat;rw[aou hi]at h2;unfold enc;rw[acn h.good h2]
end Px
end
section
set_option maxHeartbeats 1600000
set_option maxRecDepth 100000
open Go.RowKit
variable{α:Type}{K:Nat}
def nG(a b:Int):Bool:=(side a&&side b)&&decide (a*b≤65536)
theorem Xb{x lo hi:Int}(h:(!(decide (lo≤x)&&decide (x≤hi)))=true):((decide (x<lo))||(decide (hi<x)))=true:=by
 simp only[apr,Bool.and_eq_false_iff,ao3]at h;simp only[apt,aov]; omega
theorem RH{x lo hi:Int}(h:(!(decide (lo≤x)&&decide (x≤hi)))=false):((decide (x<lo))||(decide (hi<x)))=false:=by
 simp only[ao4,aoq,aov]at h;simp only[aoP,ao3]; omega
theorem RI{l:List Int}{k:Nat}{any:Bool}(hk:l.length≤k)(hR:oC l (l.take k)=some any):((any&&(decide ((l.length:Int)≤16)))&&((Int.tmod (l.length:Int) 2)==0))=mg l:=by
 rw[←ND hk hR,apg,apg,Bool.and_comm (decide _)]
theorem Z9{a b:Int}:(((((decide (1≤a))&&(decide (a≤4096)))&&(decide (1≤b)))&&(decide (b≤4096)))&&(decide (IntKind.i64.wrap (a*b)≤65536)))=nG a b:=by
 unfold nG;cases ha:side a
 ·have:((decide (1≤a))&&(decide (a≤4096)))=false:=ha;rw[this]; rfl
 cases hb:side b
 ·have:((decide (1≤b))&&(decide (b≤4096)))=false:=hb;rw[apg ((decide (1≤a))&&(decide (a≤4096))),this]; simp
 rw[CQ ha hb];have h1:((decide (1≤a))&&(decide (a≤4096)))=true:=ha;have h2:((decide (1≤b))&&(decide (b≤4096)))=true:=hb;rw[apg ((decide (1≤a))&&(decide (a≤4096))),h1,h2]
theorem OA{a b:Int}(h:nG a b=true):IntKind.i64.wrap (a*b)=a*b:=by
 unfold nG at h;simp only[aoq]at h;exact CQ h.1.1 h.1.2
theorem Gt{m:dB}:((!(nG m.w m.h))||((m.l.length:Int) != IntKind.i64.wrap (m.w*m.h)))=((!(nG m.w m.h))||((m.l.length:Int) != (m.w*m.h))):=by
 cases h:nG m.w m.h
 ·rfl
 rw[OA h]
theorem Jv(m:dB):nG m.w m.h=m.size:=by unfold nG dB.size; rw[apg]
theorem aac{m:dB}(h:((!(nG m.w m.h))||((m.l.length:Int) != (m.w*m.h)))=true):false=m.valid:=by
 unfold dB.valid;rw[←Jv];revert h;cases nG m.w m.h<;>simp;intro h h1; omega
theorem Xc{m:dB}(h:((!(nG m.w m.h))||((m.l.length:Int) != (m.w*m.h)))=false)(ha:m.l.all bT.valid=true):true=m.valid:=by
 unfold dB.valid;rw[←Jv];revert h;cases nG m.w m.h<;>simp;intro h; exact⟨h,by simpa using ha⟩
theorem Xd{m:dB}(ha:m.l.all bT.valid=false):false=m.valid:=by
 unfold dB.valid;rw[ha]; simp
theorem DN(n:Int)(w:World) :
  Calls Tryz.prog 215 #[.i n] w fun e w'=>e = .returned (.bool (((n)==1)||((n)==2)))∧w=w':=by
 skip;refine anA Tryz.func215 Tryz.ntmps215 fun ac S=>anv fun _ aS=>adr S 1 [] [(2,.z)] fun S=>anu<|aS _ _<|anv fun _ eP=>adr S 7 [] [(2,.bool (((n)==1)||((n)==2)))] fun S=>anu<|eP _ _<|anz S Tryz.results215 ?_;exact⟨rfl,rfl⟩
def aA.pY(nd:aA):Bool:=(((((nd.path.length:Int))==0)&&((nd.aW)==0))&&(((nd.fill.length:Int))==0))&&(((nd.stroke.length:Int))==0)
theorem xA{w:World}{nd:aA}(h:nd.ok w) :
  Calls Tryz.prog 216 #[nd.v] w fun e w'=>e = .returned (.bool (nd.pY))∧Ext w w':=by
 skip;refine anA Tryz.func216 Tryz.ntmps216 fun ac S=>anv fun _ aS=>anw S 1 nd.cells fun ac u b2 E3 hb4 S=>adr S 1 [] [(2,.z)] fun S=>anu<|aS _ _<|anv fun _ bM=>adr S 22 [.mem 0 33,.mem 0 34,.mem 0 35,.mem 0 42] [(2,.bool ((((((nd.path.length:Int))==0)&&((nd.aW)==0))&&(((nd.fill.length:Int))==0))&&(((nd.stroke.length:Int))==0)))] fun S=>anu<|bM _ _<|anz S Tryz.results216 ?_;exact⟨rfl,S.E⟩
def aA.lT(nd:aA):Bool:=((((((nd.style.width)==0)&&((nd.style.join)==0))&&((nd.style.cap)==0))&&((nd.style.dZ)==0))&&(((nd.style.dash.length:Int))==0))&&((nd.style.phase)==0)
theorem sG{w:World}{nd:aA}(h:nd.ok w) :
  Calls Tryz.prog 217 #[nd.v] w fun e w'=>e = .returned (.bool (nd.lT))∧Ext w w':=by
 skip;refine anA Tryz.func217 Tryz.ntmps217 fun ac S=>anv fun _ aS=>anw S 1 nd.cells fun ac u b2 E3 hb4 S=>adr S 1 [] [(2,.z)] fun S=>anu<|aS _ _<|anv fun _ bM=>adr S 2 [.mem 0 36] [(5,nd.style.v)] fun S=>anw S 3 [.i 0,.i 0,.i 0,.i 0,.sn,.i 0] fun ac u b6 E7 hb8 S=>anC S 0 (off:=0) (cs:=nd.style.cells) rfl fun u C9 S=>anu<|bM _ _<|anv fun _ eX=>adr S 30 [.mem 0 0,.mem 0 1,.mem 0 2,.mem 0 3,.mem 0 4,.mem 0 5] [(2,.bool (((((((nd.style.width)==0)&&((nd.style.join)==0))&&((nd.style.cap)==0))&&((nd.style.dZ)==0))&&(((nd.style.dash.length:Int))==0))&&((nd.style.phase)==0)))] fun S=>anu<|eX _ _<|anz S Tryz.results217 ?_;exact⟨rfl,S.E⟩
def aA.rE(nd:aA):Bool:=((((nd.img.w)==0)&&((nd.img.h)==0))&&(((nd.img.l.length:Int))==0))&&((nd.bY)==0)
theorem xB{w:World}{nd:aA}(h:nd.ok w) :
  Calls Tryz.prog 218 #[nd.v] w fun e w'=>e = .returned (.bool (nd.rE))∧Ext w w':=by
 skip;refine anA Tryz.func218 Tryz.ntmps218 fun ac S=>anv fun _ aS=>anw S 1 nd.cells fun ac u b2 E3 hb4 S=>adr S 1 [] [(2,.z)] fun S=>anu<|aS _ _<|anv fun _ bM=>adr S 23 [.mem 0 43,.mem 0 44,.mem 0 45,.mem 0 46] [(2,.bool (((((nd.img.w)==0)&&((nd.img.h)==0))&&(((nd.img.l.length:Int))==0))&&((nd.bY)==0)))] fun S=>anu<|bM _ _<|anz S Tryz.results218 ?_;exact⟨rfl,S.E⟩
def aA.rF(nd:aA):Bool:=(((((nd.eY.toNat:Int))==0)&&((nd.blend)==0))&&(!nd.isolated))&&(!nd.dL)
theorem xC{w:World}{nd:aA}(h:nd.ok w) :
  Calls Tryz.prog 219 #[nd.v] w fun e w'=>e = .returned (.bool (nd.rF))∧Ext w w':=by
 skip;refine anA Tryz.func219 Tryz.ntmps219 fun ac S=>anv fun _ aS=>anw S 1 nd.cells fun ac u b2 E3 hb4 S=>adr S 1 [] [(2,.z)] fun S=>anu<|aS _ _<|anv fun _ bM=>adr S 19 [.mem 0 29,.mem 0 30,.mem 0 31,.mem 0 32] [(2,.bool ((((((nd.eY.toNat:Int))==0)&&((nd.blend)==0))&&(!nd.isolated))&&(!nd.dL)))] fun S=>anu<|bM _ _<|anz S Tryz.results219 ?_;exact⟨rfl,S.E⟩
def aA.rG(nd:aA):Bool:=cond (((((nd.clip.length:Int))==0)&&((nd.aO) != 0))||((decide (0<(nd.clip.length:Int)))&&(!((nd.aO==1)||(nd.aO==2))))) (false) (cond ((nd.kind)==1) ((nd.pY&&nd.lT)&&nd.rE) (cond ((nd.kind)==2) (nd.rF&&nd.rE) ((nd.rF&&nd.pY)&&nd.lT)))
theorem RJ{w:World}{nd:aA}(h:nd.ok w) :
  Calls Tryz.prog 156 #[nd.v] w fun e w'=>e = .returned (.bool nd.rG)∧Ext w w':=by
 skip;refine anA Tryz.func156 Tryz.ntmps156 fun ac S=>anv fun _ aS=>anw S 1 nd.cells fun ac u b2 E3 hb4 S=>adr S 1 [] [(2,.z)] fun S=>anu<|aS _ _<|anV fun _ bM=>anv fun _ iL=>anK S 21 [.mem 0 27,.mem 0 28,.mem 0 27,.mem 0 28] [(_,_,((!((((nd.clip.length:Int))==0)&&((nd.aO) != 0)))&&(decide (0<(nd.clip.length:Int)))),.bool ((nd.aO==1)||(nd.aO==2)))] [(23,.bool (((((nd.clip.length:Int))==0)&&((nd.aO) != 0))||((decide (0<(nd.clip.length:Int)))&&(!((nd.aO==1)||(nd.aO==2))))))] ⟨fun u hC g=>anO (DN nd.aO _),trivial⟩ fun ac u E7 S=>anu (iL _ _ ?_);refine anx S (fun hc8=>?_) (fun hc8=>?_)
 ·refine anv fun _ ig=>adr S 1 [] [(2,.z)] fun S=>anu<|ig _ _<|an2 ?_;have p0:=hc8;refine anD S Tryz.results156 ?_;exact⟨aC (by unfold aA.rG; simp only[p0,cond_true]),S.E⟩
 refine anZ<|bM _ _<|anV fun _ eX=>anv fun _ cZ=>adr S 2 [.mem 0 1] [(25,.i nd.kind)] fun S=>anu<|cZ _ _<|an1<|anv fun _ dW=>adr S 2 [] [(26,.bool ((nd.kind)==1))] fun S=>anu (dW _ _ ?_);refine anx S (fun hc13=>?_) (fun hc13=>?_)
 ·refine anv fun _ fP=>adr S 1 [.mem 0 0] [(28,nd.v)] fun S=>anE S 29 (xA (h.below S.E)) fun ac u Ez S=>anK S 9 [.mem 0 0,.mem 0 0] [(_,_,nd.pY,.bool nd.lT),(_,_,(nd.pY&&nd.lT),.bool nd.rE)] [(2,.bool ((nd.pY&&nd.lT)&&nd.rE))] ⟨fun u hC g=>sG (h.below (Ext.trans' S.E hC)),fun u hC g=>xB (h.below (Ext.trans' S.E hC)),trivial⟩ fun ac u Oo S=>anu<|fP _ _<|an2 ?_;have p0:=hc8;have p1:=hc13;refine anD S Tryz.results156 ?_;exact⟨aC (by unfold aA.rG; simp only[p0,p1,cond_true,cond_false]),S.E⟩
 refine anv fun _ gV=>adr S 2 [] [(38,.bool ((nd.kind)==2))] fun S=>anu (gV _ _ ?_);refine anx S (fun hc18=>?_) (fun hc18=>?_)
 ·refine anv fun _ iU=>adr S 1 [.mem 0 0] [(40,nd.v)] fun S=>anE S 41 (xC (h.below S.E)) fun ac u Am S=>anK S 5 [.mem 0 0] [(_,_,nd.rF,.bool nd.rE)] [(2,.bool (nd.rF&&nd.rE))] ⟨fun u hC g=>xB (h.below (Ext.trans' S.E hC)),trivial⟩ fun ac u uh S=>anu<|iU _ _<|an2 ?_;have p0:=hc8;have p1:=hc13;have p2:=hc18;refine anD S Tryz.results156 ?_;exact⟨aC (by unfold aA.rG; simp only[p0,p1,p2,cond_true,cond_false]),S.E⟩
 refine anZ<|eX _ _<|anv fun _ jA=>adr S 1 [.mem 0 0] [(46,nd.v)] fun S=>anE S 47 (xC (h.below S.E)) fun ac u CJ S=>anK S 9 [.mem 0 0,.mem 0 0] [(_,_,nd.rF,.bool nd.pY),(_,_,(nd.rF&&nd.pY),.bool nd.lT)] [(2,.bool ((nd.rF&&nd.pY)&&nd.lT))] ⟨fun u hC g=>xA (h.below (Ext.trans' S.E hC)),fun u hC g=>sG (h.below (Ext.trans' S.E hC)),trivial⟩ fun ac u MQ S=>anu<|jA _ _<|an2 ?_;have p0:=hc8;have p1:=hc13;have p2:=hc18;refine anD S Tryz.results156 ?_;exact⟨aC (by unfold aA.rG; simp only[p0,p1,p2,cond_false]),S.E⟩
theorem OB(n:Int)(w:World) :
  Calls Tryz.prog 158 #[.i n] w fun e w'=>e = .returned (.bool ((decide (1≤n))&&(decide (n≤13))))∧w=w':=by
 skip;refine anA Tryz.func158 Tryz.ntmps158 fun ac S=>anv fun _ aS=>adr S 1 [] [(2,.z)] fun S=>anu<|aS _ _<|anv fun _ eP=>adr S 7 [] [(2,.bool ((decide (1≤n))&&(decide (n≤13))))] fun S=>anu<|eP _ _<|anz S Tryz.results158 ?_;exact⟨rfl,rfl⟩
def bT.aco(p:bT):Bool:=((decide ((p.r.toNat:Int)≤(p.a.toNat:Int)))&&(decide ((p.g.toNat:Int)≤(p.a.toNat:Int))))&&(decide ((p.b.toNat:Int)≤(p.a.toNat:Int)))
theorem KN(p:bT)(w:World) :
  Calls Tryz.prog 223 #[.agg #[.u (p.r.toNat:Int),.u (p.g.toNat:Int),.u (p.b.toNat:Int),.u (p.a.toNat:Int)]] w fun e w'=>e = .returned (.bool (p.aco))∧Ext w w':=by
 skip;refine anA Tryz.func223 Tryz.ntmps223 fun ac S=>anv fun _ aS=>anw S 1 p.cells fun ac u b2 E3 hb4 S=>adr S 1 [] [(2,.z)] fun S=>anu<|aS _ _<|anv fun _ bM=>adr S 20 [.mem 0 0,.mem 0 3,.mem 0 1,.mem 0 3,.mem 0 2,.mem 0 3] [(2,.bool (((decide ((p.r.toNat:Int)≤(p.a.toNat:Int)))&&(decide ((p.g.toNat:Int)≤(p.a.toNat:Int))))&&(decide ((p.b.toNat:Int)≤(p.a.toNat:Int)))))] fun S=>anu<|bM _ _<|anz S Tryz.results223 ?_;exact⟨rfl,S.E⟩
theorem Gu(p:bT):p.aco=p.valid:=by
 unfold bT.aco bT.valid;simp only[UInt8.le_iff_toNat_le,Int.ofNat_le,apg]
theorem OC(a b:Int)(w:World) :
  Calls Tryz.prog 222 #[.i a,.i b] w fun e w'=>e = .returned (.bool (nG a b))∧w=w':=by
 skip;refine anA Tryz.func222 Tryz.ntmps222 fun ac S=>anv fun _ aS=>adr S 1 [] [(4,.z)] fun S=>anu<|aS _ _<|anv fun _ eP=>adr S 21 [] [(4,.bool (((((decide (1≤a))&&(decide (a≤4096)))&&(decide (1≤b)))&&(decide (b≤4096)))&&(decide ((IntKind.i64.wrap (a*b))≤65536))))] fun S=>anu<|eP _ _<|anz S Tryz.results222 ?_;exact⟨aC (by exact Z9),rfl⟩
theorem Bh{w:World}{m:dB}(h:m.ok w) :
  Calls Tryz.prog 159 #[m.v] w fun e w'=>e = .returned (.bool m.valid)∧Ext w w':=by
 obtain⟨a,cap,hs⟩:=h.2.2.shape;unfold dB.v;have hq:=h.2.2;rw[hs];rw[hs]at hq;have hmax:m.l.length≤9223372036854775807:=h.2.2.len;refine anA Tryz.func159 Tryz.ntmps159 fun ac S=>anv fun _ aS=>anw S 1 [.i m.w,.i m.h,.slice a m.l.length cap] fun ac u b2 E3 hb4 S=>adr S 1 [] [(2,.z)] fun S=>anu<|aS _ _<|anV fun _ bM=>anv fun _ iL=>adr S 4 [.mem 0 0,.mem 0 1] [(5,.i m.w),(7,.i m.h)] fun S=>anX S 8 (OC m.w m.h _) fun ac S=>adr S 12 [.mem 0 2,.mem 0 0,.mem 0 1] [(20,.bool ((!(nG m.w m.h))||(((m.l.length:Int)) != (IntKind.i64.wrap (m.w*m.h)))))] fun S=>anu (iL _ _ ?_);refine anx S (fun mG=>?_) (fun mG=>?_)
 ·refine anv fun _ eu=>adr S 1 [] [(2,.z)] fun S=>anu<|eu _ _<|anz S Tryz.results159 ?_;exact⟨aC (aac (Gt▸mG)),S.E⟩
 refine anZ<|bM _ _<|anV fun _ ig=>anv fun _ eX=>adr S 1 [] [(3,.i 0)] fun S=>anu<|eX _ _<|an1 ?_;refine aow (ι:=Nat) (fun p a' w'=>p≤m.l.length∧((m.l.take p).all bT.valid=true)∧Sx.St w a' w' 35 [(0,.agg #[.i m.w,.i m.h,.slice a m.l.length cap]),(1,.q b2 0),(2,.z),(3,.i p)] [(b2,[.i m.w,.i m.h,.slice a m.l.length cap])] []) (fun p=>m.l.length-p) (0) ⟨aoa _,rfl,S.sn⟩ ?_;rintro k ac u hI;try dsimp only at hI
 obtain⟨hk,hR,S⟩:=hI;refine anV fun _ cZ=>anv fun _ dW=>adr S 5 [.mem 0 2] [(25,.bool ((k:Int)<(m.l.length:Int)))] fun S=>anu (dW _ _ ?_);refine anx S (fun hc13=>?_) (fun hc13=>?_)
 ·refine anZ<|cZ _ _<|anV fun _ fP=>an1<|anv (fun _ gQ=>?_);have yQ:k<m.l.length:=by have:=aoe hc13; omega
  obtain⟨b16,o17,rfl,x22,OD,Ou,aad⟩:=aom hq (fun _=>rfl) (k) yQ;have S:=S.view0 Ou aad;refine adr S 5 [.mem 0 2,.idx k m.l.length,.mem 1 0] [(32,.agg x22.cells.toArray)] (hk:=⟨yQ,trivial⟩) fun S=>anE S 33 (KN x22 _) fun ac u MQ S=>adr S 1 [] [(34,.bool (!x22.aco))] fun S=>anu (gQ _ _ ?_);refine anx S (fun hc25=>?_) (fun hc25=>?_)
  ·refine anv fun _ jf=>adr S 1 [] [(2,.z)] fun S=>anu<|jf _ _<|anz S Tryz.results159 ?_;exact⟨aC (Xd (vF yQ (by rw[OD]; simpa[Gu]using hc25))),S.E⟩
  refine anZ<|fP _ _<|an3<|adr S 3 [.re 27 (.i (IntKind.i64.wrap ((k:Int)+1))) (.i (k+1:Nat))] [(3,.i (k+1:Nat))] (hk:=⟨anJ (by omega),trivial⟩) fun S=>anu ?_;show ∃i',_∧_;exact⟨(k+1),⟨by omega,(kL yQ hR (by rw[OD]; simpa[Gu]using hc25)),S.sn⟩,by show _-_<_-_; omega⟩
 refine aod<|ig _ _<|anv fun _ jX=>adr S 1 [] [(2,.bool true)] fun S=>anu<|jX _ _<|anz S Tryz.results159 ?_;exact⟨aC (Xc (Gt▸mG) (nM (by have:=aoi hc13; omega) hR)),S.E⟩
theorem kN(n lo hi:Int)(w:World) :
  Calls Tryz.prog 266 #[.i n,.i lo,.i hi] w fun e w'=>e = .returned (.bool ((decide (lo≤n))&&(decide (n≤hi))))∧w=w':=by
 skip;refine anA Tryz.func266 Tryz.ntmps266 fun ac S=>anv fun _ aS=>adr S 1 [] [(6,.z)] fun S=>anu<|aS _ _<|anv fun _ eP=>adr S 9 [] [(6,.bool ((decide (lo≤n))&&(decide (n≤hi))))] fun S=>anu<|eP _ _<|anz S Tryz.results266 ?_;exact⟨rfl,rfl⟩
theorem KO(n:Int)(w:World) :
  Calls Tryz.prog 265 #[.i n] w fun e w'=>e = .returned (.bool ((decide (1≤n)&&decide (n≤16384))))∧w=w':=by
 skip;refine anA Tryz.func265 Tryz.ntmps265 fun ac S=>anv fun _ aS=>adr S 1 [] [(2,.z)] fun S=>anu<|aS _ _<|anv fun _ eP=>adr S 1 [] [(3,.i n)] fun S=>anX S 4 (kN n 1 16384 _) fun ac S=>adr S 1 [] [(2,.bool (decide (1≤n)&&decide (n≤16384)))] fun S=>anu<|eP _ _<|anz S Tryz.results265 ?_;exact⟨rfl,rfl⟩
theorem II{w:World}{v:Value}{l:List Int}(h:dS JW w v l) :
  Calls Tryz.prog 267 #[v] w fun e w'=>e = .returned (.bool (mg l))∧Ext w w':=by
 obtain⟨a,cap,rfl⟩:=(mJ h).shape;have hmax:l.length≤9223372036854775807:=(mJ h).len;refine anA Tryz.func267 Tryz.ntmps267 fun ac S=>anv fun _ aS=>adr S 1 [] [(2,.z)] fun S=>anu<|aS _ _<|anv fun _ eP=>adr S 4 [] [(3,.bool (((l.length:Int))==0))] fun S=>anu<|eP _ _<|anV fun _ jv=>anv fun _ oq=>adr S 1 [] [(4,.i 0)] fun S=>anu<|oq _ _<|an1 ?_;refine aow (ι:=Nat×Bool) (fun p a' w'=>p.1≤l.length∧(oC l (l.take p.1)=some p.2)∧Sx.St w a' w' 40 [(0,.slice a l.length cap),(2,.z),(3,.bool p.2),(4,.i p.1)] [] []) (fun p=>l.length-p.1) (0,((l.length:Int)==0)) ⟨aoa _,Jf l,S.sn⟩ ?_;rintro⟨k,any⟩ ac u hI;try dsimp only at hI
 obtain⟨hk,hR,S⟩:=hI;refine anV fun _ bM=>anv fun _ iL=>adr S 4 [] [(11,.bool ((k:Int)<(l.length:Int)))] fun S=>anu (iL _ _ ?_);refine anx S (fun mG=>?_) (fun mG=>?_)
 ·refine anZ<|bM _ _<|anV fun _ eu=>an1<|anV fun _ ig=>anv (fun _ eX=>?_);have aae:k<l.length:=by have:=aoe mG; omega
  obtain⟨b11,o12,rfl,x17,aeM,WH,ajt⟩:=aom (mJ h) (fun _=>rfl) (k) aae;have S:=S.view0 WH ajt;refine adr S 4 [.idx k l.length,.mem 0 0] [(17,.i x17)] (hk:=⟨aae,trivial⟩) fun S=>anX S 18 (kN x17 0 1048576 _) fun ac S=>adr S 1 [] [(19,.bool (!(decide (0≤x17)&&decide (x17≤1048576))))] fun S=>anu (eX _ _ ?_);refine anx S (fun hc19=>?_) (fun hc19=>?_)
  ·refine anv fun _ jk=>adr S 1 [] [(2,.z)] fun S=>anu<|jk _ _<|anz S Tryz.results267 ?_;exact⟨aC (NC aae hR (by rw[aeM]; exact Xb hc19)),S.E⟩
  refine anZ<|ig _ _<|an3<|adr S 9 [.idx k l.length,.mem 0 0] [(3,.bool (any||(decide (0<x17))))] (hk:=⟨aae,trivial⟩) fun S=>anu<|eu _ _<|an3<|adr S 3 [.re 13 (.i (IntKind.i64.wrap ((k:Int)+1))) (.i (k+1:Nat))] [(4,.i (k+1:Nat))] (hk:=⟨anJ (by omega),trivial⟩) fun S=>anu ?_;show ∃i',_∧_;exact⟨((k+1),any||(decide (0<x17))),⟨by omega,(by rw[←aeM]; exact Jg aae hR (by rw[aeM]; exact RH hc19)),S.sn⟩,by show _-_<_-_; omega⟩
 refine aod<|jv _ _<|anv fun _ jC=>adr S 13 [] [(2,.bool ((any&&(decide ((l.length:Int)≤16)))&&(((Int.tmod (l.length:Int) 2))==0)))] fun S=>anu<|jC _ _<|anz S Tryz.results267 ?_;exact⟨aC (RI (by have:=aoi mG; omega) hR),S.E⟩
theorem UK{p:bC}{v:Bool}(h:(v=false∧(((!(decide (1≤p.width)&&decide (p.width≤16384)))||(!(decide (1≤p.join)&&decide (p.join≤3))))||(!(decide (3≤p.cap)&&decide (p.cap≤5))))=true)∨(v=(((decide (256≤p.dZ)&&decide (p.dZ≤65536))&&(mg p.dash))&&(decide (0≤p.phase)&&decide (p.phase≤1048576)))∧(((!(decide (1≤p.width)&&decide (p.width≤16384)))||(!(decide (1≤p.join)&&decide (p.join≤3))))||(!(decide (3≤p.cap)&&decide (p.cap≤5))))=false)):v=p.valid:=by
 rw[aoR];unfold bC.valid;generalize mg p.dash=dd at h ⊢;rcases h with ⟨rfl,h⟩ | ⟨rfl,h⟩<;>cases dd<;>simp only[apt,aoq,apr,aoP,ao4,aov,Bool.and_eq_false_iff,ao3,aoo,apW,and_false,false_and,and_true,false_iff]at h ⊢ <;> omega
theorem KP{w:World}{p:bC}(h:p.ok w) :
  Calls Tryz.prog 220 #[p.v] w fun e w'=>e = .returned (.bool p.valid)∧Ext w w':=by
 skip;refine anA Tryz.func220 Tryz.ntmps220 fun ac S=>anv fun _ aS=>anw S 1 p.cells fun ac u b2 E3 hb4 S=>adr S 1 [] [(2,.z)] fun S=>anu<|aS _ _<|anV fun _ bM=>anv fun _ iL=>adr S 2 [.mem 0 0] [(4,.i p.width)] fun S=>anX S 5 (KO p.width _) fun ac S=>anK S 13 [.mem 0 1,.mem 0 2] [(_,_,(!(!(decide (1≤p.width)&&decide (p.width≤16384)))),.bool (decide (1≤p.join)&&decide (p.join≤3))),(_,_,(!((!(decide (1≤p.width)&&decide (p.width≤16384)))||(!(decide (1≤p.join)&&decide (p.join≤3))))),.bool (decide (3≤p.cap)&&decide (p.cap≤5)))] [(18,.bool (((!(decide (1≤p.width)&&decide (p.width≤16384)))||(!(decide (1≤p.join)&&decide (p.join≤3))))||(!(decide (3≤p.cap)&&decide (p.cap≤5)))))] ⟨fun u hC g=>anO (kN p.join 1 3 _),fun u hC g=>anO (kN p.cap 3 5 _),trivial⟩ fun ac u E7 S=>anu (iL _ _ ?_);refine anx S (fun hc8=>?_) (fun hc8=>?_)
 ·refine anv fun _ ig=>adr S 1 [] [(2,.z)] fun S=>anu<|ig _ _<|an2 ?_;have p0:=hc8;refine anD S Tryz.results220 ?_;exact⟨aC (UK (.inl ⟨rfl,p0⟩)),S.E⟩
 refine anZ<|bM _ _<|anv fun _ eX=>adr S 2 [.mem 0 3] [(20,.i p.dZ)] fun S=>anX S 21 (kN p.dZ 256 65536 _) fun ac S=>anK S 11 [.mem 0 4,.mem 0 5] [(_,_,(decide (256≤p.dZ)&&decide (p.dZ≤65536)),.bool (mg p.dash)),(_,_,((decide (256≤p.dZ)&&decide (p.dZ≤65536))&&(mg p.dash)),.bool (decide (0≤p.phase)&&decide (p.phase≤1048576)))] [(2,.bool (((decide (256≤p.dZ)&&decide (p.dZ≤65536))&&(mg p.dash))&&(decide (0≤p.phase)&&decide (p.phase≤1048576))))] ⟨fun u hC g=>II (h.2.2.2.2.1.below (Ext.trans' S.E hC)),fun u hC g=>anO (kN p.phase 0 1048576 _),trivial⟩ fun ac u wu S=>anu<|eX _ _<|an2 ?_;have p0:=hc8;refine anD S Tryz.results220 ?_;exact⟨aC (UK (.inr ⟨rfl,p0⟩)),S.E⟩
def oU(x y:Int):Bool:=(((decide (-1048576≤x))&&(decide (x≤1048576)))&&(decide (-1048576≤y)))&&(decide (y≤1048576))
theorem lU(x y:Int)(w:World) :
  Calls Tryz.prog 307 #[.agg #[.i x,.i y]] w fun e w'=>e = .returned (.bool (oU x y))∧Ext w w':=by
 skip;refine anA Tryz.func307 Tryz.ntmps307 fun ac S=>anv fun _ aS=>anw S 1 [.i x,.i y] fun ac u b2 E3 hb4 S=>adr S 1 [] [(2,.z)] fun S=>anu<|aS _ _<|anv fun _ bM=>adr S 19 [.mem 0 0,.mem 0 0,.mem 0 1,.mem 0 1] [(2,.bool ((((decide (-1048576≤x))&&(decide (x≤1048576)))&&(decide (-1048576≤y)))&&(decide (y≤1048576))))] fun S=>anu<|bM _ _<|anz S Tryz.results307 ?_;exact⟨rfl,S.E⟩
theorem uy(n:Int)(w:World) :
  Calls Tryz.prog 341 #[.i n] w fun e w'=>e = .returned (.bool ((decide (1≤n))&&(decide (n≤3))))∧w=w':=by
 skip;refine anA Tryz.func341 Tryz.ntmps341 fun ac S=>anv fun _ aS=>adr S 1 [] [(2,.z)] fun S=>anu<|aS _ _<|anv fun _ eP=>adr S 7 [] [(2,.bool ((decide (1≤n))&&(decide (n≤3))))] fun S=>anu<|eP _ _<|anz S Tryz.results341 ?_;exact⟨rfl,rfl⟩
end
end Go.Proofs.YtapmgonflgahbaaGreatDoor
