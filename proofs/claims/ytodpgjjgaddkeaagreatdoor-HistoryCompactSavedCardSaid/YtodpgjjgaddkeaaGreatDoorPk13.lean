/- Scenes and edits as records of -/
import Derived.Test.YtodpgjjgaddkeaaGreatDoorPk12
import Derived.Maps.Own
import Derived.Maps.Views
set_option maxRecDepth 100000
set_option maxHeartbeats 9999999
open Go renaming World->VO,Value->aaT,Calls->abB,Program->ahe,Oper->ahk,wpList->aiw,TypeId->aix,execOp->aGe
open Go.Proofs.Tryz
set_option linter.unusedVariables false
set_option linter.unusedSimpArgs false
namespace Go.Proofs.Vy
section
open Go.RowKit Go.Sx
variable{α:Type}{K:Nat}
structure aA where
 w:Int
 h:Int
 bg:bJ
 nsa:Option Addr
 nsc:Nat
 ns:List aj
def aA.s(s:aA):aaT := .s s.nsa s.ns.length s.nsc
def aA.cells(s:aA):List aaT:=[.i s.w,.i s.h]++s.bg.cells++[s.s]
def aA.v(s:aA):aaT := .agg s.cells.toArray
def aA.key(s:aA):aY:=⟨s.w,s.h,s.bg,s.ns.map aj.key⟩
abbrev Dq (K:Nat)(w:VO)(v:aaT)(l:List aj):Prop:=aI 47 aj.cells w v l∧∀n∈l,eH K w n
def dw(K:Nat)(w:VO)(s:aA):Prop:=I64 s.w∧I64 s.h∧Dq K w s.s s.ns
structure aN where
 kind:Int
 id:Int
 index:Int
 depth:Int
 node:aj
 color:bJ
def aN.cells(e:aN):List aaT:=[.i e.kind,.i e.id,.i e.index,.i e.depth]++e.node.cells++e.color.cells
def aN.v(e:aN):aaT := .agg e.cells.toArray
def aN.key(e:aN):bI:=⟨e.kind,e.id,e.index,e.depth,e.node.key,e.color⟩
def gQ(K:Nat)(w:VO)(e:aN):Prop:=I64 e.kind∧I64 e.id∧I64 e.index∧I64 e.depth∧eH K w e.node
abbrev Dq.below{w w':VO}{v:aaT}{l:List aj}(h:Dq K w v l)(D:Ext w w'):Dq K w' v l:=⟨h.1.below D,λn hn=>(h.2 n hn).below D⟩
abbrev dw.below{w w':VO}{s:aA}(h:dw K w s)(D:Ext w w'):dw K w' s:=⟨h.1,h.2.1,h.2.2.below D⟩
abbrev gQ.below{w w':VO}{e:aN}(h:gQ K w e)(D:Ext w w'):gQ K w' e:=⟨h.1,h.2.1,h.2.2.1,h.2.2.2.1,h.2.2.2.2.below D⟩
def aA.zero:aA:=⟨0,0,.none,none,0,[]⟩
abbrev Jg(w:VO):dw K w .zero:=⟨by decide,by decide,⟨dJ _ _ _,λn hn=>by cases hn⟩⟩
abbrev XG(pre:List aO)(x:aO):FB (pre++[x])=if x.kind=1 then x.depth+1 else x.depth:=by
 unfold FB;rw[List.getLast?_concat]
end
section
open Go.RowKit Go.ChangeShapes Go.WideShapes Go.Sx
variable{α:Type}
section
variable{H:Type}{enc:aix×aaT->H}{W:VO}{sp:Nat->Bool}{held:Bool}{n:Nat}{cs:List aaT}{y:DataW H×List MemPlace}
def aA.ok(W:VO)(s:aA):Prop:=I64 s.w∧I64 s.h∧aI 47 aj.cells W s.s s.ns∧∀n∈s.ns,n.ok W
def aN.ok(W:VO)(e:aN):Prop:=I64 e.kind∧I64 e.id∧I64 e.index∧I64 e.depth∧e.node.ok W
abbrev abT(h:DataW.trod enc prog W 0 sp held n 65 cs=some y):∃m:aA,cs=m.cells∧m.ok W:=by
 obtain⟨xs,S,rfl,hx,hl,D,J⟩:=aEX underlying65 h;have hl:cs.length=7:=hl.trans X;obtain⟨x0,c0,w0⟩:=eP underlying3 (kZ (cs:=cs) (off:=0) (k:=1) (J 0 _ I) D O X).choose_spec;obtain⟨x1,c1,w1⟩:=eP underlying3 (kZ (cs:=cs) (off:=1) (k:=1) (J 1 _ I) D O X).choose_spec;obtain⟨S,c2⟩:=yS (kZ (cs:=cs) (off:=2) (k:=4) (J 2 _ I) D O X).choose_spec;obtain⟨a3,k3,l3,c3,r3,w3⟩:=pO (k:=47) underlying63 O X aj.cells (λn=>n.ok W) (λn cs y h=>Tj h) (kZ (cs:=cs) (off:=6) (k:=1) (J 3 _ I) D O X).choose_spec;have D:=(show cs=(cs.drop 0).take 7 by rw[aEo,aDG Z]).trans ((aX cs 0 1 1 6 7 I I).trans (aDc _ ((aX cs 1 1 2 5 6 I I).trans (aDc _ (aX cs 2 4 6 1 5 I I)))));rw[c0,c1,c2,c3]at D;exact⟨⟨x0,x1,S,a3,k3,l3⟩,D.trans X,w0,w1,r3,w3⟩
abbrev ae8(h:DataW.trod enc prog W 0 sp held n 42 cs=some y):∃m:aN,cs=m.cells∧m.ok W:=by
 obtain⟨xs,S,rfl,hx,hl,D,J⟩:=aEX underlying42 h;have hl:cs.length=55:=hl.trans X;obtain⟨x0,c0,w0⟩:=eP underlying3 (kZ (cs:=cs) (off:=0) (k:=1) (J 0 _ I) D O X).choose_spec;obtain⟨x1,c1,w1⟩:=eP underlying3 (kZ (cs:=cs) (off:=1) (k:=1) (J 1 _ I) D O X).choose_spec;obtain⟨S,c2,w2⟩:=eP underlying3 (kZ (cs:=cs) (off:=2) (k:=1) (J 2 _ I) D O X).choose_spec;obtain⟨x3,c3,w3⟩:=eP underlying3 (kZ (cs:=cs) (off:=3) (k:=1) (J 3 _ I) D O X).choose_spec;obtain⟨m4,c4,w4⟩:=Tj (kZ (cs:=cs) (off:=4) (k:=47) (J 4 _ I) D O X).choose_spec;obtain⟨m5,c5⟩:=yS (kZ (cs:=cs) (off:=51) (k:=4) (J 5 _ I) D O X).choose_spec;have D:=(show cs=(cs.drop 0).take 55 by rw[aEo,aDG Z]).trans ((aX cs 0 1 1 54 55 I I).trans (aDc _ ((aX cs 1 1 2 53 54 I I).trans (aDc _ ((aX cs 2 1 3 52 53 I I).trans (aDc _ ((aX cs 3 1 4 51 52 I I).trans (aDc _ (aX cs 4 47 51 4 51 I I)))))))));rw[c0,c1,c2,c3,c4,c5]at D;exact⟨⟨x0,x1,S,x3,m4,m5⟩,D.trans X,w0,w1,w2,w3,w4⟩
abbrev WY{base:Nat}{v:aaT}{d:DataW H}{p:List MemPlace}(J:Value.okWide prog W .any base 65 v)(h:DataW.Trod enc prog W 0 sp held 65 v d p):∃m:aA,v=m.v∧m.ok W:=by
 obtain⟨cs,rfl,D⟩:=okWide_struct underlying65 J;obtain⟨D,J⟩:=h;obtain⟨l⟩:=cs;obtain⟨m,D,S⟩:=abT (cs:=l) (y:=(d,p)) J;exact⟨m,by rw[D]; rfl,S⟩
end
end
end Go.Proofs.Vy
section
namespace Go.Sx
open Go.Proofs.Vy Go.RowKit Go.Rel Go.Sx
variable{P:ahe}{ops:Array ahk}{Q:Exit->Act->VO->Prop}{w0 w:VO}{a:Act}{os:List ahk}{n:Nat}{l:List (Nat×aaT)}{bl:List (Nat×List aaT)}{vs:List fE}
abbrev qj{x y:Int}(h:x=y)(D : -9223372036854775808<=y∧y<=9223372036854775807):Value.i (IntKind.i64.wrap x) = .i y:=by subst h; exact ae9 D
abbrev apz(S:St w0 a w n l bl vs)(d:Nat)(V:aaT){w1:VO}{o:ahk}{os':List ahk}(aa:os=o::os')(hg:o.guard=none)(D:o.dst=some d)(J:(aGe a.eval o).run P w = .ok (.value V) w1)(hE:Ext w w1)
  (next:∀{a'},St w0 a' w1 n ((d,V)::l) bl vs->aiw P ops Q (os.drop 1) a' w1) (hd:uO n (some d)=true:=by rfl):aiw P ops Q os a w:=by
 subst aa;unfold aiw;rw[aDb (by simp[Region.wanted,hg])];left;unfold Oper.wp;rw[J];simp only[Oper.upon];rw[D];exact next ((S.grow hE).act (uh (d:=some d) S.s hd V))
end Go.Sx
namespace En
def dY:Nat->Nat->List UInt8
 | 0,_=>[]
 | f+1,n=>if n<128 then [UInt8.ofNat n]else UInt8.ofNat (n%128+128)::dY f (n/128)
def comb(k a:Nat):Except Nat (Nat×Nat)->Except Nat (Nat×Nat)
 | .ok (n,j) => .ok (a+128^k*n,k+j)
 | .error e => .error e
def mW:Nat->List UInt8->Except Nat (Nat×Nat)
 | _,[] => .error 4
 | 0,c::_=>if c.toNat=1 then .ok (1,1)else .error 3
 | f+1,c::l=>if c.toNat<128 then (if c.toNat=0∧f≠8 then .error 3 else .ok (c.toNat,1))else comb 1 (c.toNat%128) (mW f l)
abbrev abU(r:Except Nat (Nat×Nat)):comb 0 0 r=r:=by
 rcases r with e | ⟨n,j⟩<;>simp[comb]
abbrev abV(k a c:Nat)(r:Except Nat (Nat×Nat)):comb k a (comb 1 c r)=comb (k+1) (a+128^k*c) r:=by
 rcases r with e | ⟨n,j⟩
 .rfl
 simp only[comb,Nat.pow_one];congr 2
 .rw[aDE,aDY]; rw[aD2]; omega
 omega
abbrev aiM(f:Nat):mW f [] = .error 4:=by cases f<;>rfl
abbrev afa(f:Nat)(c:UInt8)(l:List UInt8)(h:¬c.toNat<128):mW (f+1) (c::l)=comb 1 (c.toNat%128) (mW f l):=by
 rw[mW,aC9 h]
abbrev Jh{n:Nat}(h:n<256):(UInt8.ofNat n).toNat=n:=by simp; omega
abbrev apA(f:Nat):2^(7*(f+1)+1)=128*2^(7*f+1):=by
 rw[show 7*(f+1)+1=(7*f+1)+7 by omega,aFg,aDW]
abbrev aml(f:Nat):∀(l:List UInt8) (n k:Nat),mW f l = .ok (n,k) ->
  n<2^(7*f+1)∧1<=k∧k<=l.length∧k<=f+1∧(9<=f∨f<9∧0<n)∧(f<=9->dY (f+1) n=l.take k):=by
 induction f with
 | zero =>
  intro l n k h;cases l with
  | nil=>simp[mW]at h
  | cons c l =>
   simp only[mW]at h;split at h
   .rename_i D;simp only[aFa,aDm]at h;obtain⟨rfl,rfl⟩:=h;refine⟨by decide,Z,by simp,Z,.inr ⟨Z,Z⟩,λ_=>?_⟩;simp only[dY];have:c=1:=aFA.1 (by simpa using D);rw[this]; rfl
   cases h
 | succ f ih =>
  intro l n k h;cases l with
  | nil=>simp[mW]at h
  | cons c l =>
   rw[apA];have J:0<2^(7*f+1):=aFM Z;simp only[mW]at h;split at h
   .rename_i D;split at h
    .cases h
    rename_i J;simp only[aFa,aDm]at h;obtain⟨rfl,rfl⟩:=h;refine⟨Z,Z,by simp,Z,?_,λ_=>?_⟩
    .by_cases e:c.toNat=0
     .left; have:¬f≠8:=λh=>J ⟨e,h⟩; omega
     by_cases e9:f+1<9
     .right; omega
     left; omega
    rw[dY,aDb D]; simp
   rename_i D;cases hr:mW f l with
   | error e=>rw[hr]at h; simp[comb]at h
   | ok p =>
    obtain⟨D,S⟩:=p;rw[hr]at h;simp only[comb,Nat.pow_one,aFa,aDm]at h;obtain⟨rfl,rfl⟩:=h;obtain⟨h1,h2,h3,h4,J,h6⟩:=ih l D S hr;refine⟨Z,Z,by simp; omega,Z,?_,λhf=>?_⟩
    .by_cases e9:f+1<9
     .right; omega
     left; omega
    have hn:0<D:=by rcases J with J | J<;>omega
    rw[dY,aC9 Z];have J:(c.toNat%128+128*D)/128=D:=Z
    have e2:UInt8.ofNat ((c.toNat%128+128*D)%128+128)=c:=by
     apply aFA.1;rw[Jh Z];have:=c.toNat_lt;omega
    rw[J,e2,h6 Z];rw[aFl 1 S]; rfl
abbrev afb(f:Nat):∀(n:Nat) (r:List UInt8),n<2^(7*f+1)->(f=9∨f<9∧0<n)->mW f (dY (f+1) n++r) = .ok (n,(dY (f+1) n).length):=by
 induction f with
 | zero =>
  intro n r h D;have:n=1:=by have:2^(7*0+1)=2:=I; omega
  subst this;rfl
 | succ f ih =>
  intro n r h D;rw[apA]at h;rw[dY];split
  .rename_i hn;simp only[aEp,aD8,mW,aDU,aEt];rw[Jh Z,aDb hn,aC9 Z]
  rename_i hn;simp only[aEp,mW,aDU];rw[Jh Z,aC9 Z,ih (n/128) r Z (.inr ⟨Z,Z⟩)];simp only[comb,Nat.pow_one];congr 2
  .omega
  omega
abbrev iP(f:Nat):∀n,(dY f n).length<=f:=by
 induction f with
 | zero=>intro n; simp[dY]
 | succ f ih =>
  intro n;rw[dY]; split
  .simp
  have:=ih (n/128); simp; omega
abbrev Dt(f n:Nat):0<(dY (f+1) n).length:=by rw[dY]; split<;>simp
abbrev oV(n:Nat)(r:List UInt8)(h:n<18446744073709551616):mW 9 (dY 10 n++r) = .ok (n,(dY 10 n).length):=
 afb 9 n r (by simpa using h) (.inl I)
abbrev G9{l:List UInt8}{n k:Nat}(h:mW 9 l = .ok (n,k)):n<18446744073709551616∧1<=k∧k<=l.length∧k<=10∧dY 10 n=l.take k:=by
 obtain⟨D,J,S,h4,_,h6⟩:=aml 9 l n k h;exact⟨by simpa using D,J,S,h4,h6 (aDd _)⟩
def zig(x:Int):Nat:=if x<0 then (-2*x-1).toNat else (2*x).toNat
def FD(n:Nat):Int:=if n%2=1 then -1-((n/2:Nat):Int)else ((n/2:Nat):Int)
abbrev Qa{x:Int}(h : -9223372036854775808<=x)(D:x<=9223372036854775807):zig x<18446744073709551616:=by unfold zig; split<;>omega
abbrev Eu(x:Int):FD (zig x)=x:=by unfold FD zig; split<;>split<;>omega
abbrev afc{n:Nat}(h:n<18446744073709551616) : -9223372036854775808<=FD n∧FD n<=9223372036854775807:=by unfold FD; split<;>omega
def yV(l:List UInt8)(D:Int):Nat×Nat×Nat:=
 if D<0∨(l.length:Int)<D then (0,0,2)
 else match mW 9 (l.drop D.toNat)with
  | .ok (n,k)=>(n,D.toNat+k,0)
  | .error e=>(0,0,e)
def vat(l:List UInt8)(D:Int):Int×Nat×Nat:=(FD (yV l D).1,(yV l D).2)
abbrev He(f:Nat):∀(l:List UInt8) (e:Nat),mW f l = .error e->e=3∨e=4:=by
 induction f with
 | zero =>
  intro l e h;cases l with
  | nil=>simp only[mW,aE8]at h; omega
  | cons c l =>
   simp only[mW]at h;split at h<;>simp only[reduceCtorEq,aE8]at h;omega
 | succ f ih =>
  intro l e h;cases l with
  | nil=>simp only[mW,aE8]at h; omega
  | cons c l =>
   simp only[mW]at h;split at h
   .split at h<;>simp only[reduceCtorEq,aE8]at h;omega
   cases hr:mW f l with
   | error e'=>rw[hr]at h; simp only[comb,aE8]at h; subst h; exact ih l _ hr
   | ok p=>obtain⟨D,J⟩:=p; rw[hr]at h; simp[comb]at h
end En
namespace En
variable{α:Type}
def um(most:Int)(l:List UInt8):Except Nat (List UInt8×Nat):=
 match mW 9 l with
 | .error e => .error e
 | .ok (n,k)=>if most<0∨most<(n:Int)then .error 5 else if l.length-k<n then .error 4 else .ok ((l.drop k).take n,k+n)
def bat(l:List UInt8)(D most:Int):List UInt8×Nat×Nat:=
 if D<0∨(l.length:Int)<D then ([],0,2)
 else match um most (l.drop D.toNat)with
  | .ok (s,k)=>(s,D.toNat+k,0)
  | .error e=>([],0,e)
def gG(s:List UInt8):List UInt8:=dY 10 s.length++s
abbrev Ji{most:Int}{l s:List UInt8}{k:Nat}(h:um most l = .ok (s,k)):gG s=l.take k∧k<=l.length∧1<=k∧(s.length:Int)<=most:=by
 unfold um at h;cases hu:mW 9 l with
 | error e=>rw[hu]at h; simp at h
 | ok p =>
  obtain⟨n,j⟩:=p;rw[hu]at h;simp only at h;obtain⟨J,S,h3,h4,D⟩:=G9 hu;split at h
  .cases h
  split at h
  .cases h
  rename_i J S;simp only[aFa,aDm]at h;obtain⟨rfl,rfl⟩:=h;have hl:((l.drop j).take n).length=n:=by simp; omega
  refine⟨?_,Z,Z,Z⟩;unfold gG;rw[hl,D,<-List.take_add]
abbrev Jj(s r:List UInt8)(most:Int)(h:(s.length:Int)<=most)(D:s.length<18446744073709551616):um most (gG s++r) = .ok (s,(gG s).length):=by
 unfold um gG;rw[aDz,oV _ _ D];simp only;rw[aC9 Z,aC9 Y];simp
end En
namespace En
abbrev amm{l:List UInt8}{e:Nat}(h:mW 9 l = .error e):e≠0:=by
 rcases He 9 l e h with rfl | rfl<;>decide
end En
namespace Go.Proofs.Vy
namespace Px
set_option linter.unusedSectionVars false
open En
variable{β:Type}[DecidableEq β]
def runs:List β->List (Nat×β)
  | []=>[]
  | c::l=>match runs l with
    | []=>[(1,c)]
    | (n,d)::r=>if d=c then (n+1,d)::r else (1,c)::(n,d)::r
def flat:List (Nat×β)->List β
  | []=>[]
  | (n,c)::r=>List.replicate n c++flat r
def good:Option β->List (Nat×β)->Prop
  | _,[]=>True
  | last,(n,c)::r=>0<n∧last≠some c∧good (some c) r
variable{R:List (Nat×β)}{p q:bJ}{x:List UInt8}
abbrev NU(s:List β):(∀last,(∀c,s.head?=some c->last≠some c)->good last (runs s))∧flat (runs s)=s∧(∀c n r,runs s=(n,c)::r->s.head?=some c):=by
 induction s with
 | nil=>simp[runs,good,flat]
 | cons c l ih =>
  obtain⟨h1,J,S⟩:=ih;cases hr:runs l with
  | nil =>
   rw[hr]at J;simp only[runs,hr,good,flat]at J |-;subst J;refine⟨λlast h=>⟨Z,h c I,G⟩,I,?_⟩;intro c' n' r' D; simp only[aDP,aDm]at D; simp[D.1.2]
  | cons x r =>
   obtain⟨n,d⟩:=x;have hd:=S d n r hr;rw[hr]at J;simp only[runs,hr];simp only[flat]at J;split
   .rename_i e;subst e;refine⟨λlast h=>?_,?_,?_⟩
    .have:=h1 none Y;rw[hr]at this;simp only[good]at this |-;exact⟨Z,h d I,this.2.2⟩
    .simp only[flat,aFz,aEp,J]
    intro c' n' r' D; simp only[aDP,aDm]at D; simp[D.1.2]
   rename_i e;refine⟨λlast h=>?_,?_,?_⟩
   .have:=h1 (some c) (by intro c' S; rw[hd]at S; simp only[aDe]at S |-; exact λe'=>e (S.trans (aDo e').symm));rw[hr]at this;simp only[good]at this |-;exact⟨Z,h c I,this⟩
   .simp only[flat,aFz,aFH,aEp,aD8,J]
   intro c' n' r' D; simp only[aDP,aDm]at D; simp[D.1.2]
abbrev abW(r:List (Nat×β)):∀last,good last r->runs (flat r)=r:=by
 induction r with
 | nil=>intro _ _; rfl
 | cons x r ih =>
  obtain⟨n,c⟩:=x;intro last h;simp only[good]at h;obtain⟨hn,_,D⟩:=h;have J:=ih _ D;simp only[flat];have key:∀k,runs (List.replicate (k+1) c++flat r)=(k+1,c)::r:=by
   intro k;induction k with
   | zero =>
    simp only[aFz,aFH,aEp,aD8,runs,J];cases r with
    | nil=>rfl
    | cons y r' =>
     obtain⟨m,d⟩:=y;simp only[good]at D;simp only;rw[aC9 (λe=>D.2.1 (by rw[e]))]
   | succ k ihk =>
    rw[aFz,aEp,runs,ihk];simp
  obtain⟨m,rfl⟩:∃m,n=m+1:=⟨n-1,Z⟩;exact key m
def Jk(last:Option β):List (Nat×β)->Option β
  | []=>last
  | (_,c)::r=>Jk (some c) r
abbrev abX(R:List (Nat×β))(n:Nat)(c:β):∀last,good last (R++[(n,c)])↔good last R∧0<n∧Jk last R≠some c:=by
  induction R with
  | nil=>intro last; simp[good,Jk]
  | cons x R ih => intro last; obtain ⟨m, d⟩ := x; simp only [aEp, good, Jk, ih]; constructor
                   · rintro⟨h1,h2,h3,h4,h5⟩; exact⟨⟨h1,h2,h3⟩,h4,h5⟩
                   · rintro⟨⟨h1,h2,h3⟩,h4,h5⟩; exact⟨h1,h2,h3,h4,h5⟩
abbrev TS(R S:List (Nat×β)):flat (R++S)=flat R++flat S:=by
 induction R with
 | nil=>rfl
 | cons x R ih=>obtain⟨m,d⟩:=x; simp[flat,ih]
abbrev XH(R:List (Nat×β))(n:Nat)(c:β):∀last,Jk last (R++[(n,c)])=some c:=by
 induction R with
 | nil=>intro last; rfl
 | cons x R ih=>intro last; obtain⟨m,d⟩:=x; simp[Jk,ih]
abbrev aiN{s:List β}(D:good none R)(J:flat R=s):runs s=R:=by rw[<-J]; exact abW R none D
abbrev Ew(s:List β):good none (runs s)∧flat (runs s)=s:=⟨(NU s).1 none Y,(NU s).2.1⟩
abbrev aiO:∀x∈R,x.1<=(flat R).length:=by
 induction R with
 | nil=>intro x D; simp at D
 | cons y R ih =>
  intro x D;obtain⟨m,d⟩:=y;rcases aDp.1 D with rfl | D
  .simp[flat]
  have:=ih x D; simp[flat]; omega
def pb(p:bJ):List UInt8:=[p.r,p.g,p.b,p.a]
def rb:List (Nat×bJ)->List UInt8
  | []=>[]
  | (n,p)::r=>dY 10 n++pb p++rb r
def enc(l:List bJ):List UInt8:=rb (runs l)
abbrev abY(R S:List (Nat×bJ)):rb (R++S)=rb R++rb S:=by
 induction R with
 | nil=>rfl
 | cons x R ih=>obtain⟨m,d⟩:=x; simp[rb,ih]
abbrev aiP(R:List (Nat×bJ))(n:Nat)(p:bJ):rb (R++[(n,p)])=rb R++(dY 10 n++pb p):=by rw[abY]; simp[rb]
abbrev amn{R:List (Nat×bJ)}:∀{last:Option bJ},Px.good last R->(rb R).length<=14*(flat R).length:=by
 induction R with
 | nil=>intro _ _; exact aDl _
 | cons z R ih =>
  intro last h;obtain⟨n,p⟩:=z;simp only[Px.good]at h;have:=ih h.2.2;have:=iP 10 n;simp only[rb,pb,flat,aDg,aDU,aEt,List.length_replicate];omega
abbrev XI{y:List UInt8}(h:pb p++x=pb q++y):p=q∧x=y:=by
 simp only[pb,aEp,aD8,aDP]at h;obtain⟨J,S,h3,h4,D⟩:=h;exact⟨by cases p; cases q; simp_all,D⟩
abbrev aiQ{n m:Nat}{y:List UInt8}(hn:n<18446744073709551616)(S:m<18446744073709551616)(h:dY 10 n++pb p++x=dY 10 m++pb q++y):n=m∧p=q∧x=y:=by
 have D:=oV n (pb p++x) hn;have J:=oV m (pb q++y) S;rw[<-aDz]at D J;rw[h,J]at D;simp only[aFa,aDm]at D;obtain⟨rfl,-⟩:=D;rw[aDz,aDz]at h;obtain⟨D,J⟩:=XI (List.append_cancel_left h);exact⟨I,D,J⟩
def Bd(R:List (Nat×bJ)):Prop:=∀x∈R,x.1<18446744073709551616
theorem afd:∀{R S:List (Nat×bJ)} {x:List UInt8},Bd R->Bd S->rb R++x=rb S->∃T,S=R++T∧rb T=x
  | [],S,x,_,_,h=>⟨S,I,h.symm⟩
  | (n,p)::R,[],x,_,_,h=>by
    have:=aDc List.length h
    simp[rb,pb]at this
  | (n,p)::R,(m,q)::S,x,hR,hS,h=>by
    simp only[rb,aDz]at h
    obtain⟨rfl,rfl,J⟩:=aiQ (hR _ aDq) (hS _ aDq) (by simpa only[aDz]using h)
    obtain⟨T,rfl,hT⟩:=afd (λz D=>hR z (aEs _ D)) (λz D=>hS z (aEs _ D)) J
    exact⟨T,I,hT⟩
abbrev aai{R:List (Nat×bJ)}(h:(flat R).length<18446744073709551616):Bd R:=λx D=>aFD (aiO x D) h
abbrev aiR{l m:List bJ}(hl:l.length<18446744073709551616)(D:m.length<18446744073709551616)(h:enc l=enc m):l=m:=by
 have J:=Ew l;have h2:=Ew m;obtain⟨T,hT,hx⟩:=afd (R:=runs l) (S:=runs m) (x:=[]) (aai (by rw[J.2]; exact hl)) (aai (by rw[h2.2]; exact D)) (by rw[aEk]; exact h);have D:T=[]:=by
  cases T with
  | nil=>rfl
  | cons z T=>obtain⟨n,p⟩:=z; have:=aDc List.length hx; simp[rb,pb]at this
 rw[<-J.2,<-h2.2,hT,D,aEk]
structure Du (L:List bJ) (i:Nat) (R:List (Nat×bJ)):Prop where
  good:good none R
  flat:flat R=L.take i
  le:i<=L.length
  nxt:∀h:i<L.length,Jk none R≠some L[i]
abbrev Du.zero(L:List bJ):Du L 0 []:=⟨G,I,aDl _,λ_ h=>by cases h⟩
abbrev Du.step{L:List bJ}{i k:Nat}{R:List (Nat×bJ)}{p:bJ}(h:Du L i R)(hi:i<L.length)(S:L[i]=p)(hk:i<k)(aa:k<=L.length)(D:∀(j:Nat) (hj:j<L.length),i<=j->j<k->L[j]=p)(J:∀h:k<L.length,L[k]≠p):Du L k (R++[(k-i,p)]):=by
 subst S;refine⟨(abX R _ _ none).2 ⟨h.good,Z,h.nxt hi⟩,?_,aa,λS=>?_⟩
 .rw[TS,h.flat];have e:L.take k=L.take i++(L.drop i).take (k-i):=by rw[<-List.take_add]; congr 1; omega
  rw[e];congr 1;simp only[Px.flat,aEk];symm;refine List.eq_replicate_iff.2 ⟨by simp; omega,λx hx=>?_⟩;obtain⟨j,hj,rfl⟩:=List.getElem_of_mem hx;simp only[aD4,aE0]at hj;rw[aFC,List.getElem_drop];exact D (i+j) Z Z Z
 rw[XH];exact λe=>J S (aDo e).symm
abbrev Du.done{L:List bJ}{i:Nat}{R:List (Nat×bJ)}(h:Du L i R)(J:L.length<=i):rb R=enc L:=by
 have D:=h.flat;rw[aDG J]at D;unfold enc;rw[aiN h.good D]
end Px
end Go.Proofs.Vy
namespace Go.Proofs.Vy
open Go.Maps
variable{P:ahe}{k e t:aix}{b:Nat}{ids:List Int}{w w':VO}
def mQ(P:ahe)(k e:aix)(w:VO)(b:Nat)(ids:List Int):Prop:=
 ∃D:DataW Unit,w.ownsMap P k (plainElem P e) b ids.length D∧IsMap D∧∀x:Int,I64 x->D.atKey (.int .i64 x) (.lit (.bool false)) = .lit (.bool (ids.any (· == x)))
abbrev XJ(P:ahe)(k e:aix)(w:VO):mQ P k e (w.alloc (.map #[] 0)) w.heap.size []:=
 ⟨.map [],World.ownsMap_made w P k _,isMap_empty,λx _=>rfl⟩
abbrev wf_i64{x:Int}(h:I64 x):(Lit.int .i64 x).wf=true:=by
 obtain⟨D,J⟩:=h;have D:IntKind.i64.min = -9223372036854775808:=by decide
 have J:IntKind.i64.max=9223372036854775807:=by decide
 simp[Lit.wf,D,J];omega
abbrev Bq{H:Type}(D:P.underlying e=some .bool){v:aaT}{z:DataW H×List MemPlace}(h:plainElem P e v=some z):∃c,v = .bool c∧z=(.lit (.bool c),[]):=by
 unfold plainElem at h;rw[D]at h;cases v<;>simp at h;exact⟨_,I,h.symm⟩
abbrev mQ.lt(h:mQ P k e w b ids):b<w.heap.size:=by obtain⟨D,h,_⟩:=h; exact h.lt
abbrev mQ.kept(h:mQ P k e w b ids)(hb:∀i,i=b->w'.heap[i]?=w.heap[i]?):mQ P k e w' b ids:=by
 obtain⟨D,⟨es,J,hB,F,S,hD⟩,h2,h3⟩:=h;exact⟨D,⟨es,J,(hb b I).trans hB,F,S,hD⟩,h2,h3⟩
abbrev mQ.lookup(h:mQ P k e w b ids)(hk:P.underlying k=some (.int .i64))(he:P.underlying e=some .bool)(ht:P.underlying t=some (.map k e))(hz:(zeroValue e).run P w = .ok (.z) w){x:Int}(hx:I64 x) :
  (Instr.lookup t (.map (some b)) (.i x) false).run P w = .ok (.b (ids.any (· == x))) w:=by
 obtain⟨D,S,J,h3⟩:=h;obtain⟨v,ps,J,hv⟩:=S.lookup (int_keyed hk) ht hz (plainElem_bool he false) (keyOf_int_mk hk (wf_i64 hx));obtain⟨c,rfl,S⟩:=Bq he hv;simp only[aDm]at S;rw[h3 x hx]at S;obtain⟨S,-⟩:=S;cases S;exact J
abbrev mQ.update(h:mQ P k e w b ids)(hk:P.underlying k=some (.int .i64))(he:P.underlying e=some .bool)(ht:P.underlying t=some (.map k e))(hn:ids.length<maxLen){x:Int}(hx:I64 x) :
  ∃w',(Instr.mapUpdate t (.map (some b)) (.i x) (.b true)).run P w = .ok () w'∧mQ P k e w' b (ids++[x])∧w.grownBy w' (some b):=by
 obtain⟨D,h1,S,h3⟩:=h;obtain⟨w',J,ho,hg⟩:=h1.update (int_keyed hk) ht hn (keyOf_int_mk hk (wf_i64 hx)) (plainElem_bool he true);refine⟨w',J,⟨D.put (.int .i64 x) (.lit (.bool true)),?_,S.put _ _,λy hy=>?_⟩,hg⟩
 .rw[aDg,aFQ]; exact ho
 rw[List.any_append,List.any_cons,List.any_nil,Bool.or_false];by_cases hxy:x=y
 .subst hxy;rw[atKey_put_same S (k := .int .i64 x) (by first | trivial | simp[WideAt.IsKeyLit])];simp
 rw[atKey_put_other (by simpa using λh=>hxy h.symm),h3 y hy];simp[hxy]
end Go.Proofs.Vy
namespace Go.Sx
open Go.Proofs.Vy Go.RowKit Go.Rel Go.Sx
variable{P:ahe}{k e:aix}{b:Nat}{ids:List Int}{w w':VO}
variable{ops:Array ahk}{Q:Exit->Act->VO->Prop}{w0:VO}{a:Act}{os:List ahk}{n:Nat}{l:List (Nat×aaT)}{bl:List (Nat×List aaT)}{vs:List fE}
def TU(os:List ahk):Option Nat:=match os with
 | o::_=>(match o.guard,o.dst,o.op with
  | none,some d,.makeMap _ none=>some d
  | _,_,_=>none)
 | []=>none
def lookOf(os:List ahk)(l:List (Nat×aaT)):Option (aix×Nat×Int×Nat):=match os with
 | o::_=>(match o.guard,o.dst,o.op with
  | none,some d,.lookup t x i false=>(match rd (lift l) [] x,rd (lift l) [] i with
   | some (.map (some b)),some (.i z)=>some (t,b,z,d)
   | _,_=>none)
  | _,_,_=>none)
 | []=>none
def akG(os:List ahk)(l:List (Nat×aaT)):Option (aix×Nat×Int):=match os with
 | o::_=>(match o.guard,o.dst,o.op with
  | none,none,.mapUpdate t x i v=>(match rd (lift l) [] x,rd (lift l) [] i,rd (lift l) [] v with
   | some (.map (some b)),some (.i z),some (.b true)=>some (t,b,z)
   | _,_,_=>none)
  | _,_,_=>none)
 | []=>none
abbrev aus(S:St w0 a w n l bl vs)(d:Nat)(next:∀D w' b,Ext w w'->b=w.heap.size->(∀k e,mQ P k e w' b [])->St w0 D w' n ((d,.map (some b))::l) bl vs->aiw P ops Q (os.drop 1) D w')
  (D:TU os=some d:=by kernel_rfl) (hd:uO n (some d)=true:=by rfl):aiw P ops Q os a w:=by
 unfold TU at D;split at D
 .rename_i o os';split at D
  .rename_i d' t hg hdst hop;cases D;have J:(aGe a.eval o).run P w = .ok (.value (.map (some w.heap.size))) (w.alloc (.map #[] 0)):=by
    unfold aGe;simp only[hop];rfl
   unfold aiw;rw[aDb (by simp[Region.wanted,hg])];left;unfold Oper.wp;rw[J];simp only[Oper.upon];have hE:Ext w (w.alloc (.map #[] 0)):=aH _ _;have J:=S.grow hE;rw[hdst];exact next _ _ w.heap.size hE I (λk e=>XJ P k e w) ⟨uh S.s hd _,J.E,J.own,J.apart,J.mem⟩
  cases D
 cases D
abbrev apC(S:St w0 a w n l bl vs)(d:Nat){t:aix}{z:Int}(h:mQ P k e w b ids)(hk:P.underlying k=some (.int .i64))(he:P.underlying e=some .bool)(ht:P.underlying t=some (.map k e))(hz:(zeroValue e).run P w = .ok (.z) w)(hi:I64 z)
  (next:∀D,St w0 D w n ((d,.b (ids.any (· == z)))::l) bl vs->aiw P ops Q (os.drop 1) D w)
  (D:lookOf os l=some (t,b,z,d):=by kernel_rfl) (hd:uO n (some d)=true:=by rfl):aiw P ops Q os a w:=by
 unfold lookOf at D;split at D
 .rename_i o os';split at D
  .rename_i d' t' x i hg hdst hop;split at D
   .rename_i b' z' hxx hii;cases D;have J:=gX (bZ S.s) o;have aa:=gY (Std.act a) (J x (by rw[hop]; simp[Op.operands])) (p:=[]) I hxx;have ab:=gY (Std.act a) (J i (by rw[hop]; simp[Op.operands])) (p:=[]) I hii;have J:(aGe a.eval o).run P w = .ok (.value (.b (ids.any (· == z)))) w:=by
     unfold aGe;simp only[hop,aa,ab,aEe,h.lookup hk he ht hz hi];rfl
    unfold aiw;rw[aDb (by simp[Region.wanted,hg])];left;unfold Oper.wp;rw[J];simp only[Oper.upon];rw[hdst];exact next _ (S.act (uh S.s hd _))
   cases D
  cases D
 cases D
abbrev St.aut(S:St w0 a w n l bl vs)(h:mQ P k e w b ids)(hb:w0.heap.size<=b)(hg:w.grownBy w' (some b))(h1:bl.all (λp => !p.2.isEmpty)=true)(h2:vs.all (λm => !m.2.2.isEmpty)=true):St w0 a w' n l bl vs:=by
 have hm:∀i,w.cell? ⟨b,i,none⟩=none:=by
  obtain⟨D,⟨es,J,hB,_⟩,_⟩:=h;intro i;simp[World.cell?,hB]
 have aa:∀c i,c<w.heap.size->c≠b->w'.cell? ⟨c,i,none⟩=w.cell? ⟨c,i,none⟩:=by
  intro c i hc J;simp only[World.cell?];rw[hg.block c hc (λe=>J (aDo e))]
 have ac:∀c i,c<w.heap.size->c≠b->w'.frozen? ⟨c,i,none⟩=w.frozen? ⟨c,i,none⟩:=by
  intro c i hc J;simp only[World.frozen?];rw[hg.block c hc (λe=>J (aDo e))]
 have hE:Ext w0 w':=S.E.grown hg S.E.size (λk e=>by cases e; exact hb);refine⟨S.s,hE,λp hp=>?_,S.apart,λm ab=>?_⟩
 .obtain⟨⟨q1,q2,q3⟩,q4⟩:=S.own p hp;have J:p.1≠b:=by
   intro e;have h3:=aDF.1 h1 p hp;have h4:=q2 0;rw[e,hm 0]at h4;cases hA:p.2 with
   | nil=>rw[hA]at h3; cases h3
   | cons x A=>rw[hA]at h4; simp at h4
  exact⟨⟨aDL q1 hg.size,λi=>by rw[aa _ _ q1 J]; exact q2 i,λi=>by rw[ac _ _ q1 J]; exact q3 i⟩,q4⟩
 obtain⟨⟨q1,q2⟩,q3⟩:=S.mem m ab;have J:m.1≠b:=by
  intro e;have h3:=aDF.1 h2 m ab;cases hA:m.2.2 with
  | nil=>rw[hA]at h3; cases h3
  | cons x A =>
   have h4:=q2 0 x (by rw[hA]; rfl);rw[e,hm]at h4;cases h4
 exact⟨⟨aDL q1 hg.size,λi v hi=>by rw[aa _ _ q1 J]; exact q2 i v hi⟩,q3⟩
abbrev auu(S:St w0 a w n l bl vs){t:aix}{z:Int}(h:mQ P k e w b ids)(hb:w0.heap.size<=b)(hk:P.underlying k=some (.int .i64))(he:P.underlying e=some .bool)(ht:P.underlying t=some (.map k e))(hn:ids.length<maxLen)(hi:I64 z)
  (next:∀w',mQ P k e w' b (ids++[z])->w.grownBy w' (some b)->St w0 a w' n l bl vs->aiw P ops Q (os.drop 1) a w')
  (J:akG os l=some (t,b,z):=by kernel_rfl) (h1:bl.all (λp => !p.2.isEmpty)=true:=by kernel_rfl) (h2:vs.all (λm => !m.2.2.isEmpty)=true:=by kernel_rfl):aiw P ops Q os a w:=by
 unfold akG at J;split at J
 .rename_i o os';split at J
  .rename_i t' x i v hg hdst hop;split at J
   .rename_i b' z' hxx hii hvv;cases J;have D:=gX (bZ S.s) o;have ab:=gY (Std.act a) (D x (by rw[hop]; simp[Op.operands])) (p:=[]) I hxx;have ac:=gY (Std.act a) (D i (by rw[hop]; simp[Op.operands])) (p:=[]) I hii;have ae:=gY (Std.act a) (D v (by rw[hop]; simp[Op.operands])) (p:=[]) I hvv;obtain⟨w',D,h',aa⟩:=h.update hk he ht hn hi;have D:(aGe a.eval o).run P w = .ok .skip w':=by
     unfold aGe;simp only[hop,ab,ac,ae,aEe,D];rfl
    unfold aiw;rw[aDb (by simp[Region.wanted,hg])];left;unfold Oper.wp;rw[D];simp only[Oper.upon];rw[hdst];exact next _ h' aa (S.aut h hb aa h1 h2)
   cases J
  cases J
 cases J
abbrev TV(h:mQ P k e w b ids):On (λi=>i=b) (λw=>mQ P k e w b ids) w:=λw' D J=>h.kept λi D=>J i (by rw[D]; exact h.lt) D
end Go.Sx
end
namespace Go.Proofs.Vy
section
open Go.RowKit Go.Sx
variable{α:Type}{K:Nat}
abbrev keys (l:List aj):List aO:=l.map aj.key
variable{base b0 i c:Nat}{id z:Int}{pre:List aO}{f:α->List aaT}
abbrev oW{l:List aj}(h:i<l.length):Bl (keys l) i=l[i].depth:=by
 rw[Dl (by simpa using h)]; simp[keys,aj.key]
abbrev afe(h:0<=z):∃i:Nat,z=(i:Int):=⟨z.toNat,Z⟩
abbrev aff{l:List aj}{k:Nat}(hk:k<l.length)(h:l[k].id=id)(J:∀(j:Nat) (D:j<l.length),j<k->l[j].id≠id):nU (keys l) id=(k:Int):=by
 have:jo (keys l) id=some k:=by
  unfold jo;rw[List.findIdx?_eq_some_iff_getElem];refine⟨by simpa using hk,by simpa[keys,aj.key]using h,λj D=>?_⟩;have:=J j Z D;simpa[keys,aj.key]using this
 unfold nU; rw[this]
abbrev XK{l:List aj}(S:∀(j:Nat) (J:j<l.length),l[j].id≠id):nU (keys l) id = -1:=by
 have:jo (keys l) id=none:=by
  unfold jo;rw[List.findIdx?_eq_none_iff];intro κ D;obtain⟨n,hn,rfl⟩:=aDJ.1 D;obtain⟨j,J,rfl⟩:=List.getElem_of_mem hn;simpa[aj.key]using S j J
 unfold nU; rw[this]
abbrev abZ{l:List aj}{k:Nat}(hk:k<l.length)(J:∀(j:Nat) (D:j<l.length),j<k->l[j].id≠id)(h:l[k].id≠id):∀(j:Nat) (D:j<l.length),j<k+1->l[j].id≠id:=λj D S=>by
 by_cases e:j=k
 .subst e; exact h
 exact J j D Z
abbrev afg{s:aY}(h:((((decide (s.w<1))||(decide (256<s.w)))||(decide (s.h<1)))||(decide (256<s.h)))=true):s.chk=(6,0):=by
 unfold aY.chk;rw[aDb (by simpa[or_assoc]using h)]
abbrev uo{s:aY}(h:((((decide (s.w<1))||(decide (256<s.w)))||(decide (s.h<1)))||(decide (256<s.h)))=false):s.chk=if 64<s.ns.length then (5,64)else jr [] s.ns:=by
 unfold aY.chk;rw[aC9 (by simpa[or_assoc,and_assoc]using h)]
abbrev Jl{l:List aO}{k:Nat}(hk:k<l.length):jr (l.take k) (l.drop k)=if jA (l.take k) l[k]=0 then jr (l.take (k+1)) (l.drop (k+1))else (jA (l.take k) l[k],(k:Int)):=by
 rw[aEu hk,aEj hk];conv=>lhs; unfold jr
 rw[aD4,aEW Z]
abbrev Jm{l:List aj}{k:Nat}(hk:k<l.length){x:aj}(D:l[k]=x):(keys l)[k]'(by simpa using hk)=x.key:=by simp[keys,D]
abbrev Qb(l:List aj)(k:Nat)(id:Int):((l.take k).map aj.id).any (· == id)=((keys l).take k).any λκ=>κ.id==id:=by
 rw[<-List.map_take,List.any_map,List.any_map]; rfl
structure xP (l:List aj) (k:Nat) (m:Int):Prop where
 all:jr [] (keys l)=jr ((keys l).take k) ((keys l).drop k)
 room:m=FB ((keys l).take k)
abbrev xP.start(l:List aj):xP l 0 0:=⟨by simp,I⟩
abbrev xP.bad{l:List aj}{k:Nat}{m n:Int}{x:aj}(h:xP l k m)(hk:k<l.length)(D:l[k]=x)(J:jA ((keys l).take k) x.key=n)(hn:n≠0):jr [] (keys l)=(n,(k:Int)):=by
 rw[h.all,Jl (by simpa using hk),Jm hk D,J,aC9 hn]
abbrev xP.next{l:List aj}{k:Nat}{m D:Int}{x:aj}(h:xP l k m)(hk:k<l.length)(J:l[k]=x)(S:jA ((keys l).take k) x.key=0)(hm:D=if x.kind=1 then x.depth+1 else x.depth):xP l (k+1) D:=by
 have D:k<(keys l).length:=by simpa using hk
 refine⟨?_,?_⟩
 .rw[h.all,Jl D,Jm hk J,S,aDb I]
 rw[aEj D,XG,Jm hk J,hm]; rfl
abbrev xP.done{l:List aj}{k:Nat}{m:Int}(h:xP l k m)(hk:l.length<=k):jr [] (keys l)=(0,0):=by
 rw[h.all,aEB (by simpa using hk)]; rfl
abbrev XL{x:aj}(h:x.checkN≠0):jA pre x.key=x.checkN:=by rw[<-lg]at h |-; exact Jf h
abbrev ab1{x:aj}(h:x.checkN=0)(D:pre.any (λκ=>κ.id==x.id)=true):jA pre x.key=7:=by
 unfold jA;rw[lg,h,aC9 Y,aDb (show(pre.any λκ=>κ.id==x.key.id)=true from D)]
abbrev TW{x:aj}(h:x.checkN=0)(D:pre.any (λκ=>κ.id==x.id)=false)(J:FB pre<x.depth):jA pre x.key=17:=by
 unfold jA;rw[lg,h,aC9 Y,aC9 (by rw[show x.key.id=x.id from rfl,D]; simp),aC9 (by show ¬x.depth<=_; omega)]
abbrev TY{x:aj}(h:x.checkN=0)(D:pre.any (λκ=>κ.id==x.id)=false)(J:x.depth<=FB pre):jA pre x.key=0:=by
 unfold jA;rw[lg,h,aC9 Y,aC9 (by rw[show x.key.id=x.id from rfl,D]; simp),aDb (by exact J)]
abbrev ab2(w:VO):(zeroValue 4).run prog w = .ok (.z) w:=oC X
abbrev NV{w:VO}{v:aaT}{l:List aj}(h:aI 47 aj.cells w v l)(D:i<l.length)(J:z=(i:Int)){r:Nat}(hr:r=kN (keys l) i) :
  abB prog 148 #[v,.i z] w (VH w (.i r)):=by
 subst J hr;obtain⟨a,cap,rfl⟩:=h.shape;have J:l.length<=9223372036854775807:=h.len;refine aDi func148 ntmps148 λac S=>aCE λ_ J=>apB S 1 [] [(4,.i 0)] λS=>aCC<|J _ _<|aCE λ_ Wx=>apB S 3 [.re 7 (.i (IntKind.i64.wrap ((i:Int)+1))) (.i (i+1:Nat))] [(5,.i (i+1:Nat))] (hk:=⟨aCS Z,G⟩) λS=>aCC<|Wx _ _<|aDs λ_ κ3=>aD9 ?_;refine Vp.loop (ι:=Nat) (λp J w'=>(i<p∧p<=l.length∧∀j,i<j->j<p->Bl (keys l) i<Bl (keys l) j)∧Sx.St w J w' 28 [(0,.s a l.length cap),(1,.i i),(4,.i 0),(5,.i p)] [] []) (λp=>l.length-p) ((i+1)) ⟨⟨Z,Z,λj h1 h2=>by omega⟩,S.sn⟩ ?_;rintro k ac u hI;try dsimp only at hI
 obtain⟨J,S⟩:=hI;refine aDs λ_ κ4=>aDs (λ_ AB=>?_);rcases aD7 k l.length with hk | hk
 .have ek:decide ((k:Int)<(l.length:Int))=true:=aEy Z;obtain⟨b1,o1,c1,aa,ah,ab⟩:=Vp.lQ h (λ_=>I) i D;simp only[aDO,true_and]at aa;obtain⟨rfl,rfl⟩:=aa;obtain⟨b2,o2,c2,ae,ai,af⟩:=Vp.lQ h (λ_=>I) k hk;simp only[aDO,aDe,aEZ,true_and,and_true]at ae;obtain⟨⟨rfl,rfl⟩,rfl⟩:=ae;obtain⟨x,hx⟩:∃z,l[i]=z:=⟨_,I⟩;rw[hx]at ab;obtain⟨y,hy⟩:∃z,l[k]=z:=⟨_,I⟩;rw[hy]at af;have S:=S.view0 ah ab;have S:=S.view0 ai af;refine aDj S 17 [.re 11 (.b ((k:Int)<(l.length:Int))) (.b true),.idx k l.length,.M 0 2,.idx i l.length,.M 1 2] [] [(24,.b (x.depth<y.depth))] trivial (hk:=⟨(aDc Value.b ek),hk,D,G⟩) λac u E6 S=>aCC (AB _ _ ?_);refine aCX S (λmJ=>?_) (λmJ=>?_)
  .refine aDM<|κ4 _ _<|aD9<|aEw<|apB S 3 [.re 26 (.i (IntKind.i64.wrap ((k:Int)+1))) (.i (k+1:Nat))] [(5,.i (k+1:Nat))] (hk:=⟨aCS Z,G⟩) λS=>aCC ?_;show ∃i',_∧_;exact⟨(k+1),⟨⟨Z,Z,λj h1 h2=>by
    by_cases e:j=k
    .subst e; rw[oW D,oW hk,hx,hy]; have:=aDw mJ; omega
    exact J.2.2 j h1 Z⟩,S.sn⟩,by show l.length-(k+1)<l.length-k; omega⟩
  refine aEz<|κ3 _ _<|aCE λ_ Qc=>apB S 2 [] [(4,.i k)] λS=>aCC<|Qc _ _<|RY S results148 ?_;have he:kN (keys l) i=k:=by
   rw[Jd (by simpa using D)];exact aah (by simpa using D) J.1 (by simpa using J.2.1) J.2.2 (λhk=>by rw[oW D,oW (by simpa using hk),hx,hy]; have:=aDA mJ; omega)
  exact⟨by rw[he],S.E⟩
 have ek:decide ((k:Int)<(l.length:Int))=false:=aER Z;refine aDj S 17 [.re 11 (.b ((k:Int)<(l.length:Int))) (.z),.dead 13 (.z),.dead 14 (.z),.dead 15 (.z),.dead 16 (.z),.dead 17 (.z),.dead 18 (.z),.dead 19 (.z),.dead 20 (.z),.dead 21 (.z),.dead 22 (.z),.dead 23 (.z)] [] [(24,.z)] trivial (hk:=⟨(aDc Value.b ek),G⟩) λac u E9 S=>aCC<|AB _ _<|Fq S<|aEz<|κ3 _ _<|aCE λ_ xu=>apB S 2 [] [(4,.i k)] λS=>aCC<|xu _ _<|RY S results148 ?_;have he:kN (keys l) i=k:=by
  rw[Jd (by simpa using D)];exact aah (by simpa using D) J.1 (by simpa using J.2.1) J.2.2 (λag=>by simp at ag; omega)
 exact⟨by rw[he],S.E⟩
abbrev Jo{w:VO}{v:aaT}{l:List aj}(h:aI 47 aj.cells w v l) :
  abB prog 145 #[v,.i id] w (VH w (.i (nU (keys l) id))):=by
 obtain⟨a,cap,rfl⟩:=h.shape;have D:l.length<=9223372036854775807:=h.len;refine aCG func145 ntmps145 λS=>aCZ S (ι:=Nat) (λp D w'=>p<=l.length∧(∀(j:Nat) (hj:j<l.length),j<p->l[j].id≠id)∧Sx.St w D w' 20 [(0,.s a l.length cap),(1,.i id),(4,.i 0),(7,.s a l.length cap),(8,.i l.length),(9,.i p)] [] []) (λp=>l.length-p) (0) (λS=>⟨aDl _,λj hj h=>by omega,S.qc⟩) ?_;rintro k J u gJ dW D;try dsimp only at D
 obtain⟨hk,hR,S⟩:=D;refine aC0 S λS=>aCD S (decide ((k:Int)<(l.length:Int))) (λJ S=>?_) (λJ S=>?_)
 .have gZ:k<l.length:=by have:=aDw J; omega
  obtain⟨b9,ab,rfl,aa,jW,D,vH⟩:=aDN h (λ_=>I) (k) gZ;have S:=S.view0 D vH;refine adr S 3 [] [.idx k l.length,.M 0 0] (hk:=⟨gZ,G⟩) λS=>aCF S λu D AZ Dv S=>aCH S 0 I λu D S=>adr S 4 [] [.M 0 0] λS=>aCD S ((aa.id)==id) (λD S=>?_) (λD S=>?_)
  .refine aCB S (.i k) (λS=>?_);exact⟨by rw[aff gZ (by rw[jW]; simpa using D) hR],S.E⟩
  refine adr S 2 [] [.re 19 (.i (IntKind.i64.wrap ((k:Int)+1))) (.i (k+1:Nat))] (hk:=⟨aCS Z,G⟩) λS=>aCY S gJ (λS=>?_);exact dW _ _ (k+1) ⟨Z,(abZ gZ hR (by rw[jW]; simpa using D)),(S.gB 1).qc⟩ (by show _-_<_-_; omega)
 refine aCB S (.i (-1)) (λS=>?_);have hk:=aDA J;exact⟨by rw[XK (λj hj=>hR j hj Z)],S.E⟩
abbrev afh{l:List aj}{k:Nat}{x:aj}(hk:k<l.length)(D:l[k]=x):(l.take k).map aj.id++[x.id]=(l.take (k+1)).map aj.id:=by
 rw[aEj hk,aEb,D]; rfl
abbrev FH{w:VO}{s:aA}(h:dw K w s)(hg:bT w) :
  abB prog 83 #[s.v] w (VH w (.tuple #[.i s.key.chk.1,.i s.key.chk.2])):=by
 have D:s.ns.length<=9223372036854775807:=h.2.2.1.len;refine aDi func83 ntmps83 (λac S=>?_);obtain⟨a,cap,es⟩:∃a c,s.s = .s a s.ns.length c:=⟨_,_,I⟩;have hr:=h.2.2.1;rw[es]at hr;refine aCE λ_ D=>aEl S 1 s.cells λac u b2 E3 J S=>apB S 2 [] [(2,.i 0),(3,.i 0)] λS=>aCC<|D _ _<|aDs λ_ J=>aCE λ_ κ6=>apB S 18 [.M 0 0,.M 0 0,.M 0 1,.M 0 1] [(26,.b ((((decide (s.w<1))||(decide (256<s.w)))||(decide (s.h<1)))||(decide (256<s.h))))] λS=>aCC (κ6 _ _ ?_);refine aCX S (λmJ=>?_) (λmJ=>?_)
 .refine aCE λ_ D=>apB S 2 [] [(2,.i 6),(3,.i 0)] λS=>aCC<|D _ _<|rt2 S results83 ?_;exact⟨by rw[afg (s:=s.key) mJ],S.E⟩
 refine aDM<|J _ _<|aDs λ_ D=>aCE λ_ J=>apB S 4 [.M 0 6,.re 28 s.s (.s a s.ns.length cap)] [(30,.b (64<(s.ns.length:Int)))] (hk:=⟨es,G⟩) λS=>aCC (J _ _ ?_);refine aCX S (λfJ=>?_) (λfJ=>?_)
 .refine aCE λ_ J=>apB S 2 [] [(2,.i 5),(3,.i 64)] λS=>aCC<|J _ _<|aD6 ?_;have hq:=uo (s:=s.key) mJ;rw[show s.key.ns=keys s.ns from rfl,aEh]at hq;refine Me S results83 ?_;exact⟨by rw[hq,aDb (by have:=aDw fJ; omega)],S.E⟩
 refine aDM<|D _ _<|aCE (λ_ J=>?_);have D:=S.E.size;have D:=(S.bx 0).1;refine Sx.aus S 31 (λac u b E0 hb D S=>?_);have R:=aDV S;have ae:w.heap.size<=b∧b≠b2:=⟨Z,Z⟩;have MB:Sx.Ow _ (Ob [(b2,s.cells)] []) (λW=>mQ prog 3 4 W b []) _:=aEY (Sx.TV (D _ _)) λi hi=>by subst hi; exact⟨ae.1,by simpa[Ob]using ae.2⟩
 refine apB S 1 [] [(4,.map (some b))] λS=>aCC<|J _ _<|aCE λ_ D=>apB S 1 [] [(5,.i 0)] λS=>aCC<|D _ _<|aDs λ_ IL=>aCE λ_ D=>apB S 4 [.M 0 6,.re 33 s.s (.s a s.ns.length cap)] [(33,.s a s.ns.length cap),(34,.i s.ns.length),(35,.i 0)] (hk:=⟨es,G⟩) λS=>aCC<|D _ _<|aD9 ?_;refine Vp.loop (ι:=Nat×Int) (λp D w'=>p.1<=s.ns.length∧(xP s.ns p.1 p.2)∧Rw w w' [(b2,s.cells)] []∧Sx.Ow w.heap.size (Ob [(b2,s.cells)] []) (λW=>mQ prog 3 4 W b ((s.ns.take p.1).map aj.id)) w'∧Sx.St w D w' 67 [(0,s.v),(1,.q b2 0),(2,.i 0),(3,.i 0),(4,.map (some b)),(5,.i p.2),(33,.s a s.ns.length cap),(34,.i s.ns.length),(35,.i p.1)] [(b2,s.cells)] []) (λp=>s.ns.length-p.1) (0,0) ⟨aDl _,xP.start _,R,MB,S.sn⟩ ?_;rintro⟨k,m⟩ ac u hI;try dsimp only at hI
 obtain⟨hk,hR,R,MC,S⟩:=hI;refine aCE λ_ D=>apB S 1 [] [(36,.b ((k:Int)<(s.ns.length:Int)))] λS=>aCC<|D _ _<|aDs (λ_ J=>?_);refine aCX S (λab=>?_) (λab=>?_)
 .refine aDM<|J _ _<|aDs λ_ ag=>aD9<|aCE (λ_ J=>?_);have D:=(aDB (MC)).lt;have mG:k<s.ns.length:=by have:=aDw ab; omega
  obtain⟨a8,a9,rfl,D,qX,LZ,PZ⟩:=aDN hr (λ_=>I) (k) mG;have al:=h.2.2.2 _ (qX▸aDI mG);have S:=S.view0 LZ PZ;refine apB S 3 [.idx k s.ns.length,.M 1 0] [(37,.i k),(39,D.v)] (hk:=⟨mG,G⟩) λS=>aEl S 7 (Sx.L [.i 0,.i 0,.i 0]++Sx.za++Sx.L [.sn,.i 0,.u 0,.i 0,.z,.z,.sn,.i 0,.sn,.i 0,.i 0,.i 0,.i 0,.sn,.i 0,.sn,.i 0,.i 0,.sn,.i 0]) λac u ah A8 an S=>apB S 1 [] [(6,.i k)] λS=>aC7 S 0 (off:=0) (cs:=D.cells) I (λu PU S=>?_);have a4:b≠ah:=Z
  refine aCC<|J _ _<|aDs λ_ XM=>aCE λ_ Qe=>apB S 1 [.M 0 0] [(40,D.v)] λS=>CQ S 41 (Aa ((h.2.2.2 _ (qX▸aDI mG)).below S.E) (hg.below S.E)) λac u G8 S=>apB S 1 [] [(8,.i D.checkN)] λS=>aCC<|Qe _ _<|aCE λ_ J=>apB S 2 [] [(43,.b ((D.checkN) != 0))] λS=>aCC (J _ _ ?_);refine aCX S (λJ=>?_) (λJ=>?_)
  .refine aCE λ_ ao=>apB S 4 [] [(2,.i D.checkN),(3,.i k)] λS=>aCC<|ao _ _<|aD6 ?_;have hq:=uo (s:=s.key) mJ;rw[show s.key.ns=keys s.ns from rfl,aEh]at hq;refine Me S results83 ?_;rw[aC9 (by have:=aDA fJ; omega)]at hq;exact⟨by rw[hq,hR.bad mG qX (XL (by simpa using J)) (by simpa using J)],S.E⟩
  refine aDM<|XM _ _<|aDs λ_ ap=>aCE λ_ aq=>apB S 3 [.M 0 0] [(46,.map (some b)),(48,.i D.id)] (λS=>?_);obtain⟨R,am⟩:=R.bH S (aDr (aEi A8 an) (aDr (Sx.Stp.Jp PU (by simp[Sx.vb])) (aDx G8)));have af:=aDB ((aDR MC am));refine Sx.apC S 49 af underlying3 underlying4 underlying194 (ab2 _) (al.1.1) λac S=>aCC (aq _ _ ?_);refine aCX S (λQg=>?_) (λQg=>?_)
  .refine aCE λ_ ar=>apB S 3 [] [(2,.i 7),(3,.i k)] λS=>aCC<|ar _ _<|aD6 ?_;have hq:=uo (s:=s.key) mJ;rw[show s.key.ns=keys s.ns from rfl,aEh]at hq;refine Me S results83 ?_;rw[aC9 (by have:=aDA fJ; omega)]at hq;exact⟨by rw[hq,hR.bad mG qX (ab1 (by simpa using J) (by rw[<-Qb]; exact Qg)) O],S.E⟩
  refine aDM<|ap _ _<|aDs λ_ av=>aCE λ_ aw=>apB S 4 [.M 0 2] [(54,.b (m<D.depth))] λS=>aCC (aw _ _ ?_);refine aCX S (λaa=>?_) (λaa=>?_)
  .refine aCE λ_ ax=>apB S 3 [] [(2,.i 17),(3,.i k)] λS=>aCC<|ax _ _<|aD6 ?_;have hq:=uo (s:=s.key) mJ;rw[show s.key.ns=keys s.ns from rfl,aEh]at hq;refine Me S results83 ?_;rw[aC9 (by have:=aDA fJ; omega)]at hq;exact⟨by rw[hq,hR.bad mG qX (TW (by simpa using J) (by rw[<-Qb]; exact Qg) (by have:=aDw aa; rw[<-hR.room]; omega)) O],S.E⟩
  refine aDM<|av _ _<|aCE λ_ ay=>apB S 3 [.M 0 0] [(56,.map (some b)),(58,.i D.id)] (λS=>?_);have af:=aDB ((aDR MC am));refine Sx.auu S af (S.E.size |> λ_=>ae.1) underlying3 underlying4 underlying194 (by rw[aEh,aD4]; show _<9223372036854775807; omega) al.1.1 (λu ai a7 S=>?_);have R:=aDV S;have MB:Sx.Ow w.heap.size (Ob [(ah,D.cells),(b2,s.cells)] []) (λW=>mQ prog 3 4 W b ((s.ns.take (k+1)).map aj.id)) u:=by
   rw[afh mG qX]at ai;exact aEY (Sx.TV ai) λi hi=>by subst hi; exact⟨ae.1,by simpa[Ob]using ⟨a4,ae.2⟩⟩
  refine aCC<|ay _ _<|aCE λ_ az=>apB S 3 [.M 0 2] [(5,.i D.depth)] λS=>aCC<|az _ _<|aCE λ_ a3=>apB S 3 [.M 0 1] [(63,.b ((D.kind)==1))] λS=>aCC (a3 _ _ ?_);refine aCX S (λsV=>?_) (λsV=>?_)
  .refine aEw<|apB S 3 [Sx.kw 65 (D.depth+1)] [(5,.i (D.depth+1))] (hk:=⟨Sx.ae9 (by have:=qF (n:=D) (by simpa using J); omega),G⟩) λS=>aCC<|ag _ _<|aEw<|apB S 2 [.re 66 (.i (IntKind.i64.wrap ((k:Int)+1))) (.i (k+1:Nat))] [(35,.i (k+1:Nat))] (hk:=⟨aCS Z,G⟩) λS=>aCC ?_;have S:=S.gB 1;obtain⟨R,a5⟩:=R.bH S (aEd 1);show ∃i',_∧_;exact⟨((k+1),(D.depth+1)),⟨Z,hR.next mG qX (TY (by simpa using J) (by rw[<-Qb]; exact Qg) (by have:=aDA aa; rw[<-hR.room]; omega)) (by rw[aDb (by simpa using sV)]),R,(aDR MB a5),S.sn⟩,by show _-_<_-_; omega⟩
  refine aDM<|ag _ _<|aEw<|apB S 2 [.re 66 (.i (IntKind.i64.wrap ((k:Int)+1))) (.i (k+1:Nat))] [(35,.i (k+1:Nat))] (hk:=⟨aCS Z,G⟩) λS=>aCC ?_;have S:=S.gB 1;obtain⟨R,a6⟩:=R.bH S (aEd 1);show ∃i',_∧_;exact⟨((k+1),D.depth),⟨Z,hR.next mG qX (TY (by simpa using J) (by rw[<-Qb]; exact Qg) (by have:=aDA aa; rw[<-hR.room]; omega)) (by rw[aC9 (by simpa using sV)]),R,(aDR MB a6),S.sn⟩,by show _-_<_-_; omega⟩
 refine aEz<|IL _ _<|aCE λ_ D=>apB S 2 [] [(2,.i 0),(3,.i 0)] λS=>aCC<|D _ _<|aD6 ?_;have hq:=uo (s:=s.key) mJ;rw[show s.key.ns=keys s.ns from rfl,aEh]at hq;refine Me S results83 ?_;rw[aC9 (by have:=aDA fJ; omega)]at hq;exact⟨by rw[hq,hR.done (by have:=aDA ab; omega)],S.E⟩
abbrev eH.eqP{w w':VO}{a b:aj}(h:eH K w a)(h':eH K w' b):a.eqP b=decide (a.key=b.key):=aiK h.nrm h'.nrm
abbrev Qh(c d:bJ):(((c.r.toNat:Int)==d.r.toNat)&&(((c.g.toNat:Int)==d.g.toNat)&&(((c.b.toNat:Int)==d.b.toNat)&&((c.a.toNat:Int)==d.a.toNat))))=decide (c=d):=by
 rw[aEI];simp only[aDt,aDu,Ep,aDv];exact aae
abbrev ams(c d:bJ)(w:VO):(binOp .eql 40 (.agg c.cells.toArray) (.agg d.cells.toArray)).run prog w = .ok (.b (c=d)) w:=by
 rw[<-Qh]; exact ae0 ..
abbrev akH(a b c d e f g h:Int)(w:VO):(binOp .neq 40 (.agg #[.u a,.u b,.u c,.u d]) (.agg #[.u e,.u f,.u g,.u h])).run prog w = .ok (.b (!((a==e)&&((b==f)&&((c==g)&&(d==h)))))) w:=by
 simp[go_sem];(repeat' split)<;>simp_all
abbrev amu(c d:bJ)(w:VO):(binOp .neq 40 (.agg c.cells.toArray) (.agg d.cells.toArray)).run prog w = .ok (.b (!decide (c=d))) w:=by
 rw[<-Qh]; exact akH ..
abbrev amv{l m:List aj}{k:Nat}(hk:l.length<=k)(h:l.length=m.length)(D:(keys l).take k=(keys m).take k):true=decide (keys l=keys m):=by
 rw[aDG (by simpa using hk),aDG (by simpa using (show m.length<=k by omega))]at D;simp[D]
abbrev aiS{l m:List aj}{k:Nat}(D:k<l.length)(J:k<m.length)(S:(keys l).take k=(keys m).take k){x y:aj}(hx:l[k]=x)(hy:m[k]=y)(h:(!decide (x.key=y.key))=false):(keys l).take (k+1)=(keys m).take (k+1):=by
 rw[aEj (by simpa using D),aEj (by simpa using J),S,Jm D hx,Jm J hy];simp at h;rw[h]
abbrev apE{l m:List aj}{k:Nat}(D:k<l.length)(J:k<m.length){x y:aj}(S:l[k]=x)(hy:m[k]=y)(h:(!decide (x.key=y.key))=true):false=decide (keys l=keys m):=by
 symm;rw[aDQ];intro e;have:=aDc (·[k]?) e;simp only[keys,List.getElem?_map,List.getElem?_eq_getElem D,List.getElem?_eq_getElem J,S,hy,aD3,aDe]at this;simp[this]at h
abbrev apF{s t:aA}(h:((((s.w) != t.w)||((s.h) != t.h))||(!decide (s.bg=t.bg))||((s.ns.length:Int) != (t.ns.length:Int)))=true):false=decide (s.key=t.key):=by
 symm;rw[aDQ];intro e;simp only[aA.key,aY.mk.injEq]at e;have hl:=aDc List.length e.2.2.2;simp at hl;simp[e.1,e.2.1,e.2.2.1,hl]at h
abbrev afl{s t:aA}(h:((((s.w) != t.w)||((s.h) != t.h))||(!decide (s.bg=t.bg))||((s.ns.length:Int) != (t.ns.length:Int)))=false):s.ns.length=t.ns.length:=by
 simp at h; omega
abbrev akI{s t:aA}{b:Bool}(h:((((s.w) != t.w)||((s.h) != t.h))||(!decide (s.bg=t.bg))||((s.ns.length:Int) != (t.ns.length:Int)))=false)(D:b=decide (keys s.ns=keys t.ns)):b=decide (s.key=t.key):=by
 rw[D];simp at h;simp[aA.key,h]
abbrev yX{w:VO}{a b:aj}(h:eH K w a)(h':eH K w b):abB prog 95 #[a.v,b.v] w (VH w (.b (a.key=b.key))):=by
 rw[<-h.eqP h']; exact LY h h'
abbrev xQ{w:VO}{s:aA}(h:dw K w s)(J:bT w) :
  abB prog 51 #[s.v] w (VH w (.b s.key.valid)):=by
 skip;refine aCG func51 ntmps51 λS=>aCF S λu b2 E3 D S=>adr S 2 [] [.M 0 0] λS=>aCQ S (FH (h.below S.E) (J.below S.E)) λu D S=>aCB S (.b ((s.key.chk.1)==0)) (λS=>?_);exact⟨I,S.E⟩
abbrev akJ:gI prog 29 163 (.agg #[.i 0,.i 0,.i 0,.i 0,.i 0,.i 0,.i 0]) 7 56:=⟨underlying29,info_parts X,I,by decide⟩
abbrev afm:gI prog 131 202 (.agg #[.i 0,.u 0,.u 0,.u 0,.u 0]) 5 16:=⟨underlying131,info_parts X,I,by decide⟩
abbrev akK:gI prog 34 178 (.agg #[.u 0,.u 0,.u 0,.u 0]) 4 4:=⟨underlying34,info_parts X,I,by decide⟩
abbrev akL:gI prog 31 3 (.i 0) 1 8:=⟨underlying31,info_parts X,I,by decide⟩
abbrev Hf:gI prog 30 133 (.agg (Sx.L [.i 0,.u 0,.u 0,.u 0,.u 0,.i 0,.i 0,.i 0,.i 0,.i 0,.sn,.i 0,.i 0,.i 0,.sn,.i 0]++Sx.za).toArray) 40 520:=⟨underlying30,info_parts X,I,by decide⟩
def Cp(e:aix)(k:Nat)(f:α->List aaT)(base:Nat)(v:aaT)(L:List α)(w:VO):Prop:=Sx.bn base (kR e k f base v L) w
abbrev Cp.ext{e:aix}{k:Nat}{f:α->List aaT}{base:Nat}{v:aaT}{L:List α}{w w':VO}(h:Cp e k f base v L w)(D:Ext w w'):Cp e k f base v L w':=aDn h D
abbrev Cp.mono{e:aix}{k:Nat}{f:α->List aaT}{base b0:Nat}{v:aaT}{L:List α}{w:VO}(h:Cp e k f base v L w)(D:b0<=base):Cp e k f b0 v L w:=aDS (Sx.bn.le h D) λ_ h=>h.le D
abbrev Cp.shape{e:aix}{k:Nat}{f:α->List aaT}{base:Nat}{v:aaT}{L:List α}{w:VO}(h:Cp e k f base v L w):∃a c,v = .s a L.length c:=(aDB h).1.shape
abbrev Jq(e:aix)(k:Nat)(f:α->List aaT)(base:Nat)(w:VO):Cp e k f base (.sn) [] w:=λw' _ _=>⟨dJ k f w',.inl I⟩
abbrev qN{k:Nat}{w:VO}{n:Nat}{L:List α}(h:aI k f w (.s none n c) L):L=[]:=by
 obtain⟨a,cap,e,D,h⟩:=h;simp only[aDO]at e;obtain⟨rfl,rfl,rfl⟩:=e;rcases h with ⟨h,_⟩ | ⟨b,o,h,_⟩
 .exact h
 cases h
abbrev kV{k:Nat}{w:VO}{n:Nat}{L:List α}(h:aI k f w (.s none n c) L):c=0:=by
 obtain⟨a,cap,e,D,h⟩:=h;simp only[aDO]at e;obtain⟨rfl,rfl,rfl⟩:=e;rcases h with ⟨_,h⟩ | ⟨b,o,h,_⟩
 .exact h I
 cases h
abbrev bn.ch{base b:Nat}{F:VO->Prop}{w w':VO}(h:Sx.bn base F w)(S:Ch b w w')(D:b<base):Sx.bn base F w':=λw2 hs hk =>
 h w2 (aDy S.size hs) λk D J=>(hk k (aDL D S.size) J).trans (S.block k D λe=>by simp only[aDe]at e; omega)
abbrev eX{f:α->aaT}{w:VO}{v:aaT}{l:List α}(h:aI 1 (λx=>[f x]) w v l):dH f w v l:=by
 obtain⟨a,cap,D,J,h⟩:=h;refine⟨a,cap,D,J,?_⟩;rcases h with h | ⟨b,o,S,D,hl,hc⟩
 .exact .inl h
 exact .inr ⟨b,o,S,D,hl,λi J=>by have:=hc i J 0 Z; simpa using this⟩
def bM.strip(r:bM):bM:=⟨r.n1,Option.none,0,r.l1,r.n2,Option.none,0,r.l2⟩
def bG.strip(t:bG):bG:=⟨t.a.strip,t.b.strip,t.c.strip,t.d.strip,t.e.strip,t.f.strip⟩
def dI.strip(m:dI):dI:=⟨m.w,m.h,Option.none,0,m.l⟩
def ak.strip(p:ak):ak:=⟨p.kind,p.color,p.p0,p.p1,p.bY,Option.none,0,p.stops,p.spread,p.img.strip,p.dD,p.t.strip⟩
def aZ.strip(p:aZ):aZ:=⟨p.width,p.join,p.cap,p.fF,Option.none,0,p.dash,p.phase⟩
def aj.strip(n:aj):aj:=⟨n.id,n.kind,n.depth,n.t.strip,Option.none,0,n.clip,n.aS,n.dS,n.blend,n.isolated,n.dG,Option.none,0,n.path,n.aW,Option.none,0,n.fill.map ak.strip,n.style.strip,Option.none,0,n.stroke.map ak.strip,n.img.strip,n.dD⟩
abbrev xR:UInt32->List aaT:=λx=>[bC x]
def bM.oZ(base:Nat)(r:bM)(w:VO):Prop:=r.ok w∧Sx.Ty 119 1 base r.s1 r.l1.length w∧Sx.Ty 119 1 base r.s2 r.l2.length w
def bG.oZ(base:Nat)(t:bG)(w:VO):Prop:=t.a.oZ base w∧t.b.oZ base w∧t.c.oZ base w∧t.d.oZ base w∧t.e.oZ base w∧t.f.oZ base w
def ak.oZ(base:Nat)(p:ak)(w:VO):Prop:=p.ok w∧Sx.Ty 202 5 base p.sv p.stops.length w∧Sx.Ty 178 4 base p.img.s p.img.l.length w∧p.t.oZ base w
def kW(base:Nat)(w:VO)(v:aaT)(l:List ak):Prop:=kR 133 40 ak.cells base v l w∧∀p∈l,p.oZ base w
def aj.oZ(base:Nat)(n:aj)(w:VO):Prop:=n.ok w∧n.t.oZ base w∧Sx.Ty 163 7 base n.cs n.clip.length w∧Sx.Ty 163 7 base n.ps n.path.length w∧kW base w n.fs n.fill∧kW base w n.ss n.stroke∧Sx.Ty 3 1 base n.style.s n.style.dash.length w∧Sx.Ty 178 4 base n.img.s n.img.l.length w
abbrev bM.oZ.le{base b0:Nat}{r:bM}{w:VO}(h:r.oZ base w)(D:b0<=base):r.oZ b0 w:=⟨h.1,h.2.1.le D,h.2.2.le D⟩
abbrev bG.oZ.le{base b0:Nat}{t:bG}{w:VO}(h:t.oZ base w)(D:b0<=base):t.oZ b0 w:=⟨h.1.le D,h.2.1.le D,h.2.2.1.le D,h.2.2.2.1.le D,h.2.2.2.2.1.le D,h.2.2.2.2.2.le D⟩
abbrev bG.oZ.ok{base:Nat}{t:bG}{w:VO}(h:t.oZ base w):t.ok w:=⟨h.1.1,h.2.1.1,h.2.2.1.1,h.2.2.2.1.1,h.2.2.2.2.1.1,h.2.2.2.2.2.1⟩
abbrev ak.oZ.le{base b0:Nat}{p:ak}{w:VO}(h:p.oZ base w)(D:b0<=base):p.oZ b0 w:=⟨h.1,h.2.1.le D,h.2.2.1.le D,h.2.2.2.le D⟩
abbrev kW.le{base b0:Nat}{w:VO}{v:aaT}{l:List ak}(h:kW base w v l)(D:b0<=base):kW b0 w v l:=⟨h.1.le D,λp J=>(h.2 p J).le D⟩
abbrev kW.ok{base:Nat}{w:VO}{v:aaT}{l:List ak}(h:kW base w v l):jl w v l:=⟨h.1.1,λp D=>(h.2 p D).1⟩
abbrev bM.cp (base:Nat)(r:bM)(w:VO):Prop:=Sx.bn base (λW=>r.oZ base W) w
abbrev bG.cp (base:Nat)(t:bG)(w:VO):Prop:=Sx.bn base (λW=>t.oZ base W) w
abbrev qZ (base:Nat)(v:aaT)(l:List ak)(w:VO):Prop:=Sx.bn base (λW=>kW base W v l) w
abbrev Ey{r:bM}{w:VO}(h:r.cp base w)(D:b0<=base):r.cp b0 w:=aDS (Sx.bn.le h D) λ_ h=>h.le D
abbrev afn{t:bG}{w:VO}(h:t.cp base w)(D:b0<=base):t.cp b0 w:=aDS (Sx.bn.le h D) λ_ h=>h.le D
abbrev yY{v:aaT}{l:List ak}{w:VO}(h:qZ base v l w)(D:b0<=base):qZ b0 v l w:=aDS (Sx.bn.le h D) λ_ h=>h.le D
def bG.lim(t:bG):Prop:=t.fit 1000000
abbrev yZ{r:bM}(h:r.fit 1000000):r.l1.length<=10000000∧r.l2.length<=10000000:=⟨by have:=h.1; omega,by have:=h.2; omega⟩
abbrev aiT{t:bG}(h:t.lim):(t.a.l1.length<=10000000∧t.a.l2.length<=10000000)∧(t.b.l1.length<=10000000∧t.b.l2.length<=10000000)∧(t.c.l1.length<=10000000∧t.c.l2.length<=10000000)∧(t.d.l1.length<=10000000∧t.d.l2.length<=10000000)∧(t.e.l1.length<=10000000∧t.e.l2.length<=10000000)∧(t.f.l1.length<=10000000∧t.f.l2.length<=10000000):=
 ⟨yZ h.1,yZ h.2.1,yZ h.2.2.1,yZ h.2.2.2.1,yZ h.2.2.2.2.1,yZ h.2.2.2.2.2⟩
abbrev XO{w:VO}{v:aaT}{L:List UInt32}(h:aI 1 (λx=>[bC x]) w v L):dR w 1 v L.length (L.flatMap (λx=>[bC x])):=kS h (λ_=>I) λ_=>rfl
abbrev XP{w:VO}{v:aaT}{L:List UInt32}(h:aI 1 (λx=>[bC x]) w v L)(hl:L.length<=10000000) :
  abB prog 200 #[v] w λe w'=>∃D,e = .R D∧Cp 119 1 (λx=>[bC x]) w.heap.size D L w'∧Ext w w':=by
 obtain⟨a,c,rfl⟩:=h.shape;cases a with
 | none =>
  obtain rfl:L=[]:=qN h;obtain rfl:=kV h;refine aCG func200 ntmps200 λS=>aCM S λS=>aCB S (.sn) (λS=>?_);exact⟨_,I,Jq _ _ _ _ _,S.E⟩
 | some p =>
  refine aCG func200 ntmps200 λS=>aCT S (λS=>?_);have R:=aDV S;refine aCO S λS=>Sx.newRow S R 5 0 119 1 [] λD u J E6 X7 R S=>aCW S λS=>aCO S λS=>aDf S R 0 7 I mM (XO (h.below S.E)) (by show 0+L.length<=9223372036854775807; omega) (by show(0+L.length)*_<=140737488355328; omega) λD u J X9 R S=>aCW S λS=>aCB S J (λS=>?_);exact⟨_,I,fV (λ_=>I) (R.own _ aDq) (aEa _) (aD8 _),S.E⟩
abbrev XQ{w:VO}{v:aaT}{L:List dM}(h:aI 7 dM.cells w v L):dR w 7 v L.length (L.flatMap dM.cells):=kS h (λ_=>I) λ_=>rfl
abbrev Jr{w:VO}{v:aaT}{L:List dM}(h:aI 7 dM.cells w v L)(hl:L.length<=10000000) :
  abB prog 101 #[v] w λe w'=>∃D,e = .R D∧Cp 163 7 dM.cells w.heap.size D L w'∧Ext w w':=by
 obtain⟨a,c,rfl⟩:=h.shape;cases a with
 | none =>
  obtain rfl:L=[]:=qN h;obtain rfl:=kV h;refine aCG func101 ntmps101 λS=>aCM S λS=>aCB S (.sn) (λS=>?_);exact⟨_,I,Jq _ _ _ _ _,S.E⟩
 | some p =>
  refine aCG func101 ntmps101 λS=>aCT S (λS=>?_);have R:=aDV S;refine aCO S λS=>Sx.newRow S R 5 0 163 7 [] λD u J E6 X7 R S=>aCW S λS=>aCO S λS=>aDf S R 0 7 I akJ (XQ (h.below S.E)) (by show 0+L.length<=9223372036854775807; omega) (by show(0+L.length)*_<=140737488355328; omega) λD u J X9 R S=>aCW S λS=>aCB S J (λS=>?_);exact⟨_,I,fV (λ_=>I) (R.own _ aDq) (aEa _) (aD8 _),S.E⟩
abbrev Ua{w:VO}{v:aaT}{L:List dK}(h:aI 5 dK.cells w v L):dR w 5 v L.length (L.flatMap dK.cells):=kS h (λ_=>I) λ_=>rfl
abbrev Ub{w:VO}{v:aaT}{L:List dK}(h:aI 5 dK.cells w v L)(hl:L.length<=10000000) :
  abB prog 151 #[v] w λe w'=>∃D,e = .R D∧Cp 202 5 dK.cells w.heap.size D L w'∧Ext w w':=by
 obtain⟨a,c,rfl⟩:=h.shape;cases a with
 | none =>
  obtain rfl:L=[]:=qN h;obtain rfl:=kV h;refine aCG func151 ntmps151 λS=>aCM S λS=>aCB S (.sn) (λS=>?_);exact⟨_,I,Jq _ _ _ _ _,S.E⟩
 | some p =>
  refine aCG func151 ntmps151 λS=>aCT S (λS=>?_);have R:=aDV S;refine aCO S λS=>Sx.newRow S R 5 0 202 5 [] λD u J E6 X7 R S=>aCW S λS=>aCO S λS=>aDf S R 0 7 I afm (Ua (h.below S.E)) (by show 0+L.length<=9223372036854775807; omega) (by show(0+L.length)*_<=140737488355328; omega) λD u J X9 R S=>aCW S λS=>aCB S J (λS=>?_);exact⟨_,I,fV (λ_=>I) (R.own _ aDq) (aEa _) (aD8 _),S.E⟩
abbrev XR{w:VO}{v:aaT}{L:List bJ}(h:aI 4 bJ.cells w v L):dR w 4 v L.length (L.flatMap bJ.cells):=kS h (λ_=>I) λ_=>rfl
abbrev Js{w:VO}{v:aaT}{L:List bJ}(h:aI 4 bJ.cells w v L)(hl:L.length<=10000000) :
  abB prog 104 #[v] w λe w'=>∃D,e = .R D∧Cp 178 4 bJ.cells w.heap.size D L w'∧Ext w w':=by
 obtain⟨a,c,rfl⟩:=h.shape;cases a with
 | none =>
  obtain rfl:L=[]:=qN h;obtain rfl:=kV h;refine aCG func104 ntmps104 λS=>aCM S λS=>aCB S (.sn) (λS=>?_);exact⟨_,I,Jq _ _ _ _ _,S.E⟩
 | some p =>
  refine aCG func104 ntmps104 λS=>aCT S (λS=>?_);have R:=aDV S;refine aCO S λS=>Sx.newRow S R 5 0 178 4 [] λD u J E6 X7 R S=>aCW S λS=>aCO S λS=>aDf S R 0 7 I akK (XR (h.below S.E)) (by show 0+L.length<=9223372036854775807; omega) (by show(0+L.length)*_<=140737488355328; omega) λD u J X9 R S=>aCW S λS=>aCB S J (λS=>?_);exact⟨_,I,fV (λ_=>I) (R.own _ aDq) (aEa _) (aD8 _),S.E⟩
abbrev XT{w:VO}{v:aaT}{L:List Int}(h:aI 1 (λx=>[AU x]) w v L):dR w 1 v L.length (L.flatMap (λx=>[AU x])):=kS h (λ_=>I) λ_=>rfl
abbrev XU{w:VO}{v:aaT}{L:List Int}(h:aI 1 (λx=>[AU x]) w v L)(hl:L.length<=10000000) :
  abB prog 103 #[v] w λe w'=>∃D,e = .R D∧Cp 3 1 (λx=>[AU x]) w.heap.size D L w'∧Ext w w':=by
 obtain⟨a,c,rfl⟩:=h.shape;cases a with
 | none =>
  obtain rfl:L=[]:=qN h;obtain rfl:=kV h;refine aCG func103 ntmps103 λS=>aCM S λS=>aCB S (.sn) (λS=>?_);exact⟨_,I,Jq _ _ _ _ _,S.E⟩
 | some p =>
  refine aCG func103 ntmps103 λS=>aCT S (λS=>?_);have R:=aDV S;refine aCO S λS=>Sx.newRow S R 5 0 3 1 [] λD u J E6 X7 R S=>aCW S λS=>aCO S λS=>aDf S R 0 7 I akL (XT (h.below S.E)) (by show 0+L.length<=9223372036854775807; omega) (by show(0+L.length)*_<=140737488355328; omega) λD u J X9 R S=>aCW S λS=>aCB S J (λS=>?_);exact⟨_,I,fV (λ_=>I) (R.own _ aDq) (aEa _) (aD8 _),S.E⟩
abbrev iY{w:VO}{n:Bool}{v:aaT}{l:List UInt32}(h:aI 1 xR w v l)(hl:l.length<=10000000) :
  abB prog 149 #[.agg #[.b n,v]] w λe w'=>∃a c,e = .R (.agg #[.b n,.s a l.length c])∧Cp 119 1 xR w.heap.size (.s a l.length c) l w'∧Ext w w':=by
 obtain⟨a0,c0,rfl⟩:=h.shape;refine aCG func149 ntmps149 λS=>aCF S λu b2 J D S=>aCF S (λu b5 J D S=>?_);have D:=S.E.size;have z0:=(S.bx 0).1;refine jm S 5 [(7,λv w1=>Cp 119 1 xR u.heap.size v l w1)] (λr=>[.M 1 0,.M 1 1]) (λx=>[x 7]) (λx=>[(_,_,true,x 7,7)]) [[]] (λx=>[(4,.b n),(7,x 7)]) ⟨λ_ _ _ k h=>h.ext k,G⟩ (λx=>⟨by intro u D g F; exact(XP (h.below (K00 S.E D)) hl).mono λe J h=>by obtain⟨y,rfl,J,hb⟩:=h; exact⟨_,I,J.mono D.size,hb⟩,G⟩) (λu x E9 F S=>?_);obtain⟨J,-⟩:=F;obtain⟨a1,c1,D⟩:=Cp.shape J;rw[D]at S J;try rw[D]
 refine aCH S 0 I (λu D S=>?_);have MF:=bn.ch J D Z;refine aCU S 0 I (v := .agg #[.b n,.s a1 l.length c1]) (λS=>?_);exact⟨a1,c1,I,Cp.mono MF Z,S.E⟩
abbrev Ez{r:bM}{w:VO}(D:Cp 119 1 xR base r.s1 r.l1 w)(J:Cp 119 1 xR base r.s2 r.l2 w):r.cp base w:=aDS (aDD D J) λ_ h=>⟨⟨eX h.1.1,eX h.2.1⟩,h.1.2,h.2.2⟩
abbrev amw{t:bG}{w:VO}(D:t.a.cp base w)(J:t.b.cp base w)(S:t.c.cp base w)(h3:t.d.cp base w)(h4:t.e.cp base w)(h5:t.f.cp base w):t.cp base w:=aDD D (aDD J (aDD S (aDD h3 (aDD h4 h5))))
abbrev Ah{w:VO}{t:bG}(h:t.ok w)(hl:t.lim) :
  abB prog 100 #[t.v] w λe w'=>∃D:bG,e = .R D.v∧D.cp w.heap.size w'∧D.strip=t.strip∧Ext w w':=by
 obtain⟨h0,h1,h2,h3,h4,h5⟩:=h;obtain⟨D,be,bg,bh,bj,bk⟩:=aiT hl;refine aDi func100 ntmps100 λac S=>aCE λ_ J=>aEl S 1 t.cells λac u b2 E3 di S=>aEl S 2 Sx.za λac u b5 E6 dj S=>aCC<|J _ _<|aDs λ_ Qc=>aCE λ_ J=>apB S 6 [] [(5,.q b2 0),(6,.q b2 4),(7,.q b2 8),(8,.q b2 12),(9,.q b2 16),(10,.q b2 20)] λS=>Sx.news S 11 6 [.q b2 0,.q b2 4,.q b2 8,.q b2 12,.q b2 16,.q b2 20] λac u b10 Cj IK S=>apB S 2 [] [(12,.i 6),(13,.i 0)] λS=>aCC<|J _ _<|aD9<|wp_loop_rounds 7 ?_;rw[aFx];refine aCE λ_ J=>apB S 1 [] [(14,.b true)] λS=>aCC<|J _ _<|aDs λ_ wL=>IJ S<|aDM<|wL _ _<|aDs λ_ IL=>aD9<|aCE λ_ J=>apB S 3 [.M 0 0] [(4,.q b2 0)] λS=>aCC (J _ _ ?_);have J:=S.E.size;have z1:=(S.bx 1).1;have z2:=(S.bx 2).1;refine Sx.hoist [0] 11<|qm S 11 [(22,λv w1=>∃a c,v = .agg #[.b t.a.n1,.s a t.a.l1.length c]∧Cp 119 1 xR u.heap.size (.s a t.a.l1.length c) t.a.l1 w1),(27,λv w1=>∃a c,v = .agg #[.b t.a.n2,.s a t.a.l2.length c]∧Cp 119 1 xR u.heap.size (.s a t.a.l2.length c) t.a.l2 w1)] (λr=>[.M 2 0,.M 2 2]) (λx=>[x 22,x 27]) (λx=>[(_,_,true,x 22,22),(_,_,true,x 27,27)]) [[],[]] (λx=>[(17,.q b2 0),(22,x 22),(27,x 27)]) ⟨λ_ _ _ k h=>by obtain⟨a,c,e,h⟩:=h; exact⟨a,c,e,h.ext k⟩,λ_ _ _ k h=>by obtain⟨a,c,e,h⟩:=h; exact⟨a,c,e,h.ext k⟩,G⟩ (λx=>⟨by intro u J g F; exact(iY (n:=t.a.n1) (v:=t.a.s1) (l:=t.a.l1) ((fM (f:=bC) h0.1).below (K00 S.E J)) (D.1)).mono λe w2 h=>by obtain⟨a,c,rfl,hx,hb⟩:=h; exact⟨_,I,⟨a,c,I,hx.mono J.size⟩,hb⟩,by intro u J g F; exact(iY (n:=t.a.n2) (v:=t.a.s2) (l:=t.a.l2) ((fM (f:=bC) h0.2).below (K00 S.E J)) (D.2)).mono λe w2 h=>by obtain⟨a,c,rfl,hx,hb⟩:=h; exact⟨_,I,⟨a,c,I,hx.mono J.size⟩,hb⟩,G⟩) (λac u x D F S=>?_);obtain⟨Ai,D,-⟩:=F;obtain⟨aa,ab,cx,Ai⟩:=Ai;rw[cx]at S;obtain⟨ae,af,cy,D⟩:=D;rw[cy]at S;refine apB S 2 [] [(28,.agg #[.b t.a.n1,.s aa t.a.l1.length ab,.b t.a.n2,.s ae t.a.l2.length af]),(29,.q b2 0)] λS=>aC7 S 2 (off:=0) (cs:=[.b t.a.n1,.s aa t.a.l1.length ab,.b t.a.n2,.s ae t.a.l2.length af]) I (λu bd S=>?_);have oG:=bn.ch Ai bd Z;have Bv:=bn.ch D bd Z;have cf:=(Ez (r:=⟨t.a.n1,aa,ab,t.a.l1,t.a.n2,ae,af,t.a.l2⟩) oG Bv);refine aCC<|IL _ _<|aEw<|apB S 2 [] [(13,.i 1)] λS=>aCC ?_;show Code.rounds _ _ _ 6 _ _;rw[aFx];refine aCE λ_ bm=>apB S 1 [] [(14,.b true)] λS=>aCC<|bm _ _<|aDs λ_ bo=>IJ S<|aDM<|bo _ _<|aDs λ_ XV=>aD9<|aCE λ_ bp=>apB S 3 [.M 0 1] [(4,.q b2 4)] λS=>aCC (bp _ _ ?_);have y1:=S.E.size;have z1:=(S.bx 1).1;have z2:=(S.bx 2).1;refine Sx.hoist [0] 11<|qm S 11 [(22,λv w1=>∃a c,v = .agg #[.b t.b.n1,.s a t.b.l1.length c]∧Cp 119 1 xR u.heap.size (.s a t.b.l1.length c) t.b.l1 w1),(27,λv w1=>∃a c,v = .agg #[.b t.b.n2,.s a t.b.l2.length c]∧Cp 119 1 xR u.heap.size (.s a t.b.l2.length c) t.b.l2 w1)] (λr=>[.M 2 4,.M 2 6]) (λx=>[x 22,x 27]) (λx=>[(_,_,true,x 22,22),(_,_,true,x 27,27)]) [[],[]] (λx=>[(17,.q b2 4),(22,x 22),(27,x 27)]) ⟨λ_ _ _ k h=>by obtain⟨a,c,e,h⟩:=h; exact⟨a,c,e,h.ext k⟩,λ_ _ _ k h=>by obtain⟨a,c,e,h⟩:=h; exact⟨a,c,e,h.ext k⟩,G⟩ (λx=>⟨by intro u J g F; exact(iY (n:=t.b.n1) (v:=t.b.s1) (l:=t.b.l1) ((fM (f:=bC) h1.1).below (K00 S.E J)) (be.1)).mono λe w2 h=>by obtain⟨a,c,rfl,hx,hb⟩:=h; exact⟨_,I,⟨a,c,I,hx.mono J.size⟩,hb⟩,by intro u J g F; exact(iY (n:=t.b.n2) (v:=t.b.s2) (l:=t.b.l2) ((fM (f:=bC) h1.2).below (K00 S.E J)) (be.2)).mono λe w2 h=>by obtain⟨a,c,rfl,hx,hb⟩:=h; exact⟨_,I,⟨a,c,I,hx.mono J.size⟩,hb⟩,G⟩) (λac u x PS F S=>?_);obtain⟨Ai,D,-⟩:=F;obtain⟨ag,ah,cz,Ai⟩:=Ai;rw[cz]at S;obtain⟨ai,al,c0,D⟩:=D;rw[c0]at S;refine apB S 2 [] [(28,.agg #[.b t.b.n1,.s ag t.b.l1.length ah,.b t.b.n2,.s ai t.b.l2.length al]),(29,.q b2 4)] λS=>aC7 S 2 (off:=4) (cs:=[.b t.b.n1,.s ag t.b.l1.length ah,.b t.b.n2,.s ai t.b.l2.length al]) I (λu XW S=>?_);have Em:=bn.ch (cf.ext PS) XW Z;have qH:=bn.ch Ai XW Z;have Qi:=bn.ch D XW Z;have cg:=(Ez (r:=⟨t.b.n1,ag,ah,t.b.l1,t.b.n2,ai,al,t.b.l2⟩) qH Qi);refine aCC<|XV _ _<|aEw<|apB S 2 [] [(13,.i 2)] λS=>aCC ?_;show Code.rounds _ _ _ 5 _ _;rw[aFx];refine aCE λ_ bq=>apB S 1 [] [(14,.b true)] λS=>aCC<|bq _ _<|aDs λ_ Qj=>IJ S<|aDM<|Qj _ _<|aDs λ_ XM=>aD9<|aCE λ_ Qe=>apB S 3 [.M 0 2] [(4,.q b2 8)] λS=>aCC (Qe _ _ ?_);have y2:=S.E.size;have z1:=(S.bx 1).1;have z2:=(S.bx 2).1;refine Sx.hoist [0] 11<|qm S 11 [(22,λv w1=>∃a c,v = .agg #[.b t.c.n1,.s a t.c.l1.length c]∧Cp 119 1 xR u.heap.size (.s a t.c.l1.length c) t.c.l1 w1),(27,λv w1=>∃a c,v = .agg #[.b t.c.n2,.s a t.c.l2.length c]∧Cp 119 1 xR u.heap.size (.s a t.c.l2.length c) t.c.l2 w1)] (λr=>[.M 2 8,.M 2 10]) (λx=>[x 22,x 27]) (λx=>[(_,_,true,x 22,22),(_,_,true,x 27,27)]) [[],[]] (λx=>[(17,.q b2 8),(22,x 22),(27,x 27)]) ⟨λ_ _ _ k h=>by obtain⟨a,c,e,h⟩:=h; exact⟨a,c,e,h.ext k⟩,λ_ _ _ k h=>by obtain⟨a,c,e,h⟩:=h; exact⟨a,c,e,h.ext k⟩,G⟩ (λx=>⟨by intro u J g F; exact(iY (n:=t.c.n1) (v:=t.c.s1) (l:=t.c.l1) ((fM (f:=bC) h2.1).below (K00 S.E J)) (bg.1)).mono λe w2 h=>by obtain⟨a,c,rfl,hx,hb⟩:=h; exact⟨_,I,⟨a,c,I,hx.mono J.size⟩,hb⟩,by intro u J g F; exact(iY (n:=t.c.n2) (v:=t.c.s2) (l:=t.c.l2) ((fM (f:=bC) h2.2).below (K00 S.E J)) (bg.2)).mono λe w2 h=>by obtain⟨a,c,rfl,hx,hb⟩:=h; exact⟨_,I,⟨a,c,I,hx.mono J.size⟩,hb⟩,G⟩) (λac u x G8 F S=>?_);obtain⟨Ai,D,-⟩:=F;obtain⟨am,an,da,Ai⟩:=Ai;rw[da]at S;obtain⟨ao,WH,db,D⟩:=D;rw[db]at S;refine apB S 2 [] [(28,.agg #[.b t.c.n1,.s am t.c.l1.length an,.b t.c.n2,.s ao t.c.l2.length WH]),(29,.q b2 8)] λS=>aC7 S 2 (off:=8) (cs:=[.b t.c.n1,.s am t.c.l1.length an,.b t.c.n2,.s ao t.c.l2.length WH]) I (λu a9 S=>?_);have xU:=bn.ch (Em.ext G8) a9 Z;have Bz:=bn.ch (cg.ext G8) a9 Z;have EC:=bn.ch Ai a9 Z;have xW:=bn.ch D a9 Z;have ci:=(Ez (r:=⟨t.c.n1,am,an,t.c.l1,t.c.n2,ao,WH,t.c.l2⟩) EC xW);refine aCC<|XM _ _<|aEw<|apB S 2 [] [(13,.i 3)] λS=>aCC ?_;show Code.rounds _ _ _ 4 _ _;rw[aFx];refine aCE λ_ br=>apB S 1 [] [(14,.b true)] λS=>aCC<|br _ _<|aDs λ_ bs=>IJ S<|aDM<|bs _ _<|aDs λ_ bt=>aD9<|aCE λ_ bu=>apB S 3 [.M 0 3] [(4,.q b2 12)] λS=>aCC (bu _ _ ?_);have y3:=S.E.size;have z1:=(S.bx 1).1;have z2:=(S.bx 2).1;refine Sx.hoist [0] 11<|qm S 11 [(22,λv w1=>∃a c,v = .agg #[.b t.d.n1,.s a t.d.l1.length c]∧Cp 119 1 xR u.heap.size (.s a t.d.l1.length c) t.d.l1 w1),(27,λv w1=>∃a c,v = .agg #[.b t.d.n2,.s a t.d.l2.length c]∧Cp 119 1 xR u.heap.size (.s a t.d.l2.length c) t.d.l2 w1)] (λr=>[.M 2 12,.M 2 14]) (λx=>[x 22,x 27]) (λx=>[(_,_,true,x 22,22),(_,_,true,x 27,27)]) [[],[]] (λx=>[(17,.q b2 12),(22,x 22),(27,x 27)]) ⟨λ_ _ _ k h=>by obtain⟨a,c,e,h⟩:=h; exact⟨a,c,e,h.ext k⟩,λ_ _ _ k h=>by obtain⟨a,c,e,h⟩:=h; exact⟨a,c,e,h.ext k⟩,G⟩ (λx=>⟨by intro u J g F; exact(iY (n:=t.d.n1) (v:=t.d.s1) (l:=t.d.l1) ((fM (f:=bC) h3.1).below (K00 S.E J)) (bh.1)).mono λe w2 h=>by obtain⟨a,c,rfl,hx,hb⟩:=h; exact⟨_,I,⟨a,c,I,hx.mono J.size⟩,hb⟩,by intro u J g F; exact(iY (n:=t.d.n2) (v:=t.d.s2) (l:=t.d.l2) ((fM (f:=bC) h3.2).below (K00 S.E J)) (bh.2)).mono λe w2 h=>by obtain⟨a,c,rfl,hx,hb⟩:=h; exact⟨_,I,⟨a,c,I,hx.mono J.size⟩,hb⟩,G⟩) (λac u x bc F S=>?_);obtain⟨Ai,D,-⟩:=F;obtain⟨ap,aq,dd,Ai⟩:=Ai;rw[dd]at S;obtain⟨ar,av,de,D⟩:=D;rw[de]at S;refine apB S 2 [] [(28,.agg #[.b t.d.n1,.s ap t.d.l1.length aq,.b t.d.n2,.s ar t.d.l2.length av]),(29,.q b2 12)] λS=>aC7 S 2 (off:=12) (cs:=[.b t.d.n1,.s ap t.d.l1.length aq,.b t.d.n2,.s ar t.d.l2.length av]) I (λu a7 S=>?_);have Uc:=bn.ch (xU.ext bc) a7 Z;have Xx:=bn.ch (Bz.ext bc) a7 Z;have IZ:=bn.ch (ci.ext bc) a7 Z;have Dw:=bn.ch Ai a7 Z;have Dx:=bn.ch D a7 Z;have cj:=(Ez (r:=⟨t.d.n1,ap,aq,t.d.l1,t.d.n2,ar,av,t.d.l2⟩) Dw Dx);refine aCC<|bt _ _<|aEw<|apB S 2 [] [(13,.i 4)] λS=>aCC ?_;show Code.rounds _ _ _ 3 _ _;rw[aFx];refine aCE λ_ bv=>apB S 1 [] [(14,.b true)] λS=>aCC<|bv _ _<|aDs λ_ bw=>IJ S<|aDM<|bw _ _<|aDs λ_ bz=>aD9<|aCE λ_ ca=>apB S 3 [.M 0 4] [(4,.q b2 16)] λS=>aCC (ca _ _ ?_);have y4:=S.E.size;have z1:=(S.bx 1).1;have z2:=(S.bx 2).1;refine Sx.hoist [0] 11<|qm S 11 [(22,λv w1=>∃a c,v = .agg #[.b t.e.n1,.s a t.e.l1.length c]∧Cp 119 1 xR u.heap.size (.s a t.e.l1.length c) t.e.l1 w1),(27,λv w1=>∃a c,v = .agg #[.b t.e.n2,.s a t.e.l2.length c]∧Cp 119 1 xR u.heap.size (.s a t.e.l2.length c) t.e.l2 w1)] (λr=>[.M 2 16,.M 2 18]) (λx=>[x 22,x 27]) (λx=>[(_,_,true,x 22,22),(_,_,true,x 27,27)]) [[],[]] (λx=>[(17,.q b2 16),(22,x 22),(27,x 27)]) ⟨λ_ _ _ k h=>by obtain⟨a,c,e,h⟩:=h; exact⟨a,c,e,h.ext k⟩,λ_ _ _ k h=>by obtain⟨a,c,e,h⟩:=h; exact⟨a,c,e,h.ext k⟩,G⟩ (λx=>⟨by intro u J g F; exact(iY (n:=t.e.n1) (v:=t.e.s1) (l:=t.e.l1) ((fM (f:=bC) h4.1).below (K00 S.E J)) (bj.1)).mono λe w2 h=>by obtain⟨a,c,rfl,hx,hb⟩:=h; exact⟨_,I,⟨a,c,I,hx.mono J.size⟩,hb⟩,by intro u J g F; exact(iY (n:=t.e.n2) (v:=t.e.s2) (l:=t.e.l2) ((fM (f:=bC) h4.2).below (K00 S.E J)) (bj.2)).mono λe w2 h=>by obtain⟨a,c,rfl,hx,hb⟩:=h; exact⟨_,I,⟨a,c,I,hx.mono J.size⟩,hb⟩,G⟩) (λac u x bb F S=>?_);obtain⟨Ai,D,-⟩:=F;obtain⟨aw,ax,df,Ai⟩:=Ai;rw[df]at S;obtain⟨ay,az,dh,D⟩:=D;rw[dh]at S;refine apB S 2 [] [(28,.agg #[.b t.e.n1,.s aw t.e.l1.length ax,.b t.e.n2,.s ay t.e.l2.length az]),(29,.q b2 16)] λS=>aC7 S 2 (off:=16) (cs:=[.b t.e.n1,.s aw t.e.l1.length ax,.b t.e.n2,.s ay t.e.l2.length az]) I (λu WB S=>?_);have Dy:=bn.ch (Uc.ext bb) WB Z;have CY:=bn.ch (Xx.ext bb) WB Z;have xG:=bn.ch (IZ.ext bb) WB Z;have ck:=bn.ch (cj.ext bb) WB Z;have Ud:=bn.ch Ai WB Z;have Xy:=bn.ch D WB Z;have cm:=(Ez (r:=⟨t.e.n1,aw,ax,t.e.l1,t.e.n2,ay,az,t.e.l2⟩) Ud Xy);refine aCC<|bz _ _<|aEw<|apB S 2 [] [(13,.i 5)] λS=>aCC ?_;show Code.rounds _ _ _ 2 _ _;rw[aFx];refine aCE λ_ cb=>apB S 1 [] [(14,.b true)] λS=>aCC<|cb _ _<|aDs λ_ cc=>IJ S<|aDM<|cc _ _<|aDs λ_ cd=>aD9<|aCE λ_ ce=>apB S 3 [.M 0 5] [(4,.q b2 20)] λS=>aCC (ce _ _ ?_);have y5:=S.E.size;have z1:=(S.bx 1).1;have z2:=(S.bx 2).1;refine Sx.hoist [0] 11<|qm S 11 [(22,λv w1=>∃a c,v = .agg #[.b t.f.n1,.s a t.f.l1.length c]∧Cp 119 1 xR u.heap.size (.s a t.f.l1.length c) t.f.l1 w1),(27,λv w1=>∃a c,v = .agg #[.b t.f.n2,.s a t.f.l2.length c]∧Cp 119 1 xR u.heap.size (.s a t.f.l2.length c) t.f.l2 w1)] (λr=>[.M 2 20,.M 2 22]) (λx=>[x 22,x 27]) (λx=>[(_,_,true,x 22,22),(_,_,true,x 27,27)]) [[],[]] (λx=>[(17,.q b2 20),(22,x 22),(27,x 27)]) ⟨λ_ _ _ k h=>by obtain⟨a,c,e,h⟩:=h; exact⟨a,c,e,h.ext k⟩,λ_ _ _ k h=>by obtain⟨a,c,e,h⟩:=h; exact⟨a,c,e,h.ext k⟩,G⟩ (λx=>⟨by intro u J g F; exact(iY (n:=t.f.n1) (v:=t.f.s1) (l:=t.f.l1) ((fM (f:=bC) h5.1).below (K00 S.E J)) (bk.1)).mono λe w2 h=>by obtain⟨a,c,rfl,hx,hb⟩:=h; exact⟨_,I,⟨a,c,I,hx.mono J.size⟩,hb⟩,by intro u J g F; exact(iY (n:=t.f.n2) (v:=t.f.s2) (l:=t.f.l2) ((fM (f:=bC) h5.2).below (K00 S.E J)) (bk.2)).mono λe w2 h=>by obtain⟨a,c,rfl,hx,hb⟩:=h; exact⟨_,I,⟨a,c,I,hx.mono J.size⟩,hb⟩,G⟩) (λac u x a8 F S=>?_);obtain⟨Ai,D,-⟩:=F;obtain⟨a3,a4,J,Ai⟩:=Ai;rw[J]at S;obtain⟨a5,a6,J,D⟩:=D;rw[J]at S;refine apB S 2 [] [(28,.agg #[.b t.f.n1,.s a3 t.f.l1.length a4,.b t.f.n2,.s a5 t.f.l2.length a6]),(29,.q b2 20)] λS=>aC7 S 2 (off:=20) (cs:=[.b t.f.n1,.s a3 t.f.l1.length a4,.b t.f.n2,.s a5 t.f.l2.length a6]) I (λu J S=>?_);have XY:=bn.ch (Dy.ext a8) J Z;have cn:=bn.ch (CY.ext a8) J Z;have Qk:=bn.ch (xG.ext a8) J Z;have Ql:=bn.ch (ck.ext a8) J Z;have Qm:=bn.ch (cm.ext a8) J Z;have co:=bn.ch Ai J Z;have cq:=bn.ch D J Z;have ct:=(Ez (r:=⟨t.f.n1,a3,a4,t.f.l1,t.f.n2,a5,a6,t.f.l2⟩) co cq);refine aCC<|cd _ _<|aEw<|apB S 2 [] [(13,.i 6)] λS=>aCC ?_;show Code.rounds _ _ _ 1 _ _;rw[aFx];refine aCE λ_ D=>apB S 1 [] [(14,.z)] λS=>aCC<|D _ _<|aDs λ_ J=>Fq S<|aEz<|Qc _ _<|aCE λ_ J=>apB S 1 [.M 2 0] [(31,.agg #[.b t.a.n1,.s aa t.a.l1.length ab,.b t.a.n2,.s ae t.a.l2.length af,.b t.b.n1,.s ag t.b.l1.length ah,.b t.b.n2,.s ai t.b.l2.length al,.b t.c.n1,.s am t.c.l1.length an,.b t.c.n2,.s ao t.c.l2.length WH,.b t.d.n1,.s ap t.d.l1.length aq,.b t.d.n2,.s ar t.d.l2.length av,.b t.e.n1,.s aw t.e.l1.length ax,.b t.e.n2,.s ay t.e.l2.length az,.b t.f.n1,.s a3 t.f.l1.length a4,.b t.f.n2,.s a5 t.f.l2.length a6])] λS=>aC7 S 1 (off:=0) (cs:=[.b t.a.n1,.s aa t.a.l1.length ab,.b t.a.n2,.s ae t.a.l2.length af,.b t.b.n1,.s ag t.b.l1.length ah,.b t.b.n2,.s ai t.b.l2.length al,.b t.c.n1,.s am t.c.l1.length an,.b t.c.n2,.s ao t.c.l2.length WH,.b t.d.n1,.s ap t.d.l1.length aq,.b t.d.n2,.s ar t.d.l2.length av,.b t.e.n1,.s aw t.e.l1.length ax,.b t.e.n2,.s ay t.e.l2.length az,.b t.f.n1,.s a3 t.f.l1.length a4,.b t.f.n2,.s a5 t.f.l2.length a6]) I (λu D S=>?_);have Ue:=bn.ch XY D Z;have XZ:=bn.ch cn D Z;have X0:=bn.ch Qk D Z;have cu:=bn.ch Ql D Z;have cv:=bn.ch Qm D Z;have cw:=bn.ch ct D Z;refine aCC<|J _ _<|rtc S 1 results100 I (v := .agg #[.b t.a.n1,.s aa t.a.l1.length ab,.b t.a.n2,.s ae t.a.l2.length af,.b t.b.n1,.s ag t.b.l1.length ah,.b t.b.n2,.s ai t.b.l2.length al,.b t.c.n1,.s am t.c.l1.length an,.b t.c.n2,.s ao t.c.l2.length WH,.b t.d.n1,.s ap t.d.l1.length aq,.b t.d.n2,.s ar t.d.l2.length av,.b t.e.n1,.s aw t.e.l1.length ax,.b t.e.n2,.s ay t.e.l2.length az,.b t.f.n1,.s a3 t.f.l1.length a4,.b t.f.n2,.s a5 t.f.l2.length a6]) ?_;exact⟨⟨⟨t.a.n1,aa,ab,t.a.l1,t.a.n2,ae,af,t.a.l2⟩,⟨t.b.n1,ag,ah,t.b.l1,t.b.n2,ai,al,t.b.l2⟩,⟨t.c.n1,am,an,t.c.l1,t.c.n2,ao,WH,t.c.l2⟩,⟨t.d.n1,ap,aq,t.d.l1,t.d.n2,ar,av,t.d.l2⟩,⟨t.e.n1,aw,ax,t.e.l1,t.e.n2,ay,az,t.e.l2⟩,⟨t.f.n1,a3,a4,t.f.l1,t.f.n2,a5,a6,t.f.l2⟩⟩,I,amw (Ey Ue Z) (Ey XZ Z) (Ey X0 Z) (Ey cu Z) (Ey cv Z) (Ey cw Z),I,S.E⟩
