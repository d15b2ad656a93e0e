/- Arguments that came in: transforms and nodes; the -/
import Derived.Test.YtodpgjjgaddkeaaGreatDoorRows
import Derived.Test.YtodpgjjgaddkeaaGreatDoorPk15
set_option maxRecDepth 100000
set_option linter.unusedVariables false
set_option linter.unusedSimpArgs false
section
namespace Go.Proofs.YtodpgjjgaddkeaaGreatDoor
open Go.RowKit Go.ChangeShapes Go.WideShapes
variable{α:Type}
section
variable{H:Type}{enc:TypeId×Value->H}{P:Program}{W:World}{sp:Nat->Bool}{held:Bool}{n:Nat}{cs:List Value}{y:DataW H×List MemPlace}
end
section
variable{H:Type}{enc:TypeId×Value->H}{W:World}{sp:Nat->Bool}{held:Bool}{n:Nat}{cs:List Value}{y:DataW H×List MemPlace}
end
theorem acy{W:World}(h2:handlesMet Tryz.prog [("errors.errorType",Rows.laid_errors_errorType)] W):dw W:=by
 have h3:=h2 _ (aAn.2 I);obtain⟨name,u,ty,e1,e2,hlt,hrow,hvar⟩:∃name u ty,Rows.laid_errors_errorType.handleName?=some name∧(Tryz.prog.cutTypes.find? (·.1 == "internal/reflectlite.rtype")).map (·.2)=some u∧ty<Tryz.prog.types.size∧Tryz.prog.rowNamed ty name=true ∧
  W.var? Tryz.prog "errors.errorType" = some #[.iface u (.agg #[typeHandle Tryz.prog ty])]:=h3
 have hu:u=296:=az1 (e2.symm.trans X);have hn:name=[101,114,114,111,114]:=az1 (e1.symm.trans X);have hall:((List.range Tryz.prog.types.size).all λt => !Tryz.prog.rowNamed t [101,114,114,111,114]||t==210)=true:=by kernel_rfl
 rw[aAr]at hall;have h4:=hall ty (List.mem_range.2 hlt);rw[hn]at hrow;rw[hrow]at h4;have ht:ty=210:=by simpa using h4
 subst hu ht;unfold World.var? at hvar;rw[show Tryz.prog.globalNamed "errors.errorType" = some 0 by kernel_rfl,aBP]at hvar;cases hh:W.heap[(0 : Nat)]? with
 | none=>rw[hh]at hvar; cases hvar
 | some o =>
  rw[hh]at hvar;have hlt2:0 < W.heap.size:=(Array.getElem?_eq_some_iff.1 hh).1;cases o with
  | cells c t fz =>
   simp only[azT]at hvar;refine⟨hlt2,λj v hj=>?_⟩;have:j=0:=by
    have:=(List.getElem?_eq_some_iff.1 hj).1;simp at this; exact this
   subst this;simp only[World.cell?,hh];rw[hvar];simpa[typeHandle]using hj
  | _=>cases hvar
end Go.Proofs.YtodpgjjgaddkeaaGreatDoor
namespace Go.Sx
open Go.Proofs.YtodpgjjgaddkeaaGreatDoor Go.RowKit Go.Rel
variable{P:Program}{ops:Array Oper}{Q:Exit->Act->World->Prop}{w0 w:World}{a:Act}{os:List Oper}{n:Nat}{l:List (Nat×Value)}{bl:List (Nat×List Value)}{vs:List fD}
theorem oZ{x y:Int}(h:x=y)(hb : -9223372036854775808<=y∧y<=9223372036854775807):Value.i (IntKind.i64.wrap x) = .i y:=by subst h; exact adA hb
theorem am3(S:St w0 a w n l bl vs)(d:Nat)(V:Value){w1:World}{o:Oper}{os':List Oper}(hos:os=o::os')(hg:o.guard=none)(hdst:o.dst=some d)(hrun:(execOp a.eval o).run P w = .ok (.value V) w1)(hE:Ext w w1)
  (next:∀{a'},St w0 a' w1 n ((d,V)::l) bl vs->wpList P ops Q (os.drop 1) a' w1) (hd:vI n (some d)=true:=by rfl):wpList P ops Q os a w:=by
 subst hos;unfold wpList;rw[azQ (by simp[Region.wanted,hg])];left;unfold Oper.wp;rw[hrun];simp only[Oper.upon];rw[hdst];exact next ((S.grow hE).act (uP (d:=some d) S.s hd V))
end Go.Sx
namespace En
def dW:Nat->Nat->List UInt8
 | 0,_=>[]
 | f+1,n=>if n<128 then [UInt8.ofNat n]else UInt8.ofNat (n%128+128)::dW f (n/128)
def comb(k a:Nat):Except Nat (Nat×Nat)->Except Nat (Nat×Nat)
 | .ok (n,j) => .ok (a+128^k*n,k+j)
 | .error e => .error e
def lY:Nat->List UInt8->Except Nat (Nat×Nat)
 | _,[] => .error 4
 | 0,c::_=>if c.toNat=1 then .ok (1,1)else .error 3
 | f+1,c::l=>if c.toNat<128 then (if c.toNat=0∧f≠8 then .error 3 else .ok (c.toNat,1))else comb 1 (c.toNat%128) (lY f l)
theorem aaB(r:Except Nat (Nat×Nat)):comb 0 0 r=r:=by
 rcases r with e | ⟨n,j⟩<;>simp[comb]
theorem aaC(k a c:Nat)(r:Except Nat (Nat×Nat)):comb k a (comb 1 c r)=comb (k+1) (a+128^k*c) r:=by
 rcases r with e | ⟨n,j⟩
 .rfl
 simp only[comb,Nat.pow_one];congr 2
 .rw[aAf,aAA]; rw[aAB]; omega
 omega
theorem agy(f:Nat):lY f [] = .error 4:=by cases f<;>rfl
theorem adB(f:Nat)(c:UInt8)(l:List UInt8)(h:¬c.toNat<128):lY (f+1) (c::l)=comb 1 (c.toNat%128) (lY f l):=by
 rw[lY,azP h]
theorem Ic{n:Nat}(h:n<256):(UInt8.ofNat n).toNat=n:=by simp; omega
theorem am4(f:Nat):2^(7*(f+1)+1)=128*2^(7*f+1):=by
 rw[show 7*(f+1)+1=(7*f+1)+7 by omega,aBL,aAw]
theorem aj1(f:Nat):∀(l:List UInt8) (n k:Nat),lY f l = .ok (n,k) ->
  n<2^(7*f+1)∧1<=k∧k<=l.length∧k<=f+1∧(9<=f∨f<9∧0<n)∧(f<=9->dW (f+1) n=l.take k):=by
 induction f with
 | zero =>
  intro l n k h;cases l with
  | nil=>simp[lY]at h
  | cons c l =>
   simp only[lY]at h;split at h
   .rename_i hc;simp only[aBE,azW]at h;obtain⟨rfl,rfl⟩:=h;refine⟨by decide,Z,by simp,Z,.inr ⟨Z,Z⟩,λ_=>?_⟩;simp only[dW];have:c=1:=aB0.1 (by simpa using hc);rw[this]; rfl
   cases h
 | succ f ih =>
  intro l n k h;cases l with
  | nil=>simp[lY]at h
  | cons c l =>
   rw[am4];have hp:0<2^(7*f+1):=aCk Z;simp only[lY]at h;split at h
   .rename_i hc;split at h
    .cases h
    rename_i h0;simp only[aBE,azW]at h;obtain⟨rfl,rfl⟩:=h;refine⟨Z,Z,by simp,Z,?_,λ_=>?_⟩
    .by_cases e:c.toNat=0
     .left; have:¬f≠8:=λh=>h0 ⟨e,h⟩; omega
     by_cases e9:f+1<9
     .right; omega
     left; omega
    rw[dW,azQ hc]; simp
   rename_i hc;cases hr:lY f l with
   | error e=>rw[hr]at h; simp[comb]at h
   | ok p =>
    obtain⟨n',k'⟩:=p;rw[hr]at h;simp only[comb,Nat.pow_one,aBE,azW]at h;obtain⟨rfl,rfl⟩:=h;obtain⟨h1,h2,h3,h4,h5,h6⟩:=ih l n' k' hr;refine⟨Z,Z,by simp; omega,Z,?_,λhf=>?_⟩
    .by_cases e9:f+1<9
     .right; omega
     left; omega
    have hn:0<n':=by rcases h5 with h5 | h5<;>omega
    rw[dW,azP Z];have e1:(c.toNat%128+128*n')/128=n':=Z
    have e2:UInt8.ofNat ((c.toNat%128+128*n')%128+128)=c:=by
     apply aB0.1;rw[Ic Z];have:=c.toNat_lt;omega
    rw[e1,e2,h6 Z];rw[aBI 1 k']; rfl
theorem adC(f:Nat):∀(n:Nat) (r:List UInt8),n<2^(7*f+1)->(f=9∨f<9∧0<n)->lY f (dW (f+1) n++r) = .ok (n,(dW (f+1) n).length):=by
 induction f with
 | zero =>
  intro n r h h9;have:n=1:=by have:2^(7*0+1)=2:=I; omega
  subst this;rfl
 | succ f ih =>
  intro n r h h9;rw[am4]at h;rw[dW];split
  .rename_i hn;simp only[aBe,aAR,lY,aAx,aA3];rw[Ic Z,azQ hn,azP Z]
  rename_i hn;simp only[aBe,lY,aAx];rw[Ic Z,azP Z,ih (n/128) r Z (.inr ⟨Z,Z⟩)];simp only[comb,Nat.pow_one];congr 2
  .omega
  omega
theorem iG(f:Nat):∀n,(dW f n).length<=f:=by
 induction f with
 | zero=>intro n; simp[dW]
 | succ f ih =>
  intro n;rw[dW]; split
  .simp
  have:=ih (n/128); simp; omega
theorem BP(f n:Nat):0<(dW (f+1) n).length:=by rw[dW]; split<;>simp
theorem oz(n:Nat)(r:List UInt8)(h:n<18446744073709551616):lY 9 (dW 10 n++r) = .ok (n,(dW 10 n).length):=
 adC 9 n r (by simpa using h) (.inl I)
theorem FN{l:List UInt8}{n k:Nat}(h:lY 9 l = .ok (n,k)):n<18446744073709551616∧1<=k∧k<=l.length∧k<=10∧dW 10 n=l.take k:=by
 obtain⟨h1,h2,h3,h4,_,h6⟩:=aj1 9 l n k h;exact⟨by simpa using h1,h2,h3,h4,h6 (azS _)⟩
def zig(x:Int):Nat:=if x<0 then (-2*x-1).toNat else (2*x).toNat
def Ej(n:Nat):Int:=if n%2=1 then -1-((n/2:Nat):Int)else ((n/2:Nat):Int)
theorem Oh{x:Int}(h : -9223372036854775808<=x)(h2:x<=9223372036854775807):zig x<18446744073709551616:=by unfold zig; split<;>omega
theorem Dw(x:Int):Ej (zig x)=x:=by unfold Ej zig; split<;>split<;>omega
theorem adD{n:Nat}(h:n<18446744073709551616) : -9223372036854775808<=Ej n∧Ej n<=9223372036854775807:=by unfold Ej; split<;>omega
def yg(l:List UInt8)(at_:Int):Nat×Nat×Nat:=
 if at_<0∨(l.length:Int)<at_ then (0,0,2)
 else match lY 9 (l.drop at_.toNat)with
  | .ok (n,k)=>(n,at_.toNat+k,0)
  | .error e=>(0,0,e)
def vat(l:List UInt8)(at_:Int):Int×Nat×Nat:=(Ej (yg l at_).1,(yg l at_).2)
theorem FP(f:Nat):∀(l:List UInt8) (e:Nat),lY f l = .error e->e=3∨e=4:=by
 induction f with
 | zero =>
  intro l e h;cases l with
  | nil=>simp only[lY,aBF]at h; omega
  | cons c l =>
   simp only[lY]at h;split at h<;>simp only[reduceCtorEq,aBF]at h;omega
 | succ f ih =>
  intro l e h;cases l with
  | nil=>simp only[lY,aBF]at h; omega
  | cons c l =>
   simp only[lY]at h;split at h
   .split at h<;>simp only[reduceCtorEq,aBF]at h;omega
   cases hr:lY f l with
   | error e'=>rw[hr]at h; simp only[comb,aBF]at h; subst h; exact ih l _ hr
   | ok p=>obtain⟨n',k'⟩:=p; rw[hr]at h; simp[comb]at h
end En
namespace En
variable{α:Type}
def sW(most:Int)(l:List UInt8):Except Nat (List UInt8×Nat):=
 match lY 9 l with
 | .error e => .error e
 | .ok (n,k)=>if most<0∨most<(n:Int)then .error 5 else if l.length-k<n then .error 4 else .ok ((l.drop k).take n,k+n)
def Yy(l:List UInt8)(at_ most:Int):List UInt8×Nat×Nat:=
 if at_<0∨(l.length:Int)<at_ then ([],0,2)
 else match sW most (l.drop at_.toNat)with
  | .ok (s,k)=>(s,at_.toNat+k,0)
  | .error e=>([],0,e)
def fV(s:List UInt8):List UInt8:=dW 10 s.length++s
theorem Ie{most:Int}{l s:List UInt8}{k:Nat}(h:sW most l = .ok (s,k)):fV s=l.take k∧k<=l.length∧1<=k∧(s.length:Int)<=most:=by
 unfold sW at h;cases hu:lY 9 l with
 | error e=>rw[hu]at h; simp at h
 | ok p =>
  obtain⟨n,j⟩:=p;rw[hu]at h;simp only at h;obtain⟨h1,h2,h3,h4,h5⟩:=FN hu;split at h
  .cases h
  split at h
  .cases h
  rename_i g1 g2;simp only[aBE,azW]at h;obtain⟨rfl,rfl⟩:=h;have hl:((l.drop j).take n).length=n:=by simp; omega
  refine⟨?_,Z,Z,Z⟩;unfold fV;rw[hl,h5,<-List.take_add]
theorem Ig(s r:List UInt8)(most:Int)(h:(s.length:Int)<=most)(hs:s.length<18446744073709551616):sW most (fV s++r) = .ok (s,(fV s).length):=by
 unfold sW fV;rw[aAb,oz _ _ hs];simp only;rw[azP Z,azP Y];simp
end En
namespace En
theorem aj2{l:List UInt8}{e:Nat}(h:lY 9 l = .error e):e≠0:=by
 rcases FP 9 l e h with rfl | rfl<;>decide
end En
namespace Go.Proofs.YtodpgjjgaddkeaaGreatDoor
namespace Px
set_option linter.unusedSectionVars false
open En
variable{β:Type}[DecidableEq β]
def runs:List β->List (Nat×β)
  | []=>[]
  | c::l=>match runs l with
    | []=>[(1,c)]
    | (n,d)::r=>if d=c then (n+1,d)::r else (1,c)::(n,d)::r
def flat:List (Nat×β)->List β
  | []=>[]
  | (n,c)::r=>List.replicate n c++flat r
def good:Option β->List (Nat×β)->Prop
  | _,[]=>True
  | last,(n,c)::r=>0<n∧last≠some c∧good (some c) r
variable{R:List (Nat×β)}{p q:bD}{x:List UInt8}
theorem LC(s:List β):(∀last,(∀c,s.head?=some c->last≠some c)->good last (runs s))∧flat (runs s)=s∧(∀c n r,runs s=(n,c)::r->s.head?=some c):=by
 induction s with
 | nil=>simp[runs,good,flat]
 | cons c l ih =>
  obtain⟨h1,h2,h3⟩:=ih;cases hr:runs l with
  | nil =>
   rw[hr]at h2;simp only[runs,hr,good,flat]at h2 |-;subst h2;refine⟨λlast h=>⟨Z,h c I,G⟩,I,?_⟩;intro c' n' r' he; simp only[aAp,azW]at he; simp[he.1.2]
  | cons x r =>
   obtain⟨n,d⟩:=x;have hd:=h3 d n r hr;rw[hr]at h2;simp only[runs,hr];simp only[flat]at h2;split
   .rename_i e;subst e;refine⟨λlast h=>?_,?_,?_⟩
    .have:=h1 none Y;rw[hr]at this;simp only[good]at this |-;exact⟨Z,h d I,this.2.2⟩
    .simp only[flat,aB3,aBe,h2]
    intro c' n' r' he; simp only[aAp,azW]at he; simp[he.1.2]
   rename_i e;refine⟨λlast h=>?_,?_,?_⟩
   .have:=h1 (some c) (by intro c' hc'; rw[hd]at hc'; simp only[azT]at hc' |-; exact λe'=>e (hc'.trans (az1 e').symm));rw[hr]at this;simp only[good]at this |-;exact⟨Z,h c I,this⟩
   .simp only[flat,aB3,aB9,aBe,aAR,h2]
   intro c' n' r' he; simp only[aAp,azW]at he; simp[he.1.2]
theorem aaD(r:List (Nat×β)):∀last,good last r->runs (flat r)=r:=by
 induction r with
 | nil=>intro _ _; rfl
 | cons x r ih =>
  obtain⟨n,c⟩:=x;intro last h;simp only[good]at h;obtain⟨hn,_,hg⟩:=h;have hr:=ih _ hg;simp only[flat];have key:∀k,runs (List.replicate (k+1) c++flat r)=(k+1,c)::r:=by
   intro k;induction k with
   | zero =>
    simp only[aB3,aB9,aBe,aAR,runs,hr];cases r with
    | nil=>rfl
    | cons y r' =>
     obtain⟨m,d⟩:=y;simp only[good]at hg;simp only;rw[azP (λe=>hg.2.1 (by rw[e]))]
   | succ k ihk =>
    rw[aB3,aBe,runs,ihk];simp
  obtain⟨m,rfl⟩:∃m,n=m+1:=⟨n-1,Z⟩;exact key m
def Ih(last:Option β):List (Nat×β)->Option β
  | []=>last
  | (_,c)::r=>Ih (some c) r
theorem aaE(R:List (Nat×β))(n:Nat)(c:β):∀last,good last (R++[(n,c)])↔good last R∧0<n∧Ih last R≠some c:=by
  induction R with
  | nil=>intro last; simp[good,Ih]
  | cons x R ih => intro last; obtain ⟨m, d⟩ := x; simp only [aBe, good, Ih, ih]; constructor
                   · rintro⟨h1,h2,h3,h4,h5⟩; exact⟨⟨h1,h2,h3⟩,h4,h5⟩
                   · rintro⟨⟨h1,h2,h3⟩,h4,h5⟩; exact⟨h1,h2,h3,h4,h5⟩
theorem RD(R S:List (Nat×β)):flat (R++S)=flat R++flat S:=by
 induction R with
 | nil=>rfl
 | cons x R ih=>obtain⟨m,d⟩:=x; simp[flat,ih]
theorem VN(R:List (Nat×β))(n:Nat)(c:β):∀last,Ih last (R++[(n,c)])=some c:=by
 induction R with
 | nil=>intro last; rfl
 | cons x R ih=>intro last; obtain⟨m,d⟩:=x; simp[Ih,ih]
theorem agz{s:List β}(hg:good none R)(hf:flat R=s):runs s=R:=by rw[<-hf]; exact aaD R none hg
theorem Dx(s:List β):good none (runs s)∧flat (runs s)=s:=⟨(LC s).1 none Y,(LC s).2.1⟩
theorem agA:∀x∈R,x.1<=(flat R).length:=by
 induction R with
 | nil=>intro x hx; simp at hx
 | cons y R ih =>
  intro x hx;obtain⟨m,d⟩:=y;rcases az2.1 hx with rfl | hx
  .simp[flat]
  have:=ih x hx; simp[flat]; omega
def pb(p:bD):List UInt8:=[p.r,p.g,p.b,p.a]
def rb:List (Nat×bD)->List UInt8
  | []=>[]
  | (n,p)::r=>dW 10 n++pb p++rb r
def enc(l:List bD):List UInt8:=rb (runs l)
theorem aaF(R S:List (Nat×bD)):rb (R++S)=rb R++rb S:=by
 induction R with
 | nil=>rfl
 | cons x R ih=>obtain⟨m,d⟩:=x; simp[rb,ih]
theorem agB(R:List (Nat×bD))(n:Nat)(p:bD):rb (R++[(n,p)])=rb R++(dW 10 n++pb p):=by rw[aaF]; simp[rb]
theorem aj3{R:List (Nat×bD)}:∀{last:Option bD},Px.good last R->(rb R).length<=14*(flat R).length:=by
 induction R with
 | nil=>intro _ _; exact azZ _
 | cons z R ih =>
  intro last h;obtain⟨n,p⟩:=z;simp only[Px.good]at h;have:=ih h.2.2;have:=iG 10 n;simp only[rb,pb,flat,azU,aAx,aA3,List.length_replicate];omega
theorem VO{y:List UInt8}(h:pb p++x=pb q++y):p=q∧x=y:=by
 simp only[pb,aBe,aAR,aAp]at h;obtain⟨h1,h2,h3,h4,h5⟩:=h;exact⟨by cases p; cases q; simp_all,h5⟩
theorem agC{n m:Nat}{y:List UInt8}(hn:n<18446744073709551616)(hm:m<18446744073709551616)(h:dW 10 n++pb p++x=dW 10 m++pb q++y):n=m∧p=q∧x=y:=by
 have h1:=oz n (pb p++x) hn;have h2:=oz m (pb q++y) hm;rw[<-aAb]at h1 h2;rw[h,h2]at h1;simp only[aBE,azW]at h1;obtain⟨rfl,-⟩:=h1;rw[aAb,aAb]at h;obtain⟨h3,h4⟩:=VO (List.append_cancel_left h);exact⟨I,h3,h4⟩
def Bd(R:List (Nat×bD)):Prop:=∀x∈R,x.1<18446744073709551616
theorem adE:∀{R S:List (Nat×bD)} {x:List UInt8},Bd R->Bd S->rb R++x=rb S->∃T,S=R++T∧rb T=x
  | [],S,x,_,_,h=>⟨S,I,h.symm⟩
  | (n,p)::R,[],x,_,_,h=>by
    have:=az0 List.length h
    simp[rb,pb]at this
  | (n,p)::R,(m,q)::S,x,hR,hS,h=>by
    simp only[rb,aAb]at h
    obtain⟨rfl,rfl,h3⟩:=agC (hR _ az5) (hS _ az5) (by simpa only[aAb]using h)
    obtain⟨T,rfl,hT⟩:=adE (λz hz=>hR z (aA4 _ hz)) (λz hz=>hS z (aA4 _ hz)) h3
    exact⟨T,I,hT⟩
theorem Yz{R:List (Nat×bD)}(h:(flat R).length<18446744073709551616):Bd R:=λx hx=>aCa (agA x hx) h
theorem agD{l m:List bD}(hl:l.length<18446744073709551616)(hm:m.length<18446744073709551616)(h:enc l=enc m):l=m:=by
 have h1:=Dx l;have h2:=Dx m;obtain⟨T,hT,hx⟩:=adE (R:=runs l) (S:=runs m) (x:=[]) (Yz (by rw[h1.2]; exact hl)) (Yz (by rw[h2.2]; exact hm)) (by rw[aAW]; exact h);have hT0:T=[]:=by
  cases T with
  | nil=>rfl
  | cons z T=>obtain⟨n,p⟩:=z; have:=az0 List.length hx; simp[rb,pb]at this
 rw[<-h1.2,<-h2.2,hT,hT0,aAW]
structure BQ (L:List bD) (i:Nat) (R:List (Nat×bD)):Prop where
  good:good none R
  flat:flat R=L.take i
  le:i<=L.length
  nxt:∀h:i<L.length,Ih none R≠some L[i]
theorem BQ.zero(L:List bD):BQ L 0 []:=⟨G,I,azZ _,λ_ h=>by cases h⟩
theorem BQ.step{L:List bD}{i k:Nat}{R:List (Nat×bD)}{p:bD}(h:BQ L i R)(hi:i<L.length)(hp:L[i]=p)(hk:i<k)(hkl:k<=L.length)(hall:∀(j:Nat) (hj:j<L.length),i<=j->j<k->L[j]=p)(hend:∀h:k<L.length,L[k]≠p):BQ L k (R++[(k-i,p)]):=by
 subst hp;refine⟨(aaE R _ _ none).2 ⟨h.good,Z,h.nxt hi⟩,?_,hkl,λhkk=>?_⟩
 .rw[RD,h.flat];have e:L.take k=L.take i++(L.drop i).take (k-i):=by rw[<-List.take_add]; congr 1; omega
  rw[e];congr 1;simp only[Px.flat,aAW];symm;refine List.eq_replicate_iff.2 ⟨by simp; omega,λx hx=>?_⟩;obtain⟨j,hj,rfl⟩:=List.getElem_of_mem hx;simp only[aAN,aBT]at hj;rw[aCu,List.getElem_drop];exact hall (i+j) Z Z Z
 rw[VN];exact λe=>hend hkk (az1 e).symm
theorem BQ.done{L:List bD}{i:Nat}{R:List (Nat×bD)}(h:BQ L i R)(hi:L.length<=i):rb R=enc L:=by
 have h2:=h.flat;rw[aAv hi]at h2;unfold enc;rw[agz h.good h2]
