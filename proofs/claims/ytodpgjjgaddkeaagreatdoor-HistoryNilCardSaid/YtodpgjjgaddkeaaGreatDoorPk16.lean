/- Arguments that came in: transforms and nodes; the -/
import Derived.Test.YtodpgjjgaddkeaaGreatDoorRows
import Derived.Test.YtodpgjjgaddkeaaGreatDoorPk15
set_option maxRecDepth 100000
set_option linter.unusedVariables false
set_option linter.unusedSimpArgs false
section
namespace Go.Proofs.YtodpgjjgaddkeaaGreatDoor
open Go.RowKit Go.ChangeShapes Go.WideShapes
variable{α:Type}
section
variable{H:Type}{enc:TypeId×Value→H}{P:Program}{W:World}{sp:Nat→Bool}{held:Bool}{n:Nat}{cs:List Value}{y:DataW H×List MemPlace}
end
section
variable{H:Type}{enc:TypeId×Value→H}{W:World}{sp:Nat→Bool}{held:Bool}{n:Nat}{cs:List Value}{y:DataW H×List MemPlace}
end
theorem aci{W:World}(h2:handlesMet Tryz.prog [("errors.errorType",Rows.laid_errors_errorType)] W):dO W:=by
 have h3:=h2 _ (az0.2 rfl);obtain⟨name,u,ty,e1,e2,hlt,hrow,hvar⟩:∃name u ty,Rows.laid_errors_errorType.handleName?=some name∧(Tryz.prog.cutTypes.find? (·.1 == "internal/reflectlite.rtype")).map (·.2)=some u∧ty<Tryz.prog.types.size∧Tryz.prog.rowNamed ty name=true ∧
  W.var? Tryz.prog "errors.errorType" = some #[.iface u (.agg #[typeHandle Tryz.prog ty])]:=h3
 have hu:u=296:=azF (e2.symm.trans (by kernel_rfl));have hn:name=[101,114,114,111,114]:=azF (e1.symm.trans (by kernel_rfl));have hall:((List.range Tryz.prog.types.size).all fun t => !Tryz.prog.rowNamed t [101,114,114,111,114]||t==210)=true:=by kernel_rfl
 rw[az5]at hall;have h4:=hall ty (List.mem_range.2 hlt);rw[hn]at hrow;rw[hrow]at h4;have ht:ty=210:=by simpa using h4
 subst hu ht;unfold World.var? at hvar;rw[show Tryz.prog.globalNamed "errors.errorType" = some 0 by kernel_rfl,aBq]at hvar;cases hh:W.heap[(0 : Nat)]? with
 | none=>rw[hh]at hvar; cases hvar
 | some o =>
  rw[hh]at hvar;have hlt2:0 < W.heap.size:=(Array.getElem?_eq_some_iff.1 hh).1;cases o with
  | cells c t fz =>
   simp only[azy]at hvar;refine⟨hlt2,fun j v hj=>?_⟩;have:j=0:=by
    have:=(List.getElem?_eq_some_iff.1 hj).1;simp at this; exact this
   subst this;simp only[World.cell?,hh];rw[hvar];simpa[typeHandle]using hj
  | _=>cases hvar
end Go.Proofs.YtodpgjjgaddkeaaGreatDoor
namespace Go.Sx
open Go.Proofs.YtodpgjjgaddkeaaGreatDoor Go.RowKit Go.Rel
variable{P:Program}{ops:Array Oper}{Q:Exit→Act→World→Prop}{w0 w:World}{a:Act}{os:List Oper}{n:Nat}{l:List (Nat×Value)}{bl:List (Nat×List Value)}{vs:List fA}
theorem oW{x y:Int}(h:x=y)(hb : -9223372036854775808≤y∧y≤9223372036854775807):Value.i (IntKind.i64.wrap x) = .i y:=by subst h; exact ah5 hb
theorem amK(S:St w0 a w n l bl vs)(d:Nat)(V:Value){w1:World}{o:Oper}{os':List Oper}(hos:os=o::os')(hg:o.guard=none)(hdst:o.dst=some d)(hrun:(execOp a.eval o).run P w = .ok (.value V) w1)(hE:Ext w w1)
  (next:∀{a'},St w0 a' w1 n ((d,V)::l) bl vs→wpList P ops Q (os.drop 1) a' w1) (hd:uY n (some d)=true:=by rfl):wpList P ops Q os a w:=by
 subst hos;unfold wpList;rw[azv (by simp[Region.wanted,hg])];left;unfold Oper.wp;rw[hrun];simp only[Oper.upon];rw[hdst];exact next ((S.grow hE).act (uF (d:=some d) S.s hd V))
end Go.Sx
namespace En
def dV:Nat→Nat→List UInt8
 | 0,_=>[]
 | f+1,n=>if n<128 then [UInt8.ofNat n]else UInt8.ofNat (n%128+128)::dV f (n/128)
def comb(k a:Nat):Except Nat (Nat×Nat)→Except Nat (Nat×Nat)
 | .ok (n,j) => .ok (a+128^k*n,k+j)
 | .error e => .error e
def lS:Nat→List UInt8→Except Nat (Nat×Nat)
 | _,[] => .error 4
 | 0,c::_=>if c.toNat=1 then .ok (1,1)else .error 3
 | f+1,c::l=>if c.toNat<128 then (if c.toNat=0∧f≠8 then .error 3 else .ok (c.toNat,1))else comb 1 (c.toNat%128) (lS f l)
theorem Zh(r:Except Nat (Nat×Nat)):comb 0 0 r=r:=by
 rcases r with e | ⟨n,j⟩<;>simp[comb]
theorem Zi(k a c:Nat)(r:Except Nat (Nat×Nat)):comb k a (comb 1 c r)=comb (k+1) (a+128^k*c) r:=by
 rcases r with e | ⟨n,j⟩
 ·rfl
 simp only[comb,Nat.pow_one];congr 2
 ·rw[azU,aAd]; rw[aAg]; omega
 omega
theorem afI(f:Nat):lS f [] = .error 4:=by cases f<;>rfl
theorem abW(f:Nat)(c:UInt8)(l:List UInt8)(h:¬c.toNat<128):lS (f+1) (c::l)=comb 1 (c.toNat%128) (lS f l):=by
 rw[lS,azu h]
theorem FK{n:Nat}(h:n<256):(UInt8.ofNat n).toNat=n:=by simp; omega
theorem amL(f:Nat):2^(7*(f+1)+1)=128*2^(7*f+1):=by
 rw[show 7*(f+1)+1=(7*f+1)+7 by omega,aBo,aAa]
theorem ajJ(f:Nat):∀(l:List UInt8) (n k:Nat),lS f l = .ok (n,k) →
  n<2^(7*f+1)∧1≤k∧k≤l.length∧k≤f+1∧(9≤f∨f<9∧0<n)∧(f≤9→dV (f+1) n=l.take k):=by
 induction f with
 | zero =>
  intro l n k h;cases l with
  | nil=>simp[lS]at h
  | cons c l =>
   simp only[lS]at h;split at h
   ·rename_i hc;simp only[aBR,azA]at h;obtain⟨rfl,rfl⟩:=h;refine⟨by decide,by omega,by simp,by omega,.inr ⟨by omega,by omega⟩,fun _=>?_⟩;simp only[dV];have:c=1:=aBD.1 (by simpa using hc);rw[this]; rfl
   cases h
 | succ f ih =>
  intro l n k h;cases l with
  | nil=>simp[lS]at h
  | cons c l =>
   rw[amL];have hp:0<2^(7*f+1):=aBZ (by omega);simp only[lS]at h;split at h
   ·rename_i hc;split at h
    ·cases h
    rename_i h0;simp only[aBR,azA]at h;obtain⟨rfl,rfl⟩:=h;refine⟨by omega,by omega,by simp,by omega,?_,fun _=>?_⟩
    ·by_cases e:c.toNat=0
     ·left; have:¬f≠8:=fun h=>h0 ⟨e,h⟩; omega
     by_cases e9:f+1<9
     ·right; omega
     left; omega
    rw[dV,azv hc]; simp
   rename_i hc;cases hr:lS f l with
   | error e=>rw[hr]at h; simp[comb]at h
   | ok p =>
    obtain⟨n',k'⟩:=p;rw[hr]at h;simp only[comb,Nat.pow_one,aBR,azA]at h;obtain⟨rfl,rfl⟩:=h;obtain⟨h1,h2,h3,h4,h5,h6⟩:=ih l n' k' hr;refine⟨by omega,by omega,by simp; omega,by omega,?_,fun hf=>?_⟩
    ·by_cases e9:f+1<9
     ·right; omega
     left; omega
    have hn:0<n':=by rcases h5 with h5 | h5<;>omega
    rw[dV,azu (by omega)];have e1:(c.toNat%128+128*n')/128=n':=by omega
    have e2:UInt8.ofNat ((c.toNat%128+128*n')%128+128)=c:=by
     apply aBD.1;rw[FK (by omega)];have:=c.toNat_lt;omega
    rw[e1,e2,h6 (by omega)];rw[aBj 1 k']; rfl
theorem ado(f:Nat):∀(n:Nat) (r:List UInt8),n<2^(7*f+1)→(f=9∨f<9∧0<n)→lS f (dV (f+1) n++r) = .ok (n,(dV (f+1) n).length):=by
 induction f with
 | zero =>
  intro n r h h9;have:n=1:=by have:2^(7*0+1)=2:=rfl; omega
  subst this;rfl
 | succ f ih =>
  intro n r h h9;rw[amL]at h;rw[dV];split
  ·rename_i hn;simp only[aAP,aAv,lS,aAb,aAH];rw[FK (by omega),azv hn,azu (by omega)]
  rename_i hn;simp only[aAP,lS,aAb];rw[FK (by omega),azu (by omega),ih (n/128) r (by omega) (.inr ⟨by omega,by omega⟩)];simp only[comb,Nat.pow_one];congr 2
  ·omega
  omega
theorem iE(f:Nat):∀n,(dV f n).length≤f:=by
 induction f with
 | zero=>intro n; simp[dV]
 | succ f ih =>
  intro n;rw[dV]; split
  ·simp
  have:=ih (n/128); simp; omega
theorem AZ(f n:Nat):0<(dV (f+1) n).length:=by rw[dV]; split<;>simp
theorem oC(n:Nat)(r:List UInt8)(h:n<18446744073709551616):lS 9 (dV 10 n++r) = .ok (n,(dV 10 n).length):=
 ado 9 n r (by simpa using h) (.inl rfl)
theorem ES{l:List UInt8}{n k:Nat}(h:lS 9 l = .ok (n,k)):n<18446744073709551616∧1≤k∧k≤l.length∧k≤10∧dV 10 n=l.take k:=by
 obtain⟨h1,h2,h3,h4,_,h6⟩:=ajJ 9 l n k h;exact⟨by simpa using h1,h2,h3,h4,h6 (azx _)⟩
def zig(x:Int):Nat:=if x<0 then (-2*x-1).toNat else (2*x).toNat
def Dz(n:Nat):Int:=if n%2=1 then -1-((n/2:Nat):Int)else ((n/2:Nat):Int)
theorem MX{x:Int}(h : -9223372036854775808≤x)(h2:x≤9223372036854775807):zig x<18446744073709551616:=by unfold zig; split<;>omega
theorem CO(x:Int):Dz (zig x)=x:=by unfold Dz zig; split<;>split<;>omega
theorem adq{n:Nat}(h:n<18446744073709551616) : -9223372036854775808≤Dz n∧Dz n≤9223372036854775807:=by unfold Dz; split<;>omega
def xk(l:List UInt8)(at_:Int):Nat×Nat×Nat:=
 if at_<0∨(l.length:Int)<at_ then (0,0,2)
 else match lS 9 (l.drop at_.toNat)with
  | .ok (n,k)=>(n,at_.toNat+k,0)
  | .error e=>(0,0,e)
def vat(l:List UInt8)(at_:Int):Int×Nat×Nat:=(Dz (xk l at_).1,(xk l at_).2)
theorem ER(f:Nat):∀(l:List UInt8) (e:Nat),lS f l = .error e→e=3∨e=4:=by
 induction f with
 | zero =>
  intro l e h;cases l with
  | nil=>simp only[lS,aBg]at h; omega
  | cons c l =>
   simp only[lS]at h;split at h<;>simp only[reduceCtorEq,aBg]at h;omega
 | succ f ih =>
  intro l e h;cases l with
  | nil=>simp only[lS,aBg]at h; omega
  | cons c l =>
   simp only[lS]at h;split at h
   ·split at h<;>simp only[reduceCtorEq,aBg]at h;omega
   cases hr:lS f l with
   | error e'=>rw[hr]at h; simp only[comb,aBg]at h; subst h; exact ih l _ hr
   | ok p=>obtain⟨n',k'⟩:=p; rw[hr]at h; simp[comb]at h
end En
namespace En
variable{α:Type}
def sH(most:Int)(l:List UInt8):Except Nat (List UInt8×Nat):=
 match lS 9 l with
 | .error e => .error e
 | .ok (n,k)=>if most<0∨most<(n:Int)then .error 5 else if l.length-k<n then .error 4 else .ok ((l.drop k).take n,k+n)
def Yc(l:List UInt8)(at_ most:Int):List UInt8×Nat×Nat:=
 if at_<0∨(l.length:Int)<at_ then ([],0,2)
 else match sH most (l.drop at_.toNat)with
  | .ok (s,k)=>(s,at_.toNat+k,0)
  | .error e=>([],0,e)
def fQ(s:List UInt8):List UInt8:=dV 10 s.length++s
theorem G9{most:Int}{l s:List UInt8}{k:Nat}(h:sH most l = .ok (s,k)):fQ s=l.take k∧k≤l.length∧1≤k∧(s.length:Int)≤most:=by
 unfold sH at h;cases hu:lS 9 l with
 | error e=>rw[hu]at h; simp at h
 | ok p =>
  obtain⟨n,j⟩:=p;rw[hu]at h;simp only at h;obtain⟨h1,h2,h3,h4,h5⟩:=ES hu;split at h
  ·cases h
  split at h
  ·cases h
  rename_i g1 g2;simp only[aBR,azA]at h;obtain⟨rfl,rfl⟩:=h;have hl:((l.drop j).take n).length=n:=by simp; omega
  refine⟨?_,by omega,by omega,by omega⟩;unfold fQ;rw[hl,h5,←List.take_add]
theorem He(s r:List UInt8)(most:Int)(h:(s.length:Int)≤most)(hs:s.length<18446744073709551616):sH most (fQ s++r) = .ok (s,(fQ s).length):=by
 unfold sH fQ;rw[azO,oC _ _ hs];simp only;rw[azu (by omega),azu (by simp)];simp
end En
namespace En
theorem ajK{l:List UInt8}{e:Nat}(h:lS 9 l = .error e):e≠0:=by
 rcases ER 9 l e h with rfl | rfl<;>decide
end En
namespace Go.Proofs.YtodpgjjgaddkeaaGreatDoor
namespace Px
set_option linter.unusedSectionVars false
open En
variable{β:Type}[DecidableEq β]
def runs:List β→List (Nat×β)
  | []=>[]
  | c::l=>match runs l with
    | []=>[(1,c)]
    | (n,d)::r=>if d=c then (n+1,d)::r else (1,c)::(n,d)::r
def flat:List (Nat×β)→List β
  | []=>[]
  | (n,c)::r=>List.replicate n c++flat r
def good:Option β→List (Nat×β)→Prop
  | _,[]=>True
  | last,(n,c)::r=>0<n∧last≠some c∧good (some c) r
theorem KQ(s:List β):(∀last,(∀c,s.head?=some c→last≠some c)→good last (runs s))∧flat (runs s)=s∧(∀c n r,runs s=(n,c)::r→s.head?=some c):=by
 induction s with
 | nil=>simp[runs,good,flat]
 | cons c l ih =>
  obtain⟨h1,h2,h3⟩:=ih;cases hr:runs l with
  | nil =>
   rw[hr]at h2;simp only[runs,hr,good,flat]at h2 ⊢;subst h2;refine⟨fun last h=>⟨by omega,h c rfl,trivial⟩,rfl,?_⟩;intro c' n' r' he; simp only[az3,azA]at he; simp[he.1.2]
  | cons x r =>
   obtain⟨n,d⟩:=x;have hd:=h3 d n r hr;rw[hr]at h2;simp only[runs,hr];simp only[flat]at h2;split
   ·rename_i e;subst e;refine⟨fun last h=>?_,?_,?_⟩
    ·have:=h1 none (by simp);rw[hr]at this;simp only[good]at this ⊢;exact⟨by omega,h d rfl,this.2.2⟩
    ·simp only[flat,aBF,aAP,h2]
    intro c' n' r' he; simp only[az3,azA]at he; simp[he.1.2]
   rename_i e;refine⟨fun last h=>?_,?_,?_⟩
   ·have:=h1 (some c) (by intro c' hc'; rw[hd]at hc'; simp only[azy]at hc' ⊢; exact fun e'=>e (hc'.trans (azF e').symm));rw[hr]at this;simp only[good]at this ⊢;exact⟨by omega,h c rfl,this⟩
   ·simp only[flat,aBF,aBL,aAP,aAv,h2]
   intro c' n' r' he; simp only[az3,azA]at he; simp[he.1.2]
theorem aam(r:List (Nat×β)):∀last,good last r→runs (flat r)=r:=by
 induction r with
 | nil=>intro _ _; rfl
 | cons x r ih =>
  obtain⟨n,c⟩:=x;intro last h;simp only[good]at h;obtain⟨hn,_,hg⟩:=h;have hr:=ih _ hg;simp only[flat];have key:∀k,runs (List.replicate (k+1) c++flat r)=(k+1,c)::r:=by
   intro k;induction k with
   | zero =>
    simp only[aBF,aBL,aAP,aAv,runs,hr];cases r with
    | nil=>rfl
    | cons y r' =>
     obtain⟨m,d⟩:=y;simp only[good]at hg;simp only;rw[azu (fun e=>hg.2.1 (by rw[e]))]
   | succ k ihk =>
    rw[aBF,aAP,runs,ihk];simp
  obtain⟨m,rfl⟩:∃m,n=m+1:=⟨n-1,by omega⟩;exact key m
def Hf(last:Option β):List (Nat×β)→Option β
  | []=>last
  | (_,c)::r=>Hf (some c) r
theorem aan(R:List (Nat×β))(n:Nat)(c:β):∀last,good last (R++[(n,c)])↔good last R∧0<n∧Hf last R≠some c:=by
  induction R with
  | nil=>intro last; simp[good,Hf]
  | cons x R ih => intro last; obtain ⟨m, d⟩ := x; simp only [aAP, good, Hf, ih]; constructor
                   · rintro⟨h1,h2,h3,h4,h5⟩; exact⟨⟨h1,h2,h3⟩,h4,h5⟩
                   · rintro⟨⟨h1,h2,h3⟩,h4,h5⟩; exact⟨h1,h2,h3,h4,h5⟩
theorem QW(R S:List (Nat×β)):flat (R++S)=flat R++flat S:=by
 induction R with
 | nil=>rfl
 | cons x R ih=>obtain⟨m,d⟩:=x; simp[flat,ih]
theorem Vs(R:List (Nat×β))(n:Nat)(c:β):∀last,Hf last (R++[(n,c)])=some c:=by
 induction R with
 | nil=>intro last; rfl
 | cons x R ih=>intro last; obtain⟨m,d⟩:=x; simp[Hf,ih]
theorem agn{s:List β}{R:List (Nat×β)}(hg:good none R)(hf:flat R=s):runs s=R:=by rw[←hf]; exact aam R none hg
theorem CP(s:List β):good none (runs s)∧flat (runs s)=s:=⟨(KQ s).1 none (by simp),(KQ s).2.1⟩
theorem agp{R:List (Nat×β)}:∀x∈R,x.1≤(flat R).length:=by
 induction R with
 | nil=>intro x hx; simp at hx
 | cons y R ih =>
  intro x hx;obtain⟨m,d⟩:=y;rcases azG.1 hx with rfl | hx
  ·simp[flat]
  have:=ih x hx; simp[flat]; omega
def pb(p:bG):List UInt8:=[p.r,p.g,p.b,p.a]
def rb:List (Nat×bG)→List UInt8
  | []=>[]
  | (n,p)::r=>dV 10 n++pb p++rb r
def enc(l:List bG):List UInt8:=rb (runs l)
theorem aao(R S:List (Nat×bG)):rb (R++S)=rb R++rb S:=by
 induction R with
 | nil=>rfl
 | cons x R ih=>obtain⟨m,d⟩:=x; simp[rb,ih]
theorem agq(R:List (Nat×bG))(n:Nat)(p:bG):rb (R++[(n,p)])=rb R++(dV 10 n++pb p):=by rw[aao]; simp[rb]
theorem ajL{R:List (Nat×bG)}:∀{last:Option bG},Px.good last R→(rb R).length≤14*(flat R).length:=by
 induction R with
 | nil=>intro _ _; exact azB _
 | cons z R ih =>
  intro last h;obtain⟨n,p⟩:=z;simp only[Px.good]at h;have:=ih h.2.2;have:=iE 10 n;simp only[rb,pb,flat,azz,aAb,aAH,List.length_replicate];omega
theorem Vt{p q:bG}{x y:List UInt8}(h:pb p++x=pb q++y):p=q∧x=y:=by
 simp only[pb,aAP,aAv,az3]at h;obtain⟨h1,h2,h3,h4,h5⟩:=h;exact⟨by cases p; cases q; simp_all,h5⟩
theorem agr{n m:Nat}{p q:bG}{x y:List UInt8}(hn:n<18446744073709551616)(hm:m<18446744073709551616)(h:dV 10 n++pb p++x=dV 10 m++pb q++y):n=m∧p=q∧x=y:=by
 have h1:=oC n (pb p++x) hn;have h2:=oC m (pb q++y) hm;rw[←azO]at h1 h2;rw[h,h2]at h1;simp only[aBR,azA]at h1;obtain⟨rfl,-⟩:=h1;rw[azO,azO]at h;obtain⟨h3,h4⟩:=Vt (List.append_cancel_left h);exact⟨rfl,h3,h4⟩
def Bd(R:List (Nat×bG)):Prop:=∀x∈R,x.1<18446744073709551616
theorem ads:∀{R S:List (Nat×bG)} {x:List UInt8},Bd R→Bd S→rb R++x=rb S→∃T,S=R++T∧rb T=x
  | [],S,x,_,_,h=>⟨S,rfl,h.symm⟩
  | (n,p)::R,[],x,_,_,h=>by
    have:=azH List.length h
    simp[rb,pb]at this
  | (n,p)::R,(m,q)::S,x,hR,hS,h=>by
    simp only[rb,azO]at h
    obtain⟨rfl,rfl,h3⟩:=agr (hR _ azJ) (hS _ azJ) (by simpa only[azO]using h)
    obtain⟨T,rfl,hT⟩:=ads (fun z hz=>hR z (aAI _ hz)) (fun z hz=>hS z (aAI _ hz)) h3
    exact⟨T,rfl,hT⟩
theorem Yd{R:List (Nat×bG)}(h:(flat R).length<18446744073709551616):Bd R:=fun x hx=>aBM (agp x hx) h
theorem ags{l m:List bG}(hl:l.length<18446744073709551616)(hm:m.length<18446744073709551616)(h:enc l=enc m):l=m:=by
 have h1:=CP l;have h2:=CP m;obtain⟨T,hT,hx⟩:=ads (R:=runs l) (S:=runs m) (x:=[]) (Yd (by rw[h1.2]; exact hl)) (Yd (by rw[h2.2]; exact hm)) (by rw[aAA]; exact h);have hT0:T=[]:=by
  cases T with
  | nil=>rfl
  | cons z T=>obtain⟨n,p⟩:=z; have:=azH List.length hx; simp[rb,pb]at this
 rw[←h1.2,←h2.2,hT,hT0,aAA]
structure A8 (L:List bG) (i:Nat) (R:List (Nat×bG)):Prop where
  good:good none R
  flat:flat R=L.take i
  le:i≤L.length
  nxt:∀h:i<L.length,Hf none R≠some L[i]
theorem A8.zero(L:List bG):A8 L 0 []:=⟨trivial,rfl,azB _,fun _ h=>by cases h⟩
theorem A8.step{L:List bG}{i k:Nat}{R:List (Nat×bG)}{p:bG}(h:A8 L i R)(hi:i<L.length)(hp:L[i]=p)(hk:i<k)(hkl:k≤L.length)(hall:∀(j:Nat) (hj:j<L.length),i≤j→j<k→L[j]=p)(hend:∀h:k<L.length,L[k]≠p):A8 L k (R++[(k-i,p)]):=by
 subst hp;refine⟨(aan R _ _ none).2 ⟨h.good,by omega,h.nxt hi⟩,?_,hkl,fun hkk=>?_⟩
 ·rw[QW,h.flat];have e:L.take k=L.take i++(L.drop i).take (k-i):=by rw[←List.take_add]; congr 1; omega
  rw[e];congr 1;simp only[Px.flat,aAA];symm;refine List.eq_replicate_iff.2 ⟨by simp; omega,fun x hx=>?_⟩;obtain⟨j,hj,rfl⟩:=List.getElem_of_mem hx;simp only[aAZ,aBt]at hj;rw[aB8,List.getElem_drop];exact hall (i+j) (by omega) (by omega) (by omega)
 rw[Vs];exact fun e=>hend hkk (azF e).symm
theorem A8.done{L:List bG}{i:Nat}{R:List (Nat×bG)}(h:A8 L i R)(hi:L.length≤i):rb R=enc L:=by
 have h2:=h.flat;rw[aAh hi]at h2;unfold enc;rw[agn h.good h2]
end Px
end Go.Proofs.YtodpgjjgaddkeaaGreatDoor
end
