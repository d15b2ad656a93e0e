/- Run-length coding of pixels: plain mathematics. No program in sight. -/
import Derived.Test.YtiafijffnejhoaaGreatDoorPk24
import Derived.Test.YtiafijffnejhoaaGreatDoorData
namespace Go.Proofs.YtiafijffnejhoaaGreatDoor
namespace Px
set_option linter.unusedVariables false
set_option linter.unusedSectionVars false
open En
variable{β:Type}[DecidableEq β]
def runs:List β→List (Nat×β)
  | []=>[]
  | c::l=>match runs l with
    | []=>[(1,c)]
    | (n,d)::r=>if d=c then (n+1,d)::r else (1,c)::(n,d)::r
def flat:List (Nat×β)→List β
  | []=>[]
  | (n,c)::r=>List.replicate n c++flat r
def good:Option β→List (Nat×β)→Prop
  | _,[]=>True
  | last,(n,c)::r=>0<n∧last≠some c∧good (some c) r
theorem pO(s:List β):(∀last,(∀c,s.head?=some c→last≠some c)→good last (runs s))∧flat (runs s)=s∧(∀c n r,runs s=(n,c)::r→s.head?=some c):=by
 induction s with
 | nil=>simp[runs,good,flat]
 | cons c l ih =>
  obtain⟨h1,h2,h3⟩:=ih;cases hr:runs l with
  | nil =>
   rw[hr]at h2;simp only[runs,hr,good,flat]at h2 ⊢;subst h2;refine⟨fun last h=>⟨by omega,h c rfl,trivial⟩,rfl,?_⟩;intro c' n' r' he; simp only[ahA,ahg]at he; simp[he.1.2]
  | cons x r =>
   obtain⟨n,d⟩:=x;have hd:=h3 d n r hr;rw[hr]at h2;simp only[runs,hr];simp only[flat]at h2;split
   ·rename_i e;subst e;refine⟨fun last h=>?_,?_,?_⟩
    ·have:=h1 none (by simp);rw[hr]at this;simp only[good]at this ⊢;exact⟨by omega,h d rfl,this.2.2⟩
    ·simp only[flat,ais,ahO,h2]
    intro c' n' r' he; simp only[ahA,ahg]at he; simp[he.1.2]
   rename_i e;refine⟨fun last h=>?_,?_,?_⟩
   ·have:=h1 (some c) (by intro c' hc'; rw[hd]at hc'; simp only[ahd]at hc' ⊢; exact fun e'=>e (hc'.trans (ahl e').symm));rw[hr]at this;simp only[good]at this ⊢;exact⟨by omega,h c rfl,this⟩
   ·simp only[flat,ais,ai0,ahO,aib,h2]
   intro c' n' r' he; simp only[ahA,ahg]at he; simp[he.1.2]
theorem tJ(r:List (Nat×β)):∀last,good last r→runs (flat r)=r:=by
 induction r with
 | nil=>intro _ _; rfl
 | cons x r ih =>
  obtain⟨n,c⟩:=x;intro last h;simp only[good]at h;obtain⟨hn,_,hg⟩:=h;have hr:=ih _ hg;simp only[flat];have key:∀k,runs (List.replicate (k+1) c++flat r)=(k+1,c)::r:=by
   intro k;induction k with
   | zero =>
    simp only[ais,ai0,ahO,aib,runs,hr];cases r with
    | nil=>rfl
    | cons y r' =>
     obtain⟨m,d⟩:=y;simp only[good]at hg;simp only;rw[ahe (fun e=>hg.2.1 (by rw[e]))]
   | succ k ihk =>
    rw[ais,ahO,runs,ihk];simp
  obtain⟨m,rfl⟩:∃m,n=m+1:=⟨n-1,by omega⟩;exact key m
def jw(last:Option β):List (Nat×β)→Option β
  | []=>last
  | (_,c)::r=>jw (some c) r
theorem tK(R:List (Nat×β))(n:Nat)(c:β):∀last,good last (R++[(n,c)])↔good last R∧0<n∧jw last R≠some c:=by
  induction R with
  | nil=>intro last; simp[good,jw]
  | cons x R ih => intro last; obtain ⟨m, d⟩ := x; simp only [ahO, good, jw, ih]; constructor
                   · rintro⟨h1,h2,h3,h4,h5⟩; exact⟨⟨h1,h2,h3⟩,h4,h5⟩
                   · rintro⟨⟨h1,h2,h3⟩,h4,h5⟩; exact⟨h1,h2,h3,h4,h5⟩
theorem gV(R S:List (Nat×β)):flat (R++S)=flat R++flat S:=by
 induction R with
 | nil=>rfl
 | cons x R ih=>obtain⟨m,d⟩:=x; simp[flat,ih]
theorem Az(R:List (Nat×β))(n:Nat)(c:β):∀last,jw last (R++[(n,c)])=some c:=by
 induction R with
 | nil=>intro last; rfl
 | cons x R ih=>intro last; obtain⟨m,d⟩:=x; simp[jw,ih]
theorem Nj{s:List β}{R:List (Nat×β)}(hg:good none R)(hf:flat R=s):runs s=R:=by rw[←hf]; exact tJ R none hg
theorem jZ(s:List β):good none (runs s)∧flat (runs s)=s:=⟨(pO s).1 none (by simp),(pO s).2.1⟩
theorem Nk{R:List (Nat×β)}:∀x∈R,x.1≤(flat R).length:=by
 induction R with
 | nil=>intro x hx; simp at hx
 | cons y R ih =>
  intro x hx;obtain⟨m,d⟩:=y;rcases ahw.1 hx with rfl | hx
  ·simp[flat]
  have:=ih x hx; simp[flat]; omega
def pb(p:aO):List UInt8:=[p.r,p.g,p.b,p.a]
def rb:List (Nat×aO)→List UInt8
  | []=>[]
  | (n,p)::r=>dF 10 n++pb p++rb r
def enc(l:List aO):List UInt8:=rb (runs l)
theorem DF(R S:List (Nat×aO)):rb (R++S)=rb R++rb S:=by
 induction R with
 | nil=>rfl
 | cons x R ih=>obtain⟨m,d⟩:=x; simp[rb,ih]
theorem Nl(R:List (Nat×aO))(n:Nat)(p:aO):rb (R++[(n,p)])=rb R++(dF 10 n++pb p):=by rw[DF]; simp[rb]
theorem TG{R:List (Nat×aO)}:∀{last:Option aO},Px.good last R→(rb R).length≤14*(flat R).length:=by
 induction R with
 | nil=>intro _ _; exact ahk _
 | cons z R ih =>
  intro last h;obtain⟨n,p⟩:=z;simp only[Px.good]at h;have:=ih h.2.2;have:=sF 10 n;simp only[rb,pb,flat,ahP,ahL,List.length_nil,ai1];omega
theorem TJ{p q:aO}{x y:List UInt8}(h:pb p++x=pb q++y):p=q∧x=y:=by
 simp only[pb,ahO,aib,ahA]at h;obtain⟨h1,h2,h3,h4,h5⟩:=h;exact⟨by cases p; cases q; simp_all,h5⟩
theorem Xf{n m:Nat}{p q:aO}{x y:List UInt8}(hn:n<18446744073709551616)(hm:m<18446744073709551616)(h:dF 10 n++pb p++x=dF 10 m++pb q++y):n=m∧p=q∧x=y:=by
 have h1:=pR n (pb p++x) hn;have h2:=pR m (pb q++y) hm;rw[←aik]at h1 h2;rw[h,h2]at h1;simp only[Except.ok.injEq,ahg]at h1;obtain⟨rfl,-⟩:=h1;rw[aik,aik]at h;obtain⟨h3,h4⟩:=TJ (List.append_cancel_left h);exact⟨rfl,h3,h4⟩
def Bd(R:List (Nat×aO)):Prop:=∀x∈R,x.1<18446744073709551616
theorem Kt:∀{R S:List (Nat×aO)} {x:List UInt8},Bd R→Bd S→rb R++x=rb S→∃T,S=R++T∧rb T=x
  | [],S,x,_,_,h=>⟨S,rfl,h.symm⟩
  | (n,p)::R,[],x,_,_,h=>by
    have:=ahm List.length h
    simp[rb,pb]at this
  | (n,p)::R,(m,q)::S,x,hR,hS,h=>by
    simp only[rb,aik]at h
    obtain⟨rfl,rfl,h3⟩:=Xf (hR _ ahZ) (hS _ ahZ) (by simpa only[aik]using h)
    obtain⟨T,rfl,hT⟩:=Kt (fun z hz=>hR z (aiH _ hz)) (fun z hz=>hS z (aiH _ hz)) h3
    exact⟨T,rfl,hT⟩
theorem zo{R:List (Nat×aO)}(h:(flat R).length<18446744073709551616):Bd R:=fun x hx=>aiO (Nk x hx) h
theorem EN{l m:List aO}(hl:l.length<18446744073709551616)(hm:m.length<18446744073709551616)(h:enc l=enc m):l=m:=by
 have h1:=jZ l;have h2:=jZ m;obtain⟨T,hT,hx⟩:=Kt (R:=runs l) (S:=runs m) (x:=[]) (zo (by rw[h1.2]; exact hl)) (zo (by rw[h2.2]; exact hm)) (by rw[aix]; exact h);have hT0:T=[]:=by
  cases T with
  | nil=>rfl
  | cons z T=>obtain⟨n,p⟩:=z; have:=ahm List.length hx; simp[rb,pb]at this
 rw[←h1.2,←h2.2,hT,hT0,aix]
def kV(b:List UInt8)(n:Nat)(l:List aO):Prop:=enc l=b∧l.length=n
theorem kV.one{b:List UInt8}{n:Nat}{l m:List aO}(hn:n<18446744073709551616)(h:kV b n l)(h':kV b n m):l=m:=EN (by rw[h.2]; exact hn) (by rw[h'.2]; exact hn) (h.1.trans h'.1.symm)
structure At (b:List UInt8) (n p:Nat) (R:List (Nat×aO)):Prop where
  good:good none R
  len:(flat R).length≤n
  pre:rb R=b.take p
  le:p≤b.length
theorem At.zero(b:List UInt8)(n:Nat):At b n 0 []:=⟨trivial,ahk _,rfl,ahk _⟩
theorem At.rest{b:List UInt8}{n p:Nat}{R:List (Nat×aO)}(h:At b n p R):rb R++b.drop p=b:=by rw[h.pre,ait]
theorem At.tail{b:List UInt8}{n p:Nat}{R:List (Nat×aO)}{l:List aO}(h:At b n p R)(hn:n<18446744073709551616)(hd:kV b n l):∃T,runs l=R++T∧rb T=b.drop p:=by
 have h2:=jZ l;exact Kt (zo (aiO h.len hn)) (zo (by rw[h2.2,hd.2]; exact hn)) (by rw[h.rest]; exact hd.1.symm)
theorem At.done{b:List UInt8}{n p:Nat}{R:List (Nat×aO)}(h:At b n p R)(hp:b.length≤p)(hn:(flat R).length=n):kV b n (flat R):=by
 refine⟨?_,hn⟩;unfold enc;rw[tJ R none h.good,h.pre,ahV hp]
theorem At.short{b:List UInt8}{n p:Nat}{R:List (Nat×aO)}{l:List aO}(h:At b n p R)(hn:n<18446744073709551616)(hp:b.length≤p)(hne:(flat R).length≠n)(hd:kV b n l):False:=by
 obtain⟨T,hT,hx⟩:=h.tail hn hd;rw[aic hp]at hx;have hT0:T=[]:=by
  cases T with
  | nil=>rfl
  | cons z T=>obtain⟨n,p⟩:=z; have:=ahm List.length hx; simp[rb,pb]at this
 have h2:=jZ l;rw[hT,hT0,aix]at h2;exact hne (by rw[h2.2,hd.2])
theorem At.next{b:List UInt8}{n p:Nat}{R:List (Nat×aO)}{l:List aO}(h:At b n p R)(hn:n<18446744073709551616)(hp:p<b.length)(hd:kV b n l) :
    ∃k q T,b.drop p=dF 10 k++pb q++T∧0<k∧(flat R).length+k≤n∧jw none R≠some q∧k<18446744073709551616:=by
 obtain⟨T,hT,hx⟩:=h.tail hn hd;have h2:=jZ l;cases T with
 | nil =>
  have:=ahm List.length hx;simp[rb]at this;omega
 | cons z T =>
  obtain⟨k,q⟩:=z;have hg:Px.good none (R++[(k,q)]++T):=by rw[aik]; rw[←show runs l=R++([(k,q)]++T)from hT]; exact h2.1
  have hl:(flat (R++[(k,q)])).length≤n:=by
   have:=ahm List.length h2.2;rw[hT,show R++(k,q)::T=R++[(k,q)]++T by simp,gV,ahP,hd.2]at this;omega
  have hg2:∀{A B:List (Nat×aO)} {last:Option aO},Px.good last (A++B)→Px.good last A:=fun{A}=>by
   induction A with
   | nil=>intro B last _; trivial
   | cons z A ih=>intro B last hz; obtain⟨m,d⟩:=z; simp only[ahO,Px.good]at hz ⊢; exact⟨hz.1,hz.2.1,ih hz.2.2⟩
  have hs:=(tK R k q none).1 (hg2 hg);rw[gV,ahP]at hl;simp only[flat,aix,ai1]at hl;exact⟨k,q,rb T,by rw[←hx]; rfl,hs.2.1,hl,hs.2.2,by omega⟩
theorem At.step{b:List UInt8}{n p k c:Nat}{R:List (Nat×aO)}{q:aO}(h:At b n p R)(hu:ji 9 (b.drop p) = .ok (k,c))(h1:1≤k)(hk:(flat R).length+k≤n)(hq:pb q=(b.drop (p+c)).take 4)(h4:p+c+4≤b.length)(hl:jw none R≠some q):At b n (p+c+4) (R++[(k,q)]):=by
 obtain⟨-,-,hc,-,hb⟩:=zf hu;refine⟨(tK R k q none).2 ⟨h.good,h1,hl⟩,?_,?_,h4⟩
 ·rw[gV,ahP]; simp only[flat,aix,ai1]; exact hk
 rw[DF,h.pre];simp only[rb,aix];rw[hb,hq,show p+c+4=p+(c+4) by omega,List.take_add,List.take_add,aiQ]
theorem aau{T:List (Nat×aO)}(h:rb T=[]):T=[]:=by
 cases T with
 | nil=>rfl
 | cons z T=>obtain⟨n,p⟩:=z; have:=ahm List.length h; simp[rb,pb]at this
def VG(b:List UInt8)(n p:Nat)(out:List aO)(bad:Bool):Prop:=∀l,kV b n l→bad=false∧∃R T,runs l=R++T∧rb T=b.drop p∧out=flat R
theorem VG.zero(b:List UInt8)(n:Nat):VG b n 0 [] false:=fun l h=>⟨rfl,[],runs l,rfl,h.1,rfl⟩
theorem VG.none_left{b:List UInt8}{n p:Nat}{out:List aO}{bad:Bool}(h:VG b n p out bad)(he:bad=true∨(b.length≤p∧(out.length≠n∨enc out≠b))):∀l,¬kV b n l:=fun l hl=>by
 obtain⟨h1,R,T,h2,h3,h4⟩:=h l hl;rcases he with he | ⟨hp,he⟩
 ·rw[h1]at he; cases he
 rw[aic hp]at h3;rw[aau h3,aix]at h2;have h5:=(jZ l).2;rw[h2,←h4]at h5;subst h5;rcases he with he | he
 ·exact he hl.2
 exact he hl.1
theorem VG.next{b:List UInt8}{n p:Nat}{out:List aO}{bad:Bool}(h:VG b n p out bad)(hn:n<18446744073709551616)(hp:p<b.length){l:List aO}(hl:kV b n l) :
    ∃k q c R T,ji 9 (b.drop p) = .ok (k,c)∧(b.drop (p+c)).take 4=pb q∧p+c+4≤b.length∧out.length+k≤n∧out=flat R∧runs l=(R++[(k,q)])++T∧rb T=b.drop (p+c+4)∧bad=false:=by
 obtain⟨h1,R,T,h2,h3,h4⟩:=h l hl;have h5:=(jZ l).2;cases T with
 | nil =>
  have:=ahm List.length h3;simp[rb]at this;omega
 | cons z T =>
  obtain⟨k,q⟩:=z;have hlen:out.length+k≤n:=by
   have:=ahm List.length h5;rw[h2,gV,ahP,←h4,hl.2]at this;simp only[flat,ahP,ai1]at this;omega
  have hu:=pR k (pb q++rb T) (by omega);have he:dF 10 k++(pb q++rb T)=b.drop p:=by rw[←h3]; simp[rb]
  rw[he]at hu;have hd:(b.drop (p+(dF 10 k).length))=pb q++rb T:=by rw[←aiQ,←he,List.drop_left]
  have hL:p+(dF 10 k).length+4≤b.length:=by
   have h6:=ahm List.length hd;simp[pb]at h6;omega
  refine⟨k,q,_,R,T,hu,?_,hL,hlen,h4,by rw[h2]; simp,?_,h1⟩
  ·rw[hd]; rfl
  rw[←aiQ,hd]; rfl
structure sG (L:List aO) (i:Nat) (R:List (Nat×aO)):Prop where
  good:good none R
  flat:flat R=L.take i
  le:i≤L.length
  nxt:∀h:i<L.length,jw none R≠some L[i]
theorem sG.zero(L:List aO):sG L 0 []:=⟨trivial,rfl,ahk _,fun _ h=>by cases h⟩
theorem sG.step{L:List aO}{i k:Nat}{R:List (Nat×aO)}{p:aO}(h:sG L i R)(hi:i<L.length)(hp:L[i]=p)(hk:i<k)(hkl:k≤L.length)(hall:∀(j:Nat) (hj:j<L.length),i≤j→j<k→L[j]=p)(hend:∀h:k<L.length,L[k]≠p):sG L k (R++[(k-i,p)]):=by
 subst hp;refine⟨(tK R _ _ none).2 ⟨h.good,by omega,h.nxt hi⟩,?_,hkl,fun hkk=>?_⟩
 ·rw[gV,h.flat];have e:L.take k=L.take i++(L.drop i).take (k-i):=by rw[←List.take_add]; congr 1; omega
  rw[e];congr 1;simp only[Px.flat,aix];symm;refine List.eq_replicate_iff.2 ⟨by simp; omega,fun x hx=>?_⟩;obtain⟨j,hj,rfl⟩:=List.getElem_of_mem hx;simp only[aiS,List.length_drop]at hj;rw[List.getElem_take,ajj];exact hall (i+j) (by omega) (by omega) (by omega)
 rw[Az];exact fun e=>hend hkk (ahl e).symm
theorem sG.done{L:List aO}{i:Nat}{R:List (Nat×aO)}(h:sG L i R)(hi:L.length≤i):rb R=enc L:=by
 have h2:=h.flat;rw[ahV hi]at h2;unfold enc;rw[Nj h.good h2]
theorem wS(k:Nat)(q:aO):flat [(k,q)]=List.replicate k q:=by simp[flat]
end Px
end Go.Proofs.YtiafijffnejhoaaGreatDoor
