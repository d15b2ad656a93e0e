/- Natural numbers as lists of digits in base 2^32, least -/
import Derived.Lib.Hide
namespace Na
def B:Nat:=4294967296
theorem jV:0<B:=by decide
theorem NK:1<B:=by decide
def val:List UInt32→Nat
 | []=>0
 | d::l=>d.toNat+B*val l
def norm(l:List UInt32):Prop:=l.getLast?≠some 0
def lg:Nat→Nat→List UInt32
 | 0,_=>[]
 | f+1,n=>if n=0 then []else UInt32.ofNat n::lg f (n/B)
def aj(n:Nat):List UInt32:=lg n n
theorem val_append(l m:List UInt32):val (l++m)=val l+B^l.length*val m:=by
 induction l with
 | nil=>simp[val]
 | cons d l ih=>simp only[List.cons_append,val,ih,List.length_cons,Nat.pow_succ,Nat.mul_add]; rw[Nat.mul_comm (B^l.length) B,Nat.mul_assoc]; omega
theorem fB(l:List UInt32):val l<B^l.length:=by
 induction l with
 | nil=>simp[val]
 | cons d l ih =>
  have hd:d.toNat<B:=d.toNat_lt;simp only[val,List.length_cons,Nat.pow_succ];have:B*val l+B≤B^l.length*B:=by
   rw[Nat.mul_comm (B^l.length)]; rw[←Nat.mul_succ]; exact Nat.mul_le_mul_left _ ih
  omega
theorem Jj(n:Nat):val (List.replicate n 0)=0:=by
 induction n with
 | zero=>rfl
 | succ n ih=>simp[List.replicate_succ,val,ih]
theorem uG(f:Nat):∀n,n≤f→val (lg f n)=n:=by
 induction f with
 | zero=>intro n h; simp[lg,val]; omega
 | succ f ih =>
  intro n h;unfold lg;split
  ·rename_i h0; subst h0; rfl
  rename_i h0;have hlt:n/B<n:=Nat.div_lt_self (by omega) NK;simp only[val];rw[ih (n/B) (by omega)];have:(UInt32.ofNat n).toNat=n%B:=by simp[B]
  rw[this];exact Nat.mod_add_div n B
theorem aJ(n:Nat):val (aj n)=n:=uG n n (Nat.le_refl _)
theorem zI(f:Nat):∀n,n≤f→norm (lg f n):=by
 induction f with
 | zero=>intro n _; simp[lg,norm]
 | succ f ih =>
  intro n h;unfold lg;split
  ·simp[norm]
  rename_i h0;have hlt:n/B<n:=Nat.div_lt_self (by omega) NK;have hn:=ih (n/B) (by omega);have hv:=uG f (n/B) (by omega);unfold norm at hn ⊢;generalize lg f (n/B)=l at hn hv;cases l with
  | nil =>
   simp only[List.getLast?_singleton];intro he;have h1:=congrArg UInt32.toNat (Option.some.inj he);have h2:(UInt32.ofNat n).toNat=n%B:=by simp[B]
   rw[h2]at h1;simp[val]at hv;have:=Nat.mod_add_div n B;rw[←hv]at this;simp at h1;omega
  | cons a l=>simpa[List.getLast?_cons_cons]using hn
theorem gY(n:Nat):norm (aj n):=zI n n (Nat.le_refl _)
theorem lQ{d:UInt32}{l:List UInt32}(h:norm (d::l)):norm l:=by
 cases l with
 | nil=>simp[norm]
 | cons a l=>unfold norm at h ⊢; simpa[List.getLast?_cons_cons]using h
theorem val_eq_zero{l:List UInt32}(h:norm l)(h0:val l=0):l=[]:=by
 induction l with
 | nil=>rfl
 | cons d l ih =>
  simp only[val]at h0;have hl:val l=0:=by
   rcases Nat.eq_zero_or_pos (val l)with e | e
   ·exact e
   have:0<B*val l:=Nat.mul_pos jV e;omega
  have:=ih (lQ h) hl;subst this;have hd:d=0:=UInt32.toNat_inj.1 (by simp; omega);subst hd;exact(h rfl).elim
theorem Fg{l:List UInt32}:∀{m:List UInt32},norm l→norm m→val l=val m→l=m:=by
 induction l with
 | nil=>intro m _ hm h; exact(val_eq_zero hm h.symm).symm
 | cons d l ih =>
  intro m hl hm h;cases m with
  | nil=>exact val_eq_zero hl h
  | cons e m =>
   simp only[val]at h;have hd:d.toNat<B:=d.toNat_lt;have he:e.toNat<B:=e.toNat_lt;have h1:d.toNat=e.toNat:=by
    have:=congrArg (· % B) h;simpa[Nat.mod_eq_of_lt hd,Nat.mod_eq_of_lt he]using this
   have h2:val l=val m:=by
    have:B*val l=B*val m:=by omega
    exact Nat.eq_of_mul_eq_mul_left jV this
   rw[UInt32.toNat_inj.1 h1,ih (lQ hl) (lQ hm) h2]
theorem Fh{l:List UInt32}(h:norm l):aj (val l)=l:=Fg (gY _) h (aJ _)
theorem rH:aj 0=[]:=rfl
theorem lq{n:Nat}:aj n=[]↔n=0:=by
 constructor
 ·intro h; have:=aJ n; rw[h]at this; simpa[val]using this.symm
 intro h; rw[h]; rfl
theorem vI{l:List UInt32}(h:0<l.length)(hn:l[l.length-1]≠0):norm l:=by
 unfold norm;rw[List.getLast?_eq_getElem?,List.getElem?_eq_getElem (by omega)];simpa using hn
theorem vJ{l:List UInt32}(h:norm l)(hp:0<l.length):l[l.length-1]≠0:=by
 unfold norm at h;rw[List.getLast?_eq_getElem?,List.getElem?_eq_getElem (by omega)]at h;simpa using h
theorem CU{l:List UInt32}(h:norm l)(hp:0<l.length):B^(l.length-1)≤val l:=by
 induction l with
 | nil=>simp at hp
 | cons d l ih =>
  cases l with
  | nil =>
   have:=vJ h (by simp);simp only[val,List.length_cons,List.length_nil];have hd:d.toNat≠0:=fun e=>this (UInt32.toNat_inj.1 (by simpa using e));simp; omega
  | cons a m =>
   have:=ih (lQ h) (by simp);simp only[List.length_cons,Nat.add_sub_cancel]at this ⊢;have e:val (d::a::m)=d.toNat+B*val (a::m):=rfl;rw[e,Nat.pow_succ];have:=Nat.mul_le_mul_left B this;rw[Nat.mul_comm]at this;omega
theorem length_le{l:List UInt32}{k:Nat}(h:norm l)(hv:val l<B^k):l.length≤k:=by
 rcases Nat.lt_or_ge k l.length with hk | hk
 ·have h1:=CU h (by omega);have h2:B^k≤B^(l.length-1):=Nat.pow_le_pow_right jV (by omega);omega
 exact hk
theorem dD{n k:Nat}(h:n<B^k):(aj n).length≤k:=length_le (gY n) (by rw[aJ]; exact h)
theorem gB(l:List UInt32)(k:Nat)(hk:k≤l.length):val l=val (l.take k)+B^k*val (l.drop k):=by
 conv=>lhs; rw[←List.take_append_drop k l]
 rw[val_append]; simp[Nat.min_eq_left hk]
theorem jo(l:List UInt32)(d:UInt32):val (l++[d])=val l+B^l.length*d.toNat:=by
 rw[val_append]; simp[val]
theorem bU(l:List UInt32)(k:Nat)(h:k<l.length):val (l.take (k+1))=val (l.take k)+B^k*l[k].toNat:=by
 rw[List.take_succ_eq_append_getElem h,jo]; simp[Nat.min_eq_left (Nat.le_of_lt h)]
theorem oH(l:List UInt32)(k:Nat)(h:k<l.length):val (l.drop k)=l[k].toNat+B*val (l.drop (k+1)):=by
 rw[List.drop_eq_getElem_cons h]; rfl
theorem ku{l:List UInt32}{n:Nat}(hn:n≤l.length)(hv:val (l.take n)=val l)(h:n=0∨∃h:n-1<l.length,l[n-1]≠0):aj (val l)=l.take n:=by
 rw[←hv];apply Fh;rcases h with rfl | ⟨h1,h2⟩
 ·simp[norm]
 rcases Nat.eq_zero_or_pos n with rfl | hp
 ·simp[norm]
 have hl:(l.take n).length=n:=by simp[Nat.min_eq_left hn]
 apply vI (by omega);simp only[hl];rw[List.getElem_take];exact h2
end Na
namespace Na
def shr(p:Nat):List UInt32→List UInt32
 | []=>[]
 | d::l=>UInt32.ofNat ((d.toNat+B*(l.headD 0).toNat)/2^p)::shr p l
theorem zJ(p:Nat)(l:List UInt32):(shr p l).length=l.length:=by
 induction l with
 | nil=>rfl
 | cons d l ih=>simp[shr,ih]
theorem Uc(p:Nat)(l:List UInt32):∀(i:Nat) (h:i<l.length),(shr p l)[i]'(by rw[zJ]; exact h)=UInt32.ofNat (((l.getD i 0).toNat+B*(l.getD (i+1) 0).toNat)/2^p):=by
 induction l with
 | nil=>intro i h; simp at h
 | cons d l ih =>
  intro i h;cases i with
  | zero=>cases l<;>simp[shr]
  | succ i =>
   have:=ih i (by simpa using h);simp only[shr,List.getElem_cons_succ,List.getD_cons_succ];exact this
theorem Jk(p:Nat)(h:p≤32):B=2^p*2^(32-p):=by
 rw[←Nat.pow_add,show p+(32-p)=32 by omega]; rfl
theorem ofNat_toNat(n:Nat):(UInt32.ofNat n).toNat=n%B:=by simp[B]
theorem Ud(p:Nat)(h:p≤32)(l:List UInt32):val (shr p l)=val l/2^p:=by
 induction l with
 | nil=>simp[shr,val]
 | cons d l ih =>
  simp only[shr,val,ih,ofNat_toNat];have h2:0<2^p:=Nat.two_pow_pos p;cases l with
  | nil =>
   simp only[List.headD_nil,val];have hd:d.toNat<B:=d.toNat_lt;have:d.toNat/2^p<B:=Nat.lt_of_le_of_lt (Nat.div_le_self _ _) hd;simp[Nat.mod_eq_of_lt this]
  | cons e m =>
   simp only[List.headD_cons,val];generalize val m=V;have hD:d.toNat<B:=d.toNat_lt;generalize d.toNat=D at hD;generalize e.toNat=E;obtain⟨c,hc⟩:∃c,B=2^p*c:=⟨_,Jk p h⟩;have e0:B*V=2^p*(c*V):=by rw[←Nat.mul_assoc,←hc]
   have e1:D+B*(E+B*V)=(D+B*E)+2^p*(B*(c*V)):=by
    rw[Nat.mul_add,e0,Nat.mul_left_comm B (2^p),Nat.add_assoc]
   rw[e1,e0,Nat.add_mul_div_left _ _ h2,Nat.add_mul_div_left _ _ h2,Nat.mul_add,←Nat.add_assoc];congr 1;have e3:(D+B*E)/2^p/B=E/2^p:=by
    rw[Nat.div_div_eq_div_mul,Nat.mul_comm (2^p) B,←Nat.div_div_eq_div_mul];rw[Nat.add_mul_div_left _ _ jV,Nat.div_eq_of_lt hD,Nat.zero_add]
   have:=Nat.mod_add_div ((D+B*E)/2^p) B;rw[e3]at this;exact this
end Na
namespace Na
theorem VX{m P V L D0 D1 D2 M V0 V1 q:Nat}(hP:P=L+B^m*(D0+B*D1+B*B*D2))(hL:L<B^m)(hV:V=M+B^m*(V0+B*V1))(hM:M<B^m)
  (hV1:0<V1) (hD0:D0<B) (hq:q<B) (hPV:P<B*V) (h1:q*(V1*B+V0)≤(D2*B+D1)*B+D0)
  (h2:q=(D2*B+D1)/V1∨B≤q+1∨(D2*B+D1)*B+D0<(q+1)*(V1*B+V0)):P/V≤q∧q≤P/V+1:=by
 have hE:0<B^m:=Nat.pow_pos jV;generalize B^m=E at *;have hT:D0+B*D1+B*B*D2=(D2*B+D1)*B+D0:=by
  rw[Nat.add_mul,Nat.mul_comm D1 B,Nat.mul_assoc D2,Nat.mul_comm D2]; omega
 have hW:V0+B*V1=V1*B+V0:=by rw[Nat.mul_comm B]; omega
 rw[hT]at hP;rw[hW]at hV;have hVp:0<V:=by
  have:0<E*(V1*B+V0):=Nat.mul_pos hE (by have:=Nat.mul_pos hV1 jV; omega);omega
 constructor
 ·
  rcases h2 with h | h | h
  ·
   have hle:P/V*V≤P:=Nat.div_mul_le_self P V;rw[h];rw[Nat.le_div_iff_mul_le hV1];generalize P/V=c at hle;generalize D2*B+D1=T at *;have e1:c*V=c*M+E*(c*V1*B)+E*(c*V0):=by
    rw[hV,Nat.mul_add,Nat.mul_add E,Nat.mul_add c,Nat.mul_left_comm c E,Nat.mul_left_comm c E,←Nat.mul_assoc c V1 B]; omega
   have hlt:P<E*((T+1)*B):=by
    have:E*(T*B+D0)+E≤E*((T+1)*B):=by
     rw[←Nat.mul_succ]; exact Nat.mul_le_mul_left _ (by rw[Nat.add_mul]; omega)
    omega
   have h3:E*(c*V1*B)<E*((T+1)*B):=by omega
   have h4:=Nat.lt_of_mul_lt_mul_left h3;have h5:=Nat.lt_of_mul_lt_mul_right h4;omega
  ·have:P/V<B:=Nat.div_lt_of_lt_mul (by rw[Nat.mul_comm]; exact hPV);omega
  have h3:P<(q+1)*V:=by
   have h4:E*((D2*B+D1)*B+D0)+E≤E*((q+1)*(V1*B+V0)):=by
    rw[←Nat.mul_succ]; exact Nat.mul_le_mul_left _ h
   have h5:(q+1)*V=(q+1)*M+E*((q+1)*(V1*B+V0)):=by rw[hV,Nat.mul_add,Nat.mul_left_comm]
   generalize (q+1)*V=x1 at *;generalize (q+1)*M=x2 at *;generalize E*((q+1)*(V1*B+V0))=x3 at *;generalize E*((D2*B+D1)*B+D0)=x4 at *;omega
  exact Nat.le_of_lt_succ ((Nat.div_lt_iff_lt_mul hVp).2 h3)
 
 rcases Nat.eq_zero_or_pos q with rfl | hq0
 ·exact Nat.zero_le _
 obtain⟨c,rfl⟩:∃c,q=c+1:=⟨q-1,by omega⟩;have h3:c*V≤P:=by
  have h4:E*((c+1)*(V1*B+V0))≤E*((D2*B+D1)*B+D0):=Nat.mul_le_mul_left _ h1;have h5:(c+1)*V=(c+1)*M+E*((c+1)*(V1*B+V0)):=by rw[hV,Nat.mul_add,Nat.mul_left_comm]
  have h6:(c+1)*M≤B*E:=Nat.mul_le_mul (Nat.le_of_lt hq) (Nat.le_of_lt hM);have h7:B*E≤V:=by
   rw[hV];have:E*(1*B)≤E*(V1*B+V0):=Nat.mul_le_mul_left _ (by have:=Nat.mul_le_mul_right B hV1; omega);rw[Nat.one_mul,Nat.mul_comm]at this; omega
  rw[Nat.succ_mul c V]at h5;generalize c*V=x0 at *;generalize (c+1)*M=x2 at *;generalize E*((c+1)*(V1*B+V0))=x3 at *;generalize E*((D2*B+D1)*B+D0)=x4 at *;generalize B*E=x5 at *;omega
 exact Nat.succ_le_succ ((Nat.le_div_iff_mul_le hVp).2 h3)
theorem YZ{P V q x E:Nat}(neg:Bool)(hVp:0<V)(h1:P/V≤q)(h2:q≤P/V+1)(hx:x<E)(h:P+(if neg then E else 0)=x+q*V) :
  (neg=false→x=P%V∧q=P/V)∧(neg=true→1≤q∧q-1=P/V∧x+V=E+P%V):=by
 have hm:=Nat.mod_add_div P V;have hl:=Nat.mod_lt P hVp;rcases(show q=P/V∨q=P/V+1 from by
  rcases Nat.lt_or_ge (P/V) q with h | h
  ·exact .inr (Nat.le_antisymm h2 h)
  exact .inl (Nat.le_antisymm h h1))with rfl | rfl
 ·rw[Nat.mul_comm (P/V) V]at h;refine⟨fun hn=>?_,fun hn=>?_⟩
  ·subst hn;simp only[Bool.false_eq_true,if_false,Nat.add_zero]at h;generalize V*(P/V)=y at *;exact⟨by omega,rfl⟩
  subst hn;simp only[if_true]at h;generalize V*(P/V)=y at *;omega
 rw[Nat.succ_mul,Nat.mul_comm (P/V) V]at h;refine⟨fun hn=>?_,fun hn=>?_⟩
 ·subst hn;simp only[Bool.false_eq_true,if_false,Nat.add_zero]at h;generalize V*(P/V)=y at *;omega
 subst hn;simp only[if_true]at h;refine⟨Nat.succ_le_succ (Nat.zero_le _),rfl,?_⟩;generalize V*(P/V)=y at *;omega
end Na
namespace Na
theorem KC(l:List UInt32):∃n,n≤l.length∧val (l.take n)=val l∧(n=0∨∃h:n-1<l.length,l[n-1]≠0):=by
 have key:∀k,k≤l.length→val (l.take k)=val l→∃n,n≤l.length∧val (l.take n)=val l∧(n=0∨∃h:n-1<l.length,l[n-1]≠0):=by
  intro k;induction k with
  | zero=>intro hk hv; exact⟨0,hk,hv,.inl rfl⟩
  | succ k ih =>
   intro hk hv;by_cases h0:l[k]'(by omega)=0
   ·refine ih (by omega) ?_;rw[←hv,bU l k (by omega),h0]; simp
   exact⟨k+1,hk,hv,.inr ⟨by simp; omega,by simpa using h0⟩⟩
 exact key l.length (Nat.le_refl _) (by rw[List.take_length])
theorem zK(l:List UInt32):Na.aj (val l)=l.take (aj (val l)).length∧(aj (val l)).length≤l.length ∧
  (∀j (h:j<l.length),(aj (val l)).length≤j→l[j]=0)∧(∀j (h:j<l.length),j+1=(aj (val l)).length→l[j]≠0):=by
 obtain⟨n,hn,hv,ht⟩:=KC l;have hd:=ku hn hv ht;have hl:(aj (val l)).length=n:=by rw[hd]; simp; omega
 rw[hl];refine⟨hd,hn,fun j h hj=>?_,fun j h hj=>?_⟩
 ·have h1:=gB l j (by omega);rw[oH l j h]at h1;have h2:=gB (l.take j) n (by simp; omega);rw[List.take_take,Nat.min_eq_left hj,hv]at h2;have h3:B^j*(l[j].toNat+B*val (l.drop (j+1)))=0:=by omega
  rcases Nat.mul_eq_zero.1 h3 with h4 | h4
  ·have:=Nat.pow_pos (n:=j) jV; omega
  exact UInt32.toNat_inj.1 (by simp; omega)
 rcases ht with h0 | ⟨h1,h2⟩
 ·omega
 have e:n-1=j:=by omega
 simp only[e]at h2;exact h2
theorem rJ(l:List UInt32)(j:Nat):val l=val (l.take j)+B^j*val (l.drop j):=by
 rcases Nat.le_total j l.length with h | h
 ·exact gB l j h
 rw[List.take_of_length_le h,List.drop_eq_nil_of_le h]; simp[val]
theorem pI(l:List UInt32)(j:Nat):val (l.drop j)=(l.getD j 0).toNat+B*val (l.drop (j+1)):=by
 rcases Nat.lt_or_ge j l.length with h | h
 ·rw[oH l j h]; simp[List.getD,List.getElem?_eq_getElem h]
 rw[List.drop_eq_nil_of_le h,List.drop_eq_nil_of_le (by omega)]; simp[val,List.getD,List.getElem?_eq_none h]
theorem wQ(l:List UInt32)(j:Nat):val (l.take j)<B^j:=
 Nat.lt_of_lt_of_le (fB _) (Nat.pow_le_pow_right jV (List.length_take_le _ _))
theorem iQ(l:List UInt32)(j:Nat):val (l.take (j+1))=val (l.take j)+B^j*(l.getD j 0).toNat:=by
 rcases Nat.lt_or_ge j l.length with h | h
 ·rw[bU l j h]; simp[List.getD,List.getElem?_eq_getElem h]
 rw[List.take_of_length_le (by omega),List.take_of_length_le h]; simp[List.getD,List.getElem?_eq_none h]
theorem vK{l:List UInt32}{j:Nat}(h:val l<B^j):val (l.take j)=val l:=by
 have h1:=rJ l j;rcases Nat.eq_zero_or_pos (val (l.drop j))with h0 | h0
 ·rw[h0]at h1; omega
 have:B^j*1≤B^j*val (l.drop j):=Nat.mul_le_mul_left _ h0;omega
theorem Y0{l m:List UInt32}{j:Nat}(he:val (l.drop (j+1))=val (m.drop (j+1)))(h:(l.getD j 0).toNat<(m.getD j 0).toNat):val l<val m:=by
 have h1:=rJ l j;have h2:=rJ m j;rw[pI l j]at h1;rw[pI m j,←he]at h2;have h3:=wQ l j;have h4:=wQ m j;have h5:B^j*((l.getD j 0).toNat+1+B*val (l.drop (j+1)))≤B^j*((m.getD j 0).toNat+B*val (l.drop (j+1))):=Nat.mul_le_mul_left _ (by omega);rw[show(l.getD j 0).toNat+1+B*val (l.drop (j+1))=(l.getD j 0).toNat+B*val (l.drop (j+1))+1 by omega,Nat.mul_succ]at h5;omega
theorem agr{l m:List UInt32}{j:Nat}(he:val (l.drop (j+1))=val (m.drop (j+1)))(h:(l.getD j 0).toNat=(m.getD j 0).toNat):val (l.drop j)=val (m.drop j):=by
 rw[pI l j,pI m j,he,h]
theorem dg(n:Nat):(UInt32.ofNat n).toNat=n%B:=by simp[B]
theorem step_up{out:List UInt32}{i A c n t:Nat}(hl:out.length=i)(h:val out+B^i*c=A)(hn:n=t+c):val (out++[UInt32.ofNat n])+B^(i+1)*(n/B)=A+B^i*t:=by
 rw[jo,hl,dg,←h,hn,Nat.pow_succ,Nat.mul_assoc];have:=Nat.mod_add_div (t+c) B;have h2:B^i*((t+c)%B)+B^i*(B*((t+c)/B))=B^i*t+B^i*c:=by rw[←Nat.mul_add,this,Nat.mul_add]
 omega
theorem VY{out:List UInt32}{i A C QZ Y1 n x y:Nat}(hl:out.length=i)(h:A+B^i*QZ=val out+C)(hn:x+B*Y1=n%B+y+QZ) :
  A+B^i*x+B^(i+1)*Y1=val (out++[UInt32.ofNat n])+(C+B^i*y):=by
 rw[jo,hl,dg,Nat.pow_succ,Nat.mul_assoc];have h2:B^i*x+B^i*(B*Y1)=B^i*(n%B)+B^i*y+B^i*QZ:=by rw[←Nat.mul_add,hn,Nat.mul_add,Nat.mul_add]
 omega
theorem aeb{r b T Lr V M E:Nat}(hr:r=Lr+E*T)(hLr:Lr<E)(hb:b=M+E*V)(hV:0<V):r/b≤T/V:=by
 have hE:0<E:=by omega
 have hbp:0<b:=by have:E*1≤E*V:=Nat.mul_le_mul_left _ hV; omega
 rw[Nat.le_div_iff_mul_le hV];have h1:r/b*b≤r:=Nat.div_mul_le_self r b;have h2:r/b*(E*V)≤r/b*b:=Nat.mul_le_mul_left _ (by omega);have h3:E*(r/b*V)=r/b*(E*V):=by rw[Nat.mul_left_comm]
 have h4:E*(r/b*V)<E*(T+1):=by rw[Nat.mul_succ]; omega
 exact Nat.le_of_lt_succ (Nat.lt_of_mul_lt_mul_left h4)
theorem Q5{l m:List UInt32}{n:Nat}(hm:m.length=n+1)(ht:0<(m.getD n 0).toNat)(hlt:val l<B*val m) :
  val l/val m≤((l.getD (n+1) 0).toNat*4294967296+(l.getD n 0).toNat)/(m.getD n 0).toNat∧val l/val m≤4294967295∧0<val m:=by
 have h1:=rJ m n;rw[pI m n,List.drop_eq_nil_of_le (by omega)]at h1;simp only[val,Nat.mul_zero,Nat.add_zero]at h1;have hml:=fB m;rw[hm]at hml;have hpos:0<val m:=by
  have:=Nat.mul_pos (Nat.pow_pos (n:=n) jV) ht;omega
 have h2:=rJ l n;rw[pI l n,pI l (n+1)]at h2;have h3:val (l.drop (n+1+1))=0:=by
  rcases Nat.eq_zero_or_pos (val (l.drop (n+1+1)))with h | h
  ·exact h
  have h4:=rJ l (n+1+1);have h5:B^(n+1+1)*1≤B^(n+1+1)*val (l.drop (n+1+1)):=Nat.mul_le_mul_left _ h;have h6:B*val m<B*B^(n+1):=Nat.mul_lt_mul_of_pos_left hml jV;have h7:B^(n+1+1)=B*B^(n+1):=by rw[Nat.pow_succ,Nat.mul_comm]
  omega
 rw[h3]at h2;refine⟨?_,?_,hpos⟩
 ·refine aeb (Lr:=val (l.take n)) (M:=val (m.take n)) (E:=B^n) ?_ (wQ l n) h1 ht;rw[h2];have:B=4294967296:=rfl;rw[this];congr 2;omega
 have:val l/val m<B:=by rw[Nat.div_lt_iff_lt_mul hpos]; exact hlt
 exact Nat.le_of_lt_succ this
theorem Q7{r b d:Nat}(hq:r/b≤d)(h:b*d≤r)(hb:0<b):d=r/b∧r-b*d=r%b:=by
 have h1:d≤r/b:=(Nat.le_div_iff_mul_le hb).2 (by rw[Nat.mul_comm]; exact h);have e:d=r/b:=Nat.le_antisymm h1 hq;subst e;have:=Nat.mod_add_div r b;exact⟨rfl,by omega⟩
theorem VZ{r b d:Nat}(hq:r/b≤d)(h:r<b*d)(hb:0<b):1≤d∧r/b≤d-1∧b*d-b=b*(d-1)∧b≤b*d:=by
 have h1:r/b<d:=by rw[Nat.div_lt_iff_lt_mul hb,Nat.mul_comm]; exact h
 have h2:0<d:=Nat.lt_of_le_of_lt (Nat.zero_le _) h1;obtain⟨k,rfl⟩:∃k,d=k+1:=⟨d-1,by omega⟩;refine⟨by omega,Nat.le_of_lt_succ h1,?_,?_⟩
 ·rw[Nat.mul_succ]; simp
 rw[Nat.mul_succ]; omega
theorem V3{U Q r b u:Nat}(hb:0<b)(hr:r<b)(hu:u<B)(h:Q*b+r=U) :
  ((u+B*r)/b+B*Q)*b+(u+B*r)%b=u+B*U∧(u+B*r)/b<B∧(u+B*r)%b<b:=by
 refine⟨?_,?_,Nat.mod_lt _ hb⟩
 ·have:=Nat.mod_add_div (u+B*r) b;rw[Nat.add_mul,←h,Nat.mul_add,Nat.mul_comm ((u+B*r)/b) b,Nat.mul_assoc];omega
 rw[Nat.div_lt_iff_lt_mul hb];have:B*(r+1)≤B*b:=Nat.mul_le_mul_left _ hr;rw[Nat.mul_succ]at this;omega
theorem Y2{U Q r b:Nat}(h:Q*b+r=U)(hr:r<b):Q=U/b∧r=U%b:=by
 have hb:0<b:=by omega
 subst h;rw[Nat.add_comm,Nat.mul_comm,Nat.add_mul_div_left _ _ hb,Nat.div_eq_of_lt hr,Nat.add_mul_mod_self_left,Nat.mod_eq_of_lt hr];omega
end Na
namespace Nb
def B:Nat:=256
theorem jV:0<B:=by decide
theorem NK:1<B:=by decide
def val:List UInt8→Nat
 | []=>0
 | d::l=>d.toNat+B*val l
def norm(l:List UInt8):Prop:=l.getLast?≠some 0
def lg:Nat→Nat→List UInt8
 | 0,_=>[]
 | f+1,n=>if n=0 then []else UInt8.ofNat n::lg f (n/B)
def aj(n:Nat):List UInt8:=lg n n
theorem val_append(l m:List UInt8):val (l++m)=val l+B^l.length*val m:=by
 induction l with
 | nil=>simp[val]
 | cons d l ih=>simp only[List.cons_append,val,ih,List.length_cons,Nat.pow_succ,Nat.mul_add]; rw[Nat.mul_comm (B^l.length) B,Nat.mul_assoc]; omega
theorem uG(f:Nat):∀n,n≤f→val (lg f n)=n:=by
 induction f with
 | zero=>intro n h; simp[lg,val]; omega
 | succ f ih =>
  intro n h;unfold lg;split
  ·rename_i h0; subst h0; rfl
  rename_i h0;have hlt:n/B<n:=Nat.div_lt_self (by omega) NK;simp only[val];rw[ih (n/B) (by omega)];have:(UInt8.ofNat n).toNat=n%B:=by simp[B]
  rw[this];exact Nat.mod_add_div n B
theorem aJ(n:Nat):val (aj n)=n:=uG n n (Nat.le_refl _)
theorem zI(f:Nat):∀n,n≤f→norm (lg f n):=by
 induction f with
 | zero=>intro n _; simp[lg,norm]
 | succ f ih =>
  intro n h;unfold lg;split
  ·simp[norm]
  rename_i h0;have hlt:n/B<n:=Nat.div_lt_self (by omega) NK;have hn:=ih (n/B) (by omega);have hv:=uG f (n/B) (by omega);unfold norm at hn ⊢;generalize lg f (n/B)=l at hn hv;cases l with
  | nil =>
   simp only[List.getLast?_singleton];intro he;have h1:=congrArg UInt8.toNat (Option.some.inj he);have h2:(UInt8.ofNat n).toNat=n%B:=by simp[B]
   rw[h2]at h1;simp[val]at hv;have:=Nat.mod_add_div n B;rw[←hv]at this;simp at h1;omega
  | cons a l=>simpa[List.getLast?_cons_cons]using hn
theorem gY(n:Nat):norm (aj n):=zI n n (Nat.le_refl _)
theorem lQ{d:UInt8}{l:List UInt8}(h:norm (d::l)):norm l:=by
 cases l with
 | nil=>simp[norm]
 | cons a l=>unfold norm at h ⊢; simpa[List.getLast?_cons_cons]using h
theorem val_eq_zero{l:List UInt8}(h:norm l)(h0:val l=0):l=[]:=by
 induction l with
 | nil=>rfl
 | cons d l ih =>
  simp only[val]at h0;have hl:val l=0:=by
   rcases Nat.eq_zero_or_pos (val l)with e | e
   ·exact e
   have:0<B*val l:=Nat.mul_pos jV e;omega
  have:=ih (lQ h) hl;subst this;have hd:d=0:=UInt8.toNat_inj.1 (by simp; omega);subst hd;exact(h rfl).elim
theorem Fg{l:List UInt8}:∀{m:List UInt8},norm l→norm m→val l=val m→l=m:=by
 induction l with
 | nil=>intro m _ hm h; exact(val_eq_zero hm h.symm).symm
 | cons d l ih =>
  intro m hl hm h;cases m with
  | nil=>exact val_eq_zero hl h
  | cons e m =>
   simp only[val]at h;have hd:d.toNat<B:=d.toNat_lt;have he:e.toNat<B:=e.toNat_lt;have h1:d.toNat=e.toNat:=by
    have:=congrArg (· % B) h;simpa[Nat.mod_eq_of_lt hd,Nat.mod_eq_of_lt he]using this
   have h2:val l=val m:=by
    have:B*val l=B*val m:=by omega
    exact Nat.eq_of_mul_eq_mul_left jV this
   rw[UInt8.toNat_inj.1 h1,ih (lQ hl) (lQ hm) h2]
theorem Fh{l:List UInt8}(h:norm l):aj (val l)=l:=Fg (gY _) h (aJ _)
theorem vI{l:List UInt8}(h:0<l.length)(hn:l[l.length-1]≠0):norm l:=by
 unfold norm;rw[List.getLast?_eq_getElem?,List.getElem?_eq_getElem (by omega)];simpa using hn
theorem vJ{l:List UInt8}(h:norm l)(hp:0<l.length):l[l.length-1]≠0:=by
 unfold norm at h;rw[List.getLast?_eq_getElem?,List.getElem?_eq_getElem (by omega)]at h;simpa using h
theorem CU{l:List UInt8}(h:norm l)(hp:0<l.length):B^(l.length-1)≤val l:=by
 induction l with
 | nil=>simp at hp
 | cons d l ih =>
  cases l with
  | nil =>
   have:=vJ h (by simp);simp only[val,List.length_cons,List.length_nil];have hd:d.toNat≠0:=fun e=>this (UInt8.toNat_inj.1 (by simpa using e));simp; omega
  | cons a m =>
   have:=ih (lQ h) (by simp);simp only[List.length_cons,Nat.add_sub_cancel]at this ⊢;have e:val (d::a::m)=d.toNat+B*val (a::m):=rfl;rw[e,Nat.pow_succ];have:=Nat.mul_le_mul_left B this;rw[Nat.mul_comm]at this;omega
theorem length_le{l:List UInt8}{k:Nat}(h:norm l)(hv:val l<B^k):l.length≤k:=by
 rcases Nat.lt_or_ge k l.length with hk | hk
 ·have h1:=CU h (by omega);have h2:B^k≤B^(l.length-1):=Nat.pow_le_pow_right jV (by omega);omega
 exact hk
theorem dD{n k:Nat}(h:n<B^k):(aj n).length≤k:=length_le (gY n) (by rw[aJ]; exact h)
theorem gB(l:List UInt8)(k:Nat)(hk:k≤l.length):val l=val (l.take k)+B^k*val (l.drop k):=by
 conv=>lhs; rw[←List.take_append_drop k l]
 rw[val_append]; simp[Nat.min_eq_left hk]
theorem jo(l:List UInt8)(d:UInt8):val (l++[d])=val l+B^l.length*d.toNat:=by
 rw[val_append]; simp[val]
theorem bU(l:List UInt8)(k:Nat)(h:k<l.length):val (l.take (k+1))=val (l.take k)+B^k*l[k].toNat:=by
 rw[List.take_succ_eq_append_getElem h,jo]; simp[Nat.min_eq_left (Nat.le_of_lt h)]
theorem oH(l:List UInt8)(k:Nat)(h:k<l.length):val (l.drop k)=l[k].toNat+B*val (l.drop (k+1)):=by
 rw[List.drop_eq_getElem_cons h]; rfl
theorem ku{l:List UInt8}{n:Nat}(hn:n≤l.length)(hv:val (l.take n)=val l)(h:n=0∨∃h:n-1<l.length,l[n-1]≠0):aj (val l)=l.take n:=by
 rw[←hv];apply Fh;rcases h with rfl | ⟨h1,h2⟩
 ·simp[norm]
 rcases Nat.eq_zero_or_pos n with rfl | hp
 ·simp[norm]
 have hl:(l.take n).length=n:=by simp[Nat.min_eq_left hn]
 apply vI (by omega);simp only[hl];rw[List.getElem_take];exact h2
end Nb
namespace Nb
def le4(d:UInt32):List UInt8:=[d.toUInt8,(d>>>8).toUInt8,(d>>>16).toUInt8,(d>>>24).toUInt8]
def bytes(l:List UInt32):List UInt8:=l.flatMap le4
theorem abQ(d:UInt32):val (le4 d)=d.toNat:=by
 have:=d.toNat_lt;simp[le4,val,B,UInt32.toNat_shiftRight,Nat.shiftRight_eq_div_pow];omega
theorem Jl(l:List UInt32):(bytes l).length=4*l.length:=by
 induction l with
 | nil=>rfl
 | cons d l ih=>unfold bytes at ih ⊢; rw[List.flatMap_cons,List.length_append,ih]; simp[le4]; omega
theorem Jm(l:List UInt32):val (bytes l)=Na.val l:=by
 induction l with
 | nil=>rfl
 | cons d l ih =>
  unfold bytes at ih ⊢;rw[List.flatMap_cons,val_append,ih,abQ];have h4:(le4 d).length=4:=rfl;have:B^(le4 d).length=Na.B:=by rw[h4]; simp[B,Na.B]
  rw[this]; rfl
theorem Q8(l:List UInt32)(d:UInt32):bytes (l++[d])=bytes l++le4 d:=by simp[bytes]
end Nb
