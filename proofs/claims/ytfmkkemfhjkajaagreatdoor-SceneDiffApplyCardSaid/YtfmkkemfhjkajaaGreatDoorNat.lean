/- Natural numbers as lists of digits in base 2^32, least significant first. No program in sight. -/
import Derived.Lib.Hide
namespace Na
def B:Nat:=4294967296
theorem B_pos:0<B:=by decide
theorem B_two:1<B:=by decide
def val:List UInt32→Nat
 | []=>0
 | d::l=>d.toNat+B*val l
/-- No zero digit at the end. -/
def norm(l:List UInt32):Prop:=l.getLast?≠some 0
def digsF:Nat→Nat→List UInt32
 | 0,_=>[]
 | f+1,n=>if n=0 then []else UInt32.ofNat n::digsF f (n/B)
def digs(n:Nat):List UInt32:=digsF n n
theorem val_append(l m:List UInt32):val (l++m)=val l+B^l.length*val m:=by
 induction l with
 | nil=>simp[val]
 | cons d l ih=>simp only[List.cons_append,val,ih,List.length_cons,Nat.pow_succ,Nat.mul_add]; rw[Nat.mul_comm (B^l.length) B,Nat.mul_assoc]; omega
theorem val_lt(l:List UInt32):val l<B^l.length:=by
 induction l with
 | nil=>simp[val]
 | cons d l ih =>
  have hd:d.toNat<B:=d.toNat_lt
  simp only[val,List.length_cons,Nat.pow_succ]
  have:B*val l+B≤B^l.length*B:=by
   rw[Nat.mul_comm (B^l.length)]; rw[←Nat.mul_succ]; exact Nat.mul_le_mul_left _ ih
  omega
theorem val_zeros(n:Nat):val (List.replicate n 0)=0:=by
 induction n with
 | zero=>rfl
 | succ n ih=>simp[List.replicate_succ,val,ih]
theorem digsF_val(f:Nat):∀n,n≤f→val (digsF f n)=n:=by
 induction f with
 | zero=>intro n h; simp[digsF,val]; omega
 | succ f ih =>
  intro n h
  unfold digsF
  split
  ·rename_i h0; subst h0; rfl
  ·rename_i h0
   have hlt:n/B<n:=Nat.div_lt_self (by omega) B_two
   simp only[val]
   rw[ih (n/B) (by omega)]
   have:(UInt32.ofNat n).toNat=n%B:=by simp[B]
   rw[this]
   exact Nat.mod_add_div n B
theorem val_digs(n:Nat):val (digs n)=n:=digsF_val n n (Nat.le_refl _)
theorem digsF_norm(f:Nat):∀n,n≤f→norm (digsF f n):=by
 induction f with
 | zero=>intro n _; simp[digsF,norm]
 | succ f ih =>
  intro n h
  unfold digsF
  split
  ·simp[norm]
  ·rename_i h0
   have hlt:n/B<n:=Nat.div_lt_self (by omega) B_two
   have hn:=ih (n/B) (by omega)
   have hv:=digsF_val f (n/B) (by omega)
   unfold norm at hn ⊢
   generalize digsF f (n/B)=l at hn hv
   cases l with
   | nil =>
    simp only[List.getLast?_singleton]
    intro he
    have h1:=congrArg UInt32.toNat (Option.some.inj he)
    have h2:(UInt32.ofNat n).toNat=n%B:=by simp[B]
    rw[h2]at h1
    simp[val]at hv
    have:=Nat.mod_add_div n B
    rw[←hv]at this
    simp at h1
    omega
   | cons a l=>simpa[List.getLast?_cons_cons]using hn
theorem digs_norm(n:Nat):norm (digs n):=digsF_norm n n (Nat.le_refl _)
theorem norm_tail{d:UInt32}{l:List UInt32}(h:norm (d::l)):norm l:=by
 cases l with
 | nil=>simp[norm]
 | cons a l=>unfold norm at h ⊢; simpa[List.getLast?_cons_cons]using h
theorem val_eq_zero{l:List UInt32}(h:norm l)(h0:val l=0):l=[]:=by
 induction l with
 | nil=>rfl
 | cons d l ih =>
  simp only[val]at h0
  have hl:val l=0:=by
   rcases Nat.eq_zero_or_pos (val l)with e | e
   ·exact e
   ·have:0<B*val l:=Nat.mul_pos B_pos e
    omega
  have:=ih (norm_tail h) hl
  subst this
  have hd:d=0:=UInt32.toNat_inj.1 (by simp; omega)
  subst hd
  exact(h rfl).elim
theorem norm_inj{l:List UInt32}:∀{m:List UInt32},norm l→norm m→val l=val m→l=m:=by
 induction l with
 | nil=>intro m _ hm h; exact(val_eq_zero hm h.symm).symm
 | cons d l ih =>
  intro m hl hm h
  cases m with
  | nil=>exact val_eq_zero hl h
  | cons e m =>
   simp only[val]at h
   have hd:d.toNat<B:=d.toNat_lt
   have he:e.toNat<B:=e.toNat_lt
   have h1:d.toNat=e.toNat:=by
    have:=congrArg (· % B) h
    simpa[Nat.mod_eq_of_lt hd,Nat.mod_eq_of_lt he]using this
   have h2:val l=val m:=by
    have:B*val l=B*val m:=by omega
    exact Nat.eq_of_mul_eq_mul_left B_pos this
   rw[UInt32.toNat_inj.1 h1,ih (norm_tail hl) (norm_tail hm) h2]
theorem digs_val{l:List UInt32}(h:norm l):digs (val l)=l:=norm_inj (digs_norm _) h (val_digs _)
theorem digs_zero:digs 0=[]:=rfl
theorem digs_eq_nil{n:Nat}:digs n=[]↔n=0:=by
 constructor
 ·intro h; have:=val_digs n; rw[h]at this; simpa[val]using this.symm
 ·intro h; rw[h]; rfl
theorem norm_of_last{l:List UInt32}(h:0<l.length)(hn:l[l.length-1]≠0):norm l:=by
 unfold norm
 rw[List.getLast?_eq_getElem?,List.getElem?_eq_getElem (by omega)]
 simpa using hn
theorem last_ne{l:List UInt32}(h:norm l)(hp:0<l.length):l[l.length-1]≠0:=by
 unfold norm at h
 rw[List.getLast?_eq_getElem?,List.getElem?_eq_getElem (by omega)]at h
 simpa using h
/-- A list with k digits and a last digit that is not zero is at least B^(k-1). -/
theorem le_val{l:List UInt32}(h:norm l)(hp:0<l.length):B^(l.length-1)≤val l:=by
 induction l with
 | nil=>simp at hp
 | cons d l ih =>
  cases l with
  | nil =>
   have:=last_ne h (by simp)
   simp only[val,List.length_cons,List.length_nil]
   have hd:d.toNat≠0:=fun e=>this (UInt32.toNat_inj.1 (by simpa using e))
   simp; omega
  | cons a m =>
   have:=ih (norm_tail h) (by simp)
   simp only[List.length_cons,Nat.add_sub_cancel]at this ⊢
   have e:val (d::a::m)=d.toNat+B*val (a::m):=rfl
   rw[e,Nat.pow_succ]
   have:=Nat.mul_le_mul_left B this
   rw[Nat.mul_comm]at this
   omega
theorem length_le{l:List UInt32}{k:Nat}(h:norm l)(hv:val l<B^k):l.length≤k:=by
 rcases Nat.lt_or_ge k l.length with hk | hk
 ·have h1:=le_val h (by omega)
  have h2:B^k≤B^(l.length-1):=Nat.pow_le_pow_right B_pos (by omega)
  omega
 ·exact hk
theorem digs_length_le{n k:Nat}(h:n<B^k):(digs n).length≤k:=length_le (digs_norm n) (by rw[val_digs]; exact h)
theorem val_take_drop(l:List UInt32)(k:Nat)(hk:k≤l.length):val l=val (l.take k)+B^k*val (l.drop k):=by
 conv=>lhs; rw[←List.take_append_drop k l]
 rw[val_append]; simp[Nat.min_eq_left hk]
theorem val_snoc(l:List UInt32)(d:UInt32):val (l++[d])=val l+B^l.length*d.toNat:=by
 rw[val_append]; simp[val]
theorem val_take_succ(l:List UInt32)(k:Nat)(h:k<l.length):val (l.take (k+1))=val (l.take k)+B^k*l[k].toNat:=by
 rw[List.take_succ_eq_append_getElem h,val_snoc]; simp[Nat.min_eq_left (Nat.le_of_lt h)]
theorem val_drop(l:List UInt32)(k:Nat)(h:k<l.length):val (l.drop k)=l[k].toNat+B*val (l.drop (k+1)):=by
 rw[List.drop_eq_getElem_cons h]; rfl
theorem digs_eq_take{l:List UInt32}{n:Nat}(hn:n≤l.length)(hv:val (l.take n)=val l)(h:n=0∨∃h:n-1<l.length,l[n-1]≠0):digs (val l)=l.take n:=by
 rw[←hv]
 apply digs_val
 rcases h with rfl | ⟨h1,h2⟩
 ·simp[norm]
 ·rcases Nat.eq_zero_or_pos n with rfl | hp
  ·simp[norm]
  ·have hl:(l.take n).length=n:=by simp[Nat.min_eq_left hn]
   apply norm_of_last (by omega)
   simp only[hl]
   rw[List.getElem_take]
   exact h2
end Na
/- Plain laws of digits: shifts. -/
namespace Na
def shr(p:Nat):List UInt32→List UInt32
 | []=>[]
 | d::l=>UInt32.ofNat ((d.toNat+B*(l.headD 0).toNat)/2^p)::shr p l
theorem shr_length(p:Nat)(l:List UInt32):(shr p l).length=l.length:=by
 induction l with
 | nil=>rfl
 | cons d l ih=>simp[shr,ih]
theorem shr_get(p:Nat)(l:List UInt32):∀(i:Nat) (h:i<l.length),(shr p l)[i]'(by rw[shr_length]; exact h)=UInt32.ofNat (((l.getD i 0).toNat+B*(l.getD (i+1) 0).toNat)/2^p):=by
 induction l with
 | nil=>intro i h; simp at h
 | cons d l ih =>
  intro i h
  cases i with
  | zero=>cases l<;>simp[shr]
  | succ i =>
   have:=ih i (by simpa using h)
   simp only[shr,List.getElem_cons_succ,List.getD_cons_succ]
   exact this
theorem pow_split(p:Nat)(h:p≤32):B=2^p*2^(32-p):=by
 rw[←Nat.pow_add,show p+(32-p)=32 by omega]; rfl
theorem ofNat_toNat(n:Nat):(UInt32.ofNat n).toNat=n%B:=by simp[B]
theorem shr_val(p:Nat)(h:p≤32)(l:List UInt32):val (shr p l)=val l/2^p:=by
 induction l with
 | nil=>simp[shr,val]
 | cons d l ih =>
  simp only[shr,val,ih,ofNat_toNat]
  have h2:0<2^p:=Nat.two_pow_pos p
  cases l with
  | nil =>
   simp only[List.headD_nil,val]
   have hd:d.toNat<B:=d.toNat_lt
   have:d.toNat/2^p<B:=Nat.lt_of_le_of_lt (Nat.div_le_self _ _) hd
   simp[Nat.mod_eq_of_lt this]
  | cons e m =>
   simp only[List.headD_cons,val]
   generalize val m=V
   have hD:d.toNat<B:=d.toNat_lt
   generalize d.toNat=D at hD
   generalize e.toNat=E
   -- (D + B*(E + B*V)) / 2^p = ((D + B*E)/2^p) % B + B * ((E + B*V)/2^p)
   obtain⟨c,hc⟩:∃c,B=2^p*c:=⟨_,pow_split p h⟩
   have e0:B*V=2^p*(c*V):=by rw[←Nat.mul_assoc,←hc]
   have e1:D+B*(E+B*V)=(D+B*E)+2^p*(B*(c*V)):=by
    rw[Nat.mul_add,e0,Nat.mul_left_comm B (2^p),Nat.add_assoc]
   rw[e1,e0,Nat.add_mul_div_left _ _ h2,Nat.add_mul_div_left _ _ h2,Nat.mul_add,←Nat.add_assoc]
   congr 1
   have e3:(D+B*E)/2^p/B=E/2^p:=by
    rw[Nat.div_div_eq_div_mul,Nat.mul_comm (2^p) B,←Nat.div_div_eq_div_mul]
    rw[Nat.add_mul_div_left _ _ B_pos,Nat.div_eq_of_lt hD,Nat.zero_add]
   have:=Nat.mod_add_div ((D+B*E)/2^p) B
   rw[e3]at this
   exact this
end Na
/- Plain laws of long division (Knuth's algorithm D): the estimate, and one step. -/
namespace Na
/-- The estimate is exact or one too large. -/
theorem guess_law{m P V L D0 D1 D2 M V0 V1 q:Nat}(hP:P=L+B^m*(D0+B*D1+B*B*D2))(hL:L<B^m)(hV:V=M+B^m*(V0+B*V1))(hM:M<B^m)
  (hV1:0<V1) (hD0:D0<B) (hq:q<B) (hPV:P<B*V) (h1:q*(V1*B+V0)≤(D2*B+D1)*B+D0)
  (h2:q=(D2*B+D1)/V1∨B≤q+1∨(D2*B+D1)*B+D0<(q+1)*(V1*B+V0)):P/V≤q∧q≤P/V+1:=by
 have hE:0<B^m:=Nat.pow_pos B_pos
 generalize B^m=E at *
 have hT:D0+B*D1+B*B*D2=(D2*B+D1)*B+D0:=by
  rw[Nat.add_mul,Nat.mul_comm D1 B,Nat.mul_assoc D2,Nat.mul_comm D2]; omega
 have hW:V0+B*V1=V1*B+V0:=by rw[Nat.mul_comm B]; omega
 rw[hT]at hP
 rw[hW]at hV
 have hVp:0<V:=by
  have:0<E*(V1*B+V0):=Nat.mul_pos hE (by have:=Nat.mul_pos hV1 B_pos; omega)
  omega
 constructor
 ·-- the true digit is at most q
  rcases h2 with h | h | h
  ·-- q = top / V1
   have hle:P/V*V≤P:=Nat.div_mul_le_self P V
   rw[h]
   rw[Nat.le_div_iff_mul_le hV1]
   generalize P/V=c at hle
   generalize D2*B+D1=T at *
   -- c*V1*E*B ≤ c*V ≤ P < (T+1)*E*B
   have e1:c*V=c*M+E*(c*V1*B)+E*(c*V0):=by
    rw[hV,Nat.mul_add,Nat.mul_add E,Nat.mul_add c,Nat.mul_left_comm c E,Nat.mul_left_comm c E,←Nat.mul_assoc c V1 B]; omega
   have hlt:P<E*((T+1)*B):=by
    have:E*(T*B+D0)+E≤E*((T+1)*B):=by
     rw[←Nat.mul_succ]; exact Nat.mul_le_mul_left _ (by rw[Nat.add_mul]; omega)
    omega
   have h3:E*(c*V1*B)<E*((T+1)*B):=by omega
   have h4:=Nat.lt_of_mul_lt_mul_left h3
   have h5:=Nat.lt_of_mul_lt_mul_right h4
   omega
  ·have:P/V<B:=Nat.div_lt_of_lt_mul (by rw[Nat.mul_comm]; exact hPV)
   omega
  ·have h3:P<(q+1)*V:=by
    have h4:E*((D2*B+D1)*B+D0)+E≤E*((q+1)*(V1*B+V0)):=by
     rw[←Nat.mul_succ]; exact Nat.mul_le_mul_left _ h
    have h5:(q+1)*V=(q+1)*M+E*((q+1)*(V1*B+V0)):=by rw[hV,Nat.mul_add,Nat.mul_left_comm]
    generalize (q+1)*V=x1 at *
    generalize (q+1)*M=x2 at *
    generalize E*((q+1)*(V1*B+V0))=x3 at *
    generalize E*((D2*B+D1)*B+D0)=x4 at *
    omega
   exact Nat.le_of_lt_succ ((Nat.div_lt_iff_lt_mul hVp).2 h3)
 ·-- q - 1 is at most the true digit
  rcases Nat.eq_zero_or_pos q with rfl | hq0
  ·exact Nat.zero_le _
  ·obtain⟨c,rfl⟩:∃c,q=c+1:=⟨q-1,by omega⟩
   have h3:c*V≤P:=by
    have h4:E*((c+1)*(V1*B+V0))≤E*((D2*B+D1)*B+D0):=Nat.mul_le_mul_left _ h1
    have h5:(c+1)*V=(c+1)*M+E*((c+1)*(V1*B+V0)):=by rw[hV,Nat.mul_add,Nat.mul_left_comm]
    have h6:(c+1)*M≤B*E:=Nat.mul_le_mul (Nat.le_of_lt hq) (Nat.le_of_lt hM)
    have h7:B*E≤V:=by
     rw[hV]
     have:E*(1*B)≤E*(V1*B+V0):=Nat.mul_le_mul_left _ (by have:=Nat.mul_le_mul_right B hV1; omega)
     rw[Nat.one_mul,Nat.mul_comm]at this; omega
    rw[Nat.succ_mul c V]at h5
    generalize c*V=x0 at *
    generalize (c+1)*M=x2 at *
    generalize E*((c+1)*(V1*B+V0))=x3 at *
    generalize E*((D2*B+D1)*B+D0)=x4 at *
    generalize B*E=x5 at *
    omega
   exact Nat.succ_le_succ ((Nat.le_div_iff_mul_le hVp).2 h3)
/-- One step: what 'take' leaves, and what adding back makes of it. E: B^(n+1). -/
theorem step_law{P V q x E:Nat}(neg:Bool)(hVp:0<V)(h1:P/V≤q)(h2:q≤P/V+1)(hx:x<E)(h:P+(if neg then E else 0)=x+q*V) :
  (neg=false→x=P%V∧q=P/V)∧(neg=true→1≤q∧q-1=P/V∧x+V=E+P%V):=by
 have hm:=Nat.mod_add_div P V
 have hl:=Nat.mod_lt P hVp
 rcases(show q=P/V∨q=P/V+1 from by
  rcases Nat.lt_or_ge (P/V) q with h | h
  ·exact .inr (Nat.le_antisymm h2 h)
  ·exact .inl (Nat.le_antisymm h h1))with rfl | rfl
 ·rw[Nat.mul_comm (P/V) V]at h
  refine⟨fun hn=>?_,fun hn=>?_⟩
  ·subst hn
   simp only[Bool.false_eq_true,if_false,Nat.add_zero]at h
   generalize V*(P/V)=y at *
   exact⟨by omega,rfl⟩
  ·subst hn
   simp only[if_true]at h
   generalize V*(P/V)=y at *
   omega
 ·rw[Nat.succ_mul,Nat.mul_comm (P/V) V]at h
  refine⟨fun hn=>?_,fun hn=>?_⟩
  ·subst hn
   simp only[Bool.false_eq_true,if_false,Nat.add_zero]at h
   generalize V*(P/V)=y at *
   omega
  ·subst hn
   simp only[if_true]at h
   refine⟨Nat.succ_le_succ (Nat.zero_le _),rfl,?_⟩
   generalize V*(P/V)=y at *
   omega
end Na
/- Plain laws for the references on natural numbers. No program in sight. -/
namespace Na
theorem val_split(l:List UInt32)(j:Nat):val l=val (l.take j)+B^j*val (l.drop j):=by
 rcases Nat.le_total j l.length with h | h
 ·exact val_take_drop l j h
 ·rw[List.take_of_length_le h,List.drop_eq_nil_of_le h]; simp[val]
theorem val_drop'(l:List UInt32)(j:Nat):val (l.drop j)=(l.getD j 0).toNat+B*val (l.drop (j+1)):=by
 rcases Nat.lt_or_ge j l.length with h | h
 ·rw[val_drop l j h]; simp[List.getD,List.getElem?_eq_getElem h]
 ·rw[List.drop_eq_nil_of_le h,List.drop_eq_nil_of_le (by omega)]; simp[val,List.getD,List.getElem?_eq_none h]
theorem val_take_succ'(l:List UInt32)(j:Nat):val (l.take (j+1))=val (l.take j)+B^j*(l.getD j 0).toNat:=by
 rcases Nat.lt_or_ge j l.length with h | h
 ·rw[val_take_succ l j h]; simp[List.getD,List.getElem?_eq_getElem h]
 ·rw[List.take_of_length_le (by omega),List.take_of_length_le h]; simp[List.getD,List.getElem?_eq_none h]
theorem val_take_all{l:List UInt32}{j:Nat}(h:val l<B^j):val (l.take j)=val l:=by
 have h1:=val_split l j
 rcases Nat.eq_zero_or_pos (val (l.drop j))with h0 | h0
 ·rw[h0]at h1; omega
 ·have:B^j*1≤B^j*val (l.drop j):=Nat.mul_le_mul_left _ h0
  omega
theorem dg(n:Nat):(UInt32.ofNat n).toNat=n%B:=by simp[B]
/-- One digit more of a sum or a product. -/
theorem step_up{out:List UInt32}{i A c n t:Nat}(hl:out.length=i)(h:val out+B^i*c=A)(hn:n=t+c):val (out++[UInt32.ofNat n])+B^(i+1)*(n/B)=A+B^i*t:=by
 rw[val_snoc,hl,dg,←h,hn,Nat.pow_succ,Nat.mul_assoc]
 have:=Nat.mod_add_div (t+c) B
 have h2:B^i*((t+c)%B)+B^i*(B*((t+c)/B))=B^i*t+B^i*c:=by rw[←Nat.mul_add,this,Nat.mul_add]
 omega
end Na
/- Natural numbers as lists of digits in base 256, least significant first. No program in sight. -/
namespace Nb
def B:Nat:=256
theorem B_pos:0<B:=by decide
theorem B_two:1<B:=by decide
def val:List UInt8→Nat
 | []=>0
 | d::l=>d.toNat+B*val l
/-- No zero digit at the end. -/
def norm(l:List UInt8):Prop:=l.getLast?≠some 0
def digsF:Nat→Nat→List UInt8
 | 0,_=>[]
 | f+1,n=>if n=0 then []else UInt8.ofNat n::digsF f (n/B)
def digs(n:Nat):List UInt8:=digsF n n
theorem val_append(l m:List UInt8):val (l++m)=val l+B^l.length*val m:=by
 induction l with
 | nil=>simp[val]
 | cons d l ih=>simp only[List.cons_append,val,ih,List.length_cons,Nat.pow_succ,Nat.mul_add]; rw[Nat.mul_comm (B^l.length) B,Nat.mul_assoc]; omega
theorem val_lt(l:List UInt8):val l<B^l.length:=by
 induction l with
 | nil=>simp[val]
 | cons d l ih =>
  have hd:d.toNat<B:=d.toNat_lt
  simp only[val,List.length_cons,Nat.pow_succ]
  have:B*val l+B≤B^l.length*B:=by
   rw[Nat.mul_comm (B^l.length)]; rw[←Nat.mul_succ]; exact Nat.mul_le_mul_left _ ih
  omega
theorem val_zeros(n:Nat):val (List.replicate n 0)=0:=by
 induction n with
 | zero=>rfl
 | succ n ih=>simp[List.replicate_succ,val,ih]
theorem digsF_val(f:Nat):∀n,n≤f→val (digsF f n)=n:=by
 induction f with
 | zero=>intro n h; simp[digsF,val]; omega
 | succ f ih =>
  intro n h
  unfold digsF
  split
  ·rename_i h0; subst h0; rfl
  ·rename_i h0
   have hlt:n/B<n:=Nat.div_lt_self (by omega) B_two
   simp only[val]
   rw[ih (n/B) (by omega)]
   have:(UInt8.ofNat n).toNat=n%B:=by simp[B]
   rw[this]
   exact Nat.mod_add_div n B
theorem val_digs(n:Nat):val (digs n)=n:=digsF_val n n (Nat.le_refl _)
theorem digsF_norm(f:Nat):∀n,n≤f→norm (digsF f n):=by
 induction f with
 | zero=>intro n _; simp[digsF,norm]
 | succ f ih =>
  intro n h
  unfold digsF
  split
  ·simp[norm]
  ·rename_i h0
   have hlt:n/B<n:=Nat.div_lt_self (by omega) B_two
   have hn:=ih (n/B) (by omega)
   have hv:=digsF_val f (n/B) (by omega)
   unfold norm at hn ⊢
   generalize digsF f (n/B)=l at hn hv
   cases l with
   | nil =>
    simp only[List.getLast?_singleton]
    intro he
    have h1:=congrArg UInt8.toNat (Option.some.inj he)
    have h2:(UInt8.ofNat n).toNat=n%B:=by simp[B]
    rw[h2]at h1
    simp[val]at hv
    have:=Nat.mod_add_div n B
    rw[←hv]at this
    simp at h1
    omega
   | cons a l=>simpa[List.getLast?_cons_cons]using hn
theorem digs_norm(n:Nat):norm (digs n):=digsF_norm n n (Nat.le_refl _)
theorem norm_tail{d:UInt8}{l:List UInt8}(h:norm (d::l)):norm l:=by
 cases l with
 | nil=>simp[norm]
 | cons a l=>unfold norm at h ⊢; simpa[List.getLast?_cons_cons]using h
theorem val_eq_zero{l:List UInt8}(h:norm l)(h0:val l=0):l=[]:=by
 induction l with
 | nil=>rfl
 | cons d l ih =>
  simp only[val]at h0
  have hl:val l=0:=by
   rcases Nat.eq_zero_or_pos (val l)with e | e
   ·exact e
   ·have:0<B*val l:=Nat.mul_pos B_pos e
    omega
  have:=ih (norm_tail h) hl
  subst this
  have hd:d=0:=UInt8.toNat_inj.1 (by simp; omega)
  subst hd
  exact(h rfl).elim
theorem norm_inj{l:List UInt8}:∀{m:List UInt8},norm l→norm m→val l=val m→l=m:=by
 induction l with
 | nil=>intro m _ hm h; exact(val_eq_zero hm h.symm).symm
 | cons d l ih =>
  intro m hl hm h
  cases m with
  | nil=>exact val_eq_zero hl h
  | cons e m =>
   simp only[val]at h
   have hd:d.toNat<B:=d.toNat_lt
   have he:e.toNat<B:=e.toNat_lt
   have h1:d.toNat=e.toNat:=by
    have:=congrArg (· % B) h
    simpa[Nat.mod_eq_of_lt hd,Nat.mod_eq_of_lt he]using this
   have h2:val l=val m:=by
    have:B*val l=B*val m:=by omega
    exact Nat.eq_of_mul_eq_mul_left B_pos this
   rw[UInt8.toNat_inj.1 h1,ih (norm_tail hl) (norm_tail hm) h2]
theorem digs_val{l:List UInt8}(h:norm l):digs (val l)=l:=norm_inj (digs_norm _) h (val_digs _)
theorem digs_zero:digs 0=[]:=rfl
theorem digs_eq_nil{n:Nat}:digs n=[]↔n=0:=by
 constructor
 ·intro h; have:=val_digs n; rw[h]at this; simpa[val]using this.symm
 ·intro h; rw[h]; rfl
theorem norm_of_last{l:List UInt8}(h:0<l.length)(hn:l[l.length-1]≠0):norm l:=by
 unfold norm
 rw[List.getLast?_eq_getElem?,List.getElem?_eq_getElem (by omega)]
 simpa using hn
theorem last_ne{l:List UInt8}(h:norm l)(hp:0<l.length):l[l.length-1]≠0:=by
 unfold norm at h
 rw[List.getLast?_eq_getElem?,List.getElem?_eq_getElem (by omega)]at h
 simpa using h
/-- A list with k digits and a last digit that is not zero is at least B^(k-1). -/
theorem le_val{l:List UInt8}(h:norm l)(hp:0<l.length):B^(l.length-1)≤val l:=by
 induction l with
 | nil=>simp at hp
 | cons d l ih =>
  cases l with
  | nil =>
   have:=last_ne h (by simp)
   simp only[val,List.length_cons,List.length_nil]
   have hd:d.toNat≠0:=fun e=>this (UInt8.toNat_inj.1 (by simpa using e))
   simp; omega
  | cons a m =>
   have:=ih (norm_tail h) (by simp)
   simp only[List.length_cons,Nat.add_sub_cancel]at this ⊢
   have e:val (d::a::m)=d.toNat+B*val (a::m):=rfl
   rw[e,Nat.pow_succ]
   have:=Nat.mul_le_mul_left B this
   rw[Nat.mul_comm]at this
   omega
theorem length_le{l:List UInt8}{k:Nat}(h:norm l)(hv:val l<B^k):l.length≤k:=by
 rcases Nat.lt_or_ge k l.length with hk | hk
 ·have h1:=le_val h (by omega)
  have h2:B^k≤B^(l.length-1):=Nat.pow_le_pow_right B_pos (by omega)
  omega
 ·exact hk
theorem digs_length_le{n k:Nat}(h:n<B^k):(digs n).length≤k:=length_le (digs_norm n) (by rw[val_digs]; exact h)
theorem val_take_drop(l:List UInt8)(k:Nat)(hk:k≤l.length):val l=val (l.take k)+B^k*val (l.drop k):=by
 conv=>lhs; rw[←List.take_append_drop k l]
 rw[val_append]; simp[Nat.min_eq_left hk]
theorem val_snoc(l:List UInt8)(d:UInt8):val (l++[d])=val l+B^l.length*d.toNat:=by
 rw[val_append]; simp[val]
theorem val_take_succ(l:List UInt8)(k:Nat)(h:k<l.length):val (l.take (k+1))=val (l.take k)+B^k*l[k].toNat:=by
 rw[List.take_succ_eq_append_getElem h,val_snoc]; simp[Nat.min_eq_left (Nat.le_of_lt h)]
theorem val_drop(l:List UInt8)(k:Nat)(h:k<l.length):val (l.drop k)=l[k].toNat+B*val (l.drop (k+1)):=by
 rw[List.drop_eq_getElem_cons h]; rfl
theorem digs_eq_take{l:List UInt8}{n:Nat}(hn:n≤l.length)(hv:val (l.take n)=val l)(h:n=0∨∃h:n-1<l.length,l[n-1]≠0):digs (val l)=l.take n:=by
 rw[←hv]
 apply digs_val
 rcases h with rfl | ⟨h1,h2⟩
 ·simp[norm]
 ·rcases Nat.eq_zero_or_pos n with rfl | hp
  ·simp[norm]
  ·have hl:(l.take n).length=n:=by simp[Nat.min_eq_left hn]
   apply norm_of_last (by omega)
   simp only[hl]
   rw[List.getElem_take]
   exact h2
end Nb
namespace Nb
/-- The four bytes of a digit. -/
def le4(d:UInt32):List UInt8:=[d.toUInt8,(d>>>8).toUInt8,(d>>>16).toUInt8,(d>>>24).toUInt8]
def bytes(l:List UInt32):List UInt8:=l.flatMap le4
theorem digs_len(l:List UInt8):(digs (val l)).length≤l.length:=digs_length_le (val_lt l)
end Nb
