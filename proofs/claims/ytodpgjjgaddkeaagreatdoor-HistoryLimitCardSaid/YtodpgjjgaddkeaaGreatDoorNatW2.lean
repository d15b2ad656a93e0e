/- Walks of package natural: guess (the estimate of a quotient's digit). -/
import Derived.Test.YtodpgjjgaddkeaaGreatDoorNatW1
set_option maxHeartbeats 3200000
set_option maxRecDepth 100000
namespace Go.Proofs.YtodpgjjgaddkeaaGreatDoor
open _root_.Go.Proofs.Tryz
open Go.RowKit
variable{α:Type}
theorem gY(n:Nat)(h:n<18446744073709551616):IntKind.u64.wrap (n:Int)=(n:Int):=by rw[aAX]; omega
theorem Qh(r x:Nat)(h:r<4294967296)(hx:x<4294967296):bits .or .u64 ((r:Int)*4294967296) (x:Int)=((r*4294967296+x:Nat):Int):=by
 have e:((r:Int)*4294967296)=((r*4294967296:Nat):Int):=by simp
 rw[e,u64_or_nat _ _ (by omega) (by omega),nat_join 32 _ _ (by omega) (by omega)]
theorem Qi{q V:Nat}(hq:q<4294967296)(hV:V<4294967296):IntKind.u64.wrap ((q:Int)*(V:Int))=((q*V:Nat):Int):=by
 have h:=aBo (show q≤4294967295 by omega) (show V≤4294967295 by omega);have e:(q:Int)*(V:Int)=((q*V:Nat):Int):=by simp
 rw[e,gY _ (by omega)]
theorem ah6{q V r T:Nat}(h:(q+1)*V+r=T):q*V+(r+V)=T:=by rw[Nat.succ_mul]at h; omega
theorem ajc{x y r T:Nat}(h:x+r=T)(hr:4294967296≤r)(h2:y≤18446744073709551616)(D0:Nat):x*4294967296+y≤T*4294967296+D0:=by omega
theorem XU{q V r T V0:Nat}(D0:Nat)(h:q*V+r=T)(hr:4294967296≤r)(hT:T<(V+1)*4294967296)(hV0:V0≤4294967296) :
  q<4294967296∧q*(V*4294967296+V0)≤T*4294967296+D0:=by
 have h1:q<4294967296:=by
  rcases aAx q 4294967296 with h1 | h1
  ·exact h1
  have:=aA7 V h1;rw[aAm 4294967296 V]at this; omega
 refine⟨h1,?_⟩;have h2:q*V0≤4294967296*4294967296:=aBo (aBy h1) hV0;rw[az6,←aAs];exact ajc h hr h2 D0
theorem ajd{x y r T rd D0:Nat}(h:x+r=T)(hr:rd=r*4294967296+D0):(rd<y→T*4294967296+D0<x*4294967296+y)∧(¬rd<y→x*4294967296+y≤T*4294967296+D0):=by omega
theorem amo{q V r T V0 D0 qv rd:Nat}(h:q*V+r=T)(hqv:qv=q*V0)(hrd:rd=r*4294967296+D0) :
  (rd<qv→T*4294967296+D0<q*(V*4294967296+V0))∧(¬rd<qv→q*(V*4294967296+V0)≤T*4294967296+D0)∧(q=0→qv=0):=by
 rw[az6,←aAs,←hqv];obtain⟨h1,h2⟩:=ajd (y:=qv) h hrd;exact⟨h1,h2,fun h=>by rw[hqv,h,Nat.zero_mul]⟩
theorem KE{q V qv:Nat}(hqv:qv=q*V)(hq:q<4294967296)(hV:V<4294967296):IntKind.u64.wrap ((q:Int)*(V:Int))=(qv:Int):=by rw[hqv]; exact Qi hq hV
theorem ZE{r x rd:Nat}(h0:rd=r*4294967296+x)(h:r<4294967296)(hx:x<4294967296):bits .or .u64 ((r:Int)*4294967296) (x:Int)=(rd:Int):=by rw[h0]; exact Qh r x h hx
theorem Gj{w:World}{a:Addr}{x:Value}(h:w.cell? a=some x):a.block<w.heap.size:=by
 unfold World.cell? at h;rcases aAx a.block w.heap.size with h' | h'
 ·exact h'
 rw[Array.getElem?_eq_none h']at h; simp at h
theorem ZF(bu ou cu bv ov cv m:Nat)(D2 D1 D0 V1 V0:Nat)(w:World)(hm:m≤1000000000)
  (hD2:D2<4294967296) (hD1:D1<4294967296) (hD0:D0<4294967296) (hV1:V1<4294967296) (hV0:V0<4294967296) (hV:2147483648≤V1) (hDV:D2≤V1)
  (c2:w.cell? ⟨bu,ou+(m+2),none⟩=some (.int .u32 D2)) (c1:w.cell? ⟨bu,ou+(m+1),none⟩=some (.int .u32 D1)) (c0:w.cell? ⟨bu,ou+m,none⟩=some (.int .u32 D0))
  (e1:w.cell? ⟨bv,ov+(m+1),none⟩=some (.int .u32 V1)) (e0:w.cell? ⟨bv,ov+m,none⟩=some (.int .u32 V0)) :
  Calls prog 324 #[.slice (some ⟨bu,ou,none⟩) (m+3) cu,.slice (some ⟨bv,ov,none⟩) (m+2) cv] w fun e w'=>∃q:Nat,e = .returned (.int .u64 q)∧q<4294967296 ∧
   q*(V1*4294967296+V0)≤(D2*4294967296+D1)*4294967296+D0 ∧
   (q=(D2*4294967296+D1)/V1∨4294967296≤q+1∨(D2*4294967296+D1)*4294967296+D0<(q+1)*(V1*4294967296+V0))∧Ext w w':=by
 obtain⟨T,hT⟩:∃T,T=D2*4294967296+D1:=⟨_,rfl⟩;have hj1:=Qh D2 D1 hD2 hD1;rw[←hT]at hj1 ⊢;have hTb:T<(V1+1)*4294967296:=by have:=aA7 4294967296 hDV; omega
 obtain⟨Q0,hQ⟩:∃Q,Q=T/V1:=⟨_,rfl⟩;obtain⟨R0,hR⟩:∃R,R=T%V1:=⟨_,rfl⟩;have hR1:R0<V1:=by rw[hR]; exact aAY _ (by omega)
 have hQR:Q0*V1+R0=T:=by rw[hQ,hR,aAm]; exact Nat.div_add_mod T V1
 have hq0:(T:Int)/(V1:Int)=(Q0:Int):=by rw[hQ]; rfl
 have hr0:(T:Int)%(V1:Int)=(R0:Int):=by rw[hR]; rfl
 have hQb:Q0<8589934592:=by
  rcases aAx Q0 8589934592 with h | h
  ·exact h
  have:=aBo h hV; omega
 have hqw:=gY Q0 (by omega);have w2:=gY D2 (by omega);have w1:=gY D1 (by omega);have w0:=gY D0 (by omega);have x1:=gY V1 (by omega);have x0:=gY V0 (by omega);have HT:=azF hT;have HQ:=azF hQ;have HQR:=azF hQR;rw[←hQ];have axj:(1:Int)≤V1:=by omega
 have hTi:(0:Int)≤T:=by omega
 clear hT hQ hR hQR;go_enter func324,ntmps324
 go_wp2_with fail
 go_quiet (fail)
 go_wp2_with fail
 go_quiet (fail)
 go_wp2_with fail
 go_loopw [7,8] (fun qv rv wr=>∃q r:Nat,qv = .int .u64 q∧rv = .int .u64 r∧q≤Q0∧q*V1+r=T∧r<4294967296 ∧
  (q=Q0∨4294967296≤q+1∨T*4294967296+D0<(q+1)*(V1*4294967296+V0))∧Ext w wr) (fun _ rv _=>8589934592-(intOf rv).toNat)
 case atStart=>exact⟨Q0,R0,rfl,by rw[hr0],azJ _,HQR.out,by omega,.inl rfl,below_drewN (below_drewN (az5 _ _) _) _⟩
 case round =>
  obtain⟨q,r,rfl,rfl,hqQ,hqr,hr,hor,hbel⟩:=hrel;have d0:wr.cell? ⟨bu,ou+m,none⟩=some (.int .u32 D0):=(hbel.cell (p:=⟨bu,ou+m,none⟩) (Gj c0)).trans c0;have f1:wr.cell? ⟨bv,ov+(m+1),none⟩=some (.int .u32 V1):=(hbel.cell (p:=⟨bv,ov+(m+1),none⟩) (Gj e1)).trans e1;have f0:wr.cell? ⟨bv,ov+m,none⟩=some (.int .u32 V0):=(hbel.cell (p:=⟨bv,ov+m,none⟩) (Gj e0)).trans e0;have hqb:q<8589934592:=by omega
  have HOR:=azF hor;have HE:=azF hqr;clear hor hqr c0 e1 e0;by_cases hqB:4294967296≤q
  ·have t1:((q:Int)/4294967296 != 0)=true:=by rw[bne_iff_ne]; omega
   obtain⟨q1,rfl⟩:∃q1,q=q1+1:=⟨q-1,by omega⟩;have hdec:=ah6 HE.out;have t1:(((q1:Int)+1)/4294967296 != 0)=true:=by rw[bne_iff_ne]; omega
   have ab2:=azF hdec;have amq:4294967296≤q1+1:=hqB;clear hdec;go_wp2_with fail
   go_quiet (fail)
   go_wp2_with fail
   ·have t3 := ‹(((r:Int)+(V1:Int))/4294967296 != 0)=true›;rw[bne_iff_ne]at t3;obtain⟨h1,h2⟩:=XU (V0:=V0) D0 ab2.out (by omega) hTb (by omega);go_ret
    exact⟨q1,by go_num,h1,h2,.inr (.inl amq),below_drewN hbel _⟩
   have t3 := ‹(((r:Int)+(V1:Int))/4294967296 != 0)=false›;rw[bne_eq_false_iff_eq]at t3;go_roundw
   case rel=>exact⟨q1,r+V1,by go_num,by go_num,by omega,ab2.out,by omega,.inr (.inl amq),below_drewN hbel _⟩
   case measure=>simp[intOf]; omega
  have t1:((q:Int)/4294967296 != 0)=false:=by rw[bne_eq_false_iff_eq]; omega
  obtain⟨qv,hqv⟩:∃qv,qv=q*V0:=⟨_,rfl⟩;obtain⟨rd,hrd⟩:∃rd,rd=r*4294967296+D0:=⟨_,rfl⟩;have hm1:=KE hqv (show q<4294967296 by omega) hV0;have hj2:=ZE hrd hr hD0;have HB:=azF (amo HE.out hqv hrd);clear hqv hrd;by_cases hgt:rd<qv
  ·have t2:(rd:Int)<qv:=by omega
   obtain⟨q1,rfl⟩:∃q1,q=q1+1:=by
    cases q with
    | zero=>exfalso; have:=HB.out.2.2 rfl; omega
    | succ q1=>exact⟨q1,rfl⟩
   have t1:(((q1:Int)+1)/4294967296 != 0)=false:=by rw[bne_eq_false_iff_eq]; omega
   have hm1:IntKind.u64.wrap (((q1:Int)+1)*(V0:Int))=(qv:Int):=by have:=hm1; simpa using this
   have ab2:=azF (ah6 HE.out);go_wp2_with fail
   go_quiet (fail)
   go_wp2_with fail
   ·have t3 := ‹(((r:Int)+(V1:Int))/4294967296 != 0)=true›;rw[bne_iff_ne]at t3;obtain⟨h1,h2⟩:=XU (V0:=V0) D0 ab2.out (by omega) hTb (by omega);go_ret
    exact⟨q1,by go_num,h1,h2,.inr (.inr (HB.out.1 hgt)),below_drewN hbel _⟩
   have t3 := ‹(((r:Int)+(V1:Int))/4294967296 != 0)=false›;rw[bne_eq_false_iff_eq]at t3;go_roundw
   case rel=>exact⟨q1,r+V1,by go_num,by go_num,by omega,ab2.out,by omega,.inr (.inr (HB.out.1 hgt)),below_drewN hbel _⟩
   case measure=>simp[intOf]; omega
  have t2:¬(rd:Int)<qv:=by omega
  go_wp2_with fail
  go_quiet (fail)
  go_wp2_with fail
  go_ret
  exact⟨q,rfl,by omega,HB.out.2.1 hgt,HOR.out,below_drewN hbel _⟩
open Go.RowKit
variable{α:Type}
def seg(l:List UInt32)(k i:Nat):List UInt32:=(l.drop k).take i
theorem afX(l:List UInt32)(k i:Nat)(x:UInt32)(h:k+i<l.length):seg (l.set (k+i) x) k (i+1)=seg l k i++[x]:=by
 unfold seg;apply List.ext_getElem
 ·simp; omega
 intro j h1 h2;simp only[aCi,List.getElem_drop,List.getElem_set];rcases aAx j i with hj | hj
 ·rw[azG (by omega),List.getElem_append_left (by simp; omega)]; simp
 have:j=i:=by simp at h1; omega
 subst this;rw[azI rfl,List.getElem_append_right (by simp; omega)]; simp
theorem seg_length(l:List UInt32)(k i:Nat)(h:k+i≤l.length):(seg l k i).length=i:=by unfold seg; simp; omega
theorem jL(l:List UInt32)(k i:Nat)(h:k+i<l.length):Na.val (seg l k (i+1))=Na.val (seg l k i)+Na.B^i*l[k+i].toNat:=by
 unfold seg;rw[Na.cO _ _ (by simp; omega)]; simp
theorem qZ(l:List UInt32)(k i:Nat)(x:UInt32)(h:k+i<l.length):Na.val (seg (l.set (k+i) x) k (i+1))=Na.val (seg l k i)+Na.B^i*x.toNat:=by
 rw[afX l k i x h,Na.jd,seg_length _ _ _ (by omega)]
def Turned(us ws:List UInt32)(k i:Nat):Prop:=ws.length=us.length∧ws.take k=us.take k∧ws.drop (k+i)=us.drop (k+i)
theorem Turned.refl(us:List UInt32)(k i:Nat):Turned us us k i:=⟨rfl,rfl,rfl⟩
theorem Turned.set{us ws:List UInt32}{k i:Nat}(h:Turned us ws k i)(x:UInt32):Turned us (ws.set (k+i) x) k (i+1):=by
 obtain⟨h1,h2,h3⟩:=h;refine⟨by simp[h1],?_,?_⟩
 ·rw[List.take_set_of_le (by omega),h2]
 rw[List.drop_set_of_lt (by omega)];have:ws.drop (k+i+1)=us.drop (k+i+1):=by rw[←aB9,h3,aB9]
 exact this
theorem Turned.get{us ws:List UInt32}{k i:Nat}(h:Turned us ws k i)(hl:k+i<us.length):ws[k+i]'(by rw[h.1]; exact hl)=us[k+i]:=by
 have h1:=azT (fun l=>l[0]?) h.2.2;have h2:=h.1;simp only[List.getElem?_drop,aBz]at h1;rw[List.getElem?_eq_getElem (by omega),List.getElem?_eq_getElem hl]at h1;exact azR h1
theorem UY{A W Y Q c bo U s lo x PY:Nat}(E:Nat)(h:A+E*(c+bo)=W+Q*Y)(y:Nat)(hs:s=c+Q*y)(hlo:lo=s%Na.B)(hu:U+Na.B*PY=x+lo+bo) :
  A+E*U+E*Na.B*(s/Na.B+PY)=W+E*x+Q*(Y+E*y):=by
 have h1:=aBg s Na.B;rw[←hlo]at h1;have e1:Q*(Y+E*y)=Q*Y+E*(Q*y):=by rw[az6,aBS]
 have e2:E*Na.B*(s/Na.B+PY)=E*(Na.B*(s/Na.B))+E*(Na.B*PY):=by rw[az6,aAs,aAs]
 have e3:E*U+E*(Na.B*PY)=E*x+E*lo+E*bo:=by rw[←az6,hu,az6,az6]
 have e4:E*lo+E*(Na.B*(s/Na.B))=E*c+E*(Q*y):=by rw[←az6,h1,hs,az6]
 rw[az6]at h;rw[e1,e2];omega
theorem Gl(U lo bo:Nat)(hU:U<4294967296)(hlo:lo<4294967296)(hbo:bo≤1):∃Z x PY:Nat,IntKind.u64.wrap (IntKind.u64.wrap ((U:Int)-(lo:Int))-(bo:Int))=(Z:Int) ∧
  (Z:Int)%4294967296=(x:Int)∧(Z:Int)/9223372036854775808=(PY:Int)∧PY≤1∧x<4294967296∧U+Na.B*PY=x+lo+bo:=by
 rw[aAX,aAX];unfold Na.B;by_cases h:lo+bo≤U
 ·exact⟨U-lo-bo,U-lo-bo,0,by omega,by omega,by omega,by omega,by omega,by omega⟩
 exact⟨U+18446744073709551616-lo-bo,U+4294967296-lo-bo,1,by omega,by omega,by omega,by omega,by omega,by omega⟩
theorem ab3(s:Nat)(hs:s<18446744073709551616):bits .and .u64 (s:Int) 4294967295=((s%Na.B:Nat):Int):=by
 have:=u64_and_nat s 4294967295 hs (by omega);rw[show((4294967295:Nat):Int)=4294967295 from rfl]at this;rw[this,nat_mask32]; rfl
theorem Gm(w:World)(row:Option Nat):w.grownBy w row:=⟨rfl,rfl,rfl,azJ _,fun _ _ _=>rfl⟩
theorem vW{a b c:World}{row:Option Nat}(h1:a.grownBy b row)(h2:b.grownBy c row):a.grownBy c row:=
 ⟨h2.os.trans h1.os,h2.tape.trans h1.tape,h2.output.trans h1.output,az3 h1.size h2.size,fun k hk hne=>(h2.block k (aAa hk h1.size) hne).trans (h1.block k hk hne)⟩
theorem take_any(g k n N cp cap:Nat)(us ys:List UInt32)(bv ov cv Q:Nat)(w0 w:World)(hn:ys.length=n)(hN:us.length=N)(hk:k+n+1≤N)(hN2:N≤1000000000)(hQ:Q<4294967296)
  (hv:∀i (h:i<ys.length),w0.cell? ⟨bv,ov+i,none⟩=some (aX ys[i])) (hbv:bv<w0.heap.size)
  (hown:w.ownsRow w0.heap.size 119 1 (.slice (some ⟨g,0,none⟩) N cap) N (us.map aX)) (hbel:Below w0.heap.size w0 w) :
  Calls prog 325 #[.slice (some ⟨g,k,none⟩) (n+1) cp,.slice (some ⟨bv,ov,none⟩) n cv,.int .u64 Q] w fun e w'=>∃(neg:Bool) (ws:List UInt32),e = .returned (.bool neg) ∧
   Turned us ws k (n+1)∧Na.val (seg us k (n+1))+(if neg then Na.B^(n+1)else 0)=Na.val (seg ws k (n+1))+Q*Na.val ys ∧
   w'.ownsRow w0.heap.size 119 1 (.slice (some ⟨g,0,none⟩) N cap) N (ws.map aX)∧Below w0.heap.size w0 w'∧w.grownBy w' (some g):=by
 have hgb:w0.heap.size≤g:=(hown.lt g rfl).1;have HV:=azF hv;have HN:=azF hn;have HNN:=azF hN;have HO:=azF hown;clear hv hn hN hown;go_enter func325,ntmps325
 go_wp2_with fail
 go_loopw [7,8,15] (fun cv bv iv wr=>∃(i c bo:Nat) (ws:List UInt32),i≤n∧iv = .i i∧cv = .int .u64 c∧bv = .int .u64 bo∧c<4294967296∧bo≤1∧Turned us ws k i ∧
  Na.val (seg us k i)+Na.B^i*(c+bo)=Na.val (seg ws k i)+Q*Na.val (ys.take i) ∧
  wr.ownsRow w0.heap.size 119 1 (.slice (some ⟨g,0,none⟩) N cap) N (ws.map aX)∧Below w0.heap.size w0 wr∧w.grownBy wr (some g)) (fun _ _ iv _=>n-(intOf iv).toNat)
 case atStart=>exact⟨0,0,0,us,by omega,rfl,rfl,rfl,by omega,by omega,Turned.refl _ _ _,by simp[seg,Na.val],HO.out,hbel,Gm _ _⟩
 case round =>
  obtain⟨i,c,bo,ws,hi,rfl,rfl,rfl,hc,hbo,htu,hval,hown,hbel,hgr⟩:=hrel;have pJ:=azF hval;have HTU:=azF htu;have HW:=azF hown;clear hval htu hown HO;have hwl:=HTU.out.1;by_cases hlt:i<n
  ·have hyl:i<ys.length:=by rw[HN.out]; exact hlt
   have hy:wr.cell? ⟨bv,ov+i,none⟩=some (aX ys[i]):=by rw[hbel.cell (p:=⟨bv,ov+i,none⟩) hbv]; exact HV.out i hyl
   have Qj:k+i<us.length:=by rw[HNN.out]; omega
   have hu:wr.cell? ⟨g,k+i,none⟩=some (aX us[k+i]):=by
    rw[HW.out.cellAt (k+i) (by omega),List.getElem?_map,List.getElem?_eq_getElem (by omega),aAv,HTU.out.get Qj]
   have hfz:=HW.out.frozenAt (k+i);have HY:=azF (Na.cO ys i hyl);have HU:=azF (jL us k i Qj);generalize ys[i]=y at hy HY;generalize us[k+i]=U at hu HU;have g1:=y.toNat_lt;have g2:=U.toNat_lt;have y0:=gG y;have u0:=gG U;obtain⟨qy,hqy⟩:∃qy,qy=Q*y.toNat:=⟨_,rfl⟩;have hmul:=KE hqy hQ g1;have hqb:qy≤18446744065119617025:=by rw[hqy]; exact aBo (show Q≤4294967295 by omega) (show y.toNat≤4294967295 by omega)
   obtain⟨s,hs⟩:∃s,s=c+qy:=⟨_,rfl⟩;have hsum:IntKind.u64.wrap ((c:Int)+(qy:Int))=(s:Int):=by rw[hs,←gY (c+qy) (by omega)]; simp
   have hsb:s<18446744073709551616:=by omega
   obtain⟨lo,hlo⟩:∃lo,lo=s%Na.B:=⟨_,rfl⟩;have hand:bits .and .u64 (s:Int) 4294967295=(lo:Int):=by rw[hlo]; exact ab3 s hsb
   have aql:lo<4294967296:=by rw[hlo]; exact aAY _ (by decide)
   obtain⟨Z,x,PY,hZ,hx,hb',afY,hxb,hu'⟩:=Gl U.toNat lo bo g2 aql hbo;obtain⟨c',hc'⟩:∃c',c'=s/Na.B:=⟨_,rfl⟩;have hcar:(s:Int)/4294967296=(c':Int):=by rw[hc']; simp[Na.B]
   have hcb:c'<4294967296:=by rw[hc']; exact aBQ hsb
   rw[hqy]at hs;have HS:=azF hs;have HLO:=azF hlo;have HC:=azF hc';have HUU:=azF hu';clear hqy hs hlo hc' hu' hqb hsb;go_wp2_with fail
   go_roundw
   case rel =>
    have hst:=(HW.out.stored (k+i) (aX (UInt32.ofNat x))).1;rw[←aBn]at hst;have hg2:=(HW.out.stored (k+i) (Value.int .u32 (x:Int))).2;refine⟨i+1,c',PY,ws.set (k+i) (UInt32.ofNat x),by omega,by go_num,rfl,rfl,hcb,afY,HTU.out.set _,?_,?_,?_,vW hgr hg2⟩
    ·rw[HU.out,HY.out,qZ _ _ _ _ (by omega),bV hxb,HC.out,aAr];exact UY (Na.B^i) pJ.out y.toNat HS.out HLO.out HUU.out
    ·simpa[aX,bV hxb]using hst
    exact hbel.setCell (p:=⟨g,k+i,none⟩) hgb _
   case measure=>simp[intOf]; omega
  obtain rfl:i=n:=by omega
  have Qj:k+i<us.length:=by rw[HNN.out]; omega
  have hu:wr.cell? ⟨g,k+i,none⟩=some (aX us[k+i]):=by
   rw[HW.out.cellAt (k+i) (by omega),List.getElem?_map,List.getElem?_eq_getElem (by omega),aAv,HTU.out.get Qj]
  have hfz:=HW.out.frozenAt (k+i);have HU:=azF (jL us k i Qj);generalize us[k+i]=U at hu HU;have g2:=U.toNat_lt;have u0:=gG U;obtain⟨Z,x,PY,hZ,hx,hb',afY,hxb,hu'⟩:=Gl U.toNat c bo g2 hc hbo;have HUU:=azF hu';clear hu';go_wp2_with fail
  go_ret
  have hst:=(HW.out.stored (k+i) (aX (UInt32.ofNat x))).1;rw[←aBn]at hst;refine⟨((PY:Int) != 0),ws.set (k+i) (UInt32.ofNat x),rfl,HTU.out.set _,?_,by simpa[aX,bV hxb]using hst,hbel.setCell (p:=⟨g,k+i,none⟩) hgb _,vW hgr (HW.out.stored (k+i) (Value.int .u32 (x:Int))).2⟩;have hv:=pJ.out;rw[←HN.out,aAA,HN.out]at hv;rw[HU.out,qZ _ _ _ _ (by omega),bV hxb,aAr];have h3:=HUU.out;have e:(if ((PY:Int) != 0)=true then Na.B^i*Na.B else 0)=Na.B^i*(Na.B*PY):=by
   rcases(show PY=0∨PY=1 by omega)with rfl | rfl<;>simp
  rw[e];have e3:Na.B^i*U.toNat+Na.B^i*(Na.B*PY)=Na.B^i*x+Na.B^i*(c+bo):=by rw[←az6,h3,←az6]; congr 1; omega
  omega
set_option linter.unusedVariables false
set_option linter.unusedSimpArgs false
theorem Qk(l:List UInt32)(k i:Nat)(h:k+i≤l.length):Na.val (l.drop k)=Na.val (seg l k i)+Na.B^i*Na.val (l.drop (k+i)):=by
 unfold seg;rw[Na.iR (l.drop k) i (by simp; omega),aB9]
theorem UZ(vs ut:List UInt32)(n j:Nat)(hv:vs.length=n+2)(hu:j+n+3≤ut.length)(hlt:Na.val (ut.drop (j+1))<Na.val vs) :
  Na.val (seg ut j (n+3))=Na.val (ut.drop j)∧Na.val (ut.drop (j+(n+3)))=0∧Na.val (ut.drop j)<Na.B*Na.val vs ∧
  (ut[j+(n+2)]'(by omega)).toNat≤(vs[n+1]'(by omega)).toNat ∧
  (∃L,L<Na.B^n∧Na.val (ut.drop j)=L+Na.B^n*((ut[j+n]'(by omega)).toNat+Na.B*(ut[j+(n+1)]'(by omega)).toNat+Na.B*Na.B*(ut[j+(n+2)]'(by omega)).toNat)) ∧
  (∃M,M<Na.B^n∧Na.val vs=M+Na.B^n*((vs[n]'(by omega)).toNat+Na.B*(vs[n+1]'(by omega)).toNat)):=by
 have hvl:=Na.dR vs;rw[hv]at hvl;have hd:=Na.nK ut j (by omega);have hd0:=(ut[j]'(by omega)).toNat_lt;have hPV:Na.val (ut.drop j)<Na.B*Na.val vs:=by
  have h1:Na.B*(Na.val (ut.drop (j+1))+1)≤Na.B*Na.val vs:=aAq _ hlt;rw[aA6]at h1;have:(ut[j]'(by omega)).toNat<Na.B:=hd0;omega
 have hs:=Qk ut j (n+3) (by omega);have hz:Na.val (ut.drop (j+(n+3)))=0:=by
  rcases aAt (Na.val (ut.drop (j+(n+3))))with h | h
  ·exact h
  have h1:Na.B^(n+3)*1≤Na.B^(n+3)*Na.val (ut.drop (j+(n+3))):=aAq _ h;have h2:Na.B*Na.val vs<Na.B*Na.B^(n+2):=aCu hvl Na.jU;rw[aAm Na.B (Na.B^(n+2)),←aAr]at h2;have h3:Na.B*Na.val vs<Na.B^(n+3):=h2;omega
 rw[hz,Nat.mul_zero,aBz]at hs;have s2:=jL ut j (n+2) (by omega);have s1:=jL ut j (n+1) (by omega);have s0:=jL ut j n (by omega);have l0:=Na.dR (seg ut j n);have l2:=Na.dR (seg ut j (n+2));rw[seg_length _ _ _ (by omega)]at l0 l2;have t1:=Na.cO vs (n+1) (by omega);have t0:=Na.cO vs n (by omega);rw[aAp (by omega)]at t1;have m0:=Na.dR (vs.take n);have m1:=Na.dR (vs.take (n+1));have e0:(vs.take n).length=n:=by simp; omega
 have e1:(vs.take (n+1)).length=n+1:=by simp; omega
 rw[e0]at m0;rw[e1]at m1;refine⟨hs.symm,hz,hPV,?_,⟨Na.val (seg ut j n),l0,?_⟩,⟨Na.val (vs.take n),m0,?_⟩⟩
 ·
  rw[hs,s2]at hPV;generalize (ut[j+(n+2)]'(by omega)).toNat=D2 at *;generalize (vs[n+1]'(by omega)).toNat=V1 at *;have h1:Na.B*Na.val vs<Na.B^(n+2)*(V1+1):=by
   have h2:Na.val vs<Na.B^(n+1)*(V1+1):=by rw[t1,aA6]; omega
   have h3:Na.B*Na.val vs<Na.B*(Na.B^(n+1)*(V1+1)):=aCu h2 Na.jU;rw[←aAs,aAm Na.B (Na.B^(n+1)),←aAr]at h3;exact h3
  have h4:Na.B^(n+2)*D2<Na.B^(n+2)*(V1+1):=by omega
  exact aCp (aCv h4)
 ·have ep1:Na.B^(n+1)=Na.B^n*Na.B:=aAr _ _;have ep2:Na.B^(n+2)=Na.B^n*Na.B*Na.B:=by rw[aAr,aAr]
  rw[hs,s2,s1,s0,ep2,ep1,az6,az6,aAs (Na.B^n) Na.B (ut[j+(n+1)]'(by omega)).toNat,aAs (Na.B^n) Na.B Na.B,aAs (Na.B^n) (Na.B*Na.B)];omega
 rw[t1,t0,aAr,az6,←aAs];omega
theorem ab4{us ut ws:List UInt32}{V Q q j:Nat}(hU:Na.val us=Na.val ut+Na.B^(j+1)*(V*Q))(hl:ws.length=ut.length)(hj:j≤ut.length)(ht:ws.take j=ut.take j)
  (hw:Na.val (ws.drop j)=Na.val (ut.drop j)%V) (hq:q=Na.val (ut.drop j)/V):Na.val us=Na.val ws+Na.B^j*(V*(q+Na.B*Q)):=by
 have h1:=Na.iR ut j hj;have h2:=Na.iR ws j (by omega);rw[ht,hw]at h2;have h3:=aBg (Na.val (ut.drop j)) V;rw[←hq]at h3;rw[hU,h1,h2];generalize Na.val (ut.drop j)%V=r at *;generalize Na.val (ut.drop j)=P at *;generalize Na.val (ut.take j)=A at *;clear hU h1 h2 hw hq;subst h3;rw[az6 (Na.B^j) r,az6 V q,aBS V Na.B Q,az6 (Na.B^j) (V*q),aAr,aAs (Na.B^j) Na.B];omega
theorem DX{ut ws:List UInt32}{j i:Nat}(h:Turned ut ws j i)(hl:j+i≤ut.length)(hz:Na.val (ut.drop (j+i))=0):Na.val (ws.drop j)=Na.val (seg ws j i):=by
 rw[Qk ws j i (by rw[h.1]; exact hl),h.2.2,hz]; simp
theorem ab5(c U y:Nat)(hc:c≤1)(hU:U<4294967296)(hy:y<4294967296) :
  ((c:Int)+((U:Int)+(y:Int)))/4294967296=(((c+(U+y))/Na.B:Nat):Int)∧((c:Int)+((U:Int)+(y:Int)))%4294967296=(((c+(U+y))%Na.B:Nat):Int) ∧
  (c+(U+y))%Na.B<4294967296∧(c+(U+y))/Na.B≤1:=by
 unfold Na.B;refine⟨by omega,by omega,by omega,by omega⟩
theorem ZG{A W Y c U y:Nat}(E:Nat)(h:A+E*c=W+Y):A+E*((c+(U+y))%Na.B)+E*Na.B*((c+(U+y))/Na.B)=W+E*U+(Y+E*y):=by
 have h1:=aBg (c+(U+y)) Na.B;have h2:E*((c+(U+y))%Na.B)+E*Na.B*((c+(U+y))/Na.B)=E*c+(E*U+E*y):=by
  rw[aAs,←az6,h1,az6,az6]
 omega
theorem ab6{A W V c U R E x:Nat}(h:A+E*c=W+V)(hx:x=W+E*U)(hs:x+V=E*Na.B+R)(hA:A<E)(hR:R<E)(hU:U<4294967296)(hc:c≤1) :
  A+E*((U+c)%Na.B)=R:=by
 subst hx;have h1:A+E*(U+c)=E*Na.B+R:=by rw[az6]; omega
 have h2:U+c=Na.B:=by
  rcases aCe (U+c) Na.B with h | h | h
  ·have h3:E*(U+c)+E≤E*Na.B:=by rw[←aA6]; exact aAq _ h
   omega
  ·exact h
  have hB:Na.B=4294967296:=rfl;omega
 rw[h2]at h1 ⊢;rw[Nat.mod_self]; omega
open Go.RowKit
variable{α:Type}
theorem Gn(n:Nat)(w:World)(hn:n<4294967296*4294967296) :
  Calls prog 294 #[.int .u64 (n:Int)] w fun e w'=>∃v',e = .returned v' ∧
   w'.ownsRow w.heap.size 119 1 v' (Na.au n).length ((Na.au n).map aX)∧Ext w w':=by
 have h:=qo (UInt64.ofNat n) w;have e:(UInt64.ofNat n).toNat=n:=by simp; omega
 unfold afS at h;rw[e]at h;exact h
theorem vX{a b:Nat}(h:b≤a):¬qN a b<0:=by unfold qN; rw[azG (by omega)]; split<;>omega
theorem ab7{a b:Nat}(h:a<b):qN a b<0:=by rw[AL h]; omega
theorem oq{n:Nat}(h:(Na.au n).length=0):n=0:=Na.kK.1 (aAZ h)
theorem Ql(v u:Value)(l m:List UInt32)(w:World)(hv:aC w v l)(hu:aC w u m)(hlt:Na.val l<Na.val m)(hlen:l.length≤1000000000) :
  Calls prog 293 #[v,u] w fun e w'=>∃r,e = .returned (.tuple #[.sn,r,.i 0])∧aC w' r (Na.au (Na.val l))∧Ext w w':=by
 have C1:=azF (short_any v l w hv);have C2:=azF (short_any u m w hu);have hb:0<(Na.au (Na.val m)).length:=by
  rcases aAt (Na.au (Na.val m)).length with h | h
  ·have:=oq h; omega
  exact h
 have hcv:=ab7 hlt;have ea:=Na.aB (Na.val l);have eb:=Na.aB (Na.val m);have hla:=bW l;rw[←ea,←eb]at hcv;clear hv hu hlt;generalize Na.au (Na.val l)=a at *;generalize Na.au (Na.val m)=b at *;have EA:=azF ea;have EB:=azF eb;clear ea eb;have hb0:((b.length:Int)==0)=false:=by rw[az8]; omega
 go_enter func293,ntmps293
 go_wp2_with fail
 refine C1.out.mono ?_;rintro e w' ⟨x,rfl,hx,rfl⟩;go_wp2_with fail
 refine C2.out.mono ?_;rintro e w' ⟨y,rfl,hy,rfl⟩;go_wp2_with fail
 refine(AO _ _ a b _ hx hy).mono ?_;rintro e w1 ⟨rfl,hb1⟩;generalize qN (Na.val a) (Na.val b)=c at hcv ⊢;go_wp2_with fail
 refine(XM _ a _ (hx.below hb1) (by omega)).mono ?_;rintro e w2 ⟨r,rfl,hown,hb2⟩;have hr:=aV hown;clear hown;go_wp2_with fail
 go_ret3
 exact⟨_,rfl,hr,Ext.trans' hb1 hb2⟩
theorem U0(v u:Value)(l m:List UInt32)(d:UInt32)(w:World)(hv:aC w v l)(hu:aC w u m)(hd:Na.au (Na.val m)=[d])(hge:Na.val m≤Na.val l)(hlen:l.length≤1000000000) :
  Calls prog 293 #[v,u] w fun e w'=>∃q r,e = .returned (.tuple #[q,r,.i 0])∧aC w' q (Na.au (Na.val l/Na.val m))∧aC w' r (Na.au (Na.val l%Na.val m))∧Ext w w':=by
 have C1:=azF (short_any v l w hv);have C2:=azF (short_any u m w hu);have eb:=Na.aB (Na.val m);have ed:Na.val m=d.toNat:=by rw[←eb,hd]; simp[Na.val]
 have hd0:0<d.toNat:=by
  rcases aAt d.toNat with h | h
  ·rw[h]at ed; rw[ed]at hd; simp[Na.au,Na.kJ]at hd
  exact h
 have hcv:=vX hge;have ea:=Na.aB (Na.val l);have hla:=bW l;rw[ed]at hcv ⊢;rw[hd]at C2;rw[←ea]at hcv;rw[←ea];clear hv hu hge eb;generalize Na.au (Na.val l)=a at *;have EA:=azF ea;clear ea;have hcv':¬qN (Na.val a) (Na.val [d])<0:=by simpa[Na.val]using hcv
 have ON:=fun w v h=>azF (one_any v a d w h hd0 (by omega));clear hcv ed hd;have hdl:=d.toNat_lt;have axk:Na.val a%d.toNat<4294967296:=by have:=aAY (Na.val a) hd0; omega
 go_enter func293,ntmps293
 go_wp2_with fail
 refine C1.out.mono ?_;rintro e w' ⟨x,rfl,hx,rfl⟩;go_wp2_with fail
 refine C2.out.mono ?_;rintro e w' ⟨y,rfl,hy,rfl⟩;obtain⟨by1,oy,cy,hys,hby,hly,hmy,hcy⟩:=dN hy rfl (by simp);simp only[aAg]at hys;obtain⟨rfl,-,-⟩:=hys;have hc0:=hcy 0 (by simp);simp only[aBz,aCj]at hc0;clear hcy;rw[show([d]:List UInt32).length=1 from rfl]at hy ⊢;go_wp2_with fail
 refine(AO _ _ a [d] _ hx hy).mono ?_;rintro e w1 ⟨rfl,hb1⟩;have hc1:w1.cell? ⟨by1,oy,none⟩=some (aX d):=(hb1.cell (p:=⟨by1,oy,none⟩) hby).trans hc0;generalize qN (Na.val a) (Na.val [d])=c at hcv' ⊢;clear hc0;go_wp2_with fail
 refine(ON _ _ (hx.below hb1)).out.mono ?_;rintro e w2 ⟨q,rfl,hq,hb2⟩;have hw:IntKind.u64.wrap ((Na.val a%d.toNat:Nat):Int)=((Na.val a%d.toNat:Nat):Int):=gY _ (by omega);have FU:=azF (Gn (Na.val a%d.toNat) w2 (by omega));generalize hrm:Na.val a%d.toNat=rm at *;have HRM:=azF hrm;clear hrm;go_wp2_with fail
 refine FU.out.mono ?_;rintro e w3 ⟨r,rfl,hown,hb3⟩;have hr:=aV hown;clear hown;go_wp2_with fail
 go_ret3
 exact⟨_,_,rfl,hq.below hb3,by rw[HRM.out]; exact hr,Ext.trans' hb1 (Ext.trans' hb2 hb3)⟩
open Go.RowKit
variable{α:Type}
theorem Turned.trans{us ws ts:List UInt32}{k i:Nat}(h1:Turned us ws k i)(h2:Turned ws ts k i):Turned us ts k i:=
 ⟨h2.1.trans h1.1,h2.2.1.trans h1.2.1,h2.2.2.trans h1.2.2⟩
theorem afZ{a b U V P q r:Nat}(hU:U=a*P)(hV:V=b*P)(h:U=r+V*q)(hr:r<V)(hP:0<P):q=a/b∧r/P=a%b:=by
 subst hU hV;have h1:b*q*P≤a*P:=by rw[Nat.mul_right_comm]; omega
 have h2:=Nat.le_of_mul_le_mul_right h1 hP;obtain⟨s,rfl⟩:∃s,a=s+b*q:=⟨a-b*q,by omega⟩;have h3:r=s*P:=by rw[aA8,Nat.mul_right_comm b q P]at h; omega
 subst h3;have h4:s<b:=Nat.lt_of_mul_lt_mul_right hr;rw[Nat.mul_div_cancel _ hP,aCf _ _ (by omega),Nat.add_mul_mod_self_left,aCg h4,aBw h4];exact⟨by omega,rfl⟩
theorem JE(v:Value)(l:List UInt32)(p:Nat)(w:World)(hv:aC w v l)(hp2:p≤31)(hlen:l.length≤1000000000) :
  Calls prog 323 #[v,.i (-(p:Int))] w fun e w'=>∃v',e = .returned v'∧aC w' v' (Na.au (Na.val l/2^p))∧Ext w w':=by
 rcases aAt p with rfl | hp
 ·have h:=yZ v l 0 w hv (by omega) hlen;refine h.mono ?_;rintro e w' ⟨a,rfl,hr,hb⟩;simp only[Nat.pow_zero,Nat.mul_one,Nat.div_one]at hr ⊢;exact⟨_,rfl,hr,hb⟩
 refine(UW v l p w hv hp hp2 hlen).mono ?_;rintro e w' ⟨a,rfl,hr,hb⟩;exact⟨_,rfl,hr,hb⟩
theorem ZH(b:List UInt32)(m:Nat)(hm:b.length=m+1)(hn:Na.norm b):∃p:Nat,(32:Int)-(Lib.bitLen (b[m]'(by omega)).toNat:Int)=(p:Int)∧p≤31 ∧
  (Na.au (Na.val b*2^p)).length=m+1∧∀(h:m<(Na.au (Na.val b*2^p)).length),2147483648≤((Na.au (Na.val b*2^p))[m]).toNat:=by
 have hx0:b[m]'(by omega)≠0:=by
  have:=Na.uG hn (by omega);simpa[hm]using this
 have hv:=Na.cO b m (by omega);rw[←hm,aAA]at hv;have ht:=Na.dR (b.take m);have e2:(b.take m).length=m:=by simp; omega
 rw[e2]at ht;generalize b[m]'(by omega)=x at *;have hb:1≤Lib.bitLen x.toNat∧2^(Lib.bitLen x.toNat-1)≤x.toNat∧x.toNat<2^Lib.bitLen x.toNat:=
  Lib.bitLenAux_bounds 64 _ (by have:=x.toNat_lt; omega) (fun e=>hx0 (aBf.1 (by simpa using e)))
 have hbl:=Lib.bitLen_le x.toNat 32 (by omega) x.toNat_lt;generalize Lib.bitLen x.toNat=c at *;refine⟨32-c,by omega,by omega,?_⟩;have hp1:2147483648≤x.toNat*2^(32-c):=by
  have h1:2^(c-1)*2^(32-c)=2147483648:=by rw[←aBx,show c-1+(32-c)=31 by omega]
  rw[←h1]; exact aA7 _ hb.2.1
 have hp2:(x.toNat+1)*2^(32-c)≤Na.B:=by
  have h1:2^c*2^(32-c)=Na.B:=by rw[←aBx,show c+(32-c)=32 by omega]; rfl
  rw[←h1]; exact aA7 _ hb.2.2
 have hpp:0<2^(32-c):=aA9 _;generalize 2^(32-c)=P at *;have hlo:Na.B^m*2147483648≤Na.val b*P:=by
  rw[hv,aA8,aAs];have:=aAq (Na.B^m) hp1;omega
 have hhi:Na.val b*P<Na.B^(m+1):=by
  have h1:Na.val b<Na.B^m*(x.toNat+1):=by rw[hv,aA6]; omega
  have h2:Na.val b*P<Na.B^m*(x.toNat+1)*P:=aCt h1 hpp;have h3:=aAq (Na.B^m) hp2;rw[aAr];rw[aAs]at h2;omega
 have hd:=Na.aB (Na.val b*P);have hnd:=Na.gI (Na.val b*P);generalize Na.val b*P=V at *;generalize Na.au V=l at *;have hB0:0<Na.B^m:=aCa Na.jU;have hll:l.length=m+1:=by
  have h1:=Na.length_le hnd (by rw[hd]; exact hhi);rcases aAx l.length (m+1)with h | h
  ·have h2:=Na.dR l;have h3:Na.B^l.length≤Na.B^m:=aAK Na.jU (by omega);have h4:Na.B^m*1≤Na.B^m*2147483648:=aAq _ (by omega);rw[hd]at h2;omega
  omega
 refine⟨hll,fun h=>?_⟩;have h1:=Na.cO l m h;rw[←hll,aAA,hd]at h1;have h2:=Na.dR (l.take m);have h3:(l.take m).length=m:=by simp; omega
 rw[h3]at h2;rcases aAx (l[m]).toNat 2147483648 with h4 | h4
 ·have h5:Na.B^m*((l[m]).toNat+1)≤Na.B^m*2147483648:=aAq _ h4;rw[aA6]at h5;omega
 exact h4
theorem U1{a b:List UInt32}(hb:Na.norm b)(h:Na.val b≤Na.val a):b.length≤a.length:=Na.length_le hb (aBY h (Na.dR a))
theorem ZI(a:List UInt32)(p:Nat)(hp:p≤31)(hn:Na.norm a):a.length≤(Na.au (Na.val a*2^p)).length∧(Na.au (Na.val a*2^p)).length≤a.length+1:=by
 have hv:=Na.dR a;have hP:0<2^p:=aA9 p;have hP2:2^p≤Na.B:=az3 (aAK (by omega) (show p≤32 by omega)) (azJ _);constructor
 ·rcases aAx (Na.au (Na.val a*2^p)).length a.length with h | h
  ·exfalso;have h1:=Na.dR (Na.au (Na.val a*2^p));rw[Na.aB]at h1;have h2:=Na.CJ hn (by omega);have h3:Na.B^(Na.au (Na.val a*2^p)).length≤Na.B^(a.length-1):=aAK Na.jU (by omega);have h4:Na.val a*1≤Na.val a*2^p:=aAq _ hP;omega
  exact h
 apply Na.bH;rw[aAr];exact aAa (aCt hv hP) (aAq _ hP2)
theorem Qm(v u:Value)(l m:List UInt32)(n:Nat)(w:World)(hv:aC w v l)(hu:aC w u m)(hn:(Na.au (Na.val m)).length=n+2)(hge:Na.val m≤Na.val l)(hlen:l.length≤100000000)(hlen2:m.length≤100000000) :
  Calls prog 293 #[v,u] w fun e w'=>∃q r,e = .returned (.tuple #[q,r,.i 0])∧aC w' q (Na.au (Na.val l/Na.val m))∧aC w' r (Na.au (Na.val l%Na.val m))∧Ext w w':=by
 have C1:=azF (short_any v l w hv);have C2:=azF (short_any u m w hu);have hla:=bW l;have hlb:=bW m;have ea:=Na.aB (Na.val l);have eb:=Na.aB (Na.val m);have na:=Na.gI (Na.val l);have nb:=Na.gI (Na.val m);have hcv:=vX hge;rw[←ea,←eb]at hcv hge;rw[←ea,←eb];clear hv hu ea eb;generalize Na.au (Na.val l)=a at *;generalize Na.au (Na.val m)=b at *;obtain⟨p,hp,Qn,hvl,hvt⟩:=ZH b (n+1) hn nb;have avy:=(b[n+1]'(by omega)).toNat_lt;have HGE:=azF hge;have HNA:=azF na;have HNB:=azF nb;have HVL:Hid ((Na.au (Na.val b*2^p)).length=n+2):=hvl;have HVT:=azF hvt;have HN:=azF hn;clear hge na nb hvl hvt;go_enter func293,ntmps293
 go_wp2_with fail
 refine C1.out.mono ?_;rintro e w' ⟨x,rfl,hx,rfl⟩;go_wp2_with fail
 refine C2.out.mono ?_;rintro e w' ⟨y,rfl,hy,rfl⟩;obtain⟨by1,oy,cy,hys,hby,hly,hmy,hcy⟩:=dN hy rfl (by omega);simp only[aAg]at hys;obtain⟨rfl,-,-⟩:=hys;have hct:=hcy (n+1) (by omega);clear hcy;go_wp2_with fail
 refine(AO _ _ a b _ hx (by rw[←HN.out]; exact hy)).mono ?_;rintro e w1 ⟨rfl,hb1⟩;have aqm:w1.cell? ⟨by1,oy+(n+1),none⟩=some (aX (b[n+1]'(by omega))):=(hb1.cell (p:=⟨by1,oy+(n+1),none⟩) hby).trans hct;clear hct;generalize qN (Na.val a) (Na.val b)=c at hcv ⊢;generalize b[n+1]'(by omega)=bt at *;have hn1:((n:Int)+2==1)=false:=by rw[az8]; omega
 go_wp2_with fail
 refine(Tryz.bits_LeadingZeros32 (bt.toNat:Int) _ (by omega) (by omega)).mono ?_;rintro e w' ⟨rfl,rfl⟩;rw[aBh,hp];clear hp;have hy1:=hy.below hb1;rw[HN.out]at hy1;have hx1:=hx.below hb1;go_wp2_with fail
 refine(yZ _ b p _ hy1 Qn (by omega)).mono ?_;rintro e w2 ⟨bv,rfl,hvv,hb2⟩;rw[HVL.out]at hvv ⊢;go_wp2_with fail
 refine(yZ _ a p _ (hx1.below hb2) Qn (by omega)).mono ?_;rintro e w3 ⟨bu,rfl,huu,hb3⟩;have Qj:=ZI a p Qn HNA.out;have amr:=hvv.below hb3;have aje:Ext w w3:=Ext.trans' hb1 (Ext.trans' hb2 hb3);have hVn:Na.val (Na.au (Na.val b*2^p))=Na.val b*2^p:=Na.aB _;have hUn:Na.val (Na.au (Na.val a*2^p))=Na.val a*2^p:=Na.aB _;generalize Na.au (Na.val b*2^p)=vs at *;generalize Na.au (Na.val a*2^p)=us at *;have HVn:=azF hVn;have HUn:=azF hUn;clear hVn hUn hvv hy hy1 hx hx1 aqm C1 C2;have r0:=nM w3 (.int .u32 0) 119 rfl;have ru:=CG (huu.raw (fun _=>rfl)) (.cells #[.int .u32 0] 119);have h63:us.length+1≤maxLen:=by unfold maxLen; omega
 have hby:(us.length+1)*4≤140737488355328:=by omega
 have b34:=aF w3 (.cells #[.int .u32 0] 119);have ajf:=amr.below b34;have ams:=Ext.trans' aje b34;clear huu amr hb1 hb2 hb3 b34;have hNa:¬((us.length:Int)+1≤(a.length:Int)):=by omega
 go_wp2_with (at_builtin; refine yj rfl _ _ _ rfl lI ru rfl r0 rfl (by decide) h63 hby ?_; intro uv w5 hown5 U2; obtain⟨g,cap,rfl,hgb,hNc,hcm⟩:=oz hown5 (Nat.succ_pos _))
 refine wp_loop_rounds 1 ?_;rw[aBT];have HO5:=azF hown5;have amu:=ajf.below U2;have aqn:=Ext.trans' ams U2;have hk0:vs.length≤us.length:=by
  have h1:=HVL.out;have h2:=HN.out;have h3:=U1 HNB.out HGE.out;omega
 clear hown5 ru r0 ams;obtain⟨K,hK⟩:∃K,us.length+1=K+(n+2):=⟨us.length+1-(n+2),by have h1:=HVL.out; omega⟩;have hKi:(us.length:Int)+1-((n:Int)+2)=(K:Int):=by omega
 have HK:=azF hK;have hK1:K≤us.length:=by omega
 have aqo:K≤maxLen:=by unfold maxLen; omega
 have aqp:4*K≤281474976710656:=by omega
 clear hK;go_wp2_with (at_make; refine wpList_make_row rfl _ _ _ rfl lI rfl w5.heap.size K rfl rfl rfl aqp aqo (azJ _) ?_; intro w6 hown6 hg6)
 have ajg:=gq (az5 w5.heap.size w5) hg6 (azJ _);have HO6:=azF hown6;have hg5:g<w5.heap.size:=(HO5.out.lt g rfl).2;have aqr:=amu.below ajg;clear hown6 hKi amu hNa aqr;obtain⟨bb,ob,cb,hvs,hbb,ajh,axl,amv⟩:=dN ajf HVL.out (by omega);simp only[aAg]at hvs;obtain⟨rfl,-,-⟩:=hvs;have hbw:w3.heap.size+1=(w3.alloc (.cells #[.int .u32 0] 119)).heap.size:=by simp
 have hg4:(w3.alloc (.cells #[.int .u32 0] 119)).heap.size≤g:=hgb;have amw:Ext w (w3.alloc (.cells #[.int .u32 0] 119)):=Ext.trans' aje (aF _ _);have af0:Ext (w3.alloc (.cells #[.int .u32 0] 119)) w6:=Ext.trans' U2 ajg;have H5:Hid (w6.ownsRow (w3.alloc (.cells #[.int .u32 0] 119)).heap.size 119 1 (.slice (some ⟨g,0,none⟩) (us.length+1) cap) (us.length+1) ((us++[0]).map aX)):=by
  have:=dL HO5.out ajg;unfold Hid;simpa[aX]using this
 clear ajf HO5 U2 aje aqn hbw hgb;generalize w3.alloc (.cells #[.int .u32 0] 119)=w4 at *;have HC:=azF amv;have XV:Na.B^(n+1)≤Na.val vs:=by
  have h0:n+1<vs.length:=by have:=HVL.out; omega
  have h1:=HVT.out h0;have h2:=Na.cO vs (n+1) h0;rw[aAp (by have:=HVL.out; omega)]at h2;have h3:Na.B^(n+1)*1≤Na.B^(n+1)*(vs[n+1]).toNat:=aAq _ (by omega);omega
 have HVP:=azF XV;clear XV;clear amv;go_loopw [13] (fun i wr=>∃(k:Nat) (ut qd:List UInt32),k≤K∧i = .i ((k:Int)-1)∧ut.length=us.length+1∧k+qd.length=K∧Na.val (ut.drop k)<Na.val vs ∧
  Na.val us=Na.val ut+Na.B^k*(Na.val vs*Na.val qd) ∧
  wr.ownsRow w4.heap.size 119 1 (.slice (some ⟨g,0,none⟩) (us.length+1) cap) (us.length+1) (ut.map aX) ∧
  wr.ownsRow w5.heap.size 119 1 (.slice (some ⟨w5.heap.size,0,none⟩) K K) K ((List.replicate k 0++qd).map aX)∧Below w4.heap.size w4 wr) (fun i _=>(intOf i+1).toNat)
 case atStart =>
  refine⟨K,us++[0],[],azJ _,rfl,by simp,by simp,?_,by simp[Na.val_append,Na.val],H5.out,by simpa[aX]using HO6.out,af0⟩;have h1:=HK.out;have h2:(us++[0]).drop K=us.drop K++[0]:=by rw[List.drop_append_of_le_length (by omega)]
  rw[h2,Na.jd];have h3:=Na.dR (us.drop K);have h4:(us.drop K).length=n+1:=by simp; omega
  rw[h4]at h3;have h5:=HVP.out;simp; omega
 case round =>
  obtain⟨k,ut,qd,hk,rfl,ZJ,hkq,hlt,hU,hou,hoq,hbel⟩:=hrel;have HOU:=azF hou;have HOQ:=azF hoq;have Qo:=azF ZJ;have HKQ:=azF hkq;have HU:=azF hU;clear hou hoq ZJ hkq hU;cases k with
  | zero =>
   have hqR:aC wr (.slice (some ⟨w5.heap.size,0,none⟩) K K) qd:=by
    have h1:=HOQ.out;have h2:=HKQ.out;rw[aAD]at h2;rw[←h2]at h1 ⊢;exact aV (l:=qd) h1
   have huR:aC wr (.slice (some ⟨g,0,none⟩) (us.length+1) cap) ut:=by
    have h1:=HOU.out;have h2:=Qo.out;rw[←h2]at h1 ⊢;exact aV (l:=ut) h1
   have hE:=afZ HUn.out HVn.out (by have h1:=HU.out; rw[Nat.pow_zero,Nat.one_mul]at h1; exact h1) (by rw[aCk]at hlt; exact hlt) (aA9 p);have HE:=azF hE;have aji:ut.length≤1000000000:=by have h1:=Qo.out; omega
   clear hE;go_wp2_with fail
   refine(short_any _ qd _ hqR).mono ?_;rintro e w' ⟨q',rfl,hq',rfl⟩;go_wp2_with fail
   refine(JE _ ut p _ huR Qn aji).mono ?_;rintro e w9 ⟨r',rfl,hr',hb9⟩;go_wp2_with fail
   go_ret3
   have hq9:=hq'.below hb9;rw[HE.out.1]at hq9;rw[HE.out.2]at hr';rw[HE.out.1];exact⟨_,_,rfl,hq9,hr',Ext.trans' amw (hbel.trans (hb9.mono hbel.size))⟩
  | succ j =>
   have hi:(((j+1:Nat):Int)-1)=(j:Int):=by omega
   rw[hi];clear hi;have hjc:j<cap:=by omega
   have hKK:=HK.out;have hpc:j+(n+2)+1≤cap:=by omega
   have hpl:j+(n+2)+1-j=n+3:=by omega
   have amx:j+n+3≤ut.length:=by have:=Qo.out; omega
   obtain⟨hf1,hf2,hf3,hf4,⟨L,hL1,hL2⟩,⟨M,hM1,hM2⟩⟩:=UZ vs ut n j HVL.out amx hlt;have hjN:∀i (h:i<ut.length),wr.cell? ⟨g,i,none⟩=some (aX ut[i]):=fun i h=>by
    rw[HOU.out.cellAt i (by have:=Qo.out; omega),List.getElem?_map,List.getElem?_eq_getElem h,aAv]
   have hvv:∀i (h:i<vs.length),wr.cell? ⟨bb,ob+i,none⟩=some (aX vs[i]):=fun i h=>by
    rw[hbel.cell (p:=⟨bb,ob+i,none⟩) hbb]; exact HC.out i h
   have i2:j+(n+2)<ut.length:=by omega
   have i1:j+(n+1)<ut.length:=by omega
   have i0:j+n<ut.length:=by omega
   have v1:n+1<vs.length:=by have:=HVL.out; omega
   have v0:n<vs.length:=by omega
   have ah7:=HVT.out v1;have hn9:n≤1000000000:=by omega
   have hg:=ZF g j (cap-j) bb ob (n+2) n _ _ _ _ _ wr hn9 (ut[j+(n+2)]'i2).toNat_lt (ut[j+(n+1)]'i1).toNat_lt (ut[j+n]'i0).toNat_lt
    (vs[n+1]'v1).toNat_lt (vs[n]'v0).toNat_lt ah7 hf4 (hjN _ i2) (hjN _ i1) (hjN _ i0) (hvv _ v1) (hvv _ v0)
   have XV:0<(vs[n+1]'v1).toNat:=aAa (by decide) ah7;have ah8:=fun q h1 h2 h3=>Na.ZK (q:=q) hL2 hL1 hM2 hM1 XV (ut[j+n]'i0).toNat_lt h1 hf3 h2 h3;have HG:=azF hg;have HGL:=azF ah8;have HF1:=azF hf1;have HF2:=azF hf2;have HF3:=azF hf3;clear hKK hf1 hf2 hf3 hf4 hL1 hL2 hM1 hM2 hjN hvv hg ah8;go_wp2_with fail
   refine HG.out.mono ?_;rintro e w7 ⟨q,rfl,hqB,hq1,hq2,hb7⟩;have hq:=HGL.out q hqB hq1 hq2;have HQ:=azF hq;clear HG HGL hq1 hq2 hq;have aqs:=azF (dL HOU.out hb7);have aqt:=azF (dL HOQ.out hb7);have amy:Below w4.heap.size w4 w7:=hbel.trans (hb7.mono hbel.size);go_wp2_with fail
   refine(take_any g j (n+2) (us.length+1) (cap-j) cap ut vs bb ob (n+2) q w4 w7 HVL.out Qo.out (by have:=Qo.out; omega) (by omega) hqB HC.out hbb aqs.out amy).mono ?_;rintro e w8 ⟨neg,ws,rfl,hturn,hval,ah9,aia,aqu⟩;have HT:=azF hturn;have HV8:=azF hval;have HO8:=azF ah9;have HQ8:=azF (aqt.out.kept aqu (by right; simp[Value.ownBlock]; omega));clear hturn hval ah9;have af2:0<Na.val vs:=aAa (aCa Na.jU) HVP.out;have hsl:seg ut j (n+2+1)=seg ut j (n+3):=rfl;have hx8:Na.val (seg ws j (n+2+1))<Na.B^(n+2+1):=by
    have h1:=Na.dR (seg ws j (n+2+1));rw[seg_length _ _ _ (by have:=HT.out.1; have:=Qo.out; omega)]at h1; exact h1
   have hv8:=HV8.out;rw[hsl,HF1.out]at hv8;have hstep:=Na.ab8 neg af2 HQ.out.1 HQ.out.2 hx8 hv8;have HS:=azF hstep;have HX8:=azF hx8;have hdz:Na.val (ut.drop (j+(n+2+1)))=0:=HF2.out;have HDZ:=azF hdz;obtain⟨⟨cv,hcell⟩,hfz⟩:=qY HQ8.out j (by omega);have hqi:(q:Int)%4294967296=q:=by omega
   clear hsl hx8 hv8 hstep hdz amx;have amA:w4.heap.size≤w5.heap.size:=by omega
   have heq:aX (UInt32.ofNat q) = .int .u32 (q:Int):=by simp only[aX,bV hqB]
   have HEQ:=azF heq;clear heq;cases neg with
   | false =>
    have HS1:=azF (HS.out.1 rfl);clear HS;go_wp2_with fail
    go_roundw
    case rel =>
     obtain⟨hxm,ZL⟩:=HS1.out;have hst:=HQ8.out.stored j (.int .u32 (q:Int));rw[←HEQ.out,aAB,aCh,Fe,HEQ.out]at hst;have hdrop:=DX HT.out (by have:=Qo.out; omega) HDZ.out;rw[hxm]at hdrop;refine⟨j,ws,UInt32.ofNat q::qd,by omega,rfl,HT.out.1.trans Qo.out,by have:=HKQ.out; simp; omega,by rw[hdrop]; exact aAY _ af2,?_,?_,?_,?_⟩
     ·have:=ab4 HU.out HT.out.1 (by have:=Qo.out; omega) HT.out.2.1 hdrop ZL;simp only[Na.val,bV hqB]; exact this
     ·exact HO8.out.kept hst.2 (by right; simp[Value.ownBlock]; omega)
     ·have h1:=hst.1;rw[←HEQ.out]at h1 ⊢;rw[aAB,aCh,aAu];exact h1
     exact aia.setCell (p:=⟨w5.heap.size,j,none⟩) amA _
    case measure=>simp[intOf]
   | true =>
    have HS1:=azF (HS.out.2 rfl);have hq1:=HS1.out.1;have hqm:(1:Int)≤q:=by omega
    clear HS hcell hfz;go_wp2_with fail
    go_loopw [16,105] (fun cv iv wr=>∃(i c:Nat) (wt:List UInt32),i≤n+2∧iv = .i i∧cv = .int .u64 c∧c≤1∧Turned ws wt j i ∧
     Na.val (seg wt j i)+Na.B^i*c=Na.val (seg ws j i)+Na.val (vs.take i) ∧
     wr.ownsRow w4.heap.size 119 1 (.slice (some ⟨g,0,none⟩) (us.length+1) cap) (us.length+1) (wt.map aX)∧w8.grownBy wr (some g)∧Below w4.heap.size w4 wr) (fun _ iv _=>n+2-(intOf iv).toNat)
    case atStart=>exact⟨0,0,ws,by omega,rfl,rfl,by omega,Turned.refl _ _ _,by simp[seg,Na.val],HO8.out,Gm _ _,aia⟩
    case round =>
     obtain⟨i,c,wt,hi,rfl,rfl,hc,htu,hval,hown,hgr,hbl⟩:=hrel;have HT9:=azF htu;have HV9:=azF hval;have HO9:=azF hown;clear htu hval hown;by_cases hlt2:i<n+2
     ·have Qj:j+i<ws.length:=by have ajj:=HT.out.1; have ZJ:=Qo.out; omega
      have hu:wr.cell? ⟨g,j+i,none⟩=some (aX (ws[j+i]'Qj)):=by
       rw[HO9.out.cellAt (j+i) (by have ajj:=HT.out.1; have ZJ:=Qo.out; omega),List.getElem?_map,List.getElem?_eq_getElem (by have hwl:=HT9.out.1; omega),aAv,HT9.out.get Qj]
      have hfz:=HO9.out.frozenAt (j+i);have HU9:=azF (jL ws j i Qj);have ajk:j+i<wt.length:=by have hwl:=HT9.out.1; omega
      generalize ws[j+i]'Qj=U at hu HU9;have g2:=U.toNat_lt;have u0:=gG U;have hyl:i<vs.length:=by have:=HVL.out; omega
      have hy:wr.cell? ⟨bb,ob+i,none⟩=some (aX vs[i]):=by rw[hbl.cell (p:=⟨bb,ob+i,none⟩) hbb]; exact HC.out i hyl
      have HY:=azF (Na.cO vs i hyl);generalize vs[i]=y at hy HY;have g1:=y.toNat_lt;have y0:=gG y;go_wp2_with fail
      go_roundw
      case rel =>
       obtain⟨z1,z2,z3,z4⟩:=ab5 c U.toNat y.toNat hc g2 g1;have hst:=HO9.out.stored (j+i) (.int .u32 (((c+(U.toNat+y.toNat))%Na.B:Nat):Int));have ez:aX (UInt32.ofNat ((c+(U.toNat+y.toNat))%Na.B)) = .int .u32 (((c+(U.toNat+y.toNat))%Na.B:Nat):Int):=by simp only[aX,bV z3]
       rw[←ez,←aBn,ez]at hst;rw[z1,z2];refine⟨i+1,(c+(U.toNat+y.toNat))/Na.B,wt.set (j+i) (UInt32.ofNat ((c+(U.toNat+y.toNat))%Na.B)),by omega,by go_num,rfl,z4,HT9.out.set _,?_,hst.1,vW hgr hst.2,hbl.setCell (p:=⟨g,j+i,none⟩) hg4 _⟩;rw[qZ _ _ _ _ ajk,HU9.out,HY.out,bV z3,aAr];exact ZG (Na.B^i) HV9.out
      case measure=>simp[intOf]; omega
     obtain rfl:i=n+2:=by omega
     have Qj:j+(n+2)<ws.length:=by have ajj:=HT.out.1; have ZJ:=Qo.out; omega
     have hu:wr.cell? ⟨g,j+(n+2),none⟩=some (aX (ws[j+(n+2)]'Qj)):=by
      rw[HO9.out.cellAt (j+(n+2)) (by have ajj:=HT.out.1; have ZJ:=Qo.out; omega),List.getElem?_map,List.getElem?_eq_getElem (by have hwl:=HT9.out.1; omega),aAv,HT9.out.get Qj]
     have hfz:=HO9.out.frozenAt (j+(n+2));have HU9:=azF (jL ws j (n+2) Qj);have ajk:j+(n+2)<wt.length:=by have hwl:=HT9.out.1; omega
     generalize ws[j+(n+2)]'Qj=U at hu HU9;have g2:=U.toNat_lt;have u0:=gG U;have HQ9:=azF (HQ8.out.kept hgr (by right; simp[Value.ownBlock]; omega));obtain⟨⟨cv,hcell⟩,axn⟩:=qY HQ9.out j (by omega);have axo:(c:Int)%4294967296=c:=by omega
     have axp:((q:Int)-1)%4294967296=(q:Int)-1:=by omega
     have axq:g≠w5.heap.size:=by omega
     go_wp2_with fail
     go_roundw
     case rel =>
      obtain⟨hq1',ZL,hxV⟩:=HS1.out;have hzb:(U.toNat+c)%Na.B<4294967296:=aAY _ (by decide);have ez:aX (UInt32.ofNat ((U.toNat+c)%Na.B)) = .int .u32 (((U.toNat:Int)+(c:Int))%4294967296):=by
       simp only[aX,bV hzb]; simp[Na.B]
      have eq':aX (UInt32.ofNat (q-1)) = .int .u32 ((q:Int)-1):=by
       simp only[aX,bV (show q-1<4294967296 by omega)]; congr 1; omega
      have hst:=HO9.out.stored (j+(n+2)) (.int .u32 (((U.toNat:Int)+(c:Int))%4294967296));rw[←ez,←aBn,ez]at hst;have hq9:=HQ9.out.kept hst.2 (by right; simp[Value.ownBlock]; omega);have hst2:=hq9.stored j (.int .u32 ((q:Int)-1));rw[←eq',aAB,aCh,Fe,eq']at hst2;have htt:=HT.out.trans (HT9.out.set (UInt32.ofNat ((U.toNat+c)%Na.B)));have hdrop:=DX htt (by have:=Qo.out; omega) HDZ.out;have hvt:=HV9.out;rw[aAp (by have:=HVL.out; omega)]at hvt;have hA:=Na.dR (seg wt j (n+2));rw[seg_length _ _ _ (by omega)]at hA;have amB:=Na.dR vs;rw[HVL.out]at amB;have hR:Na.val (ut.drop j)%Na.val vs<Na.B^(n+2):=Nat.lt_trans (aAY _ af2) amB;rw[aAr]at hxV;have hlast:=ab6 hvt HU9.out hxV hA hR g2 hc;rw[qZ _ _ _ _ ajk,bV hzb,hlast]at hdrop;refine⟨j,wt.set (j+(n+2)) (UInt32.ofNat ((U.toNat+c)%Na.B)),UInt32.ofNat (q-1)::qd,by omega,rfl,htt.1.trans Qo.out,by have:=HKQ.out; simp; omega,by rw[hdrop]; exact aAY _ af2,?_,?_,?_,?_⟩
      ·have:=ab4 HU.out htt.1 (by have:=Qo.out; omega) htt.2.1 hdrop ZL;simp only[Na.val,bV (show q-1<4294967296 by omega)]; exact this
      ·exact hst.1.kept hst2.2 (by right; simp[Value.ownBlock]; omega)
      ·have h1:=hst2.1;rw[←eq']at h1 ⊢;rw[aAB,aCh,aAu];exact h1
      exact(hbl.setCell (p:=⟨g,j+(n+2),none⟩) hg4 _).setCell (p:=⟨w5.heap.size,j,none⟩) amA _
     case measure=>simp[intOf]
open Go.RowKit
variable{α:Type}
theorem Gp(v u:Value)(l m:List UInt32)(w:World)(hv:aC w v l)(hu:aC w u m)(hm:0<Na.val m)(hlen:l.length≤100000000)(hlen2:m.length≤100000000) :
  Calls prog 293 #[v,u] w fun e w'=>∃q r,e = .returned (.tuple #[q,r,.i 0])∧aC w' q (Na.au (Na.val l/Na.val m))∧aC w' r (Na.au (Na.val l%Na.val m))∧Ext w w':=by
 rcases aAx (Na.val l) (Na.val m)with h | h
 ·refine(Ql v u l m w hv hu h (by omega)).mono ?_;rintro e w' ⟨r,rfl,hr,hb⟩;rw[aCg h,aBw h];exact⟨_,r,rfl,by rw[Na.kK.2 rfl]; exact Fg _,hr,hb⟩
 rcases hd:Na.au (Na.val m)with _ | ⟨d,_ | ⟨d2,t⟩⟩
 ·exact absurd (Na.kK.1 hd) (by omega)
 ·exact U0 v u l m d w hv hu hd h (by omega)
 exact Qm v u l m t.length w hv hu (by rw[hd]; simp) h hlen hlen2
open Go.RowKit
variable{α:Type}
theorem Np{f:α→Value}(hf:∀x y,f x=f y→x=y){w:World}{v:Value}{l l':List α}(h:dD f w v l)(h':dD f w v l'):l=l':=by
 obtain⟨a,cap,rfl,_,h⟩:=h;obtain⟨a',cap',hv,_,h'⟩:=h';simp only[aAg]at hv;obtain⟨rfl,hl,rfl⟩:=hv;apply List.ext_getElem hl;intro i h1 h2;rcases h with ⟨rfl,_⟩ | ⟨b,o,rfl,_,_,hc⟩
 ·simp at h1
 rcases h' with ⟨rfl,_⟩ | ⟨b',o',ha,_,_,hc'⟩
 ·simp at h2
 simp only[azK,aBI,and_true]at ha;obtain⟨rfl,rfl⟩:=ha;have e:=(hc i h1).symm.trans (hc' i h2);exact hf _ _ (azR e)
theorem ab9(x y:UInt32)(h:aX x=aX y):x=y:=by
 simp only[aX,Value.int.injEq,true_and]at h;exact aBf.1 (by omega)
open Classical in
noncomputable def valOf(w:World)(v:Value):Nat:=if h:∃l,aC w v l then Na.val h.choose else 0
theorem AQ{w:World}{v:Value}{l:List UInt32}(h:aC w v l):valOf w v=Na.val l:=by
 have h1:∃l,aC w v l:=⟨l,h⟩;unfold valOf;rw[dif_pos h1,Np ab9 h1.choose_spec h]
theorem fH{a b:Nat}(h:a≤b):(Na.au a).length≤(Na.au b).length:=
 Na.length_le (Na.gI a) (by have:=Na.dR (Na.au b); rw[Na.aB]at this ⊢; omega)
theorem af4(v u:Value)(l m:List UInt32)(w:World)(hv:aC w v l)(hu:aC w u m)(hlen:l.length≤100000000)(hlen2:m.length≤100000000) :
  Calls prog 291 #[v,u] w fun e w'=>∃g,e = .returned g∧aC w' g (Na.au (Nat.gcd (Na.val l) (Na.val m)))∧Ext w w':=by
 have C1:=azF (oK v l w hv (by omega));have hla:=bW l;have hlb:=bW m;go_enter func291,ntmps291
 go_wp2_with fail
 refine C1.out.mono ?_;rintro e w1 ⟨x,rfl,hx,hb1⟩;have hx:=aV hx;go_wp2_with fail
 refine(oK u m w1 (hu.below hb1) (by omega)).mono ?_;rintro e w2 ⟨y,rfl,hy,hb2⟩;have hy:=aV hy;have hx2:=hx.below hb2;have ajl:=Ext.trans' hb1 hb2;clear hx C1 hv hu;have HX:=azF hx2;have HY:=azF hy;clear hx2 hy;go_wp2_with fail
 go_loopw [0,1] (fun x y wr=>∃(A B:Nat),aC wr x (Na.au A)∧aC wr y (Na.au B)∧Nat.gcd A B=Nat.gcd (Na.val l) (Na.val m)∧(Na.au A).length≤100000000∧(Na.au B).length≤100000000∧Ext w wr) (fun _ y wr=>valOf wr y)
 case atStart=>exact⟨(Na.val l),(Na.val m),HX.out,HY.out,rfl,by omega,by omega,ajl⟩
 case round =>
  obtain⟨A,B,hx,hy,hg,hlA,hlB,hbel⟩:=hrel;have HM:=azF (AQ hy);have HG:=azF hg;have HX:=azF hx;have HY:=azF hy;clear hg hx hy;obtain⟨ay,cy,rfl⟩:=HY.out.shape;rcases aAt B with rfl | hB
  ·have h0:((Na.au 0).length:Int)=0:=by rw[Na.kK.2 rfl]; rfl
   go_wp2_with fail
   go_ret
   refine⟨_,rfl,?_,hbel⟩;rw[←HG.out,Nat.gcd_zero_right];exact HX.out
  have h0:(0:Int)<((Na.au B).length:Int):=by
   have:(Na.au B).length≠0:=fun h=>by have:=oq h; omega
   omega
  have hD:=Gp _ _ _ _ wr HX.out HY.out (by rw[Na.aB]; exact hB) hlA hlB;rw[Na.aB,Na.aB]at hD;have HD:=azF hD;clear hD;go_wp2_with fail
  refine HD.out.mono ?_;rintro e w' ⟨q,r,rfl,hq,hr,hb⟩;have HR:=azF hr;have HY':=azF (HY.out.below hb);clear hq hr;go_wp2_with fail
  go_roundw
  case rel => 
   refine⟨B,A%B,HY'.out,HR.out,?_,hlB,?_,Ext.trans' hbel hb⟩
   ·rw[←HG.out,Nat.gcd_comm A B,Nat.gcd_rec B A,Nat.gcd_comm]
   ·exact az3 (fH (aBy (aAY A hB))) hlB
  case measure =>
   rw[AQ HR.out,HM.out,Na.aB,Na.aB];exact aAY _ hB
end Go.Proofs.YtodpgjjgaddkeaaGreatDoor
