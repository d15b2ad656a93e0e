/- Walks of package natural: guess (the estimate of a quotient's digit). -/
import Derived.Test.YtodpgjjgaddkeaaGreatDoorNatW1
set_option maxHeartbeats 3200000
set_option maxRecDepth 100000
namespace Go.Proofs.YtodpgjjgaddkeaaGreatDoor
open _root_.Go.Proofs.Tryz
open Go.RowKit
variable{α:Type}
theorem gX(n:Nat)(h:n<18446744073709551616):IntKind.u64.wrap (n:Int)=(n:Int):=by rw[aAL]; omega
theorem Qh(r x:Nat)(h:r<4294967296)(hx:x<4294967296):bits .or .u64 ((r:Int)*4294967296) (x:Int)=((r*4294967296+x:Nat):Int):=by
 have e:((r:Int)*4294967296)=((r*4294967296:Nat):Int):=by simp
 rw[e,u64_or_nat _ _ (by omega) (by omega),nat_join 32 _ _ (by omega) (by omega)]
theorem Qi{q V:Nat}(hq:q<4294967296)(hV:V<4294967296):IntKind.u64.wrap ((q:Int)*(V:Int))=((q*V:Nat):Int):=by
 have h:=aBa (show q≤4294967295 by omega) (show V≤4294967295 by omega);have e:(q:Int)*(V:Int)=((q*V:Nat):Int):=by simp
 rw[e,gX _ (by omega)]
theorem ahT{q V r T:Nat}(h:(q+1)*V+r=T):q*V+(r+V)=T:=by rw[Nat.succ_mul]at h; omega
theorem ai7{x y r T:Nat}(h:x+r=T)(hr:4294967296≤r)(h2:y≤18446744073709551616)(D0:Nat):x*4294967296+y≤T*4294967296+D0:=by omega
theorem XK{q V r T V0:Nat}(D0:Nat)(h:q*V+r=T)(hr:4294967296≤r)(hT:T<(V+1)*4294967296)(hV0:V0≤4294967296) :
  q<4294967296∧q*(V*4294967296+V0)≤T*4294967296+D0:=by
 have h1:q<4294967296:=by
  rcases aAl q 4294967296 with h1 | h1
  ·exact h1
  have:=aAW V h1;rw[aAa 4294967296 V]at this; omega
 refine⟨h1,?_⟩;have h2:q*V0≤4294967296*4294967296:=aBa (aBp h1) hV0;rw[azU,←aAg];exact ai7 h hr h2 D0
theorem ai8{x y r T rd D0:Nat}(h:x+r=T)(hr:rd=r*4294967296+D0):(rd<y→T*4294967296+D0<x*4294967296+y)∧(¬rd<y→x*4294967296+y≤T*4294967296+D0):=by omega
theorem amg{q V r T V0 D0 qv rd:Nat}(h:q*V+r=T)(hqv:qv=q*V0)(hrd:rd=r*4294967296+D0) :
  (rd<qv→T*4294967296+D0<q*(V*4294967296+V0))∧(¬rd<qv→q*(V*4294967296+V0)≤T*4294967296+D0)∧(q=0→qv=0):=by
 rw[azU,←aAg,←hqv];obtain⟨h1,h2⟩:=ai8 (y:=qv) h hrd;exact⟨h1,h2,fun h=>by rw[hqv,h,Nat.zero_mul]⟩
theorem Kz{q V qv:Nat}(hqv:qv=q*V)(hq:q<4294967296)(hV:V<4294967296):IntKind.u64.wrap ((q:Int)*(V:Int))=(qv:Int):=by rw[hqv]; exact Qi hq hV
theorem ZB{r x rd:Nat}(h0:rd=r*4294967296+x)(h:r<4294967296)(hx:x<4294967296):bits .or .u64 ((r:Int)*4294967296) (x:Int)=(rd:Int):=by rw[h0]; exact Qh r x h hx
theorem FW{w:World}{a:Addr}{x:Value}(h:w.cell? a=some x):a.block<w.heap.size:=by
 unfold World.cell? at h;rcases aAl a.block w.heap.size with h' | h'
 ·exact h'
 rw[Array.getElem?_eq_none h']at h; simp at h
theorem ZC(bu ou cu bv ov cv m:Nat)(D2 D1 D0 V1 V0:Nat)(w:World)(hm:m≤1000000000)
  (hD2:D2<4294967296) (hD1:D1<4294967296) (hD0:D0<4294967296) (hV1:V1<4294967296) (hV0:V0<4294967296) (hV:2147483648≤V1) (hDV:D2≤V1)
  (c2:w.cell? ⟨bu,ou+(m+2),none⟩=some (.int .u32 D2)) (c1:w.cell? ⟨bu,ou+(m+1),none⟩=some (.int .u32 D1)) (c0:w.cell? ⟨bu,ou+m,none⟩=some (.int .u32 D0))
  (e1:w.cell? ⟨bv,ov+(m+1),none⟩=some (.int .u32 V1)) (e0:w.cell? ⟨bv,ov+m,none⟩=some (.int .u32 V0)) :
  Calls prog 324 #[.slice (some ⟨bu,ou,none⟩) (m+3) cu,.slice (some ⟨bv,ov,none⟩) (m+2) cv] w fun e w'=>∃q:Nat,e = .returned (.int .u64 q)∧q<4294967296 ∧
   q*(V1*4294967296+V0)≤(D2*4294967296+D1)*4294967296+D0 ∧
   (q=(D2*4294967296+D1)/V1∨4294967296≤q+1∨(D2*4294967296+D1)*4294967296+D0<(q+1)*(V1*4294967296+V0))∧Ext w w':=by
 obtain⟨T,hT⟩:∃T,T=D2*4294967296+D1:=⟨_,rfl⟩;have hj1:=Qh D2 D1 hD2 hD1;rw[←hT]at hj1 ⊢;have hTb:T<(V1+1)*4294967296:=by have:=aAW 4294967296 hDV; omega
 obtain⟨Q0,hQ⟩:∃Q,Q=T/V1:=⟨_,rfl⟩;obtain⟨R0,hR⟩:∃R,R=T%V1:=⟨_,rfl⟩;have hR1:R0<V1:=by rw[hR]; exact aAK _ (by omega)
 have hQR:Q0*V1+R0=T:=by rw[hQ,hR,aAa]; exact Nat.div_add_mod T V1
 have hq0:(T:Int)/(V1:Int)=(Q0:Int):=by rw[hQ]; rfl
 have hr0:(T:Int)%(V1:Int)=(R0:Int):=by rw[hR]; rfl
 have hQb:Q0<8589934592:=by
  rcases aAl Q0 8589934592 with h | h
  ·exact h
  have:=aBa h hV; omega
 have hqw:=gX Q0 (by omega);have w2:=gX D2 (by omega);have w1:=gX D1 (by omega);have w0:=gX D0 (by omega);have x1:=gX V1 (by omega);have x0:=gX V0 (by omega);have HT:=azt hT;have HQ:=azt hQ;have HQR:=azt hQR;rw[←hQ];have aw8:(1:Int)≤V1:=by omega
 have hTi:(0:Int)≤T:=by omega
 clear hT hQ hR hQR;go_enter func324,ntmps324
 go_wp2_with fail
 go_quiet (fail)
 go_wp2_with fail
 go_quiet (fail)
 go_wp2_with fail
 go_loopw [7,8] (fun qv rv wr=>∃q r:Nat,qv = .int .u64 q∧rv = .int .u64 r∧q≤Q0∧q*V1+r=T∧r<4294967296 ∧
  (q=Q0∨4294967296≤q+1∨T*4294967296+D0<(q+1)*(V1*4294967296+V0))∧Ext w wr) (fun _ rv _=>8589934592-(intOf rv).toNat)
 case atStart=>exact⟨Q0,R0,rfl,by rw[hr0],azx _,HQR.out,by omega,.inl rfl,below_drewN (below_drewN (azS _ _) _) _⟩
 case round =>
  obtain⟨q,r,rfl,rfl,hqQ,hqr,hr,hor,hbel⟩:=hrel;have d0:wr.cell? ⟨bu,ou+m,none⟩=some (.int .u32 D0):=(hbel.cell (p:=⟨bu,ou+m,none⟩) (FW c0)).trans c0;have f1:wr.cell? ⟨bv,ov+(m+1),none⟩=some (.int .u32 V1):=(hbel.cell (p:=⟨bv,ov+(m+1),none⟩) (FW e1)).trans e1;have f0:wr.cell? ⟨bv,ov+m,none⟩=some (.int .u32 V0):=(hbel.cell (p:=⟨bv,ov+m,none⟩) (FW e0)).trans e0;have hqb:q<8589934592:=by omega
  have HOR:=azt hor;have HE:=azt hqr;clear hor hqr c0 e1 e0;by_cases hqB:4294967296≤q
  ·have t1:((q:Int)/4294967296 != 0)=true:=by rw[bne_iff_ne]; omega
   obtain⟨q1,rfl⟩:∃q1,q=q1+1:=⟨q-1,by omega⟩;have hdec:=ahT HE.out;have t1:(((q1:Int)+1)/4294967296 != 0)=true:=by rw[bne_iff_ne]; omega
   have ab6:=azt hdec;have amh:4294967296≤q1+1:=hqB;clear hdec;go_wp2_with fail
   go_quiet (fail)
   go_wp2_with fail
   ·have t3 := ‹(((r:Int)+(V1:Int))/4294967296 != 0)=true›;rw[bne_iff_ne]at t3;obtain⟨h1,h2⟩:=XK (V0:=V0) D0 ab6.out (by omega) hTb (by omega);go_ret
    exact⟨q1,by go_num,h1,h2,.inr (.inl amh),below_drewN hbel _⟩
   have t3 := ‹(((r:Int)+(V1:Int))/4294967296 != 0)=false›;rw[bne_eq_false_iff_eq]at t3;go_roundw
   case rel=>exact⟨q1,r+V1,by go_num,by go_num,by omega,ab6.out,by omega,.inr (.inl amh),below_drewN hbel _⟩
   case measure=>simp[intOf]; omega
  have t1:((q:Int)/4294967296 != 0)=false:=by rw[bne_eq_false_iff_eq]; omega
  obtain⟨qv,hqv⟩:∃qv,qv=q*V0:=⟨_,rfl⟩;obtain⟨rd,hrd⟩:∃rd,rd=r*4294967296+D0:=⟨_,rfl⟩;have hm1:=Kz hqv (show q<4294967296 by omega) hV0;have hj2:=ZB hrd hr hD0;have HB:=azt (amg HE.out hqv hrd);clear hqv hrd;by_cases hgt:rd<qv
  ·have t2:(rd:Int)<qv:=by omega
   obtain⟨q1,rfl⟩:∃q1,q=q1+1:=by
    cases q with
    | zero=>exfalso; have:=HB.out.2.2 rfl; omega
    | succ q1=>exact⟨q1,rfl⟩
   have t1:(((q1:Int)+1)/4294967296 != 0)=false:=by rw[bne_eq_false_iff_eq]; omega
   have hm1:IntKind.u64.wrap (((q1:Int)+1)*(V0:Int))=(qv:Int):=by have:=hm1; simpa using this
   have ab6:=azt (ahT HE.out);go_wp2_with fail
   go_quiet (fail)
   go_wp2_with fail
   ·have t3 := ‹(((r:Int)+(V1:Int))/4294967296 != 0)=true›;rw[bne_iff_ne]at t3;obtain⟨h1,h2⟩:=XK (V0:=V0) D0 ab6.out (by omega) hTb (by omega);go_ret
    exact⟨q1,by go_num,h1,h2,.inr (.inr (HB.out.1 hgt)),below_drewN hbel _⟩
   have t3 := ‹(((r:Int)+(V1:Int))/4294967296 != 0)=false›;rw[bne_eq_false_iff_eq]at t3;go_roundw
   case rel=>exact⟨q1,r+V1,by go_num,by go_num,by omega,ab6.out,by omega,.inr (.inr (HB.out.1 hgt)),below_drewN hbel _⟩
   case measure=>simp[intOf]; omega
  have t2:¬(rd:Int)<qv:=by omega
  go_wp2_with fail
  go_quiet (fail)
  go_wp2_with fail
  go_ret
  exact⟨q,rfl,by omega,HB.out.2.1 hgt,HOR.out,below_drewN hbel _⟩
open Go.RowKit
variable{α:Type}
def seg(l:List UInt32)(k i:Nat):List UInt32:=(l.drop k).take i
theorem afR(l:List UInt32)(k i:Nat)(x:UInt32)(h:k+i<l.length):seg (l.set (k+i) x) k (i+1)=seg l k i++[x]:=by
 unfold seg;apply List.ext_getElem
 ·simp; omega
 intro j h1 h2;simp only[aB8,List.getElem_drop,List.getElem_set];rcases aAl j i with hj | hj
 ·rw[azu (by omega),List.getElem_append_left (by simp; omega)]; simp
 have:j=i:=by simp at h1; omega
 subst this;rw[azv rfl,List.getElem_append_right (by simp; omega)]; simp
theorem seg_length(l:List UInt32)(k i:Nat)(h:k+i≤l.length):(seg l k i).length=i:=by unfold seg; simp; omega
theorem jL(l:List UInt32)(k i:Nat)(h:k+i<l.length):Na.val (seg l k (i+1))=Na.val (seg l k i)+Na.B^i*l[k+i].toNat:=by
 unfold seg;rw[Na.dn _ _ (by simp; omega)]; simp
theorem qQ(l:List UInt32)(k i:Nat)(x:UInt32)(h:k+i<l.length):Na.val (seg (l.set (k+i) x) k (i+1))=Na.val (seg l k i)+Na.B^i*x.toNat:=by
 rw[afR l k i x h,Na.je,seg_length _ _ _ (by omega)]
def Turned(us ws:List UInt32)(k i:Nat):Prop:=ws.length=us.length∧ws.take k=us.take k∧ws.drop (k+i)=us.drop (k+i)
theorem Turned.refl(us:List UInt32)(k i:Nat):Turned us us k i:=⟨rfl,rfl,rfl⟩
theorem Turned.set{us ws:List UInt32}{k i:Nat}(h:Turned us ws k i)(x:UInt32):Turned us (ws.set (k+i) x) k (i+1):=by
 obtain⟨h1,h2,h3⟩:=h;refine⟨by simp[h1],?_,?_⟩
 ·rw[List.take_set_of_le (by omega),h2]
 rw[List.drop_set_of_lt (by omega)];have:ws.drop (k+i+1)=us.drop (k+i+1):=by rw[←aBY,h3,aBY]
 exact this
theorem Turned.get{us ws:List UInt32}{k i:Nat}(h:Turned us ws k i)(hl:k+i<us.length):ws[k+i]'(by rw[h.1]; exact hl)=us[k+i]:=by
 have h1:=azH (fun l=>l[0]?) h.2.2;have h2:=h.1;simp only[List.getElem?_drop,aBk]at h1;rw[List.getElem?_eq_getElem (by omega),List.getElem?_eq_getElem hl]at h1;exact azF h1
theorem UR{A W Y Q c bo U s lo x PV:Nat}(E:Nat)(h:A+E*(c+bo)=W+Q*Y)(y:Nat)(hs:s=c+Q*y)(hlo:lo=s%Na.B)(hu:U+Na.B*PV=x+lo+bo) :
  A+E*U+E*Na.B*(s/Na.B+PV)=W+E*x+Q*(Y+E*y):=by
 have h1:=aA5 s Na.B;rw[←hlo]at h1;have e1:Q*(Y+E*y)=Q*Y+E*(Q*y):=by rw[azU,aBG]
 have e2:E*Na.B*(s/Na.B+PV)=E*(Na.B*(s/Na.B))+E*(Na.B*PV):=by rw[azU,aAg,aAg]
 have e3:E*U+E*(Na.B*PV)=E*x+E*lo+E*bo:=by rw[←azU,hu,azU,azU]
 have e4:E*lo+E*(Na.B*(s/Na.B))=E*c+E*(Q*y):=by rw[←azU,h1,hs,azU]
 rw[azU]at h;rw[e1,e2];omega
theorem FX(U lo bo:Nat)(hU:U<4294967296)(hlo:lo<4294967296)(hbo:bo≤1):∃Z x PV:Nat,IntKind.u64.wrap (IntKind.u64.wrap ((U:Int)-(lo:Int))-(bo:Int))=(Z:Int) ∧
  (Z:Int)%4294967296=(x:Int)∧(Z:Int)/9223372036854775808=(PV:Int)∧PV≤1∧x<4294967296∧U+Na.B*PV=x+lo+bo:=by
 rw[aAL,aAL];unfold Na.B;by_cases h:lo+bo≤U
 ·exact⟨U-lo-bo,U-lo-bo,0,by omega,by omega,by omega,by omega,by omega,by omega⟩
 exact⟨U+18446744073709551616-lo-bo,U+4294967296-lo-bo,1,by omega,by omega,by omega,by omega,by omega,by omega⟩
theorem ab7(s:Nat)(hs:s<18446744073709551616):bits .and .u64 (s:Int) 4294967295=((s%Na.B:Nat):Int):=by
 have:=u64_and_nat s 4294967295 hs (by omega);rw[show((4294967295:Nat):Int)=4294967295 from rfl]at this;rw[this,nat_mask32]; rfl
theorem FY(w:World)(row:Option Nat):w.grownBy w row:=⟨rfl,rfl,rfl,azx _,fun _ _ _=>rfl⟩
theorem vN{a b c:World}{row:Option Nat}(h1:a.grownBy b row)(h2:b.grownBy c row):a.grownBy c row:=
 ⟨h2.os.trans h1.os,h2.tape.trans h1.tape,h2.output.trans h1.output,azQ h1.size h2.size,fun k hk hne=>(h2.block k (azY hk h1.size) hne).trans (h1.block k hk hne)⟩
theorem take_any(g k n N cp cap:Nat)(us ys:List UInt32)(bv ov cv Q:Nat)(w0 w:World)(hn:ys.length=n)(hN:us.length=N)(hk:k+n+1≤N)(hN2:N≤1000000000)(hQ:Q<4294967296)
  (hv:∀i (h:i<ys.length),w0.cell? ⟨bv,ov+i,none⟩=some (aW ys[i])) (hbv:bv<w0.heap.size)
  (hown:w.ownsRow w0.heap.size 119 1 (.slice (some ⟨g,0,none⟩) N cap) N (us.map aW)) (hbel:Below w0.heap.size w0 w) :
  Calls prog 325 #[.slice (some ⟨g,k,none⟩) (n+1) cp,.slice (some ⟨bv,ov,none⟩) n cv,.int .u64 Q] w fun e w'=>∃(neg:Bool) (ws:List UInt32),e = .returned (.bool neg) ∧
   Turned us ws k (n+1)∧Na.val (seg us k (n+1))+(if neg then Na.B^(n+1)else 0)=Na.val (seg ws k (n+1))+Q*Na.val ys ∧
   w'.ownsRow w0.heap.size 119 1 (.slice (some ⟨g,0,none⟩) N cap) N (ws.map aW)∧Below w0.heap.size w0 w'∧w.grownBy w' (some g):=by
 have hgb:w0.heap.size≤g:=(hown.lt g rfl).1;have HV:=azt hv;have HN:=azt hn;have HNN:=azt hN;have HO:=azt hown;clear hv hn hN hown;go_enter func325,ntmps325
 go_wp2_with fail
 go_loopw [7,8,15] (fun cv bv iv wr=>∃(i c bo:Nat) (ws:List UInt32),i≤n∧iv = .i i∧cv = .int .u64 c∧bv = .int .u64 bo∧c<4294967296∧bo≤1∧Turned us ws k i ∧
  Na.val (seg us k i)+Na.B^i*(c+bo)=Na.val (seg ws k i)+Q*Na.val (ys.take i) ∧
  wr.ownsRow w0.heap.size 119 1 (.slice (some ⟨g,0,none⟩) N cap) N (ws.map aW)∧Below w0.heap.size w0 wr∧w.grownBy wr (some g)) (fun _ _ iv _=>n-(intOf iv).toNat)
 case atStart=>exact⟨0,0,0,us,by omega,rfl,rfl,rfl,by omega,by omega,Turned.refl _ _ _,by simp[seg,Na.val],HO.out,hbel,FY _ _⟩
 case round =>
  obtain⟨i,c,bo,ws,hi,rfl,rfl,rfl,hc,hbo,htu,hval,hown,hbel,hgr⟩:=hrel;have pI:=azt hval;have HTU:=azt htu;have HW:=azt hown;clear hval htu hown HO;have hwl:=HTU.out.1;by_cases hlt:i<n
  ·have hyl:i<ys.length:=by rw[HN.out]; exact hlt
   have hy:wr.cell? ⟨bv,ov+i,none⟩=some (aW ys[i]):=by rw[hbel.cell (p:=⟨bv,ov+i,none⟩) hbv]; exact HV.out i hyl
   have Qj:k+i<us.length:=by rw[HNN.out]; omega
   have hu:wr.cell? ⟨g,k+i,none⟩=some (aW us[k+i]):=by
    rw[HW.out.cellAt (k+i) (by omega),List.getElem?_map,List.getElem?_eq_getElem (by omega),aAj,HTU.out.get Qj]
   have hfz:=HW.out.frozenAt (k+i);have HY:=azt (Na.dn ys i hyl);have HU:=azt (jL us k i Qj);generalize ys[i]=y at hy HY;generalize us[k+i]=U at hu HU;have g1:=y.toNat_lt;have g2:=U.toNat_lt;have y0:=gB y;have u0:=gB U;obtain⟨qy,hqy⟩:∃qy,qy=Q*y.toNat:=⟨_,rfl⟩;have hmul:=Kz hqy hQ g1;have hqb:qy≤18446744065119617025:=by rw[hqy]; exact aBa (show Q≤4294967295 by omega) (show y.toNat≤4294967295 by omega)
   obtain⟨s,hs⟩:∃s,s=c+qy:=⟨_,rfl⟩;have hsum:IntKind.u64.wrap ((c:Int)+(qy:Int))=(s:Int):=by rw[hs,←gX (c+qy) (by omega)]; simp
   have hsb:s<18446744073709551616:=by omega
   obtain⟨lo,hlo⟩:∃lo,lo=s%Na.B:=⟨_,rfl⟩;have hand:bits .and .u64 (s:Int) 4294967295=(lo:Int):=by rw[hlo]; exact ab7 s hsb
   have aqg:lo<4294967296:=by rw[hlo]; exact aAK _ (by decide)
   obtain⟨Z,x,PV,hZ,hx,hb',afS,hxb,hu'⟩:=FX U.toNat lo bo g2 aqg hbo;obtain⟨c',hc'⟩:∃c',c'=s/Na.B:=⟨_,rfl⟩;have hcar:(s:Int)/4294967296=(c':Int):=by rw[hc']; simp[Na.B]
   have hcb:c'<4294967296:=by rw[hc']; exact aBC hsb
   rw[hqy]at hs;have HS:=azt hs;have HLO:=azt hlo;have HC:=azt hc';have HUU:=azt hu';clear hqy hs hlo hc' hu' hqb hsb;go_wp2_with fail
   go_roundw
   case rel =>
    have hst:=(HW.out.stored (k+i) (aW (UInt32.ofNat x))).1;rw[←aBb]at hst;have hg2:=(HW.out.stored (k+i) (Value.int .u32 (x:Int))).2;refine⟨i+1,c',PV,ws.set (k+i) (UInt32.ofNat x),by omega,by go_num,rfl,rfl,hcb,afS,HTU.out.set _,?_,?_,?_,vN hgr hg2⟩
    ·rw[HU.out,HY.out,qQ _ _ _ _ (by omega),bV hxb,HC.out,aAd];exact UR (Na.B^i) pI.out y.toNat HS.out HLO.out HUU.out
    ·simpa[aW,bV hxb]using hst
    exact hbel.setCell (p:=⟨g,k+i,none⟩) hgb _
   case measure=>simp[intOf]; omega
  obtain rfl:i=n:=by omega
  have Qj:k+i<us.length:=by rw[HNN.out]; omega
  have hu:wr.cell? ⟨g,k+i,none⟩=some (aW us[k+i]):=by
   rw[HW.out.cellAt (k+i) (by omega),List.getElem?_map,List.getElem?_eq_getElem (by omega),aAj,HTU.out.get Qj]
  have hfz:=HW.out.frozenAt (k+i);have HU:=azt (jL us k i Qj);generalize us[k+i]=U at hu HU;have g2:=U.toNat_lt;have u0:=gB U;obtain⟨Z,x,PV,hZ,hx,hb',afS,hxb,hu'⟩:=FX U.toNat c bo g2 hc hbo;have HUU:=azt hu';clear hu';go_wp2_with fail
  go_ret
  have hst:=(HW.out.stored (k+i) (aW (UInt32.ofNat x))).1;rw[←aBb]at hst;refine⟨((PV:Int) != 0),ws.set (k+i) (UInt32.ofNat x),rfl,HTU.out.set _,?_,by simpa[aW,bV hxb]using hst,hbel.setCell (p:=⟨g,k+i,none⟩) hgb _,vN hgr (HW.out.stored (k+i) (Value.int .u32 (x:Int))).2⟩;have hv:=pI.out;rw[←HN.out,aAn,HN.out]at hv;rw[HU.out,qQ _ _ _ _ (by omega),bV hxb,aAd];have h3:=HUU.out;have e:(if ((PV:Int) != 0)=true then Na.B^i*Na.B else 0)=Na.B^i*(Na.B*PV):=by
   rcases(show PV=0∨PV=1 by omega)with rfl | rfl<;>simp
  rw[e];have e3:Na.B^i*U.toNat+Na.B^i*(Na.B*PV)=Na.B^i*x+Na.B^i*(c+bo):=by rw[←azU,h3,←azU]; congr 1; omega
  omega
set_option linter.unusedVariables false
set_option linter.unusedSimpArgs false
theorem Qk(l:List UInt32)(k i:Nat)(h:k+i≤l.length):Na.val (l.drop k)=Na.val (seg l k i)+Na.B^i*Na.val (l.drop (k+i)):=by
 unfold seg;rw[Na.iT (l.drop k) i (by simp; omega),aBY]
theorem UU(vs ut:List UInt32)(n j:Nat)(hv:vs.length=n+2)(hu:j+n+3≤ut.length)(hlt:Na.val (ut.drop (j+1))<Na.val vs) :
  Na.val (seg ut j (n+3))=Na.val (ut.drop j)∧Na.val (ut.drop (j+(n+3)))=0∧Na.val (ut.drop j)<Na.B*Na.val vs ∧
  (ut[j+(n+2)]'(by omega)).toNat≤(vs[n+1]'(by omega)).toNat ∧
  (∃L,L<Na.B^n∧Na.val (ut.drop j)=L+Na.B^n*((ut[j+n]'(by omega)).toNat+Na.B*(ut[j+(n+1)]'(by omega)).toNat+Na.B*Na.B*(ut[j+(n+2)]'(by omega)).toNat)) ∧
  (∃M,M<Na.B^n∧Na.val vs=M+Na.B^n*((vs[n]'(by omega)).toNat+Na.B*(vs[n+1]'(by omega)).toNat)):=by
 have hvl:=Na.dR vs;rw[hv]at hvl;have hd:=Na.nI ut j (by omega);have hd0:=(ut[j]'(by omega)).toNat_lt;have hPV:Na.val (ut.drop j)<Na.B*Na.val vs:=by
  have h1:Na.B*(Na.val (ut.drop (j+1))+1)≤Na.B*Na.val vs:=aAe _ hlt;rw[aAV]at h1;have:(ut[j]'(by omega)).toNat<Na.B:=hd0;omega
 have hs:=Qk ut j (n+3) (by omega);have hz:Na.val (ut.drop (j+(n+3)))=0:=by
  rcases aAf (Na.val (ut.drop (j+(n+3))))with h | h
  ·exact h
  have h1:Na.B^(n+3)*1≤Na.B^(n+3)*Na.val (ut.drop (j+(n+3))):=aAe _ h;have h2:Na.B*Na.val vs<Na.B*Na.B^(n+2):=aCj hvl Na.jU;rw[aAa Na.B (Na.B^(n+2)),←aAd]at h2;have h3:Na.B*Na.val vs<Na.B^(n+3):=h2;omega
 rw[hz,Nat.mul_zero,aBk]at hs;have s2:=jL ut j (n+2) (by omega);have s1:=jL ut j (n+1) (by omega);have s0:=jL ut j n (by omega);have l0:=Na.dR (seg ut j n);have l2:=Na.dR (seg ut j (n+2));rw[seg_length _ _ _ (by omega)]at l0 l2;have t1:=Na.dn vs (n+1) (by omega);have t0:=Na.dn vs n (by omega);rw[aAh (by omega)]at t1;have m0:=Na.dR (vs.take n);have m1:=Na.dR (vs.take (n+1));have e0:(vs.take n).length=n:=by simp; omega
 have e1:(vs.take (n+1)).length=n+1:=by simp; omega
 rw[e0]at m0;rw[e1]at m1;refine⟨hs.symm,hz,hPV,?_,⟨Na.val (seg ut j n),l0,?_⟩,⟨Na.val (vs.take n),m0,?_⟩⟩
 ·
  rw[hs,s2]at hPV;generalize (ut[j+(n+2)]'(by omega)).toNat=D2 at *;generalize (vs[n+1]'(by omega)).toNat=V1 at *;have h1:Na.B*Na.val vs<Na.B^(n+2)*(V1+1):=by
   have h2:Na.val vs<Na.B^(n+1)*(V1+1):=by rw[t1,aAV]; omega
   have h3:Na.B*Na.val vs<Na.B*(Na.B^(n+1)*(V1+1)):=aCj h2 Na.jU;rw[←aAg,aAa Na.B (Na.B^(n+1)),←aAd]at h3;exact h3
  have h4:Na.B^(n+2)*D2<Na.B^(n+2)*(V1+1):=by omega
  exact aCe (aCk h4)
 ·have ep1:Na.B^(n+1)=Na.B^n*Na.B:=aAd _ _;have ep2:Na.B^(n+2)=Na.B^n*Na.B*Na.B:=by rw[aAd,aAd]
  rw[hs,s2,s1,s0,ep2,ep1,azU,azU,aAg (Na.B^n) Na.B (ut[j+(n+1)]'(by omega)).toNat,aAg (Na.B^n) Na.B Na.B,aAg (Na.B^n) (Na.B*Na.B)];omega
 rw[t1,t0,aAd,azU,←aAg];omega
theorem ab8{us ut ws:List UInt32}{V Q q j:Nat}(hU:Na.val us=Na.val ut+Na.B^(j+1)*(V*Q))(hl:ws.length=ut.length)(hj:j≤ut.length)(ht:ws.take j=ut.take j)
  (hw:Na.val (ws.drop j)=Na.val (ut.drop j)%V) (hq:q=Na.val (ut.drop j)/V):Na.val us=Na.val ws+Na.B^j*(V*(q+Na.B*Q)):=by
 have h1:=Na.iT ut j hj;have h2:=Na.iT ws j (by omega);rw[ht,hw]at h2;have h3:=aA5 (Na.val (ut.drop j)) V;rw[←hq]at h3;rw[hU,h1,h2];generalize Na.val (ut.drop j)%V=r at *;generalize Na.val (ut.drop j)=P at *;generalize Na.val (ut.take j)=A at *;clear hU h1 h2 hw hq;subst h3;rw[azU (Na.B^j) r,azU V q,aBG V Na.B Q,azU (Na.B^j) (V*q),aAd,aAg (Na.B^j) Na.B];omega
theorem DF{ut ws:List UInt32}{j i:Nat}(h:Turned ut ws j i)(hl:j+i≤ut.length)(hz:Na.val (ut.drop (j+i))=0):Na.val (ws.drop j)=Na.val (seg ws j i):=by
 rw[Qk ws j i (by rw[h.1]; exact hl),h.2.2,hz]; simp
theorem ab9(c U y:Nat)(hc:c≤1)(hU:U<4294967296)(hy:y<4294967296) :
  ((c:Int)+((U:Int)+(y:Int)))/4294967296=(((c+(U+y))/Na.B:Nat):Int)∧((c:Int)+((U:Int)+(y:Int)))%4294967296=(((c+(U+y))%Na.B:Nat):Int) ∧
  (c+(U+y))%Na.B<4294967296∧(c+(U+y))/Na.B≤1:=by
 unfold Na.B;refine⟨by omega,by omega,by omega,by omega⟩
theorem ZE{A W Y c U y:Nat}(E:Nat)(h:A+E*c=W+Y):A+E*((c+(U+y))%Na.B)+E*Na.B*((c+(U+y))/Na.B)=W+E*U+(Y+E*y):=by
 have h1:=aA5 (c+(U+y)) Na.B;have h2:E*((c+(U+y))%Na.B)+E*Na.B*((c+(U+y))/Na.B)=E*c+(E*U+E*y):=by
  rw[aAg,←azU,h1,azU,azU]
 omega
theorem acd{A W V c U R E x:Nat}(h:A+E*c=W+V)(hx:x=W+E*U)(hs:x+V=E*Na.B+R)(hA:A<E)(hR:R<E)(hU:U<4294967296)(hc:c≤1) :
  A+E*((U+c)%Na.B)=R:=by
 subst hx;have h1:A+E*(U+c)=E*Na.B+R:=by rw[azU]; omega
 have h2:U+c=Na.B:=by
  rcases aB4 (U+c) Na.B with h | h | h
  ·have h3:E*(U+c)+E≤E*Na.B:=by rw[←aAV]; exact aAe _ h
   omega
  ·exact h
  have hB:Na.B=4294967296:=rfl;omega
 rw[h2]at h1 ⊢;rw[Nat.mod_self]; omega
open Go.RowKit
variable{α:Type}
theorem FZ(n:Nat)(w:World)(hn:n<4294967296*4294967296) :
  Calls prog 294 #[.int .u64 (n:Int)] w fun e w'=>∃v',e = .returned v' ∧
   w'.ownsRow w.heap.size 119 1 v' (Na.au n).length ((Na.au n).map aW)∧Ext w w':=by
 have h:=qh (UInt64.ofNat n) w;have e:(UInt64.ofNat n).toNat=n:=by simp; omega
 unfold afM at h;rw[e]at h;exact h
theorem vO{a b:Nat}(h:b≤a):¬qF a b<0:=by unfold qF; rw[azu (by omega)]; split<;>omega
theorem ace{a b:Nat}(h:a<b):qF a b<0:=by rw[Ar h]; omega
theorem og{n:Nat}(h:(Na.au n).length=0):n=0:=Na.kL.1 (aAO h)
theorem Ql(v u:Value)(l m:List UInt32)(w:World)(hv:aC w v l)(hu:aC w u m)(hlt:Na.val l<Na.val m)(hlen:l.length≤1000000000) :
  Calls prog 293 #[v,u] w fun e w'=>∃r,e = .returned (.tuple #[.sn,r,.i 0])∧aC w' r (Na.au (Na.val l))∧Ext w w':=by
 have C1:=azt (short_any v l w hv);have C2:=azt (short_any u m w hu);have hb:0<(Na.au (Na.val m)).length:=by
  rcases aAf (Na.au (Na.val m)).length with h | h
  ·have:=og h; omega
  exact h
 have hcv:=ace hlt;have ea:=Na.aB (Na.val l);have eb:=Na.aB (Na.val m);have hla:=bY l;rw[←ea,←eb]at hcv;clear hv hu hlt;generalize Na.au (Na.val l)=a at *;generalize Na.au (Na.val m)=b at *;have EA:=azt ea;have EB:=azt eb;clear ea eb;have hb0:((b.length:Int)==0)=false:=by rw[azW]; omega
 go_enter func293,ntmps293
 go_wp2_with fail
 refine C1.out.mono ?_;rintro e w' ⟨x,rfl,hx,rfl⟩;go_wp2_with fail
 refine C2.out.mono ?_;rintro e w' ⟨y,rfl,hy,rfl⟩;go_wp2_with fail
 refine(Au _ _ a b _ hx hy).mono ?_;rintro e w1 ⟨rfl,hb1⟩;generalize qF (Na.val a) (Na.val b)=c at hcv ⊢;go_wp2_with fail
 refine(XE _ a _ (hx.below hb1) (by omega)).mono ?_;rintro e w2 ⟨r,rfl,hown,hb2⟩;have hr:=aV hown;clear hown;go_wp2_with fail
 go_ret3
 exact⟨_,rfl,hr,Ext.trans' hb1 hb2⟩
theorem UW(v u:Value)(l m:List UInt32)(d:UInt32)(w:World)(hv:aC w v l)(hu:aC w u m)(hd:Na.au (Na.val m)=[d])(hge:Na.val m≤Na.val l)(hlen:l.length≤1000000000) :
  Calls prog 293 #[v,u] w fun e w'=>∃q r,e = .returned (.tuple #[q,r,.i 0])∧aC w' q (Na.au (Na.val l/Na.val m))∧aC w' r (Na.au (Na.val l%Na.val m))∧Ext w w':=by
 have C1:=azt (short_any v l w hv);have C2:=azt (short_any u m w hu);have eb:=Na.aB (Na.val m);have ed:Na.val m=d.toNat:=by rw[←eb,hd]; simp[Na.val]
 have hd0:0<d.toNat:=by
  rcases aAf d.toNat with h | h
  ·rw[h]at ed; rw[ed]at hd; simp[Na.au,Na.kK]at hd
  exact h
 have hcv:=vO hge;have ea:=Na.aB (Na.val l);have hla:=bY l;rw[ed]at hcv ⊢;rw[hd]at C2;rw[←ea]at hcv;rw[←ea];clear hv hu hge eb;generalize Na.au (Na.val l)=a at *;have EA:=azt ea;clear ea;have hcv':¬qF (Na.val a) (Na.val [d])<0:=by simpa[Na.val]using hcv
 have ON:=fun w v h=>azt (one_any v a d w h hd0 (by omega));clear hcv ed hd;have hdl:=d.toNat_lt;have aw9:Na.val a%d.toNat<4294967296:=by have:=aAK (Na.val a) hd0; omega
 go_enter func293,ntmps293
 go_wp2_with fail
 refine C1.out.mono ?_;rintro e w' ⟨x,rfl,hx,rfl⟩;go_wp2_with fail
 refine C2.out.mono ?_;rintro e w' ⟨y,rfl,hy,rfl⟩;obtain⟨by1,oy,cy,hys,hby,hly,hmy,hcy⟩:=dM hy rfl (by simp);simp only[az4]at hys;obtain⟨rfl,-,-⟩:=hys;have hc0:=hcy 0 (by simp);simp only[aBk,aB3]at hc0;clear hcy;rw[show([d]:List UInt32).length=1 from rfl]at hy ⊢;go_wp2_with fail
 refine(Au _ _ a [d] _ hx hy).mono ?_;rintro e w1 ⟨rfl,hb1⟩;have hc1:w1.cell? ⟨by1,oy,none⟩=some (aW d):=(hb1.cell (p:=⟨by1,oy,none⟩) hby).trans hc0;generalize qF (Na.val a) (Na.val [d])=c at hcv' ⊢;clear hc0;go_wp2_with fail
 refine(ON _ _ (hx.below hb1)).out.mono ?_;rintro e w2 ⟨q,rfl,hq,hb2⟩;have hw:IntKind.u64.wrap ((Na.val a%d.toNat:Nat):Int)=((Na.val a%d.toNat:Nat):Int):=gX _ (by omega);have FU:=azt (FZ (Na.val a%d.toNat) w2 (by omega));generalize hrm:Na.val a%d.toNat=rm at *;have HRM:=azt hrm;clear hrm;go_wp2_with fail
 refine FU.out.mono ?_;rintro e w3 ⟨r,rfl,hown,hb3⟩;have hr:=aV hown;clear hown;go_wp2_with fail
 go_ret3
 exact⟨_,_,rfl,hq.below hb3,by rw[HRM.out]; exact hr,Ext.trans' hb1 (Ext.trans' hb2 hb3)⟩
open Go.RowKit
variable{α:Type}
theorem Turned.trans{us ws ts:List UInt32}{k i:Nat}(h1:Turned us ws k i)(h2:Turned ws ts k i):Turned us ts k i:=
 ⟨h2.1.trans h1.1,h2.2.1.trans h1.2.1,h2.2.2.trans h1.2.2⟩
theorem afT{a b U V P q r:Nat}(hU:U=a*P)(hV:V=b*P)(h:U=r+V*q)(hr:r<V)(hP:0<P):q=a/b∧r/P=a%b:=by
 subst hU hV;have h1:b*q*P≤a*P:=by rw[Nat.mul_right_comm]; omega
 have h2:=Nat.le_of_mul_le_mul_right h1 hP;obtain⟨s,rfl⟩:∃s,a=s+b*q:=⟨a-b*q,by omega⟩;have h3:r=s*P:=by rw[aAX,Nat.mul_right_comm b q P]at h; omega
 subst h3;have h4:s<b:=Nat.lt_of_mul_lt_mul_right hr;rw[Nat.mul_div_cancel _ hP,aB5 _ _ (by omega),Nat.add_mul_mod_self_left,aB6 h4,aBl h4];exact⟨by omega,rfl⟩
theorem JB(v:Value)(l:List UInt32)(p:Nat)(w:World)(hv:aC w v l)(hp2:p≤31)(hlen:l.length≤1000000000) :
  Calls prog 323 #[v,.i (-(p:Int))] w fun e w'=>∃v',e = .returned v'∧aC w' v' (Na.au (Na.val l/2^p))∧Ext w w':=by
 rcases aAf p with rfl | hp
 ·have h:=yV v l 0 w hv (by omega) hlen;refine h.mono ?_;rintro e w' ⟨a,rfl,hr,hb⟩;simp only[Nat.pow_zero,Nat.mul_one,Nat.div_one]at hr ⊢;exact⟨_,rfl,hr,hb⟩
 refine(UQ v l p w hv hp hp2 hlen).mono ?_;rintro e w' ⟨a,rfl,hr,hb⟩;exact⟨_,rfl,hr,hb⟩
theorem ZF(b:List UInt32)(m:Nat)(hm:b.length=m+1)(hn:Na.norm b):∃p:Nat,(32:Int)-(Lib.bitLen (b[m]'(by omega)).toNat:Int)=(p:Int)∧p≤31 ∧
  (Na.au (Na.val b*2^p)).length=m+1∧∀(h:m<(Na.au (Na.val b*2^p)).length),2147483648≤((Na.au (Na.val b*2^p))[m]).toNat:=by
 have hx0:b[m]'(by omega)≠0:=by
  have:=Na.uj hn (by omega);simpa[hm]using this
 have hv:=Na.dn b m (by omega);rw[←hm,aAn]at hv;have ht:=Na.dR (b.take m);have e2:(b.take m).length=m:=by simp; omega
 rw[e2]at ht;generalize b[m]'(by omega)=x at *;have hb:1≤Lib.bitLen x.toNat∧2^(Lib.bitLen x.toNat-1)≤x.toNat∧x.toNat<2^Lib.bitLen x.toNat:=
  Lib.bitLenAux_bounds 64 _ (by have:=x.toNat_lt; omega) (fun e=>hx0 (aA4.1 (by simpa using e)))
 have hbl:=Lib.bitLen_le x.toNat 32 (by omega) x.toNat_lt;generalize Lib.bitLen x.toNat=c at *;refine⟨32-c,by omega,by omega,?_⟩;have hp1:2147483648≤x.toNat*2^(32-c):=by
  have h1:2^(c-1)*2^(32-c)=2147483648:=by rw[←aBo,show c-1+(32-c)=31 by omega]
  rw[←h1]; exact aAW _ hb.2.1
 have hp2:(x.toNat+1)*2^(32-c)≤Na.B:=by
  have h1:2^c*2^(32-c)=Na.B:=by rw[←aBo,show c+(32-c)=32 by omega]; rfl
  rw[←h1]; exact aAW _ hb.2.2
 have hpp:0<2^(32-c):=aAY _;generalize 2^(32-c)=P at *;have hlo:Na.B^m*2147483648≤Na.val b*P:=by
  rw[hv,aAX,aAg];have:=aAe (Na.B^m) hp1;omega
 have hhi:Na.val b*P<Na.B^(m+1):=by
  have h1:Na.val b<Na.B^m*(x.toNat+1):=by rw[hv,aAV]; omega
  have h2:Na.val b*P<Na.B^m*(x.toNat+1)*P:=aCi h1 hpp;have h3:=aAe (Na.B^m) hp2;rw[aAd];rw[aAg]at h2;omega
 have hd:=Na.aB (Na.val b*P);have hnd:=Na.gG (Na.val b*P);generalize Na.val b*P=V at *;generalize Na.au V=l at *;have hB0:0<Na.B^m:=aBZ Na.jU;have hll:l.length=m+1:=by
  have h1:=Na.length_le hnd (by rw[hd]; exact hhi);rcases aAl l.length (m+1)with h | h
  ·have h2:=Na.dR l;have h3:Na.B^l.length≤Na.B^m:=aAy Na.jU (by omega);have h4:Na.B^m*1≤Na.B^m*2147483648:=aAe _ (by omega);rw[hd]at h2;omega
  omega
 refine⟨hll,fun h=>?_⟩;have h1:=Na.dn l m h;rw[←hll,aAn,hd]at h1;have h2:=Na.dR (l.take m);have h3:(l.take m).length=m:=by simp; omega
 rw[h3]at h2;rcases aAl (l[m]).toNat 2147483648 with h4 | h4
 ·have h5:Na.B^m*((l[m]).toNat+1)≤Na.B^m*2147483648:=aAe _ h4;rw[aAV]at h5;omega
 exact h4
theorem UY{a b:List UInt32}(hb:Na.norm b)(h:Na.val b≤Na.val a):b.length≤a.length:=Na.length_le hb (aBM h (Na.dR a))
theorem ZG(a:List UInt32)(p:Nat)(hp:p≤31)(hn:Na.norm a):a.length≤(Na.au (Na.val a*2^p)).length∧(Na.au (Na.val a*2^p)).length≤a.length+1:=by
 have hv:=Na.dR a;have hP:0<2^p:=aAY p;have hP2:2^p≤Na.B:=azQ (aAy (by omega) (show p≤32 by omega)) (azx _);constructor
 ·rcases aAl (Na.au (Na.val a*2^p)).length a.length with h | h
  ·exfalso;have h1:=Na.dR (Na.au (Na.val a*2^p));rw[Na.aB]at h1;have h2:=Na.BZ hn (by omega);have h3:Na.B^(Na.au (Na.val a*2^p)).length≤Na.B^(a.length-1):=aAy Na.jU (by omega);have h4:Na.val a*1≤Na.val a*2^p:=aAe _ hP;omega
  exact h
 apply Na.bH;rw[aAd];exact azY (aCi hv hP) (aAe _ hP2)
theorem Qm(v u:Value)(l m:List UInt32)(n:Nat)(w:World)(hv:aC w v l)(hu:aC w u m)(hn:(Na.au (Na.val m)).length=n+2)(hge:Na.val m≤Na.val l)(hlen:l.length≤100000000)(hlen2:m.length≤100000000) :
  Calls prog 293 #[v,u] w fun e w'=>∃q r,e = .returned (.tuple #[q,r,.i 0])∧aC w' q (Na.au (Na.val l/Na.val m))∧aC w' r (Na.au (Na.val l%Na.val m))∧Ext w w':=by
 have C1:=azt (short_any v l w hv);have C2:=azt (short_any u m w hu);have hla:=bY l;have hlb:=bY m;have ea:=Na.aB (Na.val l);have eb:=Na.aB (Na.val m);have na:=Na.gG (Na.val l);have nb:=Na.gG (Na.val m);have hcv:=vO hge;rw[←ea,←eb]at hcv hge;rw[←ea,←eb];clear hv hu ea eb;generalize Na.au (Na.val l)=a at *;generalize Na.au (Na.val m)=b at *;obtain⟨p,hp,Qn,hvl,hvt⟩:=ZF b (n+1) hn nb;have avn:=(b[n+1]'(by omega)).toNat_lt;have HGE:=azt hge;have HNA:=azt na;have HNB:=azt nb;have HVL:Hid ((Na.au (Na.val b*2^p)).length=n+2):=hvl;have HVT:=azt hvt;have HN:=azt hn;clear hge na nb hvl hvt;go_enter func293,ntmps293
 go_wp2_with fail
 refine C1.out.mono ?_;rintro e w' ⟨x,rfl,hx,rfl⟩;go_wp2_with fail
 refine C2.out.mono ?_;rintro e w' ⟨y,rfl,hy,rfl⟩;obtain⟨by1,oy,cy,hys,hby,hly,hmy,hcy⟩:=dM hy rfl (by omega);simp only[az4]at hys;obtain⟨rfl,-,-⟩:=hys;have hct:=hcy (n+1) (by omega);clear hcy;go_wp2_with fail
 refine(Au _ _ a b _ hx (by rw[←HN.out]; exact hy)).mono ?_;rintro e w1 ⟨rfl,hb1⟩;have aqh:w1.cell? ⟨by1,oy+(n+1),none⟩=some (aW (b[n+1]'(by omega))):=(hb1.cell (p:=⟨by1,oy+(n+1),none⟩) hby).trans hct;clear hct;generalize qF (Na.val a) (Na.val b)=c at hcv ⊢;generalize b[n+1]'(by omega)=bt at *;have hn1:((n:Int)+2==1)=false:=by rw[azW]; omega
 go_wp2_with fail
 refine(Tryz.bits_LeadingZeros32 (bt.toNat:Int) _ (by omega) (by omega)).mono ?_;rintro e w' ⟨rfl,rfl⟩;rw[aA3,hp];clear hp;have hy1:=hy.below hb1;rw[HN.out]at hy1;have hx1:=hx.below hb1;go_wp2_with fail
 refine(yV _ b p _ hy1 Qn (by omega)).mono ?_;rintro e w2 ⟨bv,rfl,hvv,hb2⟩;rw[HVL.out]at hvv ⊢;go_wp2_with fail
 refine(yV _ a p _ (hx1.below hb2) Qn (by omega)).mono ?_;rintro e w3 ⟨bu,rfl,huu,hb3⟩;have Qj:=ZG a p Qn HNA.out;have ami:=hvv.below hb3;have ai9:Ext w w3:=Ext.trans' hb1 (Ext.trans' hb2 hb3);have hVn:Na.val (Na.au (Na.val b*2^p))=Na.val b*2^p:=Na.aB _;have hUn:Na.val (Na.au (Na.val a*2^p))=Na.val a*2^p:=Na.aB _;generalize Na.au (Na.val b*2^p)=vs at *;generalize Na.au (Na.val a*2^p)=us at *;have HVn:=azt hVn;have HUn:=azt hUn;clear hVn hUn hvv hy hy1 hx hx1 aqh C1 C2;have r0:=nG w3 (.int .u32 0) 119 rfl;have ru:=BX (huu.raw (fun _=>rfl)) (.cells #[.int .u32 0] 119);have h63:us.length+1≤maxLen:=by unfold maxLen; omega
 have hby:(us.length+1)*4≤140737488355328:=by omega
 have b34:=aF w3 (.cells #[.int .u32 0] 119);have aja:=ami.below b34;have amj:=Ext.trans' ai9 b34;clear huu ami hb1 hb2 hb3 b34;have hNa:¬((us.length:Int)+1≤(a.length:Int)):=by omega
 go_wp2_with (at_builtin; refine xX rfl _ _ _ rfl lK ru rfl r0 rfl (by decide) h63 hby ?_; intro uv w5 hown5 UZ; obtain⟨g,cap,rfl,hgb,hNc,hcm⟩:=oh hown5 (Nat.succ_pos _))
 refine wp_loop_rounds 1 ?_;rw[aBH];have HO5:=azt hown5;have amk:=aja.below UZ;have aqi:=Ext.trans' amj UZ;have hk0:vs.length≤us.length:=by
  have h1:=HVL.out;have h2:=HN.out;have h3:=UY HNB.out HGE.out;omega
 clear hown5 ru r0 amj;obtain⟨K,hK⟩:∃K,us.length+1=K+(n+2):=⟨us.length+1-(n+2),by have h1:=HVL.out; omega⟩;have hKi:(us.length:Int)+1-((n:Int)+2)=(K:Int):=by omega
 have HK:=azt hK;have hK1:K≤us.length:=by omega
 have aqj:K≤maxLen:=by unfold maxLen; omega
 have aqk:4*K≤281474976710656:=by omega
 clear hK;go_wp2_with (at_make; refine wpList_make_row rfl _ _ _ rfl lK rfl w5.heap.size K rfl rfl rfl aqk aqj (azx _) ?_; intro w6 hown6 hg6)
 have ajb:=gq (azS w5.heap.size w5) hg6 (azx _);have HO6:=azt hown6;have hg5:g<w5.heap.size:=(HO5.out.lt g rfl).2;have aql:=amk.below ajb;clear hown6 hKi amk hNa aql;obtain⟨bb,ob,cb,hvs,hbb,ajc,axa,aml⟩:=dM aja HVL.out (by omega);simp only[az4]at hvs;obtain⟨rfl,-,-⟩:=hvs;have hbw:w3.heap.size+1=(w3.alloc (.cells #[.int .u32 0] 119)).heap.size:=by simp
 have hg4:(w3.alloc (.cells #[.int .u32 0] 119)).heap.size≤g:=hgb;have amm:Ext w (w3.alloc (.cells #[.int .u32 0] 119)):=Ext.trans' ai9 (aF _ _);have afU:Ext (w3.alloc (.cells #[.int .u32 0] 119)) w6:=Ext.trans' UZ ajb;have H5:Hid (w6.ownsRow (w3.alloc (.cells #[.int .u32 0] 119)).heap.size 119 1 (.slice (some ⟨g,0,none⟩) (us.length+1) cap) (us.length+1) ((us++[0]).map aW)):=by
  have:=dK HO5.out ajb;unfold Hid;simpa[aW]using this
 clear aja HO5 UZ ai9 aqi hbw hgb;generalize w3.alloc (.cells #[.int .u32 0] 119)=w4 at *;have HC:=azt aml;have XL:Na.B^(n+1)≤Na.val vs:=by
  have h0:n+1<vs.length:=by have:=HVL.out; omega
  have h1:=HVT.out h0;have h2:=Na.dn vs (n+1) h0;rw[aAh (by have:=HVL.out; omega)]at h2;have h3:Na.B^(n+1)*1≤Na.B^(n+1)*(vs[n+1]).toNat:=aAe _ (by omega);omega
 have HVP:=azt XL;clear XL;clear aml;go_loopw [13] (fun i wr=>∃(k:Nat) (ut qd:List UInt32),k≤K∧i = .i ((k:Int)-1)∧ut.length=us.length+1∧k+qd.length=K∧Na.val (ut.drop k)<Na.val vs ∧
  Na.val us=Na.val ut+Na.B^k*(Na.val vs*Na.val qd) ∧
  wr.ownsRow w4.heap.size 119 1 (.slice (some ⟨g,0,none⟩) (us.length+1) cap) (us.length+1) (ut.map aW) ∧
  wr.ownsRow w5.heap.size 119 1 (.slice (some ⟨w5.heap.size,0,none⟩) K K) K ((List.replicate k 0++qd).map aW)∧Below w4.heap.size w4 wr) (fun i _=>(intOf i+1).toNat)
 case atStart =>
  refine⟨K,us++[0],[],azx _,rfl,by simp,by simp,?_,by simp[Na.val_append,Na.val],H5.out,by simpa[aW]using HO6.out,afU⟩;have h1:=HK.out;have h2:(us++[0]).drop K=us.drop K++[0]:=by rw[List.drop_append_of_le_length (by omega)]
  rw[h2,Na.je];have h3:=Na.dR (us.drop K);have h4:(us.drop K).length=n+1:=by simp; omega
  rw[h4]at h3;have h5:=HVP.out;simp; omega
 case round =>
  obtain⟨k,ut,qd,hk,rfl,ZH,hkq,hlt,hU,hou,hoq,hbel⟩:=hrel;have HOU:=azt hou;have HOQ:=azt hoq;have Qo:=azt ZH;have HKQ:=azt hkq;have HU:=azt hU;clear hou hoq ZH hkq hU;cases k with
  | zero =>
   have hqR:aC wr (.slice (some ⟨w5.heap.size,0,none⟩) K K) qd:=by
    have h1:=HOQ.out;have h2:=HKQ.out;rw[aAq]at h2;rw[←h2]at h1 ⊢;exact aV (l:=qd) h1
   have huR:aC wr (.slice (some ⟨g,0,none⟩) (us.length+1) cap) ut:=by
    have h1:=HOU.out;have h2:=Qo.out;rw[←h2]at h1 ⊢;exact aV (l:=ut) h1
   have hE:=afT HUn.out HVn.out (by have h1:=HU.out; rw[Nat.pow_zero,Nat.one_mul]at h1; exact h1) (by rw[aB9]at hlt; exact hlt) (aAY p);have HE:=azt hE;have ajd:ut.length≤1000000000:=by have h1:=Qo.out; omega
   clear hE;go_wp2_with fail
   refine(short_any _ qd _ hqR).mono ?_;rintro e w' ⟨q',rfl,hq',rfl⟩;go_wp2_with fail
   refine(JB _ ut p _ huR Qn ajd).mono ?_;rintro e w9 ⟨r',rfl,hr',hb9⟩;go_wp2_with fail
   go_ret3
   have hq9:=hq'.below hb9;rw[HE.out.1]at hq9;rw[HE.out.2]at hr';rw[HE.out.1];exact⟨_,_,rfl,hq9,hr',Ext.trans' amm (hbel.trans (hb9.mono hbel.size))⟩
  | succ j =>
   have hi:(((j+1:Nat):Int)-1)=(j:Int):=by omega
   rw[hi];clear hi;have hjc:j<cap:=by omega
   have hKK:=HK.out;have hpc:j+(n+2)+1≤cap:=by omega
   have hpl:j+(n+2)+1-j=n+3:=by omega
   have amn:j+n+3≤ut.length:=by have:=Qo.out; omega
   obtain⟨hf1,hf2,hf3,hf4,⟨L,hL1,hL2⟩,⟨M,hM1,hM2⟩⟩:=UU vs ut n j HVL.out amn hlt;have hjN:∀i (h:i<ut.length),wr.cell? ⟨g,i,none⟩=some (aW ut[i]):=fun i h=>by
    rw[HOU.out.cellAt i (by have:=Qo.out; omega),List.getElem?_map,List.getElem?_eq_getElem h,aAj]
   have hvv:∀i (h:i<vs.length),wr.cell? ⟨bb,ob+i,none⟩=some (aW vs[i]):=fun i h=>by
    rw[hbel.cell (p:=⟨bb,ob+i,none⟩) hbb]; exact HC.out i h
   have i2:j+(n+2)<ut.length:=by omega
   have i1:j+(n+1)<ut.length:=by omega
   have i0:j+n<ut.length:=by omega
   have v1:n+1<vs.length:=by have:=HVL.out; omega
   have v0:n<vs.length:=by omega
   have ahU:=HVT.out v1;have hn9:n≤1000000000:=by omega
   have hg:=ZC g j (cap-j) bb ob (n+2) n _ _ _ _ _ wr hn9 (ut[j+(n+2)]'i2).toNat_lt (ut[j+(n+1)]'i1).toNat_lt (ut[j+n]'i0).toNat_lt
    (vs[n+1]'v1).toNat_lt (vs[n]'v0).toNat_lt ahU hf4 (hjN _ i2) (hjN _ i1) (hjN _ i0) (hvv _ v1) (hvv _ v0)
   have XL:0<(vs[n+1]'v1).toNat:=azY (by decide) ahU;have ahV:=fun q h1 h2 h3=>Na.ZI (q:=q) hL2 hL1 hM2 hM1 XL (ut[j+n]'i0).toNat_lt h1 hf3 h2 h3;have HG:=azt hg;have HGL:=azt ahV;have HF1:=azt hf1;have HF2:=azt hf2;have HF3:=azt hf3;clear hKK hf1 hf2 hf3 hf4 hL1 hL2 hM1 hM2 hjN hvv hg ahV;go_wp2_with fail
   refine HG.out.mono ?_;rintro e w7 ⟨q,rfl,hqB,hq1,hq2,hb7⟩;have hq:=HGL.out q hqB hq1 hq2;have HQ:=azt hq;clear HG HGL hq1 hq2 hq;have aqm:=azt (dK HOU.out hb7);have aqn:=azt (dK HOQ.out hb7);have amo:Below w4.heap.size w4 w7:=hbel.trans (hb7.mono hbel.size);go_wp2_with fail
   refine(take_any g j (n+2) (us.length+1) (cap-j) cap ut vs bb ob (n+2) q w4 w7 HVL.out Qo.out (by have:=Qo.out; omega) (by omega) hqB HC.out hbb aqm.out amo).mono ?_;rintro e w8 ⟨neg,ws,rfl,hturn,hval,ahW,ahX,aqo⟩;have HT:=azt hturn;have HV8:=azt hval;have HO8:=azt ahW;have HQ8:=azt (aqn.out.kept aqo (by right; simp[Value.ownBlock]; omega));clear hturn hval ahW;have afV:0<Na.val vs:=azY (aBZ Na.jU) HVP.out;have hsl:seg ut j (n+2+1)=seg ut j (n+3):=rfl;have hx8:Na.val (seg ws j (n+2+1))<Na.B^(n+2+1):=by
    have h1:=Na.dR (seg ws j (n+2+1));rw[seg_length _ _ _ (by have:=HT.out.1; have:=Qo.out; omega)]at h1; exact h1
   have hv8:=HV8.out;rw[hsl,HF1.out]at hv8;have hstep:=Na.acf neg afV HQ.out.1 HQ.out.2 hx8 hv8;have HS:=azt hstep;have HX8:=azt hx8;have hdz:Na.val (ut.drop (j+(n+2+1)))=0:=HF2.out;have HDZ:=azt hdz;obtain⟨⟨cv,hcell⟩,hfz⟩:=qP HQ8.out j (by omega);have hqi:(q:Int)%4294967296=q:=by omega
   clear hsl hx8 hv8 hstep hdz amn;have amq:w4.heap.size≤w5.heap.size:=by omega
   have heq:aW (UInt32.ofNat q) = .int .u32 (q:Int):=by simp only[aW,bV hqB]
   have HEQ:=azt heq;clear heq;cases neg with
   | false =>
    have HS1:=azt (HS.out.1 rfl);clear HS;go_wp2_with fail
    go_roundw
    case rel =>
     obtain⟨hxm,ZJ⟩:=HS1.out;have hst:=HQ8.out.stored j (.int .u32 (q:Int));rw[←HEQ.out,aAo,aB7,EW,HEQ.out]at hst;have hdrop:=DF HT.out (by have:=Qo.out; omega) HDZ.out;rw[hxm]at hdrop;refine⟨j,ws,UInt32.ofNat q::qd,by omega,rfl,HT.out.1.trans Qo.out,by have:=HKQ.out; simp; omega,by rw[hdrop]; exact aAK _ afV,?_,?_,?_,?_⟩
     ·have:=ab8 HU.out HT.out.1 (by have:=Qo.out; omega) HT.out.2.1 hdrop ZJ;simp only[Na.val,bV hqB]; exact this
     ·exact HO8.out.kept hst.2 (by right; simp[Value.ownBlock]; omega)
     ·have h1:=hst.1;rw[←HEQ.out]at h1 ⊢;rw[aAo,aB7,aAi];exact h1
     exact ahX.setCell (p:=⟨w5.heap.size,j,none⟩) amq _
    case measure=>simp[intOf]
   | true =>
    have HS1:=azt (HS.out.2 rfl);have hq1:=HS1.out.1;have hqm:(1:Int)≤q:=by omega
    clear HS hcell hfz;go_wp2_with fail
    go_loopw [16,105] (fun cv iv wr=>∃(i c:Nat) (wt:List UInt32),i≤n+2∧iv = .i i∧cv = .int .u64 c∧c≤1∧Turned ws wt j i ∧
     Na.val (seg wt j i)+Na.B^i*c=Na.val (seg ws j i)+Na.val (vs.take i) ∧
     wr.ownsRow w4.heap.size 119 1 (.slice (some ⟨g,0,none⟩) (us.length+1) cap) (us.length+1) (wt.map aW)∧w8.grownBy wr (some g)∧Below w4.heap.size w4 wr) (fun _ iv _=>n+2-(intOf iv).toNat)
    case atStart=>exact⟨0,0,ws,by omega,rfl,rfl,by omega,Turned.refl _ _ _,by simp[seg,Na.val],HO8.out,FY _ _,ahX⟩
    case round =>
     obtain⟨i,c,wt,hi,rfl,rfl,hc,htu,hval,hown,hgr,hbl⟩:=hrel;have HT9:=azt htu;have HV9:=azt hval;have HO9:=azt hown;clear htu hval hown;by_cases hlt2:i<n+2
     ·have Qj:j+i<ws.length:=by have aje:=HT.out.1; have ZH:=Qo.out; omega
      have hu:wr.cell? ⟨g,j+i,none⟩=some (aW (ws[j+i]'Qj)):=by
       rw[HO9.out.cellAt (j+i) (by have aje:=HT.out.1; have ZH:=Qo.out; omega),List.getElem?_map,List.getElem?_eq_getElem (by have hwl:=HT9.out.1; omega),aAj,HT9.out.get Qj]
      have hfz:=HO9.out.frozenAt (j+i);have HU9:=azt (jL ws j i Qj);have ajf:j+i<wt.length:=by have hwl:=HT9.out.1; omega
      generalize ws[j+i]'Qj=U at hu HU9;have g2:=U.toNat_lt;have u0:=gB U;have hyl:i<vs.length:=by have:=HVL.out; omega
      have hy:wr.cell? ⟨bb,ob+i,none⟩=some (aW vs[i]):=by rw[hbl.cell (p:=⟨bb,ob+i,none⟩) hbb]; exact HC.out i hyl
      have HY:=azt (Na.dn vs i hyl);generalize vs[i]=y at hy HY;have g1:=y.toNat_lt;have y0:=gB y;go_wp2_with fail
      go_roundw
      case rel =>
       obtain⟨z1,z2,z3,z4⟩:=ab9 c U.toNat y.toNat hc g2 g1;have hst:=HO9.out.stored (j+i) (.int .u32 (((c+(U.toNat+y.toNat))%Na.B:Nat):Int));have ez:aW (UInt32.ofNat ((c+(U.toNat+y.toNat))%Na.B)) = .int .u32 (((c+(U.toNat+y.toNat))%Na.B:Nat):Int):=by simp only[aW,bV z3]
       rw[←ez,←aBb,ez]at hst;rw[z1,z2];refine⟨i+1,(c+(U.toNat+y.toNat))/Na.B,wt.set (j+i) (UInt32.ofNat ((c+(U.toNat+y.toNat))%Na.B)),by omega,by go_num,rfl,z4,HT9.out.set _,?_,hst.1,vN hgr hst.2,hbl.setCell (p:=⟨g,j+i,none⟩) hg4 _⟩;rw[qQ _ _ _ _ ajf,HU9.out,HY.out,bV z3,aAd];exact ZE (Na.B^i) HV9.out
      case measure=>simp[intOf]; omega
     obtain rfl:i=n+2:=by omega
     have Qj:j+(n+2)<ws.length:=by have aje:=HT.out.1; have ZH:=Qo.out; omega
     have hu:wr.cell? ⟨g,j+(n+2),none⟩=some (aW (ws[j+(n+2)]'Qj)):=by
      rw[HO9.out.cellAt (j+(n+2)) (by have aje:=HT.out.1; have ZH:=Qo.out; omega),List.getElem?_map,List.getElem?_eq_getElem (by have hwl:=HT9.out.1; omega),aAj,HT9.out.get Qj]
     have hfz:=HO9.out.frozenAt (j+(n+2));have HU9:=azt (jL ws j (n+2) Qj);have ajf:j+(n+2)<wt.length:=by have hwl:=HT9.out.1; omega
     generalize ws[j+(n+2)]'Qj=U at hu HU9;have g2:=U.toNat_lt;have u0:=gB U;have HQ9:=azt (HQ8.out.kept hgr (by right; simp[Value.ownBlock]; omega));obtain⟨⟨cv,hcell⟩,axb⟩:=qP HQ9.out j (by omega);have axc:(c:Int)%4294967296=c:=by omega
     have axd:((q:Int)-1)%4294967296=(q:Int)-1:=by omega
     have axe:g≠w5.heap.size:=by omega
     go_wp2_with fail
     go_roundw
     case rel =>
      obtain⟨hq1',ZJ,hxV⟩:=HS1.out;have hzb:(U.toNat+c)%Na.B<4294967296:=aAK _ (by decide);have ez:aW (UInt32.ofNat ((U.toNat+c)%Na.B)) = .int .u32 (((U.toNat:Int)+(c:Int))%4294967296):=by
       simp only[aW,bV hzb]; simp[Na.B]
      have eq':aW (UInt32.ofNat (q-1)) = .int .u32 ((q:Int)-1):=by
       simp only[aW,bV (show q-1<4294967296 by omega)]; congr 1; omega
      have hst:=HO9.out.stored (j+(n+2)) (.int .u32 (((U.toNat:Int)+(c:Int))%4294967296));rw[←ez,←aBb,ez]at hst;have hq9:=HQ9.out.kept hst.2 (by right; simp[Value.ownBlock]; omega);have hst2:=hq9.stored j (.int .u32 ((q:Int)-1));rw[←eq',aAo,aB7,EW,eq']at hst2;have htt:=HT.out.trans (HT9.out.set (UInt32.ofNat ((U.toNat+c)%Na.B)));have hdrop:=DF htt (by have:=Qo.out; omega) HDZ.out;have hvt:=HV9.out;rw[aAh (by have:=HVL.out; omega)]at hvt;have hA:=Na.dR (seg wt j (n+2));rw[seg_length _ _ _ (by omega)]at hA;have amr:=Na.dR vs;rw[HVL.out]at amr;have hR:Na.val (ut.drop j)%Na.val vs<Na.B^(n+2):=Nat.lt_trans (aAK _ afV) amr;rw[aAd]at hxV;have hlast:=acd hvt HU9.out hxV hA hR g2 hc;rw[qQ _ _ _ _ ajf,bV hzb,hlast]at hdrop;refine⟨j,wt.set (j+(n+2)) (UInt32.ofNat ((U.toNat+c)%Na.B)),UInt32.ofNat (q-1)::qd,by omega,rfl,htt.1.trans Qo.out,by have:=HKQ.out; simp; omega,by rw[hdrop]; exact aAK _ afV,?_,?_,?_,?_⟩
      ·have:=ab8 HU.out htt.1 (by have:=Qo.out; omega) htt.2.1 hdrop ZJ;simp only[Na.val,bV (show q-1<4294967296 by omega)]; exact this
      ·exact hst.1.kept hst2.2 (by right; simp[Value.ownBlock]; omega)
      ·have h1:=hst2.1;rw[←eq']at h1 ⊢;rw[aAo,aB7,aAi];exact h1
      exact(hbl.setCell (p:=⟨g,j+(n+2),none⟩) hg4 _).setCell (p:=⟨w5.heap.size,j,none⟩) amq _
     case measure=>simp[intOf]
open Go.RowKit
variable{α:Type}
theorem Gf(v u:Value)(l m:List UInt32)(w:World)(hv:aC w v l)(hu:aC w u m)(hm:0<Na.val m)(hlen:l.length≤100000000)(hlen2:m.length≤100000000) :
  Calls prog 293 #[v,u] w fun e w'=>∃q r,e = .returned (.tuple #[q,r,.i 0])∧aC w' q (Na.au (Na.val l/Na.val m))∧aC w' r (Na.au (Na.val l%Na.val m))∧Ext w w':=by
 rcases aAl (Na.val l) (Na.val m)with h | h
 ·refine(Ql v u l m w hv hu h (by omega)).mono ?_;rintro e w' ⟨r,rfl,hr,hb⟩;rw[aB6 h,aBl h];exact⟨_,r,rfl,by rw[Na.kL.2 rfl]; exact EX _,hr,hb⟩
 rcases hd:Na.au (Na.val m)with _ | ⟨d,_ | ⟨d2,t⟩⟩
 ·exact absurd (Na.kL.1 hd) (by omega)
 ·exact UW v u l m d w hv hu hd h (by omega)
 exact Qm v u l m t.length w hv hu (by rw[hd]; simp) h hlen hlen2
open Go.RowKit
variable{α:Type}
theorem Nv{f:α→Value}(hf:∀x y,f x=f y→x=y){w:World}{v:Value}{l l':List α}(h:dB f w v l)(h':dB f w v l'):l=l':=by
 obtain⟨a,cap,rfl,_,h⟩:=h;obtain⟨a',cap',hv,_,h'⟩:=h';simp only[az4]at hv;obtain⟨rfl,hl,rfl⟩:=hv;apply List.ext_getElem hl;intro i h1 h2;rcases h with ⟨rfl,_⟩ | ⟨b,o,rfl,_,_,hc⟩
 ·simp at h1
 rcases h' with ⟨rfl,_⟩ | ⟨b',o',ha,_,_,hc'⟩
 ·simp at h2
 simp only[azy,aBv,and_true]at ha;obtain⟨rfl,rfl⟩:=ha;have e:=(hc i h1).symm.trans (hc' i h2);exact hf _ _ (azF e)
theorem acg(x y:UInt32)(h:aW x=aW y):x=y:=by
 simp only[aW,Value.int.injEq,true_and]at h;exact aA4.1 (by omega)
open Classical in
noncomputable def valOf(w:World)(v:Value):Nat:=if h:∃l,aC w v l then Na.val h.choose else 0
theorem Aw{w:World}{v:Value}{l:List UInt32}(h:aC w v l):valOf w v=Na.val l:=by
 have h1:∃l,aC w v l:=⟨l,h⟩;unfold valOf;rw[dif_pos h1,Nv acg h1.choose_spec h]
theorem fG{a b:Nat}(h:a≤b):(Na.au a).length≤(Na.au b).length:=
 Na.length_le (Na.gG a) (by have:=Na.dR (Na.au b); rw[Na.aB]at this ⊢; omega)
theorem afW(v u:Value)(l m:List UInt32)(w:World)(hv:aC w v l)(hu:aC w u m)(hlen:l.length≤100000000)(hlen2:m.length≤100000000) :
  Calls prog 291 #[v,u] w fun e w'=>∃g,e = .returned g∧aC w' g (Na.au (Nat.gcd (Na.val l) (Na.val m)))∧Ext w w':=by
 have C1:=azt (oJ v l w hv (by omega));have hla:=bY l;have hlb:=bY m;go_enter func291,ntmps291
 go_wp2_with fail
 refine C1.out.mono ?_;rintro e w1 ⟨x,rfl,hx,hb1⟩;have hx:=aV hx;go_wp2_with fail
 refine(oJ u m w1 (hu.below hb1) (by omega)).mono ?_;rintro e w2 ⟨y,rfl,hy,hb2⟩;have hy:=aV hy;have hx2:=hx.below hb2;have ajg:=Ext.trans' hb1 hb2;clear hx C1 hv hu;have HX:=azt hx2;have HY:=azt hy;clear hx2 hy;go_wp2_with fail
 go_loopw [0,1] (fun x y wr=>∃(A B:Nat),aC wr x (Na.au A)∧aC wr y (Na.au B)∧Nat.gcd A B=Nat.gcd (Na.val l) (Na.val m)∧(Na.au A).length≤100000000∧(Na.au B).length≤100000000∧Ext w wr) (fun _ y wr=>valOf wr y)
 case atStart=>exact⟨(Na.val l),(Na.val m),HX.out,HY.out,rfl,by omega,by omega,ajg⟩
 case round =>
  obtain⟨A,B,hx,hy,hg,hlA,hlB,hbel⟩:=hrel;have HM:=azt (Aw hy);have HG:=azt hg;have HX:=azt hx;have HY:=azt hy;clear hg hx hy;obtain⟨ay,cy,rfl⟩:=HY.out.shape;rcases aAf B with rfl | hB
  ·have h0:((Na.au 0).length:Int)=0:=by rw[Na.kL.2 rfl]; rfl
   go_wp2_with fail
   go_ret
   refine⟨_,rfl,?_,hbel⟩;rw[←HG.out,Nat.gcd_zero_right];exact HX.out
  have h0:(0:Int)<((Na.au B).length:Int):=by
   have:(Na.au B).length≠0:=fun h=>by have:=og h; omega
   omega
  have hD:=Gf _ _ _ _ wr HX.out HY.out (by rw[Na.aB]; exact hB) hlA hlB;rw[Na.aB,Na.aB]at hD;have HD:=azt hD;clear hD;go_wp2_with fail
  refine HD.out.mono ?_;rintro e w' ⟨q,r,rfl,hq,hr,hb⟩;have HR:=azt hr;have HY':=azt (HY.out.below hb);clear hq hr;go_wp2_with fail
  go_roundw
  case rel => 
   refine⟨B,A%B,HY'.out,HR.out,?_,hlB,?_,Ext.trans' hbel hb⟩
   ·rw[←HG.out,Nat.gcd_comm A B,Nat.gcd_rec B A,Nat.gcd_comm]
   ·exact azQ (fG (aBp (aAK A hB))) hlB
  case measure =>
   rw[Aw HR.out,HM.out,Na.aB,Na.aB];exact aAK _ hB
end Go.Proofs.YtodpgjjgaddkeaaGreatDoor
