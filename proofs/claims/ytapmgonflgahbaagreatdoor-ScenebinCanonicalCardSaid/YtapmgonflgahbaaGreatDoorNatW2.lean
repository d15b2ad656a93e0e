/- Walks of package natural: guess (the estimate of a quotient's digit). -/
import Derived.Test.YtapmgonflgahbaaGreatDoorNatW1
set_option maxHeartbeats 3200000
set_option maxRecDepth 100000
namespace Go.Proofs.YtapmgonflgahbaaGreatDoor
open _root_.Go.Proofs.Tryz
open Go.RowKit
variable{α:Type}
theorem gY(n:Nat)(h:n<18446744073709551616):IntKind.u64.wrap (n:Int)=(n:Int):=by rw[axr]; omega
theorem OY(r x:Nat)(h:r<4294967296)(hx:x<4294967296):bits .or .u64 ((r:Int)*4294967296) (x:Int)=((r*4294967296+x:Nat):Int):=by
 have e:((r:Int)*4294967296)=((r*4294967296:Nat):Int):=by simp
 rw[e,u64_or_nat _ _ (by omega) (by omega),nat_join 32 _ _ (by omega) (by omega)]
theorem OZ{q V:Nat}(hq:q<4294967296)(hV:V<4294967296):IntKind.u64.wrap ((q:Int)*(V:Int))=((q*V:Nat):Int):=by
 have h:=axT (show q≤4294967295 by omega) (show V≤4294967295 by omega);have e:(q:Int)*(V:Int)=((q*V:Nat):Int):=by simp
 rw[e,gY _ (by omega)]
theorem agp{q V r T:Nat}(h:(q+1)*V+r=T):q*V+(r+V)=T:=by rw[Nat.succ_mul]at h; omega
theorem ahW{x y r T:Nat}(h:x+r=T)(hr:4294967296≤r)(h2:y≤18446744073709551616)(D0:Nat):x*4294967296+y≤T*4294967296+D0:=by omega
theorem VI{q V r T V0:Nat}(D0:Nat)(h:q*V+r=T)(hr:4294967296≤r)(hT:T<(V+1)*4294967296)(hV0:V0≤4294967296) :
  q<4294967296∧q*(V*4294967296+V0)≤T*4294967296+D0:=by
 have h1:q<4294967296:=by
  rcases aw4 q 4294967296 with h1 | h1
  ·exact h1
  have:=ax4 V h1;rw[awX 4294967296 V]at this; omega
 refine⟨h1,?_⟩;have h2:q*V0≤4294967296*4294967296:=axT (ax2 h1) hV0;rw[awH,←aw0];exact ahW h hr h2 D0
theorem ahX{x y r T rd D0:Nat}(h:x+r=T)(hr:rd=r*4294967296+D0):(rd<y→T*4294967296+D0<x*4294967296+y)∧(¬rd<y→x*4294967296+y≤T*4294967296+D0):=by omega
theorem ams{q V r T V0 D0 qv rd:Nat}(h:q*V+r=T)(hqv:qv=q*V0)(hrd:rd=r*4294967296+D0) :
  (rd<qv→T*4294967296+D0<q*(V*4294967296+V0))∧(¬rd<qv→q*(V*4294967296+V0)≤T*4294967296+D0)∧(q=0→qv=0):=by
 rw[awH,←aw0,←hqv];obtain⟨h1,h2⟩:=ahX (y:=qv) h hrd;exact⟨h1,h2,fun h=>by rw[hqv,h,Nat.zero_mul]⟩
theorem JD{q V qv:Nat}(hqv:qv=q*V)(hq:q<4294967296)(hV:V<4294967296):IntKind.u64.wrap ((q:Int)*(V:Int))=(qv:Int):=by rw[hqv]; exact OZ hq hV
theorem Yi{r x rd:Nat}(h0:rd=r*4294967296+x)(h:r<4294967296)(hx:x<4294967296):bits .or .u64 ((r:Int)*4294967296) (x:Int)=(rd:Int):=by rw[h0]; exact OY r x h hx
theorem FY{w:World}{a:Addr}{x:Value}(h:w.cell? a=some x):a.block<w.heap.size:=by
 unfold World.cell? at h;rcases aw4 a.block w.heap.size with h' | h'
 ·exact h'
 rw[Array.getElem?_eq_none h']at h; simp at h
theorem Yj(bu ou cu bv ov cv m:Nat)(D2 D1 D0 V1 V0:Nat)(w:World)(hm:m≤1000000000)
  (hD2:D2<4294967296) (hD1:D1<4294967296) (hD0:D0<4294967296) (hV1:V1<4294967296) (hV0:V0<4294967296) (hV:2147483648≤V1) (hDV:D2≤V1)
  (c2:w.cell? ⟨bu,ou+(m+2),none⟩=some (.int .u32 D2)) (c1:w.cell? ⟨bu,ou+(m+1),none⟩=some (.int .u32 D1)) (c0:w.cell? ⟨bu,ou+m,none⟩=some (.int .u32 D0))
  (e1:w.cell? ⟨bv,ov+(m+1),none⟩=some (.int .u32 V1)) (e0:w.cell? ⟨bv,ov+m,none⟩=some (.int .u32 V0)) :
  Calls prog 352 #[.slice (some ⟨bu,ou,none⟩) (m+3) cu,.slice (some ⟨bv,ov,none⟩) (m+2) cv] w fun e w'=>∃q:Nat,e = .returned (.int .u64 q)∧q<4294967296 ∧
   q*(V1*4294967296+V0)≤(D2*4294967296+D1)*4294967296+D0 ∧
   (q=(D2*4294967296+D1)/V1∨4294967296≤q+1∨(D2*4294967296+D1)*4294967296+D0<(q+1)*(V1*4294967296+V0))∧Ext w w':=by
 obtain⟨T,hT⟩:∃T,T=D2*4294967296+D1:=⟨_,rfl⟩;have hj1:=OY D2 D1 hD2 hD1;rw[←hT]at hj1 ⊢;have hTb:T<(V1+1)*4294967296:=by have:=ax4 4294967296 hDV; omega
 obtain⟨Q0,hQ⟩:∃Q,Q=T/V1:=⟨_,rfl⟩;obtain⟨R0,hR⟩:∃R,R=T%V1:=⟨_,rfl⟩;have hR1:R0<V1:=by rw[hR]; exact axv _ (by omega)
 have hQR:Q0*V1+R0=T:=by rw[hQ,hR,awX]; exact Nat.div_add_mod T V1
 have hq0:(T:Int)/(V1:Int)=(Q0:Int):=by rw[hQ]; rfl
 have hr0:(T:Int)%(V1:Int)=(R0:Int):=by rw[hR]; rfl
 have hQb:Q0<8589934592:=by
  rcases aw4 Q0 8589934592 with h | h
  ·exact h
  have:=axT h hV; omega
 have hqw:=gY Q0 (by omega);have w2:=gY D2 (by omega);have w1:=gY D1 (by omega);have w0:=gY D0 (by omega);have x1:=gY V1 (by omega);have x0:=gY V0 (by omega);have HT:=awf hT;have HQ:=awf hQ;have HQR:=awf hQR;rw[←hQ];have auO:(1:Int)≤V1:=by omega
 have hTi:(0:Int)≤T:=by omega
 clear hT hQ hR hQR;go_enter func352,ntmps352
 go_wp2_with fail
 go_quiet (fail)
 go_wp2_with fail
 go_quiet (fail)
 go_wp2_with fail
 go_loopw [7,8] (fun qv rv wr=>∃q r:Nat,qv = .int .u64 q∧rv = .int .u64 r∧q≤Q0∧q*V1+r=T∧r<4294967296 ∧
  (q=Q0∨4294967296≤q+1∨T*4294967296+D0<(q+1)*(V1*4294967296+V0))∧Ext w wr) (fun _ rv _=>8589934592-(intOf rv).toNat)
 case atStart=>exact⟨Q0,R0,rfl,by rw[hr0],awm _,HQR.out,by omega,.inl rfl,below_drewN (below_drewN (awD _ _) _) _⟩
 case round =>
  obtain⟨q,r,rfl,rfl,hqQ,hqr,hr,hor,hbel⟩:=hrel;have d0:wr.cell? ⟨bu,ou+m,none⟩=some (.int .u32 D0):=(hbel.cell (p:=⟨bu,ou+m,none⟩) (FY c0)).trans c0;have f1:wr.cell? ⟨bv,ov+(m+1),none⟩=some (.int .u32 V1):=(hbel.cell (p:=⟨bv,ov+(m+1),none⟩) (FY e1)).trans e1;have f0:wr.cell? ⟨bv,ov+m,none⟩=some (.int .u32 V0):=(hbel.cell (p:=⟨bv,ov+m,none⟩) (FY e0)).trans e0;have hqb:q<8589934592:=by omega
  have HOR:=awf hor;have HE:=awf hqr;clear hor hqr c0 e1 e0;by_cases hqB:4294967296≤q
  ·have t1:((q:Int)/4294967296 != 0)=true:=by rw[bne_iff_ne]; omega
   obtain⟨q1,rfl⟩:∃q1,q=q1+1:=⟨q-1,by omega⟩;have hdec:=agp HE.out;have t1:(((q1:Int)+1)/4294967296 != 0)=true:=by rw[bne_iff_ne]; omega
   have abr:=awf hdec;have amu:4294967296≤q1+1:=hqB;clear hdec;go_wp2_with fail
   go_quiet (fail)
   go_wp2_with fail
   ·have t3 := ‹(((r:Int)+(V1:Int))/4294967296 != 0)=true›;rw[bne_iff_ne]at t3;obtain⟨h1,h2⟩:=VI (V0:=V0) D0 abr.out (by omega) hTb (by omega);go_ret
    exact⟨q1,by go_num,h1,h2,.inr (.inl amu),below_drewN hbel _⟩
   have t3 := ‹(((r:Int)+(V1:Int))/4294967296 != 0)=false›;rw[bne_eq_false_iff_eq]at t3;go_roundw
   case rel=>exact⟨q1,r+V1,by go_num,by go_num,by omega,abr.out,by omega,.inr (.inl amu),below_drewN hbel _⟩
   case measure=>simp[intOf]; omega
  have t1:((q:Int)/4294967296 != 0)=false:=by rw[bne_eq_false_iff_eq]; omega
  obtain⟨qv,hqv⟩:∃qv,qv=q*V0:=⟨_,rfl⟩;obtain⟨rd,hrd⟩:∃rd,rd=r*4294967296+D0:=⟨_,rfl⟩;have hm1:=JD hqv (show q<4294967296 by omega) hV0;have hj2:=Yi hrd hr hD0;have HB:=awf (ams HE.out hqv hrd);clear hqv hrd;by_cases hgt:rd<qv
  ·have t2:(rd:Int)<qv:=by omega
   obtain⟨q1,rfl⟩:∃q1,q=q1+1:=by
    cases q with
    | zero=>exfalso; have:=HB.out.2.2 rfl; omega
    | succ q1=>exact⟨q1,rfl⟩
   have t1:(((q1:Int)+1)/4294967296 != 0)=false:=by rw[bne_eq_false_iff_eq]; omega
   have hm1:IntKind.u64.wrap (((q1:Int)+1)*(V0:Int))=(qv:Int):=by have:=hm1; simpa using this
   have abr:=awf (agp HE.out);go_wp2_with fail
   go_quiet (fail)
   go_wp2_with fail
   ·have t3 := ‹(((r:Int)+(V1:Int))/4294967296 != 0)=true›;rw[bne_iff_ne]at t3;obtain⟨h1,h2⟩:=VI (V0:=V0) D0 abr.out (by omega) hTb (by omega);go_ret
    exact⟨q1,by go_num,h1,h2,.inr (.inr (HB.out.1 hgt)),below_drewN hbel _⟩
   have t3 := ‹(((r:Int)+(V1:Int))/4294967296 != 0)=false›;rw[bne_eq_false_iff_eq]at t3;go_roundw
   case rel=>exact⟨q1,r+V1,by go_num,by go_num,by omega,abr.out,by omega,.inr (.inr (HB.out.1 hgt)),below_drewN hbel _⟩
   case measure=>simp[intOf]; omega
  have t2:¬(rd:Int)<qv:=by omega
  go_wp2_with fail
  go_quiet (fail)
  go_wp2_with fail
  go_ret
  exact⟨q,rfl,by omega,HB.out.2.1 hgt,HOR.out,below_drewN hbel _⟩
open Go.RowKit
variable{α:Type}
def seg(l:List UInt32)(k i:Nat):List UInt32:=(l.drop k).take i
theorem aeD(l:List UInt32)(k i:Nat)(x:UInt32)(h:k+i<l.length):seg (l.set (k+i) x) k (i+1)=seg l k i++[x]:=by
 unfold seg;apply List.ext_getElem
 ·simp; omega
 intro j h1 h2;simp only[List.getElem_take,List.getElem_drop,List.getElem_set];rcases aw4 j i with hj | hj
 ·rw[awj (by omega),List.getElem_append_left (by simp; omega)]; simp
 have:j=i:=by simp at h1; omega
 subst this;rw[awl rfl,List.getElem_append_right (by simp; omega)]; simp
theorem seg_length(l:List UInt32)(k i:Nat)(h:k+i≤l.length):(seg l k i).length=i:=by unfold seg; simp; omega
theorem kC(l:List UInt32)(k i:Nat)(h:k+i<l.length):Na.val (seg l k (i+1))=Na.val (seg l k i)+Na.B^i*l[k+i].toNat:=by
 unfold seg;rw[Na.bY _ _ (by simp; omega)]; simp
theorem su(l:List UInt32)(k i:Nat)(x:UInt32)(h:k+i<l.length):Na.val (seg (l.set (k+i) x) k (i+1))=Na.val (seg l k i)+Na.B^i*x.toNat:=by
 rw[aeD l k i x h,Na.jA,seg_length _ _ _ (by omega)]
def Turned(us ws:List UInt32)(k i:Nat):Prop:=ws.length=us.length∧ws.take k=us.take k∧ws.drop (k+i)=us.drop (k+i)
theorem Turned.refl(us:List UInt32)(k i:Nat):Turned us us k i:=⟨rfl,rfl,rfl⟩
theorem Turned.set{us ws:List UInt32}{k i:Nat}(h:Turned us ws k i)(x:UInt32):Turned us (ws.set (k+i) x) k (i+1):=by
 obtain⟨h1,h2,h3⟩:=h;refine⟨by simp[h1],?_,?_⟩
 ·rw[List.take_set_of_le (by omega),h2]
 rw[List.drop_set_of_lt (by omega)];have:ws.drop (k+i+1)=us.drop (k+i+1):=by rw[←ayu,h3,ayu]
 exact this
theorem Turned.get{us ws:List UInt32}{k i:Nat}(h:Turned us ws k i)(hl:k+i<us.length):ws[k+i]'(by rw[h.1]; exact hl)=us[k+i]:=by
 have h1:=awp (fun l=>l[0]?) h.2.2;have h2:=h.1;simp only[List.getElem?_drop,axO]at h1;rw[List.getElem?_eq_getElem (by omega),List.getElem?_eq_getElem hl]at h1;exact awx h1
theorem TL{A W Y Q c bo U s lo x NM:Nat}(E:Nat)(h:A+E*(c+bo)=W+Q*Y)(y:Nat)(hs:s=c+Q*y)(hlo:lo=s%Na.B)(hu:U+Na.B*NM=x+lo+bo) :
  A+E*U+E*Na.B*(s/Na.B+NM)=W+E*x+Q*(Y+E*y):=by
 have h1:=axK s Na.B;rw[←hlo]at h1;have e1:Q*(Y+E*y)=Q*Y+E*(Q*y):=by rw[awH,Nat.mul_left_comm]
 have e2:E*Na.B*(s/Na.B+NM)=E*(Na.B*(s/Na.B))+E*(Na.B*NM):=by rw[awH,aw0,aw0]
 have e3:E*U+E*(Na.B*NM)=E*x+E*lo+E*bo:=by rw[←awH,hu,awH,awH]
 have e4:E*lo+E*(Na.B*(s/Na.B))=E*c+E*(Q*y):=by rw[←awH,h1,hs,awH]
 rw[awH]at h;rw[e1,e2];omega
theorem FZ(U lo bo:Nat)(hU:U<4294967296)(hlo:lo<4294967296)(hbo:bo≤1):∃Z x NM:Nat,IntKind.u64.wrap (IntKind.u64.wrap ((U:Int)-(lo:Int))-(bo:Int))=(Z:Int) ∧
  (Z:Int)%4294967296=(x:Int)∧(Z:Int)/9223372036854775808=(NM:Int)∧NM≤1∧x<4294967296∧U+Na.B*NM=x+lo+bo:=by
 rw[axr,axr];unfold Na.B;by_cases h:lo+bo≤U
 ·exact⟨U-lo-bo,U-lo-bo,0,by omega,by omega,by omega,by omega,by omega,by omega⟩
 exact⟨U+18446744073709551616-lo-bo,U+4294967296-lo-bo,1,by omega,by omega,by omega,by omega,by omega,by omega⟩
theorem abt(s:Nat)(hs:s<18446744073709551616):bits .and .u64 (s:Int) 4294967295=((s%Na.B:Nat):Int):=by
 have:=u64_and_nat s 4294967295 hs (by omega);rw[show((4294967295:Nat):Int)=4294967295 from rfl]at this;rw[this,nat_mask32]; rfl
theorem Gf(w:World)(row:Option Nat):w.grownBy w row:=⟨rfl,rfl,rfl,awm _,fun _ _ _=>rfl⟩
theorem xw{a b c:World}{row:Option Nat}(h1:a.grownBy b row)(h2:b.grownBy c row):a.grownBy c row:=
 ⟨h2.os.trans h1.os,h2.tape.trans h1.tape,h2.output.trans h1.output,awU h1.size h2.size,fun k hk hne=>(h2.block k (awR hk h1.size) hne).trans (h1.block k hk hne)⟩
theorem take_any(g k n N cp cap:Nat)(us ys:List UInt32)(bv ov cv Q:Nat)(w0 w:World)(hn:ys.length=n)(hN:us.length=N)(hk:k+n+1≤N)(hN2:N≤1000000000)(hQ:Q<4294967296)
  (hv:∀i (h:i<ys.length),w0.cell? ⟨bv,ov+i,none⟩=some (aX ys[i])) (hbv:bv<w0.heap.size)
  (hown:w.ownsRow w0.heap.size 66 1 (.slice (some ⟨g,0,none⟩) N cap) N (us.map aX)) (hbel:Below w0.heap.size w0 w) :
  Calls prog 353 #[.slice (some ⟨g,k,none⟩) (n+1) cp,.slice (some ⟨bv,ov,none⟩) n cv,.int .u64 Q] w fun e w'=>∃(neg:Bool) (ws:List UInt32),e = .returned (.bool neg) ∧
   Turned us ws k (n+1)∧Na.val (seg us k (n+1))+(if neg then Na.B^(n+1)else 0)=Na.val (seg ws k (n+1))+Q*Na.val ys ∧
   w'.ownsRow w0.heap.size 66 1 (.slice (some ⟨g,0,none⟩) N cap) N (ws.map aX)∧Below w0.heap.size w0 w'∧w.grownBy w' (some g):=by
 have hgb:w0.heap.size≤g:=(hown.lt g rfl).1;have HV:=awf hv;have HN:=awf hn;have HNN:=awf hN;have HO:=awf hown;clear hv hn hN hown;go_enter func353,ntmps353
 go_wp2_with fail
 go_loopw [7,8,15] (fun cv bv iv wr=>∃(i c bo:Nat) (ws:List UInt32),i≤n∧iv = .i i∧cv = .int .u64 c∧bv = .int .u64 bo∧c<4294967296∧bo≤1∧Turned us ws k i ∧
  Na.val (seg us k i)+Na.B^i*(c+bo)=Na.val (seg ws k i)+Q*Na.val (ys.take i) ∧
  wr.ownsRow w0.heap.size 66 1 (.slice (some ⟨g,0,none⟩) N cap) N (ws.map aX)∧Below w0.heap.size w0 wr∧w.grownBy wr (some g)) (fun _ _ iv _=>n-(intOf iv).toNat)
 case atStart=>exact⟨0,0,0,us,by omega,rfl,rfl,rfl,by omega,by omega,Turned.refl _ _ _,by simp[seg,Na.val],HO.out,hbel,Gf _ _⟩
 case round =>
  obtain⟨i,c,bo,ws,hi,rfl,rfl,rfl,hc,hbo,htu,hval,hown,hbel,hgr⟩:=hrel;have qE:=awf hval;have HTU:=awf htu;have HW:=awf hown;clear hval htu hown HO;have hwl:=HTU.out.1;by_cases hlt:i<n
  ·have hyl:i<ys.length:=by rw[HN.out]; exact hlt
   have hy:wr.cell? ⟨bv,ov+i,none⟩=some (aX ys[i]):=by rw[hbel.cell (p:=⟨bv,ov+i,none⟩) hbv]; exact HV.out i hyl
   have O4:k+i<us.length:=by rw[HNN.out]; omega
   have hu:wr.cell? ⟨g,k+i,none⟩=some (aX us[k+i]):=by
    rw[HW.out.cellAt (k+i) (by omega),List.getElem?_map,List.getElem?_eq_getElem (by omega),aw5,HTU.out.get O4]
   have hfz:=HW.out.frozenAt (k+i);have HY:=awf (Na.bY ys i hyl);have HU:=awf (kC us k i O4);generalize ys[i]=y at hy HY;generalize us[k+i]=U at hu HU;have g1:=y.toNat_lt;have g2:=U.toNat_lt;have y0:=gB y;have u0:=gB U;obtain⟨qy,hqy⟩:∃qy,qy=Q*y.toNat:=⟨_,rfl⟩;have hmul:=JD hqy hQ g1;have hqb:qy≤18446744065119617025:=by rw[hqy]; exact axT (show Q≤4294967295 by omega) (show y.toNat≤4294967295 by omega)
   obtain⟨s,hs⟩:∃s,s=c+qy:=⟨_,rfl⟩;have hsum:IntKind.u64.wrap ((c:Int)+(qy:Int))=(s:Int):=by rw[hs,←gY (c+qy) (by omega)]; simp
   have hsb:s<18446744073709551616:=by omega
   obtain⟨lo,hlo⟩:∃lo,lo=s%Na.B:=⟨_,rfl⟩;have hand:bits .and .u64 (s:Int) 4294967295=(lo:Int):=by rw[hlo]; exact abt s hsb
   have apz:lo<4294967296:=by rw[hlo]; exact axv _ (by decide)
   obtain⟨Z,x,NM,hZ,hx,hb',aeE,hxb,hu'⟩:=FZ U.toNat lo bo g2 apz hbo;obtain⟨c',hc'⟩:∃c',c'=s/Na.B:=⟨_,rfl⟩;have hcar:(s:Int)/4294967296=(c':Int):=by rw[hc']; simp[Na.B]
   have hcb:c'<4294967296:=by rw[hc']; exact ayj hsb
   rw[hqy]at hs;have HS:=awf hs;have HLO:=awf hlo;have HC:=awf hc';have HUU:=awf hu';clear hqy hs hlo hc' hu' hqb hsb;go_wp2_with fail
   go_roundw
   case rel =>
    have hst:=(HW.out.stored (k+i) (aX (UInt32.ofNat x))).1;rw[←axU]at hst;have hg2:=(HW.out.stored (k+i) (Value.int .u32 (x:Int))).2;refine⟨i+1,c',NM,ws.set (k+i) (UInt32.ofNat x),by omega,by go_num,rfl,rfl,hcb,aeE,HTU.out.set _,?_,?_,?_,xw hgr hg2⟩
    ·rw[HU.out,HY.out,su _ _ _ _ (by omega),bK hxb,HC.out,awW];exact TL (Na.B^i) qE.out y.toNat HS.out HLO.out HUU.out
    ·simpa[aX,bK hxb]using hst
    exact hbel.setCell (p:=⟨g,k+i,none⟩) hgb _
   case measure=>simp[intOf]; omega
  obtain rfl:i=n:=by omega
  have O4:k+i<us.length:=by rw[HNN.out]; omega
  have hu:wr.cell? ⟨g,k+i,none⟩=some (aX us[k+i]):=by
   rw[HW.out.cellAt (k+i) (by omega),List.getElem?_map,List.getElem?_eq_getElem (by omega),aw5,HTU.out.get O4]
  have hfz:=HW.out.frozenAt (k+i);have HU:=awf (kC us k i O4);generalize us[k+i]=U at hu HU;have g2:=U.toNat_lt;have u0:=gB U;obtain⟨Z,x,NM,hZ,hx,hb',aeE,hxb,hu'⟩:=FZ U.toNat c bo g2 hc hbo;have HUU:=awf hu';clear hu';go_wp2_with fail
  go_ret
  have hst:=(HW.out.stored (k+i) (aX (UInt32.ofNat x))).1;rw[←axU]at hst;refine⟨((NM:Int) != 0),ws.set (k+i) (UInt32.ofNat x),rfl,HTU.out.set _,?_,by simpa[aX,bK hxb]using hst,hbel.setCell (p:=⟨g,k+i,none⟩) hgb _,xw hgr (HW.out.stored (k+i) (Value.int .u32 (x:Int))).2⟩;have hv:=qE.out;rw[←HN.out,axa,HN.out]at hv;rw[HU.out,su _ _ _ _ (by omega),bK hxb,awW];have h3:=HUU.out;have e:(if ((NM:Int) != 0)=true then Na.B^i*Na.B else 0)=Na.B^i*(Na.B*NM):=by
   rcases(show NM=0∨NM=1 by omega)with rfl | rfl<;>simp
  rw[e];have e3:Na.B^i*U.toNat+Na.B^i*(Na.B*NM)=Na.B^i*x+Na.B^i*(c+bo):=by rw[←awH,h3,←awH]; congr 1; omega
  omega
set_option linter.unusedVariables false
theorem O5(l:List UInt32)(k i:Nat)(h:k+i≤l.length):Na.val (l.drop k)=Na.val (seg l k i)+Na.B^i*Na.val (l.drop (k+i)):=by
 unfold seg;rw[Na.iY (l.drop k) i (by simp; omega),ayu]
theorem TM(vs ut:List UInt32)(n j:Nat)(hv:vs.length=n+2)(hu:j+n+3≤ut.length)(hlt:Na.val (ut.drop (j+1))<Na.val vs) :
  Na.val (seg ut j (n+3))=Na.val (ut.drop j)∧Na.val (ut.drop (j+(n+3)))=0∧Na.val (ut.drop j)<Na.B*Na.val vs ∧
  (ut[j+(n+2)]'(by omega)).toNat≤(vs[n+1]'(by omega)).toNat ∧
  (∃L,L<Na.B^n∧Na.val (ut.drop j)=L+Na.B^n*((ut[j+n]'(by omega)).toNat+Na.B*(ut[j+(n+1)]'(by omega)).toNat+Na.B*Na.B*(ut[j+(n+2)]'(by omega)).toNat)) ∧
  (∃M,M<Na.B^n∧Na.val vs=M+Na.B^n*((vs[n]'(by omega)).toNat+Na.B*(vs[n+1]'(by omega)).toNat)):=by
 have hvl:=Na.dP vs;rw[hv]at hvl;have hd:=Na.nX ut j (by omega);have hd0:=(ut[j]'(by omega)).toNat_lt;have hPV:Na.val (ut.drop j)<Na.B*Na.val vs:=by
  have h1:Na.B*(Na.val (ut.drop (j+1))+1)≤Na.B*Na.val vs:=awZ _ hlt;rw[axF]at h1;have:(ut[j]'(by omega)).toNat<Na.B:=hd0;omega
 have hs:=O5 ut j (n+3) (by omega);have hz:Na.val (ut.drop (j+(n+3)))=0:=by
  rcases awY (Na.val (ut.drop (j+(n+3))))with h | h
  ·exact h
  have h1:Na.B^(n+3)*1≤Na.B^(n+3)*Na.val (ut.drop (j+(n+3))):=awZ _ h;have h2:Na.B*Na.val vs<Na.B*Na.B^(n+2):=Nat.mul_lt_mul_of_pos_left hvl Na.kH;rw[awX Na.B (Na.B^(n+2)),←awW]at h2;have h3:Na.B*Na.val vs<Na.B^(n+3):=h2;omega
 rw[hz,Nat.mul_zero,axO]at hs;have s2:=kC ut j (n+2) (by omega);have s1:=kC ut j (n+1) (by omega);have s0:=kC ut j n (by omega);have l0:=Na.dP (seg ut j n);have l2:=Na.dP (seg ut j (n+2));rw[seg_length _ _ _ (by omega)]at l0 l2;have t1:=Na.bY vs (n+1) (by omega);have t0:=Na.bY vs n (by omega);rw[awP (by omega)]at t1;have m0:=Na.dP (vs.take n);have m1:=Na.dP (vs.take (n+1));have e0:(vs.take n).length=n:=by simp; omega
 have e1:(vs.take (n+1)).length=n+1:=by simp; omega
 rw[e0]at m0;rw[e1]at m1;refine⟨hs.symm,hz,hPV,?_,⟨Na.val (seg ut j n),l0,?_⟩,⟨Na.val (vs.take n),m0,?_⟩⟩
 ·
  rw[hs,s2]at hPV;generalize (ut[j+(n+2)]'(by omega)).toNat=D2 at *;generalize (vs[n+1]'(by omega)).toNat=V1 at *;have h1:Na.B*Na.val vs<Na.B^(n+2)*(V1+1):=by
   have h2:Na.val vs<Na.B^(n+1)*(V1+1):=by rw[t1,axF]; omega
   have h3:Na.B*Na.val vs<Na.B*(Na.B^(n+1)*(V1+1)):=Nat.mul_lt_mul_of_pos_left h2 Na.kH;rw[←aw0,awX Na.B (Na.B^(n+1)),←awW]at h3;exact h3
  have h4:Na.B^(n+2)*D2<Na.B^(n+2)*(V1+1):=by omega
  exact Nat.le_of_lt_succ (Nat.lt_of_mul_lt_mul_left h4)
 ·have ep1:Na.B^(n+1)=Na.B^n*Na.B:=awW _ _;have ep2:Na.B^(n+2)=Na.B^n*Na.B*Na.B:=by rw[awW,awW]
  rw[hs,s2,s1,s0,ep2,ep1,awH,awH,aw0 (Na.B^n) Na.B (ut[j+(n+1)]'(by omega)).toNat,aw0 (Na.B^n) Na.B Na.B,aw0 (Na.B^n) (Na.B*Na.B)];omega
 rw[t1,t0,awW,awH,←aw0];omega
theorem abu{us ut ws:List UInt32}{V Q q j:Nat}(hU:Na.val us=Na.val ut+Na.B^(j+1)*(V*Q))(hl:ws.length=ut.length)(hj:j≤ut.length)(ht:ws.take j=ut.take j)
  (hw:Na.val (ws.drop j)=Na.val (ut.drop j)%V) (hq:q=Na.val (ut.drop j)/V):Na.val us=Na.val ws+Na.B^j*(V*(q+Na.B*Q)):=by
 have h1:=Na.iY ut j hj;have h2:=Na.iY ws j (by omega);rw[ht,hw]at h2;have h3:=axK (Na.val (ut.drop j)) V;rw[←hq]at h3;rw[hU,h1,h2];generalize Na.val (ut.drop j)%V=r at *;generalize Na.val (ut.drop j)=P at *;generalize Na.val (ut.take j)=A at *;clear hU h1 h2 hw hq;subst h3;rw[awH (Na.B^j) r,awH V q,Nat.mul_left_comm V Na.B Q,awH (Na.B^j) (V*q),awW,aw0 (Na.B^j) Na.B];omega
theorem Dq{ut ws:List UInt32}{j i:Nat}(h:Turned ut ws j i)(hl:j+i≤ut.length)(hz:Na.val (ut.drop (j+i))=0):Na.val (ws.drop j)=Na.val (seg ws j i):=by
 rw[O5 ws j i (by rw[h.1]; exact hl),h.2.2,hz]; simp
theorem abv(c U y:Nat)(hc:c≤1)(hU:U<4294967296)(hy:y<4294967296) :
  ((c:Int)+((U:Int)+(y:Int)))/4294967296=(((c+(U+y))/Na.B:Nat):Int)∧((c:Int)+((U:Int)+(y:Int)))%4294967296=(((c+(U+y))%Na.B:Nat):Int) ∧
  (c+(U+y))%Na.B<4294967296∧(c+(U+y))/Na.B≤1:=by
 unfold Na.B;refine⟨by omega,by omega,by omega,by omega⟩
theorem Yk{A W Y c U y:Nat}(E:Nat)(h:A+E*c=W+Y):A+E*((c+(U+y))%Na.B)+E*Na.B*((c+(U+y))/Na.B)=W+E*U+(Y+E*y):=by
 have h1:=axK (c+(U+y)) Na.B;have h2:E*((c+(U+y))%Na.B)+E*Na.B*((c+(U+y))/Na.B)=E*c+(E*U+E*y):=by
  rw[aw0,←awH,h1,awH,awH]
 omega
theorem abw{A W V c U R E x:Nat}(h:A+E*c=W+V)(hx:x=W+E*U)(hs:x+V=E*Na.B+R)(hA:A<E)(hR:R<E)(hU:U<4294967296)(hc:c≤1) :
  A+E*((U+c)%Na.B)=R:=by
 subst hx;have h1:A+E*(U+c)=E*Na.B+R:=by rw[awH]; omega
 have h2:U+c=Na.B:=by
  rcases ayL (U+c) Na.B with h | h | h
  ·have h3:E*(U+c)+E≤E*Na.B:=by rw[←axF]; exact awZ _ h
   omega
  ·exact h
  have hB:Na.B=4294967296:=rfl;omega
 rw[h2]at h1 ⊢;rw[Nat.mod_self]; omega
open Go.RowKit
variable{α:Type}
theorem Gg(n:Nat)(w:World)(hn:n<4294967296*4294967296) :
  Calls prog 318 #[.int .u64 (n:Int)] w fun e w'=>∃v',e = .returned v' ∧
   w'.ownsRow w.heap.size 66 1 v' (Na.ak n).length ((Na.ak n).map aX)∧Ext w w':=by
 have h:=qX (UInt64.ofNat n) w;have e:(UInt64.ofNat n).toNat=n:=by simp; omega
 unfold adV at h;rw[e]at h;exact h
theorem xA{a b:Nat}(h:b≤a):¬rO a b<0:=by unfold rO; rw[awj (by omega)]; split<;>omega
theorem abx{a b:Nat}(h:a<b):rO a b<0:=by rw[AB h]; omega
theorem oP{n:Nat}(h:(Na.ak n).length=0):n=0:=Na.lC.1 (axD h)
theorem O6(v u:Value)(l m:List UInt32)(w:World)(hv:aB w v l)(hu:aB w u m)(hlt:Na.val l<Na.val m)(hlen:l.length≤1000000000) :
  Calls prog 328 #[v,u] w fun e w'=>∃r,e = .returned (.tuple #[.sn,r,.i 0])∧aB w' r (Na.ak (Na.val l))∧Ext w w':=by
 have C1:=awf (short_any v l w hv);have C2:=awf (short_any u m w hu);have hb:0<(Na.ak (Na.val m)).length:=by
  rcases awY (Na.ak (Na.val m)).length with h | h
  ·have:=oP h; omega
  exact h
 have hcv:=abx hlt;have ea:=Na.aC (Na.val l);have eb:=Na.aC (Na.val m);have hla:=bT l;rw[←ea,←eb]at hcv;clear hv hu hlt;generalize Na.ak (Na.val l)=a at *;generalize Na.ak (Na.val m)=b at *;have EA:=awf ea;have EB:=awf eb;clear ea eb;have hb0:((b.length:Int)==0)=false:=by rw[awI]; omega
 go_enter func328,ntmps328
 go_wp2_with fail
 refine C1.out.mono ?_;rintro e w' ⟨x,rfl,hx,rfl⟩;go_wp2_with fail
 refine C2.out.mono ?_;rintro e w' ⟨y,rfl,hy,rfl⟩;go_wp2_with fail
 refine(AL _ _ a b _ hx hy).mono ?_;rintro e w1 ⟨rfl,hb1⟩;generalize rO (Na.val a) (Na.val b)=c at hcv ⊢;go_wp2_with fail
 refine(VE _ a _ (hx.below hb1) (by omega)).mono ?_;rintro e w2 ⟨r,rfl,hown,hb2⟩;have hr:=aU hown;clear hown;go_wp2_with fail
 go_ret3
 exact⟨_,rfl,hr,Ext.trans' hb1 hb2⟩
theorem TN(v u:Value)(l m:List UInt32)(d:UInt32)(w:World)(hv:aB w v l)(hu:aB w u m)(hd:Na.ak (Na.val m)=[d])(hge:Na.val m≤Na.val l)(hlen:l.length≤1000000000) :
  Calls prog 328 #[v,u] w fun e w'=>∃q r,e = .returned (.tuple #[q,r,.i 0])∧aB w' q (Na.ak (Na.val l/Na.val m))∧aB w' r (Na.ak (Na.val l%Na.val m))∧Ext w w':=by
 have C1:=awf (short_any v l w hv);have C2:=awf (short_any u m w hu);have eb:=Na.aC (Na.val m);have ed:Na.val m=d.toNat:=by rw[←eb,hd]; simp[Na.val]
 have hd0:0<d.toNat:=by
  rcases awY d.toNat with h | h
  ·rw[h]at ed; rw[ed]at hd; simp[Na.ak,Na.lu]at hd
  exact h
 have hcv:=xA hge;have ea:=Na.aC (Na.val l);have hla:=bT l;rw[ed]at hcv ⊢;rw[hd]at C2;rw[←ea]at hcv;rw[←ea];clear hv hu hge eb;generalize Na.ak (Na.val l)=a at *;have EA:=awf ea;clear ea;have hcv':¬rO (Na.val a) (Na.val [d])<0:=by simpa[Na.val]using hcv
 have ON:=fun w v h=>awf (one_any v a d w h hd0 (by omega));clear hcv ed hd;have hdl:=d.toNat_lt;have auP:Na.val a%d.toNat<4294967296:=by have:=axv (Na.val a) hd0; omega
 go_enter func328,ntmps328
 go_wp2_with fail
 refine C1.out.mono ?_;rintro e w' ⟨x,rfl,hx,rfl⟩;go_wp2_with fail
 refine C2.out.mono ?_;rintro e w' ⟨y,rfl,hy,rfl⟩;obtain⟨by1,oy,cy,hys,hby,hly,hmy,hcy⟩:=cZ hy rfl (by simp);simp only[aw1]at hys;obtain⟨rfl,-,-⟩:=hys;have hc0:=hcy 0 (by simp);simp only[axO,ayb]at hc0;clear hcy;rw[show([d]:List UInt32).length=1 from rfl]at hy ⊢;go_wp2_with fail
 refine(AL _ _ a [d] _ hx hy).mono ?_;rintro e w1 ⟨rfl,hb1⟩;have hc1:w1.cell? ⟨by1,oy,none⟩=some (aX d):=(hb1.cell (p:=⟨by1,oy,none⟩) hby).trans hc0;generalize rO (Na.val a) (Na.val [d])=c at hcv' ⊢;clear hc0;go_wp2_with fail
 refine(ON _ _ (hx.below hb1)).out.mono ?_;rintro e w2 ⟨q,rfl,hq,hb2⟩;have hw:IntKind.u64.wrap ((Na.val a%d.toNat:Nat):Int)=((Na.val a%d.toNat:Nat):Int):=gY _ (by omega);have FU:=awf (Gg (Na.val a%d.toNat) w2 (by omega));generalize hrm:Na.val a%d.toNat=rm at *;have HRM:=awf hrm;clear hrm;go_wp2_with fail
 refine FU.out.mono ?_;rintro e w3 ⟨r,rfl,hown,hb3⟩;have hr:=aU hown;clear hown;go_wp2_with fail
 go_ret3
 exact⟨_,_,rfl,hq.below hb3,by rw[HRM.out]; exact hr,Ext.trans' hb1 (Ext.trans' hb2 hb3)⟩
open Go.RowKit
variable{α:Type}
theorem Turned.trans{us ws ts:List UInt32}{k i:Nat}(h1:Turned us ws k i)(h2:Turned ws ts k i):Turned us ts k i:=
 ⟨h2.1.trans h1.1,h2.2.1.trans h1.2.1,h2.2.2.trans h1.2.2⟩
theorem aeF{a b U V P q r:Nat}(hU:U=a*P)(hV:V=b*P)(h:U=r+V*q)(hr:r<V)(hP:0<P):q=a/b∧r/P=a%b:=by
 subst hU hV;have h1:b*q*P≤a*P:=by rw[Nat.mul_right_comm]; omega
 have h2:=Nat.le_of_mul_le_mul_right h1 hP;obtain⟨s,rfl⟩:∃s,a=s+b*q:=⟨a-b*q,by omega⟩;have h3:r=s*P:=by rw[axH,Nat.mul_right_comm b q P]at h; omega
 subst h3;have h4:s<b:=Nat.lt_of_mul_lt_mul_right hr;rw[Nat.mul_div_cancel _ hP,Nat.add_mul_div_left _ _ (by omega),Nat.add_mul_mod_self_left,Nat.div_eq_of_lt h4,axZ h4];exact⟨by omega,rfl⟩
theorem IV(v:Value)(l:List UInt32)(p:Nat)(w:World)(hv:aB w v l)(hp2:p≤31)(hlen:l.length≤1000000000) :
  Calls prog 351 #[v,.i (-(p:Int))] w fun e w'=>∃v',e = .returned v'∧aB w' v' (Na.ak (Na.val l/2^p))∧Ext w w':=by
 rcases awY p with rfl | hp
 ·have h:=zJ v l 0 w hv (by omega) hlen;refine h.mono ?_;rintro e w' ⟨a,rfl,hr,hb⟩;simp only[Nat.pow_zero,Nat.mul_one,Nat.div_one]at hr ⊢;exact⟨_,rfl,hr,hb⟩
 refine(TK v l p w hv hp hp2 hlen).mono ?_;rintro e w' ⟨a,rfl,hr,hb⟩;exact⟨_,rfl,hr,hb⟩
theorem Yl(b:List UInt32)(m:Nat)(hm:b.length=m+1)(hn:Na.norm b):∃p:Nat,(32:Int)-(Lib.bitLen (b[m]'(by omega)).toNat:Int)=(p:Int)∧p≤31 ∧
  (Na.ak (Na.val b*2^p)).length=m+1∧∀(h:m<(Na.ak (Na.val b*2^p)).length),2147483648≤((Na.ak (Na.val b*2^p))[m]).toNat:=by
 have hx0:b[m]'(by omega)≠0:=by
  have:=Na.vN hn (by omega);simpa[hm]using this
 have hv:=Na.bY b m (by omega);rw[←hm,axa]at hv;have ht:=Na.dP (b.take m);have e2:(b.take m).length=m:=by simp; omega
 rw[e2]at ht;generalize b[m]'(by omega)=x at *;have hb:1≤Lib.bitLen x.toNat∧2^(Lib.bitLen x.toNat-1)≤x.toNat∧x.toNat<2^Lib.bitLen x.toNat:=
  Lib.bitLenAux_bounds 64 _ (by have:=x.toNat_lt; omega) (fun e=>hx0 (axj.1 (by simpa using e)))
 have hbl:=Lib.bitLen_le x.toNat 32 (by omega) x.toNat_lt;generalize Lib.bitLen x.toNat=c at *;refine⟨32-c,by omega,by omega,?_⟩;have hp1:2147483648≤x.toNat*2^(32-c):=by
  have h1:2^(c-1)*2^(32-c)=2147483648:=by rw[←ax3,show c-1+(32-c)=31 by omega]
  rw[←h1]; exact ax4 _ hb.2.1
 have hp2:(x.toNat+1)*2^(32-c)≤Na.B:=by
  have h1:2^c*2^(32-c)=Na.B:=by rw[←ax3,show c+(32-c)=32 by omega]; rfl
  rw[←h1]; exact ax4 _ hb.2.2
 have hpp:0<2^(32-c):=axG _;generalize 2^(32-c)=P at *;have hlo:Na.B^m*2147483648≤Na.val b*P:=by
  rw[hv,axH,aw0];have:=awZ (Na.B^m) hp1;omega
 have hhi:Na.val b*P<Na.B^(m+1):=by
  have h1:Na.val b<Na.B^m*(x.toNat+1):=by rw[hv,axF]; omega
  have h2:Na.val b*P<Na.B^m*(x.toNat+1)*P:=ayP h1 hpp;have h3:=awZ (Na.B^m) hp2;rw[awW];rw[aw0]at h2;omega
 have hd:=Na.aC (Na.val b*P);have hnd:=Na.gy (Na.val b*P);generalize Na.val b*P=V at *;generalize Na.ak V=l at *;have hB0:0<Na.B^m:=Nat.pow_pos Na.kH;have hll:l.length=m+1:=by
  have h1:=Na.length_le hnd (by rw[hd]; exact hhi);rcases aw4 l.length (m+1)with h | h
  ·have h2:=Na.dP l;have h3:Na.B^l.length≤Na.B^m:=axf Na.kH (by omega);have h4:Na.B^m*1≤Na.B^m*2147483648:=awZ _ (by omega);rw[hd]at h2;omega
  omega
 refine⟨hll,fun h=>?_⟩;have h1:=Na.bY l m h;rw[←hll,axa,hd]at h1;have h2:=Na.dP (l.take m);have h3:(l.take m).length=m:=by simp; omega
 rw[h3]at h2;rcases aw4 (l[m]).toNat 2147483648 with h4 | h4
 ·have h5:Na.B^m*((l[m]).toNat+1)≤Na.B^m*2147483648:=awZ _ h4;rw[axF]at h5;omega
 exact h4
theorem TP{a b:List UInt32}(hb:Na.norm b)(h:Na.val b≤Na.val a):b.length≤a.length:=Na.length_le hb (ayr h (Na.dP a))
theorem Ym(a:List UInt32)(p:Nat)(hp:p≤31)(hn:Na.norm a):a.length≤(Na.ak (Na.val a*2^p)).length∧(Na.ak (Na.val a*2^p)).length≤a.length+1:=by
 have hv:=Na.dP a;have hP:0<2^p:=axG p;have hP2:2^p≤Na.B:=awU (axf (by omega) (show p≤32 by omega)) (awm _);constructor
 ·rcases aw4 (Na.ak (Na.val a*2^p)).length a.length with h | h
  ·exfalso;have h1:=Na.dP (Na.ak (Na.val a*2^p));rw[Na.aC]at h1;have h2:=Na.BZ hn (by omega);have h3:Na.B^(Na.ak (Na.val a*2^p)).length≤Na.B^(a.length-1):=axf Na.kH (by omega);have h4:Na.val a*1≤Na.val a*2^p:=awZ _ hP;omega
  exact h
 apply Na.bn;rw[awW];exact awR (ayP hv hP) (awZ _ hP2)
theorem O7(v u:Value)(l m:List UInt32)(n:Nat)(w:World)(hv:aB w v l)(hu:aB w u m)(hn:(Na.ak (Na.val m)).length=n+2)(hge:Na.val m≤Na.val l)(hlen:l.length≤100000000)(hlen2:m.length≤100000000) :
  Calls prog 328 #[v,u] w fun e w'=>∃q r,e = .returned (.tuple #[q,r,.i 0])∧aB w' q (Na.ak (Na.val l/Na.val m))∧aB w' r (Na.ak (Na.val l%Na.val m))∧Ext w w':=by
 have C1:=awf (short_any v l w hv);have C2:=awf (short_any u m w hu);have hla:=bT l;have hlb:=bT m;have ea:=Na.aC (Na.val l);have eb:=Na.aC (Na.val m);have na:=Na.gy (Na.val l);have nb:=Na.gy (Na.val m);have hcv:=xA hge;rw[←ea,←eb]at hcv hge;rw[←ea,←eb];clear hv hu ea eb;generalize Na.ak (Na.val l)=a at *;generalize Na.ak (Na.val m)=b at *;obtain⟨p,hp,O8,hvl,hvt⟩:=Yl b (n+1) hn nb;have aty:=(b[n+1]'(by omega)).toNat_lt;have HGE:=awf hge;have HNA:=awf na;have HNB:=awf nb;have ZJ:Hid ((Na.ak (Na.val b*2^p)).length=n+2):=hvl;have HVT:=awf hvt;have HN:=awf hn;clear hge na nb hvl hvt;go_enter func328,ntmps328
 go_wp2_with fail
 refine C1.out.mono ?_;rintro e w' ⟨x,rfl,hx,rfl⟩;go_wp2_with fail
 refine C2.out.mono ?_;rintro e w' ⟨y,rfl,hy,rfl⟩;obtain⟨by1,oy,cy,hys,hby,hly,hmy,hcy⟩:=cZ hy rfl (by omega);simp only[aw1]at hys;obtain⟨rfl,-,-⟩:=hys;have hct:=hcy (n+1) (by omega);clear hcy;go_wp2_with fail
 refine(AL _ _ a b _ hx (by rw[←HN.out]; exact hy)).mono ?_;rintro e w1 ⟨rfl,hb1⟩;have apA:w1.cell? ⟨by1,oy+(n+1),none⟩=some (aX (b[n+1]'(by omega))):=(hb1.cell (p:=⟨by1,oy+(n+1),none⟩) hby).trans hct;clear hct;generalize rO (Na.val a) (Na.val b)=c at hcv ⊢;generalize b[n+1]'(by omega)=bt at *;have hn1:((n:Int)+2==1)=false:=by rw[awI]; omega
 go_wp2_with fail
 refine(Tryz.bits_LeadingZeros32 (bt.toNat:Int) _ (by omega) (by omega)).mono ?_;rintro e w' ⟨rfl,rfl⟩;rw[axY,hp];clear hp;have hy1:=hy.below hb1;rw[HN.out]at hy1;have hx1:=hx.below hb1;go_wp2_with fail
 refine(zJ _ b p _ hy1 O8 (by omega)).mono ?_;rintro e w2 ⟨bv,rfl,hvv,hb2⟩;rw[ZJ.out]at hvv ⊢;go_wp2_with fail
 refine(zJ _ a p _ (hx1.below hb2) O8 (by omega)).mono ?_;rintro e w3 ⟨bu,rfl,huu,hb3⟩;have O4:=Ym a p O8 HNA.out;have amv:=hvv.below hb3;have ahY:Ext w w3:=Ext.trans' hb1 (Ext.trans' hb2 hb3);have hVn:Na.val (Na.ak (Na.val b*2^p))=Na.val b*2^p:=Na.aC _;have hUn:Na.val (Na.ak (Na.val a*2^p))=Na.val a*2^p:=Na.aC _;generalize Na.ak (Na.val b*2^p)=vs at *;generalize Na.ak (Na.val a*2^p)=us at *;have HVn:=awf hVn;have HUn:=awf hUn;clear hVn hUn hvv hy hy1 hx hx1 apA C1 C2;have r0:=mF w3 (.int .u32 0) 66 rfl;have ru:=BF (huu.raw (fun _=>rfl)) (.cells #[.int .u32 0] 66);have h63:us.length+1≤maxLen:=by unfold maxLen; omega
 have hby:(us.length+1)*4≤140737488355328:=by omega
 have b34:=aF w3 (.cells #[.int .u32 0] 66);have ahZ:=amv.below b34;have amw:=Ext.trans' ahY b34;clear huu amv hb1 hb2 hb3 b34;have hNa:¬((us.length:Int)+1≤(a.length:Int)):=by omega
 go_wp2_with (at_builtin; refine yJ rfl _ _ _ rfl nJ ru rfl r0 rfl (by decide) h63 hby ?_; intro uv w5 hown5 aby; obtain⟨g,cap,rfl,hgb,hNc,hcm⟩:=Xp hown5 (Nat.succ_pos _))
 refine axk 1 ?_;rw[awv];have HO5:=awf hown5;have amx:=ahZ.below aby
 have apC:=Ext.trans' amw aby
 have hk0:vs.length≤us.length:=by
  have h1:=ZJ.out;have h2:=HN.out;have h3:=TP HNB.out HGE.out;omega
 clear hown5 ru r0 amw;obtain⟨K,hK⟩:∃K,us.length+1=K+(n+2):=⟨us.length+1-(n+2),by have h1:=ZJ.out; omega⟩;have hKi:(us.length:Int)+1-((n:Int)+2)=(K:Int):=by omega
 have HK:=awf hK;have hK1:K≤us.length:=by omega
 have apD:K≤maxLen:=by unfold maxLen; omega
 have apE:4*K≤281474976710656:=by omega
 clear hK;go_wp2_with (at_make; refine wpList_make_row rfl _ _ _ rfl nJ rfl w5.heap.size K rfl rfl rfl apE apD (awm _) ?_; intro w6 hown6 hg6)
 have aeG:=fV (awD w5.heap.size w5) hg6 (awm _);have HO6:=awf hown6;have hg5:g<w5.heap.size:=(HO5.out.lt g rfl).2;have apF:=amx.below aeG;clear hown6 hKi amx hNa apF;obtain⟨bb,ob,cb,hvs,hbb,auQ,auR,amy⟩:=cZ ahZ ZJ.out (by omega);simp only[aw1]at hvs;obtain⟨rfl,-,-⟩:=hvs;have hbw:w3.heap.size+1=(w3.alloc (.cells #[.int .u32 0] 66)).heap.size:=by simp
 have hg4:(w3.alloc (.cells #[.int .u32 0] 66)).heap.size≤g:=hgb;have amA:Ext w (w3.alloc (.cells #[.int .u32 0] 66)):=Ext.trans' ahY (aF _ _);have aeH:Ext (w3.alloc (.cells #[.int .u32 0] 66)) w6:=Ext.trans' aby aeG;have H5:Hid (w6.ownsRow (w3.alloc (.cells #[.int .u32 0] 66)).heap.size 66 1 (.slice (some ⟨g,0,none⟩) (us.length+1) cap) (us.length+1) ((us++[0]).map aX)):=by
  have:=bU HO5.out aeG;unfold Hid;simpa[aX]using this
 clear ahZ HO5 aby ahY apC hbw hgb;generalize w3.alloc (.cells #[.int .u32 0] 66)=w4 at *;have HC:=awf amy;have VJ:Na.B^(n+1)≤Na.val vs:=by
  have h0:n+1<vs.length:=by have:=ZJ.out; omega
  have h1:=HVT.out h0;have h2:=Na.bY vs (n+1) h0;rw[awP (by have:=ZJ.out; omega)]at h2;have h3:Na.B^(n+1)*1≤Na.B^(n+1)*(vs[n+1]).toNat:=awZ _ (by omega);omega
 have HVP:=awf VJ;clear VJ;clear amy;go_loopw [13] (fun i wr=>∃(k:Nat) (ut qd:List UInt32),k≤K∧i = .i ((k:Int)-1)∧ut.length=us.length+1∧k+qd.length=K∧Na.val (ut.drop k)<Na.val vs ∧
  Na.val us=Na.val ut+Na.B^k*(Na.val vs*Na.val qd) ∧
  wr.ownsRow w4.heap.size 66 1 (.slice (some ⟨g,0,none⟩) (us.length+1) cap) (us.length+1) (ut.map aX) ∧
  wr.ownsRow w5.heap.size 66 1 (.slice (some ⟨w5.heap.size,0,none⟩) K K) K ((List.replicate k 0++qd).map aX)∧Below w4.heap.size w4 wr) (fun i _=>(intOf i+1).toNat)
 case atStart =>
  refine⟨K,us++[0],[],awm _,rfl,by simp,by simp,?_,by simp[Na.val_append,Na.val],H5.out,by simpa[aX]using HO6.out,aeH⟩;have h1:=HK.out;have h2:(us++[0]).drop K=us.drop K++[0]:=by rw[List.drop_append_of_le_length (by omega)]
  rw[h2,Na.jA];have h3:=Na.dP (us.drop K);have h4:(us.drop K).length=n+1:=by simp; omega
  rw[h4]at h3;have h5:=HVP.out;simp; omega
 case round =>
  obtain⟨k,ut,qd,hk,rfl,Yn,hkq,hlt,hU,hou,hoq,hbel⟩:=hrel;have HOU:=awf hou;have HOQ:=awf hoq;have O9:=awf Yn;have HKQ:=awf hkq;have HU:=awf hU;clear hou hoq Yn hkq hU;cases k with
  | zero =>
   have hqR:aB wr (.slice (some ⟨w5.heap.size,0,none⟩) K K) qd:=by
    have h1:=HOQ.out;have h2:=HKQ.out;rw[axh]at h2;rw[←h2]at h1 ⊢;exact aU (l:=qd) h1
   have huR:aB wr (.slice (some ⟨g,0,none⟩) (us.length+1) cap) ut:=by
    have h1:=HOU.out;have h2:=O9.out;rw[←h2]at h1 ⊢;exact aU (l:=ut) h1
   have hE:=aeF HUn.out HVn.out (by have h1:=HU.out; rw[Nat.pow_zero,Nat.one_mul]at h1; exact h1) (by rw[axq]at hlt; exact hlt) (axG p);have HE:=awf hE;have ah0:ut.length≤1000000000:=by have h1:=O9.out; omega
   clear hE;go_wp2_with fail
   refine(short_any _ qd _ hqR).mono ?_;rintro e w' ⟨q',rfl,hq',rfl⟩;go_wp2_with fail
   refine(IV _ ut p _ huR O8 ah0).mono ?_;rintro e w9 ⟨r',rfl,hr',hb9⟩;go_wp2_with fail
   go_ret3
   have hq9:=hq'.below hb9;rw[HE.out.1]at hq9;rw[HE.out.2]at hr';rw[HE.out.1];exact⟨_,_,rfl,hq9,hr',Ext.trans' amA (hbel.trans (hb9.mono hbel.size))⟩
  | succ j =>
   have hi:(((j+1:Nat):Int)-1)=(j:Int):=by omega
   rw[hi];clear hi;have hjc:j<cap:=by omega
   have hKK:=HK.out;have hpc:j+(n+2)+1≤cap:=by omega
   have hpl:j+(n+2)+1-j=n+3:=by omega
   have amB:j+n+3≤ut.length:=by have:=O9.out; omega
   obtain⟨hf1,hf2,hf3,hf4,⟨L,hL1,hL2⟩,⟨M,hM1,hM2⟩⟩:=TM vs ut n j ZJ.out amB hlt;have hjN:∀i (h:i<ut.length),wr.cell? ⟨g,i,none⟩=some (aX ut[i]):=fun i h=>by
    rw[HOU.out.cellAt i (by have:=O9.out; omega),List.getElem?_map,List.getElem?_eq_getElem h,aw5]
   have hvv:∀i (h:i<vs.length),wr.cell? ⟨bb,ob+i,none⟩=some (aX vs[i]):=fun i h=>by
    rw[hbel.cell (p:=⟨bb,ob+i,none⟩) hbb]; exact HC.out i h
   have i2:j+(n+2)<ut.length:=by omega
   have i1:j+(n+1)<ut.length:=by omega
   have i0:j+n<ut.length:=by omega
   have v1:n+1<vs.length:=by have:=ZJ.out; omega
   have v0:n<vs.length:=by omega
   have agq:=HVT.out v1;have hn9:n≤1000000000:=by omega
   have hg:=Yj g j (cap-j) bb ob (n+2) n _ _ _ _ _ wr hn9 (ut[j+(n+2)]'i2).toNat_lt (ut[j+(n+1)]'i1).toNat_lt (ut[j+n]'i0).toNat_lt
    (vs[n+1]'v1).toNat_lt (vs[n]'v0).toNat_lt agq hf4 (hjN _ i2) (hjN _ i1) (hjN _ i0) (hvv _ v1) (hvv _ v0)
   have VJ:0<(vs[n+1]'v1).toNat:=awR (by decide) agq;have agr:=fun q h1 h2 h3=>Na.Ya (q:=q) hL2 hL1 hM2 hM1 VJ (ut[j+n]'i0).toNat_lt h1 hf3 h2 h3;have HG:=awf hg;have HGL:=awf agr;have HF1:=awf hf1;have HF2:=awf hf2;have HF3:=awf hf3;clear hKK hf1 hf2 hf3 hf4 hL1 hL2 hM1 hM2 hjN hvv hg agr;go_wp2_with fail
   refine HG.out.mono ?_;rintro e w7 ⟨q,rfl,hqB,hq1,hq2,hb7⟩;have hq:=HGL.out q hqB hq1 hq2;have HQ:=awf hq;clear HG HGL hq1 hq2 hq;have apG:=awf (bU HOU.out hb7);have apH:=awf (bU HOQ.out hb7);have amC:Below w4.heap.size w4 w7:=hbel.trans (hb7.mono hbel.size);go_wp2_with fail
   refine(take_any g j (n+2) (us.length+1) (cap-j) cap ut vs bb ob (n+2) q w4 w7 ZJ.out O9.out (by have:=O9.out; omega) (by omega) hqB HC.out hbb apG.out amC).mono ?_;rintro e w8 ⟨neg,ws,rfl,hturn,hval,ags,agt,apI⟩;have HT:=awf hturn;have HV8:=awf hval;have HO8:=awf ags;have HQ8:=awf (apH.out.kept apI (by right; simp[Value.ownBlock]; omega));clear hturn hval ags;have aeI:0<Na.val vs:=awR (Nat.pow_pos Na.kH) HVP.out;have hsl:seg ut j (n+2+1)=seg ut j (n+3):=rfl;have hx8:Na.val (seg ws j (n+2+1))<Na.B^(n+2+1):=by
    have h1:=Na.dP (seg ws j (n+2+1));rw[seg_length _ _ _ (by have:=HT.out.1; have:=O9.out; omega)]at h1; exact h1
   have hv8:=HV8.out;rw[hsl,HF1.out]at hv8;have hstep:=Na.abk neg aeI HQ.out.1 HQ.out.2 hx8 hv8;have HS:=awf hstep;have HX8:=awf hx8;have hdz:Na.val (ut.drop (j+(n+2+1)))=0:=HF2.out;have HDZ:=awf hdz;obtain⟨⟨cv,hcell⟩,hfz⟩:=rQ HQ8.out j (by omega);have hqi:(q:Int)%4294967296=q:=by omega
   clear hsl hx8 hv8 hstep hdz amB;have amD:w4.heap.size≤w5.heap.size:=by omega
   have heq:aX (UInt32.ofNat q) = .int .u32 (q:Int):=by simp only[aX,bK hqB]
   have HEQ:=awf heq;clear heq;cases neg with
   | false =>
    have HS1:=awf (HS.out.1 rfl);clear HS;go_wp2_with fail
    go_roundw
    case rel =>
     obtain⟨hxm,hqd⟩:=HS1.out;have hst:=HQ8.out.stored j (.int .u32 (q:Int));rw[←HEQ.out,aw6,ayD,Ej,HEQ.out]at hst;have hdrop:=Dq HT.out (by have:=O9.out; omega) HDZ.out;rw[hxm]at hdrop;refine⟨j,ws,UInt32.ofNat q::qd,by omega,rfl,HT.out.1.trans O9.out,by have:=HKQ.out; simp; omega,by rw[hdrop]; exact axv _ aeI,?_,?_,?_,?_⟩
     ·have:=abu HU.out HT.out.1 (by have:=O9.out; omega) HT.out.2.1 hdrop hqd;simp only[Na.val,bK hqB]; exact this
     ·exact HO8.out.kept hst.2 (by right; simp[Value.ownBlock]; omega)
     ·have h1:=hst.1;rw[←HEQ.out]at h1 ⊢;rw[aw6,ayD,axb];exact h1
     exact agt.setCell (p:=⟨w5.heap.size,j,none⟩) amD _
    case measure=>simp[intOf]
   | true =>
    have HS1:=awf (HS.out.2 rfl);have hq1:=HS1.out.1;have hqm:(1:Int)≤q:=by omega
    clear HS hcell hfz;go_wp2_with fail
    go_loopw [16,105] (fun cv iv wr=>∃(i c:Nat) (wt:List UInt32),i≤n+2∧iv = .i i∧cv = .int .u64 c∧c≤1∧Turned ws wt j i ∧
     Na.val (seg wt j i)+Na.B^i*c=Na.val (seg ws j i)+Na.val (vs.take i) ∧
     wr.ownsRow w4.heap.size 66 1 (.slice (some ⟨g,0,none⟩) (us.length+1) cap) (us.length+1) (wt.map aX)∧w8.grownBy wr (some g)∧Below w4.heap.size w4 wr) (fun _ iv _=>n+2-(intOf iv).toNat)
    case atStart=>exact⟨0,0,ws,by omega,rfl,rfl,by omega,Turned.refl _ _ _,by simp[seg,Na.val],HO8.out,Gf _ _,agt⟩
    case round =>
     obtain⟨i,c,wt,hi,rfl,rfl,hc,htu,hval,hown,hgr,hbl⟩:=hrel;have HT9:=awf htu;have HV9:=awf hval;have HO9:=awf hown;clear htu hval hown;by_cases hlt2:i<n+2
     ·have O4:j+i<ws.length:=by have ah1:=HT.out.1; have Yn:=O9.out; omega
      have hu:wr.cell? ⟨g,j+i,none⟩=some (aX (ws[j+i]'O4)):=by
       rw[HO9.out.cellAt (j+i) (by have ah1:=HT.out.1; have Yn:=O9.out; omega),List.getElem?_map,List.getElem?_eq_getElem (by have hwl:=HT9.out.1; omega),aw5,HT9.out.get O4]
      have hfz:=HO9.out.frozenAt (j+i);have HU9:=awf (kC ws j i O4);have ah2:j+i<wt.length:=by have hwl:=HT9.out.1; omega
      generalize ws[j+i]'O4=U at hu HU9;have g2:=U.toNat_lt;have u0:=gB U;have hyl:i<vs.length:=by have:=ZJ.out; omega
      have hy:wr.cell? ⟨bb,ob+i,none⟩=some (aX vs[i]):=by rw[hbl.cell (p:=⟨bb,ob+i,none⟩) hbb]; exact HC.out i hyl
      have HY:=awf (Na.bY vs i hyl);generalize vs[i]=y at hy HY;have g1:=y.toNat_lt;have y0:=gB y;go_wp2_with fail
      go_roundw
      case rel =>
       obtain⟨z1,z2,z3,z4⟩:=abv c U.toNat y.toNat hc g2 g1;have hst:=HO9.out.stored (j+i) (.int .u32 (((c+(U.toNat+y.toNat))%Na.B:Nat):Int));have ez:aX (UInt32.ofNat ((c+(U.toNat+y.toNat))%Na.B)) = .int .u32 (((c+(U.toNat+y.toNat))%Na.B:Nat):Int):=by simp only[aX,bK z3]
       rw[←ez,←axU,ez]at hst;rw[z1,z2];refine⟨i+1,(c+(U.toNat+y.toNat))/Na.B,wt.set (j+i) (UInt32.ofNat ((c+(U.toNat+y.toNat))%Na.B)),by omega,by go_num,rfl,z4,HT9.out.set _,?_,hst.1,xw hgr hst.2,hbl.setCell (p:=⟨g,j+i,none⟩) hg4 _⟩;rw[su _ _ _ _ ah2,HU9.out,HY.out,bK z3,awW];exact Yk (Na.B^i) HV9.out
      case measure=>simp[intOf]; omega
     obtain rfl:i=n+2:=by omega
     have O4:j+(n+2)<ws.length:=by have ah1:=HT.out.1; have Yn:=O9.out; omega
     have hu:wr.cell? ⟨g,j+(n+2),none⟩=some (aX (ws[j+(n+2)]'O4)):=by
      rw[HO9.out.cellAt (j+(n+2)) (by have ah1:=HT.out.1; have Yn:=O9.out; omega),List.getElem?_map,List.getElem?_eq_getElem (by have hwl:=HT9.out.1; omega),aw5,HT9.out.get O4]
     have hfz:=HO9.out.frozenAt (j+(n+2));have HU9:=awf (kC ws j (n+2) O4);have ah2:j+(n+2)<wt.length:=by have hwl:=HT9.out.1; omega
     generalize ws[j+(n+2)]'O4=U at hu HU9;have g2:=U.toNat_lt;have u0:=gB U;have HQ9:=awf (HQ8.out.kept hgr (by right; simp[Value.ownBlock]; omega));obtain⟨⟨cv,hcell⟩,auS⟩:=rQ HQ9.out j (by omega);have auT:(c:Int)%4294967296=c:=by omega
     have auU:((q:Int)-1)%4294967296=(q:Int)-1:=by omega
     have auV:g≠w5.heap.size:=by omega
     go_wp2_with fail
     go_roundw
     case rel =>
      obtain⟨hq1',hqd,hxV⟩:=HS1.out;have hzb:(U.toNat+c)%Na.B<4294967296:=axv _ (by decide);have ez:aX (UInt32.ofNat ((U.toNat+c)%Na.B)) = .int .u32 (((U.toNat:Int)+(c:Int))%4294967296):=by
       simp only[aX,bK hzb]; simp[Na.B]
      have eq':aX (UInt32.ofNat (q-1)) = .int .u32 ((q:Int)-1):=by
       simp only[aX,bK (show q-1<4294967296 by omega)]; congr 1; omega
      have hst:=HO9.out.stored (j+(n+2)) (.int .u32 (((U.toNat:Int)+(c:Int))%4294967296));rw[←ez,←axU,ez]at hst;have hq9:=HQ9.out.kept hst.2 (by right; simp[Value.ownBlock]; omega);have hst2:=hq9.stored j (.int .u32 ((q:Int)-1));rw[←eq',aw6,ayD,Ej,eq']at hst2;have htt:=HT.out.trans (HT9.out.set (UInt32.ofNat ((U.toNat+c)%Na.B)));have hdrop:=Dq htt (by have:=O9.out; omega) HDZ.out;have hvt:=HV9.out;rw[awP (by have:=ZJ.out; omega)]at hvt;have hA:=Na.dP (seg wt j (n+2));rw[seg_length _ _ _ (by omega)]at hA;have amE:=Na.dP vs;rw[ZJ.out]at amE;have hR:Na.val (ut.drop j)%Na.val vs<Na.B^(n+2):=Nat.lt_trans (axv _ aeI) amE;rw[awW]at hxV;have hlast:=abw hvt HU9.out hxV hA hR g2 hc;rw[su _ _ _ _ ah2,bK hzb,hlast]at hdrop;refine⟨j,wt.set (j+(n+2)) (UInt32.ofNat ((U.toNat+c)%Na.B)),UInt32.ofNat (q-1)::qd,by omega,rfl,htt.1.trans O9.out,by have:=HKQ.out; simp; omega,by rw[hdrop]; exact axv _ aeI,?_,?_,?_,?_⟩
      ·have:=abu HU.out htt.1 (by have:=O9.out; omega) htt.2.1 hdrop hqd;simp only[Na.val,bK (show q-1<4294967296 by omega)]; exact this
      ·exact hst.1.kept hst2.2 (by right; simp[Value.ownBlock]; omega)
      ·have h1:=hst2.1;rw[←eq']at h1 ⊢;rw[aw6,ayD,axb];exact h1
      exact(hbl.setCell (p:=⟨g,j+(n+2),none⟩) hg4 _).setCell (p:=⟨w5.heap.size,j,none⟩) amD _
     case measure=>simp[intOf]
open Go.RowKit
variable{α:Type}
theorem Gh(v u:Value)(l m:List UInt32)(w:World)(hv:aB w v l)(hu:aB w u m)(hm:0<Na.val m)(hlen:l.length≤100000000)(hlen2:m.length≤100000000) :
  Calls prog 328 #[v,u] w fun e w'=>∃q r,e = .returned (.tuple #[q,r,.i 0])∧aB w' q (Na.ak (Na.val l/Na.val m))∧aB w' r (Na.ak (Na.val l%Na.val m))∧Ext w w':=by
 rcases aw4 (Na.val l) (Na.val m)with h | h
 ·refine(O6 v u l m w hv hu h (by omega)).mono ?_;rintro e w' ⟨r,rfl,hr,hb⟩;rw[Nat.div_eq_of_lt h,axZ h];exact⟨_,r,rfl,by rw[Na.lC.2 rfl]; exact Eh _,hr,hb⟩
 rcases hd:Na.ak (Na.val m)with _ | ⟨d,_ | ⟨d2,t⟩⟩
 ·exact absurd (Na.lC.1 hd) (by omega)
 ·exact TN v u l m d w hv hu hd h (by omega)
 exact O7 v u l m t.length w hv hu (by rw[hd]; simp) h hlen hlen2
open Go.RowKit
variable{α:Type}
theorem LC{f:α→Value}(hf:∀x y,f x=f y→x=y){w:World}{v:Value}{l l':List α}(h:dB f w v l)(h':dB f w v l'):l=l':=by
 obtain⟨a,cap,rfl,_,h⟩:=h;obtain⟨a',cap',hv,_,h'⟩:=h';simp only[aw1]at hv;obtain⟨rfl,hl,rfl⟩:=hv;apply List.ext_getElem hl;intro i h1 h2;rcases h with ⟨rfl,_⟩ | ⟨b,o,rfl,_,_,hc⟩
 ·simp at h1
 rcases h' with ⟨rfl,_⟩ | ⟨b',o',ha,_,_,hc'⟩
 ·simp at h2
 simp only[awn,Addr.mk.injEq,and_true]at ha;obtain⟨rfl,rfl⟩:=ha;have e:=(hc i h1).symm.trans (hc' i h2);exact hf _ _ (awx e)
theorem abz(x y:UInt32)(h:aX x=aX y):x=y:=by
 simp only[aX,Value.int.injEq,true_and]at h;exact axj.1 (by omega)
open Classical in
noncomputable def valOf(w:World)(v:Value):Nat:=if h:∃l,aB w v l then Na.val h.choose else 0
theorem AO{w:World}{v:Value}{l:List UInt32}(h:aB w v l):valOf w v=Na.val l:=by
 have h1:∃l,aB w v l:=⟨l,h⟩;unfold valOf;rw[dif_pos h1,LC abz h1.choose_spec h]
theorem fF{a b:Nat}(h:a≤b):(Na.ak a).length≤(Na.ak b).length:=
 Na.length_le (Na.gy a) (by have:=Na.dP (Na.ak b); rw[Na.aC]at this ⊢; omega)
theorem aeJ(v u:Value)(l m:List UInt32)(w:World)(hv:aB w v l)(hu:aB w u m)(hlen:l.length≤100000000)(hlen2:m.length≤100000000) :
  Calls prog 326 #[v,u] w fun e w'=>∃g,e = .returned g∧aB w' g (Na.ak (Nat.gcd (Na.val l) (Na.val m)))∧Ext w w':=by
 have C1:=awf (pG v l w hv (by omega));have hla:=bT l;have hlb:=bT m;go_enter func326,ntmps326
 go_wp2_with fail
 refine C1.out.mono ?_;rintro e w1 ⟨x,rfl,hx,hb1⟩;have hx:=aU hx;go_wp2_with fail
 refine(pG u m w1 (hu.below hb1) (by omega)).mono ?_;rintro e w2 ⟨y,rfl,hy,hb2⟩;have hy:=aU hy;have hx2:=hx.below hb2;have ah3:=Ext.trans' hb1 hb2;clear hx C1 hv hu;have HX:=awf hx2;have HY:=awf hy;clear hx2 hy;go_wp2_with fail
 go_loopw [0,1] (fun x y wr=>∃(A B:Nat),aB wr x (Na.ak A)∧aB wr y (Na.ak B)∧Nat.gcd A B=Nat.gcd (Na.val l) (Na.val m)∧(Na.ak A).length≤100000000∧(Na.ak B).length≤100000000∧Ext w wr) (fun _ y wr=>valOf wr y)
 case atStart=>exact⟨(Na.val l),(Na.val m),HX.out,HY.out,rfl,by omega,by omega,ah3⟩
 case round =>
  obtain⟨A,B,hx,hy,hg,hlA,hlB,hbel⟩:=hrel;have HM:=awf (AO hy);have HG:=awf hg;have HX:=awf hx;have HY:=awf hy;clear hg hx hy;obtain⟨ay,cy,rfl⟩:=HY.out.shape;rcases awY B with rfl | hB
  ·have h0:((Na.ak 0).length:Int)=0:=by rw[Na.lC.2 rfl]; rfl
   go_wp2_with fail
   go_ret
   refine⟨_,rfl,?_,hbel⟩;rw[←HG.out,Nat.gcd_zero_right];exact HX.out
  have h0:(0:Int)<((Na.ak B).length:Int):=by
   have:(Na.ak B).length≠0:=fun h=>by have:=oP h; omega
   omega
  have hD:=Gh _ _ _ _ wr HX.out HY.out (by rw[Na.aC]; exact hB) hlA hlB;rw[Na.aC,Na.aC]at hD;have HD:=awf hD;clear hD;go_wp2_with fail
  refine HD.out.mono ?_;rintro e w' ⟨q,r,rfl,hq,hr,hb⟩;have HR:=awf hr;have HY':=awf (HY.out.below hb);clear hq hr;go_wp2_with fail
  go_roundw
  case rel => 
   refine⟨B,A%B,HY'.out,HR.out,?_,hlB,?_,Ext.trans' hbel hb⟩
   ·rw[←HG.out,Nat.gcd_comm A B,Nat.gcd_rec B A,Nat.gcd_comm]
   ·exact awU (fF (ax2 (axv A hB))) hlB
  case measure =>
   rw[AO HR.out,HM.out,Na.aC,Na.aC];exact axv _ hB
end Go.Proofs.YtapmgonflgahbaaGreatDoor
