/- Walks of package natural: guess (the estimate of a quotient's digit). -/
import Derived.Test.YtapmgonflgahbaaGreatDoorNatW1
set_option maxHeartbeats 3200000
set_option maxRecDepth 100000
namespace Go.Proofs.YtapmgonflgahbaaGreatDoor
open _root_.Go.Proofs.Tryz
open Go.RowKit
variable{α:Type}
theorem iJ(n:Nat)(h:n<18446744073709551616):IntKind.u64.wrap (n:Int)=(n:Int):=by rw[ao8]; omega
theorem NP(r x:Nat)(h:r<4294967296)(hx:x<4294967296):bits .or .u64 ((r:Int)*4294967296) (x:Int)=((r*4294967296+x:Nat):Int):=by
 have e:((r:Int)*4294967296)=((r*4294967296:Nat):Int):=by simp
 rw[e,u64_or_nat _ _ (by omega) (by omega),nat_join 32 _ _ (by omega) (by omega)]
theorem NQ{q V:Nat}(hq:q<4294967296)(hV:V<4294967296):IntKind.u64.wrap ((q:Int)*(V:Int))=((q*V:Nat):Int):=by
 have h:=apH (show q≤4294967295 by omega) (show V≤4294967295 by omega);have e:(q:Int)*(V:Int)=((q*V:Nat):Int):=by simp
 rw[e,iJ _ (by omega)]
theorem adq{q V r T:Nat}(h:(q+1)*V+r=T):q*V+(r+V)=T:=by rw[Nat.succ_mul]at h; omega
theorem aee{x y r T:Nat}(h:x+r=T)(hr:4294967296≤r)(h2:y≤18446744073709551616)(D0:Nat):x*4294967296+y≤T*4294967296+D0:=by omega
theorem Ui{q V r T V0:Nat}(D0:Nat)(h:q*V+r=T)(hr:4294967296≤r)(hT:T<(V+1)*4294967296)(hV0:V0≤4294967296) :
  q<4294967296∧q*(V*4294967296+V0)≤T*4294967296+D0:=by
 have h1:q<4294967296:=by
  rcases aoT q 4294967296 with h1 | h1
  ·exact h1
  have:=apR V h1;rw[aoH 4294967296 V]at this; omega
 refine⟨h1,?_⟩;have h2:q*V0≤4294967296*4294967296:=apH (Nat.le_of_lt h1) hV0;rw[aos,←aoI];exact aee h hr h2 D0
theorem aef{x y r T rd D0:Nat}(h:x+r=T)(hr:rd=r*4294967296+D0):(rd<y→T*4294967296+D0<x*4294967296+y)∧(¬rd<y→x*4294967296+y≤T*4294967296+D0):=by omega
theorem agt{q V r T V0 D0 qv rd:Nat}(h:q*V+r=T)(hqv:qv=q*V0)(hrd:rd=r*4294967296+D0) :
  (rd<qv→T*4294967296+D0<q*(V*4294967296+V0))∧(¬rd<qv→q*(V*4294967296+V0)≤T*4294967296+D0)∧(q=0→qv=0):=by
 rw[aos,←aoI,←hqv];obtain⟨h1,h2⟩:=aef (y:=qv) h hrd;exact⟨h1,h2,fun h=>by rw[hqv,h,Nat.zero_mul]⟩
theorem Jp{q V qv:Nat}(hqv:qv=q*V)(hq:q<4294967296)(hV:V<4294967296):IntKind.u64.wrap ((q:Int)*(V:Int))=(qv:Int):=by rw[hqv]; exact NQ hq hV
theorem V6{r x rd:Nat}(h0:rd=r*4294967296+x)(h:r<4294967296)(hx:x<4294967296):bits .or .u64 ((r:Int)*4294967296) (x:Int)=(rd:Int):=by rw[h0]; exact NP r x h hx
theorem Fp{w:World}{a:Addr}{x:Value}(h:w.cell? a=some x):a.block<w.heap.size:=by
 unfold World.cell? at h;rcases aoT a.block w.heap.size with h' | h'
 ·exact h'
 rw[Array.getElem?_eq_none h']at h; simp at h
theorem V7(bu ou cu bv ov cv m:Nat)(D2 D1 D0 V1 V0:Nat)(w:World)(hm:m≤1000000000)
  (hD2:D2<4294967296) (hD1:D1<4294967296) (hD0:D0<4294967296) (hV1:V1<4294967296) (hV0:V0<4294967296) (hV:2147483648≤V1) (hDV:D2≤V1)
  (c2:w.cell? ⟨bu,ou+(m+2),none⟩=some (.int .u32 D2)) (c1:w.cell? ⟨bu,ou+(m+1),none⟩=some (.int .u32 D1)) (c0:w.cell? ⟨bu,ou+m,none⟩=some (.int .u32 D0))
  (e1:w.cell? ⟨bv,ov+(m+1),none⟩=some (.int .u32 V1)) (e0:w.cell? ⟨bv,ov+m,none⟩=some (.int .u32 V0)) :
  Calls prog 352 #[.slice (some ⟨bu,ou,none⟩) (m+3) cu,.slice (some ⟨bv,ov,none⟩) (m+2) cv] w fun e w'=>∃q:Nat,e = .returned (.int .u64 q)∧q<4294967296 ∧
   q*(V1*4294967296+V0)≤(D2*4294967296+D1)*4294967296+D0 ∧
   (q=(D2*4294967296+D1)/V1∨4294967296≤q+1∨(D2*4294967296+D1)*4294967296+D0<(q+1)*(V1*4294967296+V0))∧Ext w w':=by
 obtain⟨T,hT⟩:∃T,T=D2*4294967296+D1:=⟨_,rfl⟩;have hj1:=NP D2 D1 hD2 hD1;rw[←hT]at hj1 ⊢;have hTb:T<(V1+1)*4294967296:=by have:=apR 4294967296 hDV; omega
 obtain⟨Q0,hQ⟩:∃Q,Q=T/V1:=⟨_,rfl⟩;obtain⟨R0,hR⟩:∃R,R=T%V1:=⟨_,rfl⟩;have hR1:R0<V1:=by rw[hR]; exact ao9 _ (by omega)
 have hQR:Q0*V1+R0=T:=by rw[hQ,hR,aoH]; exact Nat.div_add_mod T V1
 have hq0:(T:Int)/(V1:Int)=(Q0:Int):=by rw[hQ]; rfl
 have hr0:(T:Int)%(V1:Int)=(R0:Int):=by rw[hR]; rfl
 have hQb:Q0<8589934592:=by
  rcases aoT Q0 8589934592 with h | h
  ·exact h
  have:=apH h hV; omega
 have hqw:=iJ Q0 (by omega);have w2:=iJ D2 (by omega);have w1:=iJ D1 (by omega);have w0:=iJ D0 (by omega);have x1:=iJ V1 (by omega);have x0:=iJ V0 (by omega);have HT:=anU hT;have HQ:=anU hQ;have HQR:=anU hQR;rw[←hQ];have amO:(1:Int)≤V1:=by omega
 have Y7:(0:Int)≤T:=by omega
 clear hT hQ hR hQR;go_enter func352,ntmps352
 go_wp2_with fail
 go_quiet (fail)
 go_wp2_with fail
 go_quiet (fail)
 go_wp2_with fail
 go_loopw [7,8] (fun qv rv wr=>∃q r:Nat,qv = .int .u64 q∧rv = .int .u64 r∧q≤Q0∧q*V1+r=T∧r<4294967296 ∧
  (q=Q0∨4294967296≤q+1∨T*4294967296+D0<(q+1)*(V1*4294967296+V0))∧Ext w wr) (fun _ rv _=>8589934592-(intOf rv).toNat)
 case atStart=>exact⟨Q0,R0,rfl,by rw[hr0],an7 _,HQR.out,by omega,.inl rfl,below_drewN (below_drewN (aor _ _) _) _⟩
 case round =>
  obtain⟨q,r,rfl,rfl,hqQ,hqr,hr,hor,hbel⟩:=hrel;have d0:wr.cell? ⟨bu,ou+m,none⟩=some (.int .u32 D0):=(hbel.cell (p:=⟨bu,ou+m,none⟩) (Fp c0)).trans c0;have f1:wr.cell? ⟨bv,ov+(m+1),none⟩=some (.int .u32 V1):=(hbel.cell (p:=⟨bv,ov+(m+1),none⟩) (Fp e1)).trans e1;have f0:wr.cell? ⟨bv,ov+m,none⟩=some (.int .u32 V0):=(hbel.cell (p:=⟨bv,ov+m,none⟩) (Fp e0)).trans e0;have hqb:q<8589934592:=by omega
  have HOR:=anU hor;have HE:=anU hqr;clear hor hqr c0 e1 e0;by_cases hqB:4294967296≤q
  ·have t1:((q:Int)/4294967296 != 0)=true:=by rw[bne_iff_ne]; omega
   obtain⟨q1,rfl⟩:∃q1,q=q1+1:=⟨q-1,by omega⟩;have hdec:=adq HE.out;have t1:(((q1:Int)+1)/4294967296 != 0)=true:=by rw[bne_iff_ne]; omega
   have Y8:=anU hdec;have agu:4294967296≤q1+1:=hqB;clear hdec;go_wp2_with fail
   go_quiet (fail)
   go_wp2_with fail
   ·have t3 := ‹(((r:Int)+(V1:Int))/4294967296 != 0)=true›;rw[bne_iff_ne]at t3;obtain⟨h1,h2⟩:=Ui (V0:=V0) D0 Y8.out (by omega) hTb (by omega);go_ret
    exact⟨q1,by go_num,h1,h2,.inr (.inl agu),below_drewN hbel _⟩
   have t3 := ‹(((r:Int)+(V1:Int))/4294967296 != 0)=false›;rw[bne_eq_false_iff_eq]at t3;go_roundw
   case rel=>exact⟨q1,r+V1,by go_num,by go_num,by omega,Y8.out,by omega,.inr (.inl agu),below_drewN hbel _⟩
   case measure=>simp[intOf]; omega
  have t1:((q:Int)/4294967296 != 0)=false:=by rw[bne_eq_false_iff_eq]; omega
  obtain⟨qv,hqv⟩:∃qv,qv=q*V0:=⟨_,rfl⟩;obtain⟨rd,hrd⟩:∃rd,rd=r*4294967296+D0:=⟨_,rfl⟩;have hm1:=Jp hqv (show q<4294967296 by omega) hV0;have hj2:=V6 hrd hr hD0;have HB:=anU (agt HE.out hqv hrd);clear hqv hrd;by_cases hgt:rd<qv
  ·have t2:(rd:Int)<qv:=by omega
   obtain⟨q1,rfl⟩:∃q1,q=q1+1:=by
    cases q with
    | zero=>exfalso; have:=HB.out.2.2 rfl; omega
    | succ q1=>exact⟨q1,rfl⟩
   have t1:(((q1:Int)+1)/4294967296 != 0)=false:=by rw[bne_eq_false_iff_eq]; omega
   have hm1:IntKind.u64.wrap (((q1:Int)+1)*(V0:Int))=(qv:Int):=by have:=hm1; simpa using this
   have Y8:=anU (adq HE.out);go_wp2_with fail
   go_quiet (fail)
   go_wp2_with fail
   ·have t3 := ‹(((r:Int)+(V1:Int))/4294967296 != 0)=true›;rw[bne_iff_ne]at t3;obtain⟨h1,h2⟩:=Ui (V0:=V0) D0 Y8.out (by omega) hTb (by omega);go_ret
    exact⟨q1,by go_num,h1,h2,.inr (.inr (HB.out.1 hgt)),below_drewN hbel _⟩
   have t3 := ‹(((r:Int)+(V1:Int))/4294967296 != 0)=false›;rw[bne_eq_false_iff_eq]at t3;go_roundw
   case rel=>exact⟨q1,r+V1,by go_num,by go_num,by omega,Y8.out,by omega,.inr (.inr (HB.out.1 hgt)),below_drewN hbel _⟩
   case measure=>simp[intOf]; omega
  have t2:¬(rd:Int)<qv:=by omega
  go_wp2_with fail
  go_quiet (fail)
  go_wp2_with fail
  go_ret
  exact⟨q,rfl,by omega,HB.out.2.1 hgt,HOR.out,below_drewN hbel _⟩
open Go.RowKit
variable{α:Type}
def seg(l:List UInt32)(k i:Nat):List UInt32:=(l.drop k).take i
theorem abV(l:List UInt32)(k i:Nat)(x:UInt32)(h:k+i<l.length):seg (l.set (k+i) x) k (i+1)=seg l k i++[x]:=by
 unfold seg;apply List.ext_getElem
 ·simp; omega
 intro j h1 h2;simp only[List.getElem_take,List.getElem_drop,List.getElem_set];rcases aoT j i with hj | hj
 ·rw[an0 (by omega),List.getElem_append_left (by simp; omega)]; simp
 have:j=i:=by simp at h1; omega
 subst this;rw[an6 rfl,List.getElem_append_right (by simp; omega)]; simp
theorem seg_length(l:List UInt32)(k i:Nat)(h:k+i≤l.length):(seg l k i).length=i:=by unfold seg; simp; omega
theorem kC(l:List UInt32)(k i:Nat)(h:k+i<l.length):Na.val (seg l k (i+1))=Na.val (seg l k i)+Na.B^i*l[k+i].toNat:=by
 unfold seg;rw[Na.bU _ _ (by simp; omega)]; simp
theorem tV(l:List UInt32)(k i:Nat)(x:UInt32)(h:k+i<l.length):Na.val (seg (l.set (k+i) x) k (i+1))=Na.val (seg l k i)+Na.B^i*x.toNat:=by
 rw[abV l k i x h,Na.jo,seg_length _ _ _ (by omega)]
def Turned(us ws:List UInt32)(k i:Nat):Prop:=ws.length=us.length∧ws.take k=us.take k∧ws.drop (k+i)=us.drop (k+i)
theorem Turned.refl(us:List UInt32)(k i:Nat):Turned us us k i:=⟨rfl,rfl,rfl⟩
theorem Turned.set{us ws:List UInt32}{k i:Nat}(h:Turned us ws k i)(x:UInt32):Turned us (ws.set (k+i) x) k (i+1):=by
 obtain⟨h1,h2,h3⟩:=h;refine⟨by simp[h1],?_,?_⟩
 ·rw[List.take_set_of_le (by omega),h2]
 rw[List.drop_set_of_lt (by omega)];have:ws.drop (k+i+1)=us.drop (k+i+1):=by rw[←List.drop_drop,h3,List.drop_drop]
 exact this
theorem Turned.get{us ws:List UInt32}{k i:Nat}(h:Turned us ws k i)(hl:k+i<us.length):ws[k+i]'(by rw[h.1]; exact hl)=us[k+i]:=by
 have h1:=an9 (fun l=>l[0]?) h.2.2;have h2:=h.1;simp only[List.getElem?_drop,apP]at h1;rw[List.getElem?_eq_getElem (by omega),List.getElem?_eq_getElem hl]at h1;exact aof h1
theorem Rf{A W Y Q c bo U s lo x MR:Nat}(E:Nat)(h:A+E*(c+bo)=W+Q*Y)(y:Nat)(hs:s=c+Q*y)(hlo:lo=s%Na.B)(hu:U+Na.B*MR=x+lo+bo) :
  A+E*U+E*Na.B*(s/Na.B+MR)=W+E*x+Q*(Y+E*y):=by
 have h1:=apj s Na.B;rw[←hlo]at h1;have e1:Q*(Y+E*y)=Q*Y+E*(Q*y):=by rw[aos,Nat.mul_left_comm]
 have e2:E*Na.B*(s/Na.B+MR)=E*(Na.B*(s/Na.B))+E*(Na.B*MR):=by rw[aos,aoI,aoI]
 have e3:E*U+E*(Na.B*MR)=E*x+E*lo+E*bo:=by rw[←aos,hu,aos,aos]
 have e4:E*lo+E*(Na.B*(s/Na.B))=E*c+E*(Q*y):=by rw[←aos,h1,hs,aos]
 rw[aos]at h;rw[e1,e2];omega
theorem Fq(U lo bo:Nat)(hU:U<4294967296)(hlo:lo<4294967296)(hbo:bo≤1):∃Z x MR:Nat,IntKind.u64.wrap (IntKind.u64.wrap ((U:Int)-(lo:Int))-(bo:Int))=(Z:Int) ∧
  (Z:Int)%4294967296=(x:Int)∧(Z:Int)/9223372036854775808=(MR:Int)∧MR≤1∧x<4294967296∧U+Na.B*MR=x+lo+bo:=by
 rw[ao8,ao8];unfold Na.B;by_cases h:lo+bo≤U
 ·exact⟨U-lo-bo,U-lo-bo,0,by omega,by omega,by omega,by omega,by omega,by omega⟩
 exact⟨U+18446744073709551616-lo-bo,U+4294967296-lo-bo,1,by omega,by omega,by omega,by omega,by omega,by omega⟩
theorem Za(s:Nat)(hs:s<18446744073709551616):bits .and .u64 (s:Int) 4294967295=((s%Na.B:Nat):Int):=by
 have:=u64_and_nat s 4294967295 hs (by omega);rw[show((4294967295:Nat):Int)=4294967295 from rfl]at this;rw[this,nat_mask32]; rfl
theorem Fv(w:World)(row:Option Nat):w.grownBy w row:=⟨rfl,rfl,rfl,an7 _,fun _ _ _=>rfl⟩
theorem wR{a b c:World}{row:Option Nat}(h1:a.grownBy b row)(h2:b.grownBy c row):a.grownBy c row:=
 ⟨h2.os.trans h1.os,h2.tape.trans h1.tape,h2.output.trans h1.output,aoE h1.size h2.size,fun k hk hne=>(h2.block k (aoC hk h1.size) hne).trans (h1.block k hk hne)⟩
theorem take_any(g k n N cp cap:Nat)(us ys:List UInt32)(bv ov cv Q:Nat)(w0 w:World)(hn:ys.length=n)(hN:us.length=N)(hk:k+n+1≤N)(hN2:N≤1000000000)(hQ:Q<4294967296)
  (hv:∀i (h:i<ys.length),w0.cell? ⟨bv,ov+i,none⟩=some (aY ys[i])) (hbv:bv<w0.heap.size)
  (hown:w.ownsRow w0.heap.size 66 1 (.slice (some ⟨g,0,none⟩) N cap) N (us.map aY)) (hbel:Below w0.heap.size w0 w) :
  Calls prog 353 #[.slice (some ⟨g,k,none⟩) (n+1) cp,.slice (some ⟨bv,ov,none⟩) n cv,.int .u64 Q] w fun e w'=>∃(neg:Bool) (ws:List UInt32),e = .returned (.bool neg) ∧
   Turned us ws k (n+1)∧Na.val (seg us k (n+1))+(if neg then Na.B^(n+1)else 0)=Na.val (seg ws k (n+1))+Q*Na.val ys ∧
   w'.ownsRow w0.heap.size 66 1 (.slice (some ⟨g,0,none⟩) N cap) N (ws.map aY)∧Below w0.heap.size w0 w'∧w.grownBy w' (some g):=by
 have hgb:w0.heap.size≤g:=(hown.lt g rfl).1;have HV:=anU hv;have HN:=anU hn;have HNN:=anU hN;have HO:=anU hown;clear hv hn hN hown;go_enter func353,ntmps353
 go_wp2_with fail
 go_loopw [7,8,15] (fun cv bv iv wr=>∃(i c bo:Nat) (ws:List UInt32),i≤n∧iv = .i i∧cv = .int .u64 c∧bv = .int .u64 bo∧c<4294967296∧bo≤1∧Turned us ws k i ∧
  Na.val (seg us k i)+Na.B^i*(c+bo)=Na.val (seg ws k i)+Q*Na.val (ys.take i) ∧
  wr.ownsRow w0.heap.size 66 1 (.slice (some ⟨g,0,none⟩) N cap) N (ws.map aY)∧Below w0.heap.size w0 wr∧w.grownBy wr (some g)) (fun _ _ iv _=>n-(intOf iv).toNat)
 case atStart=>exact⟨0,0,0,us,by omega,rfl,rfl,rfl,by omega,by omega,Turned.refl _ _ _,by simp[seg,Na.val],HO.out,hbel,Fv _ _⟩
 case round =>
  obtain⟨i,c,bo,ws,hi,rfl,rfl,rfl,hc,hbo,htu,hval,hown,hbel,hgr⟩:=hrel;have nY:=anU hval;have HTU:=anU htu;have HW:=anU hown;clear hval htu hown HO;have hwl:=HTU.out.1;by_cases hlt:i<n
  ·have hyl:i<ys.length:=by rw[HN.out]; exact hlt
   have hy:wr.cell? ⟨bv,ov+i,none⟩=some (aY ys[i]):=by rw[hbel.cell (p:=⟨bv,ov+i,none⟩) hbv]; exact HV.out i hyl
   have MS:k+i<us.length:=by rw[HNN.out]; omega
   have hu:wr.cell? ⟨g,k+i,none⟩=some (aY us[k+i]):=by
    rw[HW.out.cellAt (k+i) (by omega),List.getElem?_map,List.getElem?_eq_getElem (by omega),aoO,HTU.out.get MS]
   have hfz:=HW.out.frozenAt (k+i);have HY:=anU (Na.bU ys i hyl);have HU:=anU (kC us k i MS);generalize ys[i]=y at hy HY;generalize us[k+i]=U at hu HU;have g1:=y.toNat_lt;have g2:=U.toNat_lt;have y0:=fO y;have u0:=fO U;obtain⟨qy,hqy⟩:∃qy,qy=Q*y.toNat:=⟨_,rfl⟩;have hmul:=Jp hqy hQ g1;have hqb:qy≤18446744065119617025:=by rw[hqy]; exact apH (show Q≤4294967295 by omega) (show y.toNat≤4294967295 by omega)
   obtain⟨s,hs⟩:∃s,s=c+qy:=⟨_,rfl⟩;have hsum:IntKind.u64.wrap ((c:Int)+(qy:Int))=(s:Int):=by rw[hs,←iJ (c+qy) (by omega)]; simp
   have hsb:s<18446744073709551616:=by omega
   obtain⟨lo,hlo⟩:∃lo,lo=s%Na.B:=⟨_,rfl⟩;have hand:bits .and .u64 (s:Int) 4294967295=(lo:Int):=by rw[hlo]; exact Za s hsb
   have ait:lo<4294967296:=by rw[hlo]; exact ao9 _ (by decide)
   obtain⟨Z,x,MR,hZ,hx,hb',abW,hxb,hu'⟩:=Fq U.toNat lo bo g2 ait hbo;obtain⟨c',hc'⟩:∃c',c'=s/Na.B:=⟨_,rfl⟩;have hcar:(s:Int)/4294967296=(c':Int):=by rw[hc']; simp[Na.B]
   have hcb:c'<4294967296:=by rw[hc']; exact apF hsb
   rw[hqy]at hs;have HS:=anU hs;have HLO:=anU hlo;have HC:=anU hc';have HUU:=anU hu';clear hqy hs hlo hc' hu' hqb hsb;go_wp2_with fail
   go_roundw
   case rel =>
    have hst:=(HW.out.stored (k+i) (aY (UInt32.ofNat x))).1;rw[←apv]at hst;have hg2:=(HW.out.stored (k+i) (Value.int .u32 (x:Int))).2;refine⟨i+1,c',MR,ws.set (k+i) (UInt32.ofNat x),by omega,by go_num,rfl,rfl,hcb,abW,HTU.out.set _,?_,?_,?_,wR hgr hg2⟩
    ·rw[HU.out,HY.out,tV _ _ _ _ (by omega),bQ hxb,HC.out,aoF];exact Rf (Na.B^i) nY.out y.toNat HS.out HLO.out HUU.out
    ·simpa[aY,bQ hxb]using hst
    exact hbel.setCell (p:=⟨g,k+i,none⟩) hgb _
   case measure=>simp[intOf]; omega
  obtain rfl:i=n:=by omega
  have MS:k+i<us.length:=by rw[HNN.out]; omega
  have hu:wr.cell? ⟨g,k+i,none⟩=some (aY us[k+i]):=by
   rw[HW.out.cellAt (k+i) (by omega),List.getElem?_map,List.getElem?_eq_getElem (by omega),aoO,HTU.out.get MS]
  have hfz:=HW.out.frozenAt (k+i);have HU:=anU (kC us k i MS);generalize us[k+i]=U at hu HU;have g2:=U.toNat_lt;have u0:=fO U;obtain⟨Z,x,MR,hZ,hx,hb',abW,hxb,hu'⟩:=Fq U.toNat c bo g2 hc hbo;have HUU:=anU hu';clear hu';go_wp2_with fail
  go_ret
  have hst:=(HW.out.stored (k+i) (aY (UInt32.ofNat x))).1;rw[←apv]at hst;refine⟨((MR:Int) != 0),ws.set (k+i) (UInt32.ofNat x),rfl,HTU.out.set _,?_,by simpa[aY,bQ hxb]using hst,hbel.setCell (p:=⟨g,k+i,none⟩) hgb _,wR hgr (HW.out.stored (k+i) (Value.int .u32 (x:Int))).2⟩;have hv:=nY.out;rw[←HN.out,aoQ,HN.out]at hv;rw[HU.out,tV _ _ _ _ (by omega),bQ hxb,aoF];have h3:=HUU.out;have e:(if ((MR:Int) != 0)=true then Na.B^i*Na.B else 0)=Na.B^i*(Na.B*MR):=by
   rcases(show MR=0∨MR=1 by omega)with rfl | rfl<;>simp
  rw[e];have e3:Na.B^i*U.toNat+Na.B^i*(Na.B*MR)=Na.B^i*x+Na.B^i*(c+bo):=by rw[←aos,h3,←aos]; congr 1; omega
  omega
set_option linter.unusedVariables false
theorem NR(l:List UInt32)(k i:Nat)(h:k+i≤l.length):Na.val (l.drop k)=Na.val (seg l k i)+Na.B^i*Na.val (l.drop (k+i)):=by
 unfold seg;rw[Na.gB (l.drop k) i (by simp; omega),List.drop_drop]
theorem Rh(vs ut:List UInt32)(n j:Nat)(hv:vs.length=n+2)(hu:j+n+3≤ut.length)(hlt:Na.val (ut.drop (j+1))<Na.val vs) :
  Na.val (seg ut j (n+3))=Na.val (ut.drop j)∧Na.val (ut.drop (j+(n+3)))=0∧Na.val (ut.drop j)<Na.B*Na.val vs ∧
  (ut[j+(n+2)]'(by omega)).toNat≤(vs[n+1]'(by omega)).toNat ∧
  (∃L,L<Na.B^n∧Na.val (ut.drop j)=L+Na.B^n*((ut[j+n]'(by omega)).toNat+Na.B*(ut[j+(n+1)]'(by omega)).toNat+Na.B*Na.B*(ut[j+(n+2)]'(by omega)).toNat)) ∧
  (∃M,M<Na.B^n∧Na.val vs=M+Na.B^n*((vs[n]'(by omega)).toNat+Na.B*(vs[n+1]'(by omega)).toNat)):=by
 have hvl:=Na.fB vs;rw[hv]at hvl;have hd:=Na.oH ut j (by omega);have hd0:=(ut[j]'(by omega)).toNat_lt;have hPV:Na.val (ut.drop j)<Na.B*Na.val vs:=by
  have h1:Na.B*(Na.val (ut.drop (j+1))+1)≤Na.B*Na.val vs:=aoK _ hlt;rw[aph]at h1;have:(ut[j]'(by omega)).toNat<Na.B:=hd0;omega
 have hs:=NR ut j (n+3) (by omega);have hz:Na.val (ut.drop (j+(n+3)))=0:=by
  rcases aoJ (Na.val (ut.drop (j+(n+3))))with h | h
  ·exact h
  have h1:Na.B^(n+3)*1≤Na.B^(n+3)*Na.val (ut.drop (j+(n+3))):=aoK _ h;have h2:Na.B*Na.val vs<Na.B*Na.B^(n+2):=Nat.mul_lt_mul_of_pos_left hvl Na.jV;rw[aoH Na.B (Na.B^(n+2)),←aoF]at h2;have h3:Na.B*Na.val vs<Na.B^(n+3):=h2;omega
 rw[hz,Nat.mul_zero,apP]at hs;have s2:=kC ut j (n+2) (by omega);have s1:=kC ut j (n+1) (by omega);have s0:=kC ut j n (by omega);have l0:=Na.fB (seg ut j n);have l2:=Na.fB (seg ut j (n+2));rw[seg_length _ _ _ (by omega)]at l0 l2;have t1:=Na.bU vs (n+1) (by omega);have t0:=Na.bU vs n (by omega);rw[aou (by omega)]at t1;have m0:=Na.fB (vs.take n);have m1:=Na.fB (vs.take (n+1));have e0:(vs.take n).length=n:=by simp; omega
 have e1:(vs.take (n+1)).length=n+1:=by simp; omega
 rw[e0]at m0;rw[e1]at m1;refine⟨hs.symm,hz,hPV,?_,⟨Na.val (seg ut j n),l0,?_⟩,⟨Na.val (vs.take n),m0,?_⟩⟩
 ·
  rw[hs,s2]at hPV;generalize (ut[j+(n+2)]'(by omega)).toNat=D2 at *;generalize (vs[n+1]'(by omega)).toNat=V1 at *;have h1:Na.B*Na.val vs<Na.B^(n+2)*(V1+1):=by
   have h2:Na.val vs<Na.B^(n+1)*(V1+1):=by rw[t1,aph]; omega
   have h3:Na.B*Na.val vs<Na.B*(Na.B^(n+1)*(V1+1)):=Nat.mul_lt_mul_of_pos_left h2 Na.jV;rw[←aoI,aoH Na.B (Na.B^(n+1)),←aoF]at h3;exact h3
  have h4:Na.B^(n+2)*D2<Na.B^(n+2)*(V1+1):=by omega
  exact Nat.le_of_lt_succ (Nat.lt_of_mul_lt_mul_left h4)
 ·have ep1:Na.B^(n+1)=Na.B^n*Na.B:=aoF _ _;have ep2:Na.B^(n+2)=Na.B^n*Na.B*Na.B:=by rw[aoF,aoF]
  rw[hs,s2,s1,s0,ep2,ep1,aos,aos,aoI (Na.B^n) Na.B (ut[j+(n+1)]'(by omega)).toNat,aoI (Na.B^n) Na.B Na.B,aoI (Na.B^n) (Na.B*Na.B)];omega
 rw[t1,t0,aoF,aos,←aoI];omega
theorem Zb{us ut ws:List UInt32}{V Q q j:Nat}(hU:Na.val us=Na.val ut+Na.B^(j+1)*(V*Q))(hl:ws.length=ut.length)(hj:j≤ut.length)(ht:ws.take j=ut.take j)
  (hw:Na.val (ws.drop j)=Na.val (ut.drop j)%V) (hq:q=Na.val (ut.drop j)/V):Na.val us=Na.val ws+Na.B^j*(V*(q+Na.B*Q)):=by
 have h1:=Na.gB ut j hj;have h2:=Na.gB ws j (by omega);rw[ht,hw]at h2;have h3:=apj (Na.val (ut.drop j)) V;rw[←hq]at h3;rw[hU,h1,h2];generalize Na.val (ut.drop j)%V=r at *;generalize Na.val (ut.drop j)=P at *;generalize Na.val (ut.take j)=A at *;clear hU h1 h2 hw hq;subst h3;rw[aos (Na.B^j) r,aos V q,Nat.mul_left_comm V Na.B Q,aos (Na.B^j) (V*q),aoF,aoI (Na.B^j) Na.B];omega
theorem DI{ut ws:List UInt32}{j i:Nat}(h:Turned ut ws j i)(hl:j+i≤ut.length)(hz:Na.val (ut.drop (j+i))=0):Na.val (ws.drop j)=Na.val (seg ws j i):=by
 rw[NR ws j i (by rw[h.1]; exact hl),h.2.2,hz]; simp
theorem Zc(c U y:Nat)(hc:c≤1)(hU:U<4294967296)(hy:y<4294967296) :
  ((c:Int)+((U:Int)+(y:Int)))/4294967296=(((c+(U+y))/Na.B:Nat):Int)∧((c:Int)+((U:Int)+(y:Int)))%4294967296=(((c+(U+y))%Na.B:Nat):Int) ∧
  (c+(U+y))%Na.B<4294967296∧(c+(U+y))/Na.B≤1:=by
 unfold Na.B;refine⟨by omega,by omega,by omega,by omega⟩
theorem V8{A W Y c U y:Nat}(E:Nat)(h:A+E*c=W+Y):A+E*((c+(U+y))%Na.B)+E*Na.B*((c+(U+y))/Na.B)=W+E*U+(Y+E*y):=by
 have h1:=apj (c+(U+y)) Na.B;have h2:E*((c+(U+y))%Na.B)+E*Na.B*((c+(U+y))/Na.B)=E*c+(E*U+E*y):=by
  rw[aoI,←aos,h1,aos,aos]
 omega
theorem Zd{A W V c U R E x:Nat}(h:A+E*c=W+V)(hx:x=W+E*U)(hs:x+V=E*Na.B+R)(hA:A<E)(hR:R<E)(hU:U<4294967296)(hc:c≤1) :
  A+E*((U+c)%Na.B)=R:=by
 subst hx;have h1:A+E*(U+c)=E*Na.B+R:=by rw[aos]; omega
 have h2:U+c=Na.B:=by
  rcases aqi (U+c) Na.B with h | h | h
  ·have h3:E*(U+c)+E≤E*Na.B:=by rw[←aph]; exact aoK _ h
   omega
  ·exact h
  have hB:Na.B=4294967296:=rfl;omega
 rw[h2]at h1 ⊢;rw[Nat.mod_self]; omega
open Go.RowKit
variable{α:Type}
theorem Fz(n:Nat)(w:World)(hn:n<4294967296*4294967296) :
  Calls prog 318 #[.int .u64 (n:Int)] w fun e w'=>∃v',e = .returned v' ∧
   w'.ownsRow w.heap.size 66 1 v' (Na.aj n).length ((Na.aj n).map aY)∧Ext w w':=by
 have h:=su (UInt64.ofNat n) w;have e:(UInt64.ofNat n).toNat=n:=by simp; omega
 unfold abz at h;rw[e]at h;exact h
theorem wS{a b:Nat}(h:b≤a):¬tu a b<0:=by unfold tu; rw[an0 (by omega)]; split<;>omega
theorem Ze{a b:Nat}(h:a<b):tu a b<0:=by rw[yh h]; omega
theorem uH{n:Nat}(h:(Na.aj n).length=0):n=0:=Na.lq.1 (apc h)
theorem NS(v u:Value)(l m:List UInt32)(w:World)(hv:aF w v l)(hu:aF w u m)(hlt:Na.val l<Na.val m)(hlen:l.length≤1000000000) :
  Calls prog 328 #[v,u] w fun e w'=>∃r,e = .returned (.tuple #[.sn,r,.i 0])∧aF w' r (Na.aj (Na.val l))∧Ext w w':=by
 have C1:=anU (short_any v l w hv);have C2:=anU (short_any u m w hu);have hb:0<(Na.aj (Na.val m)).length:=by
  rcases aoJ (Na.aj (Na.val m)).length with h | h
  ·have:=uH h; omega
  exact h
 have hcv:=Ze hlt;have ea:=Na.aJ (Na.val l);have eb:=Na.aJ (Na.val m);have hla:=bK l;rw[←ea,←eb]at hcv;clear hv hu hlt;generalize Na.aj (Na.val l)=a at *;generalize Na.aj (Na.val m)=b at *;have EA:=anU ea;have EB:=anU eb;clear ea eb;have hb0:((b.length:Int)==0)=false:=by rw[aog]; omega
 go_enter func328,ntmps328
 go_wp2_with fail
 refine C1.out.mono ?_;rintro e w' ⟨x,rfl,hx,rfl⟩;go_wp2_with fail
 refine C2.out.mono ?_;rintro e w' ⟨y,rfl,hy,rfl⟩;go_wp2_with fail
 refine(AU _ _ a b _ hx hy).mono ?_;rintro e w1 ⟨rfl,hb1⟩;generalize tu (Na.val a) (Na.val b)=c at hcv ⊢;go_wp2_with fail
 refine(Ue _ a _ (hx.below hb1) (by omega)).mono ?_;rintro e w2 ⟨r,rfl,hown,hb2⟩;have hr:=aU hown;clear hown;go_wp2_with fail
 go_ret3
 exact⟨_,rfl,hr,Ext.trans' hb1 hb2⟩
theorem Ri(v u:Value)(l m:List UInt32)(d:UInt32)(w:World)(hv:aF w v l)(hu:aF w u m)(hd:Na.aj (Na.val m)=[d])(hge:Na.val m≤Na.val l)(hlen:l.length≤1000000000) :
  Calls prog 328 #[v,u] w fun e w'=>∃q r,e = .returned (.tuple #[q,r,.i 0])∧aF w' q (Na.aj (Na.val l/Na.val m))∧aF w' r (Na.aj (Na.val l%Na.val m))∧Ext w w':=by
 have C1:=anU (short_any v l w hv);have C2:=anU (short_any u m w hu);have eb:=Na.aJ (Na.val m);have ed:Na.val m=d.toNat:=by rw[←eb,hd]; simp[Na.val]
 have hd0:0<d.toNat:=by
  rcases aoJ d.toNat with h | h
  ·rw[h]at ed; rw[ed]at hd; simp[Na.aj,Na.lg]at hd
  exact h
 have hcv:=wS hge;have ea:=Na.aJ (Na.val l);have hla:=bK l;rw[ed]at hcv ⊢;rw[hd]at C2;rw[←ea]at hcv;rw[←ea];clear hv hu hge eb;generalize Na.aj (Na.val l)=a at *;have EA:=anU ea;clear ea;have hcv':¬tu (Na.val a) (Na.val [d])<0:=by simpa[Na.val]using hcv
 have ON:=fun w v h=>anU (one_any v a d w h hd0 (by omega));clear hcv ed hd;have hdl:=d.toNat_lt;have amP:Na.val a%d.toNat<4294967296:=by have:=ao9 (Na.val a) hd0; omega
 go_enter func328,ntmps328
 go_wp2_with fail
 refine C1.out.mono ?_;rintro e w' ⟨x,rfl,hx,rfl⟩;go_wp2_with fail
 refine C2.out.mono ?_;rintro e w' ⟨y,rfl,hy,rfl⟩;obtain⟨by1,oy,cy,hys,hby,hly,hmy,hcy⟩:=dK hy rfl (by simp);simp only[aoB]at hys;obtain⟨rfl,-,-⟩:=hys;have hc0:=hcy 0 (by simp);simp only[apP,aqd]at hc0;clear hcy;rw[show([d]:List UInt32).length=1 from rfl]at hy ⊢;go_wp2_with fail
 refine(AU _ _ a [d] _ hx hy).mono ?_;rintro e w1 ⟨rfl,hb1⟩;have hc1:w1.cell? ⟨by1,oy,none⟩=some (aY d):=(hb1.cell (p:=⟨by1,oy,none⟩) hby).trans hc0;generalize tu (Na.val a) (Na.val [d])=c at hcv' ⊢;clear hc0;go_wp2_with fail
 refine(ON _ _ (hx.below hb1)).out.mono ?_;rintro e w2 ⟨q,rfl,hq,hb2⟩;have hw:IntKind.u64.wrap ((Na.val a%d.toNat:Nat):Int)=((Na.val a%d.toNat:Nat):Int):=iJ _ (by omega);have FU:=anU (Fz (Na.val a%d.toNat) w2 (by omega));generalize hrm:Na.val a%d.toNat=rm at *;have HRM:=anU hrm;clear hrm;go_wp2_with fail
 refine FU.out.mono ?_;rintro e w3 ⟨r,rfl,hown,hb3⟩;have hr:=aU hown;clear hown;go_wp2_with fail
 go_ret3
 exact⟨_,_,rfl,hq.below hb3,by rw[HRM.out]; exact hr,Ext.trans' hb1 (Ext.trans' hb2 hb3)⟩
open Go.RowKit
variable{α:Type}
theorem Turned.trans{us ws ts:List UInt32}{k i:Nat}(h1:Turned us ws k i)(h2:Turned ws ts k i):Turned us ts k i:=
 ⟨h2.1.trans h1.1,h2.2.1.trans h1.2.1,h2.2.2.trans h1.2.2⟩
theorem abX{a b U V P q r:Nat}(hU:U=a*P)(hV:V=b*P)(h:U=r+V*q)(hr:r<V)(hP:0<P):q=a/b∧r/P=a%b:=by
 subst hU hV;have h1:b*q*P≤a*P:=by rw[Nat.mul_right_comm]; omega
 have h2:=Nat.le_of_mul_le_mul_right h1 hP;obtain⟨s,rfl⟩:∃s,a=s+b*q:=⟨a-b*q,by omega⟩;have h3:r=s*P:=by rw[apk,Nat.mul_right_comm b q P]at h; omega
 subst h3;have h4:s<b:=Nat.lt_of_mul_lt_mul_right hr;rw[Nat.mul_div_cancel _ hP,Nat.add_mul_div_left _ _ (by omega),Nat.add_mul_mod_self_left,Nat.div_eq_of_lt h4,apI h4];exact⟨by omega,rfl⟩
theorem Iz(v:Value)(l:List UInt32)(p:Nat)(w:World)(hv:aF w v l)(hp2:p≤31)(hlen:l.length≤1000000000) :
  Calls prog 351 #[v,.i (-(p:Int))] w fun e w'=>∃v',e = .returned v'∧aF w' v' (Na.aj (Na.val l/2^p))∧Ext w w':=by
 rcases aoJ p with rfl | hp
 ·have h:=zL v l 0 w hv (by omega) hlen;refine h.mono ?_;rintro e w' ⟨a,rfl,hr,hb⟩;simp only[Nat.pow_zero,Nat.mul_one,Nat.div_one]at hr ⊢;exact⟨_,rfl,hr,hb⟩
 refine(Q9 v l p w hv hp hp2 hlen).mono ?_;rintro e w' ⟨a,rfl,hr,hb⟩;exact⟨_,rfl,hr,hb⟩
theorem V9(b:List UInt32)(m:Nat)(hm:b.length=m+1)(hn:Na.norm b):∃p:Nat,(32:Int)-(Lib.bitLen (b[m]'(by omega)).toNat:Int)=(p:Int)∧p≤31 ∧
  (Na.aj (Na.val b*2^p)).length=m+1∧∀(h:m<(Na.aj (Na.val b*2^p)).length),2147483648≤((Na.aj (Na.val b*2^p))[m]).toNat:=by
 have hx0:b[m]'(by omega)≠0:=by
  have:=Na.vJ hn (by omega);simpa[hm]using this
 have hv:=Na.bU b m (by omega);rw[←hm,aoQ]at hv;have ht:=Na.fB (b.take m);have e2:(b.take m).length=m:=by simp; omega
 rw[e2]at ht;generalize b[m]'(by omega)=x at *;have hb:1≤Lib.bitLen x.toNat∧2^(Lib.bitLen x.toNat-1)≤x.toNat∧x.toNat<2^Lib.bitLen x.toNat:=
  Lib.bitLenAux_bounds 64 _ (by have:=x.toNat_lt; omega) (fun e=>hx0 (ao5.1 (by simpa using e)))
 have hbl:=Lib.bitLen_le x.toNat 32 (by omega) x.toNat_lt;generalize Lib.bitLen x.toNat=c at *;refine⟨32-c,by omega,by omega,?_⟩;have hp1:2147483648≤x.toNat*2^(32-c):=by
  have h1:2^(c-1)*2^(32-c)=2147483648:=by rw[←apV,show c-1+(32-c)=31 by omega]
  rw[←h1]; exact apR _ hb.2.1
 have hp2:(x.toNat+1)*2^(32-c)≤Na.B:=by
  have h1:2^c*2^(32-c)=Na.B:=by rw[←apV,show c+(32-c)=32 by omega]; rfl
  rw[←h1]; exact apR _ hb.2.2
 have hpp:0<2^(32-c):=apd _;generalize 2^(32-c)=P at *;have hlo:Na.B^m*2147483648≤Na.val b*P:=by
  rw[hv,apk,aoI];have:=aoK (Na.B^m) hp1;omega
 have hhi:Na.val b*P<Na.B^(m+1):=by
  have h1:Na.val b<Na.B^m*(x.toNat+1):=by rw[hv,aph]; omega
  have h2:Na.val b*P<Na.B^m*(x.toNat+1)*P:=aqm h1 hpp;have h3:=aoK (Na.B^m) hp2;rw[aoF];rw[aoI]at h2;omega
 have hd:=Na.aJ (Na.val b*P);have hnd:=Na.gY (Na.val b*P);generalize Na.val b*P=V at *;generalize Na.aj V=l at *;have hB0:0<Na.B^m:=Nat.pow_pos Na.jV;have hll:l.length=m+1:=by
  have h1:=Na.length_le hnd (by rw[hd]; exact hhi);rcases aoT l.length (m+1)with h | h
  ·have h2:=Na.fB l;have h3:Na.B^l.length≤Na.B^m:=ao0 Na.jV (by omega);have h4:Na.B^m*1≤Na.B^m*2147483648:=aoK _ (by omega);rw[hd]at h2;omega
  omega
 refine⟨hll,fun h=>?_⟩;have h1:=Na.bU l m h;rw[←hll,aoQ,hd]at h1;have h2:=Na.fB (l.take m);have h3:(l.take m).length=m:=by simp; omega
 rw[h3]at h2;rcases aoT (l[m]).toNat 2147483648 with h4 | h4
 ·have h5:Na.B^m*((l[m]).toNat+1)≤Na.B^m*2147483648:=aoK _ h4;rw[aph]at h5;omega
 exact h4
theorem Rj{a b:List UInt32}(hb:Na.norm b)(h:Na.val b≤Na.val a):b.length≤a.length:=Na.length_le hb (ap7 h (Na.fB a))
theorem Wh(a:List UInt32)(p:Nat)(hp:p≤31)(hn:Na.norm a):a.length≤(Na.aj (Na.val a*2^p)).length∧(Na.aj (Na.val a*2^p)).length≤a.length+1:=by
 have hv:=Na.fB a;have hP:0<2^p:=apd p;have hP2:2^p≤Na.B:=aoE (ao0 (by omega) (show p≤32 by omega)) (an7 _);constructor
 ·rcases aoT (Na.aj (Na.val a*2^p)).length a.length with h | h
  ·exfalso;have h1:=Na.fB (Na.aj (Na.val a*2^p));rw[Na.aJ]at h1;have h2:=Na.CU hn (by omega);have h3:Na.B^(Na.aj (Na.val a*2^p)).length≤Na.B^(a.length-1):=ao0 Na.jV (by omega);have h4:Na.val a*1≤Na.val a*2^p:=aoK _ hP;omega
  exact h
 apply Na.dD;rw[aoF];exact aoC (aqm hv hP) (aoK _ hP2)
theorem NT(v u:Value)(l m:List UInt32)(n:Nat)(w:World)(hv:aF w v l)(hu:aF w u m)(hn:(Na.aj (Na.val m)).length=n+2)(hge:Na.val m≤Na.val l)(hlen:l.length≤100000000)(hlen2:m.length≤100000000) :
  Calls prog 328 #[v,u] w fun e w'=>∃q r,e = .returned (.tuple #[q,r,.i 0])∧aF w' q (Na.aj (Na.val l/Na.val m))∧aF w' r (Na.aj (Na.val l%Na.val m))∧Ext w w':=by
 have C1:=anU (short_any v l w hv);have C2:=anU (short_any u m w hu);have hla:=bK l;have hlb:=bK m;have ea:=Na.aJ (Na.val l);have eb:=Na.aJ (Na.val m);have na:=Na.gY (Na.val l);have nb:=Na.gY (Na.val m);have hcv:=wS hge;rw[←ea,←eb]at hcv hge;rw[←ea,←eb];clear hv hu ea eb;generalize Na.aj (Na.val l)=a at *;generalize Na.aj (Na.val m)=b at *;obtain⟨p,hp,NU,hvl,hvt⟩:=V9 b (n+1) hn nb;have amK:=(b[n+1]'(by omega)).toNat_lt;have HGE:=anU hge;have HNA:=anU na;have HNB:=anU nb;have X9:Hid ((Na.aj (Na.val b*2^p)).length=n+2):=hvl;have HVT:=anU hvt;have HN:=anU hn;clear hge na nb hvl hvt;go_enter func328,ntmps328
 go_wp2_with fail
 refine C1.out.mono ?_;rintro e w' ⟨x,rfl,hx,rfl⟩;go_wp2_with fail
 refine C2.out.mono ?_;rintro e w' ⟨y,rfl,hy,rfl⟩;obtain⟨by1,oy,cy,hys,hby,hly,hmy,hcy⟩:=dK hy rfl (by omega);simp only[aoB]at hys;obtain⟨rfl,-,-⟩:=hys;have hct:=hcy (n+1) (by omega);clear hcy;go_wp2_with fail
 refine(AU _ _ a b _ hx (by rw[←HN.out]; exact hy)).mono ?_;rintro e w1 ⟨rfl,hb1⟩;have aiu:w1.cell? ⟨by1,oy+(n+1),none⟩=some (aY (b[n+1]'(by omega))):=(hb1.cell (p:=⟨by1,oy+(n+1),none⟩) hby).trans hct;clear hct;generalize tu (Na.val a) (Na.val b)=c at hcv ⊢;generalize b[n+1]'(by omega)=bt at *;have hn1:((n:Int)+2==1)=false:=by rw[aog]; omega
 go_wp2_with fail
 refine(Tryz.bits_LeadingZeros32 (bt.toNat:Int) _ (by omega) (by omega)).mono ?_;rintro e w' ⟨rfl,rfl⟩;rw[aqj,hp];clear hp;have hy1:=hy.below hb1;rw[HN.out]at hy1;have hx1:=hx.below hb1;go_wp2_with fail
 refine(zL _ b p _ hy1 NU (by omega)).mono ?_;rintro e w2 ⟨bv,rfl,hvv,hb2⟩;rw[X9.out]at hvv ⊢;go_wp2_with fail
 refine(zL _ a p _ (hx1.below hb2) NU (by omega)).mono ?_;rintro e w3 ⟨bu,rfl,huu,hb3⟩;have MS:=Wh a p NU HNA.out;have agv:=hvv.below hb3;have aeg:Ext w w3:=Ext.trans' hb1 (Ext.trans' hb2 hb3);have hVn:Na.val (Na.aj (Na.val b*2^p))=Na.val b*2^p:=Na.aJ _;have hUn:Na.val (Na.aj (Na.val a*2^p))=Na.val a*2^p:=Na.aJ _;generalize Na.aj (Na.val b*2^p)=vs at *;generalize Na.aj (Na.val a*2^p)=us at *;have HVn:=anU hVn;have HUn:=anU hUn;clear hVn hUn hvv hy hy1 hx hx1 aiu C1 C2;have r0:=jr w3 (.int .u32 0) 66 rfl;have ru:=Cj (huu.raw (fun _=>rfl)) (.cells #[.int .u32 0] 66);have h63:us.length+1≤maxLen:=by unfold maxLen; omega
 have hby:(us.length+1)*4≤140737488355328:=by omega
 have X4:=aG w3 (.cells #[.int .u32 0] 66);have aeh:=agv.below X4;have agw:=Ext.trans' aeg X4;clear huu agv hb1 hb2 hb3 X4;have hNa:¬((us.length:Int)+1≤(a.length:Int)):=by omega
 go_wp2_with (at_builtin; refine yK rfl _ _ _ rfl lX ru rfl r0 rfl (by decide) h63 hby ?_; intro uv w5 hown5 Zf; obtain⟨g,cap,rfl,hgb,hNc,hcm⟩:=Cm hown5 (Nat.succ_pos _))
 refine apb 1 ?_;rw[aoj];have HO5:=anU hown5;have agx:=aeh.below Zf;have aiv:=Ext.trans' agw Zf;have hk0:vs.length≤us.length:=by
  have h1:=X9.out;have h2:=HN.out;have h3:=Rj HNB.out HGE.out;omega
 clear hown5 ru r0 agw;obtain⟨K,hK⟩:∃K,us.length+1=K+(n+2):=⟨us.length+1-(n+2),by have h1:=X9.out; omega⟩;have hKi:(us.length:Int)+1-((n:Int)+2)=(K:Int):=by omega
 have HK:=anU hK;have hK1:K≤us.length:=by omega
 have aiw:K≤maxLen:=by unfold maxLen; omega
 have aix:4*K≤281474976710656:=by omega
 clear hK;go_wp2_with (at_make; refine wpList_make_row rfl _ _ _ rfl lX rfl w5.heap.size K rfl rfl rfl aix aiw (an7 _) ?_; intro w6 hown6 hg6)
 have abY:=iG (aor w5.heap.size w5) hg6 (an7 _);have HO6:=anU hown6;have hg5:g<w5.heap.size:=(HO5.out.lt g rfl).2;have aiy:=agx.below abY;clear hown6 hKi agx hNa aiy;obtain⟨bb,ob,cb,hvs,hbb,amQ,amR,agy⟩:=dK aeh X9.out (by omega);simp only[aoB]at hvs;obtain⟨rfl,-,-⟩:=hvs;have hbw:w3.heap.size+1=(w3.alloc (.cells #[.int .u32 0] 66)).heap.size:=by simp
 have hg4:(w3.alloc (.cells #[.int .u32 0] 66)).heap.size≤g:=hgb;have agz:Ext w (w3.alloc (.cells #[.int .u32 0] 66)):=Ext.trans' aeg (aG _ _);have abZ:Ext (w3.alloc (.cells #[.int .u32 0] 66)) w6:=Ext.trans' Zf abY;have H5:Hid (w6.ownsRow (w3.alloc (.cells #[.int .u32 0] 66)).heap.size 66 1 (.slice (some ⟨g,0,none⟩) (us.length+1) cap) (us.length+1) ((us++[0]).map aY)):=by
  have:=aK HO5.out abY;unfold Hid;simpa[aY]using this
 clear aeh HO5 Zf aeg aiv hbw hgb;generalize w3.alloc (.cells #[.int .u32 0] 66)=w4 at *;have HC:=anU agy;have Uj:Na.B^(n+1)≤Na.val vs:=by
  have h0:n+1<vs.length:=by have:=X9.out; omega
  have h1:=HVT.out h0;have h2:=Na.bU vs (n+1) h0;rw[aou (by have:=X9.out; omega)]at h2;have h3:Na.B^(n+1)*1≤Na.B^(n+1)*(vs[n+1]).toNat:=aoK _ (by omega);omega
 have HVP:=anU Uj;clear Uj;clear agy;go_loopw [13] (fun i wr=>∃(k:Nat) (ut qd:List UInt32),k≤K∧i = .i ((k:Int)-1)∧ut.length=us.length+1∧k+qd.length=K∧Na.val (ut.drop k)<Na.val vs ∧
  Na.val us=Na.val ut+Na.B^k*(Na.val vs*Na.val qd) ∧
  wr.ownsRow w4.heap.size 66 1 (.slice (some ⟨g,0,none⟩) (us.length+1) cap) (us.length+1) (ut.map aY) ∧
  wr.ownsRow w5.heap.size 66 1 (.slice (some ⟨w5.heap.size,0,none⟩) K K) K ((List.replicate k 0++qd).map aY)∧Below w4.heap.size w4 wr) (fun i _=>(intOf i+1).toNat)
 case atStart =>
  refine⟨K,us++[0],[],an7 _,rfl,by simp,by simp,?_,by simp[Na.val_append,Na.val],H5.out,by simpa[aY]using HO6.out,abZ⟩;have h1:=HK.out;have h2:(us++[0]).drop K=us.drop K++[0]:=by rw[List.drop_append_of_le_length (by omega)]
  rw[h2,Na.jo];have h3:=Na.fB (us.drop K);have h4:(us.drop K).length=n+1:=by simp; omega
  rw[h4]at h3;have h5:=HVP.out;simp; omega
 case round =>
  obtain⟨k,ut,qd,hk,rfl,Wi,hkq,hlt,hU,hou,hoq,hbel⟩:=hrel;have HOU:=anU hou;have HOQ:=anU hoq;have NV:=anU Wi;have HKQ:=anU hkq;have HU:=anU hU;clear hou hoq Wi hkq hU;cases k with
  | zero =>
   have hqR:aF wr (.slice (some ⟨w5.heap.size,0,none⟩) K K) qd:=by
    have h1:=HOQ.out;have h2:=HKQ.out;rw[aoY]at h2;rw[←h2]at h1 ⊢;exact aU (l:=qd) h1
   have huR:aF wr (.slice (some ⟨g,0,none⟩) (us.length+1) cap) ut:=by
    have h1:=HOU.out;have h2:=NV.out;rw[←h2]at h1 ⊢;exact aU (l:=ut) h1
   have hE:=abX HUn.out HVn.out (by have h1:=HU.out; rw[Nat.pow_zero,Nat.one_mul]at h1; exact h1) (by rw[ao7]at hlt; exact hlt) (apd p);have HE:=anU hE;have aei:ut.length≤1000000000:=by have h1:=NV.out; omega
   clear hE;go_wp2_with fail
   refine(short_any _ qd _ hqR).mono ?_;rintro e w' ⟨q',rfl,hq',rfl⟩;go_wp2_with fail
   refine(Iz _ ut p _ huR NU aei).mono ?_;rintro e w9 ⟨r',rfl,hr',hb9⟩;go_wp2_with fail
   go_ret3
   have hq9:=hq'.below hb9;rw[HE.out.1]at hq9;rw[HE.out.2]at hr';rw[HE.out.1];exact⟨_,_,rfl,hq9,hr',Ext.trans' agz (hbel.trans (hb9.mono hbel.size))⟩
  | succ j =>
   have hi:(((j+1:Nat):Int)-1)=(j:Int):=by omega
   rw[hi];clear hi;have hjc:j<cap:=by omega
   have hKK:=HK.out;have hpc:j+(n+2)+1≤cap:=by omega
   have hpl:j+(n+2)+1-j=n+3:=by omega
   have agA:j+n+3≤ut.length:=by have:=NV.out; omega
   obtain⟨hf1,hf2,hf3,hf4,⟨L,hL1,hL2⟩,⟨M,hM1,hM2⟩⟩:=Rh vs ut n j X9.out agA hlt;have hjN:∀i (h:i<ut.length),wr.cell? ⟨g,i,none⟩=some (aY ut[i]):=fun i h=>by
    rw[HOU.out.cellAt i (by have:=NV.out; omega),List.getElem?_map,List.getElem?_eq_getElem h,aoO]
   have hvv:∀i (h:i<vs.length),wr.cell? ⟨bb,ob+i,none⟩=some (aY vs[i]):=fun i h=>by
    rw[hbel.cell (p:=⟨bb,ob+i,none⟩) hbb]; exact HC.out i h
   have i2:j+(n+2)<ut.length:=by omega
   have i1:j+(n+1)<ut.length:=by omega
   have i0:j+n<ut.length:=by omega
   have v1:n+1<vs.length:=by have:=X9.out; omega
   have v0:n<vs.length:=by omega
   have ads:=HVT.out v1;have hn9:n≤1000000000:=by omega
   have hg:=V7 g j (cap-j) bb ob (n+2) n _ _ _ _ _ wr hn9 (ut[j+(n+2)]'i2).toNat_lt (ut[j+(n+1)]'i1).toNat_lt (ut[j+n]'i0).toNat_lt
    (vs[n+1]'v1).toNat_lt (vs[n]'v0).toNat_lt ads hf4 (hjN _ i2) (hjN _ i1) (hjN _ i0) (hvv _ v1) (hvv _ v0)
   have Uj:0<(vs[n+1]'v1).toNat:=aoC (by decide) ads;have adt:=fun q h1 h2 h3=>Na.VX (q:=q) hL2 hL1 hM2 hM1 Uj (ut[j+n]'i0).toNat_lt h1 hf3 h2 h3;have HG:=anU hg;have HGL:=anU adt;have HF1:=anU hf1;have HF2:=anU hf2;have HF3:=anU hf3;clear hKK hf1 hf2 hf3 hf4 hL1 hL2 hM1 hM2 hjN hvv hg adt;go_wp2_with fail
   refine HG.out.mono ?_;rintro e w7 ⟨q,rfl,hqB,hq1,hq2,hb7⟩;have hq:=HGL.out q hqB hq1 hq2;have HQ:=anU hq;clear HG HGL hq1 hq2 hq;have aiz:=anU (aK HOU.out hb7);have aiA:=anU (aK HOQ.out hb7);have agB:Below w4.heap.size w4 w7:=hbel.trans (hb7.mono hbel.size);go_wp2_with fail
   refine(take_any g j (n+2) (us.length+1) (cap-j) cap ut vs bb ob (n+2) q w4 w7 X9.out NV.out (by have:=NV.out; omega) (by omega) hqB HC.out hbb aiz.out agB).mono ?_;rintro e w8 ⟨neg,ws,rfl,hturn,hval,adu,adv,aiB⟩;have HT:=anU hturn;have HV8:=anU hval;have HO8:=anU adu;have HQ8:=anU (aiA.out.kept aiB (by right; simp[Value.ownBlock]; omega));clear hturn hval adu;have ab1:0<Na.val vs:=aoC (Nat.pow_pos Na.jV) HVP.out;have hsl:seg ut j (n+2+1)=seg ut j (n+3):=rfl;have Wj:Na.val (seg ws j (n+2+1))<Na.B^(n+2+1):=by
    have h1:=Na.fB (seg ws j (n+2+1));rw[seg_length _ _ _ (by have:=HT.out.1; have:=NV.out; omega)]at h1; exact h1
   have hv8:=HV8.out;rw[hsl,HF1.out]at hv8;have hstep:=Na.YZ neg ab1 HQ.out.1 HQ.out.2 Wj hv8;have HS:=anU hstep;have HX8:=anU Wj;have hdz:Na.val (ut.drop (j+(n+2+1)))=0:=HF2.out;have HDZ:=anU hdz;obtain⟨⟨cv,hcell⟩,hfz⟩:=qV HQ8.out j (by omega);have hqi:(q:Int)%4294967296=q:=by omega
   clear hsl Wj hv8 hstep hdz agA;have agC:w4.heap.size≤w5.heap.size:=by omega
   have heq:aY (UInt32.ofNat q) = .int .u32 (q:Int):=by simp only[aY,bQ hqB]
   have HEQ:=anU heq;clear heq;cases neg with
   | false =>
    have HS1:=anU (HS.out.1 rfl);clear HS;go_wp2_with fail
    go_roundw
    case rel =>
     obtain⟨hxm,Zg⟩:=HS1.out;have hst:=HQ8.out.stored j (.int .u32 (q:Int));rw[←HEQ.out,aoL,aqe,Eu,HEQ.out]at hst;have hdrop:=DI HT.out (by have:=NV.out; omega) HDZ.out;rw[hxm]at hdrop;refine⟨j,ws,UInt32.ofNat q::qd,by omega,rfl,HT.out.1.trans NV.out,by have:=HKQ.out; simp; omega,by rw[hdrop]; exact ao9 _ ab1,?_,?_,?_,?_⟩
     ·have:=Zb HU.out HT.out.1 (by have:=NV.out; omega) HT.out.2.1 hdrop Zg;simp only[Na.val,bQ hqB]; exact this
     ·exact HO8.out.kept hst.2 (by right; simp[Value.ownBlock]; omega)
     ·have h1:=hst.1;rw[←HEQ.out]at h1 ⊢;rw[aoL,aqe,aoS];exact h1
     exact adv.setCell (p:=⟨w5.heap.size,j,none⟩) agC _
    case measure=>simp[intOf]
   | true =>
    have HS1:=anU (HS.out.2 rfl);have hq1:=HS1.out.1;have hqm:(1:Int)≤q:=by omega
    clear HS hcell hfz;go_wp2_with fail
    go_loopw [16,105] (fun cv iv wr=>∃(i c:Nat) (wt:List UInt32),i≤n+2∧iv = .i i∧cv = .int .u64 c∧c≤1∧Turned ws wt j i ∧
     Na.val (seg wt j i)+Na.B^i*c=Na.val (seg ws j i)+Na.val (vs.take i) ∧
     wr.ownsRow w4.heap.size 66 1 (.slice (some ⟨g,0,none⟩) (us.length+1) cap) (us.length+1) (wt.map aY)∧w8.grownBy wr (some g)∧Below w4.heap.size w4 wr) (fun _ iv _=>n+2-(intOf iv).toNat)
    case atStart=>exact⟨0,0,ws,by omega,rfl,rfl,by omega,Turned.refl _ _ _,by simp[seg,Na.val],HO8.out,Fv _ _,adv⟩
    case round =>
     obtain⟨i,c,wt,hi,rfl,rfl,hc,htu,hval,hown,hgr,hbl⟩:=hrel;have HT9:=anU htu;have HV9:=anU hval;have HO9:=anU hown;clear htu hval hown;by_cases hlt2:i<n+2
     ·have MS:j+i<ws.length:=by have aej:=HT.out.1; have Wi:=NV.out; omega
      have hu:wr.cell? ⟨g,j+i,none⟩=some (aY (ws[j+i]'MS)):=by
       rw[HO9.out.cellAt (j+i) (by have aej:=HT.out.1; have Wi:=NV.out; omega),List.getElem?_map,List.getElem?_eq_getElem (by have hwl:=HT9.out.1; omega),aoO,HT9.out.get MS]
      have hfz:=HO9.out.frozenAt (j+i);have HU9:=anU (kC ws j i MS);have aek:j+i<wt.length:=by have hwl:=HT9.out.1; omega
      generalize ws[j+i]'MS=U at hu HU9;have g2:=U.toNat_lt;have u0:=fO U;have hyl:i<vs.length:=by have:=X9.out; omega
      have hy:wr.cell? ⟨bb,ob+i,none⟩=some (aY vs[i]):=by rw[hbl.cell (p:=⟨bb,ob+i,none⟩) hbb]; exact HC.out i hyl
      have HY:=anU (Na.bU vs i hyl);generalize vs[i]=y at hy HY;have g1:=y.toNat_lt;have y0:=fO y;go_wp2_with fail
      go_roundw
      case rel =>
       obtain⟨z1,z2,z3,z4⟩:=Zc c U.toNat y.toNat hc g2 g1;have hst:=HO9.out.stored (j+i) (.int .u32 (((c+(U.toNat+y.toNat))%Na.B:Nat):Int));have ez:aY (UInt32.ofNat ((c+(U.toNat+y.toNat))%Na.B)) = .int .u32 (((c+(U.toNat+y.toNat))%Na.B:Nat):Int):=by simp only[aY,bQ z3]
       rw[←ez,←apv,ez]at hst;rw[z1,z2];refine⟨i+1,(c+(U.toNat+y.toNat))/Na.B,wt.set (j+i) (UInt32.ofNat ((c+(U.toNat+y.toNat))%Na.B)),by omega,by go_num,rfl,z4,HT9.out.set _,?_,hst.1,wR hgr hst.2,hbl.setCell (p:=⟨g,j+i,none⟩) hg4 _⟩;rw[tV _ _ _ _ aek,HU9.out,HY.out,bQ z3,aoF];exact V8 (Na.B^i) HV9.out
      case measure=>simp[intOf]; omega
     obtain rfl:i=n+2:=by omega
     have MS:j+(n+2)<ws.length:=by have aej:=HT.out.1; have Wi:=NV.out; omega
     have hu:wr.cell? ⟨g,j+(n+2),none⟩=some (aY (ws[j+(n+2)]'MS)):=by
      rw[HO9.out.cellAt (j+(n+2)) (by have aej:=HT.out.1; have Wi:=NV.out; omega),List.getElem?_map,List.getElem?_eq_getElem (by have hwl:=HT9.out.1; omega),aoO,HT9.out.get MS]
     have hfz:=HO9.out.frozenAt (j+(n+2));have HU9:=anU (kC ws j (n+2) MS);have aek:j+(n+2)<wt.length:=by have hwl:=HT9.out.1; omega
     generalize ws[j+(n+2)]'MS=U at hu HU9;have g2:=U.toNat_lt;have u0:=fO U;have HQ9:=anU (HQ8.out.kept hgr (by right; simp[Value.ownBlock]; omega));obtain⟨⟨cv,hcell⟩,amS⟩:=qV HQ9.out j (by omega);have amT:(c:Int)%4294967296=c:=by omega
     have amU:((q:Int)-1)%4294967296=(q:Int)-1:=by omega
     have amV:g≠w5.heap.size:=by omega
     go_wp2_with fail
     go_roundw
     case rel =>
      obtain⟨hq1',Zg,hxV⟩:=HS1.out;have hzb:(U.toNat+c)%Na.B<4294967296:=ao9 _ (by decide);have ez:aY (UInt32.ofNat ((U.toNat+c)%Na.B)) = .int .u32 (((U.toNat:Int)+(c:Int))%4294967296):=by
       simp only[aY,bQ hzb]; simp[Na.B]
      have eq':aY (UInt32.ofNat (q-1)) = .int .u32 ((q:Int)-1):=by
       simp only[aY,bQ (show q-1<4294967296 by omega)]; congr 1; omega
      have hst:=HO9.out.stored (j+(n+2)) (.int .u32 (((U.toNat:Int)+(c:Int))%4294967296));rw[←ez,←apv,ez]at hst;have hq9:=HQ9.out.kept hst.2 (by right; simp[Value.ownBlock]; omega);have hst2:=hq9.stored j (.int .u32 ((q:Int)-1));rw[←eq',aoL,aqe,Eu,eq']at hst2;have htt:=HT.out.trans (HT9.out.set (UInt32.ofNat ((U.toNat+c)%Na.B)));have hdrop:=DI htt (by have:=NV.out; omega) HDZ.out;have hvt:=HV9.out;rw[aou (by have:=X9.out; omega)]at hvt;have hA:=Na.fB (seg wt j (n+2));rw[seg_length _ _ _ (by omega)]at hA;have agD:=Na.fB vs;rw[X9.out]at agD;have hR:Na.val (ut.drop j)%Na.val vs<Na.B^(n+2):=Nat.lt_trans (ao9 _ ab1) agD;rw[aoF]at hxV;have hlast:=Zd hvt HU9.out hxV hA hR g2 hc;rw[tV _ _ _ _ aek,bQ hzb,hlast]at hdrop;refine⟨j,wt.set (j+(n+2)) (UInt32.ofNat ((U.toNat+c)%Na.B)),UInt32.ofNat (q-1)::qd,by omega,rfl,htt.1.trans NV.out,by have:=HKQ.out; simp; omega,by rw[hdrop]; exact ao9 _ ab1,?_,?_,?_,?_⟩
      ·have:=Zb HU.out htt.1 (by have:=NV.out; omega) htt.2.1 hdrop Zg;simp only[Na.val,bQ (show q-1<4294967296 by omega)]; exact this
      ·exact hst.1.kept hst2.2 (by right; simp[Value.ownBlock]; omega)
      ·have h1:=hst2.1;rw[←eq']at h1 ⊢;rw[aoL,aqe,aoS];exact h1
      exact(hbl.setCell (p:=⟨g,j+(n+2),none⟩) hg4 _).setCell (p:=⟨w5.heap.size,j,none⟩) agC _
     case measure=>simp[intOf]
open Go.RowKit
variable{α:Type}
theorem FB(v u:Value)(l m:List UInt32)(w:World)(hv:aF w v l)(hu:aF w u m)(hm:0<Na.val m)(hlen:l.length≤100000000)(hlen2:m.length≤100000000) :
  Calls prog 328 #[v,u] w fun e w'=>∃q r,e = .returned (.tuple #[q,r,.i 0])∧aF w' q (Na.aj (Na.val l/Na.val m))∧aF w' r (Na.aj (Na.val l%Na.val m))∧Ext w w':=by
 rcases aoT (Na.val l) (Na.val m)with h | h
 ·refine(NS v u l m w hv hu h (by omega)).mono ?_;rintro e w' ⟨r,rfl,hr,hb⟩;rw[Nat.div_eq_of_lt h,apI h];exact⟨_,r,rfl,by rw[Na.lq.2 rfl]; exact TQ _,hr,hb⟩
 rcases hd:Na.aj (Na.val m)with _ | ⟨d,_ | ⟨d2,t⟩⟩
 ·exact absurd (Na.lq.1 hd) (by omega)
 ·exact Ri v u l m d w hv hu hd h (by omega)
 exact NT v u l m t.length w hv hu (by rw[hd]; simp) h hlen hlen2
open Go.RowKit
variable{α:Type}
theorem KE{f:α→Value}(hf:∀x y,f x=f y→x=y){w:World}{v:Value}{l l':List α}(h:dS f w v l)(h':dS f w v l'):l=l':=by
 obtain⟨a,cap,rfl,_,h⟩:=h;obtain⟨a',cap',hv,_,h'⟩:=h';simp only[aoB]at hv;obtain⟨rfl,hl,rfl⟩:=hv;apply List.ext_getElem hl;intro i h1 h2;rcases h with ⟨rfl,_⟩ | ⟨b,o,rfl,_,_,hc⟩
 ·simp at h1
 rcases h' with ⟨rfl,_⟩ | ⟨b',o',ha,_,_,hc'⟩
 ·simp at h2
 simp only[an8,Addr.mk.injEq,and_true]at ha;obtain⟨rfl,rfl⟩:=ha;have e:=(hc i h1).symm.trans (hc' i h2);exact hf _ _ (aof e)
theorem Zh(x y:UInt32)(h:aY x=aY y):x=y:=by
 simp only[aY,Value.int.injEq,true_and]at h;exact ao5.1 (by omega)
open Classical in
noncomputable def valOf(w:World)(v:Value):Nat:=if h:∃l,aF w v l then Na.val h.choose else 0
theorem AV{w:World}{v:Value}{l:List UInt32}(h:aF w v l):valOf w v=Na.val l:=by
 have h1:∃l,aF w v l:=⟨l,h⟩;unfold valOf;rw[dif_pos h1,KE Zh h1.choose_spec h]
theorem fQ{a b:Nat}(h:a≤b):(Na.aj a).length≤(Na.aj b).length:=
 Na.length_le (Na.gY a) (by have:=Na.fB (Na.aj b); rw[Na.aJ]at this ⊢; omega)
theorem ab2(v u:Value)(l m:List UInt32)(w:World)(hv:aF w v l)(hu:aF w u m)(hlen:l.length≤100000000)(hlen2:m.length≤100000000) :
  Calls prog 326 #[v,u] w fun e w'=>∃g,e = .returned g∧aF w' g (Na.aj (Nat.gcd (Na.val l) (Na.val m)))∧Ext w w':=by
 have C1:=anU (pW v l w hv (by omega));have hla:=bK l;have hlb:=bK m;go_enter func326,ntmps326
 go_wp2_with fail
 refine C1.out.mono ?_;rintro e w1 ⟨x,rfl,hx,hb1⟩;have hx:=aU hx;go_wp2_with fail
 refine(pW u m w1 (hu.below hb1) (by omega)).mono ?_;rintro e w2 ⟨y,rfl,hy,hb2⟩;have hy:=aU hy;have hx2:=hx.below hb2;have ael:=Ext.trans' hb1 hb2;clear hx C1 hv hu;have HX:=anU hx2;have HY:=anU hy;clear hx2 hy;go_wp2_with fail
 go_loopw [0,1] (fun x y wr=>∃(A B:Nat),aF wr x (Na.aj A)∧aF wr y (Na.aj B)∧Nat.gcd A B=Nat.gcd (Na.val l) (Na.val m)∧(Na.aj A).length≤100000000∧(Na.aj B).length≤100000000∧Ext w wr) (fun _ y wr=>valOf wr y)
 case atStart=>exact⟨(Na.val l),(Na.val m),HX.out,HY.out,rfl,by omega,by omega,ael⟩
 case round =>
  obtain⟨A,B,hx,hy,hg,hlA,hlB,hbel⟩:=hrel;have HM:=anU (AV hy);have HG:=anU hg;have HX:=anU hx;have HY:=anU hy;clear hg hx hy;obtain⟨ay,cy,rfl⟩:=HY.out.shape;rcases aoJ B with rfl | hB
  ·have h0:((Na.aj 0).length:Int)=0:=by rw[Na.lq.2 rfl]; rfl
   go_wp2_with fail
   go_ret
   refine⟨_,rfl,?_,hbel⟩;rw[←HG.out,Nat.gcd_zero_right];exact HX.out
  have h0:(0:Int)<((Na.aj B).length:Int):=by
   have:(Na.aj B).length≠0:=fun h=>by have:=uH h; omega
   omega
  have hD:=FB _ _ _ _ wr HX.out HY.out (by rw[Na.aJ]; exact hB) hlA hlB;rw[Na.aJ,Na.aJ]at hD;have HD:=anU hD;clear hD;go_wp2_with fail
  refine HD.out.mono ?_;rintro e w' ⟨q,r,rfl,hq,hr,hb⟩;have HR:=anU hr;have HY':=anU (HY.out.below hb);clear hq hr;go_wp2_with fail
  go_roundw
  case rel => 
   refine⟨B,A%B,HY'.out,HR.out,?_,hlB,?_,Ext.trans' hbel hb⟩
   ·rw[←HG.out,Nat.gcd_comm A B,Nat.gcd_rec B A,Nat.gcd_comm]
   ·exact aoE (fQ (Nat.le_of_lt (ao9 A hB))) hlB
  case measure =>
   rw[AV HR.out,HM.out,Na.aJ,Na.aJ];exact ao9 _ hB
end Go.Proofs.YtapmgonflgahbaaGreatDoor
