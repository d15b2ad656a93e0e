/- Walks of package natural: guess (the estimate of a quotient's digit). -/
import Derived.Test.YtodpgjjgaddkeaaGreatDoorNatW1
set_option maxHeartbeats 3200000
set_option maxRecDepth 100000
namespace Go.Proofs.YtodpgjjgaddkeaaGreatDoor
open _root_.Go.Proofs.Tryz
open Go.RowKit Na
variable{α:Type}
variable{r q V T x y V0 D0 qv:Nat}
theorem gZ(n:Nat)(h:n<18446744073709551616):IntKind.u64.wrap (n:Int)=(n:Int):=by rw[aBa]; omega
theorem QB(r x:Nat)(h:r<4294967296)(hx:x<4294967296):bits .or .u64 ((r:Int)*4294967296) (x:Int)=((r*4294967296+x:Nat):Int):=by
 have e:((r:Int)*4294967296)=((r*4294967296:Nat):Int):=by simp
 rw[e,u64_or_nat _ _ Z Z,nat_join 32 _ _ Z Z]
theorem QC(hq:q<4294967296)(hV:V<4294967296):IntKind.u64.wrap ((q:Int)*(V:Int))=((q*V:Nat):Int):=by
 have h:=aBA (show q<=4294967295 by omega) (show V<=4294967295 by omega);have e:(q:Int)*(V:Int)=((q*V:Nat):Int):=by simp
 rw[e,gZ _ Z]
theorem aic(h:(q+1)*V+r=T):q*V+(r+V)=T:=by rw[Nat.succ_mul]at h; omega
theorem ajp(h:x+r=T)(hr:4294967296<=r)(h2:y<=18446744073709551616)(D0:Nat):x*4294967296+y<=T*4294967296+D0:=by omega
theorem Ye(D0:Nat)(h:q*V+r=T)(hr:4294967296<=r)(hT:T<(V+1)*4294967296)(hV0:V0<=4294967296) :
  q<4294967296∧q*(V*4294967296+V0)<=T*4294967296+D0:=by
 have h1:q<4294967296:=by
  rcases aAH q 4294967296 with h1 | h1
  .exact h1
  have:=aBj V h1;rw[aAw 4294967296 V]at this; omega
 refine⟨h1,?_⟩;have h2:q*V0<=4294967296*4294967296:=aBA (aBM h1) hV0;rw[aAf,<-aAB];exact ajp h hr h2 D0
theorem ajq{rd:Nat}(h:x+r=T)(hr:rd=r*4294967296+D0):(rd<y->T*4294967296+D0<x*4294967296+y)∧(¬rd<y->x*4294967296+y<=T*4294967296+D0):=by omega
theorem amC{rd:Nat}(h:q*V+r=T)(hqv:qv=q*V0)(hrd:rd=r*4294967296+D0) :
  (rd<qv->T*4294967296+D0<q*(V*4294967296+V0))∧(¬rd<qv->q*(V*4294967296+V0)<=T*4294967296+D0)∧(q=0->qv=0):=by
 rw[aAf,<-aAB,<-hqv];obtain⟨h1,h2⟩:=ajq (y:=qv) h hrd;exact⟨h1,h2,λh=>by rw[hqv,h,Nat.zero_mul]⟩
theorem KY(hqv:qv=q*V)(hq:q<4294967296)(hV:V<4294967296):IntKind.u64.wrap ((q:Int)*(V:Int))=(qv:Int):=by rw[hqv]; exact QC hq hV
theorem ZW{rd:Nat}(h0:rd=r*4294967296+x)(h:r<4294967296)(hx:x<4294967296):bits .or .u64 ((r:Int)*4294967296) (x:Int)=(rd:Int):=by rw[h0]; exact QB r x h hx
theorem GI{w:World}{a:Addr}{x:Value}(h:w.cell? a=some x):a.block<w.heap.size:=by
 unfold World.cell? at h;rcases aAH a.block w.heap.size with h' | h'
 .exact h'
 rw[Array.getElem?_eq_none h']at h; simp at h
theorem ZX(bu ou cu bv ov cv m:Nat)(D2 D1 D0 V1 V0:Nat)(w:World)(hm:m<=1000000000)
  (hD2:D2<4294967296) (hD1:D1<4294967296) (hD0:D0<4294967296) (hV1:V1<4294967296) (hV0:V0<4294967296) (hV:2147483648<=V1) (hDV:D2<=V1)
  (c2:w.cell? ⟨bu,ou+(m+2),none⟩=some (.int .u32 D2)) (c1:w.cell? ⟨bu,ou+(m+1),none⟩=some (.int .u32 D1)) (c0:w.cell? ⟨bu,ou+m,none⟩=some (.int .u32 D0))
  (e1:w.cell? ⟨bv,ov+(m+1),none⟩=some (.int .u32 V1)) (e0:w.cell? ⟨bv,ov+m,none⟩=some (.int .u32 V0)) :
  Calls prog 324 #[.slice (some ⟨bu,ou,none⟩) (m+3) cu,.slice (some ⟨bv,ov,none⟩) (m+2) cv] w λe w'=>∃q:Nat,e = .returned (.int .u64 q)∧q<4294967296 ∧
   q*(V1*4294967296+V0)<=(D2*4294967296+D1)*4294967296+D0 ∧
   (q=(D2*4294967296+D1)/V1∨4294967296<=q+1∨(D2*4294967296+D1)*4294967296+D0<(q+1)*(V1*4294967296+V0))∧Ext w w':=by
 obtain⟨T,hT⟩:∃T,T=D2*4294967296+D1:=⟨_,I⟩;have hj1:=QB D2 D1 hD2 hD1;rw[<-hT]at hj1 |-;have hTb:T<(V1+1)*4294967296:=by have:=aBj 4294967296 hDV; omega
 obtain⟨Q0,hQ⟩:∃Q,Q=T/V1:=⟨_,I⟩;obtain⟨R0,hR⟩:∃R,R=T%V1:=⟨_,I⟩;have hR1:R0<V1:=by rw[hR]; exact aBb _ Z
 have hQR:Q0*V1+R0=T:=by rw[hQ,hR,aAw]; exact Nat.div_add_mod T V1
 have hq0:(T:Int)/(V1:Int)=(Q0:Int):=by rw[hQ]; rfl
 have hr0:(T:Int)%(V1:Int)=(R0:Int):=by rw[hR]; rfl
 have hQb:Q0<8589934592:=by
  rcases aAH Q0 8589934592 with h | h
  .exact h
  have:=aBA h hV; omega
 have hqw:=gZ Q0 Z;have w2:=gZ D2 Z;have w1:=gZ D1 Z;have w0:=gZ D0 Z;have x1:=gZ V1 Z;have x0:=gZ V0 Z;have HT:=azO hT;have HQ:=azO hQ;have HQR:=azO hQR;rw[<-hQ];have axx:(1:Int)<=V1:=Z
 have hTi:(0:Int)<=T:=Z
 clear hT hQ hR hQR;go_enter func324,ntmps324
 go_wp2_with fail
 go_quiet (fail)
 go_wp2_with fail
 go_quiet (fail)
 go_wp2_with fail
 go_loopw [7,8] (λqv rv wr=>∃q r:Nat,qv = .int .u64 q∧rv = .int .u64 r∧q<=Q0∧q*V1+r=T∧r<4294967296 ∧
  (q=Q0∨4294967296<=q+1∨T*4294967296+D0<(q+1)*(V1*4294967296+V0))∧Ext w wr) (λ_ rv _=>8589934592-(intOf rv).toNat)
 case atStart=>exact⟨Q0,R0,I,by rw[hr0],azS _,HQR.out,Z,.inl I,below_drewN (below_drewN (aAe _ _) _) _⟩
 case round =>
  obtain⟨q,r,rfl,rfl,hqQ,hqr,hr,hor,hbel⟩:=hrel;have d0:wr.cell? ⟨bu,ou+m,none⟩=some (.int .u32 D0):=(hbel.cell (p:=⟨bu,ou+m,none⟩) (GI c0)).trans c0;have f1:wr.cell? ⟨bv,ov+(m+1),none⟩=some (.int .u32 V1):=(hbel.cell (p:=⟨bv,ov+(m+1),none⟩) (GI e1)).trans e1;have f0:wr.cell? ⟨bv,ov+m,none⟩=some (.int .u32 V0):=(hbel.cell (p:=⟨bv,ov+m,none⟩) (GI e0)).trans e0;have hqb:q<8589934592:=Z
  have HOR:=azO hor;have HE:=azO hqr;clear hor hqr c0 e1 e0;by_cases hqB:4294967296<=q
  .have t1:((q:Int)/4294967296 != 0)=true:=by rw[bne_iff_ne]; omega
   obtain⟨q1,rfl⟩:∃q1,q=q1+1:=⟨q-1,Z⟩;have hdec:=aic HE.out;have t1:(((q1:Int)+1)/4294967296 != 0)=true:=by rw[bne_iff_ne]; omega
   have acj:=azO hdec;have amD:4294967296<=q1+1:=hqB;clear hdec;go_wp2_with fail
   go_quiet (fail)
   go_wp2_with fail
   .have t3 := ‹(((r:Int)+(V1:Int))/4294967296 != 0)=true›;rw[bne_iff_ne]at t3;obtain⟨h1,h2⟩:=Ye (V0:=V0) D0 acj.out Z hTb Z;go_ret
    exact⟨q1,by go_num,h1,h2,.inr (.inl amD),below_drewN hbel _⟩
   have t3 := ‹(((r:Int)+(V1:Int))/4294967296 != 0)=false›;rw[bne_eq_false_iff_eq]at t3;go_roundw
   case rel=>exact⟨q1,r+V1,by go_num,by go_num,Z,acj.out,Z,.inr (.inl amD),below_drewN hbel _⟩
   case measure=>simp[intOf]; omega
  have t1:((q:Int)/4294967296 != 0)=false:=by rw[bne_eq_false_iff_eq]; omega
  obtain⟨qv,hqv⟩:∃qv,qv=q*V0:=⟨_,I⟩;obtain⟨rd,hrd⟩:∃rd,rd=r*4294967296+D0:=⟨_,I⟩;have hm1:=KY hqv (show q<4294967296 by omega) hV0;have hj2:=ZW hrd hr hD0;have HB:=azO (amC HE.out hqv hrd);clear hqv hrd;by_cases hgt:rd<qv
  .have t2:(rd:Int)<qv:=Z
   obtain⟨q1,rfl⟩:∃q1,q=q1+1:=by
    cases q with
    | zero=>exfalso; have:=HB.out.2.2 I; omega
    | succ q1=>exact⟨q1,I⟩
   have t1:(((q1:Int)+1)/4294967296 != 0)=false:=by rw[bne_eq_false_iff_eq]; omega
   have hm1:IntKind.u64.wrap (((q1:Int)+1)*(V0:Int))=(qv:Int):=by have:=hm1; simpa using this
   have acj:=azO (aic HE.out);go_wp2_with fail
   go_quiet (fail)
   go_wp2_with fail
   .have t3 := ‹(((r:Int)+(V1:Int))/4294967296 != 0)=true›;rw[bne_iff_ne]at t3;obtain⟨h1,h2⟩:=Ye (V0:=V0) D0 acj.out Z hTb Z;go_ret
    exact⟨q1,by go_num,h1,h2,.inr (.inr (HB.out.1 hgt)),below_drewN hbel _⟩
   have t3 := ‹(((r:Int)+(V1:Int))/4294967296 != 0)=false›;rw[bne_eq_false_iff_eq]at t3;go_roundw
   case rel=>exact⟨q1,r+V1,by go_num,by go_num,Z,acj.out,Z,.inr (.inr (HB.out.1 hgt)),below_drewN hbel _⟩
   case measure=>simp[intOf]; omega
  have t2:¬(rd:Int)<qv:=Z
  go_wp2_with fail
  go_quiet (fail)
  go_wp2_with fail
  go_ret
  exact⟨q,I,Z,HB.out.2.1 hgt,HOR.out,below_drewN hbel _⟩
open Go.RowKit Na
variable{α:Type}
def seg(l:List UInt32)(k i:Nat):List UInt32:=(l.drop k).take i
theorem af0(l:List UInt32)(k i:Nat)(x:UInt32)(h:k+i<l.length):seg (l.set (k+i) x) k (i+1)=seg l k i++[x]:=by
 unfold seg;apply List.ext_getElem
 .simp; omega
 intro j h1 h2;simp only[aCu,List.getElem_drop,List.getElem_set];rcases aAH j i with hj | hj
 .rw[azP Z,List.getElem_append_left (by simp; omega)]; simp
 have:j=i:=by simp at h1; omega
 subst this;rw[azQ I,List.getElem_append_right (by simp; omega)]; simp
theorem seg_length(l:List UInt32)(k i:Nat)(h:k+i<=l.length):(seg l k i).length=i:=by unfold seg; simp; omega
theorem jQ(l:List UInt32)(k i:Nat)(h:k+i<l.length):Zk (seg l k (i+1))=Zk (seg l k i)+Gg^i*l[k+i].toNat:=by
 unfold seg;rw[Na.cZ _ _ (by simp; omega)]; simp
theorem rC(l:List UInt32)(k i:Nat)(x:UInt32)(h:k+i<l.length):Zk (seg (l.set (k+i) x) k (i+1))=Zk (seg l k i)+Gg^i*x.toNat:=by
 rw[af0 l k i x h,Na.jf,seg_length _ _ _ Z]
def Turned(us ws:List UInt32)(k i:Nat):Prop:=ws.length=us.length∧ws.take k=us.take k∧ws.drop (k+i)=us.drop (k+i)
theorem Turned.refl(us:List UInt32)(k i:Nat):Turned us us k i:=⟨I,I,I⟩
theorem Turned.set{us ws:List UInt32}{k i:Nat}(h:Turned us ws k i)(x:UInt32):Turned us (ws.set (k+i) x) k (i+1):=by
 obtain⟨h1,h2,h3⟩:=h;refine⟨by simp[h1],?_,?_⟩
 .rw[List.take_set_of_le Z,h2]
 rw[List.drop_set_of_lt Z];have:ws.drop (k+i+1)=us.drop (k+i+1):=by rw[<-aCj,h3,aCj]
 exact this
theorem Turned.get{us ws:List UInt32}{k i:Nat}(h:Turned us ws k i)(hl:k+i<us.length):ws[k+i]'(by rw[h.1]; exact hl)=us[k+i]:=by
 have h1:=az0 (λl=>l[0]?) h.2.2;have h2:=h.1;simp only[List.getElem?_drop,aBN]at h1;rw[List.getElem?_eq_getElem Z,List.getElem?_eq_getElem hl]at h1;exact az1 h1
theorem Vf{A W A04 Q c bo U s lo x Qk:Nat}(E:Nat)(h:A+E*(c+bo)=W+Q*A04)(y:Nat)(hs:s=c+Q*y)(hlo:lo=s%Gg)(hu:U+Gg*Qk=x+lo+bo) :
  A+E*U+E*Gg*(s/Gg+Qk)=W+E*x+Q*(A04+E*y):=by
 have h1:=aBr s Gg;rw[<-hlo]at h1;have e1:Q*(A04+E*y)=Q*A04+E*(Q*y):=by rw[aAf,aB4]
 have e2:E*Gg*(s/Gg+Qk)=E*(Gg*(s/Gg))+E*(Gg*Qk):=by rw[aAf,aAB,aAB]
 have e3:E*U+E*(Gg*Qk)=E*x+E*lo+E*bo:=by rw[<-aAf,hu,aAf,aAf]
 have e4:E*lo+E*(Gg*(s/Gg))=E*c+E*(Q*y):=by rw[<-aAf,h1,hs,aAf]
 rw[aAf]at h;rw[e1,e2];omega
theorem GK(U lo bo:Nat)(hU:U<4294967296)(hlo:lo<4294967296)(hbo:bo<=1):∃A01 x Qk:Nat,IntKind.u64.wrap (IntKind.u64.wrap ((U:Int)-(lo:Int))-(bo:Int))=(A01:Int) ∧
  (A01:Int)%4294967296=(x:Int)∧(A01:Int)/9223372036854775808=(Qk:Int)∧Qk<=1∧x<4294967296∧U+Gg*Qk=x+lo+bo:=by
 rw[aBa,aBa];unfold Gg;by_cases h:lo+bo<=U
 .exact⟨U-lo-bo,U-lo-bo,0,Z,Z,Z,Z,Z,Z⟩
 exact⟨U+18446744073709551616-lo-bo,U+4294967296-lo-bo,1,Z,Z,Z,Z,Z,Z⟩
theorem acn(s:Nat)(hs:s<18446744073709551616):bits .and .u64 (s:Int) 4294967295=((s%Gg:Nat):Int):=by
 have:=u64_and_nat s 4294967295 hs Z;rw[show((4294967295:Nat):Int)=4294967295 from rfl]at this;rw[this,nat_mask32]; rfl
theorem GL(w:World)(row:Option Nat):w.grownBy w row:=⟨I,I,I,azS _,λ_ _ _=>rfl⟩
theorem wu{a b c:World}{row:Option Nat}(h1:a.grownBy b row)(h2:b.grownBy c row):a.grownBy c row:=
 ⟨h2.os.trans h1.os,h2.tape.trans h1.tape,h2.output.trans h1.output,aAa h1.size h2.size,λk hk hne=>(h2.block k (aAk hk h1.size) hne).trans (h1.block k hk hne)⟩
theorem take_any(g k n N cp cap:Nat)(us ys:List UInt32)(bv ov cv Q:Nat)(w0 w:World)(hn:ys.length=n)(hN:us.length=N)(hk:k+n+1<=N)(hN2:N<=1000000000)(hQ:Q<4294967296)
  (hv:∀i (h:i<ys.length),w0.cell? ⟨bv,ov+i,none⟩=some (bn ys[i])) (hbv:bv<w0.heap.size)
  (hown:w.ownsRow w0.heap.size 119 1 (.slice (some ⟨g,0,none⟩) N cap) N (us.map bn)) (hbel:Below w0.heap.size w0 w) :
  Calls prog 325 #[.slice (some ⟨g,k,none⟩) (n+1) cp,.slice (some ⟨bv,ov,none⟩) n cv,.int .u64 Q] w λe w'=>∃(neg:Bool) (ws:List UInt32),e = .returned (.bool neg) ∧
   Turned us ws k (n+1)∧Zk (seg us k (n+1))+(if neg then Gg^(n+1)else 0)=Zk (seg ws k (n+1))+Q*Zk ys ∧
   w'.ownsRow w0.heap.size 119 1 (.slice (some ⟨g,0,none⟩) N cap) N (ws.map bn)∧Below w0.heap.size w0 w'∧w.grownBy w' (some g):=by
 have hgb:w0.heap.size<=g:=(hown.lt g I).1;have HV:=azO hv;have HN:=azO hn;have HNN:=azO hN;have HO:=azO hown;clear hv hn hN hown;go_enter func325,ntmps325
 go_wp2_with fail
 go_loopw [7,8,15] (λcv bv iv wr=>∃(i c bo:Nat) (ws:List UInt32),i<=n∧iv = .i i∧cv = .int .u64 c∧bv = .int .u64 bo∧c<4294967296∧bo<=1∧Turned us ws k i ∧
  Zk (seg us k i)+Gg^i*(c+bo)=Zk (seg ws k i)+Q*Zk (ys.take i) ∧
  wr.ownsRow w0.heap.size 119 1 (.slice (some ⟨g,0,none⟩) N cap) N (ws.map bn)∧Below w0.heap.size w0 wr∧w.grownBy wr (some g)) (λ_ _ iv _=>n-(intOf iv).toNat)
 case atStart=>exact⟨0,0,0,us,Z,I,I,I,Z,Z,Turned.refl _ _ _,by simp[seg,Zk],HO.out,hbel,GL _ _⟩
 case round =>
  obtain⟨i,c,bo,ws,hi,rfl,rfl,rfl,hc,hbo,htu,hval,hown,hbel,hgr⟩:=hrel;have pO:=azO hval;have HTU:=azO htu;have HW:=azO hown;clear hval htu hown HO;have hwl:=HTU.out.1;by_cases hlt:i<n
  .have hyl:i<ys.length:=by rw[HN.out]; exact hlt
   have hy:wr.cell? ⟨bv,ov+i,none⟩=some (bn ys[i]):=by rw[hbel.cell (p:=⟨bv,ov+i,none⟩) hbv]; exact HV.out i hyl
   have QD:k+i<us.length:=by rw[HNN.out]; omega
   have hu:wr.cell? ⟨g,k+i,none⟩=some (bn us[k+i]):=by
    rw[HW.out.cellAt (k+i) Z,List.getElem?_map,List.getElem?_eq_getElem Z,aAF,HTU.out.get QD]
   have hfz:=HW.out.frozenAt (k+i);have HY:=azO (Na.cZ ys i hyl);have HU:=azO (jQ us k i QD);generalize ys[i]=y at hy HY;generalize us[k+i]=U at hu HU;have g1:=y.toNat_lt;have g2:=U.toNat_lt;have y0:=gG y;have u0:=gG U;obtain⟨qy,hqy⟩:∃qy,qy=Q*y.toNat:=⟨_,I⟩;have hmul:=KY hqy hQ g1;have hqb:qy<=18446744065119617025:=by rw[hqy]; exact aBA (show Q<=4294967295 by omega) (show y.toNat<=4294967295 by omega)
   obtain⟨s,hs⟩:∃s,s=c+qy:=⟨_,I⟩;have hsum:IntKind.u64.wrap ((c:Int)+(qy:Int))=(s:Int):=by rw[hs,<-gZ (c+qy) Z]; simp
   have hsb:s<18446744073709551616:=Z
   obtain⟨lo,hlo⟩:∃lo,lo=s%Gg:=⟨_,I⟩;have hand:bits .and .u64 (s:Int) 4294967295=(lo:Int):=by rw[hlo]; exact acn s hsb
   have aqD:lo<4294967296:=by rw[hlo]; exact aBb _ O
   obtain⟨A01,x,Qk,hZ,hx,hb',af2,hxb,hu'⟩:=GK U.toNat lo bo g2 aqD hbo;obtain⟨c',hc'⟩:∃c',c'=s/Gg:=⟨_,I⟩;have hcar:(s:Int)/4294967296=(c':Int):=by rw[hc']; simp[Gg]
   have hcb:c'<4294967296:=by rw[hc']; exact aB2 hsb
   rw[hqy]at hs;have HS:=azO hs;have HLO:=azO hlo;have HC:=azO hc';have HUU:=azO hu';clear hqy hs hlo hc' hu' hqb hsb;go_wp2_with fail
   go_roundw
   case rel =>
    have hst:=(HW.out.stored (k+i) (bn (UInt32.ofNat x))).1;rw[<-aBz]at hst;have hg2:=(HW.out.stored (k+i) (Value.int .u32 (x:Int))).2;refine⟨i+1,c',Qk,ws.set (k+i) (UInt32.ofNat x),Z,by go_num,I,I,hcb,af2,HTU.out.set _,?_,?_,?_,wu hgr hg2⟩
    .rw[HU.out,HY.out,rC _ _ _ _ Z,bW hxb,HC.out,aAA];exact Vf (Gg^i) pO.out y.toNat HS.out HLO.out HUU.out
    .simpa[bn,bW hxb]using hst
    exact hbel.setCell (p:=⟨g,k+i,none⟩) hgb _
   case measure=>simp[intOf]; omega
  obtain rfl:i=n:=by omega
  have QD:k+i<us.length:=by rw[HNN.out]; omega
  have hu:wr.cell? ⟨g,k+i,none⟩=some (bn us[k+i]):=by
   rw[HW.out.cellAt (k+i) Z,List.getElem?_map,List.getElem?_eq_getElem Z,aAF,HTU.out.get QD]
  have hfz:=HW.out.frozenAt (k+i);have HU:=azO (jQ us k i QD);generalize us[k+i]=U at hu HU;have g2:=U.toNat_lt;have u0:=gG U;obtain⟨A01,x,Qk,hZ,hx,hb',af2,hxb,hu'⟩:=GK U.toNat c bo g2 hc hbo;have HUU:=azO hu';clear hu';go_wp2_with fail
  go_ret
  have hst:=(HW.out.stored (k+i) (bn (UInt32.ofNat x))).1;rw[<-aBz]at hst;refine⟨((Qk:Int) != 0),ws.set (k+i) (UInt32.ofNat x),I,HTU.out.set _,?_,by simpa[bn,bW hxb]using hst,hbel.setCell (p:=⟨g,k+i,none⟩) hgb _,wu hgr (HW.out.stored (k+i) (Value.int .u32 (x:Int))).2⟩;have hv:=pO.out;rw[<-HN.out,aAJ,HN.out]at hv;rw[HU.out,rC _ _ _ _ Z,bW hxb,aAA];have h3:=HUU.out;have e:(if ((Qk:Int) != 0)=true then Gg^i*Gg else 0)=Gg^i*(Gg*Qk):=by
   rcases(show Qk=0∨Qk=1 by omega)with rfl | rfl<;>simp
  rw[e];have e3:Gg^i*U.toNat+Gg^i*(Gg*Qk)=Gg^i*x+Gg^i*(c+bo):=by rw[<-aAf,h3,<-aAf]; congr 1; omega
  omega
set_option linter.unusedVariables false
set_option linter.unusedSimpArgs false
variable{ut ws:List UInt32}{V j A W c U:Nat}
theorem QE(l:List UInt32)(k i:Nat)(h:k+i<=l.length):Zk (l.drop k)=Zk (seg l k i)+Gg^i*Zk (l.drop (k+i)):=by
 unfold seg;rw[iU (l.drop k) i (by simp; omega),aCj]
theorem Vg(vs ut:List UInt32)(n j:Nat)(hv:vs.length=n+2)(hu:j+n+3<=ut.length)(hlt:Zk (ut.drop (j+1))<Zk vs) :
  Zk (seg ut j (n+3))=Zk (ut.drop j)∧Zk (ut.drop (j+(n+3)))=0∧Zk (ut.drop j)<Gg*Zk vs ∧
  (ut[j+(n+2)]'Z).toNat<=(vs[n+1]'Z).toNat ∧
  (∃L,L<Gg^n∧Zk (ut.drop j)=L+Gg^n*((ut[j+n]'Z).toNat+Gg*(ut[j+(n+1)]'Z).toNat+Gg*Gg*(ut[j+(n+2)]'Z).toNat)) ∧
  (∃M,M<Gg^n∧Zk vs=M+Gg^n*((vs[n]'Z).toNat+Gg*(vs[n+1]'Z).toNat)):=by
 have hvl:=Na.dS vs;rw[hv]at hvl;have hd:=nK ut j Z;have hd0:=(ut[j]'Z).toNat_lt;have hPV:Zk (ut.drop j)<Gg*Zk vs:=by
  have h1:Gg*(Zk (ut.drop (j+1))+1)<=Gg*Zk vs:=aAz _ hlt;rw[aBi]at h1;have:(ut[j]'Z).toNat<Gg:=hd0;omega
 have hs:=QE ut j (n+3) Z;have hz:Zk (ut.drop (j+(n+3)))=0:=by
  rcases aAC (Zk (ut.drop (j+(n+3))))with h | h
  .exact h
  have h1:Gg^(n+3)*1<=Gg^(n+3)*Zk (ut.drop (j+(n+3))):=aAz _ h;have h2:Gg*Zk vs<Gg*Gg^(n+2):=aCE hvl Na.jY;rw[aAw Gg (Gg^(n+2)),<-aAA]at h2;have h3:Gg*Zk vs<Gg^(n+3):=h2;omega
 rw[hz,Nat.mul_zero,aBN]at hs;have s2:=jQ ut j (n+2) Z;have s1:=jQ ut j (n+1) Z;have s0:=jQ ut j n Z;have l0:=Na.dS (seg ut j n);have l2:=Na.dS (seg ut j (n+2));rw[seg_length _ _ _ Z]at l0 l2;have t1:=Na.cZ vs (n+1) Z;have t0:=Na.cZ vs n Z;rw[aAv Z]at t1;have m0:=Na.dS (vs.take n);have m1:=Na.dS (vs.take (n+1));have e0:(vs.take n).length=n:=by simp; omega
 have e1:(vs.take (n+1)).length=n+1:=by simp; omega
 rw[e0]at m0;rw[e1]at m1;refine⟨hs.symm,hz,hPV,?_,⟨Zk (seg ut j n),l0,?_⟩,⟨Zk (vs.take n),m0,?_⟩⟩
 ·
  rw[hs,s2]at hPV;generalize (ut[j+(n+2)]'Z).toNat=D2 at *;generalize (vs[n+1]'Z).toNat=V1 at *;have h1:Gg*Zk vs<Gg^(n+2)*(V1+1):=by
   have h2:Zk vs<Gg^(n+1)*(V1+1):=by rw[t1,aBi]; omega
   have h3:Gg*Zk vs<Gg*(Gg^(n+1)*(V1+1)):=aCE h2 Na.jY;rw[<-aAB,aAw Gg (Gg^(n+1)),<-aAA]at h3;exact h3
  have h4:Gg^(n+2)*D2<Gg^(n+2)*(V1+1):=Z
  exact aCA (aCF h4)
 .have ep1:Gg^(n+1)=Gg^n*Gg:=aAA _ _;have ep2:Gg^(n+2)=Gg^n*Gg*Gg:=by rw[aAA,aAA]
  rw[hs,s2,s1,s0,ep2,ep1,aAf,aAf,aAB (Gg^n) Gg (ut[j+(n+1)]'Z).toNat,aAB (Gg^n) Gg Gg,aAB (Gg^n) (Gg*Gg)];omega
 rw[t1,t0,aAA,aAf,<-aAB];omega
theorem aco{us:List UInt32}{Q q:Nat}(hU:Zk us=Zk ut+Gg^(j+1)*(V*Q))(hl:ws.length=ut.length)(hj:j<=ut.length)(ht:ws.take j=ut.take j)
  (hw:Zk (ws.drop j)=Zk (ut.drop j)%V) (hq:q=Zk (ut.drop j)/V):Zk us=Zk ws+Gg^j*(V*(q+Gg*Q)):=by
 have h1:=iU ut j hj;have h2:=iU ws j Z;rw[ht,hw]at h2;have h3:=aBr (Zk (ut.drop j)) V;rw[<-hq]at h3;rw[hU,h1,h2];generalize Zk (ut.drop j)%V=r at *;generalize Zk (ut.drop j)=P at *;generalize Zk (ut.take j)=A at *;clear hU h1 h2 hw hq;subst h3;rw[aAf (Gg^j) r,aAf V q,aB4 V Gg Q,aAf (Gg^j) (V*q),aAA,aAB (Gg^j) Gg];omega
theorem Ec{i:Nat}(h:Turned ut ws j i)(hl:j+i<=ut.length)(hz:Zk (ut.drop (j+i))=0):Zk (ws.drop j)=Zk (seg ws j i):=by
 rw[QE ws j i (by rw[h.1]; exact hl),h.2.2,hz]; simp
theorem acp(c U y:Nat)(hc:c<=1)(hU:U<4294967296)(hy:y<4294967296) :
  ((c:Int)+((U:Int)+(y:Int)))/4294967296=(((c+(U+y))/Gg:Nat):Int)∧((c:Int)+((U:Int)+(y:Int)))%4294967296=(((c+(U+y))%Gg:Nat):Int) ∧
  (c+(U+y))%Gg<4294967296∧(c+(U+y))/Gg<=1:=by
 unfold Gg;refine⟨Z,Z,Z,Z⟩
theorem ZY{A04 y:Nat}(E:Nat)(h:A+E*c=W+A04):A+E*((c+(U+y))%Gg)+E*Gg*((c+(U+y))/Gg)=W+E*U+(A04+E*y):=by
 have h1:=aBr (c+(U+y)) Gg;have h2:E*((c+(U+y))%Gg)+E*Gg*((c+(U+y))/Gg)=E*c+(E*U+E*y):=by
  rw[aAB,<-aAf,h1,aAf,aAf]
 omega
theorem acr{R E x:Nat}(h:A+E*c=W+V)(hx:x=W+E*U)(hs:x+V=E*Gg+R)(hA:A<E)(hR:R<E)(hU:U<4294967296)(hc:c<=1) :
  A+E*((U+c)%Gg)=R:=by
 subst hx;have h1:A+E*(U+c)=E*Gg+R:=by rw[aAf]; omega
 have h2:U+c=Gg:=by
  rcases aCq (U+c) Gg with h | h | h
  .have h3:E*(U+c)+E<=E*Gg:=by rw[<-aBi]; exact aAz _ h
   omega
  .exact h
  have hB:Gg=4294967296:=I;omega
 rw[h2]at h1 |-;rw[Nat.mod_self]; omega
open Go.RowKit Na
variable{α:Type}
theorem GN(n:Nat)(w:World)(hn:n<4294967296*4294967296) :
  Calls prog 294 #[.int .u64 (n:Int)] w λe w'=>∃v',e = .returned v' ∧
   w'.ownsRow w.heap.size 119 1 v' (Ux n).length ((Ux n).map bn)∧Ext w w':=by
 have h:=qA (UInt64.ofNat n) w;have e:(UInt64.ofNat n).toNat=n:=by simp; omega
 unfold afV at h;rw[e]at h;exact h
theorem wz{a b:Nat}(h:b<=a):¬qN a b<0:=by unfold qN; rw[azP Z]; split<;>omega
theorem acs{a b:Nat}(h:a<b):qN a b<0:=by rw[Bq h]; omega
theorem og{n:Nat}(h:(Ux n).length=0):n=0:=kT.1 (aBd h)
theorem QF(v u:Value)(l m:List UInt32)(w:World)(hv:aC w v l)(hu:aC w u m)(hlt:Zk l<Zk m)(hlen:l.length<=1000000000) :
  Calls prog 293 #[v,u] w λe w'=>∃r,e = .returned (.tuple #[.sn,r,.i 0])∧aC w' r (Ux (Zk l))∧Ext w w':=by
 have C1:=azO (short_any v l w hv);have C2:=azO (short_any u m w hu);have hb:0<(Ux (Zk m)).length:=by
  rcases aAC (Ux (Zk m)).length with h | h
  .have:=og h; omega
  exact h
 have hcv:=acs hlt;have ea:=PV (Zk l);have eb:=PV (Zk m);have hla:=bY l;rw[<-ea,<-eb]at hcv;clear hv hu hlt;generalize Ux (Zk l)=a at *;generalize Ux (Zk m)=b at *;have EA:=azO ea;have EB:=azO eb;clear ea eb;have hb0:((b.length:Int)==0)=false:=by rw[aAh]; omega
 go_enter func293,ntmps293
 go_wp2_with fail
 refine C1.out.mono ?_;rintro e w' ⟨x,rfl,hx,rfl⟩;go_wp2_with fail
 refine C2.out.mono ?_;rintro e w' ⟨y,rfl,hy,rfl⟩;go_wp2_with fail
 refine(Bv _ _ a b _ hx hy).mono ?_;rintro e w1 ⟨rfl,hb1⟩;generalize qN (Zk a) (Zk b)=c at hcv |-;go_wp2_with fail
 refine(X5 _ a _ (hx.below hb1) Z).mono ?_;rintro e w2 ⟨r,rfl,hown,hb2⟩;have hr:=aZ hown;clear hown;go_wp2_with fail
 go_ret3
 exact⟨_,I,hr,K00 hb1 hb2⟩
theorem Vh(v u:Value)(l m:List UInt32)(d:UInt32)(w:World)(hv:aC w v l)(hu:aC w u m)(hd:Ux (Zk m)=[d])(hge:Zk m<=Zk l)(hlen:l.length<=1000000000) :
  Calls prog 293 #[v,u] w λe w'=>∃q r,e = .returned (.tuple #[q,r,.i 0])∧aC w' q (Ux (Zk l/Zk m))∧aC w' r (Ux (Zk l%Zk m))∧Ext w w':=by
 have C1:=azO (short_any v l w hv);have C2:=azO (short_any u m w hu);have eb:=PV (Zk m);have ed:Zk m=d.toNat:=by rw[<-eb,hd]; simp[Zk]
 have hd0:0<d.toNat:=by
  rcases aAC d.toNat with h | h
  .rw[h]at ed; rw[ed]at hd; simp[Ux,Na.kS]at hd
  exact h
 have hcv:=wz hge;have ea:=PV (Zk l);have hla:=bY l;rw[ed]at hcv |-;rw[hd]at C2;rw[<-ea]at hcv;rw[<-ea];clear hv hu hge eb;generalize Ux (Zk l)=a at *;have EA:=azO ea;clear ea;have hcv':¬qN (Zk a) (Zk [d])<0:=by simpa[Zk]using hcv
 have ON:=λw v h=>azO (one_any v a d w h hd0 Z);clear hcv ed hd;have hdl:=d.toNat_lt;have axy:Zk a%d.toNat<4294967296:=by have:=aBb (Zk a) hd0; omega
 go_enter func293,ntmps293
 go_wp2_with fail
 refine C1.out.mono ?_;rintro e w' ⟨x,rfl,hx,rfl⟩;go_wp2_with fail
 refine C2.out.mono ?_;rintro e w' ⟨y,rfl,hy,rfl⟩;obtain⟨by1,oy,cy,hys,hby,hly,hmy,hcy⟩:=dO hy I Y;simp only[aAq]at hys;obtain⟨rfl,-,-⟩:=hys;have hc0:=hcy 0 Y;simp only[aBN,aCv]at hc0;clear hcy;rw[show([d]:List UInt32).length=1 from rfl]at hy |-;go_wp2_with fail
 refine(Bv _ _ a [d] _ hx hy).mono ?_;rintro e w1 ⟨rfl,hb1⟩;have hc1:w1.cell? ⟨by1,oy,none⟩=some (bn d):=(hb1.cell (p:=⟨by1,oy,none⟩) hby).trans hc0;generalize qN (Zk a) (Zk [d])=c at hcv' |-;clear hc0;go_wp2_with fail
 refine(ON _ _ (hx.below hb1)).out.mono ?_;rintro e w2 ⟨q,rfl,hq,hb2⟩;have hw:IntKind.u64.wrap ((Zk a%d.toNat:Nat):Int)=((Zk a%d.toNat:Nat):Int):=gZ _ Z;have FU:=azO (GN (Zk a%d.toNat) w2 Z);generalize hrm:Zk a%d.toNat=rm at *;have HRM:=azO hrm;clear hrm;go_wp2_with fail
 refine FU.out.mono ?_;rintro e w3 ⟨r,rfl,hown,hb3⟩;have hr:=aZ hown;clear hown;go_wp2_with fail
 go_ret3
 exact⟨_,_,I,hq.below hb3,by rw[HRM.out]; exact hr,K00 hb1 (K00 hb2 hb3)⟩
open Go.RowKit Na
variable{α:Type}
theorem Turned.trans{us ws ts:List UInt32}{k i:Nat}(h1:Turned us ws k i)(h2:Turned ws ts k i):Turned us ts k i:=
 ⟨h2.1.trans h1.1,h2.2.1.trans h1.2.1,h2.2.2.trans h1.2.2⟩
theorem af4{a b U V P q r:Nat}(hU:U=a*P)(hV:V=b*P)(h:U=r+V*q)(hr:r<V)(hP:0<P):q=a/b∧r/P=a%b:=by
 subst hU hV;have h1:b*q*P<=a*P:=by rw[Nat.mul_right_comm]; omega
 have h2:=Nat.le_of_mul_le_mul_right h1 hP;obtain⟨s,rfl⟩:∃s,a=s+b*q:=⟨a-b*q,Z⟩;have h3:r=s*P:=by rw[aBk,Nat.mul_right_comm b q P]at h; omega
 subst h3;have h4:s<b:=Nat.lt_of_mul_lt_mul_right hr;rw[Nat.mul_div_cancel _ hP,aCr _ _ Z,Nat.add_mul_mod_self_left,aCs h4,aBJ h4];exact⟨Z,I⟩
theorem JV(v:Value)(l:List UInt32)(p:Nat)(w:World)(hv:aC w v l)(hp2:p<=31)(hlen:l.length<=1000000000) :
  Calls prog 323 #[v,.i (-(p:Int))] w λe w'=>∃v',e = .returned v'∧aC w' v' (Ux (Zk l/2^p))∧Ext w w':=by
 rcases aAC p with rfl | hp
 .have h:=zU v l 0 w hv Z hlen;refine h.mono ?_;rintro e w' ⟨a,rfl,hr,hb⟩;simp only[Nat.pow_zero,Nat.mul_one,Nat.div_one]at hr |-;exact⟨_,I,hr,hb⟩
 refine(Ve v l p w hv hp hp2 hlen).mono ?_;rintro e w' ⟨a,rfl,hr,hb⟩;exact⟨_,I,hr,hb⟩
theorem Z4(b:List UInt32)(m:Nat)(hm:b.length=m+1)(hn:Na.norm b):∃p:Nat,(32:Int)-(Lib.bitLen (b[m]'Z).toNat:Int)=(p:Int)∧p<=31 ∧
  (Ux (Zk b*2^p)).length=m+1∧∀(h:m<(Ux (Zk b*2^p)).length),2147483648<=((Ux (Zk b*2^p))[m]).toNat:=by
 have hx0:b[m]'Z≠0:=by
  have:=Na.uG hn Z;simpa[hm]using this
 have hv:=Na.cZ b m Z;rw[<-hm,aAJ]at hv;have ht:=Na.dS (b.take m);have e2:(b.take m).length=m:=by simp; omega
 rw[e2]at ht;generalize b[m]'Z=x at *;have hb:1<=Lib.bitLen x.toNat∧2^(Lib.bitLen x.toNat-1)<=x.toNat∧x.toNat<2^Lib.bitLen x.toNat:=
  Lib.bitLenAux_bounds 64 _ (by have:=x.toNat_lt; omega) (λe=>hx0 (aBq.1 (by simpa using e)))
 have hbl:=Lib.bitLen_le x.toNat 32 Z x.toNat_lt;generalize Lib.bitLen x.toNat=c at *;refine⟨32-c,Z,Z,?_⟩;have hp1:2147483648<=x.toNat*2^(32-c):=by
  have h1:2^(c-1)*2^(32-c)=2147483648:=by rw[<-aBL,show c-1+(32-c)=31 by omega]
  rw[<-h1]; exact aBj _ hb.2.1
 have hp2:(x.toNat+1)*2^(32-c)<=Gg:=by
  have h1:2^c*2^(32-c)=Gg:=by rw[<-aBL,show c+(32-c)=32 by omega]; rfl
  rw[<-h1]; exact aBj _ hb.2.2
 have hpp:0<2^(32-c):=aBl _;generalize 2^(32-c)=P at *;have hlo:Gg^m*2147483648<=Zk b*P:=by
  rw[hv,aBk,aAB];have:=aAz (Gg^m) hp1;omega
 have hhi:Zk b*P<Gg^(m+1):=by
  have h1:Zk b<Gg^m*(x.toNat+1):=by rw[hv,aBi]; omega
  have h2:Zk b*P<Gg^m*(x.toNat+1)*P:=aCD h1 hpp;have h3:=aAz (Gg^m) hp2;rw[aAA];rw[aAB]at h2;omega
 have hd:=PV (Zk b*P);have hnd:=Na.gI (Zk b*P);generalize Zk b*P=V at *;generalize Ux V=l at *;have hB0:0<Gg^m:=aCk Na.jY;have hll:l.length=m+1:=by
  have h1:=Na.length_le hnd (by rw[hd]; exact hhi);rcases aAH l.length (m+1)with h | h
  .have h2:=Na.dS l;have h3:Gg^l.length<=Gg^m:=aAV Na.jY Z;have h4:Gg^m*1<=Gg^m*2147483648:=aAz _ Z;rw[hd]at h2;omega
  omega
 refine⟨hll,λh=>?_⟩;have h1:=Na.cZ l m h;rw[<-hll,aAJ,hd]at h1;have h2:=Na.dS (l.take m);have h3:(l.take m).length=m:=by simp; omega
 rw[h3]at h2;rcases aAH (l[m]).toNat 2147483648 with h4 | h4
 .have h5:Gg^m*((l[m]).toNat+1)<=Gg^m*2147483648:=aAz _ h4;rw[aBi]at h5;omega
 exact h4
theorem Vj{a b:List UInt32}(hb:Na.norm b)(h:Zk b<=Zk a):b.length<=a.length:=Na.length_le hb (aCa h (Na.dS a))
theorem Z5(a:List UInt32)(p:Nat)(hp:p<=31)(hn:Na.norm a):a.length<=(Ux (Zk a*2^p)).length∧(Ux (Zk a*2^p)).length<=a.length+1:=by
 have hv:=Na.dS a;have hP:0<2^p:=aBl p;have hP2:2^p<=Gg:=aAa (aAV Z (show p<=32 by omega)) (azS _);constructor
 .rcases aAH (Ux (Zk a*2^p)).length a.length with h | h
  .exfalso;have h1:=Na.dS (Ux (Zk a*2^p));rw[PV]at h1;have h2:=Na.Dl hn Z;have h3:Gg^(Ux (Zk a*2^p)).length<=Gg^(a.length-1):=aAV Na.jY Z;have h4:Zk a*1<=Zk a*2^p:=aAz _ hP;omega
  exact h
 apply Na.bI;rw[aAA];exact aAk (aCD hv hP) (aAz _ hP2)
theorem QG(v u:Value)(l m:List UInt32)(n:Nat)(w:World)(hv:aC w v l)(hu:aC w u m)(hn:(Ux (Zk m)).length=n+2)(hge:Zk m<=Zk l)(hlen:l.length<=100000000)(hlen2:m.length<=100000000) :
  Calls prog 293 #[v,u] w λe w'=>∃q r,e = .returned (.tuple #[q,r,.i 0])∧aC w' q (Ux (Zk l/Zk m))∧aC w' r (Ux (Zk l%Zk m))∧Ext w w':=by
 have C1:=azO (short_any v l w hv);have C2:=azO (short_any u m w hu);have hla:=bY l;have hlb:=bY m;have ea:=PV (Zk l);have eb:=PV (Zk m);have na:=Na.gI (Zk l);have nb:=Na.gI (Zk m);have hcv:=wz hge;rw[<-ea,<-eb]at hcv hge;rw[<-ea,<-eb];clear hv hu ea eb;generalize Ux (Zk l)=a at *;generalize Ux (Zk m)=b at *;obtain⟨p,hp,QH,hvl,hvt⟩:=Z4 b (n+1) hn nb;have avM:=(b[n+1]'Z).toNat_lt;have HGE:=azO hge;have HNA:=azO na;have HNB:=azO nb;have HVL:Hid ((Ux (Zk b*2^p)).length=n+2):=hvl;have HVT:=azO hvt;have HN:=azO hn;clear hge na nb hvl hvt;go_enter func293,ntmps293
 go_wp2_with fail
 refine C1.out.mono ?_;rintro e w' ⟨x,rfl,hx,rfl⟩;go_wp2_with fail
 refine C2.out.mono ?_;rintro e w' ⟨y,rfl,hy,rfl⟩;obtain⟨by1,oy,cy,hys,hby,hly,hmy,hcy⟩:=dO hy I Z;simp only[aAq]at hys;obtain⟨rfl,-,-⟩:=hys;have hct:=hcy (n+1) Z;clear hcy;go_wp2_with fail
 refine(Bv _ _ a b _ hx (by rw[<-HN.out]; exact hy)).mono ?_;rintro e w1 ⟨rfl,hb1⟩;have aqE:w1.cell? ⟨by1,oy+(n+1),none⟩=some (bn (b[n+1]'Z)):=(hb1.cell (p:=⟨by1,oy+(n+1),none⟩) hby).trans hct;clear hct;generalize qN (Zk a) (Zk b)=c at hcv |-;generalize b[n+1]'Z=bt at *;have hn1:((n:Int)+2==1)=false:=by rw[aAh]; omega
 go_wp2_with fail
 refine(Tryz.bits_LeadingZeros32 (bt.toNat:Int) _ Z Z).mono ?_;rintro e w' ⟨rfl,rfl⟩;rw[aBs,hp];clear hp;have hy1:=hy.below hb1;rw[HN.out]at hy1;have hx1:=hx.below hb1;go_wp2_with fail
 refine(zU _ b p _ hy1 QH Z).mono ?_;rintro e w2 ⟨bv,rfl,hvv,hb2⟩;rw[HVL.out]at hvv |-;go_wp2_with fail
 refine(zU _ a p _ (hx1.below hb2) QH Z).mono ?_;rintro e w3 ⟨bu,rfl,huu,hb3⟩;have QD:=Z5 a p QH HNA.out;have amE:=hvv.below hb3;have ajr:Ext w w3:=K00 hb1 (K00 hb2 hb3);have hVn:Zk (Ux (Zk b*2^p))=Zk b*2^p:=PV _;have hUn:Zk (Ux (Zk a*2^p))=Zk a*2^p:=PV _;generalize Ux (Zk b*2^p)=vs at *;generalize Ux (Zk a*2^p)=us at *;have HVn:=azO hVn;have HUn:=azO hUn;clear hVn hUn hvv hy hy1 hx hx1 aqE C1 C2;have r0:=nM w3 (.int .u32 0) 119 I;have ru:=Dk (huu.raw (λ_=>I)) (.cells #[.int .u32 0] 119);have h63:us.length+1<=maxLen:=by unfold maxLen; omega
 have hby:(us.length+1)*4<=140737488355328:=Z
 have b34:=aF w3 (.cells #[.int .u32 0] 119);have ajs:=amE.below b34;have amF:=K00 ajr b34;clear huu amE hb1 hb2 hb3 b34;have hNa:¬((us.length:Int)+1<=(a.length:Int)):=Z
 go_wp2_with (at_builtin; refine yJ I _ _ _ I lT ru I r0 I O h63 hby ?_; intro uv w5 hown5 Vk; obtain⟨g,cap,rfl,hgb,hNc,hcm⟩:=lq hown5 (Nat.succ_pos _))
 refine wp_loop_rounds 1 ?_;rw[aB5];have HO5:=azO hown5;have amG:=ajs.below Vk;have aqF:=K00 amF Vk;have hk0:vs.length<=us.length:=by
  have h1:=HVL.out;have h2:=HN.out;have h3:=Vj HNB.out HGE.out;omega
 clear hown5 ru r0 amF;obtain⟨K,hK⟩:∃K,us.length+1=K+(n+2):=⟨us.length+1-(n+2),by have h1:=HVL.out; omega⟩;have hKi:(us.length:Int)+1-((n:Int)+2)=(K:Int):=Z
 have HK:=azO hK;have hK1:K<=us.length:=Z
 have aqG:K<=maxLen:=by unfold maxLen; omega
 have aqH:4*K<=281474976710656:=Z
 clear hK;go_wp2_with (at_make; refine wpList_make_row I _ _ _ I lT I w5.heap.size K I I I aqH aqG (azS _) ?_; intro w6 hown6 hg6)
 have ajt:=gu (aAe w5.heap.size w5) hg6 (azS _);have HO6:=azO hown6;have hg5:g<w5.heap.size:=(HO5.out.lt g I).2;have aqI:=amG.below ajt;clear hown6 hKi amG hNa aqI;obtain⟨bb,ob,cb,hvs,hbb,aju,axz,amH⟩:=dO ajs HVL.out Z;simp only[aAq]at hvs;obtain⟨rfl,-,-⟩:=hvs;have hbw:w3.heap.size+1=(w3.alloc (.cells #[.int .u32 0] 119)).heap.size:=by simp
 have hg4:(w3.alloc (.cells #[.int .u32 0] 119)).heap.size<=g:=hgb;have amI:Ext w (w3.alloc (.cells #[.int .u32 0] 119)):=K00 ajr (aF _ _);have af5:Ext (w3.alloc (.cells #[.int .u32 0] 119)) w6:=K00 Vk ajt;have H5:Hid (w6.ownsRow (w3.alloc (.cells #[.int .u32 0] 119)).heap.size 119 1 (.slice (some ⟨g,0,none⟩) (us.length+1) cap) (us.length+1) ((us++[0]).map bn)):=by
  have:=dB HO5.out ajt;unfold Hid;simpa[bn]using this
 clear ajs HO5 Vk ajr aqF hbw hgb;generalize w3.alloc (.cells #[.int .u32 0] 119)=w4 at *;have HC:=azO amH;have Yf:Gg^(n+1)<=Zk vs:=by
  have h0:n+1<vs.length:=by have:=HVL.out; omega
  have h1:=HVT.out h0;have h2:=Na.cZ vs (n+1) h0;rw[aAv (by have:=HVL.out; omega)]at h2;have h3:Gg^(n+1)*1<=Gg^(n+1)*(vs[n+1]).toNat:=aAz _ Z;omega
 have HVP:=azO Yf;clear Yf;clear amH;go_loopw [13] (λi wr=>∃(k:Nat) (ut qd:List UInt32),k<=K∧i = .i ((k:Int)-1)∧ut.length=us.length+1∧k+qd.length=K∧Zk (ut.drop k)<Zk vs ∧
  Zk us=Zk ut+Gg^k*(Zk vs*Zk qd) ∧
  wr.ownsRow w4.heap.size 119 1 (.slice (some ⟨g,0,none⟩) (us.length+1) cap) (us.length+1) (ut.map bn) ∧
  wr.ownsRow w5.heap.size 119 1 (.slice (some ⟨w5.heap.size,0,none⟩) K K) K ((List.replicate k 0++qd).map bn)∧Below w4.heap.size w4 wr) (λi _=>(intOf i+1).toNat)
 case atStart =>
  refine⟨K,us++[0],[],azS _,I,by simp,by simp,?_,by simp[Na.val_append,Zk],H5.out,by simpa[bn]using HO6.out,af5⟩;have h1:=HK.out;have h2:(us++[0]).drop K=us.drop K++[0]:=by rw[List.drop_append_of_le_length Z]
  rw[h2,Na.jf];have h3:=Na.dS (us.drop K);have h4:(us.drop K).length=n+1:=by simp; omega
  rw[h4]at h3;have h5:=HVP.out;simp; omega
 case round =>
  obtain⟨k,ut,qd,hk,rfl,Z7,hkq,hlt,hU,hou,hoq,hbel⟩:=hrel;have HOU:=azO hou;have HOQ:=azO hoq;have QI:=azO Z7;have HKQ:=azO hkq;have HU:=azO hU;clear hou hoq Z7 hkq hU;cases k with
  | zero =>
   have hqR:aC wr (.slice (some ⟨w5.heap.size,0,none⟩) K K) qd:=by
    have h1:=HOQ.out;have h2:=HKQ.out;rw[aAK]at h2;rw[<-h2]at h1 |-;exact aZ (l:=qd) h1
   have huR:aC wr (.slice (some ⟨g,0,none⟩) (us.length+1) cap) ut:=by
    have h1:=HOU.out;have h2:=QI.out;rw[<-h2]at h1 |-;exact aZ (l:=ut) h1
   have hE:=af4 HUn.out HVn.out (by have h1:=HU.out; rw[Nat.pow_zero,Nat.one_mul]at h1; exact h1) (by rw[aCl]at hlt; exact hlt) (aBl p);have HE:=azO hE;have ajv:ut.length<=1000000000:=by have h1:=QI.out; omega
   clear hE;go_wp2_with fail
   refine(short_any _ qd _ hqR).mono ?_;rintro e w' ⟨q',rfl,hq',rfl⟩;go_wp2_with fail
   refine(JV _ ut p _ huR QH ajv).mono ?_;rintro e w9 ⟨r',rfl,hr',hb9⟩;go_wp2_with fail
   go_ret3
   have hq9:=hq'.below hb9;rw[HE.out.1]at hq9;rw[HE.out.2]at hr';rw[HE.out.1];exact⟨_,_,I,hq9,hr',K00 amI (hbel.trans (hb9.mono hbel.size))⟩
  | succ j =>
   have hi:(((j+1:Nat):Int)-1)=(j:Int):=Z
   rw[hi];clear hi;have hjc:j<cap:=Z
   have hKK:=HK.out;have hpc:j+(n+2)+1<=cap:=Z
   have hpl:j+(n+2)+1-j=n+3:=Z
   have amJ:j+n+3<=ut.length:=by have:=QI.out; omega
   obtain⟨hf1,hf2,hf3,hf4,⟨L,hL1,hL2⟩,⟨M,hM1,hM2⟩⟩:=Vg vs ut n j HVL.out amJ hlt;have hjN:∀i (h:i<ut.length),wr.cell? ⟨g,i,none⟩=some (bn ut[i]):=λi h=>by
    rw[HOU.out.cellAt i (by have:=QI.out; omega),List.getElem?_map,List.getElem?_eq_getElem h,aAF]
   have hvv:∀i (h:i<vs.length),wr.cell? ⟨bb,ob+i,none⟩=some (bn vs[i]):=λi h=>by
    rw[hbel.cell (p:=⟨bb,ob+i,none⟩) hbb]; exact HC.out i h
   have i2:j+(n+2)<ut.length:=Z
   have i1:j+(n+1)<ut.length:=Z
   have i0:j+n<ut.length:=Z
   have v1:n+1<vs.length:=by have:=HVL.out; omega
   have v0:n<vs.length:=Z
   have aie:=HVT.out v1;have hn9:n<=1000000000:=Z
   have hg:=ZX g j (cap-j) bb ob (n+2) n _ _ _ _ _ wr hn9 (ut[j+(n+2)]'i2).toNat_lt (ut[j+(n+1)]'i1).toNat_lt (ut[j+n]'i0).toNat_lt
    (vs[n+1]'v1).toNat_lt (vs[n]'v0).toNat_lt aie hf4 (hjN _ i2) (hjN _ i1) (hjN _ i0) (hvv _ v1) (hvv _ v0)
   have Yf:0<(vs[n+1]'v1).toNat:=aAk O aie;have aif:=λq h1 h2 h3=>Z8 (q:=q) hL2 hL1 hM2 hM1 Yf (ut[j+n]'i0).toNat_lt h1 hf3 h2 h3;have HG:=azO hg;have HGL:=azO aif;have HF1:=azO hf1;have HF2:=azO hf2;have HF3:=azO hf3;clear hKK hf1 hf2 hf3 hf4 hL1 hL2 hM1 hM2 hjN hvv hg aif;go_wp2_with fail
   refine HG.out.mono ?_;rintro e w7 ⟨q,rfl,hqB,hq1,hq2,hb7⟩;have hq:=HGL.out q hqB hq1 hq2;have HQ:=azO hq;clear HG HGL hq1 hq2 hq;have aqJ:=azO (dB HOU.out hb7);have aqK:=azO (dB HOQ.out hb7);have amK:Below w4.heap.size w4 w7:=hbel.trans (hb7.mono hbel.size);go_wp2_with fail
   refine(take_any g j (n+2) (us.length+1) (cap-j) cap ut vs bb ob (n+2) q w4 w7 HVL.out QI.out (by have:=QI.out; omega) Z hqB HC.out hbb aqJ.out amK).mono ?_;rintro e w8 ⟨neg,ws,rfl,hturn,hval,aii,aij,aqL⟩;have HT:=azO hturn;have HV8:=azO hval;have HO8:=azO aii;have HQ8:=azO (aqK.out.kept aqL (by right; simp[Value.ownBlock]; omega));clear hturn hval aii;have af6:0<Zk vs:=aAk (aCk Na.jY) HVP.out;have hsl:seg ut j (n+2+1)=seg ut j (n+3):=I;have hx8:Zk (seg ws j (n+2+1))<Gg^(n+2+1):=by
    have h1:=Na.dS (seg ws j (n+2+1));rw[seg_length _ _ _ (by have:=HT.out.1; have:=QI.out; omega)]at h1; exact h1
   have hv8:=HV8.out;rw[hsl,HF1.out]at hv8;have hstep:=acu neg af6 HQ.out.1 HQ.out.2 hx8 hv8;have HS:=azO hstep;have HX8:=azO hx8;have hdz:Zk (ut.drop (j+(n+2+1)))=0:=HF2.out;have HDZ:=azO hdz;obtain⟨⟨cv,hcell⟩,hfz⟩:=qZ HQ8.out j Z;have hqi:(q:Int)%4294967296=q:=Z
   clear hsl hx8 hv8 hstep hdz amJ;have amL:w4.heap.size<=w5.heap.size:=Z
   have heq:bn (UInt32.ofNat q) = .int .u32 (q:Int):=by simp only[bn,bW hqB]
   have HEQ:=azO heq;clear heq;cases neg with
   | false =>
    have HS1:=azO (HS.out.1 I);clear HS;go_wp2_with fail
    go_roundw
    case rel =>
     obtain⟨hxm,Z9⟩:=HS1.out;have hst:=HQ8.out.stored j (.int .u32 (q:Int));rw[<-HEQ.out,aAL,aCt,Fz,HEQ.out]at hst;have hdrop:=Ec HT.out (by have:=QI.out; omega) HDZ.out;rw[hxm]at hdrop;refine⟨j,ws,UInt32.ofNat q::qd,Z,I,HT.out.1.trans QI.out,by have:=HKQ.out; simp; omega,by rw[hdrop]; exact aBb _ af6,?_,?_,?_,?_⟩
     .have:=aco HU.out HT.out.1 (by have:=QI.out; omega) HT.out.2.1 hdrop Z9;simp only[Zk,bW hqB]; exact this
     .exact HO8.out.kept hst.2 (by right; simp[Value.ownBlock]; omega)
     .have h1:=hst.1;rw[<-HEQ.out]at h1 |-;rw[aAL,aCt,aAE];exact h1
     exact aij.setCell (p:=⟨w5.heap.size,j,none⟩) amL _
    case measure=>simp[intOf]
   | true =>
    have HS1:=azO (HS.out.2 I);have hq1:=HS1.out.1;have hqm:(1:Int)<=q:=Z
    clear HS hcell hfz;go_wp2_with fail
    go_loopw [16,105] (λcv iv wr=>∃(i c:Nat) (wt:List UInt32),i<=n+2∧iv = .i i∧cv = .int .u64 c∧c<=1∧Turned ws wt j i ∧
     Zk (seg wt j i)+Gg^i*c=Zk (seg ws j i)+Zk (vs.take i) ∧
     wr.ownsRow w4.heap.size 119 1 (.slice (some ⟨g,0,none⟩) (us.length+1) cap) (us.length+1) (wt.map bn)∧w8.grownBy wr (some g)∧Below w4.heap.size w4 wr) (λ_ iv _=>n+2-(intOf iv).toNat)
    case atStart=>exact⟨0,0,ws,Z,I,I,Z,Turned.refl _ _ _,by simp[seg,Zk],HO8.out,GL _ _,aij⟩
    case round =>
     obtain⟨i,c,wt,hi,rfl,rfl,hc,htu,hval,hown,hgr,hbl⟩:=hrel;have HT9:=azO htu;have HV9:=azO hval;have HO9:=azO hown;clear htu hval hown;by_cases hlt2:i<n+2
     .have QD:j+i<ws.length:=by have ajw:=HT.out.1; have Z7:=QI.out; omega
      have hu:wr.cell? ⟨g,j+i,none⟩=some (bn (ws[j+i]'QD)):=by
       rw[HO9.out.cellAt (j+i) (by have ajw:=HT.out.1; have Z7:=QI.out; omega),List.getElem?_map,List.getElem?_eq_getElem (by have hwl:=HT9.out.1; omega),aAF,HT9.out.get QD]
      have hfz:=HO9.out.frozenAt (j+i);have HU9:=azO (jQ ws j i QD);have ajx:j+i<wt.length:=by have hwl:=HT9.out.1; omega
      generalize ws[j+i]'QD=U at hu HU9;have g2:=U.toNat_lt;have u0:=gG U;have hyl:i<vs.length:=by have:=HVL.out; omega
      have hy:wr.cell? ⟨bb,ob+i,none⟩=some (bn vs[i]):=by rw[hbl.cell (p:=⟨bb,ob+i,none⟩) hbb]; exact HC.out i hyl
      have HY:=azO (Na.cZ vs i hyl);generalize vs[i]=y at hy HY;have g1:=y.toNat_lt;have y0:=gG y;go_wp2_with fail
      go_roundw
      case rel =>
       obtain⟨z1,z2,z3,z4⟩:=acp c U.toNat y.toNat hc g2 g1;have hst:=HO9.out.stored (j+i) (.int .u32 (((c+(U.toNat+y.toNat))%Gg:Nat):Int));have ez:bn (UInt32.ofNat ((c+(U.toNat+y.toNat))%Gg)) = .int .u32 (((c+(U.toNat+y.toNat))%Gg:Nat):Int):=by simp only[bn,bW z3]
       rw[<-ez,<-aBz,ez]at hst;rw[z1,z2];refine⟨i+1,(c+(U.toNat+y.toNat))/Gg,wt.set (j+i) (UInt32.ofNat ((c+(U.toNat+y.toNat))%Gg)),Z,by go_num,I,z4,HT9.out.set _,?_,hst.1,wu hgr hst.2,hbl.setCell (p:=⟨g,j+i,none⟩) hg4 _⟩;rw[rC _ _ _ _ ajx,HU9.out,HY.out,bW z3,aAA];exact ZY (Gg^i) HV9.out
      case measure=>simp[intOf]; omega
     obtain rfl:i=n+2:=by omega
     have QD:j+(n+2)<ws.length:=by have ajw:=HT.out.1; have Z7:=QI.out; omega
     have hu:wr.cell? ⟨g,j+(n+2),none⟩=some (bn (ws[j+(n+2)]'QD)):=by
      rw[HO9.out.cellAt (j+(n+2)) (by have ajw:=HT.out.1; have Z7:=QI.out; omega),List.getElem?_map,List.getElem?_eq_getElem (by have hwl:=HT9.out.1; omega),aAF,HT9.out.get QD]
     have hfz:=HO9.out.frozenAt (j+(n+2));have HU9:=azO (jQ ws j (n+2) QD);have ajx:j+(n+2)<wt.length:=by have hwl:=HT9.out.1; omega
     generalize ws[j+(n+2)]'QD=U at hu HU9;have g2:=U.toNat_lt;have u0:=gG U;have HQ9:=azO (HQ8.out.kept hgr (by right; simp[Value.ownBlock]; omega));obtain⟨⟨cv,hcell⟩,axA⟩:=qZ HQ9.out j Z;have axB:(c:Int)%4294967296=c:=Z
     have axC:((q:Int)-1)%4294967296=(q:Int)-1:=Z
     have axD:g≠w5.heap.size:=Z
     go_wp2_with fail
     go_roundw
     case rel =>
      obtain⟨hq1',Z9,hxV⟩:=HS1.out;have hzb:(U.toNat+c)%Gg<4294967296:=aBb _ O;have ez:bn (UInt32.ofNat ((U.toNat+c)%Gg)) = .int .u32 (((U.toNat:Int)+(c:Int))%4294967296):=by
       simp only[bn,bW hzb]; simp[Gg]
      have eq':bn (UInt32.ofNat (q-1)) = .int .u32 ((q:Int)-1):=by
       simp only[bn,bW (show q-1<4294967296 by omega)]; congr 1; omega
      have hst:=HO9.out.stored (j+(n+2)) (.int .u32 (((U.toNat:Int)+(c:Int))%4294967296));rw[<-ez,<-aBz,ez]at hst;have hq9:=HQ9.out.kept hst.2 (by right; simp[Value.ownBlock]; omega);have hst2:=hq9.stored j (.int .u32 ((q:Int)-1));rw[<-eq',aAL,aCt,Fz,eq']at hst2;have htt:=HT.out.trans (HT9.out.set (UInt32.ofNat ((U.toNat+c)%Gg)));have hdrop:=Ec htt (by have:=QI.out; omega) HDZ.out;have hvt:=HV9.out;rw[aAv (by have:=HVL.out; omega)]at hvt;have hA:=Na.dS (seg wt j (n+2));rw[seg_length _ _ _ Z]at hA;have amM:=Na.dS vs;rw[HVL.out]at amM;have hR:Zk (ut.drop j)%Zk vs<Gg^(n+2):=Nat.lt_trans (aBb _ af6) amM;rw[aAA]at hxV;have hlast:=acr hvt HU9.out hxV hA hR g2 hc;rw[rC _ _ _ _ ajx,bW hzb,hlast]at hdrop;refine⟨j,wt.set (j+(n+2)) (UInt32.ofNat ((U.toNat+c)%Gg)),UInt32.ofNat (q-1)::qd,Z,I,htt.1.trans QI.out,by have:=HKQ.out; simp; omega,by rw[hdrop]; exact aBb _ af6,?_,?_,?_,?_⟩
      .have:=aco HU.out htt.1 (by have:=QI.out; omega) htt.2.1 hdrop Z9;simp only[Zk,bW (show q-1<4294967296 by omega)]; exact this
      .exact hst.1.kept hst2.2 (by right; simp[Value.ownBlock]; omega)
      .have h1:=hst2.1;rw[<-eq']at h1 |-;rw[aAL,aCt,aAE];exact h1
      exact(hbl.setCell (p:=⟨g,j+(n+2),none⟩) hg4 _).setCell (p:=⟨w5.heap.size,j,none⟩) amL _
     case measure=>simp[intOf]
open Go.RowKit Na
variable{α:Type}
theorem GR(v u:Value)(l m:List UInt32)(w:World)(hv:aC w v l)(hu:aC w u m)(hm:0<Zk m)(hlen:l.length<=100000000)(hlen2:m.length<=100000000) :
  Calls prog 293 #[v,u] w λe w'=>∃q r,e = .returned (.tuple #[q,r,.i 0])∧aC w' q (Ux (Zk l/Zk m))∧aC w' r (Ux (Zk l%Zk m))∧Ext w w':=by
 rcases aAH (Zk l) (Zk m)with h | h
 .refine(QF v u l m w hv hu h Z).mono ?_;rintro e w' ⟨r,rfl,hr,hb⟩;rw[aCs h,aBJ h];exact⟨_,r,I,by rw[kT.2 I]; exact FB _,hr,hb⟩
 rcases hd:Ux (Zk m)with _ | ⟨d,_ | ⟨d2,t⟩⟩
 .exact absurd (kT.1 hd) Z
 .exact Vh v u l m d w hv hu hd h Z
 exact QG v u l m t.length w hv hu (by rw[hd]; simp) h hlen hlen2
open Go.RowKit Na
variable{α:Type}
theorem NP{f:α->Value}(hf:∀x y,f x=f y->x=y){w:World}{v:Value}{l l':List α}(h:dG f w v l)(h':dG f w v l'):l=l':=by
 obtain⟨a,cap,rfl,_,h⟩:=h;obtain⟨a',cap',hv,_,h'⟩:=h';simp only[aAq]at hv;obtain⟨rfl,hl,rfl⟩:=hv;apply List.ext_getElem hl;intro i h1 h2;rcases h with ⟨rfl,_⟩ | ⟨b,o,rfl,_,_,hc⟩
 .simp at h1
 rcases h' with ⟨rfl,_⟩ | ⟨b',o',ha,_,_,hc'⟩
 .simp at h2
 simp only[azT,aBV,and_true]at ha;obtain⟨rfl,rfl⟩:=ha;have e:=(hc i h1).symm.trans (hc' i h2);exact hf _ _ (az1 e)
theorem acv(x y:UInt32)(h:bn x=bn y):x=y:=by
 simp only[bn,Value.int.injEq,true_and]at h;exact aBq.1 Z
open Classical in
noncomputable def valOf(w:World)(v:Value):Nat:=if h:∃l,aC w v l then Zk h.choose else 0
theorem Bz{w:World}{v:Value}{l:List UInt32}(h:aC w v l):valOf w v=Zk l:=by
 have h1:∃l,aC w v l:=⟨l,h⟩;unfold valOf;rw[dif_pos h1,NP acv h1.choose_spec h]
theorem fK{a b:Nat}(h:a<=b):(Ux a).length<=(Ux b).length:=
 Na.length_le (Na.gI a) (by have:=Na.dS (Ux b); rw[PV]at this |-; omega)
theorem af7(v u:Value)(l m:List UInt32)(w:World)(hv:aC w v l)(hu:aC w u m)(hlen:l.length<=100000000)(hlen2:m.length<=100000000) :
  Calls prog 291 #[v,u] w λe w'=>∃g,e = .returned g∧aC w' g (Ux (Nat.gcd (Zk l) (Zk m)))∧Ext w w':=by
 have C1:=azO (oL v l w hv Z);have hla:=bY l;have hlb:=bY m;go_enter func291,ntmps291
 go_wp2_with fail
 refine C1.out.mono ?_;rintro e w1 ⟨x,rfl,hx,hb1⟩;have hx:=aZ hx;go_wp2_with fail
 refine(oL u m w1 (hu.below hb1) Z).mono ?_;rintro e w2 ⟨y,rfl,hy,hb2⟩;have hy:=aZ hy;have hx2:=hx.below hb2;have ajy:=K00 hb1 hb2;clear hx C1 hv hu;have HX:=azO hx2;have HY:=azO hy;clear hx2 hy;go_wp2_with fail
 go_loopw [0,1] (λx y wr=>∃(A B:Nat),aC wr x (Ux A)∧aC wr y (Ux B)∧Nat.gcd A B=Nat.gcd (Zk l) (Zk m)∧(Ux A).length<=100000000∧(Ux B).length<=100000000∧Ext w wr) (λ_ y wr=>valOf wr y)
 case atStart=>exact⟨(Zk l),(Zk m),HX.out,HY.out,I,Z,Z,ajy⟩
 case round =>
  obtain⟨A,B,hx,hy,hg,hlA,hlB,hbel⟩:=hrel;have HM:=azO (Bz hy);have HG:=azO hg;have HX:=azO hx;have HY:=azO hy;clear hg hx hy;obtain⟨ay,cy,rfl⟩:=HY.out.shape;rcases aAC B with rfl | hB
  .have h0:((Ux 0).length:Int)=0:=by rw[kT.2 I]; rfl
   go_wp2_with fail
   go_ret
   refine⟨_,I,?_,hbel⟩;rw[<-HG.out,Nat.gcd_zero_right];exact HX.out
  have h0:(0:Int)<((Ux B).length:Int):=by
   have:(Ux B).length≠0:=λh=>by have:=og h; omega
   omega
  have hD:=GR _ _ _ _ wr HX.out HY.out (by rw[PV]; exact hB) hlA hlB;rw[PV,PV]at hD;have HD:=azO hD;clear hD;go_wp2_with fail
  refine HD.out.mono ?_;rintro e w' ⟨q,r,rfl,hq,hr,hb⟩;have HR:=azO hr;have HY':=azO (HY.out.below hb);clear hq hr;go_wp2_with fail
  go_roundw
  case rel => 
   refine⟨B,A%B,HY'.out,HR.out,?_,hlB,?_,K00 hbel hb⟩
   .rw[<-HG.out,Nat.gcd_comm A B,Nat.gcd_rec B A,Nat.gcd_comm]
   .exact aAa (fK (aBM (aBb A hB))) hlB
  case measure =>
   rw[Bz HR.out,HM.out,PV,PV];exact aBb _ hB
