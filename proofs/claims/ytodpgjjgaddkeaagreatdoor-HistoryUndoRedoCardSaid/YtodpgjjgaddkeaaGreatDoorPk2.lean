/- Walks of package natural: guess -/
import Derived.Test.YtodpgjjgaddkeaaGreatDoorPk1
import Derived.Outline
set_option maxHeartbeats 9999999
open Go renaming World->Á,Value->À,Calls->Ä,Addr->Ĥ
open Go.Proofs.Tryz
set_option maxRecDepth 100000
set_option linter.unusedVariables false
set_option linter.unusedSimpArgs false
section
namespace Go.Proofs.Pv
open Go.RowKit Na Go.Rel
variable{α:Type}
variable{r V T x y V0 D0 qv:Nat}
abbrev iC(n:Nat)(h:n<18446744073709551616):IntKind.u64.wrap (n:Int)=(n:Int):=by rw[Ŏ]; omega
abbrev Tn(r x:Nat)(h:r<4294967296)(hx:x<4294967296):bits .or .u64 ((r:Int)*4294967296) (x:Int)=((r*4294967296+x:Nat):Int):=by
 have e:((r:Int)*4294967296)=((r*4294967296:Nat):Int):=by simp
 rw[e,u64_or_nat _ _ Z Z,nat_join 32 _ _ Z Z]
abbrev Tq{q:Nat}(hq:q<4294967296)(hV:V<4294967296):IntKind.u64.wrap ((q:Int)*(V:Int))=((q*V:Nat):Int):=by
 have h:=Μ (show q<=4294967295 by omega) (show V<=4294967295 by omega);have e:(q:Int)*(V:Int)=((q*V:Nat):Int):=by simp
 rw[e,iC _ Z]
abbrev aje{q:Nat}(h:(q+1)*V+r=T):q*V+(r+V)=T:=by rw[Nat.succ_mul]at h; omega
abbrev ak3(h:x+r=T)(hr:4294967296<=r)(h2:y<=18446744073709551616)(D0:Nat):x*4294967296+y<=T*4294967296+D0:=by omega
abbrev Zc{q:Nat}(D0:Nat)(h:q*V+r=T)(hr:4294967296<=r)(hT:T<(V+1)*4294967296)(hV0:V0<=4294967296) :
  q<4294967296∧q*(V*4294967296+V0)<=T*4294967296+D0:=by
 have h1:q<4294967296:=by
  rcases ĳ q 4294967296 with h1 | h1
  .exact h1
  have:=ő V h1;rw[Ě 4294967296 V]at this; omega
 refine⟨h1,?_⟩;have h2:q*V0<=4294967296*4294967296:=Μ (ϙ h1) hV0;rw[õ,<-ğ];exact ak3 h hr h2 D0
abbrev ak4{rd:Nat}(h:x+r=T)(hr:rd=r*4294967296+D0):(rd<y->T*4294967296+D0<x*4294967296+y)∧(¬rd<y->x*4294967296+y<=T*4294967296+D0):=by omega
abbrev anE{q rd:Nat}(h:q*V+r=T)(hqv:qv=q*V0)(hrd:rd=r*4294967296+D0) :
  (rd<qv->T*4294967296+D0<q*(V*4294967296+V0))∧(¬rd<qv->q*(V*4294967296+V0)<=T*4294967296+D0)∧(q=0->qv=0):=by
 rw[õ,<-ğ,<-hqv];obtain⟨h1,h2⟩:=ak4 (y:=qv) h hrd;exact⟨h1,h2,λh=>by rw[hqv,h,Nat.zero_mul]⟩
abbrev MV{q:Nat}(hqv:qv=q*V)(hq:q<4294967296)(hV:V<4294967296):IntKind.u64.wrap ((q:Int)*(V:Int))=(qv:Int):=by rw[hqv]; exact Tq hq hV
abbrev aa2{rd:Nat}(h0:rd=r*4294967296+x)(h:r<4294967296)(hx:x<4294967296):bits .or .u64 ((r:Int)*4294967296) (x:Int)=(rd:Int):=by rw[h0]; exact Tn r x h hx
abbrev Jq{w:Á}{a:Ĥ}{x:À}(h:w.cell? a=some x):a.block<w.heap.size:=by
 unfold World.cell? at h;rcases ĳ a.block w.heap.size with h' | h'
 .exact h'
 rw[Array.getElem?_eq_none h']at h; simp at h
abbrev aa3(bu ou cu bv ov cv m:Nat)(D2 D1 D0 V1 V0:Nat)(w:Á)(hm:m<=1000000000)
  (hD2:D2<4294967296) (hD1:D1<4294967296) (hD0:D0<4294967296) (hV1:V1<4294967296) (hV0:V0<4294967296) (hV:2147483648<=V1) (hDV:D2<=V1)
  (c2:w.cell? ⟨bu,ou+(m+2),none⟩=some (.int .u32 D2)) (c1:w.cell? ⟨bu,ou+(m+1),none⟩=some (.int .u32 D1)) (c0:w.cell? ⟨bu,ou+m,none⟩=some (.int .u32 D0))
  (e1:w.cell? ⟨bv,ov+(m+1),none⟩=some (.int .u32 V1)) (e0:w.cell? ⟨bv,ov+m,none⟩=some (.int .u32 V0)) :
  Ä prog 324 #[.s (some ⟨bu,ou,none⟩) (m+3) cu,.s (some ⟨bv,ov,none⟩) (m+2) cv] w λe w'=>∃q:Nat,e = .R (.int .u64 q)∧q<4294967296 ∧
   q*(V1*4294967296+V0)<=(D2*4294967296+D1)*4294967296+D0 ∧
   (q=(D2*4294967296+D1)/V1∨4294967296<=q+1∨(D2*4294967296+D1)*4294967296+D0<(q+1)*(V1*4294967296+V0))∧Ext w w':=by
 obtain⟨T,hT⟩:∃T,T=D2*4294967296+D1:=⟨_,I⟩;have hj1:=Tn D2 D1 hD2 hD1;rw[<-hT]at hj1 |-;have hTb:T<(V1+1)*4294967296:=by have:=ő 4294967296 hDV; omega
 obtain⟨Q0,hQ⟩:∃Q,Q=T/V1:=⟨_,I⟩;obtain⟨R0,hR⟩:∃R,R=T%V1:=⟨_,I⟩;have hR1:R0<V1:=by rw[hR]; exact Ň _ Z
 have hQR:Q0*V1+R0=T:=by rw[hQ,hR,Ě]; exact Nat.div_add_mod T V1
 have hq0:(T:Int)/(V1:Int)=(Q0:Int):=by rw[hQ]; rfl
 have hr0:(T:Int)%(V1:Int)=(R0:Int):=by rw[hR]; rfl
 have hQb:Q0<8589934592:=by
  rcases ĳ Q0 8589934592 with h | h
  .exact h
  have:=Μ h hV; omega
 have hqw:=iC Q0 Z;have w2:=iC D2 Z;have w1:=iC D1 Z;have w0:=iC D0 Z;have x1:=iC V1 Z;have x0:=iC V0 Z;have HT:=Â hT;have HQ:=Â hQ;have HQR:=Â hQR;rw[<-hQ];have au1:(1:Int)<=V1:=Z
 have υ:(0:Int)<=T:=Z
 clear hT hQ hR hQR;go_enter func324,ntmps324
 go_wp2_with fail
 go_quiet (fail)
 go_wp2_with fail
 go_quiet (fail)
 go_wp2_with fail
 go_loopw [7,8] (λqv rv wr=>∃q r:Nat,qv = .int .u64 q∧rv = .int .u64 r∧q<=Q0∧q*V1+r=T∧r<4294967296 ∧
  (q=Q0∨4294967296<=q+1∨T*4294967296+D0<(q+1)*(V1*4294967296+V0))∧Ext w wr) (λ_ rv _=>8589934592-(intOf rv).toNat)
 case atStart=>exact⟨Q0,R0,I,by rw[hr0],Ó _,HQR.out,Z,.inl I,below_drewN (below_drewN (ù _ _) _) _⟩
 case round =>
  obtain⟨q,r,rfl,rfl,hqQ,hqr,hr,hor,hbel⟩:=hrel;have d0:wr.cell? ⟨bu,ou+m,none⟩=some (.int .u32 D0):=(hbel.cell (p:=⟨bu,ou+m,none⟩) (Jq c0)).trans c0;have f1:wr.cell? ⟨bv,ov+(m+1),none⟩=some (.int .u32 V1):=(hbel.cell (p:=⟨bv,ov+(m+1),none⟩) (Jq e1)).trans e1;have f0:wr.cell? ⟨bv,ov+m,none⟩=some (.int .u32 V0):=(hbel.cell (p:=⟨bv,ov+m,none⟩) (Jq e0)).trans e0;have ο:q<8589934592:=Z
  have HOR:=Â hor;have HE:=Â hqr;clear hor hqr c0 e1 e0;by_cases hqB:4294967296<=q
  .have t1:((q:Int)/4294967296 != 0)=true:=by rw[bne_iff_ne]; omega
   obtain⟨q1,rfl⟩:∃q1,q=q1+1:=⟨q-1,Z⟩;have hdec:=aje HE.out;have t1:(((q1:Int)+1)/4294967296 != 0)=true:=by rw[bne_iff_ne]; omega
   have aeI:=Â hdec;have anF:4294967296<=q1+1:=hqB;clear hdec;go_wp2_with fail
   go_quiet (fail)
   go_wp2_with fail
   .have t3 := ‹(((r:Int)+(V1:Int))/4294967296 != 0)=true›;rw[bne_iff_ne]at t3;obtain⟨h1,h2⟩:=Zc (V0:=V0) D0 aeI.out Z hTb Z;go_ret
    exact⟨q1,by go_num,h1,h2,.inr (.inl anF),below_drewN hbel _⟩
   have t3 := ‹(((r:Int)+(V1:Int))/4294967296 != 0)=false›;rw[bne_eq_false_iff_eq]at t3;go_roundw
   case rel=>exact⟨q1,r+V1,by go_num,by go_num,Z,aeI.out,Z,.inr (.inl anF),below_drewN hbel _⟩
   case measure=>simp[intOf]; omega
  have t1:((q:Int)/4294967296 != 0)=false:=by rw[bne_eq_false_iff_eq]; omega
  obtain⟨qv,hqv⟩:∃qv,qv=q*V0:=⟨_,I⟩;obtain⟨rd,hrd⟩:∃rd,rd=r*4294967296+D0:=⟨_,I⟩;have hm1:=MV hqv (show q<4294967296 by omega) hV0;have hj2:=aa2 hrd hr hD0;have HB:=Â (anE HE.out hqv hrd);clear hqv hrd;by_cases hgt:rd<qv
  .have t2:(rd:Int)<qv:=Z
   obtain⟨q1,rfl⟩:∃q1,q=q1+1:=by
    cases q with
    | zero=>exfalso; have:=HB.out.2.2 I; omega
    | succ q1=>exact⟨q1,I⟩
   have t1:(((q1:Int)+1)/4294967296 != 0)=false:=by rw[bne_eq_false_iff_eq]; omega
   have hm1:IntKind.u64.wrap (((q1:Int)+1)*(V0:Int))=(qv:Int):=by have:=hm1; simpa using this
   have aeI:=Â (aje HE.out);go_wp2_with fail
   go_quiet (fail)
   go_wp2_with fail
   .have t3 := ‹(((r:Int)+(V1:Int))/4294967296 != 0)=true›;rw[bne_iff_ne]at t3;obtain⟨h1,h2⟩:=Zc (V0:=V0) D0 aeI.out Z hTb Z;go_ret
    exact⟨q1,by go_num,h1,h2,.inr (.inr (HB.out.1 hgt)),below_drewN hbel _⟩
   have t3 := ‹(((r:Int)+(V1:Int))/4294967296 != 0)=false›;rw[bne_eq_false_iff_eq]at t3;go_roundw
   case rel=>exact⟨q1,r+V1,by go_num,by go_num,Z,aeI.out,Z,.inr (.inr (HB.out.1 hgt)),below_drewN hbel _⟩
   case measure=>simp[intOf]; omega
  have t2:¬(rd:Int)<qv:=Z
  go_wp2_with fail
  go_quiet (fail)
  go_wp2_with fail
  go_ret
  exact⟨q,I,Z,HB.out.2.1 hgt,HOR.out,below_drewN hbel _⟩
def seg(l:List UInt32)(k i:Nat):List UInt32:=(l.drop k).take i
abbrev ahI(l:List UInt32)(k i:Nat)(x:UInt32)(h:k+i<l.length):seg (l.set (k+i) x) k (i+1)=seg l k i++[x]:=by
 unfold seg;apply List.ext_getElem
 .simp; omega
 intro j h1 h2;simp only[ayP,List.getElem_drop,List.getElem_set];rcases ĳ j i with hj | hj
 .rw[É Z,List.getElem_append_left (by simp; omega)]; simp
 have:j=i:=by simp at h1; omega
 subst this;rw[Ï I,List.getElem_append_right (by simp; omega)]; simp
abbrev seg_length(l:List UInt32)(k i:Nat)(h:k+i<=l.length):(seg l k i).length=i:=by unfold seg; simp; omega
abbrev jW(l:List UInt32)(k i:Nat)(h:k+i<l.length):Pq (seg l k (i+1))=Pq (seg l k i)+JH^i*l[k+i].toNat:=by
 unfold seg;rw[Na.bT _ _ (by simp; omega)]; simp
abbrev rZ(l:List UInt32)(k i:Nat)(x:UInt32)(h:k+i<l.length):Pq (seg (l.set (k+i) x) k (i+1))=Pq (seg l k i)+JH^i*x.toNat:=by
 rw[ahI l k i x h,Na.iY,seg_length _ _ _ Z]
def Turned(us ws:List UInt32)(k i:Nat):Prop:=ws.length=us.length∧ws.take k=us.take k∧ws.drop (k+i)=us.drop (k+i)
abbrev Turned.refl(us:List UInt32)(k i:Nat):Turned us us k i:=⟨I,I,I⟩
abbrev Turned.set{us ws:List UInt32}{k i:Nat}(h:Turned us ws k i)(x:UInt32):Turned us (ws.set (k+i) x) k (i+1):=by
 obtain⟨h1,h2,h3⟩:=h;refine⟨by simp[h1],?_,?_⟩
 .rw[List.take_set_of_le Z,h2]
 rw[List.drop_set_of_lt Z];have:ws.drop (k+i+1)=us.drop (k+i+1):=by rw[<-Ι,h3,Ι]
 exact this
abbrev Turned.get{us ws:List UInt32}{k i:Nat}(h:Turned us ws k i)(hl:k+i<us.length):ws[k+i]'(by rw[h.1]; exact hl)=us[k+i]:=by
 have h1:=Ñ (λl=>l[0]?) h.2.2;have h2:=h.1;simp only[List.getElem?_drop,Λ]at h1;rw[List.getElem?_eq_getElem Z,List.getElem?_eq_getElem hl]at h1;exact Ü h1
abbrev Xa{A W ê Q c bo U s lo QA:Nat}(E:Nat)(h:A+E*(c+bo)=W+Q*ê)(y:Nat)(hs:s=c+Q*y)(hlo:lo=s%JH)(hu:U+JH*QA=x+lo+bo) :
  A+E*U+E*JH*(s/JH+QA)=W+E*x+Q*(ê+E*y):=by
 have h1:=Ś s JH;rw[<-hlo]at h1;have e1:Q*(ê+E*y)=Q*ê+E*(Q*y):=by rw[õ,ϩ]
 have e2:E*JH*(s/JH+QA)=E*(JH*(s/JH))+E*(JH*QA):=by rw[õ,ğ,ğ]
 have e3:E*U+E*(JH*QA)=E*x+E*lo+E*bo:=by rw[<-õ,hu,õ,õ]
 have e4:E*lo+E*(JH*(s/JH))=E*c+E*(Q*y):=by rw[<-õ,h1,hs,õ]
 rw[õ]at h;rw[e1,e2];omega
abbrev Jr(U lo bo:Nat)(hU:U<4294967296)(hlo:lo<4294967296)(Ϲ:bo<=1):∃A01 x QA:Nat,IntKind.u64.wrap (IntKind.u64.wrap ((U:Int)-(lo:Int))-(bo:Int))=(A01:Int) ∧
  (A01:Int)%4294967296=(x:Int)∧(A01:Int)/9223372036854775808=(QA:Int)∧QA<=1∧x<4294967296∧U+JH*QA=x+lo+bo:=by
 rw[Ŏ,Ŏ];unfold JH;by_cases h:lo+bo<=U
 .exact⟨U-lo-bo,U-lo-bo,0,Z,Z,Z,Z,Z,Z⟩
 exact⟨U+18446744073709551616-lo-bo,U+4294967296-lo-bo,1,Z,Z,Z,Z,Z,Z⟩
abbrev aeJ(s:Nat)(hs:s<18446744073709551616):bits .and .u64 (s:Int) 4294967295=((s%JH:Nat):Int):=by
 have:=u64_and_nat s 4294967295 hs Z;rw[show((4294967295:Nat):Int)=4294967295 from rfl]at this;rw[this,nat_mask32]; rfl
abbrev Js(w:Á)(row:Option Nat):w.grownBy w row:=⟨I,I,I,Ó _,λ_ _ _=>rfl⟩
abbrev xU{a b c:Á}{row:Option Nat}(h1:a.grownBy b row)(h2:b.grownBy c row):a.grownBy c row:=
 ⟨h2.os.trans h1.os,h2.tape.trans h1.tape,h2.output.trans h1.output,ï h1.size h2.size,λk hk hne=>(h2.block k (ā hk h1.size) hne).trans (h1.block k hk hne)⟩
abbrev take_any(g k n N cp cap:Nat)(us ys:List UInt32)(bv ov cv Q:Nat)(w0 w:Á)(hn:ys.length=n)(hN:us.length=N)(hk:k+n+1<=N)(hN2:N<=1000000000)(hQ:Q<4294967296)
  (hv:∀i (h:i<ys.length),w0.cell? ⟨bv,ov+i,none⟩=some (aU ys[i])) (hbv:bv<w0.heap.size)
  (hown:w.ownsRow w0.heap.size 119 1 (.s (some ⟨g,0,none⟩) N cap) N (us.map aU)) (hbel:Below w0.heap.size w0 w) :
  Ä prog 325 #[.s (some ⟨g,k,none⟩) (n+1) cp,.s (some ⟨bv,ov,none⟩) n cv,.int .u64 Q] w λe w'=>∃(neg:Bool) (ws:List UInt32),e = .R (.b neg) ∧
   Turned us ws k (n+1)∧Pq (seg us k (n+1))+(if neg then JH^(n+1)else 0)=Pq (seg ws k (n+1))+Q*Pq ys ∧
   w'.ownsRow w0.heap.size 119 1 (.s (some ⟨g,0,none⟩) N cap) N (ws.map aU)∧Below w0.heap.size w0 w'∧w.grownBy w' (some g):=by
 have hgb:w0.heap.size<=g:=(hown.lt g I).1;have HV:=Â hv;have HN:=Â hn;have HNN:=Â hN;have HO:=Â hown;clear hv hn hN hown;go_enter func325,ntmps325
 go_wp2_with fail
 go_loopw [7,8,15] (λcv bv iv wr=>∃(i c bo:Nat) (ws:List UInt32),i<=n∧iv = .i i∧cv = .int .u64 c∧bv = .int .u64 bo∧c<4294967296∧bo<=1∧Turned us ws k i ∧
  Pq (seg us k i)+JH^i*(c+bo)=Pq (seg ws k i)+Q*Pq (ys.take i) ∧
  wr.ownsRow w0.heap.size 119 1 (.s (some ⟨g,0,none⟩) N cap) N (ws.map aU)∧Below w0.heap.size w0 wr∧w.grownBy wr (some g)) (λ_ _ iv _=>n-(intOf iv).toNat)
 case atStart=>exact⟨0,0,0,us,Z,I,I,I,Z,Z,Turned.refl _ _ _,by simp[seg,Pq],HO.out,hbel,Js _ _⟩
 case round =>
  obtain⟨i,c,bo,ws,hi,rfl,rfl,rfl,hc,Ϲ,htu,hval,hown,hbel,hgr⟩:=hrel;have nR:=Â hval;have HTU:=Â htu;have HW:=Â hown;clear hval htu hown HO;have hwl:=HTU.out.1;by_cases hlt:i<n
  .have hyl:i<ys.length:=by rw[HN.out]; exact hlt
   have hy:wr.cell? ⟨bv,ov+i,none⟩=some (aU ys[i]):=by rw[hbel.cell (p:=⟨bv,ov+i,none⟩) hbv]; exact HV.out i hyl
   have SL:k+i<us.length:=by rw[HNN.out]; omega
   have hu:wr.cell? ⟨g,k+i,none⟩=some (aU us[k+i]):=by
    rw[HW.out.cellAt (k+i) Z,List.getElem?_map,List.getElem?_eq_getElem Z,Ę,HTU.out.get SL]
   have hfz:=HW.out.frozenAt (k+i);have HY:=Â (Na.bT ys i hyl);have HU:=Â (jW us k i SL);generalize ys[i]=y at hy HY;generalize us[k+i]=U at hu HU;have g1:=y.toNat_lt;have g2:=U.toNat_lt;have y0:=fA y;have u0:=fA U;obtain⟨qy,hqy⟩:∃qy,qy=Q*y.toNat:=⟨_,I⟩;have hmul:=MV hqy hQ g1;have ο:qy<=18446744065119617025:=by rw[hqy]; exact Μ (show Q<=4294967295 by omega) (show y.toNat<=4294967295 by omega)
   obtain⟨s,hs⟩:∃s,s=c+qy:=⟨_,I⟩;have hsum:IntKind.u64.wrap ((c:Int)+(qy:Int))=(s:Int):=by rw[hs,<-iC (c+qy) Z]; simp
   have hsb:s<18446744073709551616:=Z
   obtain⟨lo,hlo⟩:∃lo,lo=s%JH:=⟨_,I⟩;have hand:bits .and .u64 (s:Int) 4294967295=(lo:Int):=by rw[hlo]; exact aeJ s hsb
   have aqt:lo<4294967296:=by rw[hlo]; exact Ň _ O
   obtain⟨A01,x,QA,hZ,hx,hb',ahJ,hxb,hu'⟩:=Jr U.toNat lo bo g2 aqt Ϲ;obtain⟨c',hc'⟩:∃c',c'=s/JH:=⟨_,I⟩;have hcar:(s:Int)/4294967296=(c':Int):=by rw[hc']; simp[JH]
   have hcb:c'<4294967296:=by rw[hc']; exact ϓ hsb
   rw[hqy]at hs;have HS:=Â hs;have HLO:=Â hlo;have HC:=Â hc';have HUU:=Â hu';clear hqy hs hlo hc' hu' ο hsb;go_wp2_with fail
   go_roundw
   case rel =>
    have hst:=(HW.out.stored (k+i) (aU (UInt32.ofNat x))).1;rw[<-Š]at hst;have hg2:=(HW.out.stored (k+i) (Value.int .u32 (x:Int))).2;refine⟨i+1,c',QA,ws.set (k+i) (UInt32.ofNat x),Z,by go_num,I,I,hcb,ahJ,HTU.out.set _,?_,?_,?_,xU hgr hg2⟩
    .rw[HU.out,HY.out,rZ _ _ _ _ Z,bJ hxb,HC.out,Ğ];exact Xa (JH^i) nR.out y.toNat HS.out HLO.out HUU.out
    .simpa[aU,bJ hxb]using hst
    exact hbel.setCell (p:=⟨g,k+i,none⟩) hgb _
   case measure=>simp[intOf]; omega
  obtain rfl:i=n:=by omega
  have SL:k+i<us.length:=by rw[HNN.out]; omega
  have hu:wr.cell? ⟨g,k+i,none⟩=some (aU us[k+i]):=by
   rw[HW.out.cellAt (k+i) Z,List.getElem?_map,List.getElem?_eq_getElem Z,Ę,HTU.out.get SL]
  have hfz:=HW.out.frozenAt (k+i);have HU:=Â (jW us k i SL);generalize us[k+i]=U at hu HU;have g2:=U.toNat_lt;have u0:=fA U;obtain⟨A01,x,QA,hZ,hx,hb',ahJ,hxb,hu'⟩:=Jr U.toNat c bo g2 hc Ϲ;have HUU:=Â hu';clear hu';go_wp2_with fail
  go_ret
  have hst:=(HW.out.stored (k+i) (aU (UInt32.ofNat x))).1;rw[<-Š]at hst;refine⟨((QA:Int) != 0),ws.set (k+i) (UInt32.ofNat x),I,HTU.out.set _,?_,by simpa[aU,bJ hxb]using hst,hbel.setCell (p:=⟨g,k+i,none⟩) hgb _,xU hgr (HW.out.stored (k+i) (Value.int .u32 (x:Int))).2⟩;have hv:=nR.out;rw[<-HN.out,Ħ,HN.out]at hv;rw[HU.out,rZ _ _ _ _ Z,bJ hxb,Ğ];have h3:=HUU.out;have e:(if ((QA:Int) != 0)=true then JH^i*JH else 0)=JH^i*(JH*QA):=by
   rcases(show QA=0∨QA=1 by omega)with rfl | rfl<;>simp
  rw[e];have e3:JH^i*U.toNat+JH^i*(JH*QA)=JH^i*x+JH^i*(c+bo):=by rw[<-õ,h3,<-õ]; congr 1; omega
  omega
end Go.Proofs.Pv
namespace Go.Proofs.Pv
variable{ut ws:List UInt32}{V j A W c U:Nat}
abbrev Tt(l:List UInt32)(k i:Nat)(h:k+i<=l.length):Na.Pq (l.drop k)=Na.Pq (seg l k i)+Na.JH^i*Na.Pq (l.drop (k+i)):=by
 unfold seg;rw[Na.iU (l.drop k) i (by simp; omega),Ι]
abbrev Xb(vs ut:List UInt32)(n j:Nat)(hv:vs.length=n+2)(hu:j+n+3<=ut.length)(hlt:Na.Pq (ut.drop (j+1))<Na.Pq vs) :
  Na.Pq (seg ut j (n+3))=Na.Pq (ut.drop j)∧Na.Pq (ut.drop (j+(n+3)))=0∧Na.Pq (ut.drop j)<Na.JH*Na.Pq vs ∧
  (ut[j+(n+2)]'Z).toNat<=(vs[n+1]'Z).toNat ∧
  (∃L,L<Na.JH^n∧Na.Pq (ut.drop j)=L+Na.JH^n*((ut[j+n]'Z).toNat+Na.JH*(ut[j+(n+1)]'Z).toNat+Na.JH*Na.JH*(ut[j+(n+2)]'Z).toNat)) ∧
  (∃M,M<Na.JH^n∧Na.Pq vs=M+Na.JH^n*((vs[n]'Z).toNat+Na.JH*(vs[n+1]'Z).toNat)):=by
 have hvl:=Na.dV vs;rw[hv]at hvl;have hd:=Na.nU ut j Z;have hd0:=(ut[j]'Z).toNat_lt;have hPV:Na.Pq (ut.drop j)<Na.JH*Na.Pq vs:=by
  have h1:Na.JH*(Na.Pq (ut.drop (j+1))+1)<=Na.JH*Na.Pq vs:=ĝ _ hlt;rw[Ŕ]at h1;have:(ut[j]'Z).toNat<Na.JH:=hd0;omega
 have hs:=Tt ut j (n+3) Z;have hz:Na.Pq (ut.drop (j+(n+3)))=0:=by
  rcases ę (Na.Pq (ut.drop (j+(n+3))))with h | h
  .exact h
  have h1:Na.JH^(n+3)*1<=Na.JH^(n+3)*Na.Pq (ut.drop (j+(n+3))):=ĝ _ h;have h2:Na.JH*Na.Pq vs<Na.JH*Na.JH^(n+2):=azn hvl Na.jX;rw[Ě Na.JH (Na.JH^(n+2)),<-Ğ]at h2;have h3:Na.JH*Na.Pq vs<Na.JH^(n+3):=h2;omega
 rw[hz,Nat.mul_zero,Λ]at hs;have s2:=jW ut j (n+2) Z;have s1:=jW ut j (n+1) Z;have s0:=jW ut j n Z;have l0:=Na.dV (seg ut j n);have l2:=Na.dV (seg ut j (n+2));rw[seg_length _ _ _ Z]at l0 l2;have t1:=Na.bT vs (n+1) Z;have t0:=Na.bT vs n Z;rw[Ĝ Z]at t1;have m0:=Na.dV (vs.take n);have m1:=Na.dV (vs.take (n+1));have e0:(vs.take n).length=n:=by simp; omega
 have e1:(vs.take (n+1)).length=n+1:=by simp; omega
 rw[e0]at m0;rw[e1]at m1;refine⟨hs.symm,hz,hPV,?_,⟨Na.Pq (seg ut j n),l0,?_⟩,⟨Na.Pq (vs.take n),m0,?_⟩⟩
 ·
  rw[hs,s2]at hPV;generalize (ut[j+(n+2)]'Z).toNat=D2 at *;generalize (vs[n+1]'Z).toNat=V1 at *;have h1:Na.JH*Na.Pq vs<Na.JH^(n+2)*(V1+1):=by
   have h2:Na.Pq vs<Na.JH^(n+1)*(V1+1):=by rw[t1,Ŕ]; omega
   have h3:Na.JH*Na.Pq vs<Na.JH*(Na.JH^(n+1)*(V1+1)):=azn h2 Na.jX;rw[<-ğ,Ě Na.JH (Na.JH^(n+1)),<-Ğ]at h3;exact h3
  have h4:Na.JH^(n+2)*D2<Na.JH^(n+2)*(V1+1):=Z
  exact aze (azm h4)
 .have ep1:Na.JH^(n+1)=Na.JH^n*Na.JH:=Ğ _ _;have ep2:Na.JH^(n+2)=Na.JH^n*Na.JH*Na.JH:=by rw[Ğ,Ğ]
  rw[hs,s2,s1,s0,ep2,ep1,õ,õ,ğ (Na.JH^n) Na.JH (ut[j+(n+1)]'Z).toNat,ğ (Na.JH^n) Na.JH Na.JH,ğ (Na.JH^n) (Na.JH*Na.JH)];omega
 rw[t1,t0,Ğ,õ,<-ğ];omega
abbrev aeK{us:List UInt32}{Q q:Nat}(hU:Na.Pq us=Na.Pq ut+Na.JH^(j+1)*(V*Q))(hl:ws.length=ut.length)(hj:j<=ut.length)(ht:ws.take j=ut.take j)
  (hw:Na.Pq (ws.drop j)=Na.Pq (ut.drop j)%V) (hq:q=Na.Pq (ut.drop j)/V):Na.Pq us=Na.Pq ws+Na.JH^j*(V*(q+Na.JH*Q)):=by
 have h1:=Na.iU ut j hj;have h2:=Na.iU ws j Z;rw[ht,hw]at h2;have h3:=Ś (Na.Pq (ut.drop j)) V;rw[<-hq]at h3;rw[hU,h1,h2];generalize Na.Pq (ut.drop j)%V=r at *;generalize Na.Pq (ut.drop j)=P at *;generalize Na.Pq (ut.take j)=A at *;clear hU h1 h2 hw hq;subst h3;rw[õ (Na.JH^j) r,õ V q,ϩ V Na.JH Q,õ (Na.JH^j) (V*q),Ğ,ğ (Na.JH^j) Na.JH];omega
abbrev EY{i:Nat}(h:Turned ut ws j i)(hl:j+i<=ut.length)(hz:Na.Pq (ut.drop (j+i))=0):Na.Pq (ws.drop j)=Na.Pq (seg ws j i):=by
 rw[Tt ws j i (by rw[h.1]; exact hl),h.2.2,hz]; simp
abbrev aeL(c U y:Nat)(hc:c<=1)(hU:U<4294967296)(hy:y<4294967296) :
  ((c:Int)+((U:Int)+(y:Int)))/4294967296=(((c+(U+y))/Na.JH:Nat):Int)∧((c:Int)+((U:Int)+(y:Int)))%4294967296=(((c+(U+y))%Na.JH:Nat):Int) ∧
  (c+(U+y))%Na.JH<4294967296∧(c+(U+y))/Na.JH<=1:=by
 unfold Na.JH;refine⟨Z,Z,Z,Z⟩
abbrev aa4{ê y:Nat}(E:Nat)(h:A+E*c=W+ê):A+E*((c+(U+y))%Na.JH)+E*Na.JH*((c+(U+y))/Na.JH)=W+E*U+(ê+E*y):=by
 have h1:=Ś (c+(U+y)) Na.JH;have h2:E*((c+(U+y))%Na.JH)+E*Na.JH*((c+(U+y))/Na.JH)=E*c+(E*U+E*y):=by
  rw[ğ,<-õ,h1,õ,õ]
 omega
abbrev aeM{R E x:Nat}(h:A+E*c=W+V)(hx:x=W+E*U)(hs:x+V=E*Na.JH+R)(hA:A<E)(hR:R<E)(hU:U<4294967296)(hc:c<=1) :
  A+E*((U+c)%Na.JH)=R:=by
 subst hx;have h1:A+E*(U+c)=E*Na.JH+R:=by rw[õ]; omega
 have h2:U+c=Na.JH:=by
  rcases ay3 (U+c) Na.JH with h | h | h
  .have h3:E*(U+c)+E<=E*Na.JH:=by rw[<-Ŕ]; exact ĝ _ h
   omega
  .exact h
  have hB:Na.JH=4294967296:=I;omega
 rw[h2]at h1 |-;rw[Nat.mod_self]; omega
end Go.Proofs.Pv
namespace Go.Proofs.Pv
open Go.RowKit Na Go.Rel
variable{α:Type}
abbrev Jt(n:Nat)(w:Á)(hn:n<4294967296*4294967296) :
  Ä prog 294 #[.int .u64 (n:Int)] w λe w'=>∃v',e = .R v' ∧
   w'.ownsRow w.heap.size 119 1 v' (LZ n).length ((LZ n).map aU)∧Ext w w':=by
 have h:=qM (UInt64.ofNat n) w;have e:(UInt64.ofNat n).toNat=n:=by simp; omega
 unfold agF at h;rw[e]at h;exact h
abbrev xW{a b:Nat}(h:b<=a):¬rD a b<0:=by unfold rD; rw[É Z]; split<;>omega
abbrev aeN{a b:Nat}(h:a<b):rD a b<0:=by rw[yH h]; omega
abbrev oO{n:Nat}(h:(LZ n).length=0):n=0:=kV.1 (Ŝ h)
abbrev Tv(v u:À)(l m:List UInt32)(w:Á)(hv:aF w v l)(hu:aF w u m)(hlt:Pq l<Pq m)(hlen:l.length<=1000000000) :
  Ä prog 293 #[v,u] w λe w'=>∃r,e = .R (.tuple #[.sn,r,.i 0])∧aF w' r (LZ (Pq l))∧Ext w w':=by
 have C1:=Â (short_any v l w hv);have C2:=Â (short_any u m w hu);have hb:0<(LZ (Pq m)).length:=by
  rcases ę (LZ (Pq m)).length with h | h
  .have:=oO h; omega
  exact h
 have hcv:=aeN hlt;have ea:=L6 (Pq l);have eb:=L6 (Pq m);have hla:=bP l;rw[<-ea,<-eb]at hcv;clear hv hu hlt;generalize LZ (Pq l)=a at *;generalize LZ (Pq m)=b at *;have EA:=Â ea;have EB:=Â eb;clear ea eb;have hb0:((b.length:Int)==0)=false:=by rw[ä]; omega
 go_enter func293,ntmps293
 go_wp2_with fail
 refine C1.out.mono ?_;rintro e w' ⟨x,rfl,hx,rfl⟩;go_wp2_with fail
 refine C2.out.mono ?_;rintro e w' ⟨y,rfl,hy,rfl⟩;go_wp2_with fail
 refine(BK _ _ a b _ hx hy).mono ?_;rintro e w1 ⟨rfl,hb1⟩;generalize rD (Pq a) (Pq b)=c at hcv |-;go_wp2_with fail
 refine(Yg _ a _ (hx.below hb1) Z).mono ?_;rintro e w2 ⟨r,rfl,hown,hb2⟩;have hr:=aS hown;clear hown;go_wp2_with fail
 go_ret3
 exact⟨_,I,hr,Ã hb1 hb2⟩
abbrev Xc(v u:À)(l m:List UInt32)(d:UInt32)(w:Á)(hv:aF w v l)(hu:aF w u m)(hd:LZ (Pq m)=[d])(hge:Pq m<=Pq l)(hlen:l.length<=1000000000) :
  Ä prog 293 #[v,u] w λe w'=>∃q r,e = .R (.tuple #[q,r,.i 0])∧aF w' q (LZ (Pq l/Pq m))∧aF w' r (LZ (Pq l%Pq m))∧Ext w w':=by
 have C1:=Â (short_any v l w hv);have C2:=Â (short_any u m w hu);have eb:=L6 (Pq m);have ed:Pq m=d.toNat:=by rw[<-eb,hd]; simp[Pq]
 have hd0:0<d.toNat:=by
  rcases ę d.toNat with h | h
  .rw[h]at ed; rw[ed]at hd; simp[LZ,Na.kU]at hd
  exact h
 have hcv:=xW hge;have ea:=L6 (Pq l);have hla:=bP l;rw[ed]at hcv |-;rw[hd]at C2;rw[<-ea]at hcv;rw[<-ea];clear hv hu hge eb;generalize LZ (Pq l)=a at *;have EA:=Â ea;clear ea;have hcv':¬rD (Pq a) (Pq [d])<0:=by simpa[Pq]using hcv
 have ON:=λw v h=>Â (one_any v a d w h hd0 Z);clear hcv ed hd;have hdl:=d.toNat_lt;have au2:Pq a%d.toNat<4294967296:=by have:=Ň (Pq a) hd0; omega
 go_enter func293,ntmps293
 go_wp2_with fail
 refine C1.out.mono ?_;rintro e w' ⟨x,rfl,hx,rfl⟩;go_wp2_with fail
 refine C2.out.mono ?_;rintro e w' ⟨y,rfl,hy,rfl⟩;obtain⟨by1,oy,cy,hys,hby,hly,hmy,hcy⟩:=dH hy I Y;simp only[Ĉ]at hys;obtain⟨rfl,-,-⟩:=hys;have hc0:=hcy 0 Y;simp only[Λ,azb]at hc0;clear hcy;rw[show([d]:List UInt32).length=1 from rfl]at hy |-;go_wp2_with fail
 refine(BK _ _ a [d] _ hx hy).mono ?_;rintro e w1 ⟨rfl,hb1⟩;have hc1:w1.cell? ⟨by1,oy,none⟩=some (aU d):=(hb1.cell (p:=⟨by1,oy,none⟩) hby).trans hc0;generalize rD (Pq a) (Pq [d])=c at hcv' |-;clear hc0;go_wp2_with fail
 refine(ON _ _ (hx.below hb1)).out.mono ?_;rintro e w2 ⟨q,rfl,hq,hb2⟩;have hw:IntKind.u64.wrap ((Pq a%d.toNat:Nat):Int)=((Pq a%d.toNat:Nat):Int):=iC _ Z;have FU:=Â (Jt (Pq a%d.toNat) w2 Z);generalize hrm:Pq a%d.toNat=rm at *;have HRM:=Â hrm;clear hrm;go_wp2_with fail
 refine FU.out.mono ?_;rintro e w3 ⟨r,rfl,hown,hb3⟩;have hr:=aS hown;clear hown;go_wp2_with fail
 go_ret3
 exact⟨_,_,I,hq.below hb3,by rw[HRM.out]; exact hr,Ã hb1 (Ã hb2 hb3)⟩
abbrev Turned.trans{us ws ts:List UInt32}{k i:Nat}(h1:Turned us ws k i)(h2:Turned ws ts k i):Turned us ts k i:=
 ⟨h2.1.trans h1.1,h2.2.1.trans h1.2.1,h2.2.2.trans h1.2.2⟩
abbrev ahK{a b U V P q r:Nat}(hU:U=a*P)(hV:V=b*P)(h:U=r+V*q)(hr:r<V)(hP:0<P):q=a/b∧r/P=a%b:=by
 subst hU hV;have h1:b*q*P<=a*P:=by rw[Nat.mul_right_comm]; omega
 have h2:=Nat.le_of_mul_le_mul_right h1 hP;obtain⟨s,rfl⟩:∃s,a=s+b*q:=⟨a-b*q,Z⟩;have h3:r=s*P:=by rw[Œ,Nat.mul_right_comm b q P]at h; omega
 subst h3;have h4:s<b:=Nat.lt_of_mul_lt_mul_right hr;rw[Nat.mul_div_cancel _ hP,ay1 _ _ Z,Nat.add_mul_mod_self_left,ay2 h4,ϗ h4];exact⟨Z,I⟩
abbrev Ld(v:À)(l:List UInt32)(p:Nat)(w:Á)(hv:aF w v l)(hp2:p<=31)(hlen:l.length<=1000000000) :
  Ä prog 323 #[v,.i (-(p:Int))] w λe w'=>∃v',e = .R v'∧aF w' v' (LZ (Pq l/2^p))∧Ext w w':=by
 rcases ę p with rfl | hp
 .have h:=Ai v l 0 w hv Z hlen;refine h.mono ?_;rintro e w' ⟨a,rfl,hr,hb⟩;simp only[Nat.pow_zero,Nat.mul_one,Nat.div_one]at hr |-;exact⟨_,I,hr,hb⟩
 refine(Vb v l p w hv hp hp2 hlen).mono ?_;rintro e w' ⟨a,rfl,hr,hb⟩;exact⟨_,I,hr,hb⟩
abbrev aa5(b:List UInt32)(m:Nat)(hm:b.length=m+1)(hn:Na.norm b):∃p:Nat,(32:Int)-(Lib.bitLen (b[m]'Z).toNat:Int)=(p:Int)∧p<=31 ∧
  (LZ (Pq b*2^p)).length=m+1∧∀(h:m<(LZ (Pq b*2^p)).length),2147483648<=((LZ (Pq b*2^p))[m]).toNat:=by
 have hx0:b[m]'Z≠0:=by
  have:=Na.uT hn Z;simpa[hm]using this
 have hv:=Na.bT b m Z;rw[<-hm,Ħ]at hv;have ht:=Na.dV (b.take m);have e2:(b.take m).length=m:=by simp; omega
 rw[e2]at ht;generalize b[m]'Z=x at *;have hb:1<=Lib.bitLen x.toNat∧2^(Lib.bitLen x.toNat-1)<=x.toNat∧x.toNat<2^Lib.bitLen x.toNat:=
  Lib.bitLenAux_bounds 64 _ (by have:=x.toNat_lt; omega) (λe=>hx0 (ř.1 (by simpa using e)))
 have hbl:=Lib.bitLen_le x.toNat 32 Z x.toNat_lt;generalize Lib.bitLen x.toNat=c at *;refine⟨32-c,Z,Z,?_⟩;have hp1:2147483648<=x.toNat*2^(32-c):=by
  have h1:2^(c-1)*2^(32-c)=2147483648:=by rw[<-Ν,show c-1+(32-c)=31 by omega]
  rw[<-h1]; exact ő _ hb.2.1
 have hp2:(x.toNat+1)*2^(32-c)<=JH:=by
  have h1:2^c*2^(32-c)=JH:=by rw[<-Ν,show c+(32-c)=32 by omega]; rfl
  rw[<-h1]; exact ő _ hb.2.2
 have hpp:0<2^(32-c):=œ _;generalize 2^(32-c)=P at *;have hlo:JH^m*2147483648<=Pq b*P:=by
  rw[hv,Œ,ğ];have:=ĝ (JH^m) hp1;omega
 have hhi:Pq b*P<JH^(m+1):=by
  have h1:Pq b<JH^m*(x.toNat+1):=by rw[hv,Ŕ]; omega
  have h2:Pq b*P<JH^m*(x.toNat+1)*P:=azo h1 hpp;have h3:=ĝ (JH^m) hp2;rw[Ğ];rw[ğ]at h2;omega
 have hd:=L6 (Pq b*P);have hnd:=Na.gU (Pq b*P);generalize Pq b*P=V at *;generalize LZ V=l at *;have hB0:0<JH^m:=ayR Na.jX;have hll:l.length=m+1:=by
  have h1:=Na.length_le hnd (by rw[hd]; exact hhi);rcases ĳ l.length (m+1)with h | h
  .have h2:=Na.dV l;have h3:JH^l.length<=JH^m:=ĸ Na.jX Z;have h4:JH^m*1<=JH^m*2147483648:=ĝ _ Z;rw[hd]at h2;omega
  omega
 refine⟨hll,λh=>?_⟩;have h1:=Na.bT l m h;rw[<-hll,Ħ,hd]at h1;have h2:=Na.dV (l.take m);have h3:(l.take m).length=m:=by simp; omega
 rw[h3]at h2;rcases ĳ (l[m]).toNat 2147483648 with h4 | h4
 .have h5:JH^m*((l[m]).toNat+1)<=JH^m*2147483648:=ĝ _ h4;rw[Ŕ]at h5;omega
 exact h4
abbrev Xd{a b:List UInt32}(hb:Na.norm b)(h:Pq b<=Pq a):b.length<=a.length:=Na.length_le hb (ayQ h (Na.dV a))
abbrev aa6(a:List UInt32)(p:Nat)(hp:p<=31)(hn:Na.norm a):a.length<=(LZ (Pq a*2^p)).length∧(LZ (Pq a*2^p)).length<=a.length+1:=by
 have hv:=Na.dV a;have hP:0<2^p:=œ p;have hP2:2^p<=JH:=ï (ĸ Z (show p<=32 by omega)) (Ó _);constructor
 .rcases ĳ (LZ (Pq a*2^p)).length a.length with h | h
  .exfalso;have h1:=Na.dV (LZ (Pq a*2^p));rw[L6]at h1;have h2:=Na.DT hn Z;have h3:JH^(LZ (Pq a*2^p)).length<=JH^(a.length-1):=ĸ Na.jX Z;have h4:Pq a*1<=Pq a*2^p:=ĝ _ hP;omega
  exact h
 apply Na.dn;rw[Ğ];exact ā (azo hv hP) (ĝ _ hP2)
abbrev Tz(v u:À)(l m:List UInt32)(n:Nat)(w:Á)(hv:aF w v l)(hu:aF w u m)(hn:(LZ (Pq m)).length=n+2)(hge:Pq m<=Pq l)(hlen:l.length<=100000000)(hlen2:m.length<=100000000) :
  Ä prog 293 #[v,u] w λe w'=>∃q r,e = .R (.tuple #[q,r,.i 0])∧aF w' q (LZ (Pq l/Pq m))∧aF w' r (LZ (Pq l%Pq m))∧Ext w w':=by
 have C1:=Â (short_any v l w hv);have C2:=Â (short_any u m w hu);have hla:=bP l;have hlb:=bP m;have ea:=L6 (Pq l);have eb:=L6 (Pq m);have na:=Na.gU (Pq l);have nb:=Na.gU (Pq m);have hcv:=xW hge;rw[<-ea,<-eb]at hcv hge;rw[<-ea,<-eb];clear hv hu ea eb;generalize LZ (Pq l)=a at *;generalize LZ (Pq m)=b at *;obtain⟨p,hp,TA,hvl,hvt⟩:=aa5 b (n+1) hn nb;have at7:=(b[n+1]'Z).toNat_lt;have HGE:=Â hge;have HNA:=Â na;have HNB:=Â nb;have Ε:Hid ((LZ (Pq b*2^p)).length=n+2):=hvl;have HVT:=Â hvt;have HN:=Â hn;clear hge na nb hvl hvt;go_enter func293,ntmps293
 go_wp2_with fail
 refine C1.out.mono ?_;rintro e w' ⟨x,rfl,hx,rfl⟩;go_wp2_with fail
 refine C2.out.mono ?_;rintro e w' ⟨y,rfl,hy,rfl⟩;obtain⟨by1,oy,cy,hys,hby,hly,hmy,hcy⟩:=dH hy I Z;simp only[Ĉ]at hys;obtain⟨rfl,-,-⟩:=hys;have hct:=hcy (n+1) Z;clear hcy;go_wp2_with fail
 refine(BK _ _ a b _ hx (by rw[<-HN.out]; exact hy)).mono ?_;rintro e w1 ⟨rfl,hb1⟩;have aqu:w1.cell? ⟨by1,oy+(n+1),none⟩=some (aU (b[n+1]'Z)):=(hb1.cell (p:=⟨by1,oy+(n+1),none⟩) hby).trans hct;clear hct;generalize rD (Pq a) (Pq b)=c at hcv |-;generalize b[n+1]'Z=bt at *;have hn1:((n:Int)+2==1)=false:=by rw[ä]; omega
 go_wp2_with fail
 refine(bits_LeadingZeros32 (bt.toNat:Int) _ Z Z).mono ?_;rintro e w' ⟨rfl,rfl⟩;rw[ş,hp];clear hp;have hy1:=hy.below hb1;rw[HN.out]at hy1;have hx1:=hx.below hb1;go_wp2_with fail
 refine(Ai _ b p _ hy1 TA Z).mono ?_;rintro e w2 ⟨bv,rfl,hvv,hb2⟩;rw[Ε.out]at hvv |-;go_wp2_with fail
 refine(Ai _ a p _ (hx1.below hb2) TA Z).mono ?_;rintro e w3 ⟨bu,rfl,huu,hb3⟩;have SL:=aa6 a p TA HNA.out;have anG:=hvv.below hb3;have ak5:Ext w w3:=Ã hb1 (Ã hb2 hb3);have hVn:Pq (LZ (Pq b*2^p))=Pq b*2^p:=L6 _;have hUn:Pq (LZ (Pq a*2^p))=Pq a*2^p:=L6 _;generalize LZ (Pq b*2^p)=vs at *;generalize LZ (Pq a*2^p)=us at *;have HVn:=Â hVn;have HUn:=Â hUn;clear hVn hUn hvv hy hy1 hx hx1 aqu C1 C2;have r0:=lJ w3 (.int .u32 0) 119 I;have ru:=DL (huu.raw (λ_=>I)) (.cells #[.int .u32 0] 119);have h63:us.length+1<=maxLen:=by unfold maxLen; omega
 have hby:(us.length+1)*4<=140737488355328:=Z
 have b34:=aH w3 (.cells #[.int .u32 0] 119);have ak6:=anG.below b34;have anH:=Ã ak5 b34;clear huu anG hb1 hb2 hb3 b34;have hNa:¬((us.length:Int)+1<=(a.length:Int)):=Z
 go_wp2_with (at_builtin; refine y9 I _ _ _ I kL ru I r0 I O h63 hby ?_; intro uv w5 hown5 Xe; obtain⟨g,cap,rfl,hgb,hNc,hcm⟩:=jk hown5 (Nat.succ_pos _))
 refine wp_loop_rounds 1 ?_;rw[ϧ];have HO5:=Â hown5;have anI:=ak6.below Xe;have aqv:=Ã anH Xe;have hk0:vs.length<=us.length:=by
  have h1:=Ε.out;have h2:=HN.out;have h3:=Xd HNB.out HGE.out;omega
 clear hown5 ru r0 anH;obtain⟨K,hK⟩:∃K,us.length+1=K+(n+2):=⟨us.length+1-(n+2),by have h1:=Ε.out; omega⟩;have hKi:(us.length:Int)+1-((n:Int)+2)=(K:Int):=Z
 have HK:=Â hK;have hK1:K<=us.length:=Z
 have aqw:K<=maxLen:=by unfold maxLen; omega
 have aqx:4*K<=281474976710656:=Z
 clear hK;go_wp2_with (at_make; refine wpList_make_row I _ _ _ I kL I w5.heap.size K I I I aqx aqw (Ó _) ?_; intro w6 hown6 hg6)
 have ak7:=fU (ù w5.heap.size w5) hg6 (Ó _);have HO6:=Â hown6;have hg5:g<w5.heap.size:=(HO5.out.lt g I).2;have aqy:=anI.below ak7;clear hown6 hKi anI hNa aqy;obtain⟨bb,ob,cb,hvs,hbb,ak8,au3,anJ⟩:=dH ak6 Ε.out Z;simp only[Ĉ]at hvs;obtain⟨rfl,-,-⟩:=hvs;have hbw:w3.heap.size+1=(w3.alloc (.cells #[.int .u32 0] 119)).heap.size:=by simp
 have hg4:(w3.alloc (.cells #[.int .u32 0] 119)).heap.size<=g:=hgb;have anK:Ext w (w3.alloc (.cells #[.int .u32 0] 119)):=Ã ak5 (aH _ _);have ahL:Ext (w3.alloc (.cells #[.int .u32 0] 119)) w6:=Ã Xe ak7;have H5:Hid (w6.ownsRow (w3.alloc (.cells #[.int .u32 0] 119)).heap.size 119 1 (.s (some ⟨g,0,none⟩) (us.length+1) cap) (us.length+1) ((us++[0]).map aU)):=by
  have:=dO HO5.out ak7;unfold Hid;simpa[aU]using this
 clear ak6 HO5 Xe ak5 aqv hbw hgb;generalize w3.alloc (.cells #[.int .u32 0] 119)=w4 at *;have HC:=Â anJ;have Zd:JH^(n+1)<=Pq vs:=by
  have h0:n+1<vs.length:=by have:=Ε.out; omega
  have h1:=HVT.out h0;have h2:=Na.bT vs (n+1) h0;rw[Ĝ (by have:=Ε.out; omega)]at h2;have h3:JH^(n+1)*1<=JH^(n+1)*(vs[n+1]).toNat:=ĝ _ Z;omega
 have HVP:=Â Zd;clear Zd;clear anJ;go_loopw [13] (λi wr=>∃(k:Nat) (ut qd:List UInt32),k<=K∧i = .i ((k:Int)-1)∧ut.length=us.length+1∧k+qd.length=K∧Pq (ut.drop k)<Pq vs ∧
  Pq us=Pq ut+JH^k*(Pq vs*Pq qd) ∧
  wr.ownsRow w4.heap.size 119 1 (.s (some ⟨g,0,none⟩) (us.length+1) cap) (us.length+1) (ut.map aU) ∧
  wr.ownsRow w5.heap.size 119 1 (.s (some ⟨w5.heap.size,0,none⟩) K K) K ((List.replicate k 0++qd).map aU)∧Below w4.heap.size w4 wr) (λi _=>(intOf i+1).toNat)
 case atStart =>
  refine⟨K,us++[0],[],Ó _,I,by simp,by simp,?_,by simp[Na.val_append,Pq],H5.out,by simpa[aU]using HO6.out,ahL⟩;have h1:=HK.out;have h2:(us++[0]).drop K=us.drop K++[0]:=by rw[List.drop_append_of_le_length Z]
  rw[h2,Na.iY];have h3:=Na.dV (us.drop K);have h4:(us.drop K).length=n+1:=by simp; omega
  rw[h4]at h3;have h5:=HVP.out;simp; omega
 case round =>
  obtain⟨k,ut,qd,hk,rfl,aa7,hkq,hlt,hU,hou,hoq,hbel⟩:=hrel;have HOU:=Â hou;have HOQ:=Â hoq;have TB:=Â aa7;have HKQ:=Â hkq;have HU:=Â hU;clear hou hoq aa7 hkq hU;cases k with
  | zero =>
   have hqR:aF wr (.s (some ⟨w5.heap.size,0,none⟩) K K) qd:=by
    have h1:=HOQ.out;have h2:=HKQ.out;rw[Ĳ]at h2;rw[<-h2]at h1 |-;exact aS (l:=qd) h1
   have huR:aF wr (.s (some ⟨g,0,none⟩) (us.length+1) cap) ut:=by
    have h1:=HOU.out;have h2:=TB.out;rw[<-h2]at h1 |-;exact aS (l:=ut) h1
   have hE:=ahK HUn.out HVn.out (by have h1:=HU.out; rw[Nat.pow_zero,Nat.one_mul]at h1; exact h1) (by rw[aza]at hlt; exact hlt) (œ p);have HE:=Â hE;have ak9:ut.length<=1000000000:=by have h1:=TB.out; omega
   clear hE;go_wp2_with fail
   refine(short_any _ qd _ hqR).mono ?_;rintro e w' ⟨q',rfl,hq',rfl⟩;go_wp2_with fail
   refine(Ld _ ut p _ huR TA ak9).mono ?_;rintro e w9 ⟨r',rfl,hr',hb9⟩;go_wp2_with fail
   go_ret3
   have hq9:=hq'.below hb9;rw[HE.out.1]at hq9;rw[HE.out.2]at hr';rw[HE.out.1];exact⟨_,_,I,hq9,hr',Ã anK (hbel.trans (hb9.mono hbel.size))⟩
  | succ j =>
   have hi:(((j+1:Nat):Int)-1)=(j:Int):=Z
   rw[hi];clear hi;have hjc:j<cap:=Z
   have hKK:=HK.out;have hpc:j+(n+2)+1<=cap:=Z
   have hpl:j+(n+2)+1-j=n+3:=Z
   have anL:j+n+3<=ut.length:=by have:=TB.out; omega
   obtain⟨hf1,hf2,hf3,hf4,⟨L,hL1,hL2⟩,⟨M,hM1,hM2⟩⟩:=Xb vs ut n j Ε.out anL hlt;have hjN:∀i (h:i<ut.length),wr.cell? ⟨g,i,none⟩=some (aU ut[i]):=λi h=>by
    rw[HOU.out.cellAt i (by have:=TB.out; omega),List.getElem?_map,List.getElem?_eq_getElem h,Ę]
   have hvv:∀i (h:i<vs.length),wr.cell? ⟨bb,ob+i,none⟩=some (aU vs[i]):=λi h=>by
    rw[hbel.cell (p:=⟨bb,ob+i,none⟩) hbb]; exact HC.out i h
   have i2:j+(n+2)<ut.length:=Z
   have i1:j+(n+1)<ut.length:=Z
   have i0:j+n<ut.length:=Z
   have v1:n+1<vs.length:=by have:=Ε.out; omega
   have v0:n<vs.length:=Z
   have ajf:=HVT.out v1;have hn9:n<=1000000000:=Z
   have hg:=aa3 g j (cap-j) bb ob (n+2) n _ _ _ _ _ wr hn9 (ut[j+(n+2)]'i2).toNat_lt (ut[j+(n+1)]'i1).toNat_lt (ut[j+n]'i0).toNat_lt
    (vs[n+1]'v1).toNat_lt (vs[n]'v0).toNat_lt ajf hf4 (hjN _ i2) (hjN _ i1) (hjN _ i0) (hvv _ v1) (hvv _ v0)
   have Zd:0<(vs[n+1]'v1).toNat:=ā O ajf;have ajg:=λq h1 h2 h3=>ZN (q:=q) hL2 hL1 hM2 hM1 Zd (ut[j+n]'i0).toNat_lt h1 hf3 h2 h3;have HG:=Â hg;have HGL:=Â ajg;have HF1:=Â hf1;have HF2:=Â hf2;have HF3:=Â hf3;clear hKK hf1 hf2 hf3 hf4 hL1 hL2 hM1 hM2 hjN hvv hg ajg;go_wp2_with fail
   refine HG.out.mono ?_;rintro e w7 ⟨q,rfl,hqB,hq1,hq2,hb7⟩;have hq:=HGL.out q hqB hq1 hq2;have HQ:=Â hq;clear HG HGL hq1 hq2 hq;have aqz:=Â (dO HOU.out hb7);have aqA:=Â (dO HOQ.out hb7);have anM:Below w4.heap.size w4 w7:=hbel.trans (hb7.mono hbel.size);go_wp2_with fail
   refine(take_any g j (n+2) (us.length+1) (cap-j) cap ut vs bb ob (n+2) q w4 w7 Ε.out TB.out (by have:=TB.out; omega) Z hqB HC.out hbb aqz.out anM).mono ?_;rintro e w8 ⟨neg,ws,rfl,hturn,hval,ajh,aji,aqB⟩;have HT:=Â hturn;have HV8:=Â hval;have HO8:=Â ajh;have HQ8:=Â (aqA.out.kept aqB (by right; simp[Value.ownBlock]; omega));clear hturn hval ajh;have ahM:0<Pq vs:=ā (ayR Na.jX) HVP.out;have hsl:seg ut j (n+2+1)=seg ut j (n+3):=I;have Ű:Pq (seg ws j (n+2+1))<JH^(n+2+1):=by
    have h1:=Na.dV (seg ws j (n+2+1));rw[seg_length _ _ _ (by have:=HT.out.1; have:=TB.out; omega)]at h1; exact h1
   have hv8:=HV8.out;rw[hsl,HF1.out]at hv8;have hstep:=acz neg ahM HQ.out.1 HQ.out.2 Ű hv8;have HS:=Â hstep;have HX8:=Â Ű;have hdz:Pq (ut.drop (j+(n+2+1)))=0:=HF2.out;have HDZ:=Â hdz;obtain⟨⟨cv,hcell⟩,hfz⟩:=qh HQ8.out j Z;have hqi:(q:Int)%4294967296=q:=Z
   clear hsl Ű hv8 hstep hdz anL;have anN:w4.heap.size<=w5.heap.size:=Z
   have heq:aU (UInt32.ofNat q) = .int .u32 (q:Int):=by simp only[aU,bJ hqB]
   have HEQ:=Â heq;clear heq;cases neg with
   | false =>
    have HS1:=Â (HS.out.1 I);clear HS;go_wp2_with fail
    go_roundw
    case rel =>
     obtain⟨hxm,Xf⟩:=HS1.out;have hst:=HQ8.out.stored j (.int .u32 (q:Int));rw[<-HEQ.out,ĥ,ay5,Gl,HEQ.out]at hst;have hdrop:=EY HT.out (by have:=TB.out; omega) HDZ.out;rw[hxm]at hdrop;refine⟨j,ws,UInt32.ofNat q::qd,Z,I,HT.out.1.trans TB.out,by have:=HKQ.out; simp; omega,by rw[hdrop]; exact Ň _ ahM,?_,?_,?_,?_⟩
     .have:=aeK HU.out HT.out.1 (by have:=TB.out; omega) HT.out.2.1 hdrop Xf;simp only[Pq,bJ hqB]; exact this
     .exact HO8.out.kept hst.2 (by right; simp[Value.ownBlock]; omega)
     .have h1:=hst.1;rw[<-HEQ.out]at h1 |-;rw[ĥ,ay5,Ē];exact h1
     exact aji.setCell (p:=⟨w5.heap.size,j,none⟩) anN _
    case measure=>simp[intOf]
   | true =>
    have HS1:=Â (HS.out.2 I);have hq1:=HS1.out.1;have hqm:(1:Int)<=q:=Z
    clear HS hcell hfz;go_wp2_with fail
    go_loopw [16,105] (λcv iv wr=>∃(i c:Nat) (wt:List UInt32),i<=n+2∧iv = .i i∧cv = .int .u64 c∧c<=1∧Turned ws wt j i ∧
     Pq (seg wt j i)+JH^i*c=Pq (seg ws j i)+Pq (vs.take i) ∧
     wr.ownsRow w4.heap.size 119 1 (.s (some ⟨g,0,none⟩) (us.length+1) cap) (us.length+1) (wt.map aU)∧w8.grownBy wr (some g)∧Below w4.heap.size w4 wr) (λ_ iv _=>n+2-(intOf iv).toNat)
    case atStart=>exact⟨0,0,ws,Z,I,I,Z,Turned.refl _ _ _,by simp[seg,Pq],HO8.out,Js _ _,aji⟩
    case round =>
     obtain⟨i,c,wt,hi,rfl,rfl,hc,htu,hval,hown,hgr,hbl⟩:=hrel;have HT9:=Â htu;have HV9:=Â hval;have HO9:=Â hown;clear htu hval hown;by_cases hlt2:i<n+2
     .have SL:j+i<ws.length:=by have ala:=HT.out.1; have aa7:=TB.out; omega
      have hu:wr.cell? ⟨g,j+i,none⟩=some (aU (ws[j+i]'SL)):=by
       rw[HO9.out.cellAt (j+i) (by have ala:=HT.out.1; have aa7:=TB.out; omega),List.getElem?_map,List.getElem?_eq_getElem (by have hwl:=HT9.out.1; omega),Ę,HT9.out.get SL]
      have hfz:=HO9.out.frozenAt (j+i);have HU9:=Â (jW ws j i SL);have alb:j+i<wt.length:=by have hwl:=HT9.out.1; omega
      generalize ws[j+i]'SL=U at hu HU9;have g2:=U.toNat_lt;have u0:=fA U;have hyl:i<vs.length:=by have:=Ε.out; omega
      have hy:wr.cell? ⟨bb,ob+i,none⟩=some (aU vs[i]):=by rw[hbl.cell (p:=⟨bb,ob+i,none⟩) hbb]; exact HC.out i hyl
      have HY:=Â (Na.bT vs i hyl);generalize vs[i]=y at hy HY;have g1:=y.toNat_lt;have y0:=fA y;go_wp2_with fail
      go_roundw
      case rel =>
       obtain⟨z1,z2,z3,z4⟩:=aeL c U.toNat y.toNat hc g2 g1;have hst:=HO9.out.stored (j+i) (.int .u32 (((c+(U.toNat+y.toNat))%JH:Nat):Int));have ez:aU (UInt32.ofNat ((c+(U.toNat+y.toNat))%JH)) = .int .u32 (((c+(U.toNat+y.toNat))%JH:Nat):Int):=by simp only[aU,bJ z3]
       rw[<-ez,<-Š,ez]at hst;rw[z1,z2];refine⟨i+1,(c+(U.toNat+y.toNat))/JH,wt.set (j+i) (UInt32.ofNat ((c+(U.toNat+y.toNat))%JH)),Z,by go_num,I,z4,HT9.out.set _,?_,hst.1,xU hgr hst.2,hbl.setCell (p:=⟨g,j+i,none⟩) hg4 _⟩;rw[rZ _ _ _ _ alb,HU9.out,HY.out,bJ z3,Ğ];exact aa4 (JH^i) HV9.out
      case measure=>simp[intOf]; omega
     obtain rfl:i=n+2:=by omega
     have SL:j+(n+2)<ws.length:=by have ala:=HT.out.1; have aa7:=TB.out; omega
     have hu:wr.cell? ⟨g,j+(n+2),none⟩=some (aU (ws[j+(n+2)]'SL)):=by
      rw[HO9.out.cellAt (j+(n+2)) (by have ala:=HT.out.1; have aa7:=TB.out; omega),List.getElem?_map,List.getElem?_eq_getElem (by have hwl:=HT9.out.1; omega),Ę,HT9.out.get SL]
     have hfz:=HO9.out.frozenAt (j+(n+2));have HU9:=Â (jW ws j (n+2) SL);have alb:j+(n+2)<wt.length:=by have hwl:=HT9.out.1; omega
     generalize ws[j+(n+2)]'SL=U at hu HU9;have g2:=U.toNat_lt;have u0:=fA U;have HQ9:=Â (HQ8.out.kept hgr (by right; simp[Value.ownBlock]; omega));obtain⟨⟨cv,hcell⟩,au4⟩:=qh HQ9.out j Z;have au5:(c:Int)%4294967296=c:=Z
     have au6:((q:Int)-1)%4294967296=(q:Int)-1:=Z
     have au7:g≠w5.heap.size:=Z
     go_wp2_with fail
     go_roundw
     case rel =>
      obtain⟨hq1',Xf,hxV⟩:=HS1.out;have hzb:(U.toNat+c)%JH<4294967296:=Ň _ O;have ez:aU (UInt32.ofNat ((U.toNat+c)%JH)) = .int .u32 (((U.toNat:Int)+(c:Int))%4294967296):=by
       simp only[aU,bJ hzb]; simp[JH]
      have eq':aU (UInt32.ofNat (q-1)) = .int .u32 ((q:Int)-1):=by
       simp only[aU,bJ (show q-1<4294967296 by omega)]; congr 1; omega
      have hst:=HO9.out.stored (j+(n+2)) (.int .u32 (((U.toNat:Int)+(c:Int))%4294967296));rw[<-ez,<-Š,ez]at hst;have hq9:=HQ9.out.kept hst.2 (by right; simp[Value.ownBlock]; omega);have hst2:=hq9.stored j (.int .u32 ((q:Int)-1));rw[<-eq',ĥ,ay5,Gl,eq']at hst2;have htt:=HT.out.trans (HT9.out.set (UInt32.ofNat ((U.toNat+c)%JH)));have hdrop:=EY htt (by have:=TB.out; omega) HDZ.out;have hvt:=HV9.out;rw[Ĝ (by have:=Ε.out; omega)]at hvt;have hA:=Na.dV (seg wt j (n+2));rw[seg_length _ _ _ Z]at hA;have anO:=Na.dV vs;rw[Ε.out]at anO;have hR:Pq (ut.drop j)%Pq vs<JH^(n+2):=Nat.lt_trans (Ň _ ahM) anO;rw[Ğ]at hxV;have hlast:=aeM hvt HU9.out hxV hA hR g2 hc;rw[rZ _ _ _ _ alb,bJ hzb,hlast]at hdrop;refine⟨j,wt.set (j+(n+2)) (UInt32.ofNat ((U.toNat+c)%JH)),UInt32.ofNat (q-1)::qd,Z,I,htt.1.trans TB.out,by have:=HKQ.out; simp; omega,by rw[hdrop]; exact Ň _ ahM,?_,?_,?_,?_⟩
      .have:=aeK HU.out htt.1 (by have:=TB.out; omega) htt.2.1 hdrop Xf;simp only[Pq,bJ (show q-1<4294967296 by omega)]; exact this
      .exact hst.1.kept hst2.2 (by right; simp[Value.ownBlock]; omega)
      .have h1:=hst2.1;rw[<-eq']at h1 |-;rw[ĥ,ay5,Ē];exact h1
      exact(hbl.setCell (p:=⟨g,j+(n+2),none⟩) hg4 _).setCell (p:=⟨w5.heap.size,j,none⟩) anN _
     case measure=>simp[intOf]
abbrev Ju(v u:À)(l m:List UInt32)(w:Á)(hv:aF w v l)(hu:aF w u m)(hm:0<Pq m)(hlen:l.length<=100000000)(hlen2:m.length<=100000000) :
  Ä prog 293 #[v,u] w λe w'=>∃q r,e = .R (.tuple #[q,r,.i 0])∧aF w' q (LZ (Pq l/Pq m))∧aF w' r (LZ (Pq l%Pq m))∧Ext w w':=by
 rcases ĳ (Pq l) (Pq m)with h | h
 .refine(Tv v u l m w hv hu h Z).mono ?_;rintro e w' ⟨r,rfl,hr,hb⟩;rw[ay2 h,ϗ h];exact⟨_,r,I,by rw[kV.2 I]; exact Gi _,hr,hb⟩
 rcases hd:LZ (Pq m)with _ | ⟨d,_ | ⟨d2,t⟩⟩
 .exact absurd (kV.1 hd) Z
 .exact Xc v u l m d w hv hu hd h Z
 exact Tz v u l m t.length w hv hu (by rw[hd]; simp) h hlen hlen2
abbrev Pn{f:α->À}(hf:∀x y,f x=f y->x=y){w:Á}{v:À}{l l':List α}(h:dJ f w v l)(h':dJ f w v l'):l=l':=by
 obtain⟨a,cap,rfl,_,h⟩:=h;obtain⟨a',cap',hv,_,h'⟩:=h';simp only[Ĉ]at hv;obtain⟨rfl,hl,rfl⟩:=hv;apply List.ext_getElem hl;intro i h1 h2;rcases h with ⟨rfl,_⟩ | ⟨b,o,rfl,_,_,hc⟩
 .simp at h1
 rcases h' with ⟨rfl,_⟩ | ⟨b',o',ha,_,_,hc'⟩
 .simp at h2
 simp only[Ò,Ÿ,and_true]at ha;obtain⟨rfl,rfl⟩:=ha;have e:=(hc i h1).symm.trans (hc' i h2);exact hf _ _ (Ü e)
abbrev aeO(x y:UInt32)(h:aU x=aU y):x=y:=by
 simp only[aU,Value.int.injEq,true_and]at h;exact ř.1 Z
open Classical in
noncomputable def valOf(w:Á)(v:À):Nat:=if h:∃l,aF w v l then Pq h.choose else 0
abbrev BL{w:Á}{v:À}{l:List UInt32}(h:aF w v l):valOf w v=Pq l:=by
 have h1:∃l,aF w v l:=⟨l,h⟩;unfold valOf;rw[dif_pos h1,Pn aeO h1.choose_spec h]
abbrev fF{a b:Nat}(h:a<=b):(LZ a).length<=(LZ b).length:=
 Na.length_le (Na.gU a) (by have:=Na.dV (LZ b); rw[L6]at this |-; omega)
abbrev ahN(v u:À)(l m:List UInt32)(w:Á)(hv:aF w v l)(hu:aF w u m)(hlen:l.length<=100000000)(hlen2:m.length<=100000000) :
  Ä prog 291 #[v,u] w λe w'=>∃g,e = .R g∧aF w' g (LZ (Nat.gcd (Pq l) (Pq m)))∧Ext w w':=by
 have C1:=Â (pF v l w hv Z);have hla:=bP l;have hlb:=bP m;go_enter func291,ntmps291
 go_wp2_with fail
 refine C1.out.mono ?_;rintro e w1 ⟨x,rfl,hx,hb1⟩;have hx:=aS hx;go_wp2_with fail
 refine(pF u m w1 (hu.below hb1) Z).mono ?_;rintro e w2 ⟨y,rfl,hy,hb2⟩;have hy:=aS hy;have hx2:=hx.below hb2;have ajH:=Ã hb1 hb2;clear hx C1 hv hu;have HX:=Â hx2;have HY:=Â hy;clear hx2 hy;go_wp2_with fail
 go_loopw [0,1] (λx y wr=>∃(A B:Nat),aF wr x (LZ A)∧aF wr y (LZ B)∧Nat.gcd A B=Nat.gcd (Pq l) (Pq m)∧(LZ A).length<=100000000∧(LZ B).length<=100000000∧Ext w wr) (λ_ y wr=>valOf wr y)
 case atStart=>exact⟨(Pq l),(Pq m),HX.out,HY.out,I,Z,Z,ajH⟩
 case round =>
  obtain⟨A,B,hx,hy,hg,hlA,hlB,hbel⟩:=hrel;have HM:=Â (BL hy);have HG:=Â hg;have HX:=Â hx;have HY:=Â hy;clear hg hx hy;obtain⟨ay,cy,rfl⟩:=HY.out.shape;rcases ę B with rfl | hB
  .have h0:((LZ 0).length:Int)=0:=by rw[kV.2 I]; rfl
   go_wp2_with fail
   go_ret
   refine⟨_,I,?_,hbel⟩;rw[<-HG.out,Nat.gcd_zero_right];exact HX.out
  have h0:(0:Int)<((LZ B).length:Int):=by
   have:(LZ B).length≠0:=λh=>by have:=oO h; omega
   omega
  have hD:=Ju _ _ _ _ wr HX.out HY.out (by rw[L6]; exact hB) hlA hlB;rw[L6,L6]at hD;have HD:=Â hD;clear hD;go_wp2_with fail
  refine HD.out.mono ?_;rintro e w' ⟨q,r,rfl,hq,hr,hb⟩;have HR:=Â hr;have HY':=Â (HY.out.below hb);clear hq hr;go_wp2_with fail
  go_roundw
  case rel => 
   refine⟨B,A%B,HY'.out,HR.out,?_,hlB,?_,Ã hbel hb⟩
   .rw[<-HG.out,Nat.gcd_comm A B,Nat.gcd_rec B A,Nat.gcd_comm]
   .exact ï (fF (ϙ (Ň A hB))) hlB
  case measure =>
   rw[BL HR.out,HM.out,L6,L6];exact Ň _ hB
end Go.Proofs.Pv
namespace Go.Proofs.Pv
open Go.RowKit Na Go.Rel
variable{α:Type}
def aK(base:Nat)(w:Á)(v:À)(neg:Bool)(n:Nat):Prop:=∃s,v = .agg #[.b neg,s]∧aF w s (LZ n)∧From base s
abbrev aK.ext{base:Nat}{w w':Á}{v:À}{neg:Bool}{n:Nat}(h:aK base w v neg n)(hb:Ext w w'):aK base w' v neg n:=by
 obtain⟨s,hv,hs,hf⟩:=h; exact⟨s,hv,hs.below hb,hf⟩
abbrev aK.mono{base base':Nat}{w:Á}{v:À}{neg:Bool}{n:Nat}(h:aK base w v neg n)(hb:base'<=base):aK base' w v neg n:=by
 obtain⟨s,hv,hs,hf⟩:=h; exact⟨s,hv,hs,hf.mono hb⟩
abbrev mY(neg:Bool)(v:À)(l:List UInt32)(w:Á)(hv:aF w v l)(hlen:l.length<=1000000000) :
  Ä prog 284 #[.b neg,v] w λe w'=>∃x,e = .R x∧aK w.heap.size w' x (neg&&decide (0<Pq l)) (Pq l)∧Ext w w':=by
 have hb1:=aH w (.cells #[.z,.sn] 24);have HC:=Â (pF v l _ (hv.below hb1) hlen);have hpos:Hid (decide ((0:Int)<((LZ (Pq l)).length:Int))=decide (0<Pq l)):=by
  show _=_;rw[ay6];constructor
  .intro h;rcases ę (Pq l)with h0 | h0
   .rw[h0,jF]at h; simp at h
   exact h0
  intro h;have:(LZ (Pq l)).length≠0:=λh'=>by
   have:=kV.1 (Ŝ h'); omega
  omega
 rcases azh neg with rfl | rfl;all_goals
  go_enter func284,ntmps284
  go_wp2_with fail
  refine HC.out.mono ?_
  rintro e w1 ⟨v',rfl,ho,hb2⟩
  have hrow:=aS ho
  have hoff:=QB ho
  obtain⟨hc,hf,hz⟩:=iW hb2
  have hb0:=Ã hb1 hb2
  have HB:=Â hb0
  have HR:=Â hrow
  have HO:=Â hoff
  obtain⟨a,cap,rfl⟩:=HR.out.shape
  clear HC ho hrow hb2 hb1 hb0 hoff
  go_wp2_with fail
 .refine bodyPost_ret (v := .agg #[.b ((0:Int)<((LZ (Pq l)).length:Int)),.s a (LZ (Pq l)).length cap]) (by simp[results,results284,go_sem,hc]) I ⟨_,I,⟨_,by rw[ļ,hpos.out],?_⟩,?_⟩
  .exact⟨HR.out.ch (((Ch.refl _ _).setCell _ _).setCell _ _) (λ_=>HO.out.off Y),HO.out.mono Y⟩
  exact(HB.out.setCell (p:=⟨w.heap.size,0,none⟩) (Ó _) _).setCell (p:=⟨w.heap.size,1,none⟩) (Ó _) _
 refine bodyPost_ret (v := .agg #[.z,.s a (LZ (Pq l)).length cap]) (by simp[results,results284,go_sem,hc]) I ⟨_,I,⟨_,by rw[ŕ],?_⟩,?_⟩
 .exact⟨HR.out.ch (((Ch.refl _ _).setCell _ _).setCell _ _) (λ_=>HO.out.off Y),HO.out.mono Y⟩
 exact(HB.out.setCell (p:=⟨w.heap.size,0,none⟩) (Ó _) _).setCell (p:=⟨w.heap.size,1,none⟩) (Ó _) _
def qc(neg:Bool)(n:Nat):Int:=if n=0 then 0 else if neg then -1 else 1
abbrev nN(neg:Bool)(s:À)(l:List UInt32)(w:Á)(hv:aF w s l)(hlen:l.length<=100000000) :
  Ä prog 257 #[.agg #[.b neg,s]] w (RF w (.i (qc neg (Pq l)))):=by
 have hb1:=aH w (.cells #[.b neg,s] 24);have HC:=Â (Ht s l _ (hv.below hb1) Z);have HB:=Â hb1;obtain⟨a,cap,rfl⟩:=hv.shape;clear hv hb1;by_cases h0:Pq l=0
 .have hbl:((bl (Pq l):Int)==0)=true:=by rw[h0]; rfl
  have hs:Hid (qc neg (Pq l)=0):=by show _=_; unfold qc; rw[Ï h0]
  clear h0;go_enter func257,ntmps257
  go_wp2_with fail
  refine HC.out.mono ?_;rintro e w' ⟨rfl,rfl⟩;go_wp2_with fail
  go_ret
  exact⟨by rw[hs.out]; rfl,HB.out⟩
 have hbl:((bl (Pq l):Int)==0)=false:=by
  rw[ä];intro h;have h1:bl (Pq l)=0:=Z
  unfold bl at h1; rw[É h0]at h1; omega
 have hs0:Hid (∀neg,qc neg (Pq l)=if neg then -1 else 1):=λneg=>É h0;clear h0;rcases azh neg with rfl | rfl;all_goals
  go_enter func257,ntmps257
  go_wp2_with fail
  refine HC.out.mono ?_
  rintro e w' ⟨rfl,rfl⟩
  go_wp2_with fail
  go_ret
  exact⟨by rw[hs0.out]; rfl,HB.out⟩
abbrev EZ(neg:Bool)(s gv:À)(l m:List UInt32)(gb:Nat)(w:Á)(hv:aF w s l)(hlen:l.length<=100000000)(hg:w.cell? ⟨gb,0,none⟩=some gv)(hgv:aF w gv m)(hm:0<Pq m)(hlen2:m.length<=100000000) :
  Ä prog 292 #[.agg #[.b neg,s],.q gb 0] w λe w'=>∃q,e = .R q∧aF w' q (LZ (Pq l/Pq m))∧Ext w w':=by
 have hb1:=aH w (.cells #[.b neg,s] 24);have HC:=Â (Ju s gv l m _ (hv.below hb1) (hgv.below hb1) hm hlen hlen2);have hlt:=World.block_lt_of_cell? w _ hg;simp only at hlt;have HB:=Â hb1;obtain⟨a,cap,rfl⟩:=hv.shape;obtain⟨a2,cap2,rfl⟩:=hgv.shape;clear hv hb1 hgv;go_enter func292,ntmps292
 go_wp2_with fail
 refine HC.out.mono ?_;rintro e w' ⟨q,r,rfl,hq,hr,hb⟩;have HQ:=Â hq;clear hq hr;go_wp2_with fail
 go_ret
 exact⟨_,I,HQ.out,Ã HB.out hb⟩
attribute [local go_sem] Go.Rel.Does Go.Rel.Upon Go.Rel.kept Go.Rel.valOf
abbrev aeP(a b:Bool)(n m:Nat):IntKind.i64.wrap (qc a n*qc b m)=qc a n*qc b m:=by
 have h:∀a n,qc a n=0∨qc a n=1∨qc a n = -1:=by
  intro a n; unfold qc; split
  .simp
  cases a<;>simp
 rw[Ř];rcases h a n with h1 | h1 | h1<;>rcases h b m with h2 | h2 | h2<;>rw[h1,h2]<;>decide
def au(base:Nat)(w:Á)(v:À)(neg:Bool)(a b:Nat):Prop:=∃s t,v = .agg #[.b neg,s,.z,t]∧aF w s (LZ a)∧aF w t (LZ b)∧From base s∧From base t
abbrev au.ext{base:Nat}{w w':Á}{v:À}{neg:Bool}{a b:Nat}(h:au base w v neg a b)(hb:Ext w w'):au base w' v neg a b:=by
 obtain⟨s,t,hv,hs,ht,hf⟩:=h; exact⟨s,t,hv,hs.below hb,ht.below hb,hf⟩
abbrev au.mono{base base':Nat}{w:Á}{v:À}{neg:Bool}{a b:Nat}(h:au base w v neg a b)(hb:base'<=base):au base' w v neg a b:=by
 obtain⟨s,t,hv,hs,ht,hf,hg⟩:=h; exact⟨s,t,hv,hs,ht,hf.mono hb,hg.mono hb⟩
abbrev ahO{base:Nat}{w:Á}{x y:À}{n1:Bool}{a b:Nat}(hx:aK base w x n1 a)(hy:aK base w y false b) :
  ∃a1 c1 a2 c2,x = .agg #[.b n1,.s a1 (LZ a).length c1]∧y = .agg #[.z,.s a2 (LZ b).length c2] ∧
   au base w (.agg #[.b n1,.s a1 (LZ a).length c1,.z,.s a2 (LZ b).length c2]) n1 a b:=by
 obtain⟨s,rfl,hs,f1⟩:=hx;obtain⟨t,rfl,ht,f2⟩:=hy;obtain⟨a1,c1,rfl⟩:=hs.shape;obtain⟨a2,c2,rfl⟩:=ht.shape;exact⟨a1,c1,a2,c2,I,I,_,_,I,hs,ht,f1,f2⟩
def kZ(n1 n2:Bool)(a b:Nat):Bool:=decide (qc n1 a*qc n2 b<0)&&decide (0<a/Nat.gcd a b)
abbrev Jv(n1 n2:Bool)(s1 s2:À)(l m:List UInt32)(w:Á)(h1:aF w s1 l)(h2:aF w s2 m)(hm:0<Pq m)(hl1:l.length<=100000000)(hl2:m.length<=100000000) :
  Ä prog 258 #[.agg #[.b n1,s1],.agg #[.b n2,s2]] w λe w'=>∃x,e = .R x ∧
   au w.heap.size w' x (kZ n1 n2 (Pq l) (Pq m)) (Pq l/Nat.gcd (Pq l) (Pq m)) (Pq m/Nat.gcd (Pq l) (Pq m))∧Ext w w':=by
 obtain⟨ng,hng⟩:∃x,kZ n1 n2 (Pq l) (Pq m)=x:=⟨_,I⟩;rw[hng];unfold kZ at hng;have HNG:=Â hng;clear hng;obtain⟨a1,c1,rfl⟩:=h1.shape;obtain⟨a2,c2,rfl⟩:=h2.shape;have H1:=Â h1;have H2:=Â h2;clear h1 h2;go_enter func258,ntmps258
 go_wp2_with fail
 have HB0:=Â (((aH w (.cells #[.b n1,.s a1 l.length c1] 24)).alloc Y (.cells #[.b n2,.s a2 m.length c2] 24)).alloc (by simp; omega) (.cells #[.z,.sn,.z,.sn] 26));refine(ahN _ _ _ _ _ (H1.out.below HB0.out) (H2.out.below HB0.out) hl1 hl2).mono ?_;rintro e w1 ⟨g,rfl,hg,hb1⟩;have HG:=Â hg;obtain⟨ag,cg,hgs⟩:=hg.shape;rw[hgs]at HG;clear hg;have HB1:=Â (Ã HB0.out hb1);go_wp2_with fail
 obtain⟨W,hW⟩:∃W,W=w1.alloc (.cells #[.s ag (LZ ((Pq l).gcd (Pq m))).length cg] 22):=⟨_,I⟩;rw[<-hW];have hWb:Ext w1 W:=by rw[hW]; exact aH _ _
 have hk:∀w',Ext W w'->w'.cell? ⟨w.heap.size,0,none⟩=some (.b n1)∧w'.cell? ⟨w.heap.size,1,none⟩=some (.s a1 l.length c1)∧w'.cell? ⟨w.heap.size+1,0,none⟩=some (.b n2) ∧
   w'.cell? ⟨w.heap.size+1,1,none⟩=some (.s a2 m.length c2)∧w'.cell? ⟨w1.heap.size,0,none⟩=some (.s ag (LZ ((Pq l).gcd (Pq m))).length cg):=by
  intro w' hw'
  have hsz:=hb1.size
  simp only[ayX]at hsz
  have hw1:=Ã hWb hw'
  refine⟨?_,?_,?_,?_,?_⟩
  .rw[hw1.cell (p:=⟨w.heap.size,0,none⟩) (by simp; omega),hb1.cell (p:=⟨w.heap.size,0,none⟩) (by simp; omega)]; simp[go_sem]
  .rw[hw1.cell (p:=⟨w.heap.size,1,none⟩) (by simp; omega),hb1.cell (p:=⟨w.heap.size,1,none⟩) (by simp; omega)]; simp[go_sem]
  .rw[hw1.cell (p:=⟨w.heap.size+1,0,none⟩) (by simp; omega),hb1.cell (p:=⟨w.heap.size+1,0,none⟩) Y]; simp[go_sem]
  .rw[hw1.cell (p:=⟨w.heap.size+1,1,none⟩) (by simp; omega),hb1.cell (p:=⟨w.heap.size+1,1,none⟩) Y]; simp[go_sem]
  .rw[hw'.cell (p:=⟨w1.heap.size,0,none⟩) (by rw[hW]; simp),hW]; simp[go_sem]
 have HK:=Â hk;have HW:=Â (Ã HB1.out hWb);have HG':=Â (HG.out.below hWb);have hG:0<Nat.gcd (Pq l) (Pq m):=ay8 _ hm;have hGl:(LZ ((Pq l).gcd (Pq m))).length<=100000000:=ï (fF (Nat.gcd_le_right _ hm)) (by have:=bP m; omega);have hvG:=L6 ((Pq l).gcd (Pq m));have hfin:W.heap.size<=W.heap.size:=Ó _;have hres:Hid (∀w',Ext W w'->(∀i,i<4->∃u,w'.cell? ⟨w.heap.size+1+1,i,none⟩=some u∧w'.frozen? ⟨w.heap.size+1+1,i,none⟩=false)∧w.heap.size+1+1<w'.heap.size):=by
  intro w' hw';have hsz:=hb1.size;simp only[ayX]at hsz;have hw1:=Ã hWb hw';have:=hw1.size;refine⟨λi hi=>?_,Z⟩;rw[hw1.cell (p:=⟨w.heap.size+1+1,i,none⟩) (by simp; omega),hb1.cell (p:=⟨w.heap.size+1+1,i,none⟩) Y,hw1.frozen (p:=⟨w.heap.size+1+1,i,none⟩) (by simp; omega),hb1.frozen (p:=⟨w.heap.size+1+1,i,none⟩) Y];rcases i with _ | _ | _ | _ | i
  .exact⟨.z,by simp[go_sem],by simp[go_sem]⟩
  .exact⟨.sn,by simp[go_sem],by simp[go_sem]⟩
  .exact⟨.z,by simp[go_sem],by simp[go_sem]⟩
  .exact⟨.sn,by simp[go_sem],by simp[go_sem]⟩
  omega
 clear hW HB0 hb1 HB1 hk hgs hWb;refine Go.Rel.wp_region 15 X X Ext (λw'=>Ext W w')
  [Rel.is (.agg #[.b n1,.s a1 l.length c1]),Rel.is (.i (qc n1 (Pq l))),Rel.is (.agg #[.b n2,.s a2 m.length c2]),Rel.is (.i (qc n2 (Pq m))),
   Rel.is (.i (qc n1 (Pq l)*qc n2 (Pq m))),Rel.is (.b (qc n1 (Pq l)*qc n2 (Pq m)<0)),Rel.is (.func (.func 292) #[] #[.q w1.heap.size 0]),
   Rel.is (.agg #[.b n1,.s a1 l.length c1]),λv w'=>aF w' v (LZ (Pq l/Nat.gcd (Pq l) (Pq m))),
   λv w'=>aK (w.heap.size+1+1+1) w' v ng (Pq l/Nat.gcd (Pq l) (Pq m)),
   Rel.is (.func (.func 292) #[] #[.q w1.heap.size 0]),Rel.is (.agg #[.b n2,.s a2 m.length c2]),
   λv w'=>aF w' v (LZ (Pq m/Nat.gcd (Pq l) (Pq m))),λv w'=>aK (w.heap.size+1+1+1) w' v false (Pq m/Nat.gcd (Pq l) (Pq m)),
   λv w'=>au (w.heap.size+1+1+1) w' v ng (Pq l/Nat.gcd (Pq l) (Pq m)) (Pq m/Nat.gcd (Pq l) (Pq m))]
  ?_ ?_ ?_ ⟨?_,?_,?_,?_,?_,?_,?_,?_,?_,?_,?_,?_,?_,?_,?_,G⟩ ?_
 .exact below_drewN (ù _ _) 1
 .exact λ_ _ h k=>Ã h k
 .exact EF.mem ⟨aB _,aB _,aB _,aB _,aB _,aB _,aB _,aB _,λ_ _ _ h k=>k.below h,λ_ _ _ h k=>k.ext h,aB _,aB _,λ_ _ _ h k=>k.below h,λ_ _ _ h k=>k.ext h,
   λ_ _ _ h k=>k.ext h,G⟩
 .intro ρ w' hs ho hC hd;have h2:ρ (.tmp 2) = .q w.heap.size 0:=ho 2 I;obtain⟨k1,k2,-⟩:=HK.out w' hC;simp[go_sem,h2,k1,k2];exact⟨ô,I⟩
 .intro ρ w' hs ho hC hd;obtain⟨hd,-⟩:=hd;have h2:ρ (.tmp 13)=_:=hd I;simp[go_sem,h2,hs.func];refine(nN _ _ _ _ (H1.out.below (Ã HW.out hC)) hl1).mono ?_;rintro e w'' ⟨rfl,hb⟩;exact⟨_,I,hb,I⟩
 .intro ρ w' hs ho hC hd;have h2:ρ (.tmp 3) = .pointer (some ⟨w.heap.size+1,0,none⟩):=ho 3 I;obtain⟨-,-,k1,k2,-⟩:=HK.out w' hC;simp[go_sem,h2,k1,k2];exact⟨ô,I⟩
 .intro ρ w' hs ho hC hd;obtain⟨hd,-⟩:=hd;have h2:ρ (.tmp 15)=_:=hd I;simp[go_sem,h2,hs.func];refine(nN _ _ _ _ (H2.out.below (Ã HW.out hC)) hl2).mono ?_;rintro e w'' ⟨rfl,hb⟩;exact⟨_,I,hb,I⟩
 .intro ρ w' hs ho hC hd;obtain⟨hd1,hd2,-⟩:=hd;have h1:ρ (.tmp 14)=_:=hd1 I;have h2:ρ (.tmp 16)=_:=hd2 I;simp[go_sem,h1,h2];exact⟨ô,by rw[aeP]; rfl⟩
 .intro ρ w' hs ho hC hd;obtain⟨hd,-⟩:=hd;have h2:ρ (.tmp 17)=_:=hd I;simp[go_sem,h2,hs.const];exact⟨ô,I⟩
 .intro ρ w' hs ho hC hd;have h2:ρ (.tmp 6) = .func (.func 292) #[] #[.q w1.heap.size 0]:=ho 6 I;simp[go_sem,h2];exact⟨ô,I⟩
 .intro ρ w' hs ho hC hd;have h2:ρ (.tmp 2) = .q w.heap.size 0:=ho 2 I;obtain⟨k1,k2,-⟩:=HK.out w' hC;simp[go_sem,h2,k1,k2];exact⟨ô,I⟩
 .intro ρ w' hs ho hC hd;obtain⟨hd1,hd2,-⟩:=hd;have h1:ρ (.tmp 19)=_:=hd1 I;have h2:ρ (.tmp 20)=_:=hd2 I;simp[go_sem,h1,h2];obtain⟨-,-,-,-,k1⟩:=HK.out w' hC;have hc:=EZ n1 (.s a1 l.length c1) _ l _ w1.heap.size w' (H1.out.below (Ã HW.out hC)) hl1 k1 (HG'.out.below hC) (by rw[hvG]; exact hG) hGl;rw[hvG]at hc;refine hc.mono ?_;rintro e w'' ⟨q,rfl,hq,hb⟩;exact⟨_,I,hb,hq⟩
 .intro ρ w' hs ho hC hd;obtain⟨hd1,hd2,-⟩:=hd;have h1:ρ (.tmp 18)=_:=hd1 I;have h2:aF w' (ρ (.tmp 21)) _:=hd2 I;simp[go_sem,h1,hs.func];have hc:=mY (decide (qc n1 (Pq l)*qc n2 (Pq m)<0)) _ _ w' h2 (by have:=fF (ϔ (Pq l) (Nat.gcd (Pq l) (Pq m))); have:=bP l; omega);rw[L6,HNG.out]at hc;refine hc.mono ?_;rintro e w'' ⟨q,rfl,hq,hb⟩;exact⟨_,I,hb,hq.mono (hres.out w' hC).2⟩
 .intro ρ w' hs ho hC hd;have h2:ρ (.tmp 6) = .func (.func 292) #[] #[.q w1.heap.size 0]:=ho 6 I;simp[go_sem,h2];exact⟨ô,I⟩
 .intro ρ w' hs ho hC hd;have h2:ρ (.tmp 3) = .pointer (some ⟨w.heap.size+1,0,none⟩):=ho 3 I;obtain⟨-,-,k1,k2,-⟩:=HK.out w' hC;simp[go_sem,h2,k1,k2];exact⟨ô,I⟩
 .intro ρ w' hs ho hC hd;obtain⟨hd1,hd2,-⟩:=hd;have h1:ρ (.tmp 23)=_:=hd1 I;have h2:ρ (.tmp 24)=_:=hd2 I;simp[go_sem,h1,h2];obtain⟨-,-,-,-,k1⟩:=HK.out w' hC;have hc:=EZ n2 (.s a2 m.length c2) _ m _ w1.heap.size w' (H2.out.below (Ã HW.out hC)) hl2 k1 (HG'.out.below hC) (by rw[hvG]; exact hG) hGl;rw[hvG]at hc;refine hc.mono ?_;rintro e w'' ⟨q,rfl,hq,hb⟩;exact⟨_,I,hb,hq⟩
 .intro ρ w' hs ho hC hd;obtain⟨hd2,-⟩:=hd;have h2:aF w' (ρ (.tmp 25)) _:=hd2 I;simp[go_sem,hs.func,hs.const];have hc:=mY false _ _ w' h2 (by have:=fF (ϔ (Pq m) (Nat.gcd (Pq l) (Pq m))); have:=bP m; omega);rw[L6]at hc;refine hc.mono ?_;rintro e w'' ⟨q,rfl,hq,hb⟩;exact⟨_,I,hb,hq.mono (hres.out w' hC).2⟩
 .intro ρ w' hs ho hC hd;obtain⟨hd1,hd2,-⟩:=hd;have h1:aK (w.heap.size+1+1+1) w' (ρ (.tmp 22)) _ _:=hd1 I;have h2:aK (w.heap.size+1+1+1) w' (ρ (.tmp 26)) _ _:=hd2 I;obtain⟨b1,d1,b2,d2,e1,e2,hr⟩:=ahO h1 h2;simp[go_sem,e1,e2];exact⟨ô,hr⟩
 intro w' hC;rintro _ rfl _ rfl _ rfl _ rfl _ rfl _ rfl _ rfl _ rfl v8 h8 v9 h9 _ rfl _ rfl v12 h12 v13 h13 v14 ⟨s,t,rfl,hx,hy,fx,fy⟩;change wpList _ _ _ (List.drop 15 _) _ _;simp only[List.drop_succ_cons,aza];obtain⟨hr,hrl⟩:=hres.out w' hC;obtain⟨u0,r0,f0⟩:=hr 0 Z;obtain⟨u1,r1,f1⟩:=hr 1 Z;obtain⟨u2,r2,f2⟩:=hr 2 Z;obtain⟨u3,r3,f3⟩:=hr 3 Z;obtain⟨b1,d1,rfl⟩:=hx.shape;obtain⟨b2,d2,rfl⟩:=hy.shape;have HX:=Â (Ã HW.out hC);have F:=Â (And.intro hx (And.intro hy (And.intro fx fy)));clear hr h8 h9 h12 h13 hx hy fx fy;go_wp2_with fail
 refine bodyPost_ret (v := .agg #[.b ng,.s b1 (LZ (Pq l/(Pq l).gcd (Pq m))).length d1,.z,.s b2 (LZ (Pq m/(Pq l).gcd (Pq m))).length d2]) (by simp[results,results258,go_sem,r0,r1,r2,r3]) I ⟨_,I,⟨_,_,I,?_,?_,?_,?_⟩,?_⟩
 .exact F.out.1.ch (((((Ch.refl _ _).setCell _ _).setCell _ _).setCell _ _).setCell _ _) (λ_=>F.out.2.2.1.off (Nat.lt_succ_self _))
 .exact F.out.2.1.ch (((((Ch.refl _ _).setCell _ _).setCell _ _).setCell _ _).setCell _ _) (λ_=>F.out.2.2.2.off (Nat.lt_succ_self _))
 .exact F.out.2.2.1.mono Z
 .exact F.out.2.2.2.mono Z
 exact(((HX.out.setCell (p:=⟨_,0,none⟩) (by simp only; omega) _).setCell (p:=⟨_,1,none⟩) (by simp only; omega) _).setCell (p:=⟨_,2,none⟩) (by simp only; omega) _).setCell (p:=⟨_,3,none⟩) (by simp only; omega) _
end Go.Proofs.Pv
namespace Go.Proofs.Pv
open Go.RowKit Na Go.Rel
variable{α:Type}
abbrev Xg{w w1:Á}{A B C:Array À}{ta tb tc:TypeId}(hb:Ext (((w.alloc (.cells A ta)).alloc (.cells B tb)).alloc (.cells C tc)) w1) :
  (∀i,w1.cell? ⟨w.heap.size,i,none⟩=A[i]?)∧(∀i,w1.cell? ⟨w.heap.size+1,i,none⟩=B[i]?)∧(∀i,w1.cell? ⟨w.heap.size+1+1,i,none⟩=C[i]?)∧(∀i,w1.frozen? ⟨w.heap.size+1+1,i,none⟩=false)∧w.heap.size+1+1<w1.heap.size:=by
 refine⟨λi=>?_,λi=>?_,λi=>?_,λi=>?_,by have:=hb.size; simp at this; omega⟩
 .rw[hb.cell (p:=⟨w.heap.size,i,none⟩) (by simp; omega)]; simp[go_sem]
 .rw[hb.cell (p:=⟨w.heap.size+1,i,none⟩) Y]; simp[go_sem]
 .rw[hb.cell (p:=⟨w.heap.size+1+1,i,none⟩) Y]; simp[go_sem]
 rw[hb.frozen (p:=⟨w.heap.size+1+1,i,none⟩) Y]; simp[go_sem]
abbrev oD:À := .agg #[.z,.sn,.z,.sn]
abbrev TD(n1 n2:Bool)(s1 s2:À)(l m:List UInt32)(w:Á)(h1:aF w s1 l)(h2:aF w s2 m)(hm:Pq m=0)(hl2:m.length<=100000000) :
  Ä prog 223 #[.agg #[.b n1,s1],.agg #[.b n2,s2]] w (RF w (.tuple #[oD,.i 9])):=by
 obtain⟨a1,c1,rfl⟩:=h1.shape;obtain⟨a2,c2,rfl⟩:=h2.shape;have HB0:=Â (((aH w (.cells #[.b n1,.s a1 l.length c1] 24)).alloc Y (.cells #[.b n2,.s a2 m.length c2] 24)).alloc (by simp; omega) (.cells #[.z,.sn,.z,.sn] 26));have hc:=nN n2 _ _ _ (h2.below HB0.out) hl2;rw[hm]at hc;have HC:=Â hc;clear hc h1 h2 hm;go_enter func223,ntmps223
 go_wp2_with fail
 refine HC.out.mono ?_;rintro e w1 ⟨rfl,hb⟩;obtain⟨-,-,r0,f0,hz⟩:=Xg hb;have hs0:((qc n2 0)==0)=true:=by unfold qc; rfl
 have HX:=Â (Ã HB0.out hb);clear hb HC HB0;go_wp2_with fail
 refine bodyPost_ret (v := .tuple #[oD,.i 9]) (by simp[results,results223,go_sem,r0]) I ⟨I,?_⟩;exact(((HX.out.setCell (p:=⟨_,0,none⟩) (by simp only; omega) _).setCell (p:=⟨_,1,none⟩) (by simp only; omega) _).setCell (p:=⟨_,2,none⟩) (by simp only; omega) _).setCell (p:=⟨_,3,none⟩) (by simp only; omega) _
abbrev Xh(n1 n2:Bool)(s1 s2:À)(l m:List UInt32)(w:Á)(h1:aF w s1 l)(h2:aF w s2 m)(hm:0<Pq m)(hl1:l.length<=100000000)(hl2:m.length<=100000000) :
  Ä prog 223 #[.agg #[.b n1,s1],.agg #[.b n2,s2]] w λe w'=>∃x,e = .R (.tuple #[x,.i 0]) ∧
   au w.heap.size w' x (kZ n1 n2 (Pq l) (Pq m)) (Pq l/Nat.gcd (Pq l) (Pq m)) (Pq m/Nat.gcd (Pq l) (Pq m))∧Ext w w':=by
 obtain⟨a1,c1,rfl⟩:=h1.shape;obtain⟨a2,c2,rfl⟩:=h2.shape;have HB0:=Â (((aH w (.cells #[.b n1,.s a1 l.length c1] 24)).alloc Y (.cells #[.b n2,.s a2 m.length c2] 24)).alloc (by simp; omega) (.cells #[.z,.sn,.z,.sn] 26));have HC:=Â (nN n2 _ _ _ (h2.below HB0.out) hl2);have hs0:((qc n2 (Pq m))==0)=false:=by
  rw[ä]; unfold qc; rw[É Z]; cases n2<;>simp
 have H:=Â (And.intro h1 h2);have HM:=Â hm;clear h1 h2 hm;go_enter func223,ntmps223
 go_wp2_with fail
 refine HC.out.mono ?_;rintro e w1 ⟨rfl,hb⟩;obtain⟨k1,k2,-,-,hz⟩:=Xg hb;have hX:=Ã HB0.out hb;have HX:=Â hX;have HY:=Â hb;have HL:=Â (Jv n1 n2 _ _ _ _ w1 (H.out.1.below hX) (H.out.2.below hX) HM.out hl1 hl2);clear hb HC hX HB0;go_wp2_with fail
 refine HL.out.mono ?_;rintro e w2 ⟨x,rfl,⟨s,t,rfl,hs,ht,fs,ft⟩,hb2⟩;obtain⟨b1,d1,rfl⟩:=hs.shape;obtain⟨b2,d2,rfl⟩:=ht.shape;obtain⟨-,-,r0,f0,hz2⟩:=Xg (Ã HY.out hb2);have HX2:=Â (Ã HX.out hb2);have F:=Â (And.intro hs (And.intro ht (And.intro fs ft)));clear hs ht fs ft hb2 HL k1 k2;go_wp2_with fail
 refine bodyPost_ret (v := .tuple #[.agg #[.b (kZ n1 n2 (Pq l) (Pq m)),.s b1 (LZ (Pq l/(Pq l).gcd (Pq m))).length d1,.z,.s b2 (LZ (Pq m/(Pq l).gcd (Pq m))).length d2],.i 0]) (by simp[results,results223,go_sem,r0]) I ⟨_,I,⟨_,_,I,?_,?_,?_,?_⟩,?_⟩
 .exact F.out.1.ch (((((Ch.refl _ _).setCell _ _).setCell _ _).setCell _ _).setCell _ _) (λ_=>F.out.2.2.1.off hz)
 .exact F.out.2.1.ch (((((Ch.refl _ _).setCell _ _).setCell _ _).setCell _ _).setCell _ _) (λ_=>F.out.2.2.2.off hz)
 .exact F.out.2.2.1.mono Z
 .exact F.out.2.2.2.mono Z
 exact(((HX2.out.setCell (p:=⟨_,0,none⟩) (by simp only; omega) _).setCell (p:=⟨_,1,none⟩) (by simp only; omega) _).setCell (p:=⟨_,2,none⟩) (by simp only; omega) _).setCell (p:=⟨_,3,none⟩) (by simp only; omega) _
abbrev Po(x:Int)(h : -9223372036854775808<=x)(hx:x<0):IntKind.u64.wrap (-IntKind.u64.wrap x)=(x.natAbs:Int):=by
 rw[Ŏ,Ŏ]; omega
abbrev Jw(x:Int)(w:Á)(h : -9223372036854775808<=x)(hx:x<0) :
  Ä prog 259 #[.i x] w λe w'=>∃v,e = .R v∧aK w.heap.size w' v (decide (x<0)) x.natAbs∧Ext w w':=by
 have hb0:=aH w (.cells #[.z,.sn] 24);have hN:x.natAbs<18446744073709551616:=Z
 have eN:(UInt64.ofNat x.natAbs).toNat=x.natAbs:=by simp; omega
 have hF:=qM (UInt64.ofNat x.natAbs) (w.alloc (.cells #[.z,.sn] 24));rw[agF,eN]at hF;have hdl:(LZ x.natAbs).length<=2:=Na.dn (by show _<4294967296^2; omega);have HF:=Â hF;have HB:=Â hb0;clear hF hb0 eN;go_enter func259,ntmps259
 have hw:=Po x h hx;go_wp2_with fail
 refine HF.out.mono ?_;rintro e w1 ⟨v',rfl,ho,hb1⟩;have hrow:=aS ho;have HI:=Â (mY true v' _ w1 hrow Z);have HB1:=Â hb1;clear hrow ho hw HF hb1;go_wp2_with fail
 refine HI.out.mono ?_;rintro e w2 ⟨y,rfl,⟨s,rfl,hs,fs⟩,hb2⟩;obtain⟨b1,d1,rfl⟩:=hs.shape;obtain⟨r0,f0,hz⟩:=iW (Ã HB1.out hb2);obtain⟨-,-,hz1⟩:=iW HB1.out;have HX:=Â (Ã HB.out (Ã HB1.out hb2));have F:=Â (And.intro hs fs);have e1:Hid ((true&&decide (0<Pq (LZ x.natAbs)))=decide (x<0)):=by
  show _=_;rw[L6,ļ,ay6]; omega
 clear hs fs hb2 HI;go_wp2_with fail
 refine bodyPost_ret (v := .agg #[.b (true&&decide (0<Pq (LZ x.natAbs))),.s b1 (LZ (Pq (LZ x.natAbs))).length d1]) (by simp[results,results259,go_sem,r0]) I ⟨_,I,⟨_,by rw[e1.out],?_,?_⟩,?_⟩
 .have:=F.out.1.ch (((Ch.refl w.heap.size _).setCell 0 (.b (true&&decide (0<Pq (LZ x.natAbs))))).setCell 1 (.s b1 (LZ (Pq (LZ x.natAbs))).length d1)) (λ_=>F.out.2.off hz1);rw[L6]at this |-;exact this
 .exact F.out.2.mono Z
 exact(HX.out.setCell (p:=⟨_,0,none⟩) (by simp only; omega) _).setCell (p:=⟨_,1,none⟩) (by simp only; omega) _
abbrev Jy(x:Nat)(w:Á)(h:(x:Int)<=9223372036854775807) :
  Ä prog 259 #[.i x] w λe w'=>∃v,e = .R v∧aK w.heap.size w' v false x∧Ext w w':=by
 have hb0:=aH w (.cells #[.z,.sn] 24);have hN:x<18446744073709551616:=Z
 have eN:(UInt64.ofNat x).toNat=x:=by simp; omega
 have hF:=qM (UInt64.ofNat x) (w.alloc (.cells #[.z,.sn] 24));rw[agF,eN]at hF;have hdl:(LZ x).length<=2:=Na.dn (by show _<4294967296^2; omega);have HF:=Â hF;have HB:=Â hb0;clear hF hb0 eN;go_enter func259,ntmps259
 go_wp2_with fail
 refine HF.out.mono ?_;rintro e w1 ⟨v',rfl,ho,hb1⟩;have hrow:=aS ho;have HI:=Â (mY false v' _ w1 hrow Z);have HB1:=Â hb1;clear hrow ho HF hb1;go_wp2_with fail
 refine HI.out.mono ?_;rintro e w2 ⟨y,rfl,⟨s,rfl,hs,fs⟩,hb2⟩;obtain⟨b1,d1,rfl⟩:=hs.shape;obtain⟨r0,f0,hz⟩:=iW (Ã HB1.out hb2);obtain⟨-,-,hz1⟩:=iW HB1.out;have HX:=Â (Ã HB.out (Ã HB1.out hb2));have F:=Â (And.intro hs fs);have e1:Hid ((false&&decide (0<Pq (LZ x)))=false):=ŕ _;clear hs fs hb2 HI;go_wp2_with fail
 refine bodyPost_ret (v := .agg #[.b (false&&decide (0<Pq (LZ x))),.s b1 (LZ (Pq (LZ x))).length d1]) (by simp[results,results259,go_sem,r0]) I ⟨_,I,⟨_,by rw[e1.out],?_,?_⟩,?_⟩
 .have:=F.out.1.ch (((Ch.refl w.heap.size _).setCell 0 (.b (false&&decide (0<Pq (LZ x))))).setCell 1 (.s b1 (LZ (Pq (LZ x))).length d1)) (λ_=>F.out.2.off hz1);rw[L6]at this |-;exact this
 .exact F.out.2.mono Z
 exact(HX.out.setCell (p:=⟨_,0,none⟩) (by simp only; omega) _).setCell (p:=⟨_,1,none⟩) (by simp only; omega) _
abbrev xX(x:Int)(w:Á)(h : -9223372036854775808<=x)(h2:x<=9223372036854775807) :
  Ä prog 259 #[.i x] w λe w'=>∃v,e = .R v∧aK w.heap.size w' v (decide (x<0)) x.natAbs∧Ext w w':=by
 by_cases hx:x<0
 .exact Jw x w h hx
 obtain⟨n,rfl⟩:∃n:Nat,x=n:=⟨x.toNat,Z⟩;have e:decide ((n:Int)<0)=false:=ľ Z;rw[e,Ť];exact Jy n w h2
abbrev xY(x:Int)(w:Á)(h : -9223372036854775808<=x)(h2:x<=9223372036854775807) :
  Ä prog 224 #[.i x] w λe w'=>∃v,e = .R v∧au w.heap.size w' v (decide (x<0)) x.natAbs 1∧Ext w w':=by
 have hb0:=aH w (.cells #[.z,.sn,.z,.sn] 26);have H1:=Â (xX x (w.alloc (.cells #[.z,.sn,.z,.sn] 26)) h h2);have HB0:=Â hb0;clear hb0;go_enter func224,ntmps224
 go_wp2_with fail
 refine H1.out.mono ?_;rintro e w1 ⟨y,rfl,⟨s,rfl,hs,fs⟩,hb1⟩;have h2:=xX 1 w1 O O;rw[show decide ((1:Int)<0)=false from rfl,show(1:Int).natAbs=1 from rfl]at h2;have H2:=Â h2;have HS:=Â (And.intro hs fs);have HB1:=Â hb1;clear h2 H1 hs fs hb1;go_wp2_with fail
 refine H2.out.mono ?_;rintro e w2 ⟨y,rfl,⟨t,rfl,ht,ft⟩,hb2⟩;obtain⟨b1,d1,rfl⟩:=HS.out.1.shape;obtain⟨b2,d2,rfl⟩:=ht.shape;obtain⟨r0,f0,hz⟩:=iW (Ã HB1.out hb2);obtain⟨-,-,hz1⟩:=iW HB1.out;have F:=Â (And.intro (HS.out.1.below hb2) (And.intro ht (And.intro HS.out.2 ft)));have HX:=Â (Ã HB0.out (Ã HB1.out hb2));clear ht ft hb2 H2;go_wp2_with fail
 refine bodyPost_ret (v := .agg #[.b (x<0),.s b1 (LZ x.natAbs).length d1,.z,.s b2 (LZ 1).length d2]) (by simp[results,results224,go_sem,r0]) I ⟨_,I,⟨_,_,I,?_,?_,?_,?_⟩,?_⟩
 .exact F.out.1.ch (((((Ch.refl w.heap.size _).setCell _ _).setCell _ _).setCell _ _).setCell _ _) (λ_=>F.out.2.2.1.off Y)
 .exact F.out.2.1.ch (((((Ch.refl w.heap.size _).setCell _ _).setCell _ _).setCell _ _).setCell _ _) (λ_=>F.out.2.2.2.off hz1)
 .exact F.out.2.2.1.mono Y
 .exact F.out.2.2.2.mono Z
 exact(((HX.out.setCell (p:=⟨_,0,none⟩) (by simp only; omega) _).setCell (p:=⟨_,1,none⟩) (by simp only; omega) _).setCell (p:=⟨_,2,none⟩) (by simp only; omega) _).setCell (p:=⟨_,3,none⟩) (by simp only; omega) _
abbrev au.shape{base:Nat}{w:Á}{v:À}{neg:Bool}{a b:Nat}(h:au base w v neg a b):∃b1 d1 b2 d2,v = .agg #[.b neg,.s b1 (LZ a).length d1,.z,.s b2 (LZ b).length d2]:=by
 obtain⟨s,t,rfl,hs,ht,_⟩:=h;obtain⟨b1,d1,rfl⟩:=hs.shape;obtain⟨b2,d2,rfl⟩:=ht.shape;exact⟨b1,d1,b2,d2,I⟩
abbrev au.ch{base:Nat}{w w':Á}{v:À}{neg:Bool}{a b c:Nat}(h:au base w v neg a b)(hc:Ch c w w')(hlt:c<base):au base w' v neg a b:=by
 obtain⟨s,t,rfl,hs,ht,fs,ft⟩:=h;exact⟨s,t,I,hs.ch hc (λ_=>fs.off hlt),ht.ch hc (λ_=>ft.off hlt),fs,ft⟩
abbrev au.NY{base:Nat}{w:Á}{v:À}{neg:Bool}{a b c:Nat}(h:au base w v neg a b)(hlt:c<base)(x0 x1 x2 x3:À) :
  au base ((((w.setCell ⟨c,0,none⟩ x0).setCell ⟨c,1,none⟩ x1).setCell ⟨c,2,none⟩ x2).setCell ⟨c,3,none⟩ x3) v neg a b:=
 h.ch (((((Ch.refl c w).setCell _ _).setCell _ _).setCell _ _).setCell _ _) hlt
abbrev qP{W w:Á}(h:Ext W w){c:Nat}(hc:W.heap.size<=c)(x0 x1 x2 x3:À) :
  Ext W ((((w.setCell ⟨c,0,none⟩ x0).setCell ⟨c,1,none⟩ x1).setCell ⟨c,2,none⟩ x2).setCell ⟨c,3,none⟩ x3):=
 (((Below.setCell h (p:=⟨c,0,none⟩) hc _).setCell (p:=⟨c,1,none⟩) hc _).setCell (p:=⟨c,2,none⟩) hc _).setCell (p:=⟨c,3,none⟩) hc _
def nrm(n1 n2:Bool)(a b:Nat):Bool×Nat×Nat:=if b=0 then (false,0,1)else (kZ n1 n2 a b,a/Nat.gcd a b,b/Nat.gcd a b)
abbrev bF (base:Nat)(w:Á)(v:À)(r:Bool×Nat×Nat):Prop:=au base w v r.1 r.2.1 r.2.2
abbrev pq(n1 n2:Bool)(s1 s2:À)(l m:List UInt32)(w:Á)(h1:aF w s1 l)(h2:aF w s2 m)(hl1:l.length<=100000000)(hl2:m.length<=100000000) :
  Ä prog 175 #[.agg #[.b n1,s1,.b n2,s2]] w λe w'=>∃x,e = .R x∧bF w.heap.size w' x (nrm n1 n2 (Pq l) (Pq m))∧Ext w w':=by
 obtain⟨a1,c1,rfl⟩:=h1.shape;obtain⟨a2,c2,rfl⟩:=h2.shape;have HB0:=Â ((aH w (.cells #[.b n1,.s a1 l.length c1,.b n2,.s a2 m.length c2] 26)).alloc Y (.cells #[.z,.sn,.z,.sn] 26));have g1:=h1.below HB0.out;have g2:=h2.below HB0.out;clear h1 h2;rcases ę (Pq m)with hm | hm
 .have HC:=Â (TD n1 n2 _ _ _ _ _ g1 g2 hm hl2);have hN:nrm n1 n2 (Pq l) (Pq m)=(false,0,1):=by unfold nrm; rw[Ï hm]
  rw[hN];clear g1 g2 hm hN;go_enter func175,ntmps175
  go_wp2_with fail
  refine HC.out.mono ?_;rintro e w1 ⟨rfl,hb⟩;have hsz:=hb.size;simp only[ayX]at hsz;have hcells:(∀i,w1.cell? ⟨w.heap.size+1,i,none⟩ = #[Value.z,.sn,.z,.sn][i]?)∧(∀i,w1.frozen? ⟨w.heap.size+1,i,none⟩=false):=by
   refine⟨λi=>?_,λi=>?_⟩
   .rw[hb.cell (p:=⟨w.heap.size+1,i,none⟩) Y]; simp[go_sem]
   rw[hb.frozen (p:=⟨w.heap.size+1,i,none⟩) Y]; simp[go_sem]
  obtain⟨r0,f0⟩:=hcells;have HX:=Â (Ã HB0.out hb);have HY:=Â (xY 0 (w1.alloc (.cells #[.z,.sn,.z,.sn] 26)) O O);clear hb HC;go_wp2_with fail
  refine HY.out.mono ?_;rintro e w2 ⟨x,rfl,hx,hb2⟩;have hb3:=Ã (aH _ _) hb2;obtain⟨b1,d1,b2,d2,rfl⟩:=hx.shape;have r1:∀i,w2.cell? ⟨w.heap.size+1,i,none⟩ = #[Value.z,.sn,.z,.sn][i]?:=λi=>by rw[hb3.cell (p:=⟨w.heap.size+1,i,none⟩) (by simp only; omega)]; exact r0 i
  have f1:∀i,w2.frozen? ⟨w.heap.size+1,i,none⟩=false:=λi=>by rw[hb3.frozen (p:=⟨w.heap.size+1,i,none⟩) (by simp only; omega)]; exact f0 i
  have hz:w.heap.size+1<w2.heap.size:=by have:=hb3.size; omega
  have hz0:w.heap.size+1<(w1.alloc (.cells #[.z,.sn,.z,.sn] 26)).heap.size:=by simp; omega
  have F:=Â hx;have HX2:=Â (Ã HX.out hb3);clear r0 f0 hx hb2 hb3 HY;go_wp2_with fail
  refine bodyPost_ret (v := .agg #[.b ((0:Int)<0),.s b1 (LZ (0:Int).natAbs).length d1,.z,.s b2 (LZ 1).length d2]) (by simp[results,results175,go_sem,r1]) I ⟨_,I,?_,qP HX2.out Z _ _ _ _⟩;exact(F.out.NY hz0 _ _ _ _).mono Z
 have HC:=Â (Xh n1 n2 _ _ _ _ _ g1 g2 hm hl1 hl2);have hN:nrm n1 n2 (Pq l) (Pq m)=(kZ n1 n2 (Pq l) (Pq m),Pq l/Nat.gcd (Pq l) (Pq m),Pq m/Nat.gcd (Pq l) (Pq m)):=by unfold nrm; rw[É Z]
 rw[hN];clear g1 g2 hm hN;go_enter func175,ntmps175
 go_wp2_with fail
 refine HC.out.mono ?_;rintro e w1 ⟨x,rfl,hx,hb⟩;have hsz:=hb.size;simp only[ayX]at hsz;obtain⟨b1,d1,b2,d2,rfl⟩:=hx.shape;have r0:∀i,w1.cell? ⟨w.heap.size+1,i,none⟩ = #[Value.z,.sn,.z,.sn][i]?:=λi=>by rw[hb.cell (p:=⟨w.heap.size+1,i,none⟩) Y]; simp[go_sem]
 have f0:∀i,w1.frozen? ⟨w.heap.size+1,i,none⟩=false:=λi=>by rw[hb.frozen (p:=⟨w.heap.size+1,i,none⟩) Y]; simp[go_sem]
 have F:=Â hx;have HX:=Â (Ã HB0.out hb);have hz:w.heap.size+1<w1.heap.size:=Z
 clear hb HC hx;go_wp2_with fail
 refine bodyPost_ret (v := .agg #[.b (kZ n1 n2 (Pq l) (Pq m)),.s b1 (LZ (Pq l/Nat.gcd (Pq l) (Pq m))).length d1,.z,.s b2 (LZ (Pq m/Nat.gcd (Pq l) (Pq m))).length d2]) (by simp[results,results175,go_sem,r0,hz]) I ⟨_,I,?_,?_⟩
 .exact((F.out.NY Y _ _ _ _).ext (aH _ _)).mono (by simp; omega)
 exact Ã (qP HX.out Z _ _ _ _) (aH _ _)
def zv(n:Bool)(a:Nat):Int:=if n then -(a:Int)else (a:Int)
abbrev VD(n:Bool)(a:Nat):decide (zv n a<0)=(n&&decide (0<a)):=by
 unfold zv;cases n
 .simp
 rw[ļ,ay6]; simp
abbrev kX(n:Bool)(a:Nat):(zv n a).natAbs=a:=by unfold zv; cases n<;>simp
abbrev Vf(n:Bool)(a:Nat):zv (!n) a = -zv n a:=by unfold zv; cases n<;>simp
abbrev NP(z:Int):zv (decide (z<0)) z.natAbs=z:=by
 unfold zv;by_cases h:z<0
 .rw[İ h,Ï I]; omega
 rw[ľ h,É Y]; omega
abbrev acM(n m:Bool)(a b:Nat):zv n a*zv m b=zv (n != m) (a*b):=by unfold zv; cases n<;>cases m<;>simp[Int.mul_neg,Int.neg_mul,Int.neg_neg]
abbrev EJ(n:Bool)(a b:Nat):zv n a+zv n b=zv n (a+b):=by
 unfold zv;cases n
 .simp
 simp only[if_true]; omega
abbrev wP{n m:Bool}{a b:Nat}(h:n≠m)(hle:b<=a):zv n a+zv m b=zv n (a-b):=by
 unfold zv;cases n<;>cases m<;>simp only[ne_eq,not_true_eq_false,reduceCtorEq,if_true,if_false,ayJ]at * <;> omega
abbrev BO{n m:Bool}{a b:Nat}(h:n≠m)(hle:a<=b):zv n a+zv m b=zv m (b-a):=by
 rw[Int.add_comm]; exact wP (λe=>h e.symm) hle
abbrev acK(n:Bool)(a:Nat):qc n a=(zv n a).sign:=by
 unfold qc zv;rcases ę a with h | h
 .subst h; cases n<;>rfl
 rw[É Z];cases n
 .rw[É Y,É Y,Int.sign_eq_one_of_pos Z]
 rw[Ï I,Ï I,Int.sign_eq_neg_one_of_neg Z]
abbrev oL (base:Nat)(w:Á)(v:À)(z:Int):Prop:=aK base w v (decide (z<0)) z.natAbs
abbrev sJ{base:Nat}{w:Á}{v:À}{n:Bool}{a:Nat}(h:aK base w v (n&&decide (0<a)) a):oL base w v (zv n a):=by
 unfold oL; rw[VD,kX]; exact h
def nz(x:Int)(d:Nat):Bool×Nat×Nat:=nrm (decide (x<0)) false x.natAbs d
def qz(r:Bool×Nat×Nat):Int:=zv r.1 r.2.1
def oU(r s:Bool×Nat×Nat):Bool×Nat×Nat:=nz (qz r*qz s) (r.2.2*s.2.2)
def KH(r s:Bool×Nat×Nat):Bool×Nat×Nat:=nz (qz r*s.2.2+qz s*r.2.2) (r.2.2*s.2.2)
def uh(r s:Bool×Nat×Nat):Bool×Nat×Nat:=nz (qz r*s.2.2-qz s*r.2.2) (r.2.2*s.2.2)
def jH(r s:Bool×Nat×Nat):Int:=(qz r*s.2.2-qz s*r.2.2).sign
def wB(r:Bool×Nat×Nat):Bool×Nat×Nat:=(!r.1&&decide (0<r.2.1),r.2)
abbrev alc(r:Bool×Nat×Nat):qz (wB r) = -qz r:=by
 obtain⟨n,a,b⟩:=r;unfold qz wB zv;cases n
 .simp only[Bool.not_false,ļ,Ý,ayJ,if_false];split<;>omega
 simp
abbrev YT(n1 n2:Bool)(l m:List UInt32):(LZ (nrm n1 n2 (Pq l) (Pq m)).2.1).length<=l.length∧(LZ (nrm n1 n2 (Pq l) (Pq m)).2.2).length<=max 1 m.length:=by
 unfold nrm;split
 .have h1:(LZ 1).length<=1:=Na.dn O;exact⟨by rw[jF]; simp,by simp only; omega⟩
 have h1:=fF (ϔ (Pq l) (Nat.gcd (Pq l) (Pq m)));have h2:=fF (ϔ (Pq m) (Nat.gcd (Pq l) (Pq m)));have:=bP l;have:=bP m;simp only; omega
def aI(k:Nat)(f:α->List À)(w:Á)(v:À)(l:List α):Prop:=
 ∃a cap,v = .s a l.length cap∧cap<=maxLen ∧
  ((l=[]∧(a=none->cap=0)) ∨
   ∃b o,a=some ⟨b,o,none⟩∧b<w.heap.size∧l.length<=cap∧∀i (h:i<l.length) (j:Nat),j<k->w.cell? ⟨b,o+i*k+j,none⟩=(f l[i])[j]?)
abbrev aI.below{k:Nat}{f:α->List À}{w w':Á}{v:À}{l:List α}(h:aI k f w v l)(hb:Below w.heap.size w w'):aI k f w' v l:=by
 obtain⟨a,cap,hv,hm,h⟩:=h;refine⟨a,cap,hv,hm,?_⟩;rcases h with h | ⟨b,o,ha,hlt,hl,hc⟩
 .exact .inl h
 exact .inr ⟨b,o,ha,by have:=hb.size; omega,hl,λi hi j hj=>by rw[hb.cell (p:=⟨b,o+i*k+j,none⟩) hlt]; exact hc i hi j hj⟩
abbrev aI.shape{k:Nat}{f:α->List À}{w:Á}{v:À}{l:List α}(h:aI k f w v l):∃a cap,v = .s a l.length cap:=by
 obtain⟨a,cap,h,_⟩:=h; exact⟨a,cap,h⟩
abbrev aI.len{k:Nat}{f:α->List À}{w:Á}{v:À}{l:List α}(h:aI k f w v l):l.length<=maxLen:=by
 obtain⟨a,cap,rfl,hm,h⟩:=h;rcases h with ⟨rfl,_⟩ | ⟨b,o,rfl,hb,hl,hc⟩
 .simp
 omega
abbrev iR(k:Nat)(f:α->List À)(w:Á):aI k f w (.sn) []:=⟨none,0,I,Õ _,.inl ⟨I,λ_=>rfl⟩⟩
abbrev aa8{k:Nat}{f:α->List À}{w:Á}{v:À}{l:List α}(h:aI k f w v l)(hp:0<l.length) :
  ∃b o cap,v = .s (some ⟨b,o,none⟩) l.length cap∧b<w.heap.size∧l.length<=cap∧cap<=maxLen∧∀i (h:i<l.length) (j:Nat),j<k->w.cell? ⟨b,o+i*k+j,none⟩=(f l[i])[j]?:=by
 obtain⟨a,cap,rfl,hm,h⟩:=h;rcases h with ⟨rfl,_⟩ | ⟨b,o,rfl,hb,hl,hc⟩
 .simp at hp
 exact⟨b,o,cap,I,hb,hl,hm,hc⟩
abbrev eF{f:α->À}{w:Á}{v:À}{l:List α}(h:dJ f w v l):aI 1 (λx=>[f x]) w v l:=by
 obtain⟨a,cap,hv,hm,h⟩:=h;refine⟨a,cap,hv,hm,?_⟩;rcases h with h | ⟨b,o,ha,hlt,hl,hc⟩
 .exact .inl h
 refine .inr ⟨b,o,ha,hlt,hl,λi hi j hj=>?_⟩;obtain rfl:j=0:=by omega
 simpa using hc i hi
abbrev I64 (x:Int):Prop := -9223372036854775808<=x∧x<=9223372036854775807
structure bn where
 n1:Bool
 a1:Option Ĥ
 c1:Nat
 l1:List UInt32
 n2:Bool
 a2:Option Ĥ
 c2:Nat
 l2:List UInt32
def bn.s1(r:bn):À := .s r.a1 r.l1.length r.c1
def bn.s2(r:bn):À := .s r.a2 r.l2.length r.c2
def bn.cells(r:bn):List À:=[.b r.n1,r.s1,.b r.n2,r.s2]
def bn.v(r:bn):À := .agg #[.b r.n1,r.s1,.b r.n2,r.s2]
def bn.ok(w:Á)(r:bn):Prop:=aF w r.s1 r.l1∧aF w r.s2 r.l2
def bn.fit(k:Nat)(r:bn):Prop:=r.l1.length<=k∧r.l2.length<=k
def bn.q(r:bn):Bool×Nat×Nat:=nrm r.n1 r.n2 (Pq r.l1) (Pq r.l2)
abbrev bn.ok.below{w w':Á}{r:bn}(h:r.ok w)(hb:Ext w w'):r.ok w':=⟨h.1.below hb,h.2.below hb⟩
abbrev bn.fit.mono{k k':Nat}{r:bn}(h:r.fit k)(hk:k<=k'):r.fit k':=⟨ï h.1 hk,ï h.2 hk⟩
structure aT where
 a:bn
 b:bn
 c:bn
 d:bn
 e:bn
 f:bn
def aT.cells(t:aT):List À:=t.a.cells++t.b.cells++t.c.cells++t.d.cells++t.e.cells++t.f.cells
def aT.v(t:aT):À := .agg t.cells.toArray
def aT.ok(w:Á)(t:aT):Prop:=t.a.ok w∧t.b.ok w∧t.c.ok w∧t.d.ok w∧t.e.ok w∧t.f.ok w
def aT.fit(k:Nat)(t:aT):Prop:=t.a.fit k∧t.b.fit k∧t.c.fit k∧t.d.fit k∧t.e.fit k∧t.f.fit k
abbrev aT.ok.below{w w':Á}{t:aT}(h:t.ok w)(hb:Ext w w'):t.ok w':=
 ⟨h.1.below hb,h.2.1.below hb,h.2.2.1.below hb,h.2.2.2.1.below hb,h.2.2.2.2.1.below hb,h.2.2.2.2.2.below hb⟩
def bV(q:Bool×Nat×Nat):Nat:=max (bl q.2.1) (bl q.2.2)
def q0:Bool×Nat×Nat:=(false,0,1)
def pW(p q:Bool×Nat×Nat):Bool:=jH p q==0
structure jP where
 x:Int
 y:Int
deriving DecidableEq
def jP.ok(p:jP):Prop:=I64 p.x∧I64 p.y
def cok(x:Int):Bool:=decide (-1048576<=x)&&decide (x<=1048576)
def jP.valid(p:jP):Bool:=cok p.x&&cok p.y
def jP.zero(p:jP):Bool:=(p.x==0)&&(p.y==0)
structure dQ where
 verb:Int
 a:jP
 b:jP
 c:jP
deriving DecidableEq
def dQ.cells(s:dQ):List À:=[.i s.verb,.i s.a.x,.i s.a.y,.i s.b.x,.i s.b.y,.i s.c.x,.i s.c.y]
def dQ.ok(s:dQ):Prop:=I64 s.verb∧s.a.ok∧s.b.ok∧s.c.ok
def named(v:Int):Int:=if v=4 then 3 else if v=3 then 2 else if v=1∨v=2 then 1 else if v=5 then 0 else -1
def lF(v:Int)(i:Int)(p:jP):Bool:=p.valid && !(decide (named v<=i) && !p.zero)
def dQ.fits(s:dQ):Bool:=lF s.verb 0 s.a&&(lF s.verb 1 s.b&&lF s.verb 2 s.c)
def dQ.stands(last:Int)(s:dQ):Bool:=(s.verb==1)||((last != 5)&&((s.verb != 5)||(last != 1)))
def dQ.err(last:Int)(s:dQ):Int:=if named s.verb<0 then 2 else if s.stands last=false then 10 else if s.fits=false then 6 else 0
def mP:Int->Int->List dQ->Int×Int
 | _,_,[]=>(0,0)
 | last,i,s::l=>if s.err last=0 then mP s.verb (i+1) l else (s.err last,i)
def dW(l:List dQ):Int×Int:=if 256<(l.length:Int)then (5,256)else mP 5 0 l
def iZ(l:List dQ):Bool:=(dW l).1==0
structure bQ where
 r:UInt8
 g:UInt8
 b:UInt8
 a:UInt8
deriving DecidableEq
def bQ.cells(p:bQ):List À:=[iO p.r,iO p.g,iO p.b,iO p.a]
def bQ.valid(p:bQ):Bool:=decide (p.r<=p.a)&&(decide (p.g<=p.a)&&decide (p.b<=p.a))
structure dA where
 w:Int
 h:Int
 sa:Option Ĥ
 sc:Nat
 l:List bQ
def dA.s(m:dA):À := .s m.sa m.l.length m.sc
def dA.cells(m:dA):List À:=[.i m.w,.i m.h,m.s]
def dA.v(m:dA):À := .agg #[.i m.w,.i m.h,m.s]
def dA.ok(W:Á)(m:dA):Prop:=I64 m.w∧I64 m.h∧aI 4 bQ.cells W m.s m.l
abbrev dA.ok.below{w w':Á}{t:dA}(h:t.ok w)(hb:Ext w w'):t.ok w':=⟨h.1,h.2.1,h.2.2.below hb⟩
def side(n:Int):Bool:=decide (1<=n)&&decide (n<=4096)
def dA.size(m:dA):Bool:=side m.w&&(side m.h&&decide (m.w*m.h<=65536))
def dA.valid(m:dA):Bool:=m.size&&(((m.l.length:Int)==m.w*m.h)&&m.l.all bQ.valid)
def dA.eq(m n:dA):Bool:=(m.w==n.w)&&((m.h==n.h)&&(m.l==n.l))
structure fH where
 o:Int
 c:bQ
deriving DecidableEq
def fH.cells(s:fH):List À:=[.i s.o,iO s.c.r,iO s.c.g,iO s.c.b,iO s.c.a]
def fH.ok(s:fH):Prop:=I64 s.o
def dF:Int->List fH->Bool
 | _,[]=>true
 | at',s::l=>decide (at'<=s.o)&&(decide (s.o<=65536)&&dF s.o l)
def dR(l:List fH):Bool:=decide (1<=l.length)&&(decide (l.length<=16)&&dF 0 l)
structure aj where
 kind:Int
 color:bQ
 p0:jP
 p1:jP
 bG:Int
 sva:Option Ĥ
 svc:Nat
 stops:List fH
 spread:Int
 img:dA
 dw:Int
 t:aT
def aj.sv(p:aj):À := .s p.sva p.stops.length p.svc
def aj.cells(p:aj):List À:=
 [.i p.kind,iO p.color.r,iO p.color.g,iO p.color.b,iO p.color.a,.i p.p0.x,.i p.p0.y,.i p.p1.x,.i p.p1.y,.i p.bG,p.sv,.i p.spread,
  .i p.img.w,.i p.img.h,p.img.s,.i p.dw]++p.t.cells
def aj.v(p:aj):À := .agg p.cells.toArray
def aj.ok(w:Á)(p:aj):Prop:=
 I64 p.kind∧p.p0.ok∧p.p1.ok∧I64 p.bG∧aI 5 fH.cells w p.sv p.stops∧(∀s∈p.stops,s.ok)∧I64 p.spread∧p.img.ok w∧I64 p.dw∧p.t.ok w
abbrev aj.ok.below{w w':Á}{p:aj}(h:p.ok w)(hb:Ext w w'):p.ok w':=by
 obtain⟨h1,h2,h3,h4,h5,h6,h7,h8,h9,h10⟩:=h;exact⟨h1,h2,h3,h4,h5.below hb,h6,h7,h8.below hb,h9,h10.below hb⟩
def fZ(n:Int):Bool:=decide (1<=n)&&decide (n<=3)
structure aY where
 width:Int
 join:Int
 cap:Int
 eu:Int
 sa:Option Ĥ
 sc:Nat
 dash:List Int
 phase:Int
def aY.s(p:aY):À := .s p.sa p.dash.length p.sc
def AQ(x:Int):À := .i x
def aY.cells(p:aY):List À:=[.i p.width,.i p.join,.i p.cap,.i p.eu,p.s,.i p.phase]
def aY.v(p:aY):À := .agg #[.i p.width,.i p.join,.i p.cap,.i p.eu,p.s,.i p.phase]
def aY.ok(w:Á)(p:aY):Prop:=I64 p.width∧I64 p.join∧I64 p.cap∧I64 p.eu∧dJ AQ w p.s p.dash∧(∀x∈p.dash,I64 x)∧I64 p.phase
abbrev aY.ok.below{w w':Á}{p:aY}(h:p.ok w)(hb:Ext w w'):p.ok w':=⟨h.1,h.2.1,h.2.2.1,h.2.2.2.1,h.2.2.2.2.1.below hb,h.2.2.2.2.2⟩
structure ah where
 id:Int
 kind:Int
 depth:Int
 t:aT
 csa:Option Ĥ
 csc:Nat
 clip:List dQ
 aJ:Int
 dP:UInt8
 blend:Int
 isolated:Bool
 cZ:Bool
 psa:Option Ĥ
 psc:Nat
 path:List dQ
 aW:Int
 fsa:Option Ĥ
 fsc:Nat
 fill:List aj
 style:aY
 ssa:Option Ĥ
 ssc:Nat
 stroke:List aj
 img:dA
 dw:Int
def ah.cs(n:ah):À := .s n.csa n.clip.length n.csc
def ah.ps(n:ah):À := .s n.psa n.path.length n.psc
def ah.fs(n:ah):À := .s n.fsa n.fill.length n.fsc
def ah.ss(n:ah):À := .s n.ssa n.stroke.length n.ssc
def ah.cells(n:ah):List À:=
 [.i n.id,.i n.kind,.i n.depth]++n.t.cells++[n.cs,.i n.aJ,iO n.dP,.i n.blend,.b n.isolated,.b n.cZ,n.ps,.i n.aW,n.fs]++n.style.cells ++
  [n.ss]++n.img.cells++[.i n.dw]
def ah.v(n:ah):À := .agg n.cells.toArray
abbrev oH (w:Á)(v:À)(l:List dQ):Prop:=aI 7 dQ.cells w v l∧∀s∈l,s.ok
abbrev iQ (w:Á)(v:À)(l:List aj):Prop:=aI 40 aj.cells w v l∧∀p∈l,p.ok w
def ah.ok(w:Á)(n:ah):Prop:=
 I64 n.id∧I64 n.kind∧I64 n.depth∧n.t.ok w∧oH w n.cs n.clip∧I64 n.aJ∧I64 n.blend∧oH w n.ps n.path∧I64 n.aW∧iQ w n.fs n.fill∧n.style.ok w∧iQ w n.ss n.stroke ∧
  n.img.ok w∧I64 n.dw
abbrev oH.below{w w':Á}{v:À}{l:List dQ}(h:oH w v l)(hb:Ext w w'):oH w' v l:=⟨h.1.below hb,h.2⟩
abbrev iQ.below{w w':Á}{v:À}{l:List aj}(h:iQ w v l)(hb:Ext w w'):iQ w' v l:=⟨h.1.below hb,λp hp=>(h.2 p hp).below hb⟩
abbrev ah.ok.below{w w':Á}{n:ah}(h:n.ok w)(hb:Ext w w'):n.ok w':=by
 obtain⟨h1,h2,h3,h4,h5,h6,h7,h8,h9,h10,h11,h12,h13,LY⟩:=h;exact⟨h1,h2,h3,h4.below hb,h5.below hb,h6,h7,h8.below hb,h9,h10.below hb,h11.below hb,h12.below hb,h13.below hb,LY⟩
end Go.Proofs.Pv
namespace Go.Vp
open Go.Proofs.Pv Go.RowKit Go.Rel Na Go.Rel
section
variable{P:Program}{ops:Array Oper}{Q:Exit->Act->Á->Prop}{a:Act}{w:Á}{rest:List Oper}{o:Oper}{n:Nat}{l:List (Nat×À)}
variable{k b off c:Nat}
abbrev MW{ρ:Operand->À}{t e:TypeId}{x ix:Operand}{len cap:Nat}{kd:IntKind}(i:Nat)(hop:o.op = .indexAddr t x ix)(hx:ρ x = .s (some ⟨b,off,none⟩) len cap)(hi:ρ ix = .int kd (i:Int))(hlt:i<len)
  (hu:P.underlying t=some (.slice e)) (hsz:(P.info? e).map (·.size)=some k):(execOp ρ o).run P w = .ok (.value (.pointer (some ⟨b,off+i*k,none⟩))) w:=by
 have he:P.elem t=e:=by unfold Program.elem; rw[hu]
 have h1:=run_indexAt_slice (P:=P) w t ⟨b,off,none⟩ len cap kd (i:Int) (by rw[he]; exact hu);rw[Ï ⟨Z,Z⟩,he]at h1;have h2:(sizeOf e).run P w = .ok k w:=by
  cases hq:P.info? e with
  | none=>simp[hq]at hsz
  | some j =>
   have:j.size=k:=by simpa[hq]using hsz
   simp[sizeOf,typeInfo,hq,this]
 rw[h2]at h1;simp only[Result.andThen,ş]at h1;have e2:(⟨b,off,none⟩:Ĥ).add (i*k)=⟨b,off+i*k,none⟩:=Addr.add_mid _ _ _;rw[e2]at h1;unfold execOp;simp only[hop,hx,hi,ķ,h1];rfl
abbrev jR{α:Type}{f:α->List À}{v:À}{L:List α}(h:aI k f w v L)(hf:∀x,(f x).length=k)(i:Nat)(hi:i<L.length) :
  ∃b off cap,v = .s (some ⟨b,off,none⟩) L.length cap∧b<w.heap.size∧w.rangeAt b (off+i*k) (f L[i]):=by
 obtain⟨b,off,cap,hv,hb,hl,hm,hc⟩:=aa8 h Z;refine⟨b,off,cap,hv,hb,λj u hj=>?_⟩;have hjl:j<k:=by have:=(List.getElem?_eq_some_iff.1 hj).1; rw[hf]at this; exact this
 rw[hc i hi j hjl]; exact hj
abbrev iF{α:Type}{f:α->List À}{a:Option Ĥ}{n:Nat}{L:List α}(h:aI k f w (.s a n c) L)(hf:∀x,(f x).length=k)(i:Nat)(hi:i<L.length) :
  ∃b o,a=some ⟨b,o,none⟩∧∃x,L[i]=x∧b<w.heap.size∧w.rangeAt b (o+i*k) (f x):=by
 obtain⟨b,o,cap,hv,hb,hr⟩:=jR h hf i hi;simp only[Ĉ]at hv;exact⟨b,o,hv.1,_,I,hb,hr⟩
abbrev ahP{α:Type}{f:α->List À}{o n:Nat}{L:List α}(h:aI k f w (.s (some ⟨b,o,none⟩) n c) L)(hf:∀x,(f x).length=k)(i:Nat)(hi:i<L.length) :
  ∃x,L[i]=x∧b<w.heap.size∧w.rangeAt b (o+i*k) (f x):=by
 obtain⟨b1,o1,h1,x,hx,hb,hr⟩:=iF h hf i hi;simp only[Ò,Ÿ,and_true]at h1;obtain⟨rfl,rfl⟩:=h1;exact⟨x,hx,hb,hr⟩
abbrev qG{w w':Á}{cs:List À}(h:w.rangeAt b off cs)(hb:b<w.heap.size)(he:Ext w w'):w'.rangeAt b off cs:=λj v hv=>by
 rw[he.cell (p:=⟨b,off+j,none⟩) hb]; exact h j v hv
abbrev aeQ{α:Type}{f:α->List À}{v:À}{L:List α}(h:aI k f w v L):v.oneCell'=true:=by obtain⟨a,cap,rfl⟩:=h.shape; rfl
abbrev mQ{v:À}{L:List UInt32}(h:aF w v L):v.oneCell'=true:=by obtain⟨a,cap,rfl,_⟩:=h; rfl
end
end Go.Vp
end
abbrev û:=@Go.Vp.iF
