/- Walks of package natural: guess -/
import Derived.Test.YtodpgjjgaddkeaaGreatDoorPk1
set_option maxHeartbeats 9999999
open Go renaming World->VO,Value->aaT,Calls->abB
set_option maxRecDepth 100000
namespace Go.Proofs.Vy
open _root_.Go.Proofs.Tryz
open Go.RowKit Na
variable{α:Type}
variable{r q V T x y V0 D0 qv:Nat}
abbrev iH(n:Nat)(h:n<18446744073709551616):IntKind.u64.wrap (n:Int)=(n:Int):=by rw[aEE]; omega
abbrev Sm(r x:Nat)(h:r<4294967296)(D:x<4294967296):bits .or .u64 ((r:Int)*4294967296) (x:Int)=((r*4294967296+x:Nat):Int):=by
 have e:((r:Int)*4294967296)=((r*4294967296:Nat):Int):=by simp
 rw[e,u64_or_nat _ _ Z Z,nat_join 32 _ _ Z Z]
abbrev Sr(D:q<4294967296)(J:V<4294967296):IntKind.u64.wrap ((q:Int)*(V:Int))=((q*V:Nat):Int):=by
 have h:=aE1 (show q<=4294967295 by omega) (show V<=4294967295 by omega);have e:(q:Int)*(V:Int)=((q*V:Nat):Int):=by simp
 rw[e,iH _ Z]
abbrev akv(h:(q+1)*V+r=T):q*V+(r+V)=T:=by rw[Nat.succ_mul]at h; omega
abbrev alB(h:x+r=T)(D:4294967296<=r)(J:y<=18446744073709551616)(D0:Nat):x*4294967296+y<=T*4294967296+D0:=by omega
abbrev ZI(D0:Nat)(h:q*V+r=T)(hr:4294967296<=r)(D:T<(V+1)*4294967296)(J:V0<=4294967296) :
  q<4294967296∧q*(V*4294967296+V0)<=T*4294967296+D0:=by
 have D:q<4294967296:=by
  rcases aD7 q 4294967296 with D | D
  .exact D
  have:=aEM V D;rw[aDW 4294967296 V]at this; omega
 refine⟨D,?_⟩;have S:q*V0<=4294967296*4294967296:=aE1 (aFc D) J;rw[aDE,<-aD2];exact alB h hr S D0
abbrev alC{rd:Nat}(h:x+r=T)(D:rd=r*4294967296+D0):(rd<y->T*4294967296+D0<x*4294967296+y)∧(¬rd<y->x*4294967296+y<=T*4294967296+D0):=by omega
abbrev apb{rd:Nat}(h:q*V+r=T)(D:qv=q*V0)(J:rd=r*4294967296+D0) :
  (rd<qv->T*4294967296+D0<q*(V*4294967296+V0))∧(¬rd<qv->q*(V*4294967296+V0)<=T*4294967296+D0)∧(q=0->qv=0):=by
 rw[aDE,<-aD2,<-D];obtain⟨S,h2⟩:=alC (y:=qv) h J;exact⟨S,h2,λh=>by rw[D,h,Nat.zero_mul]⟩
abbrev Np(D:qv=q*V)(J:q<4294967296)(S:V<4294967296):IntKind.u64.wrap ((q:Int)*(V:Int))=(qv:Int):=by rw[D]; exact Sr J S
abbrev abd{rd:Nat}(D:rd=r*4294967296+x)(h:r<4294967296)(J:x<4294967296):bits .or .u64 ((r:Int)*4294967296) (x:Int)=(rd:Int):=by rw[D]; exact Sm r x h J
abbrev Ii{w:VO}{a:Addr}{x:aaT}(h:w.cell? a=some x):a.block<w.heap.size:=by
 unfold World.cell? at h;rcases aD7 a.block w.heap.size with h' | h'
 .exact h'
 rw[Array.getElem?_eq_none h']at h; simp at h
abbrev abe(bu ou S bv ov cv m:Nat)(D D1 D0 J V0:Nat)(w:VO)(hm:m<=1000000000)
  (ao:D<4294967296) (ap:D1<4294967296) (aq:D0<4294967296) (a8:J<4294967296) (ar:V0<4294967296) (hV:2147483648<=J) (av:D<=J)
  (c2:w.cell? ⟨bu,ou+(m+2),none⟩=some (.int .u32 D)) (c1:w.cell? ⟨bu,ou+(m+1),none⟩=some (.int .u32 D1)) (c0:w.cell? ⟨bu,ou+m,none⟩=some (.int .u32 D0))
  (e1:w.cell? ⟨bv,ov+(m+1),none⟩=some (.int .u32 J)) (e0:w.cell? ⟨bv,ov+m,none⟩=some (.int .u32 V0)) :
  abB prog 324 #[.s (some ⟨bu,ou,none⟩) (m+3) S,.s (some ⟨bv,ov,none⟩) (m+2) cv] w λe w'=>∃q:Nat,e = .R (.int .u64 q)∧q<4294967296 ∧
   q*(J*4294967296+V0)<=(D*4294967296+D1)*4294967296+D0 ∧
   (q=(D*4294967296+D1)/J∨4294967296<=q+1∨(D*4294967296+D1)*4294967296+D0<(q+1)*(J*4294967296+V0))∧Ext w w':=by
 obtain⟨T,hT⟩:∃T,T=D*4294967296+D1:=⟨_,I⟩;have S:=Sm D D1 ao ap;rw[<-hT]at S |-;have af:T<(J+1)*4294967296:=by have:=aEM 4294967296 av; omega
 obtain⟨S,hQ⟩:∃Q,Q=T/J:=⟨_,I⟩;obtain⟨R0,hR⟩:∃R,R=T%J:=⟨_,I⟩;have aw:R0<J:=by rw[hR]; exact aEF _ Z
 have ag:S*J+R0=T:=by rw[hQ,hR,aDW]; exact Nat.div_add_mod T J
 have ax:(T:Int)/(J:Int)=(S:Int):=by rw[hQ]; rfl
 have am:(T:Int)%(J:Int)=(R0:Int):=by rw[hR]; rfl
 have ay:S<8589934592:=by
  rcases aD7 S 8589934592 with h | h
  .exact h
  have:=aE1 h hV; omega
 have az:=iH S Z;have w2:=iH D Z;have w1:=iH D1 Z;have w0:=iH D0 Z;have x1:=iH J Z;have x0:=iH V0 Z;have D:=aC8 hT;have D:=aC8 hQ;have D:=aC8 ag;rw[<-hQ];have a3:(1:Int)<=J:=Z
 have a4:(0:Int)<=T:=Z
 clear hT hQ hR ag;go_enter func324,ntmps324
 go_wp2_with fail
 go_quiet (fail)
 go_wp2_with fail
 go_quiet (fail)
 go_wp2_with fail
 go_loopw [7,8] (λqv rv wr=>∃q r:Nat,qv = .int .u64 q∧rv = .int .u64 r∧q<=S∧q*J+r=T∧r<4294967296 ∧
  (q=S∨4294967296<=q+1∨T*4294967296+D0<(q+1)*(J*4294967296+V0))∧Ext w wr) (λ_ rv _=>8589934592-(intOf rv).toNat)
 case atStart=>exact⟨S,R0,I,by rw[am],aDd _,D.out,Z,.inl I,below_drewN (below_drewN (aDC _ _) _) _⟩
 case round =>
  obtain⟨q,r,rfl,rfl,a7,S,hr,al,D⟩:=hrel;have d0:wr.cell? ⟨bu,ou+m,none⟩=some (.int .u32 D0):=(D.cell (p:=⟨bu,ou+m,none⟩) (Ii c0)).trans c0;have f1:wr.cell? ⟨bv,ov+(m+1),none⟩=some (.int .u32 J):=(D.cell (p:=⟨bv,ov+(m+1),none⟩) (Ii e1)).trans e1;have f0:wr.cell? ⟨bv,ov+m,none⟩=some (.int .u32 V0):=(D.cell (p:=⟨bv,ov+m,none⟩) (Ii e0)).trans e0;have a5:q<8589934592:=Z
  have an:=aC8 al;have HE:=aC8 S;clear al S c0 e1 e0;by_cases hqB:4294967296<=q
  .have t1:((q:Int)/4294967296 != 0)=true:=by rw[bne_iff_ne]; omega
   obtain⟨S,rfl⟩:∃S,q=S+1:=⟨q-1,Z⟩;have ab:=akv HE.out;have t1:(((S:Int)+1)/4294967296 != 0)=true:=by rw[bne_iff_ne]; omega
   have aa:=aC8 ab;have ah:4294967296<=S+1:=hqB;clear ab;go_wp2_with fail
   go_quiet (fail)
   go_wp2_with fail
   .have t3 := ‹(((r:Int)+(J:Int))/4294967296 != 0)=true›;rw[bne_iff_ne]at t3;obtain⟨h1,h2⟩:=ZI (V0:=V0) D0 aa.out Z af Z;go_ret
    exact⟨S,by go_num,h1,h2,.inr (.inl ah),below_drewN D _⟩
   have t3 := ‹(((r:Int)+(J:Int))/4294967296 != 0)=false›;rw[bne_eq_false_iff_eq]at t3;go_roundw
   case rel=>exact⟨S,r+J,by go_num,by go_num,Z,aa.out,Z,.inr (.inl ah),below_drewN D _⟩
   case measure=>simp[intOf]; omega
  have t1:((q:Int)/4294967296 != 0)=false:=by rw[bne_eq_false_iff_eq]; omega
  obtain⟨qv,ac⟩:∃qv,qv=q*V0:=⟨_,I⟩;obtain⟨rd,ae⟩:∃rd,rd=r*4294967296+D0:=⟨_,I⟩;have ai:=Np ac (show q<4294967296 by omega) ar;have a6:=abd ae hr aq;have HB:=aC8 (apb HE.out ac ae);clear ac ae;by_cases hgt:rd<qv
  .have t2:(rd:Int)<qv:=Z
   obtain⟨S,rfl⟩:∃S,q=S+1:=by
    cases q with
    | zero=>exfalso; have:=HB.out.2.2 I; omega
    | succ S=>exact⟨S,I⟩
   have t1:(((S:Int)+1)/4294967296 != 0)=false:=by rw[bne_eq_false_iff_eq]; omega
   have ai:IntKind.u64.wrap (((S:Int)+1)*(V0:Int))=(qv:Int):=by have:=ai; simpa using this
   have aa:=aC8 (akv HE.out);go_wp2_with fail
   go_quiet (fail)
   go_wp2_with fail
   .have t3 := ‹(((r:Int)+(J:Int))/4294967296 != 0)=true›;rw[bne_iff_ne]at t3;obtain⟨h1,h2⟩:=ZI (V0:=V0) D0 aa.out Z af Z;go_ret
    exact⟨S,by go_num,h1,h2,.inr (.inr (HB.out.1 hgt)),below_drewN D _⟩
   have t3 := ‹(((r:Int)+(J:Int))/4294967296 != 0)=false›;rw[bne_eq_false_iff_eq]at t3;go_roundw
   case rel=>exact⟨S,r+J,by go_num,by go_num,Z,aa.out,Z,.inr (.inr (HB.out.1 hgt)),below_drewN D _⟩
   case measure=>simp[intOf]; omega
  have t2:¬(rd:Int)<qv:=Z
  go_wp2_with fail
  go_quiet (fail)
  go_wp2_with fail
  go_ret
  exact⟨q,I,Z,HB.out.2.1 hgt,an.out,below_drewN D _⟩
open Go.RowKit Na
variable{α:Type}
def seg(l:List UInt32)(k i:Nat):List UInt32:=(l.drop k).take i
abbrev ah5(l:List UInt32)(k i:Nat)(x:UInt32)(h:k+i<l.length):seg (l.set (k+i) x) k (i+1)=seg l k i++[x]:=by
 unfold seg;apply List.ext_getElem
 .simp; omega
 intro j D J;simp only[aFC,List.getElem_drop,List.getElem_set];rcases aD7 j i with J | J
 .rw[aC9 Z,List.getElem_append_left (by simp; omega)]; simp
 have:j=i:=by simp at D; omega
 subst this;rw[aDb I,List.getElem_append_right (by simp; omega)]; simp
abbrev seg_length(l:List UInt32)(k i:Nat)(h:k+i<=l.length):(seg l k i).length=i:=by unfold seg; simp; omega
abbrev kJ(l:List UInt32)(k i:Nat)(h:k+i<l.length):TP (seg l k (i+1))=TP (seg l k i)+Hw^i*l[k+i].toNat:=by
 unfold seg;rw[Na.dF _ _ (by simp; omega)]; simp
abbrev rO(l:List UInt32)(k i:Nat)(x:UInt32)(h:k+i<l.length):TP (seg (l.set (k+i) x) k (i+1))=TP (seg l k i)+Hw^i*x.toNat:=by
 rw[ah5 l k i x h,Na.jC,seg_length _ _ _ Z]
def Turned(D ws:List UInt32)(k i:Nat):Prop:=ws.length=D.length∧ws.take k=D.take k∧ws.drop (k+i)=D.drop (k+i)
abbrev Turned.refl(D:List UInt32)(k i:Nat):Turned D D k i:=⟨I,I,I⟩
abbrev Turned.set{D ws:List UInt32}{k i:Nat}(h:Turned D ws k i)(x:UInt32):Turned D (ws.set (k+i) x) k (i+1):=by
 obtain⟨J,S,h3⟩:=h;refine⟨by simp[J],?_,?_⟩
 .rw[List.take_set_of_le Z,S]
 rw[List.drop_set_of_lt Z];have:ws.drop (k+i+1)=D.drop (k+i+1):=by rw[<-aFd,h3,aFd]
 exact this
abbrev Turned.get{D ws:List UInt32}{k i:Nat}(h:Turned D ws k i)(hl:k+i<D.length):ws[k+i]'(by rw[h.1]; exact hl)=D[k+i]:=by
 have D:=aDc (λl=>l[0]?) h.2.2;have J:=h.1;simp only[List.getElem?_drop,aFe]at D;rw[List.getElem?_eq_getElem Z,List.getElem?_eq_getElem hl]at D;exact aDo D
abbrev WR{A W D Q c S U s lo x J:Nat}(E:Nat)(h:A+E*(c+S)=W+Q*D)(y:Nat)(hs:s=c+Q*y)(aa:lo=s%Hw)(hu:U+Hw*J=x+lo+S) :
  A+E*U+E*Hw*(s/Hw+J)=W+E*x+Q*(D+E*y):=by
 have h1:=aES s Hw;rw[<-aa]at h1;have e1:Q*(D+E*y)=Q*D+E*(Q*y):=by rw[aDE,aFv]
 have D:E*Hw*(s/Hw+J)=E*(Hw*(s/Hw))+E*(Hw*J):=by rw[aDE,aD2,aD2]
 have e3:E*U+E*(Hw*J)=E*x+E*lo+E*S:=by rw[<-aDE,hu,aDE,aDE]
 have J:E*lo+E*(Hw*(s/Hw))=E*c+E*(Q*y):=by rw[<-aDE,h1,hs,aDE]
 rw[aDE]at h;rw[e1,D];omega
abbrev Ij(U lo D:Nat)(hU:U<4294967296)(aa:lo<4294967296)(ab:D<=1):∃J x S:Nat,IntKind.u64.wrap (IntKind.u64.wrap ((U:Int)-(lo:Int))-(D:Int))=(J:Int) ∧
  (J:Int)%4294967296=(x:Int)∧(J:Int)/9223372036854775808=(S:Int)∧S<=1∧x<4294967296∧U+Hw*S=x+lo+D:=by
 rw[aEE,aEE];unfold Hw;by_cases h:lo+D<=U
 .exact⟨U-lo-D,U-lo-D,0,Z,Z,Z,Z,Z,Z⟩
 exact⟨U+18446744073709551616-lo-D,U+4294967296-lo-D,1,Z,Z,Z,Z,Z,Z⟩
abbrev adY(s:Nat)(D:s<18446744073709551616):bits .and .u64 (s:Int) 4294967295=((s%Hw:Nat):Int):=by
 have:=u64_and_nat s 4294967295 D Z;rw[show((4294967295:Nat):Int)=4294967295 from rfl]at this;rw[this,nat_mask32]; rfl
abbrev Ik(w:VO)(row:Option Nat):w.grownBy w row:=⟨I,I,I,aDd _,λ_ _ _=>rfl⟩
abbrev wV{a b c:VO}{row:Option Nat}(D:a.grownBy b row)(S:b.grownBy c row):a.grownBy c row:=
 ⟨S.os.trans D.os,S.tape.trans D.tape,S.output.trans D.output,aDy D.size S.size,λk hk J=>(S.block k (aDL hk D.size) J).trans (D.block k hk J)⟩
abbrev take_any(g k n N cp cap:Nat)(S ys:List UInt32)(bv ov cv Q:Nat)(w0 w:VO)(hn:ys.length=n)(hN:S.length=N)(hk:k+n+1<=N)(D:N<=1000000000)(hQ:Q<4294967296)
  (hv:∀i (h:i<ys.length),w0.cell? ⟨bv,ov+i,none⟩=some (bC ys[i])) (a5:bv<w0.heap.size)
  (D:w.ownsRow w0.heap.size 119 1 (.s (some ⟨g,0,none⟩) N cap) N (S.map bC)) (J:Below w0.heap.size w0 w) :
  abB prog 325 #[.s (some ⟨g,k,none⟩) (n+1) cp,.s (some ⟨bv,ov,none⟩) n cv,.int .u64 Q] w λe w'=>∃(neg:Bool) (ws:List UInt32),e = .R (.b neg) ∧
   Turned S ws k (n+1)∧TP (seg S k (n+1))+(if neg then Hw^(n+1)else 0)=TP (seg ws k (n+1))+Q*TP ys ∧
   w'.ownsRow w0.heap.size 119 1 (.s (some ⟨g,0,none⟩) N cap) N (ws.map bC)∧Below w0.heap.size w0 w'∧w.grownBy w' (some g):=by
 have al:w0.heap.size<=g:=(D.lt g I).1;have HV:=aC8 hv;have HN:=aC8 hn;have am:=aC8 hN;have HO:=aC8 D;clear hv hn hN D;go_enter func325,ntmps325
 go_wp2_with fail
 go_loopw [7,8,15] (λcv bv iv wr=>∃(i c bo:Nat) (ws:List UInt32),i<=n∧iv = .i i∧cv = .int .u64 c∧bv = .int .u64 bo∧c<4294967296∧bo<=1∧Turned S ws k i ∧
  TP (seg S k i)+Hw^i*(c+bo)=TP (seg ws k i)+Q*TP (ys.take i) ∧
  wr.ownsRow w0.heap.size 119 1 (.s (some ⟨g,0,none⟩) N cap) N (ws.map bC)∧Below w0.heap.size w0 wr∧w.grownBy wr (some g)) (λ_ _ iv _=>n-(intOf iv).toNat)
 case atStart=>exact⟨0,0,0,S,Z,I,I,I,Z,Z,Turned.refl _ _ _,by simp[seg,TP],HO.out,J,Ik _ _⟩
 case round =>
  obtain⟨i,c,bo,ws,hi,rfl,rfl,rfl,hc,an,ao,ag,D,J,ap⟩:=hrel;have qA:=aC8 ag;have aa:=aC8 ao;have HW:=aC8 D;clear ag ao D HO;have D:=aa.out.1;by_cases hlt:i<n
  .have hyl:i<ys.length:=by rw[HN.out]; exact hlt
   have D:wr.cell? ⟨bv,ov+i,none⟩=some (bC ys[i]):=by rw[J.cell (p:=⟨bv,ov+i,none⟩) a5]; exact HV.out i hyl
   have Sv:k+i<S.length:=by rw[am.out]; omega
   have hu:wr.cell? ⟨g,k+i,none⟩=some (bC S[k+i]):=by
    rw[HW.out.cellAt (k+i) Z,List.getElem?_map,List.getElem?_eq_getElem Z,aD3,aa.out.get Sv]
   have ar:=HW.out.frozenAt (k+i);have HY:=aC8 (Na.dF ys i hyl);have HU:=aC8 (kJ S k i Sv);generalize ys[i]=y at D HY;generalize S[k+i]=U at hu HU;have g1:=y.toNat_lt;have g2:=U.toNat_lt;have D:=ig y;have u0:=ig U;obtain⟨qy,D⟩:∃qy,qy=Q*y.toNat:=⟨_,I⟩;have a6:=Np D hQ g1;have av:qy<=18446744065119617025:=by rw[D]; exact aE1 (show Q<=4294967295 by omega) (show y.toNat<=4294967295 by omega)
   obtain⟨s,hs⟩:∃s,s=c+qy:=⟨_,I⟩;have a7:IntKind.u64.wrap ((c:Int)+(qy:Int))=(s:Int):=by rw[hs,<-iH (c+qy) Z]; simp
   have ah:s<18446744073709551616:=Z
   obtain⟨lo,ae⟩:∃lo,lo=s%Hw:=⟨_,I⟩;have a8:bits .and .u64 (s:Int) 4294967295=(lo:Int):=by rw[ae]; exact adY s ah
   have aw:lo<4294967296:=by rw[ae]; exact aEF _ O
   obtain⟨a3,x,RX,hZ,hx,a4,aq,ab,ac⟩:=Ij U.toNat lo bo g2 aw an;obtain⟨c',af⟩:∃c',c'=s/Hw:=⟨_,I⟩;have a9:(s:Int)/4294967296=(c':Int):=by rw[af]; simp[Hw]
   have ax:c'<4294967296:=by rw[af]; exact aFw ah
   rw[D]at hs;have HS:=aC8 hs;have ay:=aC8 ae;have HC:=aC8 af;have ai:=aC8 ac;clear D hs ae af ac av ah;go_wp2_with fail
   go_roundw
   case rel =>
    have D:=(HW.out.stored (k+i) (bC (UInt32.ofNat x))).1;rw[<-aE2]at D;have az:=(HW.out.stored (k+i) (Value.int .u32 (x:Int))).2;refine⟨i+1,c',RX,ws.set (k+i) (UInt32.ofNat x),Z,by go_num,I,I,ax,aq,aa.out.set _,?_,?_,?_,wV ap az⟩
    .rw[HU.out,HY.out,rO _ _ _ _ Z,dn ab,HC.out,aDY];exact WR (Hw^i) qA.out y.toNat HS.out ay.out ai.out
    .simpa[bC,dn ab]using D
    exact J.setCell (p:=⟨g,k+i,none⟩) al _
   case measure=>simp[intOf]; omega
  obtain rfl:i=n:=by omega
  have Sv:k+i<S.length:=by rw[am.out]; omega
  have hu:wr.cell? ⟨g,k+i,none⟩=some (bC S[k+i]):=by
   rw[HW.out.cellAt (k+i) Z,List.getElem?_map,List.getElem?_eq_getElem Z,aD3,aa.out.get Sv]
  have ar:=HW.out.frozenAt (k+i);have HU:=aC8 (kJ S k i Sv);generalize S[k+i]=U at hu HU;have g2:=U.toNat_lt;have u0:=ig U;obtain⟨a3,x,RX,hZ,hx,a4,aq,ab,ac⟩:=Ij U.toNat c bo g2 hc an;have ai:=aC8 ac;clear ac;go_wp2_with fail
  go_ret
  have D:=(HW.out.stored (k+i) (bC (UInt32.ofNat x))).1;rw[<-aE2]at D;refine⟨((RX:Int) != 0),ws.set (k+i) (UInt32.ofNat x),I,aa.out.set _,?_,by simpa[bC,dn ab]using D,J.setCell (p:=⟨g,k+i,none⟩) al _,wV ap (HW.out.stored (k+i) (Value.int .u32 (x:Int))).2⟩;have hv:=qA.out;rw[<-HN.out,aEc,HN.out]at hv;rw[HU.out,rO _ _ _ _ Z,dn ab,aDY];have D:=ai.out;have e:(if ((RX:Int) != 0)=true then Hw^i*Hw else 0)=Hw^i*(Hw*RX):=by
   rcases(show RX=0∨RX=1 by omega)with rfl | rfl<;>simp
  rw[e];have J:Hw^i*U.toNat+Hw^i*(Hw*RX)=Hw^i*x+Hw^i*(c+bo):=by rw[<-aDE,D,<-aDE]; congr 1; omega
  omega
set_option linter.unusedVariables false
set_option linter.unusedSimpArgs false
variable{ut ws:List UInt32}{V j A W c U:Nat}
abbrev Sz(l:List UInt32)(k i:Nat)(h:k+i<=l.length):TP (l.drop k)=TP (seg l k i)+Hw^i*TP (l.drop (k+i)):=by
 unfold seg;rw[jf (l.drop k) i (by simp; omega),aFd]
abbrev WS(vs ut:List UInt32)(n j:Nat)(J:vs.length=n+2)(D:j+n+3<=ut.length)(aa:TP (ut.drop (j+1))<TP vs) :
  TP (seg ut j (n+3))=TP (ut.drop j)∧TP (ut.drop (j+(n+3)))=0∧TP (ut.drop j)<Hw*TP vs ∧
  (ut[j+(n+2)]'Z).toNat<=(vs[n+1]'Z).toNat ∧
  (∃L,L<Hw^n∧TP (ut.drop j)=L+Hw^n*((ut[j+n]'Z).toNat+Hw*(ut[j+(n+1)]'Z).toNat+Hw*Hw*(ut[j+(n+2)]'Z).toNat)) ∧
  (∃M,M<Hw^n∧TP vs=M+Hw^n*((vs[n]'Z).toNat+Hw*(vs[n+1]'Z).toNat)):=by
 have D:=Na.dU vs;rw[J]at D;have hd:=oh ut j Z;have S:=(ut[j]'Z).toNat_lt;have J:TP (ut.drop j)<Hw*TP vs:=by
  have h1:Hw*(TP (ut.drop (j+1))+1)<=Hw*TP vs:=aDZ _ aa;rw[aEN]at h1;have:(ut[j]'Z).toNat<Hw:=S;omega
 have S:=Sz ut j (n+3) Z;have hz:TP (ut.drop (j+(n+3)))=0:=by
  rcases aD0 (TP (ut.drop (j+(n+3))))with h | h
  .exact h
  have h1:Hw^(n+3)*1<=Hw^(n+3)*TP (ut.drop (j+(n+3))):=aDZ _ h;have h2:Hw*TP vs<Hw*Hw^(n+2):=aGb D Na.kQ;rw[aDW Hw (Hw^(n+2)),<-aDY]at h2;have D:Hw*TP vs<Hw^(n+3):=h2;omega
 rw[hz,Nat.mul_zero,aFe]at S;have s2:=kJ ut j (n+2) Z;have s1:=kJ ut j (n+1) Z;have s0:=kJ ut j n Z;have l0:=Na.dU (seg ut j n);have l2:=Na.dU (seg ut j (n+2));rw[seg_length _ _ _ Z]at l0 l2;have t1:=Na.dF vs (n+1) Z;have t0:=Na.dF vs n Z;rw[aDG Z]at t1;have m0:=Na.dU (vs.take n);have m1:=Na.dU (vs.take (n+1));have e0:(vs.take n).length=n:=by simp; omega
 have e1:(vs.take (n+1)).length=n+1:=by simp; omega
 rw[e0]at m0;rw[e1]at m1;refine⟨S.symm,hz,J,?_,⟨TP (seg ut j n),l0,?_⟩,⟨TP (vs.take n),m0,?_⟩⟩
 ·
  rw[S,s2]at J;generalize (ut[j+(n+2)]'Z).toNat=D2 at *;generalize (vs[n+1]'Z).toNat=V1 at *;have h1:Hw*TP vs<Hw^(n+2)*(V1+1):=by
   have h2:TP vs<Hw^(n+1)*(V1+1):=by rw[t1,aEN]; omega
   have D:Hw*TP vs<Hw*(Hw^(n+1)*(V1+1)):=aGb h2 Na.kQ;rw[<-aD2,aDW Hw (Hw^(n+1)),<-aDY]at D;exact D
  have D:Hw^(n+2)*D2<Hw^(n+2)*(V1+1):=Z
  exact aF3 (aGc D)
 .have ep1:Hw^(n+1)=Hw^n*Hw:=aDY _ _;have D:Hw^(n+2)=Hw^n*Hw*Hw:=by rw[aDY,aDY]
  rw[S,s2,s1,s0,D,ep1,aDE,aDE,aD2 (Hw^n) Hw (ut[j+(n+1)]'Z).toNat,aD2 (Hw^n) Hw Hw,aD2 (Hw^n) (Hw*Hw)];omega
 rw[t1,t0,aDY,aDE,<-aD2];omega
abbrev adZ{D:List UInt32}{Q q:Nat}(hU:TP D=TP ut+Hw^(j+1)*(V*Q))(hl:ws.length=ut.length)(S:j<=ut.length)(ht:ws.take j=ut.take j)
  (hw:TP (ws.drop j)=TP (ut.drop j)%V) (hq:q=TP (ut.drop j)/V):TP D=TP ws+Hw^j*(V*(q+Hw*Q)):=by
 have J:=jf ut j S;have D:=jf ws j Z;rw[ht,hw]at D;have S:=aES (TP (ut.drop j)) V;rw[<-hq]at S;rw[hU,J,D];generalize TP (ut.drop j)%V=r at *;generalize TP (ut.drop j)=P at *;generalize TP (ut.take j)=A at *;clear hU J D hw hq;subst S;rw[aDE (Hw^j) r,aDE V q,aFv V Hw Q,aDE (Hw^j) (V*q),aDY,aD2 (Hw^j) Hw];omega
abbrev Fh{i:Nat}(h:Turned ut ws j i)(hl:j+i<=ut.length)(D:TP (ut.drop (j+i))=0):TP (ws.drop j)=TP (seg ws j i):=by
 rw[Sz ws j i (by rw[h.1]; exact hl),h.2.2,D]; simp
abbrev ad1(c U y:Nat)(D:c<=1)(J:U<4294967296)(S:y<4294967296) :
  ((c:Int)+((U:Int)+(y:Int)))/4294967296=(((c+(U+y))/Hw:Nat):Int)∧((c:Int)+((U:Int)+(y:Int)))%4294967296=(((c+(U+y))%Hw:Nat):Int) ∧
  (c+(U+y))%Hw<4294967296∧(c+(U+y))/Hw<=1:=by
 unfold Hw;refine⟨Z,Z,Z,Z⟩
abbrev abf{D y:Nat}(E:Nat)(h:A+E*c=W+D):A+E*((c+(U+y))%Hw)+E*Hw*((c+(U+y))/Hw)=W+E*U+(D+E*y):=by
 have D:=aES (c+(U+y)) Hw;have J:E*((c+(U+y))%Hw)+E*Hw*((c+(U+y))/Hw)=E*c+(E*U+E*y):=by
  rw[aD2,<-aDE,D,aDE,aDE]
 omega
abbrev ad2{R E x:Nat}(h:A+E*c=W+V)(D:x=W+E*U)(J:x+V=E*Hw+R)(hA:A<E)(S:R<E)(hU:U<4294967296)(hc:c<=1) :
  A+E*((U+c)%Hw)=R:=by
 subst D;have D:A+E*(U+c)=E*Hw+R:=by rw[aDE]; omega
 have J:U+c=Hw:=by
  rcases aFU (U+c) Hw with h | h | h
  .have h3:E*(U+c)+E<=E*Hw:=by rw[<-aEN]; exact aDZ _ h
   omega
  .exact h
  have hB:Hw=4294967296:=I;omega
 rw[J]at D |-;rw[Nat.mod_self]; omega
open Go.RowKit Na
variable{α:Type}
abbrev Il(n:Nat)(w:VO)(hn:n<4294967296*4294967296) :
  abB prog 294 #[.int .u64 (n:Int)] w λe w'=>∃D,e = .R D ∧
   w'.ownsRow w.heap.size 119 1 D (Ro n).length ((Ro n).map bC)∧Ext w w':=by
 have h:=qQ (UInt64.ofNat n) w;have e:(UInt64.ofNat n).toNat=n:=by simp; omega
 unfold ah7 at h;rw[e]at h;exact h
abbrev wW{a b:Nat}(h:b<=a):¬rH a b<0:=by unfold rH; rw[aC9 Z]; split<;>omega
abbrev ad3{a b:Nat}(h:a<b):rH a b<0:=by rw[CG h]; omega
abbrev oO{n:Nat}(h:(Ro n).length=0):n=0:=lG.1 (aEA h)
abbrev SA(v u:aaT)(l m:List UInt32)(w:VO)(hv:aG w v l)(hu:aG w u m)(J:TP l<TP m)(D:l.length<=1000000000) :
  abB prog 293 #[v,u] w λe w'=>∃r,e = .R (.tuple #[.sn,r,.i 0])∧aG w' r (Ro (TP l))∧Ext w w':=by
 have C1:=aC8 (short_any v l w hv);have C2:=aC8 (short_any u m w hu);have D:0<(Ro (TP m)).length:=by
  rcases aD0 (Ro (TP m)).length with h | h
  .have:=oO h; omega
  exact h
 have D:=ad3 J;have ea:=NP (TP l);have S:=NP (TP m);have aa:=dA l;rw[<-ea,<-S]at D;clear hv hu J;generalize Ro (TP l)=a at *;generalize Ro (TP m)=b at *;have J:=aC8 ea;have J:=aC8 S;clear ea S;have J:((b.length:Int)==0)=false:=by rw[aDH]; omega
 go_enter func293,ntmps293
 go_wp2_with fail
 refine C1.out.mono ?_;rintro e w' ⟨x,rfl,S,rfl⟩;go_wp2_with fail
 refine C2.out.mono ?_;rintro e w' ⟨y,rfl,J,rfl⟩;go_wp2_with fail
 refine(CJ _ _ a b _ S J).mono ?_;rintro e w1 ⟨rfl,J⟩;generalize rH (TP a) (TP b)=c at D |-;go_wp2_with fail
 refine(ZJ _ a _ (S.below J) Z).mono ?_;rintro e w2 ⟨r,rfl,D,S⟩;have hr:=bD D;clear D;go_wp2_with fail
 go_ret3
 exact⟨_,I,hr,K00 J S⟩
abbrev WT(v u:aaT)(l m:List UInt32)(d:UInt32)(w:VO)(hv:aG w v l)(hu:aG w u m)(hd:Ro (TP m)=[d])(S:TP m<=TP l)(D:l.length<=1000000000) :
  abB prog 293 #[v,u] w λe w'=>∃q r,e = .R (.tuple #[q,r,.i 0])∧aG w' q (Ro (TP l/TP m))∧aG w' r (Ro (TP l%TP m))∧Ext w w':=by
 have C1:=aC8 (short_any v l w hv);have C2:=aC8 (short_any u m w hu);have eb:=NP (TP m);have ed:TP m=d.toNat:=by rw[<-eb,hd]; simp[TP]
 have J:0<d.toNat:=by
  rcases aD0 d.toNat with h | h
  .rw[h]at ed; rw[ed]at hd; simp[Ro,Na.lH]at hd
  exact h
 have D:=wW S;have ea:=NP (TP l);have af:=dA l;rw[ed]at D |-;rw[hd]at C2;rw[<-ea]at D;rw[<-ea];clear hv hu S eb;generalize Ro (TP l)=a at *;have S:=aC8 ea;clear ea;have S:¬rH (TP a) (TP [d])<0:=by simpa[TP]using D
 have ON:=λw v h=>aC8 (one_any v a d w h J Z);clear D ed hd;have D:=d.toNat_lt;have D:TP a%d.toNat<4294967296:=by have:=aEF (TP a) J; omega
 go_enter func293,ntmps293
 go_wp2_with fail
 refine C1.out.mono ?_;rintro e w' ⟨x,rfl,hx,rfl⟩;go_wp2_with fail
 refine C2.out.mono ?_;rintro e w' ⟨y,rfl,hy,rfl⟩;obtain⟨aa,oy,cy,D,ac,ah,ai,J⟩:=dP hy I Y;simp only[aDO]at D;obtain⟨rfl,-,-⟩:=D;have D:=J 0 Y;simp only[aFe,aFV]at D;clear J;rw[show([d]:List UInt32).length=1 from rfl]at hy |-;go_wp2_with fail
 refine(CJ _ _ a [d] _ hx hy).mono ?_;rintro e w1 ⟨rfl,J⟩;have ag:w1.cell? ⟨aa,oy,none⟩=some (bC d):=(J.cell (p:=⟨aa,oy,none⟩) ac).trans D;generalize rH (TP a) (TP [d])=c at S |-;clear D;go_wp2_with fail
 refine(ON _ _ (hx.below J)).out.mono ?_;rintro e S ⟨q,rfl,hq,ae⟩;have D:IntKind.u64.wrap ((TP a%d.toNat:Nat):Int)=((TP a%d.toNat:Nat):Int):=iH _ Z;have D:=aC8 (Il (TP a%d.toNat) S Z);generalize hrm:TP a%d.toNat=rm at *;have ab:=aC8 hrm;clear hrm;go_wp2_with fail
 refine D.out.mono ?_;rintro e w3 ⟨r,rfl,D,S⟩;have hr:=bD D;clear D;go_wp2_with fail
 go_ret3
 exact⟨_,_,I,hq.below S,by rw[ab.out]; exact hr,K00 J (K00 ae S)⟩
open Go.RowKit Na
variable{α:Type}
abbrev Turned.trans{S ws ts:List UInt32}{k i:Nat}(D:Turned S ws k i)(J:Turned ws ts k i):Turned S ts k i:=
 ⟨J.1.trans D.1,J.2.1.trans D.2.1,J.2.2.trans D.2.2⟩
abbrev ah8{a b U V P q r:Nat}(D:U=a*P)(J:V=b*P)(h:U=r+V*q)(S:r<V)(hP:0<P):q=a/b∧r/P=a%b:=by
 subst D J;have D:b*q*P<=a*P:=by rw[Nat.mul_right_comm]; omega
 have J:=Nat.le_of_mul_le_mul_right D hP;obtain⟨s,rfl⟩:∃s,a=s+b*q:=⟨a-b*q,Z⟩;have D:r=s*P:=by rw[aEO,Nat.mul_right_comm b q P]at h; omega
 subst D;have D:s<b:=Nat.lt_of_mul_lt_mul_right S;rw[Nat.mul_div_cancel _ hP,aFW _ _ Z,Nat.add_mul_mod_self_left,aFX D,aFf D];exact⟨Z,I⟩
abbrev LH(v:aaT)(l:List UInt32)(p:Nat)(w:VO)(hv:aG w v l)(aa:p<=31)(D:l.length<=1000000000) :
  abB prog 323 #[v,.i (-(p:Int))] w λe w'=>∃J,e = .R J∧aG w' J (Ro (TP l/2^p))∧Ext w w':=by
 rcases aD0 p with rfl | hp
 .have h:=Aq v l 0 w hv Z D;refine h.mono ?_;rintro e w' ⟨a,rfl,J,S⟩;simp only[Nat.pow_zero,Nat.mul_one,Nat.div_one]at J |-;exact⟨_,I,J,S⟩
 refine(WU v l p w hv hp aa D).mono ?_;rintro e w' ⟨a,rfl,J,S⟩;exact⟨_,I,J,S⟩
abbrev abg(b:List UInt32)(m:Nat)(S:b.length=m+1)(hn:Na.norm b):∃p:Nat,(32:Int)-(Lib.bitLen (b[m]'Z).toNat:Int)=(p:Int)∧p<=31 ∧
  (Ro (TP b*2^p)).length=m+1∧∀(h:m<(Ro (TP b*2^p)).length),2147483648<=((Ro (TP b*2^p))[m]).toNat:=by
 have D:b[m]'Z≠0:=by
  have:=Na.uP hn Z;simpa[S]using this
 have J:=Na.dF b m Z;rw[<-S,aEc]at J;have S:=Na.dU (b.take m);have e2:(b.take m).length=m:=by simp; omega
 rw[e2]at S;generalize b[m]'Z=x at *;have hb:1<=Lib.bitLen x.toNat∧2^(Lib.bitLen x.toNat-1)<=x.toNat∧x.toNat<2^Lib.bitLen x.toNat:=
  Lib.bitLenAux_bounds 64 _ (by have:=x.toNat_lt; omega) (λe=>D (aET.1 (by simpa using e)))
 have D:=Lib.bitLen_le x.toNat 32 Z x.toNat_lt;generalize Lib.bitLen x.toNat=c at *;refine⟨32-c,Z,Z,?_⟩;have S:2147483648<=x.toNat*2^(32-c):=by
  have D:2^(c-1)*2^(32-c)=2147483648:=by rw[<-aFg,show c-1+(32-c)=31 by omega]
  rw[<-D]; exact aEM _ hb.2.1
 have aa:(x.toNat+1)*2^(32-c)<=Hw:=by
  have D:2^c*2^(32-c)=Hw:=by rw[<-aFg,show c+(32-c)=32 by omega]; rfl
  rw[<-D]; exact aEM _ hb.2.2
 have ab:0<2^(32-c):=aEP _;generalize 2^(32-c)=P at *;have ae:Hw^m*2147483648<=TP b*P:=by
  rw[J,aEO,aD2];have:=aDZ (Hw^m) S;omega
 have S:TP b*P<Hw^(m+1):=by
  have D:TP b<Hw^m*(x.toNat+1):=by rw[J,aEN]; omega
  have J:TP b*P<Hw^m*(x.toNat+1)*P:=aGd D ab;have h3:=aDZ (Hw^m) aa;rw[aDY];rw[aD2]at J;omega
 have hd:=NP (TP b*P);have ac:=Na.iq (TP b*P);generalize TP b*P=V at *;generalize Ro V=l at *;have af:0<Hw^m:=aFM Na.kQ;have hll:l.length=m+1:=by
  have D:=Na.length_le ac (by rw[hd]; exact S);rcases aD7 l.length (m+1)with h | h
  .have J:=Na.dU l;have h3:Hw^l.length<=Hw^m:=aEm Na.kQ Z;have S:Hw^m*1<=Hw^m*2147483648:=aDZ _ Z;rw[hd]at J;omega
  omega
 refine⟨hll,λh=>?_⟩;have D:=Na.dF l m h;rw[<-hll,aEc,hd]at D;have J:=Na.dU (l.take m);have h3:(l.take m).length=m:=by simp; omega
 rw[h3]at J;rcases aD7 (l[m]).toNat 2147483648 with S | S
 .have h5:Hw^m*((l[m]).toNat+1)<=Hw^m*2147483648:=aDZ _ S;rw[aEN]at h5;omega
 exact S
abbrev WV{a b:List UInt32}(D:Na.norm b)(h:TP b<=TP a):b.length<=a.length:=Na.length_le D (aFD h (Na.dU a))
abbrev abh(a:List UInt32)(p:Nat)(D:p<=31)(hn:Na.norm a):a.length<=(Ro (TP a*2^p)).length∧(Ro (TP a*2^p)).length<=a.length+1:=by
 have J:=Na.dU a;have hP:0<2^p:=aEP p;have D:2^p<=Hw:=aDy (aEm Z (show p<=32 by omega)) (aDd _);constructor
 .rcases aD7 (Ro (TP a*2^p)).length a.length with h | h
  .exfalso;have S:=Na.dU (Ro (TP a*2^p));rw[NP]at S;have S:=Na.Ee hn Z;have S:Hw^(Ro (TP a*2^p)).length<=Hw^(a.length-1):=aEm Na.kQ Z;have S:TP a*1<=TP a*2^p:=aDZ _ hP;omega
  exact h
 apply Na.bK;rw[aDY];exact aDL (aGd J hP) (aDZ _ D)
abbrev SB(v u:aaT)(l m:List UInt32)(n:Nat)(w:VO)(hv:aG w v l)(hu:aG w u m)(hn:(Ro (TP m)).length=n+2)(a5:TP m<=TP l)(f1:l.length<=100000000)(fz:m.length<=100000000) :
  abB prog 293 #[v,u] w λe w'=>∃q r,e = .R (.tuple #[q,r,.i 0])∧aG w' q (Ro (TP l/TP m))∧aG w' r (Ro (TP l%TP m))∧Ext w w':=by
 have C1:=aC8 (short_any v l w hv);have C2:=aC8 (short_any u m w hu);have f2:=dA l;have f3:=dA m;have ea:=NP (TP l);have eb:=NP (TP m);have na:=Na.iq (TP l);have nb:=Na.iq (TP m);have cm:=wW a5;rw[<-ea,<-eb]at cm a5;rw[<-ea,<-eb];clear hv hu ea eb;generalize Ro (TP l)=a at *;generalize Ro (TP m)=b at *;obtain⟨p,hp,SC,dy,ao⟩:=abg b (n+1) hn nb;have f4:=(b[n+1]'Z).toNat_lt;have ex:=aC8 a5;have ey:=aC8 na;have e1:=aC8 nb;have J:Hid ((Ro (TP b*2^p)).length=n+2):=dy;have cn:=aC8 ao;have HN:=aC8 hn;clear a5 na nb dy ao;go_enter func293,ntmps293
 go_wp2_with fail
 refine C1.out.mono ?_;rintro e w' ⟨x,rfl,hx,rfl⟩;go_wp2_with fail
 refine C2.out.mono ?_;rintro e w' ⟨y,rfl,hy,rfl⟩;obtain⟨dz,oy,cy,d0,a9,gj,gk,d1⟩:=dP hy I Z;simp only[aDO]at d0;obtain⟨rfl,-,-⟩:=d0;have co:=d1 (n+1) Z;clear d1;go_wp2_with fail
 refine(CJ _ _ a b _ hx (by rw[<-HN.out]; exact hy)).mono ?_;rintro e w1 ⟨rfl,aq⟩;have e2:w1.cell? ⟨dz,oy+(n+1),none⟩=some (bC (b[n+1]'Z)):=(aq.cell (p:=⟨dz,oy+(n+1),none⟩) a9).trans co;clear co;generalize rH (TP a) (TP b)=c at cm |-;generalize b[n+1]'Z=bt at *;have f5:((n:Int)+2==1)=false:=by rw[aDH]; omega
 go_wp2_with fail
 refine(Tryz.bits_LeadingZeros32 (bt.toNat:Int) _ Z Z).mono ?_;rintro e w' ⟨rfl,rfl⟩;rw[aEU,hp];clear hp;have a7:=hy.below aq;rw[HN.out]at a7;have cq:=hx.below aq;go_wp2_with fail
 refine(Aq _ b p _ a7 SC Z).mono ?_;rintro e w2 ⟨bv,rfl,af,ci⟩;rw[J.out]at af |-;go_wp2_with fail
 refine(Aq _ a p _ (cq.below ci) SC Z).mono ?_;rintro e w3 ⟨bu,rfl,el,cj⟩;have Sv:=abh a p SC ey.out;have ct:=af.below cj;have a8:Ext w w3:=K00 aq (K00 ci cj);have cu:TP (Ro (TP b*2^p))=TP b*2^p:=NP _;have cw:TP (Ro (TP a*2^p))=TP a*2^p:=NP _;generalize Ro (TP b*2^p)=vs at *;generalize Ro (TP a*2^p)=us at *;have e3:=aC8 cu;have e4:=aC8 cw;clear cu cw af hy a7 hx cq e2 C1 C2;have r0:=oq w3 (.int .u32 0) 119 I;have ru:=Ef (el.raw (λ_=>I)) (.cells #[.int .u32 0] 119);have e5:us.length+1<=maxLen:=by unfold maxLen; omega
 have a9:(us.length+1)*4<=140737488355328:=Z
 have bc:=aH w3 (.cells #[.int .u32 0] 119);have bd:=ct.below bc;have cx:=K00 a8 bc;clear el ct aq ci cj bc;have e6:¬((us.length:Int)+1<=(a.length:Int)):=Z
 go_wp2_with (at_builtin; refine zI I _ _ _ I mM ru I r0 I O e5 a9 ?_; intro uv w5 ag WW; obtain⟨g,cap,rfl,d2,gl,gm⟩:=jh ag (Nat.succ_pos _))
 refine wp_loop_rounds 1 ?_;rw[aFx];have be:=aC8 ag;have cz:=bd.below WW;have e7:=K00 cx WW;have f6:vs.length<=us.length:=by
  have S:=J.out;have h2:=HN.out;have h3:=WV e1.out ex.out;omega
 clear ag ru r0 cx;obtain⟨K,hK⟩:∃K,us.length+1=K+(n+2):=⟨us.length+1-(n+2),by have S:=J.out; omega⟩;have e8:(us.length:Int)+1-((n:Int)+2)=(K:Int):=Z
 have HK:=aC8 hK;have f7:K<=us.length:=Z
 have e9:K<=maxLen:=by unfold maxLen; omega
 have fa:4*K<=281474976710656:=Z
 clear hK;go_wp2_with (at_make; refine wpList_make_row I _ _ _ I mM I w5.heap.size K I I I fa e9 (aDd _) ?_; intro w6 av fy)
 have bg:=gU (aDC w5.heap.size w5) fy (aDd _);have fb:=aC8 av;have f8:g<w5.heap.size:=(be.out.lt g I).2;have fc:=cz.below bg;clear av e8 cz e6 fc;obtain⟨bb,ob,cb,d3,cd,gn,go,d4⟩:=dP bd J.out Z;simp only[aDO]at d3;obtain⟨rfl,-,-⟩:=d3;have fd:w3.heap.size+1=(w3.alloc (.cells #[.int .u32 0] 119)).heap.size:=by simp
 have c0:(w3.alloc (.cells #[.int .u32 0] 119)).heap.size<=g:=d2;have fe:Ext w (w3.alloc (.cells #[.int .u32 0] 119)):=K00 a8 (aH _ _);have ff:Ext (w3.alloc (.cells #[.int .u32 0] 119)) w6:=K00 WW bg;have H5:Hid (w6.ownsRow (w3.alloc (.cells #[.int .u32 0] 119)).heap.size 119 1 (.s (some ⟨g,0,none⟩) (us.length+1) cap) (us.length+1) ((us++[0]).map bC)):=by
  have:=dB be.out bg;unfold Hid;simpa[bC]using this
 clear bd be WW a8 e7 fd d2;generalize w3.alloc (.cells #[.int .u32 0] 119)=w4 at *;have HC:=aC8 d4;have ZK:Hw^(n+1)<=TP vs:=by
  have h0:n+1<vs.length:=by have:=J.out; omega
  have S:=cn.out h0;have h2:=Na.dF vs (n+1) h0;rw[aDG (by have:=J.out; omega)]at h2;have h3:Hw^(n+1)*1<=Hw^(n+1)*(vs[n+1]).toNat:=aDZ _ Z;omega
 have da:=aC8 ZK;clear ZK;clear d4;go_loopw [13] (λi wr=>∃(k:Nat) (ut qd:List UInt32),k<=K∧i = .i ((k:Int)-1)∧ut.length=us.length+1∧k+qd.length=K∧TP (ut.drop k)<TP vs ∧
  TP us=TP ut+Hw^k*(TP vs*TP qd) ∧
  wr.ownsRow w4.heap.size 119 1 (.s (some ⟨g,0,none⟩) (us.length+1) cap) (us.length+1) (ut.map bC) ∧
  wr.ownsRow w5.heap.size 119 1 (.s (some ⟨w5.heap.size,0,none⟩) K K) K ((List.replicate k 0++qd).map bC)∧Below w4.heap.size w4 wr) (λi _=>(intOf i+1).toNat)
 case atStart =>
  refine⟨K,us++[0],[],aDd _,I,by simp,by simp,?_,by simp[Na.val_append,TP],H5.out,by simpa[bC]using fb.out,ff⟩;have S:=HK.out;have h2:(us++[0]).drop K=us.drop K++[0]:=by rw[List.drop_append_of_le_length Z]
  rw[h2,Na.jC];have h3:=Na.dU (us.drop K);have h4:(us.drop K).length=n+1:=by simp; omega
  rw[h4]at h3;have h5:=da.out;simp; omega
 case round =>
  obtain⟨k,ut,qd,hk,rfl,ai,d5,ce,hU,d6,d7,ac⟩:=hrel;have bh:=aC8 d6;have db:=aC8 d7;have SE:=aC8 ai;have bj:=aC8 d5;have HU:=aC8 hU;clear d6 d7 ai d5 hU;cases k with
  | zero =>
   have fg:aG wr (.s (some ⟨w5.heap.size,0,none⟩) K K) qd:=by
    have S:=db.out;have h2:=bj.out;rw[aEa]at h2;rw[<-h2]at S |-;exact bD (l:=qd) S
   have fh:aG wr (.s (some ⟨g,0,none⟩) (us.length+1) cap) ut:=by
    have S:=bh.out;have h2:=SE.out;rw[<-h2]at S |-;exact bD (l:=ut) S
   have hE:=ah8 e4.out e3.out (by have S:=HU.out; rw[Nat.pow_zero,Nat.one_mul]at S; exact S) (by rw[aEo]at ce; exact ce) (aEP p);have HE:=aC8 hE;have fi:ut.length<=1000000000:=by have S:=SE.out; omega
   clear hE;go_wp2_with fail
   refine(short_any _ qd _ fg).mono ?_;rintro e w' ⟨q',rfl,fv,rfl⟩;go_wp2_with fail
   refine(LH _ ut p _ fh SC fi).mono ?_;rintro e w9 ⟨r',rfl,em,eo⟩;go_wp2_with fail
   go_ret3
   have aw:=fv.below eo;rw[HE.out.1]at aw;rw[HE.out.2]at em;rw[HE.out.1];exact⟨_,_,I,aw,em,K00 fe (ac.trans (eo.mono ac.size))⟩
  | succ j =>
   have hi:(((j+1:Nat):Int)-1)=(j:Int):=Z
   rw[hi];clear hi;have f9:j<cap:=Z
   have fj:=HK.out;have ga:j+(n+2)+1<=cap:=Z
   have gb:j+(n+2)+1-j=n+3:=Z
   have dd:j+n+3<=ut.length:=by have:=SE.out; omega
   obtain⟨d8,d9,cf,ed,⟨L,ee,ef⟩,⟨M,eg,eh⟩⟩:=WS vs ut n j J.out dd ce;have ax:∀i (h:i<ut.length),wr.cell? ⟨g,i,none⟩=some (bC ut[i]):=λi h=>by
    rw[bh.out.cellAt i (by have:=SE.out; omega),List.getElem?_map,List.getElem?_eq_getElem h,aD3]
   have af:∀i (h:i<vs.length),wr.cell? ⟨bb,ob+i,none⟩=some (bC vs[i]):=λi h=>by
    rw[ac.cell (p:=⟨bb,ob+i,none⟩) cd]; exact HC.out i h
   have i2:j+(n+2)<ut.length:=Z
   have i1:j+(n+1)<ut.length:=Z
   have i0:j+n<ut.length:=Z
   have v1:n+1<vs.length:=by have:=J.out; omega
   have v0:n<vs.length:=Z
   have de:=cn.out v1;have fk:n<=1000000000:=Z
   have hg:=abe g j (cap-j) bb ob (n+2) n _ _ _ _ _ wr fk (ut[j+(n+2)]'i2).toNat_lt (ut[j+(n+1)]'i1).toNat_lt (ut[j+n]'i0).toNat_lt
    (vs[n+1]'v1).toNat_lt (vs[n]'v0).toNat_lt de ed (ax _ i2) (ax _ i1) (ax _ i0) (af _ v1) (af _ v0)
   have ZK:0<(vs[n+1]'v1).toNat:=aDL O de;have df:=λq S h2 h3=>abk (q:=q) ef ee eh eg ZK (ut[j+n]'i0).toNat_lt S cf h2 h3;have HG:=aC8 hg;have dh:=aC8 df;have fm:=aC8 d8;have fo:=aC8 d9;have gc:=aC8 cf;clear fj d8 d9 cf ed ee ef eg eh ax af hg df;go_wp2_with fail
   refine HG.out.mono ?_;rintro e w7 ⟨q,rfl,a4,bq,ep,ck⟩;have hq:=dh.out q a4 bq ep;have HQ:=aC8 hq;clear HG dh bq ep hq;have fp:=aC8 (dB bh.out ck);have fq:=aC8 (dB db.out ck);have fr:Below w4.heap.size w4 w7:=ac.trans (ck.mono ac.size);go_wp2_with fail
   refine(take_any g j (n+2) (us.length+1) (cap-j) cap ut vs bb ob (n+2) q w4 w7 J.out SE.out (by have:=SE.out; omega) Z a4 HC.out cd fp.out fr).mono ?_;rintro e w8 ⟨neg,ws,rfl,ar,ae,et,ew,fw⟩;have HT:=aC8 ar;have ft:=aC8 ae;have di:=aC8 et;have bk:=aC8 (fq.out.kept fw (by right; simp[Value.ownBlock]; omega));clear ar ae et;have ay:0<TP vs:=aDL (aFM Na.kQ) da.out;have dj:seg ut j (n+2+1)=seg ut j (n+3):=I;have bm:TP (seg ws j (n+2+1))<Hw^(n+2+1):=by
    have S:=Na.dU (seg ws j (n+2+1));rw[seg_length _ _ _ (by have:=HT.out.1; have:=SE.out; omega)]at S; exact S
   have bo:=ft.out;rw[dj,fm.out]at bo;have al:=ad4 neg ay HQ.out.1 HQ.out.2 bm bo;have HS:=aC8 al;have gd:=aC8 bm;have dk:TP (ut.drop (j+(n+2+1)))=0:=fo.out;have dl:=aC8 dk;obtain⟨⟨cv,ap⟩,bw⟩:=rP bk.out j Z;have ge:(q:Int)%4294967296=q:=Z
   clear dj bm bo al dk dd;have dm:w4.heap.size<=w5.heap.size:=Z
   have dq:bC (UInt32.ofNat q) = .int .u32 (q:Int):=by simp only[bC,dn a4]
   have bp:=aC8 dq;clear dq;cases neg with
   | false =>
    have az:=aC8 (HS.out.1 I);clear HS;go_wp2_with fail
    go_roundw
    case rel =>
     obtain⟨fu,WX⟩:=az.out;have aa:=bk.out.stored j (.int .u32 (q:Int));rw[<-bp.out,aEb,aFY,GR,bp.out]at aa;have D:=Fh HT.out (by have:=SE.out; omega) dl.out;rw[fu]at D;refine⟨j,ws,UInt32.ofNat q::qd,Z,I,HT.out.1.trans SE.out,by have:=bj.out; simp; omega,by rw[D]; exact aEF _ ay,?_,?_,?_,?_⟩
     .have:=adZ HU.out HT.out.1 (by have:=SE.out; omega) HT.out.2.1 D WX;simp only[TP,dn a4]; exact this
     .exact di.out.kept aa.2 (by right; simp[Value.ownBlock]; omega)
     .have S:=aa.1;rw[<-bp.out]at S |-;rw[aEb,aFY,aD1];exact S
     exact ew.setCell (p:=⟨w5.heap.size,j,none⟩) dm _
    case measure=>simp[intOf]
   | true =>
    have az:=aC8 (HS.out.2 I);have bq:=az.out.1;have gf:(1:Int)<=q:=Z
    clear HS ap bw;go_wp2_with fail
    go_loopw [16,105] (λcv iv wr=>∃(i c:Nat) (wt:List UInt32),i<=n+2∧iv = .i i∧cv = .int .u64 c∧c<=1∧Turned ws wt j i ∧
     TP (seg wt j i)+Hw^i*c=TP (seg ws j i)+TP (vs.take i) ∧
     wr.ownsRow w4.heap.size 119 1 (.s (some ⟨g,0,none⟩) (us.length+1) cap) (us.length+1) (wt.map bC)∧w8.grownBy wr (some g)∧Below w4.heap.size w4 wr) (λ_ iv _=>n+2-(intOf iv).toNat)
    case atStart=>exact⟨0,0,ws,Z,I,I,Z,Turned.refl _ _ _,by simp[seg,TP],di.out,Ik _ _,ew⟩
    case round =>
     obtain⟨i,c,wt,hi,rfl,rfl,hc,ei,ae,a6,ej,cg⟩:=hrel;have ab:=aC8 ei;have dr:=aC8 ae;have ah:=aC8 a6;clear ei ae a6;by_cases hlt2:i<n+2
     .have Sv:j+i<ws.length:=by have br:=HT.out.1; have ai:=SE.out; omega
      have hu:wr.cell? ⟨g,j+i,none⟩=some (bC (ws[j+i]'Sv)):=by
       rw[ah.out.cellAt (j+i) (by have br:=HT.out.1; have ai:=SE.out; omega),List.getElem?_map,List.getElem?_eq_getElem (by have bs:=ab.out.1; omega),aD3,ab.out.get Sv]
      have bw:=ah.out.frozenAt (j+i);have am:=aC8 (kJ ws j i Sv);have bz:j+i<wt.length:=by have bs:=ab.out.1; omega
      generalize ws[j+i]'Sv=U at hu am;have g2:=U.toNat_lt;have u0:=ig U;have ds:i<vs.length:=by have:=J.out; omega
      have hy:wr.cell? ⟨bb,ob+i,none⟩=some (bC vs[i]):=by rw[cg.cell (p:=⟨bb,ob+i,none⟩) cd]; exact HC.out i ds
      have HY:=aC8 (Na.dF vs i ds);generalize vs[i]=y at hy HY;have g1:=y.toNat_lt;have y0:=ig y;go_wp2_with fail
      go_roundw
      case rel =>
       obtain⟨z1,z2,z3,z4⟩:=ad1 c U.toNat y.toNat hc g2 g1;have aa:=ah.out.stored (j+i) (.int .u32 (((c+(U.toNat+y.toNat))%Hw:Nat):Int));have ez:bC (UInt32.ofNat ((c+(U.toNat+y.toNat))%Hw)) = .int .u32 (((c+(U.toNat+y.toNat))%Hw:Nat):Int):=by simp only[bC,dn z3]
       rw[<-ez,<-aE2,ez]at aa;rw[z1,z2];refine⟨i+1,(c+(U.toNat+y.toNat))/Hw,wt.set (j+i) (UInt32.ofNat ((c+(U.toNat+y.toNat))%Hw)),Z,by go_num,I,z4,ab.out.set _,?_,aa.1,wV ej aa.2,cg.setCell (p:=⟨g,j+i,none⟩) c0 _⟩;rw[rO _ _ _ _ bz,am.out,HY.out,dn z3,aDY];exact abf (Hw^i) dr.out
      case measure=>simp[intOf]; omega
     obtain rfl:i=n+2:=by omega
     have Sv:j+(n+2)<ws.length:=by have br:=HT.out.1; have ai:=SE.out; omega
     have hu:wr.cell? ⟨g,j+(n+2),none⟩=some (bC (ws[j+(n+2)]'Sv)):=by
      rw[ah.out.cellAt (j+(n+2)) (by have br:=HT.out.1; have ai:=SE.out; omega),List.getElem?_map,List.getElem?_eq_getElem (by have bs:=ab.out.1; omega),aD3,ab.out.get Sv]
     have bw:=ah.out.frozenAt (j+(n+2));have am:=aC8 (kJ ws j (n+2) Sv);have bz:j+(n+2)<wt.length:=by have bs:=ab.out.1; omega
     generalize ws[j+(n+2)]'Sv=U at hu am;have g2:=U.toNat_lt;have u0:=ig U;have dt:=aC8 (bk.out.kept ej (by right; simp[Value.ownBlock]; omega));obtain⟨⟨cv,ap⟩,gp⟩:=rP dt.out j Z;have gg:(c:Int)%4294967296=c:=Z
     have gh:((q:Int)-1)%4294967296=(q:Int)-1:=Z
     have gi:g≠w5.heap.size:=Z
     go_wp2_with fail
     go_roundw
     case rel =>
      obtain⟨f0,WX,ek⟩:=az.out;have du:(U.toNat+c)%Hw<4294967296:=aEF _ O;have ez:bC (UInt32.ofNat ((U.toNat+c)%Hw)) = .int .u32 (((U.toNat:Int)+(c:Int))%4294967296):=by
       simp only[bC,dn du]; simp[Hw]
      have ca:bC (UInt32.ofNat (q-1)) = .int .u32 ((q:Int)-1):=by
       simp only[bC,dn (show q-1<4294967296 by omega)]; congr 1; omega
      have aa:=ah.out.stored (j+(n+2)) (.int .u32 (((U.toNat:Int)+(c:Int))%4294967296));rw[<-ez,<-aE2,ez]at aa;have aw:=dt.out.kept aa.2 (by right; simp[Value.ownBlock]; omega);have an:=aw.stored j (.int .u32 ((q:Int)-1));rw[<-ca,aEb,aFY,GR,ca]at an;have a3:=HT.out.trans (ab.out.set (UInt32.ofNat ((U.toNat+c)%Hw)));have D:=Fh a3 (by have:=SE.out; omega) dl.out;have ao:=dr.out;rw[aDG (by have:=J.out; omega)]at ao;have hA:=Na.dU (seg wt j (n+2));rw[seg_length _ _ _ Z]at hA;have dx:=Na.dU vs;rw[J.out]at dx;have hR:TP (ut.drop j)%TP vs<Hw^(n+2):=Nat.lt_trans (aEF _ ay) dx;rw[aDY]at ek;have cc:=ad2 ao am.out ek hA hR g2 hc;rw[rO _ _ _ _ bz,dn du,cc]at D;refine⟨j,wt.set (j+(n+2)) (UInt32.ofNat ((U.toNat+c)%Hw)),UInt32.ofNat (q-1)::qd,Z,I,a3.1.trans SE.out,by have:=bj.out; simp; omega,by rw[D]; exact aEF _ ay,?_,?_,?_,?_⟩
      .have:=adZ HU.out a3.1 (by have:=SE.out; omega) a3.2.1 D WX;simp only[TP,dn (show q-1<4294967296 by omega)]; exact this
      .exact aa.1.kept an.2 (by right; simp[Value.ownBlock]; omega)
      .have S:=an.1;rw[<-ca]at S |-;rw[aEb,aFY,aD1];exact S
      exact(cg.setCell (p:=⟨g,j+(n+2),none⟩) c0 _).setCell (p:=⟨w5.heap.size,j,none⟩) dm _
     case measure=>simp[intOf]
open Go.RowKit Na
variable{α:Type}
abbrev Io(v u:aaT)(l m:List UInt32)(w:VO)(S:aG w v l)(hu:aG w u m)(hm:0<TP m)(J:l.length<=100000000)(D:m.length<=100000000) :
  abB prog 293 #[v,u] w λe w'=>∃q r,e = .R (.tuple #[q,r,.i 0])∧aG w' q (Ro (TP l/TP m))∧aG w' r (Ro (TP l%TP m))∧Ext w w':=by
 rcases aD7 (TP l) (TP m)with h | h
 .refine(SA v u l m w S hu h Z).mono ?_;rintro e w' ⟨r,rfl,hr,hb⟩;rw[aFX h,aFf h];exact⟨_,r,I,by rw[lG.2 I]; exact GU _,hr,hb⟩
 rcases hd:Ro (TP m)with _ | ⟨d,_ | ⟨d2,t⟩⟩
 .exact absurd (lG.1 hd) Z
 .exact WT v u l m d w S hu hd h Z
 exact SB v u l m t.length w S hu (by rw[hd]; simp) h J D
open Go.RowKit Na
variable{α:Type}
abbrev Ph{f:α->aaT}(hf:∀x y,f x=f y->x=y){w:VO}{v:aaT}{l D:List α}(h:dH f w v l)(h':dH f w v D):l=D:=by
 obtain⟨a,cap,rfl,_,h⟩:=h;obtain⟨J,cap',D,_,h'⟩:=h';simp only[aDO]at D;obtain⟨rfl,hl,rfl⟩:=D;apply List.ext_getElem hl;intro i J S;rcases h with ⟨rfl,_⟩ | ⟨b,o,rfl,_,_,hc⟩
 .simp at J
 rcases h' with ⟨rfl,_⟩ | ⟨b',o',ha,_,_,D⟩
 .simp at S
 simp only[aDe,aEZ,and_true]at ha;obtain⟨rfl,rfl⟩:=ha;have e:=(hc i J).symm.trans (D i S);exact hf _ _ (aDo e)
abbrev ad5(x y:UInt32)(h:bC x=bC y):x=y:=by
 simp only[bC,Value.int.injEq,true_and]at h;exact aET.1 Z
open Classical in
noncomputable def valOf(w:VO)(v:aaT):Nat:=if h:∃l,aG w v l then TP h.choose else 0
abbrev CO{w:VO}{v:aaT}{l:List UInt32}(h:aG w v l):valOf w v=TP l:=by
 have D:∃l,aG w v l:=⟨l,h⟩;unfold valOf;rw[dif_pos D,Ph ad5 D.choose_spec h]
abbrev fP{a b:Nat}(h:a<=b):(Ro a).length<=(Ro b).length:=
 Na.length_le (Na.iq a) (by have:=Na.dU (Ro b); rw[NP]at this |-; omega)
abbrev aib(v u:aaT)(l m:List UInt32)(w:VO)(hv:aG w v l)(hu:aG w u m)(J:l.length<=100000000)(D:m.length<=100000000) :
  abB prog 291 #[v,u] w λe w'=>∃g,e = .R g∧aG w' g (Ro (Nat.gcd (TP l) (TP m)))∧Ext w w':=by
 have C1:=aC8 (pK v l w hv Z);have D:=dA l;have D:=dA m;go_enter func291,ntmps291
 go_wp2_with fail
 refine C1.out.mono ?_;rintro e w1 ⟨x,rfl,S,ab⟩;have S:=bD S;go_wp2_with fail
 refine(pK u m w1 (hu.below ab) Z).mono ?_;rintro e J ⟨y,rfl,D,ac⟩;have D:=bD D;have J:=S.below ac;have ae:=K00 ab ac;clear S C1 hv hu;have HX:=aC8 J;have HY:=aC8 D;clear J D;go_wp2_with fail
 go_loopw [0,1] (λx y wr=>∃(A B:Nat),aG wr x (Ro A)∧aG wr y (Ro B)∧Nat.gcd A B=Nat.gcd (TP l) (TP m)∧(Ro A).length<=100000000∧(Ro B).length<=100000000∧Ext w wr) (λ_ y wr=>valOf wr y)
 case atStart=>exact⟨(TP l),(TP m),HX.out,HY.out,I,Z,Z,ae⟩
 case round =>
  obtain⟨A,B,S,D,hg,af,aa,J⟩:=hrel;have HM:=aC8 (CO D);have HG:=aC8 hg;have HX:=aC8 S;have HY:=aC8 D;clear hg S D;obtain⟨D,S,rfl⟩:=HY.out.shape;rcases aD0 B with rfl | hB
  .have D:((Ro 0).length:Int)=0:=by rw[lG.2 I]; rfl
   go_wp2_with fail
   go_ret
   refine⟨_,I,?_,J⟩;rw[<-HG.out,Nat.gcd_zero_right];exact HX.out
  have D:(0:Int)<((Ro B).length:Int):=by
   have:(Ro B).length≠0:=λh=>by have:=oO h; omega
   omega
  have D:=Io _ _ _ _ wr HX.out HY.out (by rw[NP]; exact hB) af aa;rw[NP,NP]at D;have HD:=aC8 D;clear D;go_wp2_with fail
  refine HD.out.mono ?_;rintro e w' ⟨q,r,rfl,hq,hr,hb⟩;have S:=aC8 hr;have D:=aC8 (HY.out.below hb);clear hq hr;go_wp2_with fail
  go_roundw
  case rel => 
   refine⟨B,A%B,D.out,S.out,?_,aa,?_,K00 J hb⟩
   .rw[<-HG.out,Nat.gcd_comm A B,Nat.gcd_rec B A,Nat.gcd_comm]
   .exact aDy (fP (aFc (aEF A hB))) aa
  case measure =>
   rw[CO S.out,HM.out,NP,NP];exact aEF _ hB
