/- Walks of package natural: guess -/
import Derived.Test.YtodpgjjgaddkeaaGreatDoorPk1
import Derived.Outline
set_option maxHeartbeats 9999999
open Go renaming World->E5,Value->y9,Calls->Nq,Addr->Ć
set_option maxRecDepth 100000
set_option linter.unusedVariables false
set_option linter.unusedSimpArgs false
open Go.Proofs.Tryz Go.RowKit Go.Rel Go.Proofs.Õ
section
namespace Go.Proofs.Õ
open Na
variable{α:Type}
variable{r V T x y V0 D0 qv:Nat}
abbrev iG(n:Nat)(h:n<18446744073709551616):IntKind.u64.wrap (n:Int)=(n:Int):=by rw[ŏ]; omega
abbrev Vy(r x:Nat)(h:r<4294967296)(D:x<4294967296):bits .or .u64 ((r:Int)*4294967296) (x:Int)=((r*4294967296+x:Nat):Int):=by
 have e:((r:Int)*4294967296)=((r*4294967296:Nat):Int):=by simp
 rw[e,u64_or_nat _ _ Z Z,nat_join 32 _ _ Z Z]
abbrev Vz{q:Nat}(D:q<4294967296)(J:V<4294967296):IntKind.u64.wrap ((q:Int)*(V:Int))=((q*V:Nat):Int):=by
 have h:=ű (show q<=4294967295 by omega) (show V<=4294967295 by omega);have e:(q:Int)*(V:Int)=((q*V:Nat):Int):=by simp
 rw[e,iG _ Z]
abbrev alx{q:Nat}(h:(q+1)*V+r=T):q*V+(r+V)=T:=by rw[Nat.succ_mul]at h; omega
abbrev aoh(h:x+r=T)(D:4294967296<=r)(J:y<=18446744073709551616)(D0:Nat):x*4294967296+y<=T*4294967296+D0:=by omega
abbrev aa0{q:Nat}(D0:Nat)(h:q*V+r=T)(hr:4294967296<=r)(D:T<(V+1)*4294967296)(J:V0<=4294967296) :
  q<4294967296∧q*(V*4294967296+V0)<=T*4294967296+D0:=by
 have D:q<4294967296:=by
  rcases ĩ q 4294967296 with D | D
  .exact D
  have:=ō V D;rw[ĕ 4294967296 V]at this; omega
 refine⟨D,?_⟩;have S:q*V0<=4294967296*4294967296:=ű (Δ D) J;rw[ó,<-Ĝ];exact aoh h hr S D0
abbrev aoi{rd:Nat}(h:x+r=T)(D:rd=r*4294967296+D0):(rd<y->T*4294967296+D0<x*4294967296+y)∧(¬rd<y->x*4294967296+y<=T*4294967296+D0):=by omega
abbrev asV{q rd:Nat}(h:q*V+r=T)(D:qv=q*V0)(J:rd=r*4294967296+D0) :
  (rd<qv->T*4294967296+D0<q*(V*4294967296+V0))∧(¬rd<qv->q*(V*4294967296+V0)<=T*4294967296+D0)∧(q=0->qv=0):=by
 rw[ó,<-Ĝ,<-D];obtain⟨S,h2⟩:=aoi (y:=qv) h J;exact⟨S,h2,λh=>by rw[D,h,Nat.zero_mul]⟩
abbrev O7{q:Nat}(D:qv=q*V)(J:q<4294967296)(S:V<4294967296):IntKind.u64.wrap ((q:Int)*(V:Int))=(qv:Int):=by rw[D]; exact Vz J S
abbrev ac0{rd:Nat}(D:rd=r*4294967296+x)(h:r<4294967296)(J:x<4294967296):bits .or .u64 ((r:Int)*4294967296) (x:Int)=(rd:Int):=by rw[D]; exact Vy r x h J
abbrev Ky{w:E5}{a:Ć}{x:y9}(h:w.cell? a=some x):a.block<w.heap.size:=by
 unfold World.cell? at h;rcases ĩ a.block w.heap.size with h' | h'
 .exact h'
 rw[Array.getElem?_eq_none h']at h; simp at h
abbrev ac1(bu ou S bv ov cv m:Nat)(D D1 D0 J V0:Nat)(w:E5)(hm:m<=1000000000)
  (ao:D<4294967296) (ap:D1<4294967296) (aq:D0<4294967296) (a8:J<4294967296) (ar:V0<4294967296) (hV:2147483648<=J) (av:D<=J)
  (c2:w.cell? ⟨bu,ou+(m+2),none⟩=some (.int .u32 D)) (c1:w.cell? ⟨bu,ou+(m+1),none⟩=some (.int .u32 D1)) (c0:w.cell? ⟨bu,ou+m,none⟩=some (.int .u32 D0))
  (e1:w.cell? ⟨bv,ov+(m+1),none⟩=some (.int .u32 J)) (e0:w.cell? ⟨bv,ov+m,none⟩=some (.int .u32 V0)) :
  Nq prog 324 #[.s (some ⟨bu,ou,none⟩) (m+3) S,.s (some ⟨bv,ov,none⟩) (m+2) cv] w λe w'=>∃q:Nat,e = .R (.int .u64 q)∧q<4294967296 ∧
   q*(J*4294967296+V0)<=(D*4294967296+D1)*4294967296+D0 ∧
   (q=(D*4294967296+D1)/J∨4294967296<=q+1∨(D*4294967296+D1)*4294967296+D0<(q+1)*(J*4294967296+V0))∧Ext w w':=by
 obtain⟨T,hT⟩:∃T,T=D*4294967296+D1:=⟨_,I⟩;have S:=Vy D D1 ao ap;rw[<-hT]at S |-;have af:T<(J+1)*4294967296:=by have:=ō 4294967296 av; omega
 obtain⟨S,hQ⟩:∃Q,Q=T/J:=⟨_,I⟩;obtain⟨R0,hR⟩:∃R,R=T%J:=⟨_,I⟩;have aw:R0<J:=by rw[hR]; exact Ŋ _ Z
 have ag:S*J+R0=T:=by rw[hQ,hR,ĕ]; exact Nat.div_add_mod T J
 have ax:(T:Int)/(J:Int)=(S:Int):=by rw[hQ]; rfl
 have am:(T:Int)%(J:Int)=(R0:Int):=by rw[hR]; rfl
 have ay:S<8589934592:=by
  rcases ĩ S 8589934592 with h | h
  .exact h
  have:=ű h hV; omega
 have az:=iG S Z;have w2:=iG D Z;have w1:=iG D1 Z;have w0:=iG D0 Z;have x1:=iG J Z;have x0:=iG V0 Z;have D:=FU hT;have D:=FU hQ;have D:=FU ag;rw[<-hQ];have a3:(1:Int)<=J:=Z
 have a4:(0:Int)<=T:=Z
 clear hT hQ hR ag;go_enter func324,ntmps324
 go_wp2_with fail
 go_quiet (fail)
 go_wp2_with fail
 go_quiet (fail)
 go_wp2_with fail
 go_loopw [7,8] (λqv rv wr=>∃q r:Nat,qv = .int .u64 q∧rv = .int .u64 r∧q<=S∧q*J+r=T∧r<4294967296 ∧
  (q=S∨4294967296<=q+1∨T*4294967296+D0<(q+1)*(J*4294967296+V0))∧Ext w wr) (λ_ rv _=>8589934592-(intOf rv).toNat)
 case atStart=>exact⟨S,R0,I,by rw[am],Ç _,D.out,Z,.inl I,below_drewN (below_drewN (ø _ _) _) _⟩
 case round =>
  obtain⟨q,r,rfl,rfl,a7,S,hr,al,D⟩:=hrel;have d0:wr.cell? ⟨bu,ou+m,none⟩=some (.int .u32 D0):=(D.cell (p:=⟨bu,ou+m,none⟩) (Ky c0)).trans c0;have f1:wr.cell? ⟨bv,ov+(m+1),none⟩=some (.int .u32 J):=(D.cell (p:=⟨bv,ov+(m+1),none⟩) (Ky e1)).trans e1;have f0:wr.cell? ⟨bv,ov+m,none⟩=some (.int .u32 V0):=(D.cell (p:=⟨bv,ov+m,none⟩) (Ky e0)).trans e0;have a5:q<8589934592:=Z
  have an:=FU al;have HE:=FU S;clear al S c0 e1 e0;by_cases hqB:4294967296<=q
  .have t1:((q:Int)/4294967296 != 0)=true:=by rw[bne_iff_ne]; omega
   obtain⟨S,rfl⟩:∃S,q=S+1:=⟨q-1,Z⟩;have ab:=alx HE.out;have t1:(((S:Int)+1)/4294967296 != 0)=true:=by rw[bne_iff_ne]; omega
   have aa:=FU ab;have ah:4294967296<=S+1:=hqB;clear ab;go_wp2_with fail
   go_quiet (fail)
   go_wp2_with fail
   .have t3 := ‹(((r:Int)+(J:Int))/4294967296 != 0)=true›;rw[bne_iff_ne]at t3;obtain⟨h1,h2⟩:=aa0 (V0:=V0) D0 aa.out Z af Z;go_ret
    exact⟨S,by go_num,h1,h2,.inr (.inl ah),below_drewN D _⟩
   have t3 := ‹(((r:Int)+(J:Int))/4294967296 != 0)=false›;rw[bne_eq_false_iff_eq]at t3;go_roundw
   case rel=>exact⟨S,r+J,by go_num,by go_num,Z,aa.out,Z,.inr (.inl ah),below_drewN D _⟩
   case measure=>simp[intOf]; omega
  have t1:((q:Int)/4294967296 != 0)=false:=by rw[bne_eq_false_iff_eq]; omega
  obtain⟨qv,ac⟩:∃qv,qv=q*V0:=⟨_,I⟩;obtain⟨rd,ae⟩:∃rd,rd=r*4294967296+D0:=⟨_,I⟩;have ai:=O7 ac (show q<4294967296 by omega) ar;have a6:=ac0 ae hr aq;have HB:=FU (asV HE.out ac ae);clear ac ae;by_cases hgt:rd<qv
  .have t2:(rd:Int)<qv:=Z
   obtain⟨S,rfl⟩:∃S,q=S+1:=by
    cases q with
    | zero=>exfalso; have:=HB.out.F I; omega
    | succ S=>exact⟨S,I⟩
   have t1:(((S:Int)+1)/4294967296 != 0)=false:=by rw[bne_eq_false_iff_eq]; omega
   have ai:IntKind.u64.wrap (((S:Int)+1)*(V0:Int))=(qv:Int):=by have:=ai; simpa using this
   have aa:=FU (alx HE.out);go_wp2_with fail
   go_quiet (fail)
   go_wp2_with fail
   .have t3 := ‹(((r:Int)+(J:Int))/4294967296 != 0)=true›;rw[bne_iff_ne]at t3;obtain⟨h1,h2⟩:=aa0 (V0:=V0) D0 aa.out Z af Z;go_ret
    exact⟨S,by go_num,h1,h2,.inr (.inr (HB.out.1 hgt)),below_drewN D _⟩
   have t3 := ‹(((r:Int)+(J:Int))/4294967296 != 0)=false›;rw[bne_eq_false_iff_eq]at t3;go_roundw
   case rel=>exact⟨S,r+J,by go_num,by go_num,Z,aa.out,Z,.inr (.inr (HB.out.1 hgt)),below_drewN D _⟩
   case measure=>simp[intOf]; omega
  have t2:¬(rd:Int)<qv:=Z
  go_wp2_with fail
  go_quiet (fail)
  go_wp2_with fail
  go_ret
  exact⟨q,I,Z,HB.out.2.1 hgt,an.out,below_drewN D _⟩
def seg(l:List UInt32)(k i:Nat):List UInt32:=(l.drop k).take i
abbrev ajZ(l:List UInt32)(k i:Nat)(x:UInt32)(h:k+i<l.length):seg (l.set (k+i) x) k (i+1)=seg l k i++[x]:=by
 unfold seg;apply List.ext_getElem
 .simp; omega
 intro j D J;simp only[ϟ,List.getElem_drop,List.getElem_set];rcases ĩ j i with J | J
 .rw[UQ Z,List.getElem_append_left (by simp; omega)]; simp
 have:j=i:=by simp at D; omega
 subst this;rw[Á I,List.getElem_append_right (by simp; omega)]; simp
abbrev seg_length(l:List UInt32)(k i:Nat)(h:k+i<=l.length):(seg l k i).length=i:=by unfold seg; simp; omega
abbrev kL(l:List UInt32)(k i:Nat)(h:k+i<l.length):TR (seg l k (i+1))=TR (seg l k i)+NZ^i*l[k+i].toNat:=by
 unfold seg;rw[Na.dD _ _ (by simp; omega)]; simp
abbrev sS(l:List UInt32)(k i:Nat)(x:UInt32)(h:k+i<l.length):TR (seg (l.set (k+i) x) k (i+1))=TR (seg l k i)+NZ^i*x.toNat:=by
 rw[ajZ l k i x h,Na.jv,seg_length _ _ _ Z]
def Turned(D ws:List UInt32)(k i:Nat):Prop:=ws.length=D.length∧ws.take k=D.take k∧ws.drop (k+i)=D.drop (k+i)
abbrev Turned.refl(D:List UInt32)(k i:Nat):Turned D D k i:=⟨I,I,I⟩
abbrev Turned.set{D ws:List UInt32}{k i:Nat}(h:Turned D ws k i)(x:UInt32):Turned D (ws.set (k+i) x) k (i+1):=by
 obtain⟨J,S,h3⟩:=h;refine⟨by simp[J],?_,?_⟩
 .rw[List.take_set_of_le Z,S]
 rw[List.drop_set_of_lt Z];have:ws.drop (k+i+1)=D.drop (k+i+1):=by rw[<-Ÿ,h3,Ÿ]
 exact this
abbrev Turned.get{D ws:List UInt32}{k i:Nat}(h:Turned D ws k i)(hl:k+i<D.length):ws[k+i]'(by rw[h.1]; exact hl)=D[k+i]:=by
 have D:=Ñ (λl=>l[0]?) h.F;have J:=h.1;simp only[List.getElem?_drop,ż]at D;rw[List.getElem?_eq_getElem Z,List.getElem?_eq_getElem hl]at D;exact Ò D
abbrev Zc{A W D Q c S U s lo J:Nat}(E:Nat)(h:A+E*(c+S)=W+Q*D)(y:Nat)(hs:s=c+Q*y)(aa:lo=s%NZ)(hu:U+NZ*J=x+lo+S) :
  A+E*U+E*NZ*(s/NZ+J)=W+E*x+Q*(D+E*y):=by
 have h1:=ř s NZ;rw[<-aa]at h1;have e1:Q*(D+E*y)=Q*D+E*(Q*y):=by rw[ó,ύ]
 have D:E*NZ*(s/NZ+J)=E*(NZ*(s/NZ))+E*(NZ*J):=by rw[ó,Ĝ,Ĝ]
 have e3:E*U+E*(NZ*J)=E*x+E*lo+E*S:=by rw[<-ó,hu,ó,ó]
 have J:E*lo+E*(NZ*(s/NZ))=E*c+E*(Q*y):=by rw[<-ó,h1,hs,ó]
 rw[ó]at h;rw[e1,D];omega
abbrev Kz(U lo D:Nat)(hU:U<4294967296)(aa:lo<4294967296)(ab:D<=1):∃J x S:Nat,IntKind.u64.wrap (IntKind.u64.wrap ((U:Int)-(lo:Int))-(D:Int))=(J:Int) ∧
  (J:Int)%4294967296=(x:Int)∧(J:Int)/9223372036854775808=(S:Int)∧S<=1∧x<4294967296∧U+NZ*S=x+lo+D:=by
 rw[ŏ,ŏ];unfold NZ;by_cases h:lo+D<=U
 .exact⟨U-lo-D,U-lo-D,0,Z,Z,Z,Z,Z,Z⟩
 exact⟨U+18446744073709551616-lo-D,U+4294967296-lo-D,1,Z,Z,Z,Z,Z,Z⟩
abbrev agE(s:Nat)(D:s<18446744073709551616):bits .and .u64 (s:Int) 4294967295=((s%NZ:Nat):Int):=by
 have:=u64_and_nat s 4294967295 D Z;rw[show((4294967295:Nat):Int)=4294967295 from rfl]at this;rw[this,nat_mask32]; rfl
abbrev KA(w:E5)(row:Option Nat):w.grownBy w row:=⟨I,I,I,Ç _,λ_ _ _=>rfl⟩
abbrev yD{a b c:E5}{row:Option Nat}(D:a.grownBy b row)(S:b.grownBy c row):a.grownBy c row:=
 ⟨S.os.trans D.os,S.tape.trans D.tape,S.output.trans D.output,ä D.size S.size,λk hk J=>(S.block k (ö hk D.size) J).trans (D.block k hk J)⟩
abbrev take_any(g k n N cp cap:Nat)(S ys:List UInt32)(bv ov cv Q:Nat)(w0 w:E5)(hn:ys.length=n)(hN:S.length=N)(hk:k+n+1<=N)(D:N<=1000000000)(hQ:Q<4294967296)
  (hv:∀i (h:i<ys.length),w0.cell? ⟨bv,ov+i,none⟩=some (bn ys[i])) (a5:bv<w0.heap.size)
  (D:w.ownsRow w0.heap.size 119 1 (.s (some ⟨g,0,none⟩) N cap) N (S.map bn)) (J:Below w0.heap.size w0 w) :
  Nq prog 325 #[.s (some ⟨g,k,none⟩) (n+1) cp,.s (some ⟨bv,ov,none⟩) n cv,.int .u64 Q] w λe w'=>∃(neg:Bool) (ws:List UInt32),e = .R (.b neg) ∧
   Turned S ws k (n+1)∧TR (seg S k (n+1))+(if neg then NZ^(n+1)else 0)=TR (seg ws k (n+1))+Q*TR ys ∧
   w'.ownsRow w0.heap.size 119 1 (.s (some ⟨g,0,none⟩) N cap) N (ws.map bn)∧Below w0.heap.size w0 w'∧w.grownBy w' (some g):=by
 have al:w0.heap.size<=g:=(D.lt g I).1;have HV:=FU hv;have HN:=FU hn;have am:=FU hN;have HO:=FU D;clear hv hn hN D;go_enter func325,ntmps325
 go_wp2_with fail
 go_loopw [7,8,15] (λcv bv iv wr=>∃(i c bo:Nat) (ws:List UInt32),i<=n∧iv = .i i∧cv = .int .u64 c∧bv = .int .u64 bo∧c<4294967296∧bo<=1∧Turned S ws k i ∧
  TR (seg S k i)+NZ^i*(c+bo)=TR (seg ws k i)+Q*TR (ys.take i) ∧
  wr.ownsRow w0.heap.size 119 1 (.s (some ⟨g,0,none⟩) N cap) N (ws.map bn)∧Below w0.heap.size w0 wr∧w.grownBy wr (some g)) (λ_ _ iv _=>n-(intOf iv).toNat)
 case atStart=>exact⟨0,0,0,S,Z,I,I,I,Z,Z,Turned.refl _ _ _,by simp[seg,TR],HO.out,J,KA _ _⟩
 case round =>
  obtain⟨i,c,bo,ws,hi,rfl,rfl,rfl,hc,an,ao,ag,D,J,ap⟩:=hrel;have qK:=FU ag;have aa:=FU ao;have HW:=FU D;clear ag ao D HO;have D:=aa.out.1;by_cases hlt:i<n
  .have hyl:i<ys.length:=by rw[HN.out]; exact hlt
   have D:wr.cell? ⟨bv,ov+i,none⟩=some (bn ys[i]):=by rw[J.cell (p:=⟨bv,ov+i,none⟩) a5]; exact HV.out i hyl
   have UD:k+i<S.length:=by rw[am.out]; omega
   have hu:wr.cell? ⟨g,k+i,none⟩=some (bn S[k+i]):=by
    rw[HW.out.cellAt (k+i) Z,List.getElem?_map,List.getElem?_eq_getElem Z,ě,aa.out.get UD]
   have ar:=HW.out.frozenAt (k+i);have HY:=FU (Na.dD ys i hyl);have HU:=FU (kL S k i UD);generalize ys[i]=y at D HY;generalize S[k+i]=U at hu HU;have g1:=y.toNat_lt;have g2:=U.toNat_lt;have D:=ig y;have u0:=ig U;obtain⟨qy,D⟩:∃qy,qy=Q*y.toNat:=⟨_,I⟩;have a6:=O7 D hQ g1;have av:qy<=18446744065119617025:=by rw[D]; exact ű (show Q<=4294967295 by omega) (show y.toNat<=4294967295 by omega)
   obtain⟨s,hs⟩:∃s,s=c+qy:=⟨_,I⟩;have a7:IntKind.u64.wrap ((c:Int)+(qy:Int))=(s:Int):=by rw[hs,<-iG (c+qy) Z]; simp
   have ah:s<18446744073709551616:=Z
   obtain⟨lo,ae⟩:∃lo,lo=s%NZ:=⟨_,I⟩;have a8:bits .and .u64 (s:Int) 4294967295=(lo:Int):=by rw[ae]; exact agE s ah
   have aw:lo<4294967296:=by rw[ae]; exact Ŋ _ O
   obtain⟨a3,x,SI,hZ,hx,a4,aq,ab,ac⟩:=Kz U.toNat lo bo g2 aw an;obtain⟨c',af⟩:∃c',c'=s/NZ:=⟨_,I⟩;have a9:(s:Int)/4294967296=(c':Int):=by rw[af]; simp[NZ]
   have ax:c'<4294967296:=by rw[af]; exact ό ah
   rw[D]at hs;have HS:=FU hs;have ay:=FU ae;have HC:=FU af;have ai:=FU ac;clear D hs ae af ac av ah;go_wp2_with fail
   go_roundw
   case rel =>
    have D:=(HW.out.stored (k+i) (bn (UInt32.ofNat x))).1;rw[<-Ű]at D;have az:=(HW.out.stored (k+i) (Value.int .u32 (x:Int))).2;refine⟨i+1,c',SI,ws.set (k+i) (UInt32.ofNat x),Z,by go_num,I,I,ax,aq,aa.out.set _,?_,?_,?_,yD ap az⟩
    .rw[HU.out,HY.out,sS _ _ _ _ Z,dn ab,HC.out,ę];exact Zc (NZ^i) qK.out y.toNat HS.out ay.out ai.out
    .simpa[bn,dn ab]using D
    exact J.setCell (p:=⟨g,k+i,none⟩) al _
   case measure=>simp[intOf]; omega
  obtain rfl:i=n:=by omega
  have UD:k+i<S.length:=by rw[am.out]; omega
  have hu:wr.cell? ⟨g,k+i,none⟩=some (bn S[k+i]):=by
   rw[HW.out.cellAt (k+i) Z,List.getElem?_map,List.getElem?_eq_getElem Z,ě,aa.out.get UD]
  have ar:=HW.out.frozenAt (k+i);have HU:=FU (kL S k i UD);generalize S[k+i]=U at hu HU;have g2:=U.toNat_lt;have u0:=ig U;obtain⟨a3,x,SI,hZ,hx,a4,aq,ab,ac⟩:=Kz U.toNat c bo g2 hc an;have ai:=FU ac;clear ac;go_wp2_with fail
  go_ret
  have D:=(HW.out.stored (k+i) (bn (UInt32.ofNat x))).1;rw[<-Ű]at D;refine⟨((SI:Int) != 0),ws.set (k+i) (UInt32.ofNat x),I,aa.out.set _,?_,by simpa[bn,dn ab]using D,J.setCell (p:=⟨g,k+i,none⟩) al _,yD ap (HW.out.stored (k+i) (Value.int .u32 (x:Int))).2⟩;have hv:=qK.out;rw[<-HN.out,ħ,HN.out]at hv;rw[HU.out,sS _ _ _ _ Z,dn ab,ę];have D:=ai.out;have e:(if ((SI:Int) != 0)=true then NZ^i*NZ else 0)=NZ^i*(NZ*SI):=by
   rcases(show SI=0∨SI=1 by omega)with rfl | rfl<;>simp
  rw[e];have J:NZ^i*U.toNat+NZ^i*(NZ*SI)=NZ^i*x+NZ^i*(c+bo):=by rw[<-ó,D,<-ó]; congr 1; omega
  omega
end Go.Proofs.Õ
namespace Go.Proofs.Õ
variable{ut ws:List UInt32}{V j A W c U:Nat}
abbrev VA(l:List UInt32)(k i:Nat)(h:k+i<=l.length):Na.TR (l.drop k)=Na.TR (seg l k i)+Na.NZ^i*Na.TR (l.drop (k+i)):=by
 unfold seg;rw[Na.je (l.drop k) i (by simp; omega),Ÿ]
abbrev Zd(vs ut:List UInt32)(n j:Nat)(J:vs.length=n+2)(D:j+n+3<=ut.length)(aa:Na.TR (ut.drop (j+1))<Na.TR vs) :
  Na.TR (seg ut j (n+3))=Na.TR (ut.drop j)∧Na.TR (ut.drop (j+(n+3)))=0∧Na.TR (ut.drop j)<Na.NZ*Na.TR vs ∧
  (ut[j+(n+2)]'Z).toNat<=(vs[n+1]'Z).toNat ∧
  (∃L,L<Na.NZ^n∧Na.TR (ut.drop j)=L+Na.NZ^n*((ut[j+n]'Z).toNat+Na.NZ*(ut[j+(n+1)]'Z).toNat+Na.NZ*Na.NZ*(ut[j+(n+2)]'Z).toNat)) ∧
  (∃M,M<Na.NZ^n∧Na.TR vs=M+Na.NZ^n*((vs[n]'Z).toNat+Na.NZ*(vs[n+1]'Z).toNat)):=by
 have D:=Na.dS vs;rw[J]at D;have hd:=Na.oG ut j Z;have S:=(ut[j]'Z).toNat_lt;have J:Na.TR (ut.drop j)<Na.NZ*Na.TR vs:=by
  have h1:Na.NZ*(Na.TR (ut.drop (j+1))+1)<=Na.NZ*Na.TR vs:=Ę _ aa;rw[Ŕ]at h1;have:(ut[j]'Z).toNat<Na.NZ:=S;omega
 have S:=VA ut j (n+3) Z;have hz:Na.TR (ut.drop (j+(n+3)))=0:=by
  rcases ė (Na.TR (ut.drop (j+(n+3))))with h | h
  .exact h
  have h1:Na.NZ^(n+3)*1<=Na.NZ^(n+3)*Na.TR (ut.drop (j+(n+3))):=Ę _ h;have h2:Na.NZ*Na.TR vs<Na.NZ*Na.NZ^(n+2):=aHb D Na.kN;rw[ĕ Na.NZ (Na.NZ^(n+2)),<-ę]at h2;have D:Na.NZ*Na.TR vs<Na.NZ^(n+3):=h2;omega
 rw[hz,Nat.mul_zero,ż]at S;have s2:=kL ut j (n+2) Z;have s1:=kL ut j (n+1) Z;have s0:=kL ut j n Z;have l0:=Na.dS (seg ut j n);have l2:=Na.dS (seg ut j (n+2));rw[seg_length _ _ _ Z]at l0 l2;have t1:=Na.dD vs (n+1) Z;have t0:=Na.dD vs n Z;rw[Ď Z]at t1;have m0:=Na.dS (vs.take n);have m1:=Na.dS (vs.take (n+1));have e0:(vs.take n).length=n:=by simp; omega
 have e1:(vs.take (n+1)).length=n+1:=by simp; omega
 rw[e0]at m0;rw[e1]at m1;refine⟨S.symm,hz,J,?_,⟨Na.TR (seg ut j n),l0,?_⟩,⟨Na.TR (vs.take n),m0,?_⟩⟩
 ·
  rw[S,s2]at J;generalize (ut[j+(n+2)]'Z).toNat=D2 at *;generalize (vs[n+1]'Z).toNat=V1 at *;have h1:Na.NZ*Na.TR vs<Na.NZ^(n+2)*(V1+1):=by
   have h2:Na.TR vs<Na.NZ^(n+1)*(V1+1):=by rw[t1,Ŕ]; omega
   have D:Na.NZ*Na.TR vs<Na.NZ*(Na.NZ^(n+1)*(V1+1)):=aHb h2 Na.kN;rw[<-Ĝ,ĕ Na.NZ (Na.NZ^(n+1)),<-ę]at D;exact D
  have D:Na.NZ^(n+2)*D2<Na.NZ^(n+2)*(V1+1):=Z
  exact aG2 (aHa D)
 .have ep1:Na.NZ^(n+1)=Na.NZ^n*Na.NZ:=ę _ _;have D:Na.NZ^(n+2)=Na.NZ^n*Na.NZ*Na.NZ:=by rw[ę,ę]
  rw[S,s2,s1,s0,D,ep1,ó,ó,Ĝ (Na.NZ^n) Na.NZ (ut[j+(n+1)]'Z).toNat,Ĝ (Na.NZ^n) Na.NZ Na.NZ,Ĝ (Na.NZ^n) (Na.NZ*Na.NZ)];omega
 rw[t1,t0,ę,ó,<-Ĝ];omega
abbrev agF{D:List UInt32}{Q q:Nat}(hU:Na.TR D=Na.TR ut+Na.NZ^(j+1)*(V*Q))(hl:ws.length=ut.length)(S:j<=ut.length)(ht:ws.take j=ut.take j)
  (hw:Na.TR (ws.drop j)=Na.TR (ut.drop j)%V) (hq:q=Na.TR (ut.drop j)/V):Na.TR D=Na.TR ws+Na.NZ^j*(V*(q+Na.NZ*Q)):=by
 have J:=Na.je ut j S;have D:=Na.je ws j Z;rw[ht,hw]at D;have S:=ř (Na.TR (ut.drop j)) V;rw[<-hq]at S;rw[hU,J,D];generalize Na.TR (ut.drop j)%V=r at *;generalize Na.TR (ut.drop j)=P at *;generalize Na.TR (ut.take j)=A at *;clear hU J D hw hq;subst S;rw[ó (Na.NZ^j) r,ó V q,ύ V Na.NZ Q,ó (Na.NZ^j) (V*q),ę,Ĝ (Na.NZ^j) Na.NZ];omega
abbrev Gn{i:Nat}(h:Turned ut ws j i)(hl:j+i<=ut.length)(D:Na.TR (ut.drop (j+i))=0):Na.TR (ws.drop j)=Na.TR (seg ws j i):=by
 rw[VA ws j i (by rw[h.1]; exact hl),h.F,D]; simp
abbrev agG(c U y:Nat)(D:c<=1)(J:U<4294967296)(S:y<4294967296) :
  ((c:Int)+((U:Int)+(y:Int)))/4294967296=(((c+(U+y))/Na.NZ:Nat):Int)∧((c:Int)+((U:Int)+(y:Int)))%4294967296=(((c+(U+y))%Na.NZ:Nat):Int) ∧
  (c+(U+y))%Na.NZ<4294967296∧(c+(U+y))/Na.NZ<=1:=by
 unfold Na.NZ;refine⟨Z,Z,Z,Z⟩
abbrev ac2{D y:Nat}(E:Nat)(h:A+E*c=W+D):A+E*((c+(U+y))%Na.NZ)+E*Na.NZ*((c+(U+y))/Na.NZ)=W+E*U+(D+E*y):=by
 have D:=ř (c+(U+y)) Na.NZ;have J:E*((c+(U+y))%Na.NZ)+E*Na.NZ*((c+(U+y))/Na.NZ)=E*c+(E*U+E*y):=by
  rw[Ĝ,<-ó,D,ó,ó]
 omega
abbrev agH{R E x:Nat}(h:A+E*c=W+V)(D:x=W+E*U)(J:x+V=E*Na.NZ+R)(hA:A<E)(S:R<E)(hU:U<4294967296)(hc:c<=1) :
  A+E*((U+c)%Na.NZ)=R:=by
 subst D;have D:A+E*(U+c)=E*Na.NZ+R:=by rw[ó]; omega
 have J:U+c=Na.NZ:=by
  rcases aGW (U+c) Na.NZ with h | h | h
  .have h3:E*(U+c)+E<=E*Na.NZ:=by rw[<-Ŕ]; exact Ę _ h
   omega
  .exact h
  have hB:Na.NZ=4294967296:=I;omega
 rw[J]at D |-;rw[Nat.mod_self]; omega
end Go.Proofs.Õ
namespace Go.Proofs.Õ
open Na
variable{α:Type}
abbrev KC(n:Nat)(w:E5)(hn:n<4294967296*4294967296) :
  Nq prog 294 #[.int .u64 (n:Int)] w λe w'=>∃D,e = .R D ∧
   w'.ownsRow w.heap.size 119 1 D (RI n).length ((RI n).map bn)∧Ext w w':=by
 have h:=qY (UInt64.ofNat n) w;have e:(UInt64.ofNat n).toNat=n:=by simp; omega
 unfold aiy at h;rw[e]at h;exact h
abbrev yE{a b:Nat}(h:b<=a):¬rV a b<0:=by unfold rV; rw[UQ Z]; split<;>omega
abbrev agI{a b:Nat}(h:a<b):rV a b<0:=by rw[CW h]; omega
abbrev pU{n:Nat}(h:(RI n).length=0):n=0:=lM.1 (Ś h)
abbrev VB(v u:y9)(l m:List UInt32)(w:E5)(hv:aH w v l)(hu:aH w u m)(J:TR l<TR m)(D:l.length<=1000000000) :
  Nq prog 293 #[v,u] w λe w'=>∃r,e = .R (.tuple #[.sn,r,.i 0])∧aH w' r (RI (TR l))∧Ext w w':=by
 have C1:=FU (short_any v l w hv);have C2:=FU (short_any u m w hu);have D:0<(RI (TR m)).length:=by
  rcases ė (RI (TR m)).length with h | h
  .have:=pU h; omega
  exact h
 have D:=agI J;have ea:=RH (TR l);have S:=RH (TR m);have aa:=dB l;rw[<-ea,<-S]at D;clear hv hu J;generalize RI (TR l)=a at *;generalize RI (TR m)=b at *;have J:=FU ea;have J:=FU S;clear ea S;have J:((b.length:Int)==0)=false:=by rw[õ]; omega
 go_enter func293,ntmps293
 go_wp2_with fail
 refine C1.out.mono ?_;rintro e w' ⟨x,rfl,S,rfl⟩;go_wp2_with fail
 refine C2.out.mono ?_;rintro e w' ⟨y,rfl,J,rfl⟩;go_wp2_with fail
 refine(CX _ _ a b _ S J).mono ?_;rintro e w1 ⟨rfl,J⟩;generalize rV (TR a) (TR b)=c at D |-;go_wp2_with fail
 refine(Z8 _ a _ (S.below J) Z).mono ?_;rintro e w2 ⟨r,rfl,D,S⟩;have hr:=bC D;clear D;go_wp2_with fail
 go_ret3
 exact⟨_,I,hr,Ip J S⟩
abbrev Ze(v u:y9)(l m:List UInt32)(d:UInt32)(w:E5)(hv:aH w v l)(hu:aH w u m)(hd:RI (TR m)=[d])(S:TR m<=TR l)(D:l.length<=1000000000) :
  Nq prog 293 #[v,u] w λe w'=>∃q r,e = .R (.tuple #[q,r,.i 0])∧aH w' q (RI (TR l/TR m))∧aH w' r (RI (TR l%TR m))∧Ext w w':=by
 have C1:=FU (short_any v l w hv);have C2:=FU (short_any u m w hu);have eb:=RH (TR m);have ed:TR m=d.toNat:=by rw[<-eb,hd]; simp[TR]
 have J:0<d.toNat:=by
  rcases ė d.toNat with h | h
  .rw[h]at ed; rw[ed]at hd; simp[RI,Na.lK]at hd
  exact h
 have D:=yE S;have ea:=RH (TR l);have af:=dB l;rw[ed]at D |-;rw[hd]at C2;rw[<-ea]at D;rw[<-ea];clear hv hu S eb;generalize RI (TR l)=a at *;have S:=FU ea;clear ea;have S:¬rV (TR a) (TR [d])<0:=by simpa[TR]using D
 have ON:=λw v h=>FU (one_any v a d w h J Z);clear D ed hd;have D:=d.toNat_lt;have D:TR a%d.toNat<4294967296:=by have:=Ŋ (TR a) J; omega
 go_enter func293,ntmps293
 go_wp2_with fail
 refine C1.out.mono ?_;rintro e w' ⟨x,rfl,hx,rfl⟩;go_wp2_with fail
 refine C2.out.mono ?_;rintro e w' ⟨y,rfl,hy,rfl⟩;obtain⟨aa,oy,cy,D,ac,ah,ai,J⟩:=dO hy I Y;simp only[Ĉ]at D;obtain⟨rfl,-,-⟩:=D;have D:=J 0 Y;simp only[ż,Ϲ]at D;clear J;rw[show([d]:List UInt32).length=1 from rfl]at hy |-;go_wp2_with fail
 refine(CX _ _ a [d] _ hx hy).mono ?_;rintro e w1 ⟨rfl,J⟩;have ag:w1.cell? ⟨aa,oy,none⟩=some (bn d):=(J.cell (p:=⟨aa,oy,none⟩) ac).trans D;generalize rV (TR a) (TR [d])=c at S |-;clear D;go_wp2_with fail
 refine(ON _ _ (hx.below J)).out.mono ?_;rintro e w2 ⟨q,rfl,hq,ae⟩;have hw:IntKind.u64.wrap ((TR a%d.toNat:Nat):Int)=((TR a%d.toNat:Nat):Int):=iG _ Z;have D:=FU (KC (TR a%d.toNat) w2 Z);generalize hrm:TR a%d.toNat=rm at *;have ab:=FU hrm;clear hrm;go_wp2_with fail
 refine D.out.mono ?_;rintro e w3 ⟨r,rfl,D,S⟩;have hr:=bC D;clear D;go_wp2_with fail
 go_ret3
 exact⟨_,_,I,hq.below S,by rw[ab.out]; exact hr,Ip J (Ip ae S)⟩
abbrev Turned.trans{S ws ts:List UInt32}{k i:Nat}(D:Turned S ws k i)(J:Turned ws ts k i):Turned S ts k i:=
 ⟨J.1.trans D.1,J.2.1.trans D.2.1,J.F.trans D.F⟩
abbrev aj1{a b U V P q r:Nat}(D:U=a*P)(J:V=b*P)(h:U=r+V*q)(S:r<V)(hP:0<P):q=a/b∧r/P=a%b:=by
 subst D J;have D:b*q*P<=a*P:=by rw[Nat.mul_right_comm]; omega
 have J:=Nat.le_of_mul_le_mul_right D hP;obtain⟨s,rfl⟩:∃s,a=s+b*q:=⟨a-b*q,Z⟩;have D:r=s*P:=by rw[Œ,Nat.mul_right_comm b q P]at h; omega
 subst D;have D:s<b:=Nat.lt_of_mul_lt_mul_right S;rw[Nat.mul_div_cancel _ hP,aGU _ _ Z,Nat.add_mul_mod_self_left,aGV D,Ξ D];exact⟨Z,I⟩
abbrev Nv(v:y9)(l:List UInt32)(p:Nat)(w:E5)(hv:aH w v l)(aa:p<=31)(D:l.length<=1000000000) :
  Nq prog 323 #[v,.i (-(p:Int))] w λe w'=>∃J,e = .R J∧aH w' J (RI (TR l/2^p))∧Ext w w':=by
 rcases ė p with rfl | hp
 .have h:=AY v l 0 w hv Z D;refine h.mono ?_;rintro e w' ⟨a,rfl,J,S⟩;simp only[Nat.pow_zero,Nat.mul_one,Nat.div_one]at J |-;exact⟨_,I,J,S⟩
 refine(Xi v l p w hv hp aa D).mono ?_;rintro e w' ⟨a,rfl,J,S⟩;exact⟨_,I,J,S⟩
abbrev ac3(b:List UInt32)(m:Nat)(S:b.length=m+1)(hn:Na.norm b):∃p:Nat,(32:Int)-(Lib.bitLen (b[m]'Z).toNat:Int)=(p:Int)∧p<=31 ∧
  (RI (TR b*2^p)).length=m+1∧∀(h:m<(RI (TR b*2^p)).length),2147483648<=((RI (TR b*2^p))[m]).toNat:=by
 have D:b[m]'Z≠0:=by
  have:=Na.vk hn Z;simpa[S]using this
 have J:=Na.dD b m Z;rw[<-S,ħ]at J;have S:=Na.dS (b.take m);have e2:(b.take m).length=m:=by simp; omega
 rw[e2]at S;generalize b[m]'Z=x at *;have hb:1<=Lib.bitLen x.toNat∧2^(Lib.bitLen x.toNat-1)<=x.toNat∧x.toNat<2^Lib.bitLen x.toNat:=
  Lib.bitLenAux_bounds 64 _ (by have:=x.toNat_lt; omega) (λe=>D (Ř.1 (by simpa using e)))
 have D:=Lib.bitLen_le x.toNat 32 Z x.toNat_lt;generalize Lib.bitLen x.toNat=c at *;refine⟨32-c,Z,Z,?_⟩;have S:2147483648<=x.toNat*2^(32-c):=by
  have D:2^(c-1)*2^(32-c)=2147483648:=by rw[<-Ž,show c-1+(32-c)=31 by omega]
  rw[<-D]; exact ō _ hb.2.1
 have aa:(x.toNat+1)*2^(32-c)<=NZ:=by
  have D:2^c*2^(32-c)=NZ:=by rw[<-Ž,show c+(32-c)=32 by omega]; rfl
  rw[<-D]; exact ō _ hb.F
 have ab:0<2^(32-c):=œ _;generalize 2^(32-c)=P at *;have ae:NZ^m*2147483648<=TR b*P:=by
  rw[J,Œ,Ĝ];have:=Ę (NZ^m) S;omega
 have S:TR b*P<NZ^(m+1):=by
  have D:TR b<NZ^m*(x.toNat+1):=by rw[J,Ŕ]; omega
  have J:TR b*P<NZ^m*(x.toNat+1)*P:=aHc D ab;have h3:=Ę (NZ^m) aa;rw[ę];rw[Ĝ]at J;omega
 have hd:=RH (TR b*P);have ac:=Na.gZ (TR b*P);generalize TR b*P=V at *;generalize RI V=l at *;have af:0<NZ^m:=Ϯ Na.kN;have hll:l.length=m+1:=by
  have D:=Na.length_le ac (by rw[hd]; exact S);rcases ĩ l.length (m+1)with h | h
  .have J:=Na.dS l;have h3:NZ^l.length<=NZ^m:=ķ Na.kN Z;have S:NZ^m*1<=NZ^m*2147483648:=Ę _ Z;rw[hd]at J;omega
  omega
 refine⟨hll,λh=>?_⟩;have D:=Na.dD l m h;rw[<-hll,ħ,hd]at D;have J:=Na.dS (l.take m);have h3:(l.take m).length=m:=by simp; omega
 rw[h3]at J;rcases ĩ (l[m]).toNat 2147483648 with S | S
 .have h5:NZ^m*((l[m]).toNat+1)<=NZ^m*2147483648:=Ę _ S;rw[Ŕ]at h5;omega
 exact S
abbrev Zf{a b:List UInt32}(D:Na.norm b)(h:TR b<=TR a):b.length<=a.length:=Na.length_le D (Ϟ h (Na.dS a))
abbrev ac4(a:List UInt32)(p:Nat)(D:p<=31)(hn:Na.norm a):a.length<=(RI (TR a*2^p)).length∧(RI (TR a*2^p)).length<=a.length+1:=by
 have J:=Na.dS a;have hP:0<2^p:=œ p;have D:2^p<=NZ:=ä (ķ Z (show p<=32 by omega)) (Ç _);constructor
 .rcases ĩ (RI (TR a*2^p)).length a.length with h | h
  .exfalso;have S:=Na.dS (RI (TR a*2^p));rw[RH]at S;have S:=Na.Eu hn Z;have S:NZ^(RI (TR a*2^p)).length<=NZ^(a.length-1):=ķ Na.kN Z;have S:TR a*1<=TR a*2^p:=Ę _ hP;omega
  exact h
 apply Na.bJ;rw[ę];exact ö (aHc J hP) (Ę _ D)
abbrev VD(v u:y9)(l m:List UInt32)(n:Nat)(w:E5)(hv:aH w v l)(hu:aH w u m)(hn:(RI (TR m)).length=n+2)(a6:TR m<=TR l)(f1:l.length<=100000000)(fz:m.length<=100000000) :
  Nq prog 293 #[v,u] w λe w'=>∃q r,e = .R (.tuple #[q,r,.i 0])∧aH w' q (RI (TR l/TR m))∧aH w' r (RI (TR l%TR m))∧Ext w w':=by
 have C1:=FU (short_any v l w hv);have C2:=FU (short_any u m w hu);have f2:=dB l;have f3:=dB m;have ea:=RH (TR l);have eb:=RH (TR m);have na:=Na.gZ (TR l);have nb:=Na.gZ (TR m);have cn:=yE a6;rw[<-ea,<-eb]at cn a6;rw[<-ea,<-eb];clear hv hu ea eb;generalize RI (TR l)=a at *;generalize RI (TR m)=b at *;obtain⟨p,hp,VE,dz,ao⟩:=ac3 b (n+1) hn nb;have f4:=(b[n+1]'Z).toNat_lt;have ex:=FU a6;have ey:=FU na;have e1:=FU nb;have J:Hid ((RI (TR b*2^p)).length=n+2):=dz;have co:=FU ao;have HN:=FU hn;clear a6 na nb dz ao;go_enter func293,ntmps293
 go_wp2_with fail
 refine C1.out.mono ?_;rintro e w' ⟨x,rfl,hx,rfl⟩;go_wp2_with fail
 refine C2.out.mono ?_;rintro e w' ⟨y,rfl,hy,rfl⟩;obtain⟨d0,oy,cy,d1,bc,gj,gk,d2⟩:=dO hy I Z;simp only[Ĉ]at d1;obtain⟨rfl,-,-⟩:=d1;have cq:=d2 (n+1) Z;clear d2;go_wp2_with fail
 refine(CX _ _ a b _ hx (by rw[<-HN.out]; exact hy)).mono ?_;rintro e w1 ⟨rfl,aq⟩;have e2:w1.cell? ⟨d0,oy+(n+1),none⟩=some (bn (b[n+1]'Z)):=(aq.cell (p:=⟨d0,oy+(n+1),none⟩) bc).trans cq;clear cq;generalize rV (TR a) (TR b)=c at cn |-;generalize b[n+1]'Z=bt at *;have f5:((n:Int)+2==1)=false:=by rw[õ]; omega
 go_wp2_with fail
 refine(bits_LeadingZeros32 (bt.toNat:Int) _ Z Z).mono ?_;rintro e w' ⟨rfl,rfl⟩;rw[ŗ,hp];clear hp;have a8:=hy.below aq;rw[HN.out]at a8;have ct:=hx.below aq;go_wp2_with fail
 refine(AY _ b p _ a8 VE Z).mono ?_;rintro e w2 ⟨bv,rfl,af,cj⟩;rw[J.out]at af |-;go_wp2_with fail
 refine(AY _ a p _ (ct.below cj) VE Z).mono ?_;rintro e w3 ⟨bu,rfl,em,ck⟩;have UD:=ac4 a p VE ey.out;have cu:=af.below ck;have a9:Ext w w3:=Ip aq (Ip cj ck);have cw:TR (RI (TR b*2^p))=TR b*2^p:=RH _;have cx:TR (RI (TR a*2^p))=TR a*2^p:=RH _;generalize RI (TR b*2^p)=vs at *;generalize RI (TR a*2^p)=us at *;have e3:=FU cw;have e4:=FU cx;clear cw cx af hy a8 hx ct e2 C1 C2;have r0:=oD w3 (.int .u32 0) 119 I;have ru:=Ep (em.raw (λ_=>I)) (.cells #[.int .u32 0] 119);have e5:us.length+1<=maxLen:=by unfold maxLen; omega
 have bc:(us.length+1)*4<=140737488355328:=Z
 have bd:=aI w3 (.cells #[.int .u32 0] 119);have be:=cu.below bd;have cz:=Ip a9 bd;clear em cu aq cj ck bd;have e6:¬((us.length:Int)+1<=(a.length:Int)):=Z
 go_wp2_with (at_builtin; refine zO I _ _ _ I mD ru I r0 I O e5 bc ?_; intro uv w5 ag Zg; obtain⟨g,cap,rfl,d3,gl,gm⟩:=jf ag (Nat.succ_pos _))
 refine wp_loop_rounds 1 ?_;rw[χ];have bg:=FU ag;have c0:=be.below Zg;have e7:=Ip cz Zg;have f6:vs.length<=us.length:=by
  have S:=J.out;have h2:=HN.out;have h3:=Zf e1.out ex.out;omega
 clear ag ru r0 cz;obtain⟨K,hK⟩:∃K,us.length+1=K+(n+2):=⟨us.length+1-(n+2),by have S:=J.out; omega⟩;have e8:(us.length:Int)+1-((n:Int)+2)=(K:Int):=Z
 have HK:=FU hK;have f7:K<=us.length:=Z
 have e9:K<=maxLen:=by unfold maxLen; omega
 have fa:4*K<=281474976710656:=Z
 clear hK;go_wp2_with (at_make; refine wpList_make_row I _ _ _ I mD I w5.heap.size K I I I fa e9 (Ç _) ?_; intro w6 av fy)
 have bh:=gQ (ø w5.heap.size w5) fy (Ç _);have fb:=FU av;have f8:g<w5.heap.size:=(bg.out.lt g I).2;have fc:=c0.below bh;clear av e8 c0 e6 fc;obtain⟨bb,ob,cb,d4,ce,gn,go,d5⟩:=dO be J.out Z;simp only[Ĉ]at d4;obtain⟨rfl,-,-⟩:=d4;have fd:w3.heap.size+1=(w3.alloc (.cells #[.int .u32 0] 119)).heap.size:=by simp
 have da:(w3.alloc (.cells #[.int .u32 0] 119)).heap.size<=g:=d3;have fe:Ext w (w3.alloc (.cells #[.int .u32 0] 119)):=Ip a9 (aI _ _);have ff:Ext (w3.alloc (.cells #[.int .u32 0] 119)) w6:=Ip Zg bh;have H5:Hid (w6.ownsRow (w3.alloc (.cells #[.int .u32 0] 119)).heap.size 119 1 (.s (some ⟨g,0,none⟩) (us.length+1) cap) (us.length+1) ((us++[0]).map bn)):=by
  have:=dF bg.out bh;unfold Hid;simpa[bn]using this
 clear be bg Zg a9 e7 fd d3;generalize w3.alloc (.cells #[.int .u32 0] 119)=w4 at *;have HC:=FU d5;have aw:NZ^(n+1)<=TR vs:=by
  have h0:n+1<vs.length:=by have:=J.out; omega
  have S:=co.out h0;have h2:=Na.dD vs (n+1) h0;rw[Ď (by have:=J.out; omega)]at h2;have h3:NZ^(n+1)*1<=NZ^(n+1)*(vs[n+1]).toNat:=Ę _ Z;omega
 have db:=FU aw;clear aw;clear d5;go_loopw [13] (λi wr=>∃(k:Nat) (ut qd:List UInt32),k<=K∧i = .i ((k:Int)-1)∧ut.length=us.length+1∧k+qd.length=K∧TR (ut.drop k)<TR vs ∧
  TR us=TR ut+NZ^k*(TR vs*TR qd) ∧
  wr.ownsRow w4.heap.size 119 1 (.s (some ⟨g,0,none⟩) (us.length+1) cap) (us.length+1) (ut.map bn) ∧
  wr.ownsRow w5.heap.size 119 1 (.s (some ⟨w5.heap.size,0,none⟩) K K) K ((List.replicate k 0++qd).map bn)∧Below w4.heap.size w4 wr) (λi _=>(intOf i+1).toNat)
 case atStart =>
  refine⟨K,us++[0],[],Ç _,I,by simp,by simp,?_,by simp[Na.val_append,TR],H5.out,by simpa[bn]using fb.out,ff⟩;have S:=HK.out;have h2:(us++[0]).drop K=us.drop K++[0]:=by rw[List.drop_append_of_le_length Z]
  rw[h2,Na.jv];have h3:=Na.dS (us.drop K);have h4:(us.drop K).length=n+1:=by simp; omega
  rw[h4]at h3;have h5:=db.out;simp; omega
 case round =>
  obtain⟨k,ut,qd,hk,rfl,ai,d6,cf,hU,d7,d8,ac⟩:=hrel;have bj:=FU d7;have dd:=FU d8;have VF:=FU ai;have bk:=FU d6;have HU:=FU hU;clear d7 d8 ai d6 hU;cases k with
  | zero =>
   have fg:aH wr (.s (some ⟨w5.heap.size,0,none⟩) K K) qd:=by
    have S:=dd.out;have h2:=bk.out;rw[Ī]at h2;rw[<-h2]at S |-;exact bC (l:=qd) S
   have fh:aH wr (.s (some ⟨g,0,none⟩) (us.length+1) cap) ut:=by
    have S:=bj.out;have h2:=VF.out;rw[<-h2]at S |-;exact bC (l:=ut) S
   have hE:=aj1 e4.out e3.out (by have S:=HU.out; rw[Nat.pow_zero,Nat.one_mul]at S; exact S) (by rw[Ϻ]at cf; exact cf) (œ p);have HE:=FU hE;have fi:ut.length<=1000000000:=by have S:=VF.out; omega
   clear hE;go_wp2_with fail
   refine(short_any _ qd _ fg).mono ?_;rintro e w' ⟨q',rfl,fv,rfl⟩;go_wp2_with fail
   refine(Nv _ ut p _ fh VE fi).mono ?_;rintro e w9 ⟨r',rfl,eo,ep⟩;go_wp2_with fail
   go_ret3
   have ax:=fv.below ep;rw[HE.out.1]at ax;rw[HE.out.2]at eo;rw[HE.out.1];exact⟨_,_,I,ax,eo,Ip fe (ac.trans (ep.mono ac.size))⟩
  | succ j =>
   have hi:(((j+1:Nat):Int)-1)=(j:Int):=Z
   rw[hi];clear hi;have f9:j<cap:=Z
   have fj:=HK.out;have ga:j+(n+2)+1<=cap:=Z
   have gb:j+(n+2)+1-j=n+3:=Z
   have de:j+n+3<=ut.length:=by have:=VF.out; omega
   obtain⟨d9,ed,cg,ee,⟨L,ef,eg⟩,⟨M,eh,ei⟩⟩:=Zd vs ut n j J.out de cf;have ay:∀i (h:i<ut.length),wr.cell? ⟨g,i,none⟩=some (bn ut[i]):=λi h=>by
    rw[bj.out.cellAt i (by have:=VF.out; omega),List.getElem?_map,List.getElem?_eq_getElem h,ě]
   have af:∀i (h:i<vs.length),wr.cell? ⟨bb,ob+i,none⟩=some (bn vs[i]):=λi h=>by
    rw[ac.cell (p:=⟨bb,ob+i,none⟩) ce]; exact HC.out i h
   have i2:j+(n+2)<ut.length:=Z
   have i1:j+(n+1)<ut.length:=Z
   have i0:j+n<ut.length:=Z
   have v1:n+1<vs.length:=by have:=J.out; omega
   have v0:n<vs.length:=Z
   have df:=co.out v1;have fk:n<=1000000000:=Z
   have hg:=ac1 g j (cap-j) bb ob (n+2) n _ _ _ _ _ wr fk (ut[j+(n+2)]'i2).toNat_lt (ut[j+(n+1)]'i1).toNat_lt (ut[j+n]'i0).toNat_lt
    (vs[n+1]'v1).toNat_lt (vs[n]'v0).toNat_lt df ee (ay _ i2) (ay _ i1) (ay _ i0) (af _ v1) (af _ v0)
   have aw:0<(vs[n+1]'v1).toNat:=ö O df;have dh:=λq S h2 h3=>abw (q:=q) eg ef ei eh aw (ut[j+n]'i0).toNat_lt S cg h2 h3;have HG:=FU hg;have di:=FU dh;have fm:=FU d9;have fo:=FU ed;have gc:=FU cg;clear fj d9 ed cg ee ef eg eh ei ay af hg dh;go_wp2_with fail
   refine HG.out.mono ?_;rintro e w7 ⟨q,rfl,a5,br,et,cm⟩;have hq:=di.out q a5 br et;have HQ:=FU hq;clear HG di br et hq;have fp:=FU (dF bj.out cm);have fq:=FU (dF dd.out cm);have fr:Below w4.heap.size w4 w7:=ac.trans (cm.mono ac.size);go_wp2_with fail
   refine(take_any g j (n+2) (us.length+1) (cap-j) cap ut vs bb ob (n+2) q w4 w7 J.out VF.out (by have:=VF.out; omega) Z a5 HC.out ce fp.out fr).mono ?_;rintro e w8 ⟨neg,ws,rfl,ar,ae,eu,ew,fw⟩;have HT:=FU ar;have ft:=FU ae;have dj:=FU eu;have bm:=FU (fq.out.kept fw (by right; simp[Value.ownBlock]; omega));clear ar ae eu;have az:0<TR vs:=ö (Ϯ Na.kN) db.out;have dk:seg ut j (n+2+1)=seg ut j (n+3):=I;have bo:TR (seg ws j (n+2+1))<NZ^(n+2+1):=by
    have S:=Na.dS (seg ws j (n+2+1));rw[seg_length _ _ _ (by have:=HT.out.1; have:=VF.out; omega)]at S; exact S
   have bp:=ft.out;rw[dk,fm.out]at bp;have al:=aev neg az HQ.out.1 HQ.out.2 bo bp;have HS:=FU al;have gd:=FU bo;have dl:TR (ut.drop (j+(n+2+1)))=0:=fo.out;have dm:=FU dl;obtain⟨⟨cv,ap⟩,bz⟩:=su bm.out j Z;have ge:(q:Int)%4294967296=q:=Z
   clear dk bo bp al dl de;have dq:w4.heap.size<=w5.heap.size:=Z
   have dr:bn (UInt32.ofNat q) = .int .u32 (q:Int):=by simp only[bn,dn a5]
   have bq:=FU dr;clear dr;cases neg with
   | false =>
    have a3:=FU (HS.out.1 I);clear HS;go_wp2_with fail
    go_roundw
    case rel =>
     obtain⟨fu,Zh⟩:=a3.out;have aa:=bm.out.stored j (.int .u32 (q:Int));rw[<-bq.out,Ħ,aGX,Hg,bq.out]at aa;have D:=Gn HT.out (by have:=VF.out; omega) dm.out;rw[fu]at D;refine⟨j,ws,UInt32.ofNat q::qd,Z,I,HT.out.1.trans VF.out,by have:=bk.out; simp; omega,by rw[D]; exact Ŋ _ az,?_,?_,?_,?_⟩
     .have:=agF HU.out HT.out.1 (by have:=VF.out; omega) HT.out.2.1 D Zh;simp only[TR,dn a5]; exact this
     .exact dj.out.kept aa.2 (by right; simp[Value.ownBlock]; omega)
     .have S:=aa.1;rw[<-bq.out]at S |-;rw[Ħ,aGX,đ];exact S
     exact ew.setCell (p:=⟨w5.heap.size,j,none⟩) dq _
    case measure=>simp[intOf]
   | true =>
    have a3:=FU (HS.out.2 I);have br:=a3.out.1;have gf:(1:Int)<=q:=Z
    clear HS ap bz;go_wp2_with fail
    go_loopw [16,105] (λcv iv wr=>∃(i c:Nat) (wt:List UInt32),i<=n+2∧iv = .i i∧cv = .int .u64 c∧c<=1∧Turned ws wt j i ∧
     TR (seg wt j i)+NZ^i*c=TR (seg ws j i)+TR (vs.take i) ∧
     wr.ownsRow w4.heap.size 119 1 (.s (some ⟨g,0,none⟩) (us.length+1) cap) (us.length+1) (wt.map bn)∧w8.grownBy wr (some g)∧Below w4.heap.size w4 wr) (λ_ iv _=>n+2-(intOf iv).toNat)
    case atStart=>exact⟨0,0,ws,Z,I,I,Z,Turned.refl _ _ _,by simp[seg,TR],dj.out,KA _ _,ew⟩
    case round =>
     obtain⟨i,c,wt,hi,rfl,rfl,hc,ej,ae,a7,ek,ci⟩:=hrel;have ab:=FU ej;have ds:=FU ae;have ah:=FU a7;clear ej ae a7;by_cases hlt2:i<n+2
     .have UD:j+i<ws.length:=by have bs:=HT.out.1; have ai:=VF.out; omega
      have hu:wr.cell? ⟨g,j+i,none⟩=some (bn (ws[j+i]'UD)):=by
       rw[ah.out.cellAt (j+i) (by have bs:=HT.out.1; have ai:=VF.out; omega),List.getElem?_map,List.getElem?_eq_getElem (by have bw:=ab.out.1; omega),ě,ab.out.get UD]
      have bz:=ah.out.frozenAt (j+i);have am:=FU (kL ws j i UD);have ca:j+i<wt.length:=by have bw:=ab.out.1; omega
      generalize ws[j+i]'UD=U at hu am;have g2:=U.toNat_lt;have u0:=ig U;have dt:i<vs.length:=by have:=J.out; omega
      have hy:wr.cell? ⟨bb,ob+i,none⟩=some (bn vs[i]):=by rw[ci.cell (p:=⟨bb,ob+i,none⟩) ce]; exact HC.out i dt
      have HY:=FU (Na.dD vs i dt);generalize vs[i]=y at hy HY;have g1:=y.toNat_lt;have y0:=ig y;go_wp2_with fail
      go_roundw
      case rel =>
       obtain⟨z1,z2,z3,z4⟩:=agG c U.toNat y.toNat hc g2 g1;have aa:=ah.out.stored (j+i) (.int .u32 (((c+(U.toNat+y.toNat))%NZ:Nat):Int));have ez:bn (UInt32.ofNat ((c+(U.toNat+y.toNat))%NZ)) = .int .u32 (((c+(U.toNat+y.toNat))%NZ:Nat):Int):=by simp only[bn,dn z3]
       rw[<-ez,<-Ű,ez]at aa;rw[z1,z2];refine⟨i+1,(c+(U.toNat+y.toNat))/NZ,wt.set (j+i) (UInt32.ofNat ((c+(U.toNat+y.toNat))%NZ)),Z,by go_num,I,z4,ab.out.set _,?_,aa.1,yD ek aa.2,ci.setCell (p:=⟨g,j+i,none⟩) da _⟩;rw[sS _ _ _ _ ca,am.out,HY.out,dn z3,ę];exact ac2 (NZ^i) ds.out
      case measure=>simp[intOf]; omega
     obtain rfl:i=n+2:=by omega
     have UD:j+(n+2)<ws.length:=by have bs:=HT.out.1; have ai:=VF.out; omega
     have hu:wr.cell? ⟨g,j+(n+2),none⟩=some (bn (ws[j+(n+2)]'UD)):=by
      rw[ah.out.cellAt (j+(n+2)) (by have bs:=HT.out.1; have ai:=VF.out; omega),List.getElem?_map,List.getElem?_eq_getElem (by have bw:=ab.out.1; omega),ě,ab.out.get UD]
     have bz:=ah.out.frozenAt (j+(n+2));have am:=FU (kL ws j (n+2) UD);have ca:j+(n+2)<wt.length:=by have bw:=ab.out.1; omega
     generalize ws[j+(n+2)]'UD=U at hu am;have g2:=U.toNat_lt;have u0:=ig U;have du:=FU (bm.out.kept ek (by right; simp[Value.ownBlock]; omega));obtain⟨⟨cv,ap⟩,gp⟩:=su du.out j Z;have gg:(c:Int)%4294967296=c:=Z
     have gh:((q:Int)-1)%4294967296=(q:Int)-1:=Z
     have gi:g≠w5.heap.size:=Z
     go_wp2_with fail
     go_roundw
     case rel =>
      obtain⟨f0,Zh,el⟩:=a3.out;have dx:(U.toNat+c)%NZ<4294967296:=Ŋ _ O;have ez:bn (UInt32.ofNat ((U.toNat+c)%NZ)) = .int .u32 (((U.toNat:Int)+(c:Int))%4294967296):=by
       simp only[bn,dn dx]; simp[NZ]
      have cc:bn (UInt32.ofNat (q-1)) = .int .u32 ((q:Int)-1):=by
       simp only[bn,dn (show q-1<4294967296 by omega)]; congr 1; omega
      have aa:=ah.out.stored (j+(n+2)) (.int .u32 (((U.toNat:Int)+(c:Int))%4294967296));rw[<-ez,<-Ű,ez]at aa;have ax:=du.out.kept aa.2 (by right; simp[Value.ownBlock]; omega);have an:=ax.stored j (.int .u32 ((q:Int)-1));rw[<-cc,Ħ,aGX,Hg,cc]at an;have a4:=HT.out.trans (ab.out.set (UInt32.ofNat ((U.toNat+c)%NZ)));have D:=Gn a4 (by have:=VF.out; omega) dm.out;have ao:=ds.out;rw[Ď (by have:=J.out; omega)]at ao;have hA:=Na.dS (seg wt j (n+2));rw[seg_length _ _ _ Z]at hA;have dy:=Na.dS vs;rw[J.out]at dy;have hR:TR (ut.drop j)%TR vs<NZ^(n+2):=Nat.lt_trans (Ŋ _ az) dy;rw[ę]at el;have cd:=agH ao am.out el hA hR g2 hc;rw[sS _ _ _ _ ca,dn dx,cd]at D;refine⟨j,wt.set (j+(n+2)) (UInt32.ofNat ((U.toNat+c)%NZ)),UInt32.ofNat (q-1)::qd,Z,I,a4.1.trans VF.out,by have:=bk.out; simp; omega,by rw[D]; exact Ŋ _ az,?_,?_,?_,?_⟩
      .have:=agF HU.out a4.1 (by have:=VF.out; omega) a4.2.1 D Zh;simp only[TR,dn (show q-1<4294967296 by omega)]; exact this
      .exact aa.1.kept an.2 (by right; simp[Value.ownBlock]; omega)
      .have S:=an.1;rw[<-cc]at S |-;rw[Ħ,aGX,đ];exact S
      exact(ci.setCell (p:=⟨g,j+(n+2),none⟩) da _).setCell (p:=⟨w5.heap.size,j,none⟩) dq _
     case measure=>simp[intOf]
abbrev KD(v u:y9)(l m:List UInt32)(w:E5)(S:aH w v l)(hu:aH w u m)(hm:0<TR m)(J:l.length<=100000000)(D:m.length<=100000000) :
  Nq prog 293 #[v,u] w λe w'=>∃q r,e = .R (.tuple #[q,r,.i 0])∧aH w' q (RI (TR l/TR m))∧aH w' r (RI (TR l%TR m))∧Ext w w':=by
 rcases ĩ (TR l) (TR m)with h | h
 .refine(VB v u l m w S hu h Z).mono ?_;rintro e w' ⟨r,rfl,hr,hb⟩;rw[aGV h,Ξ h];exact⟨_,r,I,by rw[lM.2 I]; exact He _,hr,hb⟩
 rcases hd:RI (TR m)with _ | ⟨d,_ | ⟨d2,t⟩⟩
 .exact absurd (lM.1 hd) Z
 .exact Ze v u l m d w S hu hd h Z
 exact VD v u l m t.length w S hu (by rw[hd]; simp) h J D
abbrev Rz{f:α->y9}(hf:∀x y,f x=f y->x=y){w:E5}{v:y9}{l D:List α}(h:dG f w v l)(h':dG f w v D):l=D:=by
 obtain⟨a,cap,rfl,_,h⟩:=h;obtain⟨J,cap',D,_,h'⟩:=h';simp only[Ĉ]at D;obtain⟨rfl,hl,rfl⟩:=D;apply List.ext_getElem hl;intro i J S;rcases h with ⟨rfl,_⟩ | ⟨b,o,rfl,_,_,hc⟩
 .simp at J
 rcases h' with ⟨rfl,_⟩ | ⟨b',o',ha,_,_,D⟩
 .simp at S
 simp only[Æ,Ŵ,and_true]at ha;obtain⟨rfl,rfl⟩:=ha;have e:=(hc i J).symm.trans (D i S);exact hf _ _ (Ò e)
abbrev agJ(x y:UInt32)(h:bn x=bn y):x=y:=by
 simp only[bn,Value.int.injEq,true_and]at h;exact Ř.1 Z
open Classical in
noncomputable def valOf(w:E5)(v:y9):Nat:=if h:∃l,aH w v l then TR h.choose else 0
abbrev D5{w:E5}{v:y9}{l:List UInt32}(h:aH w v l):valOf w v=TR l:=by
 have D:∃l,aH w v l:=⟨l,h⟩;unfold valOf;rw[dif_pos D,Rz agJ D.choose_spec h]
abbrev fO{a b:Nat}(h:a<=b):(RI a).length<=(RI b).length:=
 Na.length_le (Na.gZ a) (by have:=Na.dS (RI b); rw[RH]at this |-; omega)
abbrev aj6(v u:y9)(l m:List UInt32)(w:E5)(hv:aH w v l)(hu:aH w u m)(J:l.length<=100000000)(D:m.length<=100000000) :
  Nq prog 291 #[v,u] w λe w'=>∃g,e = .R g∧aH w' g (RI (Nat.gcd (TR l) (TR m)))∧Ext w w':=by
 have C1:=FU (pV v l w hv Z);have D:=dB l;have D:=dB m;go_enter func291,ntmps291
 go_wp2_with fail
 refine C1.out.mono ?_;rintro e w1 ⟨x,rfl,S,ab⟩;have S:=bC S;go_wp2_with fail
 refine(pV u m w1 (hu.below ab) Z).mono ?_;rintro e w2 ⟨y,rfl,D,ac⟩;have D:=bC D;have J:=S.below ac;have ae:=Ip ab ac;clear S C1 hv hu;have HX:=FU J;have HY:=FU D;clear J D;go_wp2_with fail
 go_loopw [0,1] (λx y wr=>∃(A B:Nat),aH wr x (RI A)∧aH wr y (RI B)∧Nat.gcd A B=Nat.gcd (TR l) (TR m)∧(RI A).length<=100000000∧(RI B).length<=100000000∧Ext w wr) (λ_ y wr=>valOf wr y)
 case atStart=>exact⟨(TR l),(TR m),HX.out,HY.out,I,Z,Z,ae⟩
 case round =>
  obtain⟨A,B,S,D,hg,af,aa,J⟩:=hrel;have HM:=FU (D5 D);have HG:=FU hg;have HX:=FU S;have HY:=FU D;clear hg S D;obtain⟨D,S,rfl⟩:=HY.out.shape;rcases ė B with rfl | hB
  .have D:((RI 0).length:Int)=0:=by rw[lM.2 I]; rfl
   go_wp2_with fail
   go_ret
   refine⟨_,I,?_,J⟩;rw[<-HG.out,Nat.gcd_zero_right];exact HX.out
  have D:(0:Int)<((RI B).length:Int):=by
   have:(RI B).length≠0:=λh=>by have:=pU h; omega
   omega
  have D:=KD _ _ _ _ wr HX.out HY.out (by rw[RH]; exact hB) af aa;rw[RH,RH]at D;have HD:=FU D;clear D;go_wp2_with fail
  refine HD.out.mono ?_;rintro e w' ⟨q,r,rfl,hq,hr,hb⟩;have S:=FU hr;have D:=FU (HY.out.below hb);clear hq hr;go_wp2_with fail
  go_roundw
  case rel => 
   refine⟨B,A%B,D.out,S.out,?_,aa,?_,Ip J hb⟩
   .rw[<-HG.out,Nat.gcd_comm A B,Nat.gcd_rec B A,Nat.gcd_comm]
   .exact ä (fO (Δ (Ŋ A hB))) aa
  case measure =>
   rw[D5 S.out,HM.out,RH,RH];exact Ŋ _ hB
end Go.Proofs.Õ
namespace Go.Proofs.Õ
open Na
variable{α:Type}
def aS(base:Nat)(w:E5)(v:y9)(neg:Bool)(n:Nat):Prop:=∃s,v = .agg #[.b neg,s]∧aH w s (RI n)∧From base s
abbrev aS.ext{base:Nat}{w w':E5}{v:y9}{neg:Bool}{n:Nat}(h:aS base w v neg n)(hb:Ext w w'):aS base w' v neg n:=by
 obtain⟨s,D,J,S⟩:=h; exact⟨s,D,J.below hb,S⟩
abbrev aS.mono{base D:Nat}{w:E5}{v:y9}{neg:Bool}{n:Nat}(h:aS base w v neg n)(hb:D<=base):aS D w v neg n:=by
 obtain⟨s,D,J,S⟩:=h; exact⟨s,D,J,S.mono hb⟩
abbrev nG(neg:Bool)(v:y9)(l:List UInt32)(w:E5)(J:aH w v l)(D:l.length<=1000000000) :
  Nq prog 284 #[.b neg,v] w λe w'=>∃x,e = .R x∧aS w.heap.size w' x (neg&&decide (0<TR l)) (TR l)∧Ext w w':=by
 have S:=aI w (.cells #[.z,.sn] 24);have HC:=FU (pV v l _ (J.below S) D);have ab:Hid (decide ((0:Int)<((RI (TR l)).length:Int))=decide (0<TR l)):=by
  show _=_;rw[ϸ];constructor
  .intro h;rcases ė (TR l)with D | D
   .rw[D,jR]at h; simp at h
   exact D
  intro h;have:(RI (TR l)).length≠0:=λh'=>by
   have:=lM.1 (Ś h'); omega
  omega
 rcases aG9 neg with rfl | rfl;all_goals
  go_enter func284,ntmps284
  go_wp2_with fail
  refine HC.out.mono ?_
  rintro e w1 ⟨D,rfl,ho,aa⟩
  have D:=bC ho
  have J:=SL ho
  obtain⟨hc,hf,hz⟩:=jg aa
  have ac:=Ip S aa
  have HB:=FU ac
  have HR:=FU D
  have HO:=FU J
  obtain⟨a,cap,rfl⟩:=HR.out.shape
  clear HC ho D aa S ac J
  go_wp2_with fail
 .refine bodyPost_ret (v := .agg #[.b ((0:Int)<((RI (TR l)).length:Int)),.s a (RI (TR l)).length cap]) (by simp[results,results284,go_sem,hc]) I ⟨_,I,⟨_,by rw[Ł,ab.out],?_⟩,?_⟩
  .exact⟨HR.out.ch (((Ch.refl _ _).setCell _ _).setCell _ _) (λ_=>HO.out.off Y),HO.out.mono Y⟩
  exact(HB.out.setCell (p:=⟨w.heap.size,0,none⟩) (Ç _) _).setCell (p:=⟨w.heap.size,1,none⟩) (Ç _) _
 refine bodyPost_ret (v := .agg #[.z,.s a (RI (TR l)).length cap]) (by simp[results,results284,go_sem,hc]) I ⟨_,I,⟨_,by rw[ŕ],?_⟩,?_⟩
 .exact⟨HR.out.ch (((Ch.refl _ _).setCell _ _).setCell _ _) (λ_=>HO.out.off Y),HO.out.mono Y⟩
 exact(HB.out.setCell (p:=⟨w.heap.size,0,none⟩) (Ç _) _).setCell (p:=⟨w.heap.size,1,none⟩) (Ç _) _
def qF(neg:Bool)(n:Nat):Int:=if n=0 then 0 else if neg then -1 else 1
abbrev nX(neg:Bool)(s:y9)(l:List UInt32)(w:E5)(J:aH w s l)(D:l.length<=100000000) :
  Nq prog 257 #[.agg #[.b neg,s]] w (Ï w (.i (qF neg (TR l)))):=by
 have D:=aI w (.cells #[.b neg,s] 24);have S:=FU (II s l _ (J.below D) Z);have HB:=FU D;obtain⟨a,cap,rfl⟩:=J.shape;clear J D;by_cases h0:TR l=0
 .have D:((bl (TR l):Int)==0)=true:=by rw[h0]; rfl
  have J:Hid (qF neg (TR l)=0):=by show _=_; unfold qF; rw[Á h0]
  clear h0;go_enter func257,ntmps257
  go_wp2_with fail
  refine S.out.mono ?_;rintro e w' ⟨rfl,rfl⟩;go_wp2_with fail
  go_ret
  exact⟨by rw[J.out]; rfl,HB.out⟩
 have D:((bl (TR l):Int)==0)=false:=by
  rw[õ];intro h;have D:bl (TR l)=0:=Z
  unfold bl at D; rw[UQ h0]at D; omega
 have D:Hid (∀neg,qF neg (TR l)=if neg then -1 else 1):=λneg=>UQ h0;clear h0;rcases aG9 neg with rfl | rfl;all_goals
  go_enter func257,ntmps257
  go_wp2_with fail
  refine S.out.mono ?_
  rintro e w' ⟨rfl,rfl⟩
  go_wp2_with fail
  go_ret
  exact⟨by rw[D.out]; rfl,HB.out⟩
abbrev Gp(neg:Bool)(s gv:y9)(l m:List UInt32)(D:Nat)(w:E5)(hv:aH w s l)(aa:l.length<=100000000)(hg:w.cell? ⟨D,0,none⟩=some gv)(J:aH w gv m)(hm:0<TR m)(S:m.length<=100000000) :
  Nq prog 292 #[.agg #[.b neg,s],.q D 0] w λe w'=>∃q,e = .R q∧aH w' q (RI (TR l/TR m))∧Ext w w':=by
 have D:=aI w (.cells #[.b neg,s] 24);have HC:=FU (KD s gv l m _ (hv.below D) (J.below D) hm aa S);have S:=World.block_lt_of_cell? w _ hg;simp only at S;have HB:=FU D;obtain⟨a,cap,rfl⟩:=hv.shape;obtain⟨a2,S,rfl⟩:=J.shape;clear hv D J;go_enter func292,ntmps292
 go_wp2_with fail
 refine HC.out.mono ?_;rintro e w' ⟨q,r,rfl,D,S,hb⟩;have J:=FU D;clear D S;go_wp2_with fail
 go_ret
 exact⟨_,I,J.out,Ip HB.out hb⟩
attribute [local go_sem] Go.Rel.Does Go.Rel.Upon Go.Rel.kept Go.Rel.valOf
abbrev agK(a b:Bool)(n m:Nat):IntKind.i64.wrap (qF a n*qF b m)=qF a n*qF b m:=by
 have h:∀a n,qF a n=0∨qF a n=1∨qF a n = -1:=by
  intro a n; unfold qF; split
  .simp
  cases a<;>simp
 rw[Ŭ];rcases h a n with D | D | D<;>rcases h b m with J | J | J<;>rw[D,J]<;>decide
def aC(base:Nat)(w:E5)(v:y9)(neg:Bool)(a b:Nat):Prop:=∃s t,v = .agg #[.b neg,s,.z,t]∧aH w s (RI a)∧aH w t (RI b)∧From base s∧From base t
abbrev aC.ext{base:Nat}{w w':E5}{v:y9}{neg:Bool}{a b:Nat}(h:aC base w v neg a b)(D:Ext w w'):aC base w' v neg a b:=by
 obtain⟨s,t,J,S,ht,hf⟩:=h; exact⟨s,t,J,S.below D,ht.below D,hf⟩
abbrev aC.mono{base D:Nat}{w:E5}{v:y9}{neg:Bool}{a b:Nat}(h:aC base w v neg a b)(J:D<=base):aC D w v neg a b:=by
 obtain⟨s,t,D,S,ht,hf,hg⟩:=h; exact⟨s,t,D,S,ht,hf.mono J,hg.mono J⟩
abbrev aj7{base:Nat}{w:E5}{x y:y9}{n1:Bool}{a b:Nat}(J:aS base w x n1 a)(hy:aS base w y false b) :
  ∃a1 c1 a2 c2,x = .agg #[.b n1,.s a1 (RI a).length c1]∧y = .agg #[.z,.s a2 (RI b).length c2] ∧
   aC base w (.agg #[.b n1,.s a1 (RI a).length c1,.z,.s a2 (RI b).length c2]) n1 a b:=by
 obtain⟨s,rfl,D,S⟩:=J;obtain⟨t,rfl,J,f2⟩:=hy;obtain⟨a1,c1,rfl⟩:=D.shape;obtain⟨a2,c2,rfl⟩:=J.shape;exact⟨a1,c1,a2,c2,I,I,_,_,I,D,J,S,f2⟩
def mF(n1 D:Bool)(a b:Nat):Bool:=decide (qF n1 a*qF D b<0)&&decide (0<a/Nat.gcd a b)
abbrev KE(n1 n2:Bool)(s1 s2:y9)(l m:List UInt32)(w:E5)(h1:aH w s1 l)(D:aH w s2 m)(hm:0<TR m)(al:l.length<=100000000)(am:m.length<=100000000) :
  Nq prog 258 #[.agg #[.b n1,s1],.agg #[.b n2,s2]] w λe w'=>∃x,e = .R x ∧
   aC w.heap.size w' x (mF n1 n2 (TR l) (TR m)) (TR l/Nat.gcd (TR l) (TR m)) (TR m/Nat.gcd (TR l) (TR m))∧Ext w w':=by
 obtain⟨ng,J⟩:∃x,mF n1 n2 (TR l) (TR m)=x:=⟨_,I⟩;rw[J];unfold mF at J;have ar:=FU J;clear J;obtain⟨a1,c1,rfl⟩:=h1.shape;obtain⟨a2,c2,rfl⟩:=D.shape;have H1:=FU h1;have H2:=FU D;clear h1 D;go_enter func258,ntmps258
 go_wp2_with fail
 have ae:=FU (((aI w (.cells #[.b n1,.s a1 l.length c1] 24)).alloc Y (.cells #[.b n2,.s a2 m.length c2] 24)).alloc (by simp; omega) (.cells #[.z,.sn,.z,.sn] 26));refine(aj6 _ _ _ _ _ (H1.out.below ae.out) (H2.out.below ae.out) al am).mono ?_;rintro e w1 ⟨g,rfl,S,J⟩;have HG:=FU S;obtain⟨ag,cg,aq⟩:=S.shape;rw[aq]at HG;clear S;have an:=FU (Ip ae.out J);go_wp2_with fail
 obtain⟨W,hW⟩:∃W,W=w1.alloc (.cells #[.s ag (RI ((TR l).gcd (TR m))).length cg] 22):=⟨_,I⟩;rw[<-hW];have aa:Ext w1 W:=by rw[hW]; exact aI _ _
 have hk:∀w',Ext W w'->w'.cell? ⟨w.heap.size,0,none⟩=some (.b n1)∧w'.cell? ⟨w.heap.size,1,none⟩=some (.s a1 l.length c1)∧w'.cell? ⟨w.heap.size+1,0,none⟩=some (.b n2) ∧
   w'.cell? ⟨w.heap.size+1,1,none⟩=some (.s a2 m.length c2)∧w'.cell? ⟨w1.heap.size,0,none⟩=some (.s ag (RI ((TR l).gcd (TR m))).length cg):=by
  intro w' ah
  have ai:=J.size
  simp only[ϫ]at ai
  have S:=Ip aa ah
  refine⟨?_,?_,?_,?_,?_⟩
  .rw[S.cell (p:=⟨w.heap.size,0,none⟩) (by simp; omega),J.cell (p:=⟨w.heap.size,0,none⟩) (by simp; omega)]; simp[go_sem]
  .rw[S.cell (p:=⟨w.heap.size,1,none⟩) (by simp; omega),J.cell (p:=⟨w.heap.size,1,none⟩) (by simp; omega)]; simp[go_sem]
  .rw[S.cell (p:=⟨w.heap.size+1,0,none⟩) (by simp; omega),J.cell (p:=⟨w.heap.size+1,0,none⟩) Y]; simp[go_sem]
  .rw[S.cell (p:=⟨w.heap.size+1,1,none⟩) (by simp; omega),J.cell (p:=⟨w.heap.size+1,1,none⟩) Y]; simp[go_sem]
  .rw[ah.cell (p:=⟨w1.heap.size,0,none⟩) (by rw[hW]; simp),hW]; simp[go_sem]
 have HK:=FU hk;have HW:=FU (Ip an.out aa);have ao:=FU (HG.out.below aa);have hG:0<Nat.gcd (TR l) (TR m):=ϻ _ hm;have ap:(RI ((TR l).gcd (TR m))).length<=100000000:=ä (fO (Nat.gcd_le_right _ hm)) (by have:=dB m; omega);have af:=RH ((TR l).gcd (TR m));have aw:W.heap.size<=W.heap.size:=Ç _;have ab:Hid (∀w',Ext W w'->(∀i,i<4->∃u,w'.cell? ⟨w.heap.size+1+1,i,none⟩=some u∧w'.frozen? ⟨w.heap.size+1+1,i,none⟩=false)∧w.heap.size+1+1<w'.heap.size):=by
  intro w' ah;have ai:=J.size;simp only[ϫ]at ai;have S:=Ip aa ah;have:=S.size;refine⟨λi hi=>?_,Z⟩;rw[S.cell (p:=⟨w.heap.size+1+1,i,none⟩) (by simp; omega),J.cell (p:=⟨w.heap.size+1+1,i,none⟩) Y,S.frozen (p:=⟨w.heap.size+1+1,i,none⟩) (by simp; omega),J.frozen (p:=⟨w.heap.size+1+1,i,none⟩) Y];rcases i with _ | _ | _ | _ | i
  .exact⟨.z,by simp[go_sem],by simp[go_sem]⟩
  .exact⟨.sn,by simp[go_sem],by simp[go_sem]⟩
  .exact⟨.z,by simp[go_sem],by simp[go_sem]⟩
  .exact⟨.sn,by simp[go_sem],by simp[go_sem]⟩
  omega
 clear hW ae J an hk aq aa;refine Go.Rel.wp_region 15 X X Ext (λw'=>Ext W w')
  [Rel.is (.agg #[.b n1,.s a1 l.length c1]),Rel.is (.i (qF n1 (TR l))),Rel.is (.agg #[.b n2,.s a2 m.length c2]),Rel.is (.i (qF n2 (TR m))),
   Rel.is (.i (qF n1 (TR l)*qF n2 (TR m))),Rel.is (.b (qF n1 (TR l)*qF n2 (TR m)<0)),Rel.is (.func (.func 292) #[] #[.q w1.heap.size 0]),
   Rel.is (.agg #[.b n1,.s a1 l.length c1]),λv w'=>aH w' v (RI (TR l/Nat.gcd (TR l) (TR m))),
   λv w'=>aS (w.heap.size+1+1+1) w' v ng (TR l/Nat.gcd (TR l) (TR m)),
   Rel.is (.func (.func 292) #[] #[.q w1.heap.size 0]),Rel.is (.agg #[.b n2,.s a2 m.length c2]),
   λv w'=>aH w' v (RI (TR m/Nat.gcd (TR l) (TR m))),λv w'=>aS (w.heap.size+1+1+1) w' v false (TR m/Nat.gcd (TR l) (TR m)),
   λv w'=>aC (w.heap.size+1+1+1) w' v ng (TR l/Nat.gcd (TR l) (TR m)) (TR m/Nat.gcd (TR l) (TR m))]
  ?_ ?_ ?_ ⟨?_,?_,?_,?_,?_,?_,?_,?_,?_,?_,?_,?_,?_,?_,?_,G⟩ ?_
 .exact below_drewN (ø _ _) 1
 .exact λ_ _ h k=>Ip h k
 .exact CV.mem ⟨aA _,aA _,aA _,aA _,aA _,aA _,aA _,aA _,λ_ _ _ h k=>k.below h,λ_ _ _ h k=>k.ext h,aA _,aA _,λ_ _ _ h k=>k.below h,λ_ _ _ h k=>k.ext h,
   λ_ _ _ h k=>k.ext h,G⟩
 .intro ρ w' hs ho J hd;have D:ρ (.tmp 2) = .q w.heap.size 0:=ho 2 I;obtain⟨k1,k2,-⟩:=HK.out w' J;simp[go_sem,D,k1,k2];exact⟨å,I⟩
 .intro ρ w' hs ho J hd;obtain⟨hd,-⟩:=hd;have D:ρ (.tmp 13)=_:=hd I;simp[go_sem,D,hs.func];refine(nX _ _ _ _ (H1.out.below (Ip HW.out J)) al).mono ?_;rintro e ac ⟨rfl,hb⟩;exact⟨_,I,hb,I⟩
 .intro ρ w' hs ho J hd;have D:ρ (.tmp 3) = .pointer (some ⟨w.heap.size+1,0,none⟩):=ho 3 I;obtain⟨-,-,k1,k2,-⟩:=HK.out w' J;simp[go_sem,D,k1,k2];exact⟨å,I⟩
 .intro ρ w' hs ho J hd;obtain⟨hd,-⟩:=hd;have D:ρ (.tmp 15)=_:=hd I;simp[go_sem,D,hs.func];refine(nX _ _ _ _ (H2.out.below (Ip HW.out J)) am).mono ?_;rintro e ac ⟨rfl,hb⟩;exact⟨_,I,hb,I⟩
 .intro ρ w' hs ho J hd;obtain⟨hd1,S,-⟩:=hd;have h1:ρ (.tmp 14)=_:=hd1 I;have D:ρ (.tmp 16)=_:=S I;simp[go_sem,h1,D];exact⟨å,by rw[agK]; rfl⟩
 .intro ρ w' hs ho J hd;obtain⟨hd,-⟩:=hd;have D:ρ (.tmp 17)=_:=hd I;simp[go_sem,D,hs.const];exact⟨å,I⟩
 .intro ρ w' hs ho J hd;have D:ρ (.tmp 6) = .func (.func 292) #[] #[.q w1.heap.size 0]:=ho 6 I;simp[go_sem,D];exact⟨å,I⟩
 .intro ρ w' hs ho J hd;have D:ρ (.tmp 2) = .q w.heap.size 0:=ho 2 I;obtain⟨k1,k2,-⟩:=HK.out w' J;simp[go_sem,D,k1,k2];exact⟨å,I⟩
 .intro ρ w' hs ho J hd;obtain⟨hd1,S,-⟩:=hd;have h1:ρ (.tmp 19)=_:=hd1 I;have D:ρ (.tmp 20)=_:=S I;simp[go_sem,h1,D];obtain⟨-,-,-,-,k1⟩:=HK.out w' J;have hc:=Gp n1 (.s a1 l.length c1) _ l _ w1.heap.size w' (H1.out.below (Ip HW.out J)) al k1 (ao.out.below J) (by rw[af]; exact hG) ap;rw[af]at hc;refine hc.mono ?_;rintro e ac ⟨q,rfl,hq,hb⟩;exact⟨_,I,hb,hq⟩
 .intro ρ w' hs ho J hd;obtain⟨hd1,S,-⟩:=hd;have h1:ρ (.tmp 18)=_:=hd1 I;have D:aH w' (ρ (.tmp 21)) _:=S I;simp[go_sem,h1,hs.func];have hc:=nG (decide (qF n1 (TR l)*qF n2 (TR m)<0)) _ _ w' D (by have:=fO (Μ (TR l) (Nat.gcd (TR l) (TR m))); have:=dB l; omega);rw[RH,ar.out]at hc;refine hc.mono ?_;rintro e ac ⟨q,rfl,hq,hb⟩;exact⟨_,I,hb,hq.mono (ab.out w' J).2⟩
 .intro ρ w' hs ho J hd;have D:ρ (.tmp 6) = .func (.func 292) #[] #[.q w1.heap.size 0]:=ho 6 I;simp[go_sem,D];exact⟨å,I⟩
 .intro ρ w' hs ho J hd;have D:ρ (.tmp 3) = .pointer (some ⟨w.heap.size+1,0,none⟩):=ho 3 I;obtain⟨-,-,k1,k2,-⟩:=HK.out w' J;simp[go_sem,D,k1,k2];exact⟨å,I⟩
 .intro ρ w' hs ho J hd;obtain⟨hd1,S,-⟩:=hd;have h1:ρ (.tmp 23)=_:=hd1 I;have D:ρ (.tmp 24)=_:=S I;simp[go_sem,h1,D];obtain⟨-,-,-,-,k1⟩:=HK.out w' J;have hc:=Gp n2 (.s a2 m.length c2) _ m _ w1.heap.size w' (H2.out.below (Ip HW.out J)) am k1 (ao.out.below J) (by rw[af]; exact hG) ap;rw[af]at hc;refine hc.mono ?_;rintro e ac ⟨q,rfl,hq,hb⟩;exact⟨_,I,hb,hq⟩
 .intro ρ w' hs ho J hd;obtain⟨S,-⟩:=hd;have D:aH w' (ρ (.tmp 25)) _:=S I;simp[go_sem,hs.func,hs.const];have hc:=nG false _ _ w' D (by have:=fO (Μ (TR m) (Nat.gcd (TR l) (TR m))); have:=dB m; omega);rw[RH]at hc;refine hc.mono ?_;rintro e ac ⟨q,rfl,hq,hb⟩;exact⟨_,I,hb,hq.mono (ab.out w' J).2⟩
 .intro ρ w' hs ho J hd;obtain⟨hd1,S,-⟩:=hd;have h1:aS (w.heap.size+1+1+1) w' (ρ (.tmp 22)) _ _:=hd1 I;have D:aS (w.heap.size+1+1+1) w' (ρ (.tmp 26)) _ _:=S I;obtain⟨b1,d1,b2,d2,e1,e2,S⟩:=aj7 h1 D;simp[go_sem,e1,e2];exact⟨å,S⟩
 intro w' J;rintro _ rfl _ rfl _ rfl _ rfl _ rfl _ rfl _ rfl _ rfl v8 h8 v9 h9 _ rfl _ rfl ay D az av a3 ⟨s,t,rfl,hx,hy,fx,fy⟩;change wpList _ _ _ (List.drop 15 _) _ _;simp only[List.drop_succ_cons,Ϻ];obtain⟨S,ax⟩:=ab.out w' J;obtain⟨u0,r0,f0⟩:=S 0 Z;obtain⟨u1,r1,f1⟩:=S 1 Z;obtain⟨u2,r2,f2⟩:=S 2 Z;obtain⟨u3,r3,f3⟩:=S 3 Z;obtain⟨b1,d1,rfl⟩:=hx.shape;obtain⟨b2,d2,rfl⟩:=hy.shape;have HX:=FU (Ip HW.out J);have F:=FU (And.intro hx (And.intro hy (And.intro fx fy)));clear S h8 h9 D av hx hy fx fy;go_wp2_with fail
 refine bodyPost_ret (v := .agg #[.b ng,.s b1 (RI (TR l/(TR l).gcd (TR m))).length d1,.z,.s b2 (RI (TR m/(TR l).gcd (TR m))).length d2]) (by simp[results,results258,go_sem,r0,r1,r2,r3]) I ⟨_,I,⟨_,_,I,?_,?_,?_,?_⟩,?_⟩
 .exact F.out.1.ch (((((Ch.refl _ _).setCell _ _).setCell _ _).setCell _ _).setCell _ _) (λ_=>F.out.D.off (Nat.lt_succ_self _))
 .exact F.out.2.1.ch (((((Ch.refl _ _).setCell _ _).setCell _ _).setCell _ _).setCell _ _) (λ_=>F.out.N.off (Nat.lt_succ_self _))
 .exact F.out.D.mono Z
 .exact F.out.N.mono Z
 exact(((HX.out.setCell (p:=⟨_,0,none⟩) (by simp only; omega) _).setCell (p:=⟨_,1,none⟩) (by simp only; omega) _).setCell (p:=⟨_,2,none⟩) (by simp only; omega) _).setCell (p:=⟨_,3,none⟩) (by simp only; omega) _
end Go.Proofs.Õ
namespace Go.Proofs.Õ
open Na
variable{α:Type}
abbrev Zi{w w1:E5}{A B C:Array y9}{J S tc:TypeId}(D:Ext (((w.alloc (.cells A J)).alloc (.cells B S)).alloc (.cells C tc)) w1) :
  (∀i,w1.cell? ⟨w.heap.size,i,none⟩=A[i]?)∧(∀i,w1.cell? ⟨w.heap.size+1,i,none⟩=B[i]?)∧(∀i,w1.cell? ⟨w.heap.size+1+1,i,none⟩=C[i]?)∧(∀i,w1.frozen? ⟨w.heap.size+1+1,i,none⟩=false)∧w.heap.size+1+1<w1.heap.size:=by
 refine⟨λi=>?_,λi=>?_,λi=>?_,λi=>?_,by have:=D.size; simp at this; omega⟩
 .rw[D.cell (p:=⟨w.heap.size,i,none⟩) (by simp; omega)]; simp[go_sem]
 .rw[D.cell (p:=⟨w.heap.size+1,i,none⟩) Y]; simp[go_sem]
 .rw[D.cell (p:=⟨w.heap.size+1+1,i,none⟩) Y]; simp[go_sem]
 rw[D.frozen (p:=⟨w.heap.size+1+1,i,none⟩) Y]; simp[go_sem]
abbrev oN:y9 := .agg #[.z,.sn,.z,.sn]
abbrev VG(n1 J:Bool)(s1 s2:y9)(l m:List UInt32)(w:E5)(h1:aH w s1 l)(h2:aH w s2 m)(hm:TR m=0)(aa:m.length<=100000000) :
  Nq prog 223 #[.agg #[.b n1,s1],.agg #[.b J,s2]] w (Ï w (.tuple #[oN,.i 9])):=by
 obtain⟨a1,c1,rfl⟩:=h1.shape;obtain⟨a2,c2,rfl⟩:=h2.shape;have D:=FU (((aI w (.cells #[.b n1,.s a1 l.length c1] 24)).alloc Y (.cells #[.b J,.s a2 m.length c2] 24)).alloc (by simp; omega) (.cells #[.z,.sn,.z,.sn] 26));have S:=nX J _ _ _ (h2.below D.out) aa;rw[hm]at S;have HC:=FU S;clear S h1 h2 hm;go_enter func223,ntmps223
 go_wp2_with fail
 refine HC.out.mono ?_;rintro e w1 ⟨rfl,S⟩;obtain⟨-,-,r0,f0,hz⟩:=Zi S;have ab:((qF J 0)==0)=true:=by unfold qF; rfl
 have J:=FU (Ip D.out S);clear S HC D;go_wp2_with fail
 refine bodyPost_ret (v := .tuple #[oN,.i 9]) (by simp[results,results223,go_sem,r0]) I ⟨I,?_⟩;exact(((J.out.setCell (p:=⟨_,0,none⟩) (by simp only; omega) _).setCell (p:=⟨_,1,none⟩) (by simp only; omega) _).setCell (p:=⟨_,2,none⟩) (by simp only; omega) _).setCell (p:=⟨_,3,none⟩) (by simp only; omega) _
abbrev Zj(n1 D:Bool)(s1 s2:y9)(l m:List UInt32)(w:E5)(h1:aH w s1 l)(h2:aH w s2 m)(hm:0<TR m)(aa:l.length<=100000000)(S:m.length<=100000000) :
  Nq prog 223 #[.agg #[.b n1,s1],.agg #[.b D,s2]] w λe w'=>∃x,e = .R (.tuple #[x,.i 0]) ∧
   aC w.heap.size w' x (mF n1 D (TR l) (TR m)) (TR l/Nat.gcd (TR l) (TR m)) (TR m/Nat.gcd (TR l) (TR m))∧Ext w w':=by
 obtain⟨a1,c1,rfl⟩:=h1.shape;obtain⟨a2,c2,rfl⟩:=h2.shape;have J:=FU (((aI w (.cells #[.b n1,.s a1 l.length c1] 24)).alloc Y (.cells #[.b D,.s a2 m.length c2] 24)).alloc (by simp; omega) (.cells #[.z,.sn,.z,.sn] 26));have HC:=FU (nX D _ _ _ (h2.below J.out) S);have ab:((qF D (TR m))==0)=false:=by
  rw[õ]; unfold qF; rw[UQ Z]; cases D<;>simp
 have H:=FU (And.intro h1 h2);have HM:=FU hm;clear h1 h2 hm;go_enter func223,ntmps223
 go_wp2_with fail
 refine HC.out.mono ?_;rintro e w1 ⟨rfl,hb⟩;obtain⟨k1,k2,-,-,hz⟩:=Zi hb;have hX:=Ip J.out hb;have HX:=FU hX;have HY:=FU hb;have HL:=FU (KE n1 D _ _ _ _ w1 (H.out.1.below hX) (H.out.2.below hX) HM.out aa S);clear hb HC hX J;go_wp2_with fail
 refine HL.out.mono ?_;rintro e w2 ⟨x,rfl,⟨s,t,rfl,hs,ht,fs,ft⟩,J⟩;obtain⟨b1,d1,rfl⟩:=hs.shape;obtain⟨b2,d2,rfl⟩:=ht.shape;obtain⟨-,-,r0,f0,S⟩:=Zi (Ip HY.out J);have S:=FU (Ip HX.out J);have F:=FU (And.intro hs (And.intro ht (And.intro fs ft)));clear hs ht fs ft J HL k1 k2;go_wp2_with fail
 refine bodyPost_ret (v := .tuple #[.agg #[.b (mF n1 D (TR l) (TR m)),.s b1 (RI (TR l/(TR l).gcd (TR m))).length d1,.z,.s b2 (RI (TR m/(TR l).gcd (TR m))).length d2],.i 0]) (by simp[results,results223,go_sem,r0]) I ⟨_,I,⟨_,_,I,?_,?_,?_,?_⟩,?_⟩
 .exact F.out.1.ch (((((Ch.refl _ _).setCell _ _).setCell _ _).setCell _ _).setCell _ _) (λ_=>F.out.D.off hz)
 .exact F.out.2.1.ch (((((Ch.refl _ _).setCell _ _).setCell _ _).setCell _ _).setCell _ _) (λ_=>F.out.N.off hz)
 .exact F.out.D.mono Z
 .exact F.out.N.mono Z
 exact(((S.out.setCell (p:=⟨_,0,none⟩) (by simp only; omega) _).setCell (p:=⟨_,1,none⟩) (by simp only; omega) _).setCell (p:=⟨_,2,none⟩) (by simp only; omega) _).setCell (p:=⟨_,3,none⟩) (by simp only; omega) _
abbrev RD(x:Int)(h : -9223372036854775808<=x)(D:x<0):IntKind.u64.wrap (-IntKind.u64.wrap x)=(x.natAbs:Int):=by
 rw[ŏ,ŏ]; omega
abbrev KF(x:Int)(w:E5)(h : -9223372036854775808<=x)(hx:x<0) :
  Nq prog 259 #[.i x] w λe w'=>∃v,e = .R v∧aS w.heap.size w' v (decide (x<0)) x.natAbs∧Ext w w':=by
 have D:=aI w (.cells #[.z,.sn] 24);have hN:x.natAbs<18446744073709551616:=Z
 have S:(UInt64.ofNat x.natAbs).toNat=x.natAbs:=by simp; omega
 have J:=qY (UInt64.ofNat x.natAbs) (w.alloc (.cells #[.z,.sn] 24));rw[aiy,S]at J;have aa:(RI x.natAbs).length<=2:=Na.bJ (by show _<4294967296^2; omega);have HF:=FU J;have HB:=FU D;clear J D S;go_enter func259,ntmps259
 have hw:=RD x h hx;go_wp2_with fail
 refine HF.out.mono ?_;rintro e w1 ⟨J,rfl,ho,S⟩;have D:=bC ho;have HI:=FU (nG true J _ w1 D Z);have J:=FU S;clear D ho hw HF S;go_wp2_with fail
 refine HI.out.mono ?_;rintro e w2 ⟨y,rfl,⟨s,rfl,hs,fs⟩,D⟩;obtain⟨b1,d1,rfl⟩:=hs.shape;obtain⟨r0,S,hz⟩:=jg (Ip J.out D);obtain⟨-,-,S⟩:=jg J.out;have HX:=FU (Ip HB.out (Ip J.out D));have F:=FU (And.intro hs fs);have J:Hid ((true&&decide (0<TR (RI x.natAbs)))=decide (x<0)):=by
  show _=_;rw[RH,Ł,ϸ]; omega
 clear hs fs D HI;go_wp2_with fail
 refine bodyPost_ret (v := .agg #[.b (true&&decide (0<TR (RI x.natAbs))),.s b1 (RI (TR (RI x.natAbs))).length d1]) (by simp[results,results259,go_sem,r0]) I ⟨_,I,⟨_,by rw[J.out],?_,?_⟩,?_⟩
 .have:=F.out.1.ch (((Ch.refl w.heap.size _).setCell 0 (.b (true&&decide (0<TR (RI x.natAbs))))).setCell 1 (.s b1 (RI (TR (RI x.natAbs))).length d1)) (λ_=>F.out.2.off S);rw[RH]at this |-;exact this
 .exact F.out.2.mono Z
 exact(HX.out.setCell (p:=⟨_,0,none⟩) (by simp only; omega) _).setCell (p:=⟨_,1,none⟩) (by simp only; omega) _
abbrev KG(x:Nat)(w:E5)(h:(x:Int)<=9223372036854775807) :
  Nq prog 259 #[.i x] w λe w'=>∃v,e = .R v∧aS w.heap.size w' v false x∧Ext w w':=by
 have D:=aI w (.cells #[.z,.sn] 24);have hN:x<18446744073709551616:=Z
 have S:(UInt64.ofNat x).toNat=x:=by simp; omega
 have J:=qY (UInt64.ofNat x) (w.alloc (.cells #[.z,.sn] 24));rw[aiy,S]at J;have aa:(RI x).length<=2:=Na.bJ (by show _<4294967296^2; omega);have HF:=FU J;have HB:=FU D;clear J D S;go_enter func259,ntmps259
 go_wp2_with fail
 refine HF.out.mono ?_;rintro e w1 ⟨J,rfl,ho,S⟩;have D:=bC ho;have HI:=FU (nG false J _ w1 D Z);have J:=FU S;clear D ho HF S;go_wp2_with fail
 refine HI.out.mono ?_;rintro e w2 ⟨y,rfl,⟨s,rfl,hs,fs⟩,D⟩;obtain⟨b1,d1,rfl⟩:=hs.shape;obtain⟨r0,S,hz⟩:=jg (Ip J.out D);obtain⟨-,-,S⟩:=jg J.out;have HX:=FU (Ip HB.out (Ip J.out D));have F:=FU (And.intro hs fs);have J:Hid ((false&&decide (0<TR (RI x)))=false):=ŕ _;clear hs fs D HI;go_wp2_with fail
 refine bodyPost_ret (v := .agg #[.b (false&&decide (0<TR (RI x))),.s b1 (RI (TR (RI x))).length d1]) (by simp[results,results259,go_sem,r0]) I ⟨_,I,⟨_,by rw[J.out],?_,?_⟩,?_⟩
 .have:=F.out.1.ch (((Ch.refl w.heap.size _).setCell 0 (.b (false&&decide (0<TR (RI x))))).setCell 1 (.s b1 (RI (TR (RI x))).length d1)) (λ_=>F.out.2.off S);rw[RH]at this |-;exact this
 .exact F.out.2.mono Z
 exact(HX.out.setCell (p:=⟨_,0,none⟩) (by simp only; omega) _).setCell (p:=⟨_,1,none⟩) (by simp only; omega) _
abbrev yF(x:Int)(w:E5)(h : -9223372036854775808<=x)(D:x<=9223372036854775807) :
  Nq prog 259 #[.i x] w λe w'=>∃v,e = .R v∧aS w.heap.size w' v (decide (x<0)) x.natAbs∧Ext w w':=by
 by_cases hx:x<0
 .exact KF x w h hx
 obtain⟨n,rfl⟩:∃n:Nat,x=n:=⟨x.toNat,Z⟩;have e:decide ((n:Int)<0)=false:=Ŝ Z;rw[e,ź];exact KG n w D
abbrev yG(x:Int)(w:E5)(h : -9223372036854775808<=x)(S:x<=9223372036854775807) :
  Nq prog 224 #[.i x] w λe w'=>∃v,e = .R v∧aC w.heap.size w' v (decide (x<0)) x.natAbs 1∧Ext w w':=by
 have D:=aI w (.cells #[.z,.sn,.z,.sn] 26);have H1:=FU (yF x (w.alloc (.cells #[.z,.sn,.z,.sn] 26)) h S);have aa:=FU D;clear D;go_enter func224,ntmps224
 go_wp2_with fail
 refine H1.out.mono ?_;rintro e w1 ⟨y,rfl,⟨s,rfl,hs,fs⟩,D⟩;have S:=yF 1 w1 O O;rw[show decide ((1:Int)<0)=false from rfl,show(1:Int).natAbs=1 from rfl]at S;have H2:=FU S;have HS:=FU (And.intro hs fs);have J:=FU D;clear S H1 hs fs D;go_wp2_with fail
 refine H2.out.mono ?_;rintro e w2 ⟨y,rfl,⟨t,rfl,ht,ft⟩,D⟩;obtain⟨b1,d1,rfl⟩:=HS.out.1.shape;obtain⟨b2,d2,rfl⟩:=ht.shape;obtain⟨r0,S,hz⟩:=jg (Ip J.out D);obtain⟨-,-,S⟩:=jg J.out;have F:=FU (And.intro (HS.out.1.below D) (And.intro ht (And.intro HS.out.2 ft)));have HX:=FU (Ip aa.out (Ip J.out D));clear ht ft D H2;go_wp2_with fail
 refine bodyPost_ret (v := .agg #[.b (x<0),.s b1 (RI x.natAbs).length d1,.z,.s b2 (RI 1).length d2]) (by simp[results,results224,go_sem,r0]) I ⟨_,I,⟨_,_,I,?_,?_,?_,?_⟩,?_⟩
 .exact F.out.1.ch (((((Ch.refl w.heap.size _).setCell _ _).setCell _ _).setCell _ _).setCell _ _) (λ_=>F.out.D.off Y)
 .exact F.out.2.1.ch (((((Ch.refl w.heap.size _).setCell _ _).setCell _ _).setCell _ _).setCell _ _) (λ_=>F.out.N.off S)
 .exact F.out.D.mono Y
 .exact F.out.N.mono Z
 exact(((HX.out.setCell (p:=⟨_,0,none⟩) (by simp only; omega) _).setCell (p:=⟨_,1,none⟩) (by simp only; omega) _).setCell (p:=⟨_,2,none⟩) (by simp only; omega) _).setCell (p:=⟨_,3,none⟩) (by simp only; omega) _
abbrev aC.shape{base:Nat}{w:E5}{v:y9}{neg:Bool}{a b:Nat}(h:aC base w v neg a b):∃b1 D b2 J,v = .agg #[.b neg,.s b1 (RI a).length D,.z,.s b2 (RI b).length J]:=by
 obtain⟨s,t,rfl,S,ht,_⟩:=h;obtain⟨b1,D,rfl⟩:=S.shape;obtain⟨b2,J,rfl⟩:=ht.shape;exact⟨b1,D,b2,J,I⟩
abbrev aC.ch{base:Nat}{w w':E5}{v:y9}{neg:Bool}{a b c:Nat}(h:aC base w v neg a b)(S:Ch c w w')(D:c<base):aC base w' v neg a b:=by
 obtain⟨s,t,rfl,hs,ht,fs,J⟩:=h;exact⟨s,t,I,hs.ch S (λ_=>fs.off D),ht.ch S (λ_=>J.off D),fs,J⟩
abbrev aC.Qb{base:Nat}{w:E5}{v:y9}{neg:Bool}{a b c:Nat}(h:aC base w v neg a b)(D:c<base)(x0 x1 J S:y9) :
  aC base ((((w.setCell ⟨c,0,none⟩ x0).setCell ⟨c,1,none⟩ x1).setCell ⟨c,2,none⟩ J).setCell ⟨c,3,none⟩ S) v neg a b:=
 h.ch (((((Ch.refl c w).setCell _ _).setCell _ _).setCell _ _).setCell _ _) D
abbrev rE{W w:E5}(h:Ext W w){c:Nat}(D:W.heap.size<=c)(x0 x1 J S:y9) :
  Ext W ((((w.setCell ⟨c,0,none⟩ x0).setCell ⟨c,1,none⟩ x1).setCell ⟨c,2,none⟩ J).setCell ⟨c,3,none⟩ S):=
 (((Below.setCell h (p:=⟨c,0,none⟩) D _).setCell (p:=⟨c,1,none⟩) D _).setCell (p:=⟨c,2,none⟩) D _).setCell (p:=⟨c,3,none⟩) D _
def nrm(n1 D:Bool)(a b:Nat):Bool×Nat×Nat:=if b=0 then (false,0,1)else (mF n1 D a b,a/Nat.gcd a b,b/Nat.gcd a b)
abbrev dR (base:Nat)(w:E5)(v:y9)(r:Bool×Nat×Nat):Prop:=aC base w v r.1 r.2.1 r.2.2
abbrev pK(n1 n2:Bool)(s1 s2:y9)(l m:List UInt32)(w:E5)(D:aH w s1 l)(J:aH w s2 m)(ag:l.length<=100000000)(ac:m.length<=100000000) :
  Nq prog 175 #[.agg #[.b n1,s1,.b n2,s2]] w λe w'=>∃x,e = .R x∧dR w.heap.size w' x (nrm n1 n2 (TR l) (TR m))∧Ext w w':=by
 obtain⟨a1,c1,rfl⟩:=D.shape;obtain⟨a2,c2,rfl⟩:=J.shape;have S:=FU ((aI w (.cells #[.b n1,.s a1 l.length c1,.b n2,.s a2 m.length c2] 26)).alloc Y (.cells #[.z,.sn,.z,.sn] 26));have g1:=D.below S.out;have g2:=J.below S.out;clear D J;rcases ė (TR m)with hm | hm
 .have HC:=FU (VG n1 n2 _ _ _ _ _ g1 g2 hm ac);have hN:nrm n1 n2 (TR l) (TR m)=(false,0,1):=by unfold nrm; rw[Á hm]
  rw[hN];clear g1 g2 hm hN;go_enter func175,ntmps175
  go_wp2_with fail
  refine HC.out.mono ?_;rintro e w1 ⟨rfl,J⟩;have aa:=J.size;simp only[ϫ]at aa;have D:(∀i,w1.cell? ⟨w.heap.size+1,i,none⟩ = #[Value.z,.sn,.z,.sn][i]?)∧(∀i,w1.frozen? ⟨w.heap.size+1,i,none⟩=false):=by
   refine⟨λi=>?_,λi=>?_⟩
   .rw[J.cell (p:=⟨w.heap.size+1,i,none⟩) Y]; simp[go_sem]
   rw[J.frozen (p:=⟨w.heap.size+1,i,none⟩) Y]; simp[go_sem]
  obtain⟨r0,f0⟩:=D;have HX:=FU (Ip S.out J);have HY:=FU (yG 0 (w1.alloc (.cells #[.z,.sn,.z,.sn] 26)) O O);clear J HC;go_wp2_with fail
  refine HY.out.mono ?_;rintro e w2 ⟨x,rfl,hx,ab⟩;have D:=Ip (aI _ _) ab;obtain⟨b1,d1,b2,d2,rfl⟩:=hx.shape;have r1:∀i,w2.cell? ⟨w.heap.size+1,i,none⟩ = #[Value.z,.sn,.z,.sn][i]?:=λi=>by rw[D.cell (p:=⟨w.heap.size+1,i,none⟩) (by simp only; omega)]; exact r0 i
  have f1:∀i,w2.frozen? ⟨w.heap.size+1,i,none⟩=false:=λi=>by rw[D.frozen (p:=⟨w.heap.size+1,i,none⟩) (by simp only; omega)]; exact f0 i
  have hz:w.heap.size+1<w2.heap.size:=by have:=D.size; omega
  have ae:w.heap.size+1<(w1.alloc (.cells #[.z,.sn,.z,.sn] 26)).heap.size:=by simp; omega
  have F:=FU hx;have af:=FU (Ip HX.out D);clear r0 f0 hx ab D HY;go_wp2_with fail
  refine bodyPost_ret (v := .agg #[.b ((0:Int)<0),.s b1 (RI (0:Int).natAbs).length d1,.z,.s b2 (RI 1).length d2]) (by simp[results,results175,go_sem,r1]) I ⟨_,I,?_,rE af.out Z _ _ _ _⟩;exact(F.out.Qb ae _ _ _ _).mono Z
 have HC:=FU (Zj n1 n2 _ _ _ _ _ g1 g2 hm ag ac);have hN:nrm n1 n2 (TR l) (TR m)=(mF n1 n2 (TR l) (TR m),TR l/Nat.gcd (TR l) (TR m),TR m/Nat.gcd (TR l) (TR m)):=by unfold nrm; rw[UQ Z]
 rw[hN];clear g1 g2 hm hN;go_enter func175,ntmps175
 go_wp2_with fail
 refine HC.out.mono ?_;rintro e w1 ⟨x,rfl,hx,J⟩;have aa:=J.size;simp only[ϫ]at aa;obtain⟨b1,d1,b2,d2,rfl⟩:=hx.shape;have r0:∀i,w1.cell? ⟨w.heap.size+1,i,none⟩ = #[Value.z,.sn,.z,.sn][i]?:=λi=>by rw[J.cell (p:=⟨w.heap.size+1,i,none⟩) Y]; simp[go_sem]
 have f0:∀i,w1.frozen? ⟨w.heap.size+1,i,none⟩=false:=λi=>by rw[J.frozen (p:=⟨w.heap.size+1,i,none⟩) Y]; simp[go_sem]
 have F:=FU hx;have HX:=FU (Ip S.out J);have hz:w.heap.size+1<w1.heap.size:=Z
 clear J HC hx;go_wp2_with fail
 refine bodyPost_ret (v := .agg #[.b (mF n1 n2 (TR l) (TR m)),.s b1 (RI (TR l/Nat.gcd (TR l) (TR m))).length d1,.z,.s b2 (RI (TR m/Nat.gcd (TR l) (TR m))).length d2]) (by simp[results,results175,go_sem,r0,hz]) I ⟨_,I,?_,?_⟩
 .exact((F.out.Qb Y _ _ _ _).ext (aI _ _)).mono (by simp; omega)
 exact Ip (rE HX.out Z _ _ _ _) (aI _ _)
def zv(n:Bool)(a:Nat):Int:=if n then -(a:Int)else (a:Int)
abbrev agL(n:Bool)(a:Nat):decide (zv n a<0)=(n&&decide (0<a)):=by
 unfold zv;cases n
 .simp
 rw[Ł,ϸ]; simp
abbrev ug(n:Bool)(a:Nat):(zv n a).natAbs=a:=by unfold zv; cases n<;>simp
abbrev aoq(n:Bool)(a:Nat):zv (!n) a = -zv n a:=by unfold zv; cases n<;>simp
abbrev aa2(z:Int):zv (decide (z<0)) z.natAbs=z:=by
 unfold zv;by_cases h:z<0
 .rw[ņ h,Á I]; omega
 rw[Ŝ h,UQ Y]; omega
abbrev aor(n m:Bool)(a b:Nat):zv n a*zv m b=zv (n != m) (a*b):=by unfold zv; cases n<;>cases m<;>simp[Int.mul_neg,Int.neg_mul,Int.neg_neg]
abbrev VH(n:Bool)(a b:Nat):zv n a+zv n b=zv n (a+b):=by
 unfold zv;cases n
 .simp
 simp only[if_true]; omega
abbrev Gq{n m:Bool}{a b:Nat}(h:n≠m)(D:b<=a):zv n a+zv m b=zv n (a-b):=by
 unfold zv;cases n<;>cases m<;>simp only[ne_eq,not_true_eq_false,reduceCtorEq,if_true,if_false,ϝ]at * <;> omega
abbrev RF{n m:Bool}{a b:Nat}(h:n≠m)(D:a<=b):zv n a+zv m b=zv m (b-a):=by
 rw[Int.add_comm]; exact Gq (λe=>h e.symm) D
abbrev aos(n:Bool)(a:Nat):qF n a=(zv n a).sign:=by
 unfold qF zv;rcases ė a with h | h
 .subst h; cases n<;>rfl
 rw[UQ Z];cases n
 .rw[UQ Y,UQ Y,Int.sign_eq_one_of_pos Z]
 rw[Á I,Á I,Int.sign_eq_neg_one_of_neg Z]
abbrev CQ (base:Nat)(w:E5)(v:y9)(z:Int):Prop:=aS base w v (decide (z<0)) z.natAbs
abbrev KH{base:Nat}{w:E5}{v:y9}{n:Bool}{a:Nat}(h:aS base w v (n&&decide (0<a)) a):CQ base w v (zv n a):=by
 unfold CQ; rw[agL,ug]; exact h
def nz(x:Int)(d:Nat):Bool×Nat×Nat:=nrm (decide (x<0)) false x.natAbs d
def qz(r:Bool×Nat×Nat):Int:=zv r.1 r.2.1
def Ci(r s:Bool×Nat×Nat):Bool×Nat×Nat:=nz (qz r*qz s) (r.2.2*s.2.2)
def Nw(r s:Bool×Nat×Nat):Bool×Nat×Nat:=nz (qz r*s.2.2-qz s*r.2.2) (r.2.2*s.2.2)
def nD(r s:Bool×Nat×Nat):Int:=(qz r*s.2.2-qz s*r.2.2).sign
abbrev aax(n1 D:Bool)(l m:List UInt32):(RI (nrm n1 D (TR l) (TR m)).2.1).length<=l.length∧(RI (nrm n1 D (TR l) (TR m)).2.2).length<=max 1 m.length:=by
 unfold nrm;split
 .have D:(RI 1).length<=1:=Na.bJ O;exact⟨by rw[jR]; simp,by simp only; omega⟩
 have D:=fO (Μ (TR l) (Nat.gcd (TR l) (TR m)));have D:=fO (Μ (TR m) (Nat.gcd (TR l) (TR m)));have:=dB l;have:=dB m;simp only; omega
def aG(k:Nat)(f:α->List y9)(w:E5)(v:y9)(l:List α):Prop:=
 ∃a cap,v = .s a l.length cap∧cap<=maxLen ∧
  ((l=[]∧(a=none->cap=0)) ∨
   ∃b o,a=some ⟨b,o,none⟩∧b<w.heap.size∧l.length<=cap∧∀i (h:i<l.length) (j:Nat),j<k->w.cell? ⟨b,o+i*k+j,none⟩=(f l[i])[j]?)
abbrev aG.below{k:Nat}{f:α->List y9}{w w':E5}{v:y9}{l:List α}(h:aG k f w v l)(J:Below w.heap.size w w'):aG k f w' v l:=by
 obtain⟨a,cap,D,S,h⟩:=h;refine⟨a,cap,D,S,?_⟩;rcases h with h | ⟨b,o,S,D,hl,hc⟩
 .exact .inl h
 exact .inr ⟨b,o,S,by have:=J.size; omega,hl,λi S j hj=>by rw[J.cell (p:=⟨b,o+i*k+j,none⟩) D]; exact hc i S j hj⟩
abbrev aG.shape{k:Nat}{f:α->List y9}{w:E5}{v:y9}{l:List α}(h:aG k f w v l):∃a cap,v = .s a l.length cap:=by
 obtain⟨a,cap,h,_⟩:=h; exact⟨a,cap,h⟩
abbrev aG.len{k:Nat}{f:α->List y9}{w:E5}{v:y9}{l:List α}(h:aG k f w v l):l.length<=maxLen:=by
 obtain⟨a,cap,rfl,D,h⟩:=h;rcases h with ⟨rfl,_⟩ | ⟨b,o,rfl,D,hl,J⟩
 .simp
 omega
abbrev dK(k:Nat)(f:α->List y9)(w:E5):aG k f w (.sn) []:=⟨none,0,I,Î _,.inl ⟨I,λ_=>rfl⟩⟩
abbrev ac6{k:Nat}{f:α->List y9}{w:E5}{v:y9}{l:List α}(h:aG k f w v l)(hp:0<l.length) :
  ∃b o cap,v = .s (some ⟨b,o,none⟩) l.length cap∧b<w.heap.size∧l.length<=cap∧cap<=maxLen∧∀i (h:i<l.length) (j:Nat),j<k->w.cell? ⟨b,o+i*k+j,none⟩=(f l[i])[j]?:=by
 obtain⟨a,cap,rfl,D,h⟩:=h;rcases h with ⟨rfl,_⟩ | ⟨b,o,rfl,J,hl,S⟩
 .simp at hp
 exact⟨b,o,cap,I,J,hl,D,S⟩
abbrev eU{f:α->y9}{w:E5}{v:y9}{l:List α}(h:dG f w v l):aG 1 (λx=>[f x]) w v l:=by
 obtain⟨a,cap,D,J,h⟩:=h;refine⟨a,cap,D,J,?_⟩;rcases h with h | ⟨b,o,S,D,hl,hc⟩
 .exact .inl h
 refine .inr ⟨b,o,S,D,hl,λi J j hj=>?_⟩;obtain rfl:j=0:=by omega
 simpa using hc i J
abbrev I64 (x:Int):Prop := -9223372036854775808<=x∧x<=9223372036854775807
structure bH where
 n1:Bool
 a1:Option Ć
 c1:Nat
 l1:List UInt32
 n2:Bool
 a2:Option Ć
 c2:Nat
 l2:List UInt32
def bH.s1(r:bH):y9 := .s r.a1 r.l1.length r.c1
def bH.s2(r:bH):y9 := .s r.a2 r.l2.length r.c2
def bH.cells(r:bH):List y9:=[.b r.n1,r.s1,.b r.n2,r.s2]
def bH.v(r:bH):y9 := .agg #[.b r.n1,r.s1,.b r.n2,r.s2]
def bH.ok(w:E5)(r:bH):Prop:=aH w r.s1 r.l1∧aH w r.s2 r.l2
def bH.fit(k:Nat)(r:bH):Prop:=r.l1.length<=k∧r.l2.length<=k
def bH.q(r:bH):Bool×Nat×Nat:=nrm r.n1 r.n2 (TR r.l1) (TR r.l2)
abbrev bH.ok.below{w w':E5}{r:bH}(h:r.ok w)(D:Ext w w'):r.ok w':=⟨h.1.below D,h.2.below D⟩
abbrev bH.fit.mono{k D:Nat}{r:bH}(h:r.fit k)(hk:k<=D):r.fit D:=⟨ä h.1 hk,ä h.2 hk⟩
structure bD where
 a:bH
 b:bH
 c:bH
 d:bH
 e:bH
 f:bH
def bD.cells(t:bD):List y9:=t.a.cells++t.b.cells++t.c.cells++t.d.cells++t.e.cells++t.f.cells
def bD.v(t:bD):y9 := .agg t.cells.toArray
def bD.ok(w:E5)(t:bD):Prop:=t.a.ok w∧t.b.ok w∧t.c.ok w∧t.d.ok w∧t.e.ok w∧t.f.ok w
def bD.fit(k:Nat)(t:bD):Prop:=t.a.fit k∧t.b.fit k∧t.c.fit k∧t.d.fit k∧t.e.fit k∧t.f.fit k
abbrev bD.ok.below{w w':E5}{t:bD}(h:t.ok w)(D:Ext w w'):t.ok w':=
 ⟨h.1.below D,h.2.1.below D,h.D.below D,h.C.below D,h.A.below D,h.J.below D⟩
def eY(q:Bool×Nat×Nat):Nat:=max (bl q.2.1) (bl q.2.2)
def q0:Bool×Nat×Nat:=(false,0,1)
def qB(p q:Bool×Nat×Nat):Bool:=nD p q==0
structure kG where
 x:Int
 y:Int
deriving DecidableEq
def kG.ok(p:kG):Prop:=I64 p.x∧I64 p.y
def cok(x:Int):Bool:=decide (-1048576<=x)&&decide (x<=1048576)
def kG.valid(p:kG):Bool:=cok p.x&&cok p.y
def kG.zero(p:kG):Bool:=(p.x==0)&&(p.y==0)
structure dL where
 verb:Int
 a:kG
 b:kG
 c:kG
deriving DecidableEq
def dL.cells(s:dL):List y9:=[.i s.verb,.i s.a.x,.i s.a.y,.i s.b.x,.i s.b.y,.i s.c.x,.i s.c.y]
def dL.ok(s:dL):Prop:=I64 s.verb∧s.a.ok∧s.b.ok∧s.c.ok
def named(v:Int):Int:=if v=4 then 3 else if v=3 then 2 else if v=1∨v=2 then 1 else if v=5 then 0 else -1
def wW(v:Int)(i:Int)(p:kG):Bool:=p.valid && !(decide (named v<=i) && !p.zero)
def dL.fits(s:dL):Bool:=wW s.verb 0 s.a&&(wW s.verb 1 s.b&&wW s.verb 2 s.c)
def dL.stands(last:Int)(s:dL):Bool:=(s.verb==1)||((last != 5)&&((s.verb != 5)||(last != 1)))
def dL.err(last:Int)(s:dL):Int:=if named s.verb<0 then 2 else if s.stands last=false then 10 else if s.fits=false then 6 else 0
def sU:Int->Int->List dL->Int×Int
 | _,_,[]=>(0,0)
 | last,i,s::l=>if s.err last=0 then sU s.verb (i+1) l else (s.err last,i)
def iF(l:List dL):Int×Int:=if 256<(l.length:Int)then (5,256)else sU 5 0 l
def kK(l:List dL):Bool:=(iF l).1==0
structure bI where
 r:UInt8
 g:UInt8
 b:UInt8
 a:UInt8
deriving DecidableEq
def bI.cells(p:bI):List y9:=[gY p.r,gY p.g,gY p.b,gY p.a]
def bI.valid(p:bI):Bool:=decide (p.r<=p.a)&&(decide (p.g<=p.a)&&decide (p.b<=p.a))
structure dH where
 w:Int
 h:Int
 sa:Option Ć
 sc:Nat
 l:List bI
def dH.s(m:dH):y9 := .s m.sa m.l.length m.sc
def dH.cells(m:dH):List y9:=[.i m.w,.i m.h,m.s]
def dH.v(m:dH):y9 := .agg #[.i m.w,.i m.h,m.s]
def dH.ok(W:E5)(m:dH):Prop:=I64 m.w∧I64 m.h∧aG 4 bI.cells W m.s m.l
abbrev dH.ok.below{w w':E5}{t:dH}(h:t.ok w)(D:Ext w w'):t.ok w':=⟨h.1,h.2.1,h.F.below D⟩
def side(n:Int):Bool:=decide (1<=n)&&decide (n<=4096)
def dH.size(m:dH):Bool:=side m.w&&(side m.h&&decide (m.w*m.h<=65536))
def dH.valid(m:dH):Bool:=m.size&&(((m.l.length:Int)==m.w*m.h)&&m.l.all bI.valid)
def dH.eq(m n:dH):Bool:=(m.w==n.w)&&((m.h==n.h)&&(m.l==n.l))
structure dI where
 o:Int
 c:bI
deriving DecidableEq
def dI.cells(s:dI):List y9:=[.i s.o,gY s.c.r,gY s.c.g,gY s.c.b,gY s.c.a]
def dI.ok(s:dI):Prop:=I64 s.o
def iH:Int->List dI->Bool
 | _,[]=>true
 | at',s::l=>decide (at'<=s.o)&&(decide (s.o<=65536)&&iH s.o l)
def iK(l:List dI):Bool:=decide (1<=l.length)&&(decide (l.length<=16)&&iH 0 l)
structure ak where
 kind:Int
 color:bI
 p0:kG
 p1:kG
 bW:Int
 sva:Option Ć
 svc:Nat
 stops:List dI
 spread:Int
 img:dH
 cZ:Int
 t:bD
def ak.sv(p:ak):y9 := .s p.sva p.stops.length p.svc
def ak.cells(p:ak):List y9:=
 [.i p.kind,gY p.color.r,gY p.color.g,gY p.color.b,gY p.color.a,.i p.p0.x,.i p.p0.y,.i p.p1.x,.i p.p1.y,.i p.bW,p.sv,.i p.spread,
  .i p.img.w,.i p.img.h,p.img.s,.i p.cZ]++p.t.cells
def ak.v(p:ak):y9 := .agg p.cells.toArray
def ak.ok(w:E5)(p:ak):Prop:=
 I64 p.kind∧p.p0.ok∧p.p1.ok∧I64 p.bW∧aG 5 dI.cells w p.sv p.stops∧(∀s∈p.stops,s.ok)∧I64 p.spread∧p.img.ok w∧I64 p.cZ∧p.t.ok w
abbrev ak.ok.below{w w':E5}{p:ak}(h:p.ok w)(J:Ext w w'):p.ok w':=by
 obtain⟨S,h2,h3,h4,h5,h6,h7,h8,h9,D⟩:=h;exact⟨S,h2,h3,h4,h5.below J,h6,h7,h8.below J,h9,D.below J⟩
def iP(n:Int):Bool:=decide (1<=n)&&decide (n<=3)
structure aX where
 width:Int
 join:Int
 cap:Int
 eP:Int
 sa:Option Ć
 sc:Nat
 dash:List Int
 phase:Int
def aX.s(p:aX):y9 := .s p.sa p.dash.length p.sc
def Ac(x:Int):y9 := .i x
def aX.cells(p:aX):List y9:=[.i p.width,.i p.join,.i p.cap,.i p.eP,p.s,.i p.phase]
def aX.v(p:aX):y9 := .agg #[.i p.width,.i p.join,.i p.cap,.i p.eP,p.s,.i p.phase]
def aX.ok(w:E5)(p:aX):Prop:=I64 p.width∧I64 p.join∧I64 p.cap∧I64 p.eP∧dG Ac w p.s p.dash∧(∀x∈p.dash,I64 x)∧I64 p.phase
abbrev aX.ok.below{w w':E5}{p:aX}(h:p.ok w)(D:Ext w w'):p.ok w':=⟨h.1,h.2.1,h.D,h.C,h.A.below D,h.J⟩
structure aj where
 id:Int
 kind:Int
 depth:Int
 t:bD
 csa:Option Ć
 csc:Nat
 clip:List dL
 aP:Int
 dJ:UInt8
 blend:Int
 isolated:Bool
 dA:Bool
 psa:Option Ć
 psc:Nat
 path:List dL
 aV:Int
 fsa:Option Ć
 fsc:Nat
 fill:List ak
 style:aX
 ssa:Option Ć
 ssc:Nat
 stroke:List ak
 img:dH
 cZ:Int
def aj.cs(n:aj):y9 := .s n.csa n.clip.length n.csc
def aj.ps(n:aj):y9 := .s n.psa n.path.length n.psc
def aj.fs(n:aj):y9 := .s n.fsa n.fill.length n.fsc
def aj.ss(n:aj):y9 := .s n.ssa n.stroke.length n.ssc
def aj.cells(n:aj):List y9:=
 [.i n.id,.i n.kind,.i n.depth]++n.t.cells++[n.cs,.i n.aP,gY n.dJ,.i n.blend,.b n.isolated,.b n.dA,n.ps,.i n.aV,n.fs]++n.style.cells ++
  [n.ss]++n.img.cells++[.i n.cZ]
def aj.v(n:aj):y9 := .agg n.cells.toArray
abbrev yH (w:E5)(v:y9)(l:List dL):Prop:=aG 7 dL.cells w v l∧∀s∈l,s.ok
abbrev iY (w:E5)(v:y9)(l:List ak):Prop:=aG 40 ak.cells w v l∧∀p∈l,p.ok w
def aj.ok(w:E5)(n:aj):Prop:=
 I64 n.id∧I64 n.kind∧I64 n.depth∧n.t.ok w∧yH w n.cs n.clip∧I64 n.aP∧I64 n.blend∧yH w n.ps n.path∧I64 n.aV∧iY w n.fs n.fill∧n.style.ok w∧iY w n.ss n.stroke ∧
  n.img.ok w∧I64 n.cZ
abbrev yH.below{w w':E5}{v:y9}{l:List dL}(h:yH w v l)(D:Ext w w'):yH w' v l:=⟨h.1.below D,h.2⟩
abbrev iY.below{w w':E5}{v:y9}{l:List ak}(h:iY w v l)(D:Ext w w'):iY w' v l:=⟨h.1.below D,λp J=>(h.2 p J).below D⟩
abbrev aj.ok.below{w w':E5}{n:aj}(h:n.ok w)(D:Ext w w'):n.ok w':=by
 obtain⟨h1,h2,h3,h4,h5,h6,h7,h8,h9,J,S,aa,ab,I5⟩:=h;exact⟨h1,h2,h3,h4.below D,h5.below D,h6,h7,h8.below D,h9,J.below D,S.below D,aa.below D,ab.below D,I5⟩
end Go.Proofs.Õ
namespace Go.Vp
open Na
section
variable{P:Program}{ops:Array Oper}{Q:Exit->Act->E5->Prop}{a:Act}{w:E5}{rest:List Oper}{o:Oper}{n:Nat}{l:List (Nat×y9)}
variable{k b off c:Nat}
abbrev ac7{ρ:Operand->y9}{t e:TypeId}{x ix:Operand}{len cap:Nat}{kd:IntKind}(i:Nat)(S:o.op = .indexAddr t x ix)(hx:ρ x = .s (some ⟨b,off,none⟩) len cap)(hi:ρ ix = .int kd (i:Int))(D:i<len)
  (hu:P.underlying t=some (.slice e)) (J:(P.info? e).map (·.size)=some k):(execOp ρ o).run P w = .ok (.value (.pointer (some ⟨b,off+i*k,none⟩))) w:=by
 have he:P.elem t=e:=by unfold Program.elem; rw[hu]
 have D:=run_indexAt_slice (P:=P) w t ⟨b,off,none⟩ len cap kd (i:Int) (by rw[he]; exact hu);rw[Á ⟨Z,Z⟩,he]at D;have h2:(sizeOf e).run P w = .ok k w:=by
  cases hq:P.info? e with
  | none=>simp[hq]at J
  | some j =>
   have:j.size=k:=by simpa[hq]using J
   simp[sizeOf,typeInfo,hq,this]
 rw[h2]at D;simp only[Result.andThen,ŗ]at D;have J:(⟨b,off,none⟩:Ć).add (i*k)=⟨b,off+i*k,none⟩:=Addr.add_mid _ _ _;rw[J]at D;unfold execOp;simp only[S,hx,hi,ġ,D];rfl
abbrev lQ{α:Type}{f:α->List y9}{v:y9}{L:List α}(h:aG k f w v L)(hf:∀x,(f x).length=k)(i:Nat)(hi:i<L.length) :
  ∃b off cap,v = .s (some ⟨b,off,none⟩) L.length cap∧b<w.heap.size∧w.rangeAt b (off+i*k) (f L[i]):=by
 obtain⟨b,off,cap,D,S,hl,J,hc⟩:=ac6 h Z;refine⟨b,off,cap,D,S,λj u J=>?_⟩;have D:j<k:=by have:=(List.getElem?_eq_some_iff.1 J).1; rw[hf]at this; exact this
 rw[hc i hi j D]; exact J
abbrev iU{α:Type}{f:α->List y9}{a:Option Ć}{n:Nat}{L:List α}(h:aG k f w (.s a n c) L)(hf:∀x,(f x).length=k)(i:Nat)(hi:i<L.length) :
  ∃b o,a=some ⟨b,o,none⟩∧∃x,L[i]=x∧b<w.heap.size∧w.rangeAt b (o+i*k) (f x):=by
 obtain⟨b,o,cap,D,J,S⟩:=lQ h hf i hi;simp only[Ĉ]at D;exact⟨b,o,D.1,_,I,J,S⟩
abbrev au3{α:Type}{f:α->List y9}{o n:Nat}{L:List α}(h:aG k f w (.s (some ⟨b,o,none⟩) n c) L)(hf:∀x,(f x).length=k)(i:Nat)(hi:i<L.length) :
  ∃x,L[i]=x∧b<w.heap.size∧w.rangeAt b (o+i*k) (f x):=by
 obtain⟨b1,o1,D,x,J,S,hr⟩:=iU h hf i hi;simp only[Æ,Ŵ,and_true]at D;obtain⟨rfl,rfl⟩:=D;exact⟨x,J,S,hr⟩
abbrev qP{w w':E5}{cs:List y9}(h:w.rangeAt b off cs)(J:b<w.heap.size)(S:Ext w w'):w'.rangeAt b off cs:=λj v D=>by
 rw[S.cell (p:=⟨b,off+j,none⟩) J]; exact h j v D
abbrev agM{α:Type}{f:α->List y9}{v:y9}{L:List α}(h:aG k f w v L):v.oneCell'=true:=by obtain⟨a,cap,rfl⟩:=h.shape; rfl
abbrev mX{v:y9}{L:List UInt32}(h:aH w v L):v.oneCell'=true:=by obtain⟨a,cap,rfl,_⟩:=h; rfl
end
end Go.Vp
end
abbrev ý:=@Go.Vp.iU
