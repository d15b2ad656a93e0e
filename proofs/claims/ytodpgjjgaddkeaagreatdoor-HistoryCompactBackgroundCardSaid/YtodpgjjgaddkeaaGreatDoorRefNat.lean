/- Walks of the reference on natural numbers: Normalize, Digit, Cmp. -/
import Derived.Test.YtodpgjjgaddkeaaGreatDoorNatW2
set_option maxHeartbeats 3200000
set_option maxRecDepth 100000
namespace Go.Proofs.YtodpgjjgaddkeaaGreatDoor
open _root_.Go.Proofs.Tryz
open Go.RowKit Na
variable{α:Type}
set_option linter.unusedVariables false
set_option linter.unusedSimpArgs false
abbrev KP (base:Nat)(w:World)(v:Value)(l:List UInt32):Prop:=w.ownsRow base 119 1 v l.length (l.map bn)
theorem dU(v:Value)(l:List UInt32)(w:World)(hv:aC w v l)(hlen:l.length<=1000000000) :
  Calls prog 254 #[v] w λe w'=>∃v',e = .returned v'∧KP w.heap.size w' v' (Ux (Zk l))∧Ext w w':=by
 obtain⟨hd,hK,hz,ht⟩:=Vm l;have hdl:(Ux (Zk l)).length<=l.length:=hK;generalize hK0:(Ux (Zk l)).length=K at *;have HV:=azO hv;have HD:=azO hd;have HZ:=azO hz;have HT:=azO ht;obtain⟨a,cap,rfl⟩:=hv.shape;clear hv hd hz ht hK0;go_enter func254,ntmps254
 go_wp2_with fail
 go_loop [3] (λi=>∃k:Nat,K<=k∧k<=l.length∧i = .i k) (λi=>(intOf i).toNat)
 case atStart=>exact⟨l.length,hK,azS _,I⟩
 case round =>
  obtain⟨k,hk1,hk2,rfl⟩:=hrel;by_cases hkK:K<k
  .obtain⟨j,rfl⟩:∃j,k=j+1:=⟨k-1,Z⟩;obtain⟨b,o,c,hsv,hbb,hlc,hm,hc⟩:=dO HV.out I Z;simp only[aAq]at hsv;obtain⟨rfl,-,-⟩:=hsv;have hck:=hc j Z;rw[HZ.out j Z Z]at hck;clear hc;go_wp2
   go_round
   case rel=>exact⟨j,Z,Z,by go_num⟩
   case measure=>simp[intOf]
  obtain rfl:k=K:=by omega
  clear hkK hk1;obtain⟨D,HD1,HDL,HG⟩:∃D:List UInt32,Hid (Ux (Zk l)=D)∧Hid (D.length=k)∧Hid (∀i (h:i<D.length) (h2:i<l.length),D[i]=l[i]):=
   ⟨l.take k,HD.out,by show _=_; simp; omega,λi h h2=>by simp⟩
  have hDl:D.length<=1000000000:=by rw[HDL.out]; omega
  clear HD;rcases k with _ | j;case' succ =>
   obtain⟨b,o,c,hsv,hbb,hlc,hm,hc⟩:=dO HV.out I Z;simp only[aAq]at hsv;obtain⟨rfl,-,-⟩:=hsv;have hck:=hc j Z;clear hc;have hzb:((l[j].toNat:Int)==0)=false:=by
    rw[aAh]; intro e; exact HT.out j Z I (aBq.1 (by simp; omega))
  all_goals
   go_wp2_with fail
   go_loopw [4,5] (λg i wr=>∃q:Nat,i = .i q∧q<=D.length∧wr.ownsRow w.heap.size 119 1 g q ((D.take q).map bn)∧Ext w wr) (λ_ i _=>D.length-(intOf i).toNat)
   case atStart=>exact⟨0,I,azZ _,aB1 w #[] 0 (azS _) (azZ _) I,aF _ _⟩
   case round =>
    obtain⟨q,rfl,hq,hown,hbel⟩:=hrel
    by_cases hlt:q<D.length
    .have hlt2:=Nat.lt_of_lt_of_eq hlt HDL.out
     try exact absurd hlt2 (Nat.not_lt_zero _)
     all_goals
      have hlt3:q<l.length:=Z
      obtain⟨b,o,c,hsv,hbb,hlc,hm,hc⟩:=dO HV.out I Z
      simp only[aAq]at hsv
      obtain⟨hsv,-,-⟩:=hsv
      first | cases hsv | skip
      have azh:wr.cell? ⟨b,o+q,none⟩=some (bn D[q]):=by rw[hbel.cell (p:=⟨b,o+q,none⟩) hbb,HG.out q hlt hlt3]; exact hc q hlt3
      clear hc
      have HS:Hid (D.take (q+1)=D.take q++[D[q]]):=take_snoc D q hlt
      have hr:=nM wr (bn D[q]) 119 I
      have hown':=hown.alloc (.cells #[bn D[q]] 119)
      have hsz:w.heap.size<=wr.heap.size:=hbel.size
      have hsz':w.heap.size<=(wr.alloc (.cells #[bn D[q]] 119)).heap.size:=by simp; omega
      have h63:q+1<=maxLen:=by unfold maxLen; omega
      have hby:(q+1)*4<=140737488355328:=Z
      clear hown
      go_wp2_with (at_builtin; refine bP I _ _ _ I lT w.heap.size hown' I hr I h63 hby hsz' ?_; intro v2 w2 hown2 hg)
      go_roundw
      case rel =>
       refine⟨q+1,by go_num,Z,?_,(hbel.alloc hsz _).grown hg hsz' (λk hk=>(World.ownsRow.lt hown' k hk).1)⟩
       rw[HS.out,aAL]; exact hown2
      case measure=>simp[intOf]; omega
    .obtain rfl:q=D.length:=by omega
     have hge:=aCm HDL.out.symm
     rw[aAJ]at hown
     go_wp2_with fail
     go_ret
     exact⟨_,I,by rw[HD1.out]; exact hown,hbel⟩
theorem jl(v:Value)(l:List UInt32)(i:Nat)(w:World)(hv:aC w v l)(hi:i<=9223372036854775807) :
  Calls prog 315 #[v,.i i] w λe w'=>e = .returned (.int .u64 ((l.getD i 0).toNat:Int))∧w=w':=by
 obtain⟨a,cap,rfl,hm,ha⟩:=hv;have hl:=qY hm ha;have HA:=azO ha;clear ha;have h0:¬(i:Int)<0:=Z
 by_cases hlt:i<l.length
 .rcases HA.out with ⟨rfl,_⟩ | ⟨b,o,rfl,hb,hlc,hc⟩
  .simp at hlt
  have hck:=hc i hlt;clear hc;have e:l.getD i 0=l[i]:=by simp[List.getD,List.getElem?_eq_getElem hlt]
  rw[e];go_enter func315,ntmps315
  go_wp2
  go_ret
  exact⟨jw (gG _),I⟩
 have e:l.getD i 0=0:=by simp[List.getD,List.getElem?_eq_none (Nat.le_of_not_lt hlt)]
 rw[e];go_enter func315,ntmps315
 go_wp2
 go_ret
 exact⟨I,I⟩
theorem JD(v u:Value)(l m:List UInt32)(w:World)(hv:aC w v l)(hu:aC w u m) :
  Calls prog 317 #[v,u] w λe w'=>e = .returned (.i (qN (Zk l) (Zk m)))∧Ext w w':=by
 have hl:=hv.len;have hm:=hu.len;unfold maxLen at hl hm;have HV:=azO hv;have HU:=azO hu;obtain⟨a1,c1,rfl⟩:=hv.shape;obtain⟨a2,c2,rfl⟩:=hu.shape;clear hv hu;obtain⟨M,hM⟩:∃M,M=max l.length m.length:=⟨_,I⟩;have hmax:max (l.length:Int) (m.length:Int)=(M:Int):=Z
 have hM1:M<=9223372036854775807:=Z
 have HE:Hid (Zk (l.drop M)=Zk (m.drop M)):=by
  show _=_;rw[aA7 Z,aA7 Z]
 clear hM;go_enter func317,ntmps317
 go_wp2_with fail
 clear hmax;go_loopw [5] (λi wr=>∃k:Nat,k<=M∧i = .i ((k:Int)-1)∧Zk (l.drop k)=Zk (m.drop k)∧Ext w wr) (λi _=>(intOf i+1).toNat)
 case atStart=>exact⟨M,azS _,I,HE.out,aAe _ _⟩
 case round =>
  obtain⟨k,hk,rfl,hd,hbel⟩:=hrel;have HDr:=azO hd;clear hd;cases k with
  | zero =>
   have hr:=azO (Ya (show Zk l=Zk m from HDr.out));go_wp2_with fail
   go_ret
   exact⟨by rw[hr.out]; rfl,hbel⟩
  | succ j =>
   have hi:(((j+1:Nat):Int)-1)=(j:Int):=Z
   rw[hi];clear hi;have d0:=jl _ l j wr (HV.out.below hbel) Z;have d1:=jl _ m j wr (HU.out.below hbel) Z;have hlt:=@Na.acK l m j HDr.out;have hgt:=@Na.acK m l j HDr.out.symm;have heq:=@Na.amR l m j HDr.out;have g0:=(l.getD j 0).toNat_lt;have g1:=(m.getD j 0).toNat_lt;generalize (l.getD j 0).toNat=x at *;generalize (m.getD j 0).toNat=y at *;have D0:=azO d0;have D1:=azO d1;clear d0 d1;rcases aCq x y with h | h | h
   .have hr:=azO (Bq (hlt h));have h':(x:Int)<y:=Z
    clear hlt hgt heq h;go_wp2_with fail
    refine D0.out.mono ?_;rintro e w' ⟨rfl,rfl⟩;go_wp2_with fail
    refine D1.out.mono ?_;rintro e w' ⟨rfl,rfl⟩;go_wp2_with fail
    go_ret
    exact⟨by rw[hr.out]; rfl,hbel⟩
   .have HQ:=azO (heq h);have h1':¬(x:Int)<y:=Z
    have h2':¬(y:Int)<x:=Z
    clear hlt hgt heq h;go_wp2_with fail
    refine D0.out.mono ?_;rintro e w' ⟨rfl,rfl⟩;go_wp2_with fail
    refine D1.out.mono ?_;rintro e w' ⟨rfl,rfl⟩;go_wp2_with fail
    refine D0.out.mono ?_;rintro e w' ⟨rfl,rfl⟩;go_wp2_with fail
    refine D1.out.mono ?_;rintro e w' ⟨rfl,rfl⟩;go_wp2_with fail
    go_roundw
    case rel=>exact⟨j,Z,I,HQ.out,hbel⟩
    case measure=>simp[intOf]
   have hr:=azO (Fv (hgt h));have h1':¬(x:Int)<y:=Z
   have h2':(y:Int)<x:=Z
   clear hlt hgt heq h;go_wp2_with fail
   refine D0.out.mono ?_;rintro e w' ⟨rfl,rfl⟩;go_wp2_with fail
   refine D1.out.mono ?_;rintro e w' ⟨rfl,rfl⟩;go_wp2_with fail
   refine D0.out.mono ?_;rintro e w' ⟨rfl,rfl⟩;go_wp2_with fail
   refine D1.out.mono ?_;rintro e w' ⟨rfl,rfl⟩;go_wp2_with fail
   go_ret
   exact⟨by rw[hr.out]; rfl,hbel⟩
open Go.RowKit Na
variable{α:Type}
theorem dgI(n:Nat):(n:Int)%4294967296=((UInt32.ofNat n).toNat:Int):=by simp
theorem dvI(n:Nat):(n:Int)/4294967296=((n/Gg:Nat):Int):=by simp[Gg]
theorem oM{f:α->Value}{w:World}{base n:Nat}{e:TypeId}{v:Value}{l:List α}(hn:l.length=n)(h:w.ownsRow base e 1 v n (l.map f)):dG f w v l:=by
 subst hn; exact aZ h
theorem acS:Gg=4294967296:=rfl
theorem Qd(v:Value)(l:List UInt32)(D:Nat)(w:World)(hv:aC w v l)(hD:D<4294967296)(hl:l.length<=100000000) :
  Calls prog 316 #[v,.int .u64 D] w λe w'=>∃v',e = .returned v'∧KP w.heap.size w' v' (Ux (Zk l*D))∧Ext w w':=by
 have HV:=azO hv;obtain⟨a1,c1,rfl⟩:=hv.shape;clear hv;go_enter func316,ntmps316
 go_wp2_with fail
 go_loopw [5,6,7,8] (λg cv iv _ wr=>∃(i c:Nat) (out:List UInt32),i<=l.length∧iv = .i i∧cv = .int .u64 c∧c<4294967296∧out.length=i∧Zk out+Gg^i*c=Zk (l.take i)*D ∧
  wr.ownsRow w.heap.size 119 1 g i (out.map bn)∧Ext w wr) (λ_ _ iv _ _=>l.length-(intOf iv).toNat)
 case atStart=>exact⟨0,0,[],azZ _,I,I,Z,I,by simp[Zk],aB1 w #[] 0 (azS _) (azZ _) I,aF _ _⟩
 case round =>
  obtain⟨i,c,out,hi,rfl,rfl,hc,hol,hval,hown,hbel⟩:=hrel;have HOL:=azO hol;have pO:=azO hval;have hsz:w.heap.size<=wr.heap.size:=hbel.size;have h63:i+1<=maxLen:=by unfold maxLen; omega
  have hby:(i+1)*4<=140737488355328:=Z
  clear hol hval;by_cases hlt:i<l.length
  .obtain⟨bx,ox,cx,hxs,hbx,hlx,hmx,hcx⟩:=dO HV.out I Z;simp only[aAq]at hxs;obtain⟨rfl,-,-⟩:=hxs;have hck:wr.cell? ⟨bx,ox+i,none⟩=some (bn l[i]):=by rw[hbel.cell (p:=⟨bx,ox+i,none⟩) hbx]; exact hcx i hlt
   clear hcx;have T0:=azO (Na.cZ l i hlt);generalize l[i]=x at *;have g0:=x.toNat_lt;have x0:=gG x;obtain⟨t,ht⟩:∃t,t=x.toNat*D:=⟨_,I⟩;have hmul:IntKind.u64.wrap ((x.toNat:Int)*(D:Int))=(t:Int):=by
    have h1:x.toNat*D<=4294967295*4294967295:=aBA Z Z;rw[ht,<-gZ (x.toNat*D) Z]; simp
   have htb:t<=18446744065119617025:=by rw[ht]; exact aBA (show x.toNat<=4294967295 by omega) (show D<=4294967295 by omega)
   obtain⟨n,hn⟩:∃n,n=t+c:=⟨_,I⟩;have hsum:IntKind.u64.wrap ((t:Int)+(c:Int))=(n:Int):=by rw[hn,<-gZ (t+c) Z]; simp
   have hnb:n<18446744073709551616:=Z
   have hmod:(n:Int)%4294967296=((UInt32.ofNat n).toNat:Int):=dgI n;have hdiv:(n:Int)/4294967296=((n/Gg:Nat):Int):=dvI n;have hc':n/Gg<4294967296:=aB2 hnb;have HST:=azO (Na.step_up HOL.out pO.out hn);rw[ht]at HST;generalize hq:n/Gg=c' at *;obtain⟨d,hd⟩:∃d,UInt32.ofNat n=d:=⟨_,I⟩;rw[hd]at hmod HST;have hr:=nM wr (bn d) 119 I;have hown':=hown.alloc (.cells #[bn d] 119);have hsz':w.heap.size<=(wr.alloc (.cells #[bn d] 119)).heap.size:=by simp; omega
   clear hown hn hq hd ht hnb;go_wp2_with (at_builtin; refine bP I _ _ _ I lT w.heap.size hown' I hr I h63 hby hsz' ?_; intro v2 w2 hown2 hg)
   go_roundw
   case rel =>
    refine⟨i+1,c',out++[d],Z,by go_num,I,hc',by simp[HOL.out],?_,by rw[aAL]; exact hown2,(hbel.alloc hsz _).grown hg hsz' (λk hk=>(World.ownsRow.lt hown' k hk).1)⟩;rw[HST.out,T0.out,aBk,aAB]
   case measure=>simp[intOf]; omega
  obtain rfl:i=l.length:=by omega
  obtain⟨d,rfl⟩:∃d:UInt32,c=d.toNat:=⟨UInt32.ofNat c,(bW Z).symm⟩;have hdl:=d.toNat_lt;have hdm:(d.toNat:Int)%4294967296=(d.toNat:Int):=Z
  have HD:Hid (Zk (out++[d])=Zk l*D):=by
   show _=_;rw[Na.jf,HOL.out,pO.out,aAJ]
  have HDL:Hid ((out++[d]).length=l.length+1):=by show _=_; simp[HOL.out]
  have HMM:Hid ((out++[d]).map bn=out.map bn++[bn d]):=by show _=_; simp
  have hr:=nM wr (bn d) 119 I;have hown':=hown.alloc (.cells #[bn d] 119);have hsz':w.heap.size<=(wr.alloc (.cells #[bn d] 119)).heap.size:=by simp; omega
  clear hown;go_wp2_with (at_builtin; refine bP I _ _ _ I lT w.heap.size hown' I hr I h63 hby hsz' ?_; intro v2 w2 hown2 hg)
  have hb2:=(hbel.alloc hsz _).grown hg hsz' (λk hk=>(World.ownsRow.lt hown' k hk).1);have HR:=azO (dU v2 (out++[d]) w2 (aZ (by rw[HDL.out,HMM.out]; exact hown2)) (by rw[HDL.out]; omega));rw[HD.out]at HR;have HB2:=azO hb2;clear hown2 hg hb2;go_wp2_with fail
  refine HR.out.mono ?_;rintro e w' ⟨v',rfl,ho,hb⟩;have HO:=azO (bC ho HB2.out.size);have HB:=azO (K00 HB2.out hb);clear ho hb;go_wp2_with fail
  go_ret
  exact⟨_,I,HO.out,HB.out⟩
theorem Yj{A C E Vo o:Nat}(h:A+E*Vo=o+C)(hle:C<=A)(ho:o<E):o=A-C:=by
 rcases aAC Vo with h0 | h0
 .subst h0; omega
 have:E*1<=E*Vo:=aAz _ h0;omega
theorem JE(v u:Value)(l m:List UInt32)(w:World)(hv:aC w v l)(hu:aC w u m)(hl:l.length<=100000000)(hle:Zk m<=Zk l) :
  Calls prog 289 #[v,u] w λe w'=>∃v',e = .returned (.tuple #[v',.bool true])∧KP w.heap.size w' v' (Ux (Zk l-Zk m))∧Ext w w':=by
 have HV:=azO hv;have HU:=azO hu;have HC:=azO (JD v u l m w hv hu);obtain⟨a1,c1,rfl⟩:=hv.shape;obtain⟨a2,c2,rfl⟩:=hu.shape;have hcp:¬qN (Zk l) (Zk m)<0:=by
  unfold qN; rw[azP Z]; split<;>omega
 generalize qN (Zk l) (Zk m)=C at *;have HLE:=azO hle;clear hv hu hle;go_enter func289,ntmps289
 go_wp2_with fail
 refine HC.out.mono ?_;rintro e w1 ⟨rfl,hb1⟩;have HB1:=azO hb1;have hs1:=hb1.size;clear hb1 HC;go_wp2_with fail
 clear hcp;go_loopw [6,7,8,9] (λg cv iv _ wr=>∃(i c:Nat) (out:List UInt32),i<=l.length∧iv = .i i∧cv = .int .u64 c∧c<=1∧out.length=i∧Zk (l.take i)+Gg^i*c=Zk out+Zk (m.take i) ∧
  wr.ownsRow w.heap.size 119 1 g i (out.map bn)∧Ext w wr) (λ_ _ iv _ _=>l.length-(intOf iv).toNat)
 case atStart=>exact⟨0,0,[],azZ _,I,I,Z,I,by simp[Zk],aB1 w1 #[] 0 hs1 (azZ _) I,K00 HB1.out (aF _ _)⟩
 case round =>
  obtain⟨i,c,out,hi,rfl,rfl,hc,hol,hval,hown,hbel⟩:=hrel;have HOL:=azO hol;have pO:=azO hval;have hsz:w.heap.size<=wr.heap.size:=hbel.size;have h63:i+1<=maxLen:=by unfold maxLen; omega
  have hby:(i+1)*4<=140737488355328:=Z
  clear hol hval;by_cases hlt:i<l.length
  .have d0:=jl _ l i wr (HV.out.below hbel) Z;have d1:=jl _ m i wr (HU.out.below hbel) Z;have g0:=(l.getD i 0).toNat_lt;have g1:=(m.getD i 0).toNat_lt;have t0:=jE l i;have t1:=jE m i;generalize (l.getD i 0).toNat=x at *;generalize (m.getD i 0).toNat=y at *;have D0:=azO d0;have D1:=azO d1;have T0:=azO t0;have T1:=azO t1;obtain⟨n,hn⟩:∃n,n=4294967296+x-y-c:=⟨_,I⟩;have hmod:((4294967296:Int)+x-y-c)%4294967296=((UInt32.ofNat n).toNat:Int):=by rw[<-dgI,hn]; omega
   have hdiv:((4294967296:Int)+x-y-c)/4294967296=((n/Gg:Nat):Int):=by rw[<-dvI,hn]; omega
   have hq1:n/Gg<=1:=by rw[hn,acS]; omega
   have ai9:x+Gg*(1-n/Gg)=n%Gg+y+c:=by rw[hn,acS]; omega
   have HST:=azO (aaf HOL.out pO.out ai9);generalize n/Gg=q at *;obtain⟨d,hd⟩:∃d,UInt32.ofNat n=d:=⟨_,I⟩;rw[hd]at hmod HST;have hq2:(1:Int)-(q:Int)=((1-q:Nat):Int):=Z
   have hr:=nM wr (bn d) 119 I;have hown':=hown.alloc (.cells #[bn d] 119);have hsz':w.heap.size<=(wr.alloc (.cells #[bn d] 119)).heap.size:=by simp; omega
   have JY:=azO hq2;clear hown d0 d1 t0 t1 hn hd ai9 hq2;go_wp2_with fail
   refine D0.out.mono ?_;rintro e w' ⟨rfl,rfl⟩;go_wp2_with fail
   refine D1.out.mono ?_;rintro e w' ⟨rfl,rfl⟩;go_wp2_with (at_builtin; refine bP I _ _ _ I lT w.heap.size hown' I hr I h63 hby hsz' ?_; intro v2 w2 hown2 hg)
   go_roundw
   case rel =>
    refine⟨i+1,1-q,out++[d],Z,by go_num,by rw[JY.out],Z,by simp[HOL.out],?_,by rw[aAL]; exact hown2,(hbel.alloc hsz _).grown hg hsz' (λk hk=>(World.ownsRow.lt hown' k hk).1)⟩;rw[T0.out,T1.out,HST.out]
   case measure=>simp[intOf]; omega
  obtain rfl:i=l.length:=by omega
  have hml:Zk (m.take l.length)=Zk m:=uK (aCa HLE.out (Na.dS l));have HD:Hid (Zk out=Zk l-Zk m):=by
   have h:=pO.out;rw[aAJ,hml]at h;exact Yj h HLE.out (by have:=Na.dS out; rw[HOL.out]at this; exact this)
  have hrow:=oM HOL.out hown;have HR:=azO (dU _ out wr hrow (by rw[HOL.out]; omega));rw[HD.out]at HR;have HB2:=azO hbel;clear hown hbel hml hrow;go_wp2_with fail
  refine HR.out.mono ?_;rintro e w' ⟨v',rfl,ho,hb⟩;have HO:=azO (bC ho HB2.out.size);have HB:=azO (K00 HB2.out hb);clear ho hb;go_wp2_with fail
  go_ret2
  exact⟨_,I,HO.out,HB.out⟩
open Go.RowKit Na
variable{α:Type}
theorem abS(v u:Value)(l m:List UInt32)(n:Nat)(w:World)(hv:aC w v l)(hu:aC w u m)(hm:m.length=n+1)(aqs:0<(m.getD n 0).toNat)(hlt:Zk l<Gg*Zk m)(hl:l.length<=100000000)(hn:n<=10000000) :
  Calls prog 287 #[v,u] w λe w'=>∃v',e = .returned (.tuple #[.int .u64 ((Zk l/Zk m:Nat):Int),v'])∧KP w.heap.size w' v' (Ux (Zk l%Zk m))∧Ext w w':=by
 have HV:=azO hv;have HU:=azO hu;obtain⟨a1,c1,rfl⟩:=hv.shape;obtain⟨bx,ox,cx,rfl,hbx,hlx,hmx,hcx⟩:=dO hu hm Z;have e:m.getD n 0=m[n]'Z:=by simp[List.getD,List.getElem?_eq_getElem (show n<m.length by omega)]
 have D1:Hid (∀nq,Calls prog 315 #[.slice a1 l.length c1,.i ((n:Int)+1)] (w.drewN nq) λe w'=>e = .returned (.int .u64 ((l.getD (n+1) 0).toNat:Int))∧w'=w.drewN nq):=λnq =>
  (jl _ l (n+1) _ (HV.out.below (below_drewN (aAe _ _) nq)) Z).mono λ_ _ h=>⟨h.1,h.2.symm⟩
 have D0:Hid (∀nq,Calls prog 315 #[.slice a1 l.length c1,.i n] (w.drewN nq) λe w'=>e = .returned (.int .u64 ((l.getD n 0).toNat:Int))∧w'=w.drewN nq):=λnq =>
  (jl _ l (n) _ (HV.out.below (below_drewN (aAe _ _) nq)) Z).mono λ_ _ h=>⟨h.1,h.2.symm⟩
 obtain⟨amm,aqt,hVp⟩:=Vq hm aqs hlt;rw[e]at amm aqs;have hml:Zk m<Gg^(n+1):=by have:=Na.dS m; rw[hm]at this; exact this
 have hck:=hcx n Z;generalize m[n]'Z=t at *;have g0:=(l.getD n 0).toNat_lt;have g1:=(l.getD (n+1) 0).toNat_lt;generalize (l.getD n 0).toNat=x0 at *;generalize (l.getD (n+1) 0).toNat=x1 at *;obtain⟨T1,hT1⟩:∃T1,T1=x1*4294967296:=⟨_,I⟩;obtain⟨T,hT⟩:∃T,T=T1+x0:=⟨_,I⟩;obtain⟨q,hq⟩:∃q,q=T/t.toNat:=⟨_,I⟩;have k1:IntKind.i64.wrap (n:Int)=(n:Int):=IntWalk.i64_in _ Z;have k2:IntKind.u64.wrap ((x1:Int)*4294967296)=(T1:Int):=by rw[aBa,hT1]; omega
 have k3:IntKind.u64.wrap ((T1:Int)+(x0:Int))=(T:Int):=by rw[aBa,hT]; omega
 have k4:=gG t;have k5:(T:Int).tdiv (t.toNat:Int)=(q:Int):=by rw[QA,hq]
 have k6:IntKind.u64.wrap (q:Int)=(q:Int):=by
  have:q<=T:=by rw[hq]; exact aBX _ _
  rw[aBa]; omega
 have k7:((t.toNat:Int)==0)=false:=by rw[aAh]; omega
 rw[<-hT1,<-hT,<-hq]at amm;obtain⟨d0,hd0⟩:∃d0,d0=min q 4294967295:=⟨_,I⟩;have k8:min (q:Int) 4294967295=(d0:Int):=Z
 have aqu:d0<4294967296:=Z
 have hd1:Zk l/Zk m<=d0:=Z
 have HQ:=azO hq;have HT:=azO hT;have HT1:=azO hT1;have HLT:=azO hlt;have HD1:=azO hd1;have HML:=azO hml;have HVP:=azO hVp;clear hv hu hcx e hT1 hT hq amm aqt hd0 hd1 hlt hml hVp HQ HT HT1;go_enter func287,ntmps287
 go_wp2_with fail
 have K8:=azO k8;clear k8;go_quiet ((first | with_reducible exact Calls.quiet_of_same (D1.out _) | with_reducible exact Calls.quiet_of_same (D0.out _)))
 clear k1 k2 k3 k4 k5 k6 k7;have k8:=K8.out;go_wp2_with fail
 clear k8;refine(Qd _ m d0 _ (HU.out.below (below_drewN (aAe _ _) nq)) aqu Z).mono ?_;rintro e w1 ⟨p,rfl,ho,hb⟩;have HB:=azO (K00 (below_drewN (aAe w.heap.size w) nq) hb);have HP:=azO (aZ ho);clear ho hb;go_wp2_with fail
 go_loopw [8,9] (λdv p wr=>∃d:Nat,dv = .int .u64 d∧d<4294967296∧Zk l/Zk m<=d∧aC wr p (Ux (Zk m*d))∧Ext w wr) (λdv _ _=>(intOf dv).toNat)
 case atStart=>exact⟨d0,I,aqu,HD1.out,HP.out,HB.out⟩
 case round =>
  obtain⟨d,rfl,hd,Z9,hp,hbel⟩:=hrel;have hlen:(Ux (Zk m*d)).length<=n+2:=by
   apply Na.bI;rw[aAA];exact Nat.mul_lt_mul'' HML.out hd
  have HC:=azO (JD _ _ _ _ wr hp (HV.out.below hbel));rw[PV]at HC;by_cases h:Zk l<Zk m*d
  .obtain⟨f1,f2,f3,f4⟩:=aag Z9 h HVP.out;rw[Fv h]at HC;have HS:=azO (λw1 (h1:Ext wr w1)=>JE _ _ _ _ w1 (hp.below h1) (HU.out.below (K00 hbel h1)) Z (by rw[PV]; exact f4));rw[PV,f3]at HS;have hdz:1<=d:=f1;have hd1:((d-1:Nat):Int)=(d:Int)-1:=Z
   have HD1:=azO hd1;have HF2:=azO f2;have Qe:=azO hbel;clear hp hbel Z9 f1 f2 f3 f4 h hd1 hlen;go_wp2_with fail
   refine HC.out.mono ?_;rintro e w2 ⟨rfl,hb2⟩;have HS2:=azO (HS.out w2 hb2);have HB2:=azO (K00 Qe.out hb2);clear hb2 HS HC;go_wp2_with fail
   refine HS2.out.mono ?_;rintro e w3 ⟨p',rfl,ho,hb3⟩;have HO:=azO (aZ ho);have HB3:=azO (K00 HB2.out hb3);clear ho hb3 HS2;go_wp2_with fail
   go_roundw
   case rel=>exact⟨d-1,by rw[HD1.out],Z,HF2.out,HO.out,HB3.out⟩
   case measure=>simp[intOf]; omega
  have hle:Zk m*d<=Zk l:=Z
  obtain⟨f1,f2⟩:=Vr Z9 hle HVP.out;have hcp:¬(0:Int)<qN (Zk m*d) (Zk l):=by
   unfold qN; rw[azP h]; split<;>omega
  have HS:=azO (λw1 (h1:Ext wr w1)=>JE _ _ _ _ w1 (HV.out.below (K00 hbel h1)) (hp.below h1) hl (by rw[PV]; exact hle));rw[PV,f2]at HS;have HF1:=azO f1;have Qe:=azO hbel;generalize qN (Zk m*d) (Zk l)=cc at *;clear hp hbel Z9 f1 f2 h hle hlen;go_wp2_with fail
  refine HC.out.mono ?_;rintro e w2 ⟨rfl,hb2⟩;have HS2:=azO (HS.out w2 hb2);have HB2:=azO (K00 Qe.out hb2);clear hb2 HS HC;go_wp2_with fail
  refine HS2.out.mono ?_;rintro e w3 ⟨p',rfl,ho,hb3⟩;have HO:=azO (bC ho HB2.out.size);have HB3:=azO (K00 HB2.out hb3);clear ho hb3 HS2;go_wp2_with fail
  go_ret2
  exact⟨_,by rw[<-HF1.out]; rfl,HO.out,HB3.out⟩
open Go.RowKit Na
variable{α:Type}
theorem Gn{w:World}{base:Nat}{e:TypeId}{size:Nat}{v:Value}{n:Nat}{xs:List Value}(h:w.ownsRow base e size v n xs):∃a cap,v = .slice a n cap:=by
 rcases h.2 with ⟨hv,h0⟩ | ⟨g,cap,cur,hv,_⟩
 .exact⟨none,0,by rw[hv,h0]⟩
 exact⟨_,cap,hv⟩
theorem abT(v:Value)(l:List UInt32)(p:Nat)(w:World)(hv:aC w v l)(hp:p<=31)(hl:l.length<=100000000) :
  Calls prog 314 #[v,.i p] w λe w'=>∃v',e = .returned v'∧KP w.heap.size w' v' (Ux (Zk l*2^p))∧Ext w w':=by
 have HV:=azO hv;obtain⟨a1,c1,rfl⟩:=hv.shape;clear hv;have ZV:(p:Int)/32=0:=Z
 have ajm:(p:Int)%32=(p:Int):=Z
 have avz:0<=maxLen:=azZ _;have avA:4*0<=281474976710656:=Z
 have hP:2^p<=2147483648:=aAV (n:=2) Z hp;have hP0:=aBl p;go_enter func314,ntmps314
 go_wp2_with (at_make; refine wpList_make_row I _ _ _ I lT I w.heap.size 0 I I I avA avz (azS _) ?_; intro w1 hown hg)
 have hb1:=gu (aAe w.heap.size w) hg (azS _);have HO:=azO hown;clear hg hown;go_loopw [5,6,7,8] (λg cv iv _ wr=>∃(i c:Nat) (out:List UInt32),i<=l.length∧iv = .i i∧cv = .int .u64 c∧c<2^p∧out.length=i∧Zk out+Gg^i*c=Zk (l.take i)*2^p ∧
  wr.ownsRow w.heap.size 119 1 g i (out.map bn)∧Ext w wr) (λ_ _ iv _ _=>l.length-(intOf iv).toNat)
 case atStart=>exact⟨0,0,[],azZ _,I,I,hP0,I,by simp[Zk],HO.out,hb1⟩
 case round =>
  obtain⟨i,c,out,hi,rfl,rfl,hc,hol,hval,hown,hbel⟩:=hrel;have HOL:=azO hol;have pO:=azO hval;have hsz:w.heap.size<=wr.heap.size:=hbel.size;have h63:i+1<=maxLen:=by unfold maxLen; omega
  have hby:(i+1)*4<=140737488355328:=Z
  have hc32:c<4294967296:=Z
  clear hol hval HO;by_cases hlt:i<l.length
  .obtain⟨bx,ox,cx,hxs,hbx,hlx,hmx,hcx⟩:=dO HV.out I Z;simp only[aAq]at hxs;obtain⟨rfl,-,-⟩:=hxs;have hck:wr.cell? ⟨bx,ox+i,none⟩=some (bn l[i]):=by rw[hbel.cell (p:=⟨bx,ox+i,none⟩) hbx]; exact hcx i hlt
   clear hcx;have T0:=azO (Na.cZ l i hlt);generalize l[i]=x at *;have g0:=x.toNat_lt;have x0:=gG x;obtain⟨t,ht⟩:∃t,t=x.toNat*2^p:=⟨_,I⟩;have ht1:t<=4294967295*2^p:=by rw[ht]; exact aBj _ Z
   have hmul:IntKind.u64.wrap ((x.toNat:Int)*2^p)=(t:Int):=by
    rw[ht,<-gZ (x.toNat*2^p) Z]; simp
   obtain⟨n,hn⟩:∃n,n=t+c:=⟨_,I⟩;have hsum:IntKind.u64.wrap ((t:Int)+(c:Int))=(n:Int):=by rw[hn,<-gZ (t+c) Z]; simp
   have hmod:(n:Int)%4294967296=((UInt32.ofNat n).toNat:Int):=dgI n;have hdiv:(n:Int)/4294967296=((n/Gg:Nat):Int):=dvI n;have hc':n/Gg<2^p:=aB2 (by rw[acS]; omega);have HST:=azO (Na.step_up HOL.out pO.out hn);rw[ht]at HST;generalize hq:n/Gg=c' at *;obtain⟨d,hd⟩:∃d,UInt32.ofNat n=d:=⟨_,I⟩;rw[hd]at hmod HST;have hr:=nM wr (bn d) 119 I;have hown':=hown.alloc (.cells #[bn d] 119);have hsz':w.heap.size<=(wr.alloc (.cells #[bn d] 119)).heap.size:=by simp; omega
   clear hown hn hq hd ht ht1 ZV;go_wp2_with (at_builtin; refine bP I _ _ _ I lT w.heap.size hown' I hr I h63 hby hsz' ?_; intro v2 w2 hown2 hg)
   go_roundw
   case rel =>
    refine⟨i+1,c',out++[d],Z,by go_num,I,hc',by simp[HOL.out],?_,by rw[aAL]; exact hown2,(hbel.alloc hsz _).grown hg hsz' (λk hk=>(World.ownsRow.lt hown' k hk).1)⟩;rw[HST.out,T0.out,aBk,aAB]
   case measure=>simp[intOf]; omega
  obtain rfl:i=l.length:=by omega
  obtain⟨d,rfl⟩:∃d:UInt32,c=d.toNat:=⟨UInt32.ofNat c,(bW Z).symm⟩;have hdl:=d.toNat_lt;have hdm:(d.toNat:Int)%4294967296=(d.toNat:Int):=Z
  have HD:Hid (Zk (out++[d])=Zk l*2^p):=by
   show _=_;rw[Na.jf,HOL.out,pO.out,aAJ]
  have HDL:Hid ((out++[d]).length=l.length+1):=by show _=_; simp[HOL.out]
  have HMM:Hid ((out++[d]).map bn=out.map bn++[bn d]):=by show _=_; simp
  have hr:=nM wr (bn d) 119 I;have hown':=hown.alloc (.cells #[bn d] 119);have hsz':w.heap.size<=(wr.alloc (.cells #[bn d] 119)).heap.size:=by simp; omega
  clear hown;go_wp2_with (at_builtin; refine bP I _ _ _ I lT w.heap.size hown' I hr I h63 hby hsz' ?_; intro v2 w2 hown2 hg)
  have hb2:=(hbel.alloc hsz _).grown hg hsz' (λk hk=>(World.ownsRow.lt hown' k hk).1);have HR:=azO (dU v2 (out++[d]) w2 (aZ (by rw[HDL.out,HMM.out]; exact hown2)) (by rw[HDL.out]; omega));rw[HD.out]at HR;have HB2:=azO hb2;clear hown2 hg hb2;go_wp2_with fail
  refine HR.out.mono ?_;rintro e w' ⟨v',rfl,ho,hb⟩;have HO:=azO (bC ho HB2.out.size);have HB:=azO (K00 HB2.out hb);clear ho hb;go_wp2_with fail
  go_ret
  exact⟨_,I,HO.out,HB.out⟩
theorem sK(v:Value)(l:List UInt32)(p:Nat)(w:World)(hv:aC w v l)(hp:p<=31)(hl:l.length<=100000000) :
  Calls prog 286 #[v,.i p] w λe w'=>∃v',e = .returned v'∧KP w.heap.size w' v' (Ux (Zk l*2^p))∧Ext w w':=by
 have HC:=azO (abT v l p w hv hp hl);obtain⟨a1,c1,rfl⟩:=hv.shape;clear hv;have hmin:min (p:Int) 4096=(p:Int):=Z
 have h0:(0:Int)<=(p:Int):=Z
 go_enter func286,ntmps286
 go_wp2_with fail
 refine HC.out.mono ?_;rintro e w' ⟨v',rfl,ho,hb⟩;have HO:=azO ho;have HB:=azO hb;clear ho hb;go_wp2_with fail
 go_ret
 exact⟨_,I,HO.out,HB.out⟩
theorem KQ(v:Value)(l:List UInt32)(p:Nat)(w:World)(hv:aC w v l)(hp:0<p)(hp2:p<=31)(hl:l.length<=100000000) :
  Calls prog 286 #[v,.i (-(p:Int))] w λe w'=>∃v',e = .returned v'∧KP w.heap.size w' v' (Ux (Zk l/2^p))∧Ext w w':=by
 have HV:=azO hv;obtain⟨a1,c1,rfl⟩:=hv.shape;clear hv;have hneg:¬(0:Int) <= -(p:Int):=Z
 by_cases h0:l.length=0
 .obtain rfl:l=[]:=aBd h0;have hlt : -(p:Int)<0:=Z
  clear h0;go_enter func286,ntmps286
  go_wp2_with fail
  go_ret
  refine⟨_,I,?_,aF _ _⟩;rw[show Ux (Zk []/2^p)=[] by simp[Zk,Ux,Na.kS]];exact aB1 w #[] 0 (azS _) (azZ _) I
 have hge:¬-(p:Int) < -32*(l.length:Int):=Z
 have ZV:(p:Int)/32=0:=Z
 have ajm:(p:Int)%32=(p:Int):=Z
 have hsl:=zS p l;have HS:Hid (Zk (Na.shr p l)=Zk l/2^p):=Yc p Z l;have HG:Hid (∀i (h:i<l.length) (h2:i<(Na.shr p l).length),(Na.shr p l)[i]=UInt32.ofNat (((l.getD i 0).toNat+Gg*(l.getD (i+1) 0).toNat)/2^p)):=λi h _=>Yb p l i h;generalize Na.shr p l=S at *;have HSL:=azO hsl;clear hsl;go_enter func286,ntmps286
 go_wp2_with fail
 clear hge ZV hneg h0;go_loopw [5,6,7] (λg iv _ wr=>∃i:Nat,i<=l.length∧iv = .i i∧wr.ownsRow w.heap.size 119 1 g i ((S.take i).map bn)∧Ext w wr) (λ_ iv _ _=>l.length-(intOf iv).toNat)
 case atStart=>exact⟨0,azZ _,I,aB1 w #[] 0 (azS _) (azZ _) I,aF _ _⟩
 case round =>
  obtain⟨i,hi,rfl,hown,hbel⟩:=hrel;have hsz:w.heap.size<=wr.heap.size:=hbel.size;have h63:i+1<=maxLen:=by unfold maxLen; omega
  have hby:(i+1)*4<=140737488355328:=Z
  by_cases hlt:i<l.length
  .have d0:=jl _ l i wr (HV.out.below hbel) Z;have d1:=jl _ l (i+1) wr (HV.out.below hbel) Z;have g0:=(l.getD i 0).toNat_lt;have g1:=(l.getD (i+1) 0).toNat_lt;have hget:=HG.out i hlt (by rw[HSL.out]; exact hlt);have aja:=take_snoc S i (by rw[HSL.out]; exact hlt);generalize (l.getD i 0).toNat=x0 at *;generalize (l.getD (i+1) 0).toNat=x1 at *;obtain⟨N,hN⟩:∃N,N=x0+Gg*x1:=⟨_,I⟩;rw[<-hN]at hget;have hN':(x1:Int)*4294967296+(x0:Int)=(N:Int):=by rw[hN,acS]; omega
   have hsd:(N:Int)/2^p%4294967296=((UInt32.ofNat (N/2^p)).toNat:Int):=KW N p;rw[<-hget]at hsd;have D0:=azO d0;have D1:=azO d1;generalize S[i]'(by rw[HSL.out]; exact hlt)=d at *;have HSN:=azO aja;have hr:=nM wr (bn d) 119 I;have hown':=hown.alloc (.cells #[bn d] 119);have hsz':w.heap.size<=(wr.alloc (.cells #[bn d] 119)).heap.size:=by simp; omega
   clear hown d0 d1 hN hget aja;go_wp2_with fail
   refine D1.out.mono ?_;rintro e w' ⟨rfl,rfl⟩;go_wp2_with fail
   refine D0.out.mono ?_;rintro e w' ⟨rfl,rfl⟩;go_wp2_with (at_builtin; refine bP I _ _ _ I lT w.heap.size hown' I hr I h63 hby hsz' ?_; intro v2 w2 hown2 hg)
   go_roundw
   case rel =>
    refine⟨i+1,Z,by go_num,?_,(hbel.alloc hsz _).grown hg hsz' (λk hk=>(World.ownsRow.lt hown' k hk).1)⟩;rw[HSN.out,aAL]; exact hown2
   case measure=>simp[intOf]; omega
  obtain rfl:i=l.length:=by omega
  have hst:S.take l.length=S:=aAv (by rw[HSL.out]; exact azS _);rw[hst]at hown;have hrow:=oM HSL.out hown;have HR:=azO (dU _ S wr hrow (by rw[HSL.out]; omega));rw[HS.out]at HR;have HB2:=azO hbel;clear hrow hown hbel hst;go_wp2_with fail
  refine HR.out.mono ?_;rintro e w' ⟨v',rfl,ho,hb⟩;have HO:=azO (bC ho HB2.out.size);have HB:=azO (K00 HB2.out hb);clear ho hb;go_wp2_with fail
  go_ret
  exact⟨_,I,HO.out,HB.out⟩
theorem afG(x j:Nat):(((x/2^j:Nat):Int))/2=((x/2^(j+1):Nat):Int):=by
 rw[aAA,<-Nat.div_div_eq_div_mul]; rfl
theorem KR(v:Value)(l:List UInt32)(w:World)(hv:aC w v l)(hlen:l.length<=1000000000) :
  Calls prog 278 #[v] w λe w'=>e = .returned (.i (bl (Zk l):Int))∧Ext w w':=by
 have hd:=bY l;have ea:=PV (Zk l);have na:=Na.gI (Zk l);have C1:=azO (dU v l w hv hlen);clear hv;rw[<-ea];generalize Ux (Zk l)=a at *;by_cases h0:a.length=0
 .obtain rfl:a=[]:=aBd h0;clear ea h0;go_enter func278,ntmps278
  go_wp2_with fail
  refine C1.out.mono ?_;rintro e w' ⟨x,rfl,hx,hb⟩;obtain⟨xa,xc,rfl⟩:=Gn hx;go_wp2_with fail
  go_ret
  exact⟨I,hb⟩
 obtain⟨m,hm⟩:∃m,a.length=m+1:=⟨a.length-1,Z⟩;have hx0:a[m]'Z≠0:=by
  have:=Na.uG na Z;simpa[hm]using this
 have hbd:∀c:Nat,2^(c-1)<=(a[m]'Z).toNat->(a[m]'Z).toNat<2^c->1<=c->bl (Zk (a.take m++[a[m]'Z]))=32*(a.take m).length+c:=λc h1 h2 h3=>Yd (a.take m) (a[m]'Z) hx0 c h1 h2 h3;have e1:a.take m++[a[m]'Z]=a:=by
  rw[<-aAU Z,<-hm,aAJ]
 rw[e1]at hbd;have e2:(a.take m).length=m:=by simp; omega
 rw[e2]at hbd;have HBD:=azO hbd;have HM:=azO hm;have hml:(m:Int)<=1000000000:=Z
 have hxp:0<(a[m]'Z).toNat:=Nat.pos_of_ne_zero λe=>hx0 (aBq.1 (by simpa using e));have hne:((m:Int)+1==0)=false:=by rw[aAh]; omega
 have hxl:=(a[m]'Z).toNat_lt;clear ea na hbd e1 e2 hx0 h0;go_enter func278,ntmps278
 go_wp2_with fail
 refine C1.out.mono ?_;rintro e w1 ⟨x,rfl,hx,hb⟩;have hx:=aZ hx;obtain⟨bx,ox,cx,rfl,hbx,hlx,hmx,hcx⟩:=dO hx hm Z;have hck:=hcx m Z;have HB:=azO hb;generalize a[m]'Z=c at *;clear hcx hx hb hm C1;go_wp2_with fail
 clear hne;have hstart:Hid ((c.toNat:Int)=((c.toNat/2^0:Nat):Int)):=by show _=_; simp
 go_loopw [4,5] (λnv tv wr=>∃j:Nat,nv = .i (32*(m:Int)+j)∧j<=32∧tv = .int .u32 ((c.toNat/2^j:Nat):Int)∧(j=0∨2^(j-1)<=c.toNat)∧Ext w wr) (λ_ tv _=>(intOf tv).toNat)
 case atStart=>exact⟨0,by simp,Z,by simp[bn],.inl I,HB.out⟩
 case round =>
  obtain⟨j,rfl,hj,rfl,hjj,hbel⟩:=hrel;have HJ:=azO hjj;have HH:=azO (afG c.toNat j);clear hjj;obtain⟨T,hT⟩:∃T,c.toNat/2^j=T:=⟨_,I⟩;rw[hT]at HH |-;by_cases hz:0<T
  .have HT:=azO hT;have hle:Hid (2^j<=c.toNat):=by
    show _<=_;rcases aAH c.toNat (2^j)with h | h
    .rw[aCs h]at hT; omega
    exact h
   have azi:j<=31:=by
    rcases aAH 31 j with h | h
    .have:2^32<=2^j:=aAV Z h;have:=hle.out; omega
    exact h
   clear hT;go_wp2_with fail
   go_roundw
   case rel =>
    have hdl:c.toNat/2^(j+1)<4294967296:=aCa (aBX _ _) hxl;have hw:(T:Int)/2=((c.toNat/2^(j+1):Nat):Int)∧(T:Int)/2%4294967296=((c.toNat/2^(j+1):Nat):Int):=by
     have hh:=HH.out;generalize c.toNat/2^(j+1)=A01 at *;omega
    exact⟨j+1,FC Z,Z,(by first | exact FC hw.2 | exact FC hw.1),.inr (by simpa using hle.out),hbel⟩
   case measure=>simp[intOf]; omega
  obtain rfl:T=0:=by omega
  have hlt:c.toNat<2^j:=by
   rcases aAH c.toNat (2^j)with h | h
   .exact h
   have:=Nat.div_pos h (aBl j); omega
  have hj1:1<=j:=by
   rcases aAC j with h | h
   .subst h; simp at hlt; omega
   exact h
  have hr:bl (Zk a)=32*m+j:=HBD.out j (by rcases HJ.out with h | h; omega; exact h) hlt hj1;have HR:=azO hr;clear hT hlt hr hz;go_wp2_with fail
  go_ret
  exact⟨jw (by rw[HR.out]; omega),hbel⟩
open Go.RowKit Na
variable{α:Type}
variable{n V:Nat}
theorem afH(n:Nat):Gg^n=2^(32*n):=by rw[Nat.pow_mul]; rfl
theorem UM(h:(Ux V).length=n+1):Gg^n<=V∧V<Gg^(n+1):=by
 have h1:=Na.Dl (Na.gI V) Z;have h2:=Na.dS (Ux V);rw[PV,h]at h1 h2;exact⟨h1,h2⟩
theorem UN(h1:Gg^n<=V)(h2:V<Gg^(n+1)):(Ux V).length=n+1:=by
 have h3:=Na.bI h2;rcases aAH (Ux V).length (n+1)with h | h
 .have h4:=Na.dS (Ux V);rw[PV]at h4;have h5:Gg^(Ux V).length<=Gg^n:=aAV Na.jY Z;omega
 omega
theorem XY(h:(Ux V).length=n+1):32*n+1<=bl V∧bl V<=32*(n+1)∧∀p,bl V+p=32*(n+1)->(Ux (V*2^p)).length=n+1:=by
 obtain⟨h1,h2⟩:=UM h;have h0:V≠0:=by have:=aCk (n:=n) Na.jY; omega
 have hb:bl V=Nat.log2 V+1:=by unfold bl; rw[azP h0]
 have hk1:=Nat.log2_self_le h0;have hk2:V<2^(Nat.log2 V+1):=Nat.lt_log2_self;rw[hb];generalize Nat.log2 V=k at *;have e1:32*n<k+1:=by
  rw[afH]at h1;exact(Nat.pow_lt_pow_iff_right (by omega:1<2)).1 (aCa h1 hk2)
 have e2:k<32*(n+1):=by
  rw[afH]at h2;exact(Nat.pow_lt_pow_iff_right (by omega:1<2)).1 (aCa hk1 h2)
 refine⟨Z,Z,λp hp=>?_⟩;apply UN
 .exact aAa h1 (Nat.le_mul_of_pos_right _ (aBl p))
 rw[afH,<-hp,aBL];exact aCD hk2 (aBl p)
theorem abU{l:List UInt32}(h:Na.norm l)(hl:l.length=n+1):0<(l.getD n 0).toNat:=by
 have h1:=Na.uG h Z;simp only[hl,Nat.add_sub_cancel]at h1;have e:l.getD n 0=l[n]'Z:=by simp[List.getD,List.getElem?_eq_getElem (show n<l.length by omega)]
 rw[e];exact Nat.pos_of_ne_zero λh2=>h1 (aBq.1 (by simpa using h2))
theorem ah0{w:World}{base g:Nat}{e:TypeId}{v:Value}{xs:List Value}(h:w.ownsRow base e 1 v n xs)(hg:g<base)(o:Nat)(x:Value):(w.setCell ⟨g,o,none⟩ x).ownsRow base e 1 v n xs:=
 acF h ((Ch.refl g w).setCell o x) hg
theorem zi(v u:Value)(l m:List UInt32)(w:World)(hv:aC w v l)(hu:aC w u m)(hm:0<Zk m)(hll:l.length<=5000000)(hml:m.length<=5000000) :
  Calls prog 255 #[v,u] w λe w'=>∃q r,e = .returned (.tuple #[q,r,.i 0])∧KP w.heap.size w' q (Ux (Zk l/Zk m))∧KP w.heap.size w' r (Ux (Zk l%Zk m))∧Ext w w':=by
 have hdm:=bY m;have aqv:=Na.gI (Zk m);have C1:=azO (dU u m w hu Z);have HV:=azO hv;obtain⟨a1,c1,rfl⟩:=hv.shape;obtain⟨a2,c2,rfl⟩:=hu.shape;have hne0:(Ux (Zk m)).length≠0:=λh=>by have:=og h; omega
 obtain⟨n,hn⟩:∃n,(Ux (Zk m)).length=n+1:=⟨(Ux (Zk m)).length-1,Z⟩;obtain⟨hb1,hb2,hsh⟩:=XY hn;obtain⟨p,hp⟩:∃p,bl (Zk m)+p=32*(n+1):=⟨32*(n+1)-bl (Zk m),Z⟩;have QH:p<=31:=Z
 have hln:=hsh p hp;have hVp:0<Zk m*2^p:=aCc hm (aBl p);have hlU:(Ux (Zk l*2^p)).length<=l.length+1:=by
  apply Na.bI;rw[aAA];refine Nat.mul_lt_mul_of_lt_of_le (Na.dS l) ?_ Na.jY;have:2^p<=2^32:=aAV Z Z;exact this
 have hEq:Hid (∀Q R,Q*(Zk m*2^p)+R=Zk l*2^p->R<Zk m*2^p->Q=Zk l/Zk m∧R/2^p=Zk l%Zk m∧(p=0->R=Zk l%Zk m)):=by
  intro Q R h hR;obtain⟨e1,e2⟩:=acM h hR;rw[Nat.mul_div_mul_right _ _ (aBl p)]at e1;rw[Nat.mul_mod_mul_right]at e2;refine⟨e1,by rw[e2,Nat.mul_div_cancel _ (aBl p)],λh0=>by rw[e2,h0]; simp⟩
 have hbI:32*((n:Int)+1)-(bl (Zk m):Int)=(p:Int):=Z
 have avC:(bl (Zk m):Int)<=32*((n:Int)+1):=Z
 have hnb:n<=5000000:=Z
 have C2:=λ(x:Value) (w1:World) (h:aC w1 x (Ux (Zk m)))=>KR x _ w1 h Z;have C3:=λ(x:Value) (w1:World) (h:aC w1 x (Ux (Zk m)))=>sK x _ p w1 h QH Z;rw[PV]at C2 C3;have CC2:=azO C2;have CC3:=azO C3;clear C2 C3;have hn0:((n:Int)+1==0)=false:=by rw[aAh]; omega
 have HN:=azO hn;have HLN:=azO hln;have HVP:=azO hVp;clear hv hu hsh hp hn hln hVp hdm aqv hne0;go_enter func255,ntmps255
 go_wp2_with fail
 refine C1.out.mono ?_;rintro e w1 ⟨t,rfl,ht,hb⟩;have HT:=azO (aZ ht);have HB1:=azO hb;obtain⟨at',ct,rfl⟩:=Gn ht;rw[HN.out]at HT |-;clear ht hb C1;go_wp2_with fail
 refine(CC2.out _ w1 HT.out).mono ?_;rintro e w2 ⟨rfl,hb⟩;have HB2:=azO (K00 HB1.out hb);have HT2:=azO (HT.out.below hb);clear hb CC2 HT;go_wp2_with fail
 refine(sK _ l p w2 (HV.out.below HB2.out) QH Z).mono ?_;rintro e w3 ⟨x,rfl,hx,hb⟩;have HB3:=azO (K00 HB2.out hb);have HX:=azO (aZ hx);have HT3:=azO (HT2.out.below hb);obtain⟨ax,cx,rfl⟩:=Gn hx;clear hb hx HT2;go_wp2_with fail
 refine(CC3.out _ w3 HT3.out).mono ?_;rintro e w4 ⟨y,rfl,hy,hb⟩;have HB4:=azO (K00 HB3.out hb);have HX4:=azO (HX.out.below hb);have HY4:=azO (aZ hy);clear hb hy HX HT3 CC3;generalize hU:Zk l*2^p=U at *;generalize hW:Zk m*2^p=V at *;obtain⟨N,hNN⟩:∃N,(Ux U).length=N:=⟨_,I⟩;have HNN:=azO hNN;have avD:N<=maxLen:=by unfold maxLen; omega
 have avE:4*N<=281474976710656:=Z
 have hN6:N<=6000000:=Z
 rw[hNN]at HX4 |-;clear hU hW hNN hlU;have hs4:=HB4.out.size;go_wp2_with (at_make; refine wpList_make_row I _ _ _ I lT I w4.heap.size N I I I avE avD (azS _) ?_; intro w5 hown hg)
 have hb5:=gu (aAe w4.heap.size w4) hg (azS _);have hs5:w4.heap.size<w5.heap.size:=(hown.lt w4.heap.size I).2;have HO:=azO hown;have HB5:=azO hb5;clear hg hown hb5 hn0 avC hbI;go_wp2_with fail
 go_loopw [12,13,14,15,16,17] (λrv iv _ _ _ _ wr=>∃(k R:Nat) (q:List UInt32),k+q.length=N∧iv = .i ((k:Int)-1) ∧
  Zk q*V+R=Zk ((Ux U).drop k)∧R<V∧KP (w4.heap.size+1) wr rv (Ux R) ∧
  wr.ownsRow w4.heap.size 119 1 (.slice (some ⟨w4.heap.size,0,none⟩) N N) N ((List.replicate k 0++q).map bn)∧Ext w4 wr) (λ_ iv _ _ _ _ _=>(intOf iv+1).toNat)
 case atStart =>
  refine⟨N,0,[],by simp,I,?_,HVP.out,?_,?_,HB5.out.alloc Z _⟩
  .rw[aA7 (by rw[HNN.out]; exact azS _)]; simp[Zk]
  .exact aB1 w5 #[] 0 Z (azZ _) I
  have:=HO.out.alloc (.cells #[] 119);simpa[bn]using this
 case round =>
  obtain⟨k,R,q,hkq,rfl,hval,hR,hr,hown,hbel⟩:=hrel;have HKQ:=azO hkq;have pO:=azO hval;have HRR:=azO hr;have HW:=azO hown;have azj:=hbel.size;have hkN:k<=N:=Z
  clear hkq hval hr hown;cases k with
  | zero =>
   obtain⟨e1,e2,e3⟩:=hEq.out (Zk q) R (by have:=pO.out; rw[aCl,PV]at this; exact this) hR;have HE:=azO (And.intro e1 (And.intro e2 e3));have hrow:aC wr (.slice (some ⟨w4.heap.size,0,none⟩) N N) q:=by
    have h1:=HKQ.out;have h2:=HW.out;simp only[aB9,aAR]at h2;exact oM Z h2
   have HQ:=azO (dU _ q wr hrow (by have:=HKQ.out; omega));have hRow:=aZ HRR.out;have hRl:(Ux R).length<=6000000:=by
    have h1:=fK (aBM hR);rw[HLN.out]at h1; omega
   have amn:=azO hRow;have Qe:=azO (K00 HB4.out hbel);clear e1 e2 e3 hrow hRow hEq hbel;go_wp2_with fail
   refine HQ.out.mono ?_;rintro e w6 ⟨x,rfl,hx,hb⟩;have HX6:=azO (bC hx Qe.out.size);have HB6:=azO (K00 Qe.out hb);have HR6:=azO (amn.out.below hb);clear hx hb HQ;rcases aAC p with h0 | h0
   .subst h0;have HS:=sK _ _ 0 w6 HR6.out Z Z;rw[PV,Nat.pow_zero,Nat.mul_one,HE.out.2.2 I]at HS;have HSS:=azO HS;clear HS;go_wp2_with fail
    refine HSS.out.mono ?_;rintro e w7 ⟨y,rfl,hy,hb⟩;have HY7:=azO (bC hy HB6.out.size);have HX7:=azO (dB HX6.out hb);have HB7:=azO (K00 HB6.out hb);clear hy hb;go_wp2_with fail
    go_ret3
    exact⟨_,_,I,by rw[<-HE.out.1]; exact HX7.out,HY7.out,HB7.out⟩
   have HS:=KQ _ _ p w6 HR6.out h0 QH Z;rw[PV,HE.out.2.1]at HS;have HSS:=azO HS;clear HS;go_wp2_with fail
   refine HSS.out.mono ?_;rintro e w7 ⟨y,rfl,hy,hb⟩;have HY7:=azO (bC hy HB6.out.size);have HX7:=azO (dB HX6.out hb);have HB7:=azO (K00 HB6.out hb);clear hy hb;go_wp2_with fail
   go_ret3
   exact⟨_,_,I,by rw[<-HE.out.1]; exact HX7.out,HY7.out,HB7.out⟩
  | succ j =>
   have hi:(((j+1:Nat):Int)-1)=(j:Int):=Z
   rw[hi];clear hi;obtain⟨bx,ox,cx',hxs,hbx,hlx,hmx,hcx⟩:=dO HX4.out HNN.out Z;simp only[aAq]at hxs;obtain⟨rfl,-,rfl⟩:=hxs;have hjl:j<(Ux U).length:=by rw[HNN.out]; omega
   have hck:wr.cell? ⟨bx,ox+j,none⟩=some (bn (Ux U)[j]):=by rw[hbel.cell (p:=⟨bx,ox+j,none⟩) hbx]; exact hcx j hjl
   have HD:=azO (nK (Ux U) j hjl);clear hcx;generalize (Ux U)[j]=x at *;have hxl:=x.toNat_lt;obtain⟨f1,f2,f3⟩:=aah (u:=x.toNat) HVP.out hR hxl pO.out;have HF:=azO (And.intro f1 (And.intro f2 f3));have hND:x.toNat+Gg*R<Gg*V:=by
    have h1:Gg*(R+1)<=Gg*V:=aAz _ hR;rw[aBi]at h1;have:x.toNat<Gg:=hxl;omega
   have HND:=azO hND;have hRl:(Ux R).length<=n+1:=by
    have h1:=fK (aBM hR);rw[HLN.out]at h1; exact h1
   have amn:=azO (aZ HRR.out);obtain⟨ra,rc,rfl⟩:=Gn HRR.out;have Qe:=azO hbel;clear f1 f2 f3 hND hEq;go_wp2_with fail
   obtain⟨wo,rfl⟩:∃wo:World,wo=wr:=⟨_,I⟩;have axw:(((Ux R).length:Nat):Int)<=6000000:=Z
   go_loopw [14,15] (λnv kv wr=>∃i:Nat,i<=(Ux R).length∧kv = .i i∧wr.ownsRow wo.heap.size 119 1 nv (1+i) ((x::(Ux R).take i).map bn)∧Ext wo wr) (λ_ kv _=>(Ux R).length-(intOf kv).toNat)
   case atStart=>exact⟨0,azZ _,I,aB1 (base:=wo.heap.size) wo #[bn x] 1 (azS _) (by unfold maxLen; omega) I,aF _ _⟩
   case round =>
    obtain⟨i,hi,rfl,hown,hwi⟩:=hrel;have hsz:wo.heap.size<=wr.heap.size:=hwi.size;have h63:1+i+1<=maxLen:=by unfold maxLen; omega
    have hby:(1+i+1)*4<=140737488355328:=Z
    by_cases hlt:i<(Ux R).length
    .obtain⟨br,or,cr,hxs,hbr,hlr,hmr,hcr⟩:=dO amn.out I Z;simp only[aAq]at hxs;obtain⟨rfl,-,-⟩:=hxs;have hck:wr.cell? ⟨br,or+i,none⟩=some (bn (Ux R)[i]):=by rw[hwi.cell (p:=⟨br,or+i,none⟩) hbr]; exact hcr i hlt
     have HSN:Hid ((x::(Ux R).take (i+1)).map bn=(x::(Ux R).take i).map bn++[bn (Ux R)[i]]):=by show _=_; rw[take_snoc (Ux R) i hlt]; simp only[aAE,aAL,aA2,aBe]
     clear hcr;generalize (Ux R)[i]=d at *;have hr:=nM wr (bn d) 119 I;have hown':=hown.alloc (.cells #[bn d] 119);have hsz':wo.heap.size<=(wr.alloc (.cells #[bn d] 119)).heap.size:=by simp; omega
     clear hown;go_wp2_with (at_builtin; refine bP I _ _ _ I lT wo.heap.size hown' I hr I h63 hby hsz' ?_; intro v2 w2 hown2 hg)
     go_roundw
     case rel =>
      refine⟨i+1,Z,by go_num,?_,(hwi.alloc hsz _).grown hg hsz' (λk hk=>(World.ownsRow.lt hown' k hk).1)⟩;rw[HSN.out]; exact hown2
     case measure=>simp[intOf]; omega
    obtain rfl:i=(Ux R).length:=by omega
    rw[aAJ]at hown;have hrow:=oM (l:=x::Ux R) (by simp; omega) hown;have HN1:=dU _ (x::Ux R) wr hrow (by simp; omega);have eN:Zk (x::Ux R)=x.toNat+Gg*R:=by show _+_=_; rw[PV]
    rw[eN]at HN1;have HNO:=azO HN1;have HWI:=azO hwi;clear hrow HN1 eN hown hwi;generalize hNn:x.toNat+Gg*R=A03 at *;have hlX:(Ux A03).length<=n+2:=by
     apply Na.bI;have h1:=HND.out;have h2:=(UM HLN.out).2;have h3:Gg*V<Gg*Gg^(n+1):=aCE h2 Na.jY;rw[aAw Gg (Gg^(n+1)),<-aAA]at h3;exact Nat.lt_trans h1 h3
    go_wp2_with fail
    refine HNO.out.mono ?_;rintro e w6 ⟨z,rfl,hz,hb⟩;have HZ:=azO (aZ hz);have HB6:=azO (K00 HWI.out hb);have avF:=azO (K00 Qe.out HB6.out);have HOF:=abS z y (Ux A03) (Ux V) n w6 HZ.out (HY4.out.below avF.out) HLN.out (abU (Na.gI V) HLN.out) (by rw[PV,PV]; exact HND.out) Z Z;rw[PV,PV]at HOF;have amo:=azO HOF;obtain⟨D,hD⟩:∃D,A03/V=D:=⟨_,I⟩;rw[hD]at amo HF;have hDB:D<4294967296:=HF.out.2.1;clear hz hb HOF HNO hD;go_wp2_with fail
    refine amo.out.mono ?_;rintro e w7 ⟨y',rfl,hy,hb⟩;have HY7:=azO hy;have HB7:=azO (K00 HB6.out hb);have HW7:=azO (dB HW.out (K00 HB6.out hb));have avG:=azO (K00 Qe.out HB7.out);have hs6:w4.heap.size+1<=w6.heap.size:=by
     have h1:=(World.ownsRow.lt HW.out w4.heap.size I).2;have h2:=HB6.out.size;omega
    obtain⟨⟨cv,hcell⟩,hfz⟩:=qZ HW7.out j Z;have hmod:(D:Int)%4294967296=((UInt32.ofNat D).toNat:Int):=dgI D;have hst:=(HW7.out.stored j (bn (UInt32.ofNat D)));rw[aAL,aCt,Fz]at hst;have HST:=azO hst;have HDv:Hid ((UInt32.ofNat D).toNat=D):=bW hDB;generalize UInt32.ofNat D=dd at *;clear hy hb amo hst HW;go_wp2_with fail
    go_roundw
    case rel =>
     have hD':=HDv.out;subst hD';refine⟨j,A03%V,dd::q,?_,I,?_,HF.out.2.2,?_,?_,?_⟩
     .have:=HKQ.out; simp; omega
     .rw[HD.out,<-HF.out.1];rfl
     .exact ah0 (bC HY7.out hs6) Z j _
     .have:=HST.out.1;simpa[bn]using this
     exact avG.out.setCell (p:=⟨w4.heap.size,j,none⟩) (azS _) _
    case measure=>simp[intOf]
