/- Walks of the reference on -/
import Derived.Test.YtodpgjjgaddkeaaGreatDoorPk2
set_option maxRecDepth 100000
set_option maxHeartbeats 9999999
open Go renaming World->Á,Value->À,Calls->Ä
open Go.Proofs.Tryz
set_option linter.unusedVariables false
set_option linter.unusedSimpArgs false
section
namespace Go.Proofs.Pv
open Go.RowKit Na
variable{α:Type}
abbrev Fv (base:Nat)(w:Á)(v:À)(l:List UInt32):Prop:=w.ownsRow base 119 1 v l.length (l.map aU)
variable{n base V:Nat}{w:Á}{e:TypeId}{v:À}{xs:List À}
abbrev dI(v:À)(l:List UInt32)(w:Á)(hv:aF w v l)(hlen:l.length<=1000000000) :
  Ä prog 254 #[v] w λe w'=>∃v',e = .R v'∧Fv w.heap.size w' v' (LZ (Na.Pq l))∧Ext w w':=by
 obtain⟨hd,hK,hz,ht⟩:=U6 l;have hdl:(LZ (Na.Pq l)).length<=l.length:=hK;generalize hK0:(LZ (Na.Pq l)).length=K at *;have HV:=Â hv;have HD:=Â hd;have HZ:=Â hz;have HT:=Â ht;obtain⟨a,cap,rfl⟩:=hv.shape;clear hv hd hz ht hK0;go_enter func254,ntmps254
 go_wp2_with fail
 go_loop [3] (λi=>∃k:Nat,K<=k∧k<=l.length∧i = .i k) (λi=>(intOf i).toNat)
 case atStart=>exact⟨l.length,hK,Ó _,I⟩
 case round =>
  obtain⟨k,hk1,hk2,rfl⟩:=hrel;by_cases hkK:K<k
  .obtain⟨j,rfl⟩:∃j,k=j+1:=⟨k-1,Z⟩;obtain⟨b,o,c,hsv,hbb,hlc,hm,hc⟩:=dH HV.out I Z;simp only[Ĉ]at hsv;obtain⟨rfl,-,-⟩:=hsv;have hck:=hc j Z;rw[HZ.out j Z Z]at hck;clear hc;go_wp2
   go_round
   case rel=>exact⟨j,Z,Z,by go_num⟩
   case measure=>simp[intOf]
  obtain rfl:k=K:=by omega
  clear hkK hk1;obtain⟨D,HD1,Η,HG⟩:∃D:List UInt32,Hid (LZ (Na.Pq l)=D)∧Hid (D.length=k)∧Hid (∀i (h:i<D.length) (h2:i<l.length),D[i]=l[i]):=
   ⟨l.take k,HD.out,by show _=_; simp; omega,λi h h2=>by simp⟩
  have hDl:D.length<=1000000000:=by rw[Η.out]; omega
  clear HD;rcases k with _ | j;case' succ =>
   obtain⟨b,o,c,hsv,hbb,hlc,hm,hc⟩:=dH HV.out I Z;simp only[Ĉ]at hsv;obtain⟨rfl,-,-⟩:=hsv;have hck:=hc j Z;clear hc;have hzb:((l[j].toNat:Int)==0)=false:=by
    rw[ä]; intro e; exact HT.out j Z I (ř.1 (by simp; omega))
  all_goals
   go_wp2_with fail
   go_loopw [4,5] (λg i wr=>∃q:Nat,i = .i q∧q<=D.length∧wr.ownsRow w.heap.size 119 1 g q ((D.take q).map aU)∧Ext w wr) (λ_ i _=>D.length-(intOf i).toNat)
   case atStart=>exact⟨0,I,Õ _,ϒ w #[] 0 (Ó _) (Õ _) I,aH _ _⟩
   case round =>
    obtain⟨q,rfl,hq,hown,hbel⟩:=hrel
    by_cases hlt:q<D.length
    .have hlt2:=Nat.lt_of_lt_of_eq hlt Η.out
     try exact absurd hlt2 (Nat.not_lt_zero _)
     all_goals
      have hlt3:q<l.length:=Z
      obtain⟨b,o,c,hsv,hbb,hlc,hm,hc⟩:=dH HV.out I Z
      simp only[Ĉ]at hsv
      obtain⟨hsv,-,-⟩:=hsv
      first | cases hsv | skip
      have avw:wr.cell? ⟨b,o+q,none⟩=some (aU D[q]):=by rw[hbel.cell (p:=⟨b,o+q,none⟩) hbb,HG.out q hlt hlt3]; exact hc q hlt3
      clear hc
      have HS:Hid (D.take (q+1)=D.take q++[D[q]]):=take_snoc D q hlt
      have hr:=lJ wr (aU D[q]) 119 I
      have hown':=hown.alloc (.cells #[aU D[q]] 119)
      have hsz:w.heap.size<=wr.heap.size:=hbel.size
      have hsz':w.heap.size<=(wr.alloc (.cells #[aU D[q]] 119)).heap.size:=by simp; omega
      have h63:q+1<=maxLen:=by unfold maxLen; omega
      have hby:(q+1)*4<=140737488355328:=Z
      clear hown
      go_wp2_with (at_builtin; refine bD I _ _ _ I kL w.heap.size hown' I hr I h63 hby hsz' ?_; intro v2 w2 hown2 hg)
      go_roundw
      case rel =>
       refine⟨q+1,by go_num,Z,?_,(hbel.alloc hsz _).grown hg hsz' (λk hk=>(World.ownsRow.lt hown' k hk).1)⟩
       rw[HS.out,ĥ]; exact hown2
      case measure=>simp[intOf]; omega
    .obtain rfl:q=D.length:=by omega
     have hge:=ayK Η.out.symm
     rw[Ħ]at hown
     go_wp2_with fail
     go_ret
     exact⟨_,I,by rw[HD1.out]; exact hown,hbel⟩
abbrev iH(v:À)(l:List UInt32)(i:Nat)(w:Á)(hv:aF w v l)(hi:i<=9223372036854775807) :
  Ä prog 315 #[v,.i i] w λe w'=>e = .R (.int .u64 ((l.getD i 0).toNat:Int))∧w=w':=by
 obtain⟨a,cap,rfl,hm,ha⟩:=hv;have hl:=rM hm ha;have HA:=Â ha;clear ha;have h0:¬(i:Int)<0:=Z
 by_cases hlt:i<l.length
 .rcases HA.out with ⟨rfl,_⟩ | ⟨b,o,rfl,hb,hlc,hc⟩
  .simp at hlt
  have hck:=hc i hlt;clear hc;have e:l.getD i 0=l[i]:=by simp[List.getD,List.getElem?_eq_getElem hlt]
  rw[e];go_enter func315,ntmps315
  go_wp2
  go_ret
  exact⟨eX (fA _),I⟩
 have e:l.getD i 0=0:=by simp[List.getD,List.getElem?_eq_none (Nat.le_of_not_lt hlt)]
 rw[e];go_enter func315,ntmps315
 go_wp2
 go_ret
 exact⟨I,I⟩
abbrev Aj(v u:À)(l m:List UInt32)(w:Á)(hv:aF w v l)(hu:aF w u m) :
  Ä prog 317 #[v,u] w (RF w (.i (rD (Na.Pq l) (Na.Pq m)))):=by
 have hl:=hv.len;have hm:=hu.len;unfold maxLen at hl hm;have HV:=Â hv;have HU:=Â hu;obtain⟨a1,c1,rfl⟩:=hv.shape;obtain⟨a2,c2,rfl⟩:=hu.shape;clear hv hu;obtain⟨M,hM⟩:∃M,M=max l.length m.length:=⟨_,I⟩;have hmax:max (l.length:Int) (m.length:Int)=(M:Int):=Z
 have hM1:M<=9223372036854775807:=Z
 have HE:Hid (Na.Pq (l.drop M)=Na.Pq (m.drop M)):=by
  show _=_;rw[Ń Z,Ń Z]
 clear hM;go_enter func317,ntmps317
 go_wp2_with fail
 clear hmax;go_loopw [5] (λi wr=>∃k:Nat,k<=M∧i = .i ((k:Int)-1)∧Na.Pq (l.drop k)=Na.Pq (m.drop k)∧Ext w wr) (λi _=>(intOf i+1).toNat)
 case atStart=>exact⟨M,Ó _,I,HE.out,ù _ _⟩
 case round =>
  obtain⟨k,hk,rfl,hd,hbel⟩:=hrel;have HDr:=Â hd;clear hd;cases k with
  | zero =>
   have hr:=Â (Yi (show Na.Pq l=Na.Pq m from HDr.out));go_wp2_with fail
   go_ret
   exact⟨by rw[hr.out]; rfl,hbel⟩
  | succ j =>
   have hi:(((j+1:Nat):Int)-1)=(j:Int):=Z
   rw[hi];clear hi;have d0:=iH _ l j wr (HV.out.below hbel) Z;have d1:=iH _ m j wr (HU.out.below hbel) Z;have hlt:=@Na.acA l m j HDr.out;have hgt:=@Na.acA m l j HDr.out.symm;have heq:=@Na.amS l m j HDr.out;have g0:=(l.getD j 0).toNat_lt;have g1:=(m.getD j 0).toNat_lt;generalize (l.getD j 0).toNat=x at *;generalize (m.getD j 0).toNat=y at *;have D0:=Â d0;have D1:=Â d1;clear d0 d1;rcases ay3 x y with h | h | h
   .have hr:=Â (yH (hlt h));have h':(x:Int)<y:=Z
    clear hlt hgt heq h;go_wp2_with fail
    refine D0.out.mono ?_;rintro e w' ⟨rfl,rfl⟩;go_wp2_with fail
    refine D1.out.mono ?_;rintro e w' ⟨rfl,rfl⟩;go_wp2_with fail
    go_ret
    exact⟨by rw[hr.out]; rfl,hbel⟩
   .have HQ:=Â (heq h);have h1':¬(x:Int)<y:=Z
    have h2':¬(y:Int)<x:=Z
    clear hlt hgt heq h;go_wp2_with fail
    refine D0.out.mono ?_;rintro e w' ⟨rfl,rfl⟩;go_wp2_with fail
    refine D1.out.mono ?_;rintro e w' ⟨rfl,rfl⟩;go_wp2_with fail
    refine D0.out.mono ?_;rintro e w' ⟨rfl,rfl⟩;go_wp2_with fail
    refine D1.out.mono ?_;rintro e w' ⟨rfl,rfl⟩;go_wp2_with fail
    go_roundw
    case rel=>exact⟨j,Z,I,HQ.out,hbel⟩
    case measure=>simp[intOf]
   have hr:=Â (Gm (hgt h));have h1':¬(x:Int)<y:=Z
   have h2':(y:Int)<x:=Z
   clear hlt hgt heq h;go_wp2_with fail
   refine D0.out.mono ?_;rintro e w' ⟨rfl,rfl⟩;go_wp2_with fail
   refine D1.out.mono ?_;rintro e w' ⟨rfl,rfl⟩;go_wp2_with fail
   refine D0.out.mono ?_;rintro e w' ⟨rfl,rfl⟩;go_wp2_with fail
   refine D1.out.mono ?_;rintro e w' ⟨rfl,rfl⟩;go_wp2_with fail
   go_ret
   exact⟨by rw[hr.out]; rfl,hbel⟩
abbrev dgI(n:Nat):(n:Int)%4294967296=((UInt32.ofNat n).toNat:Int):=by simp
abbrev dvI(n:Nat):(n:Int)/4294967296=((n/Na.JH:Nat):Int):=by simp[Na.JH]
abbrev nV{f:α->À}{l:List α}(hn:l.length=n)(h:w.ownsRow base e 1 v n (l.map f)):dJ f w v l:=by
 subst hn; exact aS h
abbrev abz:Na.JH=4294967296:=rfl
abbrev Vg(v u:À)(l m:List UInt32)(w:Á)(hv:aF w v l)(hu:aF w u m)(hl:l.length<=100000000)(hm:m.length<=100000000) :
  Ä prog 288 #[v,u] w λe w'=>∃v',e = .R v'∧Fv w.heap.size w' v' (LZ (Na.Pq l+Na.Pq m))∧Ext w w':=by
 have HV:=Â hv;have HU:=Â hu;obtain⟨a1,c1,rfl⟩:=hv.shape;obtain⟨a2,c2,rfl⟩:=hu.shape;clear hv hu;obtain⟨M,hM⟩:∃M,M=max l.length m.length:=⟨_,I⟩;have hmax:max (l.length:Int) (m.length:Int)=(M:Int):=Z
 have hM1:M<=100000000:=Z
 have HE:Hid (Na.Pq (l.take M)=Na.Pq l∧Na.Pq (m.take M)=Na.Pq m):=by
  constructor
  .rw[Ĝ Z]
  rw[Ĝ Z]
 clear hM;go_enter func288,ntmps288
 go_wp2_with fail
 go_loopw [5,6,7,8] (λg cv iv _ wr=>∃(i c:Nat) (out:List UInt32),i<=M∧iv = .i i∧cv = .int .u64 c∧c<=1∧out.length=i∧Na.Pq out+Na.JH^i*c=Na.Pq (l.take i)+Na.Pq (m.take i) ∧
  wr.ownsRow w.heap.size 119 1 g i (out.map aU)∧Ext w wr) (λ_ _ iv _ _=>M-(intOf iv).toNat)
 case atStart=>exact⟨0,0,[],Õ _,I,I,Z,I,by simp[Na.Pq],ϒ w #[] 0 (Ó _) (Õ _) I,aH _ _⟩
 case round =>
  obtain⟨i,c,out,hi,rfl,rfl,hc,hol,hval,hown,hbel⟩:=hrel;have HOL:=Â hol;have nR:=Â hval;have hsz:w.heap.size<=wr.heap.size:=hbel.size;have h63:i+1<=maxLen:=by unfold maxLen; omega
  have hby:(i+1)*4<=140737488355328:=Z
  clear hol hval;by_cases hlt:i<M
  .have d0:=iH _ l i wr (HV.out.below hbel) Z;have d1:=iH _ m i wr (HU.out.below hbel) Z;have g0:=(l.getD i 0).toNat_lt;have g1:=(m.getD i 0).toNat_lt;have t0:=iI l i;have t1:=iI m i;generalize (l.getD i 0).toNat=x at *;generalize (m.getD i 0).toNat=y at *;have D0:=Â d0;have D1:=Â d1;have T0:=Â t0;have T1:=Â t1;obtain⟨n,hn⟩:∃n,n=x+y+c:=⟨_,I⟩;have hmod:((x:Int)+y+c)%4294967296=((UInt32.ofNat n).toNat:Int):=by rw[<-dgI,hn]; simp
   have hdiv:((x:Int)+y+c)/4294967296=((n/Na.JH:Nat):Int):=by rw[<-dvI,hn]; simp
   have hc':n/Na.JH<=1:=by rw[hn,abz]; omega
   have HN:=Â hn;have HST:=Â (Na.step_up HOL.out nR.out hn);generalize hq:n/Na.JH=c' at *;obtain⟨d,hd⟩:∃d,UInt32.ofNat n=d:=⟨_,I⟩;rw[hd]at hmod HST;have hr:=lJ wr (aU d) 119 I;have hown':=hown.alloc (.cells #[aU d] 119);have hsz':w.heap.size<=(wr.alloc (.cells #[aU d] 119)).heap.size:=by simp; omega
   clear hown d0 d1 t0 t1 hn hq hd;go_wp2_with fail
   refine D0.out.mono ?_;rintro e w' ⟨rfl,rfl⟩;go_wp2_with fail
   refine D1.out.mono ?_;rintro e w' ⟨rfl,rfl⟩;go_wp2_with (at_builtin; refine bD I _ _ _ I kL w.heap.size hown' I hr I h63 hby hsz' ?_; intro v2 w2 hown2 hg)
   go_roundw
   case rel =>
    refine⟨i+1,c',out++[d],Z,by go_num,I,hc',by simp[HOL.out],?_,by rw[ĥ]; exact hown2,(hbel.alloc hsz _).grown hg hsz' (λk hk=>(World.ownsRow.lt hown' k hk).1)⟩;rw[HST.out,T0.out,T1.out,õ]; omega
   case measure=>simp[intOf]; omega
  obtain rfl:i=M:=by omega
  obtain⟨d,rfl⟩:∃d:UInt32,c=d.toNat:=⟨UInt32.ofNat c,(bJ Z).symm⟩;have hdl:=d.toNat_lt;have hdm:(d.toNat:Int)%4294967296=(d.toNat:Int):=Z
  have HD:Hid (Na.Pq (out++[d])=Na.Pq l+Na.Pq m):=by
   show _=_;rw[Na.iY,HOL.out,nR.out,HE.out.1,HE.out.2]
  have Η:Hid ((out++[d]).length=i+1):=by show _=_; simp[HOL.out]
  have HMM:Hid ((out++[d]).map aU=out.map aU++[aU d]):=by show _=_; simp
  have hr:=lJ wr (aU d) 119 I;have hown':=hown.alloc (.cells #[aU d] 119);have hsz':w.heap.size<=(wr.alloc (.cells #[aU d] 119)).heap.size:=by simp; omega
  clear hown;go_wp2_with (at_builtin; refine bD I _ _ _ I kL w.heap.size hown' I hr I h63 hby hsz' ?_; intro v2 w2 hown2 hg)
  have hb2:=(hbel.alloc hsz _).grown hg hsz' (λk hk=>(World.ownsRow.lt hown' k hk).1);have HR:=Â (dI v2 (out++[d]) w2 (aS (by rw[Η.out,HMM.out]; exact hown2)) (by rw[Η.out]; omega));rw[HD.out]at HR;have HB2:=Â hb2;clear hown2 hg hb2;go_wp2_with fail
  refine HR.out.mono ?_;rintro e w' ⟨v',rfl,ho,hb⟩;have HO:=Â (bK ho HB2.out.size);have HB:=Â (Ã HB2.out hb);clear ho hb;go_wp2_with fail
  go_ret
  exact⟨_,I,HO.out,HB.out⟩
abbrev PY(v:À)(l:List UInt32)(D:Nat)(w:Á)(hv:aF w v l)(hD:D<4294967296)(hl:l.length<=100000000) :
  Ä prog 316 #[v,.int .u64 D] w λe w'=>∃v',e = .R v'∧Fv w.heap.size w' v' (LZ (Na.Pq l*D))∧Ext w w':=by
 have HV:=Â hv;obtain⟨a1,c1,rfl⟩:=hv.shape;clear hv;go_enter func316,ntmps316
 go_wp2_with fail
 go_loopw [5,6,7,8] (λg cv iv _ wr=>∃(i c:Nat) (out:List UInt32),i<=l.length∧iv = .i i∧cv = .int .u64 c∧c<4294967296∧out.length=i∧Na.Pq out+Na.JH^i*c=Na.Pq (l.take i)*D ∧
  wr.ownsRow w.heap.size 119 1 g i (out.map aU)∧Ext w wr) (λ_ _ iv _ _=>l.length-(intOf iv).toNat)
 case atStart=>exact⟨0,0,[],Õ _,I,I,Z,I,by simp[Na.Pq],ϒ w #[] 0 (Ó _) (Õ _) I,aH _ _⟩
 case round =>
  obtain⟨i,c,out,hi,rfl,rfl,hc,hol,hval,hown,hbel⟩:=hrel;have HOL:=Â hol;have nR:=Â hval;have hsz:w.heap.size<=wr.heap.size:=hbel.size;have h63:i+1<=maxLen:=by unfold maxLen; omega
  have hby:(i+1)*4<=140737488355328:=Z
  clear hol hval;by_cases hlt:i<l.length
  .obtain⟨bx,ox,cx,hxs,hbx,hlx,hmx,hcx⟩:=dH HV.out I Z;simp only[Ĉ]at hxs;obtain⟨rfl,-,-⟩:=hxs;have hck:wr.cell? ⟨bx,ox+i,none⟩=some (aU l[i]):=by rw[hbel.cell (p:=⟨bx,ox+i,none⟩) hbx]; exact hcx i hlt
   clear hcx;have T0:=Â (Na.bT l i hlt);generalize l[i]=x at *;have g0:=x.toNat_lt;have x0:=fA x;obtain⟨t,ht⟩:∃t,t=x.toNat*D:=⟨_,I⟩;have hmul:IntKind.u64.wrap ((x.toNat:Int)*(D:Int))=(t:Int):=by
    have h1:x.toNat*D<=4294967295*4294967295:=Μ Z Z;rw[ht,<-iC (x.toNat*D) Z]; simp
   have htb:t<=18446744065119617025:=by rw[ht]; exact Μ (show x.toNat<=4294967295 by omega) (show D<=4294967295 by omega)
   obtain⟨n,hn⟩:∃n,n=t+c:=⟨_,I⟩;have hsum:IntKind.u64.wrap ((t:Int)+(c:Int))=(n:Int):=by rw[hn,<-iC (t+c) Z]; simp
   have hnb:n<18446744073709551616:=Z
   have hmod:(n:Int)%4294967296=((UInt32.ofNat n).toNat:Int):=dgI n;have hdiv:(n:Int)/4294967296=((n/Na.JH:Nat):Int):=dvI n;have hc':n/Na.JH<4294967296:=ϓ hnb;have HST:=Â (Na.step_up HOL.out nR.out hn);rw[ht]at HST;generalize hq:n/Na.JH=c' at *;obtain⟨d,hd⟩:∃d,UInt32.ofNat n=d:=⟨_,I⟩;rw[hd]at hmod HST;have hr:=lJ wr (aU d) 119 I;have hown':=hown.alloc (.cells #[aU d] 119);have hsz':w.heap.size<=(wr.alloc (.cells #[aU d] 119)).heap.size:=by simp; omega
   clear hown hn hq hd ht hnb;go_wp2_with (at_builtin; refine bD I _ _ _ I kL w.heap.size hown' I hr I h63 hby hsz' ?_; intro v2 w2 hown2 hg)
   go_roundw
   case rel =>
    refine⟨i+1,c',out++[d],Z,by go_num,I,hc',by simp[HOL.out],?_,by rw[ĥ]; exact hown2,(hbel.alloc hsz _).grown hg hsz' (λk hk=>(World.ownsRow.lt hown' k hk).1)⟩;rw[HST.out,T0.out,Œ,ğ]
   case measure=>simp[intOf]; omega
  obtain rfl:i=l.length:=by omega
  obtain⟨d,rfl⟩:∃d:UInt32,c=d.toNat:=⟨UInt32.ofNat c,(bJ Z).symm⟩;have hdl:=d.toNat_lt;have hdm:(d.toNat:Int)%4294967296=(d.toNat:Int):=Z
  have HD:Hid (Na.Pq (out++[d])=Na.Pq l*D):=by
   show _=_;rw[Na.iY,HOL.out,nR.out,Ħ]
  have Η:Hid ((out++[d]).length=l.length+1):=by show _=_; simp[HOL.out]
  have HMM:Hid ((out++[d]).map aU=out.map aU++[aU d]):=by show _=_; simp
  have hr:=lJ wr (aU d) 119 I;have hown':=hown.alloc (.cells #[aU d] 119);have hsz':w.heap.size<=(wr.alloc (.cells #[aU d] 119)).heap.size:=by simp; omega
  clear hown;go_wp2_with (at_builtin; refine bD I _ _ _ I kL w.heap.size hown' I hr I h63 hby hsz' ?_; intro v2 w2 hown2 hg)
  have hb2:=(hbel.alloc hsz _).grown hg hsz' (λk hk=>(World.ownsRow.lt hown' k hk).1);have HR:=Â (dI v2 (out++[d]) w2 (aS (by rw[Η.out,HMM.out]; exact hown2)) (by rw[Η.out]; omega));rw[HD.out]at HR;have HB2:=Â hb2;clear hown2 hg hb2;go_wp2_with fail
  refine HR.out.mono ?_;rintro e w' ⟨v',rfl,ho,hb⟩;have HO:=Â (bK ho HB2.out.size);have HB:=Â (Ã HB2.out hb);clear ho hb;go_wp2_with fail
  go_ret
  exact⟨_,I,HO.out,HB.out⟩
abbrev Zx{A C E U7 o:Nat}(h:A+E*U7=o+C)(hle:C<=A)(ho:o<E):o=A-C:=by
 rcases ę U7 with h0 | h0
 .subst h0; omega
 have:E*1<=E*U7:=ĝ _ h0;omega
abbrev Ak(v u:À)(l m:List UInt32)(w:Á)(hv:aF w v l)(hu:aF w u m)(hl:l.length<=100000000)(hle:Na.Pq m<=Na.Pq l) :
  Ä prog 289 #[v,u] w λe w'=>∃v',e = .R (.tuple #[v',.b true])∧Fv w.heap.size w' v' (LZ (Na.Pq l-Na.Pq m))∧Ext w w':=by
 have HV:=Â hv;have HU:=Â hu;have HC:=Â (Aj v u l m w hv hu);obtain⟨a1,c1,rfl⟩:=hv.shape;obtain⟨a2,c2,rfl⟩:=hu.shape;have hcp:¬rD (Na.Pq l) (Na.Pq m)<0:=by
  unfold rD; rw[É Z]; split<;>omega
 generalize rD (Na.Pq l) (Na.Pq m)=C at *;have HLE:=Â hle;clear hv hu hle;go_enter func289,ntmps289
 go_wp2_with fail
 refine HC.out.mono ?_;rintro e w1 ⟨rfl,hb1⟩;have HB1:=Â hb1;have hs1:=hb1.size;clear hb1 HC;go_wp2_with fail
 clear hcp;go_loopw [6,7,8,9] (λg cv iv _ wr=>∃(i c:Nat) (out:List UInt32),i<=l.length∧iv = .i i∧cv = .int .u64 c∧c<=1∧out.length=i∧Na.Pq (l.take i)+Na.JH^i*c=Na.Pq out+Na.Pq (m.take i) ∧
  wr.ownsRow w.heap.size 119 1 g i (out.map aU)∧Ext w wr) (λ_ _ iv _ _=>l.length-(intOf iv).toNat)
 case atStart=>exact⟨0,0,[],Õ _,I,I,Z,I,by simp[Na.Pq],ϒ w1 #[] 0 hs1 (Õ _) I,Ã HB1.out (aH _ _)⟩
 case round =>
  obtain⟨i,c,out,hi,rfl,rfl,hc,hol,hval,hown,hbel⟩:=hrel;have HOL:=Â hol;have nR:=Â hval;have hsz:w.heap.size<=wr.heap.size:=hbel.size;have h63:i+1<=maxLen:=by unfold maxLen; omega
  have hby:(i+1)*4<=140737488355328:=Z
  clear hol hval;by_cases hlt:i<l.length
  .have d0:=iH _ l i wr (HV.out.below hbel) Z;have d1:=iH _ m i wr (HU.out.below hbel) Z;have g0:=(l.getD i 0).toNat_lt;have g1:=(m.getD i 0).toNat_lt;have t0:=iI l i;have t1:=iI m i;generalize (l.getD i 0).toNat=x at *;generalize (m.getD i 0).toNat=y at *;have D0:=Â d0;have D1:=Â d1;have T0:=Â t0;have T1:=Â t1;obtain⟨n,hn⟩:∃n,n=4294967296+x-y-c:=⟨_,I⟩;have hmod:((4294967296:Int)+x-y-c)%4294967296=((UInt32.ofNat n).toNat:Int):=by rw[<-dgI,hn]; omega
   have hdiv:((4294967296:Int)+x-y-c)/4294967296=((n/Na.JH:Nat):Int):=by rw[<-dvI,hn]; omega
   have hq1:n/Na.JH<=1:=by rw[hn,abz]; omega
   have ajp:x+Na.JH*(1-n/Na.JH)=n%Na.JH+y+c:=by rw[hn,abz]; omega
   have HST:=Â (ZO HOL.out nR.out ajp);generalize n/Na.JH=q at *;obtain⟨d,hd⟩:∃d,UInt32.ofNat n=d:=⟨_,I⟩;rw[hd]at hmod HST;have hq2:(1:Int)-(q:Int)=((1-q:Nat):Int):=Z
   have hr:=lJ wr (aU d) 119 I;have hown':=hown.alloc (.cells #[aU d] 119);have hsz':w.heap.size<=(wr.alloc (.cells #[aU d] 119)).heap.size:=by simp; omega
   have tH:=Â hq2;clear hown d0 d1 t0 t1 hn hd ajp hq2;go_wp2_with fail
   refine D0.out.mono ?_;rintro e w' ⟨rfl,rfl⟩;go_wp2_with fail
   refine D1.out.mono ?_;rintro e w' ⟨rfl,rfl⟩;go_wp2_with (at_builtin; refine bD I _ _ _ I kL w.heap.size hown' I hr I h63 hby hsz' ?_; intro v2 w2 hown2 hg)
   go_roundw
   case rel =>
    refine⟨i+1,1-q,out++[d],Z,by go_num,by rw[tH.out],Z,by simp[HOL.out],?_,by rw[ĥ]; exact hown2,(hbel.alloc hsz _).grown hg hsz' (λk hk=>(World.ownsRow.lt hown' k hk).1)⟩;rw[T0.out,T1.out,HST.out]
   case measure=>simp[intOf]; omega
  obtain rfl:i=l.length:=by omega
  have hml:Na.Pq (m.take l.length)=Na.Pq m:=uU (ayQ HLE.out (Na.dV l));have HD:Hid (Na.Pq out=Na.Pq l-Na.Pq m):=by
   have h:=nR.out;rw[Ħ,hml]at h;exact Zx h HLE.out (by have:=Na.dV out; rw[HOL.out]at this; exact this)
  have hrow:=nV HOL.out hown;have HR:=Â (dI _ out wr hrow (by rw[HOL.out]; omega));rw[HD.out]at HR;have HB2:=Â hbel;clear hown hbel hml hrow;go_wp2_with fail
  refine HR.out.mono ?_;rintro e w' ⟨v',rfl,ho,hb⟩;have HO:=Â (bK ho HB2.out.size);have HB:=Â (Ã HB2.out hb);clear ho hb;go_wp2_with fail
  go_ret2
  exact⟨_,I,HO.out,HB.out⟩
abbrev abA(v u:À)(l m:List UInt32)(n:Nat)(w:Á)(hv:aF w v l)(hu:aF w u m)(hm:m.length=n+1)(aop:0<(m.getD n 0).toNat)(hlt:Na.Pq l<Na.JH*Na.Pq m)(hl:l.length<=100000000)(hn:n<=10000000) :
  Ä prog 287 #[v,u] w λe w'=>∃v',e = .R (.tuple #[.int .u64 ((Na.Pq l/Na.Pq m:Nat):Int),v'])∧Fv w.heap.size w' v' (LZ (Na.Pq l%Na.Pq m))∧Ext w w':=by
 have HV:=Â hv;have HU:=Â hu;obtain⟨a1,c1,rfl⟩:=hv.shape;obtain⟨bx,ox,cx,rfl,hbx,hlx,hmx,hcx⟩:=dH hu hm Z;have e:m.getD n 0=m[n]'Z:=by simp[List.getD,List.getElem?_eq_getElem (show n<m.length by omega)]
 have D1:Hid (∀nq,Ä prog 315 #[.s a1 l.length c1,.i ((n:Int)+1)] (w.drewN nq) λe w'=>e = .R (.int .u64 ((l.getD (n+1) 0).toNat:Int))∧w'=w.drewN nq):=λnq =>
  (iH _ l (n+1) _ (HV.out.below (below_drewN (ù _ _) nq)) Z).mono λ_ _ h=>⟨h.1,h.2.symm⟩
 have D0:Hid (∀nq,Ä prog 315 #[.s a1 l.length c1,.i n] (w.drewN nq) λe w'=>e = .R (.int .u64 ((l.getD n 0).toNat:Int))∧w'=w.drewN nq):=λnq =>
  (iH _ l (n) _ (HV.out.below (below_drewN (ù _ _) nq)) Z).mono λ_ _ h=>⟨h.1,h.2.symm⟩
 obtain⟨amk,aoq,Ϛ⟩:=U8 hm aop hlt;rw[e]at amk aop;have hml:Na.Pq m<Na.JH^(n+1):=by have:=Na.dV m; rw[hm]at this; exact this
 have hck:=hcx n Z;generalize m[n]'Z=t at *;have g0:=(l.getD n 0).toNat_lt;have g1:=(l.getD (n+1) 0).toNat_lt;generalize (l.getD n 0).toNat=x0 at *;generalize (l.getD (n+1) 0).toNat=x1 at *;obtain⟨T1,hT1⟩:∃T1,T1=x1*4294967296:=⟨_,I⟩;obtain⟨T,hT⟩:∃T,T=T1+x0:=⟨_,I⟩;obtain⟨q,hq⟩:∃q,q=T/t.toNat:=⟨_,I⟩;have k1:IntKind.i64.wrap (n:Int)=(n:Int):=IntWalk.i64_in _ Z;have k2:IntKind.u64.wrap ((x1:Int)*4294967296)=(T1:Int):=by rw[Ŏ,hT1]; omega
 have k3:IntKind.u64.wrap ((T1:Int)+(x0:Int))=(T:Int):=by rw[Ŏ,hT]; omega
 have k4:=fA t;have k5:(T:Int).tdiv (t.toNat:Int)=(q:Int):=by rw[acD,hq]
 have k6:IntKind.u64.wrap (q:Int)=(q:Int):=by
  have:q<=T:=by rw[hq]; exact ϔ _ _
  rw[Ŏ]; omega
 have k7:((t.toNat:Int)==0)=false:=by rw[ä]; omega
 rw[<-hT1,<-hT,<-hq]at amk;obtain⟨d0,hd0⟩:∃d0,d0=min q 4294967295:=⟨_,I⟩;have k8:min (q:Int) 4294967295=(d0:Int):=Z
 have aor:d0<4294967296:=Z
 have hd1:Na.Pq l/Na.Pq m<=d0:=Z
 have HQ:=Â hq;have HT:=Â hT;have HT1:=Â hT1;have HLT:=Â hlt;have HD1:=Â hd1;have HML:=Â hml;have HVP:=Â Ϛ;clear hv hu hcx e hT1 hT hq amk aoq hd0 hd1 hlt hml Ϛ HQ HT HT1;go_enter func287,ntmps287
 go_wp2_with fail
 have K8:=Â k8;clear k8;go_quiet ((first | with_reducible exact Calls.quiet_of_same (D1.out _) | with_reducible exact Calls.quiet_of_same (D0.out _)))
 clear k1 k2 k3 k4 k5 k6 k7;have k8:=K8.out;go_wp2_with fail
 clear k8;refine(PY _ m d0 _ (HU.out.below (below_drewN (ù _ _) nq)) aor Z).mono ?_;rintro e w1 ⟨p,rfl,ho,hb⟩;have HB:=Â (Ã (below_drewN (ù w.heap.size w) nq) hb);have HP:=Â (aS ho);clear ho hb;go_wp2_with fail
 go_loopw [8,9] (λdv p wr=>∃d:Nat,dv = .int .u64 d∧d<4294967296∧Na.Pq l/Na.Pq m<=d∧aF wr p (LZ (Na.Pq m*d))∧Ext w wr) (λdv _ _=>(intOf dv).toNat)
 case atStart=>exact⟨d0,I,aor,HD1.out,HP.out,HB.out⟩
 case round =>
  obtain⟨d,rfl,hd,Xf,hp,hbel⟩:=hrel;have hlen:(LZ (Na.Pq m*d)).length<=n+2:=by
   apply Na.dn;rw[Ğ];exact Nat.mul_lt_mul'' HML.out hd
  have HC:=Â (Aj _ _ _ _ wr hp (HV.out.below hbel));rw[L6]at HC;by_cases h:Na.Pq l<Na.Pq m*d
  .obtain⟨f1,f2,f3,f4⟩:=ZP Xf h HVP.out;rw[Gm h]at HC;have HS:=Â (λw1 (h1:Ext wr w1)=>Ak _ _ _ _ w1 (hp.below h1) (HU.out.below (Ã hbel h1)) Z (by rw[L6]; exact f4));rw[L6,f3]at HS;have hdz:1<=d:=f1;have hd1:((d-1:Nat):Int)=(d:Int)-1:=Z
   have HD1:=Â hd1;have HF2:=Â f2;have PZ:=Â hbel;clear hp hbel Xf f1 f2 f3 f4 h hd1 hlen;go_wp2_with fail
   refine HC.out.mono ?_;rintro e w2 ⟨rfl,hb2⟩;have HS2:=Â (HS.out w2 hb2);have HB2:=Â (Ã PZ.out hb2);clear hb2 HS HC;go_wp2_with fail
   refine HS2.out.mono ?_;rintro e w3 ⟨p',rfl,ho,hb3⟩;have HO:=Â (aS ho);have HB3:=Â (Ã HB2.out hb3);clear ho hb3 HS2;go_wp2_with fail
   go_roundw
   case rel=>exact⟨d-1,by rw[HD1.out],Z,HF2.out,HO.out,HB3.out⟩
   case measure=>simp[intOf]; omega
  have hle:Na.Pq m*d<=Na.Pq l:=Z
  obtain⟨f1,f2⟩:=U9 Xf hle HVP.out;have hcp:¬(0:Int)<rD (Na.Pq m*d) (Na.Pq l):=by
   unfold rD; rw[É h]; split<;>omega
  have HS:=Â (λw1 (h1:Ext wr w1)=>Ak _ _ _ _ w1 (HV.out.below (Ã hbel h1)) (hp.below h1) hl (by rw[L6]; exact hle));rw[L6,f2]at HS;have HF1:=Â f1;have PZ:=Â hbel;generalize rD (Na.Pq m*d) (Na.Pq l)=cc at *;clear hp hbel Xf f1 f2 h hle hlen;go_wp2_with fail
  refine HC.out.mono ?_;rintro e w2 ⟨rfl,hb2⟩;have HS2:=Â (HS.out w2 hb2);have HB2:=Â (Ã PZ.out hb2);clear hb2 HS HC;go_wp2_with fail
  refine HS2.out.mono ?_;rintro e w3 ⟨p',rfl,ho,hb3⟩;have HO:=Â (bK ho HB2.out.size);have HB3:=Â (Ã HB2.out hb3);clear ho hb3 HS2;go_wp2_with fail
  go_ret2
  exact⟨_,by rw[<-HF1.out]; rfl,HO.out,HB3.out⟩
abbrev GU{size:Nat}(h:w.ownsRow base e size v n xs):∃a cap,v = .s a n cap:=by
 rcases h.2 with ⟨hv,h0⟩ | ⟨g,cap,cur,hv,_⟩
 .exact⟨none,0,by rw[hv,h0]⟩
 exact⟨_,cap,hv⟩
abbrev abB(v:À)(l:List UInt32)(p:Nat)(w:Á)(hv:aF w v l)(hp:p<=31)(hl:l.length<=100000000) :
  Ä prog 314 #[v,.i p] w λe w'=>∃v',e = .R v'∧Fv w.heap.size w' v' (LZ (Na.Pq l*2^p))∧Ext w w':=by
 have HV:=Â hv;obtain⟨a1,c1,rfl⟩:=hv.shape;clear hv;have ZV:(p:Int)/32=0:=Z
 have acG:(p:Int)%32=(p:Int):=Z
 have asq:0<=maxLen:=Õ _;have asr:4*0<=281474976710656:=Z
 have hP:2^p<=2147483648:=ĸ (n:=2) Z hp;have hP0:=œ p;go_enter func314,ntmps314
 go_wp2_with (at_make; refine wpList_make_row I _ _ _ I kL I w.heap.size 0 I I I asr asq (Ó _) ?_; intro w1 hown hg)
 have hb1:=fU (ù w.heap.size w) hg (Ó _);have HO:=Â hown;clear hg hown;go_loopw [5,6,7,8] (λg cv iv _ wr=>∃(i c:Nat) (out:List UInt32),i<=l.length∧iv = .i i∧cv = .int .u64 c∧c<2^p∧out.length=i∧Na.Pq out+Na.JH^i*c=Na.Pq (l.take i)*2^p ∧
  wr.ownsRow w.heap.size 119 1 g i (out.map aU)∧Ext w wr) (λ_ _ iv _ _=>l.length-(intOf iv).toNat)
 case atStart=>exact⟨0,0,[],Õ _,I,I,hP0,I,by simp[Na.Pq],HO.out,hb1⟩
 case round =>
  obtain⟨i,c,out,hi,rfl,rfl,hc,hol,hval,hown,hbel⟩:=hrel;have HOL:=Â hol;have nR:=Â hval;have hsz:w.heap.size<=wr.heap.size:=hbel.size;have h63:i+1<=maxLen:=by unfold maxLen; omega
  have hby:(i+1)*4<=140737488355328:=Z
  have hc32:c<4294967296:=Z
  clear hol hval HO;by_cases hlt:i<l.length
  .obtain⟨bx,ox,cx,hxs,hbx,hlx,hmx,hcx⟩:=dH HV.out I Z;simp only[Ĉ]at hxs;obtain⟨rfl,-,-⟩:=hxs;have hck:wr.cell? ⟨bx,ox+i,none⟩=some (aU l[i]):=by rw[hbel.cell (p:=⟨bx,ox+i,none⟩) hbx]; exact hcx i hlt
   clear hcx;have T0:=Â (Na.bT l i hlt);generalize l[i]=x at *;have g0:=x.toNat_lt;have x0:=fA x;obtain⟨t,ht⟩:∃t,t=x.toNat*2^p:=⟨_,I⟩;have ht1:t<=4294967295*2^p:=by rw[ht]; exact ő _ Z
   have hmul:IntKind.u64.wrap ((x.toNat:Int)*2^p)=(t:Int):=by
    rw[ht,<-iC (x.toNat*2^p) Z]; simp
   obtain⟨n,hn⟩:∃n,n=t+c:=⟨_,I⟩;have hsum:IntKind.u64.wrap ((t:Int)+(c:Int))=(n:Int):=by rw[hn,<-iC (t+c) Z]; simp
   have hmod:(n:Int)%4294967296=((UInt32.ofNat n).toNat:Int):=dgI n;have hdiv:(n:Int)/4294967296=((n/Na.JH:Nat):Int):=dvI n;have hc':n/Na.JH<2^p:=ϓ (by rw[abz]; omega);have HST:=Â (Na.step_up HOL.out nR.out hn);rw[ht]at HST;generalize hq:n/Na.JH=c' at *;obtain⟨d,hd⟩:∃d,UInt32.ofNat n=d:=⟨_,I⟩;rw[hd]at hmod HST;have hr:=lJ wr (aU d) 119 I;have hown':=hown.alloc (.cells #[aU d] 119);have hsz':w.heap.size<=(wr.alloc (.cells #[aU d] 119)).heap.size:=by simp; omega
   clear hown hn hq hd ht ht1 ZV;go_wp2_with (at_builtin; refine bD I _ _ _ I kL w.heap.size hown' I hr I h63 hby hsz' ?_; intro v2 w2 hown2 hg)
   go_roundw
   case rel =>
    refine⟨i+1,c',out++[d],Z,by go_num,I,hc',by simp[HOL.out],?_,by rw[ĥ]; exact hown2,(hbel.alloc hsz _).grown hg hsz' (λk hk=>(World.ownsRow.lt hown' k hk).1)⟩;rw[HST.out,T0.out,Œ,ğ]
   case measure=>simp[intOf]; omega
  obtain rfl:i=l.length:=by omega
  obtain⟨d,rfl⟩:∃d:UInt32,c=d.toNat:=⟨UInt32.ofNat c,(bJ Z).symm⟩;have hdl:=d.toNat_lt;have hdm:(d.toNat:Int)%4294967296=(d.toNat:Int):=Z
  have HD:Hid (Na.Pq (out++[d])=Na.Pq l*2^p):=by
   show _=_;rw[Na.iY,HOL.out,nR.out,Ħ]
  have Η:Hid ((out++[d]).length=l.length+1):=by show _=_; simp[HOL.out]
  have HMM:Hid ((out++[d]).map aU=out.map aU++[aU d]):=by show _=_; simp
  have hr:=lJ wr (aU d) 119 I;have hown':=hown.alloc (.cells #[aU d] 119);have hsz':w.heap.size<=(wr.alloc (.cells #[aU d] 119)).heap.size:=by simp; omega
  clear hown;go_wp2_with (at_builtin; refine bD I _ _ _ I kL w.heap.size hown' I hr I h63 hby hsz' ?_; intro v2 w2 hown2 hg)
  have hb2:=(hbel.alloc hsz _).grown hg hsz' (λk hk=>(World.ownsRow.lt hown' k hk).1);have HR:=Â (dI v2 (out++[d]) w2 (aS (by rw[Η.out,HMM.out]; exact hown2)) (by rw[Η.out]; omega));rw[HD.out]at HR;have HB2:=Â hb2;clear hown2 hg hb2;go_wp2_with fail
  refine HR.out.mono ?_;rintro e w' ⟨v',rfl,ho,hb⟩;have HO:=Â (bK ho HB2.out.size);have HB:=Â (Ã HB2.out hb);clear ho hb;go_wp2_with fail
  go_ret
  exact⟨_,I,HO.out,HB.out⟩
abbrev tu(v:À)(l:List UInt32)(p:Nat)(w:Á)(hv:aF w v l)(hp:p<=31)(hl:l.length<=100000000) :
  Ä prog 286 #[v,.i p] w λe w'=>∃v',e = .R v'∧Fv w.heap.size w' v' (LZ (Na.Pq l*2^p))∧Ext w w':=by
 have HC:=Â (abB v l p w hv hp hl);obtain⟨a1,c1,rfl⟩:=hv.shape;clear hv;have hmin:min (p:Int) 4096=(p:Int):=Z
 have h0:(0:Int)<=(p:Int):=Z
 go_enter func286,ntmps286
 go_wp2_with fail
 refine HC.out.mono ?_;rintro e w' ⟨v',rfl,ho,hb⟩;have HO:=Â ho;have HB:=Â hb;clear ho hb;go_wp2_with fail
 go_ret
 exact⟨_,I,HO.out,HB.out⟩
abbrev Lh(v:À)(l:List UInt32)(p:Nat)(w:Á)(hv:aF w v l)(hp:0<p)(hp2:p<=31)(hl:l.length<=100000000) :
  Ä prog 286 #[v,.i (-(p:Int))] w λe w'=>∃v',e = .R v'∧Fv w.heap.size w' v' (LZ (Na.Pq l/2^p))∧Ext w w':=by
 have HV:=Â hv;obtain⟨a1,c1,rfl⟩:=hv.shape;clear hv;have hneg:¬(0:Int) <= -(p:Int):=Z
 by_cases h0:l.length=0
 .obtain rfl:l=[]:=Ŝ h0;have hlt : -(p:Int)<0:=Z
  clear h0;go_enter func286,ntmps286
  go_wp2_with fail
  go_ret
  refine⟨_,I,?_,aH _ _⟩;rw[show LZ (Na.Pq []/2^p)=[] by simp[Na.Pq,LZ,Na.kU]];exact ϒ w #[] 0 (Ó _) (Õ _) I
 have hge:¬-(p:Int) < -32*(l.length:Int):=Z
 have ZV:(p:Int)/32=0:=Z
 have acG:(p:Int)%32=(p:Int):=Z
 have hsl:=Ah p l;have HS:Hid (Na.Pq (Na.shr p l)=Na.Pq l/2^p):=Yf p Z l;have HG:Hid (∀i (h:i<l.length) (h2:i<(Na.shr p l).length),(Na.shr p l)[i]=UInt32.ofNat (((l.getD i 0).toNat+Na.JH*(l.getD (i+1) 0).toNat)/2^p)):=λi h _=>Ye p l i h;generalize Na.shr p l=S at *;have HSL:=Â hsl;clear hsl;go_enter func286,ntmps286
 go_wp2_with fail
 clear hge ZV hneg h0;go_loopw [5,6,7] (λg iv _ wr=>∃i:Nat,i<=l.length∧iv = .i i∧wr.ownsRow w.heap.size 119 1 g i ((S.take i).map aU)∧Ext w wr) (λ_ iv _ _=>l.length-(intOf iv).toNat)
 case atStart=>exact⟨0,Õ _,I,ϒ w #[] 0 (Ó _) (Õ _) I,aH _ _⟩
 case round =>
  obtain⟨i,hi,rfl,hown,hbel⟩:=hrel;have hsz:w.heap.size<=wr.heap.size:=hbel.size;have h63:i+1<=maxLen:=by unfold maxLen; omega
  have hby:(i+1)*4<=140737488355328:=Z
  by_cases hlt:i<l.length
  .have d0:=iH _ l i wr (HV.out.below hbel) Z;have d1:=iH _ l (i+1) wr (HV.out.below hbel) Z;have g0:=(l.getD i 0).toNat_lt;have g1:=(l.getD (i+1) 0).toNat_lt;have hget:=HG.out i hlt (by rw[HSL.out]; exact hlt);have ajq:=take_snoc S i (by rw[HSL.out]; exact hlt);generalize (l.getD i 0).toNat=x0 at *;generalize (l.getD (i+1) 0).toNat=x1 at *;obtain⟨N,hN⟩:∃N,N=x0+Na.JH*x1:=⟨_,I⟩;rw[<-hN]at hget;have hN':(x1:Int)*4294967296+(x0:Int)=(N:Int):=by rw[hN,abz]; omega
   have hsd:(N:Int)/2^p%4294967296=((UInt32.ofNat (N/2^p)).toNat:Int):=LG N p;rw[<-hget]at hsd;have D0:=Â d0;have D1:=Â d1;generalize S[i]'(by rw[HSL.out]; exact hlt)=d at *;have HSN:=Â ajq;have hr:=lJ wr (aU d) 119 I;have hown':=hown.alloc (.cells #[aU d] 119);have hsz':w.heap.size<=(wr.alloc (.cells #[aU d] 119)).heap.size:=by simp; omega
   clear hown d0 d1 hN hget ajq;go_wp2_with fail
   refine D1.out.mono ?_;rintro e w' ⟨rfl,rfl⟩;go_wp2_with fail
   refine D0.out.mono ?_;rintro e w' ⟨rfl,rfl⟩;go_wp2_with (at_builtin; refine bD I _ _ _ I kL w.heap.size hown' I hr I h63 hby hsz' ?_; intro v2 w2 hown2 hg)
   go_roundw
   case rel =>
    refine⟨i+1,Z,by go_num,?_,(hbel.alloc hsz _).grown hg hsz' (λk hk=>(World.ownsRow.lt hown' k hk).1)⟩;rw[HSN.out,ĥ]; exact hown2
   case measure=>simp[intOf]; omega
  obtain rfl:i=l.length:=by omega
  have hst:S.take l.length=S:=Ĝ (by rw[HSL.out]; exact Ó _);rw[hst]at hown;have hrow:=nV HSL.out hown;have HR:=Â (dI _ S wr hrow (by rw[HSL.out]; omega));rw[HS.out]at HR;have HB2:=Â hbel;clear hrow hown hbel hst;go_wp2_with fail
  refine HR.out.mono ?_;rintro e w' ⟨v',rfl,ho,hb⟩;have HO:=Â (bK ho HB2.out.size);have HB:=Â (Ã HB2.out hb);clear ho hb;go_wp2_with fail
  go_ret
  exact⟨_,I,HO.out,HB.out⟩
abbrev afR(x j:Nat):(((x/2^j:Nat):Int))/2=((x/2^(j+1):Nat):Int):=by
 rw[Ğ,<-Nat.div_div_eq_div_mul]; rfl
abbrev zI(v:À)(l:List UInt32)(w:Á)(hv:aF w v l)(hlen:l.length<=1000000000) :
  Ä prog 278 #[v] w (RF w (.i (bl (Na.Pq l):Int))):=by
 have hd:=bP l;have ea:=L6 (Na.Pq l);have na:=Na.gU (Na.Pq l);have C1:=Â (dI v l w hv hlen);clear hv;rw[<-ea];generalize LZ (Na.Pq l)=a at *;by_cases h0:a.length=0
 .obtain rfl:a=[]:=Ŝ h0;clear ea h0;go_enter func278,ntmps278
  go_wp2_with fail
  refine C1.out.mono ?_;rintro e w' ⟨x,rfl,hx,hb⟩;obtain⟨xa,xc,rfl⟩:=GU hx;go_wp2_with fail
  go_ret
  exact⟨I,hb⟩
 obtain⟨m,hm⟩:∃m,a.length=m+1:=⟨a.length-1,Z⟩;have hx0:a[m]'Z≠0:=by
  have:=Na.uT na Z;simpa[hm]using this
 have hbd:∀c:Nat,2^(c-1)<=(a[m]'Z).toNat->(a[m]'Z).toNat<2^c->1<=c->bl (Na.Pq (a.take m++[a[m]'Z]))=32*(a.take m).length+c:=λc h1 h2 h3=>Yj (a.take m) (a[m]'Z) hx0 c h1 h2 h3;have e1:a.take m++[a[m]'Z]=a:=by
  rw[<-ı Z,<-hm,Ħ]
 rw[e1]at hbd;have e2:(a.take m).length=m:=by simp; omega
 rw[e2]at hbd;have HBD:=Â hbd;have HM:=Â hm;have hml:(m:Int)<=1000000000:=Z
 have hxp:0<(a[m]'Z).toNat:=Nat.pos_of_ne_zero λe=>hx0 (ř.1 (by simpa using e));have hne:((m:Int)+1==0)=false:=by rw[ä]; omega
 have hxl:=(a[m]'Z).toNat_lt;clear ea na hbd e1 e2 hx0 h0;go_enter func278,ntmps278
 go_wp2_with fail
 refine C1.out.mono ?_;rintro e w1 ⟨x,rfl,hx,hb⟩;have hx:=aS hx;obtain⟨bx,ox,cx,rfl,hbx,hlx,hmx,hcx⟩:=dH hx hm Z;have hck:=hcx m Z;have HB:=Â hb;generalize a[m]'Z=c at *;clear hcx hx hb hm C1;go_wp2_with fail
 clear hne;have hstart:Hid ((c.toNat:Int)=((c.toNat/2^0:Nat):Int)):=by show _=_; simp
 go_loopw [4,5] (λnv tv wr=>∃j:Nat,nv = .i (32*(m:Int)+j)∧j<=32∧tv = .int .u32 ((c.toNat/2^j:Nat):Int)∧(j=0∨2^(j-1)<=c.toNat)∧Ext w wr) (λ_ tv _=>(intOf tv).toNat)
 case atStart=>exact⟨0,by simp,Z,by simp[aU],.inl I,HB.out⟩
 case round =>
  obtain⟨j,rfl,hj,rfl,hjj,hbel⟩:=hrel;have HJ:=Â hjj;have HH:=Â (afR c.toNat j);clear hjj;obtain⟨T,hT⟩:∃T,c.toNat/2^j=T:=⟨_,I⟩;rw[hT]at HH |-;by_cases hz:0<T
  .have HT:=Â hT;have hle:Hid (2^j<=c.toNat):=by
    show _<=_;rcases ĳ c.toNat (2^j)with h | h
    .rw[ay2 h]at hT; omega
    exact h
   have avx:j<=31:=by
    rcases ĳ 31 j with h | h
    .have:2^32<=2^j:=ĸ Z h;have:=hle.out; omega
    exact h
   clear hT;go_wp2_with fail
   go_roundw
   case rel =>
    have hdl:c.toNat/2^(j+1)<4294967296:=ayQ (ϔ _ _) hxl;have hw:(T:Int)/2=((c.toNat/2^(j+1):Nat):Int)∧(T:Int)/2%4294967296=((c.toNat/2^(j+1):Nat):Int):=by
     have hh:=HH.out;generalize c.toNat/2^(j+1)=A01 at *;omega
    exact⟨j+1,Gh Z,Z,(by first | exact Gh hw.2 | exact Gh hw.1),.inr (by simpa using hle.out),hbel⟩
   case measure=>simp[intOf]; omega
  obtain rfl:T=0:=by omega
  have hlt:c.toNat<2^j:=by
   rcases ĳ c.toNat (2^j)with h | h
   .exact h
   have:=Nat.div_pos h (œ j); omega
  have hj1:1<=j:=by
   rcases ę j with h | h
   .subst h; simp at hlt; omega
   exact h
  have hr:bl (Na.Pq a)=32*m+j:=HBD.out j (by rcases HJ.out with h | h; omega; exact h) hlt hj1;have HR:=Â hr;clear hT hlt hr hz;go_wp2_with fail
  go_ret
  exact⟨eX (by rw[HR.out]; omega),hbel⟩
abbrev afS(n:Nat):Na.JH^n=2^(32*n):=by rw[Nat.pow_mul]; rfl
abbrev Uk(h:(LZ V).length=n+1):Na.JH^n<=V∧V<Na.JH^(n+1):=by
 have h1:=Na.DT (Na.gU V) Z;have h2:=Na.dV (LZ V);rw[L6,h]at h1 h2;exact⟨h1,h2⟩
abbrev Ul(h1:Na.JH^n<=V)(h2:V<Na.JH^(n+1)):(LZ V).length=n+1:=by
 have h3:=Na.dn h2;rcases ĳ (LZ V).length (n+1)with h | h
 .have h4:=Na.dV (LZ V);rw[L6]at h4;have h5:Na.JH^(LZ V).length<=Na.JH^n:=ĸ Na.jX Z;omega
 omega
abbrev XH(h:(LZ V).length=n+1):32*n+1<=bl V∧bl V<=32*(n+1)∧∀p,bl V+p=32*(n+1)->(LZ (V*2^p)).length=n+1:=by
 obtain⟨h1,h2⟩:=Uk h;have h0:V≠0:=by have:=ayR (n:=n) Na.jX; omega
 have hb:bl V=Nat.log2 V+1:=by unfold bl; rw[É h0]
 have hk1:=Nat.log2_self_le h0;have hk2:V<2^(Nat.log2 V+1):=Nat.lt_log2_self;rw[hb];generalize Nat.log2 V=k at *;have e1:32*n<k+1:=by
  rw[afS]at h1;exact(Nat.pow_lt_pow_iff_right (by omega:1<2)).1 (ayQ h1 hk2)
 have e2:k<32*(n+1):=by
  rw[afS]at h2;exact(Nat.pow_lt_pow_iff_right (by omega:1<2)).1 (ayQ hk1 h2)
 refine⟨Z,Z,λp hp=>?_⟩;apply Ul
 .exact ï h1 (Nat.le_mul_of_pos_right _ (œ p))
 rw[afS,<-hp,Ν];exact azo hk2 (œ p)
abbrev abC{l:List UInt32}(h:Na.norm l)(hl:l.length=n+1):0<(l.getD n 0).toNat:=by
 have h1:=Na.uT h Z;simp only[hl,Nat.add_sub_cancel]at h1;have e:l.getD n 0=l[n]'Z:=by simp[List.getD,List.getElem?_eq_getElem (show n<l.length by omega)]
 rw[e];exact Nat.pos_of_ne_zero λh2=>h1 (ř.1 (by simpa using h2))
abbrev aiA{g:Nat}(h:w.ownsRow base e 1 v n xs)(hg:g<base)(o:Nat)(x:À):(w.setCell ⟨g,o,none⟩ x).ownsRow base e 1 v n xs:=
 acs h ((Ch.refl g w).setCell o x) hg
abbrev zH(v u:À)(l m:List UInt32)(w:Á)(hv:aF w v l)(hu:aF w u m)(hm:0<Na.Pq m)(hll:l.length<=5000000)(hml:m.length<=5000000) :
  Ä prog 255 #[v,u] w λe w'=>∃q r,e = .R (.tuple #[q,r,.i 0])∧Fv w.heap.size w' q (LZ (Na.Pq l/Na.Pq m))∧Fv w.heap.size w' r (LZ (Na.Pq l%Na.Pq m))∧Ext w w':=by
 have hdm:=bP m;have aos:=Na.gU (Na.Pq m);have C1:=Â (dI u m w hu Z);have HV:=Â hv;obtain⟨a1,c1,rfl⟩:=hv.shape;obtain⟨a2,c2,rfl⟩:=hu.shape;have hne0:(LZ (Na.Pq m)).length≠0:=λh=>by have:=oO h; omega
 obtain⟨n,hn⟩:∃n,(LZ (Na.Pq m)).length=n+1:=⟨(LZ (Na.Pq m)).length-1,Z⟩;obtain⟨hb1,hb2,hsh⟩:=XH hn;obtain⟨p,hp⟩:∃p,bl (Na.Pq m)+p=32*(n+1):=⟨32*(n+1)-bl (Na.Pq m),Z⟩;have TA:p<=31:=Z
 have hln:=hsh p hp;have Ϛ:0<Na.Pq m*2^p:=ϕ hm (œ p);have hlU:(LZ (Na.Pq l*2^p)).length<=l.length+1:=by
  apply Na.dn;rw[Ğ];refine Nat.mul_lt_mul_of_lt_of_le (Na.dV l) ?_ Na.jX;have:2^p<=2^32:=ĸ Z Z;exact this
 have hEq:Hid (∀Q R,Q*(Na.Pq m*2^p)+R=Na.Pq l*2^p->R<Na.Pq m*2^p->Q=Na.Pq l/Na.Pq m∧R/2^p=Na.Pq l%Na.Pq m∧(p=0->R=Na.Pq l%Na.Pq m)):=by
  intro Q R h hR;obtain⟨e1,e2⟩:=acC h hR;rw[Nat.mul_div_mul_right _ _ (œ p)]at e1;rw[Nat.mul_mod_mul_right]at e2;refine⟨e1,by rw[e2,Nat.mul_div_cancel _ (œ p)],λh0=>by rw[e2,h0]; simp⟩
 have hbI:32*((n:Int)+1)-(bl (Na.Pq m):Int)=(p:Int):=Z
 have asu:(bl (Na.Pq m):Int)<=32*((n:Int)+1):=Z
 have hnb:n<=5000000:=Z
 have C2:=λ(x:À) (w1:Á) (h:aF w1 x (LZ (Na.Pq m)))=>zI x _ w1 h Z;have C3:=λ(x:À) (w1:Á) (h:aF w1 x (LZ (Na.Pq m)))=>tu x _ p w1 h TA Z;rw[L6]at C2 C3;have CC2:=Â C2;have CC3:=Â C3;clear C2 C3;have hn0:((n:Int)+1==0)=false:=by rw[ä]; omega
 have HN:=Â hn;have HLN:=Â hln;have HVP:=Â Ϛ;clear hv hu hsh hp hn hln Ϛ hdm aos hne0;go_enter func255,ntmps255
 go_wp2_with fail
 refine C1.out.mono ?_;rintro e w1 ⟨t,rfl,ht,hb⟩;have HT:=Â (aS ht);have HB1:=Â hb;obtain⟨at',ct,rfl⟩:=GU ht;rw[HN.out]at HT |-;clear ht hb C1;go_wp2_with fail
 refine(CC2.out _ w1 HT.out).mono ?_;rintro e w2 ⟨rfl,hb⟩;have HB2:=Â (Ã HB1.out hb);have HT2:=Â (HT.out.below hb);clear hb CC2 HT;go_wp2_with fail
 refine(tu _ l p w2 (HV.out.below HB2.out) TA Z).mono ?_;rintro e w3 ⟨x,rfl,hx,hb⟩;have HB3:=Â (Ã HB2.out hb);have HX:=Â (aS hx);have HT3:=Â (HT2.out.below hb);obtain⟨ax,cx,rfl⟩:=GU hx;clear hb hx HT2;go_wp2_with fail
 refine(CC3.out _ w3 HT3.out).mono ?_;rintro e w4 ⟨y,rfl,hy,hb⟩;have HB4:=Â (Ã HB3.out hb);have HX4:=Â (HX.out.below hb);have HY4:=Â (aS hy);clear hb hy HX HT3 CC3;generalize hU:Na.Pq l*2^p=U at *;generalize hW:Na.Pq m*2^p=V at *;obtain⟨N,hNN⟩:∃N,(LZ U).length=N:=⟨_,I⟩;have HNN:=Â hNN;have asv:N<=maxLen:=by unfold maxLen; omega
 have asw:4*N<=281474976710656:=Z
 have hN6:N<=6000000:=Z
 rw[hNN]at HX4 |-;clear hU hW hNN hlU;have hs4:=HB4.out.size;go_wp2_with (at_make; refine wpList_make_row I _ _ _ I kL I w4.heap.size N I I I asw asv (Ó _) ?_; intro w5 hown hg)
 have hb5:=fU (ù w4.heap.size w4) hg (Ó _);have hs5:w4.heap.size<w5.heap.size:=(hown.lt w4.heap.size I).2;have HO:=Â hown;have HB5:=Â hb5;clear hg hown hb5 hn0 asu hbI;go_wp2_with fail
 go_loopw [12,13,14,15,16,17] (λrv iv _ _ _ _ wr=>∃(k R:Nat) (q:List UInt32),k+q.length=N∧iv = .i ((k:Int)-1) ∧
  Na.Pq q*V+R=Na.Pq ((LZ U).drop k)∧R<V∧Fv (w4.heap.size+1) wr rv (LZ R) ∧
  wr.ownsRow w4.heap.size 119 1 (.s (some ⟨w4.heap.size,0,none⟩) N N) N ((List.replicate k 0++q).map aU)∧Ext w4 wr) (λ_ iv _ _ _ _ _=>(intOf iv+1).toNat)
 case atStart =>
  refine⟨N,0,[],by simp,I,?_,HVP.out,?_,?_,HB5.out.alloc Z _⟩
  .rw[Ń (by rw[HNN.out]; exact Ó _)]; simp[Na.Pq]
  .exact ϒ w5 #[] 0 Z (Õ _) I
  have:=HO.out.alloc (.cells #[] 119);simpa[aU]using this
 case round =>
  obtain⟨k,R,q,hkq,rfl,hval,hR,hr,hown,hbel⟩:=hrel;have HKQ:=Â hkq;have nR:=Â hval;have HRR:=Â hr;have HW:=Â hown;have avy:=hbel.size;have hkN:k<=N:=Z
  clear hkq hval hr hown;cases k with
  | zero =>
   obtain⟨e1,e2,e3⟩:=hEq.out (Na.Pq q) R (by have:=nR.out; rw[aza,L6]at this; exact this) hR;have HE:=Â (And.intro e1 (And.intro e2 e3));have hrow:aF wr (.s (some ⟨w4.heap.size,0,none⟩) N N) q:=by
    have h1:=HKQ.out;have h2:=HW.out;simp only[ay4,ĵ]at h2;exact nV Z h2
   have HQ:=Â (dI _ q wr hrow (by have:=HKQ.out; omega));have hRow:=aS HRR.out;have hRl:(LZ R).length<=6000000:=by
    have h1:=fF (ϙ hR);rw[HLN.out]at h1; omega
   have aml:=Â hRow;have PZ:=Â (Ã HB4.out hbel);clear e1 e2 e3 hrow hRow hEq hbel;go_wp2_with fail
   refine HQ.out.mono ?_;rintro e w6 ⟨x,rfl,hx,hb⟩;have HX6:=Â (bK hx PZ.out.size);have HB6:=Â (Ã PZ.out hb);have HR6:=Â (aml.out.below hb);clear hx hb HQ;rcases ę p with h0 | h0
   .subst h0;have HS:=tu _ _ 0 w6 HR6.out Z Z;rw[L6,Nat.pow_zero,Nat.mul_one,HE.out.2.2 I]at HS;have HSS:=Â HS;clear HS;go_wp2_with fail
    refine HSS.out.mono ?_;rintro e w7 ⟨y,rfl,hy,hb⟩;have HY7:=Â (bK hy HB6.out.size);have HX7:=Â (dO HX6.out hb);have HB7:=Â (Ã HB6.out hb);clear hy hb;go_wp2_with fail
    go_ret3
    exact⟨_,_,I,by rw[<-HE.out.1]; exact HX7.out,HY7.out,HB7.out⟩
   have HS:=Lh _ _ p w6 HR6.out h0 TA Z;rw[L6,HE.out.2.1]at HS;have HSS:=Â HS;clear HS;go_wp2_with fail
   refine HSS.out.mono ?_;rintro e w7 ⟨y,rfl,hy,hb⟩;have HY7:=Â (bK hy HB6.out.size);have HX7:=Â (dO HX6.out hb);have HB7:=Â (Ã HB6.out hb);clear hy hb;go_wp2_with fail
   go_ret3
   exact⟨_,_,I,by rw[<-HE.out.1]; exact HX7.out,HY7.out,HB7.out⟩
  | succ j =>
   have hi:(((j+1:Nat):Int)-1)=(j:Int):=Z
   rw[hi];clear hi;obtain⟨bx,ox,cx',hxs,hbx,hlx,hmx,hcx⟩:=dH HX4.out HNN.out Z;simp only[Ĉ]at hxs;obtain⟨rfl,-,rfl⟩:=hxs;have hjl:j<(LZ U).length:=by rw[HNN.out]; omega
   have hck:wr.cell? ⟨bx,ox+j,none⟩=some (aU (LZ U)[j]):=by rw[hbel.cell (p:=⟨bx,ox+j,none⟩) hbx]; exact hcx j hjl
   have HD:=Â (nU (LZ U) j hjl);clear hcx;generalize (LZ U)[j]=x at *;have hxl:=x.toNat_lt;obtain⟨f1,f2,f3⟩:=ZQ (u:=x.toNat) HVP.out hR hxl nR.out;have HF:=Â (And.intro f1 (And.intro f2 f3));have hND:x.toNat+Na.JH*R<Na.JH*V:=by
    have h1:Na.JH*(R+1)<=Na.JH*V:=ĝ _ hR;rw[Ŕ]at h1;have:x.toNat<Na.JH:=hxl;omega
   have HND:=Â hND;have hRl:(LZ R).length<=n+1:=by
    have h1:=fF (ϙ hR);rw[HLN.out]at h1; exact h1
   have aml:=Â (aS HRR.out);obtain⟨ra,rc,rfl⟩:=GU HRR.out;have PZ:=Â hbel;clear f1 f2 f3 hND hEq;go_wp2_with fail
   obtain⟨wo,rfl⟩:∃wo:Á,wo=wr:=⟨_,I⟩;have auH:(((LZ R).length:Nat):Int)<=6000000:=Z
   go_loopw [14,15] (λnv kv wr=>∃i:Nat,i<=(LZ R).length∧kv = .i i∧wr.ownsRow wo.heap.size 119 1 nv (1+i) ((x::(LZ R).take i).map aU)∧Ext wo wr) (λ_ kv _=>(LZ R).length-(intOf kv).toNat)
   case atStart=>exact⟨0,Õ _,I,ϒ (base:=wo.heap.size) wo #[aU x] 1 (Ó _) (by unfold maxLen; omega) I,aH _ _⟩
   case round =>
    obtain⟨i,hi,rfl,hown,hwi⟩:=hrel;have hsz:wo.heap.size<=wr.heap.size:=hwi.size;have h63:1+i+1<=maxLen:=by unfold maxLen; omega
    have hby:(1+i+1)*4<=140737488355328:=Z
    by_cases hlt:i<(LZ R).length
    .obtain⟨br,or,cr,hxs,hbr,hlr,hmr,hcr⟩:=dH aml.out I Z;simp only[Ĉ]at hxs;obtain⟨rfl,-,-⟩:=hxs;have hck:wr.cell? ⟨br,or+i,none⟩=some (aU (LZ R)[i]):=by rw[hwi.cell (p:=⟨br,or+i,none⟩) hbr]; exact hcr i hlt
     have HSN:Hid ((x::(LZ R).take (i+1)).map aU=(x::(LZ R).take i).map aU++[aU (LZ R)[i]]):=by show _=_; rw[take_snoc (LZ R) i hlt]; simp only[Ē,ĥ,ŀ,ō]
     clear hcr;generalize (LZ R)[i]=d at *;have hr:=lJ wr (aU d) 119 I;have hown':=hown.alloc (.cells #[aU d] 119);have hsz':wo.heap.size<=(wr.alloc (.cells #[aU d] 119)).heap.size:=by simp; omega
     clear hown;go_wp2_with (at_builtin; refine bD I _ _ _ I kL wo.heap.size hown' I hr I h63 hby hsz' ?_; intro v2 w2 hown2 hg)
     go_roundw
     case rel =>
      refine⟨i+1,Z,by go_num,?_,(hwi.alloc hsz _).grown hg hsz' (λk hk=>(World.ownsRow.lt hown' k hk).1)⟩;rw[HSN.out]; exact hown2
     case measure=>simp[intOf]; omega
    obtain rfl:i=(LZ R).length:=by omega
    rw[Ħ]at hown;have hrow:=nV (l:=x::LZ R) (by simp; omega) hown;have HN1:=dI _ (x::LZ R) wr hrow (by simp; omega);have eN:Na.Pq (x::LZ R)=x.toNat+Na.JH*R:=by show _+_=_; rw[L6]
    rw[eN]at HN1;have HNO:=Â HN1;have HWI:=Â hwi;clear hrow HN1 eN hown hwi;generalize hNn:x.toNat+Na.JH*R=ý at *;have hlX:(LZ ý).length<=n+2:=by
     apply Na.dn;have h1:=HND.out;have h2:=(Uk HLN.out).2;have h3:Na.JH*V<Na.JH*Na.JH^(n+1):=azn h2 Na.jX;rw[Ě Na.JH (Na.JH^(n+1)),<-Ğ]at h3;exact Nat.lt_trans h1 h3
    go_wp2_with fail
    refine HNO.out.mono ?_;rintro e w6 ⟨z,rfl,hz,hb⟩;have HZ:=Â (aS hz);have HB6:=Â (Ã HWI.out hb);have asx:=Â (Ã PZ.out HB6.out);have HOF:=abA z y (LZ ý) (LZ V) n w6 HZ.out (HY4.out.below asx.out) HLN.out (abC (Na.gU V) HLN.out) (by rw[L6,L6]; exact HND.out) Z Z;rw[L6,L6]at HOF;have amm:=Â HOF;obtain⟨D,hD⟩:∃D,ý/V=D:=⟨_,I⟩;rw[hD]at amm HF;have hDB:D<4294967296:=HF.out.2.1;clear hz hb HOF HNO hD;go_wp2_with fail
    refine amm.out.mono ?_;rintro e w7 ⟨y',rfl,hy,hb⟩;have HY7:=Â hy;have HB7:=Â (Ã HB6.out hb);have HW7:=Â (dO HW.out (Ã HB6.out hb));have asy:=Â (Ã PZ.out HB7.out);have hs6:w4.heap.size+1<=w6.heap.size:=by
     have h1:=(World.ownsRow.lt HW.out w4.heap.size I).2;have h2:=HB6.out.size;omega
    obtain⟨⟨cv,hcell⟩,hfz⟩:=qh HW7.out j Z;have hmod:(D:Int)%4294967296=((UInt32.ofNat D).toNat:Int):=dgI D;have hst:=(HW7.out.stored j (aU (UInt32.ofNat D)));rw[ĥ,ay5,Gl]at hst;have HST:=Â hst;have HDv:Hid ((UInt32.ofNat D).toNat=D):=bJ hDB;generalize UInt32.ofNat D=dd at *;clear hy hb amm hst HW;go_wp2_with fail
    go_roundw
    case rel =>
     have hD':=HDv.out;subst hD';refine⟨j,ý%V,dd::q,?_,I,?_,HF.out.2.2,?_,?_,?_⟩
     .have:=HKQ.out; simp; omega
     .rw[HD.out,<-HF.out.1];rfl
     .exact aiA (bK HY7.out hs6) Z j _
     .have:=HST.out.1;simpa[aU]using this
     exact asy.out.setCell (p:=⟨w4.heap.size,j,none⟩) (Ó _) _
    case measure=>simp[intOf]
end Go.Proofs.Pv
namespace Na
variable{out:List UInt32}{j c A x V:Nat}
abbrev Zy(l:List UInt32):∀(j:Nat) (d:UInt32),j<l.length->Pq (l.set j d)+JH^j*(l.getD j 0).toNat=Pq l+JH^j*d.toNat:=by
 induction l with
 | nil=>intro j d h; simp at h
 | cons c l ih =>
  intro j d h;cases j with
  | zero=>simp[Pq]; omega
  | succ j =>
   have h1:=ih j d (by simpa using h);have e1:(c::l).getD (j+1) 0=l.getD j 0:=by simp[List.getD]
   rw[e1,List.set_cons_succ];simp only[Pq,Ğ];rw[Ě (JH^j) JH,ğ,ğ];have h2:JH*(Pq (l.set j d)+JH^j*(l.getD j 0).toNat)=JH*(Pq l+JH^j*d.toNat):=by rw[h1]
   rw[õ,õ]at h2;omega
abbrev QO{n t:Nat}(hj:j<out.length)(hv:Pq out+JH^j*c=A)(hn:n=t+(out.getD j 0).toNat+c) :
  Pq (out.set j (UInt32.ofNat n))+JH^(j+1)*(n/JH)=A+JH^j*t:=by
 have h1:=Zy out j (UInt32.ofNat n) hj;rw[dg]at h1;have h2:=Ś n JH;have h3:JH^j*(n%JH)+JH^(j+1)*(n/JH)=JH^j*n:=by rw[Ğ,ğ,<-õ,h2]
 have h4:JH^j*n=JH^j*t+JH^j*(out.getD j 0).toNat+JH^j*c:=by rw[hn,õ,õ]
 omega
abbrev Yl(hj:j<out.length)(hv:Pq out+JH^j*c=A)(h0:out.getD j 0=0)(hc:c<JH):Pq (out.set j (UInt32.ofNat c))=A:=by
 have h1:=Zy out j (UInt32.ofNat c) hj;rw[dg,h0,ϗ hc]at h1;simp at h1;omega
abbrev Nq{k:Nat}{d:UInt32}(h:j<k):(out.set j d).getD k 0=out.getD k 0:=by
 simp only[List.getD,List.getElem?_set];rw[É Z]
abbrev Yk{ĉ y:Nat}(i k:Nat):ĉ+JH^i*(x*V)+JH^(i+k)*(x*y)=ĉ+JH^i*(x*(V+JH^k*y)):=by
 rw[Ν,õ x,õ (JH^i),ğ (JH^i),ϩ x (JH^k)];omega
abbrev QS{W:Nat}(i:Nat):V*W+JH^i*(x*W)=(V+JH^i*x)*W:=by rw[Œ,ğ]
def Clear(j:Nat)(l:List UInt32):Prop:=∀i,j<=i->l.getD i 0=0
abbrev Clear.set{j k:Nat}{l:List UInt32}{d:UInt32}(h:Clear j l)(hk:k<j):Clear j (l.set k d):=λi hi=>by rw[Nq Z]; exact h i hi
abbrev Clear.acJ{j:Nat}{l:List UInt32}{d:UInt32}(h:Clear j l):Clear (j+1) (l.set j d):=λi hi=>by rw[Nq Z]; exact h i Z
abbrev Clear.mono{j k:Nat}{l:List UInt32}(h:Clear j l)(hk:j<=k):Clear k l:=λi hi=>h i Z
abbrev LH(n:Nat):Clear 0 (List.replicate n 0):=λi _=>by
 simp only[List.getD,List.getElem?_replicate]; split<;>rfl
end Na
end
namespace Go.Proofs.Pv
section
open Go.RowKit Na
variable{α:Type}
abbrev QN{x y o c:Nat}(hx:x<4294967296)(hy:y<4294967296)(ho:o<4294967296)(hc:c<4294967296):∃t s n:Nat,t=x*y∧s=t+o∧n=s+c ∧
  IntKind.u64.wrap ((x:Int)*(y:Int))=(t:Int)∧IntKind.u64.wrap ((t:Int)+(o:Int))=(s:Int)∧IntKind.u64.wrap ((c:Int)+(s:Int))=(n:Int)∧n<18446744073709551616:=by
 have ο:x*y<=4294967295*4294967295:=Μ Z Z;refine⟨x*y,x*y+o,x*y+o+c,I,I,I,Tq hx hy,?_,?_,Z⟩
 .rw[<-iC (x*y+o) Z]; simp
 rw[<-iC (x*y+o+c) Z]; congr 1; omega
abbrev XI(v u:À)(l m:List UInt32)(w:Á)(hv:aF w v l)(hu:aF w u m)(hl:l.length<=50000000)(hm:m.length<=50000000) :
  Ä prog 298 #[v,u] w λe w'=>∃a,e = .R (.s a (LZ (Na.Pq l*Na.Pq m)).length (LZ (Na.Pq l*Na.Pq m)).length) ∧
   aF w' (.s a (LZ (Na.Pq l*Na.Pq m)).length (LZ (Na.Pq l*Na.Pq m)).length) (LZ (Na.Pq l*Na.Pq m))∧Ext w w':=by
 have hd1:=bP l;have hd2:=bP m;have e1:=L6 (Na.Pq l);have e2:=L6 (Na.Pq m);have S1:=Â (short_any v l w hv);have S2:=Â (short_any u m w hu);obtain⟨a1,c1,rfl⟩:=hv.shape;obtain⟨a2,c2,rfl⟩:=hu.shape;clear hv hu;rw[<-e1,<-e2];generalize LZ (Na.Pq l)=ý at *;generalize LZ (Na.Pq m)=ê at *;have hX:ý.length<=50000000:=Z
 have hY:ê.length<=50000000:=Z
 obtain⟨N,hN⟩:∃N,N=ý.length+ê.length:=⟨_,I⟩;have hNN:((ý.length:Int)+(ê.length:Int))=(N:Int):=Z
 have hN1:N<=100000000:=Z
 have h63:N<=maxLen:=by unfold maxLen; omega
 have hby:4*N<=281474976710656:=Z
 have HN:=Â hN;clear hN e1 e2 hd1 hd2 hl hm;go_enter func298,ntmps298
 go_wp2_with fail
 go_step3
 go_wp2_with fail
 refine S1.out.mono ?_;rintro e w' ⟨b1,rfl,h1,rfl⟩;have H1:=Â h1;clear h1 S1;go_wp2_with fail
 refine S2.out.mono ?_;rintro e w' ⟨b2,rfl,h2,rfl⟩;have H2:=Â h2;clear h2 S2;go_wp2_with (at_make; refine wpList_make_row I _ _ _ I kL I w.heap.size N I I I hby h63 (Ó _) ?_; intro w1 hown hg)
 have hb1:=fU (ù w.heap.size w) hg (Ó _);clear hg;have HO:=Â hown;clear hown hNN;try go_step3
 go_wp2_with fail
 go_loopw [23] (λiv wr=>∃(i:Nat) (out:List UInt32),i<=ý.length∧iv = .i i∧out.length=N∧Na.Pq out=Na.Pq (ý.take i)*Na.Pq ê∧Na.Clear (i+ê.length) out ∧
  wr.ownsRow w.heap.size 119 1 (.s (some ⟨w.heap.size,0,none⟩) N N) N (out.map aU)∧Ext w wr) (λiv _=>ý.length-(intOf iv).toNat)
 case atStart=>exact⟨0,List.replicate N 0,Õ _,I,by simp,by rw[DR]; simp[Na.Pq],(Na.LH N).mono (Õ _),by simpa[aU]using HO.out,hb1⟩
 case round =>
  obtain⟨i,out,hi,rfl,hol,hval,acH,hown,hbel⟩:=hrel;have HOL:=Â hol;have nR:=Â hval;have HW:=Â hown;have HC:=Â acH;have HB:=Â hbel;clear hol hval hown acH HO hbel;by_cases hlt:i<ý.length
  .obtain⟨bx,ox,cx,hxs,hbx,hlx,hmx,hcx⟩:=dH H1.out I Z;simp only[Ĉ]at hxs;obtain⟨rfl,-,-⟩:=hxs;have hck:wr.cell? ⟨bx,ox+i,none⟩=some (aU ý[i]):=by rw[HB.out.cell (p:=⟨bx,ox+i,none⟩) hbx]; exact hcx i hlt
   have T0:=Â (Na.bT ý i hlt);generalize ý[i]=x at *;have g0:=x.toNat_lt;have x0:=fA x;clear hcx;by_cases hz:x.toNat=0
   .have hzb:((x.toNat:Int)==0)=true:=by rw[Û]; omega
    have HZ:=Â hz;clear hz;go_wp2_with fail
    go_roundw
    case rel =>
     refine⟨i+1,out,Z,by go_num,HOL.out,?_,HC.out.mono Z,HW.out,HB.out⟩;rw[nR.out,T0.out,HZ.out]; simp
    case measure=>simp[intOf]; omega
   have hzb:((x.toNat:Int)==0)=false:=by rw[ä]; omega
   obtain⟨wo,rfl⟩:∃wo:Á,wo=wr:=⟨_,I⟩;clear hz;go_wp2_with fail
   clear hck hzb;go_loopw [8,32] (λcv kv wr=>∃(k c:Nat) (o2:List UInt32),k<=ê.length∧kv = .i k∧cv = .int .u64 c∧c<4294967296∧o2.length=N∧Na.Pq o2+Na.JH^(i+k)*c=Na.Pq out+Na.JH^i*(x.toNat*Na.Pq (ê.take k)) ∧
    Na.Clear (i+ê.length) o2∧wr.ownsRow w.heap.size 119 1 (.s (some ⟨w.heap.size,0,none⟩) N N) N (o2.map aU)∧Ext w wr) (λ_ kv _=>ê.length-(intOf kv).toNat)
   case atStart=>exact⟨0,0,out,Õ _,I,I,Z,HOL.out,by simp[Na.Pq],HC.out,HW.out,HB.out⟩
   case round =>
    obtain⟨k,c,o2,hk,rfl,rfl,hc,acI,QK,QL,hown2,QM⟩:=hrel;have NM:=Â acI;have Hu:=Â QK;have HW2:=Â hown2;have HC2:=Â QL;have HB2:=Â QM;have hNi:i+ê.length<N:=by have:=HN.out; omega
    clear acI QK hown2 QL QM HW HC HB HOL;by_cases hkl:k<ê.length
    .obtain⟨by',oy,cy,hys,ajF,hly,hmy,hcy⟩:=dH H2.out I Z;simp only[Ĉ]at hys;obtain⟨rfl,-,-⟩:=hys;have hcl:wr.cell? ⟨by',oy+k,none⟩=some (aU ê[k]):=by rw[HB2.out.cell (p:=⟨by',oy+k,none⟩) ajF]; exact hcy k hkl
     have T1:=Â (Na.bT ê k hkl);generalize ê[k]=y at *;have ajG:i+k<N:=Z
     have DV:i+k<o2.length:=by rw[NM.out]; exact ajG
     have hco:=HW2.out.cellAt (i+k) Z;rw[List.getElem?_map,List.getElem?_eq_getElem DV,Ę]at hco;have hog:o2.getD (i+k) 0=o2[i+k]:=by simp[List.getD,List.getElem?_eq_getElem DV]
     have hfz:=HW2.out.frozenAt (i+k);generalize o2[i+k]=o at *;have g1:=y.toNat_lt;have g2:=o.toNat_lt;have y0:=fA y;have o0:=fA o;obtain⟨t,s,n,ht,hs,hn,hmul,hs1,hs2,hnb⟩:=QN g0 g1 g2 hc;have HST:=Â (Na.QO (t:=t) DV Hu.out (show n=t+(o2.getD (i+k) 0).toNat+c by rw[hog]; omega));rw[ht]at HST;have hmod:(n:Int)%4294967296=((UInt32.ofNat n).toNat:Int):=dgI n;have hdiv:(n:Int)/4294967296=((n/Na.JH:Nat):Int):=dvI n;have hc':n/Na.JH<4294967296:=ϓ hnb;generalize hq:n/Na.JH=c' at *;obtain⟨d,hd⟩:∃d,UInt32.ofNat n=d:=⟨_,I⟩;rw[hd]at hmod HST;have hst:=HW2.out.stored (i+k) (aU d);rw[<-Š]at hst;have HS:=Â hst;clear hcy hst hog ht hs hn hq hd hnb HW2 Hu;go_wp2_with fail
     go_roundw
     case rel =>
      refine⟨k+1,c',o2.set (i+k) d,Z,by go_num,I,hc',by rw[List.length_set]; exact NM.out,?_,HC2.out.set Z,HS.out.1,HB2.out.setCell (p:=⟨w.heap.size,i+k,none⟩) (Ó _) _⟩;rw[<-Ξ,HST.out,T1.out,Na.Yk]
     case measure=>simp[intOf]; omega
    obtain rfl:k=ê.length:=by omega
    have DV:i+ê.length<o2.length:=by rw[NM.out]; exact hNi
    have HST:=Â (Na.Yl DV Hu.out (HC2.out _ (Ó _)) hc);obtain⟨d,rfl⟩:∃d:UInt32,c=d.toNat:=⟨UInt32.ofNat c,(bJ hc).symm⟩;rw[show UInt32.ofNat d.toNat=d by simp]at HST;obtain⟨⟨cv,hcell⟩,hfz⟩:=qh HW2.out (i+ê.length) hNi;have hst:=HW2.out.stored (i+ê.length) (aU d);rw[<-Š]at hst;have HS:=Â hst;clear hst;go_wp2_with fail
    go_roundw
    case rel =>
     refine⟨i+1,o2.set (i+ê.length) d,Z,by go_num,by rw[List.length_set]; exact NM.out,?_,by rw[show i+1+ê.length=i+ê.length+1 by omega]; exact HC2.out.acJ,HS.out.1,HB2.out.setCell (p:=⟨w.heap.size,i+ê.length,none⟩) (Ó _) _⟩;rw[HST.out,nR.out,Ħ,Na.QS,T0.out]
    case measure=>simp[intOf]; omega
  obtain rfl:i=ý.length:=by omega
  have hs:=short_any _ _ _ (nV HOL.out HW.out);rw[nR.out,Ħ]at hs;have HS:=Â hs;clear hs;go_wp2_with fail
  refine HS.out.mono ?_;rintro e w' ⟨a',rfl,hr,rfl⟩;have HR:=Â hr;clear hr;go_wp2_with fail
  try rw[Exit.noGoto_ret]
  go_ret
  exact⟨_,I,HR.out,HB.out⟩
abbrev set_mid(out:List α)(k:Nat)(z x:α):(out++List.replicate (k+1) z).set out.length x=(out++[x])++List.replicate k z:=by
 rw[List.set_append_right _ _ (Ó _),Κ,azd,List.set_cons_zero,ĭ]; rfl
abbrev XJ(v u:À)(l m:List UInt32)(w:Á)(hv:aF w v l)(hu:aF w u m)(hl:l.length<=100000000)(hm:m.length<=100000000) :
  Ä prog 328 #[v,u] w λe w'=>∃a,e = .R (.s a (LZ (Na.Pq l+Na.Pq m)).length (LZ (Na.Pq l+Na.Pq m)).length) ∧
   aF w' (.s a (LZ (Na.Pq l+Na.Pq m)).length (LZ (Na.Pq l+Na.Pq m)).length) (LZ (Na.Pq l+Na.Pq m))∧Ext w w':=by
 have HV:=Â hv;have HU:=Â hu;obtain⟨a1,c1,rfl⟩:=hv.shape;obtain⟨a2,c2,rfl⟩:=hu.shape;clear hv hu;obtain⟨M,hM⟩:∃M,M=max l.length m.length:=⟨_,I⟩;have hmax:max (l.length:Int) (m.length:Int)=(M:Int):=Z
 obtain⟨N,hN⟩:∃N,N=M+1:=⟨_,I⟩;have hMN:(M:Int)+1=(N:Int):=Z
 have hM1:N<=100000001:=Z
 have HE:Hid (Na.Pq (l.take N)=Na.Pq l∧Na.Pq (m.take N)=Na.Pq m∧Na.Pq l+Na.Pq m<Na.JH^N):=by
  refine⟨by rw[Ĝ Z],by rw[Ĝ Z],?_⟩;rw[hN];have h1:=Na.dV l;have h2:=Na.dV m;have h3:Na.JH^l.length<=Na.JH^M:=ĸ O Z;have h4:Na.JH^m.length<=Na.JH^M:=ĸ O Z;have h6:Na.JH^M*2<=Na.JH^M*Na.JH:=ĝ _ O;rw[Ğ];generalize Na.JH^M*Na.JH=q at *;generalize Na.JH^M=p at *;omega
 have h63:N<=maxLen:=by unfold maxLen; omega
 have hby:4*N<=281474976710656:=Z
 clear hM hN;go_enter func328,ntmps328
 go_wp2_with (at_make; refine wpList_make_row I _ _ _ I kL I w.heap.size N I I I hby h63 (Ó _) ?_; intro w1 hown hg)
 clear hmax hMN;have hb1:=fU (ù w.heap.size w) hg (Ó _);clear hg;have HO:=Â hown;clear hown;go_loopw [6,17] (λcv iv wr=>∃(i c k:Nat) (out:List UInt32),i+k=N∧iv = .i i∧cv = .int .u64 c∧c<=1∧out.length=i∧Na.Pq out+Na.JH^i*c=Na.Pq (l.take i)+Na.Pq (m.take i) ∧
  wr.ownsRow w.heap.size 119 1 (.s (some ⟨w.heap.size,0,none⟩) N N) N ((out++List.replicate k 0).map aU)∧Ext w wr) (λ_ iv _=>N-(intOf iv).toNat)
 case atStart=>exact⟨0,0,N,[],Z,I,I,Z,I,by simp[Na.Pq],by simpa[aU]using HO.out,hb1⟩
 case round =>
  obtain⟨i,c,k,out,hik,rfl,rfl,hc,hol,hval,hown,hbel⟩:=hrel;have HOL:=Â hol;have nR:=Â hval;have HW:=Â hown;have hiM:i<=N:=Z
  have HIK:=Â hik;clear hol hval hown HO hik;by_cases hlt:i<N
  .obtain⟨k',rfl⟩:∃k',k=k'+1:=⟨k-1,by have:=HIK.out; omega⟩;have d0:=qE _ l i wr (HV.out.below hbel) Z;have d1:=qE _ m i wr (HU.out.below hbel) Z;have g0:=(l.getD i 0).toNat_lt;have g1:=(m.getD i 0).toNat_lt;have t0:=iI l i;have t1:=iI m i;generalize (l.getD i 0).toNat=x at *;generalize (m.getD i 0).toNat=y at *;have D0:=Â d0;have D1:=Â d1;have T0:=Â t0;have T1:=Â t1;obtain⟨n,hn⟩:∃n,n=x+y+c:=⟨_,I⟩;have hmod:((c:Int)+((x:Int)+y))%4294967296=((UInt32.ofNat n).toNat:Int):=by
    rw[show(c:Int)+((x:Int)+y)=(n:Int) by omega,dgI]
   have hdiv:((c:Int)+((x:Int)+y))/4294967296=((n/Na.JH:Nat):Int):=by
    rw[show(c:Int)+((x:Int)+y)=(n:Int) by omega,dvI]
   have hc':n/Na.JH<=1:=by rw[hn,abz]; omega
   have HST:=Â (Na.step_up HOL.out nR.out hn);generalize hq:n/Na.JH=c' at *;obtain⟨d,hd⟩:∃d,UInt32.ofNat n=d:=⟨_,I⟩;rw[hd]at hmod HST;obtain⟨⟨cv,hcell⟩,hfz⟩:=qh HW.out i hlt;have hst:=HW.out.stored i (aU d);have hse:((out++List.replicate (k'+1) 0).map aU).set i (aU d)=((out++[d])++List.replicate k' 0).map aU:=by rw[<-Š,<-HOL.out,set_mid]
   rw[hse]at hst;have HS:=Â hst;clear d0 d1 t0 t1 hn hq hd hst hse;go_wp2_with fail
   refine D0.out.mono ?_;rintro e w' ⟨rfl,rfl⟩;go_wp2_with fail
   refine D1.out.mono ?_;rintro e w' ⟨rfl,rfl⟩;go_wp2_with fail
   go_roundw
   case rel =>
    refine⟨i+1,c',k',out++[d],by have:=HIK.out; omega,by go_num,I,hc',by simp[HOL.out],?_,HS.out.1,hbel.setCell (p:=⟨w.heap.size,i,none⟩) (Ó _) _⟩;rw[HST.out,T0.out,T1.out,õ]; omega
   case measure=>simp[intOf]; omega
  obtain rfl:i=N:=by omega
  obtain rfl:k=0:=by have:=HIK.out; omega
  have hrow:aF wr (.s (some ⟨w.heap.size,0,none⟩) i i) out:=by
   have:=HW.out;rw[ay4,ņ]at this;exact nV HOL.out this
  have hv:Na.Pq out=Na.Pq l+Na.Pq m:=by
   have h1:=nR.out;rw[HE.out.1,HE.out.2.1]at h1;have h2:=HE.out.2.2;have h3:c=0:=by
    rcases ę c with h | h
    .exact h
    have:=ĝ (Na.JH^i) h;omega
   rw[h3]at h1;omega
  have hs:=short_any _ _ _ hrow;rw[hv]at hs;have HS:=Â hs;clear hs hrow hv;go_wp2_with fail
  refine HS.out.mono ?_;rintro e w' ⟨a',rfl,hr,rfl⟩;have HR:=Â hr;clear hr;go_wp2_with fail
  go_ret
  exact⟨_,I,HR.out,hbel⟩
abbrev abD(v u:À)(l m:List UInt32)(w:Á)(hv:aF w v l)(hu:aF w u m)(hlt:Na.Pq l<Na.Pq m) :
  Ä prog 329 #[v,u] w (RF w (.tuple #[.sn,.z])):=by
 have hc:=BK v u l m w hv hu;rw[yH hlt]at hc;have HC:=Â hc;obtain⟨a1,c1,rfl⟩:=hv.shape;obtain⟨a2,c2,rfl⟩:=hu.shape;clear hc hv hu hlt;go_enter func329,ntmps329
 go_wp2_with fail
 refine HC.out.mono ?_;rintro e w' ⟨rfl,hb⟩;have HB:=Â hb;clear hb;go_wp2_with fail
 go_ret2
 exact⟨I,HB.out⟩
abbrev abE(v u:À)(l m:List UInt32)(w:Á)(hv:aF w v l)(hu:aF w u m)(hl:l.length<=100000000)(hle:Na.Pq m<=Na.Pq l) :
  Ä prog 329 #[v,u] w λe w'=>∃a,e = .R (.tuple #[.s a (LZ (Na.Pq l-Na.Pq m)).length (LZ (Na.Pq l-Na.Pq m)).length,.b true]) ∧
   aF w' (.s a (LZ (Na.Pq l-Na.Pq m)).length (LZ (Na.Pq l-Na.Pq m)).length) (LZ (Na.Pq l-Na.Pq m))∧Ext w w':=by
 have HCM:=Â (BK v u l m w hv hu);have hcn:=xW hle;have hdl:=bP l;have HV:=Â hv;have HU:=Â hu;obtain⟨a1,c1,rfl⟩:=hv.shape;obtain⟨a2,c2,rfl⟩:=hu.shape;clear hv hu;obtain⟨M,hM⟩:∃M,M=(LZ (Na.Pq l)).length:=⟨_,I⟩;have HE:Hid (Na.Pq (l.take M)=Na.Pq l∧Na.Pq (m.take M)=Na.Pq m∧Na.Pq l<Na.JH^M):=by
  have h1:Na.Pq l<Na.JH^M:=by
   have:=Na.dV (LZ (Na.Pq l));rw[L6,<-hM]at this; exact this
  exact⟨uU h1,uU Z,h1⟩
 have HLE:=Â hle;have HM:=Â hM;have hM1:M<=100000000:=Z
 have h63:M<=maxLen:=by unfold maxLen; omega
 have hby:4*M<=281474976710656:=Z
 generalize rD (Na.Pq l) (Na.Pq m)=cc at *;clear hM hle hdl;go_enter func329,ntmps329
 go_wp2_with fail
 refine HCM.out.mono ?_;rintro e w0 ⟨rfl,hb0⟩;have HB0:=Â hb0;have hsh:=short_any _ l w0 (HV.out.below hb0);rw[<-HM.out]at hsh;have HSH:=Â hsh;clear hsh hb0;go_wp2_with fail
 refine HSH.out.mono ?_;rintro e w' ⟨aa,rfl,-,rfl⟩;go_wp2_with (at_make; refine wpList_make_row I _ _ _ I kL I w0.heap.size M I I I hby h63 (Ó _) ?_; intro w1 hown hg)
 have hb1:=Ã HB0.out (fU (ù w0.heap.size w0) hg (Ó _));have hsz0:=HB0.out.size;clear hg;have HO:=Â hown;clear hown;go_loopw [7,20] (λcv iv wr=>∃(i c k:Nat) (out:List UInt32),i+k=M∧iv = .i i∧cv = .int .u64 c∧c<=1∧out.length=i∧Na.Pq (l.take i)+Na.JH^i*c=Na.Pq out+Na.Pq (m.take i) ∧
  wr.ownsRow w0.heap.size 119 1 (.s (some ⟨w0.heap.size,0,none⟩) M M) M ((out++List.replicate k 0).map aU)∧Ext w wr) (λ_ iv _=>M-(intOf iv).toNat)
 case atStart=>exact⟨0,0,M,[],Z,I,I,Z,I,by simp[Na.Pq],by simpa[aU]using HO.out,hb1⟩
 case round =>
  obtain⟨i,c,k,out,hik,rfl,rfl,hc,hol,hval,hown,hbel⟩:=hrel;have HOL:=Â hol;have nR:=Â hval;have HW:=Â hown;have hiM:i<=M:=Z
  have HIK:=Â hik;clear hol hval hown HO hik;by_cases hlt:i<M
  .obtain⟨k',rfl⟩:∃k',k=k'+1:=⟨k-1,by have:=HIK.out; omega⟩;have d0:=qE _ l i wr (HV.out.below hbel) Z;have d1:=qE _ m i wr (HU.out.below hbel) Z;have g0:=(l.getD i 0).toNat_lt;have g1:=(m.getD i 0).toNat_lt;have t0:=iI l i;have t1:=iI m i;generalize (l.getD i 0).toNat=x at *;generalize (m.getD i 0).toNat=y at *;have D0:=Â d0;have D1:=Â d1;have T0:=Â t0;have T1:=Â t1;obtain⟨A01,r,c',hZ,hr,hb',ahJ,hxb,hu'⟩:=Jr x y c g0 g1 hc;obtain⟨d,rfl⟩:∃d:UInt32,r=d.toNat:=⟨UInt32.ofNat r,(bJ hxb).symm⟩;have HST:Hid (Na.Pq (l.take (i+1))+Na.JH^(i+1)*c'=Na.Pq (out++[d])+Na.Pq (m.take (i+1))):=by
    show _=_;have h1:=nR.out;rw[T0.out,T1.out,Na.iY,HOL.out,Ğ];have h2:Na.JH^i*(x+Na.JH*c')=Na.JH^i*(d.toNat+y+c):=by rw[hu']
    rw[õ,õ,õ,<-ğ]at h2;omega
   obtain⟨⟨cv,hcell⟩,hfz⟩:=qh HW.out i hlt;have hst:=HW.out.stored i (aU d);have hse:((out++List.replicate (k'+1) 0).map aU).set i (aU d)=((out++[d])++List.replicate k' 0).map aU:=by rw[<-Š,<-HOL.out,set_mid]
   rw[hse]at hst;have HS:=Â hst;clear d0 d1 t0 t1 hst hse hu' hxb;go_wp2_with fail
   refine D0.out.mono ?_;rintro e w' ⟨rfl,rfl⟩;go_wp2_with fail
   refine D1.out.mono ?_;rintro e w' ⟨rfl,rfl⟩;go_wp2_with fail
   go_roundw
   case rel =>
    exact⟨i+1,c',k',out++[d],by have:=HIK.out; omega,by go_num,I,ahJ,by simp[HOL.out],HST.out,HS.out.1,hbel.setCell (p:=⟨w0.heap.size,i,none⟩) hsz0 _⟩
   case measure=>simp[intOf]; omega
  obtain rfl:i=M:=by omega
  obtain rfl:k=0:=by have:=HIK.out; omega
  have hrow:aF wr (.s (some ⟨w0.heap.size,0,none⟩) i i) out:=by
   have:=HW.out;rw[ay4,ņ]at this;exact nV HOL.out this
  have hv:Na.Pq out=Na.Pq l-Na.Pq m:=by
   have h1:=nR.out;rw[HE.out.1,HE.out.2.1]at h1;have h2:=Na.dV out;rw[HOL.out]at h2;exact Zx h1 HLE.out h2
  have hs:=short_any _ _ _ hrow;rw[hv]at hs;have HS:=Â hs;clear hs hrow hv;go_wp2_with fail
  refine HS.out.mono ?_;rintro e w' ⟨a',rfl,hr,rfl⟩;have HR:=Â hr;clear hr;go_wp2_with fail
  go_ret2
  exact⟨_,I,HR.out,hbel⟩
attribute [local go_sem] Go.Rel.valOf
abbrev aK.shape{base:Nat}{w:Á}{v:À}{neg:Bool}{n:Nat}(h:aK base w v neg n):∃a d,v = .agg #[.b neg,.s a (LZ n).length d]:=by
 obtain⟨s,rfl,hs,_⟩:=h;obtain⟨a,d,rfl⟩:=hs.shape;exact⟨a,d,I⟩
def fK(K:Nat)(w:Á)(v:À)(z:Int):Prop:=∃n s l,v = .agg #[.b n,s]∧aF w s l∧l.length<=K∧zv n (Na.Pq l)=z
abbrev fK.mono{K K':Nat}{w:Á}{v:À}{z:Int}(h:fK K w v z)(hk:K<=K'):fK K' w v z:=by
 obtain⟨n,s,l,hv,hs,hl,hz⟩:=h; exact⟨n,s,l,hv,hs,Z,hz⟩
abbrev oL.toQ{base K:Nat}{w:Á}{v:À}{z:Int}(h:oL base w v z)(hk:(LZ z.natAbs).length<=K):fK K w v z:=by
 obtain⟨s,hv,hs,_⟩:=h; exact⟨_,s,_,hv,hs,hk,by rw[L6,NP]⟩
variable{K:Nat}
abbrev JM{w:Á}{v:À}{z:Int}(h:fK K w v z):(LZ z.natAbs).length<=K:=by
 obtain⟨n,s,l,hv,hs,hl,rfl⟩:=h;rw[kX]; exact ï (bP l) hl
abbrev gy(x y:Int){L:Nat}(hx:(LZ x.natAbs).length<=K)(hy:(LZ y.natAbs).length<=L):(LZ (x*y).natAbs).length<=K+L:=by
 apply Na.dn;have h1:=Na.dV (LZ x.natAbs);have h2:=Na.dV (LZ y.natAbs);rw[L6]at h1 h2;have h3:Na.JH^(LZ x.natAbs).length<=Na.JH^K:=ĸ O hx;have h4:Na.JH^(LZ y.natAbs).length<=Na.JH^L:=ĸ O hy;rw[Int.natAbs_mul,Ν];exact Nat.mul_lt_mul_of_lt_of_lt (ā h1 h3) (ā h2 h4)
abbrev N8(x y:Int)(hx:(LZ x.natAbs).length<=K)(hy:(LZ y.natAbs).length<=K):(LZ (x+y).natAbs).length<=K+1:=by
 apply Na.dn;have h1:=Na.dV (LZ x.natAbs);have h2:=Na.dV (LZ y.natAbs);rw[L6]at h1 h2;have h3:Na.JH^(LZ x.natAbs).length<=Na.JH^K:=ĸ O hx;have h4:Na.JH^(LZ y.natAbs).length<=Na.JH^K:=ĸ O hy;have h6:Na.JH^K*2<=Na.JH^K*Na.JH:=ĝ _ O;have h7:=Int.natAbs_add_le x y;rw[Ğ];generalize Na.JH^K*Na.JH=q at *;generalize Na.JH^K=p at *;omega
abbrev Gp(x y:Int)(hx:(LZ x.natAbs).length<=K)(hy:(LZ y.natAbs).length<=K):(LZ (x-y).natAbs).length<=K+1:=by
 rw[Int.sub_eq_add_neg]; exact N8 x (-y) hx (by rw[Int.natAbs_neg]; exact hy)
end
section
open Go.RowKit Na
variable{α:Type}
variable{K:Nat}{q p:Bool×Nat×Nat}
abbrev ac5(n:Bool)(a d:Nat):nrm n false a d=nz (zv n a) d:=by
 unfold nz;rw[kX,VD];unfold nrm;split
 .rfl
 congr 1;unfold kZ;rcases ę a with h | h
 .subst h; simp[qc]
 rw[İ h,Bool.and_true]
abbrev Ie (q:Bool×Nat×Nat):Prop:=nrm q.1 false q.2.1 q.2.2=q
abbrev Um(n1 n2:Bool)(a b:Nat):Ie (nrm n1 n2 a b):=by
 unfold Ie;rcases ę b with hb | hb
 .have e:nrm n1 n2 a b=(false,0,1):=by unfold nrm; rw[Ï hb]
  rw[e]; decide
 have hg:0<Nat.gcd a b:=ay8 a hb;have hb':0<b/Nat.gcd a b:=Nat.div_pos (Nat.le_of_dvd hb (ayM a b)) hg;have hc:Nat.gcd (a/Nat.gcd a b) (b/Nat.gcd a b)=1:=Nat.coprime_div_gcd_div_gcd hg;have e:nrm n1 n2 a b=(kZ n1 n2 a b,a/Nat.gcd a b,b/Nat.gcd a b):=by unfold nrm; rw[É Z]
 rw[e];have hneg:kZ n1 n2 a b=true->0<a/Nat.gcd a b:=by
  unfold kZ; rw[æ]; intro h; simpa using h.2
 generalize kZ n1 n2 a b=n at *;generalize a/Nat.gcd a b=x at *;generalize b/Nat.gcd a b=y at *;unfold nrm;rw[É (by simp only; omega)];simp only[hc,Nat.div_one];congr 1;unfold kZ;rcases ę x with h | h
 .subst h;have:n=false:=by
   cases n
   .rfl
   exact absurd (hneg I) Z
  subst this; simp[qc]
 rw[hc,Nat.div_one,İ h,Bool.and_true];unfold qc;have hx:x≠0:=Z
 have hy:y≠0:=Z
 rw[É hx,É hy];cases n<;>decide
abbrev Ib(z:Int)(d:Nat):Ie (nz z d):=Um _ _ _ _
abbrev aiB(n1 n2:Bool)(a b:Nat):0<(nrm n1 n2 a b).2.2:=by
 unfold nrm;split
 .exact Nat.one_pos
 exact Nat.div_pos (Nat.le_of_dvd Z (ayM a b)) (ay8 a Z)
def qlen(K:Nat)(q:Bool×Nat×Nat):Prop:=(LZ q.2.1).length<=K∧(LZ q.2.2).length<=K
abbrev Dx:(LZ 1).length<=1:=Na.dn O
abbrev afT(z:Int)(d:Nat)(hK:1<=K)(h1:(LZ z.natAbs).length<=K)(h2:(LZ d).length<=K):qlen K (nz z d):=by
 unfold nz nrm;split
 .exact⟨by rw[jF]; simp,ï Dx hK⟩
 exact⟨ï (fF (ϔ _ _)) h1,ï (fF (ϔ _ _)) h2⟩
abbrev jG(h:qlen K q):(LZ (qz q).natAbs).length<=K:=by unfold qz; rw[kX]; exact h.1
abbrev fG{n:Nat}(h:(LZ n).length<=K):(LZ (n:Int).natAbs).length<=K:=by rw[Ť]; exact h
abbrev uj{L:Nat}(hK:1<=K)(h1:qlen K p)(h2:qlen L q):qlen (K+L) (oU p q):=by
 refine afT _ _ Z (gy _ _ (jG h1) (jG h2)) ?_;have:=gy p.2.2 q.2.2 (fG h1.2) (fG h2.2);rwa [show((p.2.2:Int)*(q.2.2:Int))=((p.2.2*q.2.2:Nat):Int) by simp,Ť]at this
abbrev afU{L:Nat}(hK:1<=K)(h1:qlen K p)(h2:qlen L q):qlen (K+L+1) (uh p q):=by
 refine afT _ _ Z (Gp _ _ (gy _ _ (jG h1) (fG h2.2)) (by rw[ŧ]; exact gy _ _ (jG h2) (fG h1.2))) ?_;have:=gy p.2.2 q.2.2 (fG h1.2) (fG h2.2);rw[show((p.2.2:Int)*(q.2.2:Int))=((p.2.2*q.2.2:Nat):Int) by simp,Ť]at this;omega
abbrev adb(p q:Bool×Nat×Nat):KH p (wB q)=uh p q:=by
 unfold KH uh;rw[alc,show(wB q).2.2=q.2.2 from rfl,Int.sub_eq_add_neg,Int.neg_mul]
abbrev ada(h:Ie q)(hp:0<q.2.2):Ie (wB q):=by
 obtain⟨n,a,b⟩:=q;unfold Ie wB at *;simp only at *;unfold nrm at *;rw[É Z]at h |-;simp only[Ô]at h |-;refine⟨?_,h.2⟩;have e1:=h.2.1;unfold kZ;rw[e1];rcases ę a with h0 | h0
 .subst h0; simp
 have hb:b≠0:=Z
 rw[İ h0,Bool.and_true,Bool.and_true];unfold qc;rw[É Z,É hb];cases n<;>decide
def dL(K:Nat)(w:Á)(v:À)(q:Bool×Nat×Nat):Prop:=
 ∃n1 s1 l1 n2 s2 l2,v = .agg #[.b n1,s1,.b n2,s2]∧aF w s1 l1∧aF w s2 l2∧l1.length<=K∧l2.length<=K∧nrm n1 n2 (Na.Pq l1) (Na.Pq l2)=q
abbrev dL.below{K:Nat}{w w':Á}{v:À}{q:Bool×Nat×Nat}(h:dL K w v q)(hb:Ext w w'):dL K w' v q:=by
 obtain⟨n1,s1,l1,n2,s2,l2,hv,h1,h2,h3,h4,h5⟩:=h; exact⟨n1,s1,l1,n2,s2,l2,hv,h1.below hb,h2.below hb,h3,h4,h5⟩
abbrev dL.shape{K:Nat}{w:Á}{v:À}{q:Bool×Nat×Nat}(h:dL K w v q):∃n1 a1 m1 c1 n2 a2 m2 c2,v = .agg #[.b n1,.s a1 m1 c1,.b n2,.s a2 m2 c2]:=by
 obtain⟨n1,s1,l1,n2,s2,l2,rfl,h1,h2,_⟩:=h;obtain⟨a1,c1,rfl⟩:=h1.shape;obtain⟨a2,c2,rfl⟩:=h2.shape;exact⟨_,_,_,_,_,_,_,_,I⟩
abbrev dL.nrm{K:Nat}{w:Á}{v:À}{q:Bool×Nat×Nat}(h:dL K w v q):Ie q:=by
 obtain⟨n1,s1,l1,n2,s2,l2,_,_,_,_,_,rfl⟩:=h; exact Um _ _ _ _
abbrev dL.pos{K:Nat}{w:Á}{v:À}{q:Bool×Nat×Nat}(h:dL K w v q):0<q.2.2:=by
 obtain⟨n1,s1,l1,n2,s2,l2,_,_,_,_,_,rfl⟩:=h; exact aiB _ _ _ _
abbrev dL.len{K:Nat}{w:Á}{v:À}{q:Bool×Nat×Nat}(h:dL K w v q)(hK:1<=K):qlen K q:=by
 obtain⟨n1,s1,l1,n2,s2,l2,_,_,_,h3,h4,rfl⟩:=h;have:=YT n1 n2 l1 l2;exact⟨Z,Z⟩
abbrev bn.toQ{w:Á}{r:bn}{K:Nat}(h:r.ok w)(hf:r.fit K):dL K w r.v r.q:=⟨r.n1,r.s1,r.l1,r.n2,r.s2,r.l2,I,h.1,h.2,hf.1,hf.2,I⟩
abbrev au.toQ{base K:Nat}{w:Á}{v:À}{q:Bool×Nat×Nat}(h:bF base w v q)(hn:Ie q)(hl:qlen K q):dL K w v q:=by
 obtain⟨s,t,rfl,hs,ht,_,_⟩:=h;exact⟨_,s,_,_,t,_,I,hs,ht,hl.1,hl.2,by rw[L6,L6]; exact hn⟩
abbrev au.parts'{base K:Nat}{w:Á}{n m:Bool}{s t:À}{q:Bool×Nat×Nat}(h:bF base w (.agg #[.b n,s,.b m,t]) q)(hl:qlen K q) :
  fK K w (.agg #[.b n,s]) (qz q)∧fK K w (.agg #[.b m,t]) (q.2.2:Int):=by
 obtain⟨s',t',e,hs,ht,_,_⟩:=h;simp only[Ŧ,ť,ģ,Value.bool.injEq,and_true]at e;obtain⟨rfl,rfl,rfl,rfl⟩:=e;exact⟨⟨_,_,_,I,hs,hl.1,by rw[L6]; rfl⟩,⟨_,_,_,I,ht,hl.2,by rw[L6]; rfl⟩⟩
