/- Walks of the reference on -/
import Derived.Test.YtodpgjjgaddkeaaGreatDoorPk2
set_option maxRecDepth 100000
set_option maxHeartbeats 9999999
open Go renaming World->E5,Value->y9,Calls->Nq
set_option linter.unusedVariables false
set_option linter.unusedSimpArgs false
open Go.Proofs.Tryz Go.RowKit
section
namespace Go.Proofs.Õ
open Na
variable{α:Type}
abbrev Nz (base:Nat)(w:E5)(v:y9)(l:List UInt32):Prop:=w.ownsRow base 119 1 v l.length (l.map bn)
variable{n base V:Nat}{w:E5}{e:TypeId}{v:y9}{xs:List y9}
abbrev dU(v:y9)(l:List UInt32)(w:E5)(J:aH w v l)(S:l.length<=1000000000) :
  Nq prog 254 #[v] w λe w'=>∃S,e = .R S∧Nz w.heap.size w' S (RI (Na.TR l))∧Ext w w':=by
 obtain⟨hd,S,hz,ht⟩:=Xd l;have ap:(RI (Na.TR l)).length<=l.length:=S;generalize hK0:(RI (Na.TR l)).length=K at *;have HV:=FU J;have HD:=FU hd;have HZ:=FU hz;have HT:=FU ht;obtain⟨a,cap,rfl⟩:=J.shape;clear J hd hz ht hK0;go_enter func254,ntmps254
 go_wp2_with fail
 go_loop [3] (λi=>∃k:Nat,K<=k∧k<=l.length∧i = .i k) (λi=>(intOf i).toNat)
 case atStart=>exact⟨l.length,S,Ç _,I⟩
 case round =>
  obtain⟨k,an,J,rfl⟩:=hrel;by_cases hkK:K<k
  .obtain⟨j,rfl⟩:∃j,k=j+1:=⟨k-1,Z⟩;obtain⟨b,o,c,J,ae,ah,hm,hc⟩:=dO HV.out I Z;simp only[Ĉ]at J;obtain⟨rfl,-,-⟩:=J;have S:=hc j Z;rw[HZ.out j Z Z]at S;clear hc;go_wp2
   go_round
   case rel=>exact⟨j,Z,Z,by go_num⟩
   case measure=>simp[intOf]
  obtain rfl:k=K:=by omega
  clear hkK an;obtain⟨D,ao,af,HG⟩:∃D:List UInt32,Hid (RI (Na.TR l)=D)∧Hid (D.length=k)∧Hid (∀i (h:i<D.length) (h2:i<l.length),D[i]=l[i]):=
   ⟨l.take k,HD.out,by show _=_; simp; omega,λi h h2=>by simp⟩
  have aq:D.length<=1000000000:=by rw[af.out]; omega
  clear HD;rcases k with _ | j;case' succ =>
   obtain⟨b,o,c,J,ae,ah,hm,hc⟩:=dO HV.out I Z;simp only[Ĉ]at J;obtain⟨rfl,-,-⟩:=J;have S:=hc j Z;clear hc;have S:((l[j].toNat:Int)==0)=false:=by
    rw[õ]; intro e; exact HT.out j Z I (Ř.1 (by simp; omega))
  all_goals
   go_wp2_with fail
   go_loopw [4,5] (λg i wr=>∃q:Nat,i = .i q∧q<=D.length∧wr.ownsRow w.heap.size 119 1 g q ((D.take q).map bn)∧Ext w wr) (λ_ i _=>D.length-(intOf i).toNat)
   case atStart=>exact⟨0,I,Î _,ϊ w #[] 0 (Ç _) (Î _) I,aI _ _⟩
   case round =>
    obtain⟨q,rfl,hq,S,aa⟩:=hrel
    by_cases hlt:q<D.length
    .have hlt2:=Nat.lt_of_lt_of_eq hlt af.out
     try exact absurd hlt2 (Nat.not_lt_zero _)
     all_goals
      have ab:q<l.length:=Z
      obtain⟨b,o,c,J,ae,ah,hm,hc⟩:=dO HV.out I Z
      simp only[Ĉ]at J
      obtain⟨J,-,-⟩:=J
      first | cases J | skip
      have J:wr.cell? ⟨b,o+q,none⟩=some (bn D[q]):=by rw[aa.cell (p:=⟨b,o+q,none⟩) ae,HG.out q hlt ab]; exact hc q ab
      clear hc
      have HS:Hid (D.take (q+1)=D.take q++[D[q]]):=take_snoc D q hlt
      have hr:=oD wr (bn D[q]) 119 I
      have J:=S.alloc (.cells #[bn D[q]] 119)
      have ai:w.heap.size<=wr.heap.size:=aa.size
      have ac:w.heap.size<=(wr.alloc (.cells #[bn D[q]] 119)).heap.size:=by simp; omega
      have al:q+1<=maxLen:=by unfold maxLen; omega
      have am:(q+1)*4<=140737488355328:=Z
      clear S
      go_wp2_with (at_builtin; refine bV I _ _ _ I mD w.heap.size J I hr I al am ac ?_; intro v2 w2 ag hg)
      go_roundw
      case rel =>
       refine⟨q+1,by go_num,Z,?_,(aa.alloc ai _).grown hg ac (λk hk=>(World.ownsRow.lt J k hk).1)⟩
       rw[HS.out,Ħ]; exact ag
      case measure=>simp[intOf]; omega
    .obtain rfl:q=D.length:=by omega
     have J:=ϛ af.out.symm
     rw[ħ]at S
     go_wp2_with fail
     go_ret
     exact⟨_,I,by rw[ao.out]; exact S,aa⟩
abbrev jF(v:y9)(l:List UInt32)(i:Nat)(w:E5)(S:aH w v l)(D:i<=9223372036854775807) :
  Nq prog 315 #[v,.i i] w λe w'=>e = .R (.int .u64 ((l.getD i 0).toNat:Int))∧w=w':=by
 obtain⟨a,cap,rfl,J,D⟩:=S;have hl:=rZ J D;have J:=FU D;clear D;have D:¬(i:Int)<0:=Z
 by_cases hlt:i<l.length
 .rcases J.out with ⟨rfl,_⟩ | ⟨b,o,rfl,hb,hlc,hc⟩
  .simp at hlt
  have D:=hc i hlt;clear hc;have e:l.getD i 0=l[i]:=by simp[List.getD,List.getElem?_eq_getElem hlt]
  rw[e];go_enter func315,ntmps315
  go_wp2
  go_ret
  exact⟨jO (ig _),I⟩
 have e:l.getD i 0=0:=by simp[List.getD,List.getElem?_eq_none (Nat.le_of_not_lt hlt)]
 rw[e];go_enter func315,ntmps315
 go_wp2
 go_ret
 exact⟨I,I⟩
abbrev Lh(v u:y9)(l m:List UInt32)(w:E5)(hv:aH w v l)(hu:aH w u m) :
  Nq prog 317 #[v,u] w (Ï w (.i (rV (Na.TR l) (Na.TR m)))):=by
 have hl:=hv.len;have hm:=hu.len;unfold maxLen at hl hm;have HV:=FU hv;have HU:=FU hu;obtain⟨a1,c1,rfl⟩:=hv.shape;obtain⟨a2,c2,rfl⟩:=hu.shape;clear hv hu;obtain⟨M,hM⟩:∃M,M=max l.length m.length:=⟨_,I⟩;have ac:max (l.length:Int) (m.length:Int)=(M:Int):=Z
 have ag:M<=9223372036854775807:=Z
 have HE:Hid (Na.TR (l.drop M)=Na.TR (m.drop M)):=by
  show _=_;rw[Ō Z,Ō Z]
 clear hM;go_enter func317,ntmps317
 go_wp2_with fail
 clear ac;go_loopw [5] (λi wr=>∃k:Nat,k<=M∧i = .i ((k:Int)-1)∧Na.TR (l.drop k)=Na.TR (m.drop k)∧Ext w wr) (λi _=>(intOf i+1).toNat)
 case atStart=>exact⟨M,Ç _,I,HE.out,ø _ _⟩
 case round =>
  obtain⟨k,hk,rfl,hd,D⟩:=hrel;have J:=FU hd;clear hd;cases k with
  | zero =>
   have hr:=FU (aac (show Na.TR l=Na.TR m from J.out));go_wp2_with fail
   go_ret
   exact⟨by rw[hr.out]; rfl,D⟩
  | succ j =>
   have hi:(((j+1:Nat):Int)-1)=(j:Int):=Z
   rw[hi];clear hi;have d0:=jF _ l j wr (HV.out.below D) Z;have d1:=jF _ m j wr (HU.out.below D) Z;have S:=@Na.aew l m j J.out;have aa:=@Na.aew m l j J.out.symm;have ab:=@Na.apG l m j J.out;have g0:=(l.getD j 0).toNat_lt;have g1:=(m.getD j 0).toNat_lt;generalize (l.getD j 0).toNat=x at *;generalize (m.getD j 0).toNat=y at *;have D0:=FU d0;have D1:=FU d1;clear d0 d1;rcases aGW x y with h | h | h
   .have hr:=FU (CW (S h));have h':(x:Int)<y:=Z
    clear S aa ab h;go_wp2_with fail
    refine D0.out.mono ?_;rintro e w' ⟨rfl,rfl⟩;go_wp2_with fail
    refine D1.out.mono ?_;rintro e w' ⟨rfl,rfl⟩;go_wp2_with fail
    go_ret
    exact⟨by rw[hr.out]; rfl,D⟩
   .have HQ:=FU (ab h);have ae:¬(x:Int)<y:=Z
    have af:¬(y:Int)<x:=Z
    clear S aa ab h;go_wp2_with fail
    refine D0.out.mono ?_;rintro e w' ⟨rfl,rfl⟩;go_wp2_with fail
    refine D1.out.mono ?_;rintro e w' ⟨rfl,rfl⟩;go_wp2_with fail
    refine D0.out.mono ?_;rintro e w' ⟨rfl,rfl⟩;go_wp2_with fail
    refine D1.out.mono ?_;rintro e w' ⟨rfl,rfl⟩;go_wp2_with fail
    go_roundw
    case rel=>exact⟨j,Z,I,HQ.out,D⟩
    case measure=>simp[intOf]
   have hr:=FU (Ho (aa h));have ae:¬(x:Int)<y:=Z
   have af:(y:Int)<x:=Z
   clear S aa ab h;go_wp2_with fail
   refine D0.out.mono ?_;rintro e w' ⟨rfl,rfl⟩;go_wp2_with fail
   refine D1.out.mono ?_;rintro e w' ⟨rfl,rfl⟩;go_wp2_with fail
   refine D0.out.mono ?_;rintro e w' ⟨rfl,rfl⟩;go_wp2_with fail
   refine D1.out.mono ?_;rintro e w' ⟨rfl,rfl⟩;go_wp2_with fail
   go_ret
   exact⟨by rw[hr.out]; rfl,D⟩
abbrev dgI(n:Nat):(n:Int)%4294967296=((UInt32.ofNat n).toNat:Int):=by simp
abbrev dvI(n:Nat):(n:Int)/4294967296=((n/Na.NZ:Nat):Int):=by simp[Na.NZ]
abbrev qc{f:α->y9}{l:List α}(hn:l.length=n)(h:w.ownsRow base e 1 v n (l.map f)):dG f w v l:=by
 subst hn; exact bC h
abbrev ahO:Na.NZ=4294967296:=rfl
abbrev RY(v:y9)(l:List UInt32)(D:Nat)(w:E5)(J:aH w v l)(S:D<4294967296)(hl:l.length<=100000000) :
  Nq prog 316 #[v,.int .u64 D] w λe w'=>∃v',e = .R v'∧Nz w.heap.size w' v' (RI (Na.TR l*D))∧Ext w w':=by
 have HV:=FU J;obtain⟨a1,c1,rfl⟩:=J.shape;clear J;go_enter func316,ntmps316
 go_wp2_with fail
 go_loopw [5,6,7,8] (λg S J _ wr=>∃(i c:Nat) (out:List UInt32),i<=l.length∧J = .i i∧S = .int .u64 c∧c<4294967296∧out.length=i∧Na.TR out+Na.NZ^i*c=Na.TR (l.take i)*D ∧
  wr.ownsRow w.heap.size 119 1 g i (out.map bn)∧Ext w wr) (λ_ _ J _ _=>l.length-(intOf J).toNat)
 case atStart=>exact⟨0,0,[],Î _,I,I,Z,I,by simp[Na.TR],ϊ w #[] 0 (Ç _) (Î _) I,aI _ _⟩
 case round =>
  obtain⟨i,c,out,hi,rfl,rfl,hc,S,J,ab,ac⟩:=hrel;have ae:=FU S;have qK:=FU J;have ag:w.heap.size<=wr.heap.size:=ac.size;have ah:i+1<=maxLen:=by unfold maxLen; omega
  have ai:(i+1)*4<=140737488355328:=Z
  clear S J;by_cases hlt:i<l.length
  .obtain⟨bx,ox,cx,hxs,hbx,hlx,hmx,hcx⟩:=dO HV.out I Z;simp only[Ĉ]at hxs;obtain⟨rfl,-,-⟩:=hxs;have J:wr.cell? ⟨bx,ox+i,none⟩=some (bn l[i]):=by rw[ac.cell (p:=⟨bx,ox+i,none⟩) hbx]; exact hcx i hlt
   clear hcx;have T0:=FU (Na.dD l i hlt);generalize l[i]=x at *;have J:=x.toNat_lt;have x0:=ig x;obtain⟨t,ht⟩:∃t,t=x.toNat*D:=⟨_,I⟩;have J:IntKind.u64.wrap ((x.toNat:Int)*(D:Int))=(t:Int):=by
    have J:x.toNat*D<=4294967295*4294967295:=ű Z Z;rw[ht,<-iG (x.toNat*D) Z]; simp
   have J:t<=18446744065119617025:=by rw[ht]; exact ű (show x.toNat<=4294967295 by omega) (show D<=4294967295 by omega)
   obtain⟨n,hn⟩:∃n,n=t+c:=⟨_,I⟩;have J:IntKind.u64.wrap ((t:Int)+(c:Int))=(n:Int):=by rw[hn,<-iG (t+c) Z]; simp
   have S:n<18446744073709551616:=Z
   have J:(n:Int)%4294967296=((UInt32.ofNat n).toNat:Int):=dgI n;have ap:(n:Int)/4294967296=((n/Na.NZ:Nat):Int):=dvI n;have an:n/Na.NZ<4294967296:=ό S;have af:=FU (Na.step_up ae.out qK.out hn);rw[ht]at af;generalize hq:n/Na.NZ=c' at *;obtain⟨d,hd⟩:∃d,UInt32.ofNat n=d:=⟨_,I⟩;rw[hd]at J af;have hr:=oD wr (bn d) 119 I;have J:=ab.alloc (.cells #[bn d] 119);have aa:w.heap.size<=(wr.alloc (.cells #[bn d] 119)).heap.size:=by simp; omega
   clear ab hn hq hd ht S;go_wp2_with (at_builtin; refine bV I _ _ _ I mD w.heap.size J I hr I ah ai aa ?_; intro v2 w2 S hg)
   go_roundw
   case rel =>
    refine⟨i+1,c',out++[d],Z,by go_num,I,an,by simp[ae.out],?_,by rw[Ħ]; exact S,(ac.alloc ag _).grown hg aa (λk hk=>(World.ownsRow.lt J k hk).1)⟩;rw[af.out,T0.out,Œ,Ĝ]
   case measure=>simp[intOf]; omega
  obtain rfl:i=l.length:=by omega
  obtain⟨d,rfl⟩:∃d:UInt32,c=d.toNat:=⟨UInt32.ofNat c,(dn Z).symm⟩;have aq:=d.toNat_lt;have ar:(d.toNat:Int)%4294967296=(d.toNat:Int):=Z
  have HD:Hid (Na.TR (out++[d])=Na.TR l*D):=by
   show _=_;rw[Na.jv,ae.out,qK.out,ħ]
  have al:Hid ((out++[d]).length=l.length+1):=by show _=_; simp[ae.out]
  have ao:Hid ((out++[d]).map bn=out.map bn++[bn d]):=by show _=_; simp
  have hr:=oD wr (bn d) 119 I;have J:=ab.alloc (.cells #[bn d] 119);have aa:w.heap.size<=(wr.alloc (.cells #[bn d] 119)).heap.size:=by simp; omega
  clear ab;go_wp2_with (at_builtin; refine bV I _ _ _ I mD w.heap.size J I hr I ah ai aa ?_; intro v2 w2 S hg)
  have am:=(ac.alloc ag _).grown hg aa (λk hk=>(World.ownsRow.lt J k hk).1);have HR:=FU (dU v2 (out++[d]) w2 (bC (by rw[al.out,ao.out]; exact S)) (by rw[al.out]; omega));rw[HD.out]at HR;have J:=FU am;clear S hg am;go_wp2_with fail
  refine HR.out.mono ?_;rintro e w' ⟨v',rfl,S,hb⟩;have HO:=FU (bF S J.out.size);have HB:=FU (Ip J.out hb);clear S hb;go_wp2_with fail
  go_ret
  exact⟨_,I,HO.out,HB.out⟩
abbrev abk{A C E J o:Nat}(h:A+E*J=o+C)(D:C<=A)(S:o<E):o=A-C:=by
 rcases ė J with D | D
 .subst D; omega
 have:E*1<=E*J:=Ę _ D;omega
abbrev Lj(v u:y9)(l m:List UInt32)(w:E5)(J:aH w v l)(S:aH w u m)(hl:l.length<=100000000)(D:Na.TR m<=Na.TR l) :
  Nq prog 289 #[v,u] w λe w'=>∃v',e = .R (.tuple #[v',.b true])∧Nz w.heap.size w' v' (RI (Na.TR l-Na.TR m))∧Ext w w':=by
 have HV:=FU J;have HU:=FU S;have HC:=FU (Lh v u l m w J S);obtain⟨a1,c1,rfl⟩:=J.shape;obtain⟨a2,c2,rfl⟩:=S.shape;have ap:¬rV (Na.TR l) (Na.TR m)<0:=by
  unfold rV; rw[UQ Z]; split<;>omega
 generalize rV (Na.TR l) (Na.TR m)=C at *;have ag:=FU D;clear J S D;go_enter func289,ntmps289
 go_wp2_with fail
 refine HC.out.mono ?_;rintro e w1 ⟨rfl,D⟩;have J:=FU D;have S:=D.size;clear D HC;go_wp2_with fail
 clear ap;go_loopw [6,7,8,9] (λg cv D _ wr=>∃(i c:Nat) (out:List UInt32),i<=l.length∧D = .i i∧cv = .int .u64 c∧c<=1∧out.length=i∧Na.TR (l.take i)+Na.NZ^i*c=Na.TR out+Na.TR (m.take i) ∧
  wr.ownsRow w.heap.size 119 1 g i (out.map bn)∧Ext w wr) (λ_ _ D _ _=>l.length-(intOf D).toNat)
 case atStart=>exact⟨0,0,[],Î _,I,I,Z,I,by simp[Na.TR],ϊ w1 #[] 0 S (Î _) I,Ip J.out (aI _ _)⟩
 case round =>
  obtain⟨i,c,out,S,rfl,rfl,hc,ao,ae,J,D⟩:=hrel;have S:=FU ao;have qK:=FU ae;have aq:w.heap.size<=wr.heap.size:=D.size;have ar:i+1<=maxLen:=by unfold maxLen; omega
  have av:(i+1)*4<=140737488355328:=Z
  clear ao ae;by_cases hlt:i<l.length
  .have d0:=jF _ l i wr (HV.out.below D) Z;have d1:=jF _ m i wr (HU.out.below D) Z;have g0:=(l.getD i 0).toNat_lt;have g1:=(m.getD i 0).toNat_lt;have t0:=jS l i;have t1:=jS m i;generalize (l.getD i 0).toNat=x at *;generalize (m.getD i 0).toNat=y at *;have D0:=FU d0;have D1:=FU d1;have T0:=FU t0;have T1:=FU t1;obtain⟨n,hn⟩:∃n,n=4294967296+x-y-c:=⟨_,I⟩;have ah:((4294967296:Int)+x-y-c)%4294967296=((UInt32.ofNat n).toNat:Int):=by rw[<-dgI,hn]; omega
   have aw:((4294967296:Int)+x-y-c)/4294967296=((n/Na.NZ:Nat):Int):=by rw[<-dvI,hn]; omega
   have ax:n/Na.NZ<=1:=by rw[hn,ahO]; omega
   have ai:x+Na.NZ*(1-n/Na.NZ)=n%Na.NZ+y+c:=by rw[hn,ahO]; omega
   have al:=FU (abx S.out qK.out ai);generalize n/Na.NZ=q at *;obtain⟨d,hd⟩:∃d,UInt32.ofNat n=d:=⟨_,I⟩;rw[hd]at ah al;have am:(1:Int)-(q:Int)=((1-q:Nat):Int):=Z
   have hr:=oD wr (bn d) 119 I;have aa:=J.alloc (.cells #[bn d] 119);have ab:w.heap.size<=(wr.alloc (.cells #[bn d] 119)).heap.size:=by simp; omega
   have Nc:=FU am;clear J d0 d1 t0 t1 hn hd ai am;go_wp2_with fail
   refine D0.out.mono ?_;rintro e w' ⟨rfl,rfl⟩;go_wp2_with fail
   refine D1.out.mono ?_;rintro e w' ⟨rfl,rfl⟩;go_wp2_with (at_builtin; refine bV I _ _ _ I mD w.heap.size aa I hr I ar av ab ?_; intro v2 w2 af hg)
   go_roundw
   case rel =>
    refine⟨i+1,1-q,out++[d],Z,by go_num,by rw[Nc.out],Z,by simp[S.out],?_,by rw[Ħ]; exact af,(D.alloc aq _).grown hg ab (λk hk=>(World.ownsRow.lt aa k hk).1)⟩;rw[T0.out,T1.out,al.out]
   case measure=>simp[intOf]; omega
  obtain rfl:i=l.length:=by omega
  have an:Na.TR (m.take l.length)=Na.TR m:=vw (Ϟ ag.out (Na.dS l));have HD:Hid (Na.TR out=Na.TR l-Na.TR m):=by
   have h:=qK.out;rw[ħ,an]at h;exact abk h ag.out (by have:=Na.dS out; rw[S.out]at this; exact this)
  have ac:=qc S.out J;have HR:=FU (dU _ out wr ac (by rw[S.out]; omega));rw[HD.out]at HR;have S:=FU D;clear J D an ac;go_wp2_with fail
  refine HR.out.mono ?_;rintro e w' ⟨v',rfl,D,J⟩;have HO:=FU (bF D S.out.size);have HB:=FU (Ip S.out J);clear D J;go_wp2_with fail
  go_ret2
  exact⟨_,I,HO.out,HB.out⟩
abbrev adI(v u:y9)(l m:List UInt32)(n:Nat)(w:E5)(hv:aH w v l)(hu:aH w u m)(hm:m.length=n+1)(aub:0<(m.getD n 0).toNat)(hlt:Na.TR l<Na.NZ*Na.TR m)(hl:l.length<=100000000)(hn:n<=10000000) :
  Nq prog 287 #[v,u] w λe w'=>∃v',e = .R (.tuple #[.int .u64 ((Na.TR l/Na.TR m:Nat):Int),v'])∧Nz w.heap.size w' v' (RI (Na.TR l%Na.TR m))∧Ext w w':=by
 have HV:=FU hv;have HU:=FU hu;obtain⟨a1,c1,rfl⟩:=hv.shape;obtain⟨bx,ox,cx,rfl,hbx,hlx,hmx,hcx⟩:=dO hu hm Z;have e:m.getD n 0=m[n]'Z:=by simp[List.getD,List.getElem?_eq_getElem (show n<m.length by omega)]
 have D1:Hid (∀nq,Nq prog 315 #[.s a1 l.length c1,.i ((n:Int)+1)] (w.drewN nq) λe w'=>e = .R (.int .u64 ((l.getD (n+1) 0).toNat:Int))∧w'=w.drewN nq):=λnq =>
  (jF _ l (n+1) _ (HV.out.below (below_drewN (ø _ _) nq)) Z).mono λ_ _ h=>⟨h.1,h.2.symm⟩
 have D0:Hid (∀nq,Nq prog 315 #[.s a1 l.length c1,.i n] (w.drewN nq) λe w'=>e = .R (.int .u64 ((l.getD n 0).toNat:Int))∧w'=w.drewN nq):=λnq =>
  (jF _ l (n) _ (HV.out.below (below_drewN (ø _ _) nq)) Z).mono λ_ _ h=>⟨h.1,h.2.symm⟩
 obtain⟨ao9,auc,hVp⟩:=Xf hm aub hlt;rw[e]at ao9 aub;have hml:Na.TR m<Na.NZ^(n+1):=by have:=Na.dS m; rw[hm]at this; exact this
 have hck:=hcx n Z;generalize m[n]'Z=t at *;have g0:=(l.getD n 0).toNat_lt;have g1:=(l.getD (n+1) 0).toNat_lt;generalize (l.getD n 0).toNat=x0 at *;generalize (l.getD (n+1) 0).toNat=x1 at *;obtain⟨T1,hT1⟩:∃T1,T1=x1*4294967296:=⟨_,I⟩;obtain⟨T,hT⟩:∃T,T=T1+x0:=⟨_,I⟩;obtain⟨q,hq⟩:∃q,q=T/t.toNat:=⟨_,I⟩;have k1:IntKind.i64.wrap (n:Int)=(n:Int):=IntWalk.i64_in _ Z;have k2:IntKind.u64.wrap ((x1:Int)*4294967296)=(T1:Int):=by rw[ŏ,hT1]; omega
 have k3:IntKind.u64.wrap ((T1:Int)+(x0:Int))=(T:Int):=by rw[ŏ,hT]; omega
 have k4:=ig t;have k5:(T:Int).tdiv (t.toNat:Int)=(q:Int):=by rw[Tc,hq]
 have k6:IntKind.u64.wrap (q:Int)=(q:Int):=by
  have:q<=T:=by rw[hq]; exact Μ _ _
  rw[ŏ]; omega
 have k7:((t.toNat:Int)==0)=false:=by rw[õ]; omega
 rw[<-hT1,<-hT,<-hq]at ao9;obtain⟨d0,hd0⟩:∃d0,d0=min q 4294967295:=⟨_,I⟩;have k8:min (q:Int) 4294967295=(d0:Int):=Z
 have aud:d0<4294967296:=Z
 have hd1:Na.TR l/Na.TR m<=d0:=Z
 have HQ:=FU hq;have HT:=FU hT;have HT1:=FU hT1;have HLT:=FU hlt;have HD1:=FU hd1;have HML:=FU hml;have HVP:=FU hVp;clear hv hu hcx e hT1 hT hq ao9 auc hd0 hd1 hlt hml hVp HQ HT HT1;go_enter func287,ntmps287
 go_wp2_with fail
 have K8:=FU k8;clear k8;go_quiet ((first | with_reducible exact Calls.quiet_of_same (D1.out _) | with_reducible exact Calls.quiet_of_same (D0.out _)))
 clear k1 k2 k3 k4 k5 k6 k7;have k8:=K8.out;go_wp2_with fail
 clear k8;refine(RY _ m d0 _ (HU.out.below (below_drewN (ø _ _) nq)) aud Z).mono ?_;rintro e w1 ⟨p,rfl,ho,hb⟩;have HB:=FU (Ip (below_drewN (ø w.heap.size w) nq) hb);have HP:=FU (bC ho);clear ho hb;go_wp2_with fail
 go_loopw [8,9] (λdv p wr=>∃d:Nat,dv = .int .u64 d∧d<4294967296∧Na.TR l/Na.TR m<=d∧aH wr p (RI (Na.TR m*d))∧Ext w wr) (λdv _ _=>(intOf dv).toNat)
 case atStart=>exact⟨d0,I,aud,HD1.out,HP.out,HB.out⟩
 case round =>
  obtain⟨d,rfl,hd,Zh,hp,hbel⟩:=hrel;have hlen:(RI (Na.TR m*d)).length<=n+2:=by
   apply Na.bJ;rw[ę];exact Nat.mul_lt_mul'' HML.out hd
  have HC:=FU (Lh _ _ _ _ wr hp (HV.out.below hbel));rw[RH]at HC;by_cases h:Na.TR l<Na.TR m*d
  .obtain⟨f1,f2,f3,f4⟩:=aby Zh h HVP.out;rw[Ho h]at HC;have HS:=FU (λw1 (h1:Ext wr w1)=>Lj _ _ _ _ w1 (hp.below h1) (HU.out.below (Ip hbel h1)) Z (by rw[RH]; exact f4));rw[RH,f3]at HS;have hdz:1<=d:=f1;have hd1:((d-1:Nat):Int)=(d:Int)-1:=Z
   have HD1:=FU hd1;have HF2:=FU f2;have RZ:=FU hbel;clear hp hbel Zh f1 f2 f3 f4 h hd1 hlen;go_wp2_with fail
   refine HC.out.mono ?_;rintro e w2 ⟨rfl,hb2⟩;have HS2:=FU (HS.out w2 hb2);have HB2:=FU (Ip RZ.out hb2);clear hb2 HS HC;go_wp2_with fail
   refine HS2.out.mono ?_;rintro e w3 ⟨p',rfl,ho,hb3⟩;have HO:=FU (bC ho);have HB3:=FU (Ip HB2.out hb3);clear ho hb3 HS2;go_wp2_with fail
   go_roundw
   case rel=>exact⟨d-1,by rw[HD1.out],Z,HF2.out,HO.out,HB3.out⟩
   case measure=>simp[intOf]; omega
  have hle:Na.TR m*d<=Na.TR l:=Z
  obtain⟨f1,f2⟩:=Xg Zh hle HVP.out;have hcp:¬(0:Int)<rV (Na.TR m*d) (Na.TR l):=by
   unfold rV; rw[UQ h]; split<;>omega
  have HS:=FU (λw1 (h1:Ext wr w1)=>Lj _ _ _ _ w1 (HV.out.below (Ip hbel h1)) (hp.below h1) hl (by rw[RH]; exact hle));rw[RH,f2]at HS;have HF1:=FU f1;have RZ:=FU hbel;generalize rV (Na.TR m*d) (Na.TR l)=cc at *;clear hp hbel Zh f1 f2 h hle hlen;go_wp2_with fail
  refine HC.out.mono ?_;rintro e w2 ⟨rfl,hb2⟩;have HS2:=FU (HS.out w2 hb2);have HB2:=FU (Ip RZ.out hb2);clear hb2 HS HC;go_wp2_with fail
  refine HS2.out.mono ?_;rintro e w3 ⟨p',rfl,ho,hb3⟩;have HO:=FU (bF ho HB2.out.size);have HB3:=FU (Ip HB2.out hb3);clear ho hb3 HS2;go_wp2_with fail
  go_ret2
  exact⟨_,by rw[<-HF1.out]; rfl,HO.out,HB3.out⟩
abbrev Ih{size:Nat}(h:w.ownsRow base e size v n xs):∃a cap,v = .s a n cap:=by
 rcases h.2 with ⟨D,J⟩ | ⟨g,cap,S,D,_⟩
 .exact⟨none,0,by rw[D,J]⟩
 exact⟨_,cap,D⟩
abbrev adJ(v:y9)(l:List UInt32)(p:Nat)(w:E5)(D:aH w v l)(S:p<=31)(hl:l.length<=100000000) :
  Nq prog 314 #[v,.i p] w λe w'=>∃v',e = .R v'∧Nz w.heap.size w' v' (RI (Na.TR l*2^p))∧Ext w w':=by
 have HV:=FU D;obtain⟨a1,c1,rfl⟩:=D.shape;clear D;have al:(p:Int)/32=0:=Z
 have D:(p:Int)%32=(p:Int):=Z
 have D:0<=maxLen:=Î _;have J:4*0<=281474976710656:=Z
 have hP:2^p<=2147483648:=ķ (n:=2) Z S;have S:=œ p;go_enter func314,ntmps314
 go_wp2_with (at_make; refine wpList_make_row I _ _ _ I mD I w.heap.size 0 I I I J D (Ç _) ?_; intro w1 J hg)
 have am:=gQ (ø w.heap.size w) hg (Ç _);have HO:=FU J;clear hg J;go_loopw [5,6,7,8] (λg cv D _ wr=>∃(i c:Nat) (out:List UInt32),i<=l.length∧D = .i i∧cv = .int .u64 c∧c<2^p∧out.length=i∧Na.TR out+Na.NZ^i*c=Na.TR (l.take i)*2^p ∧
  wr.ownsRow w.heap.size 119 1 g i (out.map bn)∧Ext w wr) (λ_ _ D _ _=>l.length-(intOf D).toNat)
 case atStart=>exact⟨0,0,[],Î _,I,I,S,I,by simp[Na.TR],HO.out,am⟩
 case round =>
  obtain⟨i,c,out,hi,rfl,rfl,hc,S,D,J,ab⟩:=hrel;have ac:=FU S;have qK:=FU D;have af:w.heap.size<=wr.heap.size:=ab.size;have ag:i+1<=maxLen:=by unfold maxLen; omega
  have ah:(i+1)*4<=140737488355328:=Z
  have aq:c<4294967296:=Z
  clear S D HO;by_cases hlt:i<l.length
  .obtain⟨bx,ox,cx,hxs,hbx,hlx,hmx,hcx⟩:=dO HV.out I Z;simp only[Ĉ]at hxs;obtain⟨rfl,-,-⟩:=hxs;have D:wr.cell? ⟨bx,ox+i,none⟩=some (bn l[i]):=by rw[ab.cell (p:=⟨bx,ox+i,none⟩) hbx]; exact hcx i hlt
   clear hcx;have T0:=FU (Na.dD l i hlt);generalize l[i]=x at *;have D:=x.toNat_lt;have x0:=ig x;obtain⟨t,S⟩:∃t,t=x.toNat*2^p:=⟨_,I⟩;have an:t<=4294967295*2^p:=by rw[S]; exact ō _ Z
   have D:IntKind.u64.wrap ((x.toNat:Int)*2^p)=(t:Int):=by
    rw[S,<-iG (x.toNat*2^p) Z]; simp
   obtain⟨n,hn⟩:∃n,n=t+c:=⟨_,I⟩;have D:IntKind.u64.wrap ((t:Int)+(c:Int))=(n:Int):=by rw[hn,<-iG (t+c) Z]; simp
   have D:(n:Int)%4294967296=((UInt32.ofNat n).toNat:Int):=dgI n;have ar:(n:Int)/4294967296=((n/Na.NZ:Nat):Int):=dvI n;have ao:n/Na.NZ<2^p:=ό (by rw[ahO]; omega);have ae:=FU (Na.step_up ac.out qK.out hn);rw[S]at ae;generalize hq:n/Na.NZ=c' at *;obtain⟨d,hd⟩:∃d,UInt32.ofNat n=d:=⟨_,I⟩;rw[hd]at D ae;have hr:=oD wr (bn d) 119 I;have D:=J.alloc (.cells #[bn d] 119);have aa:w.heap.size<=(wr.alloc (.cells #[bn d] 119)).heap.size:=by simp; omega
   clear J hn hq hd S an al;go_wp2_with (at_builtin; refine bV I _ _ _ I mD w.heap.size D I hr I ag ah aa ?_; intro v2 w2 S hg)
   go_roundw
   case rel =>
    refine⟨i+1,c',out++[d],Z,by go_num,I,ao,by simp[ac.out],?_,by rw[Ħ]; exact S,(ab.alloc af _).grown hg aa (λk hk=>(World.ownsRow.lt D k hk).1)⟩;rw[ae.out,T0.out,Œ,Ĝ]
   case measure=>simp[intOf]; omega
  obtain rfl:i=l.length:=by omega
  obtain⟨d,rfl⟩:∃d:UInt32,c=d.toNat:=⟨UInt32.ofNat c,(dn Z).symm⟩;have av:=d.toNat_lt;have aw:(d.toNat:Int)%4294967296=(d.toNat:Int):=Z
  have HD:Hid (Na.TR (out++[d])=Na.TR l*2^p):=by
   show _=_;rw[Na.jv,ac.out,qK.out,ħ]
  have ai:Hid ((out++[d]).length=l.length+1):=by show _=_; simp[ac.out]
  have ap:Hid ((out++[d]).map bn=out.map bn++[bn d]):=by show _=_; simp
  have hr:=oD wr (bn d) 119 I;have D:=J.alloc (.cells #[bn d] 119);have aa:w.heap.size<=(wr.alloc (.cells #[bn d] 119)).heap.size:=by simp; omega
  clear J;go_wp2_with (at_builtin; refine bV I _ _ _ I mD w.heap.size D I hr I ag ah aa ?_; intro v2 w2 S hg)
  have J:=(ab.alloc af _).grown hg aa (λk hk=>(World.ownsRow.lt D k hk).1);have HR:=FU (dU v2 (out++[d]) w2 (bC (by rw[ai.out,ap.out]; exact S)) (by rw[ai.out]; omega));rw[HD.out]at HR;have D:=FU J;clear S hg J;go_wp2_with fail
  refine HR.out.mono ?_;rintro e w' ⟨v',rfl,J,S⟩;have HO:=FU (bF J D.out.size);have HB:=FU (Ip D.out S);clear J S;go_wp2_with fail
  go_ret
  exact⟨_,I,HO.out,HB.out⟩
abbrev uh(v:y9)(l:List UInt32)(p:Nat)(w:E5)(J:aH w v l)(hp:p<=31)(hl:l.length<=100000000) :
  Nq prog 286 #[v,.i p] w λe w'=>∃D,e = .R D∧Nz w.heap.size w' D (RI (Na.TR l*2^p))∧Ext w w':=by
 have S:=FU (adJ v l p w J hp hl);obtain⟨a1,c1,rfl⟩:=J.shape;clear J;have J:min (p:Int) 4096=(p:Int):=Z
 have J:(0:Int)<=(p:Int):=Z
 go_enter func286,ntmps286
 go_wp2_with fail
 refine S.out.mono ?_;rintro e w' ⟨D,rfl,J,S⟩;have D:=FU J;have HB:=FU S;clear J S;go_wp2_with fail
 go_ret
 exact⟨_,I,D.out,HB.out⟩
abbrev NC(v:y9)(l:List UInt32)(p:Nat)(w:E5)(D:aH w v l)(hp:0<p)(J:p<=31)(hl:l.length<=100000000) :
  Nq prog 286 #[v,.i (-(p:Int))] w λe w'=>∃v',e = .R v'∧Nz w.heap.size w' v' (RI (Na.TR l/2^p))∧Ext w w':=by
 have HV:=FU D;obtain⟨a1,c1,rfl⟩:=D.shape;clear D;have D:¬(0:Int) <= -(p:Int):=Z
 by_cases h0:l.length=0
 .obtain rfl:l=[]:=Ś h0;have ab : -(p:Int)<0:=Z
  clear h0;go_enter func286,ntmps286
  go_wp2_with fail
  go_ret
  refine⟨_,I,?_,aI _ _⟩;rw[show RI (Na.TR []/2^p)=[] by simp[Na.TR,RI,Na.lK]];exact ϊ w #[] 0 (Ç _) (Î _) I
 have an:¬-(p:Int) < -32*(l.length:Int):=Z
 have ao:(p:Int)/32=0:=Z
 have J:(p:Int)%32=(p:Int):=Z
 have J:=AV p l;have HS:Hid (Na.TR (Na.shr p l)=Na.TR l/2^p):=Z7 p Z l;have HG:Hid (∀i (h:i<l.length) (h2:i<(Na.shr p l).length),(Na.shr p l)[i]=UInt32.ofNat (((l.getD i 0).toNat+Na.NZ*(l.getD (i+1) 0).toNat)/2^p)):=λi h _=>Z5 p l i h;generalize Na.shr p l=S at *;have aa:=FU J;clear J;go_enter func286,ntmps286
 go_wp2_with fail
 clear an ao D h0;go_loopw [5,6,7] (λg D _ wr=>∃i:Nat,i<=l.length∧D = .i i∧wr.ownsRow w.heap.size 119 1 g i ((S.take i).map bn)∧Ext w wr) (λ_ D _ _=>l.length-(intOf D).toNat)
 case atStart=>exact⟨0,Î _,I,ϊ w #[] 0 (Ç _) (Î _) I,aI _ _⟩
 case round =>
  obtain⟨i,hi,rfl,J,D⟩:=hrel;have ap:w.heap.size<=wr.heap.size:=D.size;have aq:i+1<=maxLen:=by unfold maxLen; omega
  have ar:(i+1)*4<=140737488355328:=Z
  by_cases ab:i<l.length
  .have d0:=jF _ l i wr (HV.out.below D) Z;have d1:=jF _ l (i+1) wr (HV.out.below D) Z;have g0:=(l.getD i 0).toNat_lt;have g1:=(l.getD (i+1) 0).toNat_lt;have ac:=HG.out i ab (by rw[aa.out]; exact ab);have ai:=take_snoc S i (by rw[aa.out]; exact ab);generalize (l.getD i 0).toNat=x0 at *;generalize (l.getD (i+1) 0).toNat=x1 at *;obtain⟨N,hN⟩:∃N,N=x0+Na.NZ*x1:=⟨_,I⟩;rw[<-hN]at ac;have ax:(x1:Int)*4294967296+(x0:Int)=(N:Int):=by rw[hN,ahO]; omega
   have av:(N:Int)/2^p%4294967296=((UInt32.ofNat (N/2^p)).toNat:Int):=NR N p;rw[<-ac]at av;have D0:=FU d0;have D1:=FU d1;generalize S[i]'(by rw[aa.out]; exact ab)=d at *;have aw:=FU ai;have hr:=oD wr (bn d) 119 I;have ae:=J.alloc (.cells #[bn d] 119);have af:w.heap.size<=(wr.alloc (.cells #[bn d] 119)).heap.size:=by simp; omega
   clear J d0 d1 hN ac ai;go_wp2_with fail
   refine D1.out.mono ?_;rintro e w' ⟨rfl,rfl⟩;go_wp2_with fail
   refine D0.out.mono ?_;rintro e w' ⟨rfl,rfl⟩;go_wp2_with (at_builtin; refine bV I _ _ _ I mD w.heap.size ae I hr I aq ar af ?_; intro v2 w2 ah hg)
   go_roundw
   case rel =>
    refine⟨i+1,Z,by go_num,?_,(D.alloc ap _).grown hg af (λk hk=>(World.ownsRow.lt ae k hk).1)⟩;rw[aw.out,Ħ]; exact ah
   case measure=>simp[intOf]; omega
  obtain rfl:i=l.length:=by omega
  have al:S.take l.length=S:=Ď (by rw[aa.out]; exact Ç _);rw[al]at J;have ag:=qc aa.out J;have HR:=FU (dU _ S wr ag (by rw[aa.out]; omega));rw[HS.out]at HR;have am:=FU D;clear ag J D al;go_wp2_with fail
  refine HR.out.mono ?_;rintro e w' ⟨v',rfl,D,J⟩;have HO:=FU (bF D am.out.size);have HB:=FU (Ip am.out J);clear D J;go_wp2_with fail
  go_ret
  exact⟨_,I,HO.out,HB.out⟩
abbrev ahP(x j:Nat):(((x/2^j:Nat):Int))/2=((x/2^(j+1):Nat):Int):=by
 rw[ę,<-Nat.div_div_eq_div_mul]; rfl
abbrev ND(v:y9)(l:List UInt32)(w:E5)(J:aH w v l)(D:l.length<=1000000000) :
  Nq prog 278 #[v] w (Ï w (.i (bl (Na.TR l):Int))):=by
 have hd:=dB l;have ea:=RH (Na.TR l);have na:=Na.gZ (Na.TR l);have C1:=FU (dU v l w J D);clear J;rw[<-ea];generalize RI (Na.TR l)=a at *;by_cases h0:a.length=0
 .obtain rfl:a=[]:=Ś h0;clear ea h0;go_enter func278,ntmps278
  go_wp2_with fail
  refine C1.out.mono ?_;rintro e w' ⟨x,rfl,S,hb⟩;obtain⟨D,J,rfl⟩:=Ih S;go_wp2_with fail
  go_ret
  exact⟨I,hb⟩
 obtain⟨m,hm⟩:∃m,a.length=m+1:=⟨a.length-1,Z⟩;have J:a[m]'Z≠0:=by
  have:=Na.vk na Z;simpa[hm]using this
 have D:∀c:Nat,2^(c-1)<=(a[m]'Z).toNat->(a[m]'Z).toNat<2^c->1<=c->bl (Na.TR (a.take m++[a[m]'Z]))=32*(a.take m).length+c:=λc h1 h2 h3=>aad (a.take m) (a[m]'Z) J c h1 h2 h3;have e1:a.take m++[a[m]'Z]=a:=by
  rw[<-ĸ Z,<-hm,ħ]
 rw[e1]at D;have e2:(a.take m).length=m:=by simp; omega
 rw[e2]at D;have aa:=FU D;have HM:=FU hm;have af:(m:Int)<=1000000000:=Z
 have ag:0<(a[m]'Z).toNat:=Nat.pos_of_ne_zero λe=>J (Ř.1 (by simpa using e));have ab:((m:Int)+1==0)=false:=by rw[õ]; omega
 have ac:=(a[m]'Z).toNat_lt;clear ea na D e1 e2 J h0;go_enter func278,ntmps278
 go_wp2_with fail
 refine C1.out.mono ?_;rintro e w1 ⟨x,rfl,S,hb⟩;have S:=bC S;obtain⟨bx,ox,cx,rfl,J,al,am,D⟩:=dO S hm Z;have J:=D m Z;have HB:=FU hb;generalize a[m]'Z=c at *;clear D S hb hm C1;go_wp2_with fail
 clear ab;have D:Hid ((c.toNat:Int)=((c.toNat/2^0:Nat):Int)):=by show _=_; simp
 go_loopw [4,5] (λD tv J=>∃j:Nat,D = .i (32*(m:Int)+j)∧j<=32∧tv = .int .u32 ((c.toNat/2^j:Nat):Int)∧(j=0∨2^(j-1)<=c.toNat)∧Ext w J) (λ_ tv _=>(intOf tv).toNat)
 case atStart=>exact⟨0,by simp,Z,by simp[bn],.inl I,HB.out⟩
 case round =>
  obtain⟨j,rfl,S,rfl,J,D⟩:=hrel;have HJ:=FU J;have HH:=FU (ahP c.toNat j);clear J;obtain⟨T,S⟩:∃T,c.toNat/2^j=T:=⟨_,I⟩;rw[S]at HH |-;by_cases hz:0<T
  .have HT:=FU S;have J:Hid (2^j<=c.toNat):=by
    show _<=_;rcases ĩ c.toNat (2^j)with h | h
    .rw[aGV h]at S; omega
    exact h
   have ah:j<=31:=by
    rcases ĩ 31 j with h | h
    .have:2^32<=2^j:=ķ Z h;have:=J.out; omega
    exact h
   clear S;go_wp2_with fail
   go_roundw
   case rel =>
    have ai:c.toNat/2^(j+1)<4294967296:=Ϟ (Μ _ _) ac;have hw:(T:Int)/2=((c.toNat/2^(j+1):Nat):Int)∧(T:Int)/2%4294967296=((c.toNat/2^(j+1):Nat):Int):=by
     have hh:=HH.out;generalize c.toNat/2^(j+1)=A01 at *;omega
    exact⟨j+1,G9 Z,Z,(by first | exact G9 hw.2 | exact G9 hw.1),.inr (by simpa using J.out),D⟩
   case measure=>simp[intOf]; omega
  obtain rfl:T=0:=by omega
  have J:c.toNat<2^j:=by
   rcases ĩ c.toNat (2^j)with h | h
   .exact h
   have:=Nat.div_pos h (œ j); omega
  have ae:1<=j:=by
   rcases ė j with h | h
   .subst h; simp at J; omega
   exact h
  have hr:bl (Na.TR a)=32*m+j:=aa.out j (by rcases HJ.out with h | h; omega; exact h) J ae;have HR:=FU hr;clear S J hr hz;go_wp2_with fail
  go_ret
  exact⟨jO (by rw[HR.out]; omega),D⟩
abbrev ahQ(n:Nat):Na.NZ^n=2^(32*n):=by rw[Nat.pow_mul]; rfl
abbrev Wq(h:(RI V).length=n+1):Na.NZ^n<=V∧V<Na.NZ^(n+1):=by
 have D:=Na.Eu (Na.gZ V) Z;have J:=Na.dS (RI V);rw[RH,h]at D J;exact⟨D,J⟩
abbrev Ws(J:Na.NZ^n<=V)(D:V<Na.NZ^(n+1)):(RI V).length=n+1:=by
 have J:=Na.bJ D;rcases ĩ (RI V).length (n+1)with h | h
 .have h4:=Na.dS (RI V);rw[RH]at h4;have D:Na.NZ^(RI V).length<=Na.NZ^n:=ķ Na.kN Z;omega
 omega
abbrev ZE(h:(RI V).length=n+1):32*n+1<=bl V∧bl V<=32*(n+1)∧∀p,bl V+p=32*(n+1)->(RI (V*2^p)).length=n+1:=by
 obtain⟨S,h2⟩:=Wq h;have D:V≠0:=by have:=Ϯ (n:=n) Na.kN; omega
 have hb:bl V=Nat.log2 V+1:=by unfold bl; rw[UQ D]
 have J:=Nat.log2_self_le D;have D:V<2^(Nat.log2 V+1):=Nat.lt_log2_self;rw[hb];generalize Nat.log2 V=k at *;have e1:32*n<k+1:=by
  rw[ahQ]at S;exact(Nat.pow_lt_pow_iff_right (by omega:1<2)).1 (Ϟ S D)
 have e2:k<32*(n+1):=by
  rw[ahQ]at h2;exact(Nat.pow_lt_pow_iff_right (by omega:1<2)).1 (Ϟ J h2)
 refine⟨Z,Z,λp J=>?_⟩;apply Ws
 .exact ä S (Nat.le_mul_of_pos_right _ (œ p))
 rw[ahQ,<-J,Ž];exact aHc D (œ p)
abbrev adK{l:List UInt32}(h:Na.norm l)(hl:l.length=n+1):0<(l.getD n 0).toNat:=by
 have D:=Na.vk h Z;simp only[hl,Nat.add_sub_cancel]at D;have e:l.getD n 0=l[n]'Z:=by simp[List.getD,List.getElem?_eq_getElem (show n<l.length by omega)]
 rw[e];exact Nat.pos_of_ne_zero λJ=>D (Ř.1 (by simpa using J))
abbrev akz{g:Nat}(h:w.ownsRow base e 1 v n xs)(D:g<base)(o:Nat)(x:y9):(w.setCell ⟨g,o,none⟩ x).ownsRow base e 1 v n xs:=
 aem h ((Ch.refl g w).setCell o x) D
abbrev Aj(v u:y9)(l m:List UInt32)(w:E5)(hv:aH w v l)(hu:aH w u m)(hm:0<Na.TR m)(hll:l.length<=5000000)(J:m.length<=5000000) :
  Nq prog 255 #[v,u] w λe w'=>∃q r,e = .R (.tuple #[q,r,.i 0])∧Nz w.heap.size w' q (RI (Na.TR l/Na.TR m))∧Nz w.heap.size w' r (RI (Na.TR l%Na.TR m))∧Ext w w':=by
 have bv:=dB m;have bw:=Na.gZ (Na.TR m);have C1:=FU (dU u m w hu Z);have HV:=FU hv;obtain⟨a1,c1,rfl⟩:=hv.shape;obtain⟨a2,c2,rfl⟩:=hu.shape;have J:(RI (Na.TR m)).length≠0:=λh=>by have:=pU h; omega
 obtain⟨n,hn⟩:∃n,(RI (Na.TR m)).length=n+1:=⟨(RI (Na.TR m)).length-1,Z⟩;obtain⟨S,dq,bs⟩:=ZE hn;obtain⟨p,hp⟩:∃p,bl (Na.TR m)+p=32*(n+1):=⟨32*(n+1)-bl (Na.TR m),Z⟩;have VE:p<=31:=Z
 have S:=bs p hp;have a6:0<Na.TR m*2^p:=Ϡ hm (œ p);have bz:(RI (Na.TR l*2^p)).length<=l.length+1:=by
  apply Na.bJ;rw[ę];refine Nat.mul_lt_mul_of_lt_of_le (Na.dS l) ?_ Na.kN;have:2^p<=2^32:=ķ Z Z;exact this
 have ap:Hid (∀Q R,Q*(Na.TR m*2^p)+R=Na.TR l*2^p->R<Na.TR m*2^p->Q=Na.TR l/Na.TR m∧R/2^p=Na.TR l%Na.TR m∧(p=0->R=Na.TR l%Na.TR m)):=by
  intro Q R h hR;obtain⟨e1,e2⟩:=aey h hR;rw[Nat.mul_div_mul_right _ _ (œ p)]at e1;rw[Nat.mul_mod_mul_right]at e2;refine⟨e1,by rw[e2,Nat.mul_div_cancel _ (œ p)],λh0=>by rw[e2,h0]; simp⟩
 have ca:32*((n:Int)+1)-(bl (Na.TR m):Int)=(p:Int):=Z
 have cb:(bl (Na.TR m):Int)<=32*((n:Int)+1):=Z
 have dh:n<=5000000:=Z
 have C2:=λ(x:y9) (w1:E5) (h:aH w1 x (RI (Na.TR m)))=>ND x _ w1 h Z;have C3:=λ(x:y9) (w1:E5) (h:aH w1 x (RI (Na.TR m)))=>uh x _ p w1 h VE Z;rw[RH]at C2 C3;have a7:=FU C2;have a8:=FU C3;clear C2 C3;have cc:((n:Int)+1==0)=false:=by rw[õ]; omega
 have HN:=FU hn;have ae:=FU S;have a9:=FU a6;clear hv hu bs hp hn S a6 bv bw J;go_enter func255,ntmps255
 go_wp2_with fail
 refine C1.out.mono ?_;rintro e w1 ⟨t,rfl,J,S⟩;have HT:=FU (bC J);have cd:=FU S;obtain⟨dr,ct,rfl⟩:=Ih J;rw[HN.out]at HT |-;clear J S C1;go_wp2_with fail
 refine(a7.out _ w1 HT.out).mono ?_;rintro e w2 ⟨rfl,S⟩;have J:=FU (Ip cd.out S);have bb:=FU (HT.out.below S);clear S a7 HT;go_wp2_with fail
 refine(uh _ l p w2 (HV.out.below J.out) VE Z).mono ?_;rintro e w3 ⟨x,rfl,hx,S⟩;have ce:=FU (Ip J.out S);have HX:=FU (bC hx);have J:=FU (bb.out.below S);obtain⟨ax,cx,rfl⟩:=Ih hx;clear S hx bb;go_wp2_with fail
 refine(a8.out _ w3 J.out).mono ?_;rintro e w4 ⟨y,rfl,hy,S⟩;have bc:=FU (Ip ce.out S);have bd:=FU (HX.out.below S);have cf:=FU (bC hy);clear S hy HX J a8;generalize hU:Na.TR l*2^p=U at *;generalize hW:Na.TR m*2^p=V at *;obtain⟨N,J⟩:∃N,(RI U).length=N:=⟨_,I⟩;have aq:=FU J;have cg:N<=maxLen:=by unfold maxLen; omega
 have ci:4*N<=281474976710656:=Z
 have di:N<=6000000:=Z
 rw[J]at bd |-;clear hU hW J bz;have J:=bc.out.size;go_wp2_with (at_make; refine wpList_make_row I _ _ _ I mD I w4.heap.size N I I I ci cg (Ç _) ?_; intro w5 J hg)
 have be:=gQ (ø w4.heap.size w4) hg (Ç _);have dj:w4.heap.size<w5.heap.size:=(J.lt w4.heap.size I).2;have HO:=FU J;have cj:=FU be;clear hg J be cc cb ca;go_wp2_with fail
 go_loopw [12,13,14,15,16,17] (λrv iv _ _ _ _ wr=>∃(k R:Nat) (q:List UInt32),k+q.length=N∧iv = .i ((k:Int)-1) ∧
  Na.TR q*V+R=Na.TR ((RI U).drop k)∧R<V∧Nz (w4.heap.size+1) wr rv (RI R) ∧
  wr.ownsRow w4.heap.size 119 1 (.s (some ⟨w4.heap.size,0,none⟩) N N) N ((List.replicate k 0++q).map bn)∧Ext w4 wr) (λ_ iv _ _ _ _ _=>(intOf iv+1).toNat)
 case atStart =>
  refine⟨N,0,[],by simp,I,?_,a9.out,?_,?_,cj.out.alloc Z _⟩
  .rw[Ō (by rw[aq.out]; exact Ç _)]; simp[Na.TR]
  .exact ϊ w5 #[] 0 Z (Î _) I
  have:=HO.out.alloc (.cells #[] 119);simpa[bn]using this
 case round =>
  obtain⟨k,R,q,bt,rfl,ao,hR,hr,J,ac⟩:=hrel;have ar:=FU bt;have qK:=FU ao;have av:=FU hr;have HW:=FU J;have dk:=ac.size;have dl:k<=N:=Z
  clear bt ao hr J;cases k with
  | zero =>
   obtain⟨e1,e2,e3⟩:=ap.out (Na.TR q) R (by have:=qK.out; rw[Ϻ,RH]at this; exact this) hR;have HE:=FU (And.intro e1 (And.intro e2 e3));have ab:aH wr (.s (some ⟨w4.heap.size,0,none⟩) N N) q:=by
    have h1:=ar.out;have h2:=HW.out;simp only[Ϝ,Ģ]at h2;exact qc Z h2
   have HQ:=FU (dU _ q wr ab (by have:=ar.out; omega));have am:=bC av.out;have ck:(RI R).length<=6000000:=by
    have h1:=fO (Δ hR);rw[ae.out]at h1; omega
   have aw:=FU am;have RZ:=FU (Ip bc.out ac);clear e1 e2 e3 ab am ap ac;go_wp2_with fail
   refine HQ.out.mono ?_;rintro e w6 ⟨x,rfl,hx,S⟩;have bg:=FU (bF hx RZ.out.size);have aa:=FU (Ip RZ.out S);have bh:=FU (aw.out.below S);clear hx S HQ;rcases ė p with h0 | h0
   .subst h0;have HS:=uh _ _ 0 w6 bh.out Z Z;rw[RH,Nat.pow_zero,Nat.mul_one,HE.out.F I]at HS;have ay:=FU HS;clear HS;go_wp2_with fail
    refine ay.out.mono ?_;rintro e w7 ⟨y,rfl,hy,S⟩;have af:=FU (bF hy aa.out.size);have az:=FU (dF bg.out S);have ag:=FU (Ip aa.out S);clear hy S;go_wp2_with fail
    go_ret3
    exact⟨_,_,I,by rw[<-HE.out.1]; exact az.out,af.out,ag.out⟩
   have HS:=NC _ _ p w6 bh.out h0 VE Z;rw[RH,HE.out.2.1]at HS;have ay:=FU HS;clear HS;go_wp2_with fail
   refine ay.out.mono ?_;rintro e w7 ⟨y,rfl,hy,S⟩;have af:=FU (bF hy aa.out.size);have az:=FU (dF bg.out S);have ag:=FU (Ip aa.out S);clear hy S;go_wp2_with fail
   go_ret3
   exact⟨_,_,I,by rw[<-HE.out.1]; exact az.out,af.out,ag.out⟩
  | succ j =>
   have hi:(((j+1:Nat):Int)-1)=(j:Int):=Z
   rw[hi];clear hi;obtain⟨bx,ox,ds,ai,df,dt,du,bu⟩:=dO bd.out aq.out Z;simp only[Ĉ]at ai;obtain⟨rfl,-,rfl⟩:=ai;have bj:j<(RI U).length:=by rw[aq.out]; omega
   have cm:wr.cell? ⟨bx,ox+j,none⟩=some (bn (RI U)[j]):=by rw[ac.cell (p:=⟨bx,ox+j,none⟩) df]; exact bu j bj
   have HD:=FU (oG (RI U) j bj);clear bu;generalize (RI U)[j]=x at *;have bk:=x.toNat_lt;obtain⟨f1,f2,f3⟩:=abz (u:=x.toNat) a9.out hR bk qK.out;have HF:=FU (And.intro f1 (And.intro f2 f3));have bm:x.toNat+Na.NZ*R<Na.NZ*V:=by
    have h1:Na.NZ*(R+1)<=Na.NZ*V:=Ę _ hR;rw[Ŕ]at h1;have:x.toNat<Na.NZ:=bk;omega
   have bo:=FU bm;have ck:(RI R).length<=n+1:=by
    have h1:=fO (Δ hR);rw[ae.out]at h1; exact h1
   have aw:=FU (bC av.out);obtain⟨ra,rc,rfl⟩:=Ih av.out;have RZ:=FU ac;clear f1 f2 f3 bm ap;go_wp2_with fail
   obtain⟨wo,rfl⟩:∃wo:E5,wo=wr:=⟨_,I⟩;have dm:(((RI R).length:Nat):Int)<=6000000:=Z
   go_loopw [14,15] (λnv kv wr=>∃i:Nat,i<=(RI R).length∧kv = .i i∧wr.ownsRow wo.heap.size 119 1 nv (1+i) ((x::(RI R).take i).map bn)∧Ext wo wr) (λ_ kv _=>(RI R).length-(intOf kv).toNat)
   case atStart=>exact⟨0,Î _,I,ϊ (base:=wo.heap.size) wo #[bn x] 1 (Ç _) (by unfold maxLen; omega) I,aI _ _⟩
   case round =>
    obtain⟨i,hi,rfl,J,al⟩:=hrel;have cn:wo.heap.size<=wr.heap.size:=al.size;have co:1+i+1<=maxLen:=by unfold maxLen; omega
    have cq:(1+i+1)*4<=140737488355328:=Z
    by_cases hlt:i<(RI R).length
    .obtain⟨br,or,cr,ai,hbr,hlr,hmr,hcr⟩:=dO aw.out I Z;simp only[Ĉ]at ai;obtain⟨rfl,-,-⟩:=ai;have cm:wr.cell? ⟨br,or+i,none⟩=some (bn (RI R)[i]):=by rw[al.cell (p:=⟨br,or+i,none⟩) hbr]; exact hcr i hlt
     have cu:Hid ((x::(RI R).take (i+1)).map bn=(x::(RI R).take i).map bn++[bn (RI R)[i]]):=by show _=_; rw[take_snoc (RI R) i hlt]; simp only[đ,Ħ,ĵ,Ĵ]
     clear hcr;generalize (RI R)[i]=d at *;have hr:=oD wr (bn d) 119 I;have ah:=J.alloc (.cells #[bn d] 119);have an:wo.heap.size<=(wr.alloc (.cells #[bn d] 119)).heap.size:=by simp; omega
     clear J;go_wp2_with (at_builtin; refine bV I _ _ _ I mD wo.heap.size ah I hr I co cq an ?_; intro v2 w2 a5 hg)
     go_roundw
     case rel =>
      refine⟨i+1,Z,by go_num,?_,(al.alloc cn _).grown hg an (λk hk=>(World.ownsRow.lt ah k hk).1)⟩;rw[cu.out]; exact a5
     case measure=>simp[intOf]; omega
    obtain rfl:i=(RI R).length:=by omega
    rw[ħ]at J;have ab:=qc (l:=x::RI R) (by simp; omega) J;have a3:=dU _ (x::RI R) wr ab (by simp; omega);have eN:Na.TR (x::RI R)=x.toNat+Na.NZ*R:=by show _+_=_; rw[RH]
    rw[eN]at a3;have bp:=FU a3;have cw:=FU al;clear ab a3 eN J al;generalize hNn:x.toNat+Na.NZ*R=Ó at *;have J:(RI Ó).length<=n+2:=by
     apply Na.bJ;have h1:=bo.out;have h2:=(Wq ae.out).2;have J:Na.NZ*V<Na.NZ*Na.NZ^(n+1):=aHb h2 Na.kN;rw[ĕ Na.NZ (Na.NZ^(n+1)),<-ę]at J;exact Nat.lt_trans h1 J
    go_wp2_with fail
    refine bp.out.mono ?_;rintro e w6 ⟨z,rfl,hz,S⟩;have HZ:=FU (bC hz);have aa:=FU (Ip cw.out S);have cy:=FU (Ip RZ.out aa.out);have J:=adI z y (RI Ó) (RI V) n w6 HZ.out (cf.out.below cy.out) ae.out (adK (Na.gZ V) ae.out) (by rw[RH,RH]; exact bo.out) Z Z;rw[RH,RH]at J;have a4:=FU J;obtain⟨D,hD⟩:∃D,Ó/V=D:=⟨_,I⟩;rw[hD]at a4 HF;have cz:D<4294967296:=HF.out.2.1;clear hz S J bp hD;go_wp2_with fail
    refine a4.out.mono ?_;rintro e w7 ⟨J,rfl,hy,S⟩;have af:=FU hy;have ag:=FU (Ip aa.out S);have bq:=FU (dF HW.out (Ip aa.out S));have c0:=FU (Ip RZ.out ag.out);have da:w4.heap.size+1<=w6.heap.size:=by
     have h1:=(World.ownsRow.lt HW.out w4.heap.size I).2;have h2:=aa.out.size;omega
    obtain⟨⟨cv,J⟩,dx⟩:=su bq.out j Z;have J:(D:Int)%4294967296=((UInt32.ofNat D).toNat:Int):=dgI D;have J:=(bq.out.stored j (bn (UInt32.ofNat D)));rw[Ħ,aGX,Hg]at J;have db:=FU J;have de:Hid ((UInt32.ofNat D).toNat=D):=dn cz;generalize UInt32.ofNat D=dd at *;clear hy S a4 J HW;go_wp2_with fail
    go_roundw
    case rel =>
     have J:=de.out;subst J;refine⟨j,Ó%V,dd::q,?_,I,?_,HF.out.F,?_,?_,?_⟩
     .have:=ar.out; simp; omega
     .rw[HD.out,<-HF.out.1];rfl
     .exact akz (bF af.out da) Z j _
     .have:=db.out.1;simpa[bn]using this
     exact c0.out.setCell (p:=⟨w4.heap.size,j,none⟩) (Ç _) _
    case measure=>simp[intOf]
end Go.Proofs.Õ
namespace Na
variable{out:List UInt32}{j c A x V:Nat}
abbrev abl(l:List UInt32):∀(j:Nat) (d:UInt32),j<l.length->TR (l.set j d)+NZ^j*(l.getD j 0).toNat=TR l+NZ^j*d.toNat:=by
 induction l with
 | nil=>intro j d h; simp at h
 | cons c l ih =>
  intro j d h;cases j with
  | zero=>simp[TR]; omega
  | succ j =>
   have D:=ih j d (by simpa using h);have J:(c::l).getD (j+1) 0=l.getD j 0:=by simp[List.getD]
   rw[J,List.set_cons_succ];simp only[TR,ę];rw[ĕ (NZ^j) NZ,Ĝ,Ĝ];have J:NZ*(TR (l.set j d)+NZ^j*(l.getD j 0).toNat)=NZ*(TR l+NZ^j*d.toNat):=by rw[D]
   rw[ó,ó]at J;omega
abbrev ahR{n t:Nat}(J:j<out.length)(D:TR out+NZ^j*c=A)(hn:n=t+(out.getD j 0).toNat+c) :
  TR (out.set j (UInt32.ofNat n))+NZ^(j+1)*(n/NZ)=A+NZ^j*t:=by
 have D:=abl out j (UInt32.ofNat n) J;rw[dg]at D;have D:=ř n NZ;have J:NZ^j*(n%NZ)+NZ^(j+1)*(n/NZ)=NZ^j*n:=by rw[ę,Ĝ,<-ó,D]
 have D:NZ^j*n=NZ^j*t+NZ^j*(out.getD j 0).toNat+NZ^j*c:=by rw[hn,ó,ó]
 omega
abbrev akA(J:j<out.length)(D:TR out+NZ^j*c=A)(S:out.getD j 0=0)(hc:c<NZ):TR (out.set j (UInt32.ofNat c))=A:=by
 have D:=abl out j (UInt32.ofNat c) J;rw[dg,S,Ξ hc]at D;simp at D;omega
abbrev Pz{k:Nat}{d:UInt32}(h:j<k):(out.set j d).getD k 0=out.getD k 0:=by
 simp only[List.getD,List.getElem?_set];rw[UQ Z]
abbrev akB{ą y:Nat}(i k:Nat):ą+NZ^i*(x*V)+NZ^(i+k)*(x*y)=ą+NZ^i*(x*(V+NZ^k*y)):=by
 rw[Ž,ó x,ó (NZ^i),Ĝ (NZ^i),ύ x (NZ^k)];omega
abbrev ahS{W:Nat}(i:Nat):V*W+NZ^i*(x*W)=(V+NZ^i*x)*W:=by rw[Œ,Ĝ]
def Clear(j:Nat)(l:List UInt32):Prop:=∀i,j<=i->l.getD i 0=0
abbrev Clear.set{j k:Nat}{l:List UInt32}{d:UInt32}(h:Clear j l)(hk:k<j):Clear j (l.set k d):=λi D=>by rw[Pz Z]; exact h i D
abbrev Clear.apc{j:Nat}{l:List UInt32}{d:UInt32}(h:Clear j l):Clear (j+1) (l.set j d):=λi D=>by rw[Pz Z]; exact h i Z
abbrev Clear.mono{j k:Nat}{l:List UInt32}(h:Clear j l)(hk:j<=k):Clear k l:=λi D=>h i Z
abbrev adL(n:Nat):Clear 0 (List.replicate n 0):=λi _=>by
 simp only[List.getD,List.getElem?_replicate]; split<;>rfl
end Na
end
namespace Go.Proofs.Õ
section
open Na
variable{α:Type}
abbrev ahT{x y o c:Nat}(J:x<4294967296)(S:y<4294967296)(D:o<4294967296)(hc:c<4294967296):∃t s n:Nat,t=x*y∧s=t+o∧n=s+c ∧
  IntKind.u64.wrap ((x:Int)*(y:Int))=(t:Int)∧IntKind.u64.wrap ((t:Int)+(o:Int))=(s:Int)∧IntKind.u64.wrap ((c:Int)+(s:Int))=(n:Int)∧n<18446744073709551616:=by
 have D:x*y<=4294967295*4294967295:=ű Z Z;refine⟨x*y,x*y+o,x*y+o+c,I,I,I,Vz J S,?_,?_,Z⟩
 .rw[<-iG (x*y+o) Z]; simp
 rw[<-iG (x*y+o+c) Z]; congr 1; omega
abbrev ZF(v u:y9)(l m:List UInt32)(w:E5)(hv:aH w v l)(hu:aH w u m)(hl:l.length<=50000000)(hm:m.length<=50000000) :
  Nq prog 298 #[v,u] w λe w'=>∃a,e = .R (.s a (RI (Na.TR l*Na.TR m)).length (RI (Na.TR l*Na.TR m)).length) ∧
   aH w' (.s a (RI (Na.TR l*Na.TR m)).length (RI (Na.TR l*Na.TR m)).length) (RI (Na.TR l*Na.TR m))∧Ext w w':=by
 have hd1:=dB l;have a4:=dB m;have e1:=RH (Na.TR l);have e2:=RH (Na.TR m);have S1:=FU (short_any v l w hv);have S2:=FU (short_any u m w hu);obtain⟨a1,c1,rfl⟩:=hv.shape;obtain⟨a2,c2,rfl⟩:=hu.shape;clear hv hu;rw[<-e1,<-e2];generalize RI (Na.TR l)=Ó at *;generalize RI (Na.TR m)=Ŀ at *;have hX:Ó.length<=50000000:=Z
 have hY:Ŀ.length<=50000000:=Z
 obtain⟨N,hN⟩:∃N,N=Ó.length+Ŀ.length:=⟨_,I⟩;have a5:((Ó.length:Int)+(Ŀ.length:Int))=(N:Int):=Z
 have bk:N<=100000000:=Z
 have a6:N<=maxLen:=by unfold maxLen; omega
 have a7:4*N<=281474976710656:=Z
 have HN:=FU hN;clear hN e1 e2 hd1 a4 hl hm;go_enter func298,ntmps298
 go_wp2_with fail
 go_step3
 go_wp2_with fail
 refine S1.out.mono ?_;rintro e w' ⟨b1,rfl,h1,rfl⟩;have H1:=FU h1;clear h1 S1;go_wp2_with fail
 refine S2.out.mono ?_;rintro e w' ⟨b2,rfl,h2,rfl⟩;have H2:=FU h2;clear h2 S2;go_wp2_with (at_make; refine wpList_make_row I _ _ _ I mD I w.heap.size N I I I a7 a6 (Ç _) ?_; intro w1 D hg)
 have a8:=gQ (ø w.heap.size w) hg (Ç _);clear hg;have HO:=FU D;clear D a5;try go_step3
 go_wp2_with fail
 go_loopw [23] (λiv wr=>∃(i:Nat) (out:List UInt32),i<=Ó.length∧iv = .i i∧out.length=N∧Na.TR out=Na.TR (Ó.take i)*Na.TR Ŀ∧Na.Clear (i+Ŀ.length) out ∧
  wr.ownsRow w.heap.size 119 1 (.s (some ⟨w.heap.size,0,none⟩) N N) N (out.map bn)∧Ext w wr) (λiv _=>Ó.length-(intOf iv).toNat)
 case atStart=>exact⟨0,List.replicate N 0,Î _,I,by simp,by rw[NP]; simp[Na.TR],(Na.adL N).mono (Î _),by simpa[bn]using HO.out,a8⟩
 case round =>
  obtain⟨i,out,hi,rfl,ar,ag,av,D,ah⟩:=hrel;have ae:=FU ar;have qK:=FU ag;have HW:=FU D;have HC:=FU av;have HB:=FU ah;clear ar ag D av HO ah;by_cases hlt:i<Ó.length
  .obtain⟨bx,ox,cx,hxs,hbx,hlx,hmx,hcx⟩:=dO H1.out I Z;simp only[Ĉ]at hxs;obtain⟨rfl,-,-⟩:=hxs;have a9:wr.cell? ⟨bx,ox+i,none⟩=some (bn Ó[i]):=by rw[HB.out.cell (p:=⟨bx,ox+i,none⟩) hbx]; exact hcx i hlt
   have T0:=FU (Na.dD Ó i hlt);generalize Ó[i]=x at *;have g0:=x.toNat_lt;have x0:=ig x;clear hcx;by_cases hz:x.toNat=0
   .have an:((x.toNat:Int)==0)=true:=by rw[ß]; omega
    have HZ:=FU hz;clear hz;go_wp2_with fail
    go_roundw
    case rel =>
     refine⟨i+1,out,Z,by go_num,ae.out,?_,HC.out.mono Z,HW.out,HB.out⟩;rw[qK.out,T0.out,HZ.out]; simp
    case measure=>simp[intOf]; omega
   have an:((x.toNat:Int)==0)=false:=by rw[õ]; omega
   obtain⟨wo,rfl⟩:∃wo:E5,wo=wr:=⟨_,I⟩;clear hz;go_wp2_with fail
   clear a9 an;go_loopw [8,32] (λcv kv wr=>∃(k c:Nat) (o2:List UInt32),k<=Ŀ.length∧kv = .i k∧cv = .int .u64 c∧c<4294967296∧o2.length=N∧Na.TR o2+Na.NZ^(i+k)*c=Na.TR out+Na.NZ^i*(x.toNat*Na.TR (Ŀ.take k)) ∧
    Na.Clear (i+Ŀ.length) o2∧wr.ownsRow w.heap.size 119 1 (.s (some ⟨w.heap.size,0,none⟩) N N) N (o2.map bn)∧Ext w wr) (λ_ kv _=>Ŀ.length-(intOf kv).toNat)
   case atStart=>exact⟨0,0,out,Î _,I,I,Z,ae.out,by simp[Na.TR],HC.out,HW.out,HB.out⟩
   case round =>
    obtain⟨k,c,o2,hk,rfl,rfl,hc,aw,ax,ay,ac,az⟩:=hrel;have af:=FU aw;have ai:=FU ax;have S:=FU ac;have al:=FU ay;have am:=FU az;have ao:i+Ŀ.length<N:=by have:=HN.out; omega
    clear aw ax ac ay az HW HC HB ae;by_cases hkl:k<Ŀ.length
    .obtain⟨by',oy,cy,hys,azD,hly,hmy,hcy⟩:=dO H2.out I Z;simp only[Ĉ]at hys;obtain⟨rfl,-,-⟩:=hys;have bm:wr.cell? ⟨by',oy+k,none⟩=some (bn Ŀ[k]):=by rw[am.out.cell (p:=⟨by',oy+k,none⟩) azD]; exact hcy k hkl
     have T1:=FU (Na.dD Ŀ k hkl);generalize Ŀ[k]=y at *;have bb:i+k<N:=Z
     have ab:i+k<o2.length:=by rw[af.out]; exact bb
     have bc:=S.out.cellAt (i+k) Z;rw[List.getElem?_map,List.getElem?_eq_getElem ab,ě]at bc;have ap:o2.getD (i+k) 0=o2[i+k]:=by simp[List.getD,List.getElem?_eq_getElem ab]
     have bd:=S.out.frozenAt (i+k);generalize o2[i+k]=o at *;have g1:=y.toNat_lt;have g2:=o.toNat_lt;have y0:=ig y;have o0:=ig o;obtain⟨t,s,n,ht,hs,hn,bj,bo,bp,a3⟩:=ahT g0 g1 g2 hc;have aa:=FU (Na.ahR (t:=t) ab ai.out (show n=t+(o2.getD (i+k) 0).toNat+c by rw[ap]; omega));rw[ht]at aa;have aq:(n:Int)%4294967296=((UInt32.ofNat n).toNat:Int):=dgI n;have bh:(n:Int)/4294967296=((n/Na.NZ:Nat):Int):=dvI n;have be:n/Na.NZ<4294967296:=ό a3;generalize hq:n/Na.NZ=c' at *;obtain⟨d,hd⟩:∃d,UInt32.ofNat n=d:=⟨_,I⟩;rw[hd]at aq aa;have J:=S.out.stored (i+k) (bn d);rw[<-Ű]at J;have HS:=FU J;clear hcy J ap ht hs hn hq hd a3 S ai;go_wp2_with fail
     go_roundw
     case rel =>
      refine⟨k+1,c',o2.set (i+k) d,Z,by go_num,I,be,by rw[List.length_set]; exact af.out,?_,al.out.set Z,HS.out.1,am.out.setCell (p:=⟨w.heap.size,i+k,none⟩) (Ç _) _⟩;rw[<-Ο,aa.out,T1.out,Na.akB]
     case measure=>simp[intOf]; omega
    obtain rfl:k=Ŀ.length:=by omega
    have ab:i+Ŀ.length<o2.length:=by rw[af.out]; exact ao
    have aa:=FU (Na.akA ab ai.out (al.out _ (Ç _)) hc);obtain⟨d,rfl⟩:∃d:UInt32,c=d.toNat:=⟨UInt32.ofNat c,(dn hc).symm⟩;rw[show UInt32.ofNat d.toNat=d by simp]at aa;obtain⟨⟨cv,bg⟩,bd⟩:=su S.out (i+Ŀ.length) ao;have J:=S.out.stored (i+Ŀ.length) (bn d);rw[<-Ű]at J;have HS:=FU J;clear J;go_wp2_with fail
    go_roundw
    case rel =>
     refine⟨i+1,o2.set (i+Ŀ.length) d,Z,by go_num,by rw[List.length_set]; exact af.out,?_,by rw[show i+1+Ŀ.length=i+Ŀ.length+1 by omega]; exact al.out.apc,HS.out.1,am.out.setCell (p:=⟨w.heap.size,i+Ŀ.length,none⟩) (Ç _) _⟩;rw[aa.out,qK.out,ħ,Na.ahS,T0.out]
    case measure=>simp[intOf]; omega
  obtain rfl:i=Ó.length:=by omega
  have hs:=short_any _ _ _ (qc ae.out HW.out);rw[qK.out,ħ]at hs;have HS:=FU hs;clear hs;go_wp2_with fail
  refine HS.out.mono ?_;rintro e w' ⟨a',rfl,hr,rfl⟩;have HR:=FU hr;clear hr;go_wp2_with fail
  try rw[Exit.noGoto_ret]
  go_ret
  exact⟨_,I,HR.out,HB.out⟩
abbrev set_mid(out:List α)(k:Nat)(z x:α):(out++List.replicate (k+1) z).set out.length x=(out++[x])++List.replicate k z:=by
 rw[List.set_append_right _ _ (Ç _),Λ,ϡ,List.set_cons_zero,ç]; rfl
abbrev ZG(v u:y9)(l m:List UInt32)(w:E5)(hv:aH w v l)(D:aH w u m)(hl:l.length<=100000000)(J:m.length<=100000000) :
  Nq prog 328 #[v,u] w λe w'=>∃a,e = .R (.s a (RI (Na.TR l+Na.TR m)).length (RI (Na.TR l+Na.TR m)).length) ∧
   aH w' (.s a (RI (Na.TR l+Na.TR m)).length (RI (Na.TR l+Na.TR m)).length) (RI (Na.TR l+Na.TR m))∧Ext w w':=by
 have HV:=FU hv;have HU:=FU D;obtain⟨a1,c1,rfl⟩:=hv.shape;obtain⟨a2,c2,rfl⟩:=D.shape;clear hv D;obtain⟨M,hM⟩:∃M,M=max l.length m.length:=⟨_,I⟩;have J:max (l.length:Int) (m.length:Int)=(M:Int):=Z
 obtain⟨N,hN⟩:∃N,N=M+1:=⟨_,I⟩;have S:(M:Int)+1=(N:Int):=Z
 have D:N<=100000001:=Z
 have HE:Hid (Na.TR (l.take N)=Na.TR l∧Na.TR (m.take N)=Na.TR m∧Na.TR l+Na.TR m<Na.NZ^N):=by
  refine⟨by rw[Ď Z],by rw[Ď Z],?_⟩;rw[hN];have h1:=Na.dS l;have h2:=Na.dS m;have h3:Na.NZ^l.length<=Na.NZ^M:=ķ O Z;have D:Na.NZ^m.length<=Na.NZ^M:=ķ O Z;have D:Na.NZ^M*2<=Na.NZ^M*Na.NZ:=Ę _ O;rw[ę];generalize Na.NZ^M*Na.NZ=q at *;generalize Na.NZ^M=p at *;omega
 have D:N<=maxLen:=by unfold maxLen; omega
 have ah:4*N<=281474976710656:=Z
 clear hM hN;go_enter func328,ntmps328
 go_wp2_with (at_make; refine wpList_make_row I _ _ _ I mD I w.heap.size N I I I ah D (Ç _) ?_; intro w1 D hg)
 clear J S;have S:=gQ (ø w.heap.size w) hg (Ç _);clear hg;have HO:=FU D;clear D;go_loopw [6,17] (λcv J wr=>∃(i c k:Nat) (out:List UInt32),i+k=N∧J = .i i∧cv = .int .u64 c∧c<=1∧out.length=i∧Na.TR out+Na.NZ^i*c=Na.TR (l.take i)+Na.TR (m.take i) ∧
  wr.ownsRow w.heap.size 119 1 (.s (some ⟨w.heap.size,0,none⟩) N N) N ((out++List.replicate k 0).map bn)∧Ext w wr) (λ_ J _=>N-(intOf J).toNat)
 case atStart=>exact⟨0,0,N,[],Z,I,I,Z,I,by simp[Na.TR],by simpa[bn]using HO.out,S⟩
 case round =>
  obtain⟨i,c,k,out,af,rfl,rfl,S,ag,aa,D,J⟩:=hrel;have S:=FU ag;have qK:=FU aa;have HW:=FU D;have am:i<=N:=Z
  have ab:=FU af;clear ag aa D HO af;by_cases hlt:i<N
  .obtain⟨k',rfl⟩:∃k',k=k'+1:=⟨k-1,by have:=ab.out; omega⟩;have d0:=qM _ l i wr (HV.out.below J) Z;have d1:=qM _ m i wr (HU.out.below J) Z;have D:=(l.getD i 0).toNat_lt;have D:=(m.getD i 0).toNat_lt;have t0:=jS l i;have t1:=jS m i;generalize (l.getD i 0).toNat=x at *;generalize (m.getD i 0).toNat=y at *;have D0:=FU d0;have D1:=FU d1;have T0:=FU t0;have T1:=FU t1;obtain⟨n,hn⟩:∃n,n=x+y+c:=⟨_,I⟩;have D:((c:Int)+((x:Int)+y))%4294967296=((UInt32.ofNat n).toNat:Int):=by
    rw[show(c:Int)+((x:Int)+y)=(n:Int) by omega,dgI]
   have al:((c:Int)+((x:Int)+y))/4294967296=((n/Na.NZ:Nat):Int):=by
    rw[show(c:Int)+((x:Int)+y)=(n:Int) by omega,dvI]
   have ai:n/Na.NZ<=1:=by rw[hn,ahO]; omega
   have ac:=FU (Na.step_up S.out qK.out hn);generalize hq:n/Na.NZ=c' at *;obtain⟨d,hd⟩:∃d,UInt32.ofNat n=d:=⟨_,I⟩;rw[hd]at D ac;obtain⟨⟨cv,D⟩,an⟩:=su HW.out i hlt;have D:=HW.out.stored i (bn d);have ae:((out++List.replicate (k'+1) 0).map bn).set i (bn d)=((out++[d])++List.replicate k' 0).map bn:=by rw[<-Ű,<-S.out,set_mid]
   rw[ae]at D;have HS:=FU D;clear d0 d1 t0 t1 hn hq hd D ae;go_wp2_with fail
   refine D0.out.mono ?_;rintro e w' ⟨rfl,rfl⟩;go_wp2_with fail
   refine D1.out.mono ?_;rintro e w' ⟨rfl,rfl⟩;go_wp2_with fail
   go_roundw
   case rel =>
    refine⟨i+1,c',k',out++[d],by have:=ab.out; omega,by go_num,I,ai,by simp[S.out],?_,HS.out.1,J.setCell (p:=⟨w.heap.size,i,none⟩) (Ç _) _⟩;rw[ac.out,T0.out,T1.out,ó]; omega
   case measure=>simp[intOf]; omega
  obtain rfl:i=N:=by omega
  obtain rfl:k=0:=by have:=ab.out; omega
  have D:aH wr (.s (some ⟨w.heap.size,0,none⟩) i i) out:=by
   have:=HW.out;rw[Ϝ,ĳ]at this;exact qc S.out this
  have hv:Na.TR out=Na.TR l+Na.TR m:=by
   have h1:=qK.out;rw[HE.out.1,HE.out.2.1]at h1;have h2:=HE.out.F;have h3:c=0:=by
    rcases ė c with h | h
    .exact h
    have:=Ę (Na.NZ^i) h;omega
   rw[h3]at h1;omega
  have S:=short_any _ _ _ D;rw[hv]at S;have HS:=FU S;clear S D hv;go_wp2_with fail
  refine HS.out.mono ?_;rintro e w' ⟨S,rfl,D,rfl⟩;have S:=FU D;clear D;go_wp2_with fail
  go_ret
  exact⟨_,I,S.out,J⟩
abbrev adM(v u:y9)(l m:List UInt32)(w:E5)(S:aH w v l)(hu:aH w u m)(D:Na.TR l<Na.TR m) :
  Nq prog 329 #[v,u] w (Ï w (.tuple #[.sn,.z])):=by
 have J:=CX v u l m w S hu;rw[CW D]at J;have HC:=FU J;obtain⟨a1,c1,rfl⟩:=S.shape;obtain⟨a2,c2,rfl⟩:=hu.shape;clear J S hu D;go_enter func329,ntmps329
 go_wp2_with fail
 refine HC.out.mono ?_;rintro e w' ⟨rfl,D⟩;have J:=FU D;clear D;go_wp2_with fail
 go_ret2
 exact⟨I,J.out⟩
abbrev adN(v u:y9)(l m:List UInt32)(w:E5)(hv:aH w v l)(J:aH w u m)(hl:l.length<=100000000)(D:Na.TR m<=Na.TR l) :
  Nq prog 329 #[v,u] w λe w'=>∃a,e = .R (.tuple #[.s a (RI (Na.TR l-Na.TR m)).length (RI (Na.TR l-Na.TR m)).length,.b true]) ∧
   aH w' (.s a (RI (Na.TR l-Na.TR m)).length (RI (Na.TR l-Na.TR m)).length) (RI (Na.TR l-Na.TR m))∧Ext w w':=by
 have S:=FU (CX v u l m w hv J);have ax:=yE D;have am:=dB l;have HV:=FU hv;have HU:=FU J;obtain⟨a1,c1,rfl⟩:=hv.shape;obtain⟨a2,c2,rfl⟩:=J.shape;clear hv J;obtain⟨M,J⟩:∃M,M=(RI (Na.TR l)).length:=⟨_,I⟩;have HE:Hid (Na.TR (l.take M)=Na.TR l∧Na.TR (m.take M)=Na.TR m∧Na.TR l<Na.NZ^M):=by
  have h1:Na.TR l<Na.NZ^M:=by
   have:=Na.dS (RI (Na.TR l));rw[RH,<-J]at this; exact this
  exact⟨vw h1,vw Z,h1⟩
 have an:=FU D;have HM:=FU J;have ay:M<=100000000:=Z
 have ao:M<=maxLen:=by unfold maxLen; omega
 have ap:4*M<=281474976710656:=Z
 generalize rV (Na.TR l) (Na.TR m)=cc at *;clear J D am;go_enter func329,ntmps329
 go_wp2_with fail
 refine S.out.mono ?_;rintro e w0 ⟨rfl,J⟩;have S:=FU J;have D:=short_any _ l w0 (HV.out.below J);rw[<-HM.out]at D;have aq:=FU D;clear D J;go_wp2_with fail
 refine aq.out.mono ?_;rintro e w' ⟨D,rfl,-,rfl⟩;go_wp2_with (at_make; refine wpList_make_row I _ _ _ I mD I w0.heap.size M I I I ap ao (Ç _) ?_; intro w1 D J)
 have ar:=Ip S.out (gQ (ø w0.heap.size w0) J (Ç _));have ae:=S.out.size;clear J;have HO:=FU D;clear D;go_loopw [7,20] (λcv J wr=>∃(i c k:Nat) (out:List UInt32),i+k=M∧J = .i i∧cv = .int .u64 c∧c<=1∧out.length=i∧Na.TR (l.take i)+Na.NZ^i*c=Na.TR out+Na.TR (m.take i) ∧
  wr.ownsRow w0.heap.size 119 1 (.s (some ⟨w0.heap.size,0,none⟩) M M) M ((out++List.replicate k 0).map bn)∧Ext w wr) (λ_ J _=>M-(intOf J).toNat)
 case atStart=>exact⟨0,0,M,[],Z,I,I,Z,I,by simp[Na.TR],by simpa[bn]using HO.out,ar⟩
 case round =>
  obtain⟨i,c,k,out,ag,rfl,rfl,hc,ah,ab,D,J⟩:=hrel;have S:=FU ah;have qK:=FU ab;have HW:=FU D;have az:i<=M:=Z
  have ac:=FU ag;clear ah ab D HO ag;by_cases hlt:i<M
  .obtain⟨k',rfl⟩:∃k',k=k'+1:=⟨k-1,by have:=ac.out; omega⟩;have d0:=qM _ l i wr (HV.out.below J) Z;have d1:=qM _ m i wr (HU.out.below J) Z;have D:=(l.getD i 0).toNat_lt;have g1:=(m.getD i 0).toNat_lt;have t0:=jS l i;have t1:=jS m i;generalize (l.getD i 0).toNat=x at *;generalize (m.getD i 0).toNat=y at *;have D0:=FU d0;have D1:=FU d1;have T0:=FU t0;have T1:=FU t1;obtain⟨a3,r,c',hZ,hr,a4,aw,ai,al⟩:=Kz x y c D g1 hc;obtain⟨d,rfl⟩:∃d:UInt32,r=d.toNat:=⟨UInt32.ofNat r,(dn ai).symm⟩;have av:Hid (Na.TR (l.take (i+1))+Na.NZ^(i+1)*c'=Na.TR (out++[d])+Na.TR (m.take (i+1))):=by
    show _=_;have h1:=qK.out;rw[T0.out,T1.out,Na.jv,S.out,ę];have h2:Na.NZ^i*(x+Na.NZ*c')=Na.NZ^i*(d.toNat+y+c):=by rw[al]
    rw[ó,ó,ó,<-Ĝ]at h2;omega
   obtain⟨⟨cv,D⟩,a5⟩:=su HW.out i hlt;have D:=HW.out.stored i (bn d);have af:((out++List.replicate (k'+1) 0).map bn).set i (bn d)=((out++[d])++List.replicate k' 0).map bn:=by rw[<-Ű,<-S.out,set_mid]
   rw[af]at D;have HS:=FU D;clear d0 d1 t0 t1 D af al ai;go_wp2_with fail
   refine D0.out.mono ?_;rintro e w' ⟨rfl,rfl⟩;go_wp2_with fail
   refine D1.out.mono ?_;rintro e w' ⟨rfl,rfl⟩;go_wp2_with fail
   go_roundw
   case rel =>
    exact⟨i+1,c',k',out++[d],by have:=ac.out; omega,by go_num,I,aw,by simp[S.out],av.out,HS.out.1,J.setCell (p:=⟨w0.heap.size,i,none⟩) ae _⟩
   case measure=>simp[intOf]; omega
  obtain rfl:i=M:=by omega
  obtain rfl:k=0:=by have:=ac.out; omega
  have D:aH wr (.s (some ⟨w0.heap.size,0,none⟩) i i) out:=by
   have:=HW.out;rw[Ϝ,ĳ]at this;exact qc S.out this
  have hv:Na.TR out=Na.TR l-Na.TR m:=by
   have h1:=qK.out;rw[HE.out.1,HE.out.2.1]at h1;have h2:=Na.dS out;rw[S.out]at h2;exact abk h1 an.out h2
  have S:=short_any _ _ _ D;rw[hv]at S;have HS:=FU S;clear S D hv;go_wp2_with fail
  refine HS.out.mono ?_;rintro e w' ⟨D,rfl,hr,rfl⟩;have D:=FU hr;clear hr;go_wp2_with fail
  go_ret2
  exact⟨_,I,D.out,J⟩
attribute [local go_sem] Go.Rel.valOf
abbrev aS.shape{base:Nat}{w:E5}{v:y9}{neg:Bool}{n:Nat}(h:aS base w v neg n):∃a d,v = .agg #[.b neg,.s a (RI n).length d]:=by
 obtain⟨s,rfl,D,_⟩:=h;obtain⟨a,d,rfl⟩:=D.shape;exact⟨a,d,I⟩
def jX(K:Nat)(w:E5)(v:y9)(z:Int):Prop:=∃n s l,v = .agg #[.b n,s]∧aH w s l∧l.length<=K∧zv n (Na.TR l)=z
abbrev jX.mono{K D:Nat}{w:E5}{v:y9}{z:Int}(h:jX K w v z)(hk:K<=D):jX D w v z:=by
 obtain⟨n,s,l,D,J,hl,S⟩:=h; exact⟨n,s,l,D,J,Z,S⟩
abbrev CQ.toQ{base K:Nat}{w:E5}{v:y9}{z:Int}(h:CQ base w v z)(hk:(RI z.natAbs).length<=K):jX K w v z:=by
 obtain⟨s,D,J,_⟩:=h; exact⟨_,s,_,D,J,hk,by rw[RH,aa2]⟩
variable{K:Nat}
abbrev Ll{w:E5}{v:y9}{z:Int}(h:jX K w v z):(RI z.natAbs).length<=K:=by
 obtain⟨n,s,l,D,J,hl,rfl⟩:=h;rw[ug]; exact ä (dB l) hl
abbrev kM(x y:Int){L:Nat}(hx:(RI x.natAbs).length<=K)(hy:(RI y.natAbs).length<=L):(RI (x*y).natAbs).length<=K+L:=by
 apply Na.bJ;have D:=Na.dS (RI x.natAbs);have J:=Na.dS (RI y.natAbs);rw[RH]at D J;have S:Na.NZ^(RI x.natAbs).length<=Na.NZ^K:=ķ O hx;have h4:Na.NZ^(RI y.natAbs).length<=Na.NZ^L:=ķ O hy;rw[Int.natAbs_mul,Ž];exact Nat.mul_lt_mul_of_lt_of_lt (ö D S) (ö J h4)
abbrev abm(x y:Int)(S:(RI x.natAbs).length<=K)(hy:(RI y.natAbs).length<=K):(RI (x+y).natAbs).length<=K+1:=by
 apply Na.bJ;have D:=Na.dS (RI x.natAbs);have J:=Na.dS (RI y.natAbs);rw[RH]at D J;have D:Na.NZ^(RI x.natAbs).length<=Na.NZ^K:=ķ O S;have D:Na.NZ^(RI y.natAbs).length<=Na.NZ^K:=ķ O hy;have D:Na.NZ^K*2<=Na.NZ^K*Na.NZ:=Ę _ O;have D:=Int.natAbs_add_le x y;rw[ę];generalize Na.NZ^K*Na.NZ=q at *;generalize Na.NZ^K=p at *;omega
abbrev Si(x y:Int)(D:(RI x.natAbs).length<=K)(J:(RI y.natAbs).length<=K):(RI (x-y).natAbs).length<=K+1:=by
 rw[Int.sub_eq_add_neg]; exact abm x (-y) D (by rw[Int.natAbs_neg]; exact J)
end
section
open Na
variable{α:Type}
variable{K:Nat}{q p:Bool×Nat×Nat}
abbrev apd(n:Bool)(a d:Nat):nrm n false a d=nz (zv n a) d:=by
 unfold nz;rw[ug,agL];unfold nrm;split
 .rfl
 congr 1;unfold mF;rcases ė a with h | h
 .subst h; simp[qF]
 rw[ņ h,Bool.and_true]
abbrev NY (q:Bool×Nat×Nat):Prop:=nrm q.1 false q.2.1 q.2.2=q
abbrev Wu(n1 D:Bool)(a b:Nat):NY (nrm n1 D a b):=by
 unfold NY;rcases ė b with J | J
 .have e:nrm n1 D a b=(false,0,1):=by unfold nrm; rw[Á J]
  rw[e]; decide
 have S:0<Nat.gcd a b:=ϻ a J;have aa:0<b/Nat.gcd a b:=Nat.div_pos (Nat.le_of_dvd J (Ϙ a b)) S;have hc:Nat.gcd (a/Nat.gcd a b) (b/Nat.gcd a b)=1:=Nat.coprime_div_gcd_div_gcd S;have e:nrm n1 D a b=(mF n1 D a b,a/Nat.gcd a b,b/Nat.gcd a b):=by unfold nrm; rw[UQ Z]
 rw[e];have J:mF n1 D a b=true->0<a/Nat.gcd a b:=by
  unfold mF; rw[Û]; intro h; simpa using h.2
 generalize mF n1 D a b=n at *;generalize a/Nat.gcd a b=x at *;generalize b/Nat.gcd a b=y at *;unfold nrm;rw[UQ (by simp only; omega)];simp only[hc,Nat.div_one];congr 1;unfold mF;rcases ė x with h | h
 .subst h;have:n=false:=by
   cases n
   .rfl
   exact absurd (J I) Z
  subst this; simp[qF]
 rw[hc,Nat.div_one,ņ h,Bool.and_true];unfold qF;have D:x≠0:=Z
 have J:y≠0:=Z
 rw[UQ D,UQ J];cases n<;>decide
abbrev ZH(z:Int)(d:Nat):NY (nz z d):=Wu _ _ _ _
abbrev akD(n1 D:Bool)(a b:Nat):0<(nrm n1 D a b).2.2:=by
 unfold nrm;split
 .exact Nat.one_pos
 exact Nat.div_pos (Nat.le_of_dvd Z (Ϙ a b)) (ϻ a Z)
def qlen(K:Nat)(q:Bool×Nat×Nat):Prop:=(RI q.2.1).length<=K∧(RI q.2.2).length<=K
abbrev Ef:(RI 1).length<=1:=Na.bJ O
abbrev ahW(z:Int)(d:Nat)(D:1<=K)(J:(RI z.natAbs).length<=K)(S:(RI d).length<=K):qlen K (nz z d):=by
 unfold nz nrm;split
 .exact⟨by rw[jR]; simp,ä Ef D⟩
 exact⟨ä (fO (Μ _ _)) J,ä (fO (Μ _ _)) S⟩
abbrev qA(h:qlen K q):(RI (qz q).natAbs).length<=K:=by unfold qz; rw[ug]; exact h.1
abbrev jQ{n:Nat}(h:(RI n).length<=K):(RI (n:Int).natAbs).length<=K:=by rw[ź]; exact h
abbrev Eh{L:Nat}(S:1<=K)(D:qlen K p)(J:qlen L q):qlen (K+L) (Ci p q):=by
 refine ahW _ _ Z (kM _ _ (qA D) (qA J)) ?_;have:=kM p.2.2 q.2.2 (jQ D.2) (jQ J.2);rwa [show((p.2.2:Int)*(q.2.2:Int))=((p.2.2*q.2.2:Nat):Int) by simp,ź]at this
abbrev ahX{L:Nat}(S:1<=K)(D:qlen K p)(J:qlen L q):qlen (K+L+1) (Nw p q):=by
 refine ahW _ _ Z (Si _ _ (kM _ _ (qA D) (jQ J.2)) (by rw[Ν]; exact kM _ _ (qA J) (jQ D.2))) ?_;have:=kM p.2.2 q.2.2 (jQ D.2) (jQ J.2);rw[show((p.2.2:Int)*(q.2.2:Int))=((p.2.2*q.2.2:Nat):Int) by simp,ź]at this;omega
def fB(K:Nat)(w:E5)(v:y9)(q:Bool×Nat×Nat):Prop:=
 ∃n1 s1 D S s2 J,v = .agg #[.b n1,s1,.b S,s2]∧aH w s1 D∧aH w s2 J∧D.length<=K∧J.length<=K∧nrm n1 S (Na.TR D) (Na.TR J)=q
abbrev fB.below{K:Nat}{w w':E5}{v:y9}{q:Bool×Nat×Nat}(h:fB K w v q)(D:Ext w w'):fB K w' v q:=by
 obtain⟨n1,s1,J,S,s2,l2,hv,h1,h2,h3,h4,h5⟩:=h; exact⟨n1,s1,J,S,s2,l2,hv,h1.below D,h2.below D,h3,h4,h5⟩
abbrev fB.shape{K:Nat}{w:E5}{v:y9}{q:Bool×Nat×Nat}(h:fB K w v q):∃n1 a1 J c1 D a2 S c2,v = .agg #[.b n1,.s a1 J c1,.b D,.s a2 S c2]:=by
 obtain⟨n1,s1,l1,D,s2,l2,rfl,J,S,_⟩:=h;obtain⟨a1,c1,rfl⟩:=J.shape;obtain⟨a2,c2,rfl⟩:=S.shape;exact⟨_,_,_,_,_,_,_,_,I⟩
abbrev fB.nrm{K:Nat}{w:E5}{v:y9}{q:Bool×Nat×Nat}(h:fB K w v q):NY q:=by
 obtain⟨n1,s1,D,J,s2,S,_,_,_,_,_,rfl⟩:=h; exact Wu _ _ _ _
abbrev fB.pos{K:Nat}{w:E5}{v:y9}{q:Bool×Nat×Nat}(h:fB K w v q):0<q.2.2:=by
 obtain⟨n1,s1,D,J,s2,S,_,_,_,_,_,rfl⟩:=h; exact akD _ _ _ _
abbrev fB.len{K:Nat}{w:E5}{v:y9}{q:Bool×Nat×Nat}(h:fB K w v q)(D:1<=K):qlen K q:=by
 obtain⟨n1,s1,D,J,s2,S,_,_,_,h3,h4,rfl⟩:=h;have:=aax n1 J D S;exact⟨Z,Z⟩
abbrev bH.toQ{w:E5}{r:bH}{K:Nat}(h:r.ok w)(D:r.fit K):fB K w r.v r.q:=⟨r.n1,r.s1,r.l1,r.n2,r.s2,r.l2,I,h.1,h.2,D.1,D.2,I⟩
abbrev aC.toQ{base K:Nat}{w:E5}{v:y9}{q:Bool×Nat×Nat}(h:dR base w v q)(hn:NY q)(hl:qlen K q):fB K w v q:=by
 obtain⟨s,t,rfl,D,J,_,_⟩:=h;exact⟨_,s,_,_,t,_,I,D,J,hl.1,hl.2,by rw[RH,RH]; exact hn⟩
abbrev aC.parts'{base K:Nat}{w:E5}{n m:Bool}{s t:y9}{q:Bool×Nat×Nat}(h:dR base w (.agg #[.b n,s,.b m,t]) q)(hl:qlen K q) :
  jX K w (.agg #[.b n,s]) (qz q)∧jX K w (.agg #[.b m,t]) (q.2.2:Int):=by
 obtain⟨S,t',e,D,J,_,_⟩:=h;simp only[ů,Ů,Ă,Value.bool.injEq,and_true]at e;obtain⟨rfl,rfl,rfl,rfl⟩:=e;exact⟨⟨_,_,_,I,D,hl.1,by rw[RH]; rfl⟩,⟨_,_,_,I,J,hl.2,by rw[RH]; rfl⟩⟩
