/- Walks of the reference on -/
import Derived.Test.YtodpgjjgaddkeaaGreatDoorPk3
set_option maxRecDepth 100000
set_option maxHeartbeats 9999999
open Go renaming World->VO,Value->aaT,Calls->abB
open Go.Proofs.Tryz
set_option linter.unusedVariables false
set_option linter.unusedSimpArgs false
section
namespace Go.Proofs.Vy
open Go.RowKit Na
variable{α:Type}
abbrev MX (base:Nat)(w:VO)(v:aaT)(l:List UInt32):Prop:=w.ownsRow base 119 1 v l.length (l.map bC)
variable{n base V:Nat}{w:VO}{e:TypeId}{v:aaT}{xs:List aaT}
abbrev dV(v:aaT)(l:List UInt32)(w:VO)(J:aG w v l)(S:l.length<=1000000000) :
  abB prog 254 #[v] w λe w'=>∃S,e = .R S∧MX w.heap.size w' S (Ro (Na.TP l))∧Ext w w':=by
 obtain⟨hd,S,hz,ht⟩:=Xa l;have ap:(Ro (Na.TP l)).length<=l.length:=S;generalize hK0:(Ro (Na.TP l)).length=K at *;have HV:=aC8 J;have HD:=aC8 hd;have HZ:=aC8 hz;have HT:=aC8 ht;obtain⟨a,cap,rfl⟩:=J.shape;clear J hd hz ht hK0;go_enter func254,ntmps254
 go_wp2_with fail
 go_loop [3] (λi=>∃k:Nat,K<=k∧k<=l.length∧i = .i k) (λi=>(intOf i).toNat)
 case atStart=>exact⟨l.length,S,aDd _,I⟩
 case round =>
  obtain⟨k,an,J,rfl⟩:=hrel;by_cases hkK:K<k
  .obtain⟨j,rfl⟩:∃j,k=j+1:=⟨k-1,Z⟩;obtain⟨b,o,c,J,ae,ah,hm,hc⟩:=dP HV.out I Z;simp only[aDO]at J;obtain⟨rfl,-,-⟩:=J;have S:=hc j Z;rw[HZ.out j Z Z]at S;clear hc;go_wp2
   go_round
   case rel=>exact⟨j,Z,Z,by go_num⟩
   case measure=>simp[intOf]
  obtain rfl:k=K:=by omega
  clear hkK an;obtain⟨D,ao,af,HG⟩:∃D:List UInt32,Hid (Ro (Na.TP l)=D)∧Hid (D.length=k)∧Hid (∀i (h:i<D.length) (h2:i<l.length),D[i]=l[i]):=
   ⟨l.take k,HD.out,by show _=_; simp; omega,λi h h2=>by simp⟩
  have aq:D.length<=1000000000:=by rw[af.out]; omega
  clear HD;rcases k with _ | j;case' succ =>
   obtain⟨b,o,c,J,ae,ah,hm,hc⟩:=dP HV.out I Z;simp only[aDO]at J;obtain⟨rfl,-,-⟩:=J;have S:=hc j Z;clear hc;have S:((l[j].toNat:Int)==0)=false:=by
    rw[aDH]; intro e; exact HT.out j Z I (aET.1 (by simp; omega))
  all_goals
   go_wp2_with fail
   go_loopw [4,5] (λg i wr=>∃q:Nat,i = .i q∧q<=D.length∧wr.ownsRow w.heap.size 119 1 g q ((D.take q).map bC)∧Ext w wr) (λ_ i _=>D.length-(intOf i).toNat)
   case atStart=>exact⟨0,I,aDl _,aFB w #[] 0 (aDd _) (aDl _) I,aH _ _⟩
   case round =>
    obtain⟨q,rfl,hq,S,aa⟩:=hrel
    by_cases hlt:q<D.length
    .have hlt2:=Nat.lt_of_lt_of_eq hlt af.out
     try exact absurd hlt2 (Nat.not_lt_zero _)
     all_goals
      have ab:q<l.length:=Z
      obtain⟨b,o,c,J,ae,ah,hm,hc⟩:=dP HV.out I Z
      simp only[aDO]at J
      obtain⟨J,-,-⟩:=J
      first | cases J | skip
      have J:wr.cell? ⟨b,o+q,none⟩=some (bC D[q]):=by rw[aa.cell (p:=⟨b,o+q,none⟩) ae,HG.out q hlt ab]; exact hc q ab
      clear hc
      have HS:Hid (D.take (q+1)=D.take q++[D[q]]):=take_snoc D q hlt
      have hr:=oq wr (bC D[q]) 119 I
      have J:=S.alloc (.cells #[bC D[q]] 119)
      have ai:w.heap.size<=wr.heap.size:=aa.size
      have ac:w.heap.size<=(wr.alloc (.cells #[bC D[q]] 119)).heap.size:=by simp; omega
      have al:q+1<=maxLen:=by unfold maxLen; omega
      have am:(q+1)*4<=140737488355328:=Z
      clear S
      go_wp2_with (at_builtin; refine bV I _ _ _ I mM w.heap.size J I hr I al am ac ?_; intro v2 w2 ag hg)
      go_roundw
      case rel =>
       refine⟨q+1,by go_num,Z,?_,(aa.alloc ai _).grown hg ac (λk hk=>(World.ownsRow.lt J k hk).1)⟩
       rw[HS.out,aEb]; exact ag
      case measure=>simp[intOf]; omega
    .obtain rfl:q=D.length:=by omega
     have J:=aFI af.out.symm
     rw[aEc]at S
     go_wp2_with fail
     go_ret
     exact⟨_,I,by rw[ao.out]; exact S,aa⟩
abbrev jJ(v:aaT)(l:List UInt32)(i:Nat)(w:VO)(S:aG w v l)(D:i<=9223372036854775807) :
  abB prog 315 #[v,.i i] w λe w'=>e = .R (.int .u64 ((l.getD i 0).toNat:Int))∧w=w':=by
 obtain⟨a,cap,rfl,J,D⟩:=S;have hl:=rQ J D;have J:=aC8 D;clear D;have D:¬(i:Int)<0:=Z
 by_cases hlt:i<l.length
 .rcases J.out with ⟨rfl,_⟩ | ⟨b,o,rfl,hb,hlc,hc⟩
  .simp at hlt
  have D:=hc i hlt;clear hc;have e:l.getD i 0=l[i]:=by simp[List.getD,List.getElem?_eq_getElem hlt]
  rw[e];go_enter func315,ntmps315
  go_wp2
  go_ret
  exact⟨jS (ig _),I⟩
 have e:l.getD i 0=0:=by simp[List.getD,List.getElem?_eq_none (Nat.le_of_not_lt hlt)]
 rw[e];go_enter func315,ntmps315
 go_wp2
 go_ret
 exact⟨I,I⟩
abbrev KT(v u:aaT)(l m:List UInt32)(w:VO)(hv:aG w v l)(hu:aG w u m) :
  abB prog 317 #[v,u] w (VH w (.i (rH (Na.TP l) (Na.TP m)))):=by
 have hl:=hv.len;have hm:=hu.len;unfold maxLen at hl hm;have HV:=aC8 hv;have HU:=aC8 hu;obtain⟨a1,c1,rfl⟩:=hv.shape;obtain⟨a2,c2,rfl⟩:=hu.shape;clear hv hu;obtain⟨M,hM⟩:∃M,M=max l.length m.length:=⟨_,I⟩;have ac:max (l.length:Int) (m.length:Int)=(M:Int):=Z
 have ag:M<=9223372036854775807:=Z
 have HE:Hid (Na.TP (l.drop M)=Na.TP (m.drop M)):=by
  show _=_;rw[aEB Z,aEB Z]
 clear hM;go_enter func317,ntmps317
 go_wp2_with fail
 clear ac;go_loopw [5] (λi wr=>∃k:Nat,k<=M∧i = .i ((k:Int)-1)∧Na.TP (l.drop k)=Na.TP (m.drop k)∧Ext w wr) (λi _=>(intOf i+1).toNat)
 case atStart=>exact⟨M,aDd _,I,HE.out,aDC _ _⟩
 case round =>
  obtain⟨k,hk,rfl,hd,D⟩:=hrel;have J:=aC8 hd;clear hd;cases k with
  | zero =>
   have hr:=aC8 (ZQ (show Na.TP l=Na.TP m from J.out));go_wp2_with fail
   go_ret
   exact⟨by rw[hr.out]; rfl,D⟩
  | succ j =>
   have hi:(((j+1:Nat):Int)-1)=(j:Int):=Z
   rw[hi];clear hi;have d0:=jJ _ l j wr (HV.out.below D) Z;have d1:=jJ _ m j wr (HU.out.below D) Z;have S:=@Na.aej l m j J.out;have aa:=@Na.aej m l j J.out.symm;have ab:=@Na.aps l m j J.out;have g0:=(l.getD j 0).toNat_lt;have g1:=(m.getD j 0).toNat_lt;generalize (l.getD j 0).toNat=x at *;generalize (m.getD j 0).toNat=y at *;have D0:=aC8 d0;have D1:=aC8 d1;clear d0 d1;rcases aFU x y with h | h | h
   .have hr:=aC8 (CG (S h));have h':(x:Int)<y:=Z
    clear S aa ab h;go_wp2_with fail
    refine D0.out.mono ?_;rintro e w' ⟨rfl,rfl⟩;go_wp2_with fail
    refine D1.out.mono ?_;rintro e w' ⟨rfl,rfl⟩;go_wp2_with fail
    go_ret
    exact⟨by rw[hr.out]; rfl,D⟩
   .have HQ:=aC8 (ab h);have ae:¬(x:Int)<y:=Z
    have af:¬(y:Int)<x:=Z
    clear S aa ab h;go_wp2_with fail
    refine D0.out.mono ?_;rintro e w' ⟨rfl,rfl⟩;go_wp2_with fail
    refine D1.out.mono ?_;rintro e w' ⟨rfl,rfl⟩;go_wp2_with fail
    refine D0.out.mono ?_;rintro e w' ⟨rfl,rfl⟩;go_wp2_with fail
    refine D1.out.mono ?_;rintro e w' ⟨rfl,rfl⟩;go_wp2_with fail
    go_roundw
    case rel=>exact⟨j,Z,I,HQ.out,D⟩
    case measure=>simp[intOf]
   have hr:=aC8 (GZ (aa h));have ae:¬(x:Int)<y:=Z
   have af:(y:Int)<x:=Z
   clear S aa ab h;go_wp2_with fail
   refine D0.out.mono ?_;rintro e w' ⟨rfl,rfl⟩;go_wp2_with fail
   refine D1.out.mono ?_;rintro e w' ⟨rfl,rfl⟩;go_wp2_with fail
   refine D0.out.mono ?_;rintro e w' ⟨rfl,rfl⟩;go_wp2_with fail
   refine D1.out.mono ?_;rintro e w' ⟨rfl,rfl⟩;go_wp2_with fail
   go_ret
   exact⟨by rw[hr.out]; rfl,D⟩
abbrev dgI(n:Nat):(n:Int)%4294967296=((UInt32.ofNat n).toNat:Int):=by simp
abbrev dvI(n:Nat):(n:Int)/4294967296=((n/Na.Hw:Nat):Int):=by simp[Na.Hw]
abbrev pW{f:α->aaT}{l:List α}(hn:l.length=n)(h:w.ownsRow base e 1 v n (l.map f)):dH f w v l:=by
 subst hn; exact bD h
abbrev aht:Na.Hw=4294967296:=rfl
abbrev RH(v:aaT)(l:List UInt32)(D:Nat)(w:VO)(J:aG w v l)(S:D<4294967296)(hl:l.length<=100000000) :
  abB prog 316 #[v,.int .u64 D] w λe w'=>∃v',e = .R v'∧MX w.heap.size w' v' (Ro (Na.TP l*D))∧Ext w w':=by
 have HV:=aC8 J;obtain⟨a1,c1,rfl⟩:=J.shape;clear J;go_enter func316,ntmps316
 go_wp2_with fail
 go_loopw [5,6,7,8] (λg S J _ wr=>∃(i c:Nat) (out:List UInt32),i<=l.length∧J = .i i∧S = .int .u64 c∧c<4294967296∧out.length=i∧Na.TP out+Na.Hw^i*c=Na.TP (l.take i)*D ∧
  wr.ownsRow w.heap.size 119 1 g i (out.map bC)∧Ext w wr) (λ_ _ J _ _=>l.length-(intOf J).toNat)
 case atStart=>exact⟨0,0,[],aDl _,I,I,Z,I,by simp[Na.TP],aFB w #[] 0 (aDd _) (aDl _) I,aH _ _⟩
 case round =>
  obtain⟨i,c,out,hi,rfl,rfl,hc,S,J,ab,ac⟩:=hrel;have ae:=aC8 S;have qA:=aC8 J;have ag:w.heap.size<=wr.heap.size:=ac.size;have ah:i+1<=maxLen:=by unfold maxLen; omega
  have ai:(i+1)*4<=140737488355328:=Z
  clear S J;by_cases hlt:i<l.length
  .obtain⟨bx,ox,cx,hxs,hbx,hlx,hmx,hcx⟩:=dP HV.out I Z;simp only[aDO]at hxs;obtain⟨rfl,-,-⟩:=hxs;have J:wr.cell? ⟨bx,ox+i,none⟩=some (bC l[i]):=by rw[ac.cell (p:=⟨bx,ox+i,none⟩) hbx]; exact hcx i hlt
   clear hcx;have T0:=aC8 (Na.dF l i hlt);generalize l[i]=x at *;have J:=x.toNat_lt;have x0:=ig x;obtain⟨t,ht⟩:∃t,t=x.toNat*D:=⟨_,I⟩;have J:IntKind.u64.wrap ((x.toNat:Int)*(D:Int))=(t:Int):=by
    have J:x.toNat*D<=4294967295*4294967295:=aE1 Z Z;rw[ht,<-iH (x.toNat*D) Z]; simp
   have J:t<=18446744065119617025:=by rw[ht]; exact aE1 (show x.toNat<=4294967295 by omega) (show D<=4294967295 by omega)
   obtain⟨n,hn⟩:∃n,n=t+c:=⟨_,I⟩;have J:IntKind.u64.wrap ((t:Int)+(c:Int))=(n:Int):=by rw[hn,<-iH (t+c) Z]; simp
   have S:n<18446744073709551616:=Z
   have J:(n:Int)%4294967296=((UInt32.ofNat n).toNat:Int):=dgI n;have ap:(n:Int)/4294967296=((n/Na.Hw:Nat):Int):=dvI n;have an:n/Na.Hw<4294967296:=aFw S;have af:=aC8 (Na.step_up ae.out qA.out hn);rw[ht]at af;generalize hq:n/Na.Hw=c' at *;obtain⟨d,hd⟩:∃d,UInt32.ofNat n=d:=⟨_,I⟩;rw[hd]at J af;have hr:=oq wr (bC d) 119 I;have J:=ab.alloc (.cells #[bC d] 119);have aa:w.heap.size<=(wr.alloc (.cells #[bC d] 119)).heap.size:=by simp; omega
   clear ab hn hq hd ht S;go_wp2_with (at_builtin; refine bV I _ _ _ I mM w.heap.size J I hr I ah ai aa ?_; intro v2 w2 S hg)
   go_roundw
   case rel =>
    refine⟨i+1,c',out++[d],Z,by go_num,I,an,by simp[ae.out],?_,by rw[aEb]; exact S,(ac.alloc ag _).grown hg aa (λk hk=>(World.ownsRow.lt J k hk).1)⟩;rw[af.out,T0.out,aEO,aD2]
   case measure=>simp[intOf]; omega
  obtain rfl:i=l.length:=by omega
  obtain⟨d,rfl⟩:∃d:UInt32,c=d.toNat:=⟨UInt32.ofNat c,(dn Z).symm⟩;have aq:=d.toNat_lt;have ar:(d.toNat:Int)%4294967296=(d.toNat:Int):=Z
  have HD:Hid (Na.TP (out++[d])=Na.TP l*D):=by
   show _=_;rw[Na.jC,ae.out,qA.out,aEc]
  have al:Hid ((out++[d]).length=l.length+1):=by show _=_; simp[ae.out]
  have ao:Hid ((out++[d]).map bC=out.map bC++[bC d]):=by show _=_; simp
  have hr:=oq wr (bC d) 119 I;have J:=ab.alloc (.cells #[bC d] 119);have aa:w.heap.size<=(wr.alloc (.cells #[bC d] 119)).heap.size:=by simp; omega
  clear ab;go_wp2_with (at_builtin; refine bV I _ _ _ I mM w.heap.size J I hr I ah ai aa ?_; intro v2 w2 S hg)
  have am:=(ac.alloc ag _).grown hg aa (λk hk=>(World.ownsRow.lt J k hk).1);have HR:=aC8 (dV v2 (out++[d]) w2 (bD (by rw[al.out,ao.out]; exact S)) (by rw[al.out]; omega));rw[HD.out]at HR;have J:=aC8 am;clear S hg am;go_wp2_with fail
  refine HR.out.mono ?_;rintro e w' ⟨v',rfl,S,hb⟩;have HO:=aC8 (bF S J.out.size);have HB:=aC8 (K00 J.out hb);clear S hb;go_wp2_with fail
  go_ret
  exact⟨_,I,HO.out,HB.out⟩
abbrev aa4{A C E J o:Nat}(h:A+E*J=o+C)(D:C<=A)(S:o<E):o=A-C:=by
 rcases aD0 J with D | D
 .subst D; omega
 have:E*1<=E*J:=aDZ _ D;omega
abbrev KU(v u:aaT)(l m:List UInt32)(w:VO)(J:aG w v l)(S:aG w u m)(hl:l.length<=100000000)(D:Na.TP m<=Na.TP l) :
  abB prog 289 #[v,u] w λe w'=>∃v',e = .R (.tuple #[v',.b true])∧MX w.heap.size w' v' (Ro (Na.TP l-Na.TP m))∧Ext w w':=by
 have HV:=aC8 J;have HU:=aC8 S;have HC:=aC8 (KT v u l m w J S);obtain⟨a1,c1,rfl⟩:=J.shape;obtain⟨a2,c2,rfl⟩:=S.shape;have ap:¬rH (Na.TP l) (Na.TP m)<0:=by
  unfold rH; rw[aC9 Z]; split<;>omega
 generalize rH (Na.TP l) (Na.TP m)=C at *;have ag:=aC8 D;clear J S D;go_enter func289,ntmps289
 go_wp2_with fail
 refine HC.out.mono ?_;rintro e w1 ⟨rfl,D⟩;have J:=aC8 D;have S:=D.size;clear D HC;go_wp2_with fail
 clear ap;go_loopw [6,7,8,9] (λg cv D _ wr=>∃(i c:Nat) (out:List UInt32),i<=l.length∧D = .i i∧cv = .int .u64 c∧c<=1∧out.length=i∧Na.TP (l.take i)+Na.Hw^i*c=Na.TP out+Na.TP (m.take i) ∧
  wr.ownsRow w.heap.size 119 1 g i (out.map bC)∧Ext w wr) (λ_ _ D _ _=>l.length-(intOf D).toNat)
 case atStart=>exact⟨0,0,[],aDl _,I,I,Z,I,by simp[Na.TP],aFB w1 #[] 0 S (aDl _) I,K00 J.out (aH _ _)⟩
 case round =>
  obtain⟨i,c,out,S,rfl,rfl,hc,ao,ae,J,D⟩:=hrel;have S:=aC8 ao;have qA:=aC8 ae;have aq:w.heap.size<=wr.heap.size:=D.size;have ar:i+1<=maxLen:=by unfold maxLen; omega
  have av:(i+1)*4<=140737488355328:=Z
  clear ao ae;by_cases hlt:i<l.length
  .have d0:=jJ _ l i wr (HV.out.below D) Z;have d1:=jJ _ m i wr (HU.out.below D) Z;have g0:=(l.getD i 0).toNat_lt;have g1:=(m.getD i 0).toNat_lt;have t0:=jV l i;have t1:=jV m i;generalize (l.getD i 0).toNat=x at *;generalize (m.getD i 0).toNat=y at *;have D0:=aC8 d0;have D1:=aC8 d1;have T0:=aC8 t0;have T1:=aC8 t1;obtain⟨n,hn⟩:∃n,n=4294967296+x-y-c:=⟨_,I⟩;have ah:((4294967296:Int)+x-y-c)%4294967296=((UInt32.ofNat n).toNat:Int):=by rw[<-dgI,hn]; omega
   have aw:((4294967296:Int)+x-y-c)/4294967296=((n/Na.Hw:Nat):Int):=by rw[<-dvI,hn]; omega
   have ax:n/Na.Hw<=1:=by rw[hn,aht]; omega
   have ai:x+Na.Hw*(1-n/Na.Hw)=n%Na.Hw+y+c:=by rw[hn,aht]; omega
   have al:=aC8 (abn S.out qA.out ai);generalize n/Na.Hw=q at *;obtain⟨d,hd⟩:∃d,UInt32.ofNat n=d:=⟨_,I⟩;rw[hd]at ah al;have am:(1:Int)-(q:Int)=((1-q:Nat):Int):=Z
   have hr:=oq wr (bC d) 119 I;have aa:=J.alloc (.cells #[bC d] 119);have ab:w.heap.size<=(wr.alloc (.cells #[bC d] 119)).heap.size:=by simp; omega
   have MK:=aC8 am;clear J d0 d1 t0 t1 hn hd ai am;go_wp2_with fail
   refine D0.out.mono ?_;rintro e w' ⟨rfl,rfl⟩;go_wp2_with fail
   refine D1.out.mono ?_;rintro e w' ⟨rfl,rfl⟩;go_wp2_with (at_builtin; refine bV I _ _ _ I mM w.heap.size aa I hr I ar av ab ?_; intro v2 w2 af hg)
   go_roundw
   case rel =>
    refine⟨i+1,1-q,out++[d],Z,by go_num,by rw[MK.out],Z,by simp[S.out],?_,by rw[aEb]; exact af,(D.alloc aq _).grown hg ab (λk hk=>(World.ownsRow.lt aa k hk).1)⟩;rw[T0.out,T1.out,al.out]
   case measure=>simp[intOf]; omega
  obtain rfl:i=l.length:=by omega
  have an:Na.TP (m.take l.length)=Na.TP m:=uU (aFD ag.out (Na.dU l));have HD:Hid (Na.TP out=Na.TP l-Na.TP m):=by
   have h:=qA.out;rw[aEc,an]at h;exact aa4 h ag.out (by have:=Na.dU out; rw[S.out]at this; exact this)
  have ac:=pW S.out J;have HR:=aC8 (dV _ out wr ac (by rw[S.out]; omega));rw[HD.out]at HR;have S:=aC8 D;clear J D an ac;go_wp2_with fail
  refine HR.out.mono ?_;rintro e w' ⟨v',rfl,D,J⟩;have HO:=aC8 (bF D S.out.size);have HB:=aC8 (K00 S.out J);clear D J;go_wp2_with fail
  go_ret2
  exact⟨_,I,HO.out,HB.out⟩
abbrev adx(v u:aaT)(l m:List UInt32)(n:Nat)(w:VO)(hv:aG w v l)(hu:aG w u m)(hm:m.length=n+1)(atw:0<(m.getD n 0).toNat)(hlt:Na.TP l<Na.Hw*Na.TP m)(hl:l.length<=100000000)(hn:n<=10000000) :
  abB prog 287 #[v,u] w λe w'=>∃v',e = .R (.tuple #[.int .u64 ((Na.TP l/Na.TP m:Nat):Int),v'])∧MX w.heap.size w' v' (Ro (Na.TP l%Na.TP m))∧Ext w w':=by
 have HV:=aC8 hv;have HU:=aC8 hu;obtain⟨a1,c1,rfl⟩:=hv.shape;obtain⟨bx,ox,cx,rfl,hbx,hlx,hmx,hcx⟩:=dP hu hm Z;have e:m.getD n 0=m[n]'Z:=by simp[List.getD,List.getElem?_eq_getElem (show n<m.length by omega)]
 have D1:Hid (∀nq,abB prog 315 #[.s a1 l.length c1,.i ((n:Int)+1)] (w.drewN nq) λe w'=>e = .R (.int .u64 ((l.getD (n+1) 0).toNat:Int))∧w'=w.drewN nq):=λnq =>
  (jJ _ l (n+1) _ (HV.out.below (below_drewN (aDC _ _) nq)) Z).mono λ_ _ h=>⟨h.1,h.2.symm⟩
 have D0:Hid (∀nq,abB prog 315 #[.s a1 l.length c1,.i n] (w.drewN nq) λe w'=>e = .R (.int .u64 ((l.getD n 0).toNat:Int))∧w'=w.drewN nq):=λnq =>
  (jJ _ l (n) _ (HV.out.below (below_drewN (aDC _ _) nq)) Z).mono λ_ _ h=>⟨h.1,h.2.symm⟩
 obtain⟨aoQ,atx,hVp⟩:=Xc hm atw hlt;rw[e]at aoQ atw;have hml:Na.TP m<Na.Hw^(n+1):=by have:=Na.dU m; rw[hm]at this; exact this
 have hck:=hcx n Z;generalize m[n]'Z=t at *;have g0:=(l.getD n 0).toNat_lt;have g1:=(l.getD (n+1) 0).toNat_lt;generalize (l.getD n 0).toNat=x0 at *;generalize (l.getD (n+1) 0).toNat=x1 at *;obtain⟨T1,hT1⟩:∃T1,T1=x1*4294967296:=⟨_,I⟩;obtain⟨T,hT⟩:∃T,T=T1+x0:=⟨_,I⟩;obtain⟨q,hq⟩:∃q,q=T/t.toNat:=⟨_,I⟩;have k1:IntKind.i64.wrap (n:Int)=(n:Int):=IntWalk.i64_in _ Z;have k2:IntKind.u64.wrap ((x1:Int)*4294967296)=(T1:Int):=by rw[aEE,hT1]; omega
 have k3:IntKind.u64.wrap ((T1:Int)+(x0:Int))=(T:Int):=by rw[aEE,hT]; omega
 have k4:=ig t;have k5:(T:Int).tdiv (t.toNat:Int)=(q:Int):=by rw[SX,hq]
 have k6:IntKind.u64.wrap (q:Int)=(q:Int):=by
  have:q<=T:=by rw[hq]; exact aFr _ _
  rw[aEE]; omega
 have k7:((t.toNat:Int)==0)=false:=by rw[aDH]; omega
 rw[<-hT1,<-hT,<-hq]at aoQ;obtain⟨d0,hd0⟩:∃d0,d0=min q 4294967295:=⟨_,I⟩;have k8:min (q:Int) 4294967295=(d0:Int):=Z
 have aty:d0<4294967296:=Z
 have hd1:Na.TP l/Na.TP m<=d0:=Z
 have HQ:=aC8 hq;have HT:=aC8 hT;have HT1:=aC8 hT1;have HLT:=aC8 hlt;have HD1:=aC8 hd1;have HML:=aC8 hml;have HVP:=aC8 hVp;clear hv hu hcx e hT1 hT hq aoQ atx hd0 hd1 hlt hml hVp HQ HT HT1;go_enter func287,ntmps287
 go_wp2_with fail
 have K8:=aC8 k8;clear k8;go_quiet ((first | with_reducible exact Calls.quiet_of_same (D1.out _) | with_reducible exact Calls.quiet_of_same (D0.out _)))
 clear k1 k2 k3 k4 k5 k6 k7;have k8:=K8.out;go_wp2_with fail
 clear k8;refine(RH _ m d0 _ (HU.out.below (below_drewN (aDC _ _) nq)) aty Z).mono ?_;rintro e w1 ⟨p,rfl,ho,hb⟩;have HB:=aC8 (K00 (below_drewN (aDC w.heap.size w) nq) hb);have HP:=aC8 (bD ho);clear ho hb;go_wp2_with fail
 go_loopw [8,9] (λdv p wr=>∃d:Nat,dv = .int .u64 d∧d<4294967296∧Na.TP l/Na.TP m<=d∧aG wr p (Ro (Na.TP m*d))∧Ext w wr) (λdv _ _=>(intOf dv).toNat)
 case atStart=>exact⟨d0,I,aty,HD1.out,HP.out,HB.out⟩
 case round =>
  obtain⟨d,rfl,hd,WX,hp,hbel⟩:=hrel;have hlen:(Ro (Na.TP m*d)).length<=n+2:=by
   apply Na.bK;rw[aDY];exact Nat.mul_lt_mul'' HML.out hd
  have HC:=aC8 (KT _ _ _ _ wr hp (HV.out.below hbel));rw[NP]at HC;by_cases h:Na.TP l<Na.TP m*d
  .obtain⟨f1,f2,f3,f4⟩:=abo WX h HVP.out;rw[GZ h]at HC;have HS:=aC8 (λw1 (h1:Ext wr w1)=>KU _ _ _ _ w1 (hp.below h1) (HU.out.below (K00 hbel h1)) Z (by rw[NP]; exact f4));rw[NP,f3]at HS;have hdz:1<=d:=f1;have hd1:((d-1:Nat):Int)=(d:Int)-1:=Z
   have HD1:=aC8 hd1;have HF2:=aC8 f2;have RI:=aC8 hbel;clear hp hbel WX f1 f2 f3 f4 h hd1 hlen;go_wp2_with fail
   refine HC.out.mono ?_;rintro e w2 ⟨rfl,hb2⟩;have HS2:=aC8 (HS.out w2 hb2);have HB2:=aC8 (K00 RI.out hb2);clear hb2 HS HC;go_wp2_with fail
   refine HS2.out.mono ?_;rintro e w3 ⟨p',rfl,ho,hb3⟩;have HO:=aC8 (bD ho);have HB3:=aC8 (K00 HB2.out hb3);clear ho hb3 HS2;go_wp2_with fail
   go_roundw
   case rel=>exact⟨d-1,by rw[HD1.out],Z,HF2.out,HO.out,HB3.out⟩
   case measure=>simp[intOf]; omega
  have hle:Na.TP m*d<=Na.TP l:=Z
  obtain⟨f1,f2⟩:=Xd WX hle HVP.out;have hcp:¬(0:Int)<rH (Na.TP m*d) (Na.TP l):=by
   unfold rH; rw[aC9 h]; split<;>omega
  have HS:=aC8 (λw1 (h1:Ext wr w1)=>KU _ _ _ _ w1 (HV.out.below (K00 hbel h1)) (hp.below h1) hl (by rw[NP]; exact hle));rw[NP,f2]at HS;have HF1:=aC8 f1;have RI:=aC8 hbel;generalize rH (Na.TP m*d) (Na.TP l)=cc at *;clear hp hbel WX f1 f2 h hle hlen;go_wp2_with fail
  refine HC.out.mono ?_;rintro e w2 ⟨rfl,hb2⟩;have HS2:=aC8 (HS.out w2 hb2);have HB2:=aC8 (K00 RI.out hb2);clear hb2 HS HC;go_wp2_with fail
  refine HS2.out.mono ?_;rintro e w3 ⟨p',rfl,ho,hb3⟩;have HO:=aC8 (bF ho HB2.out.size);have HB3:=aC8 (K00 HB2.out hb3);clear ho hb3 HS2;go_wp2_with fail
  go_ret2
  exact⟨_,by rw[<-HF1.out]; rfl,HO.out,HB3.out⟩
abbrev Ib{size:Nat}(h:w.ownsRow base e size v n xs):∃a cap,v = .s a n cap:=by
 rcases h.2 with ⟨D,J⟩ | ⟨g,cap,S,D,_⟩
 .exact⟨none,0,by rw[D,J]⟩
 exact⟨_,cap,D⟩
abbrev ady(v:aaT)(l:List UInt32)(p:Nat)(w:VO)(D:aG w v l)(S:p<=31)(hl:l.length<=100000000) :
  abB prog 314 #[v,.i p] w λe w'=>∃v',e = .R v'∧MX w.heap.size w' v' (Ro (Na.TP l*2^p))∧Ext w w':=by
 have HV:=aC8 D;obtain⟨a1,c1,rfl⟩:=D.shape;clear D;have al:(p:Int)/32=0:=Z
 have D:(p:Int)%32=(p:Int):=Z
 have D:0<=maxLen:=aDl _;have J:4*0<=281474976710656:=Z
 have hP:2^p<=2147483648:=aEm (n:=2) Z S;have S:=aEP p;go_enter func314,ntmps314
 go_wp2_with (at_make; refine wpList_make_row I _ _ _ I mM I w.heap.size 0 I I I J D (aDd _) ?_; intro w1 J hg)
 have am:=gU (aDC w.heap.size w) hg (aDd _);have HO:=aC8 J;clear hg J;go_loopw [5,6,7,8] (λg cv D _ wr=>∃(i c:Nat) (out:List UInt32),i<=l.length∧D = .i i∧cv = .int .u64 c∧c<2^p∧out.length=i∧Na.TP out+Na.Hw^i*c=Na.TP (l.take i)*2^p ∧
  wr.ownsRow w.heap.size 119 1 g i (out.map bC)∧Ext w wr) (λ_ _ D _ _=>l.length-(intOf D).toNat)
 case atStart=>exact⟨0,0,[],aDl _,I,I,S,I,by simp[Na.TP],HO.out,am⟩
 case round =>
  obtain⟨i,c,out,hi,rfl,rfl,hc,S,D,J,ab⟩:=hrel;have ac:=aC8 S;have qA:=aC8 D;have af:w.heap.size<=wr.heap.size:=ab.size;have ag:i+1<=maxLen:=by unfold maxLen; omega
  have ah:(i+1)*4<=140737488355328:=Z
  have aq:c<4294967296:=Z
  clear S D HO;by_cases hlt:i<l.length
  .obtain⟨bx,ox,cx,hxs,hbx,hlx,hmx,hcx⟩:=dP HV.out I Z;simp only[aDO]at hxs;obtain⟨rfl,-,-⟩:=hxs;have D:wr.cell? ⟨bx,ox+i,none⟩=some (bC l[i]):=by rw[ab.cell (p:=⟨bx,ox+i,none⟩) hbx]; exact hcx i hlt
   clear hcx;have T0:=aC8 (Na.dF l i hlt);generalize l[i]=x at *;have D:=x.toNat_lt;have x0:=ig x;obtain⟨t,S⟩:∃t,t=x.toNat*2^p:=⟨_,I⟩;have an:t<=4294967295*2^p:=by rw[S]; exact aEM _ Z
   have D:IntKind.u64.wrap ((x.toNat:Int)*2^p)=(t:Int):=by
    rw[S,<-iH (x.toNat*2^p) Z]; simp
   obtain⟨n,hn⟩:∃n,n=t+c:=⟨_,I⟩;have D:IntKind.u64.wrap ((t:Int)+(c:Int))=(n:Int):=by rw[hn,<-iH (t+c) Z]; simp
   have D:(n:Int)%4294967296=((UInt32.ofNat n).toNat:Int):=dgI n;have ar:(n:Int)/4294967296=((n/Na.Hw:Nat):Int):=dvI n;have ao:n/Na.Hw<2^p:=aFw (by rw[aht]; omega);have ae:=aC8 (Na.step_up ac.out qA.out hn);rw[S]at ae;generalize hq:n/Na.Hw=c' at *;obtain⟨d,hd⟩:∃d,UInt32.ofNat n=d:=⟨_,I⟩;rw[hd]at D ae;have hr:=oq wr (bC d) 119 I;have D:=J.alloc (.cells #[bC d] 119);have aa:w.heap.size<=(wr.alloc (.cells #[bC d] 119)).heap.size:=by simp; omega
   clear J hn hq hd S an al;go_wp2_with (at_builtin; refine bV I _ _ _ I mM w.heap.size D I hr I ag ah aa ?_; intro v2 w2 S hg)
   go_roundw
   case rel =>
    refine⟨i+1,c',out++[d],Z,by go_num,I,ao,by simp[ac.out],?_,by rw[aEb]; exact S,(ab.alloc af _).grown hg aa (λk hk=>(World.ownsRow.lt D k hk).1)⟩;rw[ae.out,T0.out,aEO,aD2]
   case measure=>simp[intOf]; omega
  obtain rfl:i=l.length:=by omega
  obtain⟨d,rfl⟩:∃d:UInt32,c=d.toNat:=⟨UInt32.ofNat c,(dn Z).symm⟩;have av:=d.toNat_lt;have aw:(d.toNat:Int)%4294967296=(d.toNat:Int):=Z
  have HD:Hid (Na.TP (out++[d])=Na.TP l*2^p):=by
   show _=_;rw[Na.jC,ac.out,qA.out,aEc]
  have ai:Hid ((out++[d]).length=l.length+1):=by show _=_; simp[ac.out]
  have ap:Hid ((out++[d]).map bC=out.map bC++[bC d]):=by show _=_; simp
  have hr:=oq wr (bC d) 119 I;have D:=J.alloc (.cells #[bC d] 119);have aa:w.heap.size<=(wr.alloc (.cells #[bC d] 119)).heap.size:=by simp; omega
  clear J;go_wp2_with (at_builtin; refine bV I _ _ _ I mM w.heap.size D I hr I ag ah aa ?_; intro v2 w2 S hg)
  have J:=(ab.alloc af _).grown hg aa (λk hk=>(World.ownsRow.lt D k hk).1);have HR:=aC8 (dV v2 (out++[d]) w2 (bD (by rw[ai.out,ap.out]; exact S)) (by rw[ai.out]; omega));rw[HD.out]at HR;have D:=aC8 J;clear S hg J;go_wp2_with fail
  refine HR.out.mono ?_;rintro e w' ⟨v',rfl,J,S⟩;have HO:=aC8 (bF J D.out.size);have HB:=aC8 (K00 D.out S);clear J S;go_wp2_with fail
  go_ret
  exact⟨_,I,HO.out,HB.out⟩
abbrev tH(v:aaT)(l:List UInt32)(p:Nat)(w:VO)(J:aG w v l)(hp:p<=31)(hl:l.length<=100000000) :
  abB prog 286 #[v,.i p] w λe w'=>∃D,e = .R D∧MX w.heap.size w' D (Ro (Na.TP l*2^p))∧Ext w w':=by
 have S:=aC8 (ady v l p w J hp hl);obtain⟨a1,c1,rfl⟩:=J.shape;clear J;have J:min (p:Int) 4096=(p:Int):=Z
 have J:(0:Int)<=(p:Int):=Z
 go_enter func286,ntmps286
 go_wp2_with fail
 refine S.out.mono ?_;rintro e w' ⟨D,rfl,J,S⟩;have D:=aC8 J;have HB:=aC8 S;clear J S;go_wp2_with fail
 go_ret
 exact⟨_,I,D.out,HB.out⟩
abbrev MZ(v:aaT)(l:List UInt32)(p:Nat)(w:VO)(D:aG w v l)(hp:0<p)(J:p<=31)(hl:l.length<=100000000) :
  abB prog 286 #[v,.i (-(p:Int))] w λe w'=>∃v',e = .R v'∧MX w.heap.size w' v' (Ro (Na.TP l/2^p))∧Ext w w':=by
 have HV:=aC8 D;obtain⟨a1,c1,rfl⟩:=D.shape;clear D;have D:¬(0:Int) <= -(p:Int):=Z
 by_cases h0:l.length=0
 .obtain rfl:l=[]:=aEA h0;have ab : -(p:Int)<0:=Z
  clear h0;go_enter func286,ntmps286
  go_wp2_with fail
  go_ret
  refine⟨_,I,?_,aH _ _⟩;rw[show Ro (Na.TP []/2^p)=[] by simp[Na.TP,Ro,Na.lH]];exact aFB w #[] 0 (aDd _) (aDl _) I
 have an:¬-(p:Int) < -32*(l.length:Int):=Z
 have ao:(p:Int)/32=0:=Z
 have J:(p:Int)%32=(p:Int):=Z
 have J:=Az p l;have HS:Hid (Na.TP (Na.shr p l)=Na.TP l/2^p):=ZO p Z l;have HG:Hid (∀i (h:i<l.length) (h2:i<(Na.shr p l).length),(Na.shr p l)[i]=UInt32.ofNat (((l.getD i 0).toNat+Na.Hw*(l.getD (i+1) 0).toNat)/2^p)):=λi h _=>ZN p l i h;generalize Na.shr p l=S at *;have aa:=aC8 J;clear J;go_enter func286,ntmps286
 go_wp2_with fail
 clear an ao D h0;go_loopw [5,6,7] (λg D _ wr=>∃i:Nat,i<=l.length∧D = .i i∧wr.ownsRow w.heap.size 119 1 g i ((S.take i).map bC)∧Ext w wr) (λ_ D _ _=>l.length-(intOf D).toNat)
 case atStart=>exact⟨0,aDl _,I,aFB w #[] 0 (aDd _) (aDl _) I,aH _ _⟩
 case round =>
  obtain⟨i,hi,rfl,J,D⟩:=hrel;have ap:w.heap.size<=wr.heap.size:=D.size;have aq:i+1<=maxLen:=by unfold maxLen; omega
  have ar:(i+1)*4<=140737488355328:=Z
  by_cases ab:i<l.length
  .have d0:=jJ _ l i wr (HV.out.below D) Z;have d1:=jJ _ l (i+1) wr (HV.out.below D) Z;have g0:=(l.getD i 0).toNat_lt;have g1:=(l.getD (i+1) 0).toNat_lt;have ac:=HG.out i ab (by rw[aa.out]; exact ab);have ai:=take_snoc S i (by rw[aa.out]; exact ab);generalize (l.getD i 0).toNat=x0 at *;generalize (l.getD (i+1) 0).toNat=x1 at *;obtain⟨N,hN⟩:∃N,N=x0+Na.Hw*x1:=⟨_,I⟩;rw[<-hN]at ac;have ax:(x1:Int)*4294967296+(x0:Int)=(N:Int):=by rw[hN,aht]; omega
   have av:(N:Int)/2^p%4294967296=((UInt32.ofNat (N/2^p)).toNat:Int):=Nv N p;rw[<-ac]at av;have D0:=aC8 d0;have D1:=aC8 d1;generalize S[i]'(by rw[aa.out]; exact ab)=d at *;have aw:=aC8 ai;have hr:=oq wr (bC d) 119 I;have ae:=J.alloc (.cells #[bC d] 119);have af:w.heap.size<=(wr.alloc (.cells #[bC d] 119)).heap.size:=by simp; omega
   clear J d0 d1 hN ac ai;go_wp2_with fail
   refine D1.out.mono ?_;rintro e w' ⟨rfl,rfl⟩;go_wp2_with fail
   refine D0.out.mono ?_;rintro e w' ⟨rfl,rfl⟩;go_wp2_with (at_builtin; refine bV I _ _ _ I mM w.heap.size ae I hr I aq ar af ?_; intro v2 w2 ah hg)
   go_roundw
   case rel =>
    refine⟨i+1,Z,by go_num,?_,(D.alloc ap _).grown hg af (λk hk=>(World.ownsRow.lt ae k hk).1)⟩;rw[aw.out,aEb]; exact ah
   case measure=>simp[intOf]; omega
  obtain rfl:i=l.length:=by omega
  have al:S.take l.length=S:=aDG (by rw[aa.out]; exact aDd _);rw[al]at J;have ag:=pW aa.out J;have HR:=aC8 (dV _ S wr ag (by rw[aa.out]; omega));rw[HS.out]at HR;have am:=aC8 D;clear ag J D al;go_wp2_with fail
  refine HR.out.mono ?_;rintro e w' ⟨v',rfl,D,J⟩;have HO:=aC8 (bF D am.out.size);have HB:=aC8 (K00 am.out J);clear D J;go_wp2_with fail
  go_ret
  exact⟨_,I,HO.out,HB.out⟩
abbrev ahu(x j:Nat):(((x/2^j:Nat):Int))/2=((x/2^(j+1):Nat):Int):=by
 rw[aDY,<-Nat.div_div_eq_div_mul]; rfl
abbrev Nc(v:aaT)(l:List UInt32)(w:VO)(J:aG w v l)(D:l.length<=1000000000) :
  abB prog 278 #[v] w (VH w (.i (bl (Na.TP l):Int))):=by
 have hd:=dA l;have ea:=NP (Na.TP l);have na:=Na.iq (Na.TP l);have C1:=aC8 (dV v l w J D);clear J;rw[<-ea];generalize Ro (Na.TP l)=a at *;by_cases h0:a.length=0
 .obtain rfl:a=[]:=aEA h0;clear ea h0;go_enter func278,ntmps278
  go_wp2_with fail
  refine C1.out.mono ?_;rintro e w' ⟨x,rfl,S,hb⟩;obtain⟨D,J,rfl⟩:=Ib S;go_wp2_with fail
  go_ret
  exact⟨I,hb⟩
 obtain⟨m,hm⟩:∃m,a.length=m+1:=⟨a.length-1,Z⟩;have J:a[m]'Z≠0:=by
  have:=Na.uP na Z;simpa[hm]using this
 have D:∀c:Nat,2^(c-1)<=(a[m]'Z).toNat->(a[m]'Z).toNat<2^c->1<=c->bl (Na.TP (a.take m++[a[m]'Z]))=32*(a.take m).length+c:=λc h1 h2 h3=>ZR (a.take m) (a[m]'Z) J c h1 h2 h3;have e1:a.take m++[a[m]'Z]=a:=by
  rw[<-aEj Z,<-hm,aEc]
 rw[e1]at D;have e2:(a.take m).length=m:=by simp; omega
 rw[e2]at D;have aa:=aC8 D;have HM:=aC8 hm;have af:(m:Int)<=1000000000:=Z
 have ag:0<(a[m]'Z).toNat:=Nat.pos_of_ne_zero λe=>J (aET.1 (by simpa using e));have ab:((m:Int)+1==0)=false:=by rw[aDH]; omega
 have ac:=(a[m]'Z).toNat_lt;clear ea na D e1 e2 J h0;go_enter func278,ntmps278
 go_wp2_with fail
 refine C1.out.mono ?_;rintro e w1 ⟨x,rfl,S,hb⟩;have S:=bD S;obtain⟨bx,ox,cx,rfl,J,al,am,D⟩:=dP S hm Z;have J:=D m Z;have HB:=aC8 hb;generalize a[m]'Z=c at *;clear D S hb hm C1;go_wp2_with fail
 clear ab;have D:Hid ((c.toNat:Int)=((c.toNat/2^0:Nat):Int)):=by show _=_; simp
 go_loopw [4,5] (λD tv J=>∃j:Nat,D = .i (32*(m:Int)+j)∧j<=32∧tv = .int .u32 ((c.toNat/2^j:Nat):Int)∧(j=0∨2^(j-1)<=c.toNat)∧Ext w J) (λ_ tv _=>(intOf tv).toNat)
 case atStart=>exact⟨0,by simp,Z,by simp[bC],.inl I,HB.out⟩
 case round =>
  obtain⟨j,rfl,S,rfl,J,D⟩:=hrel;have HJ:=aC8 J;have HH:=aC8 (ahu c.toNat j);clear J;obtain⟨T,S⟩:∃T,c.toNat/2^j=T:=⟨_,I⟩;rw[S]at HH |-;by_cases hz:0<T
  .have HT:=aC8 S;have J:Hid (2^j<=c.toNat):=by
    show _<=_;rcases aD7 c.toNat (2^j)with h | h
    .rw[aFX h]at S; omega
    exact h
   have ah:j<=31:=by
    rcases aD7 31 j with h | h
    .have:2^32<=2^j:=aEm Z h;have:=J.out; omega
    exact h
   clear S;go_wp2_with fail
   go_roundw
   case rel =>
    have ai:c.toNat/2^(j+1)<4294967296:=aFD (aFr _ _) ac;have hw:(T:Int)/2=((c.toNat/2^(j+1):Nat):Int)∧(T:Int)/2%4294967296=((c.toNat/2^(j+1):Nat):Int):=by
     have hh:=HH.out;generalize c.toNat/2^(j+1)=A01 at *;omega
    exact⟨j+1,GV Z,Z,(by first | exact GV hw.2 | exact GV hw.1),.inr (by simpa using J.out),D⟩
   case measure=>simp[intOf]; omega
  obtain rfl:T=0:=by omega
  have J:c.toNat<2^j:=by
   rcases aD7 c.toNat (2^j)with h | h
   .exact h
   have:=Nat.div_pos h (aEP j); omega
  have ae:1<=j:=by
   rcases aD0 j with h | h
   .subst h; simp at J; omega
   exact h
  have hr:bl (Na.TP a)=32*m+j:=aa.out j (by rcases HJ.out with h | h; omega; exact h) J ae;have HR:=aC8 hr;clear S J hr hz;go_wp2_with fail
  go_ret
  exact⟨jS (by rw[HR.out]; omega),D⟩
abbrev ahv(n:Nat):Na.Hw^n=2^(32*n):=by rw[Nat.pow_mul]; rfl
abbrev VX(h:(Ro V).length=n+1):Na.Hw^n<=V∧V<Na.Hw^(n+1):=by
 have D:=Na.Ee (Na.iq V) Z;have J:=Na.dU (Ro V);rw[NP,h]at D J;exact⟨D,J⟩
abbrev VY(J:Na.Hw^n<=V)(D:V<Na.Hw^(n+1)):(Ro V).length=n+1:=by
 have J:=Na.bK D;rcases aD7 (Ro V).length (n+1)with h | h
 .have h4:=Na.dU (Ro V);rw[NP]at h4;have D:Na.Hw^(Ro V).length<=Na.Hw^n:=aEm Na.kQ Z;omega
 omega
abbrev Zo(h:(Ro V).length=n+1):32*n+1<=bl V∧bl V<=32*(n+1)∧∀p,bl V+p=32*(n+1)->(Ro (V*2^p)).length=n+1:=by
 obtain⟨S,h2⟩:=VX h;have D:V≠0:=by have:=aFM (n:=n) Na.kQ; omega
 have hb:bl V=Nat.log2 V+1:=by unfold bl; rw[aC9 D]
 have J:=Nat.log2_self_le D;have D:V<2^(Nat.log2 V+1):=Nat.lt_log2_self;rw[hb];generalize Nat.log2 V=k at *;have e1:32*n<k+1:=by
  rw[ahv]at S;exact(Nat.pow_lt_pow_iff_right (by omega:1<2)).1 (aFD S D)
 have e2:k<32*(n+1):=by
  rw[ahv]at h2;exact(Nat.pow_lt_pow_iff_right (by omega:1<2)).1 (aFD J h2)
 refine⟨Z,Z,λp J=>?_⟩;apply VY
 .exact aDy S (Nat.le_mul_of_pos_right _ (aEP p))
 rw[ahv,<-J,aFg];exact aGd D (aEP p)
abbrev adz{l:List UInt32}(h:Na.norm l)(hl:l.length=n+1):0<(l.getD n 0).toNat:=by
 have D:=Na.uP h Z;simp only[hl,Nat.add_sub_cancel]at D;have e:l.getD n 0=l[n]'Z:=by simp[List.getD,List.getElem?_eq_getElem (show n<l.length by omega)]
 rw[e];exact Nat.pos_of_ne_zero λJ=>D (aET.1 (by simpa using J))
abbrev ake{g:Nat}(h:w.ownsRow base e 1 v n xs)(D:g<base)(o:Nat)(x:aaT):(w.setCell ⟨g,o,none⟩ x).ownsRow base e 1 v n xs:=
 aed h ((Ch.refl g w).setCell o x) D
abbrev Ac(v u:aaT)(l m:List UInt32)(w:VO)(hv:aG w v l)(hu:aG w u m)(hm:0<Na.TP m)(hll:l.length<=5000000)(J:m.length<=5000000) :
  abB prog 255 #[v,u] w λe w'=>∃q r,e = .R (.tuple #[q,r,.i 0])∧MX w.heap.size w' q (Ro (Na.TP l/Na.TP m))∧MX w.heap.size w' r (Ro (Na.TP l%Na.TP m))∧Ext w w':=by
 have bv:=dA m;have bw:=Na.iq (Na.TP m);have C1:=aC8 (dV u m w hu Z);have HV:=aC8 hv;obtain⟨a1,c1,rfl⟩:=hv.shape;obtain⟨a2,c2,rfl⟩:=hu.shape;have J:(Ro (Na.TP m)).length≠0:=λh=>by have:=oO h; omega
 obtain⟨n,hn⟩:∃n,(Ro (Na.TP m)).length=n+1:=⟨(Ro (Na.TP m)).length-1,Z⟩;obtain⟨S,dq,bs⟩:=Zo hn;obtain⟨p,hp⟩:∃p,bl (Na.TP m)+p=32*(n+1):=⟨32*(n+1)-bl (Na.TP m),Z⟩;have SC:p<=31:=Z
 have S:=bs p hp;have a6:0<Na.TP m*2^p:=aFF hm (aEP p);have bz:(Ro (Na.TP l*2^p)).length<=l.length+1:=by
  apply Na.bK;rw[aDY];refine Nat.mul_lt_mul_of_lt_of_le (Na.dU l) ?_ Na.kQ;have:2^p<=2^32:=aEm Z Z;exact this
 have ap:Hid (∀Q R,Q*(Na.TP m*2^p)+R=Na.TP l*2^p->R<Na.TP m*2^p->Q=Na.TP l/Na.TP m∧R/2^p=Na.TP l%Na.TP m∧(p=0->R=Na.TP l%Na.TP m)):=by
  intro Q R h hR;obtain⟨e1,e2⟩:=ael h hR;rw[Nat.mul_div_mul_right _ _ (aEP p)]at e1;rw[Nat.mul_mod_mul_right]at e2;refine⟨e1,by rw[e2,Nat.mul_div_cancel _ (aEP p)],λh0=>by rw[e2,h0]; simp⟩
 have ca:32*((n:Int)+1)-(bl (Na.TP m):Int)=(p:Int):=Z
 have cb:(bl (Na.TP m):Int)<=32*((n:Int)+1):=Z
 have dh:n<=5000000:=Z
 have C2:=λ(x:aaT) (w1:VO) (h:aG w1 x (Ro (Na.TP m)))=>Nc x _ w1 h Z;have C3:=λ(x:aaT) (w1:VO) (h:aG w1 x (Ro (Na.TP m)))=>tH x _ p w1 h SC Z;rw[NP]at C2 C3;have a7:=aC8 C2;have a8:=aC8 C3;clear C2 C3;have cc:((n:Int)+1==0)=false:=by rw[aDH]; omega
 have HN:=aC8 hn;have ae:=aC8 S;have a9:=aC8 a6;clear hv hu bs hp hn S a6 bv bw J;go_enter func255,ntmps255
 go_wp2_with fail
 refine C1.out.mono ?_;rintro e w1 ⟨t,rfl,J,S⟩;have HT:=aC8 (bD J);have cd:=aC8 S;obtain⟨dr,ct,rfl⟩:=Ib J;rw[HN.out]at HT |-;clear J S C1;go_wp2_with fail
 refine(a7.out _ w1 HT.out).mono ?_;rintro e w2 ⟨rfl,S⟩;have J:=aC8 (K00 cd.out S);have bb:=aC8 (HT.out.below S);clear S a7 HT;go_wp2_with fail
 refine(tH _ l p w2 (HV.out.below J.out) SC Z).mono ?_;rintro e w3 ⟨x,rfl,hx,S⟩;have ce:=aC8 (K00 J.out S);have HX:=aC8 (bD hx);have J:=aC8 (bb.out.below S);obtain⟨ax,cx,rfl⟩:=Ib hx;clear S hx bb;go_wp2_with fail
 refine(a8.out _ w3 J.out).mono ?_;rintro e w4 ⟨y,rfl,hy,S⟩;have bc:=aC8 (K00 ce.out S);have bd:=aC8 (HX.out.below S);have cf:=aC8 (bD hy);clear S hy HX J a8;generalize hU:Na.TP l*2^p=U at *;generalize hW:Na.TP m*2^p=V at *;obtain⟨N,J⟩:∃N,(Ro U).length=N:=⟨_,I⟩;have aq:=aC8 J;have cg:N<=maxLen:=by unfold maxLen; omega
 have ci:4*N<=281474976710656:=Z
 have di:N<=6000000:=Z
 rw[J]at bd |-;clear hU hW J bz;have J:=bc.out.size;go_wp2_with (at_make; refine wpList_make_row I _ _ _ I mM I w4.heap.size N I I I ci cg (aDd _) ?_; intro w5 J hg)
 have be:=gU (aDC w4.heap.size w4) hg (aDd _);have dj:w4.heap.size<w5.heap.size:=(J.lt w4.heap.size I).2;have HO:=aC8 J;have cj:=aC8 be;clear hg J be cc cb ca;go_wp2_with fail
 go_loopw [12,13,14,15,16,17] (λrv iv _ _ _ _ wr=>∃(k R:Nat) (q:List UInt32),k+q.length=N∧iv = .i ((k:Int)-1) ∧
  Na.TP q*V+R=Na.TP ((Ro U).drop k)∧R<V∧MX (w4.heap.size+1) wr rv (Ro R) ∧
  wr.ownsRow w4.heap.size 119 1 (.s (some ⟨w4.heap.size,0,none⟩) N N) N ((List.replicate k 0++q).map bC)∧Ext w4 wr) (λ_ iv _ _ _ _ _=>(intOf iv+1).toNat)
 case atStart =>
  refine⟨N,0,[],by simp,I,?_,a9.out,?_,?_,cj.out.alloc Z _⟩
  .rw[aEB (by rw[aq.out]; exact aDd _)]; simp[Na.TP]
  .exact aFB w5 #[] 0 Z (aDl _) I
  have:=HO.out.alloc (.cells #[] 119);simpa[bC]using this
 case round =>
  obtain⟨k,R,q,bt,rfl,ao,hR,hr,J,ac⟩:=hrel;have ar:=aC8 bt;have qA:=aC8 ao;have av:=aC8 hr;have HW:=aC8 J;have dk:=ac.size;have dl:k<=N:=Z
  clear bt ao hr J;cases k with
  | zero =>
   obtain⟨e1,e2,e3⟩:=ap.out (Na.TP q) R (by have:=qA.out; rw[aEo,NP]at this; exact this) hR;have HE:=aC8 (And.intro e1 (And.intro e2 e3));have ab:aG wr (.s (some ⟨w4.heap.size,0,none⟩) N N) q:=by
    have h1:=ar.out;have h2:=HW.out;simp only[aFH,aD8]at h2;exact pW Z h2
   have HQ:=aC8 (dV _ q wr ab (by have:=ar.out; omega));have am:=bD av.out;have ck:(Ro R).length<=6000000:=by
    have h1:=fP (aFc hR);rw[ae.out]at h1; omega
   have aw:=aC8 am;have RI:=aC8 (K00 bc.out ac);clear e1 e2 e3 ab am ap ac;go_wp2_with fail
   refine HQ.out.mono ?_;rintro e w6 ⟨x,rfl,hx,S⟩;have bg:=aC8 (bF hx RI.out.size);have aa:=aC8 (K00 RI.out S);have bh:=aC8 (aw.out.below S);clear hx S HQ;rcases aD0 p with h0 | h0
   .subst h0;have HS:=tH _ _ 0 w6 bh.out Z Z;rw[NP,Nat.pow_zero,Nat.mul_one,HE.out.2.2 I]at HS;have ay:=aC8 HS;clear HS;go_wp2_with fail
    refine ay.out.mono ?_;rintro e w7 ⟨y,rfl,hy,S⟩;have af:=aC8 (bF hy aa.out.size);have az:=aC8 (dB bg.out S);have ag:=aC8 (K00 aa.out S);clear hy S;go_wp2_with fail
    go_ret3
    exact⟨_,_,I,by rw[<-HE.out.1]; exact az.out,af.out,ag.out⟩
   have HS:=MZ _ _ p w6 bh.out h0 SC Z;rw[NP,HE.out.2.1]at HS;have ay:=aC8 HS;clear HS;go_wp2_with fail
   refine ay.out.mono ?_;rintro e w7 ⟨y,rfl,hy,S⟩;have af:=aC8 (bF hy aa.out.size);have az:=aC8 (dB bg.out S);have ag:=aC8 (K00 aa.out S);clear hy S;go_wp2_with fail
   go_ret3
   exact⟨_,_,I,by rw[<-HE.out.1]; exact az.out,af.out,ag.out⟩
  | succ j =>
   have hi:(((j+1:Nat):Int)-1)=(j:Int):=Z
   rw[hi];clear hi;obtain⟨bx,ox,ds,ai,df,dt,du,bu⟩:=dP bd.out aq.out Z;simp only[aDO]at ai;obtain⟨rfl,-,rfl⟩:=ai;have bj:j<(Ro U).length:=by rw[aq.out]; omega
   have cm:wr.cell? ⟨bx,ox+j,none⟩=some (bC (Ro U)[j]):=by rw[ac.cell (p:=⟨bx,ox+j,none⟩) df]; exact bu j bj
   have HD:=aC8 (oh (Ro U) j bj);clear bu;generalize (Ro U)[j]=x at *;have bk:=x.toNat_lt;obtain⟨f1,f2,f3⟩:=abp (u:=x.toNat) a9.out hR bk qA.out;have HF:=aC8 (And.intro f1 (And.intro f2 f3));have bm:x.toNat+Na.Hw*R<Na.Hw*V:=by
    have h1:Na.Hw*(R+1)<=Na.Hw*V:=aDZ _ hR;rw[aEN]at h1;have:x.toNat<Na.Hw:=bk;omega
   have bo:=aC8 bm;have ck:(Ro R).length<=n+1:=by
    have h1:=fP (aFc hR);rw[ae.out]at h1; exact h1
   have aw:=aC8 (bD av.out);obtain⟨ra,rc,rfl⟩:=Ib av.out;have RI:=aC8 ac;clear f1 f2 f3 bm ap;go_wp2_with fail
   obtain⟨wo,rfl⟩:∃wo:VO,wo=wr:=⟨_,I⟩;have dm:(((Ro R).length:Nat):Int)<=6000000:=Z
   go_loopw [14,15] (λnv kv wr=>∃i:Nat,i<=(Ro R).length∧kv = .i i∧wr.ownsRow wo.heap.size 119 1 nv (1+i) ((x::(Ro R).take i).map bC)∧Ext wo wr) (λ_ kv _=>(Ro R).length-(intOf kv).toNat)
   case atStart=>exact⟨0,aDl _,I,aFB (base:=wo.heap.size) wo #[bC x] 1 (aDd _) (by unfold maxLen; omega) I,aH _ _⟩
   case round =>
    obtain⟨i,hi,rfl,J,al⟩:=hrel;have cn:wo.heap.size<=wr.heap.size:=al.size;have co:1+i+1<=maxLen:=by unfold maxLen; omega
    have cq:(1+i+1)*4<=140737488355328:=Z
    by_cases hlt:i<(Ro R).length
    .obtain⟨br,or,cr,ai,hbr,hlr,hmr,hcr⟩:=dP aw.out I Z;simp only[aDO]at ai;obtain⟨rfl,-,-⟩:=ai;have cm:wr.cell? ⟨br,or+i,none⟩=some (bC (Ro R)[i]):=by rw[al.cell (p:=⟨br,or+i,none⟩) hbr]; exact hcr i hlt
     have cu:Hid ((x::(Ro R).take (i+1)).map bC=(x::(Ro R).take i).map bC++[bC (Ro R)[i]]):=by show _=_; rw[take_snoc (Ro R) i hlt]; simp only[aD1,aEb,aEr,aEp]
     clear hcr;generalize (Ro R)[i]=d at *;have hr:=oq wr (bC d) 119 I;have ah:=J.alloc (.cells #[bC d] 119);have an:wo.heap.size<=(wr.alloc (.cells #[bC d] 119)).heap.size:=by simp; omega
     clear J;go_wp2_with (at_builtin; refine bV I _ _ _ I mM wo.heap.size ah I hr I co cq an ?_; intro v2 w2 a5 hg)
     go_roundw
     case rel =>
      refine⟨i+1,Z,by go_num,?_,(al.alloc cn _).grown hg an (λk hk=>(World.ownsRow.lt ah k hk).1)⟩;rw[cu.out]; exact a5
     case measure=>simp[intOf]; omega
    obtain rfl:i=(Ro R).length:=by omega
    rw[aEc]at J;have ab:=pW (l:=x::Ro R) (by simp; omega) J;have a3:=dV _ (x::Ro R) wr ab (by simp; omega);have eN:Na.TP (x::Ro R)=x.toNat+Na.Hw*R:=by show _+_=_; rw[NP]
    rw[eN]at a3;have bp:=aC8 a3;have cw:=aC8 al;clear ab a3 eN J al;generalize hNn:x.toNat+Na.Hw*R=A03 at *;have J:(Ro A03).length<=n+2:=by
     apply Na.bK;have h1:=bo.out;have h2:=(VX ae.out).2;have J:Na.Hw*V<Na.Hw*Na.Hw^(n+1):=aGb h2 Na.kQ;rw[aDW Na.Hw (Na.Hw^(n+1)),<-aDY]at J;exact Nat.lt_trans h1 J
    go_wp2_with fail
    refine bp.out.mono ?_;rintro e w6 ⟨z,rfl,hz,S⟩;have HZ:=aC8 (bD hz);have aa:=aC8 (K00 cw.out S);have cy:=aC8 (K00 RI.out aa.out);have J:=adx z y (Ro A03) (Ro V) n w6 HZ.out (cf.out.below cy.out) ae.out (adz (Na.iq V) ae.out) (by rw[NP,NP]; exact bo.out) Z Z;rw[NP,NP]at J;have a4:=aC8 J;obtain⟨D,hD⟩:∃D,A03/V=D:=⟨_,I⟩;rw[hD]at a4 HF;have cz:D<4294967296:=HF.out.2.1;clear hz S J bp hD;go_wp2_with fail
    refine a4.out.mono ?_;rintro e w7 ⟨J,rfl,hy,S⟩;have af:=aC8 hy;have ag:=aC8 (K00 aa.out S);have bq:=aC8 (dB HW.out (K00 aa.out S));have c0:=aC8 (K00 RI.out ag.out);have da:w4.heap.size+1<=w6.heap.size:=by
     have h1:=(World.ownsRow.lt HW.out w4.heap.size I).2;have h2:=aa.out.size;omega
    obtain⟨⟨cv,J⟩,dx⟩:=rP bq.out j Z;have J:(D:Int)%4294967296=((UInt32.ofNat D).toNat:Int):=dgI D;have J:=(bq.out.stored j (bC (UInt32.ofNat D)));rw[aEb,aFY,GR]at J;have db:=aC8 J;have de:Hid ((UInt32.ofNat D).toNat=D):=dn cz;generalize UInt32.ofNat D=dd at *;clear hy S a4 J HW;go_wp2_with fail
    go_roundw
    case rel =>
     have J:=de.out;subst J;refine⟨j,A03%V,dd::q,?_,I,?_,HF.out.2.2,?_,?_,?_⟩
     .have:=ar.out; simp; omega
     .rw[HD.out,<-HF.out.1];rfl
     .exact ake (bF af.out da) Z j _
     .have:=db.out.1;simpa[bC]using this
     exact c0.out.setCell (p:=⟨w4.heap.size,j,none⟩) (aDd _) _
    case measure=>simp[intOf]
end Go.Proofs.Vy
namespace Na
variable{out:List UInt32}{j c A x V:Nat}
abbrev aa5(l:List UInt32):∀(j:Nat) (d:UInt32),j<l.length->TP (l.set j d)+Hw^j*(l.getD j 0).toNat=TP l+Hw^j*d.toNat:=by
 induction l with
 | nil=>intro j d h; simp at h
 | cons c l ih =>
  intro j d h;cases j with
  | zero=>simp[TP]; omega
  | succ j =>
   have D:=ih j d (by simpa using h);have J:(c::l).getD (j+1) 0=l.getD j 0:=by simp[List.getD]
   rw[J,List.set_cons_succ];simp only[TP,aDY];rw[aDW (Hw^j) Hw,aD2,aD2];have J:Hw*(TP (l.set j d)+Hw^j*(l.getD j 0).toNat)=Hw*(TP l+Hw^j*d.toNat):=by rw[D]
   rw[aDE,aDE]at J;omega
abbrev ahw{n t:Nat}(J:j<out.length)(D:TP out+Hw^j*c=A)(hn:n=t+(out.getD j 0).toNat+c) :
  TP (out.set j (UInt32.ofNat n))+Hw^(j+1)*(n/Hw)=A+Hw^j*t:=by
 have D:=aa5 out j (UInt32.ofNat n) J;rw[dg]at D;have D:=aES n Hw;have J:Hw^j*(n%Hw)+Hw^(j+1)*(n/Hw)=Hw^j*n:=by rw[aDY,aD2,<-aDE,D]
 have D:Hw^j*n=Hw^j*t+Hw^j*(out.getD j 0).toNat+Hw^j*c:=by rw[hn,aDE,aDE]
 omega
abbrev akf(J:j<out.length)(D:TP out+Hw^j*c=A)(S:out.getD j 0=0)(hc:c<Hw):TP (out.set j (UInt32.ofNat c))=A:=by
 have D:=aa5 out j (UInt32.ofNat c) J;rw[dg,S,aFf hc]at D;simp at D;omega
abbrev OZ{k:Nat}{d:UInt32}(h:j<k):(out.set j d).getD k 0=out.getD k 0:=by
 simp only[List.getD,List.getElem?_set];rw[aC9 Z]
abbrev akg{A05 y:Nat}(i k:Nat):A05+Hw^i*(x*V)+Hw^(i+k)*(x*y)=A05+Hw^i*(x*(V+Hw^k*y)):=by
 rw[aFg,aDE x,aDE (Hw^i),aD2 (Hw^i),aFv x (Hw^k)];omega
abbrev ahx{W:Nat}(i:Nat):V*W+Hw^i*(x*W)=(V+Hw^i*x)*W:=by rw[aEO,aD2]
def Clear(j:Nat)(l:List UInt32):Prop:=∀i,j<=i->l.getD i 0=0
abbrev Clear.set{j k:Nat}{l:List UInt32}{d:UInt32}(h:Clear j l)(hk:k<j):Clear j (l.set k d):=λi D=>by rw[OZ Z]; exact h i D
abbrev Clear.aoT{j:Nat}{l:List UInt32}{d:UInt32}(h:Clear j l):Clear (j+1) (l.set j d):=λi D=>by rw[OZ Z]; exact h i Z
abbrev Clear.mono{j k:Nat}{l:List UInt32}(h:Clear j l)(hk:j<=k):Clear k l:=λi D=>h i Z
abbrev adA(n:Nat):Clear 0 (List.replicate n 0):=λi _=>by
 simp only[List.getD,List.getElem?_replicate]; split<;>rfl
end Na
end
namespace Go.Proofs.Vy
section
open Go.RowKit Na
variable{α:Type}
abbrev ahy{x y o c:Nat}(J:x<4294967296)(S:y<4294967296)(D:o<4294967296)(hc:c<4294967296):∃t s n:Nat,t=x*y∧s=t+o∧n=s+c ∧
  IntKind.u64.wrap ((x:Int)*(y:Int))=(t:Int)∧IntKind.u64.wrap ((t:Int)+(o:Int))=(s:Int)∧IntKind.u64.wrap ((c:Int)+(s:Int))=(n:Int)∧n<18446744073709551616:=by
 have D:x*y<=4294967295*4294967295:=aE1 Z Z;refine⟨x*y,x*y+o,x*y+o+c,I,I,I,Sr J S,?_,?_,Z⟩
 .rw[<-iH (x*y+o) Z]; simp
 rw[<-iH (x*y+o+c) Z]; congr 1; omega
abbrev Zp(v u:aaT)(l m:List UInt32)(w:VO)(hv:aG w v l)(hu:aG w u m)(hl:l.length<=50000000)(hm:m.length<=50000000) :
  abB prog 298 #[v,u] w λe w'=>∃a,e = .R (.s a (Ro (Na.TP l*Na.TP m)).length (Ro (Na.TP l*Na.TP m)).length) ∧
   aG w' (.s a (Ro (Na.TP l*Na.TP m)).length (Ro (Na.TP l*Na.TP m)).length) (Ro (Na.TP l*Na.TP m))∧Ext w w':=by
 have hd1:=dA l;have a4:=dA m;have e1:=NP (Na.TP l);have e2:=NP (Na.TP m);have S1:=aC8 (short_any v l w hv);have S2:=aC8 (short_any u m w hu);obtain⟨a1,c1,rfl⟩:=hv.shape;obtain⟨a2,c2,rfl⟩:=hu.shape;clear hv hu;rw[<-e1,<-e2];generalize Ro (Na.TP l)=A03 at *;generalize Ro (Na.TP m)=A04 at *;have hX:A03.length<=50000000:=Z
 have hY:A04.length<=50000000:=Z
 obtain⟨N,hN⟩:∃N,N=A03.length+A04.length:=⟨_,I⟩;have a5:((A03.length:Int)+(A04.length:Int))=(N:Int):=Z
 have bk:N<=100000000:=Z
 have a6:N<=maxLen:=by unfold maxLen; omega
 have a7:4*N<=281474976710656:=Z
 have HN:=aC8 hN;clear hN e1 e2 hd1 a4 hl hm;go_enter func298,ntmps298
 go_wp2_with fail
 go_step3
 go_wp2_with fail
 refine S1.out.mono ?_;rintro e w' ⟨b1,rfl,h1,rfl⟩;have H1:=aC8 h1;clear h1 S1;go_wp2_with fail
 refine S2.out.mono ?_;rintro e w' ⟨b2,rfl,h2,rfl⟩;have H2:=aC8 h2;clear h2 S2;go_wp2_with (at_make; refine wpList_make_row I _ _ _ I mM I w.heap.size N I I I a7 a6 (aDd _) ?_; intro w1 D hg)
 have a8:=gU (aDC w.heap.size w) hg (aDd _);clear hg;have HO:=aC8 D;clear D a5;try go_step3
 go_wp2_with fail
 go_loopw [23] (λiv wr=>∃(i:Nat) (out:List UInt32),i<=A03.length∧iv = .i i∧out.length=N∧Na.TP out=Na.TP (A03.take i)*Na.TP A04∧Na.Clear (i+A04.length) out ∧
  wr.ownsRow w.heap.size 119 1 (.s (some ⟨w.heap.size,0,none⟩) N N) N (out.map bC)∧Ext w wr) (λiv _=>A03.length-(intOf iv).toNat)
 case atStart=>exact⟨0,List.replicate N 0,aDl _,I,by simp,by rw[Ns]; simp[Na.TP],(Na.adA N).mono (aDl _),by simpa[bC]using HO.out,a8⟩
 case round =>
  obtain⟨i,out,hi,rfl,ar,ag,av,D,ah⟩:=hrel;have ae:=aC8 ar;have qA:=aC8 ag;have HW:=aC8 D;have HC:=aC8 av;have HB:=aC8 ah;clear ar ag D av HO ah;by_cases hlt:i<A03.length
  .obtain⟨bx,ox,cx,hxs,hbx,hlx,hmx,hcx⟩:=dP H1.out I Z;simp only[aDO]at hxs;obtain⟨rfl,-,-⟩:=hxs;have a9:wr.cell? ⟨bx,ox+i,none⟩=some (bC A03[i]):=by rw[HB.out.cell (p:=⟨bx,ox+i,none⟩) hbx]; exact hcx i hlt
   have T0:=aC8 (Na.dF A03 i hlt);generalize A03[i]=x at *;have g0:=x.toNat_lt;have x0:=ig x;clear hcx;by_cases hz:x.toNat=0
   .have an:((x.toNat:Int)==0)=true:=by rw[aDu]; omega
    have HZ:=aC8 hz;clear hz;go_wp2_with fail
    go_roundw
    case rel =>
     refine⟨i+1,out,Z,by go_num,ae.out,?_,HC.out.mono Z,HW.out,HB.out⟩;rw[qA.out,T0.out,HZ.out]; simp
    case measure=>simp[intOf]; omega
   have an:((x.toNat:Int)==0)=false:=by rw[aDH]; omega
   obtain⟨wo,rfl⟩:∃wo:VO,wo=wr:=⟨_,I⟩;clear hz;go_wp2_with fail
   clear a9 an;go_loopw [8,32] (λcv kv wr=>∃(k c:Nat) (o2:List UInt32),k<=A04.length∧kv = .i k∧cv = .int .u64 c∧c<4294967296∧o2.length=N∧Na.TP o2+Na.Hw^(i+k)*c=Na.TP out+Na.Hw^i*(x.toNat*Na.TP (A04.take k)) ∧
    Na.Clear (i+A04.length) o2∧wr.ownsRow w.heap.size 119 1 (.s (some ⟨w.heap.size,0,none⟩) N N) N (o2.map bC)∧Ext w wr) (λ_ kv _=>A04.length-(intOf kv).toNat)
   case atStart=>exact⟨0,0,out,aDl _,I,I,Z,ae.out,by simp[Na.TP],HC.out,HW.out,HB.out⟩
   case round =>
    obtain⟨k,c,o2,hk,rfl,rfl,hc,aw,ax,ay,ac,az⟩:=hrel;have af:=aC8 aw;have ai:=aC8 ax;have S:=aC8 ac;have al:=aC8 ay;have am:=aC8 az;have ao:i+A04.length<N:=by have:=HN.out; omega
    clear aw ax ac ay az HW HC HB ae;by_cases hkl:k<A04.length
    .obtain⟨by',oy,cy,hys,ay1,hly,hmy,hcy⟩:=dP H2.out I Z;simp only[aDO]at hys;obtain⟨rfl,-,-⟩:=hys;have bm:wr.cell? ⟨by',oy+k,none⟩=some (bC A04[k]):=by rw[am.out.cell (p:=⟨by',oy+k,none⟩) ay1]; exact hcy k hkl
     have T1:=aC8 (Na.dF A04 k hkl);generalize A04[k]=y at *;have bb:i+k<N:=Z
     have ab:i+k<o2.length:=by rw[af.out]; exact bb
     have bc:=S.out.cellAt (i+k) Z;rw[List.getElem?_map,List.getElem?_eq_getElem ab,aD3]at bc;have ap:o2.getD (i+k) 0=o2[i+k]:=by simp[List.getD,List.getElem?_eq_getElem ab]
     have bd:=S.out.frozenAt (i+k);generalize o2[i+k]=o at *;have g1:=y.toNat_lt;have g2:=o.toNat_lt;have y0:=ig y;have o0:=ig o;obtain⟨t,s,n,ht,hs,hn,bj,bo,bp,a3⟩:=ahy g0 g1 g2 hc;have aa:=aC8 (Na.ahw (t:=t) ab ai.out (show n=t+(o2.getD (i+k) 0).toNat+c by rw[ap]; omega));rw[ht]at aa;have aq:(n:Int)%4294967296=((UInt32.ofNat n).toNat:Int):=dgI n;have bh:(n:Int)/4294967296=((n/Na.Hw:Nat):Int):=dvI n;have be:n/Na.Hw<4294967296:=aFw a3;generalize hq:n/Na.Hw=c' at *;obtain⟨d,hd⟩:∃d,UInt32.ofNat n=d:=⟨_,I⟩;rw[hd]at aq aa;have J:=S.out.stored (i+k) (bC d);rw[<-aE2]at J;have HS:=aC8 J;clear hcy J ap ht hs hn hq hd a3 S ai;go_wp2_with fail
     go_roundw
     case rel =>
      refine⟨k+1,c',o2.set (i+k) d,Z,by go_num,I,be,by rw[List.length_set]; exact af.out,?_,al.out.set Z,HS.out.1,am.out.setCell (p:=⟨w.heap.size,i+k,none⟩) (aDd _) _⟩;rw[<-aE4,aa.out,T1.out,Na.akg]
     case measure=>simp[intOf]; omega
    obtain rfl:k=A04.length:=by omega
    have ab:i+A04.length<o2.length:=by rw[af.out]; exact ao
    have aa:=aC8 (Na.akf ab ai.out (al.out _ (aDd _)) hc);obtain⟨d,rfl⟩:∃d:UInt32,c=d.toNat:=⟨UInt32.ofNat c,(dn hc).symm⟩;rw[show UInt32.ofNat d.toNat=d by simp]at aa;obtain⟨⟨cv,bg⟩,bd⟩:=rP S.out (i+A04.length) ao;have J:=S.out.stored (i+A04.length) (bC d);rw[<-aE2]at J;have HS:=aC8 J;clear J;go_wp2_with fail
    go_roundw
    case rel =>
     refine⟨i+1,o2.set (i+A04.length) d,Z,by go_num,by rw[List.length_set]; exact af.out,?_,by rw[show i+1+A04.length=i+A04.length+1 by omega]; exact al.out.aoT,HS.out.1,am.out.setCell (p:=⟨w.heap.size,i+A04.length,none⟩) (aDd _) _⟩;rw[aa.out,qA.out,aEc,Na.ahx,T0.out]
    case measure=>simp[intOf]; omega
  obtain rfl:i=A03.length:=by omega
  have hs:=short_any _ _ _ (pW ae.out HW.out);rw[qA.out,aEc]at hs;have HS:=aC8 hs;clear hs;go_wp2_with fail
  refine HS.out.mono ?_;rintro e w' ⟨a',rfl,hr,rfl⟩;have HR:=aC8 hr;clear hr;go_wp2_with fail
  try rw[Exit.noGoto_ret]
  go_ret
  exact⟨_,I,HR.out,HB.out⟩
abbrev set_mid(out:List α)(k:Nat)(z x:α):(out++List.replicate (k+1) z).set out.length x=(out++[x])++List.replicate k z:=by
 rw[List.set_append_right _ _ (aDd _),aE5,aFz,List.set_cons_zero,aDz]; rfl
abbrev Zq(v u:aaT)(l m:List UInt32)(w:VO)(hv:aG w v l)(D:aG w u m)(hl:l.length<=100000000)(J:m.length<=100000000) :
  abB prog 328 #[v,u] w λe w'=>∃a,e = .R (.s a (Ro (Na.TP l+Na.TP m)).length (Ro (Na.TP l+Na.TP m)).length) ∧
   aG w' (.s a (Ro (Na.TP l+Na.TP m)).length (Ro (Na.TP l+Na.TP m)).length) (Ro (Na.TP l+Na.TP m))∧Ext w w':=by
 have HV:=aC8 hv;have HU:=aC8 D;obtain⟨a1,c1,rfl⟩:=hv.shape;obtain⟨a2,c2,rfl⟩:=D.shape;clear hv D;obtain⟨M,hM⟩:∃M,M=max l.length m.length:=⟨_,I⟩;have J:max (l.length:Int) (m.length:Int)=(M:Int):=Z
 obtain⟨N,hN⟩:∃N,N=M+1:=⟨_,I⟩;have S:(M:Int)+1=(N:Int):=Z
 have D:N<=100000001:=Z
 have HE:Hid (Na.TP (l.take N)=Na.TP l∧Na.TP (m.take N)=Na.TP m∧Na.TP l+Na.TP m<Na.Hw^N):=by
  refine⟨by rw[aDG Z],by rw[aDG Z],?_⟩;rw[hN];have h1:=Na.dU l;have h2:=Na.dU m;have h3:Na.Hw^l.length<=Na.Hw^M:=aEm O Z;have D:Na.Hw^m.length<=Na.Hw^M:=aEm O Z;have D:Na.Hw^M*2<=Na.Hw^M*Na.Hw:=aDZ _ O;rw[aDY];generalize Na.Hw^M*Na.Hw=q at *;generalize Na.Hw^M=p at *;omega
 have D:N<=maxLen:=by unfold maxLen; omega
 have ah:4*N<=281474976710656:=Z
 clear hM hN;go_enter func328,ntmps328
 go_wp2_with (at_make; refine wpList_make_row I _ _ _ I mM I w.heap.size N I I I ah D (aDd _) ?_; intro w1 D hg)
 clear J S;have S:=gU (aDC w.heap.size w) hg (aDd _);clear hg;have HO:=aC8 D;clear D;go_loopw [6,17] (λcv J wr=>∃(i c k:Nat) (out:List UInt32),i+k=N∧J = .i i∧cv = .int .u64 c∧c<=1∧out.length=i∧Na.TP out+Na.Hw^i*c=Na.TP (l.take i)+Na.TP (m.take i) ∧
  wr.ownsRow w.heap.size 119 1 (.s (some ⟨w.heap.size,0,none⟩) N N) N ((out++List.replicate k 0).map bC)∧Ext w wr) (λ_ J _=>N-(intOf J).toNat)
 case atStart=>exact⟨0,0,N,[],Z,I,I,Z,I,by simp[Na.TP],by simpa[bC]using HO.out,S⟩
 case round =>
  obtain⟨i,c,k,out,af,rfl,rfl,S,ag,aa,D,J⟩:=hrel;have S:=aC8 ag;have qA:=aC8 aa;have HW:=aC8 D;have am:i<=N:=Z
  have ab:=aC8 af;clear ag aa D HO af;by_cases hlt:i<N
  .obtain⟨k',rfl⟩:∃k',k=k'+1:=⟨k-1,by have:=ab.out; omega⟩;have d0:=qL _ l i wr (HV.out.below J) Z;have d1:=qL _ m i wr (HU.out.below J) Z;have D:=(l.getD i 0).toNat_lt;have D:=(m.getD i 0).toNat_lt;have t0:=jV l i;have t1:=jV m i;generalize (l.getD i 0).toNat=x at *;generalize (m.getD i 0).toNat=y at *;have D0:=aC8 d0;have D1:=aC8 d1;have T0:=aC8 t0;have T1:=aC8 t1;obtain⟨n,hn⟩:∃n,n=x+y+c:=⟨_,I⟩;have D:((c:Int)+((x:Int)+y))%4294967296=((UInt32.ofNat n).toNat:Int):=by
    rw[show(c:Int)+((x:Int)+y)=(n:Int) by omega,dgI]
   have al:((c:Int)+((x:Int)+y))/4294967296=((n/Na.Hw:Nat):Int):=by
    rw[show(c:Int)+((x:Int)+y)=(n:Int) by omega,dvI]
   have ai:n/Na.Hw<=1:=by rw[hn,aht]; omega
   have ac:=aC8 (Na.step_up S.out qA.out hn);generalize hq:n/Na.Hw=c' at *;obtain⟨d,hd⟩:∃d,UInt32.ofNat n=d:=⟨_,I⟩;rw[hd]at D ac;obtain⟨⟨cv,D⟩,an⟩:=rP HW.out i hlt;have D:=HW.out.stored i (bC d);have ae:((out++List.replicate (k'+1) 0).map bC).set i (bC d)=((out++[d])++List.replicate k' 0).map bC:=by rw[<-aE2,<-S.out,set_mid]
   rw[ae]at D;have HS:=aC8 D;clear d0 d1 t0 t1 hn hq hd D ae;go_wp2_with fail
   refine D0.out.mono ?_;rintro e w' ⟨rfl,rfl⟩;go_wp2_with fail
   refine D1.out.mono ?_;rintro e w' ⟨rfl,rfl⟩;go_wp2_with fail
   go_roundw
   case rel =>
    refine⟨i+1,c',k',out++[d],by have:=ab.out; omega,by go_num,I,ai,by simp[S.out],?_,HS.out.1,J.setCell (p:=⟨w.heap.size,i,none⟩) (aDd _) _⟩;rw[ac.out,T0.out,T1.out,aDE]; omega
   case measure=>simp[intOf]; omega
  obtain rfl:i=N:=by omega
  obtain rfl:k=0:=by have:=ab.out; omega
  have D:aG wr (.s (some ⟨w.heap.size,0,none⟩) i i) out:=by
   have:=HW.out;rw[aFH,aEk]at this;exact pW S.out this
  have hv:Na.TP out=Na.TP l+Na.TP m:=by
   have h1:=qA.out;rw[HE.out.1,HE.out.2.1]at h1;have h2:=HE.out.2.2;have h3:c=0:=by
    rcases aD0 c with h | h
    .exact h
    have:=aDZ (Na.Hw^i) h;omega
   rw[h3]at h1;omega
  have S:=short_any _ _ _ D;rw[hv]at S;have HS:=aC8 S;clear S D hv;go_wp2_with fail
  refine HS.out.mono ?_;rintro e w' ⟨S,rfl,D,rfl⟩;have S:=aC8 D;clear D;go_wp2_with fail
  go_ret
  exact⟨_,I,S.out,J⟩
abbrev adB(v u:aaT)(l m:List UInt32)(w:VO)(S:aG w v l)(hu:aG w u m)(D:Na.TP l<Na.TP m) :
  abB prog 329 #[v,u] w (VH w (.tuple #[.sn,.z])):=by
 have J:=CJ v u l m w S hu;rw[CG D]at J;have HC:=aC8 J;obtain⟨a1,c1,rfl⟩:=S.shape;obtain⟨a2,c2,rfl⟩:=hu.shape;clear J S hu D;go_enter func329,ntmps329
 go_wp2_with fail
 refine HC.out.mono ?_;rintro e w' ⟨rfl,D⟩;have J:=aC8 D;clear D;go_wp2_with fail
 go_ret2
 exact⟨I,J.out⟩
abbrev adC(v u:aaT)(l m:List UInt32)(w:VO)(hv:aG w v l)(J:aG w u m)(hl:l.length<=100000000)(D:Na.TP m<=Na.TP l) :
  abB prog 329 #[v,u] w λe w'=>∃a,e = .R (.tuple #[.s a (Ro (Na.TP l-Na.TP m)).length (Ro (Na.TP l-Na.TP m)).length,.b true]) ∧
   aG w' (.s a (Ro (Na.TP l-Na.TP m)).length (Ro (Na.TP l-Na.TP m)).length) (Ro (Na.TP l-Na.TP m))∧Ext w w':=by
 have S:=aC8 (CJ v u l m w hv J);have ax:=wW D;have am:=dA l;have HV:=aC8 hv;have HU:=aC8 J;obtain⟨a1,c1,rfl⟩:=hv.shape;obtain⟨a2,c2,rfl⟩:=J.shape;clear hv J;obtain⟨M,J⟩:∃M,M=(Ro (Na.TP l)).length:=⟨_,I⟩;have HE:Hid (Na.TP (l.take M)=Na.TP l∧Na.TP (m.take M)=Na.TP m∧Na.TP l<Na.Hw^M):=by
  have h1:Na.TP l<Na.Hw^M:=by
   have:=Na.dU (Ro (Na.TP l));rw[NP,<-J]at this; exact this
  exact⟨uU h1,uU Z,h1⟩
 have an:=aC8 D;have HM:=aC8 J;have ay:M<=100000000:=Z
 have ao:M<=maxLen:=by unfold maxLen; omega
 have ap:4*M<=281474976710656:=Z
 generalize rH (Na.TP l) (Na.TP m)=cc at *;clear J D am;go_enter func329,ntmps329
 go_wp2_with fail
 refine S.out.mono ?_;rintro e w0 ⟨rfl,J⟩;have S:=aC8 J;have D:=short_any _ l w0 (HV.out.below J);rw[<-HM.out]at D;have aq:=aC8 D;clear D J;go_wp2_with fail
 refine aq.out.mono ?_;rintro e w' ⟨D,rfl,-,rfl⟩;go_wp2_with (at_make; refine wpList_make_row I _ _ _ I mM I w0.heap.size M I I I ap ao (aDd _) ?_; intro w1 D J)
 have ar:=K00 S.out (gU (aDC w0.heap.size w0) J (aDd _));have ae:=S.out.size;clear J;have HO:=aC8 D;clear D;go_loopw [7,20] (λcv J wr=>∃(i c k:Nat) (out:List UInt32),i+k=M∧J = .i i∧cv = .int .u64 c∧c<=1∧out.length=i∧Na.TP (l.take i)+Na.Hw^i*c=Na.TP out+Na.TP (m.take i) ∧
  wr.ownsRow w0.heap.size 119 1 (.s (some ⟨w0.heap.size,0,none⟩) M M) M ((out++List.replicate k 0).map bC)∧Ext w wr) (λ_ J _=>M-(intOf J).toNat)
 case atStart=>exact⟨0,0,M,[],Z,I,I,Z,I,by simp[Na.TP],by simpa[bC]using HO.out,ar⟩
 case round =>
  obtain⟨i,c,k,out,ag,rfl,rfl,hc,ah,ab,D,J⟩:=hrel;have S:=aC8 ah;have qA:=aC8 ab;have HW:=aC8 D;have az:i<=M:=Z
  have ac:=aC8 ag;clear ah ab D HO ag;by_cases hlt:i<M
  .obtain⟨k',rfl⟩:∃k',k=k'+1:=⟨k-1,by have:=ac.out; omega⟩;have d0:=qL _ l i wr (HV.out.below J) Z;have d1:=qL _ m i wr (HU.out.below J) Z;have D:=(l.getD i 0).toNat_lt;have g1:=(m.getD i 0).toNat_lt;have t0:=jV l i;have t1:=jV m i;generalize (l.getD i 0).toNat=x at *;generalize (m.getD i 0).toNat=y at *;have D0:=aC8 d0;have D1:=aC8 d1;have T0:=aC8 t0;have T1:=aC8 t1;obtain⟨a3,r,c',hZ,hr,a4,aw,ai,al⟩:=Ij x y c D g1 hc;obtain⟨d,rfl⟩:∃d:UInt32,r=d.toNat:=⟨UInt32.ofNat r,(dn ai).symm⟩;have av:Hid (Na.TP (l.take (i+1))+Na.Hw^(i+1)*c'=Na.TP (out++[d])+Na.TP (m.take (i+1))):=by
    show _=_;have h1:=qA.out;rw[T0.out,T1.out,Na.jC,S.out,aDY];have h2:Na.Hw^i*(x+Na.Hw*c')=Na.Hw^i*(d.toNat+y+c):=by rw[al]
    rw[aDE,aDE,aDE,<-aD2]at h2;omega
   obtain⟨⟨cv,D⟩,a5⟩:=rP HW.out i hlt;have D:=HW.out.stored i (bC d);have af:((out++List.replicate (k'+1) 0).map bC).set i (bC d)=((out++[d])++List.replicate k' 0).map bC:=by rw[<-aE2,<-S.out,set_mid]
   rw[af]at D;have HS:=aC8 D;clear d0 d1 t0 t1 D af al ai;go_wp2_with fail
   refine D0.out.mono ?_;rintro e w' ⟨rfl,rfl⟩;go_wp2_with fail
   refine D1.out.mono ?_;rintro e w' ⟨rfl,rfl⟩;go_wp2_with fail
   go_roundw
   case rel =>
    exact⟨i+1,c',k',out++[d],by have:=ac.out; omega,by go_num,I,aw,by simp[S.out],av.out,HS.out.1,J.setCell (p:=⟨w0.heap.size,i,none⟩) ae _⟩
   case measure=>simp[intOf]; omega
  obtain rfl:i=M:=by omega
  obtain rfl:k=0:=by have:=ac.out; omega
  have D:aG wr (.s (some ⟨w0.heap.size,0,none⟩) i i) out:=by
   have:=HW.out;rw[aFH,aEk]at this;exact pW S.out this
  have hv:Na.TP out=Na.TP l-Na.TP m:=by
   have h1:=qA.out;rw[HE.out.1,HE.out.2.1]at h1;have h2:=Na.dU out;rw[S.out]at h2;exact aa4 h1 an.out h2
  have S:=short_any _ _ _ D;rw[hv]at S;have HS:=aC8 S;clear S D hv;go_wp2_with fail
  refine HS.out.mono ?_;rintro e w' ⟨D,rfl,hr,rfl⟩;have D:=aC8 hr;clear hr;go_wp2_with fail
  go_ret2
  exact⟨_,I,D.out,J⟩
attribute [local go_sem] Go.Rel.valOf
abbrev aQ.shape{base:Nat}{w:VO}{v:aaT}{neg:Bool}{n:Nat}(h:aQ base w v neg n):∃a d,v = .agg #[.b neg,.s a (Ro n).length d]:=by
 obtain⟨s,rfl,D,_⟩:=h;obtain⟨a,d,rfl⟩:=D.shape;exact⟨a,d,I⟩
def ku(K:Nat)(w:VO)(v:aaT)(z:Int):Prop:=∃n s l,v = .agg #[.b n,s]∧aG w s l∧l.length<=K∧zv n (Na.TP l)=z
abbrev ku.mono{K D:Nat}{w:VO}{v:aaT}{z:Int}(h:ku K w v z)(hk:K<=D):ku D w v z:=by
 obtain⟨n,s,l,D,J,hl,S⟩:=h; exact⟨n,s,l,D,J,Z,S⟩
abbrev CB.toQ{base K:Nat}{w:VO}{v:aaT}{z:Int}(h:CB base w v z)(hk:(Ro z.natAbs).length<=K):ku K w v z:=by
 obtain⟨s,D,J,_⟩:=h; exact⟨_,s,_,D,J,hk,by rw[NP,aa1]⟩
variable{K:Nat}
abbrev KW{w:VO}{v:aaT}{z:Int}(h:ku K w v z):(Ro z.natAbs).length<=K:=by
 obtain⟨n,s,l,D,J,hl,rfl⟩:=h;rw[tC]; exact aDy (dA l) hl
abbrev kP(x y:Int){L:Nat}(hx:(Ro x.natAbs).length<=K)(hy:(Ro y.natAbs).length<=L):(Ro (x*y).natAbs).length<=K+L:=by
 apply Na.bK;have D:=Na.dU (Ro x.natAbs);have J:=Na.dU (Ro y.natAbs);rw[NP]at D J;have S:Na.Hw^(Ro x.natAbs).length<=Na.Hw^K:=aEm O hx;have h4:Na.Hw^(Ro y.natAbs).length<=Na.Hw^L:=aEm O hy;rw[Int.natAbs_mul,aFg];exact Nat.mul_lt_mul_of_lt_of_lt (aDL D S) (aDL J h4)
abbrev aa6(x y:Int)(S:(Ro x.natAbs).length<=K)(hy:(Ro y.natAbs).length<=K):(Ro (x+y).natAbs).length<=K+1:=by
 apply Na.bK;have D:=Na.dU (Ro x.natAbs);have J:=Na.dU (Ro y.natAbs);rw[NP]at D J;have D:Na.Hw^(Ro x.natAbs).length<=Na.Hw^K:=aEm O S;have D:Na.Hw^(Ro y.natAbs).length<=Na.Hw^K:=aEm O hy;have D:Na.Hw^K*2<=Na.Hw^K*Na.Hw:=aDZ _ O;have D:=Int.natAbs_add_le x y;rw[aDY];generalize Na.Hw^K*Na.Hw=q at *;generalize Na.Hw^K=p at *;omega
abbrev RJ(x y:Int)(D:(Ro x.natAbs).length<=K)(J:(Ro y.natAbs).length<=K):(Ro (x-y).natAbs).length<=K+1:=by
 rw[Int.sub_eq_add_neg]; exact aa6 x (-y) D (by rw[Int.natAbs_neg]; exact J)
end
section
open Go.RowKit Na
variable{α:Type}
variable{K:Nat}{q p:Bool×Nat×Nat}
abbrev aoU(n:Bool)(a d:Nat):nrm n false a d=nz (zv n a) d:=by
 unfold nz;rw[tC,aho];unfold nrm;split
 .rfl
 congr 1;unfold l9;rcases aD0 a with h | h
 .subst h; simp[qE]
 rw[aEy h,Bool.and_true]
abbrev Nw (q:Bool×Nat×Nat):Prop:=nrm q.1 false q.2.1 q.2.2=q
abbrev VZ(n1 D:Bool)(a b:Nat):Nw (nrm n1 D a b):=by
 unfold Nw;rcases aD0 b with J | J
 .have e:nrm n1 D a b=(false,0,1):=by unfold nrm; rw[aDb J]
  rw[e]; decide
 have S:0<Nat.gcd a b:=aF2 a J;have aa:0<b/Nat.gcd a b:=Nat.div_pos (Nat.le_of_dvd J (aFK a b)) S;have hc:Nat.gcd (a/Nat.gcd a b) (b/Nat.gcd a b)=1:=Nat.coprime_div_gcd_div_gcd S;have e:nrm n1 D a b=(l9 n1 D a b,a/Nat.gcd a b,b/Nat.gcd a b):=by unfold nrm; rw[aC9 Z]
 rw[e];have J:l9 n1 D a b=true->0<a/Nat.gcd a b:=by
  unfold l9; rw[aDt]; intro h; simpa using h.2
 generalize l9 n1 D a b=n at *;generalize a/Nat.gcd a b=x at *;generalize b/Nat.gcd a b=y at *;unfold nrm;rw[aC9 (by simp only; omega)];simp only[hc,Nat.div_one];congr 1;unfold l9;rcases aD0 x with h | h
 .subst h;have:n=false:=by
   cases n
   .rfl
   exact absurd (J I) Z
  subst this; simp[qE]
 rw[hc,Nat.div_one,aEy h,Bool.and_true];unfold qE;have D:x≠0:=Z
 have J:y≠0:=Z
 rw[aC9 D,aC9 J];cases n<;>decide
abbrev Zu(z:Int)(d:Nat):Nw (nz z d):=VZ _ _ _ _
abbrev aki(n1 D:Bool)(a b:Nat):0<(nrm n1 D a b).2.2:=by
 unfold nrm;split
 .exact Nat.one_pos
 exact Nat.div_pos (Nat.le_of_dvd Z (aFK a b)) (aF2 a Z)
def qlen(K:Nat)(q:Bool×Nat×Nat):Prop:=(Ro q.2.1).length<=K∧(Ro q.2.2).length<=K
abbrev CV:(Ro 1).length<=1:=Na.bK O
abbrev ahB(z:Int)(d:Nat)(D:1<=K)(J:(Ro z.natAbs).length<=K)(S:(Ro d).length<=K):qlen K (nz z d):=by
 unfold nz nrm;split
 .exact⟨by rw[jU]; simp,aDy CV D⟩
 exact⟨aDy (fP (aFr _ _)) J,aDy (fP (aFr _ _)) S⟩
abbrev qw(h:qlen K q):(Ro (qz q).natAbs).length<=K:=by unfold qz; rw[tC]; exact h.1
abbrev jT{n:Nat}(h:(Ro n).length<=K):(Ro (n:Int).natAbs).length<=K:=by rw[aFo]; exact h
abbrev Ea{L:Nat}(S:1<=K)(D:qlen K p)(J:qlen L q):qlen (K+L) (Cb p q):=by
 refine ahB _ _ Z (kP _ _ (qw D) (qw J)) ?_;have:=kP p.2.2 q.2.2 (jT D.2) (jT J.2);rwa [show((p.2.2:Int)*(q.2.2:Int))=((p.2.2*q.2.2:Nat):Int) by simp,aFo]at this
abbrev ahC{L:Nat}(S:1<=K)(D:qlen K p)(J:qlen L q):qlen (K+L+1) (MW p q):=by
 refine ahB _ _ Z (RJ _ _ (kP _ _ (qw D) (jT J.2)) (by rw[aFl]; exact kP _ _ (qw J) (jT D.2))) ?_;have:=kP p.2.2 q.2.2 (jT D.2) (jT J.2);rw[show((p.2.2:Int)*(q.2.2:Int))=((p.2.2*q.2.2:Nat):Int) by simp,aFo]at this;omega
def fA(K:Nat)(w:VO)(v:aaT)(q:Bool×Nat×Nat):Prop:=
 ∃n1 s1 D S s2 J,v = .agg #[.b n1,s1,.b S,s2]∧aG w s1 D∧aG w s2 J∧D.length<=K∧J.length<=K∧nrm n1 S (Na.TP D) (Na.TP J)=q
abbrev fA.below{K:Nat}{w w':VO}{v:aaT}{q:Bool×Nat×Nat}(h:fA K w v q)(D:Ext w w'):fA K w' v q:=by
 obtain⟨n1,s1,J,S,s2,l2,hv,h1,h2,h3,h4,h5⟩:=h; exact⟨n1,s1,J,S,s2,l2,hv,h1.below D,h2.below D,h3,h4,h5⟩
abbrev fA.shape{K:Nat}{w:VO}{v:aaT}{q:Bool×Nat×Nat}(h:fA K w v q):∃n1 a1 J c1 D a2 S c2,v = .agg #[.b n1,.s a1 J c1,.b D,.s a2 S c2]:=by
 obtain⟨n1,s1,l1,D,s2,l2,rfl,J,S,_⟩:=h;obtain⟨a1,c1,rfl⟩:=J.shape;obtain⟨a2,c2,rfl⟩:=S.shape;exact⟨_,_,_,_,_,_,_,_,I⟩
abbrev fA.nrm{K:Nat}{w:VO}{v:aaT}{q:Bool×Nat×Nat}(h:fA K w v q):Nw q:=by
 obtain⟨n1,s1,D,J,s2,S,_,_,_,_,_,rfl⟩:=h; exact VZ _ _ _ _
abbrev fA.pos{K:Nat}{w:VO}{v:aaT}{q:Bool×Nat×Nat}(h:fA K w v q):0<q.2.2:=by
 obtain⟨n1,s1,D,J,s2,S,_,_,_,_,_,rfl⟩:=h; exact aki _ _ _ _
abbrev fA.len{K:Nat}{w:VO}{v:aaT}{q:Bool×Nat×Nat}(h:fA K w v q)(D:1<=K):qlen K q:=by
 obtain⟨n1,s1,D,J,s2,S,_,_,_,h3,h4,rfl⟩:=h;have:=aao n1 J D S;exact⟨Z,Z⟩
abbrev bM.toQ{w:VO}{r:bM}{K:Nat}(h:r.ok w)(D:r.fit K):fA K w r.v r.q:=⟨r.n1,r.s1,r.l1,r.n2,r.s2,r.l2,I,h.1,h.2,D.1,D.2,I⟩
abbrev aC.toQ{base K:Nat}{w:VO}{v:aaT}{q:Bool×Nat×Nat}(h:dQ base w v q)(hn:Nw q)(hl:qlen K q):fA K w v q:=by
 obtain⟨s,t,rfl,D,J,_,_⟩:=h;exact⟨_,s,_,_,t,_,I,D,J,hl.1,hl.2,by rw[NP,NP]; exact hn⟩
abbrev aC.parts'{base K:Nat}{w:VO}{n m:Bool}{s t:aaT}{q:Bool×Nat×Nat}(h:dQ base w (.agg #[.b n,s,.b m,t]) q)(hl:qlen K q) :
  ku K w (.agg #[.b n,s]) (qz q)∧ku K w (.agg #[.b m,t]) (q.2.2:Int):=by
 obtain⟨S,t',e,D,J,_,_⟩:=h;simp only[aE6,aE7,aDP,Value.bool.injEq,and_true]at e;obtain⟨rfl,rfl,rfl,rfl⟩:=e;exact⟨⟨_,_,_,I,D,hl.1,by rw[NP]; rfl⟩,⟨_,_,_,I,J,hl.2,by rw[NP]; rfl⟩⟩
