/- Plain laws of multiplication by digits. Walks of package -/
import Derived.Test.YtodpgjjgaddkeaaGreatDoorRefNat
import Derived.Test.YtodpgjjgaddkeaaGreatDoorPk4
set_option maxHeartbeats 1600000
set_option maxRecDepth 100000
set_option linter.unusedVariables false
set_option linter.unusedSimpArgs false
section
namespace Na
variable{out:List UInt32}{j c A x V:Nat}
theorem Yi(l:List UInt32):∀(j:Nat) (d:UInt32),j<l.length->Zk (l.set j d)+Gg^j*(l.getD j 0).toNat=Zk l+Gg^j*d.toNat:=by
 induction l with
 | nil=>intro j d h; simp at h
 | cons c l ih =>
  intro j d h;cases j with
  | zero=>simp[Zk]; omega
  | succ j =>
   have h1:=ih j d (by simpa using h);have e1:(c::l).getD (j+1) 0=l.getD j 0:=by simp[List.getD]
   rw[e1,List.set_cons_succ];simp only[Zk,aAA];rw[aAw (Gg^j) Gg,aAB,aAB];have h2:Gg*(Zk (l.set j d)+Gg^j*(l.getD j 0).toNat)=Gg*(Zk l+Gg^j*d.toNat):=by rw[h1]
   rw[aAf,aAf]at h2;omega
theorem acN{n t:Nat}(hj:j<out.length)(hv:Zk out+Gg^j*c=A)(hn:n=t+(out.getD j 0).toNat+c) :
  Zk (out.set j (UInt32.ofNat n))+Gg^(j+1)*(n/Gg)=A+Gg^j*t:=by
 have h1:=Yi out j (UInt32.ofNat n) hj;rw[dg]at h1;have h2:=aBr n Gg;have h3:Gg^j*(n%Gg)+Gg^(j+1)*(n/Gg)=Gg^j*n:=by rw[aAA,aAB,<-aAf,h2]
 have h4:Gg^j*n=Gg^j*t+Gg^j*(out.getD j 0).toNat+Gg^j*c:=by rw[hn,aAf,aAf]
 omega
theorem agl(hj:j<out.length)(hv:Zk out+Gg^j*c=A)(h0:out.getD j 0=0)(hc:c<Gg):Zk (out.set j (UInt32.ofNat c))=A:=by
 have h1:=Yi out j (UInt32.ofNat c) hj;rw[dg,h0,aBJ hc]at h1;simp at h1;omega
theorem Ld{k:Nat}{d:UInt32}(h:j<k):(out.set j d).getD k 0=out.getD k 0:=by
 simp only[List.getD,List.getElem?_set];rw[azP Z]
theorem agm{A05 y:Nat}(i k:Nat):A05+Gg^i*(x*V)+Gg^(i+k)*(x*y)=A05+Gg^i*(x*(V+Gg^k*y)):=by
 rw[aBL,aAf x,aAf (Gg^i),aAB (Gg^i),aB4 x (Gg^k)];omega
theorem acO{W:Nat}(i:Nat):V*W+Gg^i*(x*W)=(V+Gg^i*x)*W:=by rw[aBk,aAB]
def Clear(j:Nat)(l:List UInt32):Prop:=∀i,j<=i->l.getD i 0=0
theorem Clear.set{j k:Nat}{l:List UInt32}{d:UInt32}(h:Clear j l)(hk:k<j):Clear j (l.set k d):=λi hi=>by rw[Ld Z]; exact h i hi
theorem Clear.ajD{j:Nat}{l:List UInt32}{d:UInt32}(h:Clear j l):Clear (j+1) (l.set j d):=λi hi=>by rw[Ld Z]; exact h i Z
theorem Clear.mono{j k:Nat}{l:List UInt32}(h:Clear j l)(hk:j<=k):Clear k l:=λi hi=>h i Z
theorem aak(n:Nat):Clear 0 (List.replicate n 0):=λi _=>by
 simp only[List.getD,List.getElem?_replicate]; split<;>rfl
end Na
end
namespace Go.Proofs.YtodpgjjgaddkeaaGreatDoor
section
open Go.RowKit Na
variable{α:Type}
theorem acP{x y o c:Nat}(hx:x<4294967296)(hy:y<4294967296)(ho:o<4294967296)(hc:c<4294967296):∃t s n:Nat,t=x*y∧s=t+o∧n=s+c ∧
  IntKind.u64.wrap ((x:Int)*(y:Int))=(t:Int)∧IntKind.u64.wrap ((t:Int)+(o:Int))=(s:Int)∧IntKind.u64.wrap ((c:Int)+(s:Int))=(n:Int)∧n<18446744073709551616:=by
 have hqb:x*y<=4294967295*4294967295:=aBA Z Z;refine⟨x*y,x*y+o,x*y+o+c,I,I,I,QC hx hy,?_,?_,Z⟩
 .rw[<-gZ (x*y+o) Z]; simp
 rw[<-gZ (x*y+o+c) Z]; congr 1; omega
set_option maxRecDepth 100000 in
set_option maxHeartbeats 1600000 in
theorem Vt(v u:Value)(l m:List UInt32)(w:World)(hv:aC w v l)(hu:aC w u m)(hl:l.length<=50000000)(hm:m.length<=50000000) :
  Calls Tryz.prog 298 #[v,u] w λe w'=>∃a,e = .returned (.slice a (Ux (Na.Zk l*Na.Zk m)).length (Ux (Na.Zk l*Na.Zk m)).length) ∧
   aC w' (.slice a (Ux (Na.Zk l*Na.Zk m)).length (Ux (Na.Zk l*Na.Zk m)).length) (Ux (Na.Zk l*Na.Zk m))∧Ext w w':=by
 have hd1:=bY l;have hd2:=bY m;have e1:=PV (Na.Zk l);have e2:=PV (Na.Zk m);have S1:=azO (short_any v l w hv);have S2:=azO (short_any u m w hu);obtain⟨a1,c1,rfl⟩:=hv.shape;obtain⟨a2,c2,rfl⟩:=hu.shape;clear hv hu;rw[<-e1,<-e2];generalize Ux (Na.Zk l)=A03 at *;generalize Ux (Na.Zk m)=A04 at *;have hX:A03.length<=50000000:=Z
 have hY:A04.length<=50000000:=Z
 obtain⟨N,hN⟩:∃N,N=A03.length+A04.length:=⟨_,I⟩;have hNN:((A03.length:Int)+(A04.length:Int))=(N:Int):=Z
 have hN1:N<=100000000:=Z
 have h63:N<=maxLen:=by unfold maxLen; omega
 have hby:4*N<=281474976710656:=Z
 have HN:=azO hN;clear hN e1 e2 hd1 hd2 hl hm;go_enter Tryz.func298,Tryz.ntmps298
 go_wp2_with fail
 go_step3
 go_wp2_with fail
 refine S1.out.mono ?_;rintro e w' ⟨b1,rfl,h1,rfl⟩;have H1:=azO h1;clear h1 S1;go_wp2_with fail
 refine S2.out.mono ?_;rintro e w' ⟨b2,rfl,h2,rfl⟩;have H2:=azO h2;clear h2 S2;go_wp2_with (at_make; refine wpList_make_row I _ _ _ I lT I w.heap.size N I I I hby h63 (azS _) ?_; intro w1 hown hg)
 have hb1:=gu (aAe w.heap.size w) hg (azS _);clear hg;have HO:=azO hown;clear hown hNN;try go_step3
 go_wp2_with fail
 go_loopw [23] (λiv wr=>∃(i:Nat) (out:List UInt32),i<=A03.length∧iv = .i i∧out.length=N∧Na.Zk out=Na.Zk (A03.take i)*Na.Zk A04∧Na.Clear (i+A04.length) out ∧
  wr.ownsRow w.heap.size 119 1 (.slice (some ⟨w.heap.size,0,none⟩) N N) N (out.map bn)∧Ext w wr) (λiv _=>A03.length-(intOf iv).toNat)
 case atStart=>exact⟨0,List.replicate N 0,azZ _,I,by simp,by rw[Lc]; simp[Na.Zk],(Na.aak N).mono (azZ _),by simpa[bn]using HO.out,hb1⟩
 case round =>
  obtain⟨i,out,hi,rfl,hol,hval,amS,hown,hbel⟩:=hrel;have HOL:=azO hol;have pO:=azO hval;have HW:=azO hown;have HC:=azO amS;have HB:=azO hbel;clear hol hval hown amS HO hbel;by_cases hlt:i<A03.length
  .obtain⟨bx,ox,cx,hxs,hbx,hlx,hmx,hcx⟩:=dO H1.out I Z;simp only[aAq]at hxs;obtain⟨rfl,-,-⟩:=hxs;have hck:wr.cell? ⟨bx,ox+i,none⟩=some (bn A03[i]):=by rw[HB.out.cell (p:=⟨bx,ox+i,none⟩) hbx]; exact hcx i hlt
   have T0:=azO (Na.cZ A03 i hlt);generalize A03[i]=x at *;have g0:=x.toNat_lt;have x0:=gG x;clear hcx;by_cases hz:x.toNat=0
   .have hzb:((x.toNat:Int)==0)=true:=by rw[az4]; omega
    have HZ:=azO hz;clear hz;go_wp2_with fail
    go_roundw
    case rel =>
     refine⟨i+1,out,Z,by go_num,HOL.out,?_,HC.out.mono Z,HW.out,HB.out⟩;rw[pO.out,T0.out,HZ.out]; simp
    case measure=>simp[intOf]; omega
   have hzb:((x.toNat:Int)==0)=false:=by rw[aAh]; omega
   obtain⟨wo,rfl⟩:∃wo:World,wo=wr:=⟨_,I⟩;clear hz;go_wp2_with fail
   clear hck hzb;go_loopw [8,32] (λcv kv wr=>∃(k c:Nat) (o2:List UInt32),k<=A04.length∧kv = .i k∧cv = .int .u64 c∧c<4294967296∧o2.length=N∧Na.Zk o2+Na.Gg^(i+k)*c=Na.Zk out+Na.Gg^i*(x.toNat*Na.Zk (A04.take k)) ∧
    Na.Clear (i+A04.length) o2∧wr.ownsRow w.heap.size 119 1 (.slice (some ⟨w.heap.size,0,none⟩) N N) N (o2.map bn)∧Ext w wr) (λ_ kv _=>A04.length-(intOf kv).toNat)
   case atStart=>exact⟨0,0,out,azZ _,I,I,Z,HOL.out,by simp[Na.Zk],HC.out,HW.out,HB.out⟩
   case round =>
    obtain⟨k,c,o2,hk,rfl,rfl,hc,amT,ain,aio,hown2,aip⟩:=hrel;have agn:=azO amT;have acQ:=azO ain;have HW2:=azO hown2;have HC2:=azO aio;have HB2:=azO aip;have hNi:i+A04.length<N:=by have:=HN.out; omega
    clear amT ain hown2 aio aip HW HC HB HOL;by_cases hkl:k<A04.length
    .obtain⟨by',oy,cy,hys,aqN,hly,hmy,hcy⟩:=dO H2.out I Z;simp only[aAq]at hys;obtain⟨rfl,-,-⟩:=hys;have hcl:wr.cell? ⟨by',oy+k,none⟩=some (bn A04[k]):=by rw[HB2.out.cell (p:=⟨by',oy+k,none⟩) aqN]; exact hcy k hkl
     have T1:=azO (Na.cZ A04 k hkl);generalize A04[k]=y at *;have aqO:i+k<N:=Z
     have acR:i+k<o2.length:=by rw[agn.out]; exact aqO
     have hco:=HW2.out.cellAt (i+k) Z;rw[List.getElem?_map,List.getElem?_eq_getElem acR,aAF]at hco;have hog:o2.getD (i+k) 0=o2[i+k]:=by simp[List.getD,List.getElem?_eq_getElem acR]
     have hfz:=HW2.out.frozenAt (i+k);generalize o2[i+k]=o at *;have g1:=y.toNat_lt;have g2:=o.toNat_lt;have y0:=gG y;have o0:=gG o;obtain⟨t,s,n,ht,hs,hn,hmul,hs1,hs2,hnb⟩:=acP g0 g1 g2 hc;have HST:=azO (Na.acN (t:=t) acR acQ.out (show n=t+(o2.getD (i+k) 0).toNat+c by rw[hog]; omega));rw[ht]at HST;have hmod:(n:Int)%4294967296=((UInt32.ofNat n).toNat:Int):=dgI n;have hdiv:(n:Int)/4294967296=((n/Na.Gg:Nat):Int):=dvI n;have hc':n/Na.Gg<4294967296:=aB2 hnb;generalize hq:n/Na.Gg=c' at *;obtain⟨d,hd⟩:∃d,UInt32.ofNat n=d:=⟨_,I⟩;rw[hd]at hmod HST;have hst:=HW2.out.stored (i+k) (bn d);rw[<-aBz]at hst;have HS:=azO hst;clear hcy hst hog ht hs hn hq hd hnb HW2 acQ;go_wp2_with fail
     go_roundw
     case rel =>
      refine⟨k+1,c',o2.set (i+k) d,Z,by go_num,I,hc',by rw[List.length_set]; exact agn.out,?_,HC2.out.set Z,HS.out.1,HB2.out.setCell (p:=⟨w.heap.size,i+k,none⟩) (azS _) _⟩;rw[<-aBR,HST.out,T1.out,Na.agm]
     case measure=>simp[intOf]; omega
    obtain rfl:k=A04.length:=by omega
    have acR:i+A04.length<o2.length:=by rw[agn.out]; exact hNi
    have HST:=azO (Na.agl acR acQ.out (HC2.out _ (azS _)) hc);obtain⟨d,rfl⟩:∃d:UInt32,c=d.toNat:=⟨UInt32.ofNat c,(bW hc).symm⟩;rw[show UInt32.ofNat d.toNat=d by simp]at HST;obtain⟨⟨cv,hcell⟩,hfz⟩:=qZ HW2.out (i+A04.length) hNi;have hst:=HW2.out.stored (i+A04.length) (bn d);rw[<-aBz]at hst;have HS:=azO hst;clear hst;go_wp2_with fail
    go_roundw
    case rel =>
     refine⟨i+1,o2.set (i+A04.length) d,Z,by go_num,by rw[List.length_set]; exact agn.out,?_,by rw[show i+1+A04.length=i+A04.length+1 by omega]; exact HC2.out.ajD,HS.out.1,HB2.out.setCell (p:=⟨w.heap.size,i+A04.length,none⟩) (azS _) _⟩;rw[HST.out,pO.out,aAJ,Na.acO,T0.out]
    case measure=>simp[intOf]; omega
  obtain rfl:i=A03.length:=by omega
  have hs:=short_any _ _ _ (oM HOL.out HW.out);rw[pO.out,aAJ]at hs;have HS:=azO hs;clear hs;go_wp2_with fail
  refine HS.out.mono ?_;rintro e w' ⟨a',rfl,hr,rfl⟩;have HR:=azO hr;clear hr;go_wp2_with fail
  try rw[Exit.noGoto_ret]
  go_ret
  exact⟨_,I,HR.out,HB.out⟩
theorem set_mid(out:List α)(k:Nat)(z x:α):(out++List.replicate (k+1) z).set out.length x=(out++[x])++List.replicate k z:=by
 rw[List.set_append_right _ _ (azS _),aBK,aB3,List.set_cons_zero,aAb]; rfl
theorem Vu(v u:Value)(l m:List UInt32)(w:World)(hv:aC w v l)(hu:aC w u m)(hl:l.length<=100000000)(hm:m.length<=100000000) :
  Calls Tryz.prog 328 #[v,u] w λe w'=>∃a,e = .returned (.slice a (Ux (Na.Zk l+Na.Zk m)).length (Ux (Na.Zk l+Na.Zk m)).length) ∧
   aC w' (.slice a (Ux (Na.Zk l+Na.Zk m)).length (Ux (Na.Zk l+Na.Zk m)).length) (Ux (Na.Zk l+Na.Zk m))∧Ext w w':=by
 have HV:=azO hv;have HU:=azO hu;obtain⟨a1,c1,rfl⟩:=hv.shape;obtain⟨a2,c2,rfl⟩:=hu.shape;clear hv hu;obtain⟨M,hM⟩:∃M,M=max l.length m.length:=⟨_,I⟩;have hmax:max (l.length:Int) (m.length:Int)=(M:Int):=Z
 obtain⟨N,hN⟩:∃N,N=M+1:=⟨_,I⟩;have hMN:(M:Int)+1=(N:Int):=Z
 have hM1:N<=100000001:=Z
 have HE:Hid (Na.Zk (l.take N)=Na.Zk l∧Na.Zk (m.take N)=Na.Zk m∧Na.Zk l+Na.Zk m<Na.Gg^N):=by
  refine⟨by rw[aAv Z],by rw[aAv Z],?_⟩;rw[hN];have h1:=Na.dS l;have h2:=Na.dS m;have h3:Na.Gg^l.length<=Na.Gg^M:=aAV O Z;have h4:Na.Gg^m.length<=Na.Gg^M:=aAV O Z;have h6:Na.Gg^M*2<=Na.Gg^M*Na.Gg:=aAz _ O;rw[aAA];generalize Na.Gg^M*Na.Gg=q at *;generalize Na.Gg^M=p at *;omega
 have h63:N<=maxLen:=by unfold maxLen; omega
 have hby:4*N<=281474976710656:=Z
 clear hM hN;go_enter Tryz.func328,Tryz.ntmps328
 go_wp2_with (at_make; refine wpList_make_row I _ _ _ I lT I w.heap.size N I I I hby h63 (azS _) ?_; intro w1 hown hg)
 clear hmax hMN;have hb1:=gu (aAe w.heap.size w) hg (azS _);clear hg;have HO:=azO hown;clear hown;go_loopw [6,17] (λcv iv wr=>∃(i c k:Nat) (out:List UInt32),i+k=N∧iv = .i i∧cv = .int .u64 c∧c<=1∧out.length=i∧Na.Zk out+Na.Gg^i*c=Na.Zk (l.take i)+Na.Zk (m.take i) ∧
  wr.ownsRow w.heap.size 119 1 (.slice (some ⟨w.heap.size,0,none⟩) N N) N ((out++List.replicate k 0).map bn)∧Ext w wr) (λ_ iv _=>N-(intOf iv).toNat)
 case atStart=>exact⟨0,0,N,[],Z,I,I,Z,I,by simp[Na.Zk],by simpa[bn]using HO.out,hb1⟩
 case round =>
  obtain⟨i,c,k,out,hik,rfl,rfl,hc,hol,hval,hown,hbel⟩:=hrel;have HOL:=azO hol;have pO:=azO hval;have HW:=azO hown;have hiM:i<=N:=Z
  have HIK:=azO hik;clear hol hval hown HO hik;by_cases hlt:i<N
  .obtain⟨k',rfl⟩:∃k',k=k'+1:=⟨k-1,by have:=HIK.out; omega⟩;have d0:=pX _ l i wr (HV.out.below hbel) Z;have d1:=pX _ m i wr (HU.out.below hbel) Z;have g0:=(l.getD i 0).toNat_lt;have g1:=(m.getD i 0).toNat_lt;have t0:=jE l i;have t1:=jE m i;generalize (l.getD i 0).toNat=x at *;generalize (m.getD i 0).toNat=y at *;have D0:=azO d0;have D1:=azO d1;have T0:=azO t0;have T1:=azO t1;obtain⟨n,hn⟩:∃n,n=x+y+c:=⟨_,I⟩;have hmod:((c:Int)+((x:Int)+y))%4294967296=((UInt32.ofNat n).toNat:Int):=by
    rw[show(c:Int)+((x:Int)+y)=(n:Int) by omega,dgI]
   have hdiv:((c:Int)+((x:Int)+y))/4294967296=((n/Na.Gg:Nat):Int):=by
    rw[show(c:Int)+((x:Int)+y)=(n:Int) by omega,dvI]
   have hc':n/Na.Gg<=1:=by rw[hn,acS]; omega
   have HST:=azO (Na.step_up HOL.out pO.out hn);generalize hq:n/Na.Gg=c' at *;obtain⟨d,hd⟩:∃d,UInt32.ofNat n=d:=⟨_,I⟩;rw[hd]at hmod HST;obtain⟨⟨cv,hcell⟩,hfz⟩:=qZ HW.out i hlt;have hst:=HW.out.stored i (bn d);have hse:((out++List.replicate (k'+1) 0).map bn).set i (bn d)=((out++[d])++List.replicate k' 0).map bn:=by rw[<-aBz,<-HOL.out,set_mid]
   rw[hse]at hst;have HS:=azO hst;clear d0 d1 t0 t1 hn hq hd hst hse;go_wp2_with fail
   refine D0.out.mono ?_;rintro e w' ⟨rfl,rfl⟩;go_wp2_with fail
   refine D1.out.mono ?_;rintro e w' ⟨rfl,rfl⟩;go_wp2_with fail
   go_roundw
   case rel =>
    refine⟨i+1,c',k',out++[d],by have:=HIK.out; omega,by go_num,I,hc',by simp[HOL.out],?_,HS.out.1,hbel.setCell (p:=⟨w.heap.size,i,none⟩) (azS _) _⟩;rw[HST.out,T0.out,T1.out,aAf]; omega
   case measure=>simp[intOf]; omega
  obtain rfl:i=N:=by omega
  obtain rfl:k=0:=by have:=HIK.out; omega
  have hrow:aC wr (.slice (some ⟨w.heap.size,0,none⟩) i i) out:=by
   have:=HW.out;rw[aB9,aAW]at this;exact oM HOL.out this
  have hv:Na.Zk out=Na.Zk l+Na.Zk m:=by
   have h1:=pO.out;rw[HE.out.1,HE.out.2.1]at h1;have h2:=HE.out.2.2;have h3:c=0:=by
    rcases aAC c with h | h
    .exact h
    have:=aAz (Na.Gg^i) h;omega
   rw[h3]at h1;omega
  have hs:=short_any _ _ _ hrow;rw[hv]at hs;have HS:=azO hs;clear hs hrow hv;go_wp2_with fail
  refine HS.out.mono ?_;rintro e w' ⟨a',rfl,hr,rfl⟩;have HR:=azO hr;clear hr;go_wp2_with fail
  go_ret
  exact⟨_,I,HR.out,hbel⟩
theorem aal(v u:Value)(l m:List UInt32)(w:World)(hv:aC w v l)(hu:aC w u m)(hlt:Na.Zk l<Na.Zk m) :
  Calls Tryz.prog 329 #[v,u] w λe w'=>e = .returned (.tuple #[.sn,.z])∧Ext w w':=by
 have hc:=Bv v u l m w hv hu;rw[Bq hlt]at hc;have HC:=azO hc;obtain⟨a1,c1,rfl⟩:=hv.shape;obtain⟨a2,c2,rfl⟩:=hu.shape;clear hc hv hu hlt;go_enter Tryz.func329,Tryz.ntmps329
 go_wp2_with fail
 refine HC.out.mono ?_;rintro e w' ⟨rfl,hb⟩;have HB:=azO hb;clear hb;go_wp2_with fail
 go_ret2
 exact⟨I,HB.out⟩
theorem aam(v u:Value)(l m:List UInt32)(w:World)(hv:aC w v l)(hu:aC w u m)(hl:l.length<=100000000)(hle:Na.Zk m<=Na.Zk l) :
  Calls Tryz.prog 329 #[v,u] w λe w'=>∃a,e = .returned (.tuple #[.slice a (Ux (Na.Zk l-Na.Zk m)).length (Ux (Na.Zk l-Na.Zk m)).length,.bool true]) ∧
   aC w' (.slice a (Ux (Na.Zk l-Na.Zk m)).length (Ux (Na.Zk l-Na.Zk m)).length) (Ux (Na.Zk l-Na.Zk m))∧Ext w w':=by
 have HCM:=azO (Bv v u l m w hv hu);have hcn:=wz hle;have hdl:=bY l;have HV:=azO hv;have HU:=azO hu;obtain⟨a1,c1,rfl⟩:=hv.shape;obtain⟨a2,c2,rfl⟩:=hu.shape;clear hv hu;obtain⟨M,hM⟩:∃M,M=(Ux (Na.Zk l)).length:=⟨_,I⟩;have HE:Hid (Na.Zk (l.take M)=Na.Zk l∧Na.Zk (m.take M)=Na.Zk m∧Na.Zk l<Na.Gg^M):=by
  have h1:Na.Zk l<Na.Gg^M:=by
   have:=Na.dS (Ux (Na.Zk l));rw[PV,<-hM]at this; exact this
  exact⟨uK h1,uK Z,h1⟩
 have HLE:=azO hle;have HM:=azO hM;have hM1:M<=100000000:=Z
 have h63:M<=maxLen:=by unfold maxLen; omega
 have hby:4*M<=281474976710656:=Z
 generalize qN (Na.Zk l) (Na.Zk m)=cc at *;clear hM hle hdl;go_enter Tryz.func329,Tryz.ntmps329
 go_wp2_with fail
 refine HCM.out.mono ?_;rintro e w0 ⟨rfl,hb0⟩;have HB0:=azO hb0;have hsh:=short_any _ l w0 (HV.out.below hb0);rw[<-HM.out]at hsh;have HSH:=azO hsh;clear hsh hb0;go_wp2_with fail
 refine HSH.out.mono ?_;rintro e w' ⟨aa,rfl,-,rfl⟩;go_wp2_with (at_make; refine wpList_make_row I _ _ _ I lT I w0.heap.size M I I I hby h63 (azS _) ?_; intro w1 hown hg)
 have hb1:=K00 HB0.out (gu (aAe w0.heap.size w0) hg (azS _));have hsz0:=HB0.out.size;clear hg;have HO:=azO hown;clear hown;go_loopw [7,20] (λcv iv wr=>∃(i c k:Nat) (out:List UInt32),i+k=M∧iv = .i i∧cv = .int .u64 c∧c<=1∧out.length=i∧Na.Zk (l.take i)+Na.Gg^i*c=Na.Zk out+Na.Zk (m.take i) ∧
  wr.ownsRow w0.heap.size 119 1 (.slice (some ⟨w0.heap.size,0,none⟩) M M) M ((out++List.replicate k 0).map bn)∧Ext w wr) (λ_ iv _=>M-(intOf iv).toNat)
 case atStart=>exact⟨0,0,M,[],Z,I,I,Z,I,by simp[Na.Zk],by simpa[bn]using HO.out,hb1⟩
 case round =>
  obtain⟨i,c,k,out,hik,rfl,rfl,hc,hol,hval,hown,hbel⟩:=hrel;have HOL:=azO hol;have pO:=azO hval;have HW:=azO hown;have hiM:i<=M:=Z
  have HIK:=azO hik;clear hol hval hown HO hik;by_cases hlt:i<M
  .obtain⟨k',rfl⟩:∃k',k=k'+1:=⟨k-1,by have:=HIK.out; omega⟩;have d0:=pX _ l i wr (HV.out.below hbel) Z;have d1:=pX _ m i wr (HU.out.below hbel) Z;have g0:=(l.getD i 0).toNat_lt;have g1:=(m.getD i 0).toNat_lt;have t0:=jE l i;have t1:=jE m i;generalize (l.getD i 0).toNat=x at *;generalize (m.getD i 0).toNat=y at *;have D0:=azO d0;have D1:=azO d1;have T0:=azO t0;have T1:=azO t1;obtain⟨A01,r,c',hZ,hr,hb',af2,hxb,hu'⟩:=GK x y c g0 g1 hc;obtain⟨d,rfl⟩:∃d:UInt32,r=d.toNat:=⟨UInt32.ofNat r,(bW hxb).symm⟩;have HST:Hid (Na.Zk (l.take (i+1))+Na.Gg^(i+1)*c'=Na.Zk (out++[d])+Na.Zk (m.take (i+1))):=by
    show _=_;have h1:=pO.out;rw[T0.out,T1.out,Na.jf,HOL.out,aAA];have h2:Na.Gg^i*(x+Na.Gg*c')=Na.Gg^i*(d.toNat+y+c):=by rw[hu']
    rw[aAf,aAf,aAf,<-aAB]at h2;omega
   obtain⟨⟨cv,hcell⟩,hfz⟩:=qZ HW.out i hlt;have hst:=HW.out.stored i (bn d);have hse:((out++List.replicate (k'+1) 0).map bn).set i (bn d)=((out++[d])++List.replicate k' 0).map bn:=by rw[<-aBz,<-HOL.out,set_mid]
   rw[hse]at hst;have HS:=azO hst;clear d0 d1 t0 t1 hst hse hu' hxb;go_wp2_with fail
   refine D0.out.mono ?_;rintro e w' ⟨rfl,rfl⟩;go_wp2_with fail
   refine D1.out.mono ?_;rintro e w' ⟨rfl,rfl⟩;go_wp2_with fail
   go_roundw
   case rel =>
    exact⟨i+1,c',k',out++[d],by have:=HIK.out; omega,by go_num,I,af2,by simp[HOL.out],HST.out,HS.out.1,hbel.setCell (p:=⟨w0.heap.size,i,none⟩) hsz0 _⟩
   case measure=>simp[intOf]; omega
  obtain rfl:i=M:=by omega
  obtain rfl:k=0:=by have:=HIK.out; omega
  have hrow:aC wr (.slice (some ⟨w0.heap.size,0,none⟩) i i) out:=by
   have:=HW.out;rw[aB9,aAW]at this;exact oM HOL.out this
  have hv:Na.Zk out=Na.Zk l-Na.Zk m:=by
   have h1:=pO.out;rw[HE.out.1,HE.out.2.1]at h1;have h2:=Na.dS out;rw[HOL.out]at h2;exact Yj h1 HLE.out h2
  have hs:=short_any _ _ _ hrow;rw[hv]at hs;have HS:=azO hs;clear hs hrow hv;go_wp2_with fail
  refine HS.out.mono ?_;rintro e w' ⟨a',rfl,hr,rfl⟩;have HR:=azO hr;clear hr;go_wp2_with fail
  go_ret2
  exact⟨_,I,HR.out,hbel⟩
attribute [local go_sem] Go.Rel.valOf
theorem aO.shape{base:Nat}{w:World}{v:Value}{neg:Bool}{n:Nat}(h:aO base w v neg n):∃a d,v = .agg #[.bool neg,.slice a (Ux n).length d]:=by
 obtain⟨s,rfl,hs,_⟩:=h;obtain⟨a,d,rfl⟩:=hs.shape;exact⟨a,d,I⟩
def jF(K:Nat)(w:World)(v:Value)(z:Int):Prop:=∃n s l,v = .agg #[.bool n,s]∧aC w s l∧l.length<=K∧zv n (Na.Zk l)=z
theorem jF.mono{K K':Nat}{w:World}{v:Value}{z:Int}(h:jF K w v z)(hk:K<=K'):jF K' w v z:=by
 obtain⟨n,s,l,hv,hs,hl,hz⟩:=h; exact⟨n,s,l,hv,hs,Z,hz⟩
theorem Ba.toQ{base K:Nat}{w:World}{v:Value}{z:Int}(h:Ba base w v z)(hk:(Ux z.natAbs).length<=K):jF K w v z:=by
 obtain⟨s,hv,hs,_⟩:=h; exact⟨_,s,_,hv,hs,hk,by rw[PV,Yk]⟩
variable{K:Nat}
theorem G6{w:World}{v:Value}{z:Int}(h:jF K w v z):(Ux z.natAbs).length<=K:=by
 obtain⟨n,s,l,hv,hs,hl,rfl⟩:=h;rw[rY]; exact aAa (bY l) hl
theorem jR(x y:Int){L:Nat}(hx:(Ux x.natAbs).length<=K)(hy:(Ux y.natAbs).length<=L):(Ux (x*y).natAbs).length<=K+L:=by
 apply Na.bI;have h1:=Na.dS (Ux x.natAbs);have h2:=Na.dS (Ux y.natAbs);rw[PV]at h1 h2;have h3:Na.Gg^(Ux x.natAbs).length<=Na.Gg^K:=aAV O hx;have h4:Na.Gg^(Ux y.natAbs).length<=Na.Gg^L:=aAV O hy;rw[Int.natAbs_mul,aBL];exact Nat.mul_lt_mul_of_lt_of_lt (aAk h1 h3) (aAk h2 h4)
theorem Yl(x y:Int)(hx:(Ux x.natAbs).length<=K)(hy:(Ux y.natAbs).length<=K):(Ux (x+y).natAbs).length<=K+1:=by
 apply Na.bI;have h1:=Na.dS (Ux x.natAbs);have h2:=Na.dS (Ux y.natAbs);rw[PV]at h1 h2;have h3:Na.Gg^(Ux x.natAbs).length<=Na.Gg^K:=aAV O hx;have h4:Na.Gg^(Ux y.natAbs).length<=Na.Gg^K:=aAV O hy;have h6:Na.Gg^K*2<=Na.Gg^K*Na.Gg:=aAz _ O;have h7:=Int.natAbs_add_le x y;rw[aAA];generalize Na.Gg^K*Na.Gg=q at *;generalize Na.Gg^K=p at *;omega
theorem NT(x y:Int)(hx:(Ux x.natAbs).length<=K)(hy:(Ux y.natAbs).length<=K):(Ux (x-y).natAbs).length<=K+1:=by
 rw[Int.sub_eq_add_neg]; exact Yl x (-y) hx (by rw[Int.natAbs_neg]; exact hy)
end
section
open Go.RowKit Na
variable{α:Type}
variable{K:Nat}{q p:Bool×Nat×Nat}
theorem ajE(n:Bool)(a d:Nat):nrm n false a d=nz (zv n a) d:=by
 unfold nz;rw[rY,acT];unfold nrm;split
 .rfl
 congr 1;unfold lJ;rcases aAC a with h | h
 .subst h; simp[pR]
 rw[aA6 h,Bool.and_true]
abbrev Le (q:Bool×Nat×Nat):Prop:=nrm q.1 false q.2.1 q.2.2=q
theorem QT(n1 n2:Bool)(a b:Nat):Le (nrm n1 n2 a b):=by
 unfold Le;rcases aAC b with hb | hb
 .have e:nrm n1 n2 a b=(false,0,1):=by unfold nrm; rw[azQ hb]
  rw[e]; decide
 have hg:0<Nat.gcd a b:=aCx a hb;have hb':0<b/Nat.gcd a b:=Nat.div_pos (Nat.le_of_dvd hb (aCe a b)) hg;have hc:Nat.gcd (a/Nat.gcd a b) (b/Nat.gcd a b)=1:=Nat.coprime_div_gcd_div_gcd hg;have e:nrm n1 n2 a b=(lJ n1 n2 a b,a/Nat.gcd a b,b/Nat.gcd a b):=by unfold nrm; rw[azP Z]
 rw[e];have hneg:lJ n1 n2 a b=true->0<a/Nat.gcd a b:=by
  unfold lJ; rw[az7]; intro h; simpa using h.2
 generalize lJ n1 n2 a b=n at *;generalize a/Nat.gcd a b=x at *;generalize b/Nat.gcd a b=y at *;unfold nrm;rw[azP (by simp only; omega)];simp only[hc,Nat.div_one];congr 1;unfold lJ;rcases aAC x with h | h
 .subst h;have:n=false:=by
   cases n
   .rfl
   exact absurd (hneg I) Z
  subst this; simp[pR]
 rw[hc,Nat.div_one,aA6 h,Bool.and_true];unfold pR;have hx:x≠0:=Z
 have hy:y≠0:=Z
 rw[azP hx,azP hy];cases n<;>decide
theorem Vw(z:Int)(d:Nat):Le (nz z d):=QT _ _ _ _
theorem agp(n1 n2:Bool)(a b:Nat):0<(nrm n1 n2 a b).2.2:=by
 unfold nrm;split
 .exact Nat.one_pos
 exact Nat.div_pos (Nat.le_of_dvd Z (aCe a b)) (aCx a Z)
def qlen(K:Nat)(q:Bool×Nat×Nat):Prop:=(Ux q.2.1).length<=K∧(Ux q.2.2).length<=K
theorem BD:(Ux 1).length<=1:=Na.bI O
theorem acU(z:Int)(d:Nat)(hK:1<=K)(h1:(Ux z.natAbs).length<=K)(h2:(Ux d).length<=K):qlen K (nz z d):=by
 unfold nz nrm;split
 .exact⟨by rw[jD]; simp,aAa BD hK⟩
 exact⟨aAa (fK (aBX _ _)) h1,aAa (fK (aBX _ _)) h2⟩
theorem oW(h:qlen K q):(Ux (qz q).natAbs).length<=K:=by unfold qz; rw[rY]; exact h.1
theorem jy{n:Nat}(h:(Ux n).length<=K):(Ux (n:Int).natAbs).length<=K:=by rw[aBS]; exact h
theorem BF{L:Nat}(hK:1<=K)(h1:qlen K p)(h2:qlen L q):qlen (K+L) (zY p q):=by
 refine acU _ _ Z (jR _ _ (oW h1) (oW h2)) ?_;have:=jR p.2.2 q.2.2 (jy h1.2) (jy h2.2);rwa [show((p.2.2:Int)*(q.2.2:Int))=((p.2.2*q.2.2:Nat):Int) by simp,aBS]at this
theorem acV{L:Nat}(hK:1<=K)(h1:qlen K p)(h2:qlen L q):qlen (K+L+1) (JW p q):=by
 refine acU _ _ Z (NT _ _ (jR _ _ (oW h1) (jy h2.2)) (by rw[aBI]; exact jR _ _ (oW h2) (jy h1.2))) ?_;have:=jR p.2.2 q.2.2 (jy h1.2) (jy h2.2);rw[show((p.2.2:Int)*(q.2.2:Int))=((p.2.2*q.2.2:Nat):Int) by simp,aBS]at this;omega
def eX(K:Nat)(w:World)(v:Value)(q:Bool×Nat×Nat):Prop:=
 ∃n1 s1 l1 n2 s2 l2,v = .agg #[.bool n1,s1,.bool n2,s2]∧aC w s1 l1∧aC w s2 l2∧l1.length<=K∧l2.length<=K∧nrm n1 n2 (Na.Zk l1) (Na.Zk l2)=q
theorem eX.below{K:Nat}{w w':World}{v:Value}{q:Bool×Nat×Nat}(h:eX K w v q)(hb:Ext w w'):eX K w' v q:=by
 obtain⟨n1,s1,l1,n2,s2,l2,hv,h1,h2,h3,h4,h5⟩:=h; exact⟨n1,s1,l1,n2,s2,l2,hv,h1.below hb,h2.below hb,h3,h4,h5⟩
theorem eX.shape{K:Nat}{w:World}{v:Value}{q:Bool×Nat×Nat}(h:eX K w v q):∃n1 a1 m1 c1 n2 a2 m2 c2,v = .agg #[.bool n1,.slice a1 m1 c1,.bool n2,.slice a2 m2 c2]:=by
 obtain⟨n1,s1,l1,n2,s2,l2,rfl,h1,h2,_⟩:=h;obtain⟨a1,c1,rfl⟩:=h1.shape;obtain⟨a2,c2,rfl⟩:=h2.shape;exact⟨_,_,_,_,_,_,_,_,I⟩
theorem eX.nrm{K:Nat}{w:World}{v:Value}{q:Bool×Nat×Nat}(h:eX K w v q):Le q:=by
 obtain⟨n1,s1,l1,n2,s2,l2,_,_,_,_,_,rfl⟩:=h; exact QT _ _ _ _
theorem eX.pos{K:Nat}{w:World}{v:Value}{q:Bool×Nat×Nat}(h:eX K w v q):0<q.2.2:=by
 obtain⟨n1,s1,l1,n2,s2,l2,_,_,_,_,_,rfl⟩:=h; exact agp _ _ _ _
theorem eX.len{K:Nat}{w:World}{v:Value}{q:Bool×Nat×Nat}(h:eX K w v q)(hK:1<=K):qlen K q:=by
 obtain⟨n1,s1,l1,n2,s2,l2,_,_,_,h3,h4,rfl⟩:=h;have:=Ym n1 n2 l1 l2;exact⟨Z,Z⟩
theorem bJ.toQ{w:World}{r:bJ}{K:Nat}(h:r.ok w)(hf:r.fit K):eX K w r.v r.q:=⟨r.n1,r.s1,r.l1,r.n2,r.s2,r.l2,I,h.1,h.2,hf.1,hf.2,I⟩
theorem aA.toQ{base K:Nat}{w:World}{v:Value}{q:Bool×Nat×Nat}(h:dP base w v q)(hn:Le q)(hl:qlen K q):eX K w v q:=by
 obtain⟨s,t,rfl,hs,ht,_,_⟩:=h;exact⟨_,s,_,_,t,_,I,hs,ht,hl.1,hl.2,by rw[PV,PV]; exact hn⟩
theorem aA.parts'{base K:Nat}{w:World}{n m:Bool}{s t:Value}{q:Bool×Nat×Nat}(h:dP base w (.agg #[.bool n,s,.bool m,t]) q)(hl:qlen K q) :
  jF K w (.agg #[.bool n,s]) (qz q)∧jF K w (.agg #[.bool m,t]) (q.2.2:Int):=by
 obtain⟨s',t',e,hs,ht,_,_⟩:=h;simp only[aBC,aBD,aAp,Value.bool.injEq,and_true]at e;obtain⟨rfl,rfl,rfl,rfl⟩:=e;exact⟨⟨_,_,_,I,hs,hl.1,by rw[PV]; rfl⟩,⟨_,_,_,I,ht,hl.2,by rw[PV]; rfl⟩⟩
