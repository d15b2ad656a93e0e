/- Plain laws of multiplication by digits. Walks of package -/
import Derived.Test.YtodpgjjgaddkeaaGreatDoorRefNat
import Derived.Test.YtodpgjjgaddkeaaGreatDoorPk4
set_option maxHeartbeats 1600000
set_option maxRecDepth 100000
set_option linter.unusedVariables false
set_option linter.unusedSimpArgs false
section
namespace Na
theorem XZ(l:List UInt32):∀(j:Nat) (d:UInt32),j<l.length→val (l.set j d)+B^j*(l.getD j 0).toNat=val l+B^j*d.toNat:=by
 induction l with
 | nil=>intro j d h; simp at h
 | cons c l ih =>
  intro j d h;cases j with
  | zero=>simp[val]; omega
  | succ j =>
   have h1:=ih j d (by simpa using h);have e1:(c::l).getD (j+1) 0=l.getD j 0:=by simp[List.getD]
   rw[e1,List.set_cons_succ];simp only[val,aAr];rw[aAm (B^j) B,aAs,aAs];have h2:B*(val (l.set j d)+B^j*(l.getD j 0).toNat)=B*(val l+B^j*d.toNat):=by rw[h1]
   rw[az6,az6]at h2;omega
theorem acy{out:List UInt32}{j c n A t:Nat}(hj:j<out.length)(hv:val out+B^j*c=A)(hn:n=t+(out.getD j 0).toNat+c) :
  val (out.set j (UInt32.ofNat n))+B^(j+1)*(n/B)=A+B^j*t:=by
 have h1:=XZ out j (UInt32.ofNat n) hj;rw[dg]at h1;have h2:=aBg n B;have h3:B^j*(n%B)+B^(j+1)*(n/B)=B^j*n:=by rw[aAr,aAs,←az6,h2]
 have h4:B^j*n=B^j*t+B^j*(out.getD j 0).toNat+B^j*c:=by rw[hn,az6,az6]
 omega
theorem agi{out:List UInt32}{j c A:Nat}(hj:j<out.length)(hv:val out+B^j*c=A)(h0:out.getD j 0=0)(hc:c<B):val (out.set j (UInt32.ofNat c))=A:=by
 have h1:=XZ out j (UInt32.ofNat c) hj;rw[dg,h0,aBw hc]at h1;simp at h1;omega
theorem KJ{out:List UInt32}{j k:Nat}{d:UInt32}(h:j<k):(out.set j d).getD k 0=out.getD k 0:=by
 simp only[List.getD,List.getElem?_set];rw[azG (by omega)]
theorem agj{O x V y:Nat}(i k:Nat):O+B^i*(x*V)+B^(i+k)*(x*y)=O+B^i*(x*(V+B^k*y)):=by
 rw[aBx,az6 x,az6 (B^i),aAs (B^i),aBS x (B^k)];omega
theorem acz{V x W:Nat}(i:Nat):V*W+B^i*(x*W)=(V+B^i*x)*W:=by rw[aA8,aAs]
def Clear(j:Nat)(l:List UInt32):Prop:=∀i,j≤i→l.getD i 0=0
theorem Clear.set{j k:Nat}{l:List UInt32}{d:UInt32}(h:Clear j l)(hk:k<j):Clear j (l.set k d):=fun i hi=>by rw[KJ (by omega)]; exact h i hi
theorem Clear.ajq{j:Nat}{l:List UInt32}{d:UInt32}(h:Clear j l):Clear (j+1) (l.set j d):=fun i hi=>by rw[KJ (by omega)]; exact h i (by omega)
theorem Clear.mono{j k:Nat}{l:List UInt32}(h:Clear j l)(hk:j≤k):Clear k l:=fun i hi=>h i (by omega)
theorem ZV(n:Nat):Clear 0 (List.replicate n 0):=fun i _=>by
 simp only[List.getD,List.getElem?_replicate]; split<;>rfl
end Na
end
namespace Go.Proofs.YtodpgjjgaddkeaaGreatDoor
section
open Go.RowKit
variable{α:Type}
theorem acA{x y o c:Nat}(hx:x<4294967296)(hy:y<4294967296)(ho:o<4294967296)(hc:c<4294967296):∃t s n:Nat,t=x*y∧s=t+o∧n=s+c ∧
  IntKind.u64.wrap ((x:Int)*(y:Int))=(t:Int)∧IntKind.u64.wrap ((t:Int)+(o:Int))=(s:Int)∧IntKind.u64.wrap ((c:Int)+(s:Int))=(n:Int)∧n<18446744073709551616:=by
 have hqb:x*y≤4294967295*4294967295:=aBo (by omega) (by omega);refine⟨x*y,x*y+o,x*y+o+c,rfl,rfl,rfl,Qi hx hy,?_,?_,by omega⟩
 ·rw[←gY (x*y+o) (by omega)]; simp
 rw[←gY (x*y+o+c) (by omega)]; congr 1; omega
set_option maxRecDepth 100000 in
set_option maxHeartbeats 1600000 in
theorem U9(v u:Value)(l m:List UInt32)(w:World)(hv:aC w v l)(hu:aC w u m)(hl:l.length≤50000000)(hm:m.length≤50000000) :
  Calls Tryz.prog 298 #[v,u] w fun e w'=>∃a,e = .returned (.slice a (Na.au (Na.val l*Na.val m)).length (Na.au (Na.val l*Na.val m)).length) ∧
   aC w' (.slice a (Na.au (Na.val l*Na.val m)).length (Na.au (Na.val l*Na.val m)).length) (Na.au (Na.val l*Na.val m))∧Ext w w':=by
 have hd1:=bW l;have hd2:=bW m;have e1:=Na.aB (Na.val l);have e2:=Na.aB (Na.val m);have S1:=azF (short_any v l w hv);have S2:=azF (short_any u m w hu);obtain⟨a1,c1,rfl⟩:=hv.shape;obtain⟨a2,c2,rfl⟩:=hu.shape;clear hv hu;rw[←e1,←e2];generalize Na.au (Na.val l)=X at *;generalize Na.au (Na.val m)=Y at *;have hX:X.length≤50000000:=by omega
 have hY:Y.length≤50000000:=by omega
 obtain⟨N,hN⟩:∃N,N=X.length+Y.length:=⟨_,rfl⟩;have hNN:((X.length:Int)+(Y.length:Int))=(N:Int):=by omega
 have hN1:N≤100000000:=by omega
 have h63:N≤maxLen:=by unfold maxLen; omega
 have hby:4*N≤281474976710656:=by omega
 have HN:=azF hN;clear hN e1 e2 hd1 hd2 hl hm;go_enter Tryz.func298,Tryz.ntmps298
 go_wp2_with fail
 go_step3
 go_wp2_with fail
 refine S1.out.mono ?_;rintro e w' ⟨b1,rfl,h1,rfl⟩;have H1:=azF h1;clear h1 S1;go_wp2_with fail
 refine S2.out.mono ?_;rintro e w' ⟨b2,rfl,h2,rfl⟩;have H2:=azF h2;clear h2 S2;go_wp2_with (at_make; refine wpList_make_row rfl _ _ _ rfl lI rfl w.heap.size N rfl rfl rfl hby h63 (azJ _) ?_; intro w1 hown hg)
 have hb1:=gq (az5 w.heap.size w) hg (azJ _);clear hg;have HO:=azF hown;clear hown hNN;try go_step3
 go_wp2_with fail
 go_loopw [23] (fun iv wr=>∃(i:Nat) (out:List UInt32),i≤X.length∧iv = .i i∧out.length=N∧Na.val out=Na.val (X.take i)*Na.val Y∧Na.Clear (i+Y.length) out ∧
  wr.ownsRow w.heap.size 119 1 (.slice (some ⟨w.heap.size,0,none⟩) N N) N (out.map aX)∧Ext w wr) (fun iv _=>X.length-(intOf iv).toNat)
 case atStart=>exact⟨0,List.replicate N 0,azQ _,rfl,by simp,by rw[Na.KH]; simp[Na.val],(Na.ZV N).mono (azQ _),by simpa[aX]using HO.out,hb1⟩
 case round =>
  obtain⟨i,out,hi,rfl,hol,hval,amH,hown,hbel⟩:=hrel;have HOL:=azF hol;have pJ:=azF hval;have HW:=azF hown;have HC:=azF amH;have HB:=azF hbel;clear hol hval hown amH HO hbel;by_cases hlt:i<X.length
  ·obtain⟨bx,ox,cx,hxs,hbx,hlx,hmx,hcx⟩:=dN H1.out rfl (by omega);simp only[aAg]at hxs;obtain⟨rfl,-,-⟩:=hxs;have hck:wr.cell? ⟨bx,ox+i,none⟩=some (aX X[i]):=by rw[HB.out.cell (p:=⟨bx,ox+i,none⟩) hbx]; exact hcx i hlt
   have T0:=azF (Na.cO X i hlt);generalize X[i]=x at *;have g0:=x.toNat_lt;have x0:=gG x;clear hcx;by_cases hz:x.toNat=0
   ·have hzb:((x.toNat:Int)==0)=true:=by rw[azU]; omega
    have HZ:=azF hz;clear hz;go_wp2_with fail
    go_roundw
    case rel =>
     refine⟨i+1,out,by omega,by go_num,HOL.out,?_,HC.out.mono (by omega),HW.out,HB.out⟩;rw[pJ.out,T0.out,HZ.out]; simp
    case measure=>simp[intOf]; omega
   have hzb:((x.toNat:Int)==0)=false:=by rw[az8]; omega
   obtain⟨wo,rfl⟩:∃wo:World,wo=wr:=⟨_,rfl⟩;clear hz;go_wp2_with fail
   clear hck hzb;go_loopw [8,32] (fun cv kv wr=>∃(k c:Nat) (o2:List UInt32),k≤Y.length∧kv = .i k∧cv = .int .u64 c∧c<4294967296∧o2.length=N∧Na.val o2+Na.B^(i+k)*c=Na.val out+Na.B^i*(x.toNat*Na.val (Y.take k)) ∧
    Na.Clear (i+Y.length) o2∧wr.ownsRow w.heap.size 119 1 (.slice (some ⟨w.heap.size,0,none⟩) N N) N (o2.map aX)∧Ext w wr) (fun _ kv _=>Y.length-(intOf kv).toNat)
   case atStart=>exact⟨0,0,out,azQ _,rfl,rfl,by omega,HOL.out,by simp[Na.val],HC.out,HW.out,HB.out⟩
   case round =>
    obtain⟨k,c,o2,hk,rfl,rfl,hc,amI,aie,aif,hown2,aii⟩:=hrel;have agk:=azF amI;have acB:=azF aie;have HW2:=azF hown2;have HC2:=azF aif;have HB2:=azF aii;have hNi:i+Y.length<N:=by have:=HN.out; omega
    clear amI aie hown2 aif aii HW HC HB HOL;by_cases hkl:k<Y.length
    ·obtain⟨by',oy,cy,hys,aqw,hly,hmy,hcy⟩:=dN H2.out rfl (by omega);simp only[aAg]at hys;obtain⟨rfl,-,-⟩:=hys;have hcl:wr.cell? ⟨by',oy+k,none⟩=some (aX Y[k]):=by rw[HB2.out.cell (p:=⟨by',oy+k,none⟩) aqw]; exact hcy k hkl
     have T1:=azF (Na.cO Y k hkl);generalize Y[k]=y at *;have aqx:i+k<N:=by omega
     have acC:i+k<o2.length:=by rw[agk.out]; exact aqx
     have hco:=HW2.out.cellAt (i+k) (by omega);rw[List.getElem?_map,List.getElem?_eq_getElem acC,aAv]at hco;have hog:o2.getD (i+k) 0=o2[i+k]:=by simp[List.getD,List.getElem?_eq_getElem acC]
     have hfz:=HW2.out.frozenAt (i+k);generalize o2[i+k]=o at *;have g1:=y.toNat_lt;have g2:=o.toNat_lt;have y0:=gG y;have o0:=gG o;obtain⟨t,s,n,ht,hs,hn,hmul,hs1,hs2,hnb⟩:=acA g0 g1 g2 hc;have HST:=azF (Na.acy (t:=t) acC acB.out (show n=t+(o2.getD (i+k) 0).toNat+c by rw[hog]; omega));rw[ht]at HST;have hmod:(n:Int)%4294967296=((UInt32.ofNat n).toNat:Int):=dgI n;have hdiv:(n:Int)/4294967296=((n/Na.B:Nat):Int):=dvI n;have hc':n/Na.B<4294967296:=aBQ hnb;generalize hq:n/Na.B=c' at *;obtain⟨d,hd⟩:∃d,UInt32.ofNat n=d:=⟨_,rfl⟩;rw[hd]at hmod HST;have hst:=HW2.out.stored (i+k) (aX d);rw[←aBn]at hst;have HS:=azF hst;clear hcy hst hog ht hs hn hq hd hnb HW2 acB;go_wp2_with fail
     go_roundw
     case rel =>
      refine⟨k+1,c',o2.set (i+k) d,by omega,by go_num,rfl,hc',by rw[List.length_set]; exact agk.out,?_,HC2.out.set (by omega),HS.out.1,HB2.out.setCell (p:=⟨w.heap.size,i+k,none⟩) (azJ _) _⟩;rw[←aBD,HST.out,T1.out,Na.agj]
     case measure=>simp[intOf]; omega
    obtain rfl:k=Y.length:=by omega
    have acC:i+Y.length<o2.length:=by rw[agk.out]; exact hNi
    have HST:=azF (Na.agi acC acB.out (HC2.out _ (azJ _)) hc);obtain⟨d,rfl⟩:∃d:UInt32,c=d.toNat:=⟨UInt32.ofNat c,(bV hc).symm⟩;rw[show UInt32.ofNat d.toNat=d by simp]at HST;obtain⟨⟨cv,hcell⟩,hfz⟩:=qY HW2.out (i+Y.length) hNi;have hst:=HW2.out.stored (i+Y.length) (aX d);rw[←aBn]at hst;have HS:=azF hst;clear hst;go_wp2_with fail
    go_roundw
    case rel =>
     refine⟨i+1,o2.set (i+Y.length) d,by omega,by go_num,by rw[List.length_set]; exact agk.out,?_,by rw[show i+1+Y.length=i+Y.length+1 by omega]; exact HC2.out.ajq,HS.out.1,HB2.out.setCell (p:=⟨w.heap.size,i+Y.length,none⟩) (azJ _) _⟩;rw[HST.out,pJ.out,aAA,Na.acz,T0.out]
    case measure=>simp[intOf]; omega
  obtain rfl:i=X.length:=by omega
  have hs:=short_any _ _ _ (oM HOL.out HW.out);rw[pJ.out,aAA]at hs;have HS:=azF hs;clear hs;go_wp2_with fail
  refine HS.out.mono ?_;rintro e w' ⟨a',rfl,hr,rfl⟩;have HR:=azF hr;clear hr;go_wp2_with fail
  try rw[Exit.noGoto_ret]
  go_ret
  exact⟨_,rfl,HR.out,HB.out⟩
theorem set_mid(out:List α)(k:Nat)(z x:α):(out++List.replicate (k+1) z).set out.length x=(out++[x])++List.replicate k z:=by
 rw[List.set_append_right _ _ (azJ _),aBH,aBR,List.set_cons_zero,az0]; rfl
theorem Va(v u:Value)(l m:List UInt32)(w:World)(hv:aC w v l)(hu:aC w u m)(hl:l.length≤100000000)(hm:m.length≤100000000) :
  Calls Tryz.prog 328 #[v,u] w fun e w'=>∃a,e = .returned (.slice a (Na.au (Na.val l+Na.val m)).length (Na.au (Na.val l+Na.val m)).length) ∧
   aC w' (.slice a (Na.au (Na.val l+Na.val m)).length (Na.au (Na.val l+Na.val m)).length) (Na.au (Na.val l+Na.val m))∧Ext w w':=by
 have HV:=azF hv;have HU:=azF hu;obtain⟨a1,c1,rfl⟩:=hv.shape;obtain⟨a2,c2,rfl⟩:=hu.shape;clear hv hu;obtain⟨M,hM⟩:∃M,M=max l.length m.length:=⟨_,rfl⟩;have hmax:max (l.length:Int) (m.length:Int)=(M:Int):=by omega
 obtain⟨N,hN⟩:∃N,N=M+1:=⟨_,rfl⟩;have hMN:(M:Int)+1=(N:Int):=by omega
 have hM1:N≤100000001:=by omega
 have HE:Hid (Na.val (l.take N)=Na.val l∧Na.val (m.take N)=Na.val m∧Na.val l+Na.val m<Na.B^N):=by
  refine⟨by rw[aAp (by omega)],by rw[aAp (by omega)],?_⟩;rw[hN];have h1:=Na.dR l;have h2:=Na.dR m;have h3:Na.B^l.length≤Na.B^M:=aAK (by decide) (by omega);have h4:Na.B^m.length≤Na.B^M:=aAK (by decide) (by omega);have h6:Na.B^M*2≤Na.B^M*Na.B:=aAq _ (by decide);rw[aAr];generalize Na.B^M*Na.B=q at *;generalize Na.B^M=p at *;omega
 have h63:N≤maxLen:=by unfold maxLen; omega
 have hby:4*N≤281474976710656:=by omega
 clear hM hN;go_enter Tryz.func328,Tryz.ntmps328
 go_wp2_with (at_make; refine wpList_make_row rfl _ _ _ rfl lI rfl w.heap.size N rfl rfl rfl hby h63 (azJ _) ?_; intro w1 hown hg)
 clear hmax hMN;have hb1:=gq (az5 w.heap.size w) hg (azJ _);clear hg;have HO:=azF hown;clear hown;go_loopw [6,17] (fun cv iv wr=>∃(i c k:Nat) (out:List UInt32),i+k=N∧iv = .i i∧cv = .int .u64 c∧c≤1∧out.length=i∧Na.val out+Na.B^i*c=Na.val (l.take i)+Na.val (m.take i) ∧
  wr.ownsRow w.heap.size 119 1 (.slice (some ⟨w.heap.size,0,none⟩) N N) N ((out++List.replicate k 0).map aX)∧Ext w wr) (fun _ iv _=>N-(intOf iv).toNat)
 case atStart=>exact⟨0,0,N,[],by omega,rfl,rfl,by omega,rfl,by simp[Na.val],by simpa[aX]using HO.out,hb1⟩
 case round =>
  obtain⟨i,c,k,out,hik,rfl,rfl,hc,hol,hval,hown,hbel⟩:=hrel;have HOL:=azF hol;have pJ:=azF hval;have HW:=azF hown;have hiM:i≤N:=by omega
  have HIK:=azF hik;clear hol hval hown HO hik;by_cases hlt:i<N
  ·obtain⟨k',rfl⟩:∃k',k=k'+1:=⟨k-1,by have:=HIK.out; omega⟩;have d0:=pV _ l i wr (HV.out.below hbel) (by omega);have d1:=pV _ m i wr (HU.out.below hbel) (by omega);have g0:=(l.getD i 0).toNat_lt;have g1:=(m.getD i 0).toNat_lt;have t0:=Na.jB l i;have t1:=Na.jB m i;generalize (l.getD i 0).toNat=x at *;generalize (m.getD i 0).toNat=y at *;have D0:=azF d0;have D1:=azF d1;have T0:=azF t0;have T1:=azF t1;obtain⟨n,hn⟩:∃n,n=x+y+c:=⟨_,rfl⟩;have hmod:((c:Int)+((x:Int)+y))%4294967296=((UInt32.ofNat n).toNat:Int):=by
    rw[show(c:Int)+((x:Int)+y)=(n:Int) by omega,dgI]
   have hdiv:((c:Int)+((x:Int)+y))/4294967296=((n/Na.B:Nat):Int):=by
    rw[show(c:Int)+((x:Int)+y)=(n:Int) by omega,dvI]
   have hc':n/Na.B≤1:=by rw[hn,acD]; omega
   have HST:=azF (Na.step_up HOL.out pJ.out hn);generalize hq:n/Na.B=c' at *;obtain⟨d,hd⟩:∃d,UInt32.ofNat n=d:=⟨_,rfl⟩;rw[hd]at hmod HST;obtain⟨⟨cv,hcell⟩,hfz⟩:=qY HW.out i hlt;have hst:=HW.out.stored i (aX d);have hse:((out++List.replicate (k'+1) 0).map aX).set i (aX d)=((out++[d])++List.replicate k' 0).map aX:=by rw[←aBn,←HOL.out,set_mid]
   rw[hse]at hst;have HS:=azF hst;clear d0 d1 t0 t1 hn hq hd hst hse;go_wp2_with fail
   refine D0.out.mono ?_;rintro e w' ⟨rfl,rfl⟩;go_wp2_with fail
   refine D1.out.mono ?_;rintro e w' ⟨rfl,rfl⟩;go_wp2_with fail
   go_roundw
   case rel =>
    refine⟨i+1,c',k',out++[d],by have:=HIK.out; omega,by go_num,rfl,hc',by simp[HOL.out],?_,HS.out.1,hbel.setCell (p:=⟨w.heap.size,i,none⟩) (azJ _) _⟩;rw[HST.out,T0.out,T1.out,az6]; omega
   case measure=>simp[intOf]; omega
  obtain rfl:i=N:=by omega
  obtain rfl:k=0:=by have:=HIK.out; omega
  have hrow:aC wr (.slice (some ⟨w.heap.size,0,none⟩) i i) out:=by
   have:=HW.out;rw[aBX,aAL]at this;exact oM HOL.out this
  have hv:Na.val out=Na.val l+Na.val m:=by
   have h1:=pJ.out;rw[HE.out.1,HE.out.2.1]at h1;have h2:=HE.out.2.2;have h3:c=0:=by
    rcases aAt c with h | h
    ·exact h
    have:=aAq (Na.B^i) h;omega
   rw[h3]at h1;omega
  have hs:=short_any _ _ _ hrow;rw[hv]at hs;have HS:=azF hs;clear hs hrow hv;go_wp2_with fail
  refine HS.out.mono ?_;rintro e w' ⟨a',rfl,hr,rfl⟩;have HR:=azF hr;clear hr;go_wp2_with fail
  go_ret
  exact⟨_,rfl,HR.out,hbel⟩
theorem ZW(v u:Value)(l m:List UInt32)(w:World)(hv:aC w v l)(hu:aC w u m)(hlt:Na.val l<Na.val m) :
  Calls Tryz.prog 329 #[v,u] w fun e w'=>e = .returned (.tuple #[.sn,.z])∧Ext w w':=by
 have hc:=AO v u l m w hv hu;rw[AL hlt]at hc;have HC:=azF hc;obtain⟨a1,c1,rfl⟩:=hv.shape;obtain⟨a2,c2,rfl⟩:=hu.shape;clear hc hv hu hlt;go_enter Tryz.func329,Tryz.ntmps329
 go_wp2_with fail
 refine HC.out.mono ?_;rintro e w' ⟨rfl,hb⟩;have HB:=azF hb;clear hb;go_wp2_with fail
 go_ret2
 exact⟨rfl,HB.out⟩
theorem ZX(v u:Value)(l m:List UInt32)(w:World)(hv:aC w v l)(hu:aC w u m)(hl:l.length≤100000000)(hle:Na.val m≤Na.val l) :
  Calls Tryz.prog 329 #[v,u] w fun e w'=>∃a,e = .returned (.tuple #[.slice a (Na.au (Na.val l-Na.val m)).length (Na.au (Na.val l-Na.val m)).length,.bool true]) ∧
   aC w' (.slice a (Na.au (Na.val l-Na.val m)).length (Na.au (Na.val l-Na.val m)).length) (Na.au (Na.val l-Na.val m))∧Ext w w':=by
 have HCM:=azF (AO v u l m w hv hu);have hcn:=vX hle;have hdl:=bW l;have HV:=azF hv;have HU:=azF hu;obtain⟨a1,c1,rfl⟩:=hv.shape;obtain⟨a2,c2,rfl⟩:=hu.shape;clear hv hu;obtain⟨M,hM⟩:∃M,M=(Na.au (Na.val l)).length:=⟨_,rfl⟩;have HE:Hid (Na.val (l.take M)=Na.val l∧Na.val (m.take M)=Na.val m∧Na.val l<Na.B^M):=by
  have h1:Na.val l<Na.B^M:=by
   have:=Na.dR (Na.au (Na.val l));rw[Na.aB,←hM]at this; exact this
  exact⟨Na.uK h1,Na.uK (by omega),h1⟩
 have HLE:=azF hle;have HM:=azF hM;have hM1:M≤100000000:=by omega
 have h63:M≤maxLen:=by unfold maxLen; omega
 have hby:4*M≤281474976710656:=by omega
 generalize qN (Na.val l) (Na.val m)=cc at *;clear hM hle hdl;go_enter Tryz.func329,Tryz.ntmps329
 go_wp2_with fail
 refine HCM.out.mono ?_;rintro e w0 ⟨rfl,hb0⟩;have HB0:=azF hb0;have hsh:=short_any _ l w0 (HV.out.below hb0);rw[←HM.out]at hsh;have HSH:=azF hsh;clear hsh hb0;go_wp2_with fail
 refine HSH.out.mono ?_;rintro e w' ⟨aa,rfl,-,rfl⟩;go_wp2_with (at_make; refine wpList_make_row rfl _ _ _ rfl lI rfl w0.heap.size M rfl rfl rfl hby h63 (azJ _) ?_; intro w1 hown hg)
 have hb1:=Ext.trans' HB0.out (gq (az5 w0.heap.size w0) hg (azJ _));have hsz0:=HB0.out.size;clear hg;have HO:=azF hown;clear hown;go_loopw [7,20] (fun cv iv wr=>∃(i c k:Nat) (out:List UInt32),i+k=M∧iv = .i i∧cv = .int .u64 c∧c≤1∧out.length=i∧Na.val (l.take i)+Na.B^i*c=Na.val out+Na.val (m.take i) ∧
  wr.ownsRow w0.heap.size 119 1 (.slice (some ⟨w0.heap.size,0,none⟩) M M) M ((out++List.replicate k 0).map aX)∧Ext w wr) (fun _ iv _=>M-(intOf iv).toNat)
 case atStart=>exact⟨0,0,M,[],by omega,rfl,rfl,by omega,rfl,by simp[Na.val],by simpa[aX]using HO.out,hb1⟩
 case round =>
  obtain⟨i,c,k,out,hik,rfl,rfl,hc,hol,hval,hown,hbel⟩:=hrel;have HOL:=azF hol;have pJ:=azF hval;have HW:=azF hown;have hiM:i≤M:=by omega
  have HIK:=azF hik;clear hol hval hown HO hik;by_cases hlt:i<M
  ·obtain⟨k',rfl⟩:∃k',k=k'+1:=⟨k-1,by have:=HIK.out; omega⟩;have d0:=pV _ l i wr (HV.out.below hbel) (by omega);have d1:=pV _ m i wr (HU.out.below hbel) (by omega);have g0:=(l.getD i 0).toNat_lt;have g1:=(m.getD i 0).toNat_lt;have t0:=Na.jB l i;have t1:=Na.jB m i;generalize (l.getD i 0).toNat=x at *;generalize (m.getD i 0).toNat=y at *;have D0:=azF d0;have D1:=azF d1;have T0:=azF t0;have T1:=azF t1;obtain⟨Z,r,c',hZ,hr,hb',afY,hxb,hu'⟩:=Gl x y c g0 g1 hc;obtain⟨d,rfl⟩:∃d:UInt32,r=d.toNat:=⟨UInt32.ofNat r,(bV hxb).symm⟩;have HST:Hid (Na.val (l.take (i+1))+Na.B^(i+1)*c'=Na.val (out++[d])+Na.val (m.take (i+1))):=by
    show _=_;have h1:=pJ.out;rw[T0.out,T1.out,Na.jd,HOL.out,aAr];have h2:Na.B^i*(x+Na.B*c')=Na.B^i*(d.toNat+y+c):=by rw[hu']
    rw[az6,az6,az6,←aAs]at h2;omega
   obtain⟨⟨cv,hcell⟩,hfz⟩:=qY HW.out i hlt;have hst:=HW.out.stored i (aX d);have hse:((out++List.replicate (k'+1) 0).map aX).set i (aX d)=((out++[d])++List.replicate k' 0).map aX:=by rw[←aBn,←HOL.out,set_mid]
   rw[hse]at hst;have HS:=azF hst;clear d0 d1 t0 t1 hst hse hu' hxb;go_wp2_with fail
   refine D0.out.mono ?_;rintro e w' ⟨rfl,rfl⟩;go_wp2_with fail
   refine D1.out.mono ?_;rintro e w' ⟨rfl,rfl⟩;go_wp2_with fail
   go_roundw
   case rel =>
    exact⟨i+1,c',k',out++[d],by have:=HIK.out; omega,by go_num,rfl,afY,by simp[HOL.out],HST.out,HS.out.1,hbel.setCell (p:=⟨w0.heap.size,i,none⟩) hsz0 _⟩
   case measure=>simp[intOf]; omega
  obtain rfl:i=M:=by omega
  obtain rfl:k=0:=by have:=HIK.out; omega
  have hrow:aC wr (.slice (some ⟨w0.heap.size,0,none⟩) i i) out:=by
   have:=HW.out;rw[aBX,aAL]at this;exact oM HOL.out this
  have hv:Na.val out=Na.val l-Na.val m:=by
   have h1:=pJ.out;rw[HE.out.1,HE.out.2.1]at h1;have h2:=Na.dR out;rw[HOL.out]at h2;exact X0 h1 HLE.out h2
  have hs:=short_any _ _ _ hrow;rw[hv]at hs;have HS:=azF hs;clear hs hrow hv;go_wp2_with fail
  refine HS.out.mono ?_;rintro e w' ⟨a',rfl,hr,rfl⟩;have HR:=azF hr;clear hr;go_wp2_with fail
  go_ret2
  exact⟨_,rfl,HR.out,hbel⟩
attribute [local go_sem] Go.Rel.valOf
theorem aO.shape{base:Nat}{w:World}{v:Value}{neg:Bool}{n:Nat}(h:aO base w v neg n):∃a d,v = .agg #[.bool neg,.slice a (Na.au n).length d]:=by
 obtain⟨s,rfl,hs,_⟩:=h;obtain⟨a,d,rfl⟩:=hs.shape;exact⟨a,d,rfl⟩
def jC(K:Nat)(w:World)(v:Value)(z:Int):Prop:=∃n s l,v = .agg #[.bool n,s]∧aC w s l∧l.length≤K∧zv n (Na.val l)=z
theorem jC.mono{K K':Nat}{w:World}{v:Value}{z:Int}(h:jC K w v z)(hk:K≤K'):jC K' w v z:=by
 obtain⟨n,s,l,hv,hs,hl,hz⟩:=h; exact⟨n,s,l,hv,hs,by omega,hz⟩
theorem Ap.toQ{base K:Nat}{w:World}{v:Value}{z:Int}(h:Ap base w v z)(hk:(Na.au z.natAbs).length≤K):jC K w v z:=by
 obtain⟨s,hv,hs,_⟩:=h; exact⟨_,s,_,hv,hs,hk,by rw[Na.aB,X3]⟩
theorem Gx{K:Nat}{w:World}{v:Value}{z:Int}(h:jC K w v z):(Na.au z.natAbs).length≤K:=by
 obtain⟨n,s,l,hv,hs,hl,rfl⟩:=h;rw[rX]; exact az3 (bW l) hl
theorem jM(x y:Int){K L:Nat}(hx:(Na.au x.natAbs).length≤K)(hy:(Na.au y.natAbs).length≤L):(Na.au (x*y).natAbs).length≤K+L:=by
 apply Na.bH;have h1:=Na.dR (Na.au x.natAbs);have h2:=Na.dR (Na.au y.natAbs);rw[Na.aB]at h1 h2;have h3:Na.B^(Na.au x.natAbs).length≤Na.B^K:=aAK (by decide) hx;have h4:Na.B^(Na.au y.natAbs).length≤Na.B^L:=aAK (by decide) hy;rw[Int.natAbs_mul,aBx];exact Nat.mul_lt_mul_of_lt_of_lt (aAa h1 h3) (aAa h2 h4)
theorem X4(x y:Int){K:Nat}(hx:(Na.au x.natAbs).length≤K)(hy:(Na.au y.natAbs).length≤K):(Na.au (x+y).natAbs).length≤K+1:=by
 apply Na.bH;have h1:=Na.dR (Na.au x.natAbs);have h2:=Na.dR (Na.au y.natAbs);rw[Na.aB]at h1 h2;have h3:Na.B^(Na.au x.natAbs).length≤Na.B^K:=aAK (by decide) hx;have h4:Na.B^(Na.au y.natAbs).length≤Na.B^K:=aAK (by decide) hy;have h6:Na.B^K*2≤Na.B^K*Na.B:=aAq _ (by decide);have h7:=Int.natAbs_add_le x y;rw[aAr];generalize Na.B^K*Na.B=q at *;generalize Na.B^K=p at *;omega
theorem Nu(x y:Int){K:Nat}(hx:(Na.au x.natAbs).length≤K)(hy:(Na.au y.natAbs).length≤K):(Na.au (x-y).natAbs).length≤K+1:=by
 rw[Int.sub_eq_add_neg]; exact X4 x (-y) hx (by rw[Int.natAbs_neg]; exact hy)
end
section
open Go.RowKit
variable{α:Type}
theorem ajr(n:Bool)(a d:Nat):nrm n false a d=nz (zv n a) d:=by
 unfold nz;rw[rX,acE];unfold nrm;split
 ·rfl
 congr 1;unfold lC;rcases aAt a with h | h
 ·subst h; simp[pK]
 rw[aAW h,Bool.and_true]
abbrev KL (q:Bool×Nat×Nat):Prop:=nrm q.1 false q.2.1 q.2.2=q
theorem Qx(n1 n2:Bool)(a b:Nat):KL (nrm n1 n2 a b):=by
 unfold KL;rcases aAt b with hb | hb
 ·have e:nrm n1 n2 a b=(false,0,1):=by unfold nrm; rw[azI hb]
  rw[e]; decide
 have hg:0<Nat.gcd a b:=aCm a hb;have hb':0<b/Nat.gcd a b:=Nat.div_pos (Nat.le_of_dvd hb (aB2 a b)) hg;have hc:Nat.gcd (a/Nat.gcd a b) (b/Nat.gcd a b)=1:=Nat.coprime_div_gcd_div_gcd hg;have e:nrm n1 n2 a b=(lC n1 n2 a b,a/Nat.gcd a b,b/Nat.gcd a b):=by unfold nrm; rw[azG (by omega)]
 rw[e];have hneg:lC n1 n2 a b=true→0<a/Nat.gcd a b:=by
  unfold lC; rw[azY]; intro h; simpa using h.2
 generalize lC n1 n2 a b=n at *;generalize a/Nat.gcd a b=x at *;generalize b/Nat.gcd a b=y at *;unfold nrm;rw[azG (by simp only; omega)];simp only[hc,Nat.div_one];congr 1;unfold lC;rcases aAt x with h | h
 ·subst h;have:n=false:=by
   cases n
   ·rfl
   exact absurd (hneg rfl) (by omega)
  subst this; simp[pK]
 rw[hc,Nat.div_one,aAW h,Bool.and_true];unfold pK;have hx:x≠0:=by omega
 have hy:y≠0:=by omega
 rw[azG hx,azG hy];cases n<;>decide
theorem Vb(z:Int)(d:Nat):KL (nz z d):=Qx _ _ _ _
theorem agl(n1 n2:Bool)(a b:Nat):0<(nrm n1 n2 a b).2.2:=by
 unfold nrm;split
 ·exact Nat.one_pos
 exact Nat.div_pos (Nat.le_of_dvd (by omega) (aB2 a b)) (aCm a (by omega))
def qlen(K:Nat)(q:Bool×Nat×Nat):Prop:=(Na.au q.2.1).length≤K∧(Na.au q.2.2).length≤K
theorem AV:(Na.au 1).length≤1:=Na.bH (by decide)
theorem acF{K:Nat}(z:Int)(d:Nat)(hK:1≤K)(h1:(Na.au z.natAbs).length≤K)(h2:(Na.au d).length≤K):qlen K (nz z d):=by
 unfold nz nrm;split
 ·exact⟨by rw[Na.jA]; simp,az3 AV hK⟩
 exact⟨az3 (fH (aBK _ _)) h1,az3 (fH (aBK _ _)) h2⟩
theorem oW{K:Nat}{q:Bool×Nat×Nat}(h:qlen K q):(Na.au (qz q).natAbs).length≤K:=by unfold qz; rw[rX]; exact h.1
theorem jw{n K:Nat}(h:(Na.au n).length≤K):(Na.au (n:Int).natAbs).length≤K:=by rw[aBE]; exact h
theorem AX{K L:Nat}{p q:Bool×Nat×Nat}(hK:1≤K)(h1:qlen K p)(h2:qlen L q):qlen (K+L) (zi p q):=by
 refine acF _ _ (by omega) (jM _ _ (oW h1) (oW h2)) ?_;have:=jM p.2.2 q.2.2 (jw h1.2) (jw h2.2);rwa [show((p.2.2:Int)*(q.2.2:Int))=((p.2.2*q.2.2:Nat):Int) by simp,aBE]at this
theorem acG{K L:Nat}{p q:Bool×Nat×Nat}(hK:1≤K)(h1:qlen K p)(h2:qlen L q):qlen (K+L+1) (JF p q):=by
 refine acF _ _ (by omega) (Nu _ _ (jM _ _ (oW h1) (jw h2.2)) (by rw[aBv]; exact jM _ _ (oW h2) (jw h1.2))) ?_;have:=jM p.2.2 q.2.2 (jw h1.2) (jw h2.2);rw[show((p.2.2:Int)*(q.2.2:Int))=((p.2.2*q.2.2:Nat):Int) by simp,aBE]at this;omega
def eP(K:Nat)(w:World)(v:Value)(q:Bool×Nat×Nat):Prop:=
 ∃n1 s1 l1 n2 s2 l2,v = .agg #[.bool n1,s1,.bool n2,s2]∧aC w s1 l1∧aC w s2 l2∧l1.length≤K∧l2.length≤K∧nrm n1 n2 (Na.val l1) (Na.val l2)=q
theorem eP.below{K:Nat}{w w':World}{v:Value}{q:Bool×Nat×Nat}(h:eP K w v q)(hb:Ext w w'):eP K w' v q:=by
 obtain⟨n1,s1,l1,n2,s2,l2,hv,h1,h2,h3,h4,h5⟩:=h; exact⟨n1,s1,l1,n2,s2,l2,hv,h1.below hb,h2.below hb,h3,h4,h5⟩
theorem eP.shape{K:Nat}{w:World}{v:Value}{q:Bool×Nat×Nat}(h:eP K w v q):∃n1 a1 m1 c1 n2 a2 m2 c2,v = .agg #[.bool n1,.slice a1 m1 c1,.bool n2,.slice a2 m2 c2]:=by
 obtain⟨n1,s1,l1,n2,s2,l2,rfl,h1,h2,_⟩:=h;obtain⟨a1,c1,rfl⟩:=h1.shape;obtain⟨a2,c2,rfl⟩:=h2.shape;exact⟨_,_,_,_,_,_,_,_,rfl⟩
theorem eP.nrm{K:Nat}{w:World}{v:Value}{q:Bool×Nat×Nat}(h:eP K w v q):KL q:=by
 obtain⟨n1,s1,l1,n2,s2,l2,_,_,_,_,_,rfl⟩:=h; exact Qx _ _ _ _
theorem eP.pos{K:Nat}{w:World}{v:Value}{q:Bool×Nat×Nat}(h:eP K w v q):0<q.2.2:=by
 obtain⟨n1,s1,l1,n2,s2,l2,_,_,_,_,_,rfl⟩:=h; exact agl _ _ _ _
theorem eP.len{K:Nat}{w:World}{v:Value}{q:Bool×Nat×Nat}(h:eP K w v q)(hK:1≤K):qlen K q:=by
 obtain⟨n1,s1,l1,n2,s2,l2,_,_,_,h3,h4,rfl⟩:=h;have:=X5 n1 n2 l1 l2;exact⟨by omega,by omega⟩
theorem bI.toQ{w:World}{r:bI}{K:Nat}(h:r.ok w)(hf:r.fit K):eP K w r.v r.q:=⟨r.n1,r.s1,r.l1,r.n2,r.s2,r.l2,rfl,h.1,h.2,hf.1,hf.2,rfl⟩
theorem aA.toQ{base K:Nat}{w:World}{v:Value}{q:Bool×Nat×Nat}(h:dO base w v q)(hn:KL q)(hl:qlen K q):eP K w v q:=by
 obtain⟨s,t,rfl,hs,ht,_,_⟩:=h;exact⟨_,s,_,_,t,_,rfl,hs,ht,hl.1,hl.2,by rw[Na.aB,Na.aB]; exact hn⟩
theorem aA.parts'{base K:Nat}{w:World}{n m:Bool}{s t:Value}{q:Bool×Nat×Nat}(h:dO base w (.agg #[.bool n,s,.bool m,t]) q)(hl:qlen K q) :
  jC K w (.agg #[.bool n,s]) (qz q)∧jC K w (.agg #[.bool m,t]) (q.2.2:Int):=by
 obtain⟨s',t',e,hs,ht,_,_⟩:=h;simp only[aBq,aBr,aAf,Value.bool.injEq,and_true]at e;obtain⟨rfl,rfl,rfl,rfl⟩:=e;exact⟨⟨_,_,_,rfl,hs,hl.1,by rw[Na.aB]; rfl⟩,⟨_,_,_,rfl,ht,hl.2,by rw[Na.aB]; rfl⟩⟩
end
end Go.Proofs.YtodpgjjgaddkeaaGreatDoor
