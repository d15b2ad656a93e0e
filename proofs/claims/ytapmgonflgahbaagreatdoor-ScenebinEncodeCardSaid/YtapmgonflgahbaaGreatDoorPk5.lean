/- Plain laws of multiplication by digits. Walks of package -/
import Derived.Test.YtapmgonflgahbaaGreatDoorRefNat
import Derived.Outline
set_option linter.unusedVariables false
section
namespace Na
theorem Vf(l:List UInt32):∀(j:Nat) (d:UInt32),j<l.length→val (l.set j d)+B^j*(l.getD j 0).toNat=val l+B^j*d.toNat:=by
 induction l with
 | nil=>intro j d h; simp at h
 | cons c l ih =>
  intro j d h;cases j with
  | zero=>simp[val]; omega
  | succ j =>
   have h1:=ih j d (by simpa using h);have e1:(c::l).getD (j+1) 0=l.getD j 0:=by simp[List.getD]
   rw[e1,List.set_cons_succ];simp only[val,aoF];rw[aoH (B^j) B,aoI,aoI];have h2:B*(val (l.set j d)+B^j*(l.getD j 0).toNat)=B*(val l+B^j*d.toNat):=by rw[h1]
   rw[aos,aos]at h2;omega
theorem OJ{out:List UInt32}{j c n A t:Nat}(hj:j<out.length)(hv:val out+B^j*c=A)(hn:n=t+(out.getD j 0).toNat+c) :
  val (out.set j (UInt32.ofNat n))+B^(j+1)*(n/B)=A+B^j*t:=by
 have h1:=Vf out j (UInt32.ofNat n) hj;rw[dg]at h1;have h2:=apj n B;have h3:B^j*(n%B)+B^(j+1)*(n/B)=B^j*n:=by rw[aoF,aoI,←aos,h2]
 have h4:B^j*n=B^j*t+B^j*(out.getD j 0).toNat+B^j*c:=by rw[hn,aos,aos]
 omega
theorem UM{out:List UInt32}{j c A:Nat}(hj:j<out.length)(hv:val out+B^j*c=A)(h0:out.getD j 0=0)(hc:c<B):val (out.set j (UInt32.ofNat c))=A:=by
 have h1:=Vf out j (UInt32.ofNat c) hj;rw[dg,h0,apI hc]at h1;simp at h1;omega
theorem JI{out:List UInt32}{j k:Nat}{d:UInt32}(h:j<k):(out.set j d).getD k 0=out.getD k 0:=by
 simp only[List.getD,List.getElem?_set];rw[an0 (by omega)]
end Na
namespace Na
theorem UL{O x V y:Nat}(i k:Nat):O+B^i*(x*V)+B^(i+k)*(x*y)=O+B^i*(x*(V+B^k*y)):=by
 rw[apV,aos x,aos (B^i),aoI (B^i),Nat.mul_left_comm x (B^k)];omega
theorem OL{V x W:Nat}(i:Nat):V*W+B^i*(x*W)=(V+B^i*x)*W:=by rw[apk,aoI]
def Clear(j:Nat)(l:List UInt32):Prop:=∀i,j≤i→l.getD i 0=0
theorem Clear.set{j k:Nat}{l:List UInt32}{d:UInt32}(h:Clear j l)(hk:k<j):Clear j (l.set k d):=fun i hi=>by rw[JI (by omega)]; exact h i hi
theorem Clear.aah{j:Nat}{l:List UInt32}{d:UInt32}(h:Clear j l):Clear (j+1) (l.set j d):=fun i hi=>by rw[JI (by omega)]; exact h i (by omega)
theorem Clear.mono{j k:Nat}{l:List UInt32}(h:Clear j l)(hk:j≤k):Clear k l:=fun i hi=>h i (by omega)
theorem Jw(n:Nat):Clear 0 (List.replicate n 0):=fun i _=>by
 simp only[List.getD,List.getElem?_replicate]; split<;>rfl
end Na
end
namespace Go.Proofs.YtapmgonflgahbaaGreatDoor
section
open Go.RowKit
variable{α:Type}
theorem OI{x y o c:Nat}(hx:x<4294967296)(hy:y<4294967296)(ho:o<4294967296)(hc:c<4294967296):∃t s n:Nat,t=x*y∧s=t+o∧n=s+c ∧
  IntKind.u64.wrap ((x:Int)*(y:Int))=(t:Int)∧IntKind.u64.wrap ((t:Int)+(o:Int))=(s:Int)∧IntKind.u64.wrap ((c:Int)+(s:Int))=(n:Int)∧n<18446744073709551616:=by
 have hqb:x*y≤4294967295*4294967295:=apH (by omega) (by omega);refine⟨x*y,x*y+o,x*y+o+c,rfl,rfl,rfl,NQ hx hy,?_,?_,by omega⟩
 ·rw[←iJ (x*y+o) (by omega)]; simp
 rw[←iJ (x*y+o+c) (by omega)]; congr 1; omega
set_option maxRecDepth 100000 in
set_option maxHeartbeats 1600000 in
theorem QS(v u:Value)(l m:List UInt32)(w:World)(hv:aF w v l)(hu:aF w u m)(hl:l.length≤50000000)(hm:m.length≤50000000) :
  Calls Tryz.prog 295 #[v,u] w fun e w'=>∃a,e = .returned (.slice a (Na.aj (Na.val l*Na.val m)).length (Na.aj (Na.val l*Na.val m)).length) ∧
   aF w' (.slice a (Na.aj (Na.val l*Na.val m)).length (Na.aj (Na.val l*Na.val m)).length) (Na.aj (Na.val l*Na.val m))∧Ext w w':=by
 have hd1:=bK l;have hd2:=bK m;have e1:=Na.aJ (Na.val l);have e2:=Na.aJ (Na.val m);have S1:=anU (short_any v l w hv);have S2:=anU (short_any u m w hu);obtain⟨a1,c1,rfl⟩:=hv.shape;obtain⟨a2,c2,rfl⟩:=hu.shape;clear hv hu;rw[←e1,←e2];generalize Na.aj (Na.val l)=X at *;generalize Na.aj (Na.val m)=Y at *;have hX:X.length≤50000000:=by omega
 have hY:Y.length≤50000000:=by omega
 obtain⟨N,hN⟩:∃N,N=X.length+Y.length:=⟨_,rfl⟩;have hNN:((X.length:Int)+(Y.length:Int))=(N:Int):=by omega
 have hN1:N≤100000000:=by omega
 have h63:N≤maxLen:=by unfold maxLen; omega
 have hby:4*N≤281474976710656:=by omega
 have HN:=anU hN;clear hN e1 e2 hd1 hd2 hl hm;go_enter Tryz.func295,Tryz.ntmps295
 go_wp2_with fail
 go_step3
 go_wp2_with fail
 refine S1.out.mono ?_;rintro e w' ⟨b1,rfl,h1,rfl⟩;have H1:=anU h1;clear h1 S1;go_wp2_with fail
 refine S2.out.mono ?_;rintro e w' ⟨b2,rfl,h2,rfl⟩;have H2:=anU h2;clear h2 S2;go_wp2_with (at_make; refine wpList_make_row rfl _ _ _ rfl lX rfl w.heap.size N rfl rfl rfl hby h63 (an7 _) ?_; intro w1 hown hg)
 have hb1:=iG (aor w.heap.size w) hg (an7 _);clear hg;have HO:=anU hown;clear hown hNN;try go_step3
 go_wp2_with fail
 go_loopw [23] (fun iv wr=>∃(i:Nat) (out:List UInt32),i≤X.length∧iv = .i i∧out.length=N∧Na.val out=Na.val (X.take i)*Na.val Y∧Na.Clear (i+Y.length) out ∧
  wr.ownsRow w.heap.size 66 1 (.slice (some ⟨w.heap.size,0,none⟩) N N) N (out.map aY)∧Ext w wr) (fun iv _=>X.length-(intOf iv).toNat)
 case atStart=>exact⟨0,List.replicate N 0,aoa _,rfl,by simp,by rw[Na.Jj]; simp[Na.val],(Na.Jw N).mono (aoa _),by simpa[aY]using HO.out,hb1⟩
 case round =>
  obtain⟨i,out,hi,rfl,hol,hval,aaf,hown,hbel⟩:=hrel;have HOL:=anU hol;have nY:=anU hval;have HW:=anU hown;have HC:=anU aaf;have HB:=anU hbel;clear hol hval hown aaf HO hbel;by_cases hlt:i<X.length
  ·obtain⟨bx,ox,cx,hxs,hbx,hlx,hmx,hcx⟩:=dK H1.out rfl (by omega);simp only[aoB]at hxs;obtain⟨rfl,-,-⟩:=hxs;have hck:wr.cell? ⟨bx,ox+i,none⟩=some (aY X[i]):=by rw[HB.out.cell (p:=⟨bx,ox+i,none⟩) hbx]; exact hcx i hlt
   have T0:=anU (Na.bU X i hlt);generalize X[i]=x at *;have g0:=x.toNat_lt;have x0:=fO x;clear hcx;by_cases hz:x.toNat=0
   ·have hzb:((x.toNat:Int)==0)=true:=by rw[aoo]; omega
    have HZ:=anU hz;clear hz;go_wp2_with fail
    go_roundw
    case rel =>
     refine⟨i+1,out,by omega,by go_num,HOL.out,?_,HC.out.mono (by omega),HW.out,HB.out⟩;rw[nY.out,T0.out,HZ.out]; simp
    case measure=>simp[intOf]; omega
   have hzb:((x.toNat:Int)==0)=false:=by rw[aog]; omega
   obtain⟨wo,rfl⟩:∃wo:World,wo=wr:=⟨_,rfl⟩;clear hz;go_wp2_with fail
   clear hck hzb;go_loopw [8,32] (fun cv kv wr=>∃(k c:Nat) (o2:List UInt32),k≤Y.length∧kv = .i k∧cv = .int .u64 c∧c<4294967296∧o2.length=N∧Na.val o2+Na.B^(i+k)*c=Na.val out+Na.B^i*(x.toNat*Na.val (Y.take k)) ∧
    Na.Clear (i+Y.length) o2∧wr.ownsRow w.heap.size 66 1 (.slice (some ⟨w.heap.size,0,none⟩) N N) N (o2.map aY)∧Ext w wr) (fun _ kv _=>Y.length-(intOf kv).toNat)
   case atStart=>exact⟨0,0,out,aoa _,rfl,rfl,by omega,HOL.out,by simp[Na.val],HC.out,HW.out,HB.out⟩
   case round =>
    obtain⟨k,c,o2,hk,rfl,rfl,hc,aag,OE,OG,hown2,OH⟩:=hrel;have KQ:=anU aag;have Gv:=anU OE;have HW2:=anU hown2;have HC2:=anU OG;have HB2:=anU OH;have hNi:i+Y.length<N:=by have:=HN.out; omega
    clear aag OE hown2 OG OH HW HC HB HOL;by_cases hkl:k<Y.length
    ·obtain⟨by',oy,cy,hys,aeN,hly,hmy,hcy⟩:=dK H2.out rfl (by omega);simp only[aoB]at hys;obtain⟨rfl,-,-⟩:=hys;have hcl:wr.cell? ⟨by',oy+k,none⟩=some (aY Y[k]):=by rw[HB2.out.cell (p:=⟨by',oy+k,none⟩) aeN]; exact hcy k hkl
     have T1:=anU (Na.bU Y k hkl);generalize Y[k]=y at *;have aeO:i+k<N:=by omega
     have Gw:i+k<o2.length:=by rw[KQ.out]; exact aeO
     have hco:=HW2.out.cellAt (i+k) (by omega);rw[List.getElem?_map,List.getElem?_eq_getElem Gw,aoO]at hco;have hog:o2.getD (i+k) 0=o2[i+k]:=by simp[List.getD,List.getElem?_eq_getElem Gw]
     have hfz:=HW2.out.frozenAt (i+k);generalize o2[i+k]=o at *;have g1:=y.toNat_lt;have g2:=o.toNat_lt;have y0:=fO y;have o0:=fO o;obtain⟨t,s,n,ht,hs,hn,hmul,hs1,hs2,hnb⟩:=OI g0 g1 g2 hc;have HST:=anU (Na.OJ (t:=t) Gw Gv.out (show n=t+(o2.getD (i+k) 0).toNat+c by rw[hog]; omega));rw[ht]at HST;have hmod:(n:Int)%4294967296=((UInt32.ofNat n).toNat:Int):=dgI n;have hdiv:(n:Int)/4294967296=((n/Na.B:Nat):Int):=dvI n;have hc':n/Na.B<4294967296:=apF hnb;generalize hq:n/Na.B=c' at *;obtain⟨d,hd⟩:∃d,UInt32.ofNat n=d:=⟨_,rfl⟩;rw[hd]at hmod HST;have hst:=HW2.out.stored (i+k) (aY d);rw[←apv]at hst;have HS:=anU hst;clear hcy hst hog ht hs hn hq hd hnb HW2 Gv;go_wp2_with fail
     go_roundw
     case rel =>
      refine⟨k+1,c',o2.set (i+k) d,by omega,by go_num,rfl,hc',by rw[List.length_set]; exact KQ.out,?_,HC2.out.set (by omega),HS.out.1,HB2.out.setCell (p:=⟨w.heap.size,i+k,none⟩) (an7 _) _⟩;rw[←apG,HST.out,T1.out,Na.UL]
     case measure=>simp[intOf]; omega
    obtain rfl:k=Y.length:=by omega
    have Gw:i+Y.length<o2.length:=by rw[KQ.out]; exact hNi
    have HST:=anU (Na.UM Gw Gv.out (HC2.out _ (an7 _)) hc);obtain⟨d,rfl⟩:∃d:UInt32,c=d.toNat:=⟨UInt32.ofNat c,(bQ hc).symm⟩;rw[show UInt32.ofNat d.toNat=d by simp]at HST;obtain⟨⟨cv,hcell⟩,hfz⟩:=qV HW2.out (i+Y.length) hNi;have hst:=HW2.out.stored (i+Y.length) (aY d);rw[←apv]at hst;have HS:=anU hst;clear hst;go_wp2_with fail
    go_roundw
    case rel =>
     refine⟨i+1,o2.set (i+Y.length) d,by omega,by go_num,by rw[List.length_set]; exact KQ.out,?_,by rw[show i+1+Y.length=i+Y.length+1 by omega]; exact HC2.out.aah,HS.out.1,HB2.out.setCell (p:=⟨w.heap.size,i+Y.length,none⟩) (an7 _) _⟩;rw[HST.out,nY.out,aoQ,Na.OL,T0.out]
    case measure=>simp[intOf]; omega
  obtain rfl:i=X.length:=by omega
  have hs:=short_any _ _ _ (oJ HOL.out HW.out);rw[nY.out,aoQ]at hs;have HS:=anU hs;clear hs;go_wp2_with fail
  refine HS.out.mono ?_;rintro e w' ⟨a',rfl,hr,rfl⟩;have HR:=anU hr;clear hr;go_wp2_with fail
  try rw[Exit.noGoto_ret]
  go_ret
  exact⟨_,rfl,HR.out,HB.out⟩
end
section
set_option maxHeartbeats 1600000
set_option maxRecDepth 100000
open Go.RowKit
variable{α:Type}
theorem set_mid(out:List α)(k:Nat)(z x:α):(out++List.replicate (k+1) z).set out.length x=(out++[x])++List.replicate k z:=by
 rw[List.set_append_right _ _ (an7 _),apY,apU,List.set_cons_zero,aoU]; rfl
theorem QU(v u:Value)(l m:List UInt32)(w:World)(hv:aF w v l)(hu:aF w u m)(hl:l.length≤100000000)(hm:m.length≤100000000) :
  Calls Tryz.prog 332 #[v,u] w fun e w'=>∃a,e = .returned (.slice a (Na.aj (Na.val l+Na.val m)).length (Na.aj (Na.val l+Na.val m)).length) ∧
   aF w' (.slice a (Na.aj (Na.val l+Na.val m)).length (Na.aj (Na.val l+Na.val m)).length) (Na.aj (Na.val l+Na.val m))∧Ext w w':=by
 have HV:=anU hv;have HU:=anU hu;obtain⟨a1,c1,rfl⟩:=hv.shape;obtain⟨a2,c2,rfl⟩:=hu.shape;clear hv hu;obtain⟨M,hM⟩:∃M,M=max l.length m.length:=⟨_,rfl⟩;have hmax:max (l.length:Int) (m.length:Int)=(M:Int):=by omega
 obtain⟨N,hN⟩:∃N,N=M+1:=⟨_,rfl⟩;have hMN:(M:Int)+1=(N:Int):=by omega
 have hM1:N≤100000001:=by omega
 have HE:Hid (Na.val (l.take N)=Na.val l∧Na.val (m.take N)=Na.val m∧Na.val l+Na.val m<Na.B^N):=by
  refine⟨by rw[aou (by omega)],by rw[aou (by omega)],?_⟩;rw[hN];have h1:=Na.fB l;have h2:=Na.fB m;have h3:Na.B^l.length≤Na.B^M:=ao0 (by decide) (by omega);have h4:Na.B^m.length≤Na.B^M:=ao0 (by decide) (by omega);have h6:Na.B^M*2≤Na.B^M*Na.B:=aoK _ (by decide);rw[aoF];generalize Na.B^M*Na.B=q at *;generalize Na.B^M=p at *;omega
 have h63:N≤maxLen:=by unfold maxLen; omega
 have hby:4*N≤281474976710656:=by omega
 clear hM hN;go_enter Tryz.func332,Tryz.ntmps332
 go_wp2_with (at_make; refine wpList_make_row rfl _ _ _ rfl lX rfl w.heap.size N rfl rfl rfl hby h63 (an7 _) ?_; intro w1 hown hg)
 clear hmax hMN;have hb1:=iG (aor w.heap.size w) hg (an7 _);clear hg;have HO:=anU hown;clear hown;go_loopw [6,17] (fun cv iv wr=>∃(i c k:Nat) (out:List UInt32),i+k=N∧iv = .i i∧cv = .int .u64 c∧c≤1∧out.length=i∧Na.val out+Na.B^i*c=Na.val (l.take i)+Na.val (m.take i) ∧
  wr.ownsRow w.heap.size 66 1 (.slice (some ⟨w.heap.size,0,none⟩) N N) N ((out++List.replicate k 0).map aY)∧Ext w wr) (fun _ iv _=>N-(intOf iv).toNat)
 case atStart=>exact⟨0,0,N,[],by omega,rfl,rfl,by omega,rfl,by simp[Na.val],by simpa[aY]using HO.out,hb1⟩
 case round =>
  obtain⟨i,c,k,out,hik,rfl,rfl,hc,hol,hval,hown,hbel⟩:=hrel;have HOL:=anU hol;have nY:=anU hval;have HW:=anU hown;have hiM:i≤N:=by omega
  have HIK:=anU hik;clear hol hval hown HO hik;by_cases hlt:i<N
  ·obtain⟨k',rfl⟩:∃k',k=k'+1:=⟨k-1,by have:=HIK.out; omega⟩;have d0:=rM _ l i wr (HV.out.below hbel) (by omega);have d1:=rM _ m i wr (HU.out.below hbel) (by omega);have g0:=(l.getD i 0).toNat_lt;have g1:=(m.getD i 0).toNat_lt;have t0:=Na.iQ l i;have t1:=Na.iQ m i;generalize (l.getD i 0).toNat=x at *;generalize (m.getD i 0).toNat=y at *;have D0:=anU d0;have D1:=anU d1;have T0:=anU t0;have T1:=anU t1;obtain⟨n,hn⟩:∃n,n=x+y+c:=⟨_,rfl⟩;have hmod:((c:Int)+((x:Int)+y))%4294967296=((UInt32.ofNat n).toNat:Int):=by
    rw[show(c:Int)+((x:Int)+y)=(n:Int) by omega,dgI]
   have hdiv:((c:Int)+((x:Int)+y))/4294967296=((n/Na.B:Nat):Int):=by
    rw[show(c:Int)+((x:Int)+y)=(n:Int) by omega,dvI]
   have hc':n/Na.B≤1:=by rw[hn,XH]; omega
   have HST:=anU (Na.step_up HOL.out nY.out hn);generalize hq:n/Na.B=c' at *;obtain⟨d,hd⟩:∃d,UInt32.ofNat n=d:=⟨_,rfl⟩;rw[hd]at hmod HST;obtain⟨⟨cv,hcell⟩,hfz⟩:=qV HW.out i hlt;have hst:=HW.out.stored i (aY d);have hse:((out++List.replicate (k'+1) 0).map aY).set i (aY d)=((out++[d])++List.replicate k' 0).map aY:=by rw[←apv,←HOL.out,set_mid]
   rw[hse]at hst;have HS:=anU hst;clear d0 d1 t0 t1 hn hq hd hst hse;go_wp2_with fail
   refine D0.out.mono ?_;rintro e w' ⟨rfl,rfl⟩;go_wp2_with fail
   refine D1.out.mono ?_;rintro e w' ⟨rfl,rfl⟩;go_wp2_with fail
   go_roundw
   case rel =>
    refine⟨i+1,c',k',out++[d],by have:=HIK.out; omega,by go_num,rfl,hc',by simp[HOL.out],?_,HS.out.1,hbel.setCell (p:=⟨w.heap.size,i,none⟩) (an7 _) _⟩;rw[HST.out,T0.out,T1.out,aos]; omega
   case measure=>simp[intOf]; omega
  obtain rfl:i=N:=by omega
  obtain rfl:k=0:=by have:=HIK.out; omega
  have hrow:aF wr (.slice (some ⟨w.heap.size,0,none⟩) i i) out:=by
   have:=HW.out;rw[ap0,ao6]at this;exact oJ HOL.out this
  have hv:Na.val out=Na.val l+Na.val m:=by
   have h1:=nY.out;rw[HE.out.1,HE.out.2.1]at h1;have h2:=HE.out.2.2;have h3:c=0:=by
    rcases aoJ c with h | h
    ·exact h
    have:=aoK (Na.B^i) h;omega
   rw[h3]at h1;omega
  have hs:=short_any _ _ _ hrow;rw[hv]at hs;have HS:=anU hs;clear hs hrow hv;go_wp2_with fail
  refine HS.out.mono ?_;rintro e w' ⟨a',rfl,hr,rfl⟩;have HR:=anU hr;clear hr;go_wp2_with fail
  go_ret
  exact⟨_,rfl,HR.out,hbel⟩
theorem VT(v u:Value)(l m:List UInt32)(w:World)(hv:aF w v l)(hu:aF w u m)(hlt:Na.val l<Na.val m) :
  Calls Tryz.prog 333 #[v,u] w fun e w'=>e = .returned (.tuple #[.sn,.z])∧Ext w w':=by
 have hc:=AU v u l m w hv hu;rw[yh hlt]at hc;have HC:=anU hc;obtain⟨a1,c1,rfl⟩:=hv.shape;obtain⟨a2,c2,rfl⟩:=hu.shape;clear hc hv hu hlt;go_enter Tryz.func333,Tryz.ntmps333
 go_wp2_with fail
 refine HC.out.mono ?_;rintro e w' ⟨rfl,hb⟩;have HB:=anU hb;clear hb;go_wp2_with fail
 go_ret2
 exact⟨rfl,HB.out⟩
theorem VR(v u:Value)(l m:List UInt32)(w:World)(hv:aF w v l)(hu:aF w u m)(hl:l.length≤100000000)(hle:Na.val m≤Na.val l) :
  Calls Tryz.prog 333 #[v,u] w fun e w'=>∃a,e = .returned (.tuple #[.slice a (Na.aj (Na.val l-Na.val m)).length (Na.aj (Na.val l-Na.val m)).length,.bool true]) ∧
   aF w' (.slice a (Na.aj (Na.val l-Na.val m)).length (Na.aj (Na.val l-Na.val m)).length) (Na.aj (Na.val l-Na.val m))∧Ext w w':=by
 have HCM:=anU (AU v u l m w hv hu);have hcn:=wS hle;have hdl:=bK l;have HV:=anU hv;have HU:=anU hu;obtain⟨a1,c1,rfl⟩:=hv.shape;obtain⟨a2,c2,rfl⟩:=hu.shape;clear hv hu;obtain⟨M,hM⟩:∃M,M=(Na.aj (Na.val l)).length:=⟨_,rfl⟩;have HE:Hid (Na.val (l.take M)=Na.val l∧Na.val (m.take M)=Na.val m∧Na.val l<Na.B^M):=by
  have h1:Na.val l<Na.B^M:=by
   have:=Na.fB (Na.aj (Na.val l));rw[Na.aJ,←hM]at this; exact this
  exact⟨Na.vK h1,Na.vK (by omega),h1⟩
 have HLE:=anU hle;have HM:=anU hM;have hM1:M≤100000000:=by omega
 have h63:M≤maxLen:=by unfold maxLen; omega
 have hby:4*M≤281474976710656:=by omega
 generalize tu (Na.val l) (Na.val m)=cc at *;clear hM hle hdl;go_enter Tryz.func333,Tryz.ntmps333
 go_wp2_with fail
 refine HCM.out.mono ?_;rintro e w0 ⟨rfl,hb0⟩;have HB0:=anU hb0;have hsh:=short_any _ l w0 (HV.out.below hb0);rw[←HM.out]at hsh;have HSH:=anU hsh;clear hsh hb0;go_wp2_with fail
 refine HSH.out.mono ?_;rintro e w' ⟨aa,rfl,-,rfl⟩;go_wp2_with (at_make; refine wpList_make_row rfl _ _ _ rfl lX rfl w0.heap.size M rfl rfl rfl hby h63 (an7 _) ?_; intro w1 hown hg)
 have hb1:=Ext.trans' HB0.out (iG (aor w0.heap.size w0) hg (an7 _));have hsz0:=HB0.out.size;clear hg;have HO:=anU hown;clear hown;go_loopw [7,20] (fun cv iv wr=>∃(i c k:Nat) (out:List UInt32),i+k=M∧iv = .i i∧cv = .int .u64 c∧c≤1∧out.length=i∧Na.val (l.take i)+Na.B^i*c=Na.val out+Na.val (m.take i) ∧
  wr.ownsRow w0.heap.size 66 1 (.slice (some ⟨w0.heap.size,0,none⟩) M M) M ((out++List.replicate k 0).map aY)∧Ext w wr) (fun _ iv _=>M-(intOf iv).toNat)
 case atStart=>exact⟨0,0,M,[],by omega,rfl,rfl,by omega,rfl,by simp[Na.val],by simpa[aY]using HO.out,hb1⟩
 case round =>
  obtain⟨i,c,k,out,hik,rfl,rfl,hc,hol,hval,hown,hbel⟩:=hrel;have HOL:=anU hol;have nY:=anU hval;have HW:=anU hown;have hiM:i≤M:=by omega
  have HIK:=anU hik;clear hol hval hown HO hik;by_cases hlt:i<M
  ·obtain⟨k',rfl⟩:∃k',k=k'+1:=⟨k-1,by have:=HIK.out; omega⟩;have d0:=rM _ l i wr (HV.out.below hbel) (by omega);have d1:=rM _ m i wr (HU.out.below hbel) (by omega);have g0:=(l.getD i 0).toNat_lt;have g1:=(m.getD i 0).toNat_lt;have t0:=Na.iQ l i;have t1:=Na.iQ m i;generalize (l.getD i 0).toNat=x at *;generalize (m.getD i 0).toNat=y at *;have D0:=anU d0;have D1:=anU d1;have T0:=anU t0;have T1:=anU t1;obtain⟨Z,r,c',hZ,hr,hb',abW,hxb,hu'⟩:=Fq x y c g0 g1 hc;obtain⟨d,rfl⟩:∃d:UInt32,r=d.toNat:=⟨UInt32.ofNat r,(bQ hxb).symm⟩;have HST:Hid (Na.val (l.take (i+1))+Na.B^(i+1)*c'=Na.val (out++[d])+Na.val (m.take (i+1))):=by
    show _=_;have h1:=nY.out;rw[T0.out,T1.out,Na.jo,HOL.out,aoF];have h2:Na.B^i*(x+Na.B*c')=Na.B^i*(d.toNat+y+c):=by rw[hu']
    rw[aos,aos,aos,←aoI]at h2;omega
   obtain⟨⟨cv,hcell⟩,hfz⟩:=qV HW.out i hlt;have hst:=HW.out.stored i (aY d);have hse:((out++List.replicate (k'+1) 0).map aY).set i (aY d)=((out++[d])++List.replicate k' 0).map aY:=by rw[←apv,←HOL.out,set_mid]
   rw[hse]at hst;have HS:=anU hst;clear d0 d1 t0 t1 hst hse hu' hxb;go_wp2_with fail
   refine D0.out.mono ?_;rintro e w' ⟨rfl,rfl⟩;go_wp2_with fail
   refine D1.out.mono ?_;rintro e w' ⟨rfl,rfl⟩;go_wp2_with fail
   go_roundw
   case rel =>
    exact⟨i+1,c',k',out++[d],by have:=HIK.out; omega,by go_num,rfl,abW,by simp[HOL.out],HST.out,HS.out.1,hbel.setCell (p:=⟨w0.heap.size,i,none⟩) hsz0 _⟩
   case measure=>simp[intOf]; omega
  obtain rfl:i=M:=by omega
  obtain rfl:k=0:=by have:=HIK.out; omega
  have hrow:aF wr (.slice (some ⟨w0.heap.size,0,none⟩) i i) out:=by
   have:=HW.out;rw[ap0,ao6]at this;exact oJ HOL.out this
  have hv:Na.val out=Na.val l-Na.val m:=by
   have h1:=nY.out;rw[HE.out.1,HE.out.2.1]at h1;have h2:=Na.fB out;rw[HOL.out]at h2;exact Vg h1 HLE.out h2
  have hs:=short_any _ _ _ hrow;rw[hv]at hs;have HS:=anU hs;clear hs hrow hv;go_wp2_with fail
  refine HS.out.mono ?_;rintro e w' ⟨a',rfl,hr,rfl⟩;have HR:=anU hr;clear hr;go_wp2_with fail
  go_ret2
  exact⟨_,rfl,HR.out,hbel⟩
end
end Go.Proofs.YtapmgonflgahbaaGreatDoor
