/- Plain laws of multiplication by digits. Walks of package -/
import Derived.Test.YtapmgonflgahbaaGreatDoorRefNat
import Derived.Outline
set_option linter.unusedVariables false
section
namespace Na
theorem Xd(l:List UInt32):∀(j:Nat) (d:UInt32),j<l.length→val (l.set j d)+B^j*(l.getD j 0).toNat=val l+B^j*d.toNat:=by
 induction l with
 | nil=>intro j d h; simp at h
 | cons c l ih =>
  intro j d h;cases j with
  | zero=>simp[val]; omega
  | succ j =>
   have h1:=ih j d (by simpa using h);have e1:(c::l).getD (j+1) 0=l.getD j 0:=by simp[List.getD]
   rw[e1,List.set_cons_succ];simp only[val,awW];rw[awX (B^j) B,aw0,aw0];have h2:B*(val (l.set j d)+B^j*(l.getD j 0).toNat)=B*(val l+B^j*d.toNat):=by rw[h1]
   rw[awH,awH]at h2;omega
theorem adi{out:List UInt32}{j c n A t:Nat}(hj:j<out.length)(hv:val out+B^j*c=A)(hn:n=t+(out.getD j 0).toNat+c) :
  val (out.set j (UInt32.ofNat n))+B^(j+1)*(n/B)=A+B^j*t:=by
 have h1:=Xd out j (UInt32.ofNat n) hj;rw[dg]at h1;have h2:=axK n B;have h3:B^j*(n%B)+B^(j+1)*(n/B)=B^j*n:=by rw[awW,aw0,←awH,h2]
 have h4:B^j*n=B^j*t+B^j*(out.getD j 0).toNat+B^j*c:=by rw[hn,awH,awH]
 omega
theorem afz{out:List UInt32}{j c A:Nat}(hj:j<out.length)(hv:val out+B^j*c=A)(h0:out.getD j 0=0)(hc:c<B):val (out.set j (UInt32.ofNat c))=A:=by
 have h1:=Xd out j (UInt32.ofNat c) hj;rw[dg,h0,axZ hc]at h1;simp at h1;omega
theorem Ku{out:List UInt32}{j k:Nat}{d:UInt32}(h:j<k):(out.set j d).getD k 0=out.getD k 0:=by
 simp only[List.getD,List.getElem?_set];rw[awj (by omega)]
end Na
namespace Na
theorem afA{O x V y:Nat}(i k:Nat):O+B^i*(x*V)+B^(i+k)*(x*y)=O+B^i*(x*(V+B^k*y)):=by
 rw[ax3,awH x,awH (B^i),aw0 (B^i),Nat.mul_left_comm x (B^k)];omega
theorem adk{V x W:Nat}(i:Nat):V*W+B^i*(x*W)=(V+B^i*x)*W:=by rw[axH,aw0]
def Clear(j:Nat)(l:List UInt32):Prop:=∀i,j≤i→l.getD i 0=0
theorem Clear.set{j k:Nat}{l:List UInt32}{d:UInt32}(h:Clear j l)(hk:k<j):Clear j (l.set k d):=fun i hi=>by rw[Ku (by omega)]; exact h i hi
theorem Clear.ajq{j:Nat}{l:List UInt32}{d:UInt32}(h:Clear j l):Clear (j+1) (l.set j d):=fun i hi=>by rw[Ku (by omega)]; exact h i (by omega)
theorem Clear.mono{j k:Nat}{l:List UInt32}(h:Clear j l)(hk:j≤k):Clear k l:=fun i hi=>h i (by omega)
theorem Zp(n:Nat):Clear 0 (List.replicate n 0):=fun i _=>by
 simp only[List.getD,List.getElem?_replicate]; split<;>rfl
end Na
end
namespace Go.Proofs.YtapmgonflgahbaaGreatDoor
section
open Go.RowKit
variable{α:Type}
theorem adl{x y o c:Nat}(hx:x<4294967296)(hy:y<4294967296)(ho:o<4294967296)(hc:c<4294967296):∃t s n:Nat,t=x*y∧s=t+o∧n=s+c ∧
  IntKind.u64.wrap ((x:Int)*(y:Int))=(t:Int)∧IntKind.u64.wrap ((t:Int)+(o:Int))=(s:Int)∧IntKind.u64.wrap ((c:Int)+(s:Int))=(n:Int)∧n<18446744073709551616:=by
 have hqb:x*y≤4294967295*4294967295:=axT (by omega) (by omega);refine⟨x*y,x*y+o,x*y+o+c,rfl,rfl,rfl,OZ hx hy,?_,?_,by omega⟩
 ·rw[←gY (x*y+o) (by omega)]; simp
 rw[←gY (x*y+o+c) (by omega)]; congr 1; omega
set_option maxRecDepth 100000 in
set_option maxHeartbeats 1600000 in
theorem Tv(v u:Value)(l m:List UInt32)(w:World)(hv:aB w v l)(hu:aB w u m)(hl:l.length≤50000000)(hm:m.length≤50000000) :
  Calls Tryz.prog 295 #[v,u] w fun e w'=>∃a,e = .returned (.slice a (Na.ak (Na.val l*Na.val m)).length (Na.ak (Na.val l*Na.val m)).length) ∧
   aB w' (.slice a (Na.ak (Na.val l*Na.val m)).length (Na.ak (Na.val l*Na.val m)).length) (Na.ak (Na.val l*Na.val m))∧Ext w w':=by
 have hd1:=bT l;have hd2:=bT m;have e1:=Na.aC (Na.val l);have e2:=Na.aC (Na.val m);have S1:=awf (short_any v l w hv);have S2:=awf (short_any u m w hu);obtain⟨a1,c1,rfl⟩:=hv.shape;obtain⟨a2,c2,rfl⟩:=hu.shape;clear hv hu;rw[←e1,←e2];generalize Na.ak (Na.val l)=X at *;generalize Na.ak (Na.val m)=Y at *;have hX:X.length≤50000000:=by omega
 have hY:Y.length≤50000000:=by omega
 obtain⟨N,hN⟩:∃N,N=X.length+Y.length:=⟨_,rfl⟩;have hNN:((X.length:Int)+(Y.length:Int))=(N:Int):=by omega
 have hN1:N≤100000000:=by omega
 have h63:N≤maxLen:=by unfold maxLen; omega
 have hby:4*N≤281474976710656:=by omega
 have HN:=awf hN;clear hN e1 e2 hd1 hd2 hl hm;go_enter Tryz.func295,Tryz.ntmps295
 go_wp2_with fail
 go_step3
 go_wp2_with fail
 refine S1.out.mono ?_;rintro e w' ⟨b1,rfl,h1,rfl⟩;have H1:=awf h1;clear h1 S1;go_wp2_with fail
 refine S2.out.mono ?_;rintro e w' ⟨b2,rfl,h2,rfl⟩;have H2:=awf h2;clear h2 S2;go_wp2_with (at_make; refine wpList_make_row rfl _ _ _ rfl nJ rfl w.heap.size N rfl rfl rfl hby h63 (awm _) ?_; intro w1 hown hg)
 have hb1:=fV (awD w.heap.size w) hg (awm _);clear hg;have HO:=awf hown;clear hown hNN;try go_step3
 go_wp2_with fail
 go_loopw [23] (fun iv wr=>∃(i:Nat) (out:List UInt32),i≤X.length∧iv = .i i∧out.length=N∧Na.val out=Na.val (X.take i)*Na.val Y∧Na.Clear (i+Y.length) out ∧
  wr.ownsRow w.heap.size 66 1 (.slice (some ⟨w.heap.size,0,none⟩) N N) N (out.map aX)∧Ext w wr) (fun iv _=>X.length-(intOf iv).toNat)
 case atStart=>exact⟨0,List.replicate N 0,awt _,rfl,by simp,by rw[Na.JA]; simp[Na.val],(Na.Zp N).mono (awt _),by simpa[aX]using HO.out,hb1⟩
 case round =>
  obtain⟨i,out,hi,rfl,hol,hval,anw,hown,hbel⟩:=hrel;have HOL:=awf hol;have qE:=awf hval;have HW:=awf hown;have HC:=awf anw;have HB:=awf hbel;clear hol hval hown anw HO hbel;by_cases hlt:i<X.length
  ·obtain⟨bx,ox,cx,hxs,hbx,hlx,hmx,hcx⟩:=cZ H1.out rfl (by omega);simp only[aw1]at hxs;obtain⟨rfl,-,-⟩:=hxs;have hck:wr.cell? ⟨bx,ox+i,none⟩=some (aX X[i]):=by rw[HB.out.cell (p:=⟨bx,ox+i,none⟩) hbx]; exact hcx i hlt
   have T0:=awf (Na.bY X i hlt);generalize X[i]=x at *;have g0:=x.toNat_lt;have x0:=gB x;clear hcx;by_cases hz:x.toNat=0
   ·have hzb:((x.toNat:Int)==0)=true:=by rw[awE]; omega
    have HZ:=awf hz;clear hz;go_wp2_with fail
    go_roundw
    case rel =>
     refine⟨i+1,out,by omega,by go_num,HOL.out,?_,HC.out.mono (by omega),HW.out,HB.out⟩;rw[qE.out,T0.out,HZ.out]; simp
    case measure=>simp[intOf]; omega
   have hzb:((x.toNat:Int)==0)=false:=by rw[awI]; omega
   obtain⟨wo,rfl⟩:∃wo:World,wo=wr:=⟨_,rfl⟩;clear hz;go_wp2_with fail
   clear hck hzb;go_loopw [8,32] (fun cv kv wr=>∃(k c:Nat) (o2:List UInt32),k≤Y.length∧kv = .i k∧cv = .int .u64 c∧c<4294967296∧o2.length=N∧Na.val o2+Na.B^(i+k)*c=Na.val out+Na.B^i*(x.toNat*Na.val (Y.take k)) ∧
    Na.Clear (i+Y.length) o2∧wr.ownsRow w.heap.size 66 1 (.slice (some ⟨w.heap.size,0,none⟩) N N) N (o2.map aX)∧Ext w wr) (fun _ kv _=>Y.length-(intOf kv).toNat)
   case atStart=>exact⟨0,0,out,awt _,rfl,rfl,by omega,HOL.out,by simp[Na.val],HC.out,HW.out,HB.out⟩
   case round =>
    obtain⟨k,c,o2,hk,rfl,rfl,hc,anx,agM,agN,hown2,agO⟩:=hrel;have afB:=awf anx;have adn:=awf agM;have HW2:=awf hown2;have HC2:=awf agN;have HB2:=awf agO;have hNi:i+Y.length<N:=by have:=HN.out; omega
    clear anx agM hown2 agN agO HW HC HB HOL;by_cases hkl:k<Y.length
    ·obtain⟨by',oy,cy,hys,ar8,hly,hmy,hcy⟩:=cZ H2.out rfl (by omega);simp only[aw1]at hys;obtain⟨rfl,-,-⟩:=hys;have hcl:wr.cell? ⟨by',oy+k,none⟩=some (aX Y[k]):=by rw[HB2.out.cell (p:=⟨by',oy+k,none⟩) ar8]; exact hcy k hkl
     have T1:=awf (Na.bY Y k hkl);generalize Y[k]=y at *;have ar9:i+k<N:=by omega
     have ado:i+k<o2.length:=by rw[afB.out]; exact ar9
     have hco:=HW2.out.cellAt (i+k) (by omega);rw[List.getElem?_map,List.getElem?_eq_getElem ado,aw5]at hco;have hog:o2.getD (i+k) 0=o2[i+k]:=by simp[List.getD,List.getElem?_eq_getElem ado]
     have hfz:=HW2.out.frozenAt (i+k);generalize o2[i+k]=o at *;have g1:=y.toNat_lt;have g2:=o.toNat_lt;have y0:=gB y;have o0:=gB o;obtain⟨t,s,n,ht,hs,hn,hmul,hs1,hs2,hnb⟩:=adl g0 g1 g2 hc;have HST:=awf (Na.adi (t:=t) ado adn.out (show n=t+(o2.getD (i+k) 0).toNat+c by rw[hog]; omega));rw[ht]at HST;have hmod:(n:Int)%4294967296=((UInt32.ofNat n).toNat:Int):=dgI n;have hdiv:(n:Int)/4294967296=((n/Na.B:Nat):Int):=dvI n;have hc':n/Na.B<4294967296:=ayj hnb;generalize hq:n/Na.B=c' at *;obtain⟨d,hd⟩:∃d,UInt32.ofNat n=d:=⟨_,rfl⟩;rw[hd]at hmod HST;have hst:=HW2.out.stored (i+k) (aX d);rw[←axU]at hst;have HS:=awf hst;clear hcy hst hog ht hs hn hq hd hnb HW2 adn;go_wp2_with fail
     go_roundw
     case rel =>
      refine⟨k+1,c',o2.set (i+k) d,by omega,by go_num,rfl,hc',by rw[List.length_set]; exact afB.out,?_,HC2.out.set (by omega),HS.out.1,HB2.out.setCell (p:=⟨w.heap.size,i+k,none⟩) (awm _) _⟩;rw[←ayh,HST.out,T1.out,Na.afA]
     case measure=>simp[intOf]; omega
    obtain rfl:k=Y.length:=by omega
    have ado:i+Y.length<o2.length:=by rw[afB.out]; exact hNi
    have HST:=awf (Na.afz ado adn.out (HC2.out _ (awm _)) hc);obtain⟨d,rfl⟩:∃d:UInt32,c=d.toNat:=⟨UInt32.ofNat c,(bK hc).symm⟩;rw[show UInt32.ofNat d.toNat=d by simp]at HST;obtain⟨⟨cv,hcell⟩,hfz⟩:=rQ HW2.out (i+Y.length) hNi;have hst:=HW2.out.stored (i+Y.length) (aX d);rw[←axU]at hst;have HS:=awf hst;clear hst;go_wp2_with fail
    go_roundw
    case rel =>
     refine⟨i+1,o2.set (i+Y.length) d,by omega,by go_num,by rw[List.length_set]; exact afB.out,?_,by rw[show i+1+Y.length=i+Y.length+1 by omega]; exact HC2.out.ajq,HS.out.1,HB2.out.setCell (p:=⟨w.heap.size,i+Y.length,none⟩) (awm _) _⟩;rw[HST.out,qE.out,axa,Na.adk,T0.out]
    case measure=>simp[intOf]; omega
  obtain rfl:i=X.length:=by omega
  have hs:=short_any _ _ _ (pX HOL.out HW.out);rw[qE.out,axa]at hs;have HS:=awf hs;clear hs;go_wp2_with fail
  refine HS.out.mono ?_;rintro e w' ⟨a',rfl,hr,rfl⟩;have HR:=awf hr;clear hr;go_wp2_with fail
  try rw[Exit.noGoto_ret]
  go_ret
  exact⟨_,rfl,HR.out,HB.out⟩
end
section
set_option maxHeartbeats 1600000
set_option maxRecDepth 100000
open Go.RowKit
variable{α:Type}
theorem set_mid(out:List α)(k:Nat)(z x:α):(out++List.replicate (k+1) z).set out.length x=(out++[x])++List.replicate k z:=by
 rw[List.set_append_right _ _ (awm _),ayq,ayl,ayM,awF]; rfl
theorem TA(v u:Value)(l m:List UInt32)(w:World)(hv:aB w v l)(hu:aB w u m)(hl:l.length≤100000000)(hm:m.length≤100000000) :
  Calls Tryz.prog 332 #[v,u] w fun e w'=>∃a,e = .returned (.slice a (Na.ak (Na.val l+Na.val m)).length (Na.ak (Na.val l+Na.val m)).length) ∧
   aB w' (.slice a (Na.ak (Na.val l+Na.val m)).length (Na.ak (Na.val l+Na.val m)).length) (Na.ak (Na.val l+Na.val m))∧Ext w w':=by
 have HV:=awf hv;have HU:=awf hu;obtain⟨a1,c1,rfl⟩:=hv.shape;obtain⟨a2,c2,rfl⟩:=hu.shape;clear hv hu;obtain⟨M,hM⟩:∃M,M=max l.length m.length:=⟨_,rfl⟩;have hmax:max (l.length:Int) (m.length:Int)=(M:Int):=by omega
 obtain⟨N,hN⟩:∃N,N=M+1:=⟨_,rfl⟩;have hMN:(M:Int)+1=(N:Int):=by omega
 have hM1:N≤100000001:=by omega
 have HE:Hid (Na.val (l.take N)=Na.val l∧Na.val (m.take N)=Na.val m∧Na.val l+Na.val m<Na.B^N):=by
  refine⟨by rw[awP (by omega)],by rw[awP (by omega)],?_⟩;rw[hN];have h1:=Na.dP l;have h2:=Na.dP m;have h3:Na.B^l.length≤Na.B^M:=axf (by decide) (by omega);have h4:Na.B^m.length≤Na.B^M:=axf (by decide) (by omega);have h6:Na.B^M*2≤Na.B^M*Na.B:=awZ _ (by decide);rw[awW];generalize Na.B^M*Na.B=q at *;generalize Na.B^M=p at *;omega
 have h63:N≤maxLen:=by unfold maxLen; omega
 have hby:4*N≤281474976710656:=by omega
 clear hM hN;go_enter Tryz.func332,Tryz.ntmps332
 go_wp2_with (at_make; refine wpList_make_row rfl _ _ _ rfl nJ rfl w.heap.size N rfl rfl rfl hby h63 (awm _) ?_; intro w1 hown hg)
 clear hmax hMN;have hb1:=fV (awD w.heap.size w) hg (awm _);clear hg;have HO:=awf hown;clear hown;go_loopw [6,17] (fun cv iv wr=>∃(i c k:Nat) (out:List UInt32),i+k=N∧iv = .i i∧cv = .int .u64 c∧c≤1∧out.length=i∧Na.val out+Na.B^i*c=Na.val (l.take i)+Na.val (m.take i) ∧
  wr.ownsRow w.heap.size 66 1 (.slice (some ⟨w.heap.size,0,none⟩) N N) N ((out++List.replicate k 0).map aX)∧Ext w wr) (fun _ iv _=>N-(intOf iv).toNat)
 case atStart=>exact⟨0,0,N,[],by omega,rfl,rfl,by omega,rfl,by simp[Na.val],by simpa[aX]using HO.out,hb1⟩
 case round =>
  obtain⟨i,c,k,out,hik,rfl,rfl,hc,hol,hval,hown,hbel⟩:=hrel;have HOL:=awf hol;have qE:=awf hval;have HW:=awf hown;have hiM:i≤N:=by omega
  have HIK:=awf hik;clear hol hval hown HO hik;by_cases hlt:i<N
  ·obtain⟨k',rfl⟩:∃k',k=k'+1:=⟨k-1,by have:=HIK.out; omega⟩;have d0:=qH _ l i wr (HV.out.below hbel) (by omega);have d1:=qH _ m i wr (HU.out.below hbel) (by omega);have g0:=(l.getD i 0).toNat_lt;have g1:=(m.getD i 0).toNat_lt;have t0:=Na.jS l i;have t1:=Na.jS m i;generalize (l.getD i 0).toNat=x at *;generalize (m.getD i 0).toNat=y at *;have D0:=awf d0;have D1:=awf d1;have T0:=awf t0;have T1:=awf t1;obtain⟨n,hn⟩:∃n,n=x+y+c:=⟨_,rfl⟩;have hmod:((c:Int)+((x:Int)+y))%4294967296=((UInt32.ofNat n).toNat:Int):=by
    rw[show(c:Int)+((x:Int)+y)=(n:Int) by omega,dgI]
   have hdiv:((c:Int)+((x:Int)+y))/4294967296=((n/Na.B:Nat):Int):=by
    rw[show(c:Int)+((x:Int)+y)=(n:Int) by omega,dvI]
   have hc':n/Na.B≤1:=by rw[hn,adq]; omega
   have HST:=awf (Na.step_up HOL.out qE.out hn);generalize hq:n/Na.B=c' at *;obtain⟨d,hd⟩:∃d,UInt32.ofNat n=d:=⟨_,rfl⟩;rw[hd]at hmod HST;obtain⟨⟨cv,hcell⟩,hfz⟩:=rQ HW.out i hlt;have hst:=HW.out.stored i (aX d);have hse:((out++List.replicate (k'+1) 0).map aX).set i (aX d)=((out++[d])++List.replicate k' 0).map aX:=by rw[←axU,←HOL.out,set_mid]
   rw[hse]at hst;have HS:=awf hst;clear d0 d1 t0 t1 hn hq hd hst hse;go_wp2_with fail
   refine D0.out.mono ?_;rintro e w' ⟨rfl,rfl⟩;go_wp2_with fail
   refine D1.out.mono ?_;rintro e w' ⟨rfl,rfl⟩;go_wp2_with fail
   go_roundw
   case rel =>
    refine⟨i+1,c',k',out++[d],by have:=HIK.out; omega,by go_num,rfl,hc',by simp[HOL.out],?_,HS.out.1,hbel.setCell (p:=⟨w.heap.size,i,none⟩) (awm _) _⟩;rw[HST.out,T0.out,T1.out,awH]; omega
   case measure=>simp[intOf]; omega
  obtain rfl:i=N:=by omega
  obtain rfl:k=0:=by have:=HIK.out; omega
  have hrow:aB wr (.slice (some ⟨w.heap.size,0,none⟩) i i) out:=by
   have:=HW.out;rw[ayt,axt]at this;exact pX HOL.out this
  have hv:Na.val out=Na.val l+Na.val m:=by
   have h1:=qE.out;rw[HE.out.1,HE.out.2.1]at h1;have h2:=HE.out.2.2;have h3:c=0:=by
    rcases awY c with h | h
    ·exact h
    have:=awZ (Na.B^i) h;omega
   rw[h3]at h1;omega
  have hs:=short_any _ _ _ hrow;rw[hv]at hs;have HS:=awf hs;clear hs hrow hv;go_wp2_with fail
  refine HS.out.mono ?_;rintro e w' ⟨a',rfl,hr,rfl⟩;have HR:=awf hr;clear hr;go_wp2_with fail
  go_ret
  exact⟨_,rfl,HR.out,hbel⟩
theorem X9(v u:Value)(l m:List UInt32)(w:World)(hv:aB w v l)(hu:aB w u m)(hlt:Na.val l<Na.val m) :
  Calls Tryz.prog 333 #[v,u] w fun e w'=>e = .returned (.tuple #[.sn,.z])∧Ext w w':=by
 have hc:=AL v u l m w hv hu;rw[AB hlt]at hc;have HC:=awf hc;obtain⟨a1,c1,rfl⟩:=hv.shape;obtain⟨a2,c2,rfl⟩:=hu.shape;clear hc hv hu hlt;go_enter Tryz.func333,Tryz.ntmps333
 go_wp2_with fail
 refine HC.out.mono ?_;rintro e w' ⟨rfl,hb⟩;have HB:=awf hb;clear hb;go_wp2_with fail
 go_ret2
 exact⟨rfl,HB.out⟩
theorem X7(v u:Value)(l m:List UInt32)(w:World)(hv:aB w v l)(hu:aB w u m)(hl:l.length≤100000000)(hle:Na.val m≤Na.val l) :
  Calls Tryz.prog 333 #[v,u] w fun e w'=>∃a,e = .returned (.tuple #[.slice a (Na.ak (Na.val l-Na.val m)).length (Na.ak (Na.val l-Na.val m)).length,.bool true]) ∧
   aB w' (.slice a (Na.ak (Na.val l-Na.val m)).length (Na.ak (Na.val l-Na.val m)).length) (Na.ak (Na.val l-Na.val m))∧Ext w w':=by
 have HCM:=awf (AL v u l m w hv hu);have hcn:=xA hle;have hdl:=bT l;have HV:=awf hv;have HU:=awf hu;obtain⟨a1,c1,rfl⟩:=hv.shape;obtain⟨a2,c2,rfl⟩:=hu.shape;clear hv hu;obtain⟨M,hM⟩:∃M,M=(Na.ak (Na.val l)).length:=⟨_,rfl⟩;have HE:Hid (Na.val (l.take M)=Na.val l∧Na.val (m.take M)=Na.val m∧Na.val l<Na.B^M):=by
  have h1:Na.val l<Na.B^M:=by
   have:=Na.dP (Na.ak (Na.val l));rw[Na.aC,←hM]at this; exact this
  exact⟨Na.vO h1,Na.vO (by omega),h1⟩
 have HLE:=awf hle;have HM:=awf hM;have hM1:M≤100000000:=by omega
 have h63:M≤maxLen:=by unfold maxLen; omega
 have hby:4*M≤281474976710656:=by omega
 generalize rO (Na.val l) (Na.val m)=cc at *;clear hM hle hdl;go_enter Tryz.func333,Tryz.ntmps333
 go_wp2_with fail
 refine HCM.out.mono ?_;rintro e w0 ⟨rfl,hb0⟩;have HB0:=awf hb0;have hsh:=short_any _ l w0 (HV.out.below hb0);rw[←HM.out]at hsh;have HSH:=awf hsh;clear hsh hb0;go_wp2_with fail
 refine HSH.out.mono ?_;rintro e w' ⟨aa,rfl,-,rfl⟩;go_wp2_with (at_make; refine wpList_make_row rfl _ _ _ rfl nJ rfl w0.heap.size M rfl rfl rfl hby h63 (awm _) ?_; intro w1 hown hg)
 have hb1:=Ext.trans' HB0.out (fV (awD w0.heap.size w0) hg (awm _));have hsz0:=HB0.out.size;clear hg;have HO:=awf hown;clear hown;go_loopw [7,20] (fun cv iv wr=>∃(i c k:Nat) (out:List UInt32),i+k=M∧iv = .i i∧cv = .int .u64 c∧c≤1∧out.length=i∧Na.val (l.take i)+Na.B^i*c=Na.val out+Na.val (m.take i) ∧
  wr.ownsRow w0.heap.size 66 1 (.slice (some ⟨w0.heap.size,0,none⟩) M M) M ((out++List.replicate k 0).map aX)∧Ext w wr) (fun _ iv _=>M-(intOf iv).toNat)
 case atStart=>exact⟨0,0,M,[],by omega,rfl,rfl,by omega,rfl,by simp[Na.val],by simpa[aX]using HO.out,hb1⟩
 case round =>
  obtain⟨i,c,k,out,hik,rfl,rfl,hc,hol,hval,hown,hbel⟩:=hrel;have HOL:=awf hol;have qE:=awf hval;have HW:=awf hown;have hiM:i≤M:=by omega
  have HIK:=awf hik;clear hol hval hown HO hik;by_cases hlt:i<M
  ·obtain⟨k',rfl⟩:∃k',k=k'+1:=⟨k-1,by have:=HIK.out; omega⟩;have d0:=qH _ l i wr (HV.out.below hbel) (by omega);have d1:=qH _ m i wr (HU.out.below hbel) (by omega);have g0:=(l.getD i 0).toNat_lt;have g1:=(m.getD i 0).toNat_lt;have t0:=Na.jS l i;have t1:=Na.jS m i;generalize (l.getD i 0).toNat=x at *;generalize (m.getD i 0).toNat=y at *;have D0:=awf d0;have D1:=awf d1;have T0:=awf t0;have T1:=awf t1;obtain⟨Z,r,c',hZ,hr,hb',aeE,hxb,hu'⟩:=FZ x y c g0 g1 hc;obtain⟨d,rfl⟩:∃d:UInt32,r=d.toNat:=⟨UInt32.ofNat r,(bK hxb).symm⟩;have HST:Hid (Na.val (l.take (i+1))+Na.B^(i+1)*c'=Na.val (out++[d])+Na.val (m.take (i+1))):=by
    show _=_;have h1:=qE.out;rw[T0.out,T1.out,Na.jA,HOL.out,awW];have h2:Na.B^i*(x+Na.B*c')=Na.B^i*(d.toNat+y+c):=by rw[hu']
    rw[awH,awH,awH,←aw0]at h2;omega
   obtain⟨⟨cv,hcell⟩,hfz⟩:=rQ HW.out i hlt;have hst:=HW.out.stored i (aX d);have hse:((out++List.replicate (k'+1) 0).map aX).set i (aX d)=((out++[d])++List.replicate k' 0).map aX:=by rw[←axU,←HOL.out,set_mid]
   rw[hse]at hst;have HS:=awf hst;clear d0 d1 t0 t1 hst hse hu' hxb;go_wp2_with fail
   refine D0.out.mono ?_;rintro e w' ⟨rfl,rfl⟩;go_wp2_with fail
   refine D1.out.mono ?_;rintro e w' ⟨rfl,rfl⟩;go_wp2_with fail
   go_roundw
   case rel =>
    exact⟨i+1,c',k',out++[d],by have:=HIK.out; omega,by go_num,rfl,aeE,by simp[HOL.out],HST.out,HS.out.1,hbel.setCell (p:=⟨w0.heap.size,i,none⟩) hsz0 _⟩
   case measure=>simp[intOf]; omega
  obtain rfl:i=M:=by omega
  obtain rfl:k=0:=by have:=HIK.out; omega
  have hrow:aB wr (.slice (some ⟨w0.heap.size,0,none⟩) i i) out:=by
   have:=HW.out;rw[ayt,axt]at this;exact pX HOL.out this
  have hv:Na.val out=Na.val l-Na.val m:=by
   have h1:=qE.out;rw[HE.out.1,HE.out.2.1]at h1;have h2:=Na.dP out;rw[HOL.out]at h2;exact Xe h1 HLE.out h2
  have hs:=short_any _ _ _ hrow;rw[hv]at hs;have HS:=awf hs;clear hs hrow hv;go_wp2_with fail
  refine HS.out.mono ?_;rintro e w' ⟨a',rfl,hr,rfl⟩;have HR:=awf hr;clear hr;go_wp2_with fail
  go_ret2
  exact⟨_,rfl,HR.out,hbel⟩
end
end Go.Proofs.YtapmgonflgahbaaGreatDoor
