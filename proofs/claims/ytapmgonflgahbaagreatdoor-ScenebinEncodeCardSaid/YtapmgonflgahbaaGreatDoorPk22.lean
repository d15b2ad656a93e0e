/- Walk of the reference on natural numbers: Mul. Walks of -/
import Derived.IntWalk
import Derived.Test.YtapmgonflgahbaaGreatDoorIntW
set_option linter.unusedVariables false
namespace Go.Proofs.YtapmgonflgahbaaGreatDoor
open _root_.Go.Proofs.Tryz
section
set_option maxHeartbeats 1600000
set_option maxRecDepth 100000
open Go.RowKit
variable{α:Type}
theorem RN(v u:Value)(l m:List UInt32)(w:World)(hv:aF w v l)(hu:aF w u m)(hl:l.length≤50000000)(hm:m.length≤50000000) :
  Calls prog 261 #[v,u] w fun e w'=>∃v',e = .returned v'∧Ej w.heap.size w' v' (Na.aj (Na.val l*Na.val m))∧Ext w w':=by
 have H1:=anU hv;have H2:=anU hu;obtain⟨a1,c1,rfl⟩:=hv.shape;obtain⟨a2,c2,rfl⟩:=hu.shape;clear hv hu;obtain⟨N,hN⟩:∃N,N=l.length+m.length+1:=⟨_,rfl⟩;have hNN:((l.length:Int)+(m.length:Int)+1)=(N:Int):=by omega
 have hN1:N≤100000001:=by omega
 have h63:N≤maxLen:=by unfold maxLen; omega
 have hby:4*N≤281474976710656:=by omega
 have HN:=anU hN;clear hN;go_enter func261,ntmps261
 go_wp2_with (at_make; refine wpList_make_row rfl _ _ _ rfl lX rfl w.heap.size N rfl rfl rfl hby h63 (an7 _) ?_; intro w1 hown hg)
 have hb1:=iG (aor w.heap.size w) hg (an7 _);clear hg;have HO:=anU hown;clear hown hNN;go_loopw [6] (fun iv wr=>∃(i:Nat) (out:List UInt32),i≤l.length∧iv = .i i∧out.length=N∧Na.val out=Na.val (l.take i)*Na.val m∧Na.Clear (i+m.length) out ∧
  wr.ownsRow w.heap.size 66 1 (.slice (some ⟨w.heap.size,0,none⟩) N N) N (out.map aY)∧Ext w wr) (fun iv _=>l.length-(intOf iv).toNat)
 case atStart=>exact⟨0,List.replicate N 0,aoa _,rfl,by simp,by rw[Na.Jj]; simp[Na.val],(Na.Jw N).mono (aoa _),by simpa[aY]using HO.out,hb1⟩
 case round =>
  obtain⟨i,out,hi,rfl,hol,hval,aaf,hown,hbel⟩:=hrel;have HOL:=anU hol;have nY:=anU hval;have HW:=anU hown;have HC:=anU aaf;have HB:=anU hbel;clear hol hval hown aaf HO hbel;by_cases hlt:i<l.length
  ·obtain⟨wo,rfl⟩:∃wo:World,wo=wr:=⟨_,rfl⟩;obtain⟨bx,ox,cx,hxs,hbx,hlx,hmx,hcx⟩:=dK H1.out rfl (by omega);simp only[aoB]at hxs;obtain⟨rfl,-,-⟩:=hxs;have HCK:=anU (fun(wr:World) (h:Ext w wr)=>(h.cell (p:=⟨bx,ox+i,none⟩) hbx).trans (hcx i hlt));have T0:=anU (Na.bU l i hlt);clear hcx;generalize l[i]=x at *;have g0:=x.toNat_lt;have x0:=fO x;have hi1:(0:Int)≤(i:Int):=by omega
   have hi2:(i:Int)<(l.length:Int):=by omega
   go_wp2_with fail
   go_loopw [7,8] (fun cv kv wr=>∃(k c:Nat) (o2:List UInt32),k≤m.length∧kv = .i k∧cv = .int .u64 c∧c<4294967296∧o2.length=N∧Na.val o2+Na.B^(i+k)*c=Na.val out+Na.B^i*(x.toNat*Na.val (m.take k)) ∧
    Na.Clear (i+m.length) o2∧wr.ownsRow w.heap.size 66 1 (.slice (some ⟨w.heap.size,0,none⟩) N N) N (o2.map aY)∧Ext w wr) (fun _ kv _=>m.length-(intOf kv).toNat)
   case atStart=>exact⟨0,0,out,aoa _,rfl,rfl,by omega,HOL.out,by simp[Na.val],HC.out,HW.out,HB.out⟩
   case round =>
    obtain⟨k,c,o2,hk,rfl,rfl,hc,aag,OE,OG,hown2,OH⟩:=hrel;have KQ:=anU aag;have Gv:=anU OE;have HW2:=anU hown2;have HC2:=anU OG;have HB2:=anU OH;have hNi:i+m.length<N:=by have:=HN.out; omega
    clear aag OE hown2 OG OH HW HC HB HOL;by_cases hkl:k<m.length
    ·have hck:=HCK.out wr HB2.out;obtain⟨by',oy,cy,hys,aeN,hly,hmy,hcy⟩:=dK H2.out rfl (by omega);simp only[aoB]at hys;obtain⟨rfl,-,-⟩:=hys;have hcl:wr.cell? ⟨by',oy+k,none⟩=some (aY m[k]):=by rw[HB2.out.cell (p:=⟨by',oy+k,none⟩) aeN]; exact hcy k hkl
     have T1:=anU (Na.bU m k hkl);generalize m[k]=y at *;have aeO:i+k<N:=by omega
     have Gw:i+k<o2.length:=by rw[KQ.out]; exact aeO
     have hco:=HW2.out.cellAt (i+k) (by omega);rw[List.getElem?_map,List.getElem?_eq_getElem Gw,aoO]at hco;have hog:o2.getD (i+k) 0=o2[i+k]:=by simp[List.getD,List.getElem?_eq_getElem Gw]
     have hfz:=HW2.out.frozenAt (i+k);generalize o2[i+k]=o at *;have g1:=y.toNat_lt;have g2:=o.toNat_lt;have y0:=fO y;have o0:=fO o;obtain⟨t,s,n,ht,hs,hn,hmul,hs1,hs2,hnb⟩:=OI g0 g1 g2 hc;have hs3:IntKind.u64.wrap ((s:Int)+(c:Int))=(n:Int):=(an9 IntKind.u64.wrap (Int.add_comm _ _)).trans hs2;have HST:=anU (Na.OJ (t:=t) Gw Gv.out (show n=t+(o2.getD (i+k) 0).toNat+c by rw[hog]; omega));rw[ht]at HST;have hmod:(n:Int)%4294967296=((UInt32.ofNat n).toNat:Int):=dgI n;have hdiv:(n:Int)/4294967296=((n/Na.B:Nat):Int):=dvI n;have hc':n/Na.B<4294967296:=apF hnb;generalize hq:n/Na.B=c' at *;obtain⟨d,hd⟩:∃d,UInt32.ofNat n=d:=⟨_,rfl⟩;rw[hd]at hmod HST;have hk1:(0:Int)≤(k:Int):=by omega
     have hk2:(k:Int)<(m.length:Int):=by omega
     have aju:IntKind.i64.wrap ((i:Int)+(k:Int))=(i:Int)+(k:Int):=IntWalk.i64_in _ (by omega);have am3:(0:Int)≤(i:Int)+(k:Int):=by omega
     have am4:(i:Int)+(k:Int)<(N:Int):=by omega
     have am5:((i:Int)+(k:Int)).toNat=i+k:=by omega
     clear hcy hog ht hs hn hq hd hnb Gv;go_wp2_with fail
     go_quiet (fail)
     clear aju;go_wp2_with fail
     go_roundw
     case rel =>
      refine⟨k+1,c',o2.set (i+k) d,by omega,by go_num,rfl,hc',by rw[List.length_set]; exact KQ.out,?_,HC2.out.set (by omega),by rw[apv]; exact((aK HW2.out (below_drewN Ext.rfl' _)).stored (i+k) (aY d)).1,(below_drewN HB2.out _).setCell (p:=⟨w.heap.size,i+k,none⟩) (an7 _) _⟩;rw[←apG,HST.out,T1.out,Na.UL]
     case measure=>simp[intOf]; omega
    obtain rfl:k=m.length:=by omega
    have Gw:i+m.length<o2.length:=by rw[KQ.out]; exact hNi
    have HST:=anU (Na.UM Gw Gv.out (HC2.out _ (an7 _)) hc);obtain⟨d,rfl⟩:∃d:UInt32,c=d.toNat:=⟨UInt32.ofNat c,(bQ hc).symm⟩;rw[show UInt32.ofNat d.toNat=d by simp]at HST;obtain⟨⟨cv,hcell⟩,hfz⟩:=qV HW2.out (i+m.length) hNi;have hst:=HW2.out.stored (i+m.length) (aY d);rw[←apv]at hst;have HS:=anU hst;clear hst;go_wp2_with fail
    go_roundw
    case rel =>
     refine⟨i+1,o2.set (i+m.length) d,by omega,by go_num,by rw[List.length_set]; exact KQ.out,?_,by rw[show i+1+m.length=i+m.length+1 by omega]; exact HC2.out.aah,HS.out.1,HB2.out.setCell (p:=⟨w.heap.size,i+m.length,none⟩) (an7 _) _⟩;rw[HST.out,nY.out,aoQ,Na.OL,T0.out]
    case measure=>simp[intOf]; omega
  obtain rfl:i=l.length:=by omega
  have hs:=dI _ _ _ (oJ HOL.out HW.out) (by rw[HOL.out]; omega);rw[nY.out,aoQ]at hs;have HS:=anU hs;clear hs;go_wp2_with fail
  refine HS.out.mono ?_;rintro e w' ⟨v',rfl,hr,hb⟩;have HR:=anU (au hr HB.out.size);have HX:=anU (Ext.trans' HB.out hb);clear hr hb;go_wp2_with fail
  go_ret
  exact⟨_,rfl,HR.out,HX.out⟩
theorem Xe(v u:Value)(l m:List UInt32)(w:World)(hv:aF w v l)(hu:aF w u m)(hlt:Na.val l<Na.val m) :
  Calls prog 317 #[v,u] w fun e w'=>e = .returned (.tuple #[.sn,.z])∧Ext w w':=by
 have hc:=zZ v u l m w hv hu;rw[yh hlt]at hc;have HC:=anU hc;obtain⟨a1,c1,rfl⟩:=hv.shape;obtain⟨a2,c2,rfl⟩:=hu.shape;clear hc hv hu hlt;go_enter func317,ntmps317
 go_wp2_with fail
 refine HC.out.mono ?_;rintro e w' ⟨rfl,hb⟩;have HB:=anU hb;clear hb;go_wp2_with fail
 go_ret2
 exact⟨rfl,HB.out⟩
end
section
set_option maxHeartbeats 800000
set_option maxRecDepth 100000
open Go.RowKit
variable{α:Type}
theorem RP(v u:Value)(l m:List UInt32)(w:World)(hv:aF w v l)(hu:aF w u m)(hlen:l.length≤5000000)(hlen2:m.length≤5000000) :
  Calls prog 237 #[v,u] w fun e w'=>∃g,e = .returned g∧aF w' g (Na.aj (Nat.gcd (Na.val l) (Na.val m)))∧Ext w w':=by
 have C1:=anU (dI v l w hv (by omega));have hla:=bK l;have hlb:=bK m;go_enter func237,ntmps237
 go_wp2_with fail
 refine C1.out.mono ?_;rintro e w1 ⟨x,rfl,hx,hb1⟩;have hx:=aU hx;go_wp2_with fail
 refine(dI u m w1 (hu.below hb1) (by omega)).mono ?_;rintro e w2 ⟨y,rfl,hy,hb2⟩;have hy:=aU hy;have hx2:=hx.below hb2;have ael:=Ext.trans' hb1 hb2;clear hx C1 hv hu;have HX:=anU hx2;have HY:=anU hy;clear hx2 hy;go_wp2_with fail
 go_loopw [5,6,7,8,9] (fun x y _ _ _ wr=>∃(A B:Nat),aF wr x (Na.aj A)∧aF wr y (Na.aj B)∧Nat.gcd A B=Nat.gcd (Na.val l) (Na.val m)∧(Na.aj A).length≤5000000∧(Na.aj B).length≤5000000∧Ext w wr) (fun _ y _ _ _ wr=>valOf wr y)
 case atStart=>exact⟨(Na.val l),(Na.val m),HX.out,HY.out,rfl,by omega,by omega,ael⟩
 case round =>
  obtain⟨A,B,hx,hy,hg,hlA,hlB,hbel⟩:=hrel;have HM:=anU (AV hy);have HG:=anU hg;have HX:=anU hx;have HY:=anU hy;clear hg hx hy;obtain⟨ay,cy,rfl⟩:=HY.out.shape;rcases aoJ B with rfl | hB
  ·have h0:((Na.aj 0).length:Int)=0:=by rw[Na.lq.2 rfl]; rfl
   go_wp2_with fail
   go_ret
   refine⟨_,rfl,?_,hbel⟩;rw[←HG.out,Nat.gcd_zero_right];exact HX.out
  have h0:(0:Int)<((Na.aj B).length:Int):=by
   have:(Na.aj B).length≠0:=fun h=>by have:=uH h; omega
   omega
  have hD:=y7 _ _ _ _ wr HX.out HY.out (by rw[Na.aJ]; exact hB) hlA hlB;rw[Na.aJ,Na.aJ]at hD;have HD:=anU hD;clear hD;go_wp2_with fail
  refine HD.out.mono ?_;rintro e w' ⟨q,r,rfl,hq,hr,hb⟩;have HR:=anU (aU hr);have HY':=anU (HY.out.below hb);clear hq hr;go_wp2_with fail
  go_roundw
  case rel =>
   refine⟨B,A%B,HY'.out,HR.out,?_,hlB,?_,Ext.trans' hbel hb⟩
   ·rw[←HG.out,Nat.gcd_comm A B,Nat.gcd_rec B A,Nat.gcd_comm]
   exact aoE (fQ (Nat.le_of_lt (ao9 A hB))) hlB
  case measure =>
   rw[AV HR.out,HM.out,Na.aJ,Na.aJ];exact ao9 _ hB
theorem sH(neg:Bool)(v:Value)(l:List UInt32)(w:World)(hv:aF w v l)(hlen:l.length≤1000000000) :
  Calls prog 236 #[.bool neg,v] w fun e w'=>∃x,e = .returned x∧aH w.heap.size w' x (neg&&decide (0<Na.val l)) (Na.val l)∧Ext w w':=by
 have hb1:=aG w (.cells #[.z,.sn] 29);have HC:=anU (dI v l _ (hv.below hb1) hlen);have hpos:Hid (decide ((0:Int)<((Na.aj (Na.val l)).length:Int))=decide (0<Na.val l)):=by
  show _=_;rw[decide_eq_decide];constructor
  ·intro h;rcases aoJ (Na.val l)with h0 | h0
   ·rw[h0,Na.rH]at h; simp at h
   exact h0
  intro h;have:(Na.aj (Na.val l)).length≠0:=fun h'=>by
   have:=Na.lq.1 (apc h'); omega
  omega
 rcases aqg neg with rfl | rfl;all_goals
  go_enter func236,ntmps236
  go_wp2_with fail
  refine HC.out.mono ?_
  rintro e w1 ⟨v',rfl,ho,hb2⟩
  have hrow:=aU ho
  have hoff:=MW ho
  obtain⟨hc,hf,hz⟩:=kH hb2
  have hb0:=Ext.trans' hb1 hb2
  have HB:=anU hb0
  have HR:=anU hrow
  have HO:=anU hoff
  obtain⟨a,cap,rfl⟩:=HR.out.shape
  clear HC ho hrow hb2 hb1 hb0 hoff
  go_wp2_with fail
 ·refine bodyPost_ret (v := .agg #[.bool ((0:Int)<((Na.aj (Na.val l)).length:Int)),.slice a (Na.aj (Na.val l)).length cap]) (by simp[results,results236,go_sem,hc]) rfl ⟨_,rfl,⟨_,by rw[apz,hpos.out],?_⟩,?_⟩
  ·exact⟨HR.out.ch (((Ch.refl _ _).setCell _ _).setCell _ _) (fun _=>HO.out.off (by simp)),HO.out.mono (by simp)⟩
  exact(HB.out.setCell (p:=⟨w.heap.size,0,none⟩) (an7 _) _).setCell (p:=⟨w.heap.size,1,none⟩) (an7 _) _
 refine bodyPost_ret (v := .agg #[.z,.slice a (Na.aj (Na.val l)).length cap]) (by simp[results,results236,go_sem,hc]) rfl ⟨_,rfl,⟨_,by rw[apN],?_⟩,?_⟩
 ·exact⟨HR.out.ch (((Ch.refl _ _).setCell _ _).setCell _ _) (fun _=>HO.out.off (by simp)),HO.out.mono (by simp)⟩
 exact(HB.out.setCell (p:=⟨w.heap.size,0,none⟩) (an7 _) _).setCell (p:=⟨w.heap.size,1,none⟩) (an7 _) _
theorem xE(x:Nat)(w:World)(h:(x:Int)≤9223372036854775807) :
  Calls prog 213 #[.i x] w fun e w'=>∃v,e = .returned v∧aH w.heap.size w' v false x∧Ext w w':=by
 have hN:x<18446744073709551616:=by omega
 obtain⟨y,rfl⟩:∃y:UInt64,x=y.toNat:=⟨UInt64.ofNat x,by simp; omega⟩;have h0:¬(y.toNat:Int)<0:=by omega
 have hyl:=y.toNat_lt;have hw:=abA y;have hb0:=aG w (.cells #[.z,.sn] 29);have hr:aF ((w.alloc (.cells #[.z,.sn] 29)).alloc (.cells #[aY y.toUInt32,aY (y>>>32).toUInt32] 66)) (.slice (some ⟨w.heap.size+1,0,none⟩) 2 2) [y.toUInt32,(y>>>32).toUInt32]:=by
  have:=JV (w.alloc (.cells #[.z,.sn] 29)) [y.toUInt32,(y>>>32).toUInt32] (f:=aY) 66 (by unfold maxLen; simp);simpa using this
 have hI:=sH false _ _ _ hr (by simp);rw[NM]at hI;have HI:=anU hI;have HB:=anU (hb0.alloc (by simp) (.cells #[aY y.toUInt32,aY (y>>>32).toUInt32] 66));clear hr hI hb0;have HE:Hid (((y>>>32).toNat:Int)=((y>>>32).toUInt32.toNat:Int)):=by
  show _=_;rw[←yg,←KD]; omega
 go_enter func213,ntmps213
 go_wp2_with fail
 rw[yg,KD,HE.out];refine HI.out.mono ?_;rintro e w2 ⟨z,rfl,⟨s,rfl,hs,fs⟩,hb2⟩;obtain⟨b1,d1,rfl⟩:=hs.shape;have r0:∀i,w2.cell? ⟨w.heap.size,i,none⟩ = #[Value.z,.sn][i]?:=fun i=>by rw[hb2.cell (p:=⟨w.heap.size,i,none⟩) (by simp; omega)]; simp[go_sem]
 have f0:∀i,w2.frozen? ⟨w.heap.size,i,none⟩=false:=fun i=>by rw[hb2.frozen (p:=⟨w.heap.size,i,none⟩) (by simp; omega)]; simp[go_sem]
 have hz:w.heap.size<w2.heap.size:=by have:=hb2.size; simp at this; omega
 have HX:=anU (Ext.trans' HB.out hb2);have F:=anU (And.intro hs fs);clear hs fs hb2 HI;go_wp2_with fail
 refine bodyPost_ret (v := .agg #[.z,.slice b1 (Na.aj y.toNat).length d1]) (by simp[results,results213,go_sem,r0]) rfl ⟨_,rfl,⟨_,rfl,?_,?_⟩,?_⟩
 ·exact F.out.1.ch (((Ch.refl w.heap.size _).setCell 0 _).setCell 1 _) (fun _=>F.out.2.off (by simp; omega))
 ·exact F.out.2.mono (by simp; omega)
 exact(HX.out.setCell (p:=⟨_,0,none⟩) (by simp only; omega) _).setCell (p:=⟨_,1,none⟩) (by simp only; omega) _
theorem qp(neg:Bool)(s:Value)(l:List UInt32)(w:World)(hv:aF w s l)(hlen:l.length≤100000000) :
  Calls prog 182 #[.agg #[.bool neg,s]] w fun e w'=>e = .returned (.i (sW neg (Na.val l)))∧Ext w w':=by
 have hb1:=aG w (.cells #[.bool neg,s] 29);have HC:=anU (sH neg s l _ (hv.below hb1) (by omega));have HB:=anU hb1;obtain⟨a,cap,rfl⟩:=hv.shape;clear hv hb1;by_cases h0:Na.val l=0
 ·have hs:Hid (sW neg (Na.val l)=0):=by show _=_; unfold sW; rw[an6 h0]
  have hd:(((Na.aj (Na.val l)).length:Int)==0)=true:=by rw[h0]; rfl
  clear h0;go_enter func182,ntmps182
  go_wp2_with fail
  refine HC.out.mono ?_;rintro e w' ⟨x,rfl,⟨t,rfl,ht,ft⟩,hb⟩;obtain⟨b1,d1,rfl⟩:=ht.shape;have HX:=anU (Ext.trans' HB.out hb);have hsz:=HX.out.size;clear ht ft hb HC HB;go_wp2_with fail
  go_ret
  exact⟨by rw[hs.out]; rfl,HX.out.alloc hsz _⟩
 have hd:(((Na.aj (Na.val l)).length:Int)==0)=false:=by
  rw[aog];intro h;exact h0 (uH (by omega))
 have hs0:Hid (∀neg,sW neg (Na.val l)=if neg then -1 else 1):=fun neg=>an0 h0;have hp:decide (0<Na.val l)=true:=aoX (by omega);rw[hp]at HC;clear h0 hp;rcases aqg neg with rfl | rfl;all_goals
  go_enter func182,ntmps182
  go_wp2_with fail
  refine HC.out.mono ?_
  rintro e w' ⟨x,rfl,⟨t,rfl,ht,ft⟩,hb⟩
  obtain⟨b1,d1,rfl⟩:=ht.shape
  have HX:=anU (Ext.trans' HB.out hb)
  have hsz:=HX.out.size
  clear ht ft hb HC HB
  go_wp2_with fail
  go_ret
  exact⟨by rw[hs0.out]; rfl,HX.out.alloc hsz _⟩
theorem Gx(neg:Bool)(s:Value)(l:List UInt32)(w:World)(hv:aF w s l)(hlen:l.length≤100000000) :
  Calls prog 238 #[.agg #[.bool neg,s]] w fun e w'=>∃x,e = .returned x∧aH w.heap.size w' x (!neg&&decide (0<Na.val l)) (Na.val l)∧Ext w w':=by
 have hb0:=aG w (.cells #[.bool neg,s] 29);have hb1:=hb0.alloc (by simp) (.cells #[.z,.sn] 29);have HC:=anU (sH (!neg) s l _ (hv.below hb1) (by omega));have HB:=anU hb1;obtain⟨a,cap,rfl⟩:=hv.shape;clear hv hb1 hb0;go_enter func238,ntmps238
 go_wp2_with fail
 refine HC.out.mono ?_;rintro e w2 ⟨z,rfl,⟨s,rfl,hs,fs⟩,hb2⟩;obtain⟨b1,d1,rfl⟩:=hs.shape;have r0:∀i,w2.cell? ⟨w.heap.size+1,i,none⟩ = #[Value.z,.sn][i]?:=fun i=>by rw[hb2.cell (p:=⟨w.heap.size+1,i,none⟩) (by simp)]; simp[go_sem]
 have f0:∀i,w2.frozen? ⟨w.heap.size+1,i,none⟩=false:=fun i=>by rw[hb2.frozen (p:=⟨w.heap.size+1,i,none⟩) (by simp)]; simp[go_sem]
 have hz:w.heap.size+1<w2.heap.size:=by have:=hb2.size; simp at this; omega
 have HX:=anU (Ext.trans' HB.out hb2);have F:=anU (And.intro hs fs);generalize hnb:(!neg&&decide (0<Na.val l))=nb at *;have HNB:=anU hnb;clear hs fs hb2 HC hnb;go_wp2_with fail
 refine bodyPost_ret (v := .agg #[.bool nb,.slice b1 (Na.aj (Na.val l)).length d1]) (by simp[results,results238,go_sem,r0]) rfl ⟨_,rfl,⟨_,by rw[HNB.out],?_,?_⟩,?_⟩
 ·exact F.out.1.ch (((Ch.refl (w.heap.size+1) _).setCell 0 _).setCell 1 _) (fun _=>F.out.2.off (by simp))
 ·exact F.out.2.mono (by simp; omega)
 exact(HX.out.setCell (p:=⟨_,0,none⟩) (by simp only; omega) _).setCell (p:=⟨_,1,none⟩) (by simp only; omega) _
theorem oK(x:Nat)(w:World)(h:(x:Int)≤9223372036854775807) :
  Calls prog 154 #[.i x] w fun e w'=>∃v,e = .returned v∧aB w.heap.size w' v false x 1∧Ext w w':=by
 have hb0:=aG w (.cells #[.z,.sn,.z,.sn] 31);have H1:=anU (xE x (w.alloc (.cells #[.z,.sn,.z,.sn] 31)) h);have HB0:=anU hb0;clear hb0;go_enter func154,ntmps154
 go_wp2_with fail
 refine H1.out.mono ?_;rintro e w1 ⟨y,rfl,⟨s,rfl,hs,fs⟩,hb1⟩;have h2:=xE 1 w1 (by decide);have H2:=anU h2;have HS:=anU (And.intro hs fs);have HB1:=anU hb1;clear h2 H1 hs fs hb1;go_wp2_with fail
 refine H2.out.mono ?_;rintro e w2 ⟨y,rfl,⟨t,rfl,ht,ft⟩,hb2⟩;obtain⟨b1,d1,rfl⟩:=HS.out.1.shape;obtain⟨b2,d2,rfl⟩:=ht.shape;obtain⟨r0,f0,hz⟩:=kH (Ext.trans' HB1.out hb2);obtain⟨-,-,hz1⟩:=kH HB1.out;have F:=anU (And.intro (HS.out.1.below hb2) (And.intro ht (And.intro HS.out.2 ft)));have HX:=anU (Ext.trans' HB0.out (Ext.trans' HB1.out hb2));clear ht ft hb2 H2;go_wp2_with fail
 refine bodyPost_ret (v := .agg #[.z,.slice b1 (Na.aj x).length d1,.z,.slice b2 (Na.aj 1).length d2]) (by simp[results,results154,go_sem,r0]) rfl ⟨_,rfl,⟨_,_,rfl,?_,?_,?_,?_⟩,?_⟩
 ·exact F.out.1.ch (((((Ch.refl w.heap.size _).setCell _ _).setCell _ _).setCell _ _).setCell _ _) (fun _=>F.out.2.2.1.off (by simp))
 ·exact F.out.2.1.ch (((((Ch.refl w.heap.size _).setCell _ _).setCell _ _).setCell _ _).setCell _ _) (fun _=>F.out.2.2.2.off hz1)
 ·exact F.out.2.2.1.mono (by simp)
 ·exact F.out.2.2.2.mono (by omega)
 exact(((HX.out.setCell (p:=⟨_,0,none⟩) (by simp only; omega) _).setCell (p:=⟨_,1,none⟩) (by simp only; omega) _).setCell (p:=⟨_,2,none⟩) (by simp only; omega) _).setCell (p:=⟨_,3,none⟩) (by simp only; omega) _
end
section
set_option maxHeartbeats 1600000
set_option maxRecDepth 100000
open Go.RowKit
variable{α:Type}
theorem DR(v u:Value)(l m:List UInt32)(w:World)(hv:aF w v l)(hu:aF w u m)(hl:l.length≤100000000) :
  Calls prog 317 #[v,u] w fun e w'=>∃a n c,e = .returned (.tuple #[.slice a n c,.bool (Na.val m≤Na.val l)])∧(Na.val m≤Na.val l→aF w' (.slice a n c) (Na.aj (Na.val l-Na.val m)))∧Ext w w':=by
 by_cases h:Na.val m≤Na.val l
 ·refine(Aa v u l m w hv hu hl h).mono ?_;rintro e w' ⟨v',rfl,h1,h2⟩;have h1:aF _ _ _:=aU h1;obtain⟨a,c,rfl⟩:=h1.shape;exact⟨a,_,c,by simp only[aoX h],fun _=>h1,h2⟩
 refine(Xe v u l m w hv hu (by omega)).mono ?_;rintro e w' ⟨rfl,h2⟩;exact⟨none,0,0,by simp only[apa h],fun h3=>absurd h3 h,h2⟩
theorem IJ{w:World}{s:Value}{z:Int}(hs:aF w s (Na.aj z.natAbs))(h:(Na.aj z.natAbs).length≤100000000) :
  Calls prog 182 #[.agg #[.bool (z<0),s]] w fun e w'=>e = .returned (.i z.sign)∧Ext w w':=by
 have hg:=qp (decide (z<0)) _ _ w hs h;rw[Na.aJ,YT,Ky]at hg;exact hg
theorem Em{w:World}{s:Value}{l:List UInt32}(hs:aF w s l)(h:l.length≤1000000000) :
  Calls prog 303 #[s] w fun e w'=>e = .returned (.i (bl (Na.val l):Nat))∧Ext w w':=by
 refine(y8 s l w hs h).mono ?_;exact fun e w' h=>h
theorem kE{v:Value}{a:Nat}{w:World}(neg:Bool)(hv:aF w v (Na.aj a))(hlen:(Na.aj a).length≤1000000000) :
  Calls prog 236 #[.bool neg,v] w fun e w'=>∃x,e = .returned x∧aH w.heap.size w' x (neg&&decide (0<a)) a∧Ext w w':=by
 have h:=sH neg v _ w hv hlen;rw[Na.aJ]at h;exact h
theorem DT(v1:Value)(z1:Int)(K:Nat)(w:World)(h1:gy K w v1 z1)(hK:K≤10000000):
  Calls prog 238 #[v1] w fun e w'=>∃x,e = .returned x∧oV w.heap.size w' x (-z1)∧Ext w w':=by
 obtain⟨n1,s1,l,rfl,h1,hl,rfl⟩:=h1;obtain⟨a1,c1,rfl⟩:=h1.shape;refine anA func238 ntmps238 fun ac S=>anv fun _ aS=>anw S 1 [.bool n1,.slice a1 l.length c1] fun ac u b2 E3 hb4 S=>anw S 2 [.z,.sn] fun ac u b5 E6 hb7 S=>anu<|aS _ _<|anv fun _ eu=>adr S 5 [.mem 1 0,.mem 1 1] [(5,.bool (!n1)),(7,.slice a1 l.length c1)] fun S=>anB S (some 8) (sH (!n1) _ l _ (h1.below S.E) (by omega)) ?_;rintro e u ⟨x,rfl,hx,E9⟩;obtain⟨b1,d1,rfl⟩:=hx.shape;have hz:=S.E.size;have YU:=(S.bx 0).1;have hb1':=(S.bx 1).1;refine⟨_,rfl,E9,fun ac S=>?_⟩;refine anC S 0 (off:=0) (cs:=[.bool (!n1&&decide (0<Na.val l)),.slice b1 (Na.aj (Na.val l)).length d1]) rfl (fun u C10 S=>?_);have QN:=hx.ch C10 (by omega);refine anu<|eu _ _<|anS S 0 results238 rfl (v := .agg #[.bool (!n1&&decide (0<Na.val l)),.slice b1 (Na.aj (Na.val l)).length d1]) ?_;exact⟨_,rfl,QO n1 (Na.val l)▸uj (aH.mono QN (by omega)),S.E⟩
theorem lH(v1 v2:Value)(z1 z2:Int)(K L:Nat)(w:World)(h1:gy K w v1 z1)(h2:gy L w v2 z2)(hK:K≤10000000)(hL:L≤10000000):
  Calls prog 210 #[v1,v2] w fun e w'=>∃x,e = .returned x∧oV w.heap.size w' x (z1*z2)∧Ext w w':=by
 obtain⟨n1,s1,l,rfl,h1,hl,rfl⟩:=h1;obtain⟨a1,c1,rfl⟩:=h1.shape;obtain⟨n2,s2,m,rfl,h2,hm,rfl⟩:=h2;obtain⟨a2,c2,rfl⟩:=h2.shape;refine anA func210 ntmps210 fun ac S=>anv fun _ aS=>anw S 2 [.bool n1,.slice a1 l.length c1] fun ac u b2 E3 hb4 S=>anw S 3 [.bool n2,.slice a2 m.length c2] fun ac u b5 E6 hb7 S=>anw S 4 [.z,.sn] fun ac u b8 E9 wH S=>anu<|aS _ _<|anV fun _ cZ=>anR S 11 [(14,fun v w1=>aF w1 v (Na.aj (Na.val l*Na.val m))),(15,fun v w1=>aH w.heap.size w1 v ((n1 != n2)&&decide (0<(Na.val l*Na.val m))) (Na.val l*Na.val m))] (fun r=>[.mem 2 0,.mem 1 0,.mem 2 1,.mem 1 1]) (fun x=>[x 14,x 15]) (fun x=>[(_,_,true,x 14,14),(_,_,true,x 15,15)]) [[],[14]] (fun x=>[(15,x 15)]) ⟨fun _ _ _ k h=>h.below k,fun _ _ _ k h=>h.ext k,trivial⟩ (fun x=>⟨by intro u hC g F; exact(RN _ _ _ _ _ (h1.below (Ext.trans' S.E hC)) (h2.below (Ext.trans' S.E hC)) (by omega) (by omega)).mono fun e w2 h=>by obtain⟨a,rfl,hx,hb⟩:=h; exact⟨_,rfl,aU hx,hb⟩,by intro u hC g F; obtain⟨Qq,-⟩:=F; exact(kE (n1 != n2) Qq (by have:=NI l m (by omega) (by omega); omega)).mono fun e w2 h=>by obtain⟨y,rfl,hx,hb⟩:=h; exact⟨_,rfl,hx.mono ((Ext.trans' S.E hC)).size,hb⟩,trivial⟩) (fun ac u x wE F S=>?_);obtain⟨Qq,Ji,-⟩:=F;obtain⟨b1,d1,em⟩:=aH.shape Ji;rw[em]at S Ji;have Ew:=S.bx 0;refine anC S 0 (off:=0) (cs:=[.bool ((n1 != n2)&&decide (0<(Na.val l*Na.val m))),.slice b1 (Na.aj (Na.val l*Na.val m)).length d1]) rfl (fun u C13 S=>?_);have zG:=aH.dM Ji C13 Ew;refine anu<|cZ _ _<|anS S 0 results210 rfl (v := .agg #[.bool ((n1 != n2)&&decide (0<(Na.val l*Na.val m))),.slice b1 (Na.aj (Na.val l*Na.val m)).length d1]) ?_;exact⟨_,rfl,(YV n1 n2 (Na.val l) (Na.val m)).symm▸uj (aH.mono zG (by omega)),S.E⟩
theorem DU(v1 v2:Value)(z1 z2:Int)(K L:Nat)(w:World)(h1:gy K w v1 z1)(h2:gy L w v2 z2)(hK:K≤10000000)(hL:L≤10000000):
  Calls prog 279 #[v1,v2] w fun e w'=>∃x,e = .returned x∧oV w.heap.size w' x (z1+z2)∧Ext w w':=by
 obtain⟨n1,s1,l,rfl,h1,hl,rfl⟩:=h1;obtain⟨a1,c1,rfl⟩:=h1.shape;obtain⟨n2,s2,m,rfl,h2,hm,rfl⟩:=h2;obtain⟨a2,c2,rfl⟩:=h2.shape;refine anA func279 ntmps279 fun ac S=>anv fun _ aS=>anw S 2 [.bool n1,.slice a1 l.length c1] fun ac u b2 E3 hb4 S=>anw S 3 [.bool n2,.slice a2 m.length c2] fun ac u b5 E6 hb7 S=>anw S 4 [.z,.sn] fun ac u b8 E9 wH S=>anu<|aS _ _<|anV fun _ cZ=>anv fun _ dW=>adr S 5 [.mem 2 0,.mem 1 0] [(13,.bool (n1==n2))] fun S=>anu (dW _ _ ?_);refine anx S (fun hc13=>?_) (fun hc13=>?_)
 ·refine anV fun _ fP=>anR S 8 [(20,fun v w1=>aF w1 v (Na.aj (Na.val l+Na.val m))),(21,fun v w1=>aH w.heap.size w1 v (n1&&decide (0<(Na.val l+Na.val m))) (Na.val l+Na.val m))] (fun r=>[.mem 2 0,.mem 2 1,.mem 1 1]) (fun x=>[x 20,x 21]) (fun x=>[(_,_,true,x 20,20),(_,_,true,x 21,21)]) [[],[20]] (fun x=>[(21,x 21)]) ⟨fun _ _ _ k h=>h.below k,fun _ _ _ k h=>h.ext k,trivial⟩ (fun x=>⟨by intro u hC g F; exact(RQ _ _ _ _ _ (h1.below (Ext.trans' S.E hC)) (h2.below (Ext.trans' S.E hC)) (by omega) (by omega)).mono fun e w2 h=>by obtain⟨a,rfl,hx,hb⟩:=h; exact⟨_,rfl,aU hx,hb⟩,by intro u hC g F; obtain⟨F20,-⟩:=F; exact(kE n1 F20 (by have:=NJ l m (by omega) (by omega); omega)).mono fun e w2 h=>by obtain⟨y,rfl,hx,hb⟩:=h; exact⟨_,rfl,hx.mono ((Ext.trans' S.E hC)).size,hb⟩,trivial⟩) (fun ac u x Ez F S=>?_);obtain⟨F20,Kz,-⟩:=F;obtain⟨b1,d1,em⟩:=aH.shape Kz;rw[em]at S Kz;have Qz:=S.bx 0;refine anC S 0 (off:=0) (cs:=[.bool (n1&&decide (0<(Na.val l+Na.val m))),.slice b1 (Na.aj (Na.val l+Na.val m)).length d1]) rfl (fun u C16 S=>?_);have QV:=aH.dM Kz C16 Qz;refine anu<|fP _ _<|anS S 0 results279 rfl (v := .agg #[.bool (n1&&decide (0<(Na.val l+Na.val m))),.slice b1 (Na.aj (Na.val l+Na.val m)).length d1]) ?_;obtain rfl:=eq_of_beq hc13;exact⟨_,rfl,(DC n1 (Na.val l) (Na.val m)).symm▸uj (aH.mono QV (by omega)),S.E⟩
 refine anZ<|cZ _ _<|anV fun _ iU=>anv fun _ jk=>adr S 4 [.mem 2 1,.mem 1 1] [(24,.slice a1 l.length c1),(26,.slice a2 m.length c2)] fun S=>anB S (some 27) (DR _ _ _ _ _ (h1.below S.E) (h2.below S.E) (by omega)) ?_;rintro e u ⟨p,q,c3,rfl,hs,uh⟩;refine⟨_,rfl,uh,fun ac S=>?_⟩;refine adr S 5 [] [(5,.slice p q c3),(6,.bool (Na.val m≤Na.val l))] fun S=>anu<|jk _ _<|anv fun _ jA=>adr S 1 [] [(30,.bool (Na.val m≤Na.val l))] fun S=>anu (jA _ _ ?_);refine anx S (fun pF=>?_) (fun pF=>?_)
 ·refine anv fun _ jY=>adr S 3 [.mem 2 0] [(32,.bool n1),(33,.slice p q c3)] fun S=>anB S (some 34) (kE (n1) (hs (aoe pF)) (by have:=AL l m (by omega); omega)) ?_;rintro e u ⟨x,rfl,hx,Ap⟩;obtain⟨b1,d1,rfl⟩:=hx.shape;have hz:=S.E.size;have YU:=(S.bx 0).1;have hb1':=(S.bx 1).1;have hb2':=(S.bx 2).1;refine⟨_,rfl,Ap,fun ac S=>?_⟩;refine anC S 0 (off:=0) (cs:=[.bool (n1&&decide (0<(Na.val l-Na.val m))),.slice b1 (Na.aj (Na.val l-Na.val m)).length d1]) rfl (fun u C26 S=>?_);have QW:=hx.ch C26 (by omega);refine anu<|jY _ _<|anS S 0 results279 rfl (v := .agg #[.bool (n1&&decide (0<(Na.val l-Na.val m))),.slice b1 (Na.aj (Na.val l-Na.val m)).length d1]) ?_;exact⟨_,rfl,(wO (by simpa using hc13) (aoe pF)).symm▸uj (aH.mono QW (by omega)),S.E⟩
 refine anZ<|iU _ _<|anv fun _ ni=>adr S 4 [.mem 1 1,.mem 2 1] [(37,.slice a2 m.length c2),(39,.slice a1 l.length c1)] fun S=>anB S (some 40) (DR _ _ _ _ _ (h2.below S.E) (h1.below S.E) (by omega)) ?_;rintro e u ⟨p2,q2,c2,rfl,hs2,BZ⟩;refine⟨_,rfl,BZ,fun ac S=>?_⟩;refine adr S 5 [] [(7,.slice p2 q2 c2)] fun S=>anu<|ni _ _<|anv fun _ mM=>adr S 3 [.mem 1 0] [(44,.bool n2),(45,.slice p2 q2 c2)] fun S=>anB S (some 46) (kE (n2) (hs2 (by have:=aoi pF; omega)) (by have:=AL m l (by omega); omega)) ?_;rintro e u ⟨x,rfl,hx,DF⟩;obtain⟨b1,d1,rfl⟩:=hx.shape;have hz:=S.E.size;have YU:=(S.bx 0).1;have hb1':=(S.bx 1).1;have hb2':=(S.bx 2).1;refine⟨_,rfl,DF,fun ac S=>?_⟩;refine anC S 0 (off:=0) (cs:=[.bool (n2&&decide (0<(Na.val m-Na.val l))),.slice b1 (Na.aj (Na.val m-Na.val l)).length d1]) rfl (fun u C32 S=>?_);have CS:=hx.ch C32 (by omega);refine anu<|mM _ _<|anS S 0 results279 rfl (v := .agg #[.bool (n2&&decide (0<(Na.val m-Na.val l))),.slice b1 (Na.aj (Na.val m-Na.val l)).length d1]) ?_;exact⟨_,rfl,(AO (a:=Na.val l) (b:=Na.val m) (by simpa using hc13) (by have:=aoi pF; omega)).symm▸uj (aH.mono CS (by omega)),S.E⟩
theorem OM(v1 v2:Value)(z1 z2:Int)(K L:Nat)(w:World)(h1:gy K w v1 z1)(h2:gy L w v2 z2)(hK:K≤10000000)(hL:L≤10000000):
  Calls prog 260 #[v1,v2] w fun e w'=>∃x,e = .returned x∧oV w.heap.size w' x (z1-z2)∧Ext w w':=by
 obtain⟨n1,s1,l,rfl,h1,hl,rfl⟩:=h1;obtain⟨a1,c1,rfl⟩:=h1.shape;obtain⟨n2,s2,m,rfl,h2,hm,rfl⟩:=h2;obtain⟨a2,c2,rfl⟩:=h2.shape;refine anA func260 ntmps260 fun ac S=>anv fun _ aS=>anw S 2 [.bool n1,.slice a1 l.length c1] fun ac u b2 E3 hb4 S=>anw S 3 [.bool n2,.slice a2 m.length c2] fun ac u b5 E6 hb7 S=>anw S 4 [.z,.sn] fun ac u b8 E9 wH S=>anu<|aS _ _<|anV fun _ cZ=>anR S 4 [(7,fun v w1=>oV w.heap.size w1 v (-zv n2 (Na.val m))),(8,fun v w1=>oV w.heap.size w1 v (zv n1 (Na.val l) + -zv n2 (Na.val m)))] (fun r=>[.mem 2 0,.mem 1 0]) (fun x=>[x 7,x 8]) (fun x=>[(_,_,true,x 7,7),(_,_,true,x 8,8)]) [[],[7]] (fun x=>[(8,x 8)]) ⟨fun _ _ _ k h=>h.ext k,fun _ _ _ k h=>h.ext k,trivial⟩ (fun x=>⟨by intro u hC g F; exact(DT _ (zv n2 (Na.val m)) L _ ⟨n2,_,m,rfl,h2.below (Ext.trans' S.E hC),hm,rfl⟩ (by omega)).mono fun e w2 h=>by obtain⟨y,rfl,hx,hb⟩:=h; exact⟨_,rfl,hx.mono ((Ext.trans' S.E hC)).size,hb⟩,by intro u hC g F; obtain⟨F7,-⟩:=F; exact(DU _ _ (zv n1 (Na.val l)) (-zv n2 (Na.val m)) K L _ ⟨n1,_,l,rfl,h1.below (Ext.trans' S.E hC),hl,rfl⟩ (oV.toQ F7 (by rw[Int.natAbs_neg,kZ]; have:=bK m; omega)) (by omega) (by omega)).mono fun e w2 h=>by obtain⟨y,rfl,hx,hb⟩:=h; exact⟨_,rfl,hx.mono ((Ext.trans' S.E hC)).size,hb⟩,trivial⟩) (fun ac u x wE F S=>?_);obtain⟨F7,F8,-⟩:=F;obtain⟨b1,d1,em⟩:=aH.shape F8;rw[em]at S F8;have Ew:=S.bx 0;refine anC S 0 (off:=0) (cs:=[.bool ((zv n1 (Na.val l) + -zv n2 (Na.val m))<0),.slice b1 (Na.aj (zv n1 (Na.val l) + -zv n2 (Na.val m)).natAbs).length d1]) rfl (fun u C13 S=>?_);have zG:=aH.dM F8 C13 Ew;refine anu<|cZ _ _<|anS S 0 results260 rfl (v := .agg #[.bool ((zv n1 (Na.val l) + -zv n2 (Na.val m))<0),.slice b1 (Na.aj (zv n1 (Na.val l) + -zv n2 (Na.val m)).natAbs).length d1]) ?_;exact⟨_,rfl,zG,S.E⟩
theorem OO(v1 v2:Value)(z1 z2:Int)(K L:Nat)(w:World)(h1:gy K w v1 z1)(h2:gy L w v2 z2)(hK:K≤10000000)(hL:L≤10000000):
  Calls prog 209 #[v1,v2] w fun e w'=>e = .returned (.i (z1-z2).sign)∧Ext w w':=by
 obtain⟨n1,s1,l,rfl,h1,hl,rfl⟩:=h1;obtain⟨a1,c1,rfl⟩:=h1.shape;obtain⟨n2,s2,m,rfl,h2,hm,rfl⟩:=h2;obtain⟨a2,c2,rfl⟩:=h2.shape;refine anA func209 ntmps209 fun ac S=>anv fun _ aS=>anw S 2 [.bool n1,.slice a1 l.length c1] fun ac u b2 E3 hb4 S=>anw S 3 [.bool n2,.slice a2 m.length c2] fun ac u b5 E6 hb7 S=>adr S 1 [] [(4,.i 0)] fun S=>anu<|aS _ _<|anv fun _ eu=>adr S 2 [.mem 1 0,.mem 0 0] [(5,.agg #[.bool n1,.slice a1 l.length c1]),(6,.agg #[.bool n2,.slice a2 m.length c2])] fun S=>anB S (some 7) (OM _ _ (zv n1 (Na.val l)) (zv n2 (Na.val m)) K L _ ⟨n1,_,l,rfl,h1.below S.E,hl,rfl⟩ ⟨n2,_,m,rfl,h2.below S.E,hm,rfl⟩ (by omega) (by omega)) ?_;rintro e u ⟨x,rfl,⟨s,rfl,hs,-⟩,E9⟩;obtain⟨b1,d1,rfl⟩:=hs.shape;refine⟨_,rfl,E9,fun ac S=>?_⟩;refine anE S 8 (IJ hs (by have:=EC (zv n1 (Na.val l)) (zv n2 (Na.val m)) (K:=K+L) (by rw[kZ]; have:=bK l; omega) (by rw[kZ]; have:=bK m; omega); omega)) fun ac u X3 S=>adr S 1 [] [(4,.i (Int.sign (zv n1 (Na.val l)-zv n2 (Na.val m))))] fun S=>anu<|eu _ _<|anz S results209 ?_;exact⟨rfl,S.E⟩
theorem xG(v1:Value)(z1:Int)(K:Nat)(w:World)(h1:gy K w v1 z1)(hK:K≤10000000):
  Calls prog 259 #[v1] w fun e w'=>e = .returned (.i (bl z1.natAbs:Int))∧Ext w w':=by
 obtain⟨n1,s1,l,rfl,h1,hl,rfl⟩:=h1;obtain⟨a1,c1,rfl⟩:=h1.shape;refine anA func259 ntmps259 fun ac S=>anv fun _ aS=>anw S 1 [.bool n1,.slice a1 l.length c1] fun ac u b2 E3 hb4 S=>adr S 1 [] [(2,.i 0)] fun S=>anu<|aS _ _<|anv fun _ bM=>adr S 2 [.mem 0 1] [(4,.slice a1 l.length c1)] fun S=>anE S 5 (Em (h1.below S.E) (by omega)) fun ac u E6 S=>adr S 1 [] [(2,.i (bl (Na.val l):Nat))] fun S=>anu<|bM _ _<|anz S results259 ?_;exact⟨by rw[kZ],S.E⟩
end
end Go.Proofs.YtapmgonflgahbaaGreatDoor
