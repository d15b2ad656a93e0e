/- Walk of the reference on natural numbers: Mul. Walks of -/
import Derived.Test.YtfmkkemfhjkajaaGreatDoorPk5
import Derived.IntWalk
import Derived.Test.YtfmkkemfhjkajaaGreatDoorRat
set_option linter.unusedVariables false
namespace Go.Proofs.YtfmkkemfhjkajaaGreatDoor
open _root_.Go.Proofs.Tryz
section
set_option maxHeartbeats 1600000
set_option maxRecDepth 100000
open Go.RowKit
variable{α:Type}
theorem Ux(v u:Value)(l m:List UInt32)(w:World)(hv:aG w v l)(hu:aG w u m)(hl:l.length≤50000000)(hm:m.length≤50000000) :
  Calls prog 205 #[v,u] w fun e w'=>∃v',e = .returned v'∧EU w.heap.size w' v' (Na.au (Na.val l*Na.val m))∧Ext w w':=by
 have H1:=ank hv;have H2:=ank hu;obtain⟨a1,c1,rfl⟩:=hv.shape;obtain⟨a2,c2,rfl⟩:=hu.shape;clear hv hu;obtain⟨N,hN⟩:∃N,N=l.length+m.length+1:=⟨_,rfl⟩;have hNN:((l.length:Int)+(m.length:Int)+1)=(N:Int):=by omega
 have hN1:N≤100000001:=by omega
 have h63:N≤maxLen:=by unfold maxLen; omega
 have hby:4*N≤281474976710656:=by omega
 have HN:=ank hN;clear hN;go_enter func205,ntmps205
 go_wp2_with (at_make; refine wpList_make_row rfl _ _ _ rfl kT rfl w.heap.size N rfl rfl rfl hby h63 (anw _) ?_; intro w1 hown hg)
 have hb1:=iI (anU w.heap.size w) hg (anw _);clear hg;have HO:=ank hown;clear hown hNN;go_loopw [6] (fun iv wr=>∃(i:Nat) (out:List UInt32),i≤l.length∧iv = .i i∧out.length=N∧Na.val out=Na.val (l.take i)*Na.val m∧Na.Clear (i+m.length) out ∧
  wr.ownsRow w.heap.size 194 1 (.slice (some ⟨w.heap.size,0,none⟩) N N) N (out.map aU)∧Ext w wr) (fun iv _=>l.length-(intOf iv).toNat)
 case atStart=>exact⟨0,List.replicate N 0,anz _,rfl,by simp,by rw[Na.DI]; simp[Na.val],(Na.KI N).mono (anz _),by simpa[aU]using HO.out,hb1⟩
 case round =>
  obtain⟨i,out,hi,rfl,hol,hval,abL,hown,hbel⟩:=hrel;have HOL:=ank hol;have oL:=ank hval;have HW:=ank hown;have HC:=ank abL;have HB:=ank hbel;clear hol hval hown abL HO hbel;by_cases hlt:i<l.length
  ·obtain⟨wo,rfl⟩:∃wo:World,wo=wr:=⟨_,rfl⟩;obtain⟨bx,ox,cx,hxs,hbx,hlx,hmx,hcx⟩:=fF H1.out rfl (by omega);simp only[anY]at hxs;obtain⟨rfl,-,-⟩:=hxs;have HCK:=ank (fun(wr:World) (h:Ext w wr)=>(h.cell (p:=⟨bx,ox+i,none⟩) hbx).trans (hcx i hlt));have T0:=ank (Na.bT l i hlt);clear hcx;generalize l[i]=x at *;have g0:=x.toNat_lt;have x0:=fM x;have hi1:(0:Int)≤(i:Int):=by omega
   have hi2:(i:Int)<(l.length:Int):=by omega
   go_wp2_with fail
   go_loopw [7,8] (fun cv kv wr=>∃(k c:Nat) (o2:List UInt32),k≤m.length∧kv = .i k∧cv = .int .u64 c∧c<4294967296∧o2.length=N∧Na.val o2+Na.B^(i+k)*c=Na.val out+Na.B^i*(x.toNat*Na.val (m.take k)) ∧
    Na.Clear (i+m.length) o2∧wr.ownsRow w.heap.size 194 1 (.slice (some ⟨w.heap.size,0,none⟩) N N) N (o2.map aU)∧Ext w wr) (fun _ kv _=>m.length-(intOf kv).toNat)
   case atStart=>exact⟨0,0,out,anz _,rfl,rfl,by omega,HOL.out,by simp[Na.val],HC.out,HW.out,HB.out⟩
   case round =>
    obtain⟨k,c,o2,hk,rfl,rfl,hc,abM,Qd,Qe,hown2,Qg⟩:=hrel;have MX:=ank abM;have Hw:=ank Qd;have HW2:=ank hown2;have HC2:=ank Qe;have HB2:=ank Qg;have hNi:i+m.length<N:=by have:=HN.out; omega
    clear abM Qd hown2 Qe Qg HW HC HB HOL;by_cases hkl:k<m.length
    ·have hck:=HCK.out wr HB2.out;obtain⟨by',oy,cy,hys,agt,hly,hmy,hcy⟩:=fF H2.out rfl (by omega);simp only[anY]at hys;obtain⟨rfl,-,-⟩:=hys;have hcl:wr.cell? ⟨by',oy+k,none⟩=some (aU m[k]):=by rw[HB2.out.cell (p:=⟨by',oy+k,none⟩) agt]; exact hcy k hkl
     have T1:=ank (Na.bT m k hkl);generalize m[k]=y at *;have agu:i+k<N:=by omega
     have Hy:i+k<o2.length:=by rw[MX.out]; exact agu
     have hco:=HW2.out.cellAt (i+k) (by omega);rw[List.getElem?_map,List.getElem?_eq_getElem Hy,aoa]at hco;have hog:o2.getD (i+k) 0=o2[i+k]:=by simp[List.getD,List.getElem?_eq_getElem Hy]
     have hfz:=HW2.out.frozenAt (i+k);generalize o2[i+k]=o at *;have g1:=y.toNat_lt;have g2:=o.toNat_lt;have y0:=fM y;have o0:=fM o;obtain⟨t,s,n,ht,hs,hn,hmul,hs1,hs2,hnb⟩:=Qh g0 g1 g2 hc;have hs3:IntKind.u64.wrap ((s:Int)+(c:Int))=(n:Int):=(anu IntKind.u64.wrap (Int.add_comm _ _)).trans hs2;have HST:=ank (Na.Qi (t:=t) Hy Hw.out (show n=t+(o2.getD (i+k) 0).toNat+c by rw[hog]; omega));rw[ht]at HST;have hmod:(n:Int)%4294967296=((UInt32.ofNat n).toNat:Int):=dgI n;have hdiv:(n:Int)/4294967296=((n/Na.B:Nat):Int):=dvI n;have hc':n/Na.B<4294967296:=apA hnb;generalize hq:n/Na.B=c' at *;obtain⟨d,hd⟩:∃d,UInt32.ofNat n=d:=⟨_,rfl⟩;rw[hd]at hmod HST;have hk1:(0:Int)≤(k:Int):=by omega
     have hk2:(k:Int)<(m.length:Int):=by omega
     have akM:IntKind.i64.wrap ((i:Int)+(k:Int))=(i:Int)+(k:Int):=IntWalk.i64_in _ (by omega);have amr:(0:Int)≤(i:Int)+(k:Int):=by omega
     have ams:(i:Int)+(k:Int)<(N:Int):=by omega
     have amu:((i:Int)+(k:Int)).toNat=i+k:=by omega
     clear hcy hog ht hs hn hq hd hnb Hw;go_wp2_with fail
     go_quiet (fail)
     clear akM;go_wp2_with fail
     go_roundw
     case rel =>
      refine⟨k+1,c',o2.set (i+k) d,by omega,by go_num,rfl,hc',by rw[List.length_set]; exact MX.out,?_,HC2.out.set (by omega),by rw[aoY]; exact((gQ HW2.out (below_drewN Ext.rfl' _)).stored (i+k) (aU d)).1,(below_drewN HB2.out _).setCell (p:=⟨w.heap.size,i+k,none⟩) (anw _) _⟩;rw[←apo,HST.out,T1.out,Na.WS]
     case measure=>simp[intOf]; omega
    obtain rfl:k=m.length:=by omega
    have Hy:i+m.length<o2.length:=by rw[MX.out]; exact hNi
    have HST:=ank (Na.WT Hy Hw.out (HC2.out _ (anw _)) hc);obtain⟨d,rfl⟩:∃d:UInt32,c=d.toNat:=⟨UInt32.ofNat c,(bJ hc).symm⟩;rw[show UInt32.ofNat d.toNat=d by simp]at HST;obtain⟨⟨cv,hcell⟩,hfz⟩:=rQ HW2.out (i+m.length) hNi;have hst:=HW2.out.stored (i+m.length) (aU d);rw[←aoY]at hst;have HS:=ank hst;clear hst;go_wp2_with fail
    go_roundw
    case rel =>
     refine⟨i+1,o2.set (i+m.length) d,by omega,by go_num,by rw[List.length_set]; exact MX.out,?_,by rw[show i+1+m.length=i+m.length+1 by omega]; exact HC2.out.Um,HS.out.1,HB2.out.setCell (p:=⟨w.heap.size,i+m.length,none⟩) (anw _) _⟩;rw[HST.out,oL.out,aoq,Na.Qj,T0.out]
    case measure=>simp[intOf]; omega
  obtain rfl:i=l.length:=by omega
  have hs:=dF _ _ _ (qY HOL.out HW.out) (by rw[HOL.out]; omega);rw[oL.out,aoq]at hs;have HS:=ank hs;clear hs;go_wp2_with fail
  refine HS.out.mono ?_;rintro e w' ⟨v',rfl,hr,hb⟩;have HR:=ank (fB hr HB.out.size);have HX:=ank (Ext.trans' HB.out hb);clear hr hb;go_wp2_with fail
  go_ret
  exact⟨_,rfl,HR.out,HX.out⟩
theorem YR(v u:Value)(l m:List UInt32)(w:World)(hv:aG w v l)(hu:aG w u m)(hlt:Na.val l<Na.val m) :
  Calls prog 253 #[v,u] w fun e w'=>e = .returned (.tuple #[.slice none 0 0,.bool false])∧Ext w w':=by
 have hc:=AZ v u l m w hv hu;rw[zf hlt]at hc;have HC:=ank hc;obtain⟨a1,c1,rfl⟩:=hv.shape;obtain⟨a2,c2,rfl⟩:=hu.shape;clear hc hv hu hlt;go_enter func253,ntmps253
 go_wp2_with fail
 refine HC.out.mono ?_;rintro e w' ⟨rfl,hb⟩;have HB:=ank hb;clear hb;go_wp2_with fail
 go_ret2
 exact⟨rfl,HB.out⟩
end
section
set_option maxHeartbeats 800000
set_option maxRecDepth 100000
open Go.RowKit
variable{α:Type}
theorem Uy(v u:Value)(l m:List UInt32)(w:World)(hv:aG w v l)(hu:aG w u m)(hlen:l.length≤5000000)(hlen2:m.length≤5000000) :
  Calls prog 218 #[v,u] w fun e w'=>∃g,e = .returned g∧aG w' g (Na.au (Nat.gcd (Na.val l) (Na.val m)))∧Ext w w':=by
 have C1:=ank (dF v l w hv (by omega));have hla:=bF l;have hlb:=bF m;go_enter func218,ntmps218
 go_wp2_with fail
 refine C1.out.mono ?_;rintro e w1 ⟨x,rfl,hx,hb1⟩;have hx:=aZ hx;go_wp2_with fail
 refine(dF u m w1 (hu.below hb1) (by omega)).mono ?_;rintro e w2 ⟨y,rfl,hy,hb2⟩;have hy:=aZ hy;have hx2:=hx.below hb2;have af7:=Ext.trans' hb1 hb2;clear hx C1 hv hu;have HX:=ank hx2;have HY:=ank hy;clear hx2 hy;go_wp2_with fail
 go_loopw [5,6,7,8,9] (fun x y _ _ _ wr=>∃(A B:Nat),aG wr x (Na.au A)∧aG wr y (Na.au B)∧Nat.gcd A B=Nat.gcd (Na.val l) (Na.val m)∧(Na.au A).length≤5000000∧(Na.au B).length≤5000000∧Ext w wr) (fun _ y _ _ _ wr=>valOf wr y)
 case atStart=>exact⟨(Na.val l),(Na.val m),HX.out,HY.out,rfl,by omega,by omega,af7⟩
 case round =>
  obtain⟨A,B,hx,hy,hg,hlA,hlB,hbel⟩:=hrel;have HM:=ank (BX hy);have HG:=ank hg;have HX:=ank hx;have HY:=ank hy;clear hg hx hy;obtain⟨ay,cy,rfl⟩:=HY.out.shape;rcases aof B with rfl | hB
  ·have h0:((Na.au 0).length:Int)=0:=by rw[Na.jU.2 rfl]; rfl
   go_wp2_with fail
   go_ret
   refine⟨_,rfl,?_,hbel⟩;rw[←HG.out,Nat.gcd_zero_right];exact HX.out
  have h0:(0:Int)<((Na.au B).length:Int):=by
   have:(Na.au B).length≠0:=fun h=>by have:=wB h; omega
   omega
  have hD:=zZ _ _ _ _ wr HX.out HY.out (by rw[Na.aI]; exact hB) hlA hlB;rw[Na.aI,Na.aI]at hD;have HD:=ank hD;clear hD;go_wp2_with fail
  refine HD.out.mono ?_;rintro e w' ⟨q,r,rfl,hq,hr,hb⟩;have HR:=ank (aZ hr);have HY':=ank (HY.out.below hb);clear hq hr;go_wp2_with fail
  go_roundw
  case rel =>
   refine⟨B,A%B,HY'.out,HR.out,?_,hlB,?_,Ext.trans' hbel hb⟩
   ·rw[←HG.out,Nat.gcd_comm A B,Nat.gcd_rec B A,Nat.gcd_comm]
   exact anN (fZ (apf (aoJ A hB))) hlB
  case measure =>
   rw[BX HR.out,HM.out,Na.aI,Na.aI];exact aoJ _ hB
theorem tZ(neg:Bool)(v:Value)(l:List UInt32)(w:World)(hv:aG w v l)(hlen:l.length≤1000000000) :
  Calls prog 204 #[.bool neg,v] w fun e w'=>∃x,e = .returned x∧aH w.heap.size w' x (neg&&decide (0<Na.val l)) (Na.val l)∧Ext w w':=by
 have hb1:=aS w (.cells #[.bool false,.slice none 0 0] 29);have HC:=ank (dF v l _ (hv.below hb1) hlen);have hpos:Hid (decide ((0:Int)<((Na.au (Na.val l)).length:Int))=decide (0<Na.val l)):=by
  show _=_;rw[decide_eq_decide];constructor
  ·intro h;rcases aof (Na.val l)with h0 | h0
   ·rw[h0,Na.nT]at h; simp at h
   exact h0
  intro h;have:(Na.au (Na.val l)).length≠0:=fun h'=>by
   have:=Na.jU.1 (aoB h'); omega
  omega
 rcases Bool.eq_false_or_eq_true neg with rfl | rfl;all_goals
  go_enter func204,ntmps204
  go_wp2_with fail
  refine HC.out.mono ?_
  rintro e w1 ⟨v',rfl,ho,hb2⟩
  have hrow:=aZ ho
  have hoff:=Ot ho
  obtain⟨hc,hf,hz⟩:=mQ hb2
  have hb0:=Ext.trans' hb1 hb2
  have HB:=ank hb0
  have HR:=ank hrow
  have HO:=ank hoff
  obtain⟨a,cap,rfl⟩:=HR.out.shape
  clear HC ho hrow hb2 hb1 hb0 hoff
  go_wp2_with fail
 ·refine bodyPost_ret (v := .agg #[.bool ((0:Int)<((Na.au (Na.val l)).length:Int)),.slice a (Na.au (Na.val l)).length cap]) (by simp[results,results204,go_sem,hc]) rfl ⟨_,rfl,⟨_,by rw[ao4,hpos.out],?_⟩,?_⟩
  ·exact⟨HR.out.ch (((Ch.refl _ _).setCell _ _).setCell _ _) (fun _=>HO.out.off (by simp)),HO.out.mono (by simp)⟩
  exact(HB.out.setCell (p:=⟨w.heap.size,0,none⟩) (anw _) _).setCell (p:=⟨w.heap.size,1,none⟩) (anw _) _
 refine bodyPost_ret (v := .agg #[.bool false,.slice a (Na.au (Na.val l)).length cap]) (by simp[results,results204,go_sem,hc]) rfl ⟨_,rfl,⟨_,by rw[apr],?_⟩,?_⟩
 ·exact⟨HR.out.ch (((Ch.refl _ _).setCell _ _).setCell _ _) (fun _=>HO.out.off (by simp)),HO.out.mono (by simp)⟩
 exact(HB.out.setCell (p:=⟨w.heap.size,0,none⟩) (anw _) _).setCell (p:=⟨w.heap.size,1,none⟩) (anw _) _
theorem yH(x:Nat)(w:World)(h:(x:Int)≤9223372036854775807) :
  Calls prog 169 #[.i x] w fun e w'=>∃v,e = .returned v∧aH w.heap.size w' v false x∧Ext w w':=by
 have hN:x<18446744073709551616:=by omega
 obtain⟨y,rfl⟩:∃y:UInt64,x=y.toNat:=⟨UInt64.ofNat x,by simp; omega⟩;have h0:¬(y.toNat:Int)<0:=by omega
 have hyl:=y.toNat_lt;have hw:=adt y;have hb0:=aS w (.cells #[.bool false,.slice none 0 0] 29);have hr:aG ((w.alloc (.cells #[.bool false,.slice none 0 0] 29)).alloc (.cells #[aU y.toUInt32,aU (y>>>32).toUInt32] 194)) (.slice (some ⟨w.heap.size+1,0,none⟩) 2 2) [y.toUInt32,(y>>>32).toUInt32]:=by
  have:=VE (w.alloc (.cells #[.bool false,.slice none 0 0] 29)) [y.toUInt32,(y>>>32).toUInt32] (f:=aU) 194 (by unfold maxLen; simp);simpa using this
 have hI:=tZ false _ _ _ hr (by simp);rw[Px]at hI;have HI:=ank hI;have HB:=ank (hb0.alloc (by simp) (.cells #[aU y.toUInt32,aU (y>>>32).toUInt32] 194));clear hr hI hb0;have HE:Hid (((y>>>32).toNat:Int)=((y>>>32).toUInt32.toNat:Int)):=by
  show _=_;rw[←y9,←MO]; omega
 go_enter func169,ntmps169
 go_wp2_with fail
 rw[y9,MO,HE.out];refine HI.out.mono ?_;rintro e w2 ⟨z,rfl,⟨s,rfl,hs,fs⟩,hb2⟩;obtain⟨b1,d1,rfl⟩:=hs.shape;have r0:∀i,w2.cell? ⟨w.heap.size,i,none⟩ = #[Value.bool false,.slice none 0 0][i]?:=fun i=>by rw[hb2.cell (p:=⟨w.heap.size,i,none⟩) (by simp; omega)]; simp[go_sem]
 have f0:∀i,w2.frozen? ⟨w.heap.size,i,none⟩=false:=fun i=>by rw[hb2.frozen (p:=⟨w.heap.size,i,none⟩) (by simp; omega)]; simp[go_sem]
 have hz:w.heap.size<w2.heap.size:=by have:=hb2.size; simp at this; omega
 have HX:=ank (Ext.trans' HB.out hb2);have F:=ank (And.intro hs fs);clear hs fs hb2 HI;go_wp2_with fail
 refine bodyPost_ret (v := .agg #[.bool false,.slice b1 (Na.au y.toNat).length d1]) (by simp[results,results169,go_sem,r0]) rfl ⟨_,rfl,⟨_,rfl,?_,?_⟩,?_⟩
 ·exact F.out.1.ch (((Ch.refl w.heap.size _).setCell 0 _).setCell 1 _) (fun _=>F.out.2.off (by simp; omega))
 ·exact F.out.2.mono (by simp; omega)
 exact(HX.out.setCell (p:=⟨_,0,none⟩) (by simp only; omega) _).setCell (p:=⟨_,1,none⟩) (by simp only; omega) _
theorem qZ(neg:Bool)(s:Value)(l:List UInt32)(w:World)(hv:aG w s l)(hlen:l.length≤100000000) :
  Calls prog 186 #[.agg #[.bool neg,s]] w fun e w'=>e = .returned (.i (uq neg (Na.val l)))∧Ext w w':=by
 have hb1:=aS w (.cells #[.bool neg,s] 29);have HC:=ank (tZ neg s l _ (hv.below hb1) (by omega));have HB:=ank hb1;obtain⟨a,cap,rfl⟩:=hv.shape;clear hv hb1;by_cases h0:Na.val l=0
 ·have hs:Hid (uq neg (Na.val l)=0):=by show _=_; unfold uq; rw[anv h0]
  have hd:(((Na.au (Na.val l)).length:Int)==0)=true:=by rw[h0]; rfl
  clear h0;go_enter func186,ntmps186
  go_wp2_with fail
  refine HC.out.mono ?_;rintro e w' ⟨x,rfl,⟨t,rfl,ht,ft⟩,hb⟩;obtain⟨b1,d1,rfl⟩:=ht.shape;have HX:=ank (Ext.trans' HB.out hb);have hsz:=HX.out.size;clear ht ft hb HC HB;go_wp2_with fail
  go_ret
  exact⟨by rw[hs.out]; rfl,HX.out.alloc hsz _⟩
 have hd:(((Na.au (Na.val l)).length:Int)==0)=false:=by
  rw[anI];intro h;exact h0 (wB (by omega))
 have hs0:Hid (∀neg,uq neg (Na.val l)=if neg then -1 else 1):=fun neg=>anq h0;have hp:decide (0<Na.val l)=true:=aoi (by omega);rw[hp]at HC;clear h0 hp;rcases Bool.eq_false_or_eq_true neg with rfl | rfl;all_goals
  go_enter func186,ntmps186
  go_wp2_with fail
  refine HC.out.mono ?_
  rintro e w' ⟨x,rfl,⟨t,rfl,ht,ft⟩,hb⟩
  obtain⟨b1,d1,rfl⟩:=ht.shape
  have HX:=ank (Ext.trans' HB.out hb)
  have hsz:=HX.out.size
  clear ht ft hb HC HB
  go_wp2_with fail
  go_ret
  exact⟨by rw[hs0.out]; rfl,HX.out.alloc hsz _⟩
theorem Hz(neg:Bool)(s:Value)(l:List UInt32)(w:World)(hv:aG w s l)(hlen:l.length≤100000000) :
  Calls prog 219 #[.agg #[.bool neg,s]] w fun e w'=>∃x,e = .returned x∧aH w.heap.size w' x (!neg&&decide (0<Na.val l)) (Na.val l)∧Ext w w':=by
 have hb0:=aS w (.cells #[.bool neg,s] 29);have hb1:=hb0.alloc (by simp) (.cells #[.bool false,.slice none 0 0] 29);have HC:=ank (tZ (!neg) s l _ (hv.below hb1) (by omega));have HB:=ank hb1;obtain⟨a,cap,rfl⟩:=hv.shape;clear hv hb1 hb0;go_enter func219,ntmps219
 go_wp2_with fail
 refine HC.out.mono ?_;rintro e w2 ⟨z,rfl,⟨s,rfl,hs,fs⟩,hb2⟩;obtain⟨b1,d1,rfl⟩:=hs.shape;have r0:∀i,w2.cell? ⟨w.heap.size+1,i,none⟩ = #[Value.bool false,.slice none 0 0][i]?:=fun i=>by rw[hb2.cell (p:=⟨w.heap.size+1,i,none⟩) (by simp)]; simp[go_sem]
 have f0:∀i,w2.frozen? ⟨w.heap.size+1,i,none⟩=false:=fun i=>by rw[hb2.frozen (p:=⟨w.heap.size+1,i,none⟩) (by simp)]; simp[go_sem]
 have hz:w.heap.size+1<w2.heap.size:=by have:=hb2.size; simp at this; omega
 have HX:=ank (Ext.trans' HB.out hb2);have F:=ank (And.intro hs fs);generalize hnb:(!neg&&decide (0<Na.val l))=nb at *;have HNB:=ank hnb;clear hs fs hb2 HC hnb;go_wp2_with fail
 refine bodyPost_ret (v := .agg #[.bool nb,.slice b1 (Na.au (Na.val l)).length d1]) (by simp[results,results219,go_sem,r0]) rfl ⟨_,rfl,⟨_,by rw[HNB.out],?_,?_⟩,?_⟩
 ·exact F.out.1.ch (((Ch.refl (w.heap.size+1) _).setCell 0 _).setCell 1 _) (fun _=>F.out.2.off (by simp))
 ·exact F.out.2.mono (by simp; omega)
 exact(HX.out.setCell (p:=⟨_,0,none⟩) (by simp only; omega) _).setCell (p:=⟨_,1,none⟩) (by simp only; omega) _
theorem pG(x:Nat)(w:World)(h:(x:Int)≤9223372036854775807) :
  Calls prog 129 #[.i x] w fun e w'=>∃v,e = .returned v∧aA w.heap.size w' v false x 1∧Ext w w':=by
 have hb0:=aS w (.cells #[.bool false,.slice none 0 0,.bool false,.slice none 0 0] 31);have H1:=ank (yH x (w.alloc (.cells #[.bool false,.slice none 0 0,.bool false,.slice none 0 0] 31)) h);have HB0:=ank hb0;clear hb0;go_enter func129,ntmps129
 go_wp2_with fail
 refine H1.out.mono ?_;rintro e w1 ⟨y,rfl,⟨s,rfl,hs,fs⟩,hb1⟩;have h2:=yH 1 w1 (by decide);have H2:=ank h2;have HS:=ank (And.intro hs fs);have HB1:=ank hb1;clear h2 H1 hs fs hb1;go_wp2_with fail
 refine H2.out.mono ?_;rintro e w2 ⟨y,rfl,⟨t,rfl,ht,ft⟩,hb2⟩;obtain⟨b1,d1,rfl⟩:=HS.out.1.shape;obtain⟨b2,d2,rfl⟩:=ht.shape;obtain⟨r0,f0,hz⟩:=mQ (Ext.trans' HB1.out hb2);obtain⟨-,-,hz1⟩:=mQ HB1.out;have F:=ank (And.intro (HS.out.1.below hb2) (And.intro ht (And.intro HS.out.2 ft)));have HX:=ank (Ext.trans' HB0.out (Ext.trans' HB1.out hb2));clear ht ft hb2 H2;go_wp2_with fail
 refine bodyPost_ret (v := .agg #[.bool false,.slice b1 (Na.au x).length d1,.bool false,.slice b2 (Na.au 1).length d2]) (by simp[results,results129,go_sem,r0]) rfl ⟨_,rfl,⟨_,_,rfl,?_,?_,?_,?_⟩,?_⟩
 ·exact F.out.1.ch (((((Ch.refl w.heap.size _).setCell _ _).setCell _ _).setCell _ _).setCell _ _) (fun _=>F.out.2.2.1.off (by simp))
 ·exact F.out.2.1.ch (((((Ch.refl w.heap.size _).setCell _ _).setCell _ _).setCell _ _).setCell _ _) (fun _=>F.out.2.2.2.off hz1)
 ·exact F.out.2.2.1.mono (by simp)
 ·exact F.out.2.2.2.mono (by omega)
 exact(((HX.out.setCell (p:=⟨_,0,none⟩) (by simp only; omega) _).setCell (p:=⟨_,1,none⟩) (by simp only; omega) _).setCell (p:=⟨_,2,none⟩) (by simp only; omega) _).setCell (p:=⟨_,3,none⟩) (by simp only; omega) _
end
end Go.Proofs.YtfmkkemfhjkajaaGreatDoor
