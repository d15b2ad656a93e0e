/- Walk of the reference on natural numbers: Mul. Walks of -/
import Derived.Test.YtfmkkemfhjkajaaGreatDoorPk5
import Derived.IntWalk
import Derived.Test.YtfmkkemfhjkajaaGreatDoorRefNat
import Derived.Test.YtfmkkemfhjkajaaGreatDoorRat
set_option linter.unusedVariables false
namespace Go.Proofs.YtfmkkemfhjkajaaGreatDoor
section
set_option maxHeartbeats 1600000
set_option maxRecDepth 100000
open Go.RowKit
variable{α:Type}
theorem TG(v u:Value)(l m:List UInt32)(w:World)(hv:aC w v l)(hu:aC w u m)(hl:l.length≤50000000)(hm:m.length≤50000000) :
  Calls Tryz.prog 205 #[v,u] w fun e w'=>∃v',e = .returned v'∧ED w.heap.size w' v' (Na.au (Na.val l*Na.val m))∧Ext w w':=by
 have H1:=Lib.hid hv;have H2:=Lib.hid hu;obtain⟨a1,c1,rfl⟩:=hv.shape;obtain⟨a2,c2,rfl⟩:=hu.shape;clear hv hu;obtain⟨N,hN⟩:∃N,N=l.length+m.length+1:=⟨_,rfl⟩;have hNN:((l.length:Int)+(m.length:Int)+1)=(N:Int):=by omega
 have hN1:N≤100000001:=by omega
 have h63:N≤maxLen:=by unfold maxLen; omega
 have hby:4*N≤281474976710656:=by omega
 have HN:=Lib.hid hN;clear hN;go_enter Tryz.func205,Tryz.ntmps205
 go_wp2_with (at_make; refine wpList_make_row rfl _ _ _ rfl kQ rfl w.heap.size N rfl rfl rfl hby h63 (Nat.le_refl _) ?_; intro w1 hown hg)
 have hb1:=iC (Below.refl w.heap.size w) hg (Nat.le_refl _);clear hg;have HO:=Lib.hid hown;clear hown hNN;go_loopw [6] (fun iv wr=>∃(i:Nat) (out:List UInt32),i≤l.length∧iv = .i i∧out.length=N∧Na.val out=Na.val (l.take i)*Na.val m∧Na.Clear (i+m.length) out ∧
  wr.ownsRow w.heap.size 194 1 (.slice (some ⟨w.heap.size,0,none⟩) N N) N (out.map aU)∧Ext w wr) (fun iv _=>l.length-(intOf iv).toNat)
 case atStart=>exact⟨0,List.replicate N 0,Nat.zero_le _,rfl,by simp,by rw[Na.Dj]; simp[Na.val],(Na.JO N).mono (Nat.zero_le _),by simpa[aU]using HO.out,hb1⟩
 case round =>
  obtain⟨i,out,hi,rfl,hol,hval,aaO,hown,hbel⟩:=hrel;have HOL:=Lib.hid hol;have nX:=Lib.hid hval;have HW:=Lib.hid hown;have HC:=Lib.hid aaO;have HB:=Lib.hid hbel;clear hol hval hown aaO HO hbel;by_cases hlt:i<l.length
  ·obtain⟨wo,rfl⟩:∃wo:World,wo=wr:=⟨_,rfl⟩;obtain⟨bx,ox,cx,hxs,hbx,hlx,hmx,hcx⟩:=eY H1.out rfl (by omega);simp only[Value.slice.injEq]at hxs;obtain⟨rfl,-,-⟩:=hxs;have HCK:=Lib.hid (fun(wr:World) (h:Ext w wr)=>(h.cell (p:=⟨bx,ox+i,none⟩) hbx).trans (hcx i hlt));have T0:=Lib.hid (Na.bT l i hlt);clear hcx;generalize l[i]=x at *;have g0:=x.toNat_lt;have x0:=fO x;have hi1:(0:Int)≤(i:Int):=by omega
   have hi2:(i:Int)<(l.length:Int):=by omega
   go_wp2_with fail
   go_loopw [7,8] (fun cv kv wr=>∃(k c:Nat) (o2:List UInt32),k≤m.length∧kv = .i k∧cv = .int .u64 c∧c<4294967296∧o2.length=N∧Na.val o2+Na.B^(i+k)*c=Na.val out+Na.B^i*(x.toNat*Na.val (m.take k)) ∧
    Na.Clear (i+m.length) o2∧wr.ownsRow w.heap.size 194 1 (.slice (some ⟨w.heap.size,0,none⟩) N N) N (o2.map aU)∧Ext w wr) (fun _ kv _=>m.length-(intOf kv).toNat)
   case atStart=>exact⟨0,0,out,Nat.zero_le _,rfl,rfl,by omega,HOL.out,by simp[Na.val],HC.out,HW.out,HB.out⟩
   case round =>
    obtain⟨k,c,o2,hk,rfl,rfl,hc,aaP,Pv,Px,hown2,Py⟩:=hrel;have LH:=Lib.hid aaP;have GV:=Lib.hid Pv;have HW2:=Lib.hid hown2;have HC2:=Lib.hid Px;have HB2:=Lib.hid Py;have hNi:i+m.length<N:=by have:=HN.out; omega
    clear aaP Pv hown2 Px Py HW HC HB HOL;by_cases hkl:k<m.length
    ·have hck:=HCK.out wr HB2.out;obtain⟨by',oy,cy,hys,aeY,hly,hmy,hcy⟩:=eY H2.out rfl (by omega);simp only[Value.slice.injEq]at hys;obtain⟨rfl,-,-⟩:=hys;have hcl:wr.cell? ⟨by',oy+k,none⟩=some (aU m[k]):=by rw[HB2.out.cell (p:=⟨by',oy+k,none⟩) aeY]; exact hcy k hkl
     have T1:=Lib.hid (Na.bT m k hkl);generalize m[k]=y at *;have aeZ:i+k<N:=by omega
     have GX:i+k<o2.length:=by rw[LH.out]; exact aeZ
     have hco:=HW2.out.cellAt (i+k) (by omega);rw[List.getElem?_map,List.getElem?_eq_getElem GX,Option.map_some]at hco;have hog:o2.getD (i+k) 0=o2[i+k]:=by simp[List.getD,List.getElem?_eq_getElem GX]
     have hfz:=HW2.out.frozenAt (i+k);generalize o2[i+k]=o at *;have g1:=y.toNat_lt;have g2:=o.toNat_lt;have y0:=fO y;have o0:=fO o;obtain⟨t,s,n,ht,hs,hn,hmul,hs1,hs2,hnb⟩:=Pz g0 g1 g2 hc;have hs3:IntKind.u64.wrap ((s:Int)+(c:Int))=(n:Int):=(congrArg IntKind.u64.wrap (Int.add_comm _ _)).trans hs2;have HST:=Lib.hid (Na.PD (t:=t) GX GV.out (show n=t+(o2.getD (i+k) 0).toNat+c by rw[hog]; omega));rw[ht]at HST;have hmod:(n:Int)%4294967296=((UInt32.ofNat n).toNat:Int):=dgI n;have hdiv:(n:Int)/4294967296=((n/Na.B:Nat):Int):=dvI n;have hc':n/Na.B<4294967296:=Nat.div_lt_of_lt_mul hnb;generalize hq:n/Na.B=c' at *;obtain⟨d,hd⟩:∃d,UInt32.ofNat n=d:=⟨_,rfl⟩;rw[hd]at hmod HST;have hk1:(0:Int)≤(k:Int):=by omega
     have hk2:(k:Int)<(m.length:Int):=by omega
     have aiu:IntKind.i64.wrap ((i:Int)+(k:Int))=(i:Int)+(k:Int):=IntWalk.i64_in _ (by omega);have ajV:(0:Int)≤(i:Int)+(k:Int):=by omega
     have ajW:(i:Int)+(k:Int)<(N:Int):=by omega
     have ajX:((i:Int)+(k:Int)).toNat=i+k:=by omega
     clear hcy hog ht hs hn hq hd hnb GV;go_wp2_with fail
     go_quiet (fail)
     clear aiu;go_wp2_with fail
     go_roundw
     case rel =>
      refine⟨k+1,c',o2.set (i+k) d,by omega,by go_num,rfl,hc',by rw[List.length_set]; exact LH.out,?_,HC2.out.set (by omega),by rw[List.map_set]; exact((jc HW2.out (below_drewN Ext.rfl' _)).stored (i+k) (aU d)).1,(below_drewN HB2.out _).setCell (p:=⟨w.heap.size,i+k,none⟩) (Nat.le_refl _) _⟩;rw[←Nat.add_assoc,HST.out,T1.out,Na.VF]
     case measure=>simp[intOf]; omega
    obtain rfl:k=m.length:=by omega
    have GX:i+m.length<o2.length:=by rw[LH.out]; exact hNi
    have HST:=Lib.hid (Na.VG GX GV.out (HC2.out _ (Nat.le_refl _)) hc);obtain⟨d,rfl⟩:∃d:UInt32,c=d.toNat:=⟨UInt32.ofNat c,(bJ hc).symm⟩;rw[show UInt32.ofNat d.toNat=d by simp]at HST;obtain⟨⟨cv,hcell⟩,hfz⟩:=qV HW2.out (i+m.length) hNi;have hst:=HW2.out.stored (i+m.length) (aU d);rw[←List.map_set]at hst;have HS:=Lib.hid hst;clear hst;go_wp2_with fail
    go_roundw
    case rel =>
     refine⟨i+1,o2.set (i+m.length) d,by omega,by go_num,by rw[List.length_set]; exact LH.out,?_,by rw[show i+1+m.length=i+m.length+1 by omega]; exact HC2.out.TA,HS.out.1,HB2.out.setCell (p:=⟨w.heap.size,i+m.length,none⟩) (Nat.le_refl _) _⟩;rw[HST.out,nX.out,List.take_length,Na.PE,T0.out]
    case measure=>simp[intOf]; omega
  obtain rfl:i=l.length:=by omega
  have hs:=dD _ _ _ (qE HOL.out HW.out) (by rw[HOL.out]; omega);rw[nX.out,List.take_length]at hs;have HS:=Lib.hid hs;clear hs;go_wp2_with fail
  refine HS.out.mono ?_;rintro e w' ⟨v',rfl,hr,hb⟩;have HR:=Lib.hid (fF hr HB.out.size);have HX:=Lib.hid (Ext.trans' HB.out hb);clear hr hb;go_wp2_with fail
  go_ret
  exact⟨_,rfl,HR.out,HX.out⟩
theorem XV(v u:Value)(l m:List UInt32)(w:World)(hv:aC w v l)(hu:aC w u m)(hlt:Na.val l<Na.val m) :
  Calls Tryz.prog 253 #[v,u] w fun e w'=>e = .returned (.tuple #[.slice none 0 0,.bool false])∧Ext w w':=by
 have hc:=Ak v u l m w hv hu;rw[yN hlt]at hc;have HC:=Lib.hid hc;obtain⟨a1,c1,rfl⟩:=hv.shape;obtain⟨a2,c2,rfl⟩:=hu.shape;clear hc hv hu hlt;go_enter Tryz.func253,Tryz.ntmps253
 go_wp2_with fail
 refine HC.out.mono ?_;rintro e w' ⟨rfl,hb⟩;have HB:=Lib.hid hb;clear hb;go_wp2_with fail
 go_ret2
 exact⟨rfl,HB.out⟩
end
section
set_option maxHeartbeats 800000
set_option maxRecDepth 100000
open Go.RowKit
variable{α:Type}
theorem TJ(v u:Value)(l m:List UInt32)(w:World)(hv:aC w v l)(hu:aC w u m)(hlen:l.length≤5000000)(hlen2:m.length≤5000000) :
  Calls Tryz.prog 218 #[v,u] w fun e w'=>∃g,e = .returned g∧aC w' g (Na.au (Nat.gcd (Na.val l) (Na.val m)))∧Ext w w':=by
 have C1:=Lib.hid (dD v l w hv (by omega));have hla:=bF l;have hlb:=bF m;go_enter Tryz.func218,Tryz.ntmps218
 go_wp2_with fail
 refine C1.out.mono ?_;rintro e w1 ⟨x,rfl,hx,hb1⟩;have hx:=bf hx;go_wp2_with fail
 refine(dD u m w1 (hu.below hb1) (by omega)).mono ?_;rintro e w2 ⟨y,rfl,hy,hb2⟩;have hy:=bf hy;have hx2:=hx.below hb2;have aeH:=Ext.trans' hb1 hb2;clear hx C1 hv hu;have HX:=Lib.hid hx2;have HY:=Lib.hid hy;clear hx2 hy;go_wp2_with fail
 go_loopw [5,6,7,8,9] (fun x y _ _ _ wr=>∃(A B:Nat),aC wr x (Na.au A)∧aC wr y (Na.au B)∧Nat.gcd A B=Nat.gcd (Na.val l) (Na.val m)∧(Na.au A).length≤5000000∧(Na.au B).length≤5000000∧Ext w wr) (fun _ y _ _ _ wr=>valOf wr y)
 case atStart=>exact⟨(Na.val l),(Na.val m),HX.out,HY.out,rfl,by omega,by omega,aeH⟩
 case round =>
  obtain⟨A,B,hx,hy,hg,hlA,hlB,hbel⟩:=hrel;have HM:=Lib.hid (BF hy);have HG:=Lib.hid hg;have HX:=Lib.hid hx;have HY:=Lib.hid hy;clear hg hx hy;obtain⟨ay,cy,rfl⟩:=HY.out.shape;rcases Nat.eq_zero_or_pos B with rfl | hB
  ·have h0:((Na.au 0).length:Int)=0:=by rw[Na.jW.2 rfl]; rfl
   go_wp2_with fail
   go_ret
   refine⟨_,rfl,?_,hbel⟩;rw[←HG.out,Nat.gcd_zero_right];exact HX.out
  have h0:(0:Int)<((Na.au B).length:Int):=by
   have:(Na.au B).length≠0:=fun h=>by have:=vw h; omega
   omega
  have hD:=zF _ _ _ _ wr HX.out HY.out (by rw[Na.aJ]; exact hB) hlA hlB;rw[Na.aJ,Na.aJ]at hD;have HD:=Lib.hid hD;clear hD;go_wp2_with fail
  refine HD.out.mono ?_;rintro e w' ⟨q,r,rfl,hq,hr,hb⟩;have HR:=Lib.hid (bf hr);have HY':=Lib.hid (HY.out.below hb);clear hq hr;go_wp2_with fail
  go_roundw
  case rel =>
   refine⟨B,A%B,HY'.out,HR.out,?_,hlB,?_,Ext.trans' hbel hb⟩
   ·rw[←HG.out,Nat.gcd_comm A B,Nat.gcd_rec B A,Nat.gcd_comm]
   exact Nat.le_trans (fQ (Nat.le_of_lt (Nat.mod_lt A hB))) hlB
  case measure =>
   rw[BF HR.out,HM.out,Na.aJ,Na.aJ];exact Nat.mod_lt _ hB
theorem sK(neg:Bool)(v:Value)(l:List UInt32)(w:World)(hv:aC w v l)(hlen:l.length≤1000000000) :
  Calls Tryz.prog 204 #[.bool neg,v] w fun e w'=>∃x,e = .returned x∧aG w.heap.size w' x (neg&&decide (0<Na.val l)) (Na.val l)∧Ext w w':=by
 have hb1:=aT w (.cells #[.bool false,.slice none 0 0] 29);have HC:=Lib.hid (dD v l _ (hv.below hb1) hlen);have hpos:Hid (decide ((0:Int)<((Na.au (Na.val l)).length:Int))=decide (0<Na.val l)):=by
  show _=_;rw[decide_eq_decide];constructor
  ·intro h;rcases Nat.eq_zero_or_pos (Na.val l)with h0 | h0
   ·rw[h0,Na.ni]at h; simp at h
   exact h0
  intro h;have:(Na.au (Na.val l)).length≠0:=fun h'=>by
   have:=Na.jW.1 (List.eq_nil_of_length_eq_zero h'); omega
  omega
 rcases Bool.eq_false_or_eq_true neg with rfl | rfl;all_goals
  go_enter Tryz.func204,Tryz.ntmps204
  go_wp2_with fail
  refine HC.out.mono ?_
  rintro e w1 ⟨v',rfl,ho,hb2⟩
  have hrow:=bf ho
  have hoff:=ND ho
  obtain⟨hc,hf,hz⟩:=lY hb2
  have hb0:=Ext.trans' hb1 hb2
  have HB:=Lib.hid hb0
  have HR:=Lib.hid hrow
  have HO:=Lib.hid hoff
  obtain⟨a,cap,rfl⟩:=HR.out.shape
  clear HC ho hrow hb2 hb1 hb0 hoff
  go_wp2_with fail
 ·refine bodyPost_ret (v := .agg #[.bool ((0:Int)<((Na.au (Na.val l)).length:Int)),.slice a (Na.au (Na.val l)).length cap]) (by simp[results,Tryz.results204,go_sem,hc]) rfl ⟨_,rfl,⟨_,by rw[Bool.true_and,hpos.out],?_⟩,?_⟩
  ·exact⟨HR.out.ch (((Ch.refl _ _).setCell _ _).setCell _ _) (fun _=>HO.out.off (by simp)),HO.out.mono (by simp)⟩
  exact(HB.out.setCell (p:=⟨w.heap.size,0,none⟩) (Nat.le_refl _) _).setCell (p:=⟨w.heap.size,1,none⟩) (Nat.le_refl _) _
 refine bodyPost_ret (v := .agg #[.bool false,.slice a (Na.au (Na.val l)).length cap]) (by simp[results,Tryz.results204,go_sem,hc]) rfl ⟨_,rfl,⟨_,by rw[Bool.false_and],?_⟩,?_⟩
 ·exact⟨HR.out.ch (((Ch.refl _ _).setCell _ _).setCell _ _) (fun _=>HO.out.off (by simp)),HO.out.mono (by simp)⟩
 exact(HB.out.setCell (p:=⟨w.heap.size,0,none⟩) (Nat.le_refl _) _).setCell (p:=⟨w.heap.size,1,none⟩) (Nat.le_refl _) _
theorem xW(x:Nat)(w:World)(h:(x:Int)≤9223372036854775807) :
  Calls Tryz.prog 169 #[.i x] w fun e w'=>∃v,e = .returned v∧aG w.heap.size w' v false x∧Ext w w':=by
 have hN:x<18446744073709551616:=by omega
 obtain⟨y,rfl⟩:∃y:UInt64,x=y.toNat:=⟨UInt64.ofNat x,by simp; omega⟩;have h0:¬(y.toNat:Int)<0:=by omega
 have hyl:=y.toNat_lt;have hw:=ab4 y;have hb0:=aT w (.cells #[.bool false,.slice none 0 0] 29);have hr:aC ((w.alloc (.cells #[.bool false,.slice none 0 0] 29)).alloc (.cells #[aU y.toUInt32,aU (y>>>32).toUInt32] 194)) (.slice (some ⟨w.heap.size+1,0,none⟩) 2 2) [y.toUInt32,(y>>>32).toUInt32]:=by
  have:=UM (w.alloc (.cells #[.bool false,.slice none 0 0] 29)) [y.toUInt32,(y>>>32).toUInt32] (f:=aU) 194 (by unfold maxLen; simp);simpa using this
 have hI:=sK false _ _ _ hr (by simp);rw[OM]at hI;have HI:=Lib.hid hI;have HB:=Lib.hid (hb0.alloc (by simp) (.cells #[aU y.toUInt32,aU (y>>>32).toUInt32] 194));clear hr hI hb0;have HE:Hid (((y>>>32).toNat:Int)=((y>>>32).toUInt32.toNat:Int)):=by
  show _=_;rw[←yM,←Lu]; omega
 go_enter Tryz.func169,Tryz.ntmps169
 go_wp2_with fail
 rw[yM,Lu,HE.out];refine HI.out.mono ?_;rintro e w2 ⟨z,rfl,⟨s,rfl,hs,fs⟩,hb2⟩;obtain⟨b1,d1,rfl⟩:=hs.shape;have r0:∀i,w2.cell? ⟨w.heap.size,i,none⟩ = #[Value.bool false,.slice none 0 0][i]?:=fun i=>by rw[hb2.cell (p:=⟨w.heap.size,i,none⟩) (by simp; omega)]; simp[go_sem]
 have f0:∀i,w2.frozen? ⟨w.heap.size,i,none⟩=false:=fun i=>by rw[hb2.frozen (p:=⟨w.heap.size,i,none⟩) (by simp; omega)]; simp[go_sem]
 have hz:w.heap.size<w2.heap.size:=by have:=hb2.size; simp at this; omega
 have HX:=Lib.hid (Ext.trans' HB.out hb2);have F:=Lib.hid (And.intro hs fs);clear hs fs hb2 HI;go_wp2_with fail
 refine bodyPost_ret (v := .agg #[.bool false,.slice b1 (Na.au y.toNat).length d1]) (by simp[results,Tryz.results169,go_sem,r0]) rfl ⟨_,rfl,⟨_,rfl,?_,?_⟩,?_⟩
 ·exact F.out.1.ch (((Ch.refl w.heap.size _).setCell 0 _).setCell 1 _) (fun _=>F.out.2.off (by simp; omega))
 ·exact F.out.2.mono (by simp; omega)
 exact(HX.out.setCell (p:=⟨_,0,none⟩) (by simp only; omega) _).setCell (p:=⟨_,1,none⟩) (by simp only; omega) _
theorem qF(neg:Bool)(s:Value)(l:List UInt32)(w:World)(hv:aC w s l)(hlen:l.length≤100000000) :
  Calls Tryz.prog 186 #[.agg #[.bool neg,s]] w fun e w'=>e = .returned (.i (sZ neg (Na.val l)))∧Ext w w':=by
 have hb1:=aT w (.cells #[.bool neg,s] 29);have HC:=Lib.hid (sK neg s l _ (hv.below hb1) (by omega));have HB:=Lib.hid hb1;obtain⟨a,cap,rfl⟩:=hv.shape;clear hv hb1;by_cases h0:Na.val l=0
 ·have hs:Hid (sZ neg (Na.val l)=0):=by show _=_; unfold sZ; rw[if_pos h0]
  have hd:(((Na.au (Na.val l)).length:Int)==0)=true:=by rw[h0]; rfl
  clear h0;go_enter Tryz.func186,Tryz.ntmps186
  go_wp2_with fail
  refine HC.out.mono ?_;rintro e w' ⟨x,rfl,⟨t,rfl,ht,ft⟩,hb⟩;obtain⟨b1,d1,rfl⟩:=ht.shape;have HX:=Lib.hid (Ext.trans' HB.out hb);have hsz:=HX.out.size;clear ht ft hb HC HB;go_wp2_with fail
  go_ret
  exact⟨by rw[hs.out]; rfl,HX.out.alloc hsz _⟩
 have hd:(((Na.au (Na.val l)).length:Int)==0)=false:=by
  rw[beq_eq_false_iff_ne];intro h;exact h0 (vw (by omega))
 have hs0:Hid (∀neg,sZ neg (Na.val l)=if neg then -1 else 1):=fun neg=>if_neg h0;have hp:decide (0<Na.val l)=true:=decide_eq_true (by omega);rw[hp]at HC;clear h0 hp;rcases Bool.eq_false_or_eq_true neg with rfl | rfl;all_goals
  go_enter Tryz.func186,Tryz.ntmps186
  go_wp2_with fail
  refine HC.out.mono ?_
  rintro e w' ⟨x,rfl,⟨t,rfl,ht,ft⟩,hb⟩
  obtain⟨b1,d1,rfl⟩:=ht.shape
  have HX:=Lib.hid (Ext.trans' HB.out hb)
  have hsz:=HX.out.size
  clear ht ft hb HC HB
  go_wp2_with fail
  go_ret
  exact⟨by rw[hs0.out]; rfl,HX.out.alloc hsz _⟩
theorem GY(neg:Bool)(s:Value)(l:List UInt32)(w:World)(hv:aC w s l)(hlen:l.length≤100000000) :
  Calls Tryz.prog 219 #[.agg #[.bool neg,s]] w fun e w'=>∃x,e = .returned x∧aG w.heap.size w' x (!neg&&decide (0<Na.val l)) (Na.val l)∧Ext w w':=by
 have hb0:=aT w (.cells #[.bool neg,s] 29);have hb1:=hb0.alloc (by simp) (.cells #[.bool false,.slice none 0 0] 29);have HC:=Lib.hid (sK (!neg) s l _ (hv.below hb1) (by omega));have HB:=Lib.hid hb1;obtain⟨a,cap,rfl⟩:=hv.shape;clear hv hb1 hb0;go_enter Tryz.func219,Tryz.ntmps219
 go_wp2_with fail
 refine HC.out.mono ?_;rintro e w2 ⟨z,rfl,⟨s,rfl,hs,fs⟩,hb2⟩;obtain⟨b1,d1,rfl⟩:=hs.shape;have r0:∀i,w2.cell? ⟨w.heap.size+1,i,none⟩ = #[Value.bool false,.slice none 0 0][i]?:=fun i=>by rw[hb2.cell (p:=⟨w.heap.size+1,i,none⟩) (by simp)]; simp[go_sem]
 have f0:∀i,w2.frozen? ⟨w.heap.size+1,i,none⟩=false:=fun i=>by rw[hb2.frozen (p:=⟨w.heap.size+1,i,none⟩) (by simp)]; simp[go_sem]
 have hz:w.heap.size+1<w2.heap.size:=by have:=hb2.size; simp at this; omega
 have HX:=Lib.hid (Ext.trans' HB.out hb2);have F:=Lib.hid (And.intro hs fs);generalize hnb:(!neg&&decide (0<Na.val l))=nb at *;have HNB:=Lib.hid hnb;clear hs fs hb2 HC hnb;go_wp2_with fail
 refine bodyPost_ret (v := .agg #[.bool nb,.slice b1 (Na.au (Na.val l)).length d1]) (by simp[results,Tryz.results219,go_sem,r0]) rfl ⟨_,rfl,⟨_,by rw[HNB.out],?_,?_⟩,?_⟩
 ·exact F.out.1.ch (((Ch.refl (w.heap.size+1) _).setCell 0 _).setCell 1 _) (fun _=>F.out.2.off (by simp))
 ·exact F.out.2.mono (by simp; omega)
 exact(HX.out.setCell (p:=⟨_,0,none⟩) (by simp only; omega) _).setCell (p:=⟨_,1,none⟩) (by simp only; omega) _
theorem oI(x:Nat)(w:World)(h:(x:Int)≤9223372036854775807) :
  Calls Tryz.prog 129 #[.i x] w fun e w'=>∃v,e = .returned v∧aA w.heap.size w' v false x 1∧Ext w w':=by
 have hb0:=aT w (.cells #[.bool false,.slice none 0 0,.bool false,.slice none 0 0] 31);have H1:=Lib.hid (xW x (w.alloc (.cells #[.bool false,.slice none 0 0,.bool false,.slice none 0 0] 31)) h);have HB0:=Lib.hid hb0;clear hb0;go_enter Tryz.func129,Tryz.ntmps129
 go_wp2_with fail
 refine H1.out.mono ?_;rintro e w1 ⟨y,rfl,⟨s,rfl,hs,fs⟩,hb1⟩;have h2:=xW 1 w1 (by decide);have H2:=Lib.hid h2;have HS:=Lib.hid (And.intro hs fs);have HB1:=Lib.hid hb1;clear h2 H1 hs fs hb1;go_wp2_with fail
 refine H2.out.mono ?_;rintro e w2 ⟨y,rfl,⟨t,rfl,ht,ft⟩,hb2⟩;obtain⟨b1,d1,rfl⟩:=HS.out.1.shape;obtain⟨b2,d2,rfl⟩:=ht.shape;obtain⟨r0,f0,hz⟩:=lY (Ext.trans' HB1.out hb2);obtain⟨-,-,hz1⟩:=lY HB1.out;have F:=Lib.hid (And.intro (HS.out.1.below hb2) (And.intro ht (And.intro HS.out.2 ft)));have HX:=Lib.hid (Ext.trans' HB0.out (Ext.trans' HB1.out hb2));clear ht ft hb2 H2;go_wp2_with fail
 refine bodyPost_ret (v := .agg #[.bool false,.slice b1 (Na.au x).length d1,.bool false,.slice b2 (Na.au 1).length d2]) (by simp[results,Tryz.results129,go_sem,r0]) rfl ⟨_,rfl,⟨_,_,rfl,?_,?_,?_,?_⟩,?_⟩
 ·exact F.out.1.ch (((((Ch.refl w.heap.size _).setCell _ _).setCell _ _).setCell _ _).setCell _ _) (fun _=>F.out.2.2.1.off (by simp))
 ·exact F.out.2.1.ch (((((Ch.refl w.heap.size _).setCell _ _).setCell _ _).setCell _ _).setCell _ _) (fun _=>F.out.2.2.2.off hz1)
 ·exact F.out.2.2.1.mono (by simp)
 ·exact F.out.2.2.2.mono (by omega)
 exact(((HX.out.setCell (p:=⟨_,0,none⟩) (by simp only; omega) _).setCell (p:=⟨_,1,none⟩) (by simp only; omega) _).setCell (p:=⟨_,2,none⟩) (by simp only; omega) _).setCell (p:=⟨_,3,none⟩) (by simp only; omega) _
end
end Go.Proofs.YtfmkkemfhjkajaaGreatDoor
