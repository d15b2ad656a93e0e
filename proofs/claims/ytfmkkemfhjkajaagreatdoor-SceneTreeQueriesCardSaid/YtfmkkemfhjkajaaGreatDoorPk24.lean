/- Walk of the reference on natural numbers: Mul. Walks of -/
import Derived.Test.YtfmkkemfhjkajaaGreatDoorPk5
import Derived.IntWalk
import Derived.Test.YtfmkkemfhjkajaaGreatDoorRefNat
import Derived.Test.YtfmkkemfhjkajaaGreatDoorRat
import Derived.Test.YtfmkkemfhjkajaaGreatDoorIntW
set_option linter.unusedVariables false
namespace Go.Proofs.YtfmkkemfhjkajaaGreatDoor
section
set_option maxHeartbeats 1600000
set_option maxRecDepth 100000
open Go.RowKit
variable{α:Type}
theorem Q7(v u:Value)(l m:List UInt32)(w:World)(hv:aG w v l)(hu:aG w u m)(hl:l.length≤50000000)(hm:m.length≤50000000) :
  Calls Tryz.prog 205 #[v,u] w fun e w'=>∃v',e = .returned v'∧DF w.heap.size w' v' (Na.au (Na.val l*Na.val m))∧Ext w w':=by
 have H1:=Lib.hid hv
 have H2:=Lib.hid hu
 obtain⟨a1,c1,rfl⟩:=hv.shape
 obtain⟨a2,c2,rfl⟩:=hu.shape
 clear hv hu
 obtain⟨N,hN⟩:∃N,N=l.length+m.length+1:=⟨_,rfl⟩
 have hNN:((l.length:Int)+(m.length:Int)+1)=(N:Int):=by omega
 have hN1:N≤100000001:=by omega
 have h63:N≤maxLen:=by unfold maxLen; omega
 have hby:4*N≤281474976710656:=by omega
 have HN:=Lib.hid hN
 clear hN
 go_enter Tryz.func205,Tryz.ntmps205
 go_wp2_with (at_make; refine wpList_make_row rfl _ _ _ rfl kP rfl w.heap.size N rfl rfl rfl hby h63 (Nat.le_refl _) ?_; intro w1 hown hg)
 have hb1:=gU (Below.refl w.heap.size w) hg (Nat.le_refl _)
 clear hg
 have HO:=Lib.hid hown
 clear hown hNN
 go_loopw [6] (fun iv wr=>∃(i:Nat) (out:List UInt32),i≤l.length∧iv = .int .i64 i∧out.length=N∧Na.val out=Na.val (l.take i)*Na.val m∧Na.Clear (i+m.length) out ∧
   wr.ownsRow w.heap.size 194 1 (.slice (some ⟨w.heap.size,0,none⟩) N N) N (out.map aW)∧Ext w wr) (fun iv _=>l.length-(intOf iv).toNat)
 case atStart=>exact⟨0,List.replicate N 0,Nat.zero_le _,rfl,by simp,by rw[Na.BI]; simp[Na.val],(Na.Jc N).mono (Nat.zero_le _),by simpa[aW]using HO.out,hb1⟩
 case round =>
  obtain⟨i,out,hi,rfl,hol,hval,Zb,hown,hbel⟩:=hrel
  have HOL:=Lib.hid hol
  have nH:=Lib.hid hval
  have HW:=Lib.hid hown
  have HC:=Lib.hid Zb
  have HB:=Lib.hid hbel
  clear hol hval hown Zb HO hbel
  by_cases hlt:i<l.length
  ·obtain⟨wo,rfl⟩:∃wo:World,wo=wr:=⟨_,rfl⟩
   obtain⟨bx,ox,cx,hxs,hbx,hlx,hmx,hcx⟩:=eF H1.out rfl (by omega)
   simp only[Value.slice.injEq]at hxs
   obtain⟨rfl,-,-⟩:=hxs
   have HCK:=Lib.hid (fun(wr:World) (h:Ext w wr)=>(h.cell (p:=⟨bx,ox+i,none⟩) hbx).trans (hcx i hlt))
   have T0:=Lib.hid (Na.bK l i hlt)
   clear hcx
   generalize l[i]=x at *
   have g0:=x.toNat_lt
   have x0:=fC x
   have hi1:(0:Int)≤(i:Int):=by omega
   have hi2:(i:Int)<(l.length:Int):=by omega
   go_wp2_with fail
   go_loopw [7,8] (fun cv kv wr=>∃(k c:Nat) (o2:List UInt32),k≤m.length∧kv = .int .i64 k∧cv = .int .u64 c∧c<4294967296∧o2.length=N∧Na.val o2+Na.B^(i+k)*c=Na.val out+Na.B^i*(x.toNat*Na.val (m.take k)) ∧
    Na.Clear (i+m.length) o2∧wr.ownsRow w.heap.size 194 1 (.slice (some ⟨w.heap.size,0,none⟩) N N) N (o2.map aW)∧Ext w wr) (fun _ kv _=>m.length-(intOf kv).toNat)
   case atStart=>exact⟨0,0,out,Nat.zero_le _,rfl,rfl,by omega,HOL.out,by simp[Na.val],HC.out,HW.out,HB.out⟩
   case round =>
    obtain⟨k,c,o2,hk,rfl,rfl,hc,Zc,NV,NW,hown2,NY⟩:=hrel
    have Kr:=Lib.hid Zc
    have FK:=Lib.hid NV
    have HW2:=Lib.hid hown2
    have HC2:=Lib.hid NW
    have HB2:=Lib.hid NY
    have hNi:i+m.length<N:=by have:=HN.out; omega
    clear Zc NV hown2 NW NY HW HC HB HOL
    by_cases hkl:k<m.length
    ·have hck:=HCK.out wr HB2.out
     obtain⟨by',oy,cy,hys,adx,hly,hmy,hcy⟩:=eF H2.out rfl (by omega)
     simp only[Value.slice.injEq]at hys
     obtain⟨rfl,-,-⟩:=hys
     have hcl:wr.cell? ⟨by',oy+k,none⟩=some (aW m[k]):=by rw[HB2.out.cell (p:=⟨by',oy+k,none⟩) adx]; exact hcy k hkl
     have T1:=Lib.hid (Na.bK m k hkl)
     generalize m[k]=y at *
     have ady:i+k<N:=by omega
     have FM:i+k<o2.length:=by rw[Kr.out]; exact ady
     have hco:=HW2.out.cellAt (i+k) (by omega)
     rw[List.getElem?_map,List.getElem?_eq_getElem FM,Option.map_some]at hco
     have hog:o2.getD (i+k) 0=o2[i+k]:=by simp[List.getD,List.getElem?_eq_getElem FM]
     have hfz:=HW2.out.frozenAt (i+k)
     generalize o2[i+k]=o at *
     have g1:=y.toNat_lt
     have g2:=o.toNat_lt
     have y0:=fC y
     have o0:=fC o
     obtain⟨t,s,n,ht,hs,hn,hmul,hs1,hs2,hnb⟩:=NZ g0 g1 g2 hc
     have hs3:IntKind.u64.wrap ((s:Int)+(c:Int))=(n:Int):=(congrArg IntKind.u64.wrap (Int.add_comm _ _)).trans hs2
     have HST:=Lib.hid (Na.N7 (t:=t) FM FK.out (show n=t+(o2.getD (i+k) 0).toNat+c by rw[hog]; omega))
     rw[ht]at HST
     have hmod:(n:Int)%4294967296=((UInt32.ofNat n).toNat:Int):=dgI n
     have hdiv:(n:Int)/4294967296=((n/Na.B:Nat):Int):=dvI n
     have hc':n/Na.B<4294967296:=Nat.div_lt_of_lt_mul hnb
     generalize hq:n/Na.B=c' at *
     obtain⟨d,hd⟩:∃d,UInt32.ofNat n=d:=⟨_,rfl⟩
     rw[hd]at hmod HST
     have hk1:(0:Int)≤(k:Int):=by omega
     have hk2:(k:Int)<(m.length:Int):=by omega
     have ahe:IntKind.i64.wrap ((i:Int)+(k:Int))=(i:Int)+(k:Int):=IntWalk.i64_in _ (by omega)
     have ait:(0:Int)≤(i:Int)+(k:Int):=by omega
     have aiu:(i:Int)+(k:Int)<(N:Int):=by omega
     have aiv:((i:Int)+(k:Int)).toNat=i+k:=by omega
     clear hcy hog ht hs hn hq hd hnb FK
     go_wp2_with fail
     go_quiet (fail)
     clear ahe
     go_wp2_with fail
     go_roundw
     case rel =>
      refine⟨k+1,c',o2.set (i+k) d,by omega,by go_num,rfl,hc',by rw[List.length_set]; exact Kr.out,?_,HC2.out.set (by omega),by rw[List.map_set]; exact((iP HW2.out (below_drewN Ext.rfl' _)).stored (i+k) (aW d)).1,(below_drewN HB2.out _).setCell (p:=⟨w.heap.size,i+k,none⟩) (Nat.le_refl _) _⟩
      rw[←Nat.add_assoc,HST.out,T1.out,Na.Ud]
     case measure=>simp[intOf]; omega
    ·obtain rfl:k=m.length:=by omega
     have FM:i+m.length<o2.length:=by rw[Kr.out]; exact hNi
     have HST:=Lib.hid (Na.Ue FM FK.out (HC2.out _ (Nat.le_refl _)) hc)
     obtain⟨d,rfl⟩:∃d:UInt32,c=d.toNat:=⟨UInt32.ofNat c,(bI hc).symm⟩
     rw[show UInt32.ofNat d.toNat=d by simp]at HST
     obtain⟨⟨cv,hcell⟩,hfz⟩:=qp HW2.out (i+m.length) hNi
     have hst:=HW2.out.stored (i+m.length) (aW d)
     rw[←List.map_set]at hst
     have HS:=Lib.hid hst
     clear hst
     go_wp2_with fail
     go_roundw
     case rel =>
      refine⟨i+1,o2.set (i+m.length) d,by omega,by go_num,by rw[List.length_set]; exact Kr.out,?_,by rw[show i+1+m.length=i+m.length+1 by omega]; exact HC2.out.Q5,HS.out.1,HB2.out.setCell (p:=⟨w.heap.size,i+m.length,none⟩) (Nat.le_refl _) _⟩
      rw[HST.out,nH.out,List.take_length,Na.N8,T0.out]
     case measure=>simp[intOf]; omega
  ·obtain rfl:i=l.length:=by omega
   have hs:=dn _ _ _ (pW HOL.out HW.out) (by rw[HOL.out]; omega)
   rw[nH.out,List.take_length]at hs
   have HS:=Lib.hid hs
   clear hs
   go_wp2_with fail
   refine HS.out.mono ?_
   rintro e w' ⟨v',rfl,hr,hb⟩
   have HR:=Lib.hid (eX hr HB.out.size)
   have HX:=Lib.hid (Ext.trans' HB.out hb)
   clear hr hb
   go_wp2_with fail
   go_ret
   exact⟨_,rfl,HR.out,HX.out⟩
theorem V7(v u:Value)(l m:List UInt32)(w:World)(hv:aG w v l)(hu:aG w u m)(hlt:Na.val l<Na.val m) :
  Calls Tryz.prog 253 #[v,u] w fun e w'=>e = .returned (.tuple #[.slice none 0 0,.bool false])∧Ext w w':=by
 have hc:=zF v u l m w hv hu
 rw[xP hlt]at hc
 have HC:=Lib.hid hc
 obtain⟨a1,c1,rfl⟩:=hv.shape
 obtain⟨a2,c2,rfl⟩:=hu.shape
 clear hc hv hu hlt
 go_enter Tryz.func253,Tryz.ntmps253
 go_wp2_with fail
 refine HC.out.mono ?_
 rintro e w' ⟨rfl,hb⟩
 have HB:=Lib.hid hb
 clear hb
 go_wp2_with fail
 go_ret2
 exact⟨rfl,HB.out⟩
end
section
set_option maxHeartbeats 800000
set_option maxRecDepth 100000
open Go.RowKit
variable{α:Type}
theorem Q8(v u:Value)(l m:List UInt32)(w:World)(hv:aG w v l)(hu:aG w u m)(hlen:l.length≤5000000)(hlen2:m.length≤5000000) :
  Calls Tryz.prog 218 #[v,u] w fun e w'=>∃g,e = .returned g∧aG w' g (Na.au (Nat.gcd (Na.val l) (Na.val m)))∧Ext w w':=by
 have C1:=Lib.hid (dn v l w hv (by omega))
 have hla:=bD l
 have hlb:=bD m
 go_enter Tryz.func218,Tryz.ntmps218
 go_wp2_with fail
 refine C1.out.mono ?_
 rintro e w1 ⟨x,rfl,hx,hb1⟩
 have hx:=bn hx
 go_wp2_with fail
 refine(dn u m w1 (hu.below hb1) (by omega)).mono ?_
 rintro e w2 ⟨y,rfl,hy,hb2⟩
 have hy:=bn hy
 have hx2:=hx.below hb2
 have ads:=Ext.trans' hb1 hb2
 clear hx C1 hv hu
 have HX:=Lib.hid hx2
 have HY:=Lib.hid hy
 clear hx2 hy
 go_wp2_with fail
 go_loopw [5,6,7,8,9] (fun x y _ _ _ wr=>∃(A B:Nat),aG wr x (Na.au A)∧aG wr y (Na.au B)∧Nat.gcd A B=Nat.gcd (Na.val l) (Na.val m)∧(Na.au A).length≤5000000∧(Na.au B).length≤5000000∧Ext w wr) (fun _ y _ _ _ wr=>valOf wr y)
 case atStart=>exact⟨(Na.val l),(Na.val m),HX.out,HY.out,rfl,by omega,by omega,ads⟩
 case round =>
  obtain⟨A,B,hx,hy,hg,hlA,hlB,hbel⟩:=hrel
  have HM:=Lib.hid (Aq hy)
  have HG:=Lib.hid hg
  have HX:=Lib.hid hx
  have HY:=Lib.hid hy
  clear hg hx hy
  obtain⟨ay,cy,rfl⟩:=HY.out.shape
  rcases Nat.eq_zero_or_pos B with rfl | hB
  ·have h0:((Na.au 0).length:Int)=0:=by rw[Na.jF.2 rfl]; rfl
   go_wp2_with fail
   go_ret
   refine⟨_,rfl,?_,hbel⟩
   rw[←HG.out,Nat.gcd_zero_right]
   exact HX.out
  ·have h0:(0:Int)<((Na.au B).length:Int):=by
    have:(Na.au B).length≠0:=fun h=>by have:=uG h; omega
    omega
   have hD:=yL _ _ _ _ wr HX.out HY.out (by rw[Na.aI]; exact hB) hlA hlB
   rw[Na.aI,Na.aI]at hD
   have HD:=Lib.hid hD
   clear hD
   go_wp2_with fail
   refine HD.out.mono ?_
   rintro e w' ⟨q,r,rfl,hq,hr,hb⟩
   have HR:=Lib.hid (bn hr)
   have HY':=Lib.hid (HY.out.below hb)
   clear hq hr
   go_wp2_with fail
   go_roundw
   case rel =>
    refine⟨B,A%B,HY'.out,HR.out,?_,hlB,?_,Ext.trans' hbel hb⟩
    ·rw[←HG.out,Nat.gcd_comm A B,Nat.gcd_rec B A,Nat.gcd_comm]
    ·exact Nat.le_trans (fF (Nat.le_of_lt (Nat.mod_lt A hB))) hlB
   case measure =>
    rw[Aq HR.out,HM.out,Na.aI,Na.aI]
    exact Nat.mod_lt _ hB
theorem kT(neg:Bool)(v:Value)(l:List UInt32)(w:World)(hv:aG w v l)(hlen:l.length≤1000000000) :
  Calls Tryz.prog 204 #[.bool neg,v] w fun e w'=>∃x,e = .returned x∧aQ w.heap.size w' x (neg&&decide (0<Na.val l)) (Na.val l)∧Ext w w':=by
 have hb1:=aH w (.cells #[.bool false,.slice none 0 0] 29)
 have HC:=Lib.hid (dn v l _ (hv.below hb1) hlen)
 have hpos:Hid (decide ((0:Int)<((Na.au (Na.val l)).length:Int))=decide (0<Na.val l)):=by
  show _=_
  rw[decide_eq_decide]
  constructor
  ·intro h
   rcases Nat.eq_zero_or_pos (Na.val l)with h0 | h0
   ·rw[h0,Na.kX]at h; simp at h
   ·exact h0
  ·intro h
   have:(Na.au (Na.val l)).length≠0:=fun h'=>by
    have:=Na.jF.1 (List.eq_nil_of_length_eq_zero h'); omega
   omega
 rcases Bool.eq_false_or_eq_true neg with rfl | rfl
 all_goals
  go_enter Tryz.func204,Tryz.ntmps204
  go_wp2_with fail
  refine HC.out.mono ?_
  rintro e w1 ⟨v',rfl,ho,hb2⟩
  have hrow:=bn ho
  have hoff:=LQ ho
  obtain⟨hc,hf,hz⟩:=kL hb2
  have hb0:=Ext.trans' hb1 hb2
  have HB:=Lib.hid hb0
  have HR:=Lib.hid hrow
  have HO:=Lib.hid hoff
  obtain⟨a,cap,rfl⟩:=HR.out.shape
  clear HC ho hrow hb2 hb1 hb0 hoff
  go_wp2_with fail
 ·refine bodyPost_ret (v := .agg #[.bool (decide ((0:Int)<((Na.au (Na.val l)).length:Int))),.slice a (Na.au (Na.val l)).length cap]) (by simp[results,Tryz.results204,go_sem,hc]) rfl ⟨_,rfl,⟨_,by rw[Bool.true_and,hpos.out],?_⟩,?_⟩
  ·exact⟨HR.out.ch (((Ch.refl _ _).setCell _ _).setCell _ _) (fun _=>HO.out.off (by simp)),HO.out.mono (by simp)⟩
  ·exact(HB.out.setCell (p:=⟨w.heap.size,0,none⟩) (Nat.le_refl _) _).setCell (p:=⟨w.heap.size,1,none⟩) (Nat.le_refl _) _
 ·refine bodyPost_ret (v := .agg #[.bool false,.slice a (Na.au (Na.val l)).length cap]) (by simp[results,Tryz.results204,go_sem,hc]) rfl ⟨_,rfl,⟨_,by rw[Bool.false_and],?_⟩,?_⟩
  ·exact⟨HR.out.ch (((Ch.refl _ _).setCell _ _).setCell _ _) (fun _=>HO.out.off (by simp)),HO.out.mono (by simp)⟩
  ·exact(HB.out.setCell (p:=⟨w.heap.size,0,none⟩) (Nat.le_refl _) _).setCell (p:=⟨w.heap.size,1,none⟩) (Nat.le_refl _) _
theorem wS(x:Nat)(w:World)(h:(x:Int)≤9223372036854775807) :
  Calls Tryz.prog 169 #[.int .i64 (x:Int)] w fun e w'=>∃v,e = .returned v∧aQ w.heap.size w' v false x∧Ext w w':=by
 have hN:x<18446744073709551616:=by omega
 obtain⟨y,rfl⟩:∃y:UInt64,x=y.toNat:=⟨UInt64.ofNat x,by simp; omega⟩
 have h0:¬(y.toNat:Int)<0:=by omega
 have hyl:=y.toNat_lt
 have hw:=aaz y
 have hb0:=aH w (.cells #[.bool false,.slice none 0 0] 29)
 have hr:aG ((w.alloc (.cells #[.bool false,.slice none 0 0] 29)).alloc (.cells #[aW y.toUInt32,aW (y>>>32).toUInt32] 194)) (.slice (some ⟨w.heap.size+1,0,none⟩) 2 2) [y.toUInt32,(y>>>32).toUInt32]:=by
  have:=SS (w.alloc (.cells #[.bool false,.slice none 0 0] 29)) [y.toUInt32,(y>>>32).toUInt32] (f:=aW) 194 (by unfold maxLen; simp)
  simpa using this
 have hI:=kT false _ _ _ hr (by simp)
 rw[Nq]at hI
 have HI:=Lib.hid hI
 have HB:=Lib.hid (hb0.alloc (by simp) (.cells #[aW y.toUInt32,aW (y>>>32).toUInt32] 194))
 clear hr hI hb0
 have HE:Hid (((y>>>32).toNat:Int)=((y>>>32).toUInt32.toNat:Int)):=by
  show _=_
  rw[←xO,←J8]; omega
 go_enter Tryz.func169,Tryz.ntmps169
 go_wp2_with fail
 rw[xO,J8,HE.out]
 refine HI.out.mono ?_
 rintro e w2 ⟨z,rfl,⟨s,rfl,hs,fs⟩,hb2⟩
 obtain⟨b1,d1,rfl⟩:=hs.shape
 have r0:∀i,w2.cell? ⟨w.heap.size,i,none⟩ = #[Value.bool false,.slice none 0 0][i]?:=fun i=>by rw[hb2.cell (p:=⟨w.heap.size,i,none⟩) (by simp; omega)]; simp[go_sem]
 have f0:∀i,w2.frozen? ⟨w.heap.size,i,none⟩=false:=fun i=>by rw[hb2.frozen (p:=⟨w.heap.size,i,none⟩) (by simp; omega)]; simp[go_sem]
 have hz:w.heap.size<w2.heap.size:=by have:=hb2.size; simp at this; omega
 have HX:=Lib.hid (Ext.trans' HB.out hb2)
 have F:=Lib.hid (And.intro hs fs)
 clear hs fs hb2 HI
 go_wp2_with fail
 refine bodyPost_ret (v := .agg #[.bool false,.slice b1 (Na.au y.toNat).length d1]) (by simp[results,Tryz.results169,go_sem,r0]) rfl ⟨_,rfl,⟨_,rfl,?_,?_⟩,?_⟩
 ·exact F.out.1.ch (((Ch.refl w.heap.size _).setCell 0 _).setCell 1 _) (fun _=>F.out.2.off (by simp; omega))
 ·exact F.out.2.mono (by simp; omega)
 ·exact(HX.out.setCell (p:=⟨_,0,none⟩) (by simp only; omega) _).setCell (p:=⟨_,1,none⟩) (by simp only; omega) _
theorem pX(neg:Bool)(s:Value)(l:List UInt32)(w:World)(hv:aG w s l)(hlen:l.length≤100000000) :
  Calls Tryz.prog 186 #[.agg #[.bool neg,s]] w fun e w'=>e = .returned (.int .i64 (qP neg (Na.val l)))∧Ext w w':=by
 have hb1:=aH w (.cells #[.bool neg,s] 29)
 have HC:=Lib.hid (kT neg s l _ (hv.below hb1) (by omega))
 have HB:=Lib.hid hb1
 obtain⟨a,cap,rfl⟩:=hv.shape
 clear hv hb1
 by_cases h0:Na.val l=0
 ·have hs:Hid (qP neg (Na.val l)=0):=by show _=_; unfold qP; rw[if_pos h0]
  have hd:(((Na.au (Na.val l)).length:Int)==0)=true:=by rw[h0]; rfl
  clear h0
  go_enter Tryz.func186,Tryz.ntmps186
  go_wp2_with fail
  refine HC.out.mono ?_
  rintro e w' ⟨x,rfl,⟨t,rfl,ht,ft⟩,hb⟩
  obtain⟨b1,d1,rfl⟩:=ht.shape
  have HX:=Lib.hid (Ext.trans' HB.out hb)
  have hsz:=HX.out.size
  clear ht ft hb HC HB
  go_wp2_with fail
  go_ret
  exact⟨by rw[hs.out]; rfl,HX.out.alloc hsz _⟩
 ·have hd:(((Na.au (Na.val l)).length:Int)==0)=false:=by
   rw[beq_eq_false_iff_ne]
   intro h
   exact h0 (uG (by omega))
  have hs0:Hid (∀neg,qP neg (Na.val l)=if neg then -1 else 1):=fun neg=>if_neg h0
  have hp:decide (0<Na.val l)=true:=decide_eq_true (by omega)
  rw[hp]at HC
  clear h0 hp
  rcases Bool.eq_false_or_eq_true neg with rfl | rfl
  all_goals
   go_enter Tryz.func186,Tryz.ntmps186
   go_wp2_with fail
   refine HC.out.mono ?_
   rintro e w' ⟨x,rfl,⟨t,rfl,ht,ft⟩,hb⟩
   obtain⟨b1,d1,rfl⟩:=ht.shape
   have HX:=Lib.hid (Ext.trans' HB.out hb)
   have hsz:=HX.out.size
   clear ht ft hb HC HB
   go_wp2_with fail
   go_ret
   exact⟨by rw[hs0.out]; rfl,HX.out.alloc hsz _⟩
theorem FN(neg:Bool)(s:Value)(l:List UInt32)(w:World)(hv:aG w s l)(hlen:l.length≤100000000) :
  Calls Tryz.prog 219 #[.agg #[.bool neg,s]] w fun e w'=>∃x,e = .returned x∧aQ w.heap.size w' x (!neg&&decide (0<Na.val l)) (Na.val l)∧Ext w w':=by
 have hb0:=aH w (.cells #[.bool neg,s] 29)
 have hb1:=hb0.alloc (by simp) (.cells #[.bool false,.slice none 0 0] 29)
 have HC:=Lib.hid (kT (!neg) s l _ (hv.below hb1) (by omega))
 have HB:=Lib.hid hb1
 obtain⟨a,cap,rfl⟩:=hv.shape
 clear hv hb1 hb0
 go_enter Tryz.func219,Tryz.ntmps219
 go_wp2_with fail
 refine HC.out.mono ?_
 rintro e w2 ⟨z,rfl,⟨s,rfl,hs,fs⟩,hb2⟩
 obtain⟨b1,d1,rfl⟩:=hs.shape
 have r0:∀i,w2.cell? ⟨w.heap.size+1,i,none⟩ = #[Value.bool false,.slice none 0 0][i]?:=fun i=>by rw[hb2.cell (p:=⟨w.heap.size+1,i,none⟩) (by simp)]; simp[go_sem]
 have f0:∀i,w2.frozen? ⟨w.heap.size+1,i,none⟩=false:=fun i=>by rw[hb2.frozen (p:=⟨w.heap.size+1,i,none⟩) (by simp)]; simp[go_sem]
 have hz:w.heap.size+1<w2.heap.size:=by have:=hb2.size; simp at this; omega
 have HX:=Lib.hid (Ext.trans' HB.out hb2)
 have F:=Lib.hid (And.intro hs fs)
 generalize hnb:(!neg&&decide (0<Na.val l))=nb at *
 have HNB:=Lib.hid hnb
 clear hs fs hb2 HC hnb
 go_wp2_with fail
 refine bodyPost_ret (v := .agg #[.bool nb,.slice b1 (Na.au (Na.val l)).length d1]) (by simp[results,Tryz.results219,go_sem,r0]) rfl ⟨_,rfl,⟨_,by rw[HNB.out],?_,?_⟩,?_⟩
 ·exact F.out.1.ch (((Ch.refl (w.heap.size+1) _).setCell 0 _).setCell 1 _) (fun _=>F.out.2.off (by simp))
 ·exact F.out.2.mono (by simp; omega)
 ·exact(HX.out.setCell (p:=⟨_,0,none⟩) (by simp only; omega) _).setCell (p:=⟨_,1,none⟩) (by simp only; omega) _
theorem nY(x:Nat)(w:World)(h:(x:Int)≤9223372036854775807) :
  Calls Tryz.prog 129 #[.int .i64 (x:Int)] w fun e w'=>∃v,e = .returned v∧aA w.heap.size w' v false x 1∧Ext w w':=by
 have hb0:=aH w (.cells #[.bool false,.slice none 0 0,.bool false,.slice none 0 0] 31)
 have H1:=Lib.hid (wS x (w.alloc (.cells #[.bool false,.slice none 0 0,.bool false,.slice none 0 0] 31)) h)
 have HB0:=Lib.hid hb0
 clear hb0
 go_enter Tryz.func129,Tryz.ntmps129
 go_wp2_with fail
 refine H1.out.mono ?_
 rintro e w1 ⟨y,rfl,⟨s,rfl,hs,fs⟩,hb1⟩
 have h2:=wS 1 w1 (by decide)
 have H2:=Lib.hid h2
 have HS:=Lib.hid (And.intro hs fs)
 have HB1:=Lib.hid hb1
 clear h2 H1 hs fs hb1
 go_wp2_with fail
 refine H2.out.mono ?_
 rintro e w2 ⟨y,rfl,⟨t,rfl,ht,ft⟩,hb2⟩
 obtain⟨b1,d1,rfl⟩:=HS.out.1.shape
 obtain⟨b2,d2,rfl⟩:=ht.shape
 obtain⟨r0,f0,hz⟩:=kL (Ext.trans' HB1.out hb2)
 obtain⟨-,-,hz1⟩:=kL HB1.out
 have F:=Lib.hid (And.intro (HS.out.1.below hb2) (And.intro ht (And.intro HS.out.2 ft)))
 have HX:=Lib.hid (Ext.trans' HB0.out (Ext.trans' HB1.out hb2))
 clear ht ft hb2 H2
 go_wp2_with fail
 refine bodyPost_ret (v := .agg #[.bool false,.slice b1 (Na.au x).length d1,.bool false,.slice b2 (Na.au 1).length d2]) (by simp[results,Tryz.results129,go_sem,r0]) rfl ⟨_,rfl,⟨_,_,rfl,?_,?_,?_,?_⟩,?_⟩
 ·exact F.out.1.ch (((((Ch.refl w.heap.size _).setCell _ _).setCell _ _).setCell _ _).setCell _ _) (fun _=>F.out.2.2.1.off (by simp))
 ·exact F.out.2.1.ch (((((Ch.refl w.heap.size _).setCell _ _).setCell _ _).setCell _ _).setCell _ _) (fun _=>F.out.2.2.2.off hz1)
 ·exact F.out.2.2.1.mono (by simp)
 ·exact F.out.2.2.2.mono (by omega)
 ·exact(((HX.out.setCell (p:=⟨_,0,none⟩) (by simp only; omega) _).setCell (p:=⟨_,1,none⟩) (by simp only; omega) _).setCell (p:=⟨_,2,none⟩) (by simp only; omega) _).setCell (p:=⟨_,3,none⟩) (by simp only; omega) _
end
section
set_option maxHeartbeats 1600000
set_option maxRecDepth 100000
open Go.RowKit
variable{α:Type}
theorem CS(v u:Value)(l m:List UInt32)(w:World)(hv:aG w v l)(hu:aG w u m)(hl:l.length≤100000000) :
  Calls Tryz.prog 253 #[v,u] w fun e w'=>∃a n c,e = .returned (.tuple #[.slice a n c,.bool (decide (Na.val m≤Na.val l))])∧(Na.val m≤Na.val l→aG w' (.slice a n c) (Na.au (Na.val l-Na.val m)))∧Ext w w':=by
 by_cases h:Na.val m≤Na.val l
 ·refine(zG v u l m w hv hu hl h).mono ?_
  rintro e w' ⟨v',rfl,h1,h2⟩
  have h1:aG _ _ _:=bn h1
  obtain⟨a,c,rfl⟩:=h1.shape
  exact⟨a,_,c,by simp only[decide_eq_true h],fun _=>h1,h2⟩
 ·refine(V7 v u l m w hv hu (by omega)).mono ?_
  rintro e w' ⟨rfl,h2⟩
  exact⟨none,0,0,by simp only[decide_eq_false h],fun h3=>absurd h3 h,h2⟩
theorem Ii{w:World}{s:Value}{z:Int}(hs:aG w s (Na.au z.natAbs))(h:(Na.au z.natAbs).length≤100000000) :
  Calls Tryz.prog 186 #[.agg #[.bool (decide (z<0)),s]] w fun e w'=>e = .returned (.int .i64 z.sign)∧Ext w w':=by
 have hg:=pX (decide (z<0)) _ _ w hs h
 rw[Na.aI,Yb,JQ]at hg
 exact hg
theorem DI{w:World}{s:Value}{l:List UInt32}(hs:aG w s l)(h:l.length≤1000000000) :
  Calls Tryz.prog 232 #[s] w fun e w'=>e = .returned (.int .i64 ((bl (Na.val l):Nat):Int))∧Ext w w':=by
 refine(yM s l w hs h).mono ?_
 exact fun e w' h=>h
theorem qE{v:Value}{a:Nat}{w:World}(neg:Bool)(hv:aG w v (Na.au a))(hlen:(Na.au a).length≤1000000000) :
  Calls Tryz.prog 204 #[.bool neg,v] w fun e w'=>∃x,e = .returned x∧aQ w.heap.size w' x (neg&&decide (0<a)) a∧Ext w w':=by
 have h:=kT neg v _ w hv hlen
 rw[Na.aI]at h
 exact h
theorem CU(v1:Value)(z1:Int)(K:Nat)(w:World)(h1:eP K w v1 z1)(hK:K≤10000000):
  Calls Tryz.prog 219 #[v1] w fun e w'=>∃x,e = .returned x∧oI w.heap.size w' x (-z1)∧Ext w w':=by
 obtain⟨n1,s1,l,rfl,h1,hl,rfl⟩:=h1
 obtain⟨a1,c1,rfl⟩:=h1.shape
 refine aiK Tryz.func219 Tryz.ntmps219 fun ac S=>aiG fun _ aU=>aiJ S 1 [.bool n1,.slice a1 l.length c1] fun ac u b2 E3 hb4 S=>aiJ S 2 [.bool false,.slice none 0 0] fun ac u b5 E6 hb7 S=>aiF<|aU _ _<|aiG fun _ dP=>adr S 5 [.mem 1 0,.mem 1 1] [(5,.bool (!n1)),(7,.slice a1 l.length c1)] fun ac S=>aiQ S (some 8) (kT (!n1) _ l _ (h1.below S.E) (by omega)) ?_
 rintro e u ⟨x,rfl,hx,E9⟩
 obtain⟨b1,d1,rfl⟩:=hx.shape
 have hz:=S.E.size
 have YB:=(S.bx 0).1
 have hb1':=(S.bx 1).1
 refine⟨_,rfl,E9,fun ac S=>?_⟩
 refine aiL S 0 (off:=0) (cs:=[.bool (!n1&&decide (0<Na.val l)),.slice b1 (Na.au (Na.val l)).length d1]) rfl (fun u C10 S=>?_)
 have P7:=hx.ch C10 (by omega)
 refine aiF<|dP _ _<|Vp.rt ?_
 refine aiS S 0 Tryz.results219 rfl (v := .agg #[.bool (!n1&&decide (0<Na.val l)),.slice b1 (Na.au (Na.val l)).length d1]) ?_
 exact⟨_,rfl,Qg n1 (Na.val l)▸tJ (aQ.mono P7 (by omega)),S.E⟩
theorem kU(v1 v2:Value)(z1 z2:Int)(K L:Nat)(w:World)(h1:eP K w v1 z1)(h2:eP L w v2 z2)(hK:K≤10000000)(hL:L≤10000000):
  Calls Tryz.prog 166 #[v1,v2] w fun e w'=>∃x,e = .returned x∧oI w.heap.size w' x (z1*z2)∧Ext w w':=by
 obtain⟨n1,s1,l,rfl,h1,hl,rfl⟩:=h1
 obtain⟨a1,c1,rfl⟩:=h1.shape
 obtain⟨n2,s2,m,rfl,h2,hm,rfl⟩:=h2
 obtain⟨a2,c2,rfl⟩:=h2.shape
 refine aiK Tryz.func166 Tryz.ntmps166 fun ac S=>aiG fun _ aU=>aiJ S 2 [.bool n1,.slice a1 l.length c1] fun ac u b2 E3 hb4 S=>aiJ S 3 [.bool n2,.slice a2 m.length c2] fun ac u b5 E6 hb7 S=>aiJ S 4 [.bool false,.slice none 0 0] fun ac u b8 E9 yC S=>aiF<|aU _ _<|wp_seq_k fun _ dB=>aiV S 11 [(14,fun v w1=>aG w1 v (Na.au (Na.val l*Na.val m))),(15,fun v w1=>aQ w.heap.size w1 v ((n1 != n2)&&decide (0<(Na.val l*Na.val m))) (Na.val l*Na.val m))] (fun r=>[.mem 2 0,.mem 1 0,.mem 2 1,.mem 1 1]) (fun x=>[x 14,x 15]) (fun x=>[(_,_,true,x 14,14),(_,_,true,x 15,15)]) [[],[14]] (fun x=>[(15,x 15)]) ⟨fun _ _ _ k h=>h.below k,fun _ _ _ k h=>h.ext k,trivial⟩ (fun x=>⟨by intro u hC g F; exact(Q7 _ _ _ _ _ (h1.below (Ext.trans' S.E hC)) (h2.below (Ext.trans' S.E hC)) (by omega) (by omega)).mono fun e w2 h=>by obtain⟨a,rfl,hx,hb⟩:=h; exact⟨_,rfl,bn hx,hb⟩,by intro u hC g F; obtain⟨Xp,-⟩:=F; exact(qE (n1 != n2) Xp (by have:=Nh l m (by omega) (by omega); omega)).mono fun e w2 h=>by obtain⟨y,rfl,hx,hb⟩:=h; exact⟨_,rfl,hx.mono ((Ext.trans' S.E hC)).size,hb⟩,trivial⟩) (fun ac u x H6 F S=>?_)
 obtain⟨Xp,I4,-⟩:=F
 obtain⟨b1,d1,em⟩:=aQ.shape I4
 rw[em]at S I4
 have Ed:=S.bx 0
 refine aiL S 0 (off:=0) (cs:=[.bool ((n1 != n2)&&decide (0<(Na.val l*Na.val m))),.slice b1 (Na.au (Na.val l*Na.val m)).length d1]) rfl (fun u C13 S=>?_)
 have zi:=aQ.bT I4 C13 Ed
 refine aiF<|dB _ _<|Vp.rt ?_
 refine aiS S 0 Tryz.results166 rfl (v := .agg #[.bool ((n1 != n2)&&decide (0<(Na.val l*Na.val m))),.slice b1 (Na.au (Na.val l*Na.val m)).length d1]) ?_
 exact⟨_,rfl,(Ya n1 n2 (Na.val l) (Na.val m)).symm▸tJ (aQ.mono zi (by omega)),S.E⟩
theorem CV(v1 v2:Value)(z1 z2:Int)(K L:Nat)(w:World)(h1:eP K w v1 z1)(h2:eP L w v2 z2)(hK:K≤10000000)(hL:L≤10000000):
  Calls Tryz.prog 233 #[v1,v2] w fun e w'=>∃x,e = .returned x∧oI w.heap.size w' x (z1+z2)∧Ext w w':=by
 obtain⟨n1,s1,l,rfl,h1,hl,rfl⟩:=h1
 obtain⟨a1,c1,rfl⟩:=h1.shape
 obtain⟨n2,s2,m,rfl,h2,hm,rfl⟩:=h2
 obtain⟨a2,c2,rfl⟩:=h2.shape
 refine aiK Tryz.func233 Tryz.ntmps233 fun ac S=>aiG fun _ aU=>aiJ S 2 [.bool n1,.slice a1 l.length c1] fun ac u b2 E3 hb4 S=>aiJ S 3 [.bool n2,.slice a2 m.length c2] fun ac u b5 E6 hb7 S=>aiJ S 4 [.bool false,.slice none 0 0] fun ac u b8 E9 yC S=>aiF<|aU _ _<|wp_seq_k fun _ dB=>aiG fun _ dw=>adr S 5 [.mem 2 0,.mem 1 0] [(13,.bool (n1==n2))] fun ac S=>aiF (dw _ _ ?_)
 refine aiI S (fun hc13=>?_) (fun hc13=>?_)
 ·refine wp_seq_k fun _ fU=>aiV S 8 [(20,fun v w1=>aG w1 v (Na.au (Na.val l+Na.val m))),(21,fun v w1=>aQ w.heap.size w1 v (n1&&decide (0<(Na.val l+Na.val m))) (Na.val l+Na.val m))] (fun r=>[.mem 2 0,.mem 2 1,.mem 1 1]) (fun x=>[x 20,x 21]) (fun x=>[(_,_,true,x 20,20),(_,_,true,x 21,21)]) [[],[20]] (fun x=>[(21,x 21)]) ⟨fun _ _ _ k h=>h.below k,fun _ _ _ k h=>h.ext k,trivial⟩ (fun x=>⟨by intro u hC g F; exact(Q9 _ _ _ _ _ (h1.below (Ext.trans' S.E hC)) (h2.below (Ext.trans' S.E hC)) (by omega) (by omega)).mono fun e w2 h=>by obtain⟨a,rfl,hx,hb⟩:=h; exact⟨_,rfl,bn hx,hb⟩,by intro u hC g F; obtain⟨F20,-⟩:=F; exact(qE n1 F20 (by have:=Nj l m (by omega) (by omega); omega)).mono fun e w2 h=>by obtain⟨y,rfl,hx,hb⟩:=h; exact⟨_,rfl,hx.mono ((Ext.trans' S.E hC)).size,hb⟩,trivial⟩) (fun ac u x Vb F S=>?_)
  obtain⟨F20,Tv,-⟩:=F
  obtain⟨b1,d1,em⟩:=aQ.shape Tv
  rw[em]at S Tv
  have UZ:=S.bx 0
  refine aiL S 0 (off:=0) (cs:=[.bool (n1&&decide (0<(Na.val l+Na.val m))),.slice b1 (Na.au (Na.val l+Na.val m)).length d1]) rfl (fun u Xj S=>?_)
  have PN:=aQ.bT Tv Xj UZ
  refine aiF<|fU _ _<|Vp.rt ?_
  refine aiS S 0 Tryz.results233 rfl (v := .agg #[.bool (n1&&decide (0<(Na.val l+Na.val m))),.slice b1 (Na.au (Na.val l+Na.val m)).length d1]) ?_
  obtain rfl:=eq_of_beq hc13
  exact⟨_,rfl,(Cm n1 (Na.val l) (Na.val m)).symm▸tJ (aQ.mono PN (by omega)),S.E⟩
 ·refine wp_skip<|dB _ _<|wp_seq_k fun _ jf=>aiG fun _ iU=>adr S 4 [.mem 2 1,.mem 1 1] [(24,.slice a1 l.length c1),(26,.slice a2 m.length c2)] fun ac S=>aiQ S (some 27) (CS _ _ _ _ _ (h1.below S.E) (h2.below S.E) (by omega)) ?_
  rintro e u ⟨p,q,c3,rfl,hs,LD⟩
  refine⟨_,rfl,LD,fun ac S=>?_⟩
  refine adr S 5 [] [(5,.slice p q c3),(6,.bool (decide (Na.val m≤Na.val l)))] fun ac S=>aiF<|iU _ _<|aiG fun _ jM=>adr S 1 [] [(30,.bool (decide (Na.val m≤Na.val l)))] fun ac S=>aiF (jM _ _ ?_)
  refine aiI S (fun tV=>?_) (fun tV=>?_)
  ·refine aiG fun _ kK=>adr S 3 [.mem 2 0] [(32,.bool n1),(33,.slice p q c3)] fun ac S=>aiQ S (some 34) (qE (n1) (hs (of_decide_eq_true tV)) (by have:=Am l m (by omega); omega)) ?_
   rintro e u ⟨x,rfl,hx,E25⟩
   obtain⟨b1,d1,rfl⟩:=hx.shape
   have hz:=S.E.size
   have YB:=(S.bx 0).1
   have hb1':=(S.bx 1).1
   have hb2':=(S.bx 2).1
   refine⟨_,rfl,E25,fun ac S=>?_⟩
   refine aiL S 0 (off:=0) (cs:=[.bool (n1&&decide (0<(Na.val l-Na.val m))),.slice b1 (Na.au (Na.val l-Na.val m)).length d1]) rfl (fun u C26 S=>?_)
   have Qd:=hx.ch C26 (by omega)
   refine aiF<|kK _ _<|Vp.rt ?_
   refine aiS S 0 Tryz.results233 rfl (v := .agg #[.bool (n1&&decide (0<(Na.val l-Na.val m))),.slice b1 (Na.au (Na.val l-Na.val m)).length d1]) ?_
   exact⟨_,rfl,(wF (by simpa using hc13) (of_decide_eq_true tV)).symm▸tJ (aQ.mono Qd (by omega)),S.E⟩
  ·refine wp_skip<|jf _ _<|aiG fun _ lK=>adr S 4 [.mem 1 1,.mem 2 1] [(37,.slice a2 m.length c2),(39,.slice a1 l.length c1)] fun ac S=>aiQ S (some 40) (CS _ _ _ _ _ (h2.below S.E) (h1.below S.E) (by omega)) ?_
   rintro e u ⟨p2,q2,c2,rfl,hs2,XG⟩
   refine⟨_,rfl,XG,fun ac S=>?_⟩
   refine adr S 5 [] [(7,.slice p2 q2 c2)] fun ac S=>aiF<|lK _ _<|aiG fun _ nI=>adr S 3 [.mem 1 0] [(44,.bool n2),(45,.slice p2 q2 c2)] fun ac S=>aiQ S (some 46) (qE (n2) (hs2 (by have:=of_decide_eq_false tV; omega)) (by have:=Am m l (by omega); omega)) ?_
   rintro e u ⟨x,rfl,hx,JB⟩
   obtain⟨b1,d1,rfl⟩:=hx.shape
   have hz:=S.E.size
   have YB:=(S.bx 0).1
   have hb1':=(S.bx 1).1
   have hb2':=(S.bx 2).1
   refine⟨_,rfl,JB,fun ac S=>?_⟩
   refine aiL S 0 (off:=0) (cs:=[.bool (n2&&decide (0<(Na.val m-Na.val l))),.slice b1 (Na.au (Na.val m-Na.val l)).length d1]) rfl (fun u C32 S=>?_)
   have Ez:=hx.ch C32 (by omega)
   refine aiF<|nI _ _<|Vp.rt ?_
   refine aiS S 0 Tryz.results233 rfl (v := .agg #[.bool (n2&&decide (0<(Na.val m-Na.val l))),.slice b1 (Na.au (Na.val m-Na.val l)).length d1]) ?_
   exact⟨_,rfl,(zZ (a:=Na.val l) (b:=Na.val m) (by simpa using hc13) (by have:=of_decide_eq_false tV; omega)).symm▸tJ (aQ.mono Ez (by omega)),S.E⟩
theorem N9(v1 v2:Value)(z1 z2:Int)(K L:Nat)(w:World)(h1:eP K w v1 z1)(h2:eP L w v2 z2)(hK:K≤10000000)(hL:L≤10000000):
  Calls Tryz.prog 203 #[v1,v2] w fun e w'=>∃x,e = .returned x∧oI w.heap.size w' x (z1-z2)∧Ext w w':=by
 obtain⟨n1,s1,l,rfl,h1,hl,rfl⟩:=h1
 obtain⟨a1,c1,rfl⟩:=h1.shape
 obtain⟨n2,s2,m,rfl,h2,hm,rfl⟩:=h2
 obtain⟨a2,c2,rfl⟩:=h2.shape
 refine aiK Tryz.func203 Tryz.ntmps203 fun ac S=>aiG fun _ aU=>aiJ S 2 [.bool n1,.slice a1 l.length c1] fun ac u b2 E3 hb4 S=>aiJ S 3 [.bool n2,.slice a2 m.length c2] fun ac u b5 E6 hb7 S=>aiJ S 4 [.bool false,.slice none 0 0] fun ac u b8 E9 yC S=>aiF<|aU _ _<|wp_seq_k fun _ dB=>aiV S 4 [(7,fun v w1=>oI w.heap.size w1 v (-zv n2 (Na.val m))),(8,fun v w1=>oI w.heap.size w1 v (zv n1 (Na.val l) + -zv n2 (Na.val m)))] (fun r=>[.mem 2 0,.mem 1 0]) (fun x=>[x 7,x 8]) (fun x=>[(_,_,true,x 7,7),(_,_,true,x 8,8)]) [[],[7]] (fun x=>[(8,x 8)]) ⟨fun _ _ _ k h=>h.ext k,fun _ _ _ k h=>h.ext k,trivial⟩ (fun x=>⟨by intro u hC g F; exact(CU _ (zv n2 (Na.val m)) L _ ⟨n2,_,m,rfl,h2.below (Ext.trans' S.E hC),hm,rfl⟩ (by omega)).mono fun e w2 h=>by obtain⟨y,rfl,hx,hb⟩:=h; exact⟨_,rfl,hx.mono ((Ext.trans' S.E hC)).size,hb⟩,by intro u hC g F; obtain⟨F7,-⟩:=F; exact(CV _ _ (zv n1 (Na.val l)) (-zv n2 (Na.val m)) K L _ ⟨n1,_,l,rfl,h1.below (Ext.trans' S.E hC),hl,rfl⟩ (oI.toQ F7 (by rw[Int.natAbs_neg,kQ]; have:=bD m; omega)) (by omega) (by omega)).mono fun e w2 h=>by obtain⟨y,rfl,hx,hb⟩:=h; exact⟨_,rfl,hx.mono ((Ext.trans' S.E hC)).size,hb⟩,trivial⟩) (fun ac u x H6 F S=>?_)
 obtain⟨F7,F8,-⟩:=F
 obtain⟨b1,d1,em⟩:=aQ.shape F8
 rw[em]at S F8
 have Ed:=S.bx 0
 refine aiL S 0 (off:=0) (cs:=[.bool (decide ((zv n1 (Na.val l) + -zv n2 (Na.val m))<0)),.slice b1 (Na.au (zv n1 (Na.val l) + -zv n2 (Na.val m)).natAbs).length d1]) rfl (fun u C13 S=>?_)
 have zi:=aQ.bT F8 C13 Ed
 refine aiF<|dB _ _<|Vp.rt ?_
 refine aiS S 0 Tryz.results203 rfl (v := .agg #[.bool (decide ((zv n1 (Na.val l) + -zv n2 (Na.val m))<0)),.slice b1 (Na.au (zv n1 (Na.val l) + -zv n2 (Na.val m)).natAbs).length d1]) ?_
 exact⟨_,rfl,zi,S.E⟩
theorem Oa(v1 v2:Value)(z1 z2:Int)(K L:Nat)(w:World)(h1:eP K w v1 z1)(h2:eP L w v2 z2)(hK:K≤10000000)(hL:L≤10000000):
  Calls Tryz.prog 165 #[v1,v2] w fun e w'=>e = .returned (.int .i64 (z1-z2).sign)∧Ext w w':=by
 obtain⟨n1,s1,l,rfl,h1,hl,rfl⟩:=h1
 obtain⟨a1,c1,rfl⟩:=h1.shape
 obtain⟨n2,s2,m,rfl,h2,hm,rfl⟩:=h2
 obtain⟨a2,c2,rfl⟩:=h2.shape
 refine aiK Tryz.func165 Tryz.ntmps165 fun ac S=>aiG fun _ aU=>aiJ S 2 [.bool n1,.slice a1 l.length c1] fun ac u b2 E3 hb4 S=>aiJ S 3 [.bool n2,.slice a2 m.length c2] fun ac u b5 E6 hb7 S=>adr S 1 [] [(4,.int .i64 0)] fun ac S=>aiF<|aU _ _<|aiG fun _ dP=>adr S 2 [.mem 1 0,.mem 0 0] [(5,.agg #[.bool n1,.slice a1 l.length c1]),(6,.agg #[.bool n2,.slice a2 m.length c2])] fun ac S=>aiQ S (some 7) (N9 _ _ (zv n1 (Na.val l)) (zv n2 (Na.val m)) K L _ ⟨n1,_,l,rfl,h1.below S.E,hl,rfl⟩ ⟨n2,_,m,rfl,h2.below S.E,hm,rfl⟩ (by omega) (by omega)) ?_
 rintro e u ⟨x,rfl,⟨s,rfl,hs,-⟩,E9⟩
 obtain⟨b1,d1,rfl⟩:=hs.shape
 refine⟨_,rfl,E9,fun ac S=>?_⟩
 refine aiM S 8 (Ii hs (by have:=DU (zv n1 (Na.val l)) (zv n2 (Na.val m)) (K:=K+L) (by rw[kQ]; have:=bD l; omega) (by rw[kQ]; have:=bD m; omega); omega)) fun ac u Bj S=>adr S 1 [] [(4,.int .i64 (Int.sign (zv n1 (Na.val l)-zv n2 (Na.val m))))] fun ac S=>aiF<|dP _ _<|Vp.rt ?_
 refine aiH S Tryz.results165 ?_
 exact⟨rfl,S.E⟩
theorem wU(v1:Value)(z1:Int)(K:Nat)(w:World)(h1:eP K w v1 z1)(hK:K≤10000000):
  Calls Tryz.prog 202 #[v1] w fun e w'=>e = .returned (.int .i64 (bl z1.natAbs:Int))∧Ext w w':=by
 obtain⟨n1,s1,l,rfl,h1,hl,rfl⟩:=h1
 obtain⟨a1,c1,rfl⟩:=h1.shape
 refine aiK Tryz.func202 Tryz.ntmps202 fun ac S=>aiG fun _ aU=>aiJ S 1 [.bool n1,.slice a1 l.length c1] fun ac u b2 E3 hb4 S=>adr S 1 [] [(2,.int .i64 0)] fun ac S=>aiF<|aU _ _<|aiG fun _ bV=>adr S 2 [.mem 0 1] [(4,.slice a1 l.length c1)] fun ac S=>aiM S 5 (DI (h1.below S.E) (by omega)) fun ac u E6 S=>adr S 1 [] [(2,.int .i64 ((bl (Na.val l):Nat):Int))] fun ac S=>aiF<|bV _ _<|Vp.rt ?_
 refine aiH S Tryz.results202 ?_
 exact⟨by rw[kQ],S.E⟩
end
end Go.Proofs.YtfmkkemfhjkajaaGreatDoor
