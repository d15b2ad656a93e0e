/- Walks of the references on integers and rational -/
import Derived.Test.YtiafijffnejhoaaGreatDoorRefNat
import Derived.Test.YtiafijffnejhoaaGreatDoorRat
import Derived.Test.YtiafijffnejhoaaGreatDoorIntW
import Derived.Test.YtiafijffnejhoaaGreatDoorPk5
import Derived.IntWalk
set_option linter.unusedVariables false
namespace Go.Proofs.YtiafijffnejhoaaGreatDoor
section
set_option maxHeartbeats 800000
set_option maxRecDepth 100000
open Go.RowKit
variable{α:Type}
theorem KC(v u:Value)(l m:List UInt32)(w:World)(hv:aA w v l)(hu:aA w u m)(hlen:l.length≤5000000)(hlen2:m.length≤5000000) :
  Calls Tryz.prog 198 #[v,u] w fun e w'=>∃g,e = .returned g∧aA w' g (Na.aj (Nat.gcd (Na.val l) (Na.val m)))∧Ext w w':=by
 have C1:=ag8 (bT v l w hv (by omega));have hla:=aZ l;have hlb:=aZ m;go_enter Tryz.func198,Tryz.ntmps198
 go_wp2_with fail
 refine C1.out.mono ?_;rintro e w1 ⟨x,rfl,hx,hb1⟩;have hx:=aS hx;go_wp2_with fail
 refine(bT u m w1 (hu.below hb1) (by omega)).mono ?_;rintro e w2 ⟨y,rfl,hy,hb2⟩;have hy:=aS hy;have hx2:=hx.below hb2;have aan:=Ext.trans' hb1 hb2;clear hx C1 hv hu;have HX:=ag8 hx2;have HY:=ag8 hy;clear hx2 hy;go_wp2_with fail
 go_loopw [5,6,7,8,9] (fun x y _ _ _ wr=>∃(A B:Nat),aA wr x (Na.aj A)∧aA wr y (Na.aj B)∧Nat.gcd A B=Nat.gcd (Na.val l) (Na.val m)∧(Na.aj A).length≤5000000∧(Na.aj B).length≤5000000∧Ext w wr) (fun _ y _ _ _ wr=>valOf wr y)
 case atStart=>exact⟨(Na.val l),(Na.val m),HX.out,HY.out,rfl,by omega,by omega,aan⟩
 case round =>
  obtain⟨A,B,hx,hy,hg,hlA,hlB,hbel⟩:=hrel;have HM:=ag8 (wO hy);have HG:=ag8 hg;have HX:=ag8 hx;have HY:=ag8 hy;clear hg hx hy;obtain⟨ay,cy,rfl⟩:=HY.out.shape;rcases ahI B with rfl | hB
  ·have h0:((Na.aj 0).length:Int)=0:=by rw[Na.iH.2 rfl]; rfl
   go_wp2_with fail
   go_ret
   refine⟨_,rfl,?_,hbel⟩;rw[←HG.out,Nat.gcd_zero_right];exact HX.out
  have h0:(0:Int)<((Na.aj B).length:Int):=by
   have:(Na.aj B).length≠0:=fun h=>by have:=pJ h; omega
   omega
  have hD:=uG _ _ _ _ wr HX.out HY.out (by rw[Na.aC]; exact hB) hlA hlB;rw[Na.aC,Na.aC]at hD;have HD:=ag8 hD;clear hD;go_wp2_with fail
  refine HD.out.mono ?_;rintro e w' ⟨q,r,rfl,hq,hr,hb⟩;have HR:=ag8 (aS hr);have HY':=ag8 (HY.out.below hb);clear hq hr;go_wp2_with fail
  go_roundw
  case rel =>
   refine⟨B,A%B,HY'.out,HR.out,?_,hlB,?_,Ext.trans' hbel hb⟩
   ·rw[←HG.out,Nat.gcd_comm A B,Nat.gcd_rec B A,Nat.gcd_comm]
   exact ahC (dJ (aiw (ah7 A hB))) hlB
  case measure =>
   rw[wO HR.out,HM.out,Na.aC,Na.aC];exact ah7 _ hB
theorem qH(neg:Bool)(v:Value)(l:List UInt32)(w:World)(hv:aA w v l)(hlen:l.length≤1000000000) :
  Calls Tryz.prog 196 #[.bool neg,v] w fun e w'=>∃x,e = .returned x∧aG w.heap.size w' x (neg&&decide (0<Na.val l)) (Na.val l)∧Ext w w':=by
 have hb1:=aF w (.cells #[.bool false,.slice none 0 0] 48);have HC:=ag8 (bT v l _ (hv.below hb1) hlen);have hpos:Hid (decide ((0:Int)<((Na.aj (Na.val l)).length:Int))=decide (0<Na.val l)):=by
  show _=_;rw[decide_eq_decide];constructor
  ·intro h;rcases ahI (Na.val l)with h0 | h0
   ·rw[h0,Na.jV]at h; simp at h
   exact h0
  intro h;have:(Na.aj (Na.val l)).length≠0:=fun h'=>by
   have:=Na.iH.1 (aia h'); omega
  omega
 rcases ajn neg with rfl | rfl;all_goals
  go_enter Tryz.func196,Tryz.ntmps196
  go_wp2_with fail
  refine HC.out.mono ?_
  rintro e w1 ⟨v',rfl,ho,hb2⟩
  have hrow:=aS ho
  have hoff:=Gs ho
  obtain⟨hc,hf,hz⟩:=jI hb2
  have hb0:=Ext.trans' hb1 hb2
  have HB:=ag8 hb0
  have HR:=ag8 hrow
  have HO:=ag8 hoff
  obtain⟨a,cap,rfl⟩:=HR.out.shape
  clear HC ho hrow hb2 hb1 hb0 hoff
  go_wp2_with fail
 ·refine bodyPost_ret (v := .agg #[.bool ((0:Int)<((Na.aj (Na.val l)).length:Int)),.slice a (Na.aj (Na.val l)).length cap]) (by simp[results,Tryz.results196,go_sem,hc]) rfl ⟨_,rfl,⟨_,by rw[aiC,hpos.out],?_⟩,?_⟩
  ·exact⟨HR.out.ch (((Ch.refl _ _).setCell _ _).setCell _ _) (fun _=>HO.out.off (by simp)),HO.out.mono (by simp)⟩
  exact(HB.out.setCell (p:=⟨w.heap.size,0,none⟩) (ahh _) _).setCell (p:=⟨w.heap.size,1,none⟩) (ahh _) _
 refine bodyPost_ret (v := .agg #[.bool false,.slice a (Na.aj (Na.val l)).length cap]) (by simp[results,Tryz.results196,go_sem,hc]) rfl ⟨_,rfl,⟨_,by rw[aiT],?_⟩,?_⟩
 ·exact⟨HR.out.ch (((Ch.refl _ _).setCell _ _).setCell _ _) (fun _=>HO.out.off (by simp)),HO.out.mono (by simp)⟩
 exact(HB.out.setCell (p:=⟨w.heap.size,0,none⟩) (ahh _) _).setCell (p:=⟨w.heap.size,1,none⟩) (ahh _) _
theorem sH(x:Nat)(w:World)(h:(x:Int)≤9223372036854775807) :
  Calls Tryz.prog 197 #[.i x] w fun e w'=>∃v,e = .returned v∧aG w.heap.size w' v false x∧Ext w w':=by
 have hN:x<18446744073709551616:=by omega
 obtain⟨y,rfl⟩:∃y:UInt64,x=y.toNat:=⟨UInt64.ofNat x,by simp; omega⟩;have h0:¬(y.toNat:Int)<0:=by omega
 have hyl:=y.toNat_lt;have hw:=V8 y;have hb0:=aF w (.cells #[.bool false,.slice none 0 0] 48);have hr:aA ((w.alloc (.cells #[.bool false,.slice none 0 0] 48)).alloc (.cells #[aP y.toUInt32,aP (y>>>32).toUInt32] 89)) (.slice (some ⟨w.heap.size+1,0,none⟩) 2 2) [y.toUInt32,(y>>>32).toUInt32]:=by
  have:=LV (w.alloc (.cells #[.bool false,.slice none 0 0] 48)) [y.toUInt32,(y>>>32).toUInt32] (f:=aP) 89 (by unfold maxLen; simp);simpa using this
 have hI:=qH false _ _ _ hr (by simp);rw[G7]at hI;have HI:=ag8 hI;have HB:=ag8 (hb0.alloc (by simp) (.cells #[aP y.toUInt32,aP (y>>>32).toUInt32] 89));clear hr hI hb0;have HE:Hid (((y>>>32).toNat:Int)=((y>>>32).toUInt32.toNat:Int)):=by
  show _=_;rw[←tC,←EP]; omega
 go_enter Tryz.func197,Tryz.ntmps197
 go_wp2_with fail
 rw[tC,EP,HE.out];refine HI.out.mono ?_;rintro e w2 ⟨z,rfl,⟨s,rfl,hs,fs⟩,hb2⟩;obtain⟨b1,d1,rfl⟩:=hs.shape;have r0:∀i,w2.cell? ⟨w.heap.size,i,none⟩ = #[Value.bool false,.slice none 0 0][i]?:=fun i=>by rw[hb2.cell (p:=⟨w.heap.size,i,none⟩) (by simp; omega)]; simp[go_sem]
 have f0:∀i,w2.frozen? ⟨w.heap.size,i,none⟩=false:=fun i=>by rw[hb2.frozen (p:=⟨w.heap.size,i,none⟩) (by simp; omega)]; simp[go_sem]
 have hz:w.heap.size<w2.heap.size:=by have:=hb2.size; simp at this; omega
 have HX:=ag8 (Ext.trans' HB.out hb2);have F:=ag8 (And.intro hs fs);clear hs fs hb2 HI;go_wp2_with fail
 refine bodyPost_ret (v := .agg #[.bool false,.slice b1 (Na.aj y.toNat).length d1]) (by simp[results,Tryz.results197,go_sem,r0]) rfl ⟨_,rfl,⟨_,rfl,?_,?_⟩,?_⟩
 ·exact F.out.1.ch (((Ch.refl w.heap.size _).setCell 0 _).setCell 1 _) (fun _=>F.out.2.off (by simp; omega))
 ·exact F.out.2.mono (by simp; omega)
 exact(HX.out.setCell (p:=⟨_,0,none⟩) (by simp only; omega) _).setCell (p:=⟨_,1,none⟩) (by simp only; omega) _
theorem oL(neg:Bool)(s:Value)(l:List UInt32)(w:World)(hv:aA w s l)(hlen:l.length≤100000000) :
  Calls Tryz.prog 169 #[.agg #[.bool neg,s]] w fun e w'=>e = .returned (.i (nY neg (Na.val l)))∧Ext w w':=by
 have hb1:=aF w (.cells #[.bool neg,s] 48);have HC:=ag8 (qH neg s l _ (hv.below hb1) (by omega));have HB:=ag8 hb1;obtain⟨a,cap,rfl⟩:=hv.shape;clear hv hb1;by_cases h0:Na.val l=0
 ·have hs:Hid (nY neg (Na.val l)=0):=by show _=_; unfold nY; rw[ahf h0]
  have hd:(((Na.aj (Na.val l)).length:Int)==0)=true:=by rw[h0]; rfl
  clear h0;go_enter Tryz.func169,Tryz.ntmps169
  go_wp2_with fail
  refine HC.out.mono ?_;rintro e w' ⟨x,rfl,⟨t,rfl,ht,ft⟩,hb⟩;obtain⟨b1,d1,rfl⟩:=ht.shape;have HX:=ag8 (Ext.trans' HB.out hb);have hsz:=HX.out.size;clear ht ft hb HC HB;go_wp2_with fail
  go_ret
  exact⟨by rw[hs.out]; rfl,HX.out.alloc hsz _⟩
 have hd:(((Na.aj (Na.val l)).length:Int)==0)=false:=by
  rw[ahq];intro h;exact h0 (pJ (by omega))
 have hs0:Hid (∀neg,nY neg (Na.val l)=if neg then -1 else 1):=fun neg=>ahe h0;have hp:decide (0<Na.val l)=true:=ah0 (by omega);rw[hp]at HC;clear h0 hp;rcases ajn neg with rfl | rfl;all_goals
  go_enter Tryz.func169,Tryz.ntmps169
  go_wp2_with fail
  refine HC.out.mono ?_
  rintro e w' ⟨x,rfl,⟨t,rfl,ht,ft⟩,hb⟩
  obtain⟨b1,d1,rfl⟩:=ht.shape
  have HX:=ag8 (Ext.trans' HB.out hb)
  have hsz:=HX.out.size
  clear ht ft hb HC HB
  go_wp2_with fail
  go_ret
  exact⟨by rw[hs0.out]; rfl,HX.out.alloc hsz _⟩
theorem AV(neg:Bool)(s:Value)(l:List UInt32)(w:World)(hv:aA w s l)(hlen:l.length≤100000000) :
  Calls Tryz.prog 199 #[.agg #[.bool neg,s]] w fun e w'=>∃x,e = .returned x∧aG w.heap.size w' x (!neg&&decide (0<Na.val l)) (Na.val l)∧Ext w w':=by
 have hb0:=aF w (.cells #[.bool neg,s] 48);have hb1:=hb0.alloc (by simp) (.cells #[.bool false,.slice none 0 0] 48);have HC:=ag8 (qH (!neg) s l _ (hv.below hb1) (by omega));have HB:=ag8 hb1;obtain⟨a,cap,rfl⟩:=hv.shape;clear hv hb1 hb0;go_enter Tryz.func199,Tryz.ntmps199
 go_wp2_with fail
 refine HC.out.mono ?_;rintro e w2 ⟨z,rfl,⟨s,rfl,hs,fs⟩,hb2⟩;obtain⟨b1,d1,rfl⟩:=hs.shape;have r0:∀i,w2.cell? ⟨w.heap.size+1,i,none⟩ = #[Value.bool false,.slice none 0 0][i]?:=fun i=>by rw[hb2.cell (p:=⟨w.heap.size+1,i,none⟩) (by simp)]; simp[go_sem]
 have f0:∀i,w2.frozen? ⟨w.heap.size+1,i,none⟩=false:=fun i=>by rw[hb2.frozen (p:=⟨w.heap.size+1,i,none⟩) (by simp)]; simp[go_sem]
 have hz:w.heap.size+1<w2.heap.size:=by have:=hb2.size; simp at this; omega
 have HX:=ag8 (Ext.trans' HB.out hb2);have F:=ag8 (And.intro hs fs);generalize hnb:(!neg&&decide (0<Na.val l))=nb at *;have HNB:=ag8 hnb;clear hs fs hb2 HC hnb;go_wp2_with fail
 refine bodyPost_ret (v := .agg #[.bool nb,.slice b1 (Na.aj (Na.val l)).length d1]) (by simp[results,Tryz.results199,go_sem,r0]) rfl ⟨_,rfl,⟨_,by rw[HNB.out],?_,?_⟩,?_⟩
 ·exact F.out.1.ch (((Ch.refl (w.heap.size+1) _).setCell 0 _).setCell 1 _) (fun _=>F.out.2.off (by simp))
 ·exact F.out.2.mono (by simp; omega)
 exact(HX.out.setCell (p:=⟨_,0,none⟩) (by simp only; omega) _).setCell (p:=⟨_,1,none⟩) (by simp only; omega) _
theorem wY(x:Nat)(w:World)(h:(x:Int)≤9223372036854775807) :
  Calls Tryz.prog 170 #[.i x] w fun e w'=>∃v,e = .returned v∧ak w.heap.size w' v false x 1∧Ext w w':=by
 have hb0:=aF w (.cells #[.bool false,.slice none 0 0,.bool false,.slice none 0 0] 50);have H1:=ag8 (sH x (w.alloc (.cells #[.bool false,.slice none 0 0,.bool false,.slice none 0 0] 50)) h);have HB0:=ag8 hb0;clear hb0;go_enter Tryz.func170,Tryz.ntmps170
 go_wp2_with fail
 refine H1.out.mono ?_;rintro e w1 ⟨y,rfl,⟨s,rfl,hs,fs⟩,hb1⟩;have h2:=sH 1 w1 (by decide);have H2:=ag8 h2;have HS:=ag8 (And.intro hs fs);have HB1:=ag8 hb1;clear h2 H1 hs fs hb1;go_wp2_with fail
 refine H2.out.mono ?_;rintro e w2 ⟨y,rfl,⟨t,rfl,ht,ft⟩,hb2⟩;obtain⟨b1,d1,rfl⟩:=HS.out.1.shape;obtain⟨b2,d2,rfl⟩:=ht.shape;obtain⟨r0,f0,hz⟩:=jI (Ext.trans' HB1.out hb2);obtain⟨-,-,hz1⟩:=jI HB1.out;have F:=ag8 (And.intro (HS.out.1.below hb2) (And.intro ht (And.intro HS.out.2 ft)));have HX:=ag8 (Ext.trans' HB0.out (Ext.trans' HB1.out hb2));clear ht ft hb2 H2;go_wp2_with fail
 refine bodyPost_ret (v := .agg #[.bool false,.slice b1 (Na.aj x).length d1,.bool false,.slice b2 (Na.aj 1).length d2]) (by simp[results,Tryz.results170,go_sem,r0]) rfl ⟨_,rfl,⟨_,_,rfl,?_,?_,?_,?_⟩,?_⟩
 ·exact F.out.1.ch (((((Ch.refl w.heap.size _).setCell _ _).setCell _ _).setCell _ _).setCell _ _) (fun _=>F.out.2.2.1.off (by simp))
 ·exact F.out.2.1.ch (((((Ch.refl w.heap.size _).setCell _ _).setCell _ _).setCell _ _).setCell _ _) (fun _=>F.out.2.2.2.off hz1)
 ·exact F.out.2.2.1.mono (by simp)
 ·exact F.out.2.2.2.mono (by omega)
 exact(((HX.out.setCell (p:=⟨_,0,none⟩) (by simp only; omega) _).setCell (p:=⟨_,1,none⟩) (by simp only; omega) _).setCell (p:=⟨_,2,none⟩) (by simp only; omega) _).setCell (p:=⟨_,3,none⟩) (by simp only; omega) _
end
section
open Go.RowKit
variable{α:Type}
theorem qJ{v:Value}{a:Nat}{w:World}(neg:Bool)(hv:aA w v (Na.aj a))(hlen:(Na.aj a).length≤1000000000) :
  Calls Tryz.prog 196 #[.bool neg,v] w fun e w'=>∃x,e = .returned x∧aG w.heap.size w' x (neg&&decide (0<a)) a∧Ext w w':=by
 have h:=qH neg v _ w hv hlen;rw[Na.aC]at h;exact h
end
end Go.Proofs.YtiafijffnejhoaaGreatDoor
