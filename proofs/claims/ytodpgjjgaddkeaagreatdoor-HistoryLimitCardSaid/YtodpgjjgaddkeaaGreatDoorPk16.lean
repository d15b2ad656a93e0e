/- Walks of the references on integers and rational -/
import Derived.Test.YtodpgjjgaddkeaaGreatDoorPk11
import Derived.IntWalk
set_option maxHeartbeats 1600000
set_option maxRecDepth 100000
set_option linter.unusedVariables false
set_option linter.unusedSimpArgs false
namespace Go.Proofs.YtodpgjjgaddkeaaGreatDoor
section
open Go.RowKit
variable{α:Type}
theorem Vw(v u:Value)(l m:List UInt32)(w:World)(hv:aC w v l)(hu:aC w u m)(hlen:l.length≤5000000)(hlen2:m.length≤5000000) :
  Calls Tryz.prog 220 #[v,u] w fun e w'=>∃g,e = .returned g∧aC w' g (Na.au (Nat.gcd (Na.val l) (Na.val m)))∧Ext w w':=by
 have C1:=azF (dS v l w hv (by omega));have hla:=bW l;have hlb:=bW m;go_enter Tryz.func220,Tryz.ntmps220
 go_wp2_with fail
 refine C1.out.mono ?_;rintro e w1 ⟨x,rfl,hx,hb1⟩;have hx:=aV hx;go_wp2_with fail
 refine(dS u m w1 (hu.below hb1) (by omega)).mono ?_;rintro e w2 ⟨y,rfl,hy,hb2⟩;have hy:=aV hy;have hx2:=hx.below hb2;have ajl:=Ext.trans' hb1 hb2;clear hx C1 hv hu;have HX:=azF hx2;have HY:=azF hy;clear hx2 hy;go_wp2_with fail
 go_loopw [5,6,7,8,9] (fun x y _ _ _ wr=>∃(A B:Nat),aC wr x (Na.au A)∧aC wr y (Na.au B)∧Nat.gcd A B=Nat.gcd (Na.val l) (Na.val m)∧(Na.au A).length≤5000000∧(Na.au B).length≤5000000∧Ext w wr) (fun _ y _ _ _ wr=>valOf wr y)
 case atStart=>exact⟨(Na.val l),(Na.val m),HX.out,HY.out,rfl,by omega,by omega,ajl⟩
 case round =>
  obtain⟨A,B,hx,hy,hg,hlA,hlB,hbel⟩:=hrel;have HM:=azF (AQ hy);have HG:=azF hg;have HX:=azF hx;have HY:=azF hy;clear hg hx hy;obtain⟨ay,cy,rfl⟩:=HY.out.shape;rcases aAt B with rfl | hB
  ·have h0:((Na.au 0).length:Int)=0:=by rw[Na.kK.2 rfl]; rfl
   go_wp2_with fail
   go_ret
   refine⟨_,rfl,?_,hbel⟩;rw[←HG.out,Nat.gcd_zero_right];exact HX.out
  have h0:(0:Int)<((Na.au B).length:Int):=by
   have:(Na.au B).length≠0:=fun h=>by have:=oq h; omega
   omega
  have hD:=yN _ _ _ _ wr HX.out HY.out (by rw[Na.aB]; exact hB) hlA hlB;rw[Na.aB,Na.aB]at hD;have HD:=azF hD;clear hD;go_wp2_with fail
  refine HD.out.mono ?_;rintro e w' ⟨q,r,rfl,hq,hr,hb⟩;have HR:=azF (aV hr);have HY':=azF (HY.out.below hb);clear hq hr;go_wp2_with fail
  go_roundw
  case rel =>
   refine⟨B,A%B,HY'.out,HR.out,?_,hlB,?_,Ext.trans' hbel hb⟩
   ·rw[←HG.out,Nat.gcd_comm A B,Nat.gcd_rec B A,Nat.gcd_comm]
   exact az3 (fH (aBy (aAY A hB))) hlB
  case measure =>
   rw[AQ HR.out,HM.out,Na.aB,Na.aB];exact aAY _ hB
theorem uQ(neg:Bool)(v:Value)(l:List UInt32)(w:World)(hv:aC w v l)(hlen:l.length≤1000000000) :
  Calls Tryz.prog 219 #[.bool neg,v] w fun e w'=>∃x,e = .returned x∧aO w.heap.size w' x (neg&&decide (0<Na.val l)) (Na.val l)∧Ext w w':=by
 have hb1:=aF w (.cells #[.z,.sn] 24);have HC:=azF (dS v l _ (hv.below hb1) hlen);have hpos:Hid (decide ((0:Int)<((Na.au (Na.val l)).length:Int))=decide (0<Na.val l)):=by
  show _=_;rw[decide_eq_decide];constructor
  ·intro h;rcases aAt (Na.val l)with h0 | h0
   ·rw[h0,Na.jA]at h; simp at h
   exact h0
  intro h;have:(Na.au (Na.val l)).length≠0:=fun h'=>by
   have:=Na.kK.1 (aAZ h'); omega
  omega
 rcases aCr neg with rfl | rfl;all_goals
  go_enter Tryz.func219,Tryz.ntmps219
  go_wp2_with fail
  refine HC.out.mono ?_
  rintro e w1 ⟨v',rfl,ho,hb2⟩
  have hrow:=aV ho
  have hoff:=Qp ho
  obtain⟨hc,hf,hz⟩:=iU hb2
  have hb0:=Ext.trans' hb1 hb2
  have HB:=azF hb0
  have HR:=azF hrow
  have HO:=azF hoff
  obtain⟨a,cap,rfl⟩:=HR.out.shape
  clear HC ho hrow hb2 hb1 hb0 hoff
  go_wp2_with fail
 ·refine bodyPost_ret (v := .agg #[.bool ((0:Int)<((Na.au (Na.val l)).length:Int)),.slice a (Na.au (Na.val l)).length cap]) (by simp[results,Tryz.results219,go_sem,hc]) rfl ⟨_,rfl,⟨_,by rw[aAP,hpos.out],?_⟩,?_⟩
  ·exact⟨HR.out.ch (((Ch.refl _ _).setCell _ _).setCell _ _) (fun _=>HO.out.off (by simp)),HO.out.mono (by simp)⟩
  exact(HB.out.setCell (p:=⟨w.heap.size,0,none⟩) (azJ _) _).setCell (p:=⟨w.heap.size,1,none⟩) (azJ _) _
 refine bodyPost_ret (v := .agg #[.z,.slice a (Na.au (Na.val l)).length cap]) (by simp[results,Tryz.results219,go_sem,hc]) rfl ⟨_,rfl,⟨_,by rw[aA5],?_⟩,?_⟩
 ·exact⟨HR.out.ch (((Ch.refl _ _).setCell _ _).setCell _ _) (fun _=>HO.out.off (by simp)),HO.out.mono (by simp)⟩
 exact(HB.out.setCell (p:=⟨w.heap.size,0,none⟩) (azJ _) _).setCell (p:=⟨w.heap.size,1,none⟩) (azJ _) _
theorem wI(x:Nat)(w:World)(h:(x:Int)≤9223372036854775807) :
  Calls Tryz.prog 172 #[.i x] w fun e w'=>∃v,e = .returned v∧aO w.heap.size w' v false x∧Ext w w':=by
 have hN:x<18446744073709551616:=by omega
 obtain⟨y,rfl⟩:∃y:UInt64,x=y.toNat:=⟨UInt64.ofNat x,by simp; omega⟩;have h0:¬(y.toNat:Int)<0:=by omega
 have hyl:=y.toNat_lt;have hw:=af5 y;have hb0:=aF w (.cells #[.z,.sn] 24);have hr:aC ((w.alloc (.cells #[.z,.sn] 24)).alloc (.cells #[aX y.toUInt32,aX (y>>>32).toUInt32] 119)) (.slice (some ⟨w.heap.size+1,0,none⟩) 2 2) [y.toUInt32,(y>>>32).toUInt32]:=by
  have:=Nl (w.alloc (.cells #[.z,.sn] 24)) [y.toUInt32,(y>>>32).toUInt32] (f:=aX) 119 (by unfold maxLen; simp);simpa using this
 have hI:=uQ false _ _ _ hr (by simp);rw[Qe]at hI;have HI:=azF hI;have HB:=azF (hb0.alloc (by simp) (.cells #[aX y.toUInt32,aX (y>>>32).toUInt32] 119));clear hr hI hb0;have HE:Hid (((y>>>32).toNat:Int)=((y>>>32).toUInt32.toNat:Int)):=by
  show _=_;rw[←xG,←Nk]; omega
 go_enter Tryz.func172,Tryz.ntmps172
 go_wp2_with fail
 rw[xG,Nk,HE.out];refine HI.out.mono ?_;rintro e w2 ⟨z,rfl,⟨s,rfl,hs,fs⟩,hb2⟩;obtain⟨b1,d1,rfl⟩:=hs.shape;have r0:∀i,w2.cell? ⟨w.heap.size,i,none⟩ = #[Value.z,.sn][i]?:=fun i=>by rw[hb2.cell (p:=⟨w.heap.size,i,none⟩) (by simp; omega)]; simp[go_sem]
 have f0:∀i,w2.frozen? ⟨w.heap.size,i,none⟩=false:=fun i=>by rw[hb2.frozen (p:=⟨w.heap.size,i,none⟩) (by simp; omega)]; simp[go_sem]
 have hz:w.heap.size<w2.heap.size:=by have:=hb2.size; simp at this; omega
 have HX:=azF (Ext.trans' HB.out hb2);have F:=azF (And.intro hs fs);clear hs fs hb2 HI;go_wp2_with fail
 refine bodyPost_ret (v := .agg #[.z,.slice b1 (Na.au y.toNat).length d1]) (by simp[results,Tryz.results172,go_sem,r0]) rfl ⟨_,rfl,⟨_,rfl,?_,?_⟩,?_⟩
 ·exact F.out.1.ch (((Ch.refl w.heap.size _).setCell 0 _).setCell 1 _) (fun _=>F.out.2.off (by simp; omega))
 ·exact F.out.2.mono (by simp; omega)
 exact(HX.out.setCell (p:=⟨_,0,none⟩) (by simp only; omega) _).setCell (p:=⟨_,1,none⟩) (by simp only; omega) _
theorem rE(neg:Bool)(s:Value)(l:List UInt32)(w:World)(hv:aC w s l)(hlen:l.length≤100000000) :
  Calls Tryz.prog 173 #[.agg #[.bool neg,s]] w fun e w'=>e = .returned (.i (pK neg (Na.val l)))∧Ext w w':=by
 have hb1:=aF w (.cells #[.bool neg,s] 24);have HC:=azF (uQ neg s l _ (hv.below hb1) (by omega));have HB:=azF hb1;obtain⟨a,cap,rfl⟩:=hv.shape;clear hv hb1;by_cases h0:Na.val l=0
 ·have hs:Hid (pK neg (Na.val l)=0):=by show _=_; unfold pK; rw[azI h0]
  have hd:(((Na.au (Na.val l)).length:Int)==0)=true:=by rw[h0]; rfl
  clear h0;go_enter Tryz.func173,Tryz.ntmps173
  go_wp2_with fail
  refine HC.out.mono ?_;rintro e w' ⟨x,rfl,⟨t,rfl,ht,ft⟩,hb⟩;obtain⟨b1,d1,rfl⟩:=ht.shape;have HX:=azF (Ext.trans' HB.out hb);have hsz:=HX.out.size;clear ht ft hb HC HB;go_wp2_with fail
  go_ret
  exact⟨by rw[hs.out]; rfl,HX.out.alloc hsz _⟩
 have hd:(((Na.au (Na.val l)).length:Int)==0)=false:=by
  rw[az8];intro h;exact h0 (oq (by omega))
 have hs0:Hid (∀neg,pK neg (Na.val l)=if neg then -1 else 1):=fun neg=>azG h0;have hp:decide (0<Na.val l)=true:=aAW (by omega);rw[hp]at HC;clear h0 hp;rcases aCr neg with rfl | rfl;all_goals
  go_enter Tryz.func173,Tryz.ntmps173
  go_wp2_with fail
  refine HC.out.mono ?_
  rintro e w' ⟨x,rfl,⟨t,rfl,ht,ft⟩,hb⟩
  obtain⟨b1,d1,rfl⟩:=ht.shape
  have HX:=azF (Ext.trans' HB.out hb)
  have hsz:=HX.out.size
  clear ht ft hb HC HB
  go_wp2_with fail
  go_ret
  exact⟨by rw[hs0.out]; rfl,HX.out.alloc hsz _⟩
theorem Hy(neg:Bool)(s:Value)(l:List UInt32)(w:World)(hv:aC w s l)(hlen:l.length≤100000000) :
  Calls Tryz.prog 221 #[.agg #[.bool neg,s]] w fun e w'=>∃x,e = .returned x∧aO w.heap.size w' x (!neg&&decide (0<Na.val l)) (Na.val l)∧Ext w w':=by
 have hb0:=aF w (.cells #[.bool neg,s] 24);have hb1:=hb0.alloc (by simp) (.cells #[.z,.sn] 24);have HC:=azF (uQ (!neg) s l _ (hv.below hb1) (by omega));have HB:=azF hb1;obtain⟨a,cap,rfl⟩:=hv.shape;clear hv hb1 hb0;go_enter Tryz.func221,Tryz.ntmps221
 go_wp2_with fail
 refine HC.out.mono ?_;rintro e w2 ⟨z,rfl,⟨s,rfl,hs,fs⟩,hb2⟩;obtain⟨b1,d1,rfl⟩:=hs.shape;have r0:∀i,w2.cell? ⟨w.heap.size+1,i,none⟩ = #[Value.z,.sn][i]?:=fun i=>by rw[hb2.cell (p:=⟨w.heap.size+1,i,none⟩) (by simp)]; simp[go_sem]
 have f0:∀i,w2.frozen? ⟨w.heap.size+1,i,none⟩=false:=fun i=>by rw[hb2.frozen (p:=⟨w.heap.size+1,i,none⟩) (by simp)]; simp[go_sem]
 have hz:w.heap.size+1<w2.heap.size:=by have:=hb2.size; simp at this; omega
 have HX:=azF (Ext.trans' HB.out hb2);have F:=azF (And.intro hs fs);generalize hnb:(!neg&&decide (0<Na.val l))=nb at *;have HNB:=azF hnb;clear hs fs hb2 HC hnb;go_wp2_with fail
 refine bodyPost_ret (v := .agg #[.bool nb,.slice b1 (Na.au (Na.val l)).length d1]) (by simp[results,Tryz.results221,go_sem,r0]) rfl ⟨_,rfl,⟨_,by rw[HNB.out],?_,?_⟩,?_⟩
 ·exact F.out.1.ch (((Ch.refl (w.heap.size+1) _).setCell 0 _).setCell 1 _) (fun _=>F.out.2.off (by simp))
 ·exact F.out.2.mono (by simp; omega)
 exact(HX.out.setCell (p:=⟨_,0,none⟩) (by simp only; omega) _).setCell (p:=⟨_,1,none⟩) (by simp only; omega) _
theorem je(x:Nat)(w:World)(h:(x:Int)≤9223372036854775807) :
  Calls Tryz.prog 124 #[.i x] w fun e w'=>∃v,e = .returned v∧aA w.heap.size w' v false x 1∧Ext w w':=by
 have hb0:=aF w (.cells #[.z,.sn,.z,.sn] 26);have H1:=azF (wI x (w.alloc (.cells #[.z,.sn,.z,.sn] 26)) h);have HB0:=azF hb0;clear hb0;go_enter Tryz.func124,Tryz.ntmps124
 go_wp2_with fail
 refine H1.out.mono ?_;rintro e w1 ⟨y,rfl,⟨s,rfl,hs,fs⟩,hb1⟩;have h2:=wI 1 w1 (by decide);have H2:=azF h2;have HS:=azF (And.intro hs fs);have HB1:=azF hb1;clear h2 H1 hs fs hb1;go_wp2_with fail
 refine H2.out.mono ?_;rintro e w2 ⟨y,rfl,⟨t,rfl,ht,ft⟩,hb2⟩;obtain⟨b1,d1,rfl⟩:=HS.out.1.shape;obtain⟨b2,d2,rfl⟩:=ht.shape;obtain⟨r0,f0,hz⟩:=iU (Ext.trans' HB1.out hb2);obtain⟨-,-,hz1⟩:=iU HB1.out;have F:=azF (And.intro (HS.out.1.below hb2) (And.intro ht (And.intro HS.out.2 ft)));have HX:=azF (Ext.trans' HB0.out (Ext.trans' HB1.out hb2));clear ht ft hb2 H2;go_wp2_with fail
 refine bodyPost_ret (v := .agg #[.z,.slice b1 (Na.au x).length d1,.z,.slice b2 (Na.au 1).length d2]) (by simp[results,Tryz.results124,go_sem,r0]) rfl ⟨_,rfl,⟨_,_,rfl,?_,?_,?_,?_⟩,?_⟩
 ·exact F.out.1.ch (((((Ch.refl w.heap.size _).setCell _ _).setCell _ _).setCell _ _).setCell _ _) (fun _=>F.out.2.2.1.off (by simp))
 ·exact F.out.2.1.ch (((((Ch.refl w.heap.size _).setCell _ _).setCell _ _).setCell _ _).setCell _ _) (fun _=>F.out.2.2.2.off hz1)
 ·exact F.out.2.2.1.mono (by simp)
 ·exact F.out.2.2.2.mono (by omega)
 exact(((HX.out.setCell (p:=⟨_,0,none⟩) (by simp only; omega) _).setCell (p:=⟨_,1,none⟩) (by simp only; omega) _).setCell (p:=⟨_,2,none⟩) (by simp only; omega) _).setCell (p:=⟨_,3,none⟩) (by simp only; omega) _
theorem uS{v:Value}{a:Nat}{w:World}(neg:Bool)(hv:aC w v (Na.au a))(hlen:(Na.au a).length≤1000000000) :
  Calls Tryz.prog 219 #[.bool neg,v] w fun e w'=>∃x,e = .returned x∧aO w.heap.size w' x (neg&&decide (0<a)) a∧Ext w w':=by
 have h:=uQ neg v _ w hv hlen;rw[Na.aB]at h;exact h
end
end Go.Proofs.YtodpgjjgaddkeaaGreatDoor
section
namespace Go.Sx
open Go.Proofs.YtodpgjjgaddkeaaGreatDoor Go.RowKit Go.Rel
section
variable{P:Program}{ops ops':Array Oper}{Q:Exit→Act→World→Prop}{a:Act}{w:World}
def sD(ops:Array Oper)(i:Nat):List Nat:=match ops[i]? with | some o=>o.after.toList.filterMap (fun e=>match Region.binds .any e with | true=>some e.on | false=>none) | none=>[]
theorem l7{i j:Nat}{o:Oper}(ho:ops[i]?=some o):j∈sD ops i↔∃e∈o.after,Region.binds .any e=true∧e.on=j:=by
 unfold sD;rw[ho];simp only[aBb,Array.mem_toList_iff];constructor
 ·rintro⟨e,he,h⟩;split at h
  ·rename_i hb; exact⟨e,he,hb,azR h⟩
  cases h
 rintro⟨e,he,hb,rfl⟩;exact⟨e,he,by rw[hb]⟩
theorem tq{L:Array Bool}{j:Nat}:j∈Region.ready .any ops L↔j<ops.size∧L.getD j true=false∧∀q∈sD ops j,L.getD q false=true:=by
 rw[mem_ready];constructor
 ·rintro⟨h0,o,ho,hall⟩;refine⟨(Array.getElem?_eq_some_iff.1 ho).1,h0,fun q hq=>?_⟩;obtain⟨e,he,hb,rfl⟩:=(l7 ho).1 hq;exact hall e he hb
 rintro⟨hlt,h0,h⟩;refine⟨h0,ops[j],Array.getElem?_eq_getElem hlt,fun e he hb=>h _ ((l7 (Array.getElem?_eq_getElem hlt)).2 ⟨e,he,hb,rfl⟩)⟩
theorem ado{L:Array Bool}{j:Nat}(h:j<L.size)(a b:Bool):L.getD j a=L.getD j b:=by simp[Array.getD_eq_getD_getElem?,Array.getElem?_eq_getElem h]
def axx(P:Program)(ops:Array Oper)(l:List (Nat×Value))(h:Nat):Option (Nat×Value):=match ops[h]? with
 | some o=>(match o.guard,o.dst,yO o.op || !o.op.operands.all (fun x=>(rd (lift l) [] x).isSome),iQ (ev0 P (execOp (yA (lift l) []) o))with
  | none,some d,false,some (.val v)=>some (d,v)
  | _,_,_,_=>none)
 | none=>none
end
theorem Vx(F:List Nat)(t:Nat)(os:List Oper):Alike (kG F t os).toArray os.toArray:=⟨by unfold kG; simp,fun i=>by
 rw[List.getElem?_toArray,List.getElem?_toArray,tu];split
 ·cases os[i]?<;>rfl
 rfl⟩
theorem Bo{P:Program}{w:World}{os:List Oper}{i:Nat}{o:Oper}{ρ:Operand→Value}(ho:os[i]?=some o)(hs:Std ρ)(l:List (Nat×Value))(hl:∀q v,l.lookup q=some v→ρ (.tmp q)=v)(A:List Value)(sh:Option Nat){Post:Value→World→Prop}(hT:∀v w',iP w.heap.size A sh v w'→Ext w w'→Post v w')
  (hx:∀r,((os[i]?).bind fun o=>wJ P r [o] l).map (fun q=>(q.1,q.2.2.1,q.2.2.2.isSome))=some (A,shV sh r,true):=by intro r; kernel_rfl):Does P o ρ w Post:=by
 have hx:=hx w.heap.size;rw[ho,aBB]at hx;unfold wJ at hx;simp only at hx;split at hx
 ·rename_i A' ty k' hg hav hev;split at hx
  ·rename_i v hv;simp only[aAv,azK,azP]at hx;obtain⟨rfl,rfl,hd⟩:=hx;simp only[aAz]at hav;have hH:Holds ρ (lift l):=fun q x hq=>by
    rw[jH]at hq;cases h2:l.lookup q with
    | none=>simp[h2]at hq
    | some u =>
     simp only[h2,aAv,azK]at hq;subst hq;rw[hl q u h2]; rfl
   have hc:execOp ρ o=execOp (yA (lift l) []) o:=by
    refine execOp_congr o (fun cs b e1=>by rw[e1]at hav; cases hav.1) fun x hx=>?_;have h2:=hav.2;simp only[aA3,aBV]at h2;obtain⟨z,hz⟩:=aAN.1 (h2 x hx);rw[gV hs (ig hH o x hx) (p:=[]) rfl hz];simp[yA,hz]
   have hv':ev0 P k'=some (.value (shV sh w.heap.size)):=by
    unfold iQ at hv;split at hv
    ·rename_i h; obtain h2:=azR hv; rw[h]; simp only[EP.val.injEq]at h2; rw[h2]
    ·cases hv
    cases hv
   have hrun:(execOp ρ o).run P w = .ok (.value (shV sh w.heap.size)) (w.alloc (.cells A'.toArray ty)):=by rw[hc,mX hev,nN hv']
   unfold Does;rw[hrun];exact hT _ _ ⟨w.heap.size,rfl,azJ _,Gu _ _ _⟩ (aF _ _)
  simp at hx
 simp at hx
theorem qB{α:Type}{k:Nat}{f:α→List Value}{w:World}{a:Option Addr}{L:List α}{c:Nat}(h:aI k f w (.slice a L.length c) L){l h' m:Nat}(h1:l≤h')(h2:h'≤L.length)(h3:h'≤m)(h4:m≤c):aI k f w (.slice (uo a l m k) (h'-l) (m-l)) ((L.drop l).take (h'-l)):=by
 have hlen:((L.drop l).take (h'-l)).length=h'-l:=by simp; omega
 obtain⟨a',cap,hv,hm,hh⟩:=h;simp only[aAg,true_and]at hv;obtain⟨rfl,rfl⟩:=hv;refine⟨uo a l m k,m-l,by rw[hlen],az3 (by omega) hm,?_⟩;rcases hh with ⟨rfl,hz⟩ | ⟨b,o,rfl,hb,hl,hc⟩
 ·refine .inl ⟨by simp,fun e=>?_⟩;have:c=0:=hz (by
   unfold uo at e;split at e
   ·exact e
   cases a with
   | none=>rfl
   | some _=>cases e)
  omega
 by_cases hlm:m=l
 ·refine .inl ⟨by rw[show h'-l=0 by omega]; rfl,fun e=>by
  unfold uo at e; rw[azI hlm]at e; cases e⟩
 refine .inr ⟨b,o+l*k,by unfold uo; rw[azG hlm]; simp[Addr.add],hb,by rw[hlen]; omega,fun i hi j hj=>?_⟩;rw[hlen]at hi;have h5:=hc (l+i) (by omega) j hj;have e1:o+l*k+i*k+j=o+(l+i)*k+j:=by rw[aA8]; omega
 rw[e1,h5,aCi,List.getElem_drop]
theorem Vy{α:Type}{e:TypeId}{k base:Nat}{f:α→List Value}{w:World}{a:Option Addr}{L:List α}{c:Nat}(h:nZ e k f base (.slice a L.length c) L w){h' m:Nat}(h2:h'≤L.length)(h3:h'≤m)(h4:m≤c):nZ e k f base (.slice a h' m) (L.take h') w:=by
 have h5:=qB h.1 (azQ _) h2 h3 h4;have hlen:(L.take h').length=h':=by simp; omega
 have e0:((L.drop 0).take (h'-0))=L.take h':=by simp
 rw[e0,Nat.sub_zero,Nat.sub_zero]at h5;have ea:uo a 0 m k=a:=by unfold uo; split<;>cases a<;>simp[Addr.add]
 rw[ea]at h5;refine⟨h5,?_⟩;rcases h.2 with h6 | ⟨g,cap,cur,h6,h7,h8,h9⟩
 ·exact .inl (by omega)
 simp only[aAg,true_and]at h6;obtain⟨rfl,rfl⟩:=h6;exact .inr ⟨g,m,cur,by rw[hlen],h7,h8,by rw[hlen]; exact az3 (aA7 _ h2) h9⟩
theorem adq(a:Option Addr)(m k:Nat):uo a 0 m k=a:=by unfold uo; split<;>cases a<;>simp[Addr.add]
theorem KY{α:Type}{k:Nat}{f:α→List Value}{w:World}{a:Option Addr}{L:List α}{c i:Nat}(h:aI k f w (.slice a L.length c) L)(hi:i≤L.length)(hc:i≤c):aI k f w (.slice (uo a 0 i k) i i) (L.take i):=by
 have:=qB h (azQ i) hi (azJ i) hc;simpa using this
theorem aau{α:Type}{k:Nat}{f:α→List Value}{w:World}{a:Option Addr}{L:List α}{c i:Nat}(h:aI k f w (.slice a L.length c) L)(hi:i≤L.length)(hc:L.length≤c):aI k f w (.slice (uo a i c k) (L.length-i) (c-i)) (L.drop i):=by
 have:=qB h hi (azJ _) hc (azJ c);rwa [aAp (by simp)]at this
theorem kN{α:Type}{k:Nat}{f:α→List Value}{w:World}{a:Option Addr}{L:List α}{c:Nat}(h:aI k f w (.slice a L.length c) L):L.length≤c:=by
 obtain⟨a',cap,hv,hm,hh⟩:=h;simp only[aAg,true_and]at hv;obtain⟨rfl,rfl⟩:=hv;rcases hh with ⟨rfl,_⟩ | ⟨b,o,_,_,hl,_⟩
 ·exact azQ _
 exact hl
theorem dL{w w':World}{B:Nat}{e:TypeId}{k n:Nat}{v:Value}{xs:List Value}(h:w.ownsRow B e k v n xs)(hE:Ext w w'):w'.ownsRow B e k v n xs:=l9 h fun g hg=>hE.block g (iL h hg).2
theorem ads{P:Program}{w:World}{o:Oper}{ρ:Operand→Value}{s x:Operand}{t e:TypeId}(ho:o.op = .call { callee := .builtin .append,args := #[s,x],argTypes := #[t,t] }){z:Value}{k bytes:Nat}(T:iI P t e z k bytes)
  {A:Option Addr} {f:Nat} {xs:List Value} (hv:dP w k (.slice A f f) f xs) (hs:ρ s = .slice A f f) {y:Value} {c:Nat} {ys:List Value} (hy:dP w k y c ys) (hx:ρ x=y) (hc0:0<c) (h63:f+c≤maxLen) (hbytes:(f+c)*bytes≤140737488355328) :
  ∃v' w',(execOp ρ o).run P w = .ok (.value v') w'∧w'.ownsRow w.heap.size e k v' (f+c) (xs++ys)∧Ext w w':=by
 cases A with
 | some ad=>exact QZ ho T hv hs hy hx (by omega) hc0 h63 hbytes
 | none =>
  have hf:f=0:=by
   rcases hv.2.2 with ⟨h,_⟩ | ⟨_,_,_,h,_⟩
   ·exact h
   cases h
  subst hf;have hxs:xs=[]:=aAZ (by simpa using hv.1);subst hxs;obtain⟨v',w',hr,h2,h3,-⟩:=NR (P:=P) (B:=w.heap.size) ho T (v := .sn) (m:=0) (xs:=[]) ⟨by simp,.inl ⟨rfl,rfl⟩⟩ hs hy hx h63 hbytes (azJ _);exact⟨v',w',hr,h2,⟨h3.os,h3.tape,h3.output,h3.size,fun i hi=>h3.block i hi fun e=>by cases e⟩⟩
def Q5(os:List Oper)(i:Nat):Option (Operand×Operand×TypeId×Bool):=match os[i]? with
 | some o=>(match o.op with
  | .call c=>(match c.callee,c.args.toList,c.argTypes.toList with
   | .builtin .append,[s,x],[t,t']=>(match t==t' with | true=>some (s,x,t,o.dst.isSome) | false=>none)
   | _,_,_=>none)
  | _=>none)
 | none=>none
theorem Hz{os:List Oper}{i:Nat}{s x:Operand}{t:TypeId}{b:Bool}(h:Q5 os i=some (s,x,t,b)){o:Oper}(ho:os[i]?=some o):o.op = .call { callee := .builtin .append,args := #[s,x],argTypes := #[t,t] }∧o.dst.isSome=b:=by
 unfold Q5 at h;rw[ho]at h;simp only at h;split at h
 ·rename_i c hop;split at h
  ·rename_i s' x' t1 t2 h1 h2 h3;split at h
   ·rename_i ht;simp only[azK,azP]at h;obtain⟨rfl,rfl,rfl,rfl⟩:=h;obtain rfl:t1=t2:=by simpa using ht
    refine⟨?_,rfl⟩;rw[hop];obtain⟨callee,args,argTypes⟩:=c;simp only at h1 h2 h3;rw[h1,←aB4 (xs:=args),←aB4 (xs:=argTypes),h2,h3]
   cases h
  cases h
 cases h
theorem H8{P:Program}{w:World}{os:List Oper}{i:Nat}{o:Oper}{ρ:Operand→Value}(ho:os[i]?=some o){t e:TypeId}{z:Value}{k bytes:Nat}(T:iI P t e z k bytes){sl sx:Nat}{A:Option Addr}{f:Nat}{xs:List Value}{y:Value}{c:Nat}{ys:List Value}
  (hs:ρ (.tmp sl) = .slice A f f) (hx:ρ (.tmp sx)=y) (hv:dP w k (.slice A f f) f xs) (hy:dP w k y c ys) (hc0:0<c) (h63:f+c≤maxLen) (hbytes:(f+c)*bytes≤140737488355328) {Post:Value→World→Prop} (hK:∀v' w',w'.ownsRow w.heap.size e k v' (f+c) (xs++ys)→Ext w w'→Post v' w')
  (hop:Q5 os i=some (.tmp sl,.tmp sx,t,true):=by kernel_rfl):Does P o ρ w Post:=by
 obtain⟨h1,h2⟩:=Hz hop ho;obtain⟨v',w',hr,h3,h4⟩:=ads (P:=P) h1 T hv hs hy hx hc0 h63 hbytes;unfold Does;rw[hr];exact hK v' w' h3 h4
theorem aav{P:Program}{w:World}{os:List Oper}{i:Nat}{o:Oper}{ρ:Operand→Value}(ho:os[i]?=some o){t e:TypeId}{z:Value}{k bytes:Nat}(T:iI P t e z k bytes){sl sx:Nat}{A B:Option Addr}{f cf c:Nat}(hf:f≤cf)
  (hs:ρ (.tmp sl) = .slice A f cf) (hx:ρ (.tmp sx) = .slice B 0 c) {Post:Value→World→Prop} (hK:Post (.slice A f cf) w) (hop:Q5 os i=some (.tmp sl,.tmp sx,t,true):=by kernel_rfl):Does P o ρ w Post:=by
 obtain⟨h1,h2⟩:=Hz hop ho;obtain⟨i',hi',-⟩:=T.info;have hr:=ER (P:=P) (w:=w) (ty:=o.type) T.und hi' A B f cf c hf;have hrun:(execOp ρ o).run P w = .ok (.value (.slice A f cf)) w:=by
  unfold execOp;simp only[h1,resolve,invoke,builtin,aAI,aBZ,aBU,aCn,aAu,aAQ,hs,hx,hr]
 unfold Does;rw[hrun];exact hK
theorem oh{os:List Oper}{i:Nat}{o:Oper}{U:zI}{d:Nat}{K:Fact}{v:Value}{w w':World}(ho:os[i]?=some o)(hd:(os[i]?).bind (·.dst)=some d)(hU:U.lookup d=some K)(hE:Ext w w')(h:K v w'):Ext w w'∧hpost U o (kept o v) w':=by
 rw[ho,aBB]at hd;refine⟨hE,?_⟩;unfold hpost;rw[hd];simp only[hU];unfold kept;rw[hd];exact h
def evV(P:Program)(o:Oper)(l:List (Nat×Value)):Option Value:=match yO o.op || !o.op.operands.all (fun x=>(rd (lift l) [] x).isSome),iQ (ev0 P (execOp (yA (lift l) []) o))with
 | false,some (.val v)=>some v
 | _,_=>none
theorem kX{P:Program}{w:World}{os:List Oper}{i:Nat}{o:Oper}{ρ:Operand→Value}(ho:os[i]?=some o)(hs:Std ρ)(l:List (Nat×Value))(hl:∀q v,l.lookup q=some v→ρ (.tmp q)=v){Post:Value→World→Prop}(v:Value)(hK:Post v w)
  (hx:(os[i]?).bind (fun o=>evV P o l)=some v:=by kernel_rfl):Does P o ρ w Post:=by
 rw[ho,aBB]at hx;unfold evV at hx;split at hx
 ·rename_i v' hav hev;obtain rfl:=azR hx;simp only[aAz]at hav;have hH:Holds ρ (lift l):=fun q x hq=>by
   rw[jH]at hq;cases h2:l.lookup q with
   | none=>simp[h2]at hq
   | some u =>
    simp only[h2,aAv,azK]at hq;subst hq;rw[hl q u h2]; rfl
  have hrun:(execOp ρ o).run P w = .ok (.value v') w:=lG hs (ig hH o) (p:=[]) rfl hav.1 (by simpa using hav.2) hev;unfold Does;rw[hrun];exact hK
 cases hx
theorem look1{ρ:Operand→Value}{s:Nat}{u:Value}(h:ρ (.tmp s)=u):∀q v,List.lookup q [(s,u)]=some v→ρ (.tmp q)=v:=fun q v hq=>by
 rw[aAw]at hq;split at hq
 ·rename_i hq2;obtain rfl:q=s:=by simpa using hq2
  rw[←azR hq,h]
 cases hq
section
variable{P:Program}{os:List Oper}{Q:Exit→Act→World→Prop}{w0:World}{a:Act}{w:World}{n:Nat}{l:List (Nat×Value)}{bl:List (Nat×List Value)}{vs:List eX}
theorem agB{ops:Array Oper}{i:Nat}{o:Oper}{K:Act→World→Prop}(ho:ops[i]?=some o)(h:wpList P ops (ES fun _ a w=>K a w) [o] a w):wpOp P ops Q i K a w:=by
 unfold wpOp;rw[ho];unfold wpList at h;simp only;split at h
 ·rename_i hw;rw[azI hw];rcases h with h | ⟨_,h⟩
  ·left;unfold Oper.wp at *;generalize (execOp a.eval _).run P w=r at *;cases r with
   | ok n w' =>
    cases n<;>simp only[Oper.upon]at h ⊢;case value u=>exact h
    case skip=>exact h
    case defer d=>exact h
    case enter f args =>
     refine Calls.mono h fun e w'' he=>?_;cases e with
     | returned u=>exact he
     | panicked c=>exact he.elim
     | outgrown=>exact(tC he).elim
    case row row args=>exact Rows.mono h fun u w'' he=>he
   | halt x w' =>
    cases x<;>simp only[Oper.upon]at h ⊢;case panic u=>exact h.elim
  exact(tC h).elim
 rename_i hw;rw[azG hw];exact h
def one(os:List Oper)(i:Nat):List Oper:=(os.drop i).take 1
theorem adt{i:Nat}{o:Oper}(h:os[i]?=some o):one os i=[o]:=by
 have hi:=(List.getElem?_eq_some_iff.1 h).1;unfold one;rw[aAR hi,List.take_succ_cons,List.take_zero];rw[List.getElem?_eq_getElem hi]at h;rw[azR h]
abbrev adu (P:Program)(Q:Exit→Act→World→Prop)(os:List Oper)(f:Nat)(L:Array Bool)(a:Act)(w:World)(i:Nat):Prop:=wpList P os.toArray (ES fun _ a w=>wpAny P .any os.toArray Q f (L.setIfInBounds i true) a w) (one os i) a w
theorem Yk{f:Nat}{L:Array Bool}{rs:List Nat}(hne:rs≠[])(h:∀i∈rs,adu P Q os f L a w i)(hr:Region.ready .any os.toArray L=rs):wpAny P .any os.toArray Q (f+1) L a w:=by
 refine⟨fun h0=>absurd (hr.symm.trans h0) hne,fun i hi=>?_⟩;obtain⟨_,o,ho,_⟩:=mem_ready.1 hi;rw[hr]at hi;refine agB ho ?_;have:=h i hi;unfold adu at this;rwa [adt (by simpa using ho)]at this
theorem nO{f:Nat}{L:Array Bool}(i:Nat)(h:adu P Q os f L a w i)(hr:Region.ready .any os.toArray L=[i]:=by kernel_rfl):wpAny P .any os.toArray Q (f+1) L a w:=Yk (by simp) (fun j hj=>by obtain rfl:=aAb.1 hj; exact h) hr
theorem Vz{f:Nat}{L:Array Bool}(i j:Nat)(h:adu P Q os f L a w i)(k:adu P Q os f L a w j)(hr:Region.ready .any os.toArray L=[i,j]:=by kernel_rfl):wpAny P .any os.toArray Q (f+1) L a w:=Yk (by simp) (fun x hx=>by
 rcases azS.1 hx with rfl | hx
 ·exact h
 obtain rfl:=aAb.1 hx; exact k) hr
theorem jo{Q':Exit→Act→World→Prop}{ops:Array Oper}{m:List Oper}(h:Q' .normal a w)(hm:m.isEmpty=true:=by kernel_rfl):wpList P ops (ES Q') m a w:=by
 rw[List.isEmpty_iff.1 hm]; exact h
theorem NS{f:Nat}{L:Array Bool}(m:Nat)(h:wpList P os.toArray Q (os.drop m) a w)(hs:(Region.seqB .any os.toArray f m L&&decide (os.length=m+f))=true:=by kernel_rfl):wpAny P .any os.toArray Q f L a w:=by
 simp only[azY,azW]at hs;have e:(os.drop m).length=f:=by rw[aBF]; omega
 subst e;exact wpAny_of_seq (os.drop m) m L a w (fun j=>by simp[List.getElem?_drop]) hs.1 h
theorem ordered(S:St w0 a w n l bl vs){id:Nat}(f:Nat)(next:∀a' w',Ext w w'→St w0 a' w' n l bl vs→wpAny P .any os.toArray Q f (Array.replicate f false) a' w')(hf:(os.length==f)=true:=by kernel_rfl)(hmo:P.follows .mixedOrders=true:=by kernel_rfl):(Code.region id os.toArray true).wp P Q a w:=by
 have hE:Ext w { w with drawn:=w.drawn+1 }:=below_drewN (az5 _ _) 1;have key:=next a _ hE (S.grow hE);obtain rfl:=eq_of_beq hf;exact aBJ hmo (by simpa using key)
theorem KZ{ops:Array Oper}{b:Nat}{A:List Value}(S:St w0 a w n l ((b,A)::bl) vs){wc:World}{f:FuncId}{args:Array Value}(d:Option Nat){R:Ending→World→Prop}(h0:Ext w0 wc)(hcw:Ext wc w)(hlt:∀p∈bl,p.1<wc.heap.size)(hc:Calls P f args w R)
  (next:∀e w',R e w'→∃v A',e = .returned v∧Ext wc w'∧Bx w' b (List.toArray A')∧∀a',St w0 a' w' n (yB l d v) ((b,A')::bl) []→wpList P ops Q (os.drop 1) a' w')
  (hx:callOf P os l=some (f,args,d):=by kernel_rfl) (hd:vG n d=true:=by rfl):wpList P ops Q os a w:=by
 cases os with
 | nil=>cases hx
 | cons o os =>
  unfold callOf at hx;simp only at hx;split at hx
  ·rename_i f' args' hg hav hev;simp only[azK,azP]at hx;obtain⟨rfl,rfl,rfl⟩:=hx;simp only[aAz]at hav;have hrun:(execOp a.eval o).run P w = .ok (.enter f' args') w:=lG (Std.act a) (ig (bY S.s) o) (p:=[]) rfl hav.1 (by simpa using hav.2) hev;unfold wpList;rw[azI (by simp[Region.wanted,hg])];left;unfold Oper.wp;rw[hrun];simp only[Oper.upon];refine hc.mono fun e w' hR=>?_;obtain⟨v,A',rfl,hE,hX,hn⟩:=next e w' hR;refine hn _ ⟨uP S.s hd v,Ext.trans' h0 hE,fun p hp=>?_,S.apart,fun m hm=>(by cases hm)⟩;rcases azS.1 hp with rfl | hp
   ·exact⟨hX,(S.own _ azV).2⟩
   have h1:=S.own p (aAT _ hp);have hl:=hlt p hp;exact⟨⟨aAa hl hE.size,fun i=>(hE.cell (p:=⟨p.1,i,none⟩) hl).trans ((hcw.cell (p:=⟨p.1,i,none⟩) hl).symm.trans (h1.1.2.1 i)),fun i=>(hE.frozen (p:=⟨p.1,i,none⟩) hl).trans ((hcw.frozen (p:=⟨p.1,i,none⟩) hl).symm.trans (h1.1.2.2 i))⟩,h1.2⟩
  cases hx
theorem ajR(S:St w0 a w n l bl vs)(k:Nat){fn:Func}{R:Ending→World→Prop}{r s t b:Nat}{ty:TypeId}{A:List Value}{v u z:Value}(hr:fn.results = #[.cell r ty,.tmp s,.tmp t])(hk:bl[k]?=some (b,A))(h:R (.returned (.tuple #[v,u,z])) w)
  (hv:Vp.ev l (.tmp r)=some (.q b 0):=by kernel_rfl) (hu:Vp.ev l (.tmp s)=some u:=by rfl) (hz:Vp.ev l (.tmp t)=some z:=by rfl) (hl:PZ P ty A=some v:=by kernel_rfl):bodyPost P fn R .ret a w:=by
 refine⟨S.s.defers,_,?_,h⟩;have h1:=S.s.ev hv;have h3:=S.s.ev hu;have h4:=S.s.ev hz;have h2:=S.var hk hl;unfold results;rw[hr];simp only[Act.eval,Array.getD_eq_getD_getElem?]at h1 h3 h4;simp[h1,h3,h4,asAddr,h2]
end
end Go.Sx
namespace Go.Proofs.YtodpgjjgaddkeaaGreatDoor
open Go.RowKit
variable{α:Type}
theorem _root_.Go.Sx.VA{P:Program}{w0 w:World}{a:Act}{n:Nat}{l:List (Nat×Value)}{bl:List (Nat×List Value)}{vs:List Sx.eX}(S:Sx.St w0 a w n l bl vs){fn:Func}{R:Ending→World→Prop}(i j:Nat){r s t b c:Nat}{ty:TypeId}{A B:List Value}{u v x:Value}(hr:fn.results = #[.cell r ty,.cell s ty,.tmp t])(hi:bl[i]?=some (b,A))(hj:bl[j]?=some (c,B))(h:R (.returned (.tuple #[u,v,x])) w)
  (h1:Vp.ev l (.tmp r)=some (.q b 0):=by kernel_rfl) (h2:Vp.ev l (.tmp s)=some (.q c 0):=by kernel_rfl) (h3:Vp.ev l (.tmp t)=some x:=by kernel_rfl) (l1:Sx.PZ P ty A=some u:=by kernel_rfl) (l2:Sx.PZ P ty B=some v:=by kernel_rfl):bodyPost P fn R .ret a w:=by
 refine⟨S.s.defers,_,?_,h⟩;have e1:=S.s.ev h1;have e2:=S.s.ev h2;have e3:=S.s.ev h3;unfold results;rw[hr];simp only[Act.eval,Array.getD_eq_getD_getElem?]at e1 e2 e3;simp[e1,e2,e3,asAddr,S.var hi l1,S.var hj l2]
theorem Q7{s:Value}{m:List UInt32}{w:World}(h:aC w s m)(hm:0<Na.val m)(hl:m.length≤100000000) :
  Calls Tryz.prog 173 #[.agg #[.z,s]] w fun e w'=>e = .returned (.i 1)∧Ext w w':=by
 have hc:=rE false _ m w h hl;rw[show pK false (Na.val m)=1 from by unfold pK; rw[azG (by omega)]; rfl]at hc;exact hc
theorem NT{b:Bool}{s:Value}{w:World}(h:aC w s (Na.au 0)) :
  Calls Tryz.prog 173 #[.agg #[.bool b,s]] w fun e w'=>e = .returned (.i 0)∧Ext w w':=by
 have hc:=rE b _ _ w h (by simp[Na.jA]);rw[Na.aB,show pK b 0=0 from rfl]at hc;exact hc
theorem mg{base:Nat}{w:World}{b neg:Bool}{s:Value}{n:Nat}(h:aO base w (.agg #[.bool b,s]) neg n):aC w s (Na.au n):=by
 obtain⟨t,e,hs,_⟩:=h;simp only[aBq,aBr,aAf,and_true]at e;obtain⟨-,rfl⟩:=e;exact hs
theorem aO.flag{base:Nat}{w:World}{v:Value}{n n':Bool}{a:Nat}(h:aO base w v n a)(e:n=n'):aO base w v n' a:=e▸h
theorem Q8{base:Nat}{w:World}{b c n1 n2 neg:Bool}{s t:Value}{x y:Nat}(h:aO base w (.agg #[.bool b,s]) n1 x)(k:aO base w (.agg #[.bool c,t]) n2 y)(e1:n1=neg)(e2:n2=false):aA base w (.agg #[.bool b,s,.bool c,t]) neg x y:=by
 obtain⟨s',e,hs,fs⟩:=h;obtain⟨t',e',ht,ft⟩:=k;simp only[aBq,aBr,aAf,Value.bool.injEq,and_true]at e e';obtain⟨rfl,rfl⟩:=e;obtain⟨rfl,rfl⟩:=e';exact⟨_,_,by rw[e1,e2],hs,ht,fs,ft⟩
theorem adv{n:Bool}{b:Nat}(hb:0<b):decide (pK n b<0)=n:=by
 unfold pK;rw[azG (by omega)];cases n<;>simp
theorem Q9(n1 n2:Bool)(a b:Nat)(hb:0<b):lC n1 n2 a b=((if n2 then !n1&&decide (0<a)else n1)&&decide (0<a/Nat.gcd a b)):=by
 unfold lC;rcases aAt a with h | h
 ·subst h; simp
 congr 1;unfold pK;rw[azG (show ¬a=0 by omega),azG (show ¬b=0 by omega)];cases n1<;>cases n2<;>simp[h]
theorem kY(n1:Bool)(s t:Value)(l m:List UInt32)(w:World)(h1:aC w s l)(h2:aC w t m)(hm:0<Na.val m)(hdvd:Na.val l%Na.val m=0)(hl1:l.length≤5000000)(hl2:m.length≤5000000) :
  Calls Tryz.prog 222 #[.agg #[.bool n1,s],.agg #[.z,t]] w fun e w'=>∃x y,e = .returned (.tuple #[x,y,.i 0]) ∧
   aO w.heap.size w' x (n1&&decide (0<Na.val l/Na.val m)) (Na.val l/Na.val m)∧aO w.heap.size w' y false 0∧Ext w w':=by
 obtain⟨a1,c1,rfl⟩:=h1.shape;obtain⟨a2,c2,rfl⟩:=h2.shape;refine azN Tryz.func222 Tryz.ntmps222 fun ac S=>azc fun _ gW=>Sx.qO S 2 [.bool n1,.slice a1 l.length c1] fun ac u b2 E3 hb4 S=>Sx.qO S 3 [.z,.slice a2 m.length c2] fun ac u b5 E6 hb7 S=>Sx.qO S 4 [.z,.sn] fun ac u b8 E9 zo S=>Sx.qO S 5 [.z,.sn] fun ac u b11 qM acJ S=>apB S 1 [] [(6,.i 0)] fun S=>aza<|gW _ _<|azX fun _ vN=>azc fun _ Hq=>apB S 1 [.mem 2 0] [(12,.agg #[.z,.slice a2 m.length c2])] fun S=>Sx.Bh S 13 (Q7 (h2.below S.E) hm (by omega)) fun ac u EN S=>apB S 1 [] [(14,.z)] fun S=>aza<|Hq _ _<|Sx.D7 S<|aAi<|vN _ _<|azc fun _ NJ=>apB S 4 [.mem 3 1,.mem 2 1] [(19,.slice a1 l.length c1),(21,.slice a2 m.length c2)] fun S=>Sx.jI S (some 22) (yN _ _ l m _ (h1.below S.E) (h2.below S.E) hm (by omega) (by omega)) ?_;rintro e u ⟨q,r,rfl,hq,hr,yV⟩;have hq:aC _ _ _:=aV hq;have hr:aC _ _ _:=aV hr;rw[hdvd]at hr;obtain⟨aq,cq,rfl⟩:=hq.shape;obtain⟨ar,cr,rfl⟩:=hr.shape;refine⟨_,rfl,yV,fun ac S=>?_⟩;refine apB S 7 [] [(7,.slice aq (Na.au (Na.val l/Na.val m)).length cq),(8,.slice ar (Na.au 0).length cr)] fun S=>aza<|NJ _ _<|azc fun _ ajG=>apB S 6 [.mem 3 0,.mem 2 0] [(30,.bool (!(n1==false))),(31,.slice aq (Na.au (Na.val l/Na.val m)).length cq)] fun S=>Sx.jI S (some 32) (uS (!(n1==false)) hq (by have:=fH (aBK (Na.val l) (Na.val m)); have:=bW l; omega)) ?_;rintro e u ⟨x,rfl,fx,yx⟩;obtain⟨Yl,Ym,rfl⟩:=fx.shape;have amU:=S.E.size;refine⟨_,rfl,yx,fun ac S=>?_⟩;refine Sx.qO S 10 [.z,.sn] fun ac u b21 P5 ajH S=>azH S 0 (off:=0) (cs:=[.bool ((!(n1==false))&&decide (0<(Na.val l/Na.val m))),.slice Yl (Na.au (Na.val l/Na.val m)).length Ym]) rfl (fun u Ny S=>?_);have Fp:=azg (Ext.trans' yx P5) Ny (by have:=yx.size; omega);have Ux:=azg (Ext.trans' yx P5) Ny (by have:=yx.size; omega);have E27:=azg P5 Ny (by omega);refine aza<|ajG _ _<|azc fun _ adw=>apB S 3 [.mem 4 0] [(34,.bool n1),(35,.slice ar (Na.au 0).length cr)] fun S=>Sx.jI S (some 36) (uS n1 (hr.below Ux) (by simp[Na.jA])) ?_;rintro e u ⟨x,rfl,fy,Ar⟩;obtain⟨VB,VD,rfl⟩:=fy.shape;have amV:=S.E.size;refine⟨_,rfl,Ar,fun ac S=>?_⟩;refine Sx.qO S 11 [.z,.sn] fun ac u b30 CB Z9 S=>azH S 0 (off:=0) (cs:=[.bool (n1&&decide (0<0)),.slice VB (Na.au 0).length VD]) rfl (fun u Nz S=>?_);have E34:=azg (Ext.trans' Fp (Ext.trans' Ar CB)) Nz (by have:=(Ext.trans' Fp Ar).size; omega);have Fq:=azg (Ext.trans' Ux (Ext.trans' Ar CB)) Nz (by have:=(Ext.trans' Ux Ar).size; omega);have UE:=azg (Ext.trans' E27 (Ext.trans' Ar CB)) Nz (by have:=(Ext.trans' E27 Ar).size; omega);have G8:=azg CB Nz (by omega);refine aza<|adw _ _<|azX fun _ ajS=>azc fun _ ajT=>Sx.ade S 10 [.mem 5 0,.mem 4 0,.mem 0 0] [(_,_,(!(n1==false)),.i 0)] [(46,.bool ((!(n1==false))&&false))] ⟨fun u hC g=>NT (b:=n1&&decide (0<0)) (mg (fy.ext (Ext.trans' G8 hC))),trivial⟩ fun ac u E40 S=>aza (ajT _ _ ?_);refine azC S (fun JO=>?_) (fun JO=>?_)
 ·simp at JO
 refine aAi<|ajS _ _<|azX fun _ adx=>Sx.ordered S 5 fun ac u E43 S=>Sx.Vz 0 1 ?_ ?_
 ·refine apB S 1 [.mem 1 0] [(53,.agg #[.bool ((!(n1==false))&&decide (0<(Na.val l/Na.val m))),.slice Yl (Na.au (Na.val l/Na.val m)).length Ym])] fun S=>Sx.jo<|Sx.Vz 1 2 ?_ ?_
  ·refine apB S 1 [.mem 0 0] [(54,.agg #[.bool (n1&&decide (0<0)),.slice VB (Na.au 0).length VD])] fun S=>Sx.jo<|Sx.nO 2 ?_;have X45:=S.bx 3;refine azH S 3 (off:=0) (cs:=[.bool ((!(n1==false))&&decide (0<(Na.val l/Na.val m))),.slice Yl (Na.au (Na.val l/Na.val m)).length Ym]) rfl (fun u C44 S=>?_);have JU:=aO.dX (fx.ext (Ext.trans' UE (Ext.trans' E40 E43))) C44 X45;have Rf:=aO.dX (fy.ext (Ext.trans' G8 (Ext.trans' E40 E43))) C44 X45;refine Sx.jo<|Sx.NS 3 ?_;have X49:=S.bx 2;refine azH S 2 (off:=0) (cs:=[.bool (n1&&decide (0<0)),.slice VB (Na.au 0).length VD]) rfl (fun u C48 S=>?_);have VE:=aO.dX JU C48 X49;have GZ:=aO.dX Rf C48 X49;refine apB S 1 [] [(6,.i 0)] fun S=>aza<|adx _ _<|Vp.rt ?_;refine Sx.VA S 3 2 Tryz.results222 rfl rfl ⟨_,_,rfl,(aO.mono VE (by omega)).flag (by simp),(aO.mono GZ (by omega)).flag (by simp),S.E⟩
  have X53:=S.bx 3;refine azH S 3 (off:=0) (cs:=[.bool ((!(n1==false))&&decide (0<(Na.val l/Na.val m))),.slice Yl (Na.au (Na.val l/Na.val m)).length Ym]) rfl (fun u C52 S=>?_);have Rh:=aO.dX (fx.ext (Ext.trans' UE (Ext.trans' E40 E43))) C52 X53;have Ri:=aO.dX (fy.ext (Ext.trans' G8 (Ext.trans' E40 E43))) C52 X53;refine Sx.jo<|Sx.nO 1<|apB S 1 [.mem 0 0] [(54,.agg #[.bool (n1&&decide (0<0)),.slice VB (Na.au 0).length VD])] fun S=>Sx.jo<|Sx.NS 3 ?_;have X57:=S.bx 2;refine azH S 2 (off:=0) (cs:=[.bool (n1&&decide (0<0)),.slice VB (Na.au 0).length VD]) rfl (fun u C56 S=>?_);have Bq:=aO.dX Rh C56 X57;have NU:=aO.dX Ri C56 X57;refine apB S 1 [] [(6,.i 0)] fun S=>aza<|adx _ _<|Vp.rt ?_;refine Sx.VA S 3 2 Tryz.results222 rfl rfl ⟨_,_,rfl,(aO.mono Bq (by omega)).flag (by simp),(aO.mono NU (by omega)).flag (by simp),S.E⟩
 refine apB S 1 [.mem 0 0] [(54,.agg #[.bool (n1&&decide (0<0)),.slice VB (Na.au 0).length VD])] fun S=>Sx.jo<|Sx.nO 0<|apB S 1 [.mem 1 0] [(53,.agg #[.bool ((!(n1==false))&&decide (0<(Na.val l/Na.val m))),.slice Yl (Na.au (Na.val l/Na.val m)).length Ym])] fun S=>Sx.jo<|Sx.nO 2 ?_;have X61:=S.bx 3;refine azH S 3 (off:=0) (cs:=[.bool ((!(n1==false))&&decide (0<(Na.val l/Na.val m))),.slice Yl (Na.au (Na.val l/Na.val m)).length Ym]) rfl (fun u UF S=>?_);have Bv:=aO.dX (fx.ext (Ext.trans' UE (Ext.trans' E40 E43))) UF X61;have wK:=aO.dX (fy.ext (Ext.trans' G8 (Ext.trans' E40 E43))) UF X61;refine Sx.jo<|Sx.NS 3 ?_;have X65:=S.bx 2;refine azH S 2 (off:=0) (cs:=[.bool (n1&&decide (0<0)),.slice VB (Na.au 0).length VD]) rfl (fun u C64 S=>?_);have VF:=aO.dX Bv C64 X65;have G5:=aO.dX wK C64 X65;refine apB S 1 [] [(6,.i 0)] fun S=>aza<|adx _ _<|Vp.rt ?_;refine Sx.VA S 3 2 Tryz.results222 rfl rfl ⟨_,_,rfl,(aO.mono VF (by omega)).flag (by simp),(aO.mono G5 (by omega)).flag (by simp),S.E⟩
theorem JV(n1 n2:Bool)(s1 s2:Value)(l m:List UInt32)(w:World)(h1:aC w s1 l)(h2:aC w s2 m)(hm:0<Na.val m)(hl1:l.length≤5000000)(hl2:m.length≤5000000) :
  Calls Tryz.prog 174 #[.agg #[.bool n1,s1],.agg #[.bool n2,s2]] w fun e w'=>∃x,e = .returned x ∧
   aA w.heap.size w' x (lC n1 n2 (Na.val l) (Na.val m)) (Na.val l/Nat.gcd (Na.val l) (Na.val m)) (Na.val m/Nat.gcd (Na.val l) (Na.val m))∧Ext w w':=by
 obtain⟨a1,c1,rfl⟩:=h1.shape;obtain⟨a2,c2,rfl⟩:=h2.shape;have hG:0<(Nat.gcd (Na.val l) (Na.val m)):=aCm _ hm;have hGl:(Na.au (Nat.gcd (Na.val l) (Na.val m))).length≤5000000:=by have:=fH (Nat.le_of_dvd hm (aB2 (Na.val l) (Na.val m))); have:=bW m; omega
 refine aze Tryz.func174 Tryz.ntmps174 fun S=>azh S [.bool n1,.slice a1 l.length c1] fun u b2 E3 hb4 S=>azh S [.bool n2,.slice a2 m.length c2] fun u b5 E6 hb7 S=>azh S Sx.zr fun u b8 E9 zo S=>adr S 4 [] [.mem 2 1,.mem 1 1] fun S=>azo S (Vw _ _ l m _ (h1.below S.E) (h2.below S.E) hl1 hl2) ?_;rintro e u ⟨g,rfl,hg,qM⟩;obtain⟨ag,cg,rfl⟩:=hg.shape;refine⟨_,rfl,qM,fun S=>?_⟩;refine azo S (uS false hg (by omega)) ?_;rintro e u ⟨x,rfl,fg,EM⟩;obtain⟨bg,dg,rfl⟩:=fg.shape;refine⟨_,rfl,EM,fun S=>?_⟩;refine azh S [.z,.sn] fun u b14 E15 hb16 S=>azm S 0 (off:=0) (cs:=[.z,.slice bg (Na.au (Nat.gcd (Na.val l) (Na.val m))).length dg]) rfl (fun u Vh S=>?_);have yV:=azg E15 Vh;refine adr S 1 [] [.mem 2 0] fun S=>azp S (rE n2 _ m _ (h2.below S.E) (by omega)) fun u Aq S=>azb S (decide ((pK n2 (Na.val m))<0)) (fun hc22 S=>?_) (fun hc22 S=>?_)
 ·have hn:n2=true:=(adv hm).symm.trans hc22;refine adr S 1 [] [.mem 3 0] fun S=>azo S (Hy n1 _ l _ (h1.below S.E) (by omega)) ?_;rintro e u ⟨x,rfl,nx,Aw⟩;obtain⟨bnx,dnx,rfl⟩:=nx.shape;refine⟨_,rfl,Aw,fun S=>?_⟩;have X26:=S.bx 3;refine azm S 3 (off:=0) (cs:=[.bool (!n1&&decide (0<Na.val l)),.slice bnx (Na.au (Na.val l)).length dnx]) rfl (fun u Zw S=>?_);have yu:=aO.dX (fg.ext (Ext.trans' yV (Ext.trans' Aq Aw))) Zw X26;have Di:=aO.dX nx Zw X26;refine adr S 1 [] [.mem 2 0] fun S=>azo S (Hy n2 _ m _ (h2.below S.E) (by omega)) ?_;rintro e u ⟨x,rfl,ny,Ar⟩;obtain⟨bny,dny,rfl⟩:=ny.shape;refine⟨_,rfl,Ar,fun S=>?_⟩;have X31:=S.bx 2;refine azm S 2 (off:=0) (cs:=[.bool (!n2&&decide (0<Na.val m)),.slice bny (Na.au (Na.val m)).length dny]) rfl (fun u JB S=>?_);have A8:=aO.dX (yu.ext Ar) JB X31;have GL:=aO.dX (Di.ext Ar) JB X31;have Dj:=aO.dX ny JB X31;refine adr S 2 [] [.mem 3 0,.mem 0 0] fun S=>azo S (kY (!n1&&decide (0<Na.val l)) _ _ (Na.au (Na.val l)) (Na.au (Nat.gcd (Na.val l) (Na.val m))) _ (mg GL) (mg A8) (by rw[Na.aB]; exact hG) (by simp only[Na.aB]; exact Nat.mod_eq_zero_of_dvd (Nat.gcd_dvd_left _ _)) (az3 (bW l) hl1) hGl) ?_;rintro e u ⟨x,y,rfl,fx,rfx,UE⟩;simp only[Na.aB]at fx;obtain⟨Yl,Ym,rfl⟩:=fx.shape;obtain⟨ajU,ajV,rfl⟩:=rfx.shape;have amU:=S.E.size;refine⟨_,rfl,UE,fun S=>?_⟩;refine azh S [.z,.sn] fun u b37 E38 axy S=>azh S [.z,.sn] fun u b40 KQ ajz S=>azm S 1 (off:=0) (cs:=[.bool ((!n1&&decide (0<Na.val l))&&decide (0<(Na.val l/(Nat.gcd (Na.val l) (Na.val m))))),.slice Yl (Na.au (Na.val l/(Nat.gcd (Na.val l) (Na.val m)))).length Ym]) rfl (fun u C43 S=>?_);have S:=S.fl;have Yb:=azg (Ext.trans' UE (Ext.trans' E38 KQ)) C43 (by have:=UE.size; omega);have E45:=azg (Ext.trans' UE (Ext.trans' E38 KQ)) C43 (by have:=UE.size; omega);have E46:=azg (Ext.trans' E38 KQ) C43;refine azm S 0 (off:=0) (cs:=[.z,.slice ajU (Na.au 0).length ajV]) rfl (fun u C47 S=>?_);have QK:=azg Yb C47 (by have:=(Ext.trans' UE E38).size; omega);have E49:=azg E45 C47 (by have:=(Ext.trans' UE E38).size; omega);have E50:=azg E46 C47 (by have:=E38.size; omega);refine adr S 3 [] [.mem 4 0,.mem 2 0] fun S=>azo S (kY (!n2&&decide (0<Na.val m)) _ _ (Na.au (Na.val m)) (Na.au (Nat.gcd (Na.val l) (Na.val m))) _ (mg (Dj.ext E49)) (mg (A8.ext QK)) (by rw[Na.aB]; exact hG) (by simp only[Na.aB]; exact Nat.mod_eq_zero_of_dvd (aB2 _ _)) (az3 (bW m) hl2) hGl) ?_;rintro e u ⟨x,y,rfl,fy,rfy,E52⟩;simp only[Na.aB]at fy;obtain⟨VB,VD,rfl⟩:=fy.shape;obtain⟨ajW,ajX,rfl⟩:=rfy.shape;have amV:=S.E.size;refine⟨_,rfl,E52,fun S=>?_⟩;refine azh S [.z,.sn] fun u b53 E54 aqL S=>azh S [.z,.sn] fun u b56 E57 axz S=>azm S 1 (off:=0) (cs:=[.bool ((!n2&&decide (0<Na.val m))&&decide (0<(Na.val m/(Nat.gcd (Na.val l) (Na.val m))))),.slice VB (Na.au (Na.val m/(Nat.gcd (Na.val l) (Na.val m)))).length VD]) rfl (fun u C59 S=>?_);have E60:=azg (Ext.trans' E50 (Ext.trans' E52 (Ext.trans' E54 E57))) C59 (by have:=(Ext.trans' E50 E52).size; omega);have E61:=azg (Ext.trans' E54 E57) C59;refine azm S 0 (off:=0) (cs:=[.z,.slice ajW (Na.au 0).length ajX]) rfl (fun u C62 S=>?_);have E63:=azg E60 C62 (by have:=(Ext.trans' E50 (Ext.trans' E52 E54)).size; omega);have E64:=azg E61 C62 (by have:=E54.size; omega);have X67:=S.bx 5;refine adr S 4 [] [.mem 3 0,.mem 1 0] fun S=>azm S 5 (off:=0) (cs:=[.bool ((!n1&&decide (0<Na.val l))&&decide (0<(Na.val l/(Nat.gcd (Na.val l) (Na.val m))))),.slice Yl (Na.au (Na.val l/(Nat.gcd (Na.val l) (Na.val m)))).length Ym,.bool ((!n2&&decide (0<Na.val m))&&decide (0<(Na.val m/(Nat.gcd (Na.val l) (Na.val m))))),.slice VB (Na.au (Na.val m/(Nat.gcd (Na.val l) (Na.val m)))).length VD]) rfl (fun u C66 S=>?_);have S:=S.fl;have NC:=aO.dX (fx.ext E63) C66 X67;have acS:=aO.dX (fy.ext E64) C66 X67;refine azq S 5 rfl (v := .agg #[.bool ((!n1&&decide (0<Na.val l))&&decide (0<(Na.val l/(Nat.gcd (Na.val l) (Na.val m))))),.slice Yl (Na.au (Na.val l/(Nat.gcd (Na.val l) (Na.val m)))).length Ym,.bool ((!n2&&decide (0<Na.val m))&&decide (0<(Na.val m/(Nat.gcd (Na.val l) (Na.val m))))),.slice VB (Na.au (Na.val m/(Nat.gcd (Na.val l) (Na.val m)))).length VD]) (fun S=>?_);exact⟨_,rfl,Q8 (aO.mono NC (by omega)) (aO.mono acS (by omega)) (by rw[Q9 _ _ _ _ hm,hn]; rfl) (by rw[hn]; rfl),S.E⟩
 have hn:n2=false:=(adv hm).symm.trans hc22;refine adr S 2 [] [.mem 3 0,.mem 0 0] fun S=>azo S (kY n1 _ _ l (Na.au (Nat.gcd (Na.val l) (Na.val m))) _ (h1.below S.E) (mg (fg.ext (Ext.trans' yV Aq))) (by rw[Na.aB]; exact hG) (by simp only[Na.aB]; exact Nat.mod_eq_zero_of_dvd (Nat.gcd_dvd_left _ _)) hl1 hGl) ?_;rintro e u ⟨x,y,rfl,fx,rfx,E71⟩;simp only[Na.aB]at fx;obtain⟨Yl,Ym,rfl⟩:=fx.shape;obtain⟨ajU,ajV,rfl⟩:=rfx.shape;have amU:=S.E.size;refine⟨_,rfl,E71,fun S=>?_⟩;refine azh S [.z,.sn] fun u b72 E73 aqC S=>azh S [.z,.sn] fun u b75 E76 aqz S=>azm S 1 (off:=0) (cs:=[.bool (n1&&decide (0<(Na.val l/(Nat.gcd (Na.val l) (Na.val m))))),.slice Yl (Na.au (Na.val l/(Nat.gcd (Na.val l) (Na.val m)))).length Ym]) rfl (fun u C78 S=>?_);have E79:=azg (Ext.trans' yV (Ext.trans' Aq (Ext.trans' E71 (Ext.trans' E73 E76)))) C78 (by have:=(Ext.trans' yV (Ext.trans' Aq E71)).size; omega);have E80:=azg (Ext.trans' E73 E76) C78;refine azm S 0 (off:=0) (cs:=[.z,.slice ajU (Na.au 0).length ajV]) rfl (fun u C81 S=>?_);have E82:=azg E79 C81 (by have:=(Ext.trans' yV (Ext.trans' Aq (Ext.trans' E71 E73))).size; omega);have E83:=azg E80 C81 (by have:=E73.size; omega);refine adr S 3 [] [.mem 4 0,.mem 2 0] fun S=>azo S (kY n2 _ _ m (Na.au (Nat.gcd (Na.val l) (Na.val m))) _ (h2.below S.E) (mg (fg.ext E82)) (by rw[Na.aB]; exact hG) (by simp only[Na.aB]; exact Nat.mod_eq_zero_of_dvd (aB2 _ _)) hl2 hGl) ?_;rintro e u ⟨x,y,rfl,fy,rfy,E85⟩;simp only[Na.aB]at fy;obtain⟨VB,VD,rfl⟩:=fy.shape;obtain⟨ajW,ajX,rfl⟩:=rfy.shape;have amV:=S.E.size;refine⟨_,rfl,E85,fun S=>?_⟩;refine azh S [.z,.sn] fun u b86 E87 aqD S=>azh S [.z,.sn] fun u b89 E90 axA S=>azm S 1 (off:=0) (cs:=[.bool (n2&&decide (0<(Na.val m/(Nat.gcd (Na.val l) (Na.val m))))),.slice VB (Na.au (Na.val m/(Nat.gcd (Na.val l) (Na.val m)))).length VD]) rfl (fun u C92 S=>?_);have E93:=azg (Ext.trans' E83 (Ext.trans' E85 (Ext.trans' E87 E90))) C92 (by have:=(Ext.trans' E83 E85).size; omega);have E94:=azg (Ext.trans' E87 E90) C92;refine azm S 0 (off:=0) (cs:=[.z,.slice ajW (Na.au 0).length ajX]) rfl (fun u C95 S=>?_);have S:=S.fl;have E96:=azg E93 C95 (by have:=(Ext.trans' E83 (Ext.trans' E85 E87)).size; omega);have E97:=azg E94 C95 (by have:=E87.size; omega);have amW:=S.bx 5;refine adr S 4 [] [.mem 3 0,.mem 1 0] fun S=>azm S 5 (off:=0) (cs:=[.bool (n1&&decide (0<(Na.val l/(Nat.gcd (Na.val l) (Na.val m))))),.slice Yl (Na.au (Na.val l/(Nat.gcd (Na.val l) (Na.val m)))).length Ym,.bool (n2&&decide (0<(Na.val m/(Nat.gcd (Na.val l) (Na.val m))))),.slice VB (Na.au (Na.val m/(Nat.gcd (Na.val l) (Na.val m)))).length VD]) rfl (fun u C99 S=>?_);have ady:=aO.dX (fx.ext E96) C99 amW;have Rj:=aO.dX (fy.ext E97) C99 amW;refine azq S 5 rfl (v := .agg #[.bool (n1&&decide (0<(Na.val l/(Nat.gcd (Na.val l) (Na.val m))))),.slice Yl (Na.au (Na.val l/(Nat.gcd (Na.val l) (Na.val m)))).length Ym,.bool (n2&&decide (0<(Na.val m/(Nat.gcd (Na.val l) (Na.val m))))),.slice VB (Na.au (Na.val m/(Nat.gcd (Na.val l) (Na.val m)))).length VD]) (fun S=>?_);exact⟨_,rfl,Q8 (aO.mono ady (by omega)) (aO.mono Rj (by omega)) (by rw[Q9 _ _ _ _ hm,hn]; rfl) (by rw[hn]; rfl),S.E⟩
end Go.Proofs.YtodpgjjgaddkeaaGreatDoor
end
theorem azA:type_of% @Go.Sx.jo:=@Go.Sx.jo
theorem azM:type_of% @Go.Sx.look1:=@Go.Sx.look1
theorem aAy:type_of% @Go.Sx.nO:=@Go.Sx.nO
