/- Walks of packages integer and rational: New, Sign. Plain -/
import Derived.Test.YtodpgjjgaddkeaaGreatDoorNatW2
import Derived.Outline
set_option maxRecDepth 100000
set_option linter.unusedVariables false
set_option linter.unusedSimpArgs false
section
namespace Go.Proofs.YtodpgjjgaddkeaaGreatDoor
open Go.RowKit
variable{α:Type}
def aO(base:Nat)(w:World)(v:Value)(neg:Bool)(n:Nat):Prop:=∃s,v = .agg #[.bool neg,s]∧aC w s (Na.au n)∧From base s
theorem aO.ext{base:Nat}{w w':World}{v:Value}{neg:Bool}{n:Nat}(h:aO base w v neg n)(hb:Ext w w'):aO base w' v neg n:=by
 obtain⟨s,hv,hs,hf⟩:=h; exact⟨s,hv,hs.below hb,hf⟩
theorem aO.mono{base base':Nat}{w:World}{v:Value}{neg:Bool}{n:Nat}(h:aO base w v neg n)(hb:base'≤base):aO base' w v neg n:=by
 obtain⟨s,hv,hs,hf⟩:=h; exact⟨s,hv,hs,hf.mono hb⟩
theorem lW(neg:Bool)(v:Value)(l:List UInt32)(w:World)(hv:aC w v l)(hlen:l.length≤1000000000) :
  Calls Tryz.prog 284 #[.bool neg,v] w fun e w'=>∃x,e = .returned x∧aO w.heap.size w' x (neg&&decide (0<Na.val l)) (Na.val l)∧Ext w w':=by
 have hb1:=aF w (.cells #[.z,.sn] 24);have HC:=azF (oK v l _ (hv.below hb1) hlen);have hpos:Hid (decide ((0:Int)<((Na.au (Na.val l)).length:Int))=decide (0<Na.val l)):=by
  show _=_;rw[decide_eq_decide];constructor
  ·intro h;rcases aAt (Na.val l)with h0 | h0
   ·rw[h0,Na.jA]at h; simp at h
   exact h0
  intro h;have:(Na.au (Na.val l)).length≠0:=fun h'=>by
   have:=Na.kK.1 (aAZ h'); omega
  omega
 rcases aCr neg with rfl | rfl;all_goals
  go_enter Tryz.func284,Tryz.ntmps284
  go_wp2_with fail
  refine HC.out.mono ?_
  rintro e w1 ⟨v',rfl,ho,hb2⟩
  have hrow:=aV ho
  have hoff:=Qp ho
  obtain⟨hc,hf,hz⟩:=iU hb2
  have hb0:=Ext.trans' hb1 hb2
  have HB:=azF hb0
  have HR:=azF hrow
  have HO:=azF hoff
  obtain⟨a,cap,rfl⟩:=HR.out.shape
  clear HC ho hrow hb2 hb1 hb0 hoff
  go_wp2_with fail
 ·refine bodyPost_ret (v := .agg #[.bool ((0:Int)<((Na.au (Na.val l)).length:Int)),.slice a (Na.au (Na.val l)).length cap]) (by simp[results,Tryz.results284,go_sem,hc]) rfl ⟨_,rfl,⟨_,by rw[aAP,hpos.out],?_⟩,?_⟩
  ·exact⟨HR.out.ch (((Ch.refl _ _).setCell _ _).setCell _ _) (fun _=>HO.out.off (by simp)),HO.out.mono (by simp)⟩
  exact(HB.out.setCell (p:=⟨w.heap.size,0,none⟩) (azJ _) _).setCell (p:=⟨w.heap.size,1,none⟩) (azJ _) _
 refine bodyPost_ret (v := .agg #[.z,.slice a (Na.au (Na.val l)).length cap]) (by simp[results,Tryz.results284,go_sem,hc]) rfl ⟨_,rfl,⟨_,by rw[aA5],?_⟩,?_⟩
 ·exact⟨HR.out.ch (((Ch.refl _ _).setCell _ _).setCell _ _) (fun _=>HO.out.off (by simp)),HO.out.mono (by simp)⟩
 exact(HB.out.setCell (p:=⟨w.heap.size,0,none⟩) (azJ _) _).setCell (p:=⟨w.heap.size,1,none⟩) (azJ _) _
def pK(neg:Bool)(n:Nat):Int:=if n=0 then 0 else if neg then -1 else 1
theorem mQ(neg:Bool)(s:Value)(l:List UInt32)(w:World)(hv:aC w s l)(hlen:l.length≤100000000) :
  Calls Tryz.prog 257 #[.agg #[.bool neg,s]] w fun e w'=>e = .returned (.i (pK neg (Na.val l)))∧Ext w w':=by
 have hb1:=aF w (.cells #[.bool neg,s] 24);have HC:=azF (Gi s l _ (hv.below hb1) (by omega));have HB:=azF hb1;obtain⟨a,cap,rfl⟩:=hv.shape;clear hv hb1;by_cases h0:Na.val l=0
 ·have hbl:((bl (Na.val l):Int)==0)=true:=by rw[h0]; rfl
  have hs:Hid (pK neg (Na.val l)=0):=by show _=_; unfold pK; rw[azI h0]
  clear h0;go_enter Tryz.func257,Tryz.ntmps257
  go_wp2_with fail
  refine HC.out.mono ?_;rintro e w' ⟨rfl,rfl⟩;go_wp2_with fail
  go_ret
  exact⟨by rw[hs.out]; rfl,HB.out⟩
 have hbl:((bl (Na.val l):Int)==0)=false:=by
  rw[az8];intro h;have h1:bl (Na.val l)=0:=by omega
  unfold bl at h1; rw[azG h0]at h1; omega
 have hs0:Hid (∀neg,pK neg (Na.val l)=if neg then -1 else 1):=fun neg=>azG h0;clear h0;rcases aCr neg with rfl | rfl;all_goals
  go_enter Tryz.func257,Tryz.ntmps257
  go_wp2_with fail
  refine HC.out.mono ?_
  rintro e w' ⟨rfl,rfl⟩
  go_wp2_with fail
  go_ret
  exact⟨by rw[hs0.out]; rfl,HB.out⟩
theorem EC(neg:Bool)(s gv:Value)(l m:List UInt32)(gb:Nat)(w:World)(hv:aC w s l)(hlen:l.length≤100000000)(hg:w.cell? ⟨gb,0,none⟩=some gv)(hgv:aC w gv m)(hm:0<Na.val m)(hlen2:m.length≤100000000) :
  Calls Tryz.prog 292 #[.agg #[.bool neg,s],.q gb 0] w fun e w'=>∃q,e = .returned q∧aC w' q (Na.au (Na.val l/Na.val m))∧Ext w w':=by
 have hb1:=aF w (.cells #[.bool neg,s] 24);have HC:=azF (Gp s gv l m _ (hv.below hb1) (hgv.below hb1) hm hlen hlen2);have hlt:=World.block_lt_of_cell? w _ hg;simp only at hlt;have HB:=azF hb1;obtain⟨a,cap,rfl⟩:=hv.shape;obtain⟨a2,cap2,rfl⟩:=hgv.shape;clear hv hb1 hgv;go_enter Tryz.func292,Tryz.ntmps292
 go_wp2_with fail
 refine HC.out.mono ?_;rintro e w' ⟨q,r,rfl,hq,hr,hb⟩;have HQ:=azF hq;clear hq hr;go_wp2_with fail
 go_ret
 exact⟨_,rfl,HQ.out,Ext.trans' HB.out hb⟩
attribute [local go_sem] Go.Rel.Does Go.Rel.Upon Go.Rel.kept Go.Rel.valOf
theorem afz(a b:Bool)(n m:Nat):IntKind.i64.wrap (pK a n*pK b m)=pK a n*pK b m:=by
 have h:∀a n,pK a n=0∨pK a n=1∨pK a n = -1:=by
  intro a n; unfold pK; split
  ·simp
  cases a<;>simp
 rw[aB7];rcases h a n with h1 | h1 | h1<;>rcases h b m with h2 | h2 | h2<;>rw[h1,h2]<;>decide
def aA(base:Nat)(w:World)(v:Value)(neg:Bool)(a b:Nat):Prop:=∃s t,v = .agg #[.bool neg,s,.z,t]∧aC w s (Na.au a)∧aC w t (Na.au b)∧From base s∧From base t
theorem aA.ext{base:Nat}{w w':World}{v:Value}{neg:Bool}{a b:Nat}(h:aA base w v neg a b)(hb:Ext w w'):aA base w' v neg a b:=by
 obtain⟨s,t,hv,hs,ht,hf⟩:=h; exact⟨s,t,hv,hs.below hb,ht.below hb,hf⟩
theorem aA.mono{base base':Nat}{w:World}{v:Value}{neg:Bool}{a b:Nat}(h:aA base w v neg a b)(hb:base'≤base):aA base' w v neg a b:=by
 obtain⟨s,t,hv,hs,ht,hf,hg⟩:=h; exact⟨s,t,hv,hs,ht,hf.mono hb,hg.mono hb⟩
theorem ahR{base:Nat}{w:World}{x y:Value}{n1:Bool}{a b:Nat}(hx:aO base w x n1 a)(hy:aO base w y false b) :
  ∃a1 c1 a2 c2,x = .agg #[.bool n1,.slice a1 (Na.au a).length c1]∧y = .agg #[.z,.slice a2 (Na.au b).length c2] ∧
   aA base w (.agg #[.bool n1,.slice a1 (Na.au a).length c1,.z,.slice a2 (Na.au b).length c2]) n1 a b:=by
 obtain⟨s,rfl,hs,f1⟩:=hx;obtain⟨t,rfl,ht,f2⟩:=hy;obtain⟨a1,c1,rfl⟩:=hs.shape;obtain⟨a2,c2,rfl⟩:=ht.shape;exact⟨a1,c1,a2,c2,rfl,rfl,_,_,rfl,hs,ht,f1,f2⟩
def lC(n1 n2:Bool)(a b:Nat):Bool:=decide (pK n1 a*pK n2 b<0)&&decide (0<a/Nat.gcd a b)
theorem GR(n1 n2:Bool)(s1 s2:Value)(l m:List UInt32)(w:World)(h1:aC w s1 l)(h2:aC w s2 m)(hm:0<Na.val m)(hl1:l.length≤100000000)(hl2:m.length≤100000000) :
  Calls Tryz.prog 258 #[.agg #[.bool n1,s1],.agg #[.bool n2,s2]] w fun e w'=>∃x,e = .returned x ∧
   aA w.heap.size w' x (lC n1 n2 (Na.val l) (Na.val m)) (Na.val l/Nat.gcd (Na.val l) (Na.val m)) (Na.val m/Nat.gcd (Na.val l) (Na.val m))∧Ext w w':=by
 obtain⟨ng,hng⟩:∃x,lC n1 n2 (Na.val l) (Na.val m)=x:=⟨_,rfl⟩;rw[hng];unfold lC at hng;have HNG:=azF hng;clear hng;obtain⟨a1,c1,rfl⟩:=h1.shape;obtain⟨a2,c2,rfl⟩:=h2.shape;have H1:=azF h1;have H2:=azF h2;clear h1 h2;go_enter Tryz.func258,Tryz.ntmps258
 go_wp2_with fail
 have HB0:=azF (((aF w (.cells #[.bool n1,.slice a1 l.length c1] 24)).alloc (by simp) (.cells #[.bool n2,.slice a2 m.length c2] 24)).alloc (by simp; omega) (.cells #[.z,.sn,.z,.sn] 26));refine(af4 _ _ _ _ _ (H1.out.below HB0.out) (H2.out.below HB0.out) hl1 hl2).mono ?_;rintro e w1 ⟨g,rfl,hg,hb1⟩;have HG:=azF hg;obtain⟨ag,cg,hgs⟩:=hg.shape;rw[hgs]at HG;clear hg;have HB1:=azF (Ext.trans' HB0.out hb1);go_wp2_with fail
 obtain⟨W,hW⟩:∃W,W=w1.alloc (.cells #[.slice ag (Na.au ((Na.val l).gcd (Na.val m))).length cg] 22):=⟨_,rfl⟩;rw[←hW];have hWb:Ext w1 W:=by rw[hW]; exact aF _ _
 have hk:∀w',Ext W w'→w'.cell? ⟨w.heap.size,0,none⟩=some (.bool n1)∧w'.cell? ⟨w.heap.size,1,none⟩=some (.slice a1 l.length c1)∧w'.cell? ⟨w.heap.size+1,0,none⟩=some (.bool n2) ∧
   w'.cell? ⟨w.heap.size+1,1,none⟩=some (.slice a2 m.length c2)∧w'.cell? ⟨w1.heap.size,0,none⟩=some (.slice ag (Na.au ((Na.val l).gcd (Na.val m))).length cg):=by
  intro w' hw'
  have hsz:=hb1.size
  simp only[aCc]at hsz
  have hw1:=Ext.trans' hWb hw'
  refine⟨?_,?_,?_,?_,?_⟩
  ·rw[hw1.cell (p:=⟨w.heap.size,0,none⟩) (by simp; omega),hb1.cell (p:=⟨w.heap.size,0,none⟩) (by simp; omega)]; simp[go_sem]
  ·rw[hw1.cell (p:=⟨w.heap.size,1,none⟩) (by simp; omega),hb1.cell (p:=⟨w.heap.size,1,none⟩) (by simp; omega)]; simp[go_sem]
  ·rw[hw1.cell (p:=⟨w.heap.size+1,0,none⟩) (by simp; omega),hb1.cell (p:=⟨w.heap.size+1,0,none⟩) (by simp)]; simp[go_sem]
  ·rw[hw1.cell (p:=⟨w.heap.size+1,1,none⟩) (by simp; omega),hb1.cell (p:=⟨w.heap.size+1,1,none⟩) (by simp)]; simp[go_sem]
  ·rw[hw'.cell (p:=⟨w1.heap.size,0,none⟩) (by rw[hW]; simp),hW]; simp[go_sem]
 have HK:=azF hk;have HW:=azF (Ext.trans' HB1.out hWb);have HG':=azF (HG.out.below hWb);have hG:0<Nat.gcd (Na.val l) (Na.val m):=aCm _ hm;have hGl:(Na.au ((Na.val l).gcd (Na.val m))).length≤100000000:=az3 (fH (Nat.gcd_le_right _ hm)) (by have:=bW m; omega);have hvG:=Na.aB ((Na.val l).gcd (Na.val m));have hfin:W.heap.size≤W.heap.size:=azJ _;have hres:Hid (∀w',Ext W w'→(∀i,i<4→∃u,w'.cell? ⟨w.heap.size+1+1,i,none⟩=some u∧w'.frozen? ⟨w.heap.size+1+1,i,none⟩=false)∧w.heap.size+1+1<w'.heap.size):=by
  intro w' hw';have hsz:=hb1.size;simp only[aCc]at hsz;have hw1:=Ext.trans' hWb hw';have:=hw1.size;refine⟨fun i hi=>?_,by omega⟩;rw[hw1.cell (p:=⟨w.heap.size+1+1,i,none⟩) (by simp; omega),hb1.cell (p:=⟨w.heap.size+1+1,i,none⟩) (by simp),hw1.frozen (p:=⟨w.heap.size+1+1,i,none⟩) (by simp; omega),hb1.frozen (p:=⟨w.heap.size+1+1,i,none⟩) (by simp)];rcases i with _ | _ | _ | _ | i
  ·exact⟨.z,by simp[go_sem],by simp[go_sem]⟩
  ·exact⟨.sn,by simp[go_sem],by simp[go_sem]⟩
  ·exact⟨.z,by simp[go_sem],by simp[go_sem]⟩
  ·exact⟨.sn,by simp[go_sem],by simp[go_sem]⟩
  omega
 clear hW HB0 hb1 HB1 hk hgs hWb;refine Go.Rel.wp_region 15 (by kernel_rfl) (by kernel_rfl) Ext (fun w'=>Ext W w')
  [Rel.is (.agg #[.bool n1,.slice a1 l.length c1]),Rel.is (.i (pK n1 (Na.val l))),Rel.is (.agg #[.bool n2,.slice a2 m.length c2]),Rel.is (.i (pK n2 (Na.val m))),
   Rel.is (.i (pK n1 (Na.val l)*pK n2 (Na.val m))),Rel.is (.bool (pK n1 (Na.val l)*pK n2 (Na.val m)<0)),Rel.is (.func (.func 292) #[] #[.q w1.heap.size 0]),
   Rel.is (.agg #[.bool n1,.slice a1 l.length c1]),fun v w'=>aC w' v (Na.au (Na.val l/Nat.gcd (Na.val l) (Na.val m))),
   fun v w'=>aO (w.heap.size+1+1+1) w' v ng (Na.val l/Nat.gcd (Na.val l) (Na.val m)),
   Rel.is (.func (.func 292) #[] #[.q w1.heap.size 0]),Rel.is (.agg #[.bool n2,.slice a2 m.length c2]),
   fun v w'=>aC w' v (Na.au (Na.val m/Nat.gcd (Na.val l) (Na.val m))),fun v w'=>aO (w.heap.size+1+1+1) w' v false (Na.val m/Nat.gcd (Na.val l) (Na.val m)),
   fun v w'=>aA (w.heap.size+1+1+1) w' v ng (Na.val l/Nat.gcd (Na.val l) (Na.val m)) (Na.val m/Nat.gcd (Na.val l) (Na.val m))]
  ?_ ?_ ?_ ⟨?_,?_,?_,?_,?_,?_,?_,?_,?_,?_,?_,?_,?_,?_,?_,trivial⟩ ?_
 ·exact below_drewN (az5 _ _) 1
 ·exact fun _ _ h k=>Ext.trans' h k
 ·exact Rel.DY.mem ⟨Rel.aG _,Rel.aG _,Rel.aG _,Rel.aG _,Rel.aG _,Rel.aG _,Rel.aG _,Rel.aG _,fun _ _ _ h k=>k.below h,fun _ _ _ h k=>k.ext h,Rel.aG _,Rel.aG _,fun _ _ _ h k=>k.below h,fun _ _ _ h k=>k.ext h,
   fun _ _ _ h k=>k.ext h,trivial⟩
 ·intro ρ w' hs ho hC hd;have h2:ρ (.tmp 2) = .q w.heap.size 0:=ho 2 rfl;obtain⟨k1,k2,-⟩:=HK.out w' hC;simp[go_sem,h2,k1,k2];exact⟨Ext.rfl',rfl⟩
 ·intro ρ w' hs ho hC hd;obtain⟨hd,-⟩:=hd;have h2:ρ (.tmp 13)=_:=hd rfl;simp[go_sem,h2,hs.func];refine(mQ _ _ _ _ (H1.out.below (Ext.trans' HW.out hC)) hl1).mono ?_;rintro e w'' ⟨rfl,hb⟩;exact⟨_,rfl,hb,rfl⟩
 ·intro ρ w' hs ho hC hd;have h2:ρ (.tmp 3) = .pointer (some ⟨w.heap.size+1,0,none⟩):=ho 3 rfl;obtain⟨-,-,k1,k2,-⟩:=HK.out w' hC;simp[go_sem,h2,k1,k2];exact⟨Ext.rfl',rfl⟩
 ·intro ρ w' hs ho hC hd;obtain⟨hd,-⟩:=hd;have h2:ρ (.tmp 15)=_:=hd rfl;simp[go_sem,h2,hs.func];refine(mQ _ _ _ _ (H2.out.below (Ext.trans' HW.out hC)) hl2).mono ?_;rintro e w'' ⟨rfl,hb⟩;exact⟨_,rfl,hb,rfl⟩
 ·intro ρ w' hs ho hC hd;obtain⟨hd1,hd2,-⟩:=hd;have h1:ρ (.tmp 14)=_:=hd1 rfl;have h2:ρ (.tmp 16)=_:=hd2 rfl;simp[go_sem,h1,h2];exact⟨Ext.rfl',by rw[afz]; rfl⟩
 ·intro ρ w' hs ho hC hd;obtain⟨hd,-⟩:=hd;have h2:ρ (.tmp 17)=_:=hd rfl;simp[go_sem,h2,hs.const];exact⟨Ext.rfl',rfl⟩
 ·intro ρ w' hs ho hC hd;have h2:ρ (.tmp 6) = .func (.func 292) #[] #[.q w1.heap.size 0]:=ho 6 rfl;simp[go_sem,h2];exact⟨Ext.rfl',rfl⟩
 ·intro ρ w' hs ho hC hd;have h2:ρ (.tmp 2) = .q w.heap.size 0:=ho 2 rfl;obtain⟨k1,k2,-⟩:=HK.out w' hC;simp[go_sem,h2,k1,k2];exact⟨Ext.rfl',rfl⟩
 ·intro ρ w' hs ho hC hd;obtain⟨hd1,hd2,-⟩:=hd;have h1:ρ (.tmp 19)=_:=hd1 rfl;have h2:ρ (.tmp 20)=_:=hd2 rfl;simp[go_sem,h1,h2];obtain⟨-,-,-,-,k1⟩:=HK.out w' hC;have hc:=EC n1 (.slice a1 l.length c1) _ l _ w1.heap.size w' (H1.out.below (Ext.trans' HW.out hC)) hl1 k1 (HG'.out.below hC) (by rw[hvG]; exact hG) hGl;rw[hvG]at hc;refine hc.mono ?_;rintro e w'' ⟨q,rfl,hq,hb⟩;exact⟨_,rfl,hb,hq⟩
 ·intro ρ w' hs ho hC hd;obtain⟨hd1,hd2,-⟩:=hd;have h1:ρ (.tmp 18)=_:=hd1 rfl;have h2:aC w' (ρ (.tmp 21)) _:=hd2 rfl;simp[go_sem,h1,hs.func];have hc:=lW (decide (pK n1 (Na.val l)*pK n2 (Na.val m)<0)) _ _ w' h2 (by have:=fH (aBK (Na.val l) (Nat.gcd (Na.val l) (Na.val m))); have:=bW l; omega);rw[Na.aB,HNG.out]at hc;refine hc.mono ?_;rintro e w'' ⟨q,rfl,hq,hb⟩;exact⟨_,rfl,hb,hq.mono (hres.out w' hC).2⟩
 ·intro ρ w' hs ho hC hd;have h2:ρ (.tmp 6) = .func (.func 292) #[] #[.q w1.heap.size 0]:=ho 6 rfl;simp[go_sem,h2];exact⟨Ext.rfl',rfl⟩
 ·intro ρ w' hs ho hC hd;have h2:ρ (.tmp 3) = .pointer (some ⟨w.heap.size+1,0,none⟩):=ho 3 rfl;obtain⟨-,-,k1,k2,-⟩:=HK.out w' hC;simp[go_sem,h2,k1,k2];exact⟨Ext.rfl',rfl⟩
 ·intro ρ w' hs ho hC hd;obtain⟨hd1,hd2,-⟩:=hd;have h1:ρ (.tmp 23)=_:=hd1 rfl;have h2:ρ (.tmp 24)=_:=hd2 rfl;simp[go_sem,h1,h2];obtain⟨-,-,-,-,k1⟩:=HK.out w' hC;have hc:=EC n2 (.slice a2 m.length c2) _ m _ w1.heap.size w' (H2.out.below (Ext.trans' HW.out hC)) hl2 k1 (HG'.out.below hC) (by rw[hvG]; exact hG) hGl;rw[hvG]at hc;refine hc.mono ?_;rintro e w'' ⟨q,rfl,hq,hb⟩;exact⟨_,rfl,hb,hq⟩
 ·intro ρ w' hs ho hC hd;obtain⟨hd2,-⟩:=hd;have h2:aC w' (ρ (.tmp 25)) _:=hd2 rfl;simp[go_sem,hs.func,hs.const];have hc:=lW false _ _ w' h2 (by have:=fH (aBK (Na.val m) (Nat.gcd (Na.val l) (Na.val m))); have:=bW m; omega);rw[Na.aB]at hc;refine hc.mono ?_;rintro e w'' ⟨q,rfl,hq,hb⟩;exact⟨_,rfl,hb,hq.mono (hres.out w' hC).2⟩
 ·intro ρ w' hs ho hC hd;obtain⟨hd1,hd2,-⟩:=hd;have h1:aO (w.heap.size+1+1+1) w' (ρ (.tmp 22)) _ _:=hd1 rfl;have h2:aO (w.heap.size+1+1+1) w' (ρ (.tmp 26)) _ _:=hd2 rfl;obtain⟨b1,d1,b2,d2,e1,e2,hr⟩:=ahR h1 h2;simp[go_sem,e1,e2];exact⟨Ext.rfl',hr⟩
 intro w' hC;rintro _ rfl _ rfl _ rfl _ rfl _ rfl _ rfl _ rfl _ rfl v8 h8 v9 h9 _ rfl _ rfl v12 h12 v13 h13 v14 ⟨s,t,rfl,hx,hy,fx,fy⟩;change wpList _ _ _ (List.drop 15 _) _ _;simp only[List.drop_succ_cons,aCk];obtain⟨hr,hrl⟩:=hres.out w' hC;obtain⟨u0,r0,f0⟩:=hr 0 (by omega);obtain⟨u1,r1,f1⟩:=hr 1 (by omega);obtain⟨u2,r2,f2⟩:=hr 2 (by omega);obtain⟨u3,r3,f3⟩:=hr 3 (by omega);obtain⟨b1,d1,rfl⟩:=hx.shape;obtain⟨b2,d2,rfl⟩:=hy.shape;have HX:=azF (Ext.trans' HW.out hC);have F:=azF (And.intro hx (And.intro hy (And.intro fx fy)));clear hr h8 h9 h12 h13 hx hy fx fy;go_wp2_with fail
 refine bodyPost_ret (v := .agg #[.bool ng,.slice b1 (Na.au (Na.val l/(Na.val l).gcd (Na.val m))).length d1,.z,.slice b2 (Na.au (Na.val m/(Na.val l).gcd (Na.val m))).length d2]) (by simp[results,Tryz.results258,go_sem,r0,r1,r2,r3]) rfl ⟨_,rfl,⟨_,_,rfl,?_,?_,?_,?_⟩,?_⟩
 ·exact F.out.1.ch (((((Ch.refl _ _).setCell _ _).setCell _ _).setCell _ _).setCell _ _) (fun _=>F.out.2.2.1.off (Nat.lt_succ_self _))
 ·exact F.out.2.1.ch (((((Ch.refl _ _).setCell _ _).setCell _ _).setCell _ _).setCell _ _) (fun _=>F.out.2.2.2.off (Nat.lt_succ_self _))
 ·exact F.out.2.2.1.mono (by omega)
 ·exact F.out.2.2.2.mono (by omega)
 exact(((HX.out.setCell (p:=⟨_,0,none⟩) (by simp only; omega) _).setCell (p:=⟨_,1,none⟩) (by simp only; omega) _).setCell (p:=⟨_,2,none⟩) (by simp only; omega) _).setCell (p:=⟨_,3,none⟩) (by simp only; omega) _
end Go.Proofs.YtodpgjjgaddkeaaGreatDoor
namespace Go.Proofs.YtodpgjjgaddkeaaGreatDoor
open Go.RowKit
variable{α:Type}
theorem XC{w w1:World}{A B C:Array Value}{ta tb tc:TypeId}(hb:Ext (((w.alloc (.cells A ta)).alloc (.cells B tb)).alloc (.cells C tc)) w1) :
  (∀i,w1.cell? ⟨w.heap.size,i,none⟩=A[i]?)∧(∀i,w1.cell? ⟨w.heap.size+1,i,none⟩=B[i]?)∧(∀i,w1.cell? ⟨w.heap.size+1+1,i,none⟩=C[i]?)∧(∀i,w1.frozen? ⟨w.heap.size+1+1,i,none⟩=false)∧w.heap.size+1+1<w1.heap.size:=by
 refine⟨fun i=>?_,fun i=>?_,fun i=>?_,fun i=>?_,by have:=hb.size; simp at this; omega⟩
 ·rw[hb.cell (p:=⟨w.heap.size,i,none⟩) (by simp; omega)]; simp[go_sem]
 ·rw[hb.cell (p:=⟨w.heap.size+1,i,none⟩) (by simp)]; simp[go_sem]
 ·rw[hb.cell (p:=⟨w.heap.size+1+1,i,none⟩) (by simp)]; simp[go_sem]
 rw[hb.frozen (p:=⟨w.heap.size+1+1,i,none⟩) (by simp)]; simp[go_sem]
abbrev nU:Value := .agg #[.z,.sn,.z,.sn]
theorem Ui(n1 n2:Bool)(s1 s2:Value)(l m:List UInt32)(w:World)(h1:aC w s1 l)(h2:aC w s2 m)(hm:Na.val m=0)(hl2:m.length≤100000000) :
  Calls Tryz.prog 223 #[.agg #[.bool n1,s1],.agg #[.bool n2,s2]] w fun e w'=>e = .returned (.tuple #[nU,.i 9])∧Ext w w':=by
 obtain⟨a1,c1,rfl⟩:=h1.shape;obtain⟨a2,c2,rfl⟩:=h2.shape;have HB0:=azF (((aF w (.cells #[.bool n1,.slice a1 l.length c1] 24)).alloc (by simp) (.cells #[.bool n2,.slice a2 m.length c2] 24)).alloc (by simp; omega) (.cells #[.z,.sn,.z,.sn] 26));have hc:=mQ n2 _ _ _ (h2.below HB0.out) hl2;rw[hm]at hc;have HC:=azF hc;clear hc h1 h2 hm;go_enter Tryz.func223,Tryz.ntmps223
 go_wp2_with fail
 refine HC.out.mono ?_;rintro e w1 ⟨rfl,hb⟩;obtain⟨-,-,r0,f0,hz⟩:=XC hb;have hs0:((pK n2 0)==0)=true:=by unfold pK; rfl
 have HX:=azF (Ext.trans' HB0.out hb);clear hb HC HB0;go_wp2_with fail
 refine bodyPost_ret (v := .tuple #[nU,.i 9]) (by simp[results,Tryz.results223,go_sem,r0]) rfl ⟨rfl,?_⟩;exact(((HX.out.setCell (p:=⟨_,0,none⟩) (by simp only; omega) _).setCell (p:=⟨_,1,none⟩) (by simp only; omega) _).setCell (p:=⟨_,2,none⟩) (by simp only; omega) _).setCell (p:=⟨_,3,none⟩) (by simp only; omega) _
theorem XD(n1 n2:Bool)(s1 s2:Value)(l m:List UInt32)(w:World)(h1:aC w s1 l)(h2:aC w s2 m)(hm:0<Na.val m)(hl1:l.length≤100000000)(hl2:m.length≤100000000) :
  Calls Tryz.prog 223 #[.agg #[.bool n1,s1],.agg #[.bool n2,s2]] w fun e w'=>∃x,e = .returned (.tuple #[x,.i 0]) ∧
   aA w.heap.size w' x (lC n1 n2 (Na.val l) (Na.val m)) (Na.val l/Nat.gcd (Na.val l) (Na.val m)) (Na.val m/Nat.gcd (Na.val l) (Na.val m))∧Ext w w':=by
 obtain⟨a1,c1,rfl⟩:=h1.shape;obtain⟨a2,c2,rfl⟩:=h2.shape;have HB0:=azF (((aF w (.cells #[.bool n1,.slice a1 l.length c1] 24)).alloc (by simp) (.cells #[.bool n2,.slice a2 m.length c2] 24)).alloc (by simp; omega) (.cells #[.z,.sn,.z,.sn] 26));have HC:=azF (mQ n2 _ _ _ (h2.below HB0.out) hl2);have hs0:((pK n2 (Na.val m))==0)=false:=by
  rw[az8]; unfold pK; rw[azG (by omega)]; cases n2<;>simp
 have H:=azF (And.intro h1 h2);have HM:=azF hm;clear h1 h2 hm;go_enter Tryz.func223,Tryz.ntmps223
 go_wp2_with fail
 refine HC.out.mono ?_;rintro e w1 ⟨rfl,hb⟩;obtain⟨k1,k2,-,-,hz⟩:=XC hb;have hX:=Ext.trans' HB0.out hb;have HX:=azF hX;have HY:=azF hb;have HL:=azF (GR n1 n2 _ _ _ _ w1 (H.out.1.below hX) (H.out.2.below hX) HM.out hl1 hl2);clear hb HC hX HB0;go_wp2_with fail
 refine HL.out.mono ?_;rintro e w2 ⟨x,rfl,⟨s,t,rfl,hs,ht,fs,ft⟩,hb2⟩;obtain⟨b1,d1,rfl⟩:=hs.shape;obtain⟨b2,d2,rfl⟩:=ht.shape;obtain⟨-,-,r0,f0,hz2⟩:=XC (Ext.trans' HY.out hb2);have HX2:=azF (Ext.trans' HX.out hb2);have F:=azF (And.intro hs (And.intro ht (And.intro fs ft)));clear hs ht fs ft hb2 HL k1 k2;go_wp2_with fail
 refine bodyPost_ret (v := .tuple #[.agg #[.bool (lC n1 n2 (Na.val l) (Na.val m)),.slice b1 (Na.au (Na.val l/(Na.val l).gcd (Na.val m))).length d1,.z,.slice b2 (Na.au (Na.val m/(Na.val l).gcd (Na.val m))).length d2],.i 0]) (by simp[results,Tryz.results223,go_sem,r0]) rfl ⟨_,rfl,⟨_,_,rfl,?_,?_,?_,?_⟩,?_⟩
 ·exact F.out.1.ch (((((Ch.refl _ _).setCell _ _).setCell _ _).setCell _ _).setCell _ _) (fun _=>F.out.2.2.1.off hz)
 ·exact F.out.2.1.ch (((((Ch.refl _ _).setCell _ _).setCell _ _).setCell _ _).setCell _ _) (fun _=>F.out.2.2.2.off hz)
 ·exact F.out.2.2.1.mono (by omega)
 ·exact F.out.2.2.2.mono (by omega)
 exact(((HX2.out.setCell (p:=⟨_,0,none⟩) (by simp only; omega) _).setCell (p:=⟨_,1,none⟩) (by simp only; omega) _).setCell (p:=⟨_,2,none⟩) (by simp only; omega) _).setCell (p:=⟨_,3,none⟩) (by simp only; omega) _
theorem PL(x:Int)(h : -9223372036854775808≤x)(hx:x<0):IntKind.u64.wrap (-IntKind.u64.wrap x)=(x.natAbs:Int):=by
 rw[aAX,aAX]; omega
theorem Jk(x:Int)(w:World)(h : -9223372036854775808≤x)(hx:x<0) :
  Calls Tryz.prog 259 #[.i x] w fun e w'=>∃v,e = .returned v∧aO w.heap.size w' v (decide (x<0)) x.natAbs∧Ext w w':=by
 have hb0:=aF w (.cells #[.z,.sn] 24);have hN:x.natAbs<18446744073709551616:=by omega
 have eN:(UInt64.ofNat x.natAbs).toNat=x.natAbs:=by simp; omega
 have hF:=qo (UInt64.ofNat x.natAbs) (w.alloc (.cells #[.z,.sn] 24));rw[afS,eN]at hF;have hdl:(Na.au x.natAbs).length≤2:=Na.bH (by show _<4294967296^2; omega);have HF:=azF hF;have HB:=azF hb0;clear hF hb0 eN;go_enter Tryz.func259,Tryz.ntmps259
 have hw:=PL x h hx;go_wp2_with fail
 refine HF.out.mono ?_;rintro e w1 ⟨v',rfl,ho,hb1⟩;have hrow:=aV ho;have HI:=azF (lW true v' _ w1 hrow (by omega));have HB1:=azF hb1;clear hrow ho hw HF hb1;go_wp2_with fail
 refine HI.out.mono ?_;rintro e w2 ⟨y,rfl,⟨s,rfl,hs,fs⟩,hb2⟩;obtain⟨b1,d1,rfl⟩:=hs.shape;obtain⟨r0,f0,hz⟩:=iU (Ext.trans' HB1.out hb2);obtain⟨-,-,hz1⟩:=iU HB1.out;have HX:=azF (Ext.trans' HB.out (Ext.trans' HB1.out hb2));have F:=azF (And.intro hs fs);have e1:Hid ((true&&decide (0<Na.val (Na.au x.natAbs)))=decide (x<0)):=by
  show _=_;rw[Na.aB,aAP,decide_eq_decide]; omega
 clear hs fs hb2 HI;go_wp2_with fail
 refine bodyPost_ret (v := .agg #[.bool (true&&decide (0<Na.val (Na.au x.natAbs))),.slice b1 (Na.au (Na.val (Na.au x.natAbs))).length d1]) (by simp[results,Tryz.results259,go_sem,r0]) rfl ⟨_,rfl,⟨_,by rw[e1.out],?_,?_⟩,?_⟩
 ·have:=F.out.1.ch (((Ch.refl w.heap.size _).setCell 0 (.bool (true&&decide (0<Na.val (Na.au x.natAbs))))).setCell 1 (.slice b1 (Na.au (Na.val (Na.au x.natAbs))).length d1)) (fun _=>F.out.2.off hz1);rw[Na.aB]at this ⊢;exact this
 ·exact F.out.2.mono (by omega)
 exact(HX.out.setCell (p:=⟨_,0,none⟩) (by simp only; omega) _).setCell (p:=⟨_,1,none⟩) (by simp only; omega) _
theorem Jl(x:Nat)(w:World)(h:(x:Int)≤9223372036854775807) :
  Calls Tryz.prog 259 #[.i x] w fun e w'=>∃v,e = .returned v∧aO w.heap.size w' v false x∧Ext w w':=by
 have hb0:=aF w (.cells #[.z,.sn] 24);have hN:x<18446744073709551616:=by omega
 have eN:(UInt64.ofNat x).toNat=x:=by simp; omega
 have hF:=qo (UInt64.ofNat x) (w.alloc (.cells #[.z,.sn] 24));rw[afS,eN]at hF;have hdl:(Na.au x).length≤2:=Na.bH (by show _<4294967296^2; omega);have HF:=azF hF;have HB:=azF hb0;clear hF hb0 eN;go_enter Tryz.func259,Tryz.ntmps259
 go_wp2_with fail
 refine HF.out.mono ?_;rintro e w1 ⟨v',rfl,ho,hb1⟩;have hrow:=aV ho;have HI:=azF (lW false v' _ w1 hrow (by omega));have HB1:=azF hb1;clear hrow ho HF hb1;go_wp2_with fail
 refine HI.out.mono ?_;rintro e w2 ⟨y,rfl,⟨s,rfl,hs,fs⟩,hb2⟩;obtain⟨b1,d1,rfl⟩:=hs.shape;obtain⟨r0,f0,hz⟩:=iU (Ext.trans' HB1.out hb2);obtain⟨-,-,hz1⟩:=iU HB1.out;have HX:=azF (Ext.trans' HB.out (Ext.trans' HB1.out hb2));have F:=azF (And.intro hs fs);have e1:Hid ((false&&decide (0<Na.val (Na.au x)))=false):=aA5 _;clear hs fs hb2 HI;go_wp2_with fail
 refine bodyPost_ret (v := .agg #[.bool (false&&decide (0<Na.val (Na.au x))),.slice b1 (Na.au (Na.val (Na.au x))).length d1]) (by simp[results,Tryz.results259,go_sem,r0]) rfl ⟨_,rfl,⟨_,by rw[e1.out],?_,?_⟩,?_⟩
 ·have:=F.out.1.ch (((Ch.refl w.heap.size _).setCell 0 (.bool (false&&decide (0<Na.val (Na.au x))))).setCell 1 (.slice b1 (Na.au (Na.val (Na.au x))).length d1)) (fun _=>F.out.2.off hz1);rw[Na.aB]at this ⊢;exact this
 ·exact F.out.2.mono (by omega)
 exact(HX.out.setCell (p:=⟨_,0,none⟩) (by simp only; omega) _).setCell (p:=⟨_,1,none⟩) (by simp only; omega) _
theorem xu(x:Int)(w:World)(h : -9223372036854775808≤x)(h2:x≤9223372036854775807) :
  Calls Tryz.prog 259 #[.i x] w fun e w'=>∃v,e = .returned v∧aO w.heap.size w' v (decide (x<0)) x.natAbs∧Ext w w':=by
 by_cases hx:x<0
 ·exact Jk x w h hx
 obtain⟨n,rfl⟩:∃n:Nat,x=n:=⟨x.toNat,by omega⟩;have e:decide ((n:Int)<0)=false:=aBj (by omega);rw[e,aBE];exact Jl n w h2
theorem wH(x:Int)(w:World)(h : -9223372036854775808≤x)(h2:x≤9223372036854775807) :
  Calls Tryz.prog 224 #[.i x] w fun e w'=>∃v,e = .returned v∧aA w.heap.size w' v (decide (x<0)) x.natAbs 1∧Ext w w':=by
 have hb0:=aF w (.cells #[.z,.sn,.z,.sn] 26);have H1:=azF (xu x (w.alloc (.cells #[.z,.sn,.z,.sn] 26)) h h2);have HB0:=azF hb0;clear hb0;go_enter Tryz.func224,Tryz.ntmps224
 go_wp2_with fail
 refine H1.out.mono ?_;rintro e w1 ⟨y,rfl,⟨s,rfl,hs,fs⟩,hb1⟩;have h2:=xu 1 w1 (by decide) (by decide);rw[show decide ((1:Int)<0)=false from rfl,show(1:Int).natAbs=1 from rfl]at h2;have H2:=azF h2;have HS:=azF (And.intro hs fs);have HB1:=azF hb1;clear h2 H1 hs fs hb1;go_wp2_with fail
 refine H2.out.mono ?_;rintro e w2 ⟨y,rfl,⟨t,rfl,ht,ft⟩,hb2⟩;obtain⟨b1,d1,rfl⟩:=HS.out.1.shape;obtain⟨b2,d2,rfl⟩:=ht.shape;obtain⟨r0,f0,hz⟩:=iU (Ext.trans' HB1.out hb2);obtain⟨-,-,hz1⟩:=iU HB1.out;have F:=azF (And.intro (HS.out.1.below hb2) (And.intro ht (And.intro HS.out.2 ft)));have HX:=azF (Ext.trans' HB0.out (Ext.trans' HB1.out hb2));clear ht ft hb2 H2;go_wp2_with fail
 refine bodyPost_ret (v := .agg #[.bool (x<0),.slice b1 (Na.au x.natAbs).length d1,.z,.slice b2 (Na.au 1).length d2]) (by simp[results,Tryz.results224,go_sem,r0]) rfl ⟨_,rfl,⟨_,_,rfl,?_,?_,?_,?_⟩,?_⟩
 ·exact F.out.1.ch (((((Ch.refl w.heap.size _).setCell _ _).setCell _ _).setCell _ _).setCell _ _) (fun _=>F.out.2.2.1.off (by simp))
 ·exact F.out.2.1.ch (((((Ch.refl w.heap.size _).setCell _ _).setCell _ _).setCell _ _).setCell _ _) (fun _=>F.out.2.2.2.off hz1)
 ·exact F.out.2.2.1.mono (by simp)
 ·exact F.out.2.2.2.mono (by omega)
 exact(((HX.out.setCell (p:=⟨_,0,none⟩) (by simp only; omega) _).setCell (p:=⟨_,1,none⟩) (by simp only; omega) _).setCell (p:=⟨_,2,none⟩) (by simp only; omega) _).setCell (p:=⟨_,3,none⟩) (by simp only; omega) _
theorem aA.shape{base:Nat}{w:World}{v:Value}{neg:Bool}{a b:Nat}(h:aA base w v neg a b):∃b1 d1 b2 d2,v = .agg #[.bool neg,.slice b1 (Na.au a).length d1,.z,.slice b2 (Na.au b).length d2]:=by
 obtain⟨s,t,rfl,hs,ht,_⟩:=h;obtain⟨b1,d1,rfl⟩:=hs.shape;obtain⟨b2,d2,rfl⟩:=ht.shape;exact⟨b1,d1,b2,d2,rfl⟩
theorem aA.ch{base:Nat}{w w':World}{v:Value}{neg:Bool}{a b c:Nat}(h:aA base w v neg a b)(hc:Ch c w w')(hlt:c<base):aA base w' v neg a b:=by
 obtain⟨s,t,rfl,hs,ht,fs,ft⟩:=h;exact⟨s,t,rfl,hs.ch hc (fun _=>fs.off hlt),ht.ch hc (fun _=>ft.off hlt),fs,ft⟩
theorem aA.NV{base:Nat}{w:World}{v:Value}{neg:Bool}{a b c:Nat}(h:aA base w v neg a b)(hlt:c<base)(x0 x1 x2 x3:Value) :
  aA base ((((w.setCell ⟨c,0,none⟩ x0).setCell ⟨c,1,none⟩ x1).setCell ⟨c,2,none⟩ x2).setCell ⟨c,3,none⟩ x3) v neg a b:=
 h.ch (((((Ch.refl c w).setCell _ _).setCell _ _).setCell _ _).setCell _ _) hlt
theorem qC{W w:World}(h:Ext W w){c:Nat}(hc:W.heap.size≤c)(x0 x1 x2 x3:Value) :
  Ext W ((((w.setCell ⟨c,0,none⟩ x0).setCell ⟨c,1,none⟩ x1).setCell ⟨c,2,none⟩ x2).setCell ⟨c,3,none⟩ x3):=
 (((Below.setCell h (p:=⟨c,0,none⟩) hc _).setCell (p:=⟨c,1,none⟩) hc _).setCell (p:=⟨c,2,none⟩) hc _).setCell (p:=⟨c,3,none⟩) hc _
def nrm(n1 n2:Bool)(a b:Nat):Bool×Nat×Nat:=if b=0 then (false,0,1)else (lC n1 n2 a b,a/Nat.gcd a b,b/Nat.gcd a b)
abbrev dO (base:Nat)(w:World)(v:Value)(r:Bool×Nat×Nat):Prop:=aA base w v r.1 r.2.1 r.2.2
theorem oD(n1 n2:Bool)(s1 s2:Value)(l m:List UInt32)(w:World)(h1:aC w s1 l)(h2:aC w s2 m)(hl1:l.length≤100000000)(hl2:m.length≤100000000) :
  Calls Tryz.prog 175 #[.agg #[.bool n1,s1,.bool n2,s2]] w fun e w'=>∃x,e = .returned x∧dO w.heap.size w' x (nrm n1 n2 (Na.val l) (Na.val m))∧Ext w w':=by
 obtain⟨a1,c1,rfl⟩:=h1.shape;obtain⟨a2,c2,rfl⟩:=h2.shape;have HB0:=azF ((aF w (.cells #[.bool n1,.slice a1 l.length c1,.bool n2,.slice a2 m.length c2] 26)).alloc (by simp) (.cells #[.z,.sn,.z,.sn] 26));have g1:=h1.below HB0.out;have g2:=h2.below HB0.out;clear h1 h2;rcases aAt (Na.val m)with hm | hm
 ·have HC:=azF (Ui n1 n2 _ _ _ _ _ g1 g2 hm hl2);have hN:nrm n1 n2 (Na.val l) (Na.val m)=(false,0,1):=by unfold nrm; rw[azI hm]
  rw[hN];clear g1 g2 hm hN;go_enter Tryz.func175,Tryz.ntmps175
  go_wp2_with fail
  refine HC.out.mono ?_;rintro e w1 ⟨rfl,hb⟩;have hsz:=hb.size;simp only[aCc]at hsz;have hcells:(∀i,w1.cell? ⟨w.heap.size+1,i,none⟩ = #[Value.z,.sn,.z,.sn][i]?)∧(∀i,w1.frozen? ⟨w.heap.size+1,i,none⟩=false):=by
   refine⟨fun i=>?_,fun i=>?_⟩
   ·rw[hb.cell (p:=⟨w.heap.size+1,i,none⟩) (by simp)]; simp[go_sem]
   rw[hb.frozen (p:=⟨w.heap.size+1,i,none⟩) (by simp)]; simp[go_sem]
  obtain⟨r0,f0⟩:=hcells;have HX:=azF (Ext.trans' HB0.out hb);have HY:=azF (wH 0 (w1.alloc (.cells #[.z,.sn,.z,.sn] 26)) (by decide) (by decide));clear hb HC;go_wp2_with fail
  refine HY.out.mono ?_;rintro e w2 ⟨x,rfl,hx,hb2⟩;have hb3:=Ext.trans' (aF _ _) hb2;obtain⟨b1,d1,b2,d2,rfl⟩:=hx.shape;have r1:∀i,w2.cell? ⟨w.heap.size+1,i,none⟩ = #[Value.z,.sn,.z,.sn][i]?:=fun i=>by rw[hb3.cell (p:=⟨w.heap.size+1,i,none⟩) (by simp only; omega)]; exact r0 i
  have f1:∀i,w2.frozen? ⟨w.heap.size+1,i,none⟩=false:=fun i=>by rw[hb3.frozen (p:=⟨w.heap.size+1,i,none⟩) (by simp only; omega)]; exact f0 i
  have hz:w.heap.size+1<w2.heap.size:=by have:=hb3.size; omega
  have hz0:w.heap.size+1<(w1.alloc (.cells #[.z,.sn,.z,.sn] 26)).heap.size:=by simp; omega
  have F:=azF hx;have HX2:=azF (Ext.trans' HX.out hb3);clear r0 f0 hx hb2 hb3 HY;go_wp2_with fail
  refine bodyPost_ret (v := .agg #[.bool ((0:Int)<0),.slice b1 (Na.au (0:Int).natAbs).length d1,.z,.slice b2 (Na.au 1).length d2]) (by simp[results,Tryz.results175,go_sem,r1]) rfl ⟨_,rfl,?_,qC HX2.out (by omega) _ _ _ _⟩;exact(F.out.NV hz0 _ _ _ _).mono (by omega)
 have HC:=azF (XD n1 n2 _ _ _ _ _ g1 g2 hm hl1 hl2);have hN:nrm n1 n2 (Na.val l) (Na.val m)=(lC n1 n2 (Na.val l) (Na.val m),Na.val l/Nat.gcd (Na.val l) (Na.val m),Na.val m/Nat.gcd (Na.val l) (Na.val m)):=by unfold nrm; rw[azG (by omega)]
 rw[hN];clear g1 g2 hm hN;go_enter Tryz.func175,Tryz.ntmps175
 go_wp2_with fail
 refine HC.out.mono ?_;rintro e w1 ⟨x,rfl,hx,hb⟩;have hsz:=hb.size;simp only[aCc]at hsz;obtain⟨b1,d1,b2,d2,rfl⟩:=hx.shape;have r0:∀i,w1.cell? ⟨w.heap.size+1,i,none⟩ = #[Value.z,.sn,.z,.sn][i]?:=fun i=>by rw[hb.cell (p:=⟨w.heap.size+1,i,none⟩) (by simp)]; simp[go_sem]
 have f0:∀i,w1.frozen? ⟨w.heap.size+1,i,none⟩=false:=fun i=>by rw[hb.frozen (p:=⟨w.heap.size+1,i,none⟩) (by simp)]; simp[go_sem]
 have F:=azF hx;have HX:=azF (Ext.trans' HB0.out hb);have hz:w.heap.size+1<w1.heap.size:=by omega
 clear hb HC hx;go_wp2_with fail
 refine bodyPost_ret (v := .agg #[.bool (lC n1 n2 (Na.val l) (Na.val m)),.slice b1 (Na.au (Na.val l/Nat.gcd (Na.val l) (Na.val m))).length d1,.z,.slice b2 (Na.au (Na.val m/Nat.gcd (Na.val l) (Na.val m))).length d2]) (by simp[results,Tryz.results175,go_sem,r0,hz]) rfl ⟨_,rfl,?_,?_⟩
 ·exact((F.out.NV (by simp) _ _ _ _).ext (aF _ _)).mono (by simp; omega)
 exact Ext.trans' (qC HX.out (by omega) _ _ _ _) (aF _ _)
def zv(n:Bool)(a:Nat):Int:=if n then -(a:Int)else (a:Int)
theorem acE(n:Bool)(a:Nat):decide (zv n a<0)=(n&&decide (0<a)):=by
 unfold zv;cases n
 ·simp
 rw[aAP,decide_eq_decide]; simp
theorem rX(n:Bool)(a:Nat):(zv n a).natAbs=a:=by unfold zv; cases n<;>simp
theorem ajt(n:Bool)(a:Nat):zv (!n) a = -zv n a:=by unfold zv; cases n<;>simp
theorem X3(z:Int):zv (decide (z<0)) z.natAbs=z:=by
 unfold zv;by_cases h:z<0
 ·rw[aAW h,azI rfl]; omega
 rw[aBj h,azG (by simp)]; omega
theorem aju(n m:Bool)(a b:Nat):zv n a*zv m b=zv (n != m) (a*b):=by unfold zv; cases n<;>cases m<;>simp[Int.mul_neg,Int.neg_mul,Int.neg_neg]
theorem Qz(n:Bool)(a b:Nat):zv n a+zv n b=zv n (a+b):=by
 unfold zv;cases n
 ·simp
 simp only[if_true]; omega
theorem DZ{n m:Bool}{a b:Nat}(h:n≠m)(hle:b≤a):zv n a+zv m b=zv n (a-b):=by
 unfold zv;cases n<;>cases m<;>simp only[ne_eq,not_true_eq_false,reduceCtorEq,if_true,if_false,aB1]at * <;> omega
theorem Nw{n m:Bool}{a b:Nat}(h:n≠m)(hle:a≤b):zv n a+zv m b=zv m (b-a):=by
 rw[Int.add_comm]; exact DZ (fun e=>h e.symm) hle
theorem ajs(n:Bool)(a:Nat):pK n a=(zv n a).sign:=by
 unfold pK zv;rcases aAt a with h | h
 ·subst h; cases n<;>rfl
 rw[azG (by omega)];cases n
 ·rw[azG (by simp),azG (by simp),Int.sign_eq_one_of_pos (by omega)]
 rw[azI rfl,azI rfl,Int.sign_eq_neg_one_of_neg (by omega)]
abbrev Ap (base:Nat)(w:World)(v:Value)(z:Int):Prop:=aO base w v (decide (z<0)) z.natAbs
theorem GI{base:Nat}{w:World}{v:Value}{n:Bool}{a:Nat}(h:aO base w v (n&&decide (0<a)) a):Ap base w v (zv n a):=by
 unfold Ap; rw[acE,rX]; exact h
def nz(x:Int)(d:Nat):Bool×Nat×Nat:=nrm (decide (x<0)) false x.natAbs d
def qz(r:Bool×Nat×Nat):Int:=zv r.1 r.2.1
def zi(r s:Bool×Nat×Nat):Bool×Nat×Nat:=nz (qz r*qz s) (r.2.2*s.2.2)
def JF(r s:Bool×Nat×Nat):Bool×Nat×Nat:=nz (qz r*s.2.2-qz s*r.2.2) (r.2.2*s.2.2)
def lY(r s:Bool×Nat×Nat):Int:=(qz r*s.2.2-qz s*r.2.2).sign
theorem X5(n1 n2:Bool)(l m:List UInt32):(Na.au (nrm n1 n2 (Na.val l) (Na.val m)).2.1).length≤l.length∧(Na.au (nrm n1 n2 (Na.val l) (Na.val m)).2.2).length≤max 1 m.length:=by
 unfold nrm;split
 ·have h1:(Na.au 1).length≤1:=Na.bH (by decide);exact⟨by rw[Na.jA]; simp,by simp only; omega⟩
 have h1:=fH (aBK (Na.val l) (Nat.gcd (Na.val l) (Na.val m)));have h2:=fH (aBK (Na.val m) (Nat.gcd (Na.val l) (Na.val m)));have:=bW l;have:=bW m;simp only; omega
def aI(k:Nat)(f:α→List Value)(w:World)(v:Value)(l:List α):Prop:=
 ∃a cap,v = .slice a l.length cap∧cap≤maxLen ∧
  ((l=[]∧(a=none→cap=0)) ∨
   ∃b o,a=some ⟨b,o,none⟩∧b<w.heap.size∧l.length≤cap∧∀i (h:i<l.length) (j:Nat),j<k→w.cell? ⟨b,o+i*k+j,none⟩=(f l[i])[j]?)
theorem aI.below{k:Nat}{f:α→List Value}{w w':World}{v:Value}{l:List α}(h:aI k f w v l)(hb:Below w.heap.size w w'):aI k f w' v l:=by
 obtain⟨a,cap,hv,hm,h⟩:=h;refine⟨a,cap,hv,hm,?_⟩;rcases h with h | ⟨b,o,ha,hlt,hl,hc⟩
 ·exact .inl h
 exact .inr ⟨b,o,ha,by have:=hb.size; omega,hl,fun i hi j hj=>by rw[hb.cell (p:=⟨b,o+i*k+j,none⟩) hlt]; exact hc i hi j hj⟩
theorem aI.shape{k:Nat}{f:α→List Value}{w:World}{v:Value}{l:List α}(h:aI k f w v l):∃a cap,v = .slice a l.length cap:=by
 obtain⟨a,cap,h,_⟩:=h; exact⟨a,cap,h⟩
theorem aI.len{k:Nat}{f:α→List Value}{w:World}{v:Value}{l:List α}(h:aI k f w v l):l.length≤maxLen:=by
 obtain⟨a,cap,rfl,hm,h⟩:=h;rcases h with ⟨rfl,_⟩ | ⟨b,o,rfl,hb,hl,hc⟩
 ·simp
 omega
theorem dI(k:Nat)(f:α→List Value)(w:World):aI k f w (.sn) []:=⟨none,0,rfl,azQ _,.inl ⟨rfl,fun _=>rfl⟩⟩
theorem abJ{k:Nat}{f:α→List Value}{w:World}{v:Value}{l:List α}(h:aI k f w v l)(hp:0<l.length) :
  ∃b o cap,v = .slice (some ⟨b,o,none⟩) l.length cap∧b<w.heap.size∧l.length≤cap∧cap≤maxLen∧∀i (h:i<l.length) (j:Nat),j<k→w.cell? ⟨b,o+i*k+j,none⟩=(f l[i])[j]?:=by
 obtain⟨a,cap,rfl,hm,h⟩:=h;rcases h with ⟨rfl,_⟩ | ⟨b,o,rfl,hb,hl,hc⟩
 ·simp at hp
 exact⟨b,o,cap,rfl,hb,hl,hm,hc⟩
theorem fE{f:α→Value}{w:World}{v:Value}{l:List α}(h:dD f w v l):aI 1 (fun x=>[f x]) w v l:=by
 obtain⟨a,cap,hv,hm,h⟩:=h;refine⟨a,cap,hv,hm,?_⟩;rcases h with h | ⟨b,o,ha,hlt,hl,hc⟩
 ·exact .inl h
 refine .inr ⟨b,o,ha,hlt,hl,fun i hi j hj=>?_⟩;obtain rfl:j=0:=by omega
 simpa using hc i hi
abbrev I64 (x:Int):Prop := -9223372036854775808≤x∧x≤9223372036854775807
structure bI where
 n1:Bool
 a1:Option Addr
 c1:Nat
 l1:List UInt32
 n2:Bool
 a2:Option Addr
 c2:Nat
 l2:List UInt32
def bI.s1(r:bI):Value := .slice r.a1 r.l1.length r.c1
def bI.s2(r:bI):Value := .slice r.a2 r.l2.length r.c2
def bI.cells(r:bI):List Value:=[.bool r.n1,r.s1,.bool r.n2,r.s2]
def bI.v(r:bI):Value := .agg #[.bool r.n1,r.s1,.bool r.n2,r.s2]
def bI.ok(w:World)(r:bI):Prop:=aC w r.s1 r.l1∧aC w r.s2 r.l2
def bI.fit(k:Nat)(r:bI):Prop:=r.l1.length≤k∧r.l2.length≤k
def bI.q(r:bI):Bool×Nat×Nat:=nrm r.n1 r.n2 (Na.val r.l1) (Na.val r.l2)
theorem bI.ok.below{w w':World}{r:bI}(h:r.ok w)(hb:Ext w w'):r.ok w':=⟨h.1.below hb,h.2.below hb⟩
theorem bI.fit.mono{k k':Nat}{r:bI}(h:r.fit k)(hk:k≤k'):r.fit k':=⟨az3 h.1 hk,az3 h.2 hk⟩
structure bG where
 a:bI
 b:bI
 c:bI
 d:bI
 e:bI
 f:bI
def bG.cells(t:bG):List Value:=t.a.cells++t.b.cells++t.c.cells++t.d.cells++t.e.cells++t.f.cells
def bG.v(t:bG):Value := .agg t.cells.toArray
def bG.ok(w:World)(t:bG):Prop:=t.a.ok w∧t.b.ok w∧t.c.ok w∧t.d.ok w∧t.e.ok w∧t.f.ok w
def bG.fit(k:Nat)(t:bG):Prop:=t.a.fit k∧t.b.fit k∧t.c.fit k∧t.d.fit k∧t.e.fit k∧t.f.fit k
theorem bG.ok.below{w w':World}{t:bG}(h:t.ok w)(hb:Ext w w'):t.ok w':=
 ⟨h.1.below hb,h.2.1.below hb,h.2.2.1.below hb,h.2.2.2.1.below hb,h.2.2.2.2.1.below hb,h.2.2.2.2.2.below hb⟩
def dZ(q:Bool×Nat×Nat):Nat:=max (bl q.2.1) (bl q.2.2)
def q0:Bool×Nat×Nat:=(false,0,1)
def pG(p q:Bool×Nat×Nat):Bool:=lY p q==0
structure jS where
 x:Int
 y:Int
deriving DecidableEq
def jS.ok(p:jS):Prop:=I64 p.x∧I64 p.y
def cok(x:Int):Bool:=decide (-1048576≤x)&&decide (x≤1048576)
def jS.valid(p:jS):Bool:=cok p.x&&cok p.y
def jS.zero(p:jS):Bool:=(p.x==0)&&(p.y==0)
structure dM where
 verb:Int
 a:jS
 b:jS
 c:jS
deriving DecidableEq
def dM.cells(s:dM):List Value:=[.i s.verb,.i s.a.x,.i s.a.y,.i s.b.x,.i s.b.y,.i s.c.x,.i s.c.y]
def dM.ok(s:dM):Prop:=I64 s.verb∧s.a.ok∧s.b.ok∧s.c.ok
def named(v:Int):Int:=if v=4 then 3 else if v=3 then 2 else if v=1∨v=2 then 1 else if v=5 then 0 else -1
def vF(v:Int)(i:Int)(p:jS):Bool:=p.valid && !(decide (named v≤i) && !p.zero)
def dM.fits(s:dM):Bool:=vF s.verb 0 s.a&&(vF s.verb 1 s.b&&vF s.verb 2 s.c)
def dM.stands(last:Int)(s:dM):Bool:=(s.verb==1)||((last != 5)&&((s.verb != 5)||(last != 1)))
def dM.err(last:Int)(s:dM):Int:=if named s.verb<0 then 2 else if s.stands last=false then 10 else if s.fits=false then 6 else 0
def rD:Int→Int→List dM→Int×Int
 | _,_,[]=>(0,0)
 | last,i,s::l=>if s.err last=0 then rD s.verb (i+1) l else (s.err last,i)
def gZ(l:List dM):Int×Int:=if 256<(l.length:Int)then (5,256)else rD 5 0 l
def jO(l:List dM):Bool:=(gZ l).1==0
structure bC where
 r:UInt8
 g:UInt8
 b:UInt8
 a:UInt8
deriving DecidableEq
def bC.cells(p:bC):List Value:=[gu p.r,gu p.g,gu p.b,gu p.a]
def bC.valid(p:bC):Bool:=decide (p.r≤p.a)&&(decide (p.g≤p.a)&&decide (p.b≤p.a))
structure dB where
 w:Int
 h:Int
 sa:Option Addr
 sc:Nat
 l:List bC
def dB.s(m:dB):Value := .slice m.sa m.l.length m.sc
def dB.cells(m:dB):List Value:=[.i m.w,.i m.h,m.s]
def dB.v(m:dB):Value := .agg #[.i m.w,.i m.h,m.s]
def dB.ok(W:World)(m:dB):Prop:=I64 m.w∧I64 m.h∧aI 4 bC.cells W m.s m.l
theorem dB.ok.below{w w':World}{t:dB}(h:t.ok w)(hb:Ext w w'):t.ok w':=⟨h.1,h.2.1,h.2.2.below hb⟩
def side(n:Int):Bool:=decide (1≤n)&&decide (n≤4096)
def dB.size(m:dB):Bool:=side m.w&&(side m.h&&decide (m.w*m.h≤65536))
def dB.valid(m:dB):Bool:=m.size&&(((m.l.length:Int)==m.w*m.h)&&m.l.all bC.valid)
def dB.eq(m n:dB):Bool:=(m.w==n.w)&&((m.h==n.h)&&(m.l==n.l))
structure dH where
 o:Int
 c:bC
deriving DecidableEq
def dH.cells(s:dH):List Value:=[.i s.o,gu s.c.r,gu s.c.g,gu s.c.b,gu s.c.a]
def dH.ok(s:dH):Prop:=I64 s.o
def gX:Int→List dH→Bool
 | _,[]=>true
 | at',s::l=>decide (at'≤s.o)&&(decide (s.o≤65536)&&gX s.o l)
def iq(l:List dH):Bool:=decide (1≤l.length)&&(decide (l.length≤16)&&gX 0 l)
structure ak where
 kind:Int
 color:bC
 p0:jS
 p1:jS
 bT:Int
 sva:Option Addr
 svc:Nat
 stops:List dH
 spread:Int
 img:dB
 cZ:Int
 t:bG
def ak.sv(p:ak):Value := .slice p.sva p.stops.length p.svc
def ak.cells(p:ak):List Value:=
 [.i p.kind,gu p.color.r,gu p.color.g,gu p.color.b,gu p.color.a,.i p.p0.x,.i p.p0.y,.i p.p1.x,.i p.p1.y,.i p.bT,p.sv,.i p.spread,
  .i p.img.w,.i p.img.h,p.img.s,.i p.cZ]++p.t.cells
def ak.v(p:ak):Value := .agg p.cells.toArray
def ak.ok(w:World)(p:ak):Prop:=
 I64 p.kind∧p.p0.ok∧p.p1.ok∧I64 p.bT∧aI 5 dH.cells w p.sv p.stops∧(∀s∈p.stops,s.ok)∧I64 p.spread∧p.img.ok w∧I64 p.cZ∧p.t.ok w
theorem ak.ok.below{w w':World}{p:ak}(h:p.ok w)(hb:Ext w w'):p.ok w':=by
 obtain⟨h1,h2,h3,h4,h5,h6,h7,h8,h9,h10⟩:=h;exact⟨h1,h2,h3,h4,h5.below hb,h6,h7,h8.below hb,h9,h10.below hb⟩
def iC(n:Int):Bool:=decide (1≤n)&&decide (n≤3)
structure aS where
 width:Int
 join:Int
 cap:Int
 eU:Int
 sa:Option Addr
 sc:Nat
 dash:List Int
 phase:Int
def aS.s(p:aS):Value := .slice p.sa p.dash.length p.sc
def AA(x:Int):Value := .i x
def aS.cells(p:aS):List Value:=[.i p.width,.i p.join,.i p.cap,.i p.eU,p.s,.i p.phase]
def aS.v(p:aS):Value := .agg #[.i p.width,.i p.join,.i p.cap,.i p.eU,p.s,.i p.phase]
def aS.ok(w:World)(p:aS):Prop:=I64 p.width∧I64 p.join∧I64 p.cap∧I64 p.eU∧dD AA w p.s p.dash∧(∀x∈p.dash,I64 x)∧I64 p.phase
theorem aS.ok.below{w w':World}{p:aS}(h:p.ok w)(hb:Ext w w'):p.ok w':=⟨h.1,h.2.1,h.2.2.1,h.2.2.2.1,h.2.2.2.2.1.below hb,h.2.2.2.2.2⟩
structure aj where
 id:Int
 kind:Int
 depth:Int
 t:bG
 csa:Option Addr
 csc:Nat
 clip:List dM
 aP:Int
 dQ:UInt8
 blend:Int
 isolated:Bool
 dF:Bool
 psa:Option Addr
 psc:Nat
 path:List dM
 aT:Int
 fsa:Option Addr
 fsc:Nat
 fill:List ak
 style:aS
 ssa:Option Addr
 ssc:Nat
 stroke:List ak
 img:dB
 cZ:Int
def aj.cs(n:aj):Value := .slice n.csa n.clip.length n.csc
def aj.ps(n:aj):Value := .slice n.psa n.path.length n.psc
def aj.fs(n:aj):Value := .slice n.fsa n.fill.length n.fsc
def aj.ss(n:aj):Value := .slice n.ssa n.stroke.length n.ssc
def aj.cells(n:aj):List Value:=
 [.i n.id,.i n.kind,.i n.depth]++n.t.cells++[n.cs,.i n.aP,gu n.dQ,.i n.blend,.bool n.isolated,.bool n.dF,n.ps,.i n.aT,n.fs]++n.style.cells ++
  [n.ss]++n.img.cells++[.i n.cZ]
def aj.v(n:aj):Value := .agg n.cells.toArray
abbrev wE (w:World)(v:Value)(l:List dM):Prop:=aI 7 dM.cells w v l∧∀s∈l,s.ok
abbrev iV (w:World)(v:Value)(l:List ak):Prop:=aI 40 ak.cells w v l∧∀p∈l,p.ok w
def aj.ok(w:World)(n:aj):Prop:=
 I64 n.id∧I64 n.kind∧I64 n.depth∧n.t.ok w∧wE w n.cs n.clip∧I64 n.aP∧I64 n.blend∧wE w n.ps n.path∧I64 n.aT∧iV w n.fs n.fill∧n.style.ok w∧iV w n.ss n.stroke ∧
  n.img.ok w∧I64 n.cZ
theorem wE.below{w w':World}{v:Value}{l:List dM}(h:wE w v l)(hb:Ext w w'):wE w' v l:=⟨h.1.below hb,h.2⟩
theorem iV.below{w w':World}{v:Value}{l:List ak}(h:iV w v l)(hb:Ext w w'):iV w' v l:=⟨h.1.below hb,fun p hp=>(h.2 p hp).below hb⟩
theorem aj.ok.below{w w':World}{n:aj}(h:n.ok w)(hb:Ext w w'):n.ok w':=by
 obtain⟨h1,h2,h3,h4,h5,h6,h7,h8,h9,h10,h11,h12,h13,JY⟩:=h;exact⟨h1,h2,h3,h4.below hb,h5.below hb,h6,h7,h8.below hb,h9,h10.below hb,h11.below hb,h12.below hb,h13.below hb,JY⟩
end Go.Proofs.YtodpgjjgaddkeaaGreatDoor
namespace Go.Vp
open Go.Proofs.YtodpgjjgaddkeaaGreatDoor Go.RowKit Go.Rel
section
variable{P:Program}{ops:Array Oper}{Q:Exit→Act→World→Prop}{a:Act}{w:World}{rest:List Oper}{o:Oper}{n:Nat}{l:List (Nat×Value)}
theorem abK{ρ:Operand→Value}{t e:TypeId}{x ix:Operand}{b off len cap k:Nat}{kd:IntKind}(i:Nat)(hop:o.op = .indexAddr t x ix)(hx:ρ x = .slice (some ⟨b,off,none⟩) len cap)(hi:ρ ix = .int kd (i:Int))(hlt:i<len)
  (hu:P.underlying t=some (.slice e)) (hsz:(P.info? e).map (·.size)=some k):(execOp ρ o).run P w = .ok (.value (.pointer (some ⟨b,off+i*k,none⟩))) w:=by
 have he:P.elem t=e:=by unfold Program.elem; rw[hu]
 have h1:=run_indexAt_slice (P:=P) w t ⟨b,off,none⟩ len cap kd (i:Int) (by rw[he]; exact hu);rw[azI ⟨by omega,by omega⟩,he]at h1;have h2:(sizeOf e).run P w = .ok k w:=by
  cases hq:P.info? e with
  | none=>simp[hq]at hsz
  | some j =>
   have:j.size=k:=by simpa[hq]using hsz
   simp[sizeOf,typeInfo,hq,this]
 rw[h2]at h1;simp only[Result.andThen,aBh]at h1;have e2:(⟨b,off,none⟩:Addr).add (i*k)=⟨b,off+i*k,none⟩:=Addr.add_mid _ _ _;rw[e2]at h1;unfold execOp;simp only[hop,hx,hi,aAI,h1];rfl
theorem rF{α:Type}{k:Nat}{f:α→List Value}{v:Value}{L:List α}(h:aI k f w v L)(hf:∀x,(f x).length=k)(i:Nat)(hi:i<L.length) :
  ∃b off cap,v = .slice (some ⟨b,off,none⟩) L.length cap∧b<w.heap.size∧w.rangeAt b (off+i*k) (f L[i]):=by
 obtain⟨b,off,cap,hv,hb,hl,hm,hc⟩:=abJ h (by omega);refine⟨b,off,cap,hv,hb,fun j u hj=>?_⟩;have hjl:j<k:=by have:=(List.getElem?_eq_some_iff.1 hj).1; rw[hf]at this; exact this
 rw[hc i hi j hjl]; exact hj
theorem iY{α:Type}{k:Nat}{f:α→List Value}{a:Option Addr}{n c:Nat}{L:List α}(h:aI k f w (.slice a n c) L)(hf:∀x,(f x).length=k)(i:Nat)(hi:i<L.length) :
  ∃b o,a=some ⟨b,o,none⟩∧∃x,L[i]=x∧b<w.heap.size∧w.rangeAt b (o+i*k) (f x):=by
 obtain⟨b,o,cap,hv,hb,hr⟩:=rF h hf i hi;simp only[aAg]at hv;exact⟨b,o,hv.1,_,rfl,hb,hr⟩
theorem arz{α:Type}{k:Nat}{f:α→List Value}{b o n c:Nat}{L:List α}(h:aI k f w (.slice (some ⟨b,o,none⟩) n c) L)(hf:∀x,(f x).length=k)(i:Nat)(hi:i<L.length) :
  ∃x,L[i]=x∧b<w.heap.size∧w.rangeAt b (o+i*k) (f x):=by
 obtain⟨b1,o1,h1,x,hx,hb,hr⟩:=iY h hf i hi;simp only[azK,aBI,and_true]at h1;obtain⟨rfl,rfl⟩:=h1;exact⟨x,hx,hb,hr⟩
theorem pW{w w':World}{b off:Nat}{cs:List Value}(h:w.rangeAt b off cs)(hb:b<w.heap.size)(he:Ext w w'):w'.rangeAt b off cs:=fun j v hv=>by
 rw[he.cell (p:=⟨b,off+j,none⟩) hb]; exact h j v hv
theorem ac6{α:Type}{k:Nat}{f:α→List Value}{v:Value}{L:List α}(h:aI k f w v L):v.oneCell'=true:=by obtain⟨a,cap,rfl⟩:=h.shape; rfl
theorem lS{v:Value}{L:List UInt32}(h:aC w v L):v.oneCell'=true:=by obtain⟨a,cap,rfl,_⟩:=h; rfl
end
end Go.Vp
end
theorem aAe:type_of% @Go.Vp.iY:=@Go.Vp.iY
