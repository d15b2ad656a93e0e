/- Walks of packages integer and rational: New, Sign. -/
import Derived.Test.YtapmgonflgahbaaGreatDoorNatW2
import Derived.Test.YtapmgonflgahbaaGreatDoorRel
import Derived.Outline
set_option maxRecDepth 100000
namespace Go.Proofs.YtapmgonflgahbaaGreatDoor
open Go.RowKit
variable{α:Type}
set_option linter.unusedVariables false
def aH(base:Nat)(w:World)(v:Value)(neg:Bool)(n:Nat):Prop:=∃s,v = .agg #[.bool neg,s]∧aF w s (Na.aj n)∧From base s
theorem aH.ext{base:Nat}{w w':World}{v:Value}{neg:Bool}{n:Nat}(h:aH base w v neg n)(hb:Ext w w'):aH base w' v neg n:=by
 obtain⟨s,hv,hs,hf⟩:=h; exact⟨s,hv,hs.below hb,hf⟩
theorem aH.mono{base base':Nat}{w:World}{v:Value}{neg:Bool}{n:Nat}(h:aH base w v neg n)(hb:base'≤base):aH base' w v neg n:=by
 obtain⟨s,hv,hs,hf⟩:=h; exact⟨s,hv,hs,hf.mono hb⟩
theorem pz(neg:Bool)(v:Value)(l:List UInt32)(w:World)(hv:aF w v l)(hlen:l.length≤1000000000) :
  Calls Tryz.prog 294 #[.bool neg,v] w fun e w'=>∃x,e = .returned x∧aH w.heap.size w' x (neg&&decide (0<Na.val l)) (Na.val l)∧Ext w w':=by
 have hb1:=aG w (.cells #[.z,.sn] 29);have HC:=anU (pW v l _ (hv.below hb1) hlen);have hpos:Hid (decide ((0:Int)<((Na.aj (Na.val l)).length:Int))=decide (0<Na.val l)):=by
  show _=_;rw[decide_eq_decide];constructor
  ·intro h;rcases aoJ (Na.val l)with h0 | h0
   ·rw[h0,Na.rH]at h; simp at h
   exact h0
  intro h;have:(Na.aj (Na.val l)).length≠0:=fun h'=>by
   have:=Na.lq.1 (apc h'); omega
  omega
 rcases aqg neg with rfl | rfl;all_goals
  go_enter Tryz.func294,Tryz.ntmps294
  go_wp2_with fail
  refine HC.out.mono ?_
  rintro e w1 ⟨v',rfl,ho,hb2⟩
  have hrow:=aU ho
  have hoff:=MW ho
  obtain⟨hc,hf,hz⟩:=kH hb2
  have hb0:=Ext.trans' hb1 hb2
  have HB:=anU hb0
  have HR:=anU hrow
  have HO:=anU hoff
  obtain⟨a,cap,rfl⟩:=HR.out.shape
  clear HC ho hrow hb2 hb1 hb0 hoff
  go_wp2_with fail
 ·refine bodyPost_ret (v := .agg #[.bool ((0:Int)<((Na.aj (Na.val l)).length:Int)),.slice a (Na.aj (Na.val l)).length cap]) (by simp[results,Tryz.results294,go_sem,hc]) rfl ⟨_,rfl,⟨_,by rw[apz,hpos.out],?_⟩,?_⟩
  ·exact⟨HR.out.ch (((Ch.refl _ _).setCell _ _).setCell _ _) (fun _=>HO.out.off (by simp)),HO.out.mono (by simp)⟩
  exact(HB.out.setCell (p:=⟨w.heap.size,0,none⟩) (an7 _) _).setCell (p:=⟨w.heap.size,1,none⟩) (an7 _) _
 refine bodyPost_ret (v := .agg #[.z,.slice a (Na.aj (Na.val l)).length cap]) (by simp[results,Tryz.results294,go_sem,hc]) rfl ⟨_,rfl,⟨_,by rw[apN],?_⟩,?_⟩
 ·exact⟨HR.out.ch (((Ch.refl _ _).setCell _ _).setCell _ _) (fun _=>HO.out.off (by simp)),HO.out.mono (by simp)⟩
 exact(HB.out.setCell (p:=⟨w.heap.size,0,none⟩) (an7 _) _).setCell (p:=⟨w.heap.size,1,none⟩) (an7 _) _
end Go.Proofs.YtapmgonflgahbaaGreatDoor
namespace Go.Proofs.YtapmgonflgahbaaGreatDoor
open Go.RowKit
variable{α:Type}
def sW(neg:Bool)(n:Nat):Int:=if n=0 then 0 else if neg then -1 else 1
theorem qh(neg:Bool)(s:Value)(l:List UInt32)(w:World)(hv:aF w s l)(hlen:l.length≤100000000) :
  Calls Tryz.prog 255 #[.agg #[.bool neg,s]] w fun e w'=>e = .returned (.i (sW neg (Na.val l)))∧Ext w w':=by
 have hb1:=aG w (.cells #[.bool neg,s] 29);have HC:=anU (E5 s l _ (hv.below hb1) (by omega));have HB:=anU hb1;obtain⟨a,cap,rfl⟩:=hv.shape;clear hv hb1;by_cases h0:Na.val l=0
 ·have hbl:((bl (Na.val l):Int)==0)=true:=by rw[h0]; rfl
  have hs:Hid (sW neg (Na.val l)=0):=by show _=_; unfold sW; rw[an6 h0]
  clear h0;go_enter Tryz.func255,Tryz.ntmps255
  go_wp2_with fail
  refine HC.out.mono ?_;rintro e w' ⟨rfl,rfl⟩;go_wp2_with fail
  go_ret
  exact⟨by rw[hs.out]; rfl,HB.out⟩
 have hbl:((bl (Na.val l):Int)==0)=false:=by
  rw[aog];intro h;have h1:bl (Na.val l)=0:=by omega
  unfold bl at h1; rw[an0 h0]at h1; omega
 have hs0:Hid (∀neg,sW neg (Na.val l)=if neg then -1 else 1):=fun neg=>an0 h0;clear h0;rcases aqg neg with rfl | rfl;all_goals
  go_enter Tryz.func255,Tryz.ntmps255
  go_wp2_with fail
  refine HC.out.mono ?_
  rintro e w' ⟨rfl,rfl⟩
  go_wp2_with fail
  go_ret
  exact⟨by rw[hs0.out]; rfl,HB.out⟩
theorem D9(neg:Bool)(s gv:Value)(l m:List UInt32)(gb:Nat)(w:World)(hv:aF w s l)(hlen:l.length≤100000000)(hg:w.cell? ⟨gb,0,none⟩=some gv)(hgv:aF w gv m)(hm:0<Na.val m)(hlen2:m.length≤100000000) :
  Calls Tryz.prog 327 #[.agg #[.bool neg,s],.q gb 0] w fun e w'=>∃q,e = .returned q∧aF w' q (Na.aj (Na.val l/Na.val m))∧Ext w w':=by
 have hb1:=aG w (.cells #[.bool neg,s] 29);have HC:=anU (FB s gv l m _ (hv.below hb1) (hgv.below hb1) hm hlen hlen2);have hlt:=World.block_lt_of_cell? w _ hg;simp only at hlt;have HB:=anU hb1;obtain⟨a,cap,rfl⟩:=hv.shape;obtain⟨a2,cap2,rfl⟩:=hgv.shape;clear hv hb1 hgv;go_enter Tryz.func327,Tryz.ntmps327
 go_wp2_with fail
 refine HC.out.mono ?_;rintro e w' ⟨q,r,rfl,hq,hr,hb⟩;have HQ:=anU hq;clear hq hr;go_wp2_with fail
 go_ret
 exact⟨_,rfl,HQ.out,Ext.trans' HB.out hb⟩
end Go.Proofs.YtapmgonflgahbaaGreatDoor
namespace Go.Proofs.YtapmgonflgahbaaGreatDoor
open Go.RowKit
variable{α:Type}
attribute [local go_sem] Go.Rel.Does Go.Rel.Upon Go.Rel.kept Go.Rel.valOf
theorem aa6(a b:Bool)(n m:Nat):IntKind.i64.wrap (sW a n*sW b m)=sW a n*sW b m:=by
 have h:∀a n,sW a n=0∨sW a n=1∨sW a n = -1:=by
  intro a n; unfold sW; split
  ·simp
  cases a<;>simp
 rw[ap6];rcases h a n with h1 | h1 | h1<;>rcases h b m with h2 | h2 | h2<;>rw[h1,h2]<;>decide
def aB(base:Nat)(w:World)(v:Value)(neg:Bool)(a b:Nat):Prop:=∃s t,v = .agg #[.bool neg,s,.z,t]∧aF w s (Na.aj a)∧aF w t (Na.aj b)∧From base s∧From base t
theorem aB.ext{base:Nat}{w w':World}{v:Value}{neg:Bool}{a b:Nat}(h:aB base w v neg a b)(hb:Ext w w'):aB base w' v neg a b:=by
 obtain⟨s,t,hv,hs,ht,hf⟩:=h; exact⟨s,t,hv,hs.below hb,ht.below hb,hf⟩
theorem aB.mono{base base':Nat}{w:World}{v:Value}{neg:Bool}{a b:Nat}(h:aB base w v neg a b)(hb:base'≤base):aB base' w v neg a b:=by
 obtain⟨s,t,hv,hs,ht,hf,hg⟩:=h; exact⟨s,t,hv,hs,ht,hf.mono hb,hg.mono hb⟩
theorem acW{base:Nat}{w:World}{x y:Value}{n1:Bool}{a b:Nat}(hx:aH base w x n1 a)(hy:aH base w y false b) :
  ∃a1 c1 a2 c2,x = .agg #[.bool n1,.slice a1 (Na.aj a).length c1]∧y = .agg #[.z,.slice a2 (Na.aj b).length c2] ∧
   aB base w (.agg #[.bool n1,.slice a1 (Na.aj a).length c1,.z,.slice a2 (Na.aj b).length c2]) n1 a b:=by
 obtain⟨s,rfl,hs,f1⟩:=hx;obtain⟨t,rfl,ht,f2⟩:=hy;obtain⟨a1,c1,rfl⟩:=hs.shape;obtain⟨a2,c2,rfl⟩:=ht.shape;exact⟨a1,c1,a2,c2,rfl,rfl,_,_,rfl,hs,ht,f1,f2⟩
def nP(n1 n2:Bool)(a b:Nat):Bool:=decide (sW n1 a*sW n2 b<0)&&decide (0<a/Nat.gcd a b)
theorem FQ(n1 n2:Bool)(s1 s2:Value)(l m:List UInt32)(w:World)(h1:aF w s1 l)(h2:aF w s2 m)(hm:0<Na.val m)(hl1:l.length≤100000000)(hl2:m.length≤100000000) :
  Calls Tryz.prog 293 #[.agg #[.bool n1,s1],.agg #[.bool n2,s2]] w fun e w'=>∃x,e = .returned x ∧
   aB w.heap.size w' x (nP n1 n2 (Na.val l) (Na.val m)) (Na.val l/Nat.gcd (Na.val l) (Na.val m)) (Na.val m/Nat.gcd (Na.val l) (Na.val m))∧Ext w w':=by
 obtain⟨ng,hng⟩:∃x,nP n1 n2 (Na.val l) (Na.val m)=x:=⟨_,rfl⟩;rw[hng];unfold nP at hng;have HNG:=anU hng;clear hng;obtain⟨a1,c1,rfl⟩:=h1.shape;obtain⟨a2,c2,rfl⟩:=h2.shape;have H1:=anU h1;have H2:=anU h2;clear h1 h2;go_enter Tryz.func293,Tryz.ntmps293
 go_wp2_with fail
 have HB0:=anU (((aG w (.cells #[.bool n1,.slice a1 l.length c1] 29)).alloc (by simp) (.cells #[.bool n2,.slice a2 m.length c2] 29)).alloc (by simp; omega) (.cells #[.z,.sn,.z,.sn] 31));refine(ab2 _ _ _ _ _ (H1.out.below HB0.out) (H2.out.below HB0.out) hl1 hl2).mono ?_;rintro e w1 ⟨g,rfl,hg,hb1⟩;have HG:=anU hg;obtain⟨ag,cg,hgs⟩:=hg.shape;rw[hgs]at HG;clear hg;have HB1:=anU (Ext.trans' HB0.out hb1);go_wp2_with fail
 obtain⟨W,hW⟩:∃W,W=w1.alloc (.cells #[.slice ag (Na.aj ((Na.val l).gcd (Na.val m))).length cg] 27):=⟨_,rfl⟩;rw[←hW];have hWb:Ext w1 W:=by rw[hW]; exact aG _ _
 have hk:∀w',Ext W w'→w'.cell? ⟨w.heap.size,0,none⟩=some (.bool n1)∧w'.cell? ⟨w.heap.size,1,none⟩=some (.slice a1 l.length c1)∧w'.cell? ⟨w.heap.size+1,0,none⟩=some (.bool n2) ∧
   w'.cell? ⟨w.heap.size+1,1,none⟩=some (.slice a2 m.length c2)∧w'.cell? ⟨w1.heap.size,0,none⟩=some (.slice ag (Na.aj ((Na.val l).gcd (Na.val m))).length cg):=by
  intro w' hw'
  have hsz:=hb1.size
  simp only[aqc]at hsz
  have hw1:=Ext.trans' hWb hw'
  refine⟨?_,?_,?_,?_,?_⟩
  ·rw[hw1.cell (p:=⟨w.heap.size,0,none⟩) (by simp; omega),hb1.cell (p:=⟨w.heap.size,0,none⟩) (by simp; omega)]; simp[go_sem]
  ·rw[hw1.cell (p:=⟨w.heap.size,1,none⟩) (by simp; omega),hb1.cell (p:=⟨w.heap.size,1,none⟩) (by simp; omega)]; simp[go_sem]
  ·rw[hw1.cell (p:=⟨w.heap.size+1,0,none⟩) (by simp; omega),hb1.cell (p:=⟨w.heap.size+1,0,none⟩) (by simp)]; simp[go_sem]
  ·rw[hw1.cell (p:=⟨w.heap.size+1,1,none⟩) (by simp; omega),hb1.cell (p:=⟨w.heap.size+1,1,none⟩) (by simp)]; simp[go_sem]
  ·rw[hw'.cell (p:=⟨w1.heap.size,0,none⟩) (by rw[hW]; simp),hW]; simp[go_sem]
 have HK:=anU hk;have HW:=anU (Ext.trans' HB1.out hWb);have HG':=anU (HG.out.below hWb);have hG:0<Nat.gcd (Na.val l) (Na.val m):=aqn _ hm;have hGl:(Na.aj ((Na.val l).gcd (Na.val m))).length≤100000000:=aoE (fQ (Nat.gcd_le_right _ hm)) (by have:=bK m; omega);have hvG:=Na.aJ ((Na.val l).gcd (Na.val m));have hfin:W.heap.size≤W.heap.size:=an7 _;have hres:Hid (∀w',Ext W w'→(∀i,i<4→∃u,w'.cell? ⟨w.heap.size+1+1,i,none⟩=some u∧w'.frozen? ⟨w.heap.size+1+1,i,none⟩=false)∧w.heap.size+1+1<w'.heap.size):=by
  intro w' hw';have hsz:=hb1.size;simp only[aqc]at hsz;have hw1:=Ext.trans' hWb hw';have:=hw1.size;refine⟨fun i hi=>?_,by omega⟩;rw[hw1.cell (p:=⟨w.heap.size+1+1,i,none⟩) (by simp; omega),hb1.cell (p:=⟨w.heap.size+1+1,i,none⟩) (by simp),hw1.frozen (p:=⟨w.heap.size+1+1,i,none⟩) (by simp; omega),hb1.frozen (p:=⟨w.heap.size+1+1,i,none⟩) (by simp)];rcases i with _ | _ | _ | _ | i
  ·exact⟨.z,by simp[go_sem],by simp[go_sem]⟩
  ·exact⟨.sn,by simp[go_sem],by simp[go_sem]⟩
  ·exact⟨.z,by simp[go_sem],by simp[go_sem]⟩
  ·exact⟨.sn,by simp[go_sem],by simp[go_sem]⟩
  omega
 clear hW HB0 hb1 HB1 hk hgs hWb;refine Go.Rel.wp_region 15 (by kernel_rfl) (by kernel_rfl) Ext (fun w'=>Ext W w')
  [Rel.is (.agg #[.bool n1,.slice a1 l.length c1]),Rel.is (.i (sW n1 (Na.val l))),Rel.is (.agg #[.bool n2,.slice a2 m.length c2]),Rel.is (.i (sW n2 (Na.val m))),
   Rel.is (.i (sW n1 (Na.val l)*sW n2 (Na.val m))),Rel.is (.bool (sW n1 (Na.val l)*sW n2 (Na.val m)<0)),Rel.is (.func (.func 327) #[] #[.q w1.heap.size 0]),
   Rel.is (.agg #[.bool n1,.slice a1 l.length c1]),fun v w'=>aF w' v (Na.aj (Na.val l/Nat.gcd (Na.val l) (Na.val m))),
   fun v w'=>aH (w.heap.size+1+1+1) w' v ng (Na.val l/Nat.gcd (Na.val l) (Na.val m)),
   Rel.is (.func (.func 327) #[] #[.q w1.heap.size 0]),Rel.is (.agg #[.bool n2,.slice a2 m.length c2]),
   fun v w'=>aF w' v (Na.aj (Na.val m/Nat.gcd (Na.val l) (Na.val m))),fun v w'=>aH (w.heap.size+1+1+1) w' v false (Na.val m/Nat.gcd (Na.val l) (Na.val m)),
   fun v w'=>aB (w.heap.size+1+1+1) w' v ng (Na.val l/Nat.gcd (Na.val l) (Na.val m)) (Na.val m/Nat.gcd (Na.val l) (Na.val m))]
  ?_ ?_ ?_ ⟨?_,?_,?_,?_,?_,?_,?_,?_,?_,?_,?_,?_,?_,?_,?_,trivial⟩ ?_
 ·exact below_drewN (aor _ _) 1
 ·exact fun _ _ h k=>Ext.trans' h k
 ·exact Rel.yV.mem ⟨Rel.aI _,Rel.aI _,Rel.aI _,Rel.aI _,Rel.aI _,Rel.aI _,Rel.aI _,Rel.aI _,fun _ _ _ h k=>k.below h,fun _ _ _ h k=>k.ext h,Rel.aI _,Rel.aI _,fun _ _ _ h k=>k.below h,fun _ _ _ h k=>k.ext h,
   fun _ _ _ h k=>k.ext h,trivial⟩
 ·intro ρ w' hs ho hC hd;have h2:ρ (.tmp 2) = .q w.heap.size 0:=ho 2 rfl;obtain⟨k1,k2,-⟩:=HK.out w' hC;simp[go_sem,h2,k1,k2];exact⟨Ext.rfl',rfl⟩
 ·intro ρ w' hs ho hC hd;obtain⟨hd,-⟩:=hd;have h2:ρ (.tmp 13)=_:=hd rfl;simp[go_sem,h2,hs.func];refine(qh _ _ _ _ (H1.out.below (Ext.trans' HW.out hC)) hl1).mono ?_;rintro e w'' ⟨rfl,hb⟩;exact⟨_,rfl,hb,rfl⟩
 ·intro ρ w' hs ho hC hd;have h2:ρ (.tmp 3) = .pointer (some ⟨w.heap.size+1,0,none⟩):=ho 3 rfl;obtain⟨-,-,k1,k2,-⟩:=HK.out w' hC;simp[go_sem,h2,k1,k2];exact⟨Ext.rfl',rfl⟩
 ·intro ρ w' hs ho hC hd;obtain⟨hd,-⟩:=hd;have h2:ρ (.tmp 15)=_:=hd rfl;simp[go_sem,h2,hs.func];refine(qh _ _ _ _ (H2.out.below (Ext.trans' HW.out hC)) hl2).mono ?_;rintro e w'' ⟨rfl,hb⟩;exact⟨_,rfl,hb,rfl⟩
 ·intro ρ w' hs ho hC hd;obtain⟨hd1,hd2,-⟩:=hd;have h1:ρ (.tmp 14)=_:=hd1 rfl;have h2:ρ (.tmp 16)=_:=hd2 rfl;simp[go_sem,h1,h2];exact⟨Ext.rfl',by rw[aa6]; rfl⟩
 ·intro ρ w' hs ho hC hd;obtain⟨hd,-⟩:=hd;have h2:ρ (.tmp 17)=_:=hd rfl;simp[go_sem,h2,hs.const];exact⟨Ext.rfl',rfl⟩
 ·intro ρ w' hs ho hC hd;have h2:ρ (.tmp 6) = .func (.func 327) #[] #[.q w1.heap.size 0]:=ho 6 rfl;simp[go_sem,h2];exact⟨Ext.rfl',rfl⟩
 ·intro ρ w' hs ho hC hd;have h2:ρ (.tmp 2) = .q w.heap.size 0:=ho 2 rfl;obtain⟨k1,k2,-⟩:=HK.out w' hC;simp[go_sem,h2,k1,k2];exact⟨Ext.rfl',rfl⟩
 ·intro ρ w' hs ho hC hd;obtain⟨hd1,hd2,-⟩:=hd;have h1:ρ (.tmp 19)=_:=hd1 rfl;have h2:ρ (.tmp 20)=_:=hd2 rfl;simp[go_sem,h1,h2];obtain⟨-,-,-,-,k1⟩:=HK.out w' hC;have hc:=D9 n1 (.slice a1 l.length c1) _ l _ w1.heap.size w' (H1.out.below (Ext.trans' HW.out hC)) hl1 k1 (HG'.out.below hC) (by rw[hvG]; exact hG) hGl;rw[hvG]at hc;refine hc.mono ?_;rintro e w'' ⟨q,rfl,hq,hb⟩;exact⟨_,rfl,hb,hq⟩
 ·intro ρ w' hs ho hC hd;obtain⟨hd1,hd2,-⟩:=hd;have h1:ρ (.tmp 18)=_:=hd1 rfl;have h2:aF w' (ρ (.tmp 21)) _:=hd2 rfl;simp[go_sem,h1,hs.func];have hc:=pz (decide (sW n1 (Na.val l)*sW n2 (Na.val m)<0)) _ _ w' h2 (by have:=fQ (apQ (Na.val l) (Nat.gcd (Na.val l) (Na.val m))); have:=bK l; omega);rw[Na.aJ,HNG.out]at hc;refine hc.mono ?_;rintro e w'' ⟨q,rfl,hq,hb⟩;exact⟨_,rfl,hb,hq.mono (hres.out w' hC).2⟩
 ·intro ρ w' hs ho hC hd;have h2:ρ (.tmp 6) = .func (.func 327) #[] #[.q w1.heap.size 0]:=ho 6 rfl;simp[go_sem,h2];exact⟨Ext.rfl',rfl⟩
 ·intro ρ w' hs ho hC hd;have h2:ρ (.tmp 3) = .pointer (some ⟨w.heap.size+1,0,none⟩):=ho 3 rfl;obtain⟨-,-,k1,k2,-⟩:=HK.out w' hC;simp[go_sem,h2,k1,k2];exact⟨Ext.rfl',rfl⟩
 ·intro ρ w' hs ho hC hd;obtain⟨hd1,hd2,-⟩:=hd;have h1:ρ (.tmp 23)=_:=hd1 rfl;have h2:ρ (.tmp 24)=_:=hd2 rfl;simp[go_sem,h1,h2];obtain⟨-,-,-,-,k1⟩:=HK.out w' hC;have hc:=D9 n2 (.slice a2 m.length c2) _ m _ w1.heap.size w' (H2.out.below (Ext.trans' HW.out hC)) hl2 k1 (HG'.out.below hC) (by rw[hvG]; exact hG) hGl;rw[hvG]at hc;refine hc.mono ?_;rintro e w'' ⟨q,rfl,hq,hb⟩;exact⟨_,rfl,hb,hq⟩
 ·intro ρ w' hs ho hC hd;obtain⟨hd2,-⟩:=hd;have h2:aF w' (ρ (.tmp 25)) _:=hd2 rfl;simp[go_sem,hs.func,hs.const];have hc:=pz false _ _ w' h2 (by have:=fQ (apQ (Na.val m) (Nat.gcd (Na.val l) (Na.val m))); have:=bK m; omega);rw[Na.aJ]at hc;refine hc.mono ?_;rintro e w'' ⟨q,rfl,hq,hb⟩;exact⟨_,rfl,hb,hq.mono (hres.out w' hC).2⟩
 ·intro ρ w' hs ho hC hd;obtain⟨hd1,hd2,-⟩:=hd;have h1:aH (w.heap.size+1+1+1) w' (ρ (.tmp 22)) _ _:=hd1 rfl;have h2:aH (w.heap.size+1+1+1) w' (ρ (.tmp 26)) _ _:=hd2 rfl;obtain⟨b1,d1,b2,d2,e1,e2,hr⟩:=acW h1 h2;simp[go_sem,e1,e2];exact⟨Ext.rfl',hr⟩
 intro w' hC;rintro _ rfl _ rfl _ rfl _ rfl _ rfl _ rfl _ rfl _ rfl v8 h8 v9 h9 _ rfl _ rfl v12 h12 v13 h13 v14 ⟨s,t,rfl,hx,hy,fx,fy⟩;change wpList _ _ _ (List.drop 15 _) _ _;simp only[List.drop_succ_cons,ao7];obtain⟨hr,hrl⟩:=hres.out w' hC;obtain⟨u0,r0,f0⟩:=hr 0 (by omega);obtain⟨u1,r1,f1⟩:=hr 1 (by omega);obtain⟨u2,r2,f2⟩:=hr 2 (by omega);obtain⟨u3,r3,f3⟩:=hr 3 (by omega);obtain⟨b1,d1,rfl⟩:=hx.shape;obtain⟨b2,d2,rfl⟩:=hy.shape;have HX:=anU (Ext.trans' HW.out hC);have F:=anU (And.intro hx (And.intro hy (And.intro fx fy)));clear hr h8 h9 h12 h13 hx hy fx fy;go_wp2_with fail
 refine bodyPost_ret (v := .agg #[.bool ng,.slice b1 (Na.aj (Na.val l/(Na.val l).gcd (Na.val m))).length d1,.z,.slice b2 (Na.aj (Na.val m/(Na.val l).gcd (Na.val m))).length d2]) (by simp[results,Tryz.results293,go_sem,r0,r1,r2,r3]) rfl ⟨_,rfl,⟨_,_,rfl,?_,?_,?_,?_⟩,?_⟩
 ·exact F.out.1.ch (((((Ch.refl _ _).setCell _ _).setCell _ _).setCell _ _).setCell _ _) (fun _=>F.out.2.2.1.off (Nat.lt_succ_self _))
 ·exact F.out.2.1.ch (((((Ch.refl _ _).setCell _ _).setCell _ _).setCell _ _).setCell _ _) (fun _=>F.out.2.2.2.off (Nat.lt_succ_self _))
 ·exact F.out.2.2.1.mono (by omega)
 ·exact F.out.2.2.2.mono (by omega)
 exact(((HX.out.setCell (p:=⟨_,0,none⟩) (by simp only; omega) _).setCell (p:=⟨_,1,none⟩) (by simp only; omega) _).setCell (p:=⟨_,2,none⟩) (by simp only; omega) _).setCell (p:=⟨_,3,none⟩) (by simp only; omega) _
end Go.Proofs.YtapmgonflgahbaaGreatDoor
namespace Go.Proofs.YtapmgonflgahbaaGreatDoor
open Go.RowKit
variable{α:Type}
theorem TB{w w1:World}{A B C:Array Value}{ta tb tc:TypeId}(hb:Ext (((w.alloc (.cells A ta)).alloc (.cells B tb)).alloc (.cells C tc)) w1) :
  (∀i,w1.cell? ⟨w.heap.size,i,none⟩=A[i]?)∧(∀i,w1.cell? ⟨w.heap.size+1,i,none⟩=B[i]?)∧(∀i,w1.cell? ⟨w.heap.size+1+1,i,none⟩=C[i]?)∧(∀i,w1.frozen? ⟨w.heap.size+1+1,i,none⟩=false)∧w.heap.size+1+1<w1.heap.size:=by
 refine⟨fun i=>?_,fun i=>?_,fun i=>?_,fun i=>?_,by have:=hb.size; simp at this; omega⟩
 ·rw[hb.cell (p:=⟨w.heap.size,i,none⟩) (by simp; omega)]; simp[go_sem]
 ·rw[hb.cell (p:=⟨w.heap.size+1,i,none⟩) (by simp)]; simp[go_sem]
 ·rw[hb.cell (p:=⟨w.heap.size+1+1,i,none⟩) (by simp)]; simp[go_sem]
 rw[hb.frozen (p:=⟨w.heap.size+1+1,i,none⟩) (by simp)]; simp[go_sem]
abbrev Vj:Value := .agg #[.z,.sn,.z,.sn]
theorem Qc(n1 n2:Bool)(s1 s2:Value)(l m:List UInt32)(w:World)(h1:aF w s1 l)(h2:aF w s2 m)(hm:Na.val m=0)(hl2:m.length≤100000000) :
  Calls Tryz.prog 253 #[.agg #[.bool n1,s1],.agg #[.bool n2,s2]] w fun e w'=>e = .returned (.tuple #[Vj,.i 9])∧Ext w w':=by
 obtain⟨a1,c1,rfl⟩:=h1.shape;obtain⟨a2,c2,rfl⟩:=h2.shape;have HB0:=anU (((aG w (.cells #[.bool n1,.slice a1 l.length c1] 29)).alloc (by simp) (.cells #[.bool n2,.slice a2 m.length c2] 29)).alloc (by simp; omega) (.cells #[.z,.sn,.z,.sn] 31));have hc:=qh n2 _ _ _ (h2.below HB0.out) hl2;rw[hm]at hc;have HC:=anU hc;clear hc h1 h2 hm;go_enter Tryz.func253,Tryz.ntmps253
 go_wp2_with fail
 refine HC.out.mono ?_;rintro e w1 ⟨rfl,hb⟩;obtain⟨-,-,r0,f0,hz⟩:=TB hb;have hs0:((sW n2 0)==0)=true:=by unfold sW; rfl
 have HX:=anU (Ext.trans' HB0.out hb);clear hb HC HB0;go_wp2_with fail
 refine bodyPost_ret (v := .tuple #[Vj,.i 9]) (by simp[results,Tryz.results253,go_sem,r0]) rfl ⟨rfl,?_⟩;exact(((HX.out.setCell (p:=⟨_,0,none⟩) (by simp only; omega) _).setCell (p:=⟨_,1,none⟩) (by simp only; omega) _).setCell (p:=⟨_,2,none⟩) (by simp only; omega) _).setCell (p:=⟨_,3,none⟩) (by simp only; omega) _
theorem TD(n1 n2:Bool)(s1 s2:Value)(l m:List UInt32)(w:World)(h1:aF w s1 l)(h2:aF w s2 m)(hm:0<Na.val m)(hl1:l.length≤100000000)(hl2:m.length≤100000000) :
  Calls Tryz.prog 253 #[.agg #[.bool n1,s1],.agg #[.bool n2,s2]] w fun e w'=>∃x,e = .returned (.tuple #[x,.i 0]) ∧
   aB w.heap.size w' x (nP n1 n2 (Na.val l) (Na.val m)) (Na.val l/Nat.gcd (Na.val l) (Na.val m)) (Na.val m/Nat.gcd (Na.val l) (Na.val m))∧Ext w w':=by
 obtain⟨a1,c1,rfl⟩:=h1.shape;obtain⟨a2,c2,rfl⟩:=h2.shape;have HB0:=anU (((aG w (.cells #[.bool n1,.slice a1 l.length c1] 29)).alloc (by simp) (.cells #[.bool n2,.slice a2 m.length c2] 29)).alloc (by simp; omega) (.cells #[.z,.sn,.z,.sn] 31));have HC:=anU (qh n2 _ _ _ (h2.below HB0.out) hl2);have hs0:((sW n2 (Na.val m))==0)=false:=by
  rw[aog]; unfold sW; rw[an0 (by omega)]; cases n2<;>simp
 have H:=anU (And.intro h1 h2);have HM:=anU hm;clear h1 h2 hm;go_enter Tryz.func253,Tryz.ntmps253
 go_wp2_with fail
 refine HC.out.mono ?_;rintro e w1 ⟨rfl,hb⟩;obtain⟨k1,k2,-,-,hz⟩:=TB hb;have hX:=Ext.trans' HB0.out hb;have HX:=anU hX;have HY:=anU hb;have HL:=anU (FQ n1 n2 _ _ _ _ w1 (H.out.1.below hX) (H.out.2.below hX) HM.out hl1 hl2);clear hb HC hX HB0;go_wp2_with fail
 refine HL.out.mono ?_;rintro e w2 ⟨x,rfl,⟨s,t,rfl,hs,ht,fs,ft⟩,hb2⟩;obtain⟨b1,d1,rfl⟩:=hs.shape;obtain⟨b2,d2,rfl⟩:=ht.shape;obtain⟨-,-,r0,f0,hz2⟩:=TB (Ext.trans' HY.out hb2);have HX2:=anU (Ext.trans' HX.out hb2);have F:=anU (And.intro hs (And.intro ht (And.intro fs ft)));clear hs ht fs ft hb2 HL k1 k2;go_wp2_with fail
 refine bodyPost_ret (v := .tuple #[.agg #[.bool (nP n1 n2 (Na.val l) (Na.val m)),.slice b1 (Na.aj (Na.val l/(Na.val l).gcd (Na.val m))).length d1,.z,.slice b2 (Na.aj (Na.val m/(Na.val l).gcd (Na.val m))).length d2],.i 0]) (by simp[results,Tryz.results253,go_sem,r0]) rfl ⟨_,rfl,⟨_,_,rfl,?_,?_,?_,?_⟩,?_⟩
 ·exact F.out.1.ch (((((Ch.refl _ _).setCell _ _).setCell _ _).setCell _ _).setCell _ _) (fun _=>F.out.2.2.1.off hz)
 ·exact F.out.2.1.ch (((((Ch.refl _ _).setCell _ _).setCell _ _).setCell _ _).setCell _ _) (fun _=>F.out.2.2.2.off hz)
 ·exact F.out.2.2.1.mono (by omega)
 ·exact F.out.2.2.2.mono (by omega)
 exact(((HX2.out.setCell (p:=⟨_,0,none⟩) (by simp only; omega) _).setCell (p:=⟨_,1,none⟩) (by simp only; omega) _).setCell (p:=⟨_,2,none⟩) (by simp only; omega) _).setCell (p:=⟨_,3,none⟩) (by simp only; omega) _
theorem Me(x:Int)(h : -9223372036854775808≤x)(hx:x<0):IntKind.u64.wrap (-IntKind.u64.wrap x)=(x.natAbs:Int):=by
 rw[ao8,ao8]; omega
theorem H8(x:Int)(w:World)(h : -9223372036854775808≤x)(hx:x<0) :
  Calls Tryz.prog 283 #[.i x] w fun e w'=>∃v,e = .returned v∧aH w.heap.size w' v (decide (x<0)) x.natAbs∧Ext w w':=by
 have hb0:=aG w (.cells #[.z,.sn] 29);have hN:x.natAbs<18446744073709551616:=by omega
 have eN:(UInt64.ofNat x.natAbs).toNat=x.natAbs:=by simp; omega
 have hF:=su (UInt64.ofNat x.natAbs) (w.alloc (.cells #[.z,.sn] 29));rw[abz,eN]at hF;have hdl:(Na.aj x.natAbs).length≤2:=Na.dD (by show _<4294967296^2; omega);have HF:=anU hF;have HB:=anU hb0;clear hF hb0 eN;go_enter Tryz.func283,Tryz.ntmps283
 have hw:=Me x h hx;go_wp2_with fail
 refine HF.out.mono ?_;rintro e w1 ⟨v',rfl,ho,hb1⟩;have hrow:=aU ho;have HI:=anU (pz true v' _ w1 hrow (by omega));have HB1:=anU hb1;clear hrow ho hw HF hb1;go_wp2_with fail
 refine HI.out.mono ?_;rintro e w2 ⟨y,rfl,⟨s,rfl,hs,fs⟩,hb2⟩;obtain⟨b1,d1,rfl⟩:=hs.shape;obtain⟨r0,f0,hz⟩:=kH (Ext.trans' HB1.out hb2);obtain⟨-,-,hz1⟩:=kH HB1.out;have HX:=anU (Ext.trans' HB.out (Ext.trans' HB1.out hb2));have F:=anU (And.intro hs fs);have e1:Hid ((true&&decide (0<Na.val (Na.aj x.natAbs)))=decide (x<0)):=by
  show _=_;rw[Na.aJ,apz,decide_eq_decide]; omega
 clear hs fs hb2 HI;go_wp2_with fail
 refine bodyPost_ret (v := .agg #[.bool (true&&decide (0<Na.val (Na.aj x.natAbs))),.slice b1 (Na.aj (Na.val (Na.aj x.natAbs))).length d1]) (by simp[results,Tryz.results283,go_sem,r0]) rfl ⟨_,rfl,⟨_,by rw[e1.out],?_,?_⟩,?_⟩
 ·have:=F.out.1.ch (((Ch.refl w.heap.size _).setCell 0 (.bool (true&&decide (0<Na.val (Na.aj x.natAbs))))).setCell 1 (.slice b1 (Na.aj (Na.val (Na.aj x.natAbs))).length d1)) (fun _=>F.out.2.off hz1);rw[Na.aJ]at this ⊢;exact this
 ·exact F.out.2.mono (by omega)
 exact(HX.out.setCell (p:=⟨_,0,none⟩) (by simp only; omega) _).setCell (p:=⟨_,1,none⟩) (by simp only; omega) _
theorem H9(x:Nat)(w:World)(h:(x:Int)≤9223372036854775807) :
  Calls Tryz.prog 283 #[.i x] w fun e w'=>∃v,e = .returned v∧aH w.heap.size w' v false x∧Ext w w':=by
 have hb0:=aG w (.cells #[.z,.sn] 29);have hN:x<18446744073709551616:=by omega
 have eN:(UInt64.ofNat x).toNat=x:=by simp; omega
 have hF:=su (UInt64.ofNat x) (w.alloc (.cells #[.z,.sn] 29));rw[abz,eN]at hF;have hdl:(Na.aj x).length≤2:=Na.dD (by show _<4294967296^2; omega);have HF:=anU hF;have HB:=anU hb0;clear hF hb0 eN;go_enter Tryz.func283,Tryz.ntmps283
 go_wp2_with fail
 refine HF.out.mono ?_;rintro e w1 ⟨v',rfl,ho,hb1⟩;have hrow:=aU ho;have HI:=anU (pz false v' _ w1 hrow (by omega));have HB1:=anU hb1;clear hrow ho HF hb1;go_wp2_with fail
 refine HI.out.mono ?_;rintro e w2 ⟨y,rfl,⟨s,rfl,hs,fs⟩,hb2⟩;obtain⟨b1,d1,rfl⟩:=hs.shape;obtain⟨r0,f0,hz⟩:=kH (Ext.trans' HB1.out hb2);obtain⟨-,-,hz1⟩:=kH HB1.out;have HX:=anU (Ext.trans' HB.out (Ext.trans' HB1.out hb2));have F:=anU (And.intro hs fs);have e1:Hid ((false&&decide (0<Na.val (Na.aj x)))=false):=apN _;clear hs fs hb2 HI;go_wp2_with fail
 refine bodyPost_ret (v := .agg #[.bool (false&&decide (0<Na.val (Na.aj x))),.slice b1 (Na.aj (Na.val (Na.aj x))).length d1]) (by simp[results,Tryz.results283,go_sem,r0]) rfl ⟨_,rfl,⟨_,by rw[e1.out],?_,?_⟩,?_⟩
 ·have:=F.out.1.ch (((Ch.refl w.heap.size _).setCell 0 (.bool (false&&decide (0<Na.val (Na.aj x))))).setCell 1 (.slice b1 (Na.aj (Na.val (Na.aj x))).length d1)) (fun _=>F.out.2.off hz1);rw[Na.aJ]at this ⊢;exact this
 ·exact F.out.2.mono (by omega)
 exact(HX.out.setCell (p:=⟨_,0,none⟩) (by simp only; omega) _).setCell (p:=⟨_,1,none⟩) (by simp only; omega) _
theorem xQ(x:Int)(w:World)(h : -9223372036854775808≤x)(h2:x≤9223372036854775807) :
  Calls Tryz.prog 283 #[.i x] w fun e w'=>∃v,e = .returned v∧aH w.heap.size w' v (decide (x<0)) x.natAbs∧Ext w w':=by
 by_cases hx:x<0
 ·exact H8 x w h hx
 obtain⟨n,rfl⟩:∃n:Nat,x=n:=⟨x.toNat,by omega⟩;have e:decide ((n:Int)<0)=false:=apa (by omega);rw[e,apu];exact H9 n w h2
end Go.Proofs.YtapmgonflgahbaaGreatDoor
namespace Go.Proofs.YtapmgonflgahbaaGreatDoor
open Go.RowKit
variable{α:Type}
theorem xq(x:Int)(w:World)(h : -9223372036854775808≤x)(h2:x≤9223372036854775807) :
  Calls Tryz.prog 242 #[.i x] w fun e w'=>∃v,e = .returned v∧aB w.heap.size w' v (decide (x<0)) x.natAbs 1∧Ext w w':=by
 have hb0:=aG w (.cells #[.z,.sn,.z,.sn] 31);have H1:=anU (xQ x (w.alloc (.cells #[.z,.sn,.z,.sn] 31)) h h2);have HB0:=anU hb0;clear hb0;go_enter Tryz.func242,Tryz.ntmps242
 go_wp2_with fail
 refine H1.out.mono ?_;rintro e w1 ⟨y,rfl,⟨s,rfl,hs,fs⟩,hb1⟩;have h2:=xQ 1 w1 (by decide) (by decide);rw[show decide ((1:Int)<0)=false from rfl,show(1:Int).natAbs=1 from rfl]at h2;have H2:=anU h2;have HS:=anU (And.intro hs fs);have HB1:=anU hb1;clear h2 H1 hs fs hb1;go_wp2_with fail
 refine H2.out.mono ?_;rintro e w2 ⟨y,rfl,⟨t,rfl,ht,ft⟩,hb2⟩;obtain⟨b1,d1,rfl⟩:=HS.out.1.shape;obtain⟨b2,d2,rfl⟩:=ht.shape;obtain⟨r0,f0,hz⟩:=kH (Ext.trans' HB1.out hb2);obtain⟨-,-,hz1⟩:=kH HB1.out;have F:=anU (And.intro (HS.out.1.below hb2) (And.intro ht (And.intro HS.out.2 ft)));have HX:=anU (Ext.trans' HB0.out (Ext.trans' HB1.out hb2));clear ht ft hb2 H2;go_wp2_with fail
 refine bodyPost_ret (v := .agg #[.bool (x<0),.slice b1 (Na.aj x.natAbs).length d1,.z,.slice b2 (Na.aj 1).length d2]) (by simp[results,Tryz.results242,go_sem,r0]) rfl ⟨_,rfl,⟨_,_,rfl,?_,?_,?_,?_⟩,?_⟩
 ·exact F.out.1.ch (((((Ch.refl w.heap.size _).setCell _ _).setCell _ _).setCell _ _).setCell _ _) (fun _=>F.out.2.2.1.off (by simp))
 ·exact F.out.2.1.ch (((((Ch.refl w.heap.size _).setCell _ _).setCell _ _).setCell _ _).setCell _ _) (fun _=>F.out.2.2.2.off hz1)
 ·exact F.out.2.2.1.mono (by simp)
 ·exact F.out.2.2.2.mono (by omega)
 exact(((HX.out.setCell (p:=⟨_,0,none⟩) (by simp only; omega) _).setCell (p:=⟨_,1,none⟩) (by simp only; omega) _).setCell (p:=⟨_,2,none⟩) (by simp only; omega) _).setCell (p:=⟨_,3,none⟩) (by simp only; omega) _
theorem aB.shape{base:Nat}{w:World}{v:Value}{neg:Bool}{a b:Nat}(h:aB base w v neg a b):∃b1 d1 b2 d2,v = .agg #[.bool neg,.slice b1 (Na.aj a).length d1,.z,.slice b2 (Na.aj b).length d2]:=by
 obtain⟨s,t,rfl,hs,ht,_⟩:=h;obtain⟨b1,d1,rfl⟩:=hs.shape;obtain⟨b2,d2,rfl⟩:=ht.shape;exact⟨b1,d1,b2,d2,rfl⟩
theorem aB.ch{base:Nat}{w w':World}{v:Value}{neg:Bool}{a b c:Nat}(h:aB base w v neg a b)(hc:Ch c w w')(hlt:c<base):aB base w' v neg a b:=by
 obtain⟨s,t,rfl,hs,ht,fs,ft⟩:=h;exact⟨s,t,rfl,hs.ch hc (fun _=>fs.off hlt),ht.ch hc (fun _=>ft.off hlt),fs,ft⟩
theorem aB.KT{base:Nat}{w:World}{v:Value}{neg:Bool}{a b c:Nat}(h:aB base w v neg a b)(hlt:c<base)(x0 x1 x2 x3:Value) :
  aB base ((((w.setCell ⟨c,0,none⟩ x0).setCell ⟨c,1,none⟩ x1).setCell ⟨c,2,none⟩ x2).setCell ⟨c,3,none⟩ x3) v neg a b:=
 h.ch (((((Ch.refl c w).setCell _ _).setCell _ _).setCell _ _).setCell _ _) hlt
theorem sJ{W w:World}(h:Ext W w){c:Nat}(hc:W.heap.size≤c)(x0 x1 x2 x3:Value) :
  Ext W ((((w.setCell ⟨c,0,none⟩ x0).setCell ⟨c,1,none⟩ x1).setCell ⟨c,2,none⟩ x2).setCell ⟨c,3,none⟩ x3):=
 (((Below.setCell h (p:=⟨c,0,none⟩) hc _).setCell (p:=⟨c,1,none⟩) hc _).setCell (p:=⟨c,2,none⟩) hc _).setCell (p:=⟨c,3,none⟩) hc _
def nrm(n1 n2:Bool)(a b:Nat):Bool×Nat×Nat:=if b=0 then (false,0,1)else (nP n1 n2 a b,a/Nat.gcd a b,b/Nat.gcd a b)
abbrev bP (base:Nat)(w:World)(v:Value)(r:Bool×Nat×Nat):Prop:=aB base w v r.1 r.2.1 r.2.2
theorem uJ(n1 n2:Bool)(s1 s2:Value)(l m:List UInt32)(w:World)(h1:aF w s1 l)(h2:aF w s2 m)(hl1:l.length≤100000000)(hl2:m.length≤100000000) :
  Calls Tryz.prog 198 #[.agg #[.bool n1,s1,.bool n2,s2]] w fun e w'=>∃x,e = .returned x∧bP w.heap.size w' x (nrm n1 n2 (Na.val l) (Na.val m))∧Ext w w':=by
 obtain⟨a1,c1,rfl⟩:=h1.shape;obtain⟨a2,c2,rfl⟩:=h2.shape;have HB0:=anU ((aG w (.cells #[.bool n1,.slice a1 l.length c1,.bool n2,.slice a2 m.length c2] 31)).alloc (by simp) (.cells #[.z,.sn,.z,.sn] 31));have g1:=h1.below HB0.out;have g2:=h2.below HB0.out;clear h1 h2;rcases aoJ (Na.val m)with hm | hm
 ·have HC:=anU (Qc n1 n2 _ _ _ _ _ g1 g2 hm hl2);have hN:nrm n1 n2 (Na.val l) (Na.val m)=(false,0,1):=by unfold nrm; rw[an6 hm]
  rw[hN];clear g1 g2 hm hN;go_enter Tryz.func198,Tryz.ntmps198
  go_wp2_with fail
  refine HC.out.mono ?_;rintro e w1 ⟨rfl,hb⟩;have hsz:=hb.size;simp only[aqc]at hsz;have hcells:(∀i,w1.cell? ⟨w.heap.size+1,i,none⟩ = #[Value.z,.sn,.z,.sn][i]?)∧(∀i,w1.frozen? ⟨w.heap.size+1,i,none⟩=false):=by
   refine⟨fun i=>?_,fun i=>?_⟩
   ·rw[hb.cell (p:=⟨w.heap.size+1,i,none⟩) (by simp)]; simp[go_sem]
   rw[hb.frozen (p:=⟨w.heap.size+1,i,none⟩) (by simp)]; simp[go_sem]
  obtain⟨r0,f0⟩:=hcells;have HX:=anU (Ext.trans' HB0.out hb);have HY:=anU (xq 0 (w1.alloc (.cells #[.z,.sn,.z,.sn] 31)) (by decide) (by decide));clear hb HC;go_wp2_with fail
  refine HY.out.mono ?_;rintro e w2 ⟨x,rfl,hx,hb2⟩;have hb3:=Ext.trans' (aG _ _) hb2;obtain⟨b1,d1,b2,d2,rfl⟩:=hx.shape;have r1:∀i,w2.cell? ⟨w.heap.size+1,i,none⟩ = #[Value.z,.sn,.z,.sn][i]?:=fun i=>by rw[hb3.cell (p:=⟨w.heap.size+1,i,none⟩) (by simp only; omega)]; exact r0 i
  have f1:∀i,w2.frozen? ⟨w.heap.size+1,i,none⟩=false:=fun i=>by rw[hb3.frozen (p:=⟨w.heap.size+1,i,none⟩) (by simp only; omega)]; exact f0 i
  have hz:w.heap.size+1<w2.heap.size:=by have:=hb3.size; omega
  have hz0:w.heap.size+1<(w1.alloc (.cells #[.z,.sn,.z,.sn] 31)).heap.size:=by simp; omega
  have F:=anU hx;have HX2:=anU (Ext.trans' HX.out hb3);clear r0 f0 hx hb2 hb3 HY;go_wp2_with fail
  refine bodyPost_ret (v := .agg #[.bool ((0:Int)<0),.slice b1 (Na.aj (0:Int).natAbs).length d1,.z,.slice b2 (Na.aj 1).length d2]) (by simp[results,Tryz.results198,go_sem,r1]) rfl ⟨_,rfl,?_,sJ HX2.out (by omega) _ _ _ _⟩;exact(F.out.KT hz0 _ _ _ _).mono (by omega)
 have HC:=anU (TD n1 n2 _ _ _ _ _ g1 g2 hm hl1 hl2);have hN:nrm n1 n2 (Na.val l) (Na.val m)=(nP n1 n2 (Na.val l) (Na.val m),Na.val l/Nat.gcd (Na.val l) (Na.val m),Na.val m/Nat.gcd (Na.val l) (Na.val m)):=by unfold nrm; rw[an0 (by omega)]
 rw[hN];clear g1 g2 hm hN;go_enter Tryz.func198,Tryz.ntmps198
 go_wp2_with fail
 refine HC.out.mono ?_;rintro e w1 ⟨x,rfl,hx,hb⟩;have hsz:=hb.size;simp only[aqc]at hsz;obtain⟨b1,d1,b2,d2,rfl⟩:=hx.shape;have r0:∀i,w1.cell? ⟨w.heap.size+1,i,none⟩ = #[Value.z,.sn,.z,.sn][i]?:=fun i=>by rw[hb.cell (p:=⟨w.heap.size+1,i,none⟩) (by simp)]; simp[go_sem]
 have f0:∀i,w1.frozen? ⟨w.heap.size+1,i,none⟩=false:=fun i=>by rw[hb.frozen (p:=⟨w.heap.size+1,i,none⟩) (by simp)]; simp[go_sem]
 have F:=anU hx;have HX:=anU (Ext.trans' HB0.out hb);have hz:w.heap.size+1<w1.heap.size:=by omega
 clear hb HC hx;go_wp2_with fail
 refine bodyPost_ret (v := .agg #[.bool (nP n1 n2 (Na.val l) (Na.val m)),.slice b1 (Na.aj (Na.val l/Nat.gcd (Na.val l) (Na.val m))).length d1,.z,.slice b2 (Na.aj (Na.val m/Nat.gcd (Na.val l) (Na.val m))).length d2]) (by simp[results,Tryz.results198,go_sem,r0,hz]) rfl ⟨_,rfl,?_,?_⟩
 ·exact((F.out.KT (by simp) _ _ _ _).ext (aG _ _)).mono (by simp; omega)
 exact Ext.trans' (sJ HX.out (by omega) _ _ _ _) (aG _ _)
end Go.Proofs.YtapmgonflgahbaaGreatDoor
