/- Walks of the references on integers and rational -/
import Derived.Test.YtfmkkemfhjkajaaGreatDoorPk24
import Derived.RegionTactic
import Derived.ChangeAlike
set_option maxHeartbeats 3200000
set_option maxRecDepth 100000
namespace Go.Proofs.YtfmkkemfhjkajaaGreatDoor
open Go.RowKit
variable{α:Type}
set_option linter.unusedVariables false
theorem uK{w w1:World}{x y:Value}{t:TypeId}(hb:Ext (w.alloc (.cells #[x,y] t)) w1) :
  w1.cell? ⟨w.heap.size,0,none⟩=some x∧w1.cell? ⟨w.heap.size,1,none⟩=some y∧(∀i,w1.frozen? ⟨w.heap.size,i,none⟩=false)∧w.heap.size<w1.heap.size:=by
 obtain⟨h1,h2,h3⟩:=kL hb
 exact⟨by rw[h1]; rfl,by rw[h1]; rfl,h2,h3⟩
theorem dO.Uw{f:α→Value}{w:World}{v:Value}{l:List α}{c1 c2:Nat}(h:dO f w v l)(o1:Off c1 v)(o2:Off c2 v)(x0 x1 y0 y1:Value) :
  dO f ((((w.setCell ⟨c1,0,none⟩ x0).setCell ⟨c1,1,none⟩ x1).setCell ⟨c2,0,none⟩ y0).setCell ⟨c2,1,none⟩ y1).drew v l:=
 ((h.ch (((Ch.refl c1 w).setCell 0 x0).setCell 1 x1) (fun _=>o1)).ch (((Ch.refl c2 _).setCell 0 y0).setCell 1 y1) (fun _=>o2)).below ((Below.refl _ _).drew)
theorem Jr{W w:World}(h:Ext W w){c1 c2:Nat}(h1:W.heap.size≤c1)(h2:W.heap.size≤c2)(x0 x1 y0 y1:Value) :
  Ext W ((((w.setCell ⟨c1,0,none⟩ x0).setCell ⟨c1,1,none⟩ x1).setCell ⟨c2,0,none⟩ y0).setCell ⟨c2,1,none⟩ y1).drew:=
 ((((Below.setCell h (p:=⟨c1,0,none⟩) h1 _).setCell (p:=⟨c1,1,none⟩) h1 _).setCell (p:=⟨c2,0,none⟩) h2 _).setCell (p:=⟨c2,1,none⟩) h2 _).drew
theorem lF(n1:Bool)(s t:Value)(l m:List UInt32)(w:World)(h1:aG w s l)(h2:aG w t m)(hm:0<Na.val m)(hdvd:Na.val l%Na.val m=0)(hl1:l.length≤5000000)(hl2:m.length≤5000000) :
  Calls Tryz.prog 220 #[.agg #[.bool n1,s],.agg #[.bool false,t]] w fun e w'=>∃x y,e = .returned (.tuple #[x,y,.int .i64 0]) ∧
   aQ w.heap.size w' x (n1&&decide (0<Na.val l/Na.val m)) (Na.val l/Na.val m)∧aQ w.heap.size w' y false 0∧Ext w w':=by
 obtain⟨a1,c1,rfl⟩:=h1.shape
 obtain⟨a2,c2,rfl⟩:=h2.shape
 have hb1:=aH w (.cells #[.bool n1,.slice a1 l.length c1] 29)
 have hb2:=hb1.alloc (by simp) (.cells #[.bool false,.slice a2 m.length c2] 29)
 have hb3:=hb2.alloc (by simp; omega) (.cells #[.bool false,.slice none 0 0] 29)
 have hb4:=hb3.alloc (by simp; omega) (.cells #[.bool false,.slice none 0 0] 29)
 obtain⟨W,hW⟩:∃W,W=(((w.alloc (.cells #[.bool n1,.slice a1 l.length c1] 29)).alloc (.cells #[.bool false,.slice a2 m.length c2] 29)).alloc (.cells #[.bool false,.slice none 0 0] 29)).alloc (.cells #[.bool false,.slice none 0 0] 29):=⟨_,rfl⟩
 have hK:∀w1,Ext W w1→w1.cell? ⟨w.heap.size,0,none⟩=some (.bool n1)∧w1.cell? ⟨w.heap.size,1,none⟩=some (.slice a1 l.length c1) ∧
   w1.cell? ⟨w.heap.size+1,0,none⟩=some (.bool false)∧w1.cell? ⟨w.heap.size+1,1,none⟩=some (.slice a2 m.length c2) ∧
   (∃u,w1.cell? ⟨w.heap.size+1+1,0,none⟩=some u)∧(∃u,w1.cell? ⟨w.heap.size+1+1,1,none⟩=some u)∧(∃u,w1.cell? ⟨w.heap.size+1+1+1,0,none⟩=some u)∧(∃u,w1.cell? ⟨w.heap.size+1+1+1,1,none⟩=some u) ∧
   (∀i,w1.frozen? ⟨w.heap.size+1+1,i,none⟩=false)∧(∀i,w1.frozen? ⟨w.heap.size+1+1+1,i,none⟩=false)∧w.heap.size+1+1+1<w1.heap.size:=by
  intro w1 hb
  have hz:=hb.size
  subst hW
  simp only[World.size_alloc]at hz
  have hc:∀b o,b<w.heap.size+4→w1.cell? ⟨b,o,none⟩=_:=fun b o h=>hb.cell (p:=⟨b,o,none⟩) (by simp; omega)
  have hf:∀b o,b<w.heap.size+4→w1.frozen? ⟨b,o,none⟩=_:=fun b o h=>hb.frozen (p:=⟨b,o,none⟩) (by simp; omega)
  refine⟨?_,?_,?_,?_,?_,?_,?_,?_,fun i=>?_,fun i=>?_,by omega⟩
  ·rw[hc _ _ (by omega)]; simp[go_sem]
  ·rw[hc _ _ (by omega)]; simp[go_sem]
  ·rw[hc _ _ (by omega)]; simp[go_sem]
  ·rw[hc _ _ (by omega)]; simp[go_sem]
  ·rw[hc _ _ (by omega)]; simp[go_sem]
  ·rw[hc _ _ (by omega)]; simp[go_sem]
  ·rw[hc _ _ (by omega)]; simp[go_sem]
  ·rw[hc _ _ (by omega)]; simp[go_sem]
  ·rw[hf _ _ (by omega)]; simp[go_sem]
  ·rw[hf _ _ (by omega)]; simp[go_sem]
 rw[←hW]at hb4
 have HS:=pX false (.slice a2 m.length c2) m W (h2.below hb4) (by omega)
 have hsg:qP false (Na.val m)=1:=by unfold qP; rw[if_neg (by omega)]; rfl
 rw[hsg]at HS
 have HS':=Lib.hid HS
 have HK:=Lib.hid hK
 have H1:=Lib.hid h1
 have H2:=Lib.hid h2
 have HB4:=Lib.hid hb4
 have HM:=Lib.hid hm
 have HDV:=Lib.hid hdvd
 have HW:=Lib.hid hW
 clear hb1 hb2 hb3 hb4 HS hK h1 h2 hm hdvd hsg hW
 go_enter Tryz.func220,Tryz.ntmps220
 go_wp2_with fail
 rw[←HW.out]
 refine HS'.out.mono ?_
 rintro e w1 ⟨rfl,hb1⟩
 obtain⟨k1,k2,k3,k4,-⟩:=HK.out w1 hb1
 have HB1:=Lib.hid hb1
 have HD:=yL _ _ l m w1 (H1.out.below (Ext.trans' HB4.out hb1)) (H2.out.below (Ext.trans' HB4.out hb1)) HM.out hl1 hl2
 rw[HDV.out]at HD
 have HD':=Lib.hid HD
 clear hb1 HS' HD
 go_wp2_with fail
 refine HD'.out.mono ?_
 rintro e w2 ⟨q,r,rfl,hq,hr,hb2⟩
 have hlq:=fF (Nat.div_le_self (Na.val l) (Na.val m))
 have hll:=bD l
 have HB2:=Lib.hid (Ext.trans' HB1.out hb2)
 obtain⟨k1,k2,k3,k4,-⟩:=HK.out w2 HB2.out
 have HR:=Lib.hid (bn hr)
 have HN1:=kT n1 q _ w2 (bn hq) (by omega)
 rw[Na.aI]at HN1
 have afm:=Lib.hid HN1
 have hsz2:w.heap.size+1+1+1<w2.heap.size:=(HK.out w2 HB2.out).2.2.2.2.2.2.2.2.2.2
 have HN2:=Lib.hid (fun w' (h:Ext w2 w')=>kT n1 r _ w' (HR.out.below h) (by rw[Na.kX]; simp))
 clear hq hr hb2 HD' HN1
 go_wp2_with fail
 refine afm.out.mono ?_
 rintro e w3 ⟨x,rfl,⟨s1,rfl,hs1,fs1⟩,hb3⟩
 obtain⟨b1,d1,rfl⟩:=hs1.shape
 have HB3:=Lib.hid (Ext.trans' HB2.out hb3)
 obtain⟨k1,k2,k3,k4,-,-,-,-,-,-,kz⟩:=HK.out w3 HB3.out
 have HX:=Lib.hid (And.intro hs1 fs1)
 have kz1:w.heap.size<w3.heap.size:=by omega
 have kz2:w.heap.size+1<w3.heap.size:=by omega
 generalize hnb:(n1&&decide (0<Na.val l/Na.val m))=nb at *
 have HNB:=Lib.hid hnb
 have abt:=Lib.hid (HN2.out (w3.alloc (.cells #[.bool nb,.slice b1 (Na.au (Na.val l/Na.val m)).length d1] 29)) (Ext.trans' hb3 (aH _ _)))
 rw[Na.kX]at abt
 simp only[Na.val,Nat.lt_irrefl,decide_false,Bool.and_false]at abt
 have HBA:=Lib.hid (Ext.trans' HB3.out (aH w3 (.cells #[.bool nb,.slice b1 (Na.au (Na.val l/Na.val m)).length d1] 29)))
 clear hs1 fs1 hb3 afm HN2 hnb
 go_wp2_with fail
 refine abt.out.mono ?_
 rintro e w5 ⟨y,rfl,⟨s2,rfl,hs2,fs2⟩,hb5⟩
 obtain⟨b2,d2,rfl⟩:=hs2.shape
 have HB5:=Lib.hid (Ext.trans' HBA.out hb5)
 have HY:=Lib.hid (And.intro hs2 fs2)
 have HX5:=Lib.hid hb5
 obtain⟨k1,k2,k3,k4,-,-,-,-,-,-,kz5⟩:=HK.out w5 HB5.out
 obtain⟨q1,q2,-,qz⟩:=uK hb5
 have aiz:w.heap.size<w5.heap.size:=by omega
 have aiA:w.heap.size+1<w5.heap.size:=by omega
 clear hs2 fs2 hb5 abt HBA
 go_wp2_with fail
 ·have hS:=pX false (.slice b2 (Na.au 0).length d2) (Na.au 0) _ (HY.out.1.below (aH w5 (.cells #[.bool false,.slice b2 (Na.au 0).length d2] 29))) (by rw[Na.kX]; simp)
  rw[Na.aI,show qP false 0=0 from rfl]at hS
  have HS7:=Lib.hid hS
  clear hS
  refine HS7.out.mono ?_
  rintro e w7 ⟨rfl,hb7⟩
  have ZI:=Lib.hid (Ext.trans' HB5.out (Ext.trans' (aH w5 (.cells #[.bool false,.slice b2 (Na.au 0).length d2] 29)) hb7))
  obtain⟨q1,q2,-,qz⟩:=uK (Ext.trans' HX5.out (Ext.trans' (aH w5 (.cells #[.bool false,.slice b2 (Na.au 0).length d2] 29)) hb7))
  obtain⟨p1,p2,-,pz⟩:=uK hb7
  obtain⟨-,-,-,-,⟨u1,e1⟩,⟨u2,e2⟩,⟨u3,e3⟩,⟨u4,e4⟩,f1,f2,kz7⟩:=HK.out w7 ZI.out
  have HY7:=Lib.hid (HY.out.1.below (Ext.trans' (aH w5 (.cells #[.bool false,.slice b2 (Na.au 0).length d2] 29)) hb7))
  have HX7:=Lib.hid (HX.out.1.below (Ext.trans' (aH w3 (.cells #[.bool nb,.slice b1 (Na.au (Na.val l/Na.val m)).length d1] 29)) (Ext.trans' HX5.out (Ext.trans' (aH w5 (.cells #[.bool false,.slice b2 (Na.au 0).length d2] 29)) hb7))))
  clear hb7
  go_wp2_with fail
  go_region
  go_wp2_with fail
  refine bodyPost_ret (v := .tuple #[.agg #[.bool nb,.slice b1 (Na.au (Na.val l/Na.val m)).length d1],.agg #[.bool false,.slice b2 (Na.au 0).length d2],.int .i64 0]) (by simp[results,Tryz.results220,go_sem,e1,e2,e3,e4]) rfl ⟨_,_,rfl,⟨_,by rw[HNB.out],?_,?_⟩,⟨_,rfl,?_,?_⟩,?_⟩
  ·exact HX7.out.Uw (HX.out.2.off (by omega)) (HX.out.2.off (by omega)) _ _ _ _
  ·exact HX.out.2.mono (by omega)
  ·exact HY7.out.Uw (HY.out.2.off (by simp; omega)) (HY.out.2.off (by simp; omega)) _ _ _ _
  ·exact HY.out.2.mono (by simp; omega)
  ·exact Jr (Ext.trans' HB4.out ZI.out) (by omega) (by omega) _ _ _ _
 ·obtain⟨w7,hw7,hb7⟩:∃w7,w5.alloc (.cells #[.bool false,.slice b2 (Na.au 0).length d2] 29)=w7∧Ext (w5.alloc (.cells #[.bool false,.slice b2 (Na.au 0).length d2] 29)) w7:=⟨_,rfl,Ext.rfl'⟩
  rw[hw7]
  have ZI:=Lib.hid (Ext.trans' HB5.out (Ext.trans' (aH w5 (.cells #[.bool false,.slice b2 (Na.au 0).length d2] 29)) hb7))
  obtain⟨q1,q2,-,qz⟩:=uK (Ext.trans' HX5.out (Ext.trans' (aH w5 (.cells #[.bool false,.slice b2 (Na.au 0).length d2] 29)) hb7))
  obtain⟨p1,p2,-,pz⟩:=uK hb7
  obtain⟨-,-,-,-,⟨u1,e1⟩,⟨u2,e2⟩,⟨u3,e3⟩,⟨u4,e4⟩,f1,f2,kz7⟩:=HK.out w7 ZI.out
  have HY7:=Lib.hid (HY.out.1.below (Ext.trans' (aH w5 (.cells #[.bool false,.slice b2 (Na.au 0).length d2] 29)) hb7))
  have HX7:=Lib.hid (HX.out.1.below (Ext.trans' (aH w3 (.cells #[.bool nb,.slice b1 (Na.au (Na.val l/Na.val m)).length d1] 29)) (Ext.trans' HX5.out (Ext.trans' (aH w5 (.cells #[.bool false,.slice b2 (Na.au 0).length d2] 29)) hb7))))
  clear hw7 hb7
  go_region
  go_wp2_with fail
  refine bodyPost_ret (v := .tuple #[.agg #[.bool nb,.slice b1 (Na.au (Na.val l/Na.val m)).length d1],.agg #[.bool false,.slice b2 (Na.au 0).length d2],.int .i64 0]) (by simp[results,Tryz.results220,go_sem,e1,e2,e3,e4]) rfl ⟨_,_,rfl,⟨_,by rw[HNB.out],?_,?_⟩,⟨_,rfl,?_,?_⟩,?_⟩
  ·exact HX7.out.Uw (HX.out.2.off (by omega)) (HX.out.2.off (by omega)) _ _ _ _
  ·exact HX.out.2.mono (by omega)
  ·exact HY7.out.Uw (HY.out.2.off (by simp; omega)) (HY.out.2.off (by simp; omega)) _ _ _ _
  ·exact HY.out.2.mono (by simp; omega)
  ·exact Jr (Ext.trans' HB4.out ZI.out) (by omega) (by omega) _ _ _ _
theorem neg_pos(n1:Bool){a b:Nat}(hb:0<b):(n1&&decide (0<a/Nat.gcd a b))=jy n1 false a b:=by
 unfold jy qP
 rw[if_neg (show b≠0 by omega)]
 rcases Nat.eq_zero_or_pos a with h | h
 ·subst h; simp
 ·rw[if_neg (show a≠0 by omega)]
  cases n1<;>simp
theorem neg_neg(n1:Bool){a b:Nat}(hb:0<b):((!n1&&decide (0<a))&&decide (0<a/Nat.gcd a b))=jy n1 true a b:=by
 unfold jy qP
 rw[if_neg (show b≠0 by omega)]
 rcases Nat.eq_zero_or_pos a with h | h
 ·subst h; simp
 ·rw[if_neg (show a≠0 by omega)]
  have:decide (0<a)=true:=decide_eq_true h
  rw[this]
  cases n1<;>simp
structure Red (w wk:World) (n1 n2:Bool) (v1 v2 g:Value) (b5:Nat):Prop where
 c0:wk.cell? ⟨w.heap.size,0,none⟩=some (.bool n1)
 c1:wk.cell? ⟨w.heap.size,1,none⟩=some v1
 c2:wk.cell? ⟨w.heap.size+1,0,none⟩=some (.bool n2)
 c3:wk.cell? ⟨w.heap.size+1,1,none⟩=some v2
 c4:∀i,i<4→∃u,wk.cell? ⟨w.heap.size+1+1,i,none⟩=some u
 f0:∀i,wk.frozen? ⟨w.heap.size,i,none⟩=false
 f1:∀i,wk.frozen? ⟨w.heap.size+1,i,none⟩=false
 f4:∀i,wk.frozen? ⟨w.heap.size+1+1,i,none⟩=false
 c5:wk.cell? ⟨b5,0,none⟩=some (.bool false)
 c6:wk.cell? ⟨b5,1,none⟩=some g
 lt:w.heap.size+1+1<b5
 l5:b5<wk.heap.size
 bel:Ext w wk
theorem Red.ext{w wk w1:World}{n1 n2:Bool}{v1 v2 g:Value}{b5:Nat}(h:Red w wk n1 n2 v1 v2 g b5)(hb:Ext wk w1):Red w w1 n1 n2 v1 v2 g b5:=by
 obtain⟨h0,h1,h2,h3,h4,g0,g1,hf,h5,h6,h7,h8,h9⟩:=h
 have hs:=hb.size
 refine⟨?_,?_,?_,?_,fun i hi=>?_,fun i=>?_,fun i=>?_,fun i=>?_,?_,?_,h7,by omega,Ext.trans' h9 hb⟩
 ·rw[hb.cell (p:=⟨w.heap.size,0,none⟩) (by simp only; omega)]; exact h0
 ·rw[hb.cell (p:=⟨w.heap.size,1,none⟩) (by simp only; omega)]; exact h1
 ·rw[hb.cell (p:=⟨w.heap.size+1,0,none⟩) (by simp only; omega)]; exact h2
 ·rw[hb.cell (p:=⟨w.heap.size+1,1,none⟩) (by simp only; omega)]; exact h3
 ·rw[hb.cell (p:=⟨w.heap.size+1+1,i,none⟩) (by simp only; omega)]; exact h4 i hi
 ·rw[hb.frozen (p:=⟨w.heap.size,i,none⟩) (by simp only; omega)]; exact g0 i
 ·rw[hb.frozen (p:=⟨w.heap.size+1,i,none⟩) (by simp only; omega)]; exact g1 i
 ·rw[hb.frozen (p:=⟨w.heap.size+1+1,i,none⟩) (by simp only; omega)]; exact hf i
 ·rw[hb.cell (p:=⟨b5,0,none⟩) (by simp only; omega)]; exact h5
 ·rw[hb.cell (p:=⟨b5,1,none⟩) (by simp only; omega)]; exact h6
theorem O6{a b i j:Nat}(h:a≠b):(⟨a,i,none⟩:Addr)≠⟨b,j,none⟩:=fun e=>h (congrArg Addr.block e)
theorem jw{w:World}{b c i:Nat}{x y:Value}(h:b≠c):((w.setCell ⟨b,0,none⟩ x).setCell ⟨b,1,none⟩ y).cell? ⟨c,i,none⟩=w.cell? ⟨c,i,none⟩:=by
 rw[World.cell?_setCell_other (w:=_) (h:=O6 h),World.cell?_setCell_other (w:=_) (h:=O6 h)]
theorem ZJ{w:World}{b:Nat}{x y u:Value}(h:w.cell? ⟨b,0,none⟩=some u):((w.setCell ⟨b,0,none⟩ x).setCell ⟨b,1,none⟩ y).cell? ⟨b,0,none⟩=some x:=by
 rw[World.cell?_setCell_other (w:=_) (h:=by simp),World.cell?_setCell_same (h:=h)]
theorem ZK{w:World}{b:Nat}{x y u:Value}(h:w.cell? ⟨b,1,none⟩=some u):((w.setCell ⟨b,0,none⟩ x).setCell ⟨b,1,none⟩ y).cell? ⟨b,1,none⟩=some y:=by
 rw[World.cell?_setCell_same (u:=u) (h:=by rw[World.cell?_setCell_other (w:=_) (h:=by simp)]; exact h)]
theorem O7{w wk:World}(h:Ext w wk){b:Nat}(hb:w.heap.size≤b)(x y:Value):Ext w ((wk.setCell ⟨b,0,none⟩ x).setCell ⟨b,1,none⟩ y):=
 (Below.setCell h (p:=⟨b,0,none⟩) hb _).setCell (p:=⟨b,1,none⟩) hb _
theorem Red.set0{w wk:World}{n1 n2:Bool}{v1 v2 g:Value}{b5:Nat}(h:Red w wk n1 n2 v1 v2 g b5)(x:Bool)(v:Value) :
  Red w ((wk.setCell ⟨w.heap.size,0,none⟩ (.bool x)).setCell ⟨w.heap.size,1,none⟩ v) x n2 v v2 g b5:=by
 obtain⟨h0,h1,h2,h3,h4,g0,g1,hf,h5,h6,h7,h8,h9⟩:=h
 refine⟨ZJ h0,ZK h1,?_,?_,fun i hi=>?_,fun i=>?_,fun i=>?_,fun i=>?_,?_,?_,h7,by simpa using h8,O7 h9 (Nat.le_refl _) _ _⟩
 ·rw[jw (by omega)]; exact h2
 ·rw[jw (by omega)]; exact h3
 ·rw[jw (by omega)]; exact h4 i hi
 ·simpa using g0 i
 ·simpa using g1 i
 ·simpa using hf i
 ·rw[jw (by omega)]; exact h5
 ·rw[jw (by omega)]; exact h6
theorem Red.set1{w wk:World}{n1 n2:Bool}{v1 v2 g:Value}{b5:Nat}(h:Red w wk n1 n2 v1 v2 g b5)(x:Bool)(v:Value) :
  Red w ((wk.setCell ⟨w.heap.size+1,0,none⟩ (.bool x)).setCell ⟨w.heap.size+1,1,none⟩ v) n1 x v1 v g b5:=by
 obtain⟨h0,h1,h2,h3,h4,g0,g1,hf,h5,h6,h7,h8,h9⟩:=h
 refine⟨?_,?_,ZJ h2,ZK h3,fun i hi=>?_,fun i=>?_,fun i=>?_,fun i=>?_,?_,?_,h7,by simpa using h8,O7 h9 (by omega) _ _⟩
 ·rw[jw (by omega)]; exact h0
 ·rw[jw (by omega)]; exact h1
 ·rw[jw (by omega)]; exact h4 i hi
 ·simpa using g0 i
 ·simpa using g1 i
 ·simpa using hf i
 ·rw[jw (by omega)]; exact h5
 ·rw[jw (by omega)]; exact h6
theorem WS{w w2:World}{n1 n2:Bool}{v1 v2 g:Value}{t1 t2 t3 t4:TypeId}
  (hb:Ext (((w.alloc (.cells #[.bool n1,v1] t1)).alloc (.cells #[.bool n2,v2] t2)).alloc (.cells #[.bool false,.slice none 0 0,.bool false,.slice none 0 0] t3)) w2) :
  Red w (w2.alloc (.cells #[.bool false,g] t4)) n1 n2 v1 v2 g w2.heap.size:=by
 have hz:=hb.size
 simp only[World.size_alloc]at hz
 have he:Ext w w2:=Ext.trans' ((((aH w _).alloc (by simp) _).alloc (by simp; omega) _)) hb
 have hb':=Ext.trans' hb (aH w2 (.cells #[.bool false,g] t4))
 have hc:∀b o,b<w.heap.size+3→(w2.alloc (.cells #[.bool false,g] t4)).cell? ⟨b,o,none⟩=_:=fun b o h=>hb'.cell (p:=⟨b,o,none⟩) (by simp; omega)
 have hf:∀b o,b<w.heap.size+3→(w2.alloc (.cells #[.bool false,g] t4)).frozen? ⟨b,o,none⟩=_:=fun b o h=>hb'.frozen (p:=⟨b,o,none⟩) (by simp; omega)
 refine⟨?_,?_,?_,?_,fun i hi=>?_,fun i=>?_,fun i=>?_,fun i=>?_,?_,?_,by omega,by simp,Ext.trans' he (aH _ _)⟩
 ·rw[hc _ _ (by omega)]; simp[go_sem]
 ·rw[hc _ _ (by omega)]; simp[go_sem]
 ·rw[hc _ _ (by omega)]; simp[go_sem]
 ·rw[hc _ _ (by omega)]; simp[go_sem]
 ·rw[hc _ _ (by omega)]
  rcases i with _ | _ | _ | _ | i
  ·exact⟨_,by simp[go_sem]; rfl⟩
  ·exact⟨_,by simp[go_sem]; rfl⟩
  ·exact⟨_,by simp[go_sem]; rfl⟩
  ·exact⟨_,by simp[go_sem]; rfl⟩
  ·omega
 ·rw[hf _ _ (by omega)]; simp[go_sem]
 ·rw[hf _ _ (by omega)]; simp[go_sem]
 ·rw[hf _ _ (by omega)]; simp[go_sem]
 ·rw[World.cell?_alloc_at _ _ _ _ rfl]; rfl
 ·rw[World.cell?_alloc_at _ _ _ _ rfl]; rfl
theorem yN(n1 n2:Bool)(s1 s2:Value)(l m:List UInt32)(w:World)(h1:aG w s1 l)(h2:aG w s2 m)(hm:0<Na.val m)(hl1:l.length≤5000000)(hl2:m.length≤5000000) :
  Calls Tryz.prog 187 #[.agg #[.bool n1,s1],.agg #[.bool n2,s2]] w fun e w'=>∃x,e = .returned x ∧
   aA w.heap.size w' x (jy n1 n2 (Na.val l) (Na.val m)) (Na.val l/Nat.gcd (Na.val l) (Na.val m)) (Na.val m/Nat.gcd (Na.val l) (Na.val m))∧Ext w w':=by
 obtain⟨a1,c1,rfl⟩:=h1.shape
 obtain⟨a2,c2,rfl⟩:=h2.shape
 have hb1:=aH w (.cells #[.bool n1,.slice a1 l.length c1] 29)
 have hb2:=hb1.alloc (by simp) (.cells #[.bool n2,.slice a2 m.length c2] 29)
 have hb3:=hb2.alloc (by simp; omega) (.cells #[.bool false,.slice none 0 0,.bool false,.slice none 0 0] 31)
 have HG:=Lib.hid (Q8 _ _ l m _ (h1.below hb3) (h2.below hb3) hl1 hl2)
 obtain⟨G,hG⟩:∃G,Nat.gcd (Na.val l) (Na.val m)=G:=⟨_,rfl⟩
 have hGp:0<G:=by rw[←hG]; exact Nat.gcd_pos_of_pos_right _ hm
 have afn:G≤Na.val m:=by rw[←hG]; exact Nat.gcd_le_right _ hm
 have hGl:(Na.au G).length≤5000000:=by have:=fF afn; have:=bD m; omega
 have hd1:Na.val l%G=0:=by rw[←hG]; exact Nat.mod_eq_zero_of_dvd (Nat.gcd_dvd_left _ _)
 have hd2:Na.val m%G=0:=by rw[←hG]; exact Nat.mod_eq_zero_of_dvd (Nat.gcd_dvd_right _ _)
 have hnp:=neg_pos n1 (a:=Na.val l) hm
 have hnn:=neg_neg n1 (a:=Na.val l) hm
 rw[hG]at HG hnp hnn
 rw[hG]
 have hll:=bD l
 have hml:=bD m
 have H:=Lib.hid (And.intro h1 h2)
 have HD:=Lib.hid (And.intro hd1 hd2)
 have HNP:=Lib.hid hnp
 have HNN:=Lib.hid hnn
 have HGP:=Lib.hid hGp
 have HM:=Lib.hid hm
 have HB3:=Lib.hid hb3
 clear h1 h2 hd1 hd2 hnp hnn hGp hm hb1 hb2 hb3 hG afn
 rcases Bool.eq_false_or_eq_true n2 with rfl | rfl
 all_goals
  go_enter Tryz.func187,Tryz.ntmps187
  go_wp2_with fail
  refine HG.out.mono ?_
  rintro e w1 ⟨g,rfl,hg,hb1⟩
  have hgN:=kT false g _ w1 hg (by omega)
  rw[Na.aI,Bool.false_and]at hgN
  have HGN:=Lib.hid hgN
  have HB1:=Lib.hid hb1
  clear hg hb1 hgN HG
  go_wp2_with fail
  refine HGN.out.mono ?_
  rintro e w2 ⟨gx,rfl,⟨g',rfl,hg',fg⟩,hb2⟩
  obtain⟨ag,cg,rfl⟩:=hg'.shape
  have hR0:=WS (g := .slice ag (Na.au G).length cg) (t4:=29) (Ext.trans' HB1.out hb2)
  have HR0:=Lib.hid hR0
  have hS:=fun neg=>pX neg (.slice a2 m.length c2) m _ (H.out.2.below hR0.bel) (by omega)
  have HS:=Lib.hid hS
  have HGF:=Lib.hid (fg.mono (show w.heap.size+1+1+1≤_ by have:=HB1.out.size; simp only[World.size_alloc]at this; omega))
  have HG2:=Lib.hid (hg'.below (aH w2 (.cells #[.bool false,.slice ag (Na.au G).length cg] 29)))
  obtain⟨k0,k1,k2,k3,-,-,-,-,k5,k6,klt,kl5,-⟩:=hR0
  clear hS hg' fg hb2 HGN
  go_wp2_with fail
 ·have hS:=HS.out true
  rw[show qP true (Na.val m) = -1 by unfold qP; rw[if_neg (by have:=HM.out; omega)]; rfl]at hS
  have HS1:=Lib.hid hS
  clear hS HS
  refine HS1.out.mono ?_
  rintro e w3 ⟨rfl,hb3⟩
  have hR3:=HR0.out.ext hb3
  have HR3:=Lib.hid hR3
  have HG3:=Lib.hid (HG2.out.below hb3)
  have HN1:=Lib.hid (FN n1 _ l w3 (H.out.1.below hR3.bel) (by omega))
  obtain⟨k0,k1,k2,k3,-,f0,f1,-,-,-,klt,kl5,-⟩:=hR3
  clear hb3 HR0 HG2 HS1
  go_wp2_with fail
  refine HN1.out.mono ?_
  rintro e w4 ⟨x,rfl,⟨x',rfl,hx,fx⟩,hb4⟩
  obtain⟨b1,d1,rfl⟩:=hx.shape
  generalize hnA:(!n1&&decide (0<Na.val l))=nA at *
  have hR4:=HR3.out.ext hb4
  have HR5:=Lib.hid (hR4.set0 nA (.slice b1 (Na.au (Na.val l)).length d1))
  have HX5:=Lib.hid (hx.ch (((Ch.refl w.heap.size w4).setCell 0 (.bool nA)).setCell 1 (.slice b1 (Na.au (Na.val l)).length d1)) (fun _=>fx.off (by omega)))
  have HG5:=Lib.hid ((HG3.out.below hb4).ch (((Ch.refl w.heap.size w4).setCell 0 (.bool nA)).setCell 1 (.slice b1 (Na.au (Na.val l)).length d1)) (fun _=>(HGF.out.off (by omega))))
  obtain⟨k0,k1,k2,k3,-,f0,f1,-,-,-,klt,kl5,-⟩:=hR4
  have hN2:=FN true _ m _ (H.out.2.below HR5.out.bel) (by omega)
  rw[Bool.not_true,Bool.false_and]at hN2
  have HN2:=Lib.hid hN2
  have FX:=Lib.hid (fx.mono (show w.heap.size+1+1≤_ by omega))
  clear hx fx hb4 HR3 HG3 HN1 hN2
  go_wp2_with fail
  refine HN2.out.mono ?_
  rintro e w6 ⟨y,rfl,⟨y',rfl,hy,fy⟩,hb6⟩
  obtain⟨b2,d2,rfl⟩:=hy.shape
  have hR6:=HR5.out.ext hb6
  have hRK:=hR6.set1 false (.slice b2 (Na.au (Na.val m)).length d2)
  obtain⟨LA,hA,hvA,hlA⟩:∃LA,aG ((w6.setCell ⟨w.heap.size+1,0,none⟩ (.bool false)).setCell ⟨w.heap.size+1,1,none⟩ (.slice b2 (Na.au (Na.val m)).length d2)) (.slice b1 (Na.au (Na.val l)).length d1) LA∧Na.val LA=Na.val l∧LA.length≤5000000:=
   ⟨_,(HX5.out.below hb6).ch (((Ch.refl _ w6).setCell 0 _).setCell 1 _) (fun _=>FX.out.off (by omega)),Na.aI _,by omega⟩
  obtain⟨LB,hB,hvB,hlB⟩:∃LB,aG ((w6.setCell ⟨w.heap.size+1,0,none⟩ (.bool false)).setCell ⟨w.heap.size+1,1,none⟩ (.slice b2 (Na.au (Na.val m)).length d2)) (.slice b2 (Na.au (Na.val m)).length d2) LB∧Na.val LB=Na.val m∧LB.length≤5000000:=
   ⟨_,hy.ch (((Ch.refl _ w6).setCell 0 _).setCell 1 _) (fun _=>fy.off (by simp; omega)),Na.aI _,by omega⟩
  have hgK:=(HG5.out.below hb6).ch (((Ch.refl (w.heap.size+1) w6).setCell 0 (.bool false)).setCell 1 (.slice b2 (Na.au (Na.val m)).length d2)) (fun _=>(HGF.out.off (by omega)))
  have adW:Hid ((nA&&decide (0<Na.val l/G))=jy n1 true (Na.val l) (Na.val m)):=HNN.out
  obtain⟨k0,k1,k2,k3,-,f0,f1,-,k5,k6,-,-,-⟩:=hR6
  clear hy fy hb6 HN2
  have HRK:=Lib.hid hRK
  have HA:=Lib.hid (And.intro hA hvA)
  have V8:=Lib.hid (And.intro hB hvB)
  have HGK:=Lib.hid hgK
  have hD1:=lF nA _ _ LA (Na.au G) _ hA hgK (by rw[Na.aI]; exact HGP.out) (by rw[hvA,Na.aI]; exact HD.out.1) hlA hGl
  rw[hvA,Na.aI,adW.out]at hD1
  have HD1:=Lib.hid hD1
  obtain⟨k0,k1,k2,k3,-,-,-,-,k5,k6,klt,kl5,-⟩:=hRK
  have z1:w.heap.size<w2.heap.size:=by omega
  have z2:w.heap.size+1<w2.heap.size:=by omega
  clear hA hvA hB hvB hgK hD1
  go_wp2_with fail
  refine HD1.out.mono ?_
  rintro e w8 ⟨x1,y1,rfl,⟨xs,rfl,hxs,fxs⟩,⟨ys,rfl,hys,fys⟩,hb8⟩
  obtain⟨p1,q1,rfl⟩:=hxs.shape
  obtain⟨p2,q2,rfl⟩:=hys.shape
  have hR8:=HRK.out.ext hb8
  have HR8:=Lib.hid hR8
  obtain⟨k0,k1,k2,k3,-,-,-,-,k5,k6,-,kl8,-⟩:=hR8
  have y1:w.heap.size<w8.heap.size:=by omega
  have y2:w.heap.size+1<w8.heap.size:=by omega
  have hbA:=Ext.trans' hb8 ((aH w8 (.cells #[.bool (jy n1 true (Na.val l) (Na.val m)),.slice p1 (Na.au (Na.val l/G)).length q1] 29)).alloc (by simp) (.cells #[.bool false,.slice p2 (Na.au 0).length q2] 29))
  have hD2:=lF false _ _ LB (Na.au G) _ (V8.out.1.below hbA) (HGK.out.below hbA) (by rw[Na.aI]; exact HGP.out) (by rw[V8.out.2,Na.aI]; exact HD.out.2) hlB hGl
  rw[V8.out.2,Na.aI,Bool.false_and]at hD2
  have HD2:=Lib.hid hD2
  have HXS:=Lib.hid (And.intro hxs fxs)
  have adX:=Lib.hid (HRK.out.ext hbA)
  clear hxs fxs hys fys hb8 hD2 hbA HD1
  generalize hNG:jy n1 true (Na.val l) (Na.val m)=NG at *
  have HNG:=Lib.hid hNG
  clear hNG
  go_wp2_with fail
  refine HD2.out.mono ?_
  rintro e w9 ⟨x3,y3,rfl,⟨xt,rfl,hxt,fxt⟩,⟨yt,rfl,hyt,fyt⟩,IE⟩
  obtain⟨p3,q3,rfl⟩:=hxt.shape
  obtain⟨p4,q4,rfl⟩:=hyt.shape
  have hR9:=adX.out.ext IE
  have h80:w9.cell? ⟨w8.heap.size,0,none⟩=some (.bool NG):=by rw[IE.cell (p:=⟨w8.heap.size,0,none⟩) (by simp; omega)]; simp[go_sem]
  have h81:w9.cell? ⟨w8.heap.size,1,none⟩=some (.slice p1 (Na.au (Na.val l/G)).length q1):=by rw[IE.cell (p:=⟨w8.heap.size,1,none⟩) (by simp; omega)]; simp[go_sem]
  have h82:w8.heap.size<w9.heap.size:=by have:=IE.size; simp at this; omega
  obtain⟨-,-,-,-,c4,-,-,f4,-,-,-,kl9,ZL⟩:=hR9
  obtain⟨u0,e0⟩:=c4 0 (by omega)
  obtain⟨u1,e1⟩:=c4 1 (by omega)
  obtain⟨u2,e2⟩:=c4 2 (by omega)
  obtain⟨u3,e3⟩:=c4 3 (by omega)
  have y3:w.heap.size+1+1<w9.heap.size:=by omega
  have y4:w.heap.size+1+1<w9.heap.size+1:=by omega
  have y5:w.heap.size+1<w9.heap.size:=by omega
  have HXT:=Lib.hid (And.intro hxt fxt)
  have adY:=Lib.hid (HXS.out.1.below (Ext.trans' ((aH w8 (.cells #[.bool NG,.slice p1 (Na.au (Na.val l/G)).length q1] 29)).alloc (by simp) (.cells #[.bool false,.slice p2 (Na.au 0).length q2] 29)) IE))
  have HB9:=Lib.hid ZL
  clear hxt fxt hyt fyt IE c4 ZL HD2
  go_wp2_with fail
  refine bodyPost_ret (v := .agg #[.bool NG,.slice p1 (Na.au (Na.val l/G)).length q1,.bool false,.slice p3 (Na.au (Na.val m/G)).length q3]) (by simp[results,Tryz.results187,go_sem,e0,e1,e2,e3,y3,y4]) rfl ⟨_,rfl,⟨_,_,by rw[HNG.out],?_,?_,?_,?_⟩,?_⟩
  ·exact(adY.out.ch (((((Ch.refl _ _).setCell _ _).setCell _ _).setCell _ _).setCell _ _) (fun _=>HXS.out.2.off (by omega))).below ((aH _ _).alloc (by simp) _)
  ·exact(HXT.out.1.ch (((((Ch.refl _ _).setCell _ _).setCell _ _).setCell _ _).setCell _ _) (fun _=>HXT.out.2.off (by simp; omega))).below ((aH _ _).alloc (by simp) _)
  ·exact HXS.out.2.mono (by omega)
  ·exact HXT.out.2.mono (by simp; omega)
  ·exact((oQ HB9.out (by omega) _ _ _ _).alloc (by simp; omega) _).alloc (by simp; omega) _
 ·have hS:=HS.out false
  rw[show qP false (Na.val m)=1 by unfold qP; rw[if_neg (by have:=HM.out; omega)]; rfl]at hS
  have HS1:=Lib.hid hS
  clear hS HS
  refine HS1.out.mono ?_
  rintro e w3 ⟨rfl,hb3⟩
  have hRK:=HR0.out.ext hb3
  have hgK:=HG2.out.below hb3
  obtain⟨LA,eA⟩:∃LA,LA=l:=⟨_,rfl⟩
  have hA:aG w3 (.slice a1 l.length c1) LA:=by rw[eA]; exact H.out.1.below hRK.bel
  have hvA:Na.val LA=Na.val l:=by rw[eA]
  have hlA:LA.length≤5000000:=by rw[eA]; exact hl1
  obtain⟨LB,eB⟩:∃LB,LB=m:=⟨_,rfl⟩
  have hB:aG w3 (.slice a2 m.length c2) LB:=by rw[eB]; exact H.out.2.below hRK.bel
  have hvB:Na.val LB=Na.val m:=by rw[eB]
  have hlB:LB.length≤5000000:=by rw[eB]; exact hl2
  have adW:Hid ((n1&&decide (0<Na.val l/G))=jy n1 false (Na.val l) (Na.val m)):=HNP.out
  clear hb3 HR0 HG2 HS1 eA eB
  have HRK:=Lib.hid hRK
  have HA:=Lib.hid (And.intro hA hvA)
  have V8:=Lib.hid (And.intro hB hvB)
  have HGK:=Lib.hid hgK
  have hD1:=lF n1 _ _ LA (Na.au G) _ hA hgK (by rw[Na.aI]; exact HGP.out) (by rw[hvA,Na.aI]; exact HD.out.1) hlA hGl
  rw[hvA,Na.aI,adW.out]at hD1
  have HD1:=Lib.hid hD1
  obtain⟨k0,k1,k2,k3,-,-,-,-,k5,k6,klt,kl5,-⟩:=hRK
  have z1:w.heap.size<w2.heap.size:=by omega
  have z2:w.heap.size+1<w2.heap.size:=by omega
  clear hA hvA hB hvB hgK hD1
  go_wp2_with fail
  refine HD1.out.mono ?_
  rintro e w8 ⟨x1,y1,rfl,⟨xs,rfl,hxs,fxs⟩,⟨ys,rfl,hys,fys⟩,hb8⟩
  obtain⟨p1,q1,rfl⟩:=hxs.shape
  obtain⟨p2,q2,rfl⟩:=hys.shape
  have hR8:=HRK.out.ext hb8
  have HR8:=Lib.hid hR8
  obtain⟨k0,k1,k2,k3,-,-,-,-,k5,k6,-,kl8,-⟩:=hR8
  have y1:w.heap.size<w8.heap.size:=by omega
  have y2:w.heap.size+1<w8.heap.size:=by omega
  have hbA:=Ext.trans' hb8 ((aH w8 (.cells #[.bool (jy n1 false (Na.val l) (Na.val m)),.slice p1 (Na.au (Na.val l/G)).length q1] 29)).alloc (by simp) (.cells #[.bool false,.slice p2 (Na.au 0).length q2] 29))
  have hD2:=lF false _ _ LB (Na.au G) _ (V8.out.1.below hbA) (HGK.out.below hbA) (by rw[Na.aI]; exact HGP.out) (by rw[V8.out.2,Na.aI]; exact HD.out.2) hlB hGl
  rw[V8.out.2,Na.aI,Bool.false_and]at hD2
  have HD2:=Lib.hid hD2
  have HXS:=Lib.hid (And.intro hxs fxs)
  have adX:=Lib.hid (HRK.out.ext hbA)
  clear hxs fxs hys fys hb8 hD2 hbA HD1
  generalize hNG:jy n1 false (Na.val l) (Na.val m)=NG at *
  have HNG:=Lib.hid hNG
  clear hNG
  go_wp2_with fail
  refine HD2.out.mono ?_
  rintro e w9 ⟨x3,y3,rfl,⟨xt,rfl,hxt,fxt⟩,⟨yt,rfl,hyt,fyt⟩,IE⟩
  obtain⟨p3,q3,rfl⟩:=hxt.shape
  obtain⟨p4,q4,rfl⟩:=hyt.shape
  have hR9:=adX.out.ext IE
  have h80:w9.cell? ⟨w8.heap.size,0,none⟩=some (.bool NG):=by rw[IE.cell (p:=⟨w8.heap.size,0,none⟩) (by simp; omega)]; simp[go_sem]
  have h81:w9.cell? ⟨w8.heap.size,1,none⟩=some (.slice p1 (Na.au (Na.val l/G)).length q1):=by rw[IE.cell (p:=⟨w8.heap.size,1,none⟩) (by simp; omega)]; simp[go_sem]
  have h82:w8.heap.size<w9.heap.size:=by have:=IE.size; simp at this; omega
  obtain⟨-,-,-,-,c4,-,-,f4,-,-,-,kl9,ZL⟩:=hR9
  obtain⟨u0,e0⟩:=c4 0 (by omega)
  obtain⟨u1,e1⟩:=c4 1 (by omega)
  obtain⟨u2,e2⟩:=c4 2 (by omega)
  obtain⟨u3,e3⟩:=c4 3 (by omega)
  have y3:w.heap.size+1+1<w9.heap.size:=by omega
  have y4:w.heap.size+1+1<w9.heap.size+1:=by omega
  have y5:w.heap.size+1<w9.heap.size:=by omega
  have HXT:=Lib.hid (And.intro hxt fxt)
  have adY:=Lib.hid (HXS.out.1.below (Ext.trans' ((aH w8 (.cells #[.bool NG,.slice p1 (Na.au (Na.val l/G)).length q1] 29)).alloc (by simp) (.cells #[.bool false,.slice p2 (Na.au 0).length q2] 29)) IE))
  have HB9:=Lib.hid ZL
  clear hxt fxt hyt fyt IE c4 ZL HD2
  go_wp2_with fail
  refine bodyPost_ret (v := .agg #[.bool NG,.slice p1 (Na.au (Na.val l/G)).length q1,.bool false,.slice p3 (Na.au (Na.val m/G)).length q3]) (by simp[results,Tryz.results187,go_sem,e0,e1,e2,e3,y3,y4]) rfl ⟨_,rfl,⟨_,_,by rw[HNG.out],?_,?_,?_,?_⟩,?_⟩
  ·exact(adY.out.ch (((((Ch.refl _ _).setCell _ _).setCell _ _).setCell _ _).setCell _ _) (fun _=>HXS.out.2.off (by omega))).below ((aH _ _).alloc (by simp) _)
  ·exact(HXT.out.1.ch (((((Ch.refl _ _).setCell _ _).setCell _ _).setCell _ _).setCell _ _) (fun _=>HXT.out.2.off (by simp; omega))).below ((aH _ _).alloc (by simp) _)
  ·exact HXS.out.2.mono (by omega)
  ·exact HXT.out.2.mono (by simp; omega)
  ·exact((oQ HB9.out (by omega) _ _ _ _).alloc (by simp; omega) _).alloc (by simp; omega) _
end Go.Proofs.YtfmkkemfhjkajaaGreatDoor
