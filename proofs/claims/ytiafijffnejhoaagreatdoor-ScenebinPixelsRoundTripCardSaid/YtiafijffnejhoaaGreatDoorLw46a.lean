/- The laws of chapter 46 on pixels. -/
import Derived.Test.YtiafijffnejhoaaGreatDoorPk48
import Derived.Test.YtiafijffnejhoaaGreatDoorPk38
set_option maxHeartbeats 3200000
set_option maxRecDepth 100000
namespace Go.Proofs.YtiafijffnejhoaaGreatDoor
open Go.RowKit
variable{α:Type}{K:Nat}
set_option linter.unusedVariables false
theorem qZ.below{w w':World}{v:Value}{b:List UInt8}{n er:Int}(h:qZ w v b n er)(hb:Ext w w'):qZ w' v b n er:=by
 obtain⟨L,h1,h2⟩:=h;exact⟨L,h1.below hb,h2⟩
theorem qZ.same{w:World}{v u:Value}{b:List UInt8}{n er er':Int}(h:qZ w v b n er)(h':qZ w u b n er'):er=er'∧∃L,kL w v L∧kL w u L:=by
 obtain⟨L,h1,h2⟩:=h;obtain⟨M,h3,h4⟩:=h';rcases h2 with ⟨g1,g2,g3⟩ | ⟨g1,⟨g2,g3⟩ | ⟨g2,g3,g4⟩⟩<;>rcases h4 with ⟨k1,k2,k3⟩ | ⟨k1,⟨k2,k3⟩ | ⟨k2,k3,k4⟩⟩
 ·subst g3 k3; exact⟨g2.trans k2.symm,[],h1,h3⟩
 ·omega
 ·omega
 ·omega
 ·obtain rfl:=Px.kV.one (by omega) g3 k3; exact⟨g2.trans k2.symm,L,h1,h3⟩
 ·exact absurd g3 (k4 L)
 ·omega
 ·exact absurd k3 (g4 M)
 subst g3 k3; exact⟨g2.trans k2.symm,[],h1,h3⟩
theorem qZ.enc{w:World}{v:Value}{L:List aO}{n er:Int}(h:qZ w v (Px.enc L) n er)(hl:L.length≤300)(hn:0≤n∧n≤65536):(n=(L.length:Int)→er=0∧kL w v L)∧(n≠(L.length:Int)→er=3∧∃a c,v = .slice a 0 c):=by
 obtain⟨M,h1,h2⟩:=h;rcases h2 with ⟨g1,-⟩ | ⟨-,⟨g2,g3⟩ | ⟨g2,g3,g4⟩⟩
 ·omega
 ·have:M=L:=Px.EN (by have:=g3.2; omega) (by omega) g3.1;subst this;exact⟨fun _=>⟨g2,h1⟩,fun hne=>absurd g3.2 (by omega)⟩
 subst g3;refine⟨fun he=>absurd (show Px.kV (Px.enc L) n.toNat L from⟨rfl,by omega⟩) (g4 L),fun _=>⟨g2,?_⟩⟩;obtain⟨a,c,e⟩:=h1.shape;exact⟨a,c,e⟩
theorem vg{w:World}{m:G5}{q:jY}{n:Int}(h:kL w m.v m.l)(h2:iT w q.v q.l)(hn:I64 n)(hg:dV w) :
  Calls Tryz.prog 3 #[m.v,q.v,.i n] w fun r w'=>r = .returned (.bool true)∧Ext w w':=by
 obtain⟨la,lc,l⟩:=m;obtain⟨ba,bc,b⟩:=q;have h:kL w (.slice la l.length lc) l:=h;have h2:iT w (.slice ba b.length bc) b:=h2;have hml:b.length≤9223372036854775807:=h2.len;refine agX Tryz.func3 Tryz.ntmps3 fun ac S=>agS fun _ aX=>adr S 1 [] [(6,.bool false)] fun S=>agR<|aX _ _<|ag9 fun _ fH=>agS fun _ jK=>adr S 1 [] [(11,.slice la l.length lc)] fun S=>ag0 S 12 (vk (aK.below h S.E)) fun ac u E4 S=>adr S 6 [] [(18,.bool ((!(decide ((l.length:Int)≤300)))||(decide (2000<(b.length:Int)))))] fun S=>agR (jK _ _ ?_);refine agU S (fun hc5=>?_) (fun hc5=>?_)
 ·refine agS fun _ iI=>ag0 S 19 (rQ (dV.below hg S.E)) fun ac u E7 S=>adr S 1 [] [(6,.bool true)] fun S=>agR<|iI _ _<|agV S Tryz.results3 ?_;exact⟨rfl,S.E⟩
 have hl3:l.length≤300:=by simp at hc5; omega
 refine aha<|fH _ _<|agS fun _ dU=>adr S 2 [] [(21,.slice ba b.length bc),(22,.i n)] fun S=>agZ S (some 23) (vw (aK.below h2 S.E) hn) ?_;rintro e u ⟨v7,er,rfl,hd1,E9⟩;refine⟨_,rfl,E9,fun ac S=>?_⟩;refine adr S 5 [] [(7,v7),(8,.i er)] fun S=>agR<|dU _ _<|agS fun _ gI=>adr S 2 [] [(27,.slice ba b.length bc),(28,.i n)] fun S=>agZ S (some 29) (EO (aK.below h2 S.E) hn) ?_;rintro e u ⟨v9,er2,rfl,hd2,Ef⟩;refine⟨_,rfl,Ef,fun ac S=>?_⟩;refine adr S 5 [] [(9,v9),(10,.i er2)] fun S=>agR<|gI _ _<|ag9 (fun _ dP=>?_);obtain⟨rfl,M,hm1,hm2⟩:=qZ.same ((qZ.below hd1 Ef)) (hd2);have xJ:=S.E;refine Sx.Sj S 21 [Rel.is (.slice la l.length lc),(fun v w1=>iT w1 v (Px.enc l)),Rel.is (.string ⟨(Px.enc l).toArray⟩),Rel.is (.slice la l.length lc),(fun v w1=>iT w1 v (Px.enc l)),Rel.is (.string ⟨(Px.enc l).toArray⟩),Rel.is (.bool true),Rel.is (.bool true),Rel.is (v7),Rel.is (v9),Rel.is (.bool true),Rel.is (.bool true),Rel.is (.bool true),Rel.is (.i er),Rel.is (.i er),Rel.is (.bool true),Rel.is (.bool true),Rel.is (.bool true),Rel.is (.bool true),Rel.is (.bool true),Rel.is (.bool true)] 20 6 (.bool true) ⟨Rel.aH _,fun _ _ _ e h=>aK.below h e,Rel.aH _,Rel.aH _,fun _ _ _ e h=>aK.below h e,Rel.aH _,Rel.aH _,Rel.aH _,Rel.aH _,Rel.aH _,Rel.aH _,Rel.aH _,Rel.aH _,Rel.aH _,Rel.aH _,Rel.aH _,Rel.aH _,Rel.aH _,Rel.aH _,Rel.aH _,Rel.aH _,trivial⟩ ⟨fun ρ u1 hs ho hC hD=>ag1 hs [(0,.slice la l.length lc)] ⟨(ho 0 rfl).trans (S.s.ev rfl),trivial⟩,
  fun ρ u1 hs ho hC hD=>Sx.dc (T:=fun v w1=>iT w1 v (Px.enc l)) hs [(32,.slice la l.length lc)] ⟨hD.1 rfl,trivial⟩ ((vC (aK.below h (Ext.trans' xJ hC)) (by omega)).mono fun e w2 ⟨v,h1,h2,h3⟩=>⟨v,h1,h3,rowB h2⟩),
  fun ρ u1 hs ho hC hD=>Sx.OZ (x:=33) (rfl) (fA (hD.1 rfl)),
  fun ρ u1 hs ho hC hD=>ag1 hs [(0,.slice la l.length lc)] ⟨(ho 0 rfl).trans (S.s.ev rfl),trivial⟩,
  fun ρ u1 hs ho hC hD=>Sx.dc (T:=fun v w1=>iT w1 v (Px.enc l)) hs [(35,.slice la l.length lc)] ⟨hD.1 rfl,trivial⟩ ((wJ (aK.below h (Ext.trans' xJ hC)) (by omega)).mono fun e w2 ⟨v,h1,h2,h3⟩=>⟨v,h1,h3,rowB h2⟩),
  fun ρ u1 hs ho hC hD=>Sx.OZ (x:=36) (rfl) (fA (hD.1 rfl)),
  fun ρ u1 hs ho hC hD=>Sx.Z9 (hD.1 rfl) (hD.2.1 rfl) (by simp),
  fun ρ u1 hs ho hC hD=>ag1 hs [(38,.bool true)] ⟨hD.1 rfl,trivial⟩,
  fun ρ u1 hs ho hC hD=>⟨fun _=>ag1 hs [(7,v7)] ⟨(ho 7 rfl).trans (S.s.ev rfl),trivial⟩,fun hn=>absurd (hD.1 rfl) hn⟩,
  fun ρ u1 hs ho hC hD=>⟨fun _=>ag1 hs [(9,v9)] ⟨(ho 9 rfl).trans (S.s.ev rfl),trivial⟩,fun hn=>absurd (hD.1 rfl) hn⟩,
  fun ρ u1 hs ho hC hD=>⟨fun _=>Sx.dc (T:=Rel.is (.bool true)) hs [(40,v7),(41,v9)] ⟨hD.1 rfl,hD.2.1 rfl,trivial⟩ ((wK (lW (aK.below hm1 hC) (aK.below hm2 hC)) (ahm Value.bool (ah0 rfl))).mono fun e w2 h=>⟨_,h.1,h.2,rfl⟩),fun hn=>absurd (hD.2.2.1 rfl) hn⟩,
  fun ρ u1 hs ho hC hD=>ag1 hs [(39,.bool true),(42,.bool true)] ⟨hD.1 rfl,hD.2.1 rfl,trivial⟩,
  fun ρ u1 hs ho hC hD=>ag1 hs [(43,.bool true)] ⟨hD.1 rfl,trivial⟩,
  fun ρ u1 hs ho hC hD=>⟨fun _=>ag1 hs [(8,.i er)] ⟨(ho 8 rfl).trans (S.s.ev rfl),trivial⟩,fun hn=>absurd (hD.1 rfl) hn⟩,
  fun ρ u1 hs ho hC hD=>⟨fun _=>ag1 hs [(10,.i er)] ⟨(ho 10 rfl).trans (S.s.ev rfl),trivial⟩,fun hn=>absurd (hD.1 rfl) hn⟩,
  fun ρ u1 hs ho hC hD=>⟨fun _=>Sx.dvb hs [(45,.i er),(46,.i er)] (er==er) ⟨hD.1 rfl,hD.2.1 rfl,trivial⟩ (by simp),fun hn=>absurd (hD.2.2.1 rfl) hn⟩,
  fun ρ u1 hs ho hC hD=>ag1 hs [(44,.bool true),(47,.bool true)] ⟨hD.1 rfl,hD.2.1 rfl,trivial⟩,
  fun ρ u1 hs ho hC hD=>ag1 hs [(48,.bool true)] ⟨hD.1 rfl,trivial⟩,
  fun ρ u1 hs ho hC hD=>⟨fun _=>Sx.dc (T:=Rel.is (.bool true)) hs [] trivial ((rQ (dV.below hg (Ext.trans' xJ hC))).mono fun e w2 h=>⟨_,h.1,h.2,rfl⟩),fun hn=>absurd (hD.1 rfl) hn⟩,
  fun ρ u1 hs ho hC hD=>ag1 hs [(49,.bool true),(50,.bool true)] ⟨hD.1 rfl,hD.2.1 rfl,trivial⟩,
  fun ρ u1 hs ho hC hD=>ag1 hs [(51,.bool true)] ⟨hD.1 rfl,trivial⟩,trivial⟩ (fun ac u Jm S=>?_) rfl
 refine agR<|dP _ _<|agV S Tryz.results3 ?_;exact⟨rfl,S.E⟩
theorem WH{l m:List aO}(hl:l.length≤300)(hm:m.length≤300):(Px.enc l==Px.enc m)=decide (l=m):=by
 rw[aif,ahu,ahK];exact⟨fun h=>Px.EN (by omega) (by omega) h,fun h=>by rw[h]⟩
theorem lX{w:World}{p q:G5}{n:Int}(h:kL w p.v p.l)(h':kL w q.v q.l)(hn:0≤n∧n≤65535)(hg:dV w) :
  Calls Tryz.prog 4 #[p.v,q.v,.int .u16 n] w fun r w'=>r = .returned (.bool true)∧Ext w w':=by
 obtain⟨la,lc,l⟩:=p;obtain⟨ma,mc,m⟩:=q;have h:kL w (.slice la l.length lc) l:=h;have h':kL w (.slice ma m.length mc) m:=h';refine agX Tryz.func4 Tryz.ntmps4 fun ac S=>agS fun _ aX=>adr S 1 [] [(6,.bool false)] fun S=>agR<|aX _ _<|ag9 fun _ fH=>agS fun _ jK=>adr S 1 [] [(12,.slice la l.length lc)] fun S=>ag0 S 13 (vk (aK.below h S.E)) fun ac u E4 S=>Sx.oQ S 6 [] [(_,_,(!(!(decide ((l.length:Int)≤300)))),.bool ((m.length:Int)≤300))] [(19,.bool ((!(decide ((l.length:Int)≤300)))||(!(decide ((m.length:Int)≤300)))))] ⟨fun u hC g=>vk (aK.below h' (Ext.trans' S.E hC)),trivial⟩ fun ac u E5 S=>agR (jK _ _ ?_);refine agU S (fun hc6=>?_) (fun hc6=>?_)
 ·refine agS fun _ jf=>ag0 S 20 (rQ (dV.below hg S.E)) fun ac u E8 S=>adr S 1 [] [(6,.bool true)] fun S=>agR<|jf _ _<|agV S Tryz.results4 ?_;exact⟨rfl,S.E⟩
 have hl3:l.length≤300∧m.length≤300:=by simp at hc6; omega
 refine aha<|fH _ _<|agS fun _ iP=>adr S 1 [] [(21,.slice la l.length lc)] fun S=>agZ S (some 22) (vC (aK.below h S.E) (by omega)) ?_;rintro e u ⟨v7,rfl,ho7,Vz⟩;refine⟨_,rfl,Vz,fun ac S=>?_⟩;refine adr S 1 [] [(7,v7)] fun S=>agR<|iP _ _<|agS fun _ dB=>adr S 3 [] [(24,v7),(26,.i l.length)] fun S=>agZ S (some 27) (vw (n:=(l.length:Int)) ((rowB ho7)) (by omega)) ?_;rintro e u ⟨w1,er1,rfl,hd1,vV⟩;refine⟨_,rfl,vV,fun ac S=>?_⟩;refine adr S 5 [] [(8,w1),(9,.i er1)] fun S=>agR<|dB _ _<|ag9 fun _ gX=>ag9 (fun _ fP=>?_);obtain⟨rfl,hp1⟩:=(qZ.enc (hd1) hl3.1 (by omega)).1 rfl;have xJ:=S.E;have ab9:=(aK.below (rowB ho7) vV);refine Sx.Sj S 20 [Rel.is (.i 0),Rel.is (.bool false),Rel.is (.bool false),Rel.is (w1),Rel.is (.slice la l.length lc),Rel.is (.bool true),Rel.is (.bool false),Rel.is (.bool false),Rel.is (.bool false),Rel.is (v7),Rel.is (.string ⟨(Px.enc l).toArray⟩),Rel.is (.slice ma m.length mc),(fun v w1=>iT w1 v (Px.enc m)),Rel.is (.string ⟨(Px.enc m).toArray⟩),Rel.is (.bool (l=m)),Rel.is (.slice la l.length lc),Rel.is (.slice ma m.length mc),Rel.is (.bool (l=m)),Rel.is (.bool false),Rel.is (.bool false)] 19 49 (.bool false) ⟨Rel.aH _,Rel.aH _,Rel.aH _,Rel.aH _,Rel.aH _,Rel.aH _,Rel.aH _,Rel.aH _,Rel.aH _,Rel.aH _,Rel.aH _,Rel.aH _,fun _ _ _ e h=>aK.below h e,Rel.aH _,Rel.aH _,Rel.aH _,Rel.aH _,Rel.aH _,Rel.aH _,Rel.aH _,trivial⟩ ⟨fun ρ u1 hs ho hC hD=>ag1 hs [(9,.i 0)] ⟨(ho 9 rfl).trans (S.s.ev rfl),trivial⟩,
  fun ρ u1 hs ho hC hD=>ag1 hs [(30,.i 0)] ⟨hD.1 rfl,trivial⟩,
  fun ρ u1 hs ho hC hD=>ag1 hs [(31,.bool false)] ⟨hD.1 rfl,trivial⟩,
  fun ρ u1 hs ho hC hD=>⟨fun _=>ag1 hs [(8,w1)] ⟨(ho 8 rfl).trans (S.s.ev rfl),trivial⟩,fun hn=>absurd (hD.1 rfl) hn⟩,
  fun ρ u1 hs ho hC hD=>⟨fun _=>ag1 hs [(0,.slice la l.length lc)] ⟨(ho 0 rfl).trans (S.s.ev rfl),trivial⟩,fun hn=>absurd (hD.1 rfl) hn⟩,
  fun ρ u1 hs ho hC hD=>⟨fun _=>Sx.dc (T:=Rel.is (.bool true)) hs [(33,w1),(34,.slice la l.length lc)] ⟨hD.1 rfl,hD.2.1 rfl,trivial⟩ ((wK (lW (aK.below hp1 hC) (aK.below h (Ext.trans' xJ hC))) (ahm Value.bool (ah0 rfl))).mono fun e w2 h=>⟨_,h.1,h.2,rfl⟩),fun hn=>absurd (hD.2.2.1 rfl) hn⟩,
  fun ρ u1 hs ho hC hD=>⟨fun _=>ag1 hs [(35,.bool true)] ⟨hD.1 rfl,trivial⟩,fun hn=>absurd (hD.2.1 rfl) hn⟩,
  fun ρ u1 hs ho hC hD=>ag1 hs [(32,.bool false),(36,.bool false)] ⟨hD.1 rfl,hD.2.1 rfl,trivial⟩,
  fun ρ u1 hs ho hC hD=>ag1 hs [(37,.bool false)] ⟨hD.1 rfl,trivial⟩,
  fun ρ u1 hs ho hC hD=>⟨fun _=>ag1 hs [(7,v7)] ⟨(ho 7 rfl).trans (S.s.ev rfl),trivial⟩,fun hn=>absurd (hD.1 rfl) hn⟩,
  fun ρ u1 hs ho hC hD=>⟨fun _=>Sx.OZ (x:=39) (hD.1 rfl) (fA (aK.below ab9 hC)),fun hn=>absurd (hD.2.1 rfl) hn⟩,
  fun ρ u1 hs ho hC hD=>⟨fun _=>ag1 hs [(1,.slice ma m.length mc)] ⟨(ho 1 rfl).trans (S.s.ev rfl),trivial⟩,fun hn=>absurd (hD.1 rfl) hn⟩,
  fun ρ u1 hs ho hC hD=>⟨fun _=>Sx.dc (T:=fun v w1=>iT w1 v (Px.enc m)) hs [(41,.slice ma m.length mc)] ⟨hD.1 rfl,trivial⟩ ((vC (aK.below h' (Ext.trans' xJ hC)) (by omega)).mono fun e w2 ⟨v,h1,h2,h3⟩=>⟨v,h1,h3,rowB h2⟩),fun hn=>absurd (hD.2.1 rfl) hn⟩,
  fun ρ u1 hs ho hC hD=>⟨fun _=>Sx.OZ (x:=42) (rfl) (fA (hD.1 rfl)),fun hn=>absurd (hD.2.1 rfl) hn⟩,
  fun ρ u1 hs ho hC hD=>⟨fun _=>Sx.Z9 (hD.1 rfl) (hD.2.1 rfl) (WH hl3.1 hl3.2),fun hn=>absurd (hD.2.2.1 rfl) hn⟩,
  fun ρ u1 hs ho hC hD=>⟨fun _=>ag1 hs [(0,.slice la l.length lc)] ⟨(ho 0 rfl).trans (S.s.ev rfl),trivial⟩,fun hn=>absurd (hD.1 rfl) hn⟩,
  fun ρ u1 hs ho hC hD=>⟨fun _=>ag1 hs [(1,.slice ma m.length mc)] ⟨(ho 1 rfl).trans (S.s.ev rfl),trivial⟩,fun hn=>absurd (hD.1 rfl) hn⟩,
  fun ρ u1 hs ho hC hD=>⟨fun _=>Sx.dc (T:=Rel.is (.bool (l=m))) hs [(45,.slice la l.length lc),(46,.slice ma m.length mc)] ⟨hD.1 rfl,hD.2.1 rfl,trivial⟩ ((lW (aK.below h (Ext.trans' xJ hC)) (aK.below h' (Ext.trans' xJ hC))).mono fun e w2 h=>⟨_,h.1,h.2,rfl⟩),fun hn=>absurd (hD.2.2.2.1 rfl) hn⟩,
  fun ρ u1 hs ho hC hD=>⟨fun _=>Sx.dvb hs [(44,.bool (l=m)),(47,.bool (l=m))] (!(decide (l=m)==decide (l=m))) ⟨hD.1 rfl,hD.2.1 rfl,trivial⟩ (by simp),fun hn=>absurd (hD.2.2.1 rfl) hn⟩,
  fun ρ u1 hs ho hC hD=>ag1 hs [(38,.bool false),(48,.bool false)] ⟨hD.1 rfl,hD.2.1 rfl,trivial⟩,trivial⟩ (fun ac u CO S=>?_) rfl
 refine agR<|fP _ _<|ag5 S<|aha<|gX _ _<|agS fun _ kG=>adr S 3 [.re 53 (.i (IntKind.i64.wrap n)) (.i n)] [(51,v7),(53,.i n)] (hk:=⟨(Sx.iL rfl (by omega)),trivial⟩) fun S=>agZ S (some 54) (vw (n:=n) ((aK.below ab9 CO)) (by omega)) ?_;rintro e u ⟨w2,er2,rfl,hd2,yI⟩;refine⟨_,rfl,yI,fun ac S=>?_⟩;refine adr S 5 [] [(10,w2),(11,.i er2)] fun S=>agR<|kG _ _<|ag9 fun _ jE=>agS (fun _ kX=>?_);by_cases hq:n=(l.length:Int)
 ·obtain⟨rfl,hp2⟩:=(qZ.enc (hd2) hl3.1 (by omega)).1 hq;refine adr S 5 [.re 58 (.i (IntKind.i64.wrap n)) (.i n),.re 61 (.bool ((n)==(l.length:Int))) (.bool true)] [(61,.bool true)] (hk:=⟨(Sx.iL rfl (by omega)),(ahm Value.bool (by simp[hq])),trivial⟩) fun S=>agR<|kX _ _<|ag4 S<|agS fun _ kH=>adr S 5 [] [(64,.bool true),(65,w2),(66,.slice la l.length lc)] fun S=>Sx.qA S (some 67) (wK (lW (hp2) (aK.below h S.E)) (ahm Value.bool (ah0 rfl))) ?_;rintro e u ⟨rfl,EL⟩;refine⟨_,rfl,EL,fun ac S=>?_⟩;refine adr S 2 [] [(69,.bool true)] fun S=>Sx.qA S (some 70) (rQ (dV.below hg S.E)) ?_;rintro e u ⟨rfl,VD⟩;refine⟨_,rfl,VD,fun ac S=>?_⟩;refine adr S 2 [] [(6,.bool true)] fun S=>agR<|kH _ _<|agV S Tryz.results4 ?_;exact⟨rfl,S.E⟩
 obtain⟨rfl,qa,qc,rfl⟩:=(qZ.enc (hd2) hl3.1 (by omega)).2 hq;refine adr S 5 [.re 58 (.i (IntKind.i64.wrap n)) (.i n),.re 61 (.bool ((n)==(l.length:Int))) (.bool false)] [(61,.bool false)] (hk:=⟨(Sx.iL rfl (by omega)),(ahm Value.bool (by simp[hq])),trivial⟩) fun S=>agR<|kX _ _<|ag5 S<|aha<|jE _ _<|agS fun _ uN=>adr S 8 [] [(79,.bool true)] fun S=>Sx.qA S (some 80) (rQ (dV.below hg S.E)) ?_;rintro e u ⟨rfl,WI⟩;refine⟨_,rfl,WI,fun ac S=>?_⟩;refine adr S 2 [] [(6,.bool true)] fun S=>agR<|uN _ _<|agV S Tryz.results4 ?_;exact⟨rfl,S.E⟩
end Go.Proofs.YtiafijffnejhoaaGreatDoor
