/- The law of chapter 46 on injectivity. -/
import Derived.Test.YtapmgonflgahbaaGreatDoorPk40
import Derived.Test.YtapmgonflgahbaaGreatDoorEnInj
namespace Go.Proofs.YtapmgonflgahbaaGreatDoor
open _root_.Go.Proofs.Tryz
open Go.RowKit En
variable{α:Type}{K:Nat}
set_option linter.unusedVariables false
theorem II.ext{base:Nat}{w w':World}{s:iO}{v:Value}{er:Int}(h:II base w s v er)(e:Ext w w'):II base w' s v er:=by
 rcases h with ⟨h1,h2,h3⟩ | h
 ·exact .inl ⟨h1,Sx.bM h2 e,h3⟩
 exact .inr h
theorem UK{m n:List UInt8}(h:dL.app m=dL.app n):m=n:=by
 have hl:m.length=n.length:=by have:=aic List.length h; simp[dL.app,dL.le4]at this; omega
 unfold dL.app at h;exact(List.append_inj h hl).1
theorem Qv{w:World}{s t:bC}(h:gQ K w s)(h':gQ K w t)(hv:s.key.valid=true)(hv':t.key.valid=true):(dL.app (jD s.key)==dL.app (jD t.key))=decide (s.key=t.key):=by
 rw[ai4,aiv,aiz];exact⟨fun e=>(KN h h' hv hv' [] [] (by rw[UK e])).1,fun e=>by rw[e]⟩
theorem UL{w:World}{m n:aA}(h:m.ok w)(h':n.ok w)(hv:m.checkN=0)(hv':n.checkN=0):(fH false m.key==fH false n.key)=decide (m.key=n.key):=by
 rw[ai4,aiv,aiz];exact⟨fun e=>(Ef h h' hv hv' [] [] (by rw[e])).1,fun e=>by rw[e]⟩
set_option maxRecDepth 100000 in
set_option maxHeartbeats 3200000 in
theorem rW{w:World}{s t:bC}{m n:aA}(h:s.ok w)(h':t.ok w)(hm:m.ok w)(hn:n.ok w)(hg:bW w) :
  Calls prog 8 #[s.v,t.v,m.v,n.v] w fun r w'=>r = .returned (.bool true)∧Ext w w':=by
 skip;refine ahO func8 ntmps8 fun ac S=>ahK fun _ aY=>ahL S 4 s.cells fun ac u b2 E3 hb4 S=>ahL S 5 t.cells fun ac u b5 E6 hb7 S=>ahL S 6 m.cells fun ac u b8 E9 Dx S=>ahL S 7 n.cells fun ac u b11 yw Yu S=>adr S 1 [] [(8,.z)] fun S=>ahJ<|aY _ _<|ah2 fun _ gU=>ahK fun _ iJ=>adr S 1 [.mem 3 0] [(13,s.v)] fun S=>ahS S 14 (yx ⟨(h.2.2.1.below S.E),fun n hn=>(h.2.2.2 n hn).below S.E⟩ 8) fun ac u XF S=>Sx.nV S 16 [.mem 2 0,.mem 1 0,.mem 0 0] [(_,_,(!(!(s.few 8))),.bool (t.few 8)),(_,_,(!((!(s.few 8))||(!(t.few 8)))),.bool m.iZ),(_,_,(!(((!(s.few 8))||(!(t.few 8)))||(!m.iZ))),.bool n.iZ)] [(30,.bool ((((!(s.few 8))||(!(t.few 8)))||(!m.iZ))||(!n.iZ)))] ⟨fun u hC g=>yx ⟨(h'.2.2.1.below (Ext.trans' S.E hC)),fun n hn=>(h'.2.2.2 n hn).below (Ext.trans' S.E hC)⟩ 8,fun u hC g=>sJ (hm.below (Ext.trans' S.E hC)),fun u hC g=>sJ (hn.below (Ext.trans' S.E hC)),trivial⟩ fun ac u yu S=>ahJ (iJ _ _ ?_);refine ahN S (fun hc18=>?_) (fun hc18=>?_)
 ·refine ahK fun _ kX=>ahS S 31 (lV (bW.below hg S.E)) fun ac u Aa S=>adr S 1 [] [(8,.bool true)] fun S=>ahJ<|kX _ _<|ahM S results8 ?_;exact⟨rfl,S.E⟩
 have hc0:s.few 8=true∧t.few 8=true∧m.iZ=true∧n.iZ=true:=by have:=hc18; simp at this; simp[this]
 have hS0:=(Bh hc0.1 h.1 h.2.1 h.2.2).1;have hT0:=(Bh hc0.2.1 h'.1 h'.2.1 h'.2.2).1;have hM:=(qX hc0.2.2.1 hm).1;have hN:=(qX hc0.2.2.2 hn).1;refine ah4<|gU _ _<|ahK fun _ mX=>adr S 1 [.mem 3 0] [(33,s.v)] fun S=>ahQ S (some 34) (mM (hS0.below S.E) (bW.below hg S.E)) ?_;rintro e u ⟨v1,er1,rfl,hsc1,TK⟩;refine⟨_,rfl,TK,fun ac S=>?_⟩;refine adr S 5 [] [(9,v1),(10,.i er1)] fun S=>ahJ<|mX _ _<|ahK fun _ pR=>adr S 1 [.mem 2 0] [(38,t.v)] fun S=>ahQ S (some 39) (mM (hT0.below S.E) (bW.below hg S.E)) ?_;rintro e u ⟨v2,er2,rfl,hsc2,N8⟩;refine⟨_,rfl,N8,fun ac S=>?_⟩;refine adr S 5 [] [(11,v2),(12,.i er2)] fun S=>ahJ<|pR _ _<|ah2 (fun κq vI=>?_);have J26:∀  (ac:Act) (u:World),Sx.St w ac u 83 [(4,.q b2 0),(5,.q b5 0),(6,.q b8 0),(7,.q b11 0)] [(b11,n.cells),(b8,m.cells),(b5,t.cells),(b2,s.cells)] []→κq ac u:=by
  intro  ac u  S;refine vI _ _<|ah2 (fun _ l9=>?_);by_cases zm:m.checkN=0
  ·have hvm:(m.checkN==0)=true:=by simp[zm]
   by_cases zn:n.checkN=0
   ·have hvn:(n.checkN==0)=true:=by simp[zn]
    have uo:=S.E;obtain⟨qq,IJ⟩:∃q,decide (m.key=n.key)=q:=⟨_,rfl⟩;have hqq:=(UL hm hn zm zn).trans IJ;refine Sx.UM S 25 [Rel.is (m.v),Rel.is (.bool true),Rel.is (.z),Rel.is (.z),Rel.is (n.v),Rel.is (.bool true),Rel.is (.z),Rel.is (.z),Rel.is (.z),Rel.is (m.v),(fun v w1=>kZ w1 v (fH false m.key)),Rel.is (.string ⟨(fH false m.key).toArray⟩),Rel.is (n.v),(fun v w1=>kZ w1 v (fH false n.key)),Rel.is (.string ⟨(fH false n.key).toArray⟩),Rel.is (.bool qq),Rel.is (m.v),Rel.is (n.v),Rel.is (.bool qq),Rel.is (.bool true),Rel.is (.bool true),Rel.is (.bool true),Rel.is (.bool true),Rel.is (.bool true),Rel.is (.bool true)] 24 8 (.bool true) ⟨Rel.aG _,Rel.aG _,Rel.aG _,Rel.aG _,Rel.aG _,Rel.aG _,Rel.aG _,Rel.aG _,Rel.aG _,Rel.aG _,fun _ _ _ e h=>aN.below h e,Rel.aG _,Rel.aG _,fun _ _ _ e h=>aN.below h e,Rel.aG _,Rel.aG _,Rel.aG _,Rel.aG _,Rel.aG _,Rel.aG _,Rel.aG _,Rel.aG _,Rel.aG _,Rel.aG _,Rel.aG _,trivial⟩ ⟨fun ρ u1 hs ho hC hD=>Sx.Qw ((ho 6 rfl).trans (S.s.ev rfl)) (((S.bx 1).ext hC).range 0 47 rfl),
     fun ρ u1 hs ho hC hD=>Sx.dc (T:=Rel.is (.bool true)) hs [(59,m.v)] ⟨hD.1 rfl,trivial⟩ ((kR (iF (hM.below (Ext.trans' uo hC)) (bW.below hg (Ext.trans' uo hC))) (aic Value.bool hvm)).mono fun e w2 h=>⟨_,h.1,h.2,rfl⟩),
     fun ρ u1 hs ho hC hD=>ahT hs [(60,.bool true)] ⟨hD.1 rfl,trivial⟩,
     fun ρ u1 hs ho hC hD=>ahT hs [(61,.z)] ⟨hD.1 rfl,trivial⟩,
     fun ρ u1 hs ho hC hD=>⟨fun _=>Sx.Qw ((ho 7 rfl).trans (S.s.ev rfl)) (((S.bx 0).ext hC).range 0 47 rfl),fun hn=>absurd (hD.1 rfl) hn⟩,
     fun ρ u1 hs ho hC hD=>⟨fun _=>Sx.dc (T:=Rel.is (.bool true)) hs [(63,n.v)] ⟨hD.1 rfl,trivial⟩ ((kR (iF (hN.below (Ext.trans' uo hC)) (bW.below hg (Ext.trans' uo hC))) (aic Value.bool hvn)).mono fun e w2 h=>⟨_,h.1,h.2,rfl⟩),fun hn=>absurd (hD.2.1 rfl) hn⟩,
     fun ρ u1 hs ho hC hD=>⟨fun _=>ahT hs [(64,.bool true)] ⟨hD.1 rfl,trivial⟩,fun hn=>absurd (hD.2.1 rfl) hn⟩,
     fun ρ u1 hs ho hC hD=>ahT hs [(62,.z),(65,.z)] ⟨hD.1 rfl,hD.2.1 rfl,trivial⟩,
     fun ρ u1 hs ho hC hD=>ahT hs [(66,.z)] ⟨hD.1 rfl,trivial⟩,
     fun ρ u1 hs ho hC hD=>⟨fun _=>Sx.Qw ((ho 6 rfl).trans (S.s.ev rfl)) (((S.bx 1).ext hC).range 0 47 rfl),fun hn=>absurd (hD.1 rfl) hn⟩,
     fun ρ u1 hs ho hC hD=>⟨fun _=>Sx.dc (T:=fun v w1=>kZ w1 v (fH false m.key)) hs [(68,m.v)] ⟨hD.1 rfl,trivial⟩ ((sK (hM.below (Ext.trans' uo hC)) (bW.below hg (Ext.trans' uo hC))).mono fun e w2 ⟨v,h1,h2,h3⟩=>⟨v,h1,h3,by rw[aib zm]at h2; exact rowB h2⟩),fun hn=>absurd (hD.2.1 rfl) hn⟩,
     fun ρ u1 hs ho hC hD=>⟨fun _=>Sx.Qx (x:=69) (rfl) (gY (hD.1 rfl)),fun hn=>absurd (hD.2.1 rfl) hn⟩,
     fun ρ u1 hs ho hC hD=>⟨fun _=>Sx.Qw ((ho 7 rfl).trans (S.s.ev rfl)) (((S.bx 0).ext hC).range 0 47 rfl),fun hn=>absurd (hD.1 rfl) hn⟩,
     fun ρ u1 hs ho hC hD=>⟨fun _=>Sx.dc (T:=fun v w1=>kZ w1 v (fH false n.key)) hs [(71,n.v)] ⟨hD.1 rfl,trivial⟩ ((sK (hN.below (Ext.trans' uo hC)) (bW.below hg (Ext.trans' uo hC))).mono fun e w2 ⟨v,h1,h2,h3⟩=>⟨v,h1,h3,by rw[aib zn]at h2; exact rowB h2⟩),fun hn=>absurd (hD.2.2.1 rfl) hn⟩,
     fun ρ u1 hs ho hC hD=>⟨fun _=>Sx.Qx (x:=72) (rfl) (gY (hD.1 rfl)),fun hn=>absurd (hD.2.1 rfl) hn⟩,
     fun ρ u1 hs ho hC hD=>⟨fun _=>Sx.abo (hD.1 rfl) (hD.2.1 rfl) hqq,fun hn=>absurd (hD.2.2.1 rfl) hn⟩,
     fun ρ u1 hs ho hC hD=>⟨fun _=>Sx.Qw ((ho 6 rfl).trans (S.s.ev rfl)) (((S.bx 1).ext hC).range 0 47 rfl),fun hn=>absurd (hD.1 rfl) hn⟩,
     fun ρ u1 hs ho hC hD=>⟨fun _=>Sx.Qw ((ho 7 rfl).trans (S.s.ev rfl)) (((S.bx 0).ext hC).range 0 47 rfl),fun hn=>absurd (hD.1 rfl) hn⟩,
     fun ρ u1 hs ho hC hD=>⟨fun _=>Sx.dc (T:=Rel.is (.bool qq)) hs [(75,m.v),(76,n.v)] ⟨hD.1 rfl,hD.2.1 rfl,trivial⟩ ((kR (FZ (hM.below (Ext.trans' uo hC)) (hN.below (Ext.trans' uo hC))) (aic Value.bool IJ)).mono fun e w2 h=>⟨_,h.1,h.2,rfl⟩),fun hn=>absurd (hD.2.2.2.1 rfl) hn⟩,
     fun ρ u1 hs ho hC hD=>⟨fun _=>Sx.dvb hs [(74,.bool qq),(77,.bool qq)] (qq==qq) ⟨hD.1 rfl,hD.2.1 rfl,trivial⟩ (by simp),fun hn=>absurd (hD.2.2.1 rfl) hn⟩,
     fun ρ u1 hs ho hC hD=>ahT hs [(67,.z),(78,.bool true)] ⟨hD.1 rfl,hD.2.1 rfl,trivial⟩,
     fun ρ u1 hs ho hC hD=>ahT hs [(79,.bool true)] ⟨hD.1 rfl,trivial⟩,
     fun ρ u1 hs ho hC hD=>⟨fun _=>Sx.dc (T:=Rel.is (.bool true)) hs [] trivial ((lV (bW.below hg (Ext.trans' uo hC))).mono fun e w2 h=>⟨_,h.1,h.2,rfl⟩),fun hn=>absurd (hD.1 rfl) hn⟩,
     fun ρ u1 hs ho hC hD=>ahT hs [(80,.bool true),(81,.bool true)] ⟨hD.1 rfl,hD.2.1 rfl,trivial⟩,
     fun ρ u1 hs ho hC hD=>ahT hs [(82,.bool true)] ⟨hD.1 rfl,trivial⟩,trivial⟩ (fun ac u E28 S=>?_) rfl
    refine ahJ<|l9 _ _<|ahM S results8 ?_;exact⟨rfl,S.E⟩
   have hvn:(n.checkN==0)=false:=by simp[zn]
   refine ahW S 24 [.mem 1 0,.mem 0 0,.dead 68 (.z),.dead 69 (.z),.dead 70 (.z),.dead 71 (.z),.dead 72 (.z),.dead 73 (.z),.dead 74 (.z),.dead 75 (.z),.dead 76 (.z),.dead 77 (.z),.dead 78 (.z)] [(_,_,true,.bool true),(_,_,true,.z),(_,_,true,.bool true)] [(82,.bool true)] ⟨fun u hC g=>kR (iF (hM.below (Ext.trans' S.E hC)) (bW.below hg (Ext.trans' S.E hC))) (aic Value.bool hvm),fun u hC g=>kR (iF (hN.below (Ext.trans' S.E hC)) (bW.below hg (Ext.trans' S.E hC))) (aic Value.bool hvn),fun u hC g=>lV (bW.below hg (Ext.trans' S.E hC)),trivial⟩ fun ac u zA S=>adr S 1 [] [(8,.bool true)] fun S=>ahJ<|l9 _ _<|ahM S results8 ?_;exact⟨rfl,S.E⟩
  have hvm:(m.checkN==0)=false:=by simp[zm]
  refine ahW S 24 [.mem 1 0,.dead 63 (.z),.dead 64 (.z),.dead 65 (.z),.dead 68 (.z),.dead 69 (.z),.dead 70 (.z),.dead 71 (.z),.dead 72 (.z),.dead 73 (.z),.dead 74 (.z),.dead 75 (.z),.dead 76 (.z),.dead 77 (.z),.dead 78 (.z)] [(_,_,true,.z),(_,_,true,.bool true)] [(82,.bool true)] ⟨fun u hC g=>kR (iF (hM.below (Ext.trans' S.E hC)) (bW.below hg (Ext.trans' S.E hC))) (aic Value.bool hvm),fun u hC g=>lV (bW.below hg (Ext.trans' S.E hC)),trivial⟩ fun ac u E30 S=>adr S 1 [] [(8,.bool true)] fun S=>ahJ<|l9 _ _<|ahM S results8 ?_;exact⟨rfl,S.E⟩
 refine ah2 (fun _ qj=>?_);have hd1:=((II.ext hsc1 N8));have hd2:=hsc2;clear hsc1 hsc2;rcases hd1 with ⟨vs1,o1,q1⟩ | ⟨vs1,q0,q1⟩
 ·subst q1;rcases hd2 with ⟨vs2,o2,q2⟩ | ⟨vs2,q0,q2⟩
  ·subst q2;have uo:=S.E;obtain⟨qq,IJ⟩:∃q,decide (s.key=t.key)=q:=⟨_,rfl⟩;have hqq:=(Qv hS0 hT0 vs1 vs2).trans IJ;refine Sx.UM S 17 [Rel.is (.i 0),Rel.is (.bool true),Rel.is (.bool true),Rel.is (.i 0),Rel.is (.bool true),Rel.is (.bool true),Rel.is (.bool true),Rel.is (v1),Rel.is (.string ⟨(dL.app (jD s.key)).toArray⟩),Rel.is (v2),Rel.is (.string ⟨(dL.app (jD t.key)).toArray⟩),Rel.is (.bool qq),Rel.is (s.v),Rel.is (t.v),Rel.is (.bool qq),Rel.is (.z),Rel.is (.z)] 16 58 (.z) ⟨Rel.aG _,Rel.aG _,Rel.aG _,Rel.aG _,Rel.aG _,Rel.aG _,Rel.aG _,Rel.aG _,Rel.aG _,Rel.aG _,Rel.aG _,Rel.aG _,Rel.aG _,Rel.aG _,Rel.aG _,Rel.aG _,Rel.aG _,trivial⟩ ⟨fun ρ u1 hs ho hC hD=>ahT hs [(10,.i 0)] ⟨(ho 10 rfl).trans (S.s.ev rfl),trivial⟩,
    fun ρ u1 hs ho hC hD=>ahT hs [(42,.i 0)] ⟨hD.1 rfl,trivial⟩,
    fun ρ u1 hs ho hC hD=>ahT hs [(43,.bool true)] ⟨hD.1 rfl,trivial⟩,
    fun ρ u1 hs ho hC hD=>⟨fun _=>ahT hs [(12,.i 0)] ⟨(ho 12 rfl).trans (S.s.ev rfl),trivial⟩,fun hn=>absurd (hD.1 rfl) hn⟩,
    fun ρ u1 hs ho hC hD=>⟨fun _=>ahT hs [(45,.i 0)] ⟨hD.1 rfl,trivial⟩,fun hn=>absurd (hD.2.1 rfl) hn⟩,
    fun ρ u1 hs ho hC hD=>ahT hs [(44,.bool true),(46,.bool true)] ⟨hD.1 rfl,hD.2.1 rfl,trivial⟩,
    fun ρ u1 hs ho hC hD=>ahT hs [(47,.bool true)] ⟨hD.1 rfl,trivial⟩,
    fun ρ u1 hs ho hC hD=>⟨fun _=>ahT hs [(9,v1)] ⟨(ho 9 rfl).trans (S.s.ev rfl),trivial⟩,fun hn=>absurd (hD.1 rfl) hn⟩,
    fun ρ u1 hs ho hC hD=>⟨fun _=>Sx.Qx (x:=49) (hD.1 rfl) (pX (Sx.bM o1 hC)),fun hn=>absurd (hD.2.1 rfl) hn⟩,
    fun ρ u1 hs ho hC hD=>⟨fun _=>ahT hs [(11,v2)] ⟨(ho 11 rfl).trans (S.s.ev rfl),trivial⟩,fun hn=>absurd (hD.1 rfl) hn⟩,
    fun ρ u1 hs ho hC hD=>⟨fun _=>Sx.Qx (x:=51) (hD.1 rfl) (pX (Sx.bM o2 hC)),fun hn=>absurd (hD.2.1 rfl) hn⟩,
    fun ρ u1 hs ho hC hD=>⟨fun _=>Sx.abo (hD.1 rfl) (hD.2.1 rfl) hqq,fun hn=>absurd (hD.2.2.1 rfl) hn⟩,
    fun ρ u1 hs ho hC hD=>⟨fun _=>Sx.Qw ((ho 4 rfl).trans (S.s.ev rfl)) (((S.bx 3).ext hC).range 0 7 rfl),fun hn=>absurd (hD.1 rfl) hn⟩,
    fun ρ u1 hs ho hC hD=>⟨fun _=>Sx.Qw ((ho 5 rfl).trans (S.s.ev rfl)) (((S.bx 2).ext hC).range 0 7 rfl),fun hn=>absurd (hD.1 rfl) hn⟩,
    fun ρ u1 hs ho hC hD=>⟨fun _=>Sx.dc (T:=Rel.is (.bool qq)) hs [(54,s.v),(55,t.v)] ⟨hD.1 rfl,hD.2.1 rfl,trivial⟩ ((kR (IK (hS0.below (Ext.trans' uo hC)) (hT0.below (Ext.trans' uo hC))) (aic Value.bool IJ)).mono fun e w2 h=>⟨_,h.1,h.2,rfl⟩),fun hn=>absurd (hD.2.2.1 rfl) hn⟩,
    fun ρ u1 hs ho hC hD=>⟨fun _=>Sx.dvb hs [(53,.bool qq),(56,.bool qq)] (qq != qq) ⟨hD.1 rfl,hD.2.1 rfl,trivial⟩ (by simp),fun hn=>absurd (hD.2.2.1 rfl) hn⟩,
    fun ρ u1 hs ho hC hD=>ahT hs [(48,.bool true),(57,.z)] ⟨hD.1 rfl,hD.2.1 rfl,trivial⟩,trivial⟩ (fun ac u E32 S=>?_) rfl
   refine ahJ<|qj _ _<|ahX S<|ah4 ?_;exact J26  _ _  S.sn
  subst q2;refine ahW S 17 [.dead 49 (.z),.dead 50 (.z),.dead 51 (.z),.dead 52 (.z),.dead 53 (.z),.dead 54 (.z),.dead 55 (.z),.dead 56 (.z),.dead 57 (.z)] [] [(58,.z)] trivial fun ac u E33 S=>ahJ<|qj _ _<|ahX S<|ah4 ?_;exact J26  _ _  S.sn
 subst q1;refine ahW S 17 [.dead 45 (.z),.dead 46 (.z),.dead 49 (.z),.dead 50 (.z),.dead 51 (.z),.dead 52 (.z),.dead 53 (.z),.dead 54 (.z),.dead 55 (.z),.dead 56 (.z),.dead 57 (.z)] [] [(58,.z)] trivial fun ac u PL S=>ahJ<|qj _ _<|ahX S<|ah4 ?_;exact J26  _ _  S.sn
end Go.Proofs.YtapmgonflgahbaaGreatDoor
