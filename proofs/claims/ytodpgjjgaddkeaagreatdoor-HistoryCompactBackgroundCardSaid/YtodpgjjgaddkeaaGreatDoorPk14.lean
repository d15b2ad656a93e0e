/- Drawn regions of a lazy walk whose operations must be -/
import Derived.Test.YtodpgjjgaddkeaaGreatDoorImg
import Derived.Great.BuildSlice
set_option maxHeartbeats 3200000
set_option maxRecDepth 100000
set_option linter.unusedVariables false
set_option linter.unusedSimpArgs false
section
namespace Go.Sx
open Go.Proofs.YtodpgjjgaddkeaaGreatDoor Go.RowKit Go.Rel Go.Sx Go.Vp
section
variable{P:Program}{B:Exit->Act->World->Prop}{n:Nat}{w0 w:World}{a:Act}{bl:List (Nat×List Value)}{vs:List fD}{z:Zt}
def rgF(r:Nat):Code->List Oper
 | .region id ops _=>if id==r then ops.toList else []
 | .seq a b=>match rgF r a with | []=>rgF r b | l=>l
 | .cond _ a b=>match rgF r a with | []=>rgF r b | l=>l
 | .block _ c=>rgF r c
 | .loop c=>rgF r c
 | _=>[]
def Q9(fn:Func)(r:Nat):List Oper:=rgF r (fn.body.getD .skip)
variable{fn:Func}{r:Nat}
theorem Yp(S:St w0 a w n z.l bl vs)(fn:Func)(r:Nat)(h:∀{a'},St w0 a' w n (zN P n z).l bl vs->∀id,(Code.region id (Q9 fn r).toArray true).wp P (zp P B (zK (zN P n z))) a' w)(hr:Ae (zN P n z)=Q9 fn r:=by kernel_rfl)(ho:Hq (zN P n z)=true:=by kernel_rfl):Gz P B z a w:=
 zd S (λS id=>hr▸h S id) ho
theorem Rf{m:Nat}{new:List (Nat×Value)}(S:St w0 a w n (new++z.l) bl vs)(h:St w0 a w n (ET m new z).l bl vs->Gz P B (ET m new z) a w)(hr:Ae z=Q9 fn r:=by kernel_rfl)(ho:Hq z=true:=by kernel_rfl):wpList P (Q9 fn r).toArray (zp P B (zK z)) ((Q9 fn r).drop m) a w:=
 hr▸zdo S h ho
theorem zdF{l':List (Nat×Value)}(S:St w0 a w n l' bl vs)(m:Nat)(h:St w0 a w n (⟨Eh m z.p,l'⟩:Zt).l bl vs->Gz P B ⟨Eh m z.p,l'⟩ a w)(hr:Ae z=Q9 fn r:=by kernel_rfl)(ho:Hq z=true:=by kernel_rfl)(hm:((Q9 fn r).drop m).isEmpty=true:=by kernel_rfl):wpList P (Q9 fn r).toArray (zp P B (zK z)) [] a w:=by
 have:=agr (P:=P) (B:=B) (a:=a) (w:=w) (m:=m) ho (h S);rw[hr,List.isEmpty_iff.1 hm]at this;exact this
end
end Go.Sx
end
namespace Go.Proofs.YtodpgjjgaddkeaaGreatDoor
section
open Go.RowKit Go.Sx Go.Vp
variable{α:Type}
variable{p q:Bool×Nat×Nat}
set_option maxRecDepth 100000 in
set_option maxHeartbeats 1600000 in
theorem Du(v:Value)(Q:Q6)(K:Nat)(w:World)(h:mF K w v Q)(hK:K<=100000) :
  Calls Tryz.prog 180 #[v] w λe w'=>∃x,e = .returned x∧su w.heap.size w' x Q∧Ext w w':=by
 obtain⟨t,rfl,h0,h1,h2,h3,h4,h5⟩:=h.sQ;refine azp Tryz.func180 Tryz.ntmps180 λS=>azs S t.cells λu b2 E3 hb4 S=>azs S Sx.za λu b5 E6 hb7 S=>adr S 13 [] [.mem 1 0,.mem 1 4,.mem 1 8,.mem 1 12,.mem 1 16,.mem 1 20] λS=>azs S Sx.za λu b9 Qj ac5 S=>azx S 0 (off:=0) (cs:=t.cells) I λu C12 S=>adr S 2 [] [.mem 0 0] λS=>zun S 6 λS=>azy S λS=>azs S Sx.zr λu b19 yN vY S=>azx S 0 (off:=0) (cs:=t.a.cells) I λu C22 S=>adr S 2 [] [.mem 0 0] λS=>azz S (jG _ _ K _ (h0.below S.E) Z) ?_;rintro e u ⟨x,rfl,x0,E23⟩;obtain⟨r0,rfl⟩:=aA.iM x0;have y0:=S.E.size;have z00:=(S.bx 0).1;have z01:=(S.bx 1).1;have z02:=(S.bx 2).1;have z03:=(S.bx 3).1;refine⟨_,I,E23,λS=>?_⟩;refine azx S 1 (off:=0) (cs:=r0.cells) I (λu NY S=>?_);have BJ:=aA.ch x0 NY Z;refine azy S λS=>azs S Sx.zr λu b30 Df aap S=>azx S 0 (off:=0) (cs:=t.b.cells) I (λu NZ S=>?_);have S:=S.fl;have E34:=azr Df NZ;refine adr S 2 [] [.mem 0 0] λS=>azz S (jG _ _ K _ (h1.below S.E) Z) ?_;rintro e u ⟨x,rfl,x1,J4⟩;obtain⟨r1,rfl⟩:=aA.iM x1;have y1:=S.E.size;have z10:=(S.bx 0).1;have z11:=(S.bx 1).1;have z12:=(S.bx 2).1;have z13:=(S.bx 3).1;have z14:=(S.bx 4).1;refine⟨_,I,J4,λS=>?_⟩;refine azx S 2 (off:=4) (cs:=r1.cells) I (λu Dh S=>?_);have yM:=aA.ch (BJ.ext (K00 E34 J4)) Dh Z;have wH:=aA.ch x1 Dh Z;refine azy S λS=>azs S Sx.zr λu b43 Yq Vk S=>azx S 0 (off:=0) (cs:=t.c.cells) I (λu UY S=>?_);have E47:=azr Yq UY;have Rh:=azr Yq UY;refine adr S 2 [] [.mem 0 0] λS=>azz S (jG _ _ K _ (h2.below S.E) Z) ?_;rintro e u ⟨x,rfl,x2,E49⟩;obtain⟨r2,rfl⟩:=aA.iM x2;have y2:=S.E.size;have z20:=(S.bx 0).1;have z21:=(S.bx 1).1;have z22:=(S.bx 2).1;have z23:=(S.bx 3).1;have z24:=(S.bx 4).1;have z25:=(S.bx 5).1;refine⟨_,I,E49,λS=>?_⟩;refine azx S 3 (off:=8) (cs:=r2.cells) I (λu C50 S=>?_);have Hr:=aA.ch (yM.ext (K00 E47 E49)) C50 Z;have BK:=aA.ch (wH.ext (K00 Rh E49)) C50 Z;have BL:=aA.ch x2 C50 Z;refine azy S λS=>azs S Sx.zr λu b58 E59 aqP S=>azx S 0 (off:=0) (cs:=t.d.cells) I (λu C61 S=>?_);have S:=S.fl;have E62:=azr E59 C61;have E63:=azr E59 C61;have E64:=azr E59 C61;refine adr S 2 [] [.mem 0 0] λS=>azz S (jG _ _ K _ (h3.below S.E) Z) ?_;rintro e u ⟨x,rfl,x3,Yr⟩;obtain⟨r3,rfl⟩:=aA.iM x3;have y3:=S.E.size;have z30:=(S.bx 0).1;have z31:=(S.bx 1).1;have z32:=(S.bx 2).1;have z33:=(S.bx 3).1;have z34:=(S.bx 4).1;have z35:=(S.bx 5).1;have z36:=(S.bx 6).1;refine⟨_,I,Yr,λS=>?_⟩;refine azx S 4 (off:=12) (cs:=r3.cells) I (λu C66 S=>?_);have Ht:=aA.ch (Hr.ext (K00 E62 Yr)) C66 Z;have N7:=aA.ch (BK.ext (K00 E63 Yr)) C66 Z;have ac6:=aA.ch (BL.ext (K00 E64 Yr)) C66 Z;have ac7:=aA.ch x3 C66 Z;refine azy S λS=>azs S Sx.zr λu b75 E76 aqQ S=>azx S 0 (off:=0) (cs:=t.e.cells) I (λu C78 S=>?_);have E79:=azr E76 C78;have E80:=azr E76 C78;have E81:=azr E76 C78;have E82:=azr E76 C78;refine adr S 2 [] [.mem 0 0] λS=>azz S (jG _ _ K _ (h4.below S.E) Z) ?_;rintro e u ⟨x,rfl,x4,E83⟩;obtain⟨r4,rfl⟩:=aA.iM x4;have y4:=S.E.size;have z40:=(S.bx 0).1;have z41:=(S.bx 1).1;have z42:=(S.bx 2).1;have z43:=(S.bx 3).1;have z44:=(S.bx 4).1;have z45:=(S.bx 5).1;have z46:=(S.bx 6).1;have z47:=(S.bx 7).1;refine⟨_,I,E83,λS=>?_⟩;refine azx S 5 (off:=16) (cs:=r4.cells) I (λu C84 S=>?_);have ajN:=aA.ch (Ht.ext (K00 E79 E83)) C84 Z;have Ri:=aA.ch (N7.ext (K00 E80 E83)) C84 Z;have VB:=aA.ch (ac6.ext (K00 E81 E83)) C84 Z;have VD:=aA.ch (ac7.ext (K00 E82 E83)) C84 Z;have ac8:=aA.ch x4 C84 Z;refine azy S λS=>azs S Sx.zr λu b94 E95 amW S=>azx S 0 (off:=0) (cs:=t.f.cells) I (λu C97 S=>?_);have S:=S.fl;have E98:=azr E95 C97;have E99:=azr E95 C97;have aqR:=azr E95 C97;have ags:=azr E95 C97;have aqS:=azr E95 C97;refine adr S 2 [] [.mem 0 0] λS=>azz S (jG _ _ K _ (h5.below S.E) Z) ?_;rintro e u ⟨x,rfl,x5,aaq⟩;obtain⟨r5,rfl⟩:=aA.iM x5;have y5:=S.E.size;have z50:=(S.bx 0).1;have z51:=(S.bx 1).1;have z52:=(S.bx 2).1;have z53:=(S.bx 3).1;have z54:=(S.bx 4).1;have z55:=(S.bx 5).1;have z56:=(S.bx 6).1;have z57:=(S.bx 7).1;have z58:=(S.bx 8).1;refine⟨_,I,aaq,λS=>?_⟩;refine azx S 6 (off:=20) (cs:=r5.cells) I (λu J7 S=>?_);have Rj:=aA.ch (ajN.ext (K00 E98 aaq)) J7 Z;have Rk:=aA.ch (Ri.ext (K00 E99 aaq)) J7 Z;have Rl:=aA.ch (VB.ext (K00 aqR aaq)) J7 Z;have ac9:=aA.ch (VD.ext (K00 ags aaq)) J7 Z;have amX:=aA.ch (ac8.ext (K00 aqS aaq)) J7 Z;have ada:=aA.ch x5 J7 Z;refine azE S λS=>adr S 1 [] [.mem 6 0] λS=>azx S 7 (off:=0) (cs:=(r0.cells++r1.cells++r2.cells++r3.cells++r4.cells++r5.cells)) I (λu aar S=>?_);have amY:=aA.ch Rj aar Z;have amZ:=aA.ch Rk aar Z;have Yt:=aA.ch Rl aar Z;have adb:=aA.ch ac9 aar Z;have ade:=aA.ch amX aar Z;have am0:=aA.ch ada aar Z;refine azC S 7 I (v := .agg (r0.cells++r1.cells++r2.cells++r3.cells++r4.cells++r5.cells).toArray) (λS=>?_);exact⟨_,I,dZ.of (t:=⟨r0,r1,r2,r3,r4,r5⟩) (aA.mono amY Z) (aA.mono amZ Z) (aA.mono Yt Z) (aA.mono adb Z) (aA.mono ade Z) (aA.mono am0 Z),S.E⟩
theorem jm{n:Nat}(h:decide (256<(n:Int))=false):decide (n<=256)=true:=by
 simp only[az6,aAt]at h |-;omega
theorem Lm{n:Nat}(h:decide (256<(n:Int))=true):decide (n<=256)=false:=by
 simp only[az6,aAt]at h |-;omega
theorem jo(h:(mD p q != 0)=false):pI p q=true:=by unfold pI; simpa[bne]using h
theorem Lp(h:(mD p q != 0)=true):pI p q=false:=by unfold pI; simpa[bne]using h
theorem Hu(v:Value)(Q:Q6)(K:Nat)(w:World)(h:mF K w v Q)(hK1:1<=K)(hK:K<=100000) :
  Calls Tryz.prog 189 #[v] w λe w'=>e = .returned (.bool Q.valid)∧Ext w w':=by
 have hq:=h;obtain⟨nr0,nr1,nr2,nr3,nr4,nr5⟩:=h.nrm;obtain⟨ln0,ln1,ln2,ln3,ln4,ln5⟩:=h.len hK1;obtain⟨t,rfl,h0,h1,h2,h3,h4,h5⟩:=h.sQ;refine azp Tryz.func189 Tryz.ntmps189 λS=>azo S λu b2 E3 hb4 S=>adr S 2 [] [.mem 0 0] λS=>azz S (Du _ Q K _ (hq.iL S.E) Z) ?_;rintro e u ⟨x,rfl,hm,E7⟩;obtain⟨m,rfl,-⟩:=hm.sT;refine⟨_,I,E7,λS=>?_⟩;refine zun S 6 λS=>azy S λS=>azo S λu b12 Dj VE S=>azq S 0 I (λu C15 S=>?_);have Af:=azr Dj C15;refine adr S 1 [] [.mem 0 0] λS=>azB S (mY _ Q.a K _ (aA.toQ (hm.sV Af).pa nr0 ln0) hK1 Z) λu zL S=>azm S (decide (256<(eF Q.a:Int))) (λhc19 S=>?_) (λhc19 S=>?_)
 .have g0:decide (eF Q.a<=256)=false:=Lm hc19;refine apB S (.z) (λS=>?_);exact⟨by rw[show Q.valid=false from by simp[Q6.valid,g0]],S.E⟩
 refine azy S λS=>azo S λu b25 UU EP S=>azq S 0 I (λu EU S=>?_);have yL:=azr (K00 Af (K00 zL UU)) EU (by have:=(K00 Af zL).size; omega);refine adr S 1 [] [.mem 0 0] λS=>azB S (mY _ Q.b K _ (aA.toQ (hm.sV yL).pb nr1 ln1) hK1 Z) λu Df S=>azm S (decide (256<(eF Q.b:Int))) (λhc32 S=>?_) (λhc32 S=>?_)
 .have g0:decide (eF Q.a<=256)=true:=jm hc19;have g1:decide (eF Q.b<=256)=false:=Lm hc32;refine apB S (.z) (λS=>?_);exact⟨by rw[show Q.valid=false from by simp[Q6.valid,g0,g1]],S.E⟩
 refine azy S λS=>azo S λu b38 Ro adf S=>azq S 0 I (λu C41 S=>?_);have E42:=azr (K00 yL (K00 Df Ro)) C41 (by have:=(K00 yL Df).size; omega);refine adr S 1 [] [.mem 0 0] λS=>azB S (mY _ Q.c K _ (aA.toQ (hm.sV E42).pc nr2 ln2) hK1 Z) λu Yq S=>azm S (decide (256<(eF Q.c:Int))) (λJ8 S=>?_) (λJ8 S=>?_)
 .have g0:decide (eF Q.a<=256)=true:=jm hc19;have g1:decide (eF Q.b<=256)=true:=jm hc32;have g2:decide (eF Q.c<=256)=false:=Lm J8;refine apB S (.z) (λS=>?_);exact⟨by rw[show Q.valid=false from by simp[Q6.valid,g0,g1,g2]],S.E⟩
 refine azy S λS=>azo S λu b51 E52 axE S=>azq S 0 I (λu C54 S=>?_);have S:=S.fl;have E55:=azr (K00 E42 (K00 Yq E52)) C54 (by have:=(K00 E42 Yq).size; omega);refine adr S 1 [] [.mem 0 0] λS=>azB S (mY _ Q.d K _ (aA.toQ (hm.sV E55).pd nr3 ln3) hK1 Z) λu E57 S=>azm S (decide (256<(eF Q.d:Int))) (λadg S=>?_) (λadg S=>?_)
 .have g0:decide (eF Q.a<=256)=true:=jm hc19;have g1:decide (eF Q.b<=256)=true:=jm hc32;have g2:decide (eF Q.c<=256)=true:=jm J8;have g3:decide (eF Q.d<=256)=false:=Lm adg;refine apB S (.z) (λS=>?_);exact⟨by rw[show Q.valid=false from by simp[Q6.valid,g0,g1,g2,g3]],S.E⟩
 refine azy S λS=>azo S λu b64 Yr axF S=>azq S 0 I (λu C67 S=>?_);have E68:=azr (K00 E55 (K00 E57 Yr)) C67 (by have:=(K00 E55 E57).size; omega);refine adr S 1 [] [.mem 0 0] λS=>azB S (mY _ Q.e K _ (aA.toQ (hm.sV E68).pe nr4 ln4) hK1 Z) λu E70 S=>azm S (decide (256<(eF Q.e:Int))) (λagt S=>?_) (λagt S=>?_)
 .have g0:decide (eF Q.a<=256)=true:=jm hc19;have g1:decide (eF Q.b<=256)=true:=jm hc32;have g2:decide (eF Q.c<=256)=true:=jm J8;have g3:decide (eF Q.d<=256)=true:=jm adg;have g4:decide (eF Q.e<=256)=false:=Lm agt;refine apB S (.z) (λS=>?_);exact⟨by rw[show Q.valid=false from by simp[Q6.valid,g0,g1,g2,g3,g4]],S.E⟩
 refine azy S λS=>azo S λu b77 E78 axG S=>azq S 0 I (λu C80 S=>?_);have E81:=azr (K00 E68 (K00 E70 E78)) C80 (by have:=(K00 E68 E70).size; omega);refine adr S 1 [] [.mem 0 0] λS=>azB S (mY _ Q.f K _ (aA.toQ (hm.sV E81).pf nr5 ln5) hK1 Z) λu E83 S=>azm S (decide (256<(eF Q.f:Int))) (λajO S=>?_) (λajO S=>?_)
 .have g0:decide (eF Q.a<=256)=true:=jm hc19;have g1:decide (eF Q.b<=256)=true:=jm hc32;have g2:decide (eF Q.c<=256)=true:=jm J8;have g3:decide (eF Q.d<=256)=true:=jm adg;have g4:decide (eF Q.e<=256)=true:=jm agt;have g5:decide (eF Q.f<=256)=false:=Lm ajO;refine apB S (.z) (λS=>?_);exact⟨by rw[show Q.valid=false from by simp[Q6.valid,g0,g1,g2,g3,g4,g5]],S.E⟩
 refine azE S (λS=>?_);have g0:decide (eF Q.a<=256)=true:=jm hc19;have g1:decide (eF Q.b<=256)=true:=jm hc32;have g2:decide (eF Q.c<=256)=true:=jm J8;have g3:decide (eF Q.d<=256)=true:=jm adg;have g4:decide (eF Q.e<=256)=true:=jm agt;have g5:decide (eF Q.f<=256)=true:=jm ajO;refine apB S (.bool true) (λS=>?_);exact⟨by rw[show Q.valid=true from by simp[Q6.valid,g0,g1,g2,g3,g4,g5]],S.E⟩
theorem Yu(v:Value)(Q:Q6)(K:Nat)(w:World)(h:mF K w v Q)(hK1:1<=K)(hK:K<=10000) :
  Calls Tryz.prog 230 #[v] w λe w'=>∃x,e = .returned x∧dP w.heap.size w' x Q.Ef∧Ext w w':=by
 have hq:=h;obtain⟨nr0,nr1,nr2,nr3,nr4,nr5⟩:=h.nrm;obtain⟨ln0,ln1,ln2,ln3,ln4,ln5⟩:=h.len hK1;obtain⟨t,rfl,h0,h1,h2,h3,h4,h5⟩:=h.sQ;refine azp Tryz.func230 Tryz.ntmps230 λS=>azs S t.cells λu b2 E3 hb4 S=>azs S Sx.zr λu b5 E6 hb7 S=>jd S 11 [(7,λv w1=>dP w.heap.size w1 v (zY Q.a Q.d)),(12,λv w1=>dP w.heap.size w1 v (zY Q.b Q.c)),(13,λv w1=>dP w.heap.size w1 v Q.Ef)] (λr=>[.mem 1 0,.mem 1 12,.mem 1 4,.mem 1 8]) (λx=>[x 7,x 12,x 13]) (λx=>[(_,_,true,x 7,7),(_,_,true,x 12,12),(_,_,true,x 13,13)]) [[],[],[7,12]] (λx=>[(13,x 13)]) ⟨λ_ _ _ k h=>h.ext k,λ_ _ _ k h=>h.ext k,λ_ _ _ k h=>h.ext k,G⟩ (λx=>⟨by intro u hC g F; exact(QY _ _ Q.a Q.d K K _ (h0.below (K00 S.E hC)) (h3.below (K00 S.E hC)) hK1 hK1 Z Z).mono λe w2 h=>by obtain⟨y,rfl,hx,hb⟩:=h; exact⟨_,I,hx.mono ((K00 S.E hC)).size,hb⟩,by intro u hC g F; exact(QY _ _ Q.b Q.c K K _ (h1.below (K00 S.E hC)) (h2.below (K00 S.E hC)) hK1 hK1 Z Z).mono λe w2 h=>by obtain⟨y,rfl,hx,hb⟩:=h; exact⟨_,I,hx.mono ((K00 S.E hC)).size,hb⟩,by intro u hC g F; obtain⟨F7,FI,-⟩:=F; exact(acZ _ _ (zY Q.a Q.d) (zY Q.b Q.c) (K+K) (K+K) _ (aA.toQ F7 (Vw _ _) (BF hK1 ln0 ln3)) (aA.toQ FI (Vw _ _) (BF hK1 ln1 ln2)) Z Z Z Z).mono λe w2 h=>by obtain⟨y,rfl,hx,hb⟩:=h; exact⟨_,I,hx.mono ((K00 S.E hC)).size,hb⟩,G⟩) (λu x E9 F S=>?_);obtain⟨F7,FI,Ll,-⟩:=F;obtain⟨m,em⟩:=aA.iM Ll;rw[em]at S Ll;try rw[em]
 have UZ:=S.bx 0;refine azx S 0 (off:=0) (cs:=m.cells) I (λu C10 S=>?_);have BM:=aA.dY Ll C10 UZ;refine azC S 0 I (v:=m.v) (λS=>?_);exact⟨_,I,BM,S.E⟩
theorem Ag(v1 v2:Value)(P Q:Q6)(K:Nat)(w:World)(hp:mF K w v1 P)(hq:mF K w v2 Q)(hK1:1<=K)(hK:K<=10000) :
  Calls Tryz.prog 136 #[v1,v2] w λe w'=>e = .returned (.bool (P.eq Q))∧Ext w w':=by
 obtain⟨pr0,pr1,pr2,pr3,pr4,pr5⟩:=hp.nrm;obtain⟨pl0,pl1,pl2,pl3,pl4,pl5⟩:=hp.len hK1;obtain⟨nr0,nr1,nr2,nr3,nr4,nr5⟩:=hq.nrm;obtain⟨ln0,ln1,ln2,ln3,ln4,ln5⟩:=hq.len hK1;obtain⟨t,rfl,-⟩:=hp.sQ;obtain⟨s,rfl,-⟩:=hq.sQ;refine azp Tryz.func136 Tryz.ntmps136 λS=>azo S λu b2 E3 hb4 S=>azo S (λu b5 E6 hb7 S=>?_);have hold:=λp hp=>(S.own p hp).1.1;have jZ:=S.E.size;refine Sx.Yp S Tryz.f136 1 λS id=>aBW X<|ajP [(4,5),(5,6)] S 6 [(10,λv w1=>su w.heap.size w1 v P),(12,λv w1=>su w.heap.size w1 v Q),(5,iO u.heap.size Sx.za none),(6,iO u.heap.size Sx.za none)] (λr=>[.mem 1 0,.mem 0 0,.new 5 Sx.za none r,.new 6 Sx.za none r]) (λx=>[x 10,x 12,x 5,x 6]) (λx=>[(_,_,true,x 10,10),(_,_,true,x 12,12)]) [[],[]] (λx=>[(5,x 5),(6,x 6),(10,x 10),(12,x 12)]) ⟨λ_ _ _ k h=>dZ.sV h k,λ_ _ _ k h=>dZ.sV h k,iO.mono,iO.mono,G⟩ (λx=>⟨by intro u hC g F; exact(Du _ P K _ (hp.iL (K00 S.E hC)) Z).mono λe w2 h=>by obtain⟨x,rfl,hx,hb⟩:=h; exact⟨_,I,hx.aiq ((K00 S.E hC)).size,hb⟩,by intro u hC g F; exact(Du _ Q K _ (hq.iL (K00 S.E hC)) Z).mono λe w2 h=>by obtain⟨x,rfl,hx,hb⟩:=h; exact⟨_,I,hx.aiq ((K00 S.E hC)).size,hb⟩,G⟩) (hN:=λr=>⟨⟨I,I⟩,⟨I,I⟩,G⟩) (hk:=λr=>⟨G,G,G⟩) (hA:=⟨⟨_,_,_,I,I,I,I,I⟩,⟨_,_,_,I,I,I,I,I⟩,G⟩) λac u x E9 F AP S=>Sx.Rf S (λS=>?_);obtain⟨F10,FI,F5,F6,-⟩:=F;obtain⟨m,em,-⟩:=F10.sT;rw[em]at S F10;try rw[em]
 obtain⟨n,em,-⟩:=FI.sT;rw[em]at S FI;try rw[em]
 obtain⟨b10,F5,Ho,UZ⟩:=F5;rw[F5]at S;try rw[F5]
 have S:=S.adopt (A:=Sx.za) UZ Z (λp hp=>by have:=hold p hp; omega) (λm hm=>by cases hm);obtain⟨b13,F6,ajJ,JM⟩:=F6;rw[F6]at S;try rw[F6]
 have S:=S.adopt (A:=Sx.za) JM Z (λp hp=>by exact(az2.1 hp).elim (λe e2=>AP (4,5) Y (5,6) Y O (F5.trans ((az0 (shV none) ((az0 Prod.fst e).symm.trans e2)).trans F6.symm))) (λhp=>by have:=hold p hp; omega)) (λm hm=>by cases hm);have X17:=S.bx 1;refine azq S 1 I (λu C16 S=>?_);have BI:=dZ.dY F10 C16 X17;have nN:=dZ.dY FI C16 X17;have X21:=S.bx 0;refine azq S 0 I (λu y8 S=>?_);have vO:=dZ.dY BI y8 X21;have EW:=dZ.dY nN y8 X21;refine adr S 2 [] [.mem 1 0] λS=>zun S 6 λS=>azy S λS=>azo S λu b30 Df aap S=>azq S 0 I (λu NZ S=>?_);have E34:=azr Df NZ;have J4:=azr Df NZ;refine azD S 6 [.mem 0 0,.mem 1 0] [(_,_,true,.i (mD P.a Q.a))] [(23,.bool (((mD P.a Q.a)) != 0))] ⟨λu hC g=>lV _ _ P.a Q.a K K _ (aA.toQ (vO.sV (K00 E34 hC)).pa pr0 pl0) (aA.toQ (EW.sV (K00 J4 hC)).pa nr0 ln0) hK1 hK1 Z Z,G⟩ λu EX S=>azm S (((mD P.a Q.a)) != 0) (λhc38 S=>?_) (λhc38 S=>?_)
 .have g0:pI P.a Q.a=false:=Lp hc38;refine apB S (.z) (λS=>?_);exact⟨by rw[show P.eq Q=false from by simp[Q6.eq,g0]],S.E⟩
 refine azy S λS=>azo S λu b44 E45 af5 S=>azq S 0 I (λu C47 S=>?_);have S:=S.fl;have Rh:=azr (K00 E34 (K00 EX E45)) C47 (by have:=(K00 E34 EX).size; omega);have E49:=azr (K00 J4 (K00 EX E45)) C47 (by have:=(K00 J4 EX).size; omega);refine azD S 6 [.mem 0 0,.mem 2 4] [(_,_,true,.i (mD P.b Q.b))] [(23,.bool (((mD P.b Q.b)) != 0))] ⟨λu hC g=>lV _ _ P.b Q.b K K _ (aA.toQ (vO.sV (K00 Rh hC)).pb pr1 pl1) (aA.toQ (EW.sV (K00 E49 hC)).pb nr1 ln1) hK1 hK1 Z Z,G⟩ λu E51 S=>azm S (((mD P.b Q.b)) != 0) (λsD S=>?_) (λsD S=>?_)
 .have g0:pI P.a Q.a=true:=jo hc38;have g1:pI P.b Q.b=false:=Lp sD;refine apB S (.z) (λS=>?_);exact⟨by rw[show P.eq Q=false from by simp[Q6.eq,g0,g1]],S.E⟩
 refine azy S λS=>azo S λu b58 E59 aqP S=>azq S 0 I (λu C61 S=>?_);have E62:=azr (K00 Rh (K00 E51 E59)) C61 (by have:=(K00 Rh E51).size; omega);have E63:=azr (K00 E49 (K00 E51 E59)) C61 (by have:=(K00 E49 E51).size; omega);refine azD S 6 [.mem 0 0,.mem 3 8] [(_,_,true,.i (mD P.c Q.c))] [(23,.bool (((mD P.c Q.c)) != 0))] ⟨λu hC g=>lV _ _ P.c Q.c K K _ (aA.toQ (vO.sV (K00 E62 hC)).pc pr2 pl2) (aA.toQ (EW.sV (K00 E63 hC)).pc nr2 ln2) hK1 hK1 Z Z,G⟩ λu Yr S=>azm S (((mD P.c Q.c)) != 0) (λaas S=>?_) (λaas S=>?_)
 .have g0:pI P.a Q.a=true:=jo hc38;have g1:pI P.b Q.b=true:=jo sD;have g2:pI P.c Q.c=false:=Lp aas;refine apB S (.z) (λS=>?_);exact⟨by rw[show P.eq Q=false from by simp[Q6.eq,g0,g1,g2]],S.E⟩
 refine azy S λS=>azo S λu b72 E73 aqT S=>azq S 0 I (λu C75 S=>?_);have E76:=azr (K00 E62 (K00 Yr E73)) C75 (by have:=(K00 E62 Yr).size; omega);have E77:=azr (K00 E63 (K00 Yr E73)) C75 (by have:=(K00 E63 Yr).size; omega);refine azD S 6 [.mem 0 0,.mem 4 12] [(_,_,true,.i (mD P.d Q.d))] [(23,.bool (((mD P.d Q.d)) != 0))] ⟨λu hC g=>lV _ _ P.d Q.d K K _ (aA.toQ (vO.sV (K00 E76 hC)).pd pr3 pl3) (aA.toQ (EW.sV (K00 E77 hC)).pd nr3 ln3) hK1 hK1 Z Z,G⟩ λu E79 S=>azm S (((mD P.d Q.d)) != 0) (λN8 S=>?_) (λN8 S=>?_)
 .have g0:pI P.a Q.a=true:=jo hc38;have g1:pI P.b Q.b=true:=jo sD;have g2:pI P.c Q.c=true:=jo aas;have g3:pI P.d Q.d=false:=Lp N8;refine apB S (.z) (λS=>?_);exact⟨by rw[show P.eq Q=false from by simp[Q6.eq,g0,g1,g2,g3]],S.E⟩
 refine azy S λS=>azo S λu b86 E87 aqU S=>azq S 0 I (λu C89 S=>?_);have E90:=azr (K00 E76 (K00 E79 E87)) C89 (by have:=(K00 E76 E79).size; omega);have E91:=azr (K00 E77 (K00 E79 E87)) C89 (by have:=(K00 E77 E79).size; omega);refine azD S 6 [.mem 0 0,.mem 5 16] [(_,_,true,.i (mD P.e Q.e))] [(23,.bool (((mD P.e Q.e)) != 0))] ⟨λu hC g=>lV _ _ P.e Q.e K K _ (aA.toQ (vO.sV (K00 E90 hC)).pe pr4 pl4) (aA.toQ (EW.sV (K00 E91 hC)).pe nr4 ln4) hK1 hK1 Z Z,G⟩ λu E93 S=>azm S (((mD P.e Q.e)) != 0) (λagu S=>?_) (λagu S=>?_)
 .have g0:pI P.a Q.a=true:=jo hc38;have g1:pI P.b Q.b=true:=jo sD;have g2:pI P.c Q.c=true:=jo aas;have g3:pI P.d Q.d=true:=jo N8;have g4:pI P.e Q.e=false:=Lp agu;refine apB S (.z) (λS=>?_);exact⟨by rw[show P.eq Q=false from by simp[Q6.eq,g0,g1,g2,g3,g4]],S.E⟩
 refine azy S λS=>azo S λu axH ags avN S=>azq S 0 I (λu am1 S=>?_);have S:=S.fl;have aqV:=azr (K00 E90 (K00 E93 ags)) am1 (by have:=(K00 E90 E93).size; omega);have aqW:=azr (K00 E91 (K00 E93 ags)) am1 (by have:=(K00 E91 E93).size; omega);refine azD S 6 [.mem 0 0,.mem 6 20] [(_,_,true,.i (mD P.f Q.f))] [(23,.bool (((mD P.f Q.f)) != 0))] ⟨λu hC g=>lV _ _ P.f Q.f K K _ (aA.toQ (vO.sV (K00 aqV hC)).pf pr5 pl5) (aA.toQ (EW.sV (K00 aqW hC)).pf nr5 ln5) hK1 hK1 Z Z,G⟩ λu axI S=>azm S (((mD P.f Q.f)) != 0) (λadh S=>?_) (λadh S=>?_)
 .have g0:pI P.a Q.a=true:=jo hc38;have g1:pI P.b Q.b=true:=jo sD;have g2:pI P.c Q.c=true:=jo aas;have g3:pI P.d Q.d=true:=jo N8;have g4:pI P.e Q.e=true:=jo agu;have g5:pI P.f Q.f=false:=Lp adh;refine apB S (.z) (λS=>?_);exact⟨by rw[show P.eq Q=false from by simp[Q6.eq,g0,g1,g2,g3,g4,g5]],S.E⟩
 refine azE S (λS=>?_);have g0:pI P.a Q.a=true:=jo hc38;have g1:pI P.b Q.b=true:=jo sD;have g2:pI P.c Q.c=true:=jo aas;have g3:pI P.d Q.d=true:=jo N8;have g4:pI P.e Q.e=true:=jo agu;have g5:pI P.f Q.f=true:=jo adh;refine apB S (.bool true) (λS=>?_);exact⟨by rw[show P.eq Q=true from by simp[Q6.eq,g0,g1,g2,g3,g4,g5]],S.E⟩
def bJ.none:bJ:=⟨false,Option.none,0,[],false,Option.none,0,[]⟩
theorem K06:bJ.none.q=q0:=by decide
def bH.none:bH:=⟨.none,.none,.none,.none,.none,.none⟩
theorem bJ.gy(w:World):bJ.none.ok w:=⟨⟨Option.none,0,I,azZ _,.inl ⟨I,λ_=>rfl⟩⟩,⟨Option.none,0,I,azZ _,.inl ⟨I,λ_=>rfl⟩⟩⟩
theorem bJ.iF(K:Nat):bJ.none.fit K:=⟨azZ _,azZ _⟩
theorem bH.gy(w:World):bH.none.ok w:=⟨bJ.gy w,bJ.gy w,bJ.gy w,bJ.gy w,bJ.gy w,bJ.gy w⟩
theorem bH.iF(K:Nat):bH.none.fit K:=⟨bJ.iF K,bJ.iF K,bJ.iF K,bJ.iF K,bJ.iF K,bJ.iF K⟩
def dF.bare:dF:=⟨0,0,Option.none,0,[]⟩
theorem fC:I64 0:=⟨by decide,by decide⟩
theorem dF.gB(w:World):dF.bare.ok w:=⟨fC,fC,dI _ _ _⟩
def jW.none:jW:=⟨0,0⟩
theorem jW.gy:jW.none.ok:=⟨fC,fC⟩
def bD.none:bD:=⟨0,0,0,0⟩
def ak.bare(k:Int):ak:=⟨k,.none,.none,.none,0,Option.none,0,[],0,.bare,0,.none⟩
theorem ak.gB{k:Int}(hk:I64 k)(w:World):(ak.bare k).ok w:=⟨hk,jW.gy,jW.gy,fC,dI _ _ _,λs hs=>by simp[ak.bare]at hs,fC,dF.gB w,fC,bH.gy w⟩
def ak.adi(p:ak):ak:={ p with t := .none,color := .none }
def ak.only2(p:ak):ak:={ p with t := .none,p0 := .none,p1 := .none,sva:=Option.none,svc:=0,stops:=[],spread:=0 }
def ak.adk(p:ak):ak:={ p with t := .none,p0 := .none,bT:=0,sva:=Option.none,svc:=0,stops:=[],spread:=0 }
def ak.adl(p:ak):ak:={ p with t := .none,img := .bare,spread:=0,cO:=0 }
def ak.adn(p:ak):ak:={ p with t := .none }
def ak.without(p:ak):ak:=cond (p.kind==1) p.adi (cond (p.kind==2) p.only2 (cond (p.kind==3) p.adk (cond (p.kind==4) p.adl p.adn)))
theorem ak.VF{w:World}{p:ak}(h:p.ok w):p.without.ok w:=by
 obtain⟨h1,h2,h3,h4,h5,h6,h7,h8,h9,h10⟩:=h;have a:=bH.gy w;have r:=dI 5 dK.cells w;have n:∀s∈([]:List dK),s.ok:=λs hs=>by simp at hs
 unfold ak.without;cases (p.kind==1)<;>cases (p.kind==2)<;>cases (p.kind==3)<;>cases (p.kind==4);all_goals first
  | exact⟨h1,h2,h3,h4,h5,h6,h7,h8,h9,a⟩
  | exact⟨h1,jW.gy,jW.gy,h4,r,n,fC,h8,h9,a⟩
  | exact⟨h1,jW.gy,h3,fC,r,n,fC,h8,h9,a⟩
  | exact⟨h1,h2,h3,h4,h5,h6,fC,dF.gB w,fC,a⟩
theorem ak.Rq(p:ak)(K:Nat):p.without.t.fit K:=by
 unfold ak.without;cases (p.kind==1)<;>cases (p.kind==2)<;>cases (p.kind==3)<;>cases (p.kind==4);all_goals exact bH.iF K
theorem uN(w:World):eX 1 w (.agg #[.z,.sn,.z,.sn]) q0:=by
 rw[<-K06]; exact bJ.toQ (r:=bJ.none) (bJ.gy w) (bJ.iF 1)
theorem FK(Q:Q6):Le Q.Ef:=Vw _ _
theorem FM{K:Nat}{Q:Q6}(hK:1<=K)(h:Q5 K Q):qlen (K+K+(K+K)+1) Q.Ef:=acV (by omega) (BF hK h.1 h.2.2.2.1) (BF hK h.2.1 h.2.2.1)
theorem K05{K:Nat}{w:World}{v:Value}{Q:Q6}(h:mF K w v Q)(hK:1<=K):Q5 K Q:=h.len hK
def ak.eq(p q:ak):Bool:=((((((((((p.kind)==q.kind)&&(((p.color.r.toNat:Int)==(q.color.r.toNat:Int))&&(((p.color.g.toNat:Int)==(q.color.g.toNat:Int))&&(((p.color.b.toNat:Int)==(q.color.b.toNat:Int))&&((p.color.a.toNat:Int)==(q.color.a.toNat:Int))))))&&((p.p0.x==q.p0.x)&&(p.p0.y==q.p0.y)))&&((p.p1.x==q.p1.x)&&(p.p1.y==q.p1.y)))&&((p.bT)==q.bT))&&((p.spread)==q.spread))&&((p.cO)==q.cO))&&(decide (p.stops=q.stops)))&&(p.img.eq q.img))&&(p.t.q.eq q.t.q)
def ak.valid(p:ak):Bool:=cond ((!(p.t.q.valid))||(!(p.without.eq (ak.bare p.kind)))) (false) (cond ((p.kind)==1) ((p.t.q.eq bH.none.q)) (cond ((p.kind)==2) (cond (((!(jW.valid ⟨p.p0.x,p.p0.y⟩))||(!(jW.valid ⟨p.p1.x,p.p1.y⟩)))||(!(iC p.stops&&iE p.spread))) (false) (((mD p.t.q.Ef q0)) != 0)) (cond ((p.kind)==3) (cond ((((!(jW.valid ⟨p.p0.x,p.p0.y⟩))||(decide (p.bT<1)))||(decide (1048576<p.bT)))||(!(iC p.stops&&iE p.spread))) (false) (((mD p.t.q.Ef q0)) != 0)) (cond ((p.kind)==4) (cond (((!(p.img.valid))||(((p.spread) != 0)&&(!(iE p.spread))))||(((p.cO) != 1)&&((p.cO) != 2))) (false) (((mD p.t.q.Ef q0)) != 0)) (false)))))
open Go.RowKit Go.Sx Go.Vp
variable{α:Type}
theorem wL{w:World}{p q:ak}{K:Nat}(h:p.ok w)(h':q.ok w)(hf:p.t.fit K)(hf':q.t.fit K)(hK1:1<=K)(hK:K<=10000) :
  Calls Tryz.prog 139 #[p.v,q.v] w λe w'=>e = .returned (.bool (p.eq q))∧Ext w w':=by
 skip;refine azp Tryz.func139 Tryz.ntmps139 λS=>azo S λu b2 E3 hb4 S=>azo S λu b5 E6 hb7 S=>adr S 1 [] [] λS=>aAQ S 69 [.mem 1 0,.mem 0 0,.mem 1 1,.mem 0 1,.cmp .eql 40 (.tmp 12) (.tmp 14) (.agg #[.u (p.color.r.toNat:Int),.u (p.color.g.toNat:Int),.u (p.color.b.toNat:Int),.u (p.color.a.toNat:Int)]) (.agg #[.u (q.color.r.toNat:Int),.u (q.color.g.toNat:Int),.u (q.color.b.toNat:Int),.u (q.color.a.toNat:Int)]) (.bool (((p.color.r.toNat:Int)==(q.color.r.toNat:Int))&&(((p.color.g.toNat:Int)==(q.color.g.toNat:Int))&&(((p.color.b.toNat:Int)==(q.color.b.toNat:Int))&&((p.color.a.toNat:Int)==(q.color.a.toNat:Int)))))),.mem 1 5,.mem 0 5,.cmp .eql 130 (.tmp 19) (.tmp 21) (.agg #[.i p.p0.x,.i p.p0.y]) (.agg #[.i q.p0.x,.i q.p0.y]) (.bool ((p.p0.x==q.p0.x)&&(p.p0.y==q.p0.y))),.mem 1 7,.mem 0 7,.cmp .eql 130 (.tmp 26) (.tmp 28) (.agg #[.i p.p1.x,.i p.p1.y]) (.agg #[.i q.p1.x,.i q.p1.y]) (.bool ((p.p1.x==q.p1.x)&&(p.p1.y==q.p1.y))),.mem 1 9,.mem 0 9,.mem 1 11,.mem 0 11,.mem 1 15,.mem 0 15,.mem 1 10,.mem 0 10,.mem 1 12,.mem 0 12,.mem 1 16,.mem 0 16] [(_,_,((((((((p.kind)==q.kind)&&(((p.color.r.toNat:Int)==(q.color.r.toNat:Int))&&(((p.color.g.toNat:Int)==(q.color.g.toNat:Int))&&(((p.color.b.toNat:Int)==(q.color.b.toNat:Int))&&((p.color.a.toNat:Int)==(q.color.a.toNat:Int))))))&&((p.p0.x==q.p0.x)&&(p.p0.y==q.p0.y)))&&((p.p1.x==q.p1.x)&&(p.p1.y==q.p1.y)))&&((p.bT)==q.bT))&&((p.spread)==q.spread))&&((p.cO)==q.cO)),.bool (p.stops=q.stops)),(_,_,(((((((((p.kind)==q.kind)&&(((p.color.r.toNat:Int)==(q.color.r.toNat:Int))&&(((p.color.g.toNat:Int)==(q.color.g.toNat:Int))&&(((p.color.b.toNat:Int)==(q.color.b.toNat:Int))&&((p.color.a.toNat:Int)==(q.color.a.toNat:Int))))))&&((p.p0.x==q.p0.x)&&(p.p0.y==q.p0.y)))&&((p.p1.x==q.p1.x)&&(p.p1.y==q.p1.y)))&&((p.bT)==q.bT))&&((p.spread)==q.spread))&&((p.cO)==q.cO))&&(decide (p.stops=q.stops))),.bool (p.img.eq q.img)),(_,_,((((((((((p.kind)==q.kind)&&(((p.color.r.toNat:Int)==(q.color.r.toNat:Int))&&(((p.color.g.toNat:Int)==(q.color.g.toNat:Int))&&(((p.color.b.toNat:Int)==(q.color.b.toNat:Int))&&((p.color.a.toNat:Int)==(q.color.a.toNat:Int))))))&&((p.p0.x==q.p0.x)&&(p.p0.y==q.p0.y)))&&((p.p1.x==q.p1.x)&&(p.p1.y==q.p1.y)))&&((p.bT)==q.bT))&&((p.spread)==q.spread))&&((p.cO)==q.cO))&&(decide (p.stops=q.stops)))&&(p.img.eq q.img)),.bool (p.t.q.eq q.t.q))] [(4,.bool (((((((((((p.kind)==q.kind)&&(((p.color.r.toNat:Int)==(q.color.r.toNat:Int))&&(((p.color.g.toNat:Int)==(q.color.g.toNat:Int))&&(((p.color.b.toNat:Int)==(q.color.b.toNat:Int))&&((p.color.a.toNat:Int)==(q.color.a.toNat:Int))))))&&((p.p0.x==q.p0.x)&&(p.p0.y==q.p0.y)))&&((p.p1.x==q.p1.x)&&(p.p1.y==q.p1.y)))&&((p.bT)==q.bT))&&((p.spread)==q.spread))&&((p.cO)==q.cO))&&(decide (p.stops=q.stops)))&&(p.img.eq q.img))&&(p.t.q.eq q.t.q)))] ⟨λu hC g=>U8 (h.2.2.2.2.1.below (K00 S.E hC)) (h'.2.2.2.2.1.below (K00 S.E hC)),λu hC g=>uD (m:=p.img) (n:=q.img) (h.2.2.2.2.2.2.2.1.below (K00 S.E hC)) (h'.2.2.2.2.2.2.2.1.below (K00 S.E hC)),λu hC g=>Ag p.t.v q.t.v p.t.q q.t.q K _ ((bH.toQ h.2.2.2.2.2.2.2.2.2 hf).iL (K00 S.E hC)) ((bH.toQ h'.2.2.2.2.2.2.2.2.2 hf').iL (K00 S.E hC)) hK1 hK,G⟩ (hk:=⟨aAP (λ_=>ab6 ..) X,aAP (λ_=>eqPt ..) X,aAP (λ_=>eqPt ..) X,G⟩) λu E9 S=>apB S (.bool (((((((((((p.kind)==q.kind)&&(((p.color.r.toNat:Int)==(q.color.r.toNat:Int))&&(((p.color.g.toNat:Int)==(q.color.g.toNat:Int))&&(((p.color.b.toNat:Int)==(q.color.b.toNat:Int))&&((p.color.a.toNat:Int)==(q.color.a.toNat:Int))))))&&((p.p0.x==q.p0.x)&&(p.p0.y==q.p0.y)))&&((p.p1.x==q.p1.x)&&(p.p1.y==q.p1.y)))&&((p.bT)==q.bT))&&((p.spread)==q.spread))&&((p.cO)==q.cO))&&(decide (p.stops=q.stops)))&&(p.img.eq q.img))&&(p.t.q.eq q.t.q))) (λS=>?_);exact⟨I,S.E⟩
theorem wM{w:World}{p:ak}(h:p.ok w) :
  Calls Tryz.prog 304 #[p.v] w λe w'=>e = .returned (.bool (iC p.stops&&iE p.spread))∧Ext w w':=by
 skip;refine azp Tryz.func304 Tryz.ntmps304 λS=>azo S λu b2 E3 hb4 S=>adr S 3 [] [.mem 0 10] λS=>azB S (JU (h.2.2.2.2.1.below S.E)) λu E6 S=>aAQ S 6 [.mem 0 11] [(_,_,(iC p.stops),.bool (iE p.spread))] [(2,.bool ((iC p.stops)&&(iE p.spread)))] ⟨λu hC g=>azL (Gx p.spread _),G⟩ λu E7 S=>apB S (.bool ((iC p.stops)&&(iE p.spread))) (λS=>?_);exact⟨I,S.E⟩
open Go.RowKit Go.Sx Go.Vp
variable{α:Type}
theorem Rt{w:World}{p:ak}(h:p.ok w) :
  Calls Tryz.prog 303 #[p.v] w λe w'=>e = .returned p.without.v∧Ext w w':=by
 obtain⟨h1,h2,h3,h4,h5,h6,h7,h8,h9,h10⟩:=h;obtain⟨t0,t1,t2,t3,t4,t5⟩:=h10;have o0:=ado h5;have o1:=ado h8.2.2;have o2:=lX t0.1;have o3:=lX t0.2;have o4:=lX t1.1;have o5:=lX t1.2;have o6:=lX t2.1;have o7:=lX t2.2;have o8:=lX t3.1;have o9:=lX t3.2;have o10:=lX t4.1;have o11:=lX t4.2;have o12:=lX t5.1;have o13:=lX t5.2;refine azp Tryz.func303 Tryz.ntmps303 λS=>azo S λu b2 E3 hb4 S=>azo S λu b5 E6 hb7 S=>adr S 1 [] [.mem 1 0] λS=>azo S λu b9 Qj ac5 S=>azq S 0 I λu C12 S=>azq S 0 I λu C14 S=>adr S 4 [] [.mem 2 0] λS=>azm S ((p.kind)==1) (λhc18 S=>?_) (λhc18 S=>?_)
 .refine azq S 0 I λu Yn S=>adr S 1 [] [.mem 0 0] λS=>azq S 1 I (λu C21 S=>?_);have S:=S.fl;have e:p.without=p.adi:=by unfold ak.without; rw[hc18]; rfl
  refine azC S 1 I (v := .agg (Sx.L [.i p.kind,.u 0,.u 0,.u 0,.u 0,.i p.p0.x,.i p.p0.y,.i p.p1.x,.i p.p1.y,.i p.bT,p.sv,.i p.spread]++p.img.cells++Sx.L [.i p.cO]++Sx.za).toArray) (λS=>?_);exact⟨by rw[e]; rfl,S.E⟩
 refine azm S ((p.kind)==2) (λHe S=>?_) (λHe S=>?_)
 .refine azq S 0 I λu NY S=>azq S 0 I λu ZO S=>azv S 0 I λu C26 S=>azv S 0 I (λu C27 S=>?_);have S:=S.fl;refine adr S 1 [] [.mem 0 0] λS=>azq S 1 I (λu C29 S=>?_);have e:p.without=p.only2:=by unfold ak.without; rw[hc18,He]; rfl
  refine azC S 1 I (v := .agg (Sx.L [.i p.kind]++p.color.cells++Sx.L [.i 0,.i 0,.i 0,.i 0,.i p.bT,.sn,.i 0]++p.img.cells++Sx.L [.i p.cO]++Sx.za).toArray) (λS=>?_);exact⟨by rw[e]; rfl,S.E⟩
 refine azm S ((p.kind)==3) (λhc31 S=>?_) (λhc31 S=>?_)
 .refine azq S 0 I λu C32 S=>azv S 0 I λu NZ S=>azv S 0 I (λu C34 S=>?_);have S:=S.fl;refine azv S 0 I λu C35 S=>adr S 1 [] [.mem 0 0] λS=>azq S 1 I (λu C37 S=>?_);have e:p.without=p.adk:=by unfold ak.without; rw[hc18,He,hc31]; rfl
  refine azC S 1 I (v := .agg (Sx.L [.i p.kind]++p.color.cells++Sx.L [.i 0,.i 0,.i p.p1.x,.i p.p1.y,.i 0,.sn,.i 0]++p.img.cells++Sx.L [.i p.cO]++Sx.za).toArray) (λS=>?_);exact⟨by rw[e]; rfl,S.E⟩
 refine azm S ((p.kind)==4) (λhc39 S=>?_) (λhc39 S=>?_)
 .refine azq S 0 I λu C40 S=>azv S 0 I (λu C41 S=>?_);have S:=S.fl;refine azv S 0 I λu C42 S=>adr S 1 [] [.mem 0 0] λS=>azq S 1 I (λu C44 S=>?_);have e:p.without=p.adl:=by unfold ak.without; rw[hc18,He,hc31,hc39]; rfl
  refine azC S 1 I (v := .agg (Sx.L [.i p.kind]++p.color.cells++Sx.L [.i p.p0.x,.i p.p0.y,.i p.p1.x,.i p.p1.y,.i p.bT,p.sv,.i 0,.i 0,.i 0,.sn,.i 0]++Sx.za).toArray) (λS=>?_);exact⟨by rw[e]; rfl,S.E⟩
 refine adr S 1 [] [.mem 0 0] λS=>azq S 1 I (λu UY S=>?_);have e:p.without=p.adn:=by unfold ak.without; rw[hc18,He,hc31,hc39]; rfl
 refine azC S 1 I (v := .agg (Sx.L [.i p.kind]++p.color.cells++Sx.L [.i p.p0.x,.i p.p0.y,.i p.p1.x,.i p.p1.y,.i p.bT,p.sv,.i p.spread]++p.img.cells++Sx.L [.i p.cO]++Sx.za).toArray) (λS=>?_);exact⟨by rw[e]; rfl,S.E⟩
open Go.RowKit Go.Sx Go.Vp
variable{α:Type}
theorem Hw{w:World}{p:ak}{K:Nat}(h:p.ok w)(hf:p.t.fit K)(hK1:1<=K)(hK:K<=10000) :
  Calls Tryz.prog 275 #[p.v] w λe w'=>e = .returned (.bool p.valid)∧Ext w w':=by
 skip;refine azp Tryz.func275 Tryz.ntmps275 λS=>azo S λu b2 E3 hb4 S=>azD S 13 [.mem 0 16,.mem 0 0,.mem 0 0] [(_,_,true,.bool (p.t.q.valid)),(_,_,(!(!(p.t.q.valid))),p.without.v),(_,_,(!(!(p.t.q.valid))),.bool (p.without.eq (ak.bare p.kind)))] [(15,.bool ((!(p.t.q.valid))||(!(p.without.eq (ak.bare p.kind)))))] ⟨λu hC g=>Hu p.t.v p.t.q K _ ((bH.toQ h.2.2.2.2.2.2.2.2.2 hf).iL (K00 S.E hC)) hK1 Z,λu hC g=>Rt (h.below (K00 S.E hC)),λu hC g=>wL (p:=p.without) (q:=ak.bare p.kind) (K:=K) ((ak.VF h).below (K00 S.E hC)) (ak.gB h.1 _) (ak.Rq p K) (bH.iF K) hK1 hK,G⟩ λu E7 S=>azm S ((!(p.t.q.valid))||(!(p.without.eq (ak.bare p.kind)))) (λhc8 S=>?_) (λhc8 S=>?_)
 .refine apB S (.z) (λS=>?_);exact⟨aN (by unfold ak.valid; rw[hc8]; rfl),S.E⟩
 refine adr S 4 [] [.mem 0 0] λS=>azm S ((p.kind)==1) (λhc13 S=>?_) (λhc13 S=>?_)
 .refine adr S 3 [] [.mem 0 16] λS=>azB S (Ag p.t.v bH.none.v p.t.q bH.none.q K _ ((bH.toQ h.2.2.2.2.2.2.2.2.2 hf).iL S.E) ((bH.toQ (bH.gy _) (bH.iF K)).iL (aAe _ _)) hK1 hK) λu E15 S=>apB S (.bool (p.t.q.eq bH.none.q)) (λS=>?_);exact⟨aN (by unfold ak.valid; rw[hc8,hc13]; rfl),S.E⟩
 refine azm S ((p.kind)==2) (λhc17 S=>?_) (λhc17 S=>?_)
 .refine adr S 2 [] [.mem 0 5] λS=>azB S (lC (p.p0.x) (p.p0.y) _) λu KU S=>aAQ S 12 [.mem 0 7,.mem 0 0] [(_,_,(!(!(jW.valid ⟨p.p0.x,p.p0.y⟩))),.bool (jW.valid ⟨p.p1.x,p.p1.y⟩)),(_,_,(!((!(jW.valid ⟨p.p0.x,p.p0.y⟩))||(!(jW.valid ⟨p.p1.x,p.p1.y⟩)))),.bool (iC p.stops&&iE p.spread))] [(40,.bool (((!(jW.valid ⟨p.p0.x,p.p0.y⟩))||(!(jW.valid ⟨p.p1.x,p.p1.y⟩)))||(!(iC p.stops&&iE p.spread))))] ⟨λu hC g=>lC (p.p1.x) (p.p1.y) _,λu hC g=>wM (h.below (K00 S.E hC)),G⟩ λu yN S=>azm S (((!(jW.valid ⟨p.p0.x,p.p0.y⟩))||(!(jW.valid ⟨p.p1.x,p.p1.y⟩)))||(!(iC p.stops&&iE p.spread))) (λhc21 S=>?_) (λhc21 S=>?_)
  .refine apB S (.z) (λS=>?_);exact⟨aN (by unfold ak.valid; rw[hc8,hc13,hc17,hc21]; rfl),S.E⟩
  refine adr S 2 [] [.mem 0 16] λS=>azH S (Yu p.t.v p.t.q K _ ((bH.toQ h.2.2.2.2.2.2.2.2.2 hf).iL S.E) hK1 hK) λx u hd yO S=>azB S (lV _ _ p.t.q.Ef q0 (K+K+(K+K)+1) 1 _ (aA.toQ hd (FK _) (FM hK1 (K05 ((bH.toQ h.2.2.2.2.2.2.2.2.2 hf).iL (aAe _ _)) hK1))) (uN _) Z Z Z Z) λu FH S=>apB S (.bool (((mD p.t.q.Ef q0)) != 0)) (λS=>?_);exact⟨aN (by unfold ak.valid; rw[hc8,hc13,hc17,hc21]; rfl),S.E⟩
 refine azm S ((p.kind)==3) (λhc27 S=>?_) (λhc27 S=>?_)
 .refine adr S 2 [] [.mem 0 5] λS=>azB S (lC (p.p0.x) (p.p0.y) _) λu yL S=>aAQ S 16 [.mem 0 9,.mem 0 9,.mem 0 0] [(_,_,(!(((!(jW.valid ⟨p.p0.x,p.p0.y⟩))||(decide (p.bT<1)))||(decide (1048576<p.bT)))),.bool (iC p.stops&&iE p.spread))] [(61,.bool ((((!(jW.valid ⟨p.p0.x,p.p0.y⟩))||(decide (p.bT<1)))||(decide (1048576<p.bT)))||(!(iC p.stops&&iE p.spread))))] ⟨λu hC g=>wM (h.below (K00 S.E hC)),G⟩ λu E30 S=>azm S ((((!(jW.valid ⟨p.p0.x,p.p0.y⟩))||(decide (p.bT<1)))||(decide (1048576<p.bT)))||(!(iC p.stops&&iE p.spread))) (λhc31 S=>?_) (λhc31 S=>?_)
  .refine apB S (.z) (λS=>?_);exact⟨aN (by unfold ak.valid; rw[hc8,hc13,hc17,hc27,hc31]; rfl),S.E⟩
  refine adr S 2 [] [.mem 0 16] λS=>azH S (Yu p.t.v p.t.q K _ ((bH.toQ h.2.2.2.2.2.2.2.2.2 hf).iL S.E) hK1 hK) λx u hd E34 S=>azB S (lV _ _ p.t.q.Ef q0 (K+K+(K+K)+1) 1 _ (aA.toQ hd (FK _) (FM hK1 (K05 ((bH.toQ h.2.2.2.2.2.2.2.2.2 hf).iL (aAe _ _)) hK1))) (uN _) Z Z Z Z) λu J4 S=>apB S (.bool (((mD p.t.q.Ef q0)) != 0)) (λS=>?_);exact⟨aN (by unfold ak.valid; rw[hc8,hc13,hc17,hc27,hc31]; rfl),S.E⟩
 refine azm S ((p.kind)==4) (λEY S=>?_) (λEY S=>?_)
 .refine adr S 2 [] [.mem 0 12] λS=>azB S (Bo (m:=p.img) (h.2.2.2.2.2.2.2.1.below S.E)) λu Ro S=>aAQ S 22 [.mem 0 11,.mem 0 11,.mem 0 15,.mem 0 15] [(_,_,((!(!(p.img.valid)))&&((p.spread) != 0)),.bool (iE p.spread))] [(88,.bool (((!(p.img.valid))||(((p.spread) != 0)&&(!(iE p.spread))))||(((p.cO) != 1)&&((p.cO) != 2))))] ⟨λu hC g=>azL (Gx p.spread _),G⟩ λu Yv S=>azm S (((!(p.img.valid))||(((p.spread) != 0)&&(!(iE p.spread))))||(((p.cO) != 1)&&((p.cO) != 2))) (λJ9 S=>?_) (λJ9 S=>?_)
  .refine apB S (.z) (λS=>?_);exact⟨aN (by unfold ak.valid; rw[hc8,hc13,hc17,hc27,EY,J9]; rfl),S.E⟩
  refine adr S 2 [] [.mem 0 16] λS=>azH S (Yu p.t.v p.t.q K _ ((bH.toQ h.2.2.2.2.2.2.2.2.2 hf).iL S.E) hK1 hK) λx u hd Yq S=>azB S (lV _ _ p.t.q.Ef q0 (K+K+(K+K)+1) 1 _ (aA.toQ hd (FK _) (FM hK1 (K05 ((bH.toQ h.2.2.2.2.2.2.2.2.2 hf).iL (aAe _ _)) hK1))) (uN _) Z Z Z Z) λu E45 S=>apB S (.bool (((mD p.t.q.Ef q0)) != 0)) (λS=>?_);exact⟨aN (by unfold ak.valid; rw[hc8,hc13,hc17,hc27,EY,J9]; rfl),S.E⟩
 refine apB S (.z) (λS=>?_);exact⟨aN (by unfold ak.valid; rw[hc8,hc13,hc17,hc27,EY]; rfl),S.E⟩
theorem adq{w:World}{p:ak}{K:Nat}(h:p.ok w)(hf:p.t.fit K)(hK1:1<=K)(hK:K<=10000) :
  Calls Tryz.prog 274 #[p.v] w λe w'=>e = .returned (.bool (!p.valid))∧Ext w w':=by
 skip;refine azp Tryz.func274 Tryz.ntmps274 λS=>azo S λu b2 E3 hb4 S=>adr S 2 [] [.mem 0 0] λS=>azB S (Hw (h.below S.E) hf hK1 hK) λu E6 S=>apB S (.bool (!p.valid)) (λS=>?_);exact⟨I,S.E⟩
open Go.RowKit Go.Sx Go.Vp
variable{α:Type}{K:Nat}
def oO(K:Nat)(w:World)(v:Value)(l:List ak):Prop:=iV w v l∧(∀p∈l,p.t.fit K)∧1<=K∧K<=10000
theorem oO.below{w w':World}{v:Value}{l:List ak}(h:oO K w v l)(hb:Ext w w'):oO K w' v l:=⟨h.1.below hb,h.2⟩
variable{o:Oper}{v:Value}{l:List ak}{Q:Exit->Act->World->Prop}{ops:Array Oper}{os os':List Oper}{N t0 t1:Nat}
theorem Yw:∃ie,Tryz.prog.info? 210=some ie∧ie.size=1∧ie.zero=some .nilIface:=by
 have h1:(Tryz.prog.info? 210).map (λi=>(i.size,i.zero))=some (1,some .nilIface):=by kernel_rfl
 cases h:Tryz.prog.info? 210 with
 | none=>rw[h]at h1; cases h1
 | some i=>rw[h]at h1; simp at h1; exact⟨i,I,h1.1,h1.2⟩
theorem fM(b:Bool)(n:Int):(dM b n).cells = #[dM b n]:=by unfold dM; split<;>rfl
theorem Ls{P:Program}{ρ:Operand->Value}{w w1:World}{t:TypeId}{n:Nat}{parts:Array (Nat×Operand)}{vs:Array (Nat×Value)}{V:Value}(hop:o.op = .buildSlice t n parts)(hp:(parts.map λ(i,x)=>(i,ρ x))=vs)(h:(Instr.buildSlice t n vs).run P w = .ok V w1) :
  (execOp ρ o).run P w = .ok (.value V) w1:=by
 unfold execOp;simp only[hop,hp,aAS,h];rfl
theorem aat(v0 v1 v2 v3 v4 v5:Value)(w:World)(h0:v0.cells = #[v0])(h1:v1.cells = #[v1])(h2:v2.cells = #[v2])(h3:v3.cells = #[v3])(h4:v4.cells = #[v4])(h5:v5.cells = #[v5]) :
  (Instr.buildSlice 292 6 #[(0,v0),(1,v1),(2,v2),(3,v3),(4,v4),(5,v5)]).run Tryz.prog w = .ok (.slice (some ⟨w.heap.size,0,none⟩) 6 6) (w.alloc (.cells #[v0,v1,v2,v3,v4,v5] 210)):=by
 obtain⟨ie,hi,hs,hz⟩:=Yw;refine run_buildSlice w _ 210 6 _ _ ie .nilIface Tryz.underlying292 hi hz (by rw[hs]; decide) (by rw[hs]; decide) ?_;rw[hs];have ez:((Array.range (6*1)).map (Value.nilIface.cells[· % Value.nilIface.cells.size]!)) = #[.nilIface,.nilIface,.nilIface,.nilIface,.nilIface,.nilIface]:=by kernel_rfl
 rw[ez];simp[Instr.fill,h0,h1,h2,h3,h4,h5]
theorem Ru{w0:World}{a:Act}{w:World}{l:List (Nat×Value)}{bl:List (Nat×List Value)}{vs:List Sx.fD}(S:Sx.St w0 a w N l bl vs)(d:Nat)(v0 v1 v2 v3 v4 v5:Value){t2 t3 t4 t5:Nat} 
  (hos:os=o::os') (hg:o.guard=none) (hd:o.dst=some d) (hop:o.op = .buildSlice 292 6 #[(0,.tmp t0),(1,.tmp t1),(2,.tmp t2),(3,.tmp t3),(4,.tmp t4),(5,.tmp t5)]) (c0:v0.cells = #[v0]) (c1:v1.cells = #[v1]) (c2:v2.cells = #[v2]) (c3:v3.cells = #[v3]) (c4:v4.cells = #[v4]) (c5:v5.cells = #[v5])
  (next:∀a' w' b,Ext w w'->b=w.heap.size->Sx.St w0 a' w' N ((d,.slice (some ⟨b,0,none⟩) 6 6)::l) ((b,[v0,v1,v2,v3,v4,v5])::bl) vs->wpList Tryz.prog ops Q (os.drop 1) a' w')
  (l0:l.lookup t0=some v0:=by kernel_rfl) (l1:l.lookup t1=some v1:=by kernel_rfl) (l2:l.lookup t2=some v2:=by kernel_rfl) (l3:l.lookup t3=some v3:=by kernel_rfl) (l4:l.lookup t4=some v4:=by kernel_rfl) (l5:l.lookup t5=some v5:=by kernel_rfl) (hdn:vI N (some d)=true:=by rfl):wpList Tryz.prog ops Q os a w:=
 ads S d [v0,v1,v2,v3,v4,v5] 210 (λb => .slice (some ⟨b,0,none⟩) 6 6) hos hg hd (Ls hop (by simp[S.s.has _ _ l0,S.s.has _ _ l1,S.s.has _ _ l2,S.s.has _ _ l3,S.s.has _ _ l4,S.s.has _ _ l5]) (aat v0 v1 v2 v3 v4 v5 w c0 c1 c2 c3 c4 c5)) next hdn
theorem aau(v0 v1:Value)(w:World)(h0:v0.cells = #[v0])(h1:v1.cells = #[v1]) :
  (Instr.buildSlice 292 2 #[(0,v0),(1,v1)]).run Tryz.prog w = .ok (.slice (some ⟨w.heap.size,0,none⟩) 2 2) (w.alloc (.cells #[v0,v1] 210)):=by
 obtain⟨ie,hi,hs,hz⟩:=Yw;refine run_buildSlice w _ 210 2 _ _ ie .nilIface Tryz.underlying292 hi hz (by rw[hs]; decide) (by rw[hs]; decide) ?_;rw[hs];have ez:((Array.range (2*1)).map (Value.nilIface.cells[· % Value.nilIface.cells.size]!)) = #[.nilIface,.nilIface]:=by kernel_rfl
 rw[ez];simp[Instr.fill,h0,h1]
theorem adt{w0:World}{a:Act}{w:World}{l:List (Nat×Value)}{bl:List (Nat×List Value)}{vs:List Sx.fD}(S:Sx.St w0 a w N l bl vs)(d:Nat)(v0 v1:Value) 
  (hos:os=o::os') (hg:o.guard=none) (hd:o.dst=some d) (hop:o.op = .buildSlice 292 2 #[(0,.tmp t0),(1,.tmp t1)]) (c0:v0.cells = #[v0]) (c1:v1.cells = #[v1])
  (next:∀a' w' b,Ext w w'->b=w.heap.size->Sx.St w0 a' w' N ((d,.slice (some ⟨b,0,none⟩) 2 2)::l) ((b,[v0,v1])::bl) vs->wpList Tryz.prog ops Q (os.drop 1) a' w')
  (l0:l.lookup t0=some v0:=by kernel_rfl) (l1:l.lookup t1=some v1:=by kernel_rfl) (hdn:vI N (some d)=true:=by rfl):wpList Tryz.prog ops Q os a w:=
 ads S d [v0,v1] 210 (λb => .slice (some ⟨b,0,none⟩) 2 2) hos hg hd (Ls hop (by simp[S.s.has _ _ l0,S.s.has _ _ l1]) (aau v0 v1 w c0 c1)) next hdn
theorem Hy{w:World}(h:oO K w v l) :
  Calls Tryz.prog 302 #[v,.func (.func 274) #[] #[]] w λe w'=>∃z,e = .returned (.i z)∧decide (0<=z) = !(l.all ak.valid)∧Ext w w':=by
 obtain⟨a,cap,rfl⟩:=h.1.1.shape;have hmax:l.length<=9223372036854775807:=h.1.1.len;refine azp Tryz.func302 Tryz.ntmps302 λS=>azI S (ι:=Nat) (λp a' w'=>p<=l.length∧((l.take p).all ak.valid=true)∧Sx.St w a' w' 19 [(0,.slice a l.length cap),(1,.func (.func 274) #[] #[]),(4,.i 0),(7,.i l.length),(8,.i p)] [] []) (λp=>l.length-p) (0) (λS=>⟨azZ _,I,S.qM⟩) ?_;rintro k ac u gQ eu hI;try dsimp only at hI
 obtain⟨hk,hR,S⟩:=hI;refine azJ S λS=>azm S (decide ((k:Int)<(l.length:Int))) (λhc6 S=>?_) (λhc6 S=>?_)
 .have sN:k<l.length:=by have:=az9 hc6; omega
  obtain⟨b10,o11,rfl,x16,zO,vN,NJ⟩:=aAo h.1.1 (λ_=>I) (k) sN;have S:=S.view0 vN NJ;refine adr S 7 [] [.idx k l.length,.mem 0 0] (hk:=⟨sN,G⟩) λS=>azB S (adq ((h.1.2 _ (zO▸aAl sN)).below S.E) (h.2.1 _ (zO▸aAl sN)) h.2.2.1 h.2.2.2) λu zL S=>azm S (!x16.valid) (λhc19 S=>?_) (λhc19 S=>?_)
  .refine apB S (.i k) (λS=>?_);exact⟨_,I,by rw[ND sN (by rw[zO]; simpa using hc19)]; simp,S.E⟩
  refine adr S 2 [] [.re 18 (.i (IntKind.i64.wrap ((k:Int)+1))) (.i (k+1:Nat))] (hk:=⟨azA Z,G⟩) λS=>azG S gQ (λS=>?_);exact eu _ _ (k+1) ⟨Z,(yX sN hR (by rw[zO]; simpa using hc19)),S.qM⟩ (by show _-_<_-_; omega)
 refine apB S (.i (-1)) (λS=>?_);exact⟨_,I,by rw[Eb (by have:=aAd hc6; omega) hR]; rfl,S.E⟩
theorem Ko{w:World}(h:oO K w v l) :
  Calls Tryz.prog 273 #[v,.func (.func 274) #[] #[]] w λe w'=>e = .returned (.bool (!(l.all ak.valid)))∧Ext w w':=by
 skip;refine azp Tryz.func273 Tryz.ntmps273 λS=>azz S (Hy (h.below S.E)) ?_;rintro e u ⟨z,rfl,hz,E3⟩;refine⟨_,I,E3,λS=>?_⟩;refine apB S (.bool (0<=z)) (λS=>?_);exact⟨aN hz,S.E⟩
theorem Yx{w:World}(h:oO K w v l) :
  Calls Tryz.prog 233 #[v] w λe w'=>e = .returned (.bool (l.all ak.valid))∧Ext w w':=by
 skip;refine azp Tryz.func233 Tryz.ntmps233 λS=>azB S (Ko (h.below S.E)) λu E3 S=>apB S (.bool (!(!(l.all ak.valid)))) (λS=>?_);exact⟨aN Y,S.E⟩
