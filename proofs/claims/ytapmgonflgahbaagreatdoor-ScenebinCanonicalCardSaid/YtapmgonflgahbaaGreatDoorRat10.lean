/- Walk of binenc.Rational. -/
import Derived.Test.YtapmgonflgahbaaGreatDoorPk37
namespace Go.Proofs.YtapmgonflgahbaaGreatDoor
open Go.RowKit En
variable{α:Type}
set_option linter.unusedVariables false
theorem adx{nb:Bool}{a b:Nat}{c:UInt8}{t:List UInt8}(hc:(c.toNat==1)=nb) :
  ((Ed (nb&&decide (0<a)) a b&&(gu (nb&&decide (0<a),a,b)==c::t))=(Ed nb a b&&(gu (nb,a,b)==c::t))) ∧
  ((Ed (nb&&decide (0<a)) a b&&(gu (nb&&decide (0<a),a,b)==c::t))=true→(nb&&decide (0<a))=nb):=by
 cases nb
 ·simp
 rcases awY a with h | h
 ·subst h;have e:(gu (true&&decide (0<0),0,b)==c::t)=false:=by
   rw[awI];intro e;simp only[gu,Nat.lt_irrefl,decide_false,Bool.and_false]at e;have:=(List.cons.inj e).1;rw[←this]at hc;simp at hc
  have e2:Ed true 0 b=false:=by unfold Ed; rw[Na.kL]; rfl
  rw[e,e2,Bool.and_false,axL];exact⟨rfl,fun h=>by cases h⟩
 rw[axg h]; simp
attribute [local go_sem] Go.Rel.Does Go.Rel.Upon Go.Rel.kept Go.Rel.valOf
set_option maxRecDepth 100000 in
set_option maxHeartbeats 1600000 in
theorem MR(v:Value)(l:List UInt8)(i:Int)(w:World)(hv:bG w v l)(hl:l.length≤60000000) :
  Calls Tryz.prog 227 #[v,.i i] w (WW w (Hy l i)):=by
 have HV:=awf hv;obtain⟨a0,c0,rfl⟩:=hv.shape;have hb0:=aF w (.cells #[.z,.sn,.z,.sn] 31);have HB0:=awf hb0;by_cases hbad:i<0∨(l.length:Int)<i
 ·rw[MN hbad];have HF:=awf (OH _ l i _ (hv.below hb0) hbad);clear hbad hv hb0;go_enter Tryz.func227,Tryz.ntmps227
  go_wp2_with fail
  refine HF.out.mono ?_;rintro e w1 ⟨rfl,rfl⟩;go_wp2_with fail
  refine bodyPost_ret (v := .tuple #[oh,.i 0,.i 2]) (by simp[results,Tryz.results227,go_sem]) rfl (lF HB0.out)
 obtain⟨p,rfl⟩:∃p:Nat,i=p:=⟨i.toNat,by omega⟩;have hp:p≤l.length:=by omega
 have HF:=awf (Vx _ l p _ (hv.below hb0) hp);clear hbad hv hb0;by_cases hpe:p=l.length
 ·rw[MO hpe];have hz:(((l.length-p:Nat):Int)==0)=true:=by rw[awE]; omega
  clear hpe;go_enter Tryz.func227,Tryz.ntmps227
  go_wp2_with fail
  refine HF.out.mono ?_;rintro e w1 ⟨b,rfl,hrd,hb1,hb⟩;have HL:=awf (uy _ l b p w1 hrd.row hrd.c0 hrd.c1 hrd.hp);have HB1:=awf hb1;clear hrd hb1 HF;go_wp2_with fail
  refine HL.out.mono ?_;rintro e w2 ⟨rfl,n,rfl⟩;have hX:=below_drewN HB1.out n;obtain⟨e0,e1,e2,e3,f0,hz1⟩:=mZ hX;have HX:=awf (Ext.trans' HB0.out hX);clear hX HL;go_wp2_with fail
  refine bodyPost_ret (v := .tuple #[oh,.i 0,.i 4]) (by simp[results,Tryz.results227,go_sem,e0,e1,e2,e3]) rfl (lF (iM HX.out (awm _) _ _ _ _))
 have hpl:p<l.length:=by omega
 have hz:(((l.length-p:Nat):Int)==0)=false:=by rw[awI]; omega
 obtain⟨c,hc⟩:∃c,l[p]?=some c:=⟨_,List.getElem?_eq_getElem hpl⟩;have hdc:(l.drop p).take 1=[c]:=by
  rw[axz hpl];rw[List.getElem?_eq_getElem hpl]at hc;rw[awx hc]; rfl
 have HC:=awf hc;have HDC:=awf hdc;clear hpe hc hdc;by_cases hs:1<c.toNat
 ·rw[Hz HC.out hs];have hsI:(1:Int)<(c.toNat:Int):=by omega
  clear hs;go_enter Tryz.func227,Tryz.ntmps227
  go_wp2_with fail
  refine HF.out.mono ?_;rintro e w1 ⟨b,rfl,hrd,hb1,hb⟩;have HL:=awf (uy _ l b p w1 hrd.row hrd.c0 hrd.c1 hrd.hp);have HB1:=awf hb1;have HR1:=awf hrd;clear hrd hb1 HF;go_wp2_with fail
  refine HL.out.mono ?_;rintro e w2 ⟨rfl,n,rfl⟩;have HNX:=awf (next_any l b p 1 _ (w1.drewN n) (HR1.out.drewN n) (by omega) (by omega));clear HL;go_wp2_with fail
  refine HNX.out.mono ?_;rintro e w3 ⟨v3,rfl,hr3,BR,hv3,Ig⟩;rw[HDC.out]at hv3;obtain⟨b3,o3,cp3,rfl,hb3,hl3,hm3,hc3⟩:=cZ hv3 rfl (by simp);have zY:=hc3 0 (by simp);simp only[ayb,axO]at zY;have HR3:=awf hr3;have HW3:=awf (axS HB1.out ((Ch.trans ((Ch.refl b w1).drewN n) BR).below hb HB1.out.size));clear hr3 BR hv3 Ig hc3 HNX;obtain⟨e0,e1,e2,e3,f0,hz1⟩:=mZ HW3.out;have HX:=awf (Ext.trans' HB0.out HW3.out);go_wp2_with fail
  refine bodyPost_ret (v := .tuple #[oh,.i 0,.i 3]) (by simp[results,Tryz.results227,go_sem,e0,e1,e2,e3]) rfl (lF (iM HX.out (awm _) _ _ _ _))
 have hsI:¬(1:Int)<(c.toNat:Int):=by omega
 cases hu:yO 4096 (l.drop (p+1))with
 | error er =>
  rw[UU HC.out hs hu];have he:=WV hu;have HU:=awf hu;clear hu hs;go_enter Tryz.func227,Tryz.ntmps227
  go_wp2_with fail
  refine HF.out.mono ?_;rintro e w1 ⟨b,rfl,hrd,hb1,hb⟩;have HL:=awf (uy _ l b p w1 hrd.row hrd.c0 hrd.c1 hrd.hp);have HB1:=awf hb1;have HR1:=awf hrd;clear hrd hb1 HF;go_wp2_with fail
  refine HL.out.mono ?_;rintro e w2 ⟨rfl,n,rfl⟩;have HNX:=awf (next_any l b p 1 _ (w1.drewN n) (HR1.out.drewN n) (by omega) (by omega));clear HL;go_wp2_with fail
  refine HNX.out.mono ?_;rintro e w3 ⟨v3,rfl,hr3,BR,hv3,Ig⟩;rw[HDC.out]at hv3;obtain⟨b3,o3,cp3,rfl,hb3,hl3,hm3,hc3⟩:=cZ hv3 rfl (by simp);have zY:=hc3 0 (by simp);simp only[ayb,axO]at zY;have HR3:=awf hr3;have HW3:=awf (axS HB1.out ((Ch.trans ((Ch.refl b w1).drewN n) BR).below hb HB1.out.size));clear hr3 BR hv3 Ig hc3 HNX;go_wp2_with fail
  have HN:=awf (xQ l b (p+1) _ 4096 w3 HR3.out (by omega) (by omega));rw[HU.out]at HN;refine HN.out.mono ?_;rintro e w4 ⟨q,hrd,hch,rfl⟩;have hX:=axS HW3.out (hch.below hb HW3.out.size);obtain⟨e0,e1,e2,e3,f0,hz1⟩:=mZ hX;have HX:=awf (Ext.trans' HB0.out hX);clear hrd hch hX HN;go_wp2_with fail
  refine bodyPost_ret (v := .tuple #[oh,.i 0,.i er]) (by simp[results,Tryz.results227,go_sem,e0,e1,e2,e3]) rfl (lF (iM HX.out (awm _) _ _ _ _))
 | ok r1 =>
  obtain⟨s1,k1⟩:=r1;obtain⟨hk1,hk10,avC⟩:=WX hu;rw[ayp]at hk1;cases hu2:yO 4096 (l.drop (p+1+k1))with
  | error er =>
   rw[UW HC.out hs hu hu2];have he:=WV hu2;have HU:=awf hu;have HU2:=awf hu2;clear hu hs hu2;go_enter Tryz.func227,Tryz.ntmps227
   go_wp2_with fail
   refine HF.out.mono ?_;rintro e w1 ⟨b,rfl,hrd,hb1,hb⟩;have HL:=awf (uy _ l b p w1 hrd.row hrd.c0 hrd.c1 hrd.hp);have HB1:=awf hb1;have HR1:=awf hrd;clear hrd hb1 HF;go_wp2_with fail
   refine HL.out.mono ?_;rintro e w2 ⟨rfl,n,rfl⟩;have HNX:=awf (next_any l b p 1 _ (w1.drewN n) (HR1.out.drewN n) (by omega) (by omega));clear HL;go_wp2_with fail
   refine HNX.out.mono ?_;rintro e w3 ⟨v3,rfl,hr3,BR,hv3,Ig⟩;rw[HDC.out]at hv3;obtain⟨b3,o3,cp3,rfl,hb3,hl3,hm3,hc3⟩:=cZ hv3 rfl (by simp);have zY:=hc3 0 (by simp);simp only[ayb,axO]at zY;have HR3:=awf hr3;have HW3:=awf (axS HB1.out ((Ch.trans ((Ch.refl b w1).drewN n) BR).below hb HB1.out.size));clear hr3 BR hv3 Ig hc3 HNX;go_wp2_with fail
   have Xf:=awf (xQ l b (p+1) _ 4096 w3 HR3.out (by omega) (by omega));rw[HU.out]at Xf;refine Xf.out.mono ?_;rintro e w4 ⟨q4,ady,zF,rfl,x4,rfl,hx4⟩;have HR4:=awf ady;have HW4:=awf (axS HW3.out (zF.below hb HW3.out.size));have HX4:=awf hx4;clear ady zF hx4 Xf;go_wp2_with fail
   have HN:=awf (xQ l b (p+1+k1) _ 4096 w4 HR4.out (by omega) (by omega));rw[HU2.out]at HN;refine HN.out.mono ?_;rintro e w5 ⟨q,hrd,hch,rfl⟩;have hX:=axS HW4.out (hch.below hb HW4.out.size);obtain⟨e0,e1,e2,e3,f0,hz1⟩:=mZ hX;have HX:=awf (Ext.trans' HB0.out hX);clear hrd hch hX HN;go_wp2_with fail
   refine bodyPost_ret (v := .tuple #[oh,.i 0,.i er]) (by simp[results,Tryz.results227,go_sem,e0,e1,e2,e3]) rfl (lF (iM HX.out (awm _) _ _ _ _))
  | ok r2 =>
   obtain⟨s2,k2⟩:=r2;obtain⟨hk2,avD,avE⟩:=WX hu2;rw[ayp]at hk2;rw[MP HC.out hs hu hu2];have asa:((c.toNat:Int)==1)=(c.toNat==1):=by
    rw[axA,awE,awE]; omega
   obtain⟨nb,hnb⟩:∃nb,(c.toNat==1)=nb:=⟨_,rfl⟩;obtain⟨a,ha⟩:∃a,Nb.val s1=a:=⟨_,rfl⟩;obtain⟨b',hb'⟩:∃b',Nb.val s2=b':=⟨_,rfl⟩;obtain⟨q,hq⟩:∃q,p+1+k1+k2=q:=⟨_,rfl⟩;have hsl:(l.take q).drop p=c::((l.take q).drop (p+1)):=by
    have hpq:p<(l.take q).length:=by simp; omega
    rw[axz hpq];have:=HC.out;rw[List.getElem?_eq_getElem hpl]at this;rw[List.getElem_take,awx this]
   have hcond:=adx (nb:=nb) (a:=a) (b:=b') (c:=c) (t:=(l.take q).drop (p+1)) hnb;rw[←hsl]at hcond;obtain⟨n1,hn1⟩:∃n1,(nb&&decide (0<a))=n1:=⟨_,rfl⟩;rw[hn1]at hcond;rw[hnb,ha,hb',hq,←hcond.1];obtain⟨r,hr⟩:∃r,(if Ed n1 a b'&&(gu (n1,a,b')==(l.take q).drop p)then ((nb,a,b'),q,0)else ((false,0,0),0,3))=r:=⟨_,rfl⟩;rw[hr];rw[hnb]at asa;have hla:(Na.ak a).length≤4096:=by have:=yD s1; rw[ha]at this; omega
   have hlb:(Na.ak b').length≤4096:=by have:=yD s2; rw[hb']at this; omega
   have hpq:p+1<q:=by omega
   have hql:q≤l.length:=by omega
   have ajr:=awf hr;have anB:=awf hcond.2;have Xf:Hid (n1=true→0<a):=by
    intro h;rw[←hn1]at h;simp only[awC,awL]at h;exact h.2
   have HNV:=awf hn1;have HAB:=awf (And.intro ha hb');have HQ:=awf hq;have HU:=awf hu;have HU2:=awf hu2;clear hu hs hu2 hnb ha hb' hq hsl hcond hn1 hr;go_enter Tryz.func227,Tryz.ntmps227
   go_wp2_with fail
   refine HF.out.mono ?_;rintro e w1 ⟨b,rfl,hrd,hb1,hb⟩;have HL:=awf (uy _ l b p w1 hrd.row hrd.c0 hrd.c1 hrd.hp);have HB1:=awf hb1;have HR1:=awf hrd;clear hrd hb1 HF;go_wp2_with fail
   refine HL.out.mono ?_;rintro e w2 ⟨rfl,n,rfl⟩;have HNX:=awf (next_any l b p 1 _ (w1.drewN n) (HR1.out.drewN n) (by omega) (by omega));clear HL;go_wp2_with fail
   refine HNX.out.mono ?_;rintro e w3 ⟨v3,rfl,hr3,BR,hv3,Ig⟩;rw[HDC.out]at hv3;obtain⟨b3,o3,cp3,rfl,hb3,hl3,hm3,hc3⟩:=cZ hv3 rfl (by simp);have zY:=hc3 0 (by simp);simp only[ayb,axO]at zY;have HR3:=awf hr3;have HW3:=awf (axS HB1.out ((Ch.trans ((Ch.refl b w1).drewN n) BR).below hb HB1.out.size));clear hr3 BR hv3 Ig hc3 HNX;go_wp2_with fail
   have Xf:=awf (xQ l b (p+1) _ 4096 w3 HR3.out (by omega) (by omega));rw[HU.out]at Xf;refine Xf.out.mono ?_;rintro e w4 ⟨q4,ady,zF,rfl,x4,rfl,hx4⟩;have HR4:=awf ady;have HW4:=awf (axS HW3.out (zF.below hb HW3.out.size));have HX4:=awf hx4;clear ady zF hx4 Xf;go_wp2_with fail
   have HN2:=awf (xQ l b (p+1+k1) _ 4096 w4 HR4.out (by omega) (by omega));rw[HU2.out]at HN2;refine HN2.out.mono ?_;rintro e w5 ⟨q5,anC,ajs,hq5,x5,rfl,hx5⟩;rw[HQ.out]at hq5;subst hq5;have HR5:=awf anC;have HW5:=awf (axS HW4.out (ajs.below hb HW4.out.size));have asb:=awf (aU (ZW HX4.out ajs HR3.out.lt));have HX5:=awf (aU hx5);clear anC ajs hx5 HN2;go_wp2_with fail
   have hG1:=J4 nb x4 s1 w5 asb.out (by omega);rw[HAB.out.1,HNV.out]at hG1;have HG1:=awf hG1;clear hG1;refine HG1.out.mono ?_;rintro e w6 ⟨y1,rfl,⟨t1,rfl,ht1,ft1⟩,hb6⟩;have hG2:=J4 false x5 s2 w6 (HX5.out.below hb6) (by omega);rw[HAB.out.2,axL]at hG2;have HG2:=awf hG2;have HT1:=awf (And.intro ht1 ft1);obtain⟨b1,d1,rfl⟩:=ht1.shape;have Zu:=awf hb6;clear ht1 ft1 hb6 hG2 HG1;go_wp2_with fail
   refine HG2.out.mono ?_;rintro e w7 ⟨y2,rfl,⟨t2,rfl,ht2,ft2⟩,hb7⟩;obtain⟨b2,d2,rfl⟩:=ht2.shape;have HT2:=awf (And.intro ht2 ft2);have HB7:=awf hb7;clear ht2 ft2 hb7 HG2;go_wp2_with fail
   obtain⟨g,hg⟩:∃g,g=w7.heap.size:=⟨_,rfl⟩;generalize hW:w7.alloc (.cells #[.bool n1,.slice b1 (Na.ak a).length d1,.z,.slice b2 (Na.ak b').length d2] 31)=W;have hE7:Ext w7 W:=by rw[←hW]; exact aF _ _
   have aaq:Ext w5 W:=Ext.trans' Zu.out (Ext.trans' HB7.out hE7);have HE:Hid (Ext (w.alloc (.cells #[.z,.sn,.z,.sn] 31)) W):=Ext.trans' HW5.out aaq;have HXY:Hid (aB W (.slice b1 (Na.ak a).length d1) (Na.ak a)∧aB W (.slice b2 (Na.ak b').length d2) (Na.ak b')):=⟨HT1.out.1.below (Ext.trans' HB7.out hE7),HT2.out.1.below hE7⟩;have anD:w.heap.size+1≤w5.heap.size:=by have:=HW5.out.size; simp at this; omega
   have HF:Hid (From (w.heap.size+1) (.slice b1 (Na.ak a).length d1)∧From (w.heap.size+1) (.slice b2 (Na.ak b').length d2)):=⟨HT1.out.2.mono anD,HT2.out.2.mono (by have:=Zu.out.size; omega)⟩;have HK:Hid (∀w',Ext W w'→w'.cell? ⟨g,0,none⟩=some (.bool n1)∧w'.cell? ⟨g,1,none⟩=some (.slice b1 (Na.ak a).length d1)∧w'.cell? ⟨g,2,none⟩=some (.z)∧w'.cell? ⟨g,3,none⟩=some (.slice b2 (Na.ak b').length d2)∧w'.cell? ⟨b,1,none⟩=some (.i q5)):=by
    intro w' hw';have h4:Ext (w7.alloc (.cells #[.bool n1,.slice b1 (Na.ak a).length d1,.z,.slice b2 (Na.ak b').length d2] 31)) w':=by rw[hW]; exact hw'
    obtain⟨k0,k1,k2,k3,-,-⟩:=mZ h4;rw[hg];exact⟨k0,k1,k2,k3,by rw[(Ext.trans' aaq hw').cell (p:=⟨b,1,none⟩) HR5.out.lt]; exact HR5.out.c1⟩
   rw[←hg];have HGB:Hid (b<g∧w.heap.size<b):=⟨by have h1:=Zu.out.size; have h2:=HB7.out.size; have h3:=HR5.out.lt; omega,by have h1:=hb; simp at h1; omega⟩;clear hW hE7 aaq anD hg;obtain⟨-,hcm,anE,-⟩:=(show l.length=l.length∧c0≤maxLen∧(0<l.length→l.length≤c0)∧True by
    obtain⟨a',cp',hv',hm',h'⟩:=HV.out;simp only[aw1,true_and]at hv';obtain⟨rfl,rfl⟩:=hv';refine⟨rfl,hm',fun h0=>?_,trivial⟩;rcases h' with ⟨h1,_⟩ | ⟨_,_,_,_,h1,_⟩
    ·rw[h1]at h0; simp at h0
    exact h1)
   have hlc:=anE (by omega);obtain⟨bx,ox,cx,hxs,hbx,hlx,hmx,hcx⟩:=cZ HV.out rfl (by omega);simp only[aw1,true_and]at hxs;obtain⟨rfl,rfl⟩:=hxs;have hqc:q5≤c0:=by omega
   have HSL:Hid (∀w',Ext w w'→bG w' (.slice (some ⟨bx,ox+p,none⟩) (q5-p) (c0-p)) ((l.take q5).drop p)):=by
    intro w' hw';have hz:(l.take q5).length=q5:=by simp; omega
    have:=row_drop (f:=fA) (n:=p) hbx (by rw[hz]; exact hqc) hcm (l:=l.take q5) (fun i hi=>by rw[hcx i (by rw[hz]at hi; omega)]; simp);rw[hz]at this;exact this.below hw'
   clear hcx anE;cases hQ:Ed n1 a b' with
   | false =>
    have hres:r=((false,0,0),0,3):=by rw[←ajr.out,hQ,axL]; rfl
    subst hres;refine Go.Rel.wp_region 17 (by kernel_rfl) (by kernel_rfl) Ext (fun w'=>Ext W w')
     [Rel.is (.agg #[.bool n1,.slice b1 (Na.ak a).length d1,.z,.slice b2 (Na.ak b').length d2]),Rel.is (.z),Rel.is (.bool true),Rel.is (.bool true),Rel.top,Rel.top,Rel.top,Rel.top,Rel.top,Rel.top,Rel.top,Rel.top,Rel.top,Rel.top,Rel.top,Rel.top,Rel.is (.bool true)]
     ?_ ?_ ?_ ⟨?_,?_,?_,?_,?_,?_,?_,?_,?_,?_,?_,?_,?_,?_,?_,?_,?_,trivial⟩ ?_
    ·exact below_drewN (awD _ _) 1
    ·exact fun _ _ h k=>Ext.trans' h k
    ·exact Rel.y8.mem ⟨Rel.aN _,Rel.aN _,Rel.aN _,Rel.aN _,fun _ _ _ _ k=>k,fun _ _ _ _ k=>k,fun _ _ _ _ k=>k,fun _ _ _ _ k=>k,fun _ _ _ _ k=>k,fun _ _ _ _ k=>k,fun _ _ _ _ k=>k,fun _ _ _ _ k=>k,fun _ _ _ _ k=>k,fun _ _ _ _ k=>k,fun _ _ _ _ k=>k,fun _ _ _ _ k=>k,Rel.aN _,trivial⟩
    ·intro ρ w' hs ho hC hd;have h2:ρ (.tmp 12) = .q g 0:=ho 12 rfl;obtain⟨k0,k1,k2,k3,-⟩:=HK.out w' hC;simp[go_sem,h2,k0,k1,k2,k3];exact⟨Ext.rfl',rfl⟩
    ·intro ρ w' hs ho hC hd;have h63:ρ (.tmp 63) = .agg #[.bool n1,.slice b1 (Na.ak a).length d1,.z,.slice b2 (Na.ak b').length d2]:=by first | exact hd.1 rfl | exact hd.2.1 rfl | exact hd.2.2.1 rfl | exact hd.2.2.2.1 rfl
     simp[go_sem,h63,hs.func];have hN:=zi n1 _ _ a b' w' (HXY.out.1.below hC) (HXY.out.2.below hC) (by omega) (by omega) Xf.out;refine hN.mono ?_;rintro e w'' ⟨rfl,hb⟩;rw[hQ];exact⟨_,rfl,hb,rfl⟩
    ·intro ρ w' hs ho hC hd;have h64:ρ (.tmp 64) = .z:=by first | exact hd.1 rfl | exact hd.2.1 rfl | exact hd.2.2.1 rfl | exact hd.2.2.2.1 rfl
     simp[go_sem,h64];exact⟨Ext.rfl',rfl⟩
    ·intro ρ w' hs ho hC hd;have h65:ρ (.tmp 65) = .bool true:=by first | exact hd.1 rfl | exact hd.2.1 rfl | exact hd.2.2.1 rfl | exact hd.2.2.2.1 rfl
     simp[go_sem,h65];exact⟨Ext.rfl',rfl⟩
    ·intro ρ w' hs ho hC hd;refine⟨fun hg=>?_,fun _=>trivial⟩;first
      | exact absurd ((hd.1 rfl).symm.trans hg) (by simp)
      | exact absurd ((hd.2.1 rfl).symm.trans hg) (by simp)
      | exact absurd ((hd.2.2.1 rfl).symm.trans hg) (by simp)
      | exact absurd ((hd.2.2.2.1 rfl).symm.trans hg) (by simp)
      | exact absurd ((hd.2.2.2.2.1 rfl).symm.trans hg) (by simp)
    ·intro ρ w' hs ho hC hd;refine⟨fun hg=>?_,fun _=>trivial⟩;first
      | exact absurd ((hd.1 rfl).symm.trans hg) (by simp)
      | exact absurd ((hd.2.1 rfl).symm.trans hg) (by simp)
      | exact absurd ((hd.2.2.1 rfl).symm.trans hg) (by simp)
      | exact absurd ((hd.2.2.2.1 rfl).symm.trans hg) (by simp)
      | exact absurd ((hd.2.2.2.2.1 rfl).symm.trans hg) (by simp)
    ·intro ρ w' hs ho hC hd;refine⟨fun hg=>?_,fun _=>trivial⟩;first
      | exact absurd ((hd.1 rfl).symm.trans hg) (by simp)
      | exact absurd ((hd.2.1 rfl).symm.trans hg) (by simp)
      | exact absurd ((hd.2.2.1 rfl).symm.trans hg) (by simp)
      | exact absurd ((hd.2.2.2.1 rfl).symm.trans hg) (by simp)
      | exact absurd ((hd.2.2.2.2.1 rfl).symm.trans hg) (by simp)
    ·intro ρ w' hs ho hC hd;refine⟨fun hg=>?_,fun _=>trivial⟩;first
      | exact absurd ((hd.1 rfl).symm.trans hg) (by simp)
      | exact absurd ((hd.2.1 rfl).symm.trans hg) (by simp)
      | exact absurd ((hd.2.2.1 rfl).symm.trans hg) (by simp)
      | exact absurd ((hd.2.2.2.1 rfl).symm.trans hg) (by simp)
      | exact absurd ((hd.2.2.2.2.1 rfl).symm.trans hg) (by simp)
    ·intro ρ w' hs ho hC hd;refine⟨fun hg=>?_,fun _=>trivial⟩;first
      | exact absurd ((hd.1 rfl).symm.trans hg) (by simp)
      | exact absurd ((hd.2.1 rfl).symm.trans hg) (by simp)
      | exact absurd ((hd.2.2.1 rfl).symm.trans hg) (by simp)
      | exact absurd ((hd.2.2.2.1 rfl).symm.trans hg) (by simp)
      | exact absurd ((hd.2.2.2.2.1 rfl).symm.trans hg) (by simp)
    ·intro ρ w' hs ho hC hd;refine⟨fun hg=>?_,fun _=>trivial⟩;first
      | exact absurd ((hd.1 rfl).symm.trans hg) (by simp)
      | exact absurd ((hd.2.1 rfl).symm.trans hg) (by simp)
      | exact absurd ((hd.2.2.1 rfl).symm.trans hg) (by simp)
      | exact absurd ((hd.2.2.2.1 rfl).symm.trans hg) (by simp)
      | exact absurd ((hd.2.2.2.2.1 rfl).symm.trans hg) (by simp)
    ·intro ρ w' hs ho hC hd;refine⟨fun hg=>?_,fun _=>trivial⟩;first
      | exact absurd ((hd.1 rfl).symm.trans hg) (by simp)
      | exact absurd ((hd.2.1 rfl).symm.trans hg) (by simp)
      | exact absurd ((hd.2.2.1 rfl).symm.trans hg) (by simp)
      | exact absurd ((hd.2.2.2.1 rfl).symm.trans hg) (by simp)
      | exact absurd ((hd.2.2.2.2.1 rfl).symm.trans hg) (by simp)
    ·intro ρ w' hs ho hC hd;refine⟨fun hg=>?_,fun _=>trivial⟩;first
      | exact absurd ((hd.1 rfl).symm.trans hg) (by simp)
      | exact absurd ((hd.2.1 rfl).symm.trans hg) (by simp)
      | exact absurd ((hd.2.2.1 rfl).symm.trans hg) (by simp)
      | exact absurd ((hd.2.2.2.1 rfl).symm.trans hg) (by simp)
      | exact absurd ((hd.2.2.2.2.1 rfl).symm.trans hg) (by simp)
    ·intro ρ w' hs ho hC hd;refine⟨fun hg=>?_,fun _=>trivial⟩;first
      | exact absurd ((hd.1 rfl).symm.trans hg) (by simp)
      | exact absurd ((hd.2.1 rfl).symm.trans hg) (by simp)
      | exact absurd ((hd.2.2.1 rfl).symm.trans hg) (by simp)
      | exact absurd ((hd.2.2.2.1 rfl).symm.trans hg) (by simp)
      | exact absurd ((hd.2.2.2.2.1 rfl).symm.trans hg) (by simp)
    ·intro ρ w' hs ho hC hd;refine⟨fun hg=>?_,fun _=>trivial⟩;first
      | exact absurd ((hd.1 rfl).symm.trans hg) (by simp)
      | exact absurd ((hd.2.1 rfl).symm.trans hg) (by simp)
      | exact absurd ((hd.2.2.1 rfl).symm.trans hg) (by simp)
      | exact absurd ((hd.2.2.2.1 rfl).symm.trans hg) (by simp)
      | exact absurd ((hd.2.2.2.2.1 rfl).symm.trans hg) (by simp)
    ·intro ρ w' hs ho hC hd;refine⟨fun hg=>?_,fun _=>trivial⟩;first
      | exact absurd ((hd.1 rfl).symm.trans hg) (by simp)
      | exact absurd ((hd.2.1 rfl).symm.trans hg) (by simp)
      | exact absurd ((hd.2.2.1 rfl).symm.trans hg) (by simp)
      | exact absurd ((hd.2.2.2.1 rfl).symm.trans hg) (by simp)
      | exact absurd ((hd.2.2.2.2.1 rfl).symm.trans hg) (by simp)
    ·intro ρ w' hs ho hC hd;refine⟨fun hg=>?_,fun _=>trivial⟩;first
      | exact absurd ((hd.1 rfl).symm.trans hg) (by simp)
      | exact absurd ((hd.2.1 rfl).symm.trans hg) (by simp)
      | exact absurd ((hd.2.2.1 rfl).symm.trans hg) (by simp)
      | exact absurd ((hd.2.2.2.1 rfl).symm.trans hg) (by simp)
      | exact absurd ((hd.2.2.2.2.1 rfl).symm.trans hg) (by simp)
    ·intro ρ w' hs ho hC hd;have h66:ρ (.tmp 66) = .bool true:=by first | exact hd.1 rfl | exact hd.2.1 rfl
     simp[go_sem,h66,hs.const];exact⟨Ext.rfl',rfl⟩
    intro w' hC;rintro _ rfl _ rfl _ rfl _ rfl v4 h4 v5 h5 v6 h6 v7 h7 v8 h8 v9 h9 v10 h10 v11 h11 v12 h12 v13 h13 v14 Ja v15 h15 _ rfl;change wpList _ _ _ (List.drop 17 _) _ _;simp only[List.drop_succ_cons,List.drop_nil];obtain⟨e0,e1,e2,e3,f0,hz1⟩:=mZ (Ext.trans' HE.out hC);have Zv:=awf hC;clear h4 h5 h6 h7 h8 h9 h10 h11 h12 h13 Ja h15 hC hQ;simp only[Go.Act.put,List.setIfInBounds_toArray,List.set_cons_succ,ayM];go_wp2_with fail
    refine bodyPost_ret (v := .tuple #[oh,.i 0,.i 3]) (by simp[results,Tryz.results227,go_sem,e0,e1,e2,e3]) rfl (lF (iM (Ext.trans' HB0.out (Ext.trans' HE.out Zv.out)) (awm _) _ _ _ _))
   | true =>
    obtain⟨S,hS⟩:∃S,(gu (n1,a,b')==(l.take q5).drop p)=S:=⟨_,rfl⟩;have HS:=awf hS;have HQK:=awf hQ;clear hS;refine Go.Rel.wp_region 17 (by kernel_rfl) (by kernel_rfl) Ext (fun w'=>Ext W w')
     [Rel.is (.agg #[.bool n1,.slice b1 (Na.ak a).length d1,.z,.slice b2 (Na.ak b').length d2]),Rel.is (.bool true),Rel.is (.z),Rel.is (.z),Rel.is (.agg #[.bool n1,.slice b1 (Na.ak a).length d1,.z,.slice b2 (Na.ak b').length d2]),fun v w'=>bG w' v (gu (n1,a,b')),Rel.is (.slice (some ⟨bx,ox,none⟩) l.length c0),Rel.is (.i p),Rel.is (.q b 0),Rel.is (.q b 0),Rel.is (.q b 0),Rel.is (.q b 1),Rel.is (.i q5),Rel.is (.slice (some ⟨bx,ox+p,none⟩) (q5-p) (c0-p)),Rel.is (.bool S),Rel.is (.bool (!S)),Rel.is (.bool (!S))]
     ?_ ?_ ?_ ⟨?_,?_,?_,?_,?_,?_,?_,?_,?_,?_,?_,?_,?_,?_,?_,?_,?_,trivial⟩ ?_
    ·exact below_drewN (awD _ _) 1
    ·exact fun _ _ h k=>Ext.trans' h k
    ·exact Rel.y8.mem ⟨Rel.aN _,Rel.aN _,Rel.aN _,Rel.aN _,Rel.aN _,fun _ _ _ h k=>k.below h,Rel.aN _,Rel.aN _,Rel.aN _,Rel.aN _,Rel.aN _,Rel.aN _,Rel.aN _,Rel.aN _,Rel.aN _,Rel.aN _,Rel.aN _,trivial⟩
    ·intro ρ w' hs ho hC hd;have h2:ρ (.tmp 12) = .q g 0:=ho 12 rfl;obtain⟨k0,k1,k2,k3,-⟩:=HK.out w' hC;simp[go_sem,h2,k0,k1,k2,k3];exact⟨Ext.rfl',rfl⟩
    ·intro ρ w' hs ho hC hd;have h63:ρ (.tmp 63) = .agg #[.bool n1,.slice b1 (Na.ak a).length d1,.z,.slice b2 (Na.ak b').length d2]:=by first | exact hd.1 rfl | exact hd.2.1 rfl | exact hd.2.2.1 rfl | exact hd.2.2.2.1 rfl
     simp[go_sem,h63,hs.func];have hN:=zi n1 _ _ a b' w' (HXY.out.1.below hC) (HXY.out.2.below hC) (by omega) (by omega) Xf.out;refine hN.mono ?_;rintro e w'' ⟨rfl,hb⟩;rw[hQ];exact⟨_,rfl,hb,rfl⟩
    ·intro ρ w' hs ho hC hd;have h64:ρ (.tmp 64) = .bool true:=by first | exact hd.1 rfl | exact hd.2.1 rfl | exact hd.2.2.1 rfl | exact hd.2.2.2.1 rfl
     simp[go_sem,h64];exact⟨Ext.rfl',rfl⟩
    ·intro ρ w' hs ho hC hd;have h65:ρ (.tmp 65) = .z:=by first | exact hd.1 rfl | exact hd.2.1 rfl | exact hd.2.2.1 rfl | exact hd.2.2.2.1 rfl
     simp[go_sem,h65];exact⟨Ext.rfl',rfl⟩
    ·intro ρ w' hs ho hC hd;refine⟨fun _=>?_,fun hn=>absurd (by first | exact hd.1 rfl | exact hd.2.1 rfl | exact hd.2.2.1 rfl | exact hd.2.2.2.1 rfl | exact hd.2.2.2.2.1 rfl) hn⟩;have h2:ρ (.tmp 12) = .q g 0:=ho 12 rfl;obtain⟨k0,k1,k2,k3,-⟩:=HK.out w' hC;simp[go_sem,h2,k0,k1,k2,k3];exact⟨Ext.rfl',rfl⟩
    ·intro ρ w' hs ho hC hd;refine⟨fun _=>?_,fun hn=>absurd (by first | exact hd.1 rfl | exact hd.2.1 rfl | exact hd.2.2.1 rfl | exact hd.2.2.2.1 rfl | exact hd.2.2.2.2.1 rfl) hn⟩;have h67:ρ (.tmp 67) = .agg #[.bool n1,.slice b1 (Na.ak a).length d1,.z,.slice b2 (Na.ak b').length d2]:=by first | exact hd.1 rfl | exact hd.2.1 rfl | exact hd.2.2.1 rfl | exact hd.2.2.2.1 rfl
     simp[go_sem,h67,hs.func];have hP:=wF n1 false _ _ _ _ w' (HXY.out.1.below hC) (HXY.out.2.below hC) (by omega) (by omega);rw[Na.aC,Na.aC,EG HQK.out]at hP;refine hP.mono ?_;rintro e w'' ⟨v',rfl,hv,hb⟩;exact⟨_,rfl,hb,aU hv⟩
    ·intro ρ w' hs ho hC hd;refine⟨fun _=>?_,fun hn=>absurd (by first | exact hd.1 rfl | exact hd.2.1 rfl | exact hd.2.2.1 rfl | exact hd.2.2.2.1 rfl | exact hd.2.2.2.2.1 rfl) hn⟩;have h2:ρ (.tmp 0) = .slice (some ⟨bx,ox,none⟩) l.length c0:=ho 0 rfl;simp[go_sem,h2];exact⟨Ext.rfl',rfl⟩
    ·intro ρ w' hs ho hC hd;refine⟨fun _=>?_,fun hn=>absurd (by first | exact hd.1 rfl | exact hd.2.1 rfl | exact hd.2.2.1 rfl | exact hd.2.2.2.1 rfl | exact hd.2.2.2.2.1 rfl) hn⟩;have h2:ρ (.tmp 1) = .i p:=ho 1 rfl;simp[go_sem,h2];exact⟨Ext.rfl',rfl⟩
    ·intro ρ w' hs ho hC hd;refine⟨fun _=>?_,fun hn=>absurd (by first | exact hd.1 rfl | exact hd.2.1 rfl | exact hd.2.2.1 rfl | exact hd.2.2.2.1 rfl | exact hd.2.2.2.2.1 rfl) hn⟩;have h2:ρ (.tmp 7) = .q b 0:=ho 7 rfl;simp[go_sem,h2];exact⟨Ext.rfl',rfl⟩
    ·intro ρ w' hs ho hC hd;refine⟨fun _=>?_,fun hn=>absurd (by first | exact hd.1 rfl | exact hd.2.1 rfl | exact hd.2.2.1 rfl | exact hd.2.2.2.1 rfl | exact hd.2.2.2.2.1 rfl) hn⟩;have h71:ρ (.tmp 71) = .q b 0:=by first | exact hd.1 rfl | exact hd.2.1 rfl | exact hd.2.2.1 rfl | exact hd.2.2.2.1 rfl
     simp[go_sem,h71];exact⟨Ext.rfl',rfl⟩
    ·intro ρ w' hs ho hC hd;refine⟨fun _=>?_,fun hn=>absurd (by first | exact hd.1 rfl | exact hd.2.1 rfl | exact hd.2.2.1 rfl | exact hd.2.2.2.1 rfl | exact hd.2.2.2.2.1 rfl) hn⟩;have h72:ρ (.tmp 72) = .q b 0:=by first | exact hd.1 rfl | exact hd.2.1 rfl | exact hd.2.2.1 rfl | exact hd.2.2.2.1 rfl
     simp[go_sem,h72];exact⟨Ext.rfl',rfl⟩
    ·intro ρ w' hs ho hC hd;refine⟨fun _=>?_,fun hn=>absurd (by first | exact hd.1 rfl | exact hd.2.1 rfl | exact hd.2.2.1 rfl | exact hd.2.2.2.1 rfl | exact hd.2.2.2.2.1 rfl) hn⟩;have h73:ρ (.tmp 73) = .q b 0:=by first | exact hd.1 rfl | exact hd.2.1 rfl | exact hd.2.2.1 rfl | exact hd.2.2.2.1 rfl
     simp[go_sem,h73];exact⟨Ext.rfl',rfl⟩
    ·intro ρ w' hs ho hC hd;refine⟨fun _=>?_,fun hn=>absurd (by first | exact hd.1 rfl | exact hd.2.1 rfl | exact hd.2.2.1 rfl | exact hd.2.2.2.1 rfl | exact hd.2.2.2.2.1 rfl) hn⟩;have h74:ρ (.tmp 74) = .q b 1:=by first | exact hd.1 rfl | exact hd.2.1 rfl | exact hd.2.2.1 rfl | exact hd.2.2.2.1 rfl
     obtain⟨-,-,-,-,k4⟩:=HK.out w' hC;simp[go_sem,h74,k4];exact⟨Ext.rfl',rfl⟩
    ·intro ρ w' hs ho hC hd;refine⟨fun _=>?_,fun hn=>absurd (by first | exact hd.1 rfl | exact hd.2.1 rfl | exact hd.2.2.1 rfl | exact hd.2.2.2.1 rfl | exact hd.2.2.2.2.1 rfl) hn⟩;have h69:ρ (.tmp 69) = .slice (some ⟨bx,ox,none⟩) l.length c0:=by first | exact hd.1 rfl | exact hd.2.1 rfl | exact hd.2.2.1 rfl | exact hd.2.2.2.1 rfl
     have h70:ρ (.tmp 70) = .i p:=by first | exact hd.1 rfl | exact hd.2.1 rfl | exact hd.2.2.1 rfl | exact hd.2.2.2.1 rfl
     have h75:ρ (.tmp 75) = .i q5:=by first | exact hd.1 rfl | exact hd.2.1 rfl | exact hd.2.2.1 rfl | exact hd.2.2.2.1 rfl
     have e1:p≤q5:=by omega
     have e2:¬c0=p:=by omega
     simp[go_sem,h69,h70,h75,hqc,e1,e2];exact⟨Ext.rfl',rfl⟩
    ·intro ρ w' hs ho hC hd;refine⟨fun _=>?_,fun hn=>absurd (by first | exact hd.1 rfl | exact hd.2.1 rfl | exact hd.2.2.1 rfl | exact hd.2.2.2.1 rfl | exact hd.2.2.2.2.1 rfl) hn⟩;have h1:bG w' (ρ (.tmp 68)) (gu (n1,a,b')):=by first | exact hd.1 rfl | exact hd.2.1 rfl
     have h76:ρ (.tmp 76) = .slice (some ⟨bx,ox+p,none⟩) (q5-p) (c0-p):=by first | exact hd.1 rfl | exact hd.2.1 rfl | exact hd.2.2.1 rfl | exact hd.2.2.2.1 rfl
     simp[go_sem,h76,hs.func];have hSm:=jP _ _ _ _ w' h1 (HSL.out w' (Ext.trans' HB0.out (Ext.trans' HE.out hC)));rw[HS.out]at hSm;refine hSm.mono ?_;rintro e w'' ⟨rfl,rfl⟩;exact⟨_,rfl,Ext.rfl',rfl⟩
    ·intro ρ w' hs ho hC hd;refine⟨fun _=>?_,fun hn=>absurd (by first | exact hd.1 rfl | exact hd.2.1 rfl | exact hd.2.2.1 rfl | exact hd.2.2.2.1 rfl | exact hd.2.2.2.2.1 rfl) hn⟩;have h77:ρ (.tmp 77) = .bool S:=by first | exact hd.1 rfl | exact hd.2.1 rfl | exact hd.2.2.1 rfl | exact hd.2.2.2.1 rfl
     simp[go_sem,h77];exact⟨Ext.rfl',rfl⟩
    ·intro ρ w' hs ho hC hd;have h66:ρ (.tmp 66) = .z:=by first | exact hd.1 rfl | exact hd.2.1 rfl
     have h78:ρ (.tmp 78) = .bool (!S):=by first | exact hd.1 rfl | exact hd.2.1 rfl | exact hd.2.2.1 rfl | exact hd.2.2.2.1 rfl
     simp[go_sem,h66,h78,hs.const];exact⟨Ext.rfl',rfl⟩
    intro w' hC;rintro _ rfl _ rfl _ rfl _ rfl _ rfl v5 h5 _ rfl _ rfl _ rfl _ rfl _ rfl _ rfl _ rfl _ rfl _ rfl _ rfl _ rfl;change wpList _ _ _ (List.drop 17 _) _ _;simp only[List.drop_succ_cons,List.drop_nil];obtain⟨e0,e1,e2,e3,f0,hz1⟩:=mZ (Ext.trans' HE.out hC);obtain⟨k0,k1,k2,k3,k4⟩:=HK.out w' hC;have Zv:=awf hC;clear h5 hC hQ;simp only[Go.Act.put,List.setIfInBounds_toArray,List.set_cons_succ,ayM];cases S
    ·have hres:r=((false,0,0),0,3):=by rw[←ajr.out,HS.out,HQK.out]; rfl
     subst hres;go_wp2_with fail
     refine bodyPost_ret (v := .tuple #[oh,.i 0,.i 3]) (by simp[results,Tryz.results227,go_sem,e0,e1,e2,e3]) rfl (lF (iM (Ext.trans' HB0.out (Ext.trans' HE.out Zv.out)) (awm _) _ _ _ _))
    have hn:n1=nb:=anB.out (by rw[HS.out,HQK.out]; rfl);have hres:r=((nb,a,b'),q5,0):=by rw[←ajr.out,HS.out,HQK.out]; rfl
    rw[←hn]at hres;subst hres;clear hn;go_wp2_with fail
    have hgl:g≠b:=by have:=HGB.out; omega
    have hwb:w.heap.size≠b:=by have:=HGB.out; omega
    go_region
    go_wp2_with fail
    refine bodyPost_ret (v := .tuple #[.agg #[.bool n1,.slice b1 (Na.ak a).length d1,.z,.slice b2 (Na.ak b').length d2],.i q5,.i 0]) (by simp[results,Tryz.results227,go_sem,e0,e1,e2,e3]) rfl ⟨_,rfl,⟨_,_,rfl,?_,?_,HF.out.1.mono (by omega),HF.out.2.mono (by omega)⟩,(iM (Ext.trans' HB0.out (Ext.trans' HE.out Zv.out)) (awm _) _ _ _ _).drew⟩
    ·exact((HXY.out.1.below Zv.out).ch (((((Ch.refl _ _).setCell _ _).setCell _ _).setCell _ _).setCell _ _) (fun _=>HF.out.1.off (by omega))).below ((awD _ _).drew)
    exact((HXY.out.2.below Zv.out).ch (((((Ch.refl _ _).setCell _ _).setCell _ _).setCell _ _).setCell _ _) (fun _=>HF.out.2.off (by omega))).below ((awD _ _).drew)
end Go.Proofs.YtapmgonflgahbaaGreatDoor
