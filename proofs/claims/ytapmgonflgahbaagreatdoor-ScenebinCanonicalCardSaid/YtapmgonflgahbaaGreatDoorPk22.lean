/- Walks of the reference on rational numbers: Normalize, -/
import Derived.Test.YtapmgonflgahbaaGreatDoorRefRat2
set_option linter.unusedVariables false
namespace Go.Proofs.YtapmgonflgahbaaGreatDoor
open _root_.Go.Proofs.Tryz
section
set_option maxHeartbeats 1600000
set_option maxRecDepth 100000
open Go.RowKit
variable{α:Type}
theorem GY{w w1:World}{A:Array Value}{ta tb:TypeId}{x0 x1 x2 x3:Value}(hb:Ext ((w.alloc (.cells A ta)).alloc (.cells #[x0,x1,x2,x3] tb)) w1) :
  (∀i,w1.cell? ⟨w.heap.size,i,none⟩=A[i]?)∧(∀i,w1.cell? ⟨w.heap.size+1,i,none⟩ = #[x0,x1,x2,x3][i]?)∧(∀i,w1.frozen? ⟨w.heap.size+1,i,none⟩=false)∧w.heap.size+1<w1.heap.size:=by
 refine⟨fun i=>?_,fun i=>?_,fun i=>?_,by have:=hb.size; simp at this; omega⟩
 ·rw[hb.cell (p:=⟨w.heap.size,i,none⟩) (by simp; omega)]; simp[go_sem]
 ·rw[hb.cell (p:=⟨w.heap.size+1,i,none⟩) (by simp)]; simp[go_sem]
 rw[hb.frozen (p:=⟨w.heap.size+1,i,none⟩) (by simp)]; simp[go_sem]
theorem yP(n1 n2:Bool)(s1 s2:Value)(l m:List UInt32)(w:World)(h1:aB w s1 l)(h2:aB w s2 m)(hl1:l.length≤5000000)(hl2:m.length≤5000000) :
  Calls prog 127 #[.agg #[.bool n1,s1,.bool n2,s2]] w fun e w'=>∃x,e = .returned x∧dX w.heap.size w' x (nrm n1 n2 (Na.val l) (Na.val m))∧Ext w w':=by
 obtain⟨a1,c1,rfl⟩:=h1.shape;obtain⟨a2,c2,rfl⟩:=h2.shape;have hb0:=(aF w (.cells #[.bool n1,.slice a1 l.length c1,.bool n2,.slice a2 m.length c2] 31)).alloc (by simp) (.cells #[.z,.sn,.z,.sn] 31);have hS:=sH n2 _ m _ (h2.below hb0) (by omega);have H:=awf (And.intro h1 h2);have HB0:=awf hb0;rcases awY (Na.val m)with hm | hm
 ·have hN:nrm n1 n2 (Na.val l) (Na.val m)=(false,0,1):=by unfold nrm; rw[awl hm]
  rw[hN];rw[hm,show qG n2 0=0 from rfl]at hS;have HS:=awf hS;clear h1 h2 hb0 hm hN hS;go_enter func127,ntmps127
  go_wp2_with fail
  refine HS.out.mono ?_;rintro e w1 ⟨rfl,hb⟩;have HX:=awf (Ext.trans' HB0.out hb);have HY:=awf (Bc 0 w1 (by decide));have HBB:=awf hb;clear hb HS;go_wp2_with fail
  refine HY.out.mono ?_;rintro e w2 ⟨x,rfl,hx,hb2⟩;obtain⟨b1,d1,b2,d2,rfl⟩:=hx.shape;obtain⟨-,r1,f1,hz⟩:=GY (Ext.trans' HBB.out hb2);obtain⟨-,-,-,hz1⟩:=GY HBB.out;have F:=awf hx;have HX2:=awf (Ext.trans' HX.out hb2);clear hx hb2 HY;go_wp2_with fail
  refine bodyPost_ret (v := .agg #[.z,.slice b1 (Na.ak 0).length d1,.z,.slice b2 (Na.ak 1).length d2]) (by simp[results,results127,go_sem,r1]) rfl ⟨_,rfl,?_,iM HX2.out (by omega) _ _ _ _⟩;exact(F.out.LP hz1 _ _ _ _).mono (by omega)
 have hN:nrm n1 n2 (Na.val l) (Na.val m)=(lS n1 n2 (Na.val l) (Na.val m),Na.val l/Nat.gcd (Na.val l) (Na.val m),Na.val m/Nat.gcd (Na.val l) (Na.val m)):=by unfold nrm; rw[awj (by omega)]
 obtain⟨⟨NG,X,Y⟩,hr⟩:∃r,nrm n1 n2 (Na.val l) (Na.val m)=r:=⟨_,rfl⟩;rw[hr];rw[hN]at hr;obtain⟨e1,hr⟩:=Prod.mk.inj hr;obtain⟨e2,e3⟩:=Prod.mk.inj hr;have E:=awf (And.intro e1 (And.intro e2 e3));clear e1 e2 e3 hr hN;have hs0:(qG n2 (Na.val m)==0)=false:=by
  rw[awI]; unfold qG; rw[awj (by omega)]; cases n2<;>simp
 have HM:=awf hm;have HS:=awf hS;clear h1 h2 hb0 hm hS;go_enter func127,ntmps127
 go_wp2_with fail
 refine HS.out.mono ?_;rintro e w1 ⟨rfl,hb⟩;have hX:=Ext.trans' HB0.out hb;have HX:=awf hX;have hY:=I7 n1 n2 _ _ l m w1 (H.out.1.below hX) (H.out.2.below hX) HM.out hl1 hl2;rw[E.out.1,E.out.2.1,E.out.2.2]at hY;have HY:=awf hY;clear hY;have HBB:=awf hb;obtain⟨k0,-,-,-⟩:=GY hb;clear hb HS hX;go_wp2_with fail
 refine HY.out.mono ?_;rintro e w2 ⟨x,rfl,hx,hb2⟩;obtain⟨b1,d1,b2,d2,rfl⟩:=hx.shape;obtain⟨-,r1,f1,hz⟩:=GY (Ext.trans' HBB.out hb2);obtain⟨-,-,-,hz1⟩:=GY HBB.out;have F:=awf hx;have HX2:=awf (Ext.trans' HX.out hb2);clear hx hb2 HY k0;go_wp2_with fail
 refine bodyPost_ret (v := .agg #[.bool NG,.slice b1 (Na.ak X).length d1,.z,.slice b2 (Na.ak Y).length d2]) (by simp[results,results127,go_sem,r1]) rfl ⟨_,rfl,?_,iM HX2.out (by omega) _ _ _ _⟩;exact(F.out.LP hz1 _ _ _ _).mono (show w.heap.size≤w1.heap.size by omega)
theorem Du(n1 n2:Bool)(s1 s2:Value)(l m:List UInt32)(w:World)(h1:aB w s1 l)(h2:aB w s2 m) :
  Calls prog 313 #[.agg #[.bool n1,s1],.agg #[.bool n2,s2]] w fun e w'=>e = .returned (.bool (n1==n2&&l==m))∧Ext w w':=by
 obtain⟨a1,c1,rfl⟩:=h1.shape;obtain⟨a2,c2,rfl⟩:=h2.shape;have hl1:=h1.len;have hl2:=h2.len;unfold maxLen at hl1 hl2;have HB0:=awf ((aF w (.cells #[.bool n1,.slice a1 l.length c1] 29)).alloc (by simp) (.cells #[.bool n2,.slice a2 m.length c2] 29));have H1:=awf h1;have H2:=awf h2;clear h1 h2;by_cases hn:n1=n2
 ·subst hn;by_cases hl:l.length=m.length
  ·have HL:=awf hl;obtain⟨W,hW⟩:∃W,((w.alloc (.cells #[.bool n1,.slice a1 l.length c1] 29)).alloc (.cells #[.bool n1,.slice a2 m.length c2] 29))=W:=⟨_,rfl⟩;have hK:∀w1,Ext W w1→w1.cell? ⟨w.heap.size,1,none⟩=some (.slice a1 l.length c1)∧w1.cell? ⟨w.heap.size+1,1,none⟩=some (.slice a2 m.length c2):=by
    intro w1 hb;subst hW;constructor
    ·rw[hb.cell (p:=⟨w.heap.size,1,none⟩) (by simp; omega)]; simp[go_sem]
    rw[hb.cell (p:=⟨w.heap.size+1,1,none⟩) (by simp)]; simp[go_sem]
   have HK:=awf hK;rw[hW]at HB0;have HW:=awf hW;have hne:((l.length:Int) != (m.length:Int))=false:=by rw[bne_eq_false_iff_eq]; omega
   have hml:m.length≤l.length:=Nat.le_of_eq hl.symm;have hlm:l.length≤m.length:=Nat.le_of_eq hl;clear hl hK hW;cases n1;all_goals
    go_enter func313,ntmps313
    go_wp2_with fail
    rw[HW.out]
    clear hne
    go_loopw [5] (fun i wr=>∃k:Nat,i = .i k∧k≤l.length∧l.take k=m.take k∧Ext W wr) (fun i _=>l.length-(intOf i).toNat)
    case atStart=>exact⟨0,rfl,awt _,rfl,awD _ _⟩
    case round =>
     obtain⟨k,rfl,hk,ht,hbel⟩:=hrel
     have HT:=awf ht
     clear ht
     obtain⟨q1,q2⟩:=HK.out wr hbel
     by_cases hlt:k<l.length
     ·obtain⟨bx,ox,cx,hxs,hbx,hlx,hmx,hcx⟩:=cZ H1.out rfl (by omega)
      obtain⟨by',oy,cy,hys,hby,hly,hmy,hcy⟩:=cZ H2.out rfl (by omega)
      simp only[aw1]at hxs hys
      obtain⟨rfl,-,-⟩:=hxs
      obtain⟨rfl,-,-⟩:=hys
      have hkm:k<m.length:=by omega
      have hb:=Ext.trans' HB0.out hbel
      have r1:wr.cell? ⟨bx,ox+k,none⟩=some (aX l[k]):=by rw[hb.cell (p:=⟨bx,ox+k,none⟩) hbx]; exact hcx k hlt
      have r2:wr.cell? ⟨by',oy+k,none⟩=some (aX m[k]):=by rw[hb.cell (p:=⟨by',oy+k,none⟩) hby]; exact hcy k hkm
      have hs1:=take_snoc l k hlt
      have hs2:=take_snoc m k hkm
      clear hcx hcy hb
      have hkI:(k:Int)<(m.length:Int):=by omega
      by_cases he:l[k]=m[k]
      ·have hnx:l.take (k+1)=m.take (k+1):=by rw[hs1,hs2,HT.out,he]
       rw[he]at r1
       have HN:=awf hnx
       generalize m[k]=d at *
       clear hs1 hs2 hnx he
       go_wp2_with fail
       go_quiet (fail)
       go_wp2_with fail
       go_roundw
       case rel=>exact⟨k+1,by go_num,by omega,HN.out,below_drewN hbel _⟩
       case measure=>simp[intOf]; omega
      ·have hx:((l[k].toNat:Int) != (m[k].toNat:Int))=true:=by
        rw[bne_iff_ne]; intro e; exact he (axj.1 (by omega))
       have hr:l≠m:=fun e=>he (by subst e; rfl)
       have HR:Hid ((l==m)=false):=awI.2 hr
       generalize l[k]=d1 at *
       generalize m[k]=d2 at *
       clear hs1 hs2 he hr
       go_wp2_with fail
       go_quiet (fail)
       go_wp2_with fail
       go_ret
       exact⟨by rw[HR.out]; rfl,below_drewN (Ext.trans' HB0.out hbel) _⟩
     ·obtain rfl:k=l.length:=by omega
      have hr:l=m:=by
       have:=HT.out
       rw[axa,HL.out,axa]at this; exact this
      have HR:Hid ((l==m)=true):=awE.2 hr
      clear hr
      go_wp2_with fail
      go_ret
      exact⟨by rw[HR.out]; rfl,Ext.trans' HB0.out hbel⟩
  have hne:((l.length:Int) != (m.length:Int))=true:=by rw[bne_iff_ne]; omega
  have hr:Hid ((n1==n1&&l==m)=false):=by
   show _=_;rw[ax7,axo,awI]; exact fun e=>hl (by rw[e])
  clear hl;cases n1;all_goals
   go_enter func313,ntmps313
   go_wp2_with fail
   go_ret
   exact⟨by rw[hr.out]; rfl,HB0.out⟩
 have hr:Hid ((n1==n2&&l==m)=false):=by
  show _=_;rw[awI.2 hn,axL]
 cases n1<;>cases n2
 ·exact absurd rfl hn
 case' true.true=>exact absurd rfl hn
 all_goals
  clear hn
  go_enter func313,ntmps313
  go_wp2_with fail
  go_ret
  exact⟨by rw[hr.out]; rfl,HB0.out⟩
end
section
open Go.RowKit
variable{α:Type}
theorem qL(v:Value)(q:Bool×Nat×Nat)(K:Nat)(w:World)(h:eY K w v q)(hK:K≤1000000) :
  Calls prog 127 #[v] w fun e w'=>∃x,e = .returned x∧dX w.heap.size w' x q∧Ext w w':=by
 obtain⟨n1,s1,l1,n2,s2,l2,rfl,h1,h2,h3,h4,rfl⟩:=h;exact yP n1 n2 s1 s2 l1 l2 w h1 h2 (by omega) (by omega)
end
section
open Go.RowKit
variable{α:Type}
set_option maxRecDepth 100000 in
set_option maxHeartbeats 1600000 in
theorem JK(t:bD)(w:World) :
  Calls prog 207 #[t.v] w fun e w'=>∃b,e = .returned (.slice (some ⟨b,0,none⟩) 6 6)∧w.heap.size≤b∧Bx w' b t.cells.toArray∧Ext w w':=by
 skip;refine avU func207 ntmps207 fun ac S=>avP fun _ aV=>avQ S 1 t.cells fun ac u b2 E3 hb4 S=>adr S 1 [] [(2,.sn)] fun S=>apB<|aV _ _<|avP fun _ dA=>adr S 12 [.mem 0 0,.mem 0 4,.mem 0 8,.mem 0 12,.mem 0 16,.mem 0 20] [(4,t.a.v),(6,t.b.v),(8,t.c.v),(10,t.d.v),(12,t.e.v),(14,t.f.v)] fun S=>awc S 15 6 t.cells fun ac u b6 E7 hb8 S=>adr S 1 [] [(2,.slice (some ⟨b6,0,none⟩) 6 6)] fun S=>apB<|dA _ _<|avS S results207 ?_;exact⟨b6,rfl,S.old 0,S.bx 0,S.E⟩
end
section
set_option maxHeartbeats 1600000
set_option maxRecDepth 100000
open Go.RowKit
variable{α:Type}{K:Nat}
def bJ.same(r s:bJ):Bool:=(r.n1==s.n1&&r.l1==s.l1)&&(r.n2==s.n2&&r.l2==s.l2)
def bD.same(t u:bD):Bool:=t.a.same u.a&&(t.b.same u.b&&(t.c.same u.c&&(t.d.same u.d&&(t.e.same u.e&&t.f.same u.f))))
def bJ.Is(r:bJ)(q:Bool×Nat×Nat):Prop:=r.n1=q.1∧r.l1=Na.ak q.2.1∧r.n2=false∧r.l2=Na.ak q.2.2
def bD.Is(t:bD)(Q:Q6):Prop:=t.a.Is Q.a∧t.b.Is Q.b∧t.c.Is Q.c∧t.d.Is Q.d∧t.e.Is Q.e∧t.f.Is Q.f
theorem nM{r s:bJ}{q1 q2:Bool×Nat×Nat}(h:r.Is q1)(k:s.Is q2):r.same s=decide (q1=q2):=by
 obtain⟨a,b,c⟩:=q1;obtain⟨a',b',c'⟩:=q2;obtain⟨e1,e2,e3,e4⟩:=h;obtain⟨f1,f2,f3,f4⟩:=k;have hd:∀m n:Nat,Na.ak m=Na.ak n↔m=n:=fun m n=>⟨fun h=>by rw[←Na.aC m,h,Na.aC],fun h=>by rw[h]⟩;rw[axA];simp only[bJ.same,e1,e2,e3,e4,f1,f2,f3,f4,awC,awE,awL,awo,hd,true_and];exact⟨fun h=>⟨h.1.1,h.1.2,h.2⟩,fun h=>⟨⟨h.1,h.2.1⟩,h.2.2⟩⟩
def Un(w:World)(v:Value)(t:bD):Prop:=∃b,v = .slice (some ⟨b,0,none⟩) 6 6∧Bx w b t.cells.toArray
theorem Un.ext{w w':World}{v:Value}{t:bD}(h:Un w v t)(hE:Ext w w'):Un w' v t:=by
 obtain⟨b,e,X⟩:=h; exact⟨b,e,X.ext hE⟩
def PV(base:Nat)(w:World)(t:bD)(Q:Q6):Prop:=dX base w t.a.v Q.a∧dX base w t.b.v Q.b∧dX base w t.c.v Q.c∧dX base w t.d.v Q.d∧dX base w t.e.v Q.e∧dX base w t.f.v Q.f
theorem PV.ext{base:Nat}{w w':World}{t:bD}{Q:Q6}(h:PV base w t Q)(hE:Ext w w'):PV base w' t Q:=⟨h.1.ext hE,h.2.1.ext hE,h.2.2.1.ext hE,h.2.2.2.1.ext hE,h.2.2.2.2.1.ext hE,h.2.2.2.2.2.ext hE⟩
def CG(base:Nat)(w:World)(v:Value)(Q:Q6):Prop:=∃t:bD,v=t.v∧PV base w t Q
theorem CG.ext{base:Nat}{w w':World}{v:Value}{Q:Q6}(h:CG base w v Q)(hE:Ext w w'):CG base w' v Q:=by
 obtain⟨t,e,X⟩:=h; exact⟨t,e,X.ext hE⟩
def Q6.same(P Q:Q6):Bool:=decide (P.a=Q.a)&&(decide (P.b=Q.b)&&(decide (P.c=Q.c)&&(decide (P.d=Q.d)&&(decide (P.e=Q.e)&&decide (P.f=Q.f)))))
theorem CG.mono{b b':Nat}{w:World}{v:Value}{Q:Q6}(h:CG b w v Q)(hb:b'≤b):CG b' w v Q:=by
 obtain⟨t,e,h0,h1,h2,h3,h4,h5⟩:=h; exact⟨t,e,h0.mono hb,h1.mono hb,h2.mono hb,h3.mono hb,h4.mono hb,h5.mono hb⟩
theorem ae2{t u:bD}{P Q:Q6}(h:t.Is P)(k:u.Is Q):t.same u=P.same Q:=by
 unfold bD.same Q6.same;rw[nM h.1 k.1,nM h.2.1 k.2.1,nM h.2.2.1 k.2.2.1,nM h.2.2.2.1 k.2.2.2.1,nM h.2.2.2.2.1 k.2.2.2.2.1,nM h.2.2.2.2.2 k.2.2.2.2.2]
theorem Uo{base:Nat}{w:World}{t:bD}{Q:Q6}(h:PV base w t Q):∃r:bD,t.v=r.v∧r.ok w∧r.Is Q:=by
 obtain⟨h0,h1,h2,h3,h4,h5⟩:=h;obtain⟨r0,e0,a0,z0⟩:=aG.YB h0;obtain⟨r1,e1,a1,z1⟩:=aG.YB h1;obtain⟨r2,e2,a2,z2⟩:=aG.YB h2;obtain⟨r3,e3,a3,z3⟩:=aG.YB h3;obtain⟨r4,e4,a4,z4⟩:=aG.YB h4;obtain⟨r5,e5,a5,z5⟩:=aG.YB h5;refine⟨⟨r0,r1,r2,r3,r4,r5⟩,?_,⟨a0,a1,a2,a3,a4,a5⟩,z0,z1,z2,z3,z4,z5⟩;have key:∀{x y:bJ},x.v=y.v→x.cells=y.cells:=fun h=>by
  unfold bJ.v at h;simp only[axV,axW]at h;exact h
 unfold bD.v bD.cells;rw[key e0,key e1,key e2,key e3,key e4,key e5]
theorem nN{r s:bJ}{w:World}(h:r.ok w)(k:s.ok w) :
  Calls prog 276 #[r.v,s.v] w fun e w'=>e = .returned (.bool (r.same s))∧Ext w w':=by
 skip;refine avU func276 ntmps276 fun ac S=>avP fun _ aV=>avQ S 2 r.cells fun ac u b2 E3 hb4 S=>avQ S 3 s.cells fun ac u b5 E6 hb7 S=>adr S 1 [] [(4,.z)] fun S=>apB<|aV _ _<|avP fun _ dS=>adr S 4 [.mem 1 0,.mem 0 0] [(6,.agg #[.bool r.n1,r.s1]),(8,.agg #[.bool s.n1,s.s1])] fun S=>avZ S 9 (Du r.n1 s.n1 r.s1 s.s1 r.l1 s.l1 _ (h.1.below S.E) (k.1.below S.E)) fun ac u E9 S=>av9 S 8 [.mem 1 2,.mem 0 2] [(_,_,(r.n1==s.n1&&r.l1==s.l1),.bool (r.n2==s.n2&&r.l2==s.l2))] [(4,.bool ((r.n1==s.n1&&r.l1==s.l1)&&(r.n2==s.n2&&r.l2==s.l2)))] ⟨fun u hC g=>Du r.n2 s.n2 r.s2 s.s2 r.l2 s.l2 _ (h.2.below (Ext.trans' S.E hC)) (k.2.below (Ext.trans' S.E hC)),trivial⟩ fun ac u OE S=>apB<|dS _ _<|avS S results276 ?_;exact⟨rfl,S.E⟩
theorem LQ{w:World}{v1 v2:Value}{t t2:bD}(h1:Un w v1 t)(h2:Un w v2 t2)(h:t.ok w)(k:t2.ok w) :
  Calls prog 234 #[v1,v2] w fun e w'=>e = .returned (.bool (t.same t2))∧Ext w w':=by
 obtain⟨b1,rfl,X1⟩:=h1;obtain⟨b2,rfl,X2⟩:=h2;obtain⟨h0,h1,h2,h3,h4,h5⟩:=h;obtain⟨k0,k1,k2,k3,k4,k5⟩:=k;refine avU func234 ntmps234 (fun ac S=>?_);have S:=S.view0 X1.1 (X1.range 0 24 rfl);have S:=S.view0 X2.1 (X2.range 0 24 rfl);refine avP fun _ aV=>adr S 1 [] [(4,.z)] fun S=>apB<|aV _ _<|awg fun _ fK=>avP fun _ jC=>adr S 5 [] [(10,.z)] fun S=>apB<|jC _ _<|av4 S<|awh<|fK _ _<|awg fun _ nT=>avP fun _ dA=>adr S 1 [] [(5,.i 0)] fun S=>apB<|dA _ _<|awi<|axk 7 ?_;rw[awv];refine awg fun _ jq=>avP fun _ jr=>adr S 4 [] [(14,.bool true)] fun S=>apB<|jr _ _<|avX S<|awh<|jq _ _<|awg fun _ dS=>awi<|awg fun _ ig=>av3 S 10 [.mem 1 0,.mem 0 0] [(_,_,true,.bool (t.a.same t2.a))] [(26,.bool (!(t.a.same t2.a)))] ⟨fun u hC g=>nN (r:=t.a) (s:=t2.a) (h0.below (Ext.trans' S.E hC)) (k0.below (Ext.trans' S.E hC)),trivial⟩ fun ac u OE S=>apB (ig _ _ ?_);refine avR S (fun iT=>?_) (fun iT=>?_)
 ·refine avP fun _ dV=>adr S 1 [] [(4,.z)] fun S=>apB<|dV _ _<|awq ?_;have g0:t.a.same t2.a=false:=by simpa using iT
  refine av2 S results234 ?_;exact⟨aH (by simp only[bD.same,g0,axL]),S.E⟩
 refine awh<|dS _ _<|awk<|adr S 3 [] [(5,.i 1)] fun S=>apB ?_;show Code.rounds _ _ _ 6 _ _;rw[awv];refine awg fun _ gW=>avP fun _ gK=>adr S 4 [] [(14,.bool true)] fun S=>apB<|gK _ _<|avX S<|awh<|gW _ _<|awg fun _ iG=>awi<|awg fun _ iR=>av3 S 10 [.mem 1 4,.mem 0 4] [(_,_,true,.bool (t.b.same t2.b))] [(26,.bool (!(t.b.same t2.b)))] ⟨fun u hC g=>nN (r:=t.b) (s:=t2.b) (h1.below (Ext.trans' S.E hC)) (k1.below (Ext.trans' S.E hC)),trivial⟩ fun ac u uS S=>apB (iR _ _ ?_);refine avR S (fun hc18=>?_) (fun hc18=>?_)
 ·refine avP fun _ lY=>adr S 1 [] [(4,.z)] fun S=>apB<|lY _ _<|awq ?_;have g0:t.a.same t2.a=true:=by simpa using iT
  have g1:t.b.same t2.b=false:=by simpa using hc18
  refine av2 S results234 ?_;exact⟨aH (by simp only[bD.same,g0,g1,axo,axL]),S.E⟩
 refine awh<|iG _ _<|awk<|adr S 3 [] [(5,.i 2)] fun S=>apB ?_;show Code.rounds _ _ _ 5 _ _;rw[awv];refine awg fun _ l9=>avP fun _ oz=>adr S 4 [] [(14,.bool true)] fun S=>apB<|oz _ _<|avX S<|awh<|l9 _ _<|awg fun _ jm=>awi<|awg fun _ mQ=>av3 S 10 [.mem 1 8,.mem 0 8] [(_,_,true,.bool (t.c.same t2.c))] [(26,.bool (!(t.c.same t2.c)))] ⟨fun u hC g=>nN (r:=t.c) (s:=t2.c) (h2.below (Ext.trans' S.E hC)) (k2.below (Ext.trans' S.E hC)),trivial⟩ fun ac u RS S=>apB (mQ _ _ ?_);refine avR S (fun hc25=>?_) (fun hc25=>?_)
 ·refine avP fun _ jd=>adr S 1 [] [(4,.z)] fun S=>apB<|jd _ _<|awq ?_;have g0:t.a.same t2.a=true:=by simpa using iT
  have g1:t.b.same t2.b=true:=by simpa using hc18
  have g2:t.c.same t2.c=false:=by simpa using hc25
  refine av2 S results234 ?_;exact⟨aH (by simp only[bD.same,g0,g1,g2,axo,axL]),S.E⟩
 refine awh<|jm _ _<|awk<|adr S 3 [] [(5,.i 3)] fun S=>apB ?_;show Code.rounds _ _ _ 4 _ _;rw[awv];refine awg fun _ mV=>avP fun _ qh=>adr S 4 [] [(14,.bool true)] fun S=>apB<|qh _ _<|avX S<|awh<|mV _ _<|awg fun _ pO=>awi<|awg fun _ kM=>av3 S 10 [.mem 1 12,.mem 0 12] [(_,_,true,.bool (t.d.same t2.d))] [(26,.bool (!(t.d.same t2.d)))] ⟨fun u hC g=>nN (r:=t.d) (s:=t2.d) (h3.below (Ext.trans' S.E hC)) (k3.below (Ext.trans' S.E hC)),trivial⟩ fun ac u yM S=>apB (kM _ _ ?_);refine avR S (fun hc32=>?_) (fun hc32=>?_)
 ·refine avP fun _ jO=>adr S 1 [] [(4,.z)] fun S=>apB<|jO _ _<|awq ?_;have g0:t.a.same t2.a=true:=by simpa using iT
  have g1:t.b.same t2.b=true:=by simpa using hc18
  have g2:t.c.same t2.c=true:=by simpa using hc25
  have g3:t.d.same t2.d=false:=by simpa using hc32
  refine av2 S results234 ?_;exact⟨aH (by simp only[bD.same,g0,g1,g2,g3,axo,axL]),S.E⟩
 refine awh<|pO _ _<|awk<|adr S 3 [] [(5,.i 4)] fun S=>apB ?_;show Code.rounds _ _ _ 3 _ _;rw[awv];refine awg fun _ qU=>avP fun _ oD=>adr S 4 [] [(14,.bool true)] fun S=>apB<|oD _ _<|avX S<|awh<|qU _ _<|awg fun _ lg=>awi<|awg fun _ nV=>av3 S 10 [.mem 1 16,.mem 0 16] [(_,_,true,.bool (t.e.same t2.e))] [(26,.bool (!(t.e.same t2.e)))] ⟨fun u hC g=>nN (r:=t.e) (s:=t2.e) (h4.below (Ext.trans' S.E hC)) (k4.below (Ext.trans' S.E hC)),trivial⟩ fun ac u E38 S=>apB (nV _ _ ?_);refine avR S (fun hc39=>?_) (fun hc39=>?_)
 ·refine avP fun _ qO=>adr S 1 [] [(4,.z)] fun S=>apB<|qO _ _<|awq ?_;have g0:t.a.same t2.a=true:=by simpa using iT
  have g1:t.b.same t2.b=true:=by simpa using hc18
  have g2:t.c.same t2.c=true:=by simpa using hc25
  have g3:t.d.same t2.d=true:=by simpa using hc32
  have g4:t.e.same t2.e=false:=by simpa using hc39
  refine av2 S results234 ?_;exact⟨aH (by simp only[bD.same,g0,g1,g2,g3,g4,axo,axL]),S.E⟩
 refine awh<|lg _ _<|awk<|adr S 3 [] [(5,.i 5)] fun S=>apB ?_;show Code.rounds _ _ _ 2 _ _;rw[awv];refine awg fun _ wQ=>avP fun _ vC=>adr S 4 [] [(14,.bool true)] fun S=>apB<|vC _ _<|avX S<|awh<|wQ _ _<|awg fun _ vP=>awi<|awg fun _ BQ=>av3 S 10 [.mem 1 20,.mem 0 20] [(_,_,true,.bool (t.f.same t2.f))] [(26,.bool (!(t.f.same t2.f)))] ⟨fun u hC g=>nN (r:=t.f) (s:=t2.f) (h5.below (Ext.trans' S.E hC)) (k5.below (Ext.trans' S.E hC)),trivial⟩ fun ac u E45 S=>apB (BQ _ _ ?_);refine avR S (fun aiz=>?_) (fun aiz=>?_)
 ·refine avP fun _ uT=>adr S 1 [] [(4,.z)] fun S=>apB<|uT _ _<|awq ?_;have g0:t.a.same t2.a=true:=by simpa using iT
  have g1:t.b.same t2.b=true:=by simpa using hc18
  have g2:t.c.same t2.c=true:=by simpa using hc25
  have g3:t.d.same t2.d=true:=by simpa using hc32
  have g4:t.e.same t2.e=true:=by simpa using hc39
  have g5:t.f.same t2.f=false:=by simpa using aiz
  refine av2 S results234 ?_;exact⟨aH (by simp only[bD.same,g0,g1,g2,g3,g4,g5,axo]),S.E⟩
 refine awh<|vP _ _<|awk<|adr S 3 [] [(5,.i 6)] fun S=>apB ?_;show Code.rounds _ _ _ 1 _ _;rw[awv];refine awg fun _ sO=>avP fun _ uU=>adr S 4 [] [(14,.z)] fun S=>apB<|uU _ _<|av4 S<|awy<|nT _ _<|avP fun _ sS=>adr S 1 [] [(4,.bool true)] fun S=>apB<|sS _ _<|awq ?_;have g0:t.a.same t2.a=true:=by simpa using iT
 have g1:t.b.same t2.b=true:=by simpa using hc18
 have g2:t.c.same t2.c=true:=by simpa using hc25
 have g3:t.d.same t2.d=true:=by simpa using hc32
 have g4:t.e.same t2.e=true:=by simpa using hc39
 have g5:t.f.same t2.f=true:=by simpa using aiz
 refine av2 S results234 ?_;exact⟨aH (by simp only[bD.same,g0,g1,g2,g3,g4,g5,axo]),S.E⟩
theorem xM(v:Value)(Q:Q6)(K:Nat)(w:World)(h:mX K w v Q)(hK1:1≤K)(hK:K≤10000) :
  Calls prog 65 #[v] w fun e w'=>∃x,e = .returned x∧CG w.heap.size w' x Q∧Ext w w':=by
 have hq:=h;obtain⟨nr0,nr1,nr2,nr3,nr4,nr5⟩:=h.nrm;obtain⟨ln0,ln1,ln2,ln3,ln4,ln5⟩:=h.len hK1;obtain⟨t,rfl,h0,h1,h2,h3,h4,h5⟩:=h.sQ;refine avU func65 ntmps65 fun ac S=>avP fun _ aV=>avQ S 1 t.cells fun ac u b2 E3 hb4 S=>avQ S 2 Sx.za fun ac u b5 E6 hb7 S=>apB<|aV _ _<|awg fun _ dS=>Sx.nH S 18 [(5,fun v w1=>dX w.heap.size w1 v Q.a),(8,fun v w1=>dX w.heap.size w1 v Q.b),(11,fun v w1=>dX w.heap.size w1 v Q.c),(14,fun v w1=>dX w.heap.size w1 v Q.d),(17,fun v w1=>dX w.heap.size w1 v Q.e),(20,fun v w1=>dX w.heap.size w1 v Q.f)] (fun r=>[.mem 1 0,.mem 1 4,.mem 1 8,.mem 1 12,.mem 1 16,.mem 1 20]) (fun x=>[x 5,x 8,x 11,x 14,x 17,x 20]) (fun x=>[(_,_,true,x 5,5),(_,_,true,x 8,8),(_,_,true,x 11,11),(_,_,true,x 14,14),(_,_,true,x 17,17),(_,_,true,x 20,20)]) [[],[],[],[],[],[]] (fun x=>[(5,x 5),(8,x 8),(11,x 11),(14,x 14),(17,x 17),(20,x 20)]) ⟨fun _ _ _ k h=>h.ext k,fun _ _ _ k h=>h.ext k,fun _ _ _ k h=>h.ext k,fun _ _ _ k h=>h.ext k,fun _ _ _ k h=>h.ext k,fun _ _ _ k h=>h.ext k,trivial⟩ (fun x=>⟨by intro u hC g F; exact(qL _ Q.a K _ (h0.below (Ext.trans' S.E hC)) (by omega)).mono fun e w2 h=>by obtain⟨y,rfl,hx,hb⟩:=h; exact⟨_,rfl,hx.mono ((Ext.trans' S.E hC)).size,hb⟩,by intro u hC g F; exact(qL _ Q.b K _ (h1.below (Ext.trans' S.E hC)) (by omega)).mono fun e w2 h=>by obtain⟨y,rfl,hx,hb⟩:=h; exact⟨_,rfl,hx.mono ((Ext.trans' S.E hC)).size,hb⟩,by intro u hC g F; exact(qL _ Q.c K _ (h2.below (Ext.trans' S.E hC)) (by omega)).mono fun e w2 h=>by obtain⟨y,rfl,hx,hb⟩:=h; exact⟨_,rfl,hx.mono ((Ext.trans' S.E hC)).size,hb⟩,by intro u hC g F; exact(qL _ Q.d K _ (h3.below (Ext.trans' S.E hC)) (by omega)).mono fun e w2 h=>by obtain⟨y,rfl,hx,hb⟩:=h; exact⟨_,rfl,hx.mono ((Ext.trans' S.E hC)).size,hb⟩,by intro u hC g F; exact(qL _ Q.e K _ (h4.below (Ext.trans' S.E hC)) (by omega)).mono fun e w2 h=>by obtain⟨y,rfl,hx,hb⟩:=h; exact⟨_,rfl,hx.mono ((Ext.trans' S.E hC)).size,hb⟩,by intro u hC g F; exact(qL _ Q.f K _ (h5.below (Ext.trans' S.E hC)) (by omega)).mono fun e w2 h=>by obtain⟨y,rfl,hx,hb⟩:=h; exact⟨_,rfl,hx.mono ((Ext.trans' S.E hC)).size,hb⟩,trivial⟩) (fun ac u x E9 F S=>?_);obtain⟨F5,F8,F11,F14,F17,F20,-⟩:=F;obtain⟨ma,ema⟩:=aG.lU F5;rw[ema]at S F5;obtain⟨mb,emb⟩:=aG.lU F8;rw[emb]at S F8;obtain⟨mc,emc⟩:=aG.lU F11;rw[emc]at S F11;obtain⟨md,emd⟩:=aG.lU F14;rw[emd]at S F14;obtain⟨me,eme⟩:=aG.lU F17;rw[eme]at S F17;obtain⟨mf,emf⟩:=aG.lU F20;rw[emf]at S F20;refine adr S 1 [] [(21,.agg (ma.cells++mb.cells++mc.cells++md.cells++me.cells++mf.cells).toArray)] (fun S=>?_);have VW:=S.bx 0;refine avT S 0 (off:=0) (cs:=(ma.cells++mb.cells++mc.cells++md.cells++me.cells++mf.cells)) rfl (fun u C10 S=>?_);have DY:=aG.eP F5 C10 VW;have ach:=aG.eP F8 C10 VW;have DV:=aG.eP F11 C10 VW;have rJ:=aG.eP F14 C10 VW;have TV:=aG.eP F17 C10 VW;have D5:=aG.eP F20 C10 VW;refine apB<|dS _ _<|awd S 0 results65 rfl (v := .agg (ma.cells++mb.cells++mc.cells++md.cells++me.cells++mf.cells).toArray) ?_;exact⟨_,rfl,⟨⟨ma,mb,mc,md,me,mf⟩,rfl,DY,ach,DV,rJ,TV,D5⟩,S.E⟩
theorem I8{w:World}{t t2:bD}(h:t.ok w)(k:t2.ok w) :
  Calls prog 180 #[t.v,t2.v] w fun e w'=>e = .returned (.bool (t.same t2))∧Ext w w':=by
 skip;refine avU func180 ntmps180 fun ac S=>avP fun _ aV=>avQ S 2 t.cells fun ac u b2 E3 hb4 S=>avQ S 3 t2.cells fun ac u b5 E6 hb7 S=>adr S 1 [] [(4,.z)] fun S=>apB<|aV _ _<|awg fun _ dS=>Sx.nH S 5 [(6,fun v w1=>Un w1 v t),(8,fun v w1=>Un w1 v t2)] (fun r=>[.mem 1 0,.mem 0 0]) (fun x=>[x 6,x 8,.bool (t.same t2)]) (fun x=>[(_,_,true,x 6,6),(_,_,true,x 8,8),(_,_,true,.bool (t.same t2),9)]) [[],[],[6,8]] (fun x=>[(9,.bool (t.same t2))]) ⟨fun _ _ _ k h=>h.ext k,fun _ _ _ k h=>h.ext k,trivial⟩ (fun x=>⟨by intro u hC g F; exact(JK t _).mono fun e w2 h=>by obtain⟨b,rfl,hb0,X,hb⟩:=h; exact⟨_,rfl,⟨b,rfl,X⟩,hb⟩,by intro u hC g F; exact(JK t2 _).mono fun e w2 h=>by obtain⟨b,rfl,hb0,X,hb⟩:=h; exact⟨_,rfl,⟨b,rfl,X⟩,hb⟩,by intro u hC g F; obtain⟨F6,F8,-⟩:=F; exact(LQ F6 F8 (h.below (Ext.trans' S.E hC)) (k.below (Ext.trans' S.E hC))).mono fun e w2 h=>⟨_,h.1,rfl,h.2⟩,trivial⟩) (fun ac u x E9 F S=>?_);obtain⟨F6,F8,-⟩:=F;refine adr S 1 [] [(4,.bool (t.same t2))] fun S=>apB<|dS _ _<|avS S results180 ?_;exact⟨rfl,S.E⟩
theorem PW{w:World}{n1 n2:Nat}{v1 v2:Value}{P Q:Q6}(h:CG n1 w v1 P)(k:CG n2 w v2 Q) :
  Calls prog 180 #[v1,v2] w fun e w'=>e = .returned (.bool (P.same Q))∧Ext w w':=by
 obtain⟨t,rfl,h⟩:=h;obtain⟨t2,rfl,k⟩:=k;obtain⟨r,e,ho,hi⟩:=Uo h;obtain⟨s,e2,ko,ki⟩:=Uo k;rw[e,e2];exact(I8 ho ko).mono fun _ _ h=>⟨h.1.trans (aH (ae2 hi ki)),h.2⟩
theorem Aq{w:World}{P Q:Q6}{t t2:bD}(h:mX K w t.v P)(k:mX K w t2.v Q)(hK1:1≤K)(hK:K≤10000) :
  Calls prog 122 #[t.v,t2.v] w fun e w'=>e = .returned (.bool (P.same Q))∧Ext w w':=by
 skip;refine avU func122 ntmps122 fun ac S=>avP fun _ aV=>avQ S 2 t.cells fun ac u b2 E3 hb4 S=>avQ S 3 t2.cells fun ac u b5 E6 hb7 S=>adr S 1 [] [(4,.z)] fun S=>apB<|aV _ _<|awg fun _ dS=>Sx.nH S 5 [(6,fun v w1=>CG w.heap.size w1 v P),(8,fun v w1=>CG w.heap.size w1 v Q)] (fun r=>[.mem 1 0,.mem 0 0]) (fun x=>[x 6,x 8,.bool (P.same Q)]) (fun x=>[(_,_,true,x 6,6),(_,_,true,x 8,8),(_,_,true,.bool (P.same Q),9)]) [[],[],[6,8]] (fun x=>[(9,.bool (P.same Q))]) ⟨fun _ _ _ k h=>h.ext k,fun _ _ _ k h=>h.ext k,trivial⟩ (fun x=>⟨by intro u hC g F; exact(xM _ P K _ (h.iL (Ext.trans' S.E hC)) hK1 hK).mono fun e w2 h=>by obtain⟨y,rfl,hx,hb⟩:=h; exact⟨_,rfl,CG.mono hx ((Ext.trans' S.E hC)).size,hb⟩,by intro u hC g F; exact(xM _ Q K _ (k.iL (Ext.trans' S.E hC)) hK1 hK).mono fun e w2 h=>by obtain⟨y,rfl,hx,hb⟩:=h; exact⟨_,rfl,CG.mono hx ((Ext.trans' S.E hC)).size,hb⟩,by intro u hC g F; obtain⟨F6,F8,-⟩:=F; exact(PW F6 F8).mono fun e w2 h=>⟨_,h.1,rfl,h.2⟩,trivial⟩) (fun ac u x E9 F S=>?_);obtain⟨F6,F8,-⟩:=F;refine adr S 1 [] [(4,.bool (P.same Q))] fun S=>apB<|dS _ _<|avS S results122 ?_;exact⟨rfl,S.E⟩
end
section
theorem LD.facts{q:Bool×Nat×Nat}(h:LD q):0<q.2.2∧Nat.Coprime q.2.1 q.2.2∧(q.1=true→0<q.2.1):=by
 obtain⟨n,a,b⟩:=q;unfold LD nrm at h;simp only at h ⊢;split at h
 ·rename_i hb;simp only[awo]at h;omega
 rename_i hb;simp only[awo]at h;obtain⟨h1,h2,h3⟩:=h;have hg:Nat.gcd a b=1:=by
  have hb':0<b:=by omega
  have:=Nat.div_mul_cancel (ayx a b);rw[h3]at this;exact Nat.eq_of_mul_eq_mul_left hb' (by omega)
 refine⟨by omega,hg,fun hn=>?_⟩;rw[hn]at h1;unfold lS at h1;rw[awC]at h1;have:=h1.2;rw[hg,Nat.div_one]at this;simpa using this
theorem uH{p q:Bool×Nat×Nat}(hp:LD p)(hq:LD q):qI p q=decide (p=q):=by
 obtain⟨p1,p2,p3⟩:=hp.facts;obtain⟨q1,q2,q3⟩:=hq.facts;rw[axA];unfold qI qj;simp only[awE,awL,Int.sign_eq_zero_iff_zero];constructor
 ·intro h;obtain⟨n,a,b⟩:=p;obtain⟨m,c,d⟩:=q;simp only at *;have hz:qz (n,a,b)*(d:Int)=qz (m,c,d)*(b:Int):=by simpa using (by omega:qz (n,a,b)*(d:Int)-qz (m,c,d)*(b:Int)=0→qz (n,a,b)*(d:Int)=qz (m,c,d)*(b:Int)) h
  have habs:=awp Int.natAbs hz;have hzv:∀(s:Bool) (x:Nat),(zv s x).natAbs=x:=by intro s x; unfold zv; split<;>simp
  unfold qz at hz habs;simp only[Int.natAbs_mul,hzv,ax1]at habs;have hbd:b∣d:=p2.symm.dvd_of_dvd_mul_left ⟨c,by rw[habs,awX]⟩;have hdb:d∣b:=q2.symm.dvd_of_dvd_mul_left ⟨a,by rw[←habs,awX]⟩;obtain rfl:b=d:=Nat.dvd_antisymm hbd hdb;obtain rfl:a=c:=Nat.eq_of_mul_eq_mul_right p1 habs;have hz2:zv n a=zv m a:=Int.eq_of_mul_eq_mul_right (by omega) hz;obtain rfl:n=m:=by
   unfold zv at hz2;cases n<;>cases m<;>simp at * <;> omega
  rfl
 intro h; rw[h]; omega
theorem Q6.same_eq{P Q:Q6}(hp:D8 P)(hq:D8 Q):P.same Q=P.eq Q:=by
 unfold Q6.same Q6.eq;rw[uH hp.1 hq.1,uH hp.2.1 hq.2.1,uH hp.2.2.1 hq.2.2.1,uH hp.2.2.2.1 hq.2.2.2.1,uH hp.2.2.2.2.1 hq.2.2.2.2.1,uH hp.2.2.2.2.2 hq.2.2.2.2.2]
end
section
set_option maxHeartbeats 3200000
set_option maxRecDepth 100000
open Go.RowKit
variable{α:Type}{K:Nat}
def bZ(l m:List au):Bool:=decide (l.length=m.length)&&(l.zip m).all fun p=>p.1.eq p.2
theorem aaY{l m:List au}(h:((l.length:Int) != (m.length:Int))=true):false=bZ l m:=by
 have:l.length≠m.length:=fun e=>by rw[e]at h; simp at h
 simp[bZ,this]
theorem Vu{l m:List au}{k:Nat}(hk:l.length≤k)(h:l.length=m.length)(hR:((l.zip m).take k).all (fun p=>p.1.eq p.2)=true):true=bZ l m:=by
 rw[awP (by simp; omega)]at hR;simp only[bZ,h,hR,decide_true,Bool.and_self]
theorem OD{l m:List au}{k:Nat}(h1:k<l.length)(h2:k<m.length)(hR:((l.zip m).take k).all (fun p=>p.1.eq p.2)=true)(h:(!(l[k].eq m[k]))=false):((l.zip m).take (k+1)).all (fun p=>p.1.eq p.2)=true:=by
 rw[axp (by simp; omega),List.all_append,hR];simp at h;simp[h]
theorem aaZ{l m:List au}{k:Nat}(h1:k<l.length)(h2:k<m.length)(h:(!(l[k].eq m[k]))=true):false=bZ l m:=by
 symm;rw[Bool.eq_false_iff];intro e;simp only[bZ,awC,awQ]at e;have:=e.2 (l[k],m[k]) (by rw[←List.getElem_zip (h:=by simp; omega)]; exact awT _);simp[this]at h
theorem yY{w:World}{v u:Value}{l m:List dO}(h:aO 7 dO.cells w v l)(h':aO 7 dO.cells w u m) :
  Calls prog 69 #[v,u] w fun e w'=>e = .returned (.bool (l=m))∧Ext w w':=by
 skip;refine avU func69 ntmps69 fun ac S=>avP fun _ aV=>adr S 1 [] [(4,.z)] fun S=>apB<|aV _ _<|avP fun _ fK=>adr S 2 [] [(5,v),(6,u)] fun S=>avZ S 7 (XR (l:=l) (m:=m) (h.below S.E) (h'.below S.E)) fun ac u E3 S=>adr S 1 [] [(4,.bool (l=m))] fun S=>apB<|fK _ _<|avS S results69 ?_;exact⟨rfl,S.E⟩
theorem Bf{w:World}{v u:Value}{l m:List au}(h:jy w v l)(h':jy w u m)(hf:∀p∈l,p.t.fit K)(hf':∀p∈m,p.t.fit K)(hK1:1≤K)(hK:K≤10000) :
  Calls prog 70 #[v,u,.func (.func 71) #[] #[]] w fun e w'=>e = .returned (.bool (bZ l m))∧Ext w w':=by
 obtain⟨a,cap,rfl⟩:=h.1.shape;obtain⟨d,cap',rfl⟩:=h'.1.shape;have hmax:l.length≤9223372036854775807:=h.1.len;refine avU func70 ntmps70 fun ac S=>avP fun _ aV=>adr S 1 [] [(6,.z)] fun S=>apB<|aV _ _<|awg fun _ fK=>avP fun _ jC=>adr S 5 [] [(14,.bool (((l.length:Int)) != (m.length:Int)))] fun S=>apB (jC _ _ ?_);refine avR S (fun hc4=>?_) (fun hc4=>?_)
 ·refine avP fun _ dA=>adr S 1 [] [(6,.z)] fun S=>apB<|dA _ _<|avS S results70 ?_;exact⟨aH (aaY hc4),S.E⟩
 refine awh<|fK _ _<|awg fun _ jq=>avP fun _ jr=>adr S 3 [] [(15,.slice a l.length cap),(16,.i l.length),(17,.i 0)] fun S=>apB<|jr _ _<|awi ?_;refine awS (ι:=Nat) (fun p a' w'=>p≤l.length∧(((l.zip m).take p).all (fun p=>p.1.eq p.2)=true)∧Sx.St w a' w' 32 [(0,.slice a l.length cap),(1,.slice d m.length cap'),(2,.func (.func 71) #[] #[]),(6,.z),(15,.slice a l.length cap),(16,.i l.length),(17,.i p)] [] []) (fun p=>l.length-p) (0) ⟨awt _,rfl,S.sn⟩ ?_;rintro k ac u hI;try dsimp only at hI
 obtain⟨hk,hR,S⟩:=hI;refine avP fun _ dS=>adr S 1 [] [(18,.bool ((k:Int)<(l.length:Int)))] fun S=>apB<|dS _ _<|awg (fun _ ig=>?_);refine avR S (fun dR=>?_) (fun dR=>?_)
 ·refine awh<|ig _ _<|awg fun _ eG=>awi<|avP (fun _ dV=>?_);have Ec:k<l.length:=by have:=awz dR; omega
  obtain⟨b13,o14,rfl,x19,PX,YJ,aiA⟩:=awN h.1 (fun _=>rfl) (k) Ec;have S:=S.view0 YJ aiA;refine adr S 3 [.idx k l.length,.mem 0 0] [(19,.i k),(21,x19.v)] (hk:=⟨Ec,trivial⟩) fun S=>avQ S 8 (Sx.L [.i 0,.u 0,.u 0,.u 0,.u 0,.i 0,.i 0,.i 0,.i 0,.i 0,.sn,.i 0,.i 0,.i 0,.sn,.i 0]++Sx.za) fun ac u b21 IB ab7 S=>adr S 1 [] [(7,.i k)] fun S=>avT S 0 (off:=0) (cs:=x19.cells) rfl fun u ZH S=>apB<|dV _ _<|avP (fun _ oI=>?_);have YK:k<m.length:=by have:=lT hc4; have:=awz dR; omega
  obtain⟨b26,o27,rfl,y32,ae3,aqf,aqg⟩:=awN h'.1 (fun _=>rfl) (k) YK;have S:=S.view0 aqf aqg;refine adr S 4 [.idx k m.length,.mem 1 0] [(25,y32.v)] (hk:=⟨YK,trivial⟩) fun S=>avQ S 9 (Sx.L [.i 0,.u 0,.u 0,.u 0,.u 0,.i 0,.i 0,.i 0,.i 0,.i 0,.sn,.i 0,.i 0,.i 0,.sn,.i 0]++Sx.za) fun ac u b34 KZ ab8 S=>avT S 0 (off:=0) (cs:=y32.cells) rfl fun u C37 S=>apB<|oI _ _<|avP fun _ jD=>adr S 3 [.mem 1 0,.mem 0 0] [(26,.func (.func 71) #[] #[]),(27,x19.v),(28,y32.v)] fun S=>avZ S 29 (xE (K:=K) (p:=x19) (q:=y32) ((h.2 _ (PX▸awT Ec)).below S.E) ((h'.2 _ (ae3▸awT YK)).below S.E) (hf _ (PX▸awT Ec)) (hf' _ (ae3▸awT YK)) hK1 hK) fun ac u E39 S=>adr S 1 [] [(30,.bool (!(x19.eq y32)))] fun S=>apB (jD _ _ ?_);refine avR S (fun SN=>?_) (fun SN=>?_)
  ·refine avP fun _ wQ=>adr S 1 [] [(6,.z)] fun S=>apB<|wQ _ _<|avS S results70 ?_;exact⟨aH (aaZ Ec YK (by rw[PX,ae3]; exact SN)),S.E⟩
  refine awh<|eG _ _<|awk<|adr S 2 [.re 31 (.i (IntKind.i64.wrap ((k:Int)+1))) (.i (k+1:Nat))] [(17,.i (k+1:Nat))] (hk:=⟨av5 (by omega),trivial⟩) fun S=>apB ?_;show ∃i',_∧_;exact⟨(k+1),⟨by omega,(OD Ec YK hR (by rw[PX,ae3]; exact SN)),(S.sub [(0,.slice (some ⟨b13,o14,none⟩) l.length cap),(1,.slice (some ⟨b26,o27,none⟩) m.length cap'),(2,.func (.func 71) #[] #[]),(6,.z),(15,.slice (some ⟨b13,o14,none⟩) l.length cap),(16,.i l.length),(17,.i (k+1:Nat))]).jI.iW 2⟩,by show _-_<_-_; omega⟩
 refine awy<|jq _ _<|avP fun _ vC=>adr S 1 [] [(6,.bool true)] fun S=>apB<|vC _ _<|avS S results70 ?_;exact⟨aH (Vu (by have:=awG dR; omega) (lT hc4) hR),S.E⟩
def aA.eqP(a b:aA):Bool:=cond (((((((((((a.id) != b.id)||((a.kind) != b.kind))||((a.depth) != b.depth))||((a.aQ) != b.aQ))||(((a.dW.toNat:Int)) != (b.dW.toNat:Int)))||((a.blend) != b.blend))||(!(a.isolated==b.isolated)))||(!(a.dI==b.dI)))||((a.aY) != b.aY))||((a.dn) != b.dn)) (false) (((((((a.t.q.eq b.t.q)&&(decide (a.clip=b.clip)))&&(decide (a.path=b.path)))&&(bZ a.fill b.fill))&&(bZ a.stroke b.stroke))&&(a.style.eq b.style))&&(a.img.eq b.img))
theorem I9{w:World}{a b:aA}(h:fB K w a)(h':fB K w b) :
  Calls prog 28 #[a.v,b.v] w fun e w'=>e = .returned (.bool (aA.eqP a b))∧Ext w w':=by
 skip;refine avU func28 ntmps28 fun ac S=>avP fun _ aV=>avQ S 2 a.cells fun ac u b2 E3 hb4 S=>avQ S 3 b.cells fun ac u b5 E6 hb7 S=>adr S 1 [] [(4,.z)] fun S=>apB<|aV _ _<|awg fun _ dS=>avP fun _ ig=>adr S 68 [.mem 1 0,.mem 0 0,.mem 1 1,.mem 0 1,.mem 1 2,.mem 0 2,.mem 1 28,.mem 0 28,.mem 1 29,.mem 0 29,.mem 1 30,.mem 0 30,.mem 1 31,.mem 0 31,.mem 1 32,.mem 0 32,.mem 1 34,.mem 0 34,.mem 1 46,.mem 0 46] [(72,.bool (((((((((((a.id) != b.id)||((a.kind) != b.kind))||((a.depth) != b.depth))||((a.aQ) != b.aQ))||(((a.dW.toNat:Int)) != (b.dW.toNat:Int)))||((a.blend) != b.blend))||(!(a.isolated==b.isolated)))||(!(a.dI==b.dI)))||((a.aY) != b.aY))||((a.dn) != b.dn)))] fun S=>apB (ig _ _ ?_);refine avR S (fun dR=>?_) (fun dR=>?_)
 ·refine avP fun _ eG=>adr S 1 [] [(4,.z)] fun S=>apB<|eG _ _<|awq ?_;have p0:=dR;refine av2 S results28 ?_;exact⟨aH (by unfold aA.eqP; simp only[p0,cond_true]),S.E⟩
 refine awh<|dS _ _<|avP fun _ dV=>adr S 4 [.mem 1 3,.mem 0 3] [(74,a.t.v),(76,b.t.v)] fun S=>avZ S 77 (zM a.t.v b.t.v a.t.q b.t.q K _ ((bD.toQ h.1.2.2.2.1 h.2.1).iL S.E) ((bD.toQ h'.1.2.2.2.1 h'.2.1).iL S.E) h.2.2.2.2.1 h.2.2.2.2.2) fun ac u Ad S=>av9 S 43 [.mem 1 27,.mem 0 27,.mem 1 33,.mem 0 33,.mem 1 35,.mem 0 35,.mem 1 42,.mem 0 42,.mem 1 36,.mem 0 36,.mem 1 43,.mem 0 43] [(_,_,(a.t.q.eq b.t.q),.bool (a.clip=b.clip)),(_,_,((a.t.q.eq b.t.q)&&(decide (a.clip=b.clip))),.bool (a.path=b.path)),(_,_,(((a.t.q.eq b.t.q)&&(decide (a.clip=b.clip)))&&(decide (a.path=b.path))),.bool (bZ a.fill b.fill)),(_,_,((((a.t.q.eq b.t.q)&&(decide (a.clip=b.clip)))&&(decide (a.path=b.path)))&&(bZ a.fill b.fill)),.bool (bZ a.stroke b.stroke)),(_,_,(((((a.t.q.eq b.t.q)&&(decide (a.clip=b.clip)))&&(decide (a.path=b.path)))&&(bZ a.fill b.fill))&&(bZ a.stroke b.stroke)),.bool (a.style.eq b.style)),(_,_,((((((a.t.q.eq b.t.q)&&(decide (a.clip=b.clip)))&&(decide (a.path=b.path)))&&(bZ a.fill b.fill))&&(bZ a.stroke b.stroke))&&(a.style.eq b.style)),.bool (a.img.eq b.img))] [(4,.bool (((((((a.t.q.eq b.t.q)&&(decide (a.clip=b.clip)))&&(decide (a.path=b.path)))&&(bZ a.fill b.fill))&&(bZ a.stroke b.stroke))&&(a.style.eq b.style))&&(a.img.eq b.img)))] ⟨fun u hC g=>yY (l:=a.clip) (m:=b.clip) (h.1.2.2.2.2.1.1.below (Ext.trans' S.E hC)) (h'.1.2.2.2.2.1.1.below (Ext.trans' S.E hC)),fun u hC g=>yY (l:=a.path) (m:=b.path) (h.1.2.2.2.2.2.2.2.1.1.below (Ext.trans' S.E hC)) (h'.1.2.2.2.2.2.2.2.1.1.below (Ext.trans' S.E hC)),fun u hC g=>Bf (l:=a.fill) (m:=b.fill) (K:=K) (h.1.2.2.2.2.2.2.2.2.2.1.below (Ext.trans' S.E hC)) (h'.1.2.2.2.2.2.2.2.2.2.1.below (Ext.trans' S.E hC)) h.2.2.1 h'.2.2.1 h.2.2.2.2.1 h.2.2.2.2.2,fun u hC g=>Bf (l:=a.stroke) (m:=b.stroke) (K:=K) (h.1.2.2.2.2.2.2.2.2.2.2.2.1.below (Ext.trans' S.E hC)) (h'.1.2.2.2.2.2.2.2.2.2.2.2.1.below (Ext.trans' S.E hC)) h.2.2.2.1 h'.2.2.2.1 h.2.2.2.2.1 h.2.2.2.2.2,fun u hC g=>xq (p:=a.style) (q:=b.style) (h.1.2.2.2.2.2.2.2.2.2.2.1.below (Ext.trans' S.E hC)) (h'.1.2.2.2.2.2.2.2.2.2.2.1.below (Ext.trans' S.E hC)),fun u hC g=>vI (m:=a.img) (n:=b.img) (h.1.2.2.2.2.2.2.2.2.2.2.2.2.1.below (Ext.trans' S.E hC)) (h'.1.2.2.2.2.2.2.2.2.2.2.2.2.1.below (Ext.trans' S.E hC)),trivial⟩ fun ac u Dj S=>apB<|dV _ _<|awq ?_;have p0:=dR;refine av2 S results28 ?_;exact⟨aH (by unfold aA.eqP; simp only[p0,cond_false]),S.E⟩
end
end Go.Proofs.YtapmgonflgahbaaGreatDoor
