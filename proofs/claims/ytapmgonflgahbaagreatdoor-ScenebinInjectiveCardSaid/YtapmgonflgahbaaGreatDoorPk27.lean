/- Walks of the reference on rational numbers: Normalize, -/
import Derived.Test.YtapmgonflgahbaaGreatDoorRefRat2
import Derived.Test.YtapmgonflgahbaaGreatDoorCheck
set_option linter.unusedVariables false
namespace Go.Proofs.YtapmgonflgahbaaGreatDoor
open _root_.Go.Proofs.Tryz
section
set_option maxHeartbeats 1600000
set_option maxRecDepth 100000
open Go.RowKit
variable{α:Type}
theorem BP{w w1:World}{A:Array Value}{ta tb:TypeId}{x0 x1 x2 x3:Value}(hb:Ext ((w.alloc (.cells A ta)).alloc (.cells #[x0,x1,x2,x3] tb)) w1) :
  (∀i,w1.cell? ⟨w.heap.size,i,none⟩=A[i]?)∧(∀i,w1.cell? ⟨w.heap.size+1,i,none⟩ = #[x0,x1,x2,x3][i]?)∧(∀i,w1.frozen? ⟨w.heap.size+1,i,none⟩=false)∧w.heap.size+1<w1.heap.size:=by
 refine⟨fun i=>?_,fun i=>?_,fun i=>?_,by have:=hb.size; simp at this; omega⟩
 ·rw[hb.cell (p:=⟨w.heap.size,i,none⟩) (by simp; omega)]; simp[go_sem]
 ·rw[hb.cell (p:=⟨w.heap.size+1,i,none⟩) (by simp)]; simp[go_sem]
 rw[hb.frozen (p:=⟨w.heap.size+1,i,none⟩) (by simp)]; simp[go_sem]
theorem uO(n1 n2:Bool)(s1 s2:Value)(l m:List UInt32)(w:World)(h1:aC w s1 l)(h2:aC w s2 m)(hl1:l.length≤5000000)(hl2:m.length≤5000000) :
  Calls prog 127 #[.agg #[.bool n1,s1,.bool n2,s2]] w fun e w'=>∃x,e = .returned x∧dB w.heap.size w' x (nrm n1 n2 (Na.val l) (Na.val m))∧Ext w w':=by
 obtain⟨a1,c1,rfl⟩:=h1.shape;obtain⟨a2,c2,rfl⟩:=h2.shape;have hb0:=(aI w (.cells #[.bool n1,.slice a1 l.length c1,.bool n2,.slice a2 m.length c2] 31)).alloc (by simp) (.cells #[.z,.sn,.z,.sn] 31);have hS:=pF n2 _ m _ (h2.below hb0) (by omega);have H:=ah1 (And.intro h1 h2);have HB0:=ah1 hb0;rcases aiL (Na.val m)with hm | hm
 ·have hN:nrm n1 n2 (Na.val l) (Na.val m)=(false,0,1):=by unfold nrm; rw[aib hm]
  rw[hN];rw[hm,show oK n2 0=0 from rfl]at hS;have HS:=ah1 hS;clear h1 h2 hb0 hm hN hS;go_enter func127,ntmps127
  go_wp2_with fail
  refine HS.out.mono ?_;rintro e w1 ⟨rfl,hb⟩;have HX:=ah1 (Ext.trans' HB0.out hb);have HY:=ah1 (xA 0 w1 (by decide));have HBB:=ah1 hb;clear hb HS;go_wp2_with fail
  refine HY.out.mono ?_;rintro e w2 ⟨x,rfl,hx,hb2⟩;obtain⟨b1,d1,b2,d2,rfl⟩:=hx.shape;obtain⟨-,r1,f1,hz⟩:=BP (Ext.trans' HBB.out hb2);obtain⟨-,-,-,hz1⟩:=BP HBB.out;have F:=ah1 hx;have HX2:=ah1 (Ext.trans' HX.out hb2);clear hx hb2 HY;go_wp2_with fail
  refine bodyPost_ret (v := .agg #[.z,.slice b1 (Na.ak 0).length d1,.z,.slice b2 (Na.ak 1).length d2]) (by simp[results,results127,go_sem,r1]) rfl ⟨_,rfl,?_,oh HX2.out (by omega) _ _ _ _⟩;exact(F.out.Gj hz1 _ _ _ _).mono (by omega)
 have hN:nrm n1 n2 (Na.val l) (Na.val m)=(kT n1 n2 (Na.val l) (Na.val m),Na.val l/Nat.gcd (Na.val l) (Na.val m),Na.val m/Nat.gcd (Na.val l) (Na.val m)):=by unfold nrm; rw[ah7 (by omega)]
 obtain⟨⟨NG,X,Y⟩,hr⟩:∃r,nrm n1 n2 (Na.val l) (Na.val m)=r:=⟨_,rfl⟩;rw[hr];rw[hN]at hr;obtain⟨e1,hr⟩:=Prod.mk.inj hr;obtain⟨e2,e3⟩:=Prod.mk.inj hr;have E:=ah1 (And.intro e1 (And.intro e2 e3));clear e1 e2 e3 hr hN;have hs0:(oK n2 (Na.val m)==0)=false:=by
  rw[aiw]; unfold oK; rw[ah7 (by omega)]; cases n2<;>simp
 have HM:=ah1 hm;have HS:=ah1 hS;clear h1 h2 hb0 hm hS;go_enter func127,ntmps127
 go_wp2_with fail
 refine HS.out.mono ?_;rintro e w1 ⟨rfl,hb⟩;have hX:=Ext.trans' HB0.out hb;have HX:=ah1 hX;have hY:=DN n1 n2 _ _ l m w1 (H.out.1.below hX) (H.out.2.below hX) HM.out hl1 hl2;rw[E.out.1,E.out.2.1,E.out.2.2]at hY;have HY:=ah1 hY;clear hY;have HBB:=ah1 hb;obtain⟨k0,-,-,-⟩:=BP hb;clear hb HS hX;go_wp2_with fail
 refine HY.out.mono ?_;rintro e w2 ⟨x,rfl,hx,hb2⟩;obtain⟨b1,d1,b2,d2,rfl⟩:=hx.shape;obtain⟨-,r1,f1,hz⟩:=BP (Ext.trans' HBB.out hb2);obtain⟨-,-,-,hz1⟩:=BP HBB.out;have F:=ah1 hx;have HX2:=ah1 (Ext.trans' HX.out hb2);clear hx hb2 HY k0;go_wp2_with fail
 refine bodyPost_ret (v := .agg #[.bool NG,.slice b1 (Na.ak X).length d1,.z,.slice b2 (Na.ak Y).length d2]) (by simp[results,results127,go_sem,r1]) rfl ⟨_,rfl,?_,oh HX2.out (by omega) _ _ _ _⟩;exact(F.out.Gj hz1 _ _ _ _).mono (show w.heap.size≤w1.heap.size by omega)
theorem yY(n1 n2:Bool)(s1 s2:Value)(l m:List UInt32)(w:World)(h1:aC w s1 l)(h2:aC w s2 m) :
  Calls prog 313 #[.agg #[.bool n1,s1],.agg #[.bool n2,s2]] w fun e w'=>e = .returned (.bool (n1==n2&&l==m))∧Ext w w':=by
 obtain⟨a1,c1,rfl⟩:=h1.shape;obtain⟨a2,c2,rfl⟩:=h2.shape;have hl1:=h1.len;have hl2:=h2.len;unfold maxLen at hl1 hl2;have HB0:=ah1 ((aI w (.cells #[.bool n1,.slice a1 l.length c1] 29)).alloc (by simp) (.cells #[.bool n2,.slice a2 m.length c2] 29));have H1:=ah1 h1;have H2:=ah1 h2;clear h1 h2;by_cases hn:n1=n2
 ·subst hn;by_cases hl:l.length=m.length
  ·have HL:=ah1 hl;obtain⟨W,hW⟩:∃W,((w.alloc (.cells #[.bool n1,.slice a1 l.length c1] 29)).alloc (.cells #[.bool n1,.slice a2 m.length c2] 29))=W:=⟨_,rfl⟩;have hK:∀w1,Ext W w1→w1.cell? ⟨w.heap.size,1,none⟩=some (.slice a1 l.length c1)∧w1.cell? ⟨w.heap.size+1,1,none⟩=some (.slice a2 m.length c2):=by
    intro w1 hb;subst hW;constructor
    ·rw[hb.cell (p:=⟨w.heap.size,1,none⟩) (by simp; omega)]; simp[go_sem]
    rw[hb.cell (p:=⟨w.heap.size+1,1,none⟩) (by simp)]; simp[go_sem]
   have HK:=ah1 hK;rw[hW]at HB0;have HW:=ah1 hW;have hne:((l.length:Int) != (m.length:Int))=false:=by rw[bne_eq_false_iff_eq]; omega
   have hml:m.length≤l.length:=Nat.le_of_eq hl.symm;have hlm:l.length≤m.length:=Nat.le_of_eq hl;clear hl hK hW;cases n1;all_goals
    go_enter func313,ntmps313
    go_wp2_with fail
    rw[HW.out]
    clear hne
    go_loopw [5] (fun i wr=>∃k:Nat,i = .i k∧k≤l.length∧l.take k=m.take k∧Ext W wr) (fun i _=>l.length-(intOf i).toNat)
    case atStart=>exact⟨0,rfl,aij _,rfl,ais _ _⟩
    case round =>
     obtain⟨k,rfl,hk,ht,hbel⟩:=hrel
     have HT:=ah1 ht
     clear ht
     obtain⟨q1,q2⟩:=HK.out wr hbel
     by_cases hlt:k<l.length
     ·obtain⟨bx,ox,cx,hxs,hbx,hlx,hmx,hcx⟩:=dF H1.out rfl (by omega)
      obtain⟨by',oy,cy,hys,hby,hly,hmy,hcy⟩:=dF H2.out rfl (by omega)
      simp only[aiK]at hxs hys
      obtain⟨rfl,-,-⟩:=hxs
      obtain⟨rfl,-,-⟩:=hys
      have hkm:k<m.length:=by omega
      have hb:=Ext.trans' HB0.out hbel
      have r1:wr.cell? ⟨bx,ox+k,none⟩=some (aU l[k]):=by rw[hb.cell (p:=⟨bx,ox+k,none⟩) hbx]; exact hcx k hlt
      have r2:wr.cell? ⟨by',oy+k,none⟩=some (aU m[k]):=by rw[hb.cell (p:=⟨by',oy+k,none⟩) hby]; exact hcy k hkm
      have hs1:=take_snoc l k hlt
      have hs2:=take_snoc m k hkm
      clear hcx hcy hb
      have hkI:(k:Int)<(m.length:Int):=by omega
      by_cases he:l[k]=m[k]
      ·have hnx:l.take (k+1)=m.take (k+1):=by rw[hs1,hs2,HT.out,he]
       rw[he]at r1
       have HN:=ah1 hnx
       generalize m[k]=d at *
       clear hs1 hs2 hnx he
       go_wp2_with fail
       go_quiet (fail)
       go_wp2_with fail
       go_roundw
       case rel=>exact⟨k+1,by go_num,by omega,HN.out,below_drewN hbel _⟩
       case measure=>simp[intOf]; omega
      ·have hx:((l[k].toNat:Int) != (m[k].toNat:Int))=true:=by
        rw[bne_iff_ne]; intro e; exact he (aiS.1 (by omega))
       have hr:l≠m:=fun e=>he (by subst e; rfl)
       have HR:Hid ((l==m)=false):=aiw.2 hr
       generalize l[k]=d1 at *
       generalize m[k]=d2 at *
       clear hs1 hs2 he hr
       go_wp2_with fail
       go_quiet (fail)
       go_wp2_with fail
       go_ret
       exact⟨by rw[HR.out]; rfl,below_drewN (Ext.trans' HB0.out hbel) _⟩
     ·obtain rfl:k=l.length:=by omega
      have hr:l=m:=by
       have:=HT.out
       rw[ai1,HL.out,ai1]at this; exact this
      have HR:Hid ((l==m)=true):=aiv.2 hr
      clear hr
      go_wp2_with fail
      go_ret
      exact⟨by rw[HR.out]; rfl,Ext.trans' HB0.out hbel⟩
  have hne:((l.length:Int) != (m.length:Int))=true:=by rw[bne_iff_ne]; omega
  have hr:Hid ((n1==n1&&l==m)=false):=by
   show _=_;rw[ajT,ajw,aiw]; exact fun e=>hl (by rw[e])
  clear hl;cases n1;all_goals
   go_enter func313,ntmps313
   go_wp2_with fail
   go_ret
   exact⟨by rw[hr.out]; rfl,HB0.out⟩
 have hr:Hid ((n1==n2&&l==m)=false):=by
  show _=_;rw[aiw.2 hn,ajN]
 cases n1<;>cases n2
 ·exact absurd rfl hn
 case' true.true=>exact absurd rfl hn
 all_goals
  clear hn
  go_enter func313,ntmps313
  go_wp2_with fail
  go_ret
  exact⟨by rw[hr.out]; rfl,HB0.out⟩
end
section
open Go.RowKit
variable{α:Type}
theorem nO(v:Value)(q:Bool×Nat×Nat)(K:Nat)(w:World)(h:dM K w v q)(hK:K≤1000000) :
  Calls prog 127 #[v] w fun e w'=>∃x,e = .returned x∧dB w.heap.size w' x q∧Ext w w':=by
 obtain⟨n1,s1,l1,n2,s2,l2,rfl,h1,h2,h3,h4,rfl⟩:=h;exact uO n1 n2 s1 s2 l1 l2 w h1 h2 (by omega) (by omega)
end
section
open Go.RowKit
variable{α:Type}
set_option maxRecDepth 100000 in
set_option maxHeartbeats 1600000 in
theorem ED(t:bn)(w:World) :
  Calls prog 207 #[t.v] w fun e w'=>∃b,e = .returned (.slice (some ⟨b,0,none⟩) 6 6)∧w.heap.size≤b∧Bx w' b t.cells.toArray∧Ext w w':=by
 skip;refine ahO func207 ntmps207 fun ac S=>ahK fun _ aY=>ahL S 1 t.cells fun ac u b2 E3 hb4 S=>adr S 1 [] [(2,.sn)] fun S=>ahJ<|aY _ _<|ahK fun _ dw=>adr S 12 [.mem 0 0,.mem 0 4,.mem 0 8,.mem 0 12,.mem 0 16,.mem 0 20] [(4,t.a.v),(6,t.b.v),(8,t.c.v),(10,t.d.v),(12,t.e.v),(14,t.f.v)] fun S=>ah6 S 15 6 t.cells fun ac u b6 E7 hb8 S=>adr S 1 [] [(2,.slice (some ⟨b6,0,none⟩) 6 6)] fun S=>ahJ<|dw _ _<|ahM S results207 ?_;exact⟨b6,rfl,S.old 0,S.bx 0,S.E⟩
end
section
set_option maxHeartbeats 1600000
set_option maxRecDepth 100000
open Go.RowKit
variable{α:Type}{K:Nat}
def bP.same(r s:bP):Bool:=(r.n1==s.n1&&r.l1==s.l1)&&(r.n2==s.n2&&r.l2==s.l2)
def bn.same(t u:bn):Bool:=t.a.same u.a&&(t.b.same u.b&&(t.c.same u.c&&(t.d.same u.d&&(t.e.same u.e&&t.f.same u.f))))
def bP.Is(r:bP)(q:Bool×Nat×Nat):Prop:=r.n1=q.1∧r.l1=Na.ak q.2.1∧r.n2=false∧r.l2=Na.ak q.2.2
def bn.Is(t:bn)(Q:Q6):Prop:=t.a.Is Q.a∧t.b.Is Q.b∧t.c.Is Q.c∧t.d.Is Q.d∧t.e.Is Q.e∧t.f.Is Q.f
theorem kM{r s:bP}{q1 q2:Bool×Nat×Nat}(h:r.Is q1)(k:s.Is q2):r.same s=decide (q1=q2):=by
 obtain⟨a,b,c⟩:=q1;obtain⟨a',b',c'⟩:=q2;obtain⟨e1,e2,e3,e4⟩:=h;obtain⟨f1,f2,f3,f4⟩:=k;have hd:∀m n:Nat,Na.ak m=Na.ak n↔m=n:=fun m n=>⟨fun h=>by rw[←Na.aF m,h,Na.aF],fun h=>by rw[h]⟩;rw[ai4];simp only[bP.same,e1,e2,e3,e4,f1,f2,f3,f4,aiq,aiv,aiz,aie,hd,true_and];exact⟨fun h=>⟨h.1.1,h.1.2,h.2⟩,fun h=>⟨⟨h.1,h.2.1⟩,h.2.2⟩⟩
def Mc(w:World)(v:Value)(t:bn):Prop:=∃b,v = .slice (some ⟨b,0,none⟩) 6 6∧Bx w b t.cells.toArray
theorem Mc.ext{w w':World}{v:Value}{t:bn}(h:Mc w v t)(hE:Ext w w'):Mc w' v t:=by
 obtain⟨b,e,X⟩:=h; exact⟨b,e,X.ext hE⟩
def Jj(base:Nat)(w:World)(t:bn)(Q:Q6):Prop:=dB base w t.a.v Q.a∧dB base w t.b.v Q.b∧dB base w t.c.v Q.c∧dB base w t.d.v Q.d∧dB base w t.e.v Q.e∧dB base w t.f.v Q.f
theorem Jj.ext{base:Nat}{w w':World}{t:bn}{Q:Q6}(h:Jj base w t Q)(hE:Ext w w'):Jj base w' t Q:=⟨h.1.ext hE,h.2.1.ext hE,h.2.2.1.ext hE,h.2.2.2.1.ext hE,h.2.2.2.2.1.ext hE,h.2.2.2.2.2.ext hE⟩
def yF(base:Nat)(w:World)(v:Value)(Q:Q6):Prop:=∃t:bn,v=t.v∧Jj base w t Q
theorem yF.ext{base:Nat}{w w':World}{v:Value}{Q:Q6}(h:yF base w v Q)(hE:Ext w w'):yF base w' v Q:=by
 obtain⟨t,e,X⟩:=h; exact⟨t,e,X.ext hE⟩
def Q6.same(P Q:Q6):Bool:=decide (P.a=Q.a)&&(decide (P.b=Q.b)&&(decide (P.c=Q.c)&&(decide (P.d=Q.d)&&(decide (P.e=Q.e)&&decide (P.f=Q.f)))))
theorem yF.mono{b b':Nat}{w:World}{v:Value}{Q:Q6}(h:yF b w v Q)(hb:b'≤b):yF b' w v Q:=by
 obtain⟨t,e,h0,h1,h2,h3,h4,h5⟩:=h; exact⟨t,e,h0.mono hb,h1.mono hb,h2.mono hb,h3.mono hb,h4.mono hb,h5.mono hb⟩
theorem YT{t u:bn}{P Q:Q6}(h:t.Is P)(k:u.Is Q):t.same u=P.same Q:=by
 unfold bn.same Q6.same;rw[kM h.1 k.1,kM h.2.1 k.2.1,kM h.2.2.1 k.2.2.1,kM h.2.2.2.1 k.2.2.2.1,kM h.2.2.2.2.1 k.2.2.2.2.1,kM h.2.2.2.2.2 k.2.2.2.2.2]
theorem VF{base:Nat}{w:World}{t:bn}{Q:Q6}(h:Jj base w t Q):∃r:bn,t.v=r.v∧r.ok w∧r.Is Q:=by
 obtain⟨h0,h1,h2,h3,h4,h5⟩:=h;obtain⟨r0,e0,a0,z0⟩:=aB.P7 h0;obtain⟨r1,e1,a1,z1⟩:=aB.P7 h1;obtain⟨r2,e2,a2,z2⟩:=aB.P7 h2;obtain⟨r3,e3,a3,z3⟩:=aB.P7 h3;obtain⟨r4,e4,a4,z4⟩:=aB.P7 h4;obtain⟨r5,e5,a5,z5⟩:=aB.P7 h5;refine⟨⟨r0,r1,r2,r3,r4,r5⟩,?_,⟨a0,a1,a2,a3,a4,a5⟩,z0,z1,z2,z3,z4,z5⟩;have key:∀{x y:bP},x.v=y.v→x.cells=y.cells:=fun h=>by
  unfold bP.v at h;simp only[ajE,ajF]at h;exact h
 unfold bn.v bn.cells;rw[key e0,key e1,key e2,key e3,key e4,key e5]
theorem kN{r s:bP}{w:World}(h:r.ok w)(k:s.ok w) :
  Calls prog 276 #[r.v,s.v] w fun e w'=>e = .returned (.bool (r.same s))∧Ext w w':=by
 skip;refine ahO func276 ntmps276 fun ac S=>ahK fun _ aY=>ahL S 2 r.cells fun ac u b2 E3 hb4 S=>ahL S 3 s.cells fun ac u b5 E6 hb7 S=>adr S 1 [] [(4,.z)] fun S=>ahJ<|aY _ _<|ahK fun _ dR=>adr S 4 [.mem 1 0,.mem 0 0] [(6,.agg #[.bool r.n1,r.s1]),(8,.agg #[.bool s.n1,s.s1])] fun S=>ahS S 9 (yY r.n1 s.n1 r.s1 s.s1 r.l1 s.l1 _ (h.1.below S.E) (k.1.below S.E)) fun ac u E9 S=>Sx.nV S 8 [.mem 1 2,.mem 0 2] [(_,_,(r.n1==s.n1&&r.l1==s.l1),.bool (r.n2==s.n2&&r.l2==s.l2))] [(4,.bool ((r.n1==s.n1&&r.l1==s.l1)&&(r.n2==s.n2&&r.l2==s.l2)))] ⟨fun u hC g=>yY r.n2 s.n2 r.s2 s.s2 r.l2 s.l2 _ (h.2.below (Ext.trans' S.E hC)) (k.2.below (Ext.trans' S.E hC)),trivial⟩ fun ac u Nw S=>ahJ<|dR _ _<|ahM S results276 ?_;exact⟨rfl,S.E⟩
theorem Gl{w:World}{v1 v2:Value}{t t2:bn}(h1:Mc w v1 t)(h2:Mc w v2 t2)(h:t.ok w)(k:t2.ok w) :
  Calls prog 234 #[v1,v2] w fun e w'=>e = .returned (.bool (t.same t2))∧Ext w w':=by
 obtain⟨b1,rfl,X1⟩:=h1;obtain⟨b2,rfl,X2⟩:=h2;obtain⟨h0,h1,h2,h3,h4,h5⟩:=h;obtain⟨k0,k1,k2,k3,k4,k5⟩:=k;refine ahO func234 ntmps234 (fun ac S=>?_);have S:=S.view0 X1.1 (X1.range 0 24 rfl);have S:=S.view0 X2.1 (X2.range 0 24 rfl);refine ahK fun _ aY=>adr S 1 [] [(4,.z)] fun S=>ahJ<|aY _ _<|ah2 fun _ fA=>ahK fun _ jw=>adr S 5 [] [(10,.z)] fun S=>ahJ<|jw _ _<|ahX S<|ah4<|fA _ _<|ah2 fun _ nT=>ahK fun _ dw=>adr S 1 [] [(5,.i 0)] fun S=>ahJ<|dw _ _<|ah5<|ajo 7 ?_;rw[aio];refine ah2 fun _ iT=>ahK fun _ iL=>adr S 4 [] [(14,.bool true)] fun S=>ahJ<|iL _ _<|ahV S<|ah4<|iT _ _<|ah2 fun _ dR=>ah5<|ah2 fun _ iD=>ahW S 10 [.mem 1 0,.mem 0 0] [(_,_,true,.bool (t.a.same t2.a))] [(26,.bool (!(t.a.same t2.a)))] ⟨fun u hC g=>kN (r:=t.a) (s:=t2.a) (h0.below (Ext.trans' S.E hC)) (k0.below (Ext.trans' S.E hC)),trivial⟩ fun ac u Nw S=>ahJ (iD _ _ ?_);refine ahN S (fun jV=>?_) (fun jV=>?_)
 ·refine ahK fun _ fD=>adr S 1 [] [(4,.z)] fun S=>ahJ<|fD _ _<|aii ?_;have g0:t.a.same t2.a=false:=by simpa using jV
  refine ahU S results234 ?_;exact⟨aH (by simp only[bn.same,g0,ajN]),S.E⟩
 refine ah4<|dR _ _<|aia<|adr S 3 [] [(5,.i 1)] fun S=>ahJ ?_;show Code.rounds _ _ _ 6 _ _;rw[aio];refine ah2 fun _ iI=>ahK fun _ gU=>adr S 4 [] [(14,.bool true)] fun S=>ahJ<|gU _ _<|ahV S<|ah4<|iI _ _<|ah2 fun _ iJ=>ah5<|ah2 fun _ jQ=>ahW S 10 [.mem 1 4,.mem 0 4] [(_,_,true,.bool (t.b.same t2.b))] [(26,.bool (!(t.b.same t2.b)))] ⟨fun u hC g=>kN (r:=t.b) (s:=t2.b) (h1.below (Ext.trans' S.E hC)) (k1.below (Ext.trans' S.E hC)),trivial⟩ fun ac u yu S=>ahJ (jQ _ _ ?_);refine ahN S (fun hc18=>?_) (fun hc18=>?_)
 ·refine ahK fun _ kX=>adr S 1 [] [(4,.z)] fun S=>ahJ<|kX _ _<|aii ?_;have g0:t.a.same t2.a=true:=by simpa using jV
  have g1:t.b.same t2.b=false:=by simpa using hc18
  refine ahU S results234 ?_;exact⟨aH (by simp only[bn.same,g0,g1,ajw,ajN]),S.E⟩
 refine ah4<|iJ _ _<|aia<|adr S 3 [] [(5,.i 2)] fun S=>ahJ ?_;show Code.rounds _ _ _ 5 _ _;rw[aio];refine ah2 fun _ kP=>ahK fun _ mX=>adr S 4 [] [(14,.bool true)] fun S=>ahJ<|mX _ _<|ahV S<|ah4<|kP _ _<|ah2 fun _ kW=>ah5<|ah2 fun _ pR=>ahW S 10 [.mem 1 8,.mem 0 8] [(_,_,true,.bool (t.c.same t2.c))] [(26,.bool (!(t.c.same t2.c)))] ⟨fun u hC g=>kN (r:=t.c) (s:=t2.c) (h2.below (Ext.trans' S.E hC)) (k2.below (Ext.trans' S.E hC)),trivial⟩ fun ac u N8 S=>ahJ (pR _ _ ?_);refine ahN S (fun hc25=>?_) (fun hc25=>?_)
 ·refine ahK fun _ jA=>adr S 1 [] [(4,.z)] fun S=>ahJ<|jA _ _<|aii ?_;have g0:t.a.same t2.a=true:=by simpa using jV
  have g1:t.b.same t2.b=true:=by simpa using hc18
  have g2:t.c.same t2.c=false:=by simpa using hc25
  refine ahU S results234 ?_;exact⟨aH (by simp only[bn.same,g0,g1,g2,ajw,ajN]),S.E⟩
 refine ah4<|kW _ _<|aia<|adr S 3 [] [(5,.i 3)] fun S=>ahJ ?_;show Code.rounds _ _ _ 4 _ _;rw[aio];refine ah2 fun _ l9=>ahK fun _ pO=>adr S 4 [] [(14,.bool true)] fun S=>ahJ<|pO _ _<|ahV S<|ah4<|l9 _ _<|ah2 fun _ uJ=>ah5<|ah2 fun _ oJ=>ahW S 10 [.mem 1 12,.mem 0 12] [(_,_,true,.bool (t.d.same t2.d))] [(26,.bool (!(t.d.same t2.d)))] ⟨fun u hC g=>kN (r:=t.d) (s:=t2.d) (h3.below (Ext.trans' S.E hC)) (k3.below (Ext.trans' S.E hC)),trivial⟩ fun ac u Ht S=>ahJ (oJ _ _ ?_);refine ahN S (fun hc32=>?_) (fun hc32=>?_)
 ·refine ahK fun _ kD=>adr S 1 [] [(4,.z)] fun S=>ahJ<|kD _ _<|aii ?_;have g0:t.a.same t2.a=true:=by simpa using jV
  have g1:t.b.same t2.b=true:=by simpa using hc18
  have g2:t.c.same t2.c=true:=by simpa using hc25
  have g3:t.d.same t2.d=false:=by simpa using hc32
  refine ahU S results234 ?_;exact⟨aH (by simp only[bn.same,g0,g1,g2,g3,ajw,ajN]),S.E⟩
 refine ah4<|uJ _ _<|aia<|adr S 3 [] [(5,.i 4)] fun S=>ahJ ?_;show Code.rounds _ _ _ 3 _ _;rw[aio];refine ah2 fun _ qE=>ahK fun _ qF=>adr S 4 [] [(14,.bool true)] fun S=>ahJ<|qF _ _<|ahV S<|ah4<|qE _ _<|ah2 fun _ mY=>ah5<|ah2 fun _ mD=>ahW S 10 [.mem 1 16,.mem 0 16] [(_,_,true,.bool (t.e.same t2.e))] [(26,.bool (!(t.e.same t2.e)))] ⟨fun u hC g=>kN (r:=t.e) (s:=t2.e) (h4.below (Ext.trans' S.E hC)) (k4.below (Ext.trans' S.E hC)),trivial⟩ fun ac u E38 S=>ahJ (mD _ _ ?_);refine ahN S (fun hc39=>?_) (fun hc39=>?_)
 ·refine ahK fun _ xX=>adr S 1 [] [(4,.z)] fun S=>ahJ<|xX _ _<|aii ?_;have g0:t.a.same t2.a=true:=by simpa using jV
  have g1:t.b.same t2.b=true:=by simpa using hc18
  have g2:t.c.same t2.c=true:=by simpa using hc25
  have g3:t.d.same t2.d=true:=by simpa using hc32
  have g4:t.e.same t2.e=false:=by simpa using hc39
  refine ahU S results234 ?_;exact⟨aH (by simp only[bn.same,g0,g1,g2,g3,g4,ajw,ajN]),S.E⟩
 refine ah4<|mY _ _<|aia<|adr S 3 [] [(5,.i 5)] fun S=>ahJ ?_;show Code.rounds _ _ _ 2 _ _;rw[aio];refine ah2 fun _ Ac=>ahK fun _ vC=>adr S 4 [] [(14,.bool true)] fun S=>ahJ<|vC _ _<|ahV S<|ah4<|Ac _ _<|ah2 fun _ vF=>ah5<|ah2 fun _ Gi=>ahW S 10 [.mem 1 20,.mem 0 20] [(_,_,true,.bool (t.f.same t2.f))] [(26,.bool (!(t.f.same t2.f)))] ⟨fun u hC g=>kN (r:=t.f) (s:=t2.f) (h5.below (Ext.trans' S.E hC)) (k5.below (Ext.trans' S.E hC)),trivial⟩ fun ac u Z4 S=>ahJ (Gi _ _ ?_);refine ahN S (fun abJ=>?_) (fun abJ=>?_)
 ·refine ahK fun _ Hu=>adr S 1 [] [(4,.z)] fun S=>ahJ<|Hu _ _<|aii ?_;have g0:t.a.same t2.a=true:=by simpa using jV
  have g1:t.b.same t2.b=true:=by simpa using hc18
  have g2:t.c.same t2.c=true:=by simpa using hc25
  have g3:t.d.same t2.d=true:=by simpa using hc32
  have g4:t.e.same t2.e=true:=by simpa using hc39
  have g5:t.f.same t2.f=false:=by simpa using abJ
  refine ahU S results234 ?_;exact⟨aH (by simp only[bn.same,g0,g1,g2,g3,g4,g5,ajw]),S.E⟩
 refine ah4<|vF _ _<|aia<|adr S 3 [] [(5,.i 6)] fun S=>ahJ ?_;show Code.rounds _ _ _ 1 _ _;rw[aio];refine ah2 fun _ zC=>ahK fun _ Af=>adr S 4 [] [(14,.z)] fun S=>ahJ<|Af _ _<|ahX S<|ail<|nT _ _<|ahK fun _ zD=>adr S 1 [] [(4,.bool true)] fun S=>ahJ<|zD _ _<|aii ?_;have g0:t.a.same t2.a=true:=by simpa using jV
 have g1:t.b.same t2.b=true:=by simpa using hc18
 have g2:t.c.same t2.c=true:=by simpa using hc25
 have g3:t.d.same t2.d=true:=by simpa using hc32
 have g4:t.e.same t2.e=true:=by simpa using hc39
 have g5:t.f.same t2.f=true:=by simpa using abJ
 refine ahU S results234 ?_;exact⟨aH (by simp only[bn.same,g0,g1,g2,g3,g4,g5,ajw]),S.E⟩
theorem yZ(v:Value)(Q:Q6)(K:Nat)(w:World)(h:kC K w v Q)(hK1:1≤K)(hK:K≤10000) :
  Calls prog 65 #[v] w fun e w'=>∃x,e = .returned x∧yF w.heap.size w' x Q∧Ext w w':=by
 have hq:=h;obtain⟨nr0,nr1,nr2,nr3,nr4,nr5⟩:=h.nrm;obtain⟨ln0,ln1,ln2,ln3,ln4,ln5⟩:=h.len hK1;obtain⟨t,rfl,h0,h1,h2,h3,h4,h5⟩:=h.sQ;refine ahO func65 ntmps65 fun ac S=>ahK fun _ aY=>ahL S 1 t.cells fun ac u b2 E3 hb4 S=>ahL S 2 Sx.za fun ac u b5 E6 hb7 S=>ahJ<|aY _ _<|ah2 fun _ dR=>Sx.kQ S 18 [(5,fun v w1=>dB w.heap.size w1 v Q.a),(8,fun v w1=>dB w.heap.size w1 v Q.b),(11,fun v w1=>dB w.heap.size w1 v Q.c),(14,fun v w1=>dB w.heap.size w1 v Q.d),(17,fun v w1=>dB w.heap.size w1 v Q.e),(20,fun v w1=>dB w.heap.size w1 v Q.f)] (fun r=>[.mem 1 0,.mem 1 4,.mem 1 8,.mem 1 12,.mem 1 16,.mem 1 20]) (fun x=>[x 5,x 8,x 11,x 14,x 17,x 20]) (fun x=>[(_,_,true,x 5,5),(_,_,true,x 8,8),(_,_,true,x 11,11),(_,_,true,x 14,14),(_,_,true,x 17,17),(_,_,true,x 20,20)]) [[],[],[],[],[],[]] (fun x=>[(5,x 5),(8,x 8),(11,x 11),(14,x 14),(17,x 17),(20,x 20)]) ⟨fun _ _ _ k h=>h.ext k,fun _ _ _ k h=>h.ext k,fun _ _ _ k h=>h.ext k,fun _ _ _ k h=>h.ext k,fun _ _ _ k h=>h.ext k,fun _ _ _ k h=>h.ext k,trivial⟩ (fun x=>⟨by intro u hC g F; exact(nO _ Q.a K _ (h0.below (Ext.trans' S.E hC)) (by omega)).mono fun e w2 h=>by obtain⟨y,rfl,hx,hb⟩:=h; exact⟨_,rfl,hx.mono ((Ext.trans' S.E hC)).size,hb⟩,by intro u hC g F; exact(nO _ Q.b K _ (h1.below (Ext.trans' S.E hC)) (by omega)).mono fun e w2 h=>by obtain⟨y,rfl,hx,hb⟩:=h; exact⟨_,rfl,hx.mono ((Ext.trans' S.E hC)).size,hb⟩,by intro u hC g F; exact(nO _ Q.c K _ (h2.below (Ext.trans' S.E hC)) (by omega)).mono fun e w2 h=>by obtain⟨y,rfl,hx,hb⟩:=h; exact⟨_,rfl,hx.mono ((Ext.trans' S.E hC)).size,hb⟩,by intro u hC g F; exact(nO _ Q.d K _ (h3.below (Ext.trans' S.E hC)) (by omega)).mono fun e w2 h=>by obtain⟨y,rfl,hx,hb⟩:=h; exact⟨_,rfl,hx.mono ((Ext.trans' S.E hC)).size,hb⟩,by intro u hC g F; exact(nO _ Q.e K _ (h4.below (Ext.trans' S.E hC)) (by omega)).mono fun e w2 h=>by obtain⟨y,rfl,hx,hb⟩:=h; exact⟨_,rfl,hx.mono ((Ext.trans' S.E hC)).size,hb⟩,by intro u hC g F; exact(nO _ Q.f K _ (h5.below (Ext.trans' S.E hC)) (by omega)).mono fun e w2 h=>by obtain⟨y,rfl,hx,hb⟩:=h; exact⟨_,rfl,hx.mono ((Ext.trans' S.E hC)).size,hb⟩,trivial⟩) (fun ac u x E9 F S=>?_);obtain⟨F5,F8,F11,Yi,F17,F20,-⟩:=F;obtain⟨ma,ema⟩:=aB.jR F5;rw[ema]at S F5;obtain⟨mb,emb⟩:=aB.jR F8;rw[emb]at S F8;obtain⟨mc,emc⟩:=aB.jR F11;rw[emc]at S F11;obtain⟨md,emd⟩:=aB.jR Yi;rw[emd]at S Yi;obtain⟨me,eme⟩:=aB.jR F17;rw[eme]at S F17;obtain⟨mf,emf⟩:=aB.jR F20;rw[emf]at S F20;refine adr S 1 [] [(21,.agg (ma.cells++mb.cells++mc.cells++md.cells++me.cells++mf.cells).toArray)] (fun S=>?_);have NH:=S.bx 0;refine ahP S 0 (off:=0) (cs:=(ma.cells++mb.cells++mc.cells++md.cells++me.cells++mf.cells)) rfl (fun u C10 S=>?_);have aaT:=aB.dK F5 C10 NH;have VG:=aB.dK F8 C10 NH;have afQ:=aB.dK F11 C10 NH;have FW:=aB.dK Yi C10 NH;have abK:=aB.dK F17 C10 NH;have afR:=aB.dK F20 C10 NH;refine ahJ<|dR _ _<|Sx.EZ S 0 results65 rfl (v := .agg (ma.cells++mb.cells++mc.cells++md.cells++me.cells++mf.cells).toArray) ?_;exact⟨_,rfl,⟨⟨ma,mb,mc,md,me,mf⟩,rfl,aaT,VG,afQ,FW,abK,afR⟩,S.E⟩
theorem DR{w:World}{t t2:bn}(h:t.ok w)(k:t2.ok w) :
  Calls prog 180 #[t.v,t2.v] w fun e w'=>e = .returned (.bool (t.same t2))∧Ext w w':=by
 skip;refine ahO func180 ntmps180 fun ac S=>ahK fun _ aY=>ahL S 2 t.cells fun ac u b2 E3 hb4 S=>ahL S 3 t2.cells fun ac u b5 E6 hb7 S=>adr S 1 [] [(4,.z)] fun S=>ahJ<|aY _ _<|ah2 fun _ dR=>Sx.kQ S 5 [(6,fun v w1=>Mc w1 v t),(8,fun v w1=>Mc w1 v t2)] (fun r=>[.mem 1 0,.mem 0 0]) (fun x=>[x 6,x 8,.bool (t.same t2)]) (fun x=>[(_,_,true,x 6,6),(_,_,true,x 8,8),(_,_,true,.bool (t.same t2),9)]) [[],[],[6,8]] (fun x=>[(9,.bool (t.same t2))]) ⟨fun _ _ _ k h=>h.ext k,fun _ _ _ k h=>h.ext k,trivial⟩ (fun x=>⟨by intro u hC g F; exact(ED t _).mono fun e w2 h=>by obtain⟨b,rfl,hb0,X,hb⟩:=h; exact⟨_,rfl,⟨b,rfl,X⟩,hb⟩,by intro u hC g F; exact(ED t2 _).mono fun e w2 h=>by obtain⟨b,rfl,hb0,X,hb⟩:=h; exact⟨_,rfl,⟨b,rfl,X⟩,hb⟩,by intro u hC g F; obtain⟨F6,F8,-⟩:=F; exact(Gl F6 F8 (h.below (Ext.trans' S.E hC)) (k.below (Ext.trans' S.E hC))).mono fun e w2 h=>⟨_,h.1,rfl,h.2⟩,trivial⟩) (fun ac u x E9 F S=>?_);obtain⟨F6,F8,-⟩:=F;refine adr S 1 [] [(4,.bool (t.same t2))] fun S=>ahJ<|dR _ _<|ahM S results180 ?_;exact⟨rfl,S.E⟩
theorem Jk{w:World}{n1 n2:Nat}{v1 v2:Value}{P Q:Q6}(h:yF n1 w v1 P)(k:yF n2 w v2 Q) :
  Calls prog 180 #[v1,v2] w fun e w'=>e = .returned (.bool (P.same Q))∧Ext w w':=by
 obtain⟨t,rfl,h⟩:=h;obtain⟨t2,rfl,k⟩:=k;obtain⟨r,e,ho,hi⟩:=VF h;obtain⟨s,e2,ko,ki⟩:=VF k;rw[e,e2];exact(DR ho ko).mono fun _ _ h=>⟨h.1.trans (aH (YT hi ki)),h.2⟩
theorem wQ{w:World}{P Q:Q6}{t t2:bn}(h:kC K w t.v P)(k:kC K w t2.v Q)(hK1:1≤K)(hK:K≤10000) :
  Calls prog 122 #[t.v,t2.v] w fun e w'=>e = .returned (.bool (P.same Q))∧Ext w w':=by
 skip;refine ahO func122 ntmps122 fun ac S=>ahK fun _ aY=>ahL S 2 t.cells fun ac u b2 E3 hb4 S=>ahL S 3 t2.cells fun ac u b5 E6 hb7 S=>adr S 1 [] [(4,.z)] fun S=>ahJ<|aY _ _<|ah2 fun _ dR=>Sx.kQ S 5 [(6,fun v w1=>yF w.heap.size w1 v P),(8,fun v w1=>yF w.heap.size w1 v Q)] (fun r=>[.mem 1 0,.mem 0 0]) (fun x=>[x 6,x 8,.bool (P.same Q)]) (fun x=>[(_,_,true,x 6,6),(_,_,true,x 8,8),(_,_,true,.bool (P.same Q),9)]) [[],[],[6,8]] (fun x=>[(9,.bool (P.same Q))]) ⟨fun _ _ _ k h=>h.ext k,fun _ _ _ k h=>h.ext k,trivial⟩ (fun x=>⟨by intro u hC g F; exact(yZ _ P K _ (h.fV (Ext.trans' S.E hC)) hK1 hK).mono fun e w2 h=>by obtain⟨y,rfl,hx,hb⟩:=h; exact⟨_,rfl,yF.mono hx ((Ext.trans' S.E hC)).size,hb⟩,by intro u hC g F; exact(yZ _ Q K _ (k.fV (Ext.trans' S.E hC)) hK1 hK).mono fun e w2 h=>by obtain⟨y,rfl,hx,hb⟩:=h; exact⟨_,rfl,yF.mono hx ((Ext.trans' S.E hC)).size,hb⟩,by intro u hC g F; obtain⟨F6,F8,-⟩:=F; exact(Jk F6 F8).mono fun e w2 h=>⟨_,h.1,rfl,h.2⟩,trivial⟩) (fun ac u x E9 F S=>?_);obtain⟨F6,F8,-⟩:=F;refine adr S 1 [] [(4,.bool (P.same Q))] fun S=>ahJ<|dR _ _<|ahM S results122 ?_;exact⟨rfl,S.E⟩
end
end Go.Proofs.YtapmgonflgahbaaGreatDoor
