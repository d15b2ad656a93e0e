/- Walks of the reference on rational numbers: Normalize, -/
import Derived.Test.YtodpgjjgaddkeaaGreatDoorPk17
import Derived.Test.YtodpgjjgaddkeaaGreatDoorPk15
set_option maxHeartbeats 3200000
set_option maxRecDepth 100000
set_option linter.unusedVariables false
set_option linter.unusedSimpArgs false
namespace Go.Proofs.YtodpgjjgaddkeaaGreatDoor
open _root_.Go.Proofs.Tryz
section
open Go.RowKit Na
variable{α:Type}
theorem Il{w w1:World}{A:Array Value}{ta tb:TypeId}{x0 x1 x2 x3:Value}(hb:Ext ((w.alloc (.cells A ta)).alloc (.cells #[x0,x1,x2,x3] tb)) w1) :
  (∀i,w1.cell? ⟨w.heap.size,i,none⟩=A[i]?)∧(∀i,w1.cell? ⟨w.heap.size+1,i,none⟩ = #[x0,x1,x2,x3][i]?)∧(∀i,w1.frozen? ⟨w.heap.size+1,i,none⟩=false)∧w.heap.size+1<w1.heap.size:=by
 refine⟨λi=>?_,λi=>?_,λi=>?_,by have:=hb.size; simp at this; omega⟩
 .rw[hb.cell (p:=⟨w.heap.size,i,none⟩) (by simp; omega)]; simp[go_sem]
 .rw[hb.cell (p:=⟨w.heap.size+1,i,none⟩) Y]; simp[go_sem]
 rw[hb.frozen (p:=⟨w.heap.size+1,i,none⟩) Y]; simp[go_sem]
theorem yS(n1 n2:Bool)(s1 s2:Value)(l m:List UInt32)(w:World)(h1:aC w s1 l)(h2:aC w s2 m)(hl1:l.length<=5000000)(hl2:m.length<=5000000) :
  Calls prog 125 #[.agg #[.bool n1,s1,.bool n2,s2]] w λe w'=>∃x,e = .returned x∧dP w.heap.size w' x (nrm n1 n2 (Zk l) (Zk m))∧Ext w w':=by
 obtain⟨a1,c1,rfl⟩:=h1.shape;obtain⟨a2,c2,rfl⟩:=h2.shape;have hb0:=(aF w (.cells #[.bool n1,.slice a1 l.length c1,.bool n2,.slice a2 m.length c2] 26)).alloc Y (.cells #[.z,.sn,.z,.sn] 26);have hS:=rF n2 _ m _ (h2.below hb0) Z;have H:=azO (And.intro h1 h2);have HB0:=azO hb0;rcases aAC (Zk m)with hm | hm
 .have hN:nrm n1 n2 (Zk l) (Zk m)=(false,0,1):=by unfold nrm; rw[azQ hm]
  rw[hN];rw[hm,show pR n2 0=0 from rfl]at hS;have HS:=azO hS;clear h1 h2 hb0 hm hN hS;go_enter func125,ntmps125
  go_wp2_with fail
  refine HS.out.mono ?_;rintro e w1 ⟨rfl,hb⟩;have HX:=azO (K00 HB0.out hb);have HY:=azO (jg 0 w1 O);have HBB:=azO hb;clear hb HS;go_wp2_with fail
  refine HY.out.mono ?_;rintro e w2 ⟨x,rfl,hx,hb2⟩;obtain⟨b1,d1,b2,d2,rfl⟩:=hx.shape;obtain⟨-,r1,f1,hz⟩:=Il (K00 HBB.out hb2);obtain⟨-,-,-,hz1⟩:=Il HBB.out;have F:=azO hx;have HX2:=azO (K00 HX.out hb2);clear hx hb2 HY;go_wp2_with fail
  refine bodyPost_ret (v := .agg #[.z,.slice b1 (Ux 0).length d1,.z,.slice b2 (Ux 1).length d2]) (by simp[results,results125,go_sem,r1]) I ⟨_,I,?_,qE HX2.out Z _ _ _ _⟩;exact(F.out.Ol hz1 _ _ _ _).mono Z
 have hN:nrm n1 n2 (Zk l) (Zk m)=(lJ n1 n2 (Zk l) (Zk m),Zk l/Nat.gcd (Zk l) (Zk m),Zk m/Nat.gcd (Zk l) (Zk m)):=by unfold nrm; rw[azP Z]
 obtain⟨⟨NG,A03,A04⟩,hr⟩:∃r,nrm n1 n2 (Zk l) (Zk m)=r:=⟨_,I⟩;rw[hr];rw[hN]at hr;obtain⟨e1,hr⟩:=aCg hr;obtain⟨e2,e3⟩:=aCg hr;have E:=azO (And.intro e1 (And.intro e2 e3));clear e1 e2 e3 hr hN;have hs0:(pR n2 (Zk m)==0)=false:=by
  rw[aAh]; unfold pR; rw[azP Z]; cases n2<;>simp
 have HM:=azO hm;have HS:=azO hS;clear h1 h2 hb0 hm hS;go_enter func125,ntmps125
 go_wp2_with fail
 refine HS.out.mono ?_;rintro e w1 ⟨rfl,hb⟩;have hX:=K00 HB0.out hb;have HX:=azO hX;have hY:=Ku n1 n2 _ _ l m w1 (H.out.1.below hX) (H.out.2.below hX) HM.out hl1 hl2;rw[E.out.1,E.out.2.1,E.out.2.2]at hY;have HY:=azO hY;clear hY;have HBB:=azO hb;obtain⟨k0,-,-,-⟩:=Il hb;clear hb HS hX;go_wp2_with fail
 refine HY.out.mono ?_;rintro e w2 ⟨x,rfl,hx,hb2⟩;obtain⟨b1,d1,b2,d2,rfl⟩:=hx.shape;obtain⟨-,r1,f1,hz⟩:=Il (K00 HBB.out hb2);obtain⟨-,-,-,hz1⟩:=Il HBB.out;have F:=azO hx;have HX2:=azO (K00 HX.out hb2);clear hx hb2 HY k0;go_wp2_with fail
 refine bodyPost_ret (v := .agg #[.bool NG,.slice b1 (Ux A03).length d1,.z,.slice b2 (Ux A04).length d2]) (by simp[results,results125,go_sem,r1]) I ⟨_,I,?_,qE HX2.out Z _ _ _ _⟩;exact(F.out.Ol hz1 _ _ _ _).mono (show w.heap.size<=w1.heap.size by omega)
theorem Em(n1 n2:Bool)(s1 s2:Value)(l m:List UInt32)(w:World)(h1:aC w s1 l)(h2:aC w s2 m) :
  Calls prog 241 #[.agg #[.bool n1,s1],.agg #[.bool n2,s2]] w λe w'=>e = .returned (.bool (n1==n2&&l==m))∧Ext w w':=by
 obtain⟨a1,c1,rfl⟩:=h1.shape;obtain⟨a2,c2,rfl⟩:=h2.shape;have hl1:=h1.len;have hl2:=h2.len;unfold maxLen at hl1 hl2;have HB0:=azO ((aF w (.cells #[.bool n1,.slice a1 l.length c1] 24)).alloc Y (.cells #[.bool n2,.slice a2 m.length c2] 24));have H1:=azO h1;have H2:=azO h2;clear h1 h2;by_cases hn:n1=n2
 .subst hn;by_cases hl:l.length=m.length
  .have HL:=azO hl;obtain⟨W,hW⟩:∃W,((w.alloc (.cells #[.bool n1,.slice a1 l.length c1] 24)).alloc (.cells #[.bool n1,.slice a2 m.length c2] 24))=W:=⟨_,I⟩;have hK:∀w1,Ext W w1->w1.cell? ⟨w.heap.size,1,none⟩=some (.slice a1 l.length c1)∧w1.cell? ⟨w.heap.size+1,1,none⟩=some (.slice a2 m.length c2):=by
    intro w1 hb;subst hW;constructor
    .rw[hb.cell (p:=⟨w.heap.size,1,none⟩) (by simp; omega)]; simp[go_sem]
    rw[hb.cell (p:=⟨w.heap.size+1,1,none⟩) Y]; simp[go_sem]
   have HK:=azO hK;rw[hW]at HB0;have HW:=azO hW;have hne:((l.length:Int) != (m.length:Int))=false:=by rw[bne_eq_false_iff_eq]; omega
   have hml:m.length<=l.length:=aCm hl.symm;have hlm:l.length<=m.length:=aCm hl;clear hl hK hW;cases n1;all_goals
    go_enter func241,ntmps241
    go_wp2_with fail
    rw[HW.out]
    clear hne
    go_loopw [5] (λi wr=>∃k:Nat,i = .i k∧k<=l.length∧l.take k=m.take k∧Ext W wr) (λi _=>l.length-(intOf i).toNat)
    case atStart=>exact⟨0,I,azZ _,I,aAe _ _⟩
    case round =>
     obtain⟨k,rfl,hk,ht,hbel⟩:=hrel
     have HT:=azO ht
     clear ht
     obtain⟨q1,q2⟩:=HK.out wr hbel
     by_cases hlt:k<l.length
     .obtain⟨bx,ox,cx,hxs,hbx,hlx,hmx,hcx⟩:=dO H1.out I Z
      obtain⟨by',oy,cy,hys,hby,hly,hmy,hcy⟩:=dO H2.out I Z
      simp only[aAq]at hxs hys
      obtain⟨rfl,-,-⟩:=hxs
      obtain⟨rfl,-,-⟩:=hys
      have hkm:k<m.length:=Z
      have hb:=K00 HB0.out hbel
      have r1:wr.cell? ⟨bx,ox+k,none⟩=some (bn l[k]):=by rw[hb.cell (p:=⟨bx,ox+k,none⟩) hbx]; exact hcx k hlt
      have r2:wr.cell? ⟨by',oy+k,none⟩=some (bn m[k]):=by rw[hb.cell (p:=⟨by',oy+k,none⟩) hby]; exact hcy k hkm
      have hs1:=take_snoc l k hlt
      have hs2:=take_snoc m k hkm
      clear hcx hcy hb
      have hkI:(k:Int)<(m.length:Int):=Z
      by_cases he:l[k]=m[k]
      .have hnx:l.take (k+1)=m.take (k+1):=by rw[hs1,hs2,HT.out,he]
       rw[he]at r1
       have HN:=azO hnx
       generalize m[k]=d at *
       clear hs1 hs2 hnx he
       go_wp2_with fail
       go_quiet (fail)
       go_wp2_with fail
       go_roundw
       case rel=>exact⟨k+1,by go_num,Z,HN.out,below_drewN hbel _⟩
       case measure=>simp[intOf]; omega
      .have hx:((l[k].toNat:Int) != (m[k].toNat:Int))=true:=by
        rw[bne_iff_ne]; intro e; exact he (aBq.1 Z)
       have hr:l≠m:=λe=>he (by subst e; rfl)
       have HR:Hid ((l==m)=false):=aAh.2 hr
       generalize l[k]=d1 at *
       generalize m[k]=d2 at *
       clear hs1 hs2 he hr
       go_wp2_with fail
       go_quiet (fail)
       go_wp2_with fail
       go_ret
       exact⟨by rw[HR.out]; rfl,below_drewN (K00 HB0.out hbel) _⟩
     .obtain rfl:k=l.length:=by omega
      have hr:l=m:=by
       have:=HT.out
       rw[aAJ,HL.out,aAJ]at this; exact this
      have HR:Hid ((l==m)=true):=az4.2 hr
      clear hr
      go_wp2_with fail
      go_ret
      exact⟨by rw[HR.out]; rfl,K00 HB0.out hbel⟩
  have hne:((l.length:Int) != (m.length:Int))=true:=by rw[bne_iff_ne]; omega
  have hr:Hid ((n1==n1&&l==m)=false):=by
   show _=_;rw[aBB,aA1,aAh]; exact λe=>hl (by rw[e])
  clear hl;cases n1;all_goals
   go_enter func241,ntmps241
   go_wp2_with fail
   go_ret
   exact⟨by rw[hr.out]; rfl,HB0.out⟩
 have hr:Hid ((n1==n2&&l==m)=false):=by
  show _=_;rw[aAh.2 hn,aBh]
 cases n1<;>cases n2
 .exact absurd I hn
 case' true.true=>exact absurd I hn
 all_goals
  clear hn
  go_enter func241,ntmps241
  go_wp2_with fail
  go_ret
  exact⟨by rw[hr.out]; rfl,HB0.out⟩
theorem nC(v:Value)(q:Bool×Nat×Nat)(K:Nat)(w:World)(h:eX K w v q)(hK:K<=1000000) :
  Calls prog 125 #[v] w λe w'=>∃x,e = .returned x∧dP w.heap.size w' x q∧Ext w w':=by
 obtain⟨n1,s1,l1,n2,s2,l2,rfl,h1,h2,h3,h4,rfl⟩:=h;exact yS n1 n2 s1 s2 l1 l2 w h1 h2 Z Z
set_option maxRecDepth 100000 in
set_option maxHeartbeats 1600000 in
theorem LG(t:bH)(w:World) :
  Calls prog 153 #[t.v] w λe w'=>∃b,e = .returned (.slice (some ⟨b,0,none⟩) 6 6)∧w.heap.size<=b∧Bx w' b t.cells.toArray∧Ext w w':=by
 skip;refine azp func153 ntmps153 λS=>azo S λu b2 E3 hb4 S=>adr S 13 [] [.mem 0 0,.mem 0 4,.mem 0 8,.mem 0 12,.mem 0 16,.mem 0 20] λS=>azo S λu b6 E7 hb8 S=>apB S (.slice (some ⟨b6,0,none⟩) 6 6) (λS=>?_);exact⟨b6,I,S.old 0,S.kK 0,S.E⟩
end
section
open Go.RowKit Na
variable{α:Type}{K:Nat}
def bJ.same(r s:bJ):Bool:=(r.n1==s.n1&&r.l1==s.l1)&&(r.n2==s.n2&&r.l2==s.l2)
def bH.same(t u:bH):Bool:=t.a.same u.a&&(t.b.same u.b&&(t.c.same u.c&&(t.d.same u.d&&(t.e.same u.e&&t.f.same u.f))))
def bJ.Is(r:bJ)(q:Bool×Nat×Nat):Prop:=r.n1=q.1∧r.l1=Ux q.2.1∧r.n2=false∧r.l2=Ux q.2.2
def bH.Is(t:bH)(Q:Q6):Prop:=t.a.Is Q.a∧t.b.Is Q.b∧t.c.Is Q.c∧t.d.Is Q.d∧t.e.Is Q.e∧t.f.Is Q.f
variable{w:World}{t t2:bH}{r s:bJ}{v1 v2:Value}
theorem nD{q1 q2:Bool×Nat×Nat}(h:r.Is q1)(k:s.Is q2):r.same s=decide (q1=q2):=by
 obtain⟨a,b,c⟩:=q1;obtain⟨a',b',c'⟩:=q2;obtain⟨e1,e2,e3,e4⟩:=h;obtain⟨f1,f2,f3,f4⟩:=k;have hd:∀m n:Nat,Ux m=Ux n↔m=n:=λm n=>⟨λh=>by rw[<-PV m,h,PV],λh=>by rw[h]⟩;rw[aA9];simp only[bJ.same,e1,e2,e3,e4,f1,f2,f3,f4,az7,az4,az6,azW,hd,true_and];exact⟨λh=>⟨h.1.1,h.1.2,h.2⟩,λh=>⟨⟨h.1,h.2.1⟩,h.2.2⟩⟩
def V3(w:World)(v:Value)(t:bH):Prop:=∃b,v = .slice (some ⟨b,0,none⟩) 6 6∧Bx w b t.cells.toArray
theorem V3.ext{w w':World}{v:Value}{t:bH}(h:V3 w v t)(hE:Ext w w'):V3 w' v t:=by
 obtain⟨b,e,A03⟩:=h; exact⟨b,e,A03.ext hE⟩
def RU(base:Nat)(w:World)(t:bH)(Q:Q6):Prop:=dP base w t.a.v Q.a∧dP base w t.b.v Q.b∧dP base w t.c.v Q.c∧dP base w t.d.v Q.d∧dP base w t.e.v Q.e∧dP base w t.f.v Q.f
theorem RU.ext{base:Nat}{w w':World}{t:bH}{Q:Q6}(h:RU base w t Q)(hE:Ext w w'):RU base w' t Q:=⟨h.1.ext hE,h.2.1.ext hE,h.2.2.1.ext hE,h.2.2.2.1.ext hE,h.2.2.2.2.1.ext hE,h.2.2.2.2.2.ext hE⟩
def BX(base:Nat)(w:World)(v:Value)(Q:Q6):Prop:=∃t:bH,v=t.v∧RU base w t Q
theorem BX.ext{base:Nat}{w w':World}{v:Value}{Q:Q6}(h:BX base w v Q)(hE:Ext w w'):BX base w' v Q:=by
 obtain⟨t,e,A03⟩:=h; exact⟨t,e,A03.ext hE⟩
def Q6.same(P Q:Q6):Bool:=decide (P.a=Q.a)&&(decide (P.b=Q.b)&&(decide (P.c=Q.c)&&(decide (P.d=Q.d)&&(decide (P.e=Q.e)&&decide (P.f=Q.f)))))
theorem BX.mono{b b':Nat}{w:World}{v:Value}{Q:Q6}(h:BX b w v Q)(hb:b'<=b):BX b' w v Q:=by
 obtain⟨t,e,h0,h1,h2,h3,h4,h5⟩:=h; exact⟨t,e,h0.mono hb,h1.mono hb,h2.mono hb,h3.mono hb,h4.mono hb,h5.mono hb⟩
theorem agG{u:bH}{P Q:Q6}(h:t.Is P)(k:u.Is Q):t.same u=P.same Q:=by
 unfold bH.same Q6.same;rw[nD h.1 k.1,nD h.2.1 k.2.1,nD h.2.2.1 k.2.2.1,nD h.2.2.2.1 k.2.2.2.1,nD h.2.2.2.2.1 k.2.2.2.2.1,nD h.2.2.2.2.2 k.2.2.2.2.2]
theorem V4{base:Nat}{Q:Q6}(h:RU base w t Q):∃r:bH,t.v=r.v∧r.ok w∧r.Is Q:=by
 obtain⟨h0,h1,h2,h3,h4,h5⟩:=h;obtain⟨r0,e0,a0,z0⟩:=K04 h0;obtain⟨r1,e1,a1,z1⟩:=K04 h1;obtain⟨r2,e2,a2,z2⟩:=K04 h2;obtain⟨r3,e3,a3,z3⟩:=K04 h3;obtain⟨r4,e4,a4,z4⟩:=K04 h4;obtain⟨r5,e5,a5,z5⟩:=K04 h5;refine⟨⟨r0,r1,r2,r3,r4,r5⟩,?_,⟨a0,a1,a2,a3,a4,a5⟩,z0,z1,z2,z3,z4,z5⟩;have key:∀{x y:bJ},x.v=y.v->x.cells=y.cells:=λh=>by
  unfold bJ.v at h;simp only[aBC,aBD]at h;exact h
 unfold bH.v bH.cells;rw[key e0,key e1,key e2,key e3,key e4,key e5]
theorem nG(h:r.ok w)(k:s.ok w) :
  Calls prog 201 #[r.v,s.v] w λe w'=>e = .returned (.bool (r.same s))∧Ext w w':=by
 skip;refine azp func201 ntmps201 λS=>azo S λu b2 E3 hb4 S=>azo S λu b5 E6 hb7 S=>adr S 5 [] [.mem 1 0,.mem 0 0] λS=>azB S (Em r.n1 s.n1 r.s1 s.s1 r.l1 s.l1 _ (h.1.below S.E) (k.1.below S.E)) λu E9 S=>aAQ S 8 [.mem 1 2,.mem 0 2] [(_,_,(r.n1==s.n1&&r.l1==s.l1),.bool (r.n2==s.n2&&r.l2==s.l2))] [(4,.bool ((r.n1==s.n1&&r.l1==s.l1)&&(r.n2==s.n2&&r.l2==s.l2)))] ⟨λu hC g=>Em r.n2 s.n2 r.s2 s.s2 r.l2 s.l2 _ (h.2.below (K00 S.E hC)) (k.2.below (K00 S.E hC)),G⟩ λu Qj S=>apB S (.bool ((r.n1==s.n1&&r.l1==s.l1)&&(r.n2==s.n2&&r.l2==s.l2))) (λS=>?_);exact⟨I,S.E⟩
theorem Om(h1:V3 w v1 t)(h2:V3 w v2 t2)(h:t.ok w)(k:t2.ok w) :
  Calls prog 152 #[v1,v2] w λe w'=>e = .returned (.bool (t.same t2))∧Ext w w':=by
 obtain⟨b1,rfl,X1⟩:=h1;obtain⟨b2,rfl,X2⟩:=h2;obtain⟨h0,h1,h2,h3,h4,h5⟩:=h;obtain⟨k0,k1,k2,k3,k4,k5⟩:=k;refine azp func152 ntmps152 (λS=>?_);have S:=S.view0 X1.1 (X1.range 0 24 I);have S:=S.view0 X2.1 (X2.range 0 24 I);refine azE S λS=>Sx.zun S 6 λS=>azy S λS=>azD S 10 [.mem 1 0,.mem 0 0] [(_,_,true,.bool (t.a.same t2.a))] [(26,.bool (!(t.a.same t2.a)))] ⟨λu hC g=>nG (r:=t.a) (s:=t2.a) (h0.below (K00 S.E hC)) (k0.below (K00 S.E hC)),G⟩ λu Qj S=>azm S (!(t.a.same t2.a)) (λgV S=>?_) (λgV S=>?_)
 .have g0:t.a.same t2.a=false:=by simpa using gV
  refine apB S (.z) (λS=>?_);exact⟨aN (by simp only[bH.same,g0,aA1,aBh]),S.E⟩
 refine azy S λS=>azD S 10 [.mem 1 4,.mem 0 4] [(_,_,true,.bool (t.b.same t2.b))] [(26,.bool (!(t.b.same t2.b)))] ⟨λu hC g=>nG (r:=t.b) (s:=t2.b) (h1.below (K00 S.E hC)) (k1.below (K00 S.E hC)),G⟩ λu yZ S=>azm S (!(t.b.same t2.b)) (λhc18 S=>?_) (λhc18 S=>?_)
 .have g0:t.a.same t2.a=true:=by simpa using gV
  have g1:t.b.same t2.b=false:=by simpa using hc18
  refine apB S (.z) (λS=>?_);exact⟨aN (by simp only[bH.same,g0,g1,aA1,aBh]),S.E⟩
 refine azy S λS=>azD S 10 [.mem 1 8,.mem 0 8] [(_,_,true,.bool (t.c.same t2.c))] [(26,.bool (!(t.c.same t2.c)))] ⟨λu hC g=>nG (r:=t.c) (s:=t2.c) (h2.below (K00 S.E hC)) (k2.below (K00 S.E hC)),G⟩ λu yO S=>azm S (!(t.c.same t2.c)) (λhc25 S=>?_) (λhc25 S=>?_)
 .have g0:t.a.same t2.a=true:=by simpa using gV
  have g1:t.b.same t2.b=true:=by simpa using hc18
  have g2:t.c.same t2.c=false:=by simpa using hc25
  refine apB S (.z) (λS=>?_);exact⟨aN (by simp only[bH.same,g0,g1,g2,aA1,aBh]),S.E⟩
 refine azy S λS=>azD S 10 [.mem 1 12,.mem 0 12] [(_,_,true,.bool (t.d.same t2.d))] [(26,.bool (!(t.d.same t2.d)))] ⟨λu hC g=>nG (r:=t.d) (s:=t2.d) (h3.below (K00 S.E hC)) (k3.below (K00 S.E hC)),G⟩ λu Df S=>azm S (!(t.d.same t2.d)) (λhc32 S=>?_) (λhc32 S=>?_)
 .have g0:t.a.same t2.a=true:=by simpa using gV
  have g1:t.b.same t2.b=true:=by simpa using hc18
  have g2:t.c.same t2.c=true:=by simpa using hc25
  have g3:t.d.same t2.d=false:=by simpa using hc32
  refine apB S (.z) (λS=>?_);exact⟨aN (by simp only[bH.same,g0,g1,g2,g3,aA1,aBh]),S.E⟩
 refine azy S λS=>azD S 10 [.mem 1 16,.mem 0 16] [(_,_,true,.bool (t.e.same t2.e))] [(26,.bool (!(t.e.same t2.e)))] ⟨λu hC g=>nG (r:=t.e) (s:=t2.e) (h4.below (K00 S.E hC)) (k4.below (K00 S.E hC)),G⟩ λu E38 S=>azm S (!(t.e.same t2.e)) (λhc39 S=>?_) (λhc39 S=>?_)
 .have g0:t.a.same t2.a=true:=by simpa using gV
  have g1:t.b.same t2.b=true:=by simpa using hc18
  have g2:t.c.same t2.c=true:=by simpa using hc25
  have g3:t.d.same t2.d=true:=by simpa using hc32
  have g4:t.e.same t2.e=false:=by simpa using hc39
  refine apB S (.z) (λS=>?_);exact⟨aN (by simp only[bH.same,g0,g1,g2,g3,g4,aA1,aBh]),S.E⟩
 refine azy S λS=>azD S 10 [.mem 1 20,.mem 0 20] [(_,_,true,.bool (t.f.same t2.f))] [(26,.bool (!(t.f.same t2.f)))] ⟨λu hC g=>nG (r:=t.f) (s:=t2.f) (h5.below (K00 S.E hC)) (k5.below (K00 S.E hC)),G⟩ λu E45 S=>azm S (!(t.f.same t2.f)) (λV5 S=>?_) (λV5 S=>?_)
 .have g0:t.a.same t2.a=true:=by simpa using gV
  have g1:t.b.same t2.b=true:=by simpa using hc18
  have g2:t.c.same t2.c=true:=by simpa using hc25
  have g3:t.d.same t2.d=true:=by simpa using hc32
  have g4:t.e.same t2.e=true:=by simpa using hc39
  have g5:t.f.same t2.f=false:=by simpa using V5
  refine apB S (.z) (λS=>?_);exact⟨aN (by simp only[bH.same,g0,g1,g2,g3,g4,g5,aA1,aBh]),S.E⟩
 refine azE S (λS=>?_);have g0:t.a.same t2.a=true:=by simpa using gV
 have g1:t.b.same t2.b=true:=by simpa using hc18
 have g2:t.c.same t2.c=true:=by simpa using hc25
 have g3:t.d.same t2.d=true:=by simpa using hc32
 have g4:t.e.same t2.e=true:=by simpa using hc39
 have g5:t.f.same t2.f=true:=by simpa using V5
 refine apB S (.bool true) (λS=>?_);exact⟨aN (by simp only[bH.same,g0,g1,g2,g3,g4,g5,aA1,aBh]),S.E⟩
theorem Eo(v:Value)(Q:Q6)(K:Nat)(w:World)(h:mF K w v Q)(hK1:1<=K)(hK:K<=10000) :
  Calls prog 106 #[v] w λe w'=>∃x,e = .returned x∧BX w.heap.size w' x Q∧Ext w w':=by
 have hq:=h;obtain⟨nr0,nr1,nr2,nr3,nr4,nr5⟩:=h.nrm;obtain⟨ln0,ln1,ln2,ln3,ln4,ln5⟩:=h.len hK1;obtain⟨t,rfl,h0,h1,h2,h3,h4,h5⟩:=h.sQ;refine azp func106 ntmps106 λS=>azs S t.cells λu b2 E3 hb4 S=>azs S Sx.za λu b5 E6 hb7 S=>Sx.jd S 18 [(5,λv w1=>dP w.heap.size w1 v Q.a),(8,λv w1=>dP w.heap.size w1 v Q.b),(11,λv w1=>dP w.heap.size w1 v Q.c),(14,λv w1=>dP w.heap.size w1 v Q.d),(17,λv w1=>dP w.heap.size w1 v Q.e),(20,λv w1=>dP w.heap.size w1 v Q.f)] (λr=>[.mem 1 0,.mem 1 4,.mem 1 8,.mem 1 12,.mem 1 16,.mem 1 20]) (λx=>[x 5,x 8,x 11,x 14,x 17,x 20]) (λx=>[(_,_,true,x 5,5),(_,_,true,x 8,8),(_,_,true,x 11,11),(_,_,true,x 14,14),(_,_,true,x 17,17),(_,_,true,x 20,20)]) [[],[],[],[],[],[]] (λx=>[(5,x 5),(8,x 8),(11,x 11),(14,x 14),(17,x 17),(20,x 20)]) ⟨λ_ _ _ k h=>h.ext k,λ_ _ _ k h=>h.ext k,λ_ _ _ k h=>h.ext k,λ_ _ _ k h=>h.ext k,λ_ _ _ k h=>h.ext k,λ_ _ _ k h=>h.ext k,G⟩ (λx=>⟨by intro u hC g F; exact(nC _ Q.a K _ (h0.below (K00 S.E hC)) Z).mono λe w2 h=>by obtain⟨y,rfl,hx,hb⟩:=h; exact⟨_,I,hx.mono ((K00 S.E hC)).size,hb⟩,by intro u hC g F; exact(nC _ Q.b K _ (h1.below (K00 S.E hC)) Z).mono λe w2 h=>by obtain⟨y,rfl,hx,hb⟩:=h; exact⟨_,I,hx.mono ((K00 S.E hC)).size,hb⟩,by intro u hC g F; exact(nC _ Q.c K _ (h2.below (K00 S.E hC)) Z).mono λe w2 h=>by obtain⟨y,rfl,hx,hb⟩:=h; exact⟨_,I,hx.mono ((K00 S.E hC)).size,hb⟩,by intro u hC g F; exact(nC _ Q.d K _ (h3.below (K00 S.E hC)) Z).mono λe w2 h=>by obtain⟨y,rfl,hx,hb⟩:=h; exact⟨_,I,hx.mono ((K00 S.E hC)).size,hb⟩,by intro u hC g F; exact(nC _ Q.e K _ (h4.below (K00 S.E hC)) Z).mono λe w2 h=>by obtain⟨y,rfl,hx,hb⟩:=h; exact⟨_,I,hx.mono ((K00 S.E hC)).size,hb⟩,by intro u hC g F; exact(nC _ Q.f K _ (h5.below (K00 S.E hC)) Z).mono λe w2 h=>by obtain⟨y,rfl,hx,hb⟩:=h; exact⟨_,I,hx.mono ((K00 S.E hC)).size,hb⟩,G⟩) (λu x E9 F S=>?_);obtain⟨F5,F8,F11,F14,QZ,F20,-⟩:=F;obtain⟨ma,ema⟩:=aA.iM F5;rw[ema]at S F5;try rw[ema]
 obtain⟨mb,emb⟩:=aA.iM F8;rw[emb]at S F8;try rw[emb]
 obtain⟨mc,emc⟩:=aA.iM F11;rw[emc]at S F11;try rw[emc]
 obtain⟨md,emd⟩:=aA.iM F14;rw[emd]at S F14;try rw[emd]
 obtain⟨me,eme⟩:=aA.iM QZ;rw[eme]at S QZ;try rw[eme]
 obtain⟨mf,emf⟩:=aA.iM F20;rw[emf]at S F20;try rw[emf]
 have UZ:=S.bx 0;refine azx S 0 (off:=0) (cs:=(ma.cells++mb.cells++mc.cells++md.cells++me.cells++mf.cells)) I (λu C10 S=>?_);have BM:=aA.dY F5 C10 UZ;have adO:=aA.dY F8 C10 UZ;have Am:=aA.dY F11 C10 UZ;have oN:=aA.dY F14 C10 UZ;have ES:=aA.dY QZ C10 UZ;have vS:=aA.dY F20 C10 UZ;refine azC S 0 I (v := .agg (ma.cells++mb.cells++mc.cells++md.cells++me.cells++mf.cells).toArray) (λS=>?_);exact⟨_,I,⟨⟨ma,mb,mc,md,me,mf⟩,I,BM,adO,Am,oN,ES,vS⟩,S.E⟩
theorem Kv(h:t.ok w)(k:t2.ok w) :
  Calls prog 105 #[t.v,t2.v] w λe w'=>e = .returned (.bool (t.same t2))∧Ext w w':=by
 skip;refine azp func105 ntmps105 λS=>azo S λu b2 E3 hb4 S=>azo S λu b5 E6 hb7 S=>Sx.jd S 5 [(6,λv w1=>V3 w1 v t),(8,λv w1=>V3 w1 v t2)] (λr=>[.mem 1 0,.mem 0 0]) (λx=>[x 6,x 8,.bool (t.same t2)]) (λx=>[(_,_,true,x 6,6),(_,_,true,x 8,8),(_,_,true,.bool (t.same t2),9)]) [[],[],[6,8]] (λx=>[(9,.bool (t.same t2))]) ⟨λ_ _ _ k h=>h.ext k,λ_ _ _ k h=>h.ext k,G⟩ (λx=>⟨by intro u hC g F; exact(LG t _).mono λe w2 h=>by obtain⟨b,rfl,hb0,A03,hb⟩:=h; exact⟨_,I,⟨b,I,A03⟩,hb⟩,by intro u hC g F; exact(LG t2 _).mono λe w2 h=>by obtain⟨b,rfl,hb0,A03,hb⟩:=h; exact⟨_,I,⟨b,I,A03⟩,hb⟩,by intro u hC g F; obtain⟨F6,F8,-⟩:=F; exact(Om F6 F8 (h.below (K00 S.E hC)) (k.below (K00 S.E hC))).mono λe w2 h=>⟨_,h.1,I,h.2⟩,G⟩) (λu x E9 F S=>?_);obtain⟨F6,F8,-⟩:=F;refine apB S (.bool (t.same t2)) (λS=>?_);exact⟨I,S.E⟩
theorem RV{n1 n2:Nat}{P Q:Q6}(h:BX n1 w v1 P)(k:BX n2 w v2 Q) :
  Calls prog 105 #[v1,v2] w λe w'=>e = .returned (.bool (P.same Q))∧Ext w w':=by
 obtain⟨t,rfl,h⟩:=h;obtain⟨t2,rfl,k⟩:=k;obtain⟨r,e,ho,hi⟩:=V4 h;obtain⟨s,e2,ko,ki⟩:=V4 k;rw[e,e2];exact(Kv ho ko).mono λ_ _ h=>⟨h.1.trans (aN (agG hi ki)),h.2⟩
theorem Bl{P Q:Q6}(h:mF K w t.v P)(k:mF K w t2.v Q)(hK1:1<=K)(hK:K<=10000) :
  Calls prog 64 #[t.v,t2.v] w λe w'=>e = .returned (.bool (P.same Q))∧Ext w w':=by
 skip;refine azp func64 ntmps64 λS=>azo S λu b2 E3 hb4 S=>azo S λu b5 E6 hb7 S=>Sx.jd S 5 [(6,λv w1=>BX w.heap.size w1 v P),(8,λv w1=>BX w.heap.size w1 v Q)] (λr=>[.mem 1 0,.mem 0 0]) (λx=>[x 6,x 8,.bool (P.same Q)]) (λx=>[(_,_,true,x 6,6),(_,_,true,x 8,8),(_,_,true,.bool (P.same Q),9)]) [[],[],[6,8]] (λx=>[(9,.bool (P.same Q))]) ⟨λ_ _ _ k h=>h.ext k,λ_ _ _ k h=>h.ext k,G⟩ (λx=>⟨by intro u hC g F; exact(Eo _ P K _ (h.iL (K00 S.E hC)) hK1 hK).mono λe w2 h=>by obtain⟨y,rfl,hx,hb⟩:=h; exact⟨_,I,BX.mono hx ((K00 S.E hC)).size,hb⟩,by intro u hC g F; exact(Eo _ Q K _ (k.iL (K00 S.E hC)) hK1 hK).mono λe w2 h=>by obtain⟨y,rfl,hx,hb⟩:=h; exact⟨_,I,BX.mono hx ((K00 S.E hC)).size,hb⟩,by intro u hC g F; obtain⟨F6,F8,-⟩:=F; exact(RV F6 F8).mono λe w2 h=>⟨_,h.1,I,h.2⟩,G⟩) (λu x E9 F S=>?_);obtain⟨F6,F8,-⟩:=F;refine apB S (.bool (P.same Q)) (λS=>?_);exact⟨I,S.E⟩
end
section
theorem Le.facts{q:Bool×Nat×Nat}(h:Le q):0<q.2.2∧Nat.Coprime q.2.1 q.2.2∧(q.1=true->0<q.2.1):=by
 obtain⟨n,a,b⟩:=q;unfold Le nrm at h;simp only at h |-;split at h
 .rename_i hb;simp only[azW]at h;omega
 rename_i hb;simp only[azW]at h;obtain⟨h1,h2,h3⟩:=h;have hg:Nat.gcd a b=1:=by
  have hb':0<b:=Z
  have:=Nat.div_mul_cancel (aCe a b);rw[h3]at this;exact Nat.eq_of_mul_eq_mul_left hb' Z
 refine⟨Z,hg,λhn=>?_⟩;rw[hn]at h1;unfold lJ at h1;rw[az7]at h1;have:=h1.2;rw[hg,Nat.div_one]at this;simpa using this
theorem tC{p q:Bool×Nat×Nat}(hp:Le p)(hq:Le q):pI p q=decide (p=q):=by
 obtain⟨p1,p2,p3⟩:=hp.facts;obtain⟨q1,q2,q3⟩:=hq.facts;rw[aA9];unfold pI mD;simp only[az4,az6,Int.sign_eq_zero_iff_zero];constructor
 .intro h;obtain⟨n,a,b⟩:=p;obtain⟨m,c,d⟩:=q;simp only at *;have hz:qz (n,a,b)*(d:Int)=qz (m,c,d)*(b:Int):=by simpa using (by omega:qz (n,a,b)*(d:Int)-qz (m,c,d)*(b:Int)=0->qz (n,a,b)*(d:Int)=qz (m,c,d)*(b:Int)) h
  have habs:=az0 Int.natAbs hz;have hzv:∀(s:Bool) (x:Nat),(zv s x).natAbs=x:=by intro s x; unfold zv; split<;>simp
  unfold qz at hz habs;simp only[Int.natAbs_mul,hzv,aBS]at habs;have hbd:b∣d:=p2.symm.dvd_of_dvd_mul_left ⟨c,by rw[habs,aAw]⟩;have hdb:d∣b:=q2.symm.dvd_of_dvd_mul_left ⟨a,by rw[<-habs,aAw]⟩;obtain rfl:b=d:=Nat.dvd_antisymm hbd hdb;obtain rfl:a=c:=Nat.eq_of_mul_eq_mul_right p1 habs;have hz2:zv n a=zv m a:=Int.eq_of_mul_eq_mul_right Z hz;obtain rfl:n=m:=by
   unfold zv at hz2;cases n<;>cases m<;>simp at * <;> omega
  rfl
 intro h; rw[h]; omega
theorem K07{P Q:Q6}(hp:Bj P)(hq:Bj Q):P.same Q=P.eq Q:=by
 unfold Q6.same Q6.eq;rw[tC hp.1 hq.1,tC hp.2.1 hq.2.1,tC hp.2.2.1 hq.2.2.1,tC hp.2.2.2.1 hq.2.2.2.1,tC hp.2.2.2.2.1 hq.2.2.2.2.1,tC hp.2.2.2.2.2 hq.2.2.2.2.2]
end
section
open Go.RowKit Na
variable{α:Type}{K:Nat}
def bU(l m:List ak):Bool:=decide (l.length=m.length)&&(l.zip m).all λp=>p.1.eq p.2
variable{l m:List ak}{k:Nat}{w:World}{v u:Value}
theorem ab7(h:((l.length:Int) != (m.length:Int))=true):false=bU l m:=by
 have:l.length≠m.length:=λe=>by rw[e]at h; simp at h
 simp[bU,this]
theorem X4(hk:l.length<=k)(h:l.length=m.length)(hR:((l.zip m).take k).all (λp=>p.1.eq p.2)=true):true=bU l m:=by
 rw[aAv (by simp; omega)]at hR;simp only[bU,h,hR,decide_true,Bool.and_self]
theorem Qr(h1:k<l.length)(h2:k<m.length)(hR:((l.zip m).take k).all (λp=>p.1.eq p.2)=true)(h:(!(l[k].eq m[k]))=false):((l.zip m).take (k+1)).all (λp=>p.1.eq p.2)=true:=by
 rw[aAU (by simp; omega),List.all_append,hR];simp at h;simp[h]
theorem ab8(h1:k<l.length)(h2:k<m.length)(h:(!(l[k].eq m[k]))=true):false=bU l m:=by
 symm;rw[Bool.eq_false_iff];intro e;simp only[bU,az7,aAr]at e;have:=e.2 (l[k],m[k]) (by rw[<-List.getElem_zip (h:=by simp; omega)]; exact aAl _);simp[this]at h
theorem zu{l m:List dN}(h:aJ 7 dN.cells w v l)(h':aJ 7 dN.cells w u m) :
  Calls prog 137 #[v,u] w λe w'=>e = .returned (.bool (l=m))∧Ext w w':=by
 skip;refine azp func137 ntmps137 λS=>azB S (ZG (l:=l) (m:=m) (h.below S.E) (h'.below S.E)) λu E3 S=>apB S (.bool (l=m)) (λS=>?_);exact⟨I,S.E⟩
theorem BZ(h:iV w v l)(h':iV w u m)(hf:∀p∈l,p.t.fit K)(hf':∀p∈m,p.t.fit K)(hK1:1<=K)(hK:K<=10000) :
  Calls prog 138 #[v,u,.func (.func 139) #[] #[]] w λe w'=>e = .returned (.bool (bU l m))∧Ext w w':=by
 obtain⟨a,cap,rfl⟩:=h.1.shape;obtain⟨d,cap',rfl⟩:=h'.1.shape;have hmax:l.length<=9223372036854775807:=h.1.len;refine azp func138 ntmps138 λS=>azm S (((l.length:Int)) != (m.length:Int)) (λhc4 S=>?_) (λhc4 S=>?_)
 .refine apB S (.z) (λS=>?_);exact⟨aN (ab7 hc4),S.E⟩
 refine azI S (ι:=Nat) (λp a' w'=>p<=l.length∧(((l.zip m).take p).all (λp=>p.1.eq p.2)=true)∧Sx.St w a' w' 32 [(0,.slice a l.length cap),(1,.slice d m.length cap'),(2,.func (.func 139) #[] #[]),(6,.z),(15,.slice a l.length cap),(16,.i l.length),(17,.i p)] [] []) (λp=>l.length-p) (0) (λS=>⟨azZ _,I,S.qM⟩) ?_;rintro k ac u gQ eu hI;try dsimp only at hI
 obtain⟨hk,hR,S⟩:=hI;refine azJ S λS=>azm S (decide ((k:Int)<(l.length:Int))) (λfG S=>?_) (λfG S=>?_)
 .have aaI:k<l.length:=by have:=az9 fG; omega
  obtain⟨b13,o14,rfl,x19,agH,ake,aq6⟩:=aAo h.1 (λ_=>I) (k) aaI;have S:=S.view0 ake aq6;refine adr S 3 [] [.idx k l.length,.mem 0 0] (hk:=⟨aaI,G⟩) λS=>azo S λu b21 Qm ajU S=>azq S 0 I (λu NY S=>?_);have aaJ:k<m.length:=by have:=lN hc4; have:=az9 fG; omega
  obtain⟨b26,o27,rfl,y32,agI,aq7,aq8⟩:=aAo h'.1 (λ_=>I) (k) aaJ;have S:=S.view0 aq7 aq8;refine adr S 4 [] [.idx k m.length,.mem 1 0] (hk:=⟨aaJ,G⟩) λS=>azo S λu b34 J4 ajX S=>azq S 0 I λu C37 S=>adr S 3 [] [.mem 1 0,.mem 0 0] λS=>azB S (wL (K:=K) (p:=x19) (q:=y32) ((h.2 _ (agH▸aAl aaI)).below S.E) ((h'.2 _ (agI▸aAl aaJ)).below S.E) (hf _ (agH▸aAl aaI)) (hf' _ (agI▸aAl aaJ)) hK1 hK) λu Ro S=>azm S (!(x19.eq y32)) (λV6 S=>?_) (λV6 S=>?_)
  .refine apB S (.z) (λS=>?_);exact⟨aN (ab8 aaI aaJ (by rw[agH,agI]; exact V6)),S.E⟩
  refine adr S 2 [] [.re 31 (.i (IntKind.i64.wrap ((k:Int)+1))) (.i (k+1:Nat))] (hk:=⟨azA Z,G⟩) λS=>azG S gQ (λS=>?_);exact eu _ _ (k+1) ⟨Z,(Qr aaI aaJ hR (by rw[agH,agI]; exact V6)),(S.gW 2).qM⟩ (by show _-_<_-_; omega)
 refine apB S (.bool true) (λS=>?_);exact⟨aN (X4 (by have:=aAd fG; omega) (lN hc4) hR),S.E⟩
def aj.eqP(a b:aj):Bool:=cond (((((((((((a.id) != b.id)||((a.kind) != b.kind))||((a.depth) != b.depth))||((a.aS) != b.aS))||(((a.dR.toNat:Int)) != (b.dR.toNat:Int)))||((a.blend) != b.blend))||(!(a.isolated==b.isolated)))||(!(a.dH==b.dH)))||((a.aW) != b.aW))||((a.cO) != b.cO)) (false) (((((((a.t.q.eq b.t.q)&&(decide (a.clip=b.clip)))&&(decide (a.path=b.path)))&&(bU a.fill b.fill))&&(bU a.stroke b.stroke))&&(a.style.eq b.style))&&(a.img.eq b.img))
theorem Kw{a b:aj}(h:eG K w a)(h':eG K w b) :
  Calls prog 95 #[a.v,b.v] w λe w'=>e = .returned (.bool (aj.eqP a b))∧Ext w w':=by
 skip;refine azp func95 ntmps95 λS=>azo S λu b2 E3 hb4 S=>azo S λu b5 E6 hb7 S=>adr S 69 [] [.mem 1 0,.mem 0 0,.mem 1 1,.mem 0 1,.mem 1 2,.mem 0 2,.mem 1 28,.mem 0 28,.mem 1 29,.mem 0 29,.mem 1 30,.mem 0 30,.mem 1 31,.mem 0 31,.mem 1 32,.mem 0 32,.mem 1 34,.mem 0 34,.mem 1 46,.mem 0 46] λS=>azm S (((((((((((a.id) != b.id)||((a.kind) != b.kind))||((a.depth) != b.depth))||((a.aS) != b.aS))||(((a.dR.toNat:Int)) != (b.dR.toNat:Int)))||((a.blend) != b.blend))||(!(a.isolated==b.isolated)))||(!(a.dH==b.dH)))||((a.aW) != b.aW))||((a.cO) != b.cO)) (λfG S=>?_) (λfG S=>?_)
 .have p0:=fG;refine apB S (.z) (λS=>?_);exact⟨aN (by unfold aj.eqP; simp only[p0,cond_true,cond_false]),S.E⟩
 refine adr S 4 [] [.mem 1 3,.mem 0 3] λS=>azB S (Ag a.t.v b.t.v a.t.q b.t.q K _ ((bH.toQ h.1.2.2.2.1 h.2.1).iL S.E) ((bH.toQ h'.1.2.2.2.1 h'.2.1).iL S.E) h.2.2.2.2.1 h.2.2.2.2.2) λu Dj S=>aAQ S 43 [.mem 1 27,.mem 0 27,.mem 1 33,.mem 0 33,.mem 1 35,.mem 0 35,.mem 1 42,.mem 0 42,.mem 1 36,.mem 0 36,.mem 1 43,.mem 0 43] [(_,_,(a.t.q.eq b.t.q),.bool (a.clip=b.clip)),(_,_,((a.t.q.eq b.t.q)&&(decide (a.clip=b.clip))),.bool (a.path=b.path)),(_,_,(((a.t.q.eq b.t.q)&&(decide (a.clip=b.clip)))&&(decide (a.path=b.path))),.bool (bU a.fill b.fill)),(_,_,((((a.t.q.eq b.t.q)&&(decide (a.clip=b.clip)))&&(decide (a.path=b.path)))&&(bU a.fill b.fill)),.bool (bU a.stroke b.stroke)),(_,_,(((((a.t.q.eq b.t.q)&&(decide (a.clip=b.clip)))&&(decide (a.path=b.path)))&&(bU a.fill b.fill))&&(bU a.stroke b.stroke)),.bool (a.style.eq b.style)),(_,_,((((((a.t.q.eq b.t.q)&&(decide (a.clip=b.clip)))&&(decide (a.path=b.path)))&&(bU a.fill b.fill))&&(bU a.stroke b.stroke))&&(a.style.eq b.style)),.bool (a.img.eq b.img))] [(4,.bool (((((((a.t.q.eq b.t.q)&&(decide (a.clip=b.clip)))&&(decide (a.path=b.path)))&&(bU a.fill b.fill))&&(bU a.stroke b.stroke))&&(a.style.eq b.style))&&(a.img.eq b.img)))] ⟨λu hC g=>zu (l:=a.clip) (m:=b.clip) (h.1.2.2.2.2.1.1.below (K00 S.E hC)) (h'.1.2.2.2.2.1.1.below (K00 S.E hC)),λu hC g=>zu (l:=a.path) (m:=b.path) (h.1.2.2.2.2.2.2.2.1.1.below (K00 S.E hC)) (h'.1.2.2.2.2.2.2.2.1.1.below (K00 S.E hC)),λu hC g=>BZ (l:=a.fill) (m:=b.fill) (K:=K) (h.1.2.2.2.2.2.2.2.2.2.1.below (K00 S.E hC)) (h'.1.2.2.2.2.2.2.2.2.2.1.below (K00 S.E hC)) h.2.2.1 h'.2.2.1 h.2.2.2.2.1 h.2.2.2.2.2,λu hC g=>BZ (l:=a.stroke) (m:=b.stroke) (K:=K) (h.1.2.2.2.2.2.2.2.2.2.2.2.1.below (K00 S.E hC)) (h'.1.2.2.2.2.2.2.2.2.2.2.2.1.below (K00 S.E hC)) h.2.2.2.1 h'.2.2.2.1 h.2.2.2.2.1 h.2.2.2.2.2,λu hC g=>vZ (p:=a.style) (q:=b.style) (h.1.2.2.2.2.2.2.2.2.2.2.1.below (K00 S.E hC)) (h'.1.2.2.2.2.2.2.2.2.2.2.1.below (K00 S.E hC)),λu hC g=>uD (m:=a.img) (n:=b.img) (h.1.2.2.2.2.2.2.2.2.2.2.2.2.1.below (K00 S.E hC)) (h'.1.2.2.2.2.2.2.2.2.2.2.2.2.1.below (K00 S.E hC)),G⟩ (λu yV S=>?_);have p0:=fG;refine apB S (.bool (((((((a.t.q.eq b.t.q)&&(decide (a.clip=b.clip)))&&(decide (a.path=b.path)))&&(bU a.fill b.fill))&&(bU a.stroke b.stroke))&&(a.style.eq b.style))&&(a.img.eq b.img))) (λS=>?_);exact⟨aN (by unfold aj.eqP; simp only[p0,cond_true,cond_false]),S.E⟩
