/- Walks of the reference on rational numbers: Normalize, -/
import Derived.Test.YtodpgjjgaddkeaaGreatDoorPk16
import Derived.Test.YtodpgjjgaddkeaaGreatDoorPk15
set_option maxHeartbeats 3200000
set_option maxRecDepth 100000
set_option linter.unusedVariables false
set_option linter.unusedSimpArgs false
namespace Go.Proofs.YtodpgjjgaddkeaaGreatDoor
open _root_.Go.Proofs.Tryz
section
open Go.RowKit
variable{α:Type}
theorem H9{w w1:World}{A:Array Value}{ta tb:TypeId}{x0 x1 x2 x3:Value}(hb:Ext ((w.alloc (.cells A ta)).alloc (.cells #[x0,x1,x2,x3] tb)) w1) :
  (∀i,w1.cell? ⟨w.heap.size,i,none⟩=A[i]?)∧(∀i,w1.cell? ⟨w.heap.size+1,i,none⟩ = #[x0,x1,x2,x3][i]?)∧(∀i,w1.frozen? ⟨w.heap.size+1,i,none⟩=false)∧w.heap.size+1<w1.heap.size:=by
 refine⟨fun i=>?_,fun i=>?_,fun i=>?_,by have:=hb.size; simp at this; omega⟩
 ·rw[hb.cell (p:=⟨w.heap.size,i,none⟩) (by simp; omega)]; simp[go_sem]
 ·rw[hb.cell (p:=⟨w.heap.size+1,i,none⟩) (by simp)]; simp[go_sem]
 rw[hb.frozen (p:=⟨w.heap.size+1,i,none⟩) (by simp)]; simp[go_sem]
theorem yC(n1 n2:Bool)(s1 s2:Value)(l m:List UInt32)(w:World)(h1:aC w s1 l)(h2:aC w s2 m)(hl1:l.length≤5000000)(hl2:m.length≤5000000) :
  Calls prog 125 #[.agg #[.bool n1,s1,.bool n2,s2]] w fun e w'=>∃x,e = .returned x∧dO w.heap.size w' x (nrm n1 n2 (Na.val l) (Na.val m))∧Ext w w':=by
 obtain⟨a1,c1,rfl⟩:=h1.shape;obtain⟨a2,c2,rfl⟩:=h2.shape;have hb0:=(aF w (.cells #[.bool n1,.slice a1 l.length c1,.bool n2,.slice a2 m.length c2] 26)).alloc (by simp) (.cells #[.z,.sn,.z,.sn] 26);have hS:=rE n2 _ m _ (h2.below hb0) (by omega);have H:=azF (And.intro h1 h2);have HB0:=azF hb0;rcases aAt (Na.val m)with hm | hm
 ·have hN:nrm n1 n2 (Na.val l) (Na.val m)=(false,0,1):=by unfold nrm; rw[azI hm]
  rw[hN];rw[hm,show pK n2 0=0 from rfl]at hS;have HS:=azF hS;clear h1 h2 hb0 hm hN hS;go_enter func125,ntmps125
  go_wp2_with fail
  refine HS.out.mono ?_;rintro e w1 ⟨rfl,hb⟩;have HX:=azF (Ext.trans' HB0.out hb);have HY:=azF (je 0 w1 (by decide));have HBB:=azF hb;clear hb HS;go_wp2_with fail
  refine HY.out.mono ?_;rintro e w2 ⟨x,rfl,hx,hb2⟩;obtain⟨b1,d1,b2,d2,rfl⟩:=hx.shape;obtain⟨-,r1,f1,hz⟩:=H9 (Ext.trans' HBB.out hb2);obtain⟨-,-,-,hz1⟩:=H9 HBB.out;have F:=azF hx;have HX2:=azF (Ext.trans' HX.out hb2);clear hx hb2 HY;go_wp2_with fail
  refine bodyPost_ret (v := .agg #[.z,.slice b1 (Na.au 0).length d1,.z,.slice b2 (Na.au 1).length d2]) (by simp[results,results125,go_sem,r1]) rfl ⟨_,rfl,?_,qC HX2.out (by omega) _ _ _ _⟩;exact(F.out.NV hz1 _ _ _ _).mono (by omega)
 have hN:nrm n1 n2 (Na.val l) (Na.val m)=(lC n1 n2 (Na.val l) (Na.val m),Na.val l/Nat.gcd (Na.val l) (Na.val m),Na.val m/Nat.gcd (Na.val l) (Na.val m)):=by unfold nrm; rw[azG (by omega)]
 obtain⟨⟨NG,X,Y⟩,hr⟩:∃r,nrm n1 n2 (Na.val l) (Na.val m)=r:=⟨_,rfl⟩;rw[hr];rw[hN]at hr;obtain⟨e1,hr⟩:=aBl hr;obtain⟨e2,e3⟩:=aBl hr;have E:=azF (And.intro e1 (And.intro e2 e3));clear e1 e2 e3 hr hN;have hs0:(pK n2 (Na.val m)==0)=false:=by
  rw[az8]; unfold pK; rw[azG (by omega)]; cases n2<;>simp
 have HM:=azF hm;have HS:=azF hS;clear h1 h2 hb0 hm hS;go_enter func125,ntmps125
 go_wp2_with fail
 refine HS.out.mono ?_;rintro e w1 ⟨rfl,hb⟩;have hX:=Ext.trans' HB0.out hb;have HX:=azF hX;have hY:=JV n1 n2 _ _ l m w1 (H.out.1.below hX) (H.out.2.below hX) HM.out hl1 hl2;rw[E.out.1,E.out.2.1,E.out.2.2]at hY;have HY:=azF hY;clear hY;have HBB:=azF hb;obtain⟨k0,-,-,-⟩:=H9 hb;clear hb HS hX;go_wp2_with fail
 refine HY.out.mono ?_;rintro e w2 ⟨x,rfl,hx,hb2⟩;obtain⟨b1,d1,b2,d2,rfl⟩:=hx.shape;obtain⟨-,r1,f1,hz⟩:=H9 (Ext.trans' HBB.out hb2);obtain⟨-,-,-,hz1⟩:=H9 HBB.out;have F:=azF hx;have HX2:=azF (Ext.trans' HX.out hb2);clear hx hb2 HY k0;go_wp2_with fail
 refine bodyPost_ret (v := .agg #[.bool NG,.slice b1 (Na.au X).length d1,.z,.slice b2 (Na.au Y).length d2]) (by simp[results,results125,go_sem,r1]) rfl ⟨_,rfl,?_,qC HX2.out (by omega) _ _ _ _⟩;exact(F.out.NV hz1 _ _ _ _).mono (show w.heap.size≤w1.heap.size by omega)
theorem D9(n1 n2:Bool)(s1 s2:Value)(l m:List UInt32)(w:World)(h1:aC w s1 l)(h2:aC w s2 m) :
  Calls prog 241 #[.agg #[.bool n1,s1],.agg #[.bool n2,s2]] w fun e w'=>e = .returned (.bool (n1==n2&&l==m))∧Ext w w':=by
 obtain⟨a1,c1,rfl⟩:=h1.shape;obtain⟨a2,c2,rfl⟩:=h2.shape;have hl1:=h1.len;have hl2:=h2.len;unfold maxLen at hl1 hl2;have HB0:=azF ((aF w (.cells #[.bool n1,.slice a1 l.length c1] 24)).alloc (by simp) (.cells #[.bool n2,.slice a2 m.length c2] 24));have H1:=azF h1;have H2:=azF h2;clear h1 h2;by_cases hn:n1=n2
 ·subst hn;by_cases hl:l.length=m.length
  ·have HL:=azF hl;obtain⟨W,hW⟩:∃W,((w.alloc (.cells #[.bool n1,.slice a1 l.length c1] 24)).alloc (.cells #[.bool n1,.slice a2 m.length c2] 24))=W:=⟨_,rfl⟩;have hK:∀w1,Ext W w1→w1.cell? ⟨w.heap.size,1,none⟩=some (.slice a1 l.length c1)∧w1.cell? ⟨w.heap.size+1,1,none⟩=some (.slice a2 m.length c2):=by
    intro w1 hb;subst hW;constructor
    ·rw[hb.cell (p:=⟨w.heap.size,1,none⟩) (by simp; omega)]; simp[go_sem]
    rw[hb.cell (p:=⟨w.heap.size+1,1,none⟩) (by simp)]; simp[go_sem]
   have HK:=azF hK;rw[hW]at HB0;have HW:=azF hW;have hne:((l.length:Int) != (m.length:Int))=false:=by rw[bne_eq_false_iff_eq]; omega
   have hml:m.length≤l.length:=aCb hl.symm;have hlm:l.length≤m.length:=aCb hl;clear hl hK hW;cases n1;all_goals
    go_enter func241,ntmps241
    go_wp2_with fail
    rw[HW.out]
    clear hne
    go_loopw [5] (fun i wr=>∃k:Nat,i = .i k∧k≤l.length∧l.take k=m.take k∧Ext W wr) (fun i _=>l.length-(intOf i).toNat)
    case atStart=>exact⟨0,rfl,azQ _,rfl,az5 _ _⟩
    case round =>
     obtain⟨k,rfl,hk,ht,hbel⟩:=hrel
     have HT:=azF ht
     clear ht
     obtain⟨q1,q2⟩:=HK.out wr hbel
     by_cases hlt:k<l.length
     ·obtain⟨bx,ox,cx,hxs,hbx,hlx,hmx,hcx⟩:=dN H1.out rfl (by omega)
      obtain⟨by',oy,cy,hys,hby,hly,hmy,hcy⟩:=dN H2.out rfl (by omega)
      simp only[aAg]at hxs hys
      obtain⟨rfl,-,-⟩:=hxs
      obtain⟨rfl,-,-⟩:=hys
      have hkm:k<m.length:=by omega
      have hb:=Ext.trans' HB0.out hbel
      have r1:wr.cell? ⟨bx,ox+k,none⟩=some (aX l[k]):=by rw[hb.cell (p:=⟨bx,ox+k,none⟩) hbx]; exact hcx k hlt
      have r2:wr.cell? ⟨by',oy+k,none⟩=some (aX m[k]):=by rw[hb.cell (p:=⟨by',oy+k,none⟩) hby]; exact hcy k hkm
      have hs1:=take_snoc l k hlt
      have hs2:=take_snoc m k hkm
      clear hcx hcy hb
      have hkI:(k:Int)<(m.length:Int):=by omega
      by_cases he:l[k]=m[k]
      ·have hnx:l.take (k+1)=m.take (k+1):=by rw[hs1,hs2,HT.out,he]
       rw[he]at r1
       have HN:=azF hnx
       generalize m[k]=d at *
       clear hs1 hs2 hnx he
       go_wp2_with fail
       go_quiet (fail)
       go_wp2_with fail
       go_roundw
       case rel=>exact⟨k+1,by go_num,by omega,HN.out,below_drewN hbel _⟩
       case measure=>simp[intOf]; omega
      ·have hx:((l[k].toNat:Int) != (m[k].toNat:Int))=true:=by
        rw[bne_iff_ne]; intro e; exact he (aBf.1 (by omega))
       have hr:l≠m:=fun e=>he (by subst e; rfl)
       have HR:Hid ((l==m)=false):=az8.2 hr
       generalize l[k]=d1 at *
       generalize m[k]=d2 at *
       clear hs1 hs2 he hr
       go_wp2_with fail
       go_quiet (fail)
       go_wp2_with fail
       go_ret
       exact⟨by rw[HR.out]; rfl,below_drewN (Ext.trans' HB0.out hbel) _⟩
     ·obtain rfl:k=l.length:=by omega
      have hr:l=m:=by
       have:=HT.out
       rw[aAA,HL.out,aAA]at this; exact this
      have HR:Hid ((l==m)=true):=azU.2 hr
      clear hr
      go_wp2_with fail
      go_ret
      exact⟨by rw[HR.out]; rfl,Ext.trans' HB0.out hbel⟩
  have hne:((l.length:Int) != (m.length:Int))=true:=by rw[bne_iff_ne]; omega
  have hr:Hid ((n1==n1&&l==m)=false):=by
   show _=_;rw[aBp,aAP,az8]; exact fun e=>hl (by rw[e])
  clear hl;cases n1;all_goals
   go_enter func241,ntmps241
   go_wp2_with fail
   go_ret
   exact⟨by rw[hr.out]; rfl,HB0.out⟩
 have hr:Hid ((n1==n2&&l==m)=false):=by
  show _=_;rw[az8.2 hn,aA5]
 cases n1<;>cases n2
 ·exact absurd rfl hn
 case' true.true=>exact absurd rfl hn
 all_goals
  clear hn
  go_enter func241,ntmps241
  go_wp2_with fail
  go_ret
  exact⟨by rw[hr.out]; rfl,HB0.out⟩
theorem mY(v:Value)(q:Bool×Nat×Nat)(K:Nat)(w:World)(h:eP K w v q)(hK:K≤1000000) :
  Calls prog 125 #[v] w fun e w'=>∃x,e = .returned x∧dO w.heap.size w' x q∧Ext w w':=by
 obtain⟨n1,s1,l1,n2,s2,l2,rfl,h1,h2,h3,h4,rfl⟩:=h;exact yC n1 n2 s1 s2 l1 l2 w h1 h2 (by omega) (by omega)
set_option maxRecDepth 100000 in
set_option maxHeartbeats 1600000 in
theorem La(t:bG)(w:World) :
  Calls prog 153 #[t.v] w fun e w'=>∃b,e = .returned (.slice (some ⟨b,0,none⟩) 6 6)∧w.heap.size≤b∧Bx w' b t.cells.toArray∧Ext w w':=by
 skip;refine aze func153 ntmps153 fun S=>azd S fun u b2 E3 hb4 S=>adr S 13 [] [.mem 0 0,.mem 0 4,.mem 0 8,.mem 0 12,.mem 0 16,.mem 0 20] fun S=>azd S fun u b6 E7 hb8 S=>ay9 S (.slice (some ⟨b6,0,none⟩) 6 6) (fun S=>?_);exact⟨b6,rfl,S.old 0,S.lu 0,S.E⟩
end
section
open Go.RowKit
variable{α:Type}{K:Nat}
def bI.same(r s:bI):Bool:=(r.n1==s.n1&&r.l1==s.l1)&&(r.n2==s.n2&&r.l2==s.l2)
def bG.same(t u:bG):Bool:=t.a.same u.a&&(t.b.same u.b&&(t.c.same u.c&&(t.d.same u.d&&(t.e.same u.e&&t.f.same u.f))))
def bI.Is(r:bI)(q:Bool×Nat×Nat):Prop:=r.n1=q.1∧r.l1=Na.au q.2.1∧r.n2=false∧r.l2=Na.au q.2.2
def bG.Is(t:bG)(Q:Q6):Prop:=t.a.Is Q.a∧t.b.Is Q.b∧t.c.Is Q.c∧t.d.Is Q.d∧t.e.Is Q.e∧t.f.Is Q.f
theorem mZ{r s:bI}{q1 q2:Bool×Nat×Nat}(h:r.Is q1)(k:s.Is q2):r.same s=decide (q1=q2):=by
 obtain⟨a,b,c⟩:=q1;obtain⟨a',b',c'⟩:=q2;obtain⟨e1,e2,e3,e4⟩:=h;obtain⟨f1,f2,f3,f4⟩:=k;have hd:∀m n:Nat,Na.au m=Na.au n↔m=n:=fun m n=>⟨fun h=>by rw[←Na.aB m,h,Na.aB],fun h=>by rw[h]⟩;rw[aAV];simp only[bI.same,e1,e2,e3,e4,f1,f2,f3,f4,azY,azU,azW,azP,hd,true_and];exact⟨fun h=>⟨h.1.1,h.1.2,h.2⟩,fun h=>⟨⟨h.1,h.2.1⟩,h.2.2⟩⟩
def VG(w:World)(v:Value)(t:bG):Prop:=∃b,v = .slice (some ⟨b,0,none⟩) 6 6∧Bx w b t.cells.toArray
theorem VG.ext{w w':World}{v:Value}{t:bG}(h:VG w v t)(hE:Ext w w'):VG w' v t:=by
 obtain⟨b,e,X⟩:=h; exact⟨b,e,X.ext hE⟩
def Rk(base:Nat)(w:World)(t:bG)(Q:Q6):Prop:=dO base w t.a.v Q.a∧dO base w t.b.v Q.b∧dO base w t.c.v Q.c∧dO base w t.d.v Q.d∧dO base w t.e.v Q.e∧dO base w t.f.v Q.f
theorem Rk.ext{base:Nat}{w w':World}{t:bG}{Q:Q6}(h:Rk base w t Q)(hE:Ext w w'):Rk base w' t Q:=⟨h.1.ext hE,h.2.1.ext hE,h.2.2.1.ext hE,h.2.2.2.1.ext hE,h.2.2.2.2.1.ext hE,h.2.2.2.2.2.ext hE⟩
def Bz(base:Nat)(w:World)(v:Value)(Q:Q6):Prop:=∃t:bG,v=t.v∧Rk base w t Q
theorem Bz.ext{base:Nat}{w w':World}{v:Value}{Q:Q6}(h:Bz base w v Q)(hE:Ext w w'):Bz base w' v Q:=by
 obtain⟨t,e,X⟩:=h; exact⟨t,e,X.ext hE⟩
def Q6.same(P Q:Q6):Bool:=decide (P.a=Q.a)&&(decide (P.b=Q.b)&&(decide (P.c=Q.c)&&(decide (P.d=Q.d)&&(decide (P.e=Q.e)&&decide (P.f=Q.f)))))
theorem Bz.mono{b b':Nat}{w:World}{v:Value}{Q:Q6}(h:Bz b w v Q)(hb:b'≤b):Bz b' w v Q:=by
 obtain⟨t,e,h0,h1,h2,h3,h4,h5⟩:=h; exact⟨t,e,h0.mono hb,h1.mono hb,h2.mono hb,h3.mono hb,h4.mono hb,h5.mono hb⟩
theorem agC{t u:bG}{P Q:Q6}(h:t.Is P)(k:u.Is Q):t.same u=P.same Q:=by
 unfold bG.same Q6.same;rw[mZ h.1 k.1,mZ h.2.1 k.2.1,mZ h.2.2.1 k.2.2.1,mZ h.2.2.2.1 k.2.2.2.1,mZ h.2.2.2.2.1 k.2.2.2.2.1,mZ h.2.2.2.2.2 k.2.2.2.2.2]
theorem VH{base:Nat}{w:World}{t:bG}{Q:Q6}(h:Rk base w t Q):∃r:bG,t.v=r.v∧r.ok w∧r.Is Q:=by
 obtain⟨h0,h1,h2,h3,h4,h5⟩:=h;obtain⟨r0,e0,a0,z0⟩:=aA.aan h0;obtain⟨r1,e1,a1,z1⟩:=aA.aan h1;obtain⟨r2,e2,a2,z2⟩:=aA.aan h2;obtain⟨r3,e3,a3,z3⟩:=aA.aan h3;obtain⟨r4,e4,a4,z4⟩:=aA.aan h4;obtain⟨r5,e5,a5,z5⟩:=aA.aan h5;refine⟨⟨r0,r1,r2,r3,r4,r5⟩,?_,⟨a0,a1,a2,a3,a4,a5⟩,z0,z1,z2,z3,z4,z5⟩;have key:∀{x y:bI},x.v=y.v→x.cells=y.cells:=fun h=>by
  unfold bI.v at h;simp only[aBq,aBr]at h;exact h
 unfold bG.v bG.cells;rw[key e0,key e1,key e2,key e3,key e4,key e5]
theorem ni{r s:bI}{w:World}(h:r.ok w)(k:s.ok w) :
  Calls prog 201 #[r.v,s.v] w fun e w'=>e = .returned (.bool (r.same s))∧Ext w w':=by
 skip;refine aze func201 ntmps201 fun S=>azd S fun u b2 E3 hb4 S=>azd S fun u b5 E6 hb7 S=>adr S 5 [] [.mem 1 0,.mem 0 0] fun S=>azp S (D9 r.n1 s.n1 r.s1 s.s1 r.l1 s.l1 _ (h.1.below S.E) (k.1.below S.E)) fun u E9 S=>aAG S 8 [.mem 1 2,.mem 0 2] [(_,_,(r.n1==s.n1&&r.l1==s.l1),.bool (r.n2==s.n2&&r.l2==s.l2))] [(4,.bool ((r.n1==s.n1&&r.l1==s.l1)&&(r.n2==s.n2&&r.l2==s.l2)))] ⟨fun u hC g=>D9 r.n2 s.n2 r.s2 s.s2 r.l2 s.l2 _ (h.2.below (Ext.trans' S.E hC)) (k.2.below (Ext.trans' S.E hC)),trivial⟩ fun u Uw S=>ay9 S (.bool ((r.n1==s.n1&&r.l1==s.l1)&&(r.n2==s.n2&&r.l2==s.l2))) (fun S=>?_);exact⟨rfl,S.E⟩
theorem NW{w:World}{v1 v2:Value}{t t2:bG}(h1:VG w v1 t)(h2:VG w v2 t2)(h:t.ok w)(k:t2.ok w) :
  Calls prog 152 #[v1,v2] w fun e w'=>e = .returned (.bool (t.same t2))∧Ext w w':=by
 obtain⟨b1,rfl,X1⟩:=h1;obtain⟨b2,rfl,X2⟩:=h2;obtain⟨h0,h1,h2,h3,h4,h5⟩:=h;obtain⟨k0,k1,k2,k3,k4,k5⟩:=k;refine aze func152 ntmps152 (fun S=>?_);have S:=S.view0 X1.1 (X1.range 0 24 rfl);have S:=S.view0 X2.1 (X2.range 0 24 rfl);refine azu S fun S=>Sx.Z5 S 6 fun S=>azn S fun S=>azs S 10 [.mem 1 0,.mem 0 0] [(_,_,true,.bool (t.a.same t2.a))] [(26,.bool (!(t.a.same t2.a)))] ⟨fun u hC g=>ni (r:=t.a) (s:=t2.a) (h0.below (Ext.trans' S.E hC)) (k0.below (Ext.trans' S.E hC)),trivial⟩ fun u Uw S=>azb S (!(t.a.same t2.a)) (fun gU S=>?_) (fun gU S=>?_)
 ·have g0:t.a.same t2.a=false:=by simpa using gU
  refine ay9 S (.z) (fun S=>?_);exact⟨aN (by simp only[bG.same,g0,aAP,aA5]),S.E⟩
 refine azn S fun S=>azs S 10 [.mem 1 4,.mem 0 4] [(_,_,true,.bool (t.b.same t2.b))] [(26,.bool (!(t.b.same t2.b)))] ⟨fun u hC g=>ni (r:=t.b) (s:=t2.b) (h1.below (Ext.trans' S.E hC)) (k1.below (Ext.trans' S.E hC)),trivial⟩ fun u yJ S=>azb S (!(t.b.same t2.b)) (fun hc18 S=>?_) (fun hc18 S=>?_)
 ·have g0:t.a.same t2.a=true:=by simpa using gU
  have g1:t.b.same t2.b=false:=by simpa using hc18
  refine ay9 S (.z) (fun S=>?_);exact⟨aN (by simp only[bG.same,g0,g1,aAP,aA5]),S.E⟩
 refine azn S fun S=>azs S 10 [.mem 1 8,.mem 0 8] [(_,_,true,.bool (t.c.same t2.c))] [(26,.bool (!(t.c.same t2.c)))] ⟨fun u hC g=>ni (r:=t.c) (s:=t2.c) (h2.below (Ext.trans' S.E hC)) (k2.below (Ext.trans' S.E hC)),trivial⟩ fun u Aw S=>azb S (!(t.c.same t2.c)) (fun hc25 S=>?_) (fun hc25 S=>?_)
 ·have g0:t.a.same t2.a=true:=by simpa using gU
  have g1:t.b.same t2.b=true:=by simpa using hc18
  have g2:t.c.same t2.c=false:=by simpa using hc25
  refine ay9 S (.z) (fun S=>?_);exact⟨aN (by simp only[bG.same,g0,g1,g2,aAP,aA5]),S.E⟩
 refine azn S fun S=>azs S 10 [.mem 1 12,.mem 0 12] [(_,_,true,.bool (t.d.same t2.d))] [(26,.bool (!(t.d.same t2.d)))] ⟨fun u hC g=>ni (r:=t.d) (s:=t2.d) (h3.below (Ext.trans' S.E hC)) (k3.below (Ext.trans' S.E hC)),trivial⟩ fun u CB S=>azb S (!(t.d.same t2.d)) (fun hc32 S=>?_) (fun hc32 S=>?_)
 ·have g0:t.a.same t2.a=true:=by simpa using gU
  have g1:t.b.same t2.b=true:=by simpa using hc18
  have g2:t.c.same t2.c=true:=by simpa using hc25
  have g3:t.d.same t2.d=false:=by simpa using hc32
  refine ay9 S (.z) (fun S=>?_);exact⟨aN (by simp only[bG.same,g0,g1,g2,g3,aAP,aA5]),S.E⟩
 refine azn S fun S=>azs S 10 [.mem 1 16,.mem 0 16] [(_,_,true,.bool (t.e.same t2.e))] [(26,.bool (!(t.e.same t2.e)))] ⟨fun u hC g=>ni (r:=t.e) (s:=t2.e) (h4.below (Ext.trans' S.E hC)) (k4.below (Ext.trans' S.E hC)),trivial⟩ fun u E38 S=>azb S (!(t.e.same t2.e)) (fun hc39 S=>?_) (fun hc39 S=>?_)
 ·have g0:t.a.same t2.a=true:=by simpa using gU
  have g1:t.b.same t2.b=true:=by simpa using hc18
  have g2:t.c.same t2.c=true:=by simpa using hc25
  have g3:t.d.same t2.d=true:=by simpa using hc32
  have g4:t.e.same t2.e=false:=by simpa using hc39
  refine ay9 S (.z) (fun S=>?_);exact⟨aN (by simp only[bG.same,g0,g1,g2,g3,g4,aAP,aA5]),S.E⟩
 refine azn S fun S=>azs S 10 [.mem 1 20,.mem 0 20] [(_,_,true,.bool (t.f.same t2.f))] [(26,.bool (!(t.f.same t2.f)))] ⟨fun u hC g=>ni (r:=t.f) (s:=t2.f) (h5.below (Ext.trans' S.E hC)) (k5.below (Ext.trans' S.E hC)),trivial⟩ fun u E45 S=>azb S (!(t.f.same t2.f)) (fun VI S=>?_) (fun VI S=>?_)
 ·have g0:t.a.same t2.a=true:=by simpa using gU
  have g1:t.b.same t2.b=true:=by simpa using hc18
  have g2:t.c.same t2.c=true:=by simpa using hc25
  have g3:t.d.same t2.d=true:=by simpa using hc32
  have g4:t.e.same t2.e=true:=by simpa using hc39
  have g5:t.f.same t2.f=false:=by simpa using VI
  refine ay9 S (.z) (fun S=>?_);exact⟨aN (by simp only[bG.same,g0,g1,g2,g3,g4,g5,aAP,aA5]),S.E⟩
 refine azu S (fun S=>?_);have g0:t.a.same t2.a=true:=by simpa using gU
 have g1:t.b.same t2.b=true:=by simpa using hc18
 have g2:t.c.same t2.c=true:=by simpa using hc25
 have g3:t.d.same t2.d=true:=by simpa using hc32
 have g4:t.e.same t2.e=true:=by simpa using hc39
 have g5:t.f.same t2.f=true:=by simpa using VI
 refine ay9 S (.bool true) (fun S=>?_);exact⟨aN (by simp only[bG.same,g0,g1,g2,g3,g4,g5,aAP,aA5]),S.E⟩
theorem Ea(v:Value)(Q:Q6)(K:Nat)(w:World)(h:lZ K w v Q)(hK1:1≤K)(hK:K≤10000) :
  Calls prog 106 #[v] w fun e w'=>∃x,e = .returned x∧Bz w.heap.size w' x Q∧Ext w w':=by
 have hq:=h;obtain⟨nr0,nr1,nr2,nr3,nr4,nr5⟩:=h.nrm;obtain⟨ln0,ln1,ln2,ln3,ln4,ln5⟩:=h.len hK1;obtain⟨t,rfl,h0,h1,h2,h3,h4,h5⟩:=h.sQ;refine aze func106 ntmps106 fun S=>azh S t.cells fun u b2 E3 hb4 S=>azh S Sx.za fun u b5 E6 hb7 S=>Sx.iZ S 18 [(5,fun v w1=>dO w.heap.size w1 v Q.a),(8,fun v w1=>dO w.heap.size w1 v Q.b),(11,fun v w1=>dO w.heap.size w1 v Q.c),(14,fun v w1=>dO w.heap.size w1 v Q.d),(17,fun v w1=>dO w.heap.size w1 v Q.e),(20,fun v w1=>dO w.heap.size w1 v Q.f)] (fun r=>[.mem 1 0,.mem 1 4,.mem 1 8,.mem 1 12,.mem 1 16,.mem 1 20]) (fun x=>[x 5,x 8,x 11,x 14,x 17,x 20]) (fun x=>[(_,_,true,x 5,5),(_,_,true,x 8,8),(_,_,true,x 11,11),(_,_,true,x 14,14),(_,_,true,x 17,17),(_,_,true,x 20,20)]) [[],[],[],[],[],[]] (fun x=>[(5,x 5),(8,x 8),(11,x 11),(14,x 14),(17,x 17),(20,x 20)]) ⟨fun _ _ _ k h=>h.ext k,fun _ _ _ k h=>h.ext k,fun _ _ _ k h=>h.ext k,fun _ _ _ k h=>h.ext k,fun _ _ _ k h=>h.ext k,fun _ _ _ k h=>h.ext k,trivial⟩ (fun x=>⟨by intro u hC g F; exact(mY _ Q.a K _ (h0.below (Ext.trans' S.E hC)) (by omega)).mono fun e w2 h=>by obtain⟨y,rfl,hx,hb⟩:=h; exact⟨_,rfl,hx.mono ((Ext.trans' S.E hC)).size,hb⟩,by intro u hC g F; exact(mY _ Q.b K _ (h1.below (Ext.trans' S.E hC)) (by omega)).mono fun e w2 h=>by obtain⟨y,rfl,hx,hb⟩:=h; exact⟨_,rfl,hx.mono ((Ext.trans' S.E hC)).size,hb⟩,by intro u hC g F; exact(mY _ Q.c K _ (h2.below (Ext.trans' S.E hC)) (by omega)).mono fun e w2 h=>by obtain⟨y,rfl,hx,hb⟩:=h; exact⟨_,rfl,hx.mono ((Ext.trans' S.E hC)).size,hb⟩,by intro u hC g F; exact(mY _ Q.d K _ (h3.below (Ext.trans' S.E hC)) (by omega)).mono fun e w2 h=>by obtain⟨y,rfl,hx,hb⟩:=h; exact⟨_,rfl,hx.mono ((Ext.trans' S.E hC)).size,hb⟩,by intro u hC g F; exact(mY _ Q.e K _ (h4.below (Ext.trans' S.E hC)) (by omega)).mono fun e w2 h=>by obtain⟨y,rfl,hx,hb⟩:=h; exact⟨_,rfl,hx.mono ((Ext.trans' S.E hC)).size,hb⟩,by intro u hC g F; exact(mY _ Q.f K _ (h5.below (Ext.trans' S.E hC)) (by omega)).mono fun e w2 h=>by obtain⟨y,rfl,hx,hb⟩:=h; exact⟨_,rfl,hx.mono ((Ext.trans' S.E hC)).size,hb⟩,trivial⟩) (fun u x E9 F S=>?_);obtain⟨F5,F8,F11,ZY,QF,F20,-⟩:=F;obtain⟨ma,ema⟩:=aA.iK F5;rw[ema]at S F5;try rw[ema]
 obtain⟨mb,emb⟩:=aA.iK F8;rw[emb]at S F8;try rw[emb]
 obtain⟨mc,emc⟩:=aA.iK F11;rw[emc]at S F11;try rw[emc]
 obtain⟨md,emd⟩:=aA.iK ZY;rw[emd]at S ZY;try rw[emd]
 obtain⟨me,eme⟩:=aA.iK QF;rw[eme]at S QF;try rw[eme]
 obtain⟨mf,emf⟩:=aA.iK F20;rw[emf]at S F20;try rw[emf]
 have UC:=S.bx 0;refine azm S 0 (off:=0) (cs:=(ma.cells++mb.cells++mc.cells++md.cells++me.cells++mf.cells)) rfl (fun u C10 S=>?_);have Bf:=aA.dX F5 C10 UC;have adz:=aA.dX F8 C10 UC;have zJ:=aA.dX F11 C10 UC;have oN:=aA.dX ZY C10 UC;have EI:=aA.dX QF C10 UC;have vO:=aA.dX F20 C10 UC;refine azq S 0 rfl (v := .agg (ma.cells++mb.cells++mc.cells++md.cells++me.cells++mf.cells).toArray) (fun S=>?_);exact⟨_,rfl,⟨⟨ma,mb,mc,md,me,mf⟩,rfl,Bf,adz,zJ,oN,EI,vO⟩,S.E⟩
theorem JW{w:World}{t t2:bG}(h:t.ok w)(k:t2.ok w) :
  Calls prog 105 #[t.v,t2.v] w fun e w'=>e = .returned (.bool (t.same t2))∧Ext w w':=by
 skip;refine aze func105 ntmps105 fun S=>azd S fun u b2 E3 hb4 S=>azd S fun u b5 E6 hb7 S=>Sx.iZ S 5 [(6,fun v w1=>VG w1 v t),(8,fun v w1=>VG w1 v t2)] (fun r=>[.mem 1 0,.mem 0 0]) (fun x=>[x 6,x 8,.bool (t.same t2)]) (fun x=>[(_,_,true,x 6,6),(_,_,true,x 8,8),(_,_,true,.bool (t.same t2),9)]) [[],[],[6,8]] (fun x=>[(9,.bool (t.same t2))]) ⟨fun _ _ _ k h=>h.ext k,fun _ _ _ k h=>h.ext k,trivial⟩ (fun x=>⟨by intro u hC g F; exact(La t _).mono fun e w2 h=>by obtain⟨b,rfl,hb0,X,hb⟩:=h; exact⟨_,rfl,⟨b,rfl,X⟩,hb⟩,by intro u hC g F; exact(La t2 _).mono fun e w2 h=>by obtain⟨b,rfl,hb0,X,hb⟩:=h; exact⟨_,rfl,⟨b,rfl,X⟩,hb⟩,by intro u hC g F; obtain⟨F6,F8,-⟩:=F; exact(NW F6 F8 (h.below (Ext.trans' S.E hC)) (k.below (Ext.trans' S.E hC))).mono fun e w2 h=>⟨_,h.1,rfl,h.2⟩,trivial⟩) (fun u x E9 F S=>?_);obtain⟨F6,F8,-⟩:=F;refine ay9 S (.bool (t.same t2)) (fun S=>?_);exact⟨rfl,S.E⟩
theorem Rl{w:World}{n1 n2:Nat}{v1 v2:Value}{P Q:Q6}(h:Bz n1 w v1 P)(k:Bz n2 w v2 Q) :
  Calls prog 105 #[v1,v2] w fun e w'=>e = .returned (.bool (P.same Q))∧Ext w w':=by
 obtain⟨t,rfl,h⟩:=h;obtain⟨t2,rfl,k⟩:=k;obtain⟨r,e,ho,hi⟩:=VH h;obtain⟨s,e2,ko,ki⟩:=VH k;rw[e,e2];exact(JW ho ko).mono fun _ _ h=>⟨h.1.trans (aN (agC hi ki)),h.2⟩
theorem BA{w:World}{P Q:Q6}{t t2:bG}(h:lZ K w t.v P)(k:lZ K w t2.v Q)(hK1:1≤K)(hK:K≤10000) :
  Calls prog 64 #[t.v,t2.v] w fun e w'=>e = .returned (.bool (P.same Q))∧Ext w w':=by
 skip;refine aze func64 ntmps64 fun S=>azd S fun u b2 E3 hb4 S=>azd S fun u b5 E6 hb7 S=>Sx.iZ S 5 [(6,fun v w1=>Bz w.heap.size w1 v P),(8,fun v w1=>Bz w.heap.size w1 v Q)] (fun r=>[.mem 1 0,.mem 0 0]) (fun x=>[x 6,x 8,.bool (P.same Q)]) (fun x=>[(_,_,true,x 6,6),(_,_,true,x 8,8),(_,_,true,.bool (P.same Q),9)]) [[],[],[6,8]] (fun x=>[(9,.bool (P.same Q))]) ⟨fun _ _ _ k h=>h.ext k,fun _ _ _ k h=>h.ext k,trivial⟩ (fun x=>⟨by intro u hC g F; exact(Ea _ P K _ (h.iJ (Ext.trans' S.E hC)) hK1 hK).mono fun e w2 h=>by obtain⟨y,rfl,hx,hb⟩:=h; exact⟨_,rfl,Bz.mono hx ((Ext.trans' S.E hC)).size,hb⟩,by intro u hC g F; exact(Ea _ Q K _ (k.iJ (Ext.trans' S.E hC)) hK1 hK).mono fun e w2 h=>by obtain⟨y,rfl,hx,hb⟩:=h; exact⟨_,rfl,Bz.mono hx ((Ext.trans' S.E hC)).size,hb⟩,by intro u hC g F; obtain⟨F6,F8,-⟩:=F; exact(Rl F6 F8).mono fun e w2 h=>⟨_,h.1,rfl,h.2⟩,trivial⟩) (fun u x E9 F S=>?_);obtain⟨F6,F8,-⟩:=F;refine ay9 S (.bool (P.same Q)) (fun S=>?_);exact⟨rfl,S.E⟩
end
section
theorem KL.facts{q:Bool×Nat×Nat}(h:KL q):0<q.2.2∧Nat.Coprime q.2.1 q.2.2∧(q.1=true→0<q.2.1):=by
 obtain⟨n,a,b⟩:=q;unfold KL nrm at h;simp only at h ⊢;split at h
 ·rename_i hb;simp only[azP]at h;omega
 rename_i hb;simp only[azP]at h;obtain⟨h1,h2,h3⟩:=h;have hg:Nat.gcd a b=1:=by
  have hb':0<b:=by omega
  have:=Nat.div_mul_cancel (aB2 a b);rw[h3]at this;exact Nat.eq_of_mul_eq_mul_left hb' (by omega)
 refine⟨by omega,hg,fun hn=>?_⟩;rw[hn]at h1;unfold lC at h1;rw[azY]at h1;have:=h1.2;rw[hg,Nat.div_one]at this;simpa using this
theorem tH{p q:Bool×Nat×Nat}(hp:KL p)(hq:KL q):pG p q=decide (p=q):=by
 obtain⟨p1,p2,p3⟩:=hp.facts;obtain⟨q1,q2,q3⟩:=hq.facts;rw[aAV];unfold pG lY;simp only[azU,azW,Int.sign_eq_zero_iff_zero];constructor
 ·intro h;obtain⟨n,a,b⟩:=p;obtain⟨m,c,d⟩:=q;simp only at *;have hz:qz (n,a,b)*(d:Int)=qz (m,c,d)*(b:Int):=by simpa using (by omega:qz (n,a,b)*(d:Int)-qz (m,c,d)*(b:Int)=0→qz (n,a,b)*(d:Int)=qz (m,c,d)*(b:Int)) h
  have habs:=azT Int.natAbs hz;have hzv:∀(s:Bool) (x:Nat),(zv s x).natAbs=x:=by intro s x; unfold zv; split<;>simp
  unfold qz at hz habs;simp only[Int.natAbs_mul,hzv,aBE]at habs;have hbd:b∣d:=p2.symm.dvd_of_dvd_mul_left ⟨c,by rw[habs,aAm]⟩;have hdb:d∣b:=q2.symm.dvd_of_dvd_mul_left ⟨a,by rw[←habs,aAm]⟩;obtain rfl:b=d:=Nat.dvd_antisymm hbd hdb;obtain rfl:a=c:=Nat.eq_of_mul_eq_mul_right p1 habs;have hz2:zv n a=zv m a:=Int.eq_of_mul_eq_mul_right (by omega) hz;obtain rfl:n=m:=by
   unfold zv at hz2;cases n<;>cases m<;>simp at * <;> omega
  rfl
 intro h; rw[h]; omega
theorem Q6.same_eq{P Q:Q6}(hp:Bc P)(hq:Bc Q):P.same Q=P.eq Q:=by
 unfold Q6.same Q6.eq;rw[tH hp.1 hq.1,tH hp.2.1 hq.2.1,tH hp.2.2.1 hq.2.2.1,tH hp.2.2.2.1 hq.2.2.2.1,tH hp.2.2.2.2.1 hq.2.2.2.2.1,tH hp.2.2.2.2.2 hq.2.2.2.2.2]
end
section
open Go.RowKit
variable{α:Type}{K:Nat}
def bU(l m:List ak):Bool:=decide (l.length=m.length)&&(l.zip m).all fun p=>p.1.eq p.2
theorem adA{l m:List ak}(h:((l.length:Int) != (m.length:Int))=true):false=bU l m:=by
 have:l.length≠m.length:=fun e=>by rw[e]at h; simp at h
 simp[bU,this]
theorem Yn{l m:List ak}{k:Nat}(hk:l.length≤k)(h:l.length=m.length)(hR:((l.zip m).take k).all (fun p=>p.1.eq p.2)=true):true=bU l m:=by
 rw[aAp (by simp; omega)]at hR;simp only[bU,h,hR,decide_true,Bool.and_self]
theorem Ro{l m:List ak}{k:Nat}(h1:k<l.length)(h2:k<m.length)(hR:((l.zip m).take k).all (fun p=>p.1.eq p.2)=true)(h:(!(l[k].eq m[k]))=false):((l.zip m).take (k+1)).all (fun p=>p.1.eq p.2)=true:=by
 rw[aAJ (by simp; omega),List.all_append,hR];simp at h;simp[h]
theorem adB{l m:List ak}{k:Nat}(h1:k<l.length)(h2:k<m.length)(h:(!(l[k].eq m[k]))=true):false=bU l m:=by
 symm;rw[Bool.eq_false_iff];intro e;simp only[bU,azY,aAh]at e;have:=e.2 (l[k],m[k]) (by rw[←List.getElem_zip (h:=by simp; omega)]; exact aAc _);simp[this]at h
theorem yP{w:World}{v u:Value}{l m:List dM}(h:aI 7 dM.cells w v l)(h':aI 7 dM.cells w u m) :
  Calls prog 137 #[v,u] w fun e w'=>e = .returned (.bool (l=m))∧Ext w w':=by
 skip;refine aze func137 ntmps137 fun S=>azp S (Zl (l:=l) (m:=m) (h.below S.E) (h'.below S.E)) fun u E3 S=>ay9 S (.bool (l=m)) (fun S=>?_);exact⟨rfl,S.E⟩
theorem BD{w:World}{v u:Value}{l m:List ak}(h:iV w v l)(h':iV w u m)(hf:∀p∈l,p.t.fit K)(hf':∀p∈m,p.t.fit K)(hK1:1≤K)(hK:K≤10000) :
  Calls prog 138 #[v,u,.func (.func 139) #[] #[]] w fun e w'=>e = .returned (.bool (bU l m))∧Ext w w':=by
 obtain⟨a,cap,rfl⟩:=h.1.shape;obtain⟨d,cap',rfl⟩:=h'.1.shape;have hmax:l.length≤9223372036854775807:=h.1.len;refine aze func138 ntmps138 fun S=>azb S (((l.length:Int)) != (m.length:Int)) (fun hc4 S=>?_) (fun hc4 S=>?_)
 ·refine ay9 S (.z) (fun S=>?_);exact⟨aN (adA hc4),S.E⟩
 refine azw S (ι:=Nat) (fun p a' w'=>p≤l.length∧(((l.zip m).take p).all (fun p=>p.1.eq p.2)=true)∧Sx.St w a' w' 32 [(0,.slice a l.length cap),(1,.slice d m.length cap'),(2,.func (.func 139) #[] #[]),(6,.z),(15,.slice a l.length cap),(16,.i l.length),(17,.i p)] [] []) (fun p=>l.length-p) (0) (fun S=>⟨azQ _,rfl,S.sN⟩) ?_;rintro k ac u gW eH hI;try dsimp only at hI
 obtain⟨hk,hR,S⟩:=hI;refine azx S fun S=>azb S (decide ((k:Int)<(l.length:Int))) (fun fK S=>?_) (fun fK S=>?_)
 ·have aaw:k<l.length:=by have:=azZ fK; omega
  obtain⟨b13,o14,rfl,x19,agD,ajY,aqP⟩:=aAe h.1 (fun _=>rfl) (k) aaw;have S:=S.view0 ajY aqP;refine adr S 3 [] [.idx k l.length,.mem 0 0] (hk:=⟨aaw,trivial⟩) fun S=>azd S fun u b21 P5 ajH S=>azf S 0 rfl (fun u Ny S=>?_);have aax:k<m.length:=by have:=lF hc4; have:=azZ fK; omega
  obtain⟨b26,o27,rfl,y32,agE,aqQ,aqR⟩:=aAe h'.1 (fun _=>rfl) (k) aax;have S:=S.view0 aqQ aqR;refine adr S 4 [] [.idx k m.length,.mem 1 0] (hk:=⟨aax,trivial⟩) fun S=>azd S fun u b34 Fq ajK S=>azf S 0 rfl fun u C37 S=>adr S 3 [] [.mem 1 0,.mem 0 0] fun S=>azp S (wF (K:=K) (p:=x19) (q:=y32) ((h.2 _ (agD▸aAc aaw)).below S.E) ((h'.2 _ (agE▸aAc aax)).below S.E) (hf _ (agD▸aAc aaw)) (hf' _ (agE▸aAc aax)) hK1 hK) fun u UA S=>azb S (!(x19.eq y32)) (fun VJ S=>?_) (fun VJ S=>?_)
  ·refine ay9 S (.z) (fun S=>?_);exact⟨aN (adB aaw aax (by rw[agD,agE]; exact VJ)),S.E⟩
  refine adr S 2 [] [.re 31 (.i (IntKind.i64.wrap ((k:Int)+1))) (.i (k+1:Nat))] (hk:=⟨azt (by omega),trivial⟩) fun S=>azy S gW (fun S=>?_);exact eH _ _ (k+1) ⟨by omega,(Ro aaw aax hR (by rw[agD,agE]; exact VJ)),(S.iH 2).sN⟩ (by show _-_<_-_; omega)
 refine ay9 S (.bool true) (fun S=>?_);exact⟨aN (Yn (by have:=az4 fK; omega) (lF hc4) hR),S.E⟩
def aj.eqP(a b:aj):Bool:=cond (((((((((((a.id) != b.id)||((a.kind) != b.kind))||((a.depth) != b.depth))||((a.aP) != b.aP))||(((a.dQ.toNat:Int)) != (b.dQ.toNat:Int)))||((a.blend) != b.blend))||(!(a.isolated==b.isolated)))||(!(a.dF==b.dF)))||((a.aT) != b.aT))||((a.cZ) != b.cZ)) (false) (((((((a.t.q.eq b.t.q)&&(decide (a.clip=b.clip)))&&(decide (a.path=b.path)))&&(bU a.fill b.fill))&&(bU a.stroke b.stroke))&&(a.style.eq b.style))&&(a.img.eq b.img))
theorem JX{w:World}{a b:aj}(h:eu K w a)(h':eu K w b) :
  Calls prog 95 #[a.v,b.v] w fun e w'=>e = .returned (.bool (aj.eqP a b))∧Ext w w':=by
 skip;refine aze func95 ntmps95 fun S=>azd S fun u b2 E3 hb4 S=>azd S fun u b5 E6 hb7 S=>adr S 69 [] [.mem 1 0,.mem 0 0,.mem 1 1,.mem 0 1,.mem 1 2,.mem 0 2,.mem 1 28,.mem 0 28,.mem 1 29,.mem 0 29,.mem 1 30,.mem 0 30,.mem 1 31,.mem 0 31,.mem 1 32,.mem 0 32,.mem 1 34,.mem 0 34,.mem 1 46,.mem 0 46] fun S=>azb S (((((((((((a.id) != b.id)||((a.kind) != b.kind))||((a.depth) != b.depth))||((a.aP) != b.aP))||(((a.dQ.toNat:Int)) != (b.dQ.toNat:Int)))||((a.blend) != b.blend))||(!(a.isolated==b.isolated)))||(!(a.dF==b.dF)))||((a.aT) != b.aT))||((a.cZ) != b.cZ)) (fun fK S=>?_) (fun fK S=>?_)
 ·have p0:=fK;refine ay9 S (.z) (fun S=>?_);exact⟨aN (by unfold aj.eqP; simp only[p0,cond_true,cond_false]),S.E⟩
 refine adr S 4 [] [.mem 1 3,.mem 0 3] fun S=>azp S (zB a.t.v b.t.v a.t.q b.t.q K _ ((bG.toQ h.1.2.2.2.1 h.2.1).iJ S.E) ((bG.toQ h'.1.2.2.2.1 h'.2.1).iJ S.E) h.2.2.2.2.1 h.2.2.2.2.2) fun u EM S=>aAG S 43 [.mem 1 27,.mem 0 27,.mem 1 33,.mem 0 33,.mem 1 35,.mem 0 35,.mem 1 42,.mem 0 42,.mem 1 36,.mem 0 36,.mem 1 43,.mem 0 43] [(_,_,(a.t.q.eq b.t.q),.bool (a.clip=b.clip)),(_,_,((a.t.q.eq b.t.q)&&(decide (a.clip=b.clip))),.bool (a.path=b.path)),(_,_,(((a.t.q.eq b.t.q)&&(decide (a.clip=b.clip)))&&(decide (a.path=b.path))),.bool (bU a.fill b.fill)),(_,_,((((a.t.q.eq b.t.q)&&(decide (a.clip=b.clip)))&&(decide (a.path=b.path)))&&(bU a.fill b.fill)),.bool (bU a.stroke b.stroke)),(_,_,(((((a.t.q.eq b.t.q)&&(decide (a.clip=b.clip)))&&(decide (a.path=b.path)))&&(bU a.fill b.fill))&&(bU a.stroke b.stroke)),.bool (a.style.eq b.style)),(_,_,((((((a.t.q.eq b.t.q)&&(decide (a.clip=b.clip)))&&(decide (a.path=b.path)))&&(bU a.fill b.fill))&&(bU a.stroke b.stroke))&&(a.style.eq b.style)),.bool (a.img.eq b.img))] [(4,.bool (((((((a.t.q.eq b.t.q)&&(decide (a.clip=b.clip)))&&(decide (a.path=b.path)))&&(bU a.fill b.fill))&&(bU a.stroke b.stroke))&&(a.style.eq b.style))&&(a.img.eq b.img)))] ⟨fun u hC g=>yP (l:=a.clip) (m:=b.clip) (h.1.2.2.2.2.1.1.below (Ext.trans' S.E hC)) (h'.1.2.2.2.2.1.1.below (Ext.trans' S.E hC)),fun u hC g=>yP (l:=a.path) (m:=b.path) (h.1.2.2.2.2.2.2.2.1.1.below (Ext.trans' S.E hC)) (h'.1.2.2.2.2.2.2.2.1.1.below (Ext.trans' S.E hC)),fun u hC g=>BD (l:=a.fill) (m:=b.fill) (K:=K) (h.1.2.2.2.2.2.2.2.2.2.1.below (Ext.trans' S.E hC)) (h'.1.2.2.2.2.2.2.2.2.2.1.below (Ext.trans' S.E hC)) h.2.2.1 h'.2.2.1 h.2.2.2.2.1 h.2.2.2.2.2,fun u hC g=>BD (l:=a.stroke) (m:=b.stroke) (K:=K) (h.1.2.2.2.2.2.2.2.2.2.2.2.1.below (Ext.trans' S.E hC)) (h'.1.2.2.2.2.2.2.2.2.2.2.2.1.below (Ext.trans' S.E hC)) h.2.2.2.1 h'.2.2.2.1 h.2.2.2.2.1 h.2.2.2.2.2,fun u hC g=>vV (p:=a.style) (q:=b.style) (h.1.2.2.2.2.2.2.2.2.2.2.1.below (Ext.trans' S.E hC)) (h'.1.2.2.2.2.2.2.2.2.2.2.1.below (Ext.trans' S.E hC)),fun u hC g=>uz (m:=a.img) (n:=b.img) (h.1.2.2.2.2.2.2.2.2.2.2.2.2.1.below (Ext.trans' S.E hC)) (h'.1.2.2.2.2.2.2.2.2.2.2.2.2.1.below (Ext.trans' S.E hC)),trivial⟩ (fun u yG S=>?_);have p0:=fK;refine ay9 S (.bool (((((((a.t.q.eq b.t.q)&&(decide (a.clip=b.clip)))&&(decide (a.path=b.path)))&&(bU a.fill b.fill))&&(bU a.stroke b.stroke))&&(a.style.eq b.style))&&(a.img.eq b.img))) (fun S=>?_);exact⟨aN (by unfold aj.eqP; simp only[p0,cond_true,cond_false]),S.E⟩
end
end Go.Proofs.YtodpgjjgaddkeaaGreatDoor
