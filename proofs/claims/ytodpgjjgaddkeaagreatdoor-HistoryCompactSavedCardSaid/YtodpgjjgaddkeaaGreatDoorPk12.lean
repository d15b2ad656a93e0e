/- Walks of the reference on -/
import Derived.Test.YtodpgjjgaddkeaaGreatDoorPk11
set_option maxRecDepth 100000
set_option maxHeartbeats 9999999
open Go renaming World->VO,Value->aaT,Calls->abB
set_option linter.unusedVariables false
set_option linter.unusedSimpArgs false
namespace Go.Proofs.Vy
open _root_.Go.Proofs.Tryz
section
open Go.RowKit Na
variable{α:Type}
abbrev I7{w w1:VO}{A:Array aaT}{ta tb:TypeId}{x0 x1 J S:aaT}(D:Ext ((w.alloc (.cells A ta)).alloc (.cells #[x0,x1,J,S] tb)) w1) :
  (∀i,w1.cell? ⟨w.heap.size,i,none⟩=A[i]?)∧(∀i,w1.cell? ⟨w.heap.size+1,i,none⟩ = #[x0,x1,J,S][i]?)∧(∀i,w1.frozen? ⟨w.heap.size+1,i,none⟩=false)∧w.heap.size+1<w1.heap.size:=by
 refine⟨λi=>?_,λi=>?_,λi=>?_,by have:=D.size; simp at this; omega⟩
 .rw[D.cell (p:=⟨w.heap.size,i,none⟩) (by simp; omega)]; simp[go_sem]
 .rw[D.cell (p:=⟨w.heap.size+1,i,none⟩) Y]; simp[go_sem]
 rw[D.frozen (p:=⟨w.heap.size+1,i,none⟩) Y]; simp[go_sem]
abbrev zW(n1 J:Bool)(s1 s2:aaT)(l m:List UInt32)(w:VO)(h1:aG w s1 l)(h2:aG w s2 m)(ag:l.length<=5000000)(ah:m.length<=5000000) :
  abB prog 125 #[.agg #[.b n1,s1,.b J,s2]] w λe w'=>∃x,e = .R x∧dQ w.heap.size w' x (nrm n1 J (TP l) (TP m))∧Ext w w':=by
 obtain⟨a1,c1,rfl⟩:=h1.shape;obtain⟨a2,c2,rfl⟩:=h2.shape;have aa:=(aH w (.cells #[.b n1,.s a1 l.length c1,.b J,.s a2 m.length c2] 26)).alloc Y (.cells #[.z,.sn,.z,.sn] 26);have hS:=rU J _ m _ (h2.below aa) Z;have H:=aC8 (And.intro h1 h2);have ae:=aC8 aa;rcases aD0 (TP m)with hm | hm
 .have hN:nrm n1 J (TP l) (TP m)=(false,0,1):=by unfold nrm; rw[aDb hm]
  rw[hN];rw[hm,show qE J 0=0 from rfl]at hS;have HS:=aC8 hS;clear h1 h2 aa hm hN hS;go_enter func125,ntmps125
  go_wp2_with fail
  refine HS.out.mono ?_;rintro e w1 ⟨rfl,hb⟩;have HX:=aC8 (K00 ae.out hb);have HY:=aC8 (jD 0 w1 O);have S:=aC8 hb;clear hb HS;go_wp2_with fail
  refine HY.out.mono ?_;rintro e w2 ⟨x,rfl,hx,D⟩;obtain⟨b1,d1,b2,d2,rfl⟩:=hx.shape;obtain⟨-,r1,f1,hz⟩:=I7 (K00 S.out D);obtain⟨-,-,-,ac⟩:=I7 S.out;have F:=aC8 hx;have ab:=aC8 (K00 HX.out D);clear hx D HY;go_wp2_with fail
  refine bodyPost_ret (v := .agg #[.z,.s b1 (Ro 0).length d1,.z,.s b2 (Ro 1).length d2]) (by simp[results,results125,go_sem,r1]) I ⟨_,I,?_,qW ab.out Z _ _ _ _⟩;exact(F.out.PW ac _ _ _ _).mono Z
 have hN:nrm n1 J (TP l) (TP m)=(l9 n1 J (TP l) (TP m),TP l/Nat.gcd (TP l) (TP m),TP m/Nat.gcd (TP l) (TP m)):=by unfold nrm; rw[aC9 Z]
 obtain⟨⟨NG,A03,af⟩,hr⟩:∃r,nrm n1 J (TP l) (TP m)=r:=⟨_,I⟩;rw[hr];rw[hN]at hr;obtain⟨e1,hr⟩:=aFt hr;obtain⟨e2,e3⟩:=aFt hr;have E:=aC8 (And.intro e1 (And.intro e2 e3));clear e1 e2 e3 hr hN;have ai:(qE J (TP m)==0)=false:=by
  rw[aDH]; unfold qE; rw[aC9 Z]; cases J<;>simp
 have HM:=aC8 hm;have HS:=aC8 hS;clear h1 h2 aa hm hS;go_enter func125,ntmps125
 go_wp2_with fail
 refine HS.out.mono ?_;rintro e w1 ⟨rfl,hb⟩;have hX:=K00 ae.out hb;have HX:=aC8 hX;have hY:=LV n1 J _ _ l m w1 (H.out.1.below hX) (H.out.2.below hX) HM.out ag ah;rw[E.out.1,E.out.2.1,E.out.2.2]at hY;have HY:=aC8 hY;clear hY;have S:=aC8 hb;obtain⟨J,-,-,-⟩:=I7 hb;clear hb HS hX;go_wp2_with fail
 refine HY.out.mono ?_;rintro e w2 ⟨x,rfl,hx,D⟩;obtain⟨b1,d1,b2,d2,rfl⟩:=hx.shape;obtain⟨-,r1,f1,hz⟩:=I7 (K00 S.out D);obtain⟨-,-,-,ac⟩:=I7 S.out;have F:=aC8 hx;have ab:=aC8 (K00 HX.out D);clear hx D HY J;go_wp2_with fail
 refine bodyPost_ret (v := .agg #[.b NG,.s b1 (Ro A03).length d1,.z,.s b2 (Ro af).length d2]) (by simp[results,results125,go_sem,r1]) I ⟨_,I,?_,qW ab.out Z _ _ _ _⟩;exact(F.out.PW ac _ _ _ _).mono (show w.heap.size<=w1.heap.size by omega)
abbrev Fv(n1 n2:Bool)(s1 s2:aaT)(l m:List UInt32)(w:VO)(D:aG w s1 l)(S:aG w s2 m) :
  abB prog 241 #[.agg #[.b n1,s1],.agg #[.b n2,s2]] w (VH w (.b (n1==n2&&l==m))):=by
 obtain⟨a1,c1,rfl⟩:=D.shape;obtain⟨a2,c2,rfl⟩:=S.shape;have J:=D.len;have ai:=S.len;unfold maxLen at J ai;have J:=aC8 ((aH w (.cells #[.b n1,.s a1 l.length c1] 24)).alloc Y (.cells #[.b n2,.s a2 m.length c2] 24));have H1:=aC8 D;have H2:=aC8 S;clear D S;by_cases hn:n1=n2
 .subst hn;by_cases hl:l.length=m.length
  .have HL:=aC8 hl;obtain⟨W,D⟩:∃W,((w.alloc (.cells #[.b n1,.s a1 l.length c1] 24)).alloc (.cells #[.b n1,.s a2 m.length c2] 24))=W:=⟨_,I⟩;have hK:∀w1,Ext W w1->w1.cell? ⟨w.heap.size,1,none⟩=some (.s a1 l.length c1)∧w1.cell? ⟨w.heap.size+1,1,none⟩=some (.s a2 m.length c2):=by
    intro w1 S;subst D;constructor
    .rw[S.cell (p:=⟨w.heap.size,1,none⟩) (by simp; omega)]; simp[go_sem]
    rw[S.cell (p:=⟨w.heap.size+1,1,none⟩) Y]; simp[go_sem]
   have HK:=aC8 hK;rw[D]at J;have HW:=aC8 D;have ac:((l.length:Int) != (m.length:Int))=false:=by rw[bne_eq_false_iff_eq]; omega
   have am:m.length<=l.length:=aFI hl.symm;have an:l.length<=m.length:=aFI hl;clear hl hK D;cases n1;all_goals
    go_enter func241,ntmps241
    go_wp2_with fail
    rw[HW.out]
    clear ac
    go_loopw [5] (λi wr=>∃k:Nat,i = .i k∧k<=l.length∧l.take k=m.take k∧Ext W wr) (λi _=>l.length-(intOf i).toNat)
    case atStart=>exact⟨0,I,aDl _,I,aDC _ _⟩
    case round =>
     obtain⟨k,rfl,hk,ht,D⟩:=hrel
     have HT:=aC8 ht
     clear ht
     obtain⟨q1,q2⟩:=HK.out wr D
     by_cases hlt:k<l.length
     .obtain⟨bx,ox,cx,hxs,hbx,hlx,hmx,hcx⟩:=dP H1.out I Z
      obtain⟨af,oy,cy,ag,al,ao,ap,ah⟩:=dP H2.out I Z
      simp only[aDO]at hxs ag
      obtain⟨rfl,-,-⟩:=hxs
      obtain⟨rfl,-,-⟩:=ag
      have ae:k<m.length:=Z
      have S:=K00 J.out D
      have r1:wr.cell? ⟨bx,ox+k,none⟩=some (bC l[k]):=by rw[S.cell (p:=⟨bx,ox+k,none⟩) hbx]; exact hcx k hlt
      have r2:wr.cell? ⟨af,oy+k,none⟩=some (bC m[k]):=by rw[S.cell (p:=⟨af,oy+k,none⟩) al]; exact ah k ae
      have aa:=take_snoc l k hlt
      have ab:=take_snoc m k ae
      clear hcx ah S
      have S:(k:Int)<(m.length:Int):=Z
      by_cases he:l[k]=m[k]
      .have hnx:l.take (k+1)=m.take (k+1):=by rw[aa,ab,HT.out,he]
       rw[he]at r1
       have S:=aC8 hnx
       generalize m[k]=d at *
       clear aa ab hnx he
       go_wp2_with fail
       go_quiet (fail)
       go_wp2_with fail
       go_roundw
       case rel=>exact⟨k+1,by go_num,Z,S.out,below_drewN D _⟩
       case measure=>simp[intOf]; omega
      .have hx:((l[k].toNat:Int) != (m[k].toNat:Int))=true:=by
        rw[bne_iff_ne]; intro e; exact he (aET.1 Z)
       have S:l≠m:=λe=>he (by subst e; rfl)
       have HR:Hid ((l==m)=false):=aDH.2 S
       generalize l[k]=d1 at *
       generalize m[k]=d2 at *
       clear aa ab he S
       go_wp2_with fail
       go_quiet (fail)
       go_wp2_with fail
       go_ret
       exact⟨by rw[HR.out]; rfl,below_drewN (K00 J.out D) _⟩
     .obtain rfl:k=l.length:=by omega
      have S:l=m:=by
       have:=HT.out
       rw[aEc,HL.out,aEc]at this; exact this
      have HR:Hid ((l==m)=true):=aDu.2 S
      clear S
      go_wp2_with fail
      go_ret
      exact⟨by rw[HR.out]; rfl,K00 J.out D⟩
  have ac:((l.length:Int) != (m.length:Int))=true:=by rw[bne_iff_ne]; omega
  have S:Hid ((n1==n1&&l==m)=false):=by
   show _=_;rw[aE3,aEv,aDH]; exact λe=>hl (by rw[e])
  clear hl;cases n1;all_goals
   go_enter func241,ntmps241
   go_wp2_with fail
   go_ret
   exact⟨by rw[S.out]; rfl,J.out⟩
 have S:Hid ((n1==n2&&l==m)=false):=by
  show _=_;rw[aDH.2 hn,aEK]
 cases n1<;>cases n2
 .exact absurd I hn
 case' true.true=>exact absurd I hn
 all_goals
  clear hn
  go_enter func241,ntmps241
  go_wp2_with fail
  go_ret
  exact⟨by rw[S.out]; rfl,J.out⟩
abbrev nO(v:aaT)(q:Bool×Nat×Nat)(K:Nat)(w:VO)(h:fA K w v q)(D:K<=1000000) :
  abB prog 125 #[v] w λe w'=>∃x,e = .R x∧dQ w.heap.size w' x q∧Ext w w':=by
 obtain⟨n1,s1,D,J,s2,S,rfl,h1,h2,h3,h4,rfl⟩:=h;exact zW n1 J s1 s2 D S w h1 h2 Z Z
abbrev NM(t:bG)(w:VO) :
  abB prog 153 #[t.v] w λe w'=>∃b,e = .R (.s (some ⟨b,0,none⟩) 6 6)∧w.heap.size<=b∧Bx w' b t.cells.toArray∧Ext w w':=by
 skip;refine aCG func153 ntmps153 λS=>aCF S λu b2 J D S=>adr S 13 [] [.M 0 0,.M 0 4,.M 0 8,.M 0 12,.M 0 16,.M 0 20] λS=>aCF S λu b6 J D S=>aCB S (.s (some ⟨b6,0,none⟩) 6 6) (λS=>?_);exact⟨b6,I,S.old 0,S.kD 0,S.E⟩
end
section
open Go.RowKit Na
variable{α:Type}{K:Nat}
def bM.same(r s:bM):Bool:=(r.n1==s.n1&&r.l1==s.l1)&&(r.n2==s.n2&&r.l2==s.l2)
def bG.same(t u:bG):Bool:=t.a.same u.a&&(t.b.same u.b&&(t.c.same u.c&&(t.d.same u.d&&(t.e.same u.e&&t.f.same u.f))))
def bM.Is(r:bM)(q:Bool×Nat×Nat):Prop:=r.n1=q.1∧r.l1=Ro q.2.1∧r.n2=false∧r.l2=Ro q.2.2
def bG.Is(t:bG)(Q:Q6):Prop:=t.a.Is Q.a∧t.b.Is Q.b∧t.c.Is Q.c∧t.d.Is Q.d∧t.e.Is Q.e∧t.f.Is Q.f
variable{w:VO}{t t2:bG}{r s:bM}{v1 v2:aaT}
abbrev nP{D J:Bool×Nat×Nat}(h:r.Is D)(k:s.Is J):r.same s=decide (D=J):=by
 obtain⟨a,b,c⟩:=D;obtain⟨D,b',S⟩:=J;obtain⟨D,J,S,e4⟩:=h;obtain⟨f1,f2,f3,f4⟩:=k;have hd:∀m n:Nat,Ro m=Ro n↔m=n:=λm n=>⟨λh=>by rw[<-NP m,h,NP],λh=>by rw[h]⟩;rw[aEI];simp only[bM.same,D,J,S,e4,f1,f2,f3,f4,aDt,aDu,aDv,aDm,hd,true_and];exact⟨λh=>⟨h.1.1,h.1.2,h.2⟩,λh=>⟨⟨h.1,h.2.1⟩,h.2.2⟩⟩
def XA(w:VO)(v:aaT)(t:bG):Prop:=∃b,v = .s (some ⟨b,0,none⟩) 6 6∧Bx w b t.cells.toArray
abbrev XA.ext{w w':VO}{v:aaT}{t:bG}(h:XA w v t)(D:Ext w w'):XA w' v t:=by
 obtain⟨b,e,A03⟩:=h; exact⟨b,e,A03.ext D⟩
def TF(base:Nat)(w:VO)(t:bG)(Q:Q6):Prop:=dQ base w t.a.v Q.a∧dQ base w t.b.v Q.b∧dQ base w t.c.v Q.c∧dQ base w t.d.v Q.d∧dQ base w t.e.v Q.e∧dQ base w t.f.v Q.f
abbrev TF.ext{base:Nat}{w w':VO}{t:bG}{Q:Q6}(h:TF base w t Q)(D:Ext w w'):TF base w' t Q:=⟨h.1.ext D,h.2.1.ext D,h.2.2.1.ext D,h.2.2.2.1.ext D,h.2.2.2.2.1.ext D,h.2.2.2.2.2.ext D⟩
def CZ(base:Nat)(w:VO)(v:aaT)(Q:Q6):Prop:=∃t:bG,v=t.v∧TF base w t Q
abbrev CZ.ext{base:Nat}{w w':VO}{v:aaT}{Q:Q6}(h:CZ base w v Q)(D:Ext w w'):CZ base w' v Q:=by
 obtain⟨t,e,A03⟩:=h; exact⟨t,e,A03.ext D⟩
def Q6.same(P Q:Q6):Bool:=decide (P.a=Q.a)&&(decide (P.b=Q.b)&&(decide (P.c=Q.c)&&(decide (P.d=Q.d)&&(decide (P.e=Q.e)&&decide (P.f=Q.f)))))
abbrev CZ.mono{b b':Nat}{w:VO}{v:aaT}{Q:Q6}(h:CZ b w v Q)(D:b'<=b):CZ b' w v Q:=by
 obtain⟨t,e,J,S,h2,h3,h4,h5⟩:=h; exact⟨t,e,J.mono D,S.mono D,h2.mono D,h3.mono D,h4.mono D,h5.mono D⟩
abbrev aiG{u:bG}{P Q:Q6}(h:t.Is P)(k:u.Is Q):t.same u=P.same Q:=by
 unfold bG.same Q6.same;rw[nP h.1 k.1,nP h.2.1 k.2.1,nP h.2.2.1 k.2.2.1,nP h.2.2.2.1 k.2.2.2.1,nP h.2.2.2.2.1 k.2.2.2.2.1,nP h.2.2.2.2.2 k.2.2.2.2.2]
abbrev XB{base:Nat}{Q:Q6}(h:TF base w t Q):∃r:bG,t.v=r.v∧r.ok w∧r.Is Q:=by
 obtain⟨D,J,S,h3,h4,h5⟩:=h;obtain⟨r0,e0,a0,z0⟩:=K04 D;obtain⟨D,e1,a1,z1⟩:=K04 J;obtain⟨J,e2,a2,z2⟩:=K04 S;obtain⟨S,e3,a3,z3⟩:=K04 h3;obtain⟨r4,e4,a4,z4⟩:=K04 h4;obtain⟨r5,e5,a5,z5⟩:=K04 h5;refine⟨⟨r0,D,J,S,r4,r5⟩,?_,⟨a0,a1,a2,a3,a4,a5⟩,z0,z1,z2,z3,z4,z5⟩;have key:∀{x y:bM},x.v=y.v->x.cells=y.cells:=λh=>by
  unfold bM.v at h;simp only[aE6,aE7]at h;exact h
 unfold bG.v bG.cells;rw[key e0,key e1,key e2,key e3,key e4,key e5]
abbrev nR(h:r.ok w)(k:s.ok w) :
  abB prog 201 #[r.v,s.v] w (VH w (.b (r.same s))):=by
 skip;refine aCG func201 ntmps201 λS=>aCF S λu b2 J D S=>aCF S λu b5 J D S=>adr S 5 [] [.M 1 0,.M 0 0] λS=>aCQ S (Fv r.n1 s.n1 r.s1 s.s1 r.l1 s.l1 _ (h.1.below S.E) (k.1.below S.E)) λu D S=>aC6 S 8 [.M 1 2,.M 0 2] [(_,_,(r.n1==s.n1&&r.l1==s.l1),.b (r.n2==s.n2&&r.l2==s.l2))] [(4,.b ((r.n1==s.n1&&r.l1==s.l1)&&(r.n2==s.n2&&r.l2==s.l2)))] ⟨λu D g=>Fv r.n2 s.n2 r.s2 s.s2 r.l2 s.l2 _ (h.2.below (K00 S.E D)) (k.2.below (K00 S.E D)),G⟩ λu J S=>aCB S (.b ((r.n1==s.n1&&r.l1==s.l1)&&(r.n2==s.n2&&r.l2==s.l2))) (λS=>?_);exact⟨I,S.E⟩
abbrev PX(D:XA w v1 t)(J:XA w v2 t2)(h:t.ok w)(k:t2.ok w) :
  abB prog 152 #[v1,v2] w (VH w (.b (t.same t2))):=by
 obtain⟨b1,rfl,X1⟩:=D;obtain⟨b2,rfl,X2⟩:=J;obtain⟨h0,D,J,h3,h4,h5⟩:=h;obtain⟨k0,k1,k2,k3,k4,k5⟩:=k;refine aCG func152 ntmps152 (λS=>?_);have S:=S.view0 X1.1 (X1.range 0 24 I);have S:=S.view0 X2.1 (X2.range 0 24 I);refine aCT S λS=>Sx.ZV S 6 λS=>aCM S λS=>aCV S 10 [.M 1 0,.M 0 0] [(_,_,true,.b (t.a.same t2.a))] [(26,.b (!(t.a.same t2.a)))] ⟨λu hC g=>nR (r:=t.a) (s:=t2.a) (h0.below (K00 S.E hC)) (k0.below (K00 S.E hC)),G⟩ λu Pv S=>aCD S (!(t.a.same t2.a)) (λfJ S=>?_) (λfJ S=>?_)
 .have g0:t.a.same t2.a=false:=by simpa using fJ
  refine aCB S (.z) (λS=>?_);exact⟨aJ (by simp only[bG.same,g0,aEv,aEK]),S.E⟩
 refine aCM S λS=>aCV S 10 [.M 1 4,.M 0 4] [(_,_,true,.b (t.b.same t2.b))] [(26,.b (!(t.b.same t2.b)))] ⟨λu hC g=>nR (r:=t.b) (s:=t2.b) (D.below (K00 S.E hC)) (k1.below (K00 S.E hC)),G⟩ λu yP S=>aCD S (!(t.b.same t2.b)) (λD S=>?_) (λD S=>?_)
 .have g0:t.a.same t2.a=true:=by simpa using fJ
  have g1:t.b.same t2.b=false:=by simpa using D
  refine aCB S (.z) (λS=>?_);exact⟨aJ (by simp only[bG.same,g0,g1,aEv,aEK]),S.E⟩
 refine aCM S λS=>aCV S 10 [.M 1 8,.M 0 8] [(_,_,true,.b (t.c.same t2.c))] [(26,.b (!(t.c.same t2.c)))] ⟨λu hC g=>nR (r:=t.c) (s:=t2.c) (J.below (K00 S.E hC)) (k2.below (K00 S.E hC)),G⟩ λu zS S=>aCD S (!(t.c.same t2.c)) (λJ S=>?_) (λJ S=>?_)
 .have g0:t.a.same t2.a=true:=by simpa using fJ
  have g1:t.b.same t2.b=true:=by simpa using D
  have g2:t.c.same t2.c=false:=by simpa using J
  refine aCB S (.z) (λS=>?_);exact⟨aJ (by simp only[bG.same,g0,g1,g2,aEv,aEK]),S.E⟩
 refine aCM S λS=>aCV S 10 [.M 1 12,.M 0 12] [(_,_,true,.b (t.d.same t2.d))] [(26,.b (!(t.d.same t2.d)))] ⟨λu hC g=>nR (r:=t.d) (s:=t2.d) (h3.below (K00 S.E hC)) (k3.below (K00 S.E hC)),G⟩ λu A8 S=>aCD S (!(t.d.same t2.d)) (λaa S=>?_) (λaa S=>?_)
 .have g0:t.a.same t2.a=true:=by simpa using fJ
  have g1:t.b.same t2.b=true:=by simpa using D
  have g2:t.c.same t2.c=true:=by simpa using J
  have g3:t.d.same t2.d=false:=by simpa using aa
  refine aCB S (.z) (λS=>?_);exact⟨aJ (by simp only[bG.same,g0,g1,g2,g3,aEv,aEK]),S.E⟩
 refine aCM S λS=>aCV S 10 [.M 1 16,.M 0 16] [(_,_,true,.b (t.e.same t2.e))] [(26,.b (!(t.e.same t2.e)))] ⟨λu hC g=>nR (r:=t.e) (s:=t2.e) (h4.below (K00 S.E hC)) (k4.below (K00 S.E hC)),G⟩ λu ac S=>aCD S (!(t.e.same t2.e)) (λab S=>?_) (λab S=>?_)
 .have g0:t.a.same t2.a=true:=by simpa using fJ
  have g1:t.b.same t2.b=true:=by simpa using D
  have g2:t.c.same t2.c=true:=by simpa using J
  have g3:t.d.same t2.d=true:=by simpa using aa
  have g4:t.e.same t2.e=false:=by simpa using ab
  refine aCB S (.z) (λS=>?_);exact⟨aJ (by simp only[bG.same,g0,g1,g2,g3,g4,aEv,aEK]),S.E⟩
 refine aCM S λS=>aCV S 10 [.M 1 20,.M 0 20] [(_,_,true,.b (t.f.same t2.f))] [(26,.b (!(t.f.same t2.f)))] ⟨λu hC g=>nR (r:=t.f) (s:=t2.f) (h5.below (K00 S.E hC)) (k5.below (K00 S.E hC)),G⟩ λu ae S=>aCD S (!(t.f.same t2.f)) (λI8 S=>?_) (λI8 S=>?_)
 .have g0:t.a.same t2.a=true:=by simpa using fJ
  have g1:t.b.same t2.b=true:=by simpa using D
  have g2:t.c.same t2.c=true:=by simpa using J
  have g3:t.d.same t2.d=true:=by simpa using aa
  have g4:t.e.same t2.e=true:=by simpa using ab
  have g5:t.f.same t2.f=false:=by simpa using I8
  refine aCB S (.z) (λS=>?_);exact⟨aJ (by simp only[bG.same,g0,g1,g2,g3,g4,g5,aEv,aEK]),S.E⟩
 refine aCT S (λS=>?_);have g0:t.a.same t2.a=true:=by simpa using fJ
 have g1:t.b.same t2.b=true:=by simpa using D
 have g2:t.c.same t2.c=true:=by simpa using J
 have g3:t.d.same t2.d=true:=by simpa using aa
 have g4:t.e.same t2.e=true:=by simpa using ab
 have g5:t.f.same t2.f=true:=by simpa using I8
 refine aCB S (.b true) (λS=>?_);exact⟨aJ (by simp only[bG.same,g0,g1,g2,g3,g4,g5,aEv,aEK]),S.E⟩
abbrev Fz(v:aaT)(Q:Q6)(K:Nat)(w:VO)(h:nG K w v Q)(D:1<=K)(J:K<=10000) :
  abB prog 106 #[v] w λe w'=>∃x,e = .R x∧CZ w.heap.size w' x Q∧Ext w w':=by
 have J:=h;obtain⟨J,ac,ae,af,ag,ah⟩:=h.nrm;obtain⟨J,ai,al,am,an,ao⟩:=h.len D;obtain⟨t,rfl,J,h1,h2,h3,h4,h5⟩:=h.sQ;refine aCG func106 ntmps106 λS=>aCJ S t.cells λu b2 E3 D S=>aCJ S Sx.za λu b5 E6 D S=>Sx.jm S 18 [(5,λv w1=>dQ w.heap.size w1 v Q.a),(8,λv w1=>dQ w.heap.size w1 v Q.b),(11,λv w1=>dQ w.heap.size w1 v Q.c),(14,λv w1=>dQ w.heap.size w1 v Q.d),(17,λv w1=>dQ w.heap.size w1 v Q.e),(20,λv w1=>dQ w.heap.size w1 v Q.f)] (λr=>[.M 1 0,.M 1 4,.M 1 8,.M 1 12,.M 1 16,.M 1 20]) (λx=>[x 5,x 8,x 11,x 14,x 17,x 20]) (λx=>[(_,_,true,x 5,5),(_,_,true,x 8,8),(_,_,true,x 11,11),(_,_,true,x 14,14),(_,_,true,x 17,17),(_,_,true,x 20,20)]) [[],[],[],[],[],[]] (λx=>[(5,x 5),(8,x 8),(11,x 11),(14,x 14),(17,x 17),(20,x 20)]) ⟨λ_ _ _ k h=>h.ext k,λ_ _ _ k h=>h.ext k,λ_ _ _ k h=>h.ext k,λ_ _ _ k h=>h.ext k,λ_ _ _ k h=>h.ext k,λ_ _ _ k h=>h.ext k,G⟩ (λx=>⟨by intro u D g F; exact(nO _ Q.a K _ (J.below (K00 S.E D)) Z).mono λe w2 h=>by obtain⟨y,rfl,J,hb⟩:=h; exact⟨_,I,J.mono ((K00 S.E D)).size,hb⟩,by intro u D g F; exact(nO _ Q.b K _ (h1.below (K00 S.E D)) Z).mono λe w2 h=>by obtain⟨y,rfl,J,hb⟩:=h; exact⟨_,I,J.mono ((K00 S.E D)).size,hb⟩,by intro u D g F; exact(nO _ Q.c K _ (h2.below (K00 S.E D)) Z).mono λe w2 h=>by obtain⟨y,rfl,J,hb⟩:=h; exact⟨_,I,J.mono ((K00 S.E D)).size,hb⟩,by intro u D g F; exact(nO _ Q.d K _ (h3.below (K00 S.E D)) Z).mono λe w2 h=>by obtain⟨y,rfl,J,hb⟩:=h; exact⟨_,I,J.mono ((K00 S.E D)).size,hb⟩,by intro u D g F; exact(nO _ Q.e K _ (h4.below (K00 S.E D)) Z).mono λe w2 h=>by obtain⟨y,rfl,J,hb⟩:=h; exact⟨_,I,J.mono ((K00 S.E D)).size,hb⟩,by intro u D g F; exact(nO _ Q.f K _ (h5.below (K00 S.E D)) Z).mono λe w2 h=>by obtain⟨y,rfl,J,hb⟩:=h; exact⟨_,I,J.mono ((K00 S.E D)).size,hb⟩,G⟩) (λu x E9 F S=>?_);obtain⟨F5,F8,J,WE,TG,aa,-⟩:=F;obtain⟨ma,D⟩:=aC.iV F5;rw[D]at S F5;try rw[D]
 obtain⟨mb,D⟩:=aC.iV F8;rw[D]at S F8;try rw[D]
 obtain⟨mc,D⟩:=aC.iV J;rw[D]at S J;try rw[D]
 obtain⟨md,D⟩:=aC.iV WE;rw[D]at S WE;try rw[D]
 obtain⟨me,D⟩:=aC.iV TG;rw[D]at S TG;try rw[D]
 obtain⟨mf,D⟩:=aC.iV aa;rw[D]at S aa;try rw[D]
 have WG:=S.bx 0;refine aCP S 0 (off:=0) (cs:=(ma.cells++mb.cells++mc.cells++md.cells++me.cells++mf.cells)) I (λu D S=>?_);have Dc:=aC.eF F5 D WG;have ab:=aC.eF F8 D WG;have Bc:=aC.eF J D WG;have J:=aC.eF WE D WG;have Gt:=aC.eF TG D WG;have wM:=aC.eF aa D WG;refine aCU S 0 I (v := .agg (ma.cells++mb.cells++mc.cells++md.cells++me.cells++mf.cells).toArray) (λS=>?_);exact⟨_,I,⟨⟨ma,mb,mc,md,me,mf⟩,I,Dc,ab,Bc,J,Gt,wM⟩,S.E⟩
abbrev LX(h:t.ok w)(k:t2.ok w) :
  abB prog 105 #[t.v,t2.v] w (VH w (.b (t.same t2))):=by
 skip;refine aCG func105 ntmps105 λS=>aCF S λu b2 J D S=>aCF S λu b5 J D S=>Sx.jm S 5 [(6,λv w1=>XA w1 v t),(8,λv w1=>XA w1 v t2)] (λr=>[.M 1 0,.M 0 0]) (λx=>[x 6,x 8,.b (t.same t2)]) (λx=>[(_,_,true,x 6,6),(_,_,true,x 8,8),(_,_,true,.b (t.same t2),9)]) [[],[],[6,8]] (λx=>[(9,.b (t.same t2))]) ⟨λ_ _ _ k h=>h.ext k,λ_ _ _ k h=>h.ext k,G⟩ (λx=>⟨by intro u D g F; exact(NM t _).mono λe w2 h=>by obtain⟨b,rfl,J,A03,hb⟩:=h; exact⟨_,I,⟨b,I,A03⟩,hb⟩,by intro u D g F; exact(NM t2 _).mono λe w2 h=>by obtain⟨b,rfl,J,A03,hb⟩:=h; exact⟨_,I,⟨b,I,A03⟩,hb⟩,by intro u D g F; obtain⟨J,F8,-⟩:=F; exact(PX J F8 (h.below (K00 S.E D)) (k.below (K00 S.E D))).mono λe w2 h=>⟨_,h.1,I,h.2⟩,G⟩) (λu x D F S=>?_);obtain⟨J,F8,-⟩:=F;refine aCB S (.b (t.same t2)) (λS=>?_);exact⟨I,S.E⟩
abbrev TJ{n1 D:Nat}{P Q:Q6}(h:CZ n1 w v1 P)(k:CZ D w v2 Q) :
  abB prog 105 #[v1,v2] w (VH w (.b (P.same Q))):=by
 obtain⟨t,rfl,h⟩:=h;obtain⟨t2,rfl,k⟩:=k;obtain⟨r,e,D,J⟩:=XB h;obtain⟨s,S,ko,ki⟩:=XB k;rw[e,S];exact(LX D ko).mono λ_ _ h=>⟨h.1.trans (aJ (aiG J ki)),h.2⟩
abbrev Df{P Q:Q6}(h:nG K w t.v P)(k:nG K w t2.v Q)(J:1<=K)(hK:K<=10000) :
  abB prog 64 #[t.v,t2.v] w (VH w (.b (P.same Q))):=by
 skip;refine aCG func64 ntmps64 λS=>aCF S λu b2 E3 D S=>aCF S λu b5 E6 D S=>Sx.jm S 5 [(6,λv w1=>CZ w.heap.size w1 v P),(8,λv w1=>CZ w.heap.size w1 v Q)] (λr=>[.M 1 0,.M 0 0]) (λx=>[x 6,x 8,.b (P.same Q)]) (λx=>[(_,_,true,x 6,6),(_,_,true,x 8,8),(_,_,true,.b (P.same Q),9)]) [[],[],[6,8]] (λx=>[(9,.b (P.same Q))]) ⟨λ_ _ _ k h=>h.ext k,λ_ _ _ k h=>h.ext k,G⟩ (λx=>⟨by intro u D g F; exact(Fz _ P K _ (h.iU (K00 S.E D)) J hK).mono λe w2 h=>by obtain⟨y,rfl,hx,hb⟩:=h; exact⟨_,I,CZ.mono hx ((K00 S.E D)).size,hb⟩,by intro u D g F; exact(Fz _ Q K _ (k.iU (K00 S.E D)) J hK).mono λe w2 h=>by obtain⟨y,rfl,hx,hb⟩:=h; exact⟨_,I,CZ.mono hx ((K00 S.E D)).size,hb⟩,by intro u D g F; obtain⟨D,J,-⟩:=F; exact(TJ D J).mono λe w2 h=>⟨_,h.1,I,h.2⟩,G⟩) (λu x E9 F S=>?_);obtain⟨D,J,-⟩:=F;refine aCB S (.b (P.same Q)) (λS=>?_);exact⟨I,S.E⟩
end
section
abbrev Nw.facts{q:Bool×Nat×Nat}(h:Nw q):0<q.2.2∧Nat.Coprime q.2.1 q.2.2∧(q.1=true->0<q.2.1):=by
 obtain⟨n,a,b⟩:=q;unfold Nw nrm at h;simp only at h |-;split at h
 .rename_i D;simp only[aDm]at h;omega
 rename_i D;simp only[aDm]at h;obtain⟨D,J,h3⟩:=h;have S:Nat.gcd a b=1:=by
  have J:0<b:=Z
  have:=Nat.div_mul_cancel (aFK a b);rw[h3]at this;exact Nat.eq_of_mul_eq_mul_left J Z
 refine⟨Z,S,λhn=>?_⟩;rw[hn]at D;unfold l9 at D;rw[aDt]at D;have:=D.2;rw[S,Nat.div_one]at this;simpa using this
abbrev uj{p q:Bool×Nat×Nat}(D:Nw p)(J:Nw q):qx p q=decide (p=q):=by
 obtain⟨p1,p2,p3⟩:=D.facts;obtain⟨D,q2,S⟩:=J.facts;rw[aEI];unfold qx mZ;simp only[aDu,aDv,Int.sign_eq_zero_iff_zero];constructor
 .intro h;obtain⟨n,a,b⟩:=p;obtain⟨m,c,d⟩:=q;simp only at *;have J:qz (n,a,b)*(d:Int)=qz (m,c,d)*(b:Int):=by simpa using (by omega:qz (n,a,b)*(d:Int)-qz (m,c,d)*(b:Int)=0->qz (n,a,b)*(d:Int)=qz (m,c,d)*(b:Int)) h
  have D:=aDc Int.natAbs J;have S:∀(s:Bool) (x:Nat),(zv s x).natAbs=x:=by intro s x; unfold zv; split<;>simp
  unfold qz at J D;simp only[Int.natAbs_mul,S,aFo]at D;have S:b∣d:=p2.symm.dvd_of_dvd_mul_left ⟨c,by rw[D,aDW]⟩;have aa:d∣b:=q2.symm.dvd_of_dvd_mul_left ⟨a,by rw[<-D,aDW]⟩;obtain rfl:b=d:=Nat.dvd_antisymm S aa;obtain rfl:a=c:=Nat.eq_of_mul_eq_mul_right p1 D;have D:zv n a=zv m a:=Int.eq_of_mul_eq_mul_right Z J;obtain rfl:n=m:=by
   unfold zv at D;cases n<;>cases m<;>simp at * <;> omega
  rfl
 intro h; rw[h]; omega
abbrev K06{P Q:Q6}(D:CU P)(J:CU Q):P.same Q=P.eq Q:=by
 unfold Q6.same Q6.eq;rw[uj D.1 J.1,uj D.2.1 J.2.1,uj D.2.2.1 J.2.2.1,uj D.2.2.2.1 J.2.2.2.1,uj D.2.2.2.2.1 J.2.2.2.2.1,uj D.2.2.2.2.2 J.2.2.2.2.2]
end
section
open Go.RowKit Na
variable{α:Type}{K:Nat}
def cO(l m:List ak):Bool:=decide (l.length=m.length)&&(l.zip m).all λp=>p.1.eq p.2
variable{w:VO}{l m:List ak}{v u:aaT}{p q:dI}{k:Nat}
abbrev aeR(h:((l.length:Int) != (m.length:Int))=true):false=cO l m:=by
 have:l.length≠m.length:=λe=>by rw[e]at h; simp at h
 simp[cO,this]
abbrev aac(hk:l.length<=k)(h:l.length=m.length)(D:((l.zip m).take k).all (λp=>p.1.eq p.2)=true):true=cO l m:=by
 rw[aDG (by simp; omega)]at D;simp only[cO,h,D,decide_true,Bool.and_self]
abbrev TK(J:k<l.length)(S:k<m.length)(D:((l.zip m).take k).all (λp=>p.1.eq p.2)=true)(h:(!(l[k].eq m[k]))=false):((l.zip m).take (k+1)).all (λp=>p.1.eq p.2)=true:=by
 rw[aEj (by simp; omega),List.all_append,D];simp at h;simp[h]
abbrev aeS(D:k<l.length)(J:k<m.length)(h:(!(l[k].eq m[k]))=true):false=cO l m:=by
 symm;rw[Bool.eq_false_iff];intro e;simp only[cO,aDt,aDF]at e;have:=e.2 (l[k],m[k]) (by rw[<-List.getElem_zip (h:=by simp; omega)]; exact aDI _);simp[this]at h
abbrev Ad{l m:List dM}(h:aI 7 dM.cells w v l)(h':aI 7 dM.cells w u m) :
  abB prog 137 #[v,u] w (VH w (.b (l=m))):=by
 skip;refine aCG func137 ntmps137 λS=>aCQ S (abL (l:=l) (m:=m) (h.below S.E) (h'.below S.E)) λu D S=>aCB S (.b (l=m)) (λS=>?_);exact⟨I,S.E⟩
abbrev Dh(h:jl w v l)(h':jl w u m)(hf:∀p∈l,p.t.fit K)(al:∀p∈m,p.t.fit K)(am:1<=K)(hK:K<=10000) :
  abB prog 138 #[v,u,.func (.func 139) #[] #[]] w (VH w (.b (cO l m))):=by
 obtain⟨a,cap,rfl⟩:=h.1.shape;obtain⟨d,cap',rfl⟩:=h'.1.shape;have D:l.length<=9223372036854775807:=h.1.len;refine aCG func138 ntmps138 λS=>aCD S (((l.length:Int)) != (m.length:Int)) (λJ S=>?_) (λJ S=>?_)
 .refine aCB S (.z) (λS=>?_);exact⟨aJ (aeR J),S.E⟩
 refine aCZ S (ι:=Nat) (λp D w'=>p<=l.length∧(((l.zip m).take p).all (λp=>p.1.eq p.2)=true)∧Sx.St w D w' 32 [(0,.s a l.length cap),(1,.s d m.length cap'),(2,.func (.func 139) #[] #[]),(6,.z),(15,.s a l.length cap),(16,.i l.length),(17,.i p)] [] []) (λp=>l.length-p) (0) (λS=>⟨aDl _,I,S.qc⟩) ?_;rintro k ac u gJ dW D;try dsimp only at D
 obtain⟨hk,hR,S⟩:=D;refine aC0 S λS=>aCD S (decide ((k:Int)<(l.length:Int))) (λfK S=>?_) (λfK S=>?_)
 .have abM:k<l.length:=by have:=aDw fK; omega
  obtain⟨aq,ar,rfl,ae,aa,D,ag⟩:=aDN h.1 (λ_=>I) (k) abM;have S:=S.view0 D ag;refine adr S 3 [] [.idx k l.length,.M 0 0] (hk:=⟨abM,G⟩) λS=>aCF S λu D RZ Xk S=>aCH S 0 I (λu D S=>?_);have D:k<m.length:=by have:=mF J; have:=aDw fK; omega
  obtain⟨av,aw,rfl,af,ab,ah,ai⟩:=aDN h'.1 (λ_=>I) (k) D;have S:=S.view0 ah ai;refine adr S 4 [] [.idx k m.length,.M 1 0] (hk:=⟨D,G⟩) λS=>aCF S λu an LK ao S=>aCH S 0 I λu ap S=>adr S 3 [] [.M 1 0,.M 0 0] λS=>aCQ S (xI (K:=K) (p:=ae) (q:=af) ((h.2 _ (aa▸aDI abM)).below S.E) ((h'.2 _ (ab▸aDI D)).below S.E) (hf _ (aa▸aDI abM)) (al _ (ab▸aDI D)) am hK) λu TL S=>aCD S (!(ae.eq af)) (λI9 S=>?_) (λI9 S=>?_)
  .refine aCB S (.z) (λS=>?_);exact⟨aJ (aeS abM D (by rw[aa,ab]; exact I9)),S.E⟩
  refine adr S 2 [] [.re 31 (.i (IntKind.i64.wrap ((k:Int)+1))) (.i (k+1:Nat))] (hk:=⟨aCS Z,G⟩) λS=>aCY S gJ (λS=>?_);exact dW _ _ (k+1) ⟨Z,(TK abM D hR (by rw[aa,ab]; exact I9)),(S.gB 2).qc⟩ (by show _-_<_-_; omega)
 refine aCB S (.b true) (λS=>?_);exact⟨aJ (aac (by have:=aDA fK; omega) (mF J) hR),S.E⟩
def aj.eqP(a b:aj):Bool:=cond (((((((((((a.id) != b.id)||((a.kind) != b.kind))||((a.depth) != b.depth))||((a.aS) != b.aS))||(((a.dS.toNat:Int)) != (b.dS.toNat:Int)))||((a.blend) != b.blend))||(!(a.isolated==b.isolated)))||(!(a.dG==b.dG)))||((a.aW) != b.aW))||((a.dD) != b.dD)) (false) (((((((a.t.q.eq b.t.q)&&(decide (a.clip=b.clip)))&&(decide (a.path=b.path)))&&(cO a.fill b.fill))&&(cO a.stroke b.stroke))&&(a.style.eq b.style))&&(a.img.eq b.img))
abbrev LY{a b:aj}(h:eH K w a)(h':eH K w b) :
  abB prog 95 #[a.v,b.v] w (VH w (.b (aj.eqP a b))):=by
 skip;refine aCG func95 ntmps95 λS=>aCF S λu b2 J D S=>aCF S λu b5 J D S=>adr S 69 [] [.M 1 0,.M 0 0,.M 1 1,.M 0 1,.M 1 2,.M 0 2,.M 1 28,.M 0 28,.M 1 29,.M 0 29,.M 1 30,.M 0 30,.M 1 31,.M 0 31,.M 1 32,.M 0 32,.M 1 34,.M 0 34,.M 1 46,.M 0 46] λS=>aCD S (((((((((((a.id) != b.id)||((a.kind) != b.kind))||((a.depth) != b.depth))||((a.aS) != b.aS))||(((a.dS.toNat:Int)) != (b.dS.toNat:Int)))||((a.blend) != b.blend))||(!(a.isolated==b.isolated)))||(!(a.dG==b.dG)))||((a.aW) != b.aW))||((a.dD) != b.dD)) (λJ S=>?_) (λJ S=>?_)
 .have p0:=J;refine aCB S (.z) (λS=>?_);exact⟨aJ (by unfold aj.eqP; simp only[p0,cond_true,cond_false]),S.E⟩
 refine adr S 4 [] [.M 1 3,.M 0 3] λS=>aCQ S (Bf a.t.v b.t.v a.t.q b.t.q K _ ((bG.toQ h.1.2.2.2.1 h.2.1).iU S.E) ((bG.toQ h'.1.2.2.2.1 h'.2.1).iU S.E) h.2.2.2.2.1 h.2.2.2.2.2) λu D S=>aC6 S 43 [.M 1 27,.M 0 27,.M 1 33,.M 0 33,.M 1 35,.M 0 35,.M 1 42,.M 0 42,.M 1 36,.M 0 36,.M 1 43,.M 0 43] [(_,_,(a.t.q.eq b.t.q),.b (a.clip=b.clip)),(_,_,((a.t.q.eq b.t.q)&&(decide (a.clip=b.clip))),.b (a.path=b.path)),(_,_,(((a.t.q.eq b.t.q)&&(decide (a.clip=b.clip)))&&(decide (a.path=b.path))),.b (cO a.fill b.fill)),(_,_,((((a.t.q.eq b.t.q)&&(decide (a.clip=b.clip)))&&(decide (a.path=b.path)))&&(cO a.fill b.fill)),.b (cO a.stroke b.stroke)),(_,_,(((((a.t.q.eq b.t.q)&&(decide (a.clip=b.clip)))&&(decide (a.path=b.path)))&&(cO a.fill b.fill))&&(cO a.stroke b.stroke)),.b (a.style.eq b.style)),(_,_,((((((a.t.q.eq b.t.q)&&(decide (a.clip=b.clip)))&&(decide (a.path=b.path)))&&(cO a.fill b.fill))&&(cO a.stroke b.stroke))&&(a.style.eq b.style)),.b (a.img.eq b.img))] [(4,.b (((((((a.t.q.eq b.t.q)&&(decide (a.clip=b.clip)))&&(decide (a.path=b.path)))&&(cO a.fill b.fill))&&(cO a.stroke b.stroke))&&(a.style.eq b.style))&&(a.img.eq b.img)))] ⟨λu D g=>Ad (l:=a.clip) (m:=b.clip) (h.1.2.2.2.2.1.1.below (K00 S.E D)) (h'.1.2.2.2.2.1.1.below (K00 S.E D)),λu D g=>Ad (l:=a.path) (m:=b.path) (h.1.2.2.2.2.2.2.2.1.1.below (K00 S.E D)) (h'.1.2.2.2.2.2.2.2.1.1.below (K00 S.E D)),λu D g=>Dh (l:=a.fill) (m:=b.fill) (K:=K) (h.1.2.2.2.2.2.2.2.2.2.1.below (K00 S.E D)) (h'.1.2.2.2.2.2.2.2.2.2.1.below (K00 S.E D)) h.2.2.1 h'.2.2.1 h.2.2.2.2.1 h.2.2.2.2.2,λu D g=>Dh (l:=a.stroke) (m:=b.stroke) (K:=K) (h.1.2.2.2.2.2.2.2.2.2.2.2.1.below (K00 S.E D)) (h'.1.2.2.2.2.2.2.2.2.2.2.2.1.below (K00 S.E D)) h.2.2.2.1 h'.2.2.2.1 h.2.2.2.2.1 h.2.2.2.2.2,λu D g=>xq (p:=a.style) (q:=b.style) (h.1.2.2.2.2.2.2.2.2.2.2.1.below (K00 S.E D)) (h'.1.2.2.2.2.2.2.2.2.2.2.1.below (K00 S.E D)),λu D g=>uX (m:=a.img) (n:=b.img) (h.1.2.2.2.2.2.2.2.2.2.2.2.2.1.below (K00 S.E D)) (h'.1.2.2.2.2.2.2.2.2.2.2.2.2.1.below (K00 S.E D)),G⟩ (λu xw S=>?_);have p0:=J;refine aCB S (.b (((((((a.t.q.eq b.t.q)&&(decide (a.clip=b.clip)))&&(decide (a.path=b.path)))&&(cO a.fill b.fill))&&(cO a.stroke b.stroke))&&(a.style.eq b.style))&&(a.img.eq b.img))) (λS=>?_);exact⟨aJ (by unfold aj.eqP; simp only[p0,cond_true,cond_false]),S.E⟩
abbrev Di{l m:List dM}(h:aI 7 dM.cells w v l)(h':aI 7 dM.cells w u m) :
  abB prog 65 #[v,u] w (VH w (.b (l=m))):=by
 obtain⟨a,cap,rfl⟩:=h.shape;obtain⟨d,cap',rfl⟩:=h'.shape;have D:l.length<=9223372036854775807:=h.len;refine aCG func65 ntmps65 λS=>aCD S (((l.length:Int)) != (m.length:Int)) (λaa S=>?_) (λaa S=>?_)
 .refine aCB S (.z) (λS=>?_);exact⟨aJ (nS aa),S.E⟩
 refine aCZ S (ι:=Nat) (λp D w'=>p<=l.length∧(l.take p=m.take p)∧Sx.St w D w' 26 [(0,.s a l.length cap),(1,.s d m.length cap'),(4,.z),(5,.i p)] [] []) (λp=>l.length-p) (0) (λS=>⟨aDl _,I,S.qc⟩) ?_;rintro k J u gJ dW D;try dsimp only at D
 obtain⟨hk,hR,S⟩:=D;refine aC0 S λS=>aCD S (decide ((k:Int)<(l.length:Int))) (λfK S=>?_) (λfK S=>?_)
 .have oM:k<l.length:=by have:=aDw fK; omega
  obtain⟨J,ab,rfl,D,vw,xJ,PY⟩:=aDN h (λ_=>I) (k) oM;have S:=S.view0 xJ PY;have mG:k<m.length:=by have:=(mF aa); have:=aDw fK; omega
  obtain⟨ae,af,rfl,J,qX,LZ,PZ⟩:=aDN h' (λ_=>I) (k) mG;have S:=S.view0 LZ PZ;refine aCV S 9 [.idx k l.length,.M 1 0,.idx k m.length,.M 0 0,.cmp .neq 163 (.tmp 20) (.tmp 24) (.agg #[.i D.verb,.i D.a.x,.i D.a.y,.i D.b.x,.i D.b.y,.i D.c.x,.i D.c.y]) (.agg #[.i J.verb,.i J.a.x,.i J.a.y,.i J.b.x,.i J.b.y,.i J.c.x,.i J.c.y]) (.b (!((D.verb==J.verb)&&((D.a.x==J.a.x)&&((D.a.y==J.a.y)&&((D.b.x==J.b.x)&&((D.b.y==J.b.y)&&((D.c.x==J.c.x)&&(D.c.y==J.c.y)))))))))] [] [(25,.b (!((D.verb==J.verb)&&((D.a.x==J.a.x)&&((D.a.y==J.a.y)&&((D.b.x==J.b.x)&&((D.b.y==J.b.y)&&((D.c.x==J.c.x)&&(D.c.y==J.c.y)))))))))] trivial (hk:=⟨oM,mG,aEg (λ_=>akD ..) X,G⟩) λu Gn S=>aCD S (!((D.verb==J.verb)&&((D.a.x==J.a.x)&&((D.a.y==J.a.y)&&((D.b.x==J.b.x)&&((D.b.y==J.b.y)&&((D.c.x==J.c.x)&&(D.c.y==J.c.y)))))))) (λBg S=>?_) (λBg S=>?_)
  .refine aCB S (.z) (λS=>?_);exact⟨aJ (rV oM mG (λe=>by have D:=Bg; rw[vw,qX]at e; subst e; simp at D)),S.E⟩
  refine adr S 3 [] [.re 16 (.i (IntKind.i64.wrap ((k:Int)+1))) (.i (k+1:Nat))] (hk:=⟨aCS Z,G⟩) λS=>aCY S gJ (λS=>?_);exact dW _ _ (k+1) ⟨Z,(nT oM mG hR (by rw[vw,qX]; exact aeT Bg)),S.qc⟩ (by show _-_<_-_; omega)
 refine aCB S (.b true) (λS=>?_);exact⟨aJ (rW (by have:=aDA fK; omega) (mF aa) hR),S.E⟩
abbrev TM{l m:List dK}(h:aI 5 dK.cells w v l)(h':aI 5 dK.cells w u m) :
  abB prog 154 #[v,u] w (VH w (.b (l=m))):=by
 obtain⟨a,cap,rfl⟩:=h.shape;obtain⟨d,cap',rfl⟩:=h'.shape;have D:l.length<=9223372036854775807:=h.len;refine aCG func154 ntmps154 λS=>aCD S (((l.length:Int)) != (m.length:Int)) (λaa S=>?_) (λaa S=>?_)
 .refine aCB S (.z) (λS=>?_);exact⟨aJ (nS aa),S.E⟩
 refine aCZ S (ι:=Nat) (λp D w'=>p<=l.length∧(l.take p=m.take p)∧Sx.St w D w' 26 [(0,.s a l.length cap),(1,.s d m.length cap'),(4,.z),(5,.i p)] [] []) (λp=>l.length-p) (0) (λS=>⟨aDl _,I,S.qc⟩) ?_;rintro k J u gJ dW D;try dsimp only at D
 obtain⟨hk,hR,S⟩:=D;refine aC0 S λS=>aCD S (decide ((k:Int)<(l.length:Int))) (λfK S=>?_) (λfK S=>?_)
 .have oM:k<l.length:=by have:=aDw fK; omega
  obtain⟨J,ab,rfl,D,vw,xJ,PY⟩:=aDN h (λ_=>I) (k) oM;have S:=S.view0 xJ PY;have mG:k<m.length:=by have:=(mF aa); have:=aDw fK; omega
  obtain⟨ae,af,rfl,J,qX,LZ,PZ⟩:=aDN h' (λ_=>I) (k) mG;have S:=S.view0 LZ PZ;refine aCV S 9 [.idx k l.length,.M 1 0,.idx k m.length,.M 0 0,.cmp .neq 202 (.tmp 20) (.tmp 24) (.agg #[.i D.o,.u (D.c.r.toNat:Int),.u (D.c.g.toNat:Int),.u (D.c.b.toNat:Int),.u (D.c.a.toNat:Int)]) (.agg #[.i J.o,.u (J.c.r.toNat:Int),.u (J.c.g.toNat:Int),.u (J.c.b.toNat:Int),.u (J.c.a.toNat:Int)]) (.b (!((D.o==J.o)&&(((D.c.r.toNat:Int)==(J.c.r.toNat:Int))&&(((D.c.g.toNat:Int)==(J.c.g.toNat:Int))&&(((D.c.b.toNat:Int)==(J.c.b.toNat:Int))&&((D.c.a.toNat:Int)==(J.c.a.toNat:Int))))))))] [] [(25,.b (!((D.o==J.o)&&(((D.c.r.toNat:Int)==(J.c.r.toNat:Int))&&(((D.c.g.toNat:Int)==(J.c.g.toNat:Int))&&(((D.c.b.toNat:Int)==(J.c.b.toNat:Int))&&((D.c.a.toNat:Int)==(J.c.a.toNat:Int))))))))] trivial (hk:=⟨oM,mG,aEg (λ_=>aeU ..) X,G⟩) λu Gn S=>aCD S (!((D.o==J.o)&&(((D.c.r.toNat:Int)==(J.c.r.toNat:Int))&&(((D.c.g.toNat:Int)==(J.c.g.toNat:Int))&&(((D.c.b.toNat:Int)==(J.c.b.toNat:Int))&&((D.c.a.toNat:Int)==(J.c.a.toNat:Int))))))) (λBg S=>?_) (λBg S=>?_)
  .refine aCB S (.z) (λS=>?_);exact⟨aJ (rV oM mG (λe=>by have D:=Bg; rw[vw,qX]at e; subst e; simp at D)),S.E⟩
  refine adr S 3 [] [.re 16 (.i (IntKind.i64.wrap ((k:Int)+1))) (.i (k+1:Nat))] (hk:=⟨aCS Z,G⟩) λS=>aCY S gJ (λS=>?_);exact dW _ _ (k+1) ⟨Z,(nT oM mG hR (by rw[vw,qX]; exact aad Bg)),S.qc⟩ (by show _-_<_-_; omega)
 refine aCB S (.b true) (λS=>?_);exact⟨aJ (rW (by have:=aDA fK; omega) (mF aa) hR),S.E⟩
abbrev amd(h:((((p.w) != q.w)||((p.h) != q.h))||((p.l.length:Int) != (q.l.length:Int)))=true):false=p.eq q:=by
 symm;rw[Bool.eq_false_iff];intro e;simp only[dI.eq,aDt,aDu]at e;rw[e.1,e.2.1,e.2.2]at h;simp at h
abbrev aeV(h:((((p.w) != q.w)||((p.h) != q.h))||((p.l.length:Int) != (q.l.length:Int)))=false):p.l.length=q.l.length:=by
 simp at h; omega
abbrev ame(h:((((p.w) != q.w)||((p.h) != q.h))||((p.l.length:Int) != (q.l.length:Int)))=false)(D:true=decide (p.l=q.l)):true=p.eq q:=by
 simp at h D;simp[dI.eq,h,D]
abbrev amf(D:false=decide (p.l=q.l)):false=p.eq q:=by
 simp at D;simp[dI.eq,D]
abbrev Dj{y1 y2:dI}(h:y1.ok w)(h':y2.ok w) :
  abB prog 68 #[y1.v,y2.v] w (VH w (.b (y1.eq y2))):=by
 obtain⟨a,cap,J⟩:=h.2.2.shape;obtain⟨d,cap',D⟩:=h'.2.2.shape;unfold dI.v;have hq:=h.2.2;have af:=h'.2.2;rw[J,D];rw[J]at hq;rw[D]at af;have D:y1.l.length<=9223372036854775807:=h.2.2.len;refine aCG func68 ntmps68 λS=>aCF S λu b2 J D S=>aCF S λu b5 J D S=>adr S 22 [] [.M 1 0,.M 0 0,.M 1 1,.M 0 1,.M 1 2,.M 0 2] λS=>aCD S ((((y1.w) != y2.w)||((y1.h) != y2.h))||(((y1.l.length:Int)) != (y2.l.length:Int))) (λfK S=>?_) (λfK S=>?_)
 .refine aCB S (.z) (λS=>?_);exact⟨aJ (amd fK),S.E⟩
 refine aCZ S (ι:=Nat) (λp D w'=>p<=y1.l.length∧(y1.l.take p=y2.l.take p)∧Sx.St w D w' 45 [(0,.agg #[.i y1.w,.i y1.h,.s a y1.l.length cap]),(1,.agg #[.i y2.w,.i y2.h,.s d y2.l.length cap']),(2,.q b2 0),(3,.q b5 0),(4,.z),(5,.i p)] [(b5,[.i y2.w,.i y2.h,.s d y2.l.length cap']),(b2,[.i y1.w,.i y1.h,.s a y1.l.length cap])] []) (λp=>y1.l.length-p) (0) (λS=>⟨aDl _,I,S.qc⟩) ?_;rintro k J u gJ dW D;try dsimp only at D
 obtain⟨hk,hR,S⟩:=D;refine aC0 S λS=>adr S 5 [] [.M 1 2] λS=>aCD S (decide ((k:Int)<(y1.l.length:Int))) (λaa S=>?_) (λaa S=>?_)
 .have wO:k<y1.l.length:=by have:=aDw aa; omega
  obtain⟨D,ai,rfl,J,ab,Gu,L6⟩:=aDN hq (λ_=>I) (k) wO;have S:=S.view0 Gu L6;have Bh:k<y2.l.length:=by have:=(aeV fK); have:=aDw aa; omega
  obtain⟨al,am,rfl,D,ae,ag,ah⟩:=aDN af (λ_=>I) (k) Bh;have S:=S.view0 ag ah;refine aCV S 11 [.M 1 2,.idx k y1.l.length,.M 3 0,.M 0 2,.idx k y2.l.length,.M 2 0,.cmp .neq 178 (.tmp 38) (.tmp 43) (.agg #[.u (J.r.toNat:Int),.u (J.g.toNat:Int),.u (J.b.toNat:Int),.u (J.a.toNat:Int)]) (.agg #[.u (D.r.toNat:Int),.u (D.g.toNat:Int),.u (D.b.toNat:Int),.u (D.a.toNat:Int)]) (.b (!(((J.r.toNat:Int)==(D.r.toNat:Int))&&(((J.g.toNat:Int)==(D.g.toNat:Int))&&(((J.b.toNat:Int)==(D.b.toNat:Int))&&((J.a.toNat:Int)==(D.a.toNat:Int)))))))] [] [(44,.b (!(((J.r.toNat:Int)==(D.r.toNat:Int))&&(((J.g.toNat:Int)==(D.g.toNat:Int))&&(((J.b.toNat:Int)==(D.b.toNat:Int))&&((J.a.toNat:Int)==(D.a.toNat:Int)))))))] trivial (hk:=⟨wO,Bh,aEg (λ_=>akE ..) X,G⟩) λu Ny S=>aCD S (!(((J.r.toNat:Int)==(D.r.toNat:Int))&&(((J.g.toNat:Int)==(D.g.toNat:Int))&&(((J.b.toNat:Int)==(D.b.toNat:Int))&&((J.a.toNat:Int)==(D.a.toNat:Int)))))) (λvC S=>?_) (λvC S=>?_)
  .refine aCB S (.z) (λS=>?_);exact⟨aJ (amf (rV wO Bh (λe=>by have hq:=vC; rw[ab,ae]at e; subst e; simp at hq))),S.E⟩
  refine adr S 3 [] [.re 33 (.i (IntKind.i64.wrap ((k:Int)+1))) (.i (k+1:Nat))] (hk:=⟨aCS Z,G⟩) λS=>aCY S gJ (λS=>?_);exact dW _ _ (k+1) ⟨Z,(nT wO Bh hR (by rw[ab,ae]; exact XC vC)),S.qc⟩ (by show _-_<_-_; omega)
 refine aCB S (.b true) (λS=>?_);exact⟨aJ (ame fK (rW (by have:=aDA aa; omega) (aeV fK) hR)),S.E⟩
abbrev amg{p q:aZ}(h:((((((((p.width) != q.width)||((p.join) != q.join))||((p.cap) != q.cap))||((p.fF) != q.fF))||((p.phase) != q.phase))||((p.dash.length:Int) != (q.dash.length:Int))))=true):false=p.eq q:=by
 symm;rw[Bool.eq_false_iff];intro e;simp only[aZ.eq,aDt,aDu,aDv]at e;obtain⟨⟨⟨⟨⟨D,J⟩,S⟩,e4⟩,e5⟩,e6⟩:=e;rw[D,J,S,e4,e5,e6]at h;simp at h
abbrev aeY{p q:aZ}(h:((((((((p.width) != q.width)||((p.join) != q.join))||((p.cap) != q.cap))||((p.fF) != q.fF))||((p.phase) != q.phase))||((p.dash.length:Int) != (q.dash.length:Int))))=false):p.dash.length=q.dash.length:=by
 simp at h; omega
abbrev amh{p q:aZ}(h:((((((((p.width) != q.width)||((p.join) != q.join))||((p.cap) != q.cap))||((p.fF) != q.fF))||((p.phase) != q.phase))||((p.dash.length:Int) != (q.dash.length:Int))))=false)(D:true=decide (p.dash=q.dash)):true=p.eq q:=by
 simp at h D;simp[aZ.eq,h,D]
abbrev ami{p q:aZ}(D:false=decide (p.dash=q.dash)):false=p.eq q:=by
 simp at D;simp[aZ.eq,D]
abbrev Ja{y1 y2:aZ}(h:y1.ok w)(h':y2.ok w) :
  abB prog 67 #[y1.v,y2.v] w (VH w (.b (y1.eq y2))):=by
 obtain⟨a,cap,hs,D,J⟩:=h.2.2.2.2.1;obtain⟨d,cap',D,J,af⟩:=h'.2.2.2.2.1;unfold aZ.v;have hq:=fM (f:=AU) h.2.2.2.2.1;have ab:=fM (f:=AU) h'.2.2.2.2.1;rw[hs,D];rw[hs]at hq;rw[D]at ab;have D:y1.dash.length<=9223372036854775807:=hq.len;refine aCG func67 ntmps67 λS=>aCF S λu b2 J D S=>aCF S λu b5 J D S=>adr S 43 [] [.M 1 0,.M 0 0,.M 1 1,.M 0 1,.M 1 2,.M 0 2,.M 1 3,.M 0 3,.M 1 5,.M 0 5,.M 1 4,.M 0 4] λS=>aCD S (((((((y1.width) != y2.width)||((y1.join) != y2.join))||((y1.cap) != y2.cap))||((y1.fF) != y2.fF))||((y1.phase) != y2.phase))||(((y1.dash.length:Int)) != (y2.dash.length:Int))) (λfK S=>?_) (λfK S=>?_)
 .refine aCB S (.z) (λS=>?_);exact⟨aJ (amg fK),S.E⟩
 refine aCZ S (ι:=Nat) (λp D w'=>p<=y1.dash.length∧(y1.dash.take p=y2.dash.take p)∧Sx.St w D w' 66 [(0,.agg #[.i y1.width,.i y1.join,.i y1.cap,.i y1.fF,.s a y1.dash.length cap,.i y1.phase]),(1,.agg #[.i y2.width,.i y2.join,.i y2.cap,.i y2.fF,.s d y2.dash.length cap',.i y2.phase]),(2,.q b2 0),(3,.q b5 0),(4,.z),(5,.i p)] [(b5,[.i y2.width,.i y2.join,.i y2.cap,.i y2.fF,.s d y2.dash.length cap',.i y2.phase]),(b2,[.i y1.width,.i y1.join,.i y1.cap,.i y1.fF,.s a y1.dash.length cap,.i y1.phase])] []) (λp=>y1.dash.length-p) (0) (λS=>⟨aDl _,I,S.qc⟩) ?_;rintro k J u gJ dW D;try dsimp only at D
 obtain⟨hk,hR,S⟩:=D;refine aC0 S λS=>adr S 5 [] [.M 1 4] λS=>aCD S (decide ((k:Int)<(y1.dash.length:Int))) (λD S=>?_) (λD S=>?_)
 .have wO:k<y1.dash.length:=by have:=aDw D; omega
  obtain⟨ai,al,rfl,lN,J,Gu,L6⟩:=aDN hq (λ_=>I) (k) wO;have S:=S.view0 Gu L6;have Bh:k<y2.dash.length:=by have:=(aeY fK); have:=aDw D; omega
  obtain⟨am,an,rfl,ae,aa,ag,ah⟩:=aDN ab (λ_=>I) (k) Bh;have S:=S.view0 ag ah;refine aCV S 11 [.M 1 4,.idx k y1.dash.length,.M 3 0,.M 0 4,.idx k y2.dash.length,.M 2 0] [] [(65,.b ((lN) != ae))] trivial (hk:=⟨wO,Bh,G⟩) λu Ny S=>aCD S ((lN) != ae) (λvC S=>?_) (λvC S=>?_)
  .refine aCB S (.z) (λS=>?_);exact⟨aJ (ami (rV wO Bh (λe=>by have hq:=vC; rw[J,aa]at e; subst e; simp at hq))),S.E⟩
  refine adr S 3 [] [.re 54 (.i (IntKind.i64.wrap ((k:Int)+1))) (.i (k+1:Nat))] (hk:=⟨aCS Z,G⟩) λS=>aCY S gJ (λS=>?_);exact dW _ _ (k+1) ⟨Z,(nT wO Bh hR (by rw[J,aa]; exact aeZ vC)),S.qc⟩ (by show _-_<_-_; omega)
 refine aCB S (.b true) (λS=>?_);exact⟨aJ (amh fK (rW (by have:=aDA D; omega) (aeY fK) hR)),S.E⟩
abbrev aun{p q:ak}(h:CU p.t.q)(h':CU q.t.q):(((((((((((p.kind)==q.kind)&&(((p.color.r.toNat:Int)==(q.color.r.toNat:Int))&&(((p.color.g.toNat:Int)==(q.color.g.toNat:Int))&&(((p.color.b.toNat:Int)==(q.color.b.toNat:Int))&&((p.color.a.toNat:Int)==(q.color.a.toNat:Int))))))&&((p.p0.x==q.p0.x)&&(p.p0.y==q.p0.y)))&&((p.p1.x==q.p1.x)&&(p.p1.y==q.p1.y)))&&((p.bY)==q.bY))&&(decide (p.stops=q.stops)))&&((p.spread)==q.spread))&&(p.img.eq q.img))&&((p.dD)==q.dD))&&(p.t.q.same q.t.q))=p.eq q:=by
 unfold ak.eq;rw[K06 h h'];ac_rfl
abbrev P5{p q:ak}{K:Nat}(h:p.ok w)(h':q.ok w)(J:p.t.fit K)(D:q.t.fit K)(aa:1<=K)(hK:K<=10000) :
  abB prog 107 #[p.v,q.v] w (VH w (.b (p.eq q))):=by
 have hq:=bG.toQ h.2.2.2.2.2.2.2.2.2 J;have J:=bG.toQ h'.2.2.2.2.2.2.2.2.2 D;refine aCG func107 ntmps107 λS=>aCF S λu b2 E3 D S=>aCF S λu b5 E6 D S=>adr S 1 [] [] λS=>aC6 S 69 [.M 1 0,.M 0 0,.M 1 1,.M 0 1,.cmp .eql 40 (.tmp 12) (.tmp 14) (.agg #[.u (p.color.r.toNat:Int),.u (p.color.g.toNat:Int),.u (p.color.b.toNat:Int),.u (p.color.a.toNat:Int)]) (.agg #[.u (q.color.r.toNat:Int),.u (q.color.g.toNat:Int),.u (q.color.b.toNat:Int),.u (q.color.a.toNat:Int)]) (.b (((p.color.r.toNat:Int)==(q.color.r.toNat:Int))&&(((p.color.g.toNat:Int)==(q.color.g.toNat:Int))&&(((p.color.b.toNat:Int)==(q.color.b.toNat:Int))&&((p.color.a.toNat:Int)==(q.color.a.toNat:Int)))))),.M 1 5,.M 0 5,.cmp .eql 130 (.tmp 19) (.tmp 21) (.agg #[.i p.p0.x,.i p.p0.y]) (.agg #[.i q.p0.x,.i q.p0.y]) (.b ((p.p0.x==q.p0.x)&&(p.p0.y==q.p0.y))),.M 1 7,.M 0 7,.cmp .eql 130 (.tmp 26) (.tmp 28) (.agg #[.i p.p1.x,.i p.p1.y]) (.agg #[.i q.p1.x,.i q.p1.y]) (.b ((p.p1.x==q.p1.x)&&(p.p1.y==q.p1.y))),.M 1 9,.M 0 9,.M 1 10,.M 0 10,.M 1 11,.M 0 11,.M 1 12,.M 0 12,.M 1 15,.M 0 15,.M 1 16,.M 0 16] [(_,_,((((((p.kind)==q.kind)&&(((p.color.r.toNat:Int)==(q.color.r.toNat:Int))&&(((p.color.g.toNat:Int)==(q.color.g.toNat:Int))&&(((p.color.b.toNat:Int)==(q.color.b.toNat:Int))&&((p.color.a.toNat:Int)==(q.color.a.toNat:Int))))))&&((p.p0.x==q.p0.x)&&(p.p0.y==q.p0.y)))&&((p.p1.x==q.p1.x)&&(p.p1.y==q.p1.y)))&&((p.bY)==q.bY)),.b (p.stops=q.stops)),(_,_,((((((((p.kind)==q.kind)&&(((p.color.r.toNat:Int)==(q.color.r.toNat:Int))&&(((p.color.g.toNat:Int)==(q.color.g.toNat:Int))&&(((p.color.b.toNat:Int)==(q.color.b.toNat:Int))&&((p.color.a.toNat:Int)==(q.color.a.toNat:Int))))))&&((p.p0.x==q.p0.x)&&(p.p0.y==q.p0.y)))&&((p.p1.x==q.p1.x)&&(p.p1.y==q.p1.y)))&&((p.bY)==q.bY))&&(decide (p.stops=q.stops)))&&((p.spread)==q.spread)),.b (p.img.eq q.img)),(_,_,((((((((((p.kind)==q.kind)&&(((p.color.r.toNat:Int)==(q.color.r.toNat:Int))&&(((p.color.g.toNat:Int)==(q.color.g.toNat:Int))&&(((p.color.b.toNat:Int)==(q.color.b.toNat:Int))&&((p.color.a.toNat:Int)==(q.color.a.toNat:Int))))))&&((p.p0.x==q.p0.x)&&(p.p0.y==q.p0.y)))&&((p.p1.x==q.p1.x)&&(p.p1.y==q.p1.y)))&&((p.bY)==q.bY))&&(decide (p.stops=q.stops)))&&((p.spread)==q.spread))&&(p.img.eq q.img))&&((p.dD)==q.dD)),.b (p.t.q.same q.t.q))] [(4,.b (((((((((((p.kind)==q.kind)&&(((p.color.r.toNat:Int)==(q.color.r.toNat:Int))&&(((p.color.g.toNat:Int)==(q.color.g.toNat:Int))&&(((p.color.b.toNat:Int)==(q.color.b.toNat:Int))&&((p.color.a.toNat:Int)==(q.color.a.toNat:Int))))))&&((p.p0.x==q.p0.x)&&(p.p0.y==q.p0.y)))&&((p.p1.x==q.p1.x)&&(p.p1.y==q.p1.y)))&&((p.bY)==q.bY))&&(decide (p.stops=q.stops)))&&((p.spread)==q.spread))&&(p.img.eq q.img))&&((p.dD)==q.dD))&&(p.t.q.same q.t.q)))] ⟨λu D g=>TM (l:=p.stops) (m:=q.stops) (h.2.2.2.2.1.below (K00 S.E D)) (h'.2.2.2.2.1.below (K00 S.E D)),λu D g=>Dj (y1:=p.img) (y2:=q.img) (h.2.2.2.2.2.2.2.1.below (K00 S.E D)) (h'.2.2.2.2.2.2.2.1.below (K00 S.E D)),λu D g=>Df (t:=p.t) (t2:=q.t) (hq.iU (K00 S.E D)) (J.iU (K00 S.E D)) aa hK,G⟩ (hk:=⟨aEg (λ_=>ae0 ..) X,aEg (λ_=>eqPt ..) X,aEg (λ_=>eqPt ..) X,G⟩) λu D S=>aCB S (.b (((((((((((p.kind)==q.kind)&&(((p.color.r.toNat:Int)==(q.color.r.toNat:Int))&&(((p.color.g.toNat:Int)==(q.color.g.toNat:Int))&&(((p.color.b.toNat:Int)==(q.color.b.toNat:Int))&&((p.color.a.toNat:Int)==(q.color.a.toNat:Int))))))&&((p.p0.x==q.p0.x)&&(p.p0.y==q.p0.y)))&&((p.p1.x==q.p1.x)&&(p.p1.y==q.p1.y)))&&((p.bY)==q.bY))&&(decide (p.stops=q.stops)))&&((p.spread)==q.spread))&&(p.img.eq q.img))&&((p.dD)==q.dD))&&(p.t.q.same q.t.q))) (λS=>?_);exact⟨aJ (aun hq.nrm J.nrm),S.E⟩
abbrev wH(h:jl w v l)(h':jl w u m)(hf:∀p∈l,p.t.fit K)(ab:∀p∈m,p.t.fit K)(ae:1<=K)(hK:K<=10000) :
  abB prog 66 #[v,u] w (VH w (.b (cO l m))):=by
 obtain⟨a,cap,rfl⟩:=h.1.shape;obtain⟨d,cap',rfl⟩:=h'.1.shape;have D:l.length<=9223372036854775807:=h.1.len;refine aCG func66 ntmps66 λS=>aCD S (((l.length:Int)) != (m.length:Int)) (λD S=>?_) (λD S=>?_)
 .refine aCB S (.z) (λS=>?_);exact⟨aJ (aeR D),S.E⟩
 refine aCZ S (ι:=Nat) (λp J w'=>p<=l.length∧(((l.zip m).take p).all (λp=>p.1.eq p.2)=true)∧Sx.St w J w' 27 [(0,.s a l.length cap),(1,.s d m.length cap'),(4,.z),(5,.i p)] [] []) (λp=>l.length-p) (0) (λS=>⟨aDl _,I,S.qc⟩) ?_;rintro k ac u gJ dW J;try dsimp only at J
 obtain⟨hk,hR,S⟩:=J;refine aC0 S λS=>aCD S (decide ((k:Int)<(l.length:Int))) (λfK S=>?_) (λfK S=>?_)
 .have oM:k<l.length:=by have:=aDw fK; omega
  obtain⟨af,ag,rfl,J,vw,xJ,PY⟩:=aDN h.1 (λ_=>I) (k) oM;have S:=S.view0 xJ PY;have mG:k<m.length:=by have:=mF D; have:=aDw fK; omega
  obtain⟨ah,ai,rfl,aa,qX,LZ,PZ⟩:=aDN h'.1 (λ_=>I) (k) mG;have S:=S.view0 LZ PZ;refine aCV S 10 [.idx k l.length,.M 1 0,.idx k m.length,.M 0 0] [(_,_,true,.b (J.eq aa))] [(26,.b (!(J.eq aa)))] ⟨λu hC g=>P5 (K:=K) (p:=J) (q:=aa) ((h.2 _ (vw▸aDI oM)).below (K00 S.E hC)) ((h'.2 _ (qX▸aDI mG)).below (K00 S.E hC)) (hf _ (vw▸aDI oM)) (ab _ (qX▸aDI mG)) ae hK,G⟩ (hk:=⟨oM,mG,G⟩) λu Gn S=>aCD S (!(J.eq aa)) (λBg S=>?_) (λBg S=>?_)
  .refine aCB S (.z) (λS=>?_);exact⟨aJ (aeS oM mG (by rw[vw,qX]; exact Bg)),S.E⟩
  refine adr S 3 [] [.re 16 (.i (IntKind.i64.wrap ((k:Int)+1))) (.i (k+1:Nat))] (hk:=⟨aCS Z,G⟩) λS=>aCY S gJ (λS=>?_);exact dW _ _ (k+1) ⟨Z,(TK oM mG hR (by rw[vw,qX]; exact Bg)),S.qc⟩ (by show _-_<_-_; omega)
 refine aCB S (.b true) (λS=>?_);exact⟨aJ (aac (by have:=aDA fK; omega) (mF D) hR),S.E⟩
def aj.eqR(a b:aj):Bool:=cond ((((((((a.id) != b.id)||((a.kind) != b.kind))||((a.depth) != b.depth))||(!(a.t.q.same b.t.q)))||((a.aS) != b.aS))||((a.aW) != b.aW))||((a.dD) != b.dD)) (false) (cond ((((((a.dS.toNat:Int)) != (b.dS.toNat:Int))||((a.blend) != b.blend))||(!(a.isolated==b.isolated)))||(!(a.dG==b.dG))) (false) ((((((decide (a.clip=b.clip))&&(decide (a.path=b.path)))&&(cO a.fill b.fill))&&(cO a.stroke b.stroke))&&(a.style.eq b.style))&&(a.img.eq b.img)))
abbrev P6{a b:aj}(h:eH K w a)(h':eH K w b) :
  abB prog 37 #[a.v,b.v] w (VH w (.b (aj.eqR a b))):=by
 skip;refine aCG func37 ntmps37 λS=>aCF S λu b2 J D S=>aCF S λu b5 J D S=>adr S 1 [] [] λS=>aC6 S 48 [.M 1 0,.M 0 0,.M 1 1,.M 0 1,.M 1 2,.M 0 2,.M 1 3,.M 0 3,.M 1 28,.M 0 28,.M 1 34,.M 0 34,.M 1 46,.M 0 46] [(_,_,(!((((a.id) != b.id)||((a.kind) != b.kind))||((a.depth) != b.depth))),.b (a.t.q.same b.t.q))] [(52,.b ((((((((a.id) != b.id)||((a.kind) != b.kind))||((a.depth) != b.depth))||(!(a.t.q.same b.t.q)))||((a.aS) != b.aS))||((a.aW) != b.aW))||((a.dD) != b.dD)))] ⟨λu D g=>Df (t:=a.t) (t2:=b.t) ((bG.toQ h.1.2.2.2.1 h.2.1).iU (K00 S.E D)) ((bG.toQ h'.1.2.2.2.1 h'.2.1).iU (K00 S.E D)) h.2.2.2.2.1 h.2.2.2.2.2,G⟩ λu J S=>aCD S ((((((((a.id) != b.id)||((a.kind) != b.kind))||((a.depth) != b.depth))||(!(a.t.q.same b.t.q)))||((a.aS) != b.aS))||((a.aW) != b.aW))||((a.dD) != b.dD)) (λJ S=>?_) (λJ S=>?_)
 .have p0:=J;refine aCB S (.z) (λS=>?_);exact⟨aJ (by unfold aj.eqR; simp only[p0,cond_true,cond_false]),S.E⟩
 refine adr S 26 [] [.M 1 29,.M 0 29,.M 1 30,.M 0 30,.M 1 31,.M 0 31,.M 1 32,.M 0 32] λS=>aCD S ((((((a.dS.toNat:Int)) != (b.dS.toNat:Int))||((a.blend) != b.blend))||(!(a.isolated==b.isolated)))||(!(a.dG==b.dG))) (λqh S=>?_) (λqh S=>?_)
 .have p0:=J;have p1:=qh;refine aCB S (.z) (λS=>?_);exact⟨aJ (by unfold aj.eqR; simp only[p0,p1,cond_true,cond_false]),S.E⟩
 refine adr S 4 [] [.M 1 27,.M 0 27] λS=>aCQ S (Di (l:=a.clip) (m:=b.clip) (h.1.2.2.2.2.1.1.below S.E) (h'.1.2.2.2.2.1.1.below S.E)) λu AZ S=>aC6 S 36 [.M 1 33,.M 0 33,.M 1 35,.M 0 35,.M 1 42,.M 0 42,.M 1 36,.M 0 36,.M 1 43,.M 0 43] [(_,_,(decide (a.clip=b.clip)),.b (a.path=b.path)),(_,_,((decide (a.clip=b.clip))&&(decide (a.path=b.path))),.b (cO a.fill b.fill)),(_,_,(((decide (a.clip=b.clip))&&(decide (a.path=b.path)))&&(cO a.fill b.fill)),.b (cO a.stroke b.stroke)),(_,_,((((decide (a.clip=b.clip))&&(decide (a.path=b.path)))&&(cO a.fill b.fill))&&(cO a.stroke b.stroke)),.b (a.style.eq b.style)),(_,_,(((((decide (a.clip=b.clip))&&(decide (a.path=b.path)))&&(cO a.fill b.fill))&&(cO a.stroke b.stroke))&&(a.style.eq b.style)),.b (a.img.eq b.img))] [(4,.b ((((((decide (a.clip=b.clip))&&(decide (a.path=b.path)))&&(cO a.fill b.fill))&&(cO a.stroke b.stroke))&&(a.style.eq b.style))&&(a.img.eq b.img)))] ⟨λu D g=>Di (l:=a.path) (m:=b.path) (h.1.2.2.2.2.2.2.2.1.1.below (K00 S.E D)) (h'.1.2.2.2.2.2.2.2.1.1.below (K00 S.E D)),λu D g=>wH (l:=a.fill) (m:=b.fill) (K:=K) (h.1.2.2.2.2.2.2.2.2.2.1.below (K00 S.E D)) (h'.1.2.2.2.2.2.2.2.2.2.1.below (K00 S.E D)) h.2.2.1 h'.2.2.1 h.2.2.2.2.1 h.2.2.2.2.2,λu D g=>wH (l:=a.stroke) (m:=b.stroke) (K:=K) (h.1.2.2.2.2.2.2.2.2.2.2.2.1.below (K00 S.E D)) (h'.1.2.2.2.2.2.2.2.2.2.2.2.1.below (K00 S.E D)) h.2.2.2.1 h'.2.2.2.1 h.2.2.2.2.1 h.2.2.2.2.2,λu D g=>Ja (y1:=a.style) (y2:=b.style) (h.1.2.2.2.2.2.2.2.2.2.2.1.below (K00 S.E D)) (h'.1.2.2.2.2.2.2.2.2.2.2.1.below (K00 S.E D)),λu D g=>Dj (y1:=a.img) (y2:=b.img) (h.1.2.2.2.2.2.2.2.2.2.2.2.2.1.below (K00 S.E D)) (h'.1.2.2.2.2.2.2.2.2.2.2.2.2.1.below (K00 S.E D)),G⟩ (λu Ny S=>?_);have p0:=J;have p1:=qh;refine aCB S (.b ((((((decide (a.clip=b.clip))&&(decide (a.path=b.path)))&&(cO a.fill b.fill))&&(cO a.stroke b.stroke))&&(a.style.eq b.style))&&(a.img.eq b.img))) (λS=>?_);exact⟨aJ (by unfold aj.eqR; simp only[p0,p1,cond_true,cond_false]),S.E⟩
end
section
variable{K:Nat}
instance aze:DecidableEq Q6:=λP Q=>decidable_of_iff (P.a=Q.a∧P.b=Q.b∧P.c=Q.c∧P.d=Q.d∧P.e=Q.e∧P.f=Q.f) (by
 obtain⟨a,b,c,d,e,f⟩:=P;obtain⟨a',b',c',d',e',f'⟩:=Q;simp)
structure oN where
 w:Int
 h:Int
 l:List bJ
deriving DecidableEq
structure jy where
 kind:Int
 color:bJ
 p0:kL
 p1:kL
 bY:Int
 stops:List dK
 spread:Int
 img:oN
 dD:Int
 q:Q6
deriving DecidableEq
structure kY where
 width:Int
 join:Int
 cap:Int
 fF:Int
 dash:List Int
 phase:Int
deriving DecidableEq
structure aO where
 id:Int
 kind:Int
 depth:Int
 q:Q6
 clip:List dM
 aS:Int
 dS:UInt8
 blend:Int
 isolated:Bool
 dG:Bool
 path:List dM
 aW:Int
 fill:List jy
 style:kY
 stroke:List jy
 img:oN
 dD:Int
deriving DecidableEq
def dI.key(m:dI):oN:=⟨m.w,m.h,m.l⟩
def ak.key(p:ak):jy:=⟨p.kind,p.color,p.p0,p.p1,p.bY,p.stops,p.spread,p.img.key,p.dD,p.t.q⟩
def aZ.key(p:aZ):kY:=⟨p.width,p.join,p.cap,p.fF,p.dash,p.phase⟩
def aj.key(n:aj):aO:=⟨n.id,n.kind,n.depth,n.t.q,n.clip,n.aS,n.dS,n.blend,n.isolated,n.dG,n.path,n.aW,n.fill.map ak.key,n.style.key,n.stroke.map ak.key,n.img.key,n.dD⟩
abbrev Ep{a b:UInt8}:(a.toNat:Int)=(b.toNat:Int)↔a=b:=⟨Jb,λh=>by rw[h]⟩
abbrev aae{a b:bJ}:(a.r=b.r∧a.g=b.g∧a.b=b.b∧a.a=b.a)↔a=b:=by cases a; cases b; simp
abbrev amj{a b:kL}:(a.x=b.x∧a.y=b.y)↔a=b:=by cases a; cases b; simp
abbrev P7(m n:dI):m.eq n=decide (m.key=n.key):=by
 rw[aEI]; simp[dI.eq,dI.key]
abbrev aaf(p q:aZ):p.eq q=decide (p.key=q.key):=by
 rw[aEI]; simp only[aZ.eq,aZ.key,kY.mk.injEq,aDt,aDu,aDv,and_assoc];constructor
 .rintro⟨h1,h2,h3,h4,h5,h6⟩; exact⟨h1,h2,h3,h4,h6,h5⟩
 rintro⟨h1,h2,h3,h4,h5,h6⟩; exact⟨h1,h2,h3,h4,h6,h5⟩
abbrev aag(P Q:Q6):P.same Q=decide (P=Q):=by
 obtain⟨a,b,c,d,e,f⟩:=P;obtain⟨D,b',J,S,e',f'⟩:=Q;rw[aEI]; simp[Q6.same]
abbrev akF{P Q:Q6}(D:CU P)(J:CU Q):P.eq Q=decide (P=Q):=by rw[<-K06 D J,aag]
abbrev ak.amk{p q:ak}(D:CU p.t.q)(J:CU q.t.q):p.eq q=decide (p.key=q.key):=by
 rw[aEI];unfold ak.eq;rw[akF D J,P7];simp only[aDt,aDu,aDv,Ep,aae,amj,ak.key,jy.mk.injEq,and_assoc];constructor
 .rintro⟨h1,h2,h3,h4,h5,h6,h7,h8,h9,h10⟩; exact⟨h1,h2,h3,h4,h5,h8,h6,h9,h7,h10⟩
 rintro⟨h1,h2,h3,h4,h5,h6,h7,h8,h9,h10⟩; exact⟨h1,h2,h3,h4,h5,h7,h9,h6,h8,h10⟩
def aiJ(l:List ak):Prop:=∀p∈l,CU p.t.q
theorem oD:∀{l m:List ak},aiJ l->aiJ m->cO l m=decide (l.map ak.key=m.map ak.key)
 | [],[],_,_=>by simp[cO]
 | [],y::m,_,_=>by simp[cO]
 | x::l,[],_,_=>by simp[cO]
 | x::l,y::m,hl,hm=>by
  have J:=oD (l:=l) (m:=m) (λp D=>hl p (aEs _ D)) (λp D=>hm p (aEs _ D))
  have e:=ak.amk (hl x aDq) (hm y aDq)
  rw[aEI]at J e |-
  simp only[cO,aDU,Nat.add_right_cancel_iff,List.zip_cons_cons,List.all_cons,aD1,aDP,aDt,aDv]at J e |-
  rw[e,<-J]
  constructor
  .rintro⟨h1,h2,h3⟩; exact⟨h2,h1,h3⟩
  .rintro⟨h1,h2,h3⟩; exact⟨h2,h1,h3⟩
def aj.nrm(n:aj):Prop:=CU n.t.q∧aiJ n.fill∧aiJ n.stroke
abbrev eH.nrm{w:VO}{n:aj}(h:eH K w n):n.nrm:=
 ⟨(bG.toQ h.1.2.2.2.1 h.2.1).nrm,λp D=>(bG.toQ (h.1.2.2.2.2.2.2.2.2.2.1.2 p D).2.2.2.2.2.2.2.2.2 (h.2.2.1 p D)).nrm,λp D=>(bG.toQ (h.1.2.2.2.2.2.2.2.2.2.2.2.1.2 p D).2.2.2.2.2.2.2.2.2 (h.2.2.2.1 p D)).nrm⟩
abbrev TN{a b:Bool}:cond a false b=(!a&&b):=by cases a<;>rfl
abbrev aiK{a b:aj}(D:a.nrm)(J:b.nrm):a.eqP b=decide (a.key=b.key):=by
 rw[aEI];unfold aj.eqP;rw[akF D.1 J.1,oD D.2.1 J.2.1,oD D.2.2 J.2.2,P7,aaf];simp only[TN,aDt,aEG,aDX,bne_eq_false_iff_eq,aEC,aDu,aDv,Ep,aj.key,aO.mk.injEq,and_assoc];constructor
 .rintro⟨h1,h2,h3,h4,h5,h6,h7,h8,h9,h10,h11,h12,h13,L8,h15,h16,h17⟩; exact⟨h1,h2,h3,h11,h12,h4,h5,h6,h7,h8,h13,h9,L8,h16,h15,h17,h10⟩
 rintro⟨h1,h2,h3,h11,h12,h4,h5,h6,h7,h8,h13,h9,L8,h16,h15,h17,h10⟩; exact⟨h1,h2,h3,h4,h5,h6,h7,h8,h9,h10,h11,h12,h13,L8,h15,h16,h17⟩
abbrev aiL{a b:aj}(D:a.nrm)(J:b.nrm):a.eqR b=decide (a.key=b.key):=by
 rw[aEI];unfold aj.eqR;rw[aag,oD D.2.1 J.2.1,oD D.2.2 J.2.2,P7,aaf];simp only[TN,aDt,aEG,aDX,bne_eq_false_iff_eq,aEC,aDu,aDv,Ep,aj.key,aO.mk.injEq,and_assoc];constructor
 .rintro⟨h1,h2,h3,h11,h4,h9,h10,h5,h6,h7,h8,h12,h13,L8,h15,h16,h17⟩; exact⟨h1,h2,h3,h11,h12,h4,h5,h6,h7,h8,h13,h9,L8,h16,h15,h17,h10⟩
 rintro⟨h1,h2,h3,h11,h12,h4,h5,h6,h7,h8,h13,h9,L8,h16,h15,h17,h10⟩; exact⟨h1,h2,h3,h11,h4,h9,h10,h5,h6,h7,h8,h12,h13,L8,h15,h16,h17⟩
end
section
abbrev abO{p q:ak}(h:p.key=q.key):p.valid=q.valid:=by
 obtain⟨k,c,p0,p1,r,sva,svc,st,sp,⟨iw,ih,D,J,il⟩,sm,t⟩:=p;obtain⟨k',c',ae,af,r',S,aa,ag,ah,⟨ai,al,ab,ac,am⟩,an,t'⟩:=q;simp only[ak.key,dI.key,jy.mk.injEq,oN.mk.injEq]at h;obtain⟨rfl,rfl,rfl,rfl,rfl,rfl,rfl,⟨rfl,rfl,rfl⟩,rfl,ht⟩:=h;have hw:∀(b:ak),(ak.without ⟨k,c,p0,p1,r,sva,svc,st,sp,⟨iw,ih,D,J,il⟩,sm,t⟩).eq b=(ak.without ⟨k,c,p0,p1,r,S,aa,st,sp,⟨iw,ih,ab,ac,il⟩,sm,t'⟩).eq b:=by
  intro b;unfold ak.without;simp only;cases k==1<;>cases k==2<;>cases k==3<;>cases k==4<;>simp only[cond_true,cond_false,ak.ae1,ak.only2,ak.ae2,ak.ae3,ak.ae4,ak.eq]<;>rfl
 unfold ak.valid;simp only[hw,ht];rfl
theorem Bj:∀{l m:List ak},l.map ak.key=m.map ak.key->l.all ak.valid=m.all ak.valid
 | [],[],_=>rfl
 | [],_::_,h=>by cases h
 | _::_,[],h=>by cases h
 | x::l,y::m,h=>by
  simp only[aD1,aDP]at h
  rw[List.all_cons,List.all_cons,abO h.1,Bj h.2]
abbrev XD{a b:aj}(h:a.key=b.key):a.checkN=b.checkN:=by
 simp only[aj.key,aZ.key,dI.key,aO.mk.injEq,kY.mk.injEq,oN.mk.injEq]at h;obtain⟨h1,h2,h3,h4,h5,h6,h7,h8,h9,ag,D,J,S,⟨s1,s2,s3,s4,s5,s6⟩,aa,⟨i1,i2,i3⟩,ab⟩:=h;have l1:a.fill.length=b.fill.length:=by have:=aDc List.length S; simpa using this
 have l2:a.stroke.length=b.stroke.length:=by have:=aDc List.length aa; simpa using this
 have hs:∀p:aZ,a.style.eq p=b.style.eq p:=λp=>by unfold aZ.eq; rw[s1,s2,s3,s4,s5,s6]
 have hi:∀m:dI,a.img.eq m=b.img.eq m:=λm=>by unfold dI.eq; rw[i1,i2,i3]
 have hb:a.bare=b.bare:=by unfold aj.bare; rw[hs,hi,h2,h7,h8,h9,ag,D,J,ab,l1,l2]
 have ac:a.style.valid=b.style.valid:=by unfold aZ.valid; rw[s1,s2,s3,s4,s5,s6]
 have ae:a.img.valid=b.img.valid:=by unfold dI.valid dI.size; rw[i1,i2,i3]
 have hc:a.iF=b.iF:=by unfold aj.iF; rw[hb,h1,h2,h3,h4,h5,h6]
 have af:a.sS=b.sS:=by unfold aj.sS; rw[D,J,l1,l2,ac,hs,Bj S,Bj aa]
 unfold aj.checkN aj.qR;rw[hc,af,h2,h8,ae,ab]
open Classical in
noncomputable def aO.chk(κ:aO):Int:=if h:∃n:aj,n.key=κ then h.choose.checkN else 1
variable{n:aj}
abbrev lg(n:aj):n.key.chk=n.checkN:=by
 have h:∃m:aj,m.key=n.key:=⟨n,I⟩;unfold aO.chk;rw[dif_pos h];exact XD h.choose_spec
theorem qY:∀{l:List (Bool×Int)},(∀p∈l,p.2≠0)->nK l=0->∀p∈l,p.1=false
 | [],_,_,p,D=>by cases D
 | q::l,h,h0,p,D=>by
  unfold nK at h0
  split at h0
  .exact absurd h0 (h q aDq)
  .rename_i hq
   rcases aDp.1 D with rfl | D
   .simpa using hq
   .exact qY (λp D=>h p (aEs _ D)) h0 p D
abbrev Mc(n:aj):∀p∈n.iF,p.2≠0:=by
 intro p D;simp only[aj.iF,aDp,aFp,or_false]at D;rcases D with rfl | rfl | rfl | rfl | rfl | rfl
 .exact(by decide:(2:Int)≠0)
 .exact(by decide:(6:Int)≠0)
 .exact(by decide:(5:Int)≠0)
 .exact(by decide:(9:Int)≠0)
 .exact(by decide:(10:Int)≠0)
 exact(by decide:(17:Int)≠0)
abbrev xK(h:n.checkN=0):badL n.iF=false∧n.qR=0:=by
 unfold aj.checkN at h;cases hb:badL n.iF
 .rw[hb]at h; exact⟨I,h⟩
 rw[hb,cond_true]at h;have:=qY (Mc n) h;unfold badL at hb;obtain⟨p,J,D⟩:=aF9.1 hb;rw[this p J]at D;cases D
abbrev qF(h:n.checkN=0):1<=n.kind∧n.kind<=3∧1<=n.id∧n.id<=1073741824∧0<=n.depth∧n.depth<8:=by
 have D:=(xK h).1;simp only[badL,aj.iF,List.any_cons,aDX,aDQ]at D;obtain⟨⟨J,S⟩,⟨⟨⟨h3,h4⟩,h5⟩,h6⟩,_⟩:=D;omega
abbrev P8(h:n.checkN=0)(d:Int):({n with depth:=d}:aj).checkN=if 0<=d∧d<8 then 0 else 6:=by
 obtain⟨hb,J⟩:=xK h;have D:({n with depth:=d}:aj).qR=0:=J;have J:({n with depth:=d}:aj).iF=((decide (n.kind<1))||(decide (3<n.kind)),2)::((((decide (n.id<1))||(decide (1073741824<n.id)))||(decide (d<0)))||(decide (8<=d)),6)::n.iF.drop 2:=I;have S:badL (n.iF.drop 2)=false:=by
  simp only[badL]at hb |-;rw[show n.iF=n.iF.take 2++n.iF.drop 2 from(aEH _ _).symm,List.any_append,aDX]at hb;exact hb.2
 have hf:=qF h;have e1:((decide (n.kind<1))||(decide (3<n.kind)))=false:=by simp; omega
 have e2:((decide (n.id<1))||(decide (1073741824<n.id)))=false:=by simp; omega
 unfold aj.checkN;rw[D,J,e1,e2];by_cases hd:0<=d∧d<8
 .have D:((false||decide (d<0))||decide (8<=d))=false:=by simp; omega
  rw[aDb hd,D];unfold badL;rw[List.any_cons,List.any_cons];have:(n.iF.drop 2).any (·.1)=false:=S;rw[this];rfl
 have D:((false||decide (d<0))||decide (8<=d))=true:=by simp; omega
 rw[aC9 hd,D];rfl
abbrev K16{κ:aO}(h:κ.chk=0):∃n:aj,n.key=κ∧n.checkN=0:=by
 unfold aO.chk at h;split at h
 .rename_i hx; exact⟨hx.choose,hx.choose_spec,h⟩
 cases h
abbrev aO.abP{κ:aO}(h:κ.chk=0):1<=κ.kind∧κ.kind<=3∧1<=κ.id∧κ.id<=1073741824∧0<=κ.depth∧κ.depth<8:=by
 obtain⟨n,rfl,hn⟩:=K16 h;exact qF hn
abbrev K17{κ:aO}(h:κ.chk=0)(d:Int):({κ with depth:=d}:aO).chk=if 0<=d∧d<8 then 0 else 6:=by
 obtain⟨n,rfl,hn⟩:=K16 h;rw[show({n.key with depth:=d}:aO)=({n with depth:=d}:aj).key from rfl,lg,P8 hn]
end
section
def xM(f:Nat->Int)(d:Int):Nat->Nat->Nat
 | 0,k=>k
 | m+1,k=>if d<f k then xM f d m (k+1)else k
def Md(n:Nat)(f:Nat->Int)(i:Nat):Nat:=xM f (f i) (n-(i+1)) (i+1)
theorem Jc{f:Nat->Int}{d:Int}:∀(m k:Nat),k<=xM f d m k∧xM f d m k<=k+m∧(∀j,k<=j->j<xM f d m k->d<f j)∧(xM f d m k<k+m->f (xM f d m k)<=d)
 | 0,k=>by simp[xM]; intro j J S; omega
 | m+1,k=>by
  unfold xM
  split
  .rename_i h
   obtain⟨J,S,h3,h4⟩:=Jc (f:=f) (d:=d) m (k+1)
   refine⟨Z,Z,λj aa D=>?_,λhl=>h4 Z⟩
   by_cases hk:j=k
   .rw[hk]; exact h
   .exact h3 j Z D
  .rename_i h
   exact⟨aDd _,Z,λj J S=>by omega,λ_=>by omega⟩
variable{i k n j:Nat}{f:Nat->Int}{id root to:Int}
abbrev NQ(D:i<n):i<Md n f i∧Md n f i<=n∧(∀j,i<j->j<Md n f i->f i<f j)∧(Md n f i<n->f (Md n f i)<=f i):=by
 obtain⟨S,h2,D,J⟩:=Jc (f:=f) (d:=f i) (n-(i+1)) (i+1);unfold Md;exact⟨Z,Z,λj S=>D j Z,λh=>J Z⟩
abbrev aah(hi:i<n)(h1:i<k)(D:k<=n)(h3:∀j,i<j->j<k->f i<f j)(h4:k<n->f k<=f i):Md n f i=k:=by
 obtain⟨D,e2,J,S⟩:=NQ (f:=f) hi;rcases aFU (Md n f i) k with h | h | h
 .have:=S Z; have:=h3 _ D h; omega
 .exact h
 have:=h4 Z; have:=J k h1 h; omega
structure aY where
 w:Int
 h:Int
 bg:bJ
 ns:List aO
deriving DecidableEq
structure bI where
 kind:Int
 id:Int
 index:Int
 depth:Int
 node:aO
 color:bJ
deriving DecidableEq
def aY.zero:aY:=⟨0,0,bJ.none,[]⟩
def aO.zero:aO:=bQ.key
def Bl(l:List aO)(k:Nat):Int:=((l[k]?).map aO.depth).getD 0
def jo(l:List aO)(id:Int):Option Nat:=l.findIdx? λκ=>κ.id==id
def nU(l:List aO)(id:Int):Int:=match jo l id with | some i=>i | none => -1
def FB(pre:List aO):Int:=match pre.getLast? with | none=>0 | some p=>if p.kind=1 then p.depth+1 else p.depth
noncomputable def jA(pre:List aO)(x:aO):Int:=
 if x.chk≠0 then x.chk else if pre.any (λκ=>κ.id==x.id)then 7 else if x.depth<=FB pre then 0 else 17
noncomputable def jr(pre:List aO):List aO->Int×Int
 | []=>(0,0)
 | x::r=>if jA pre x=0 then jr (pre++[x]) r else (jA pre x,pre.length)
noncomputable def aY.chk(s:aY):Int×Int:=
 if s.w<1∨256<s.w∨s.h<1∨256<s.h then (6,0)else if 64<s.ns.length then (5,64)else jr [] s.ns
noncomputable def aY.valid(s:aY):Bool:=s.chk.1==0
def Ae(pre:List aO):List aO->Prop
 | []=>True
 | x::r=>jA pre x=0∧Ae (pre++[x]) r
abbrev VL (l:List aO):Prop:=Ae [] l
theorem Dk:∀{l pre:List aO},(jr pre l).1=0↔Ae pre l
 | [],pre=>by simp[jr,Ae]
 | x::r,pre=>by
  unfold jr Ae
  split
  .rename_i h; rw[Dk]; simp[h]
  .rename_i h; simp[h]
abbrev Ae.chk:∀{l pre:List aO},Ae pre l->jr pre l=(0,0)
 | [],pre,_=>rfl
 | x::r,pre,h=>by unfold jr; rw[aDb h.1]; exact h.2.chk
abbrev aY.kU{s:aY}:s.valid=true↔(1<=s.w∧s.w<=256∧1<=s.h∧s.h<=256)∧s.ns.length<=64∧VL s.ns:=by
 unfold aY.valid aY.chk;rw[aDu];split
 .rename_i h; constructor
  .intro h2; cases h2
  rintro⟨h2,_⟩; omega
 split
 .constructor
  .intro h2; cases h2
  rintro⟨_,h2,_⟩; omega
 rw[Dk];constructor
 .intro h2; exact⟨Z,Z,h2⟩
 rintro⟨_,_,h2⟩; exact h2
abbrev FC{pre:List aO}{x:aO}:jA pre x=0↔x.chk=0∧(∀κ∈pre,κ.id≠x.id)∧x.depth<=FB pre:=by
 unfold jA;split
 .rename_i h; exact⟨λD=>absurd D h,λD=>absurd D.1 h⟩
 rename_i h;split
 .rename_i D;obtain⟨κ,h3,S⟩:=aF9.1 D;exact⟨λJ=>absurd J O,λJ=>absurd (by simpa using S) (J.2.1 κ h3)⟩
 rename_i D;have h3:∀κ∈pre,κ.id≠x.id:=λκ hκ he=>D (aF9.2 ⟨κ,hκ,by simpa using he⟩);split
 .rename_i S; exact⟨λ_=>⟨by simpa using h,h3,S⟩,λ_=>rfl⟩
 rename_i S; exact⟨λJ=>absurd J O,λJ=>absurd J.2.2 S⟩
theorem NR:∀{l pre:List aO},Ae pre l↔∀a x b,l=a++x::b->jA (pre++a) x=0
 | [],pre=>⟨λ_ a x b h=>by simp at h,λ_=>trivial⟩
 | y::r,pre=>by
  unfold Ae
  rw[NR (l:=r)]
  constructor
  .rintro⟨h1,h2⟩ a x b h
   cases a with
   | nil =>
    simp only[aD8,aDP]at h
    rw[aEk,<-h.1]; exact h1
   | cons z a =>
    simp only[aEp,aDP]at h
    rw[h.1]at h2
    rw[show pre++z::a=(pre++[z])++a by simp]
    exact h2 a x b h.2
  .intro h
   refine⟨by simpa using h [] y r I,λa x b e=>?_⟩
   rw[show(pre++[y])++a=pre++y::a by simp]
   exact h (y::a) x b (by rw[e]; rfl)
abbrev Bo{l:List aO}:VL l↔(∀x∈l,x.chk=0)∧(l.map aO.id).Nodup∧∀a x b,l=a++x::b->x.depth<=FB a:=by
 unfold VL;rw[NR];simp only[aD8,FC];constructor
 .intro h;refine⟨λx D=>?_,?_,λa x b e=>(h a x b e).2.2⟩
  .obtain⟨a,b,e⟩:=List.append_of_mem D;exact(h a x b e).1
  rw[List.nodup_iff_pairwise_ne];rw[List.pairwise_map];have key:∀(l pre:List aO),(∀a x b,l=a++x::b->∀κ∈pre++a,κ.id≠x.id)->List.Pairwise (λa b:aO=>a.id≠b.id) l:=by
   intro l;induction l with
   | nil=>intro _ _; exact List.Pairwise.nil
   | cons y r ih =>
    intro pre h;refine List.Pairwise.cons (λz J=>?_) (ih (pre++[y]) λa x b e κ D=>h (y::a) x b (by rw[e]; rfl) κ (by simpa using D));obtain⟨a,b,e⟩:=List.append_of_mem J;exact h (y::a) z b (by rw[e]; rfl) y Y
  exact key l [] λa x b e κ D=>(h a x b e).2.1 κ (by simpa using D)
 rintro⟨h1,h2,h3⟩ a x b e;refine⟨h1 x (by rw[e]; simp),λκ D J=>?_,h3 a x b e⟩;rw[e,aEb,aD1,aEL]at h2;exact h2.2.2 κ.id (aDJ.2 ⟨κ,D,I⟩) x.id aDq J
abbrev Dl{l:List aO}(h:k<l.length):Bl l k=l[k].depth:=by simp[Bl,List.getElem?_eq_getElem h]
abbrev aY.abQ{s:aY}(h:s.valid=true):s.chk=(0,0):=by
 obtain⟨J,S,D⟩:=aY.kU.1 h;unfold aY.chk;rw[aC9 Z,aC9 Z];exact D.chk
abbrev vF{l:List aO}(h:jo l id=some i):∃D:i<l.length,l[i].id=id:=by
 unfold jo at h;obtain⟨D,J,_⟩:=List.findIdx?_eq_some_iff_getElem.1 h;exact⟨D,by simpa using J⟩
abbrev ae5{l:List aO}(hn:(l.map aO.id).Nodup)(J:i<l.length):jo l l[i].id=some i:=by
 unfold jo;rw[List.findIdx?_eq_some_iff_getElem];refine⟨J,by simp,λj S=>?_⟩;have D:j<l.length:=Z
 simp only[aDu];intro he;rw[List.nodup_iff_pairwise_ne]at hn;have:=List.pairwise_iff_getElem.1 hn j i (by simpa using D) (by simpa using J) S;rw[List.getElem_map,List.getElem_map]at this;exact this he
abbrev XE{l:List aO}:jo l id=none↔∀κ∈l,κ.id≠id:=by
 unfold jo;rw[List.findIdx?_eq_none_iff];simp
def kN(l:List aO)(i:Nat):Nat:=i+1+((l.drop (i+1)).takeWhile λκ=>decide (Bl l i<κ.depth)).length
abbrev Dn{l:List aO}(D:i<l.length):i+1<=kN l i∧kN l i<=l.length:=by
 unfold kN;have:=(List.takeWhile_sublist (l:=l.drop (i+1)) λκ:aO=>decide (Bl l i<κ.depth)).length_le;rw[aE0]at this;omega
theorem TQ(l:List aO)(d:Int):∀m k:Nat,m+k=l.length->xM (Bl l) d m k=k+((l.drop k).takeWhile λκ=>decide (d<κ.depth)).length
 | 0,k,h=>by rw[aEB Z]; rfl
 | m+1,k,h=>by
  have hk:k<l.length:=Z
  unfold xM
  rw[Dl hk,<-aGa hk,List.takeWhile_cons]
  split
  .rename_i hd
   rw[TQ l d m (k+1) Z,aDb (by simpa using hd),aDU]; omega
  .rename_i hd
   rw[aC9 (by simpa using hd)]; rfl
abbrev Jd{l:List aO}(D:i<l.length):kN l i=Md l.length (Bl l) i:=by
 unfold kN Md;rw[TQ l _ _ _ Z]
def bI.named(e:bI):Bool:=
 if e.kind=1 then e.id==0&&(e.depth==0&&e.color==bJ.none)
 else if e.kind=2 then e.index==0&&(e.depth==0&&(e.node==aO.zero&&e.color==bJ.none))
 else if e.kind=3 then e.node==aO.zero&&e.color==bJ.none
 else if e.kind=4 then e.id==0&&(e.index==0&&(e.depth==0&&e.color==bJ.none))
 else if e.kind=5 then e.id==0&&(e.index==0&&(e.depth==0&&e.node==aO.zero))
 else false
def Gv(l:List aO)(D:Nat)(J:List aO):List aO:=l.take D++J++l.drop D
def vG(l:List aO)(i j:Nat):List aO:=l.take i++l.drop j
def Es(l:List aO)(i j:Nat):List aO:=(l.drop i).take (j-i)
def aO.ae6(n:aO)(root to:Int):aO:={n with depth:=if to<0∨8<to then -1 else n.depth-root+to}
def gK(l:List aO)(e:bI):Except Int (List aO):=
 if e.kind=1 then (if e.index<0∨(l.length:Int)<e.index then .error 6 else .ok (Gv l e.index.toNat [e.node]))
 else if e.kind=2 then (match jo l e.id with | none => .error 8 | some i => .ok (vG l i (kN l i)))
 else if e.kind=3 then (match jo l e.id with
  | none => .error 8
  | some i=>if e.index<0∨((vG l i (kN l i)).length:Int)<e.index then .error 6
   else .ok (Gv (vG l i (kN l i)) e.index.toNat ((Es l i (kN l i)).map λn=>n.ae6 (Bl l i) e.depth)))
 else if e.kind=4 then (match jo l e.node.id with
  | none => .error 8
  | some i=>if e.node.depth≠Bl l i then .error 2 else .ok (l.set i e.node))
 else .ok l
def aY.with'(s:aY)(e:bI)(l:List aO):aY:=⟨s.w,s.h,if e.kind=5 then e.color else s.bg,l⟩
noncomputable def dL(s:aY)(e:bI):aY×Int:=
 if s.valid=false then (.zero,18)else if e.named=false then (.zero,2)else
 match gK s.ns e with
 | .error n=>(.zero,n)
 | .ok l=>if (s.with' e l).chk.1=0 then (s.with' e l,0)else (.zero,(s.with' e l).chk.1)
abbrev yU{s t:aY}{e:bI}(h:dL s e=(t,0)):s.valid=true∧e.named=true∧∃l,gK s.ns e = .ok l∧t=s.with' e l∧t.valid=true:=by
 unfold dL at h;split at h
 .simp at h
 rename_i D;split at h
 .simp at h
 rename_i J;refine⟨by simpa using D,by simpa using J,?_⟩;cases hn:gK s.ns e with
 | error n =>
  rw[hn]at h;simp only[aDm]at h;exfalso;have D:=h.2;subst D;unfold gK at hn;repeat' split at hn
  all_goals first | (simp only[aE8]at hn; omega) | cases hn
 | ok l =>
  rw[hn]at h;simp only at h;split at h
  .rename_i D;simp only[aDm,and_true]at h;exact⟨l,I,h.symm,by rw[<-h]; unfold aY.valid; simpa using D⟩
  rename_i D;simp only[aDm]at h;exact absurd h.2 D
abbrev Et{s:aY}{e:bI}{l:List aO}(D:s.valid=true)(J:e.named=true)(S:gK s.ns e = .ok l)(h4:(s.with' e l).valid=true):dL s e=(s.with' e l,0):=by
 unfold dL;rw[aC9 (by simp[D]),aC9 (by simp[J]),S];simp only;rw[aDb (by rw[aY.abQ h4])]
def bI.remove(id:Int):bI:=⟨2,id,0,0,.zero,.none⟩
def NS(p:aO):Int:=if p.kind=1 then p.depth+1 else p.depth
def xO(r:Int)(a:List aO):Int:=match a.getLast? with | none=>r | some p=>NS p
def Steps(r:Int):List aO->Prop
 | []=>True
 | x::t=>x.depth<=r∧Steps (NS x) t
abbrev sU(r:Int)(x:aO)(a:List aO):xO r (x::a)=xO (NS x) a:=by
 unfold xO;cases a with
 | nil=>rfl
 | cons y a=>rw[List.getLast?_cons_cons]; cases h:(y::a).getLast? with
  | none=>simp at h
  | some p=>rfl
theorem qG:∀{a b:List aO} {r:Int},Steps r (a++b)↔Steps r a∧Steps (xO r a) b
 | [],b,r=>by simp only[aD8,Steps,true_and]; rfl
 | x::a,b,r=>by
  rw[aEp,sU]
  show x.depth<=r∧Steps (NS x) (a++b)↔(x.depth<=r∧Steps (NS x) a)∧_
  rw[qG,and_assoc]
abbrev Dp{l:List aO}:VL l↔(∀x∈l,x.chk=0)∧(l.map aO.id).Nodup∧Steps 0 l:=by
 rw[Bo];refine and_congr_right λ_=>and_congr_right λ_=>?_;have key:∀(l:List aO) (r:Int),(∀a x b,l=a++x::b->x.depth<=xO r a)↔Steps r l:=by
  intro l;induction l with
  | nil=>intro r; exact⟨λ_=>trivial,λ_ a x b h=>by simp at h⟩
  | cons y l ih =>
   intro r;show _↔y.depth<=r∧Steps (NS y) l;rw[<-ih];constructor
   .intro h;refine⟨h [] y l I,λa x b e=>?_⟩;rw[<-sU r];exact h (y::a) x b (by rw[e]; rfl)
   rintro⟨h1,h2⟩ a x b e;cases a with
   | nil =>
    simp only[aD8,aDP]at e;rw[<-e.1]; exact h1
   | cons z a =>
    simp only[aEp,aDP]at e;rw[<-e.1,sU];exact h2 a x b e.2
 exact key l 0
abbrev VL.depth{l:List aO}(h:VL l):∀x∈l,0<=x.depth∧x.depth<8:=λx D=>(aO.abP ((Bo.1 h).1 x D)).2.2.2.2
abbrev Steps.cut{A B S:List aO}{x:aO}{r:Int}(h:Steps r (A++x::(S++B)))(hB:∀y∈B.head?,y.depth<=x.depth):Steps r (A++B):=by
 rw[qG]at h |-;refine⟨h.1,?_⟩;cases B with
 | nil=>trivial
 | cons y B =>
  have D:=hB y I;have D:=h.2.1;have D:=(qG.1 h.2.2).2;exact⟨Z,D.2⟩
abbrev VL.sub{l m:List aO}(h:VL l)(D:m.Sublist l)(hm:Steps 0 m):VL m:=by
 obtain⟨S,h2,J⟩:=Dp.1 h;exact Dp.2 ⟨λx J=>S x (D.subset J),h2.sublist (D.map _),hm⟩
abbrev VL.take{l:List aO}(h:VL l)(n:Nat):VL (l.take n):=by
 refine h.sub (List.take_sublist n l) ?_;have:=(Dp.1 h).2.2;rw[<-aEH n l,qG]at this;exact this.1
abbrev drop_cons{l:List aO}(D:i<l.length):l=l.take i++l[i]::l.drop (i+1):=by rw[aGa,aEH]
theorem VL.vG{l:List aO}{i:Nat}(h:VL l)(J:i<l.length):VL (vG l i (kN l i)):=by
 obtain⟨D,S⟩:=Dn J;refine h.sub ?_ ?_
 .unfold Go.Proofs.Vy.vG;have:l=l.take i++l.drop i:=(aEH _ _).symm;have D:l.drop (kN l i)=(l.drop i).drop (kN l i-i):=by rw[aFd]; congr 1; omega
  rw[D];have D:=List.Sublist.append_left (List.drop_sublist (kN l i-i) (l.drop i)) (l.take i);rw[aEH]at D;exact D
 have S:=(Dp.1 h).2.2;have e:l=l.take i++l[i]::((l.drop (i+1)).take (kN l i-(i+1))++l.drop (kN l i)):=by
  conv=>lhs; rw[drop_cons J]
  congr 2;rw[show l.drop (kN l i)=(l.drop (i+1)).drop (kN l i-(i+1)) by rw[aFd]; congr 1; omega,aEH]
 rw[e]at S;refine Steps.cut S λy D=>?_;rw[List.head?_drop]at D;have hl:kN l i<l.length:=by
  by_cases hx:kN l i<l.length
  .exact hx
  rw[List.getElem?_eq_none Z]at D; cases D
 rw[List.getElem?_eq_getElem hl]at D;cases D;have D:=(NQ (n:=l.length) (f:=Bl l) J).2.2.2;rw[<-Jd J,Dl J,Dl hl]at D;exact D hl
abbrev abR{l:List aO}(D:i<l.length):Es l i (kN l i)=l[i]::(l.drop (i+1)).take (kN l i-(i+1)):=by
 have:=Dn D;unfold Es;rw[<-aGa D,show kN l i-i=(kN l i-(i+1))+1 by omega,List.take_succ_cons]
abbrev ae7{l:List aO}{x:aO}(h:x∈Es l i j):x∈l:=aFP (aEJ h)
abbrev TR{l m:List aO}(hk:k<=l.length):(Gv l k m).length=l.length+m.length:=by
 unfold Gv;rw[aDg,aDg,aD4,aE0]; omega
abbrev Je{l:List aO}(D:i<=j)(J:j<=l.length):(vG l i j).length+(Es l i j).length=l.length:=by
 unfold vG Es;rw[aDg,aD4,aE0,aD4,aE0]; omega
theorem Af:∀{a b pre:List aO} {x:aO},Ae pre a->jA (pre++a) x≠0->jr pre (a++x::b)=(jA (pre++a) x,(((pre++a).length:Nat):Int))
 | [],b,pre,x,_,h=>by
  rw[aEk]at h |-
  rw[aD8]
  unfold jr
  rw[aC9 h]
 | y::a,b,pre,x,hv,h=>by
  rw[aEp]
  unfold jr
  rw[aDb hv.1,Af (a:=a) hv.2 (by rw[aDz]; exact h),aDz]
  rfl
abbrev Jf{pre:List aO}{x:aO}(h:x.chk≠0):jA pre x=x.chk:=by unfold jA; rw[aDb h]
def aO.moved(n:aO)(root to:Int):aO:={n with depth:=IntKind.i64.wrap (n.depth+IntKind.i64.wrap (to-root))}
def fU(l:List aO)(e:bI):Except Int (List aO):=
 if e.kind=3 then (match jo l e.id with
  | none => .error 8
  | some i=>if e.index<0∨((vG l i (kN l i)).length:Int)<e.index then .error 6
   else .ok (Gv (vG l i (kN l i)) e.index.toNat ((Es l i (kN l i)).map λn=>n.moved (Bl l i) e.depth)))
 else gK l e
noncomputable def P9(s:aY)(e:bI):aY×Int:=
 if s.valid=false then (.zero,18)else if e.named=false then (.zero,2)else
 match fU s.ns e with
 | .error n=>(.zero,n)
 | .ok l=>if (s.with' e l).chk.1=0 then (s.with' e l,0)else (.zero,(s.with' e l).chk.1)
abbrev XF{n:aO}(D:0<=n.depth∧n.depth<8)(J:0<=root∧root<8)(S:0<=to∧to<=8):n.moved root to=n.ae6 root to:=by
 unfold aO.moved aO.ae6;rw[aC9 Z];have:IntKind.i64.wrap (n.depth+IntKind.i64.wrap (to-root))=n.depth-root+to:=by rw[aE9,aE9]; omega
 rw[this]
abbrev abS(J:0<=root∧root<8)(D:I64 to):IntKind.i64.wrap (root+IntKind.i64.wrap (to-root))=to:=by
 have:=D.1; have:=D.2;rw[aE9,aE9]; omega
abbrev NT{s:aY}{e:bI}(hd:I64 e.depth):P9 s e=dL s e:=by
 unfold P9 dL;cases hv:s.valid with
 | false=>rfl
 | true =>
  rw[aC9 O,aC9 (show ¬true=false by decide)];obtain⟨J,D,S⟩:=aY.kU.1 hv;cases hn:e.named with
  | false=>rfl
  | true =>
   rw[aC9 (show ¬true=false by decide),aC9 (show ¬true=false by decide)];unfold fU;by_cases hk:e.kind=3
   .rw[aDb hk];unfold gK;rw[aC9 Z,aC9 Z,aDb hk];cases hf:jo s.ns e.id with
    | none=>rfl
    | some i =>
     simp only;obtain⟨D,J⟩:=vF hf;obtain⟨J,e2⟩:=Dn D;by_cases hx:e.index<0∨((vG s.ns i (kN s.ns i)).length:Int)<e.index
     .simp only[aDb hx]
     simp only[aC9 hx];have hr:=S.depth _ (aDI D);have hc:=S.vG D;rw[Dl D];by_cases ht:0<=e.depth∧e.depth<=8
     .have:(Es s.ns i (kN s.ns i)).map (λn=>n.moved s.ns[i].depth e.depth)=(Es s.ns i (kN s.ns i)).map (λn=>n.ae6 s.ns[i].depth e.depth):=
       List.map_congr_left λn hn=>XF (S.depth n (ae7 hn)) hr ht
      rw[this]
     
     have key:∀(f:aO->aO),(f s.ns[i]).chk=6->(s.with' e (Gv (vG s.ns i (kN s.ns i)) e.index.toNat ((Es s.ns i (kN s.ns i)).map f))).chk=(6,e.index):=by
      intro f J;have aa:=Je (l:=s.ns) (i:=i) (j:=kN s.ns i) Z e2;have ab:e.index.toNat<=(vG s.ns i (kN s.ns i)).length:=Z
      show aY.chk ⟨s.w,s.h,_,_⟩=_;unfold aY.chk;simp only;rw[aC9 Z,aC9 (by rw[TR ab,aEh]; omega)];rw[abR D];unfold Gv;rw[aD1,aDz,aEp];have h6:jA ([]++(vG s.ns i (kN s.ns i)).take e.index.toNat) (f s.ns[i])=6:=by rw[Jf (by rw[J]; decide),J]
      rw[Af (hc.take _) (by rw[h6]; decide),h6];congr 1;rw[aD8,aD4]; omega
     have J:=(Bo.1 S).1 _ (aDI D);rw[key _ (by
      show({s.ns[i]with depth:=_}:aO).chk=6;rw[abS hr hd,K17 J,aC9 Z])]
     rw[key _ (by
      unfold aO.ae6;rw[aDb Z,K17 J,aC9 Z])]
     rfl
   simp only[aC9 hk]<;>rfl
