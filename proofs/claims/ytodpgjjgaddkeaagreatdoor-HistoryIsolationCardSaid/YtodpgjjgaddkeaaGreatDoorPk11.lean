/- Walks of the reference on -/
import Derived.Test.YtodpgjjgaddkeaaGreatDoorPk10
import Derived.Maps.Own
import Derived.Maps.Views
set_option maxRecDepth 100000
set_option maxHeartbeats 9999999
open Go renaming World->E5,Value->y9,Calls->Nq,Program->Ë,wpList->Ã,TypeId->Ð,execOp->Í
set_option linter.unusedVariables false
set_option linter.unusedSimpArgs false
open Go.Proofs.Tryz Go.RowKit Go.Maps Go.Proofs.Õ Go.Rel
namespace Go.Proofs.Õ
section
open Na
variable{α:Type}
abbrev IW{w w1:E5}{A:Array y9}{ta tb:Ð}{x0 x1 J S:y9}(D:Ext ((w.alloc (.cells A ta)).alloc (.cells #[x0,x1,J,S] tb)) w1) :
  (∀i,w1.cell? ⟨w.heap.size,i,none⟩=A[i]?)∧(∀i,w1.cell? ⟨w.heap.size+1,i,none⟩ = #[x0,x1,J,S][i]?)∧(∀i,w1.frozen? ⟨w.heap.size+1,i,none⟩=false)∧w.heap.size+1<w1.heap.size:=by
 refine⟨λi=>?_,λi=>?_,λi=>?_,by have:=D.size; simp at this; omega⟩
 .rw[D.cell (p:=⟨w.heap.size,i,none⟩) (by simp; omega)]; simp[go_sem]
 .rw[D.cell (p:=⟨w.heap.size+1,i,none⟩) Y]; simp[go_sem]
 rw[D.frozen (p:=⟨w.heap.size+1,i,none⟩) Y]; simp[go_sem]
abbrev zZ(n1 J:Bool)(s1 s2:y9)(l m:List UInt32)(w:E5)(h1:aH w s1 l)(h2:aH w s2 m)(ag:l.length<=5000000)(ah:m.length<=5000000) :
  Nq prog 125 #[.agg #[.b n1,s1,.b J,s2]] w λe w'=>∃x,e = .R x∧dR w.heap.size w' x (nrm n1 J (TR l) (TR m))∧Ext w w':=by
 obtain⟨a1,c1,rfl⟩:=h1.shape;obtain⟨a2,c2,rfl⟩:=h2.shape;have aa:=(aI w (.cells #[.b n1,.s a1 l.length c1,.b J,.s a2 m.length c2] 26)).alloc Y (.cells #[.z,.sn,.z,.sn] 26);have hS:=sD J _ m _ (h2.below aa) Z;have H:=FU (And.intro h1 h2);have ae:=FU aa;rcases ė (TR m)with hm | hm
 .have hN:nrm n1 J (TR l) (TR m)=(false,0,1):=by unfold nrm; rw[Á hm]
  rw[hN];rw[hm,show qF J 0=0 from rfl]at hS;have HS:=FU hS;clear h1 h2 aa hm hN hS;go_enter func125,ntmps125
  go_wp2_with fail
  refine HS.out.mono ?_;rintro e w1 ⟨rfl,hb⟩;have HX:=FU (Ip ae.out hb);have HY:=FU (jy 0 w1 O);have S:=FU hb;clear hb HS;go_wp2_with fail
  refine HY.out.mono ?_;rintro e w2 ⟨x,rfl,hx,D⟩;obtain⟨b1,d1,b2,d2,rfl⟩:=hx.shape;obtain⟨-,r1,f1,hz⟩:=IW (Ip S.out D);obtain⟨-,-,-,ac⟩:=IW S.out;have F:=FU hx;have ab:=FU (Ip HX.out D);clear hx D HY;go_wp2_with fail
  refine bodyPost_ret (v := .agg #[.z,.s b1 (RI 0).length d1,.z,.s b2 (RI 1).length d2]) (by simp[results,results125,go_sem,r1]) I ⟨_,I,?_,rE ab.out Z _ _ _ _⟩;exact(F.out.Qb ac _ _ _ _).mono Z
 have hN:nrm n1 J (TR l) (TR m)=(mF n1 J (TR l) (TR m),TR l/Nat.gcd (TR l) (TR m),TR m/Nat.gcd (TR l) (TR m)):=by unfold nrm; rw[UQ Z]
 obtain⟨⟨NG,Ó,af⟩,hr⟩:∃r,nrm n1 J (TR l) (TR m)=r:=⟨_,I⟩;rw[hr];rw[hN]at hr;obtain⟨e1,hr⟩:=ϗ hr;obtain⟨e2,e3⟩:=ϗ hr;have E:=FU (And.intro e1 (And.intro e2 e3));clear e1 e2 e3 hr hN;have ai:(qF J (TR m)==0)=false:=by
  rw[õ]; unfold qF; rw[UQ Z]; cases J<;>simp
 have HM:=FU hm;have HS:=FU hS;clear h1 h2 aa hm hS;go_enter func125,ntmps125
 go_wp2_with fail
 refine HS.out.mono ?_;rintro e w1 ⟨rfl,hb⟩;have hX:=Ip ae.out hb;have HX:=FU hX;have hY:=MH n1 J _ _ l m w1 (H.out.1.below hX) (H.out.2.below hX) HM.out ag ah;rw[E.out.1,E.out.2.1,E.out.F]at hY;have HY:=FU hY;clear hY;have S:=FU hb;obtain⟨J,-,-,-⟩:=IW hb;clear hb HS hX;go_wp2_with fail
 refine HY.out.mono ?_;rintro e w2 ⟨x,rfl,hx,D⟩;obtain⟨b1,d1,b2,d2,rfl⟩:=hx.shape;obtain⟨-,r1,f1,hz⟩:=IW (Ip S.out D);obtain⟨-,-,-,ac⟩:=IW S.out;have F:=FU hx;have ab:=FU (Ip HX.out D);clear hx D HY J;go_wp2_with fail
 refine bodyPost_ret (v := .agg #[.b NG,.s b1 (RI Ó).length d1,.z,.s b2 (RI af).length d2]) (by simp[results,results125,go_sem,r1]) I ⟨_,I,?_,rE ab.out Z _ _ _ _⟩;exact(F.out.Qb ac _ _ _ _).mono (show w.heap.size<=w1.heap.size by omega)
abbrev FI(n1 n2:Bool)(s1 s2:y9)(l m:List UInt32)(w:E5)(D:aH w s1 l)(S:aH w s2 m) :
  Nq prog 241 #[.agg #[.b n1,s1],.agg #[.b n2,s2]] w (Ï w (.b (n1==n2&&l==m))):=by
 obtain⟨a1,c1,rfl⟩:=D.shape;obtain⟨a2,c2,rfl⟩:=S.shape;have J:=D.len;have ai:=S.len;unfold maxLen at J ai;have J:=FU ((aI w (.cells #[.b n1,.s a1 l.length c1] 24)).alloc Y (.cells #[.b n2,.s a2 m.length c2] 24));have H1:=FU D;have H2:=FU S;clear D S;by_cases hn:n1=n2
 .subst hn;by_cases hl:l.length=m.length
  .have HL:=FU hl;obtain⟨W,D⟩:∃W,((w.alloc (.cells #[.b n1,.s a1 l.length c1] 24)).alloc (.cells #[.b n1,.s a2 m.length c2] 24))=W:=⟨_,I⟩;have hK:∀w1,Ext W w1->w1.cell? ⟨w.heap.size,1,none⟩=some (.s a1 l.length c1)∧w1.cell? ⟨w.heap.size+1,1,none⟩=some (.s a2 m.length c2):=by
    intro w1 S;subst D;constructor
    .rw[S.cell (p:=⟨w.heap.size,1,none⟩) (by simp; omega)]; simp[go_sem]
    rw[S.cell (p:=⟨w.heap.size+1,1,none⟩) Y]; simp[go_sem]
   have HK:=FU hK;rw[D]at J;have HW:=FU D;have ac:((l.length:Int) != (m.length:Int))=false:=by rw[bne_eq_false_iff_eq]; omega
   have am:m.length<=l.length:=ϛ hl.symm;have an:l.length<=m.length:=ϛ hl;clear hl hK D;cases n1;all_goals
    go_enter func241,ntmps241
    go_wp2_with fail
    rw[HW.out]
    clear ac
    go_loopw [5] (λi wr=>∃k:Nat,i = .i k∧k<=l.length∧l.take k=m.take k∧Ext W wr) (λi _=>l.length-(intOf i).toNat)
    case atStart=>exact⟨0,I,Î _,I,ø _ _⟩
    case round =>
     obtain⟨k,rfl,hk,ht,D⟩:=hrel
     have HT:=FU ht
     clear ht
     obtain⟨q1,q2⟩:=HK.out wr D
     by_cases hlt:k<l.length
     .obtain⟨bx,ox,cx,hxs,hbx,hlx,hmx,hcx⟩:=dO H1.out I Z
      obtain⟨af,oy,cy,ag,al,ao,ap,ah⟩:=dO H2.out I Z
      simp only[Ĉ]at hxs ag
      obtain⟨rfl,-,-⟩:=hxs
      obtain⟨rfl,-,-⟩:=ag
      have ae:k<m.length:=Z
      have S:=Ip J.out D
      have r1:wr.cell? ⟨bx,ox+k,none⟩=some (bn l[k]):=by rw[S.cell (p:=⟨bx,ox+k,none⟩) hbx]; exact hcx k hlt
      have r2:wr.cell? ⟨af,oy+k,none⟩=some (bn m[k]):=by rw[S.cell (p:=⟨af,oy+k,none⟩) al]; exact ah k ae
      have aa:=take_snoc l k hlt
      have ab:=take_snoc m k ae
      clear hcx ah S
      have S:(k:Int)<(m.length:Int):=Z
      by_cases he:l[k]=m[k]
      .have hnx:l.take (k+1)=m.take (k+1):=by rw[aa,ab,HT.out,he]
       rw[he]at r1
       have S:=FU hnx
       generalize m[k]=d at *
       clear aa ab hnx he
       go_wp2_with fail
       go_quiet (fail)
       go_wp2_with fail
       go_roundw
       case rel=>exact⟨k+1,by go_num,Z,S.out,below_drewN D _⟩
       case measure=>simp[intOf]; omega
      .have hx:((l[k].toNat:Int) != (m[k].toNat:Int))=true:=by
        rw[bne_iff_ne]; intro e; exact he (Ř.1 Z)
       have S:l≠m:=λe=>he (by subst e; rfl)
       have HR:Hid ((l==m)=false):=õ.2 S
       generalize l[k]=d1 at *
       generalize m[k]=d2 at *
       clear aa ab he S
       go_wp2_with fail
       go_quiet (fail)
       go_wp2_with fail
       go_ret
       exact⟨by rw[HR.out]; rfl,below_drewN (Ip J.out D) _⟩
     .obtain rfl:k=l.length:=by omega
      have S:l=m:=by
       have:=HT.out
       rw[ħ,HL.out,ħ]at this; exact this
      have HR:Hid ((l==m)=true):=ß.2 S
      clear S
      go_wp2_with fail
      go_ret
      exact⟨by rw[HR.out]; rfl,Ip J.out D⟩
  have ac:((l.length:Int) != (m.length:Int))=true:=by rw[bne_iff_ne]; omega
  have S:Hid ((n1==n1&&l==m)=false):=by
   show _=_;rw[Ų,Ł,õ]; exact λe=>hl (by rw[e])
  clear hl;cases n1;all_goals
   go_enter func241,ntmps241
   go_wp2_with fail
   go_ret
   exact⟨by rw[S.out]; rfl,J.out⟩
 have S:Hid ((n1==n2&&l==m)=false):=by
  show _=_;rw[õ.2 hn,ŕ]
 cases n1<;>cases n2
 .exact absurd I hn
 case' true.true=>exact absurd I hn
 all_goals
  clear hn
  go_enter func241,ntmps241
  go_wp2_with fail
  go_ret
  exact⟨by rw[S.out]; rfl,J.out⟩
abbrev nN(v:y9)(q:Bool×Nat×Nat)(K:Nat)(w:E5)(h:fB K w v q)(D:K<=1000000) :
  Nq prog 125 #[v] w λe w'=>∃x,e = .R x∧dR w.heap.size w' x q∧Ext w w':=by
 obtain⟨n1,s1,D,J,s2,S,rfl,h1,h2,h3,h4,rfl⟩:=h;exact zZ n1 J s1 s2 D S w h1 h2 Z Z
abbrev NV(t:bD)(w:E5) :
  Nq prog 153 #[t.v] w λe w'=>∃b,e = .R (.s (some ⟨b,0,none⟩) 6 6)∧w.heap.size<=b∧Bx w' b t.cells.toArray∧Ext w w':=by
 skip;refine Ä func153 ntmps153 λS=>Â S λu b2 J D S=>O1 S 13 [] [.M 0 0,.M 0 4,.M 0 8,.M 0 12,.M 0 16,.M 0 20] λS=>Â S λu b6 J D S=>Xe S (.s (some ⟨b6,0,none⟩) 6 6) λS=>?_;exact⟨b6,I,S.old 0,S.kV 0,S.E⟩
end
section
open Na
variable{α:Type}{K:Nat}
def bH.same(r s:bH):Bool:=(r.n1==s.n1&&r.l1==s.l1)&&(r.n2==s.n2&&r.l2==s.l2)
def bD.same(t u:bD):Bool:=t.a.same u.a&&(t.b.same u.b&&(t.c.same u.c&&(t.d.same u.d&&(t.e.same u.e&&t.f.same u.f))))
def bH.Is(r:bH)(q:Bool×Nat×Nat):Prop:=r.n1=q.1∧r.l1=RI q.2.1∧r.n2=false∧r.l2=RI q.2.2
def bD.Is(t:bD)(Q:Q6):Prop:=t.a.Is Q.a∧t.b.Is Q.b∧t.c.Is Q.c∧t.d.Is Q.d∧t.e.Is Q.e∧t.f.Is Q.f
variable{t2:bD}{r:bH}{v1 v2:y9}
abbrev nO{s:bH}{D J:Bool×Nat×Nat}(h:r.Is D)(k:s.Is J):r.same s=decide (D=J):=by
 obtain⟨a,b,c⟩:=D;obtain⟨D,b',S⟩:=J;obtain⟨D,J,S,e4⟩:=h;obtain⟨f1,f2,f3,f4⟩:=k;have hd:∀m n:Nat,RI m=RI n↔m=n:=λm n=>⟨λh=>by rw[<-RH m,h,RH],λh=>by rw[h]⟩;rw[ŉ];simp only[bH.same,D,J,S,e4,f1,f2,f3,f4,Û,ß,Þ,Ê,hd,true_and];exact⟨λh=>⟨h.1.1,h.1.2,h.2⟩,λh=>⟨⟨h.1,h.2.1⟩,h.2.2⟩⟩
def Xy(w:E5)(v:y9)(t:bD):Prop:=∃b,v = .s (some ⟨b,0,none⟩) 6 6∧Bx w b t.cells.toArray
abbrev Xy.ext{w w':E5}{v:y9}{t:bD}(h:Xy w v t)(D:Ext w w'):Xy w' v t:=by
 obtain⟨b,e,Ó⟩:=h; exact⟨b,e,Ó.ext D⟩
def TG(base:Nat)(w:E5)(t:bD)(Q:Q6):Prop:=dR base w t.a.v Q.a∧dR base w t.b.v Q.b∧dR base w t.c.v Q.c∧dR base w t.d.v Q.d∧dR base w t.e.v Q.e∧dR base w t.f.v Q.f
abbrev TG.ext{base:Nat}{w w':E5}{t:bD}{Q:Q6}(h:TG base w t Q)(D:Ext w w'):TG base w' t Q:=⟨h.1.ext D,h.2.1.ext D,h.D.ext D,h.C.ext D,h.A.ext D,h.J.ext D⟩
def Df(base:Nat)(w:E5)(v:y9)(Q:Q6):Prop:=∃t:bD,v=t.v∧TG base w t Q
abbrev Df.ext{base:Nat}{w w':E5}{v:y9}{Q:Q6}(h:Df base w v Q)(D:Ext w w'):Df base w' v Q:=by
 obtain⟨t,e,Ó⟩:=h; exact⟨t,e,Ó.ext D⟩
def Q6.same(P Q:Q6):Bool:=decide (P.a=Q.a)&&(decide (P.b=Q.b)&&(decide (P.c=Q.c)&&(decide (P.d=Q.d)&&(decide (P.e=Q.e)&&decide (P.f=Q.f)))))
abbrev Df.mono{b b':Nat}{w:E5}{v:y9}{Q:Q6}(h:Df b w v Q)(D:b'<=b):Df b' w v Q:=by
 obtain⟨t,e,J,S,h2,h3,h4,h5⟩:=h; exact⟨t,e,J.mono D,S.mono D,h2.mono D,h3.mono D,h4.mono D,h5.mono D⟩
abbrev aiS{t u:bD}{P Q:Q6}(h:t.Is P)(k:u.Is Q):t.same u=P.same Q:=by
 unfold bD.same Q6.same;rw[nO h.1 k.1,nO h.2.1 k.2.1,nO h.D k.D,nO h.C k.C,nO h.A k.A,nO h.J k.J]
abbrev Xz{base:Nat}{w:E5}{t:bD}{Q:Q6}(h:TG base w t Q):∃r:bD,t.v=r.v∧r.ok w∧r.Is Q:=by
 obtain⟨D,J,S,h3,h4,h5⟩:=h;obtain⟨r0,e0,a0,z0⟩:=K04 D;obtain⟨D,e1,a1,z1⟩:=K04 J;obtain⟨J,e2,a2,z2⟩:=K04 S;obtain⟨S,e3,a3,z3⟩:=K04 h3;obtain⟨r4,e4,a4,z4⟩:=K04 h4;obtain⟨r5,e5,a5,z5⟩:=K04 h5;refine⟨⟨r0,D,J,S,r4,r5⟩,?_,⟨a0,a1,a2,a3,a4,a5⟩,z0,z1,z2,z3,z4,z5⟩;have key:∀{x y:bH},x.v=y.v->x.cells=y.cells:=λh=>by
  unfold bH.v at h;simp only[ů,Ů]at h;exact h
 unfold bD.v bD.cells;rw[key e0,key e1,key e2,key e3,key e4,key e5]
abbrev nP{s:bH}{w:E5}(h:r.ok w)(k:s.ok w) :
  Nq prog 201 #[r.v,s.v] w (Ï w (.b (r.same s))):=by
 skip;refine Ä func201 ntmps201 λS=>Â S λu b2 J D S=>Â S λu b5 J D S=>O1 S 5 [] [.M 1 0,.M 0 0] λS=>ð S (FI r.n1 s.n1 r.s1 s.s1 r.l1 s.l1 _ (h.1.below S.E) (k.1.below S.E)) λu D S=>ī S 8 [.M 1 2,.M 0 2] [(_,_,(r.n1==s.n1&&r.l1==s.l1),.b (r.n2==s.n2&&r.l2==s.l2))] [(4,.b ((r.n1==s.n1&&r.l1==s.l1)&&(r.n2==s.n2&&r.l2==s.l2)))] ⟨λu D g=>FI r.n2 s.n2 r.s2 s.s2 r.l2 s.l2 _ (h.2.below (Ip S.E D)) (k.2.below (Ip S.E D)),G⟩ λu J S=>Xe S (.b ((r.n1==s.n1&&r.l1==s.l1)&&(r.n2==s.n2&&r.l2==s.l2))) λS=>?_;exact⟨I,S.E⟩
abbrev Qc{w:E5}{t:bD}(D:Xy w v1 t)(J:Xy w v2 t2)(h:t.ok w)(k:t2.ok w) :
  Nq prog 152 #[v1,v2] w (Ï w (.b (t.same t2))):=by
 obtain⟨b1,rfl,X1⟩:=D;obtain⟨b2,rfl,X2⟩:=J;obtain⟨h0,D,J,h3,h4,h5⟩:=h;obtain⟨k0,k1,k2,k3,k4,k5⟩:=k;refine Ä func152 ntmps152 λS=>?_;have S:=S.view0 X1.1 (X1.range 0 24 I);have S:=S.view0 X2.1 (X2.range 0 24 I);refine ă S λS=>Sx.Š S 6 λS=>ã S λS=>ć S 10 [.M 1 0,.M 0 0] [(_,_,true,.b (t.a.same t2.a))] [(26,.b (!(t.a.same t2.a)))] ⟨λu hC g=>nP (r:=t.a) (s:=t2.a) (h0.below (Ip S.E hC)) (k0.below (Ip S.E hC)),G⟩ λu SE S=>À S (!(t.a.same t2.a)) (λfJ S=>?_) λfJ S=>?_
 .have g0:t.a.same t2.a=false:=by simpa using fJ
  refine Xe S (.z) λS=>?_;exact⟨aJ (by simp only[bD.same,g0,Ł,ŕ]),S.E⟩
 refine ã S λS=>ć S 10 [.M 1 4,.M 0 4] [(_,_,true,.b (t.b.same t2.b))] [(26,.b (!(t.b.same t2.b)))] ⟨λu hC g=>nP (r:=t.b) (s:=t2.b) (D.below (Ip S.E hC)) (k1.below (Ip S.E hC)),G⟩ λu Ak S=>À S (!(t.b.same t2.b)) (λD S=>?_) λD S=>?_
 .have g0:t.a.same t2.a=true:=by simpa using fJ
  have g1:t.b.same t2.b=false:=by simpa using D
  refine Xe S (.z) λS=>?_;exact⟨aJ (by simp only[bD.same,g0,g1,Ł,ŕ]),S.E⟩
 refine ã S λS=>ć S 10 [.M 1 8,.M 0 8] [(_,_,true,.b (t.c.same t2.c))] [(26,.b (!(t.c.same t2.c)))] ⟨λu hC g=>nP (r:=t.c) (s:=t2.c) (J.below (Ip S.E hC)) (k2.below (Ip S.E hC)),G⟩ λu ED S=>À S (!(t.c.same t2.c)) (λJ S=>?_) λJ S=>?_
 .have g0:t.a.same t2.a=true:=by simpa using fJ
  have g1:t.b.same t2.b=true:=by simpa using D
  have g2:t.c.same t2.c=false:=by simpa using J
  refine Xe S (.z) λS=>?_;exact⟨aJ (by simp only[bD.same,g0,g1,g2,Ł,ŕ]),S.E⟩
 refine ã S λS=>ć S 10 [.M 1 12,.M 0 12] [(_,_,true,.b (t.d.same t2.d))] [(26,.b (!(t.d.same t2.d)))] ⟨λu hC g=>nP (r:=t.d) (s:=t2.d) (h3.below (Ip S.E hC)) (k3.below (Ip S.E hC)),G⟩ λu Bg S=>À S (!(t.d.same t2.d)) (λaa S=>?_) λaa S=>?_
 .have g0:t.a.same t2.a=true:=by simpa using fJ
  have g1:t.b.same t2.b=true:=by simpa using D
  have g2:t.c.same t2.c=true:=by simpa using J
  have g3:t.d.same t2.d=false:=by simpa using aa
  refine Xe S (.z) λS=>?_;exact⟨aJ (by simp only[bD.same,g0,g1,g2,g3,Ł,ŕ]),S.E⟩
 refine ã S λS=>ć S 10 [.M 1 16,.M 0 16] [(_,_,true,.b (t.e.same t2.e))] [(26,.b (!(t.e.same t2.e)))] ⟨λu hC g=>nP (r:=t.e) (s:=t2.e) (h4.below (Ip S.E hC)) (k4.below (Ip S.E hC)),G⟩ λu ac S=>À S (!(t.e.same t2.e)) (λab S=>?_) λab S=>?_
 .have g0:t.a.same t2.a=true:=by simpa using fJ
  have g1:t.b.same t2.b=true:=by simpa using D
  have g2:t.c.same t2.c=true:=by simpa using J
  have g3:t.d.same t2.d=true:=by simpa using aa
  have g4:t.e.same t2.e=false:=by simpa using ab
  refine Xe S (.z) λS=>?_;exact⟨aJ (by simp only[bD.same,g0,g1,g2,g3,g4,Ł,ŕ]),S.E⟩
 refine ã S λS=>ć S 10 [.M 1 20,.M 0 20] [(_,_,true,.b (t.f.same t2.f))] [(26,.b (!(t.f.same t2.f)))] ⟨λu hC g=>nP (r:=t.f) (s:=t2.f) (h5.below (Ip S.E hC)) (k5.below (Ip S.E hC)),G⟩ λu ae S=>À S (!(t.f.same t2.f)) (λXA S=>?_) λXA S=>?_
 .have g0:t.a.same t2.a=true:=by simpa using fJ
  have g1:t.b.same t2.b=true:=by simpa using D
  have g2:t.c.same t2.c=true:=by simpa using J
  have g3:t.d.same t2.d=true:=by simpa using aa
  have g4:t.e.same t2.e=true:=by simpa using ab
  have g5:t.f.same t2.f=false:=by simpa using XA
  refine Xe S (.z) λS=>?_;exact⟨aJ (by simp only[bD.same,g0,g1,g2,g3,g4,g5,Ł,ŕ]),S.E⟩
 refine ă S λS=>?_;have g0:t.a.same t2.a=true:=by simpa using fJ
 have g1:t.b.same t2.b=true:=by simpa using D
 have g2:t.c.same t2.c=true:=by simpa using J
 have g3:t.d.same t2.d=true:=by simpa using aa
 have g4:t.e.same t2.e=true:=by simpa using ab
 have g5:t.f.same t2.f=true:=by simpa using XA
 refine Xe S (.b true) λS=>?_;exact⟨aJ (by simp only[bD.same,g0,g1,g2,g3,g4,g5,Ł,ŕ]),S.E⟩
abbrev FK(v:y9)(Q:Q6)(K:Nat)(w:E5)(h:nC K w v Q)(D:1<=K)(J:K<=10000) :
  Nq prog 106 #[v] w λe w'=>∃x,e = .R x∧Df w.heap.size w' x Q∧Ext w w':=by
 have J:=h;obtain⟨J,ab,ac,ae,af,ag⟩:=h.nrm;obtain⟨J,ah,ai,al,am,an⟩:=h.len D;obtain⟨t,rfl,J,h1,h2,h3,h4,h5⟩:=h.sQ;refine Ä func106 ntmps106 λS=>Ú S t.cells λu b2 E3 D S=>Ú S Sx.za λu b5 E6 D S=>Sx.jm S 18 [(5,λv w1=>dR w.heap.size w1 v Q.a),(8,λv w1=>dR w.heap.size w1 v Q.b),(11,λv w1=>dR w.heap.size w1 v Q.c),(14,λv w1=>dR w.heap.size w1 v Q.d),(17,λv w1=>dR w.heap.size w1 v Q.e),(20,λv w1=>dR w.heap.size w1 v Q.f)] (λr=>[.M 1 0,.M 1 4,.M 1 8,.M 1 12,.M 1 16,.M 1 20]) (λx=>[x 5,x 8,x 11,x 14,x 17,x 20]) (λx=>[(_,_,true,x 5,5),(_,_,true,x 8,8),(_,_,true,x 11,11),(_,_,true,x 14,14),(_,_,true,x 17,17),(_,_,true,x 20,20)]) [[],[],[],[],[],[]] (λx=>[(5,x 5),(8,x 8),(11,x 11),(14,x 14),(17,x 17),(20,x 20)]) ⟨λ_ _ _ k h=>h.ext k,λ_ _ _ k h=>h.ext k,λ_ _ _ k h=>h.ext k,λ_ _ _ k h=>h.ext k,λ_ _ _ k h=>h.ext k,λ_ _ _ k h=>h.ext k,G⟩ (λx=>⟨by intro u D g F; exact(nN _ Q.a K _ (J.below (Ip S.E D)) Z).mono λe w2 h=>by obtain⟨y,rfl,J,hb⟩:=h; exact⟨_,I,J.mono ((Ip S.E D)).size,hb⟩,by intro u D g F; exact(nN _ Q.b K _ (h1.below (Ip S.E D)) Z).mono λe w2 h=>by obtain⟨y,rfl,J,hb⟩:=h; exact⟨_,I,J.mono ((Ip S.E D)).size,hb⟩,by intro u D g F; exact(nN _ Q.c K _ (h2.below (Ip S.E D)) Z).mono λe w2 h=>by obtain⟨y,rfl,J,hb⟩:=h; exact⟨_,I,J.mono ((Ip S.E D)).size,hb⟩,by intro u D g F; exact(nN _ Q.d K _ (h3.below (Ip S.E D)) Z).mono λe w2 h=>by obtain⟨y,rfl,J,hb⟩:=h; exact⟨_,I,J.mono ((Ip S.E D)).size,hb⟩,by intro u D g F; exact(nN _ Q.e K _ (h4.below (Ip S.E D)) Z).mono λe w2 h=>by obtain⟨y,rfl,J,hb⟩:=h; exact⟨_,I,J.mono ((Ip S.E D)).size,hb⟩,by intro u D g F; exact(nN _ Q.f K _ (h5.below (Ip S.E D)) Z).mono λe w2 h=>by obtain⟨y,rfl,J,hb⟩:=h; exact⟨_,I,J.mono ((Ip S.E D)).size,hb⟩,G⟩) λu x E9 F S=>?_;obtain⟨F5,F8,J,NW,MI,aa,-⟩:=F;obtain⟨ma,D⟩:=aC.iR F5;rw[D]at S F5;try rw[D]
 obtain⟨mb,D⟩:=aC.iR F8;rw[D]at S F8;try rw[D]
 obtain⟨mc,D⟩:=aC.iR J;rw[D]at S J;try rw[D]
 obtain⟨md,D⟩:=aC.iR NW;rw[D]at S NW;try rw[D]
 obtain⟨me,D⟩:=aC.iR MI;rw[D]at S MI;try rw[D]
 obtain⟨mf,D⟩:=aC.iR aa;rw[D]at S aa;try rw[D]
 have TJ:=S.bx 0;refine í S 0 (off:=0) (cs:=(ma.cells++mb.cells++mc.cells++md.cells++me.cells++mf.cells)) I λu D S=>?_;have wY:=aC.dZ F5 D TJ;have XB:=aC.dZ F8 D TJ;have xG:=aC.dZ J D TJ;have J:=aC.dZ NW D TJ;have Aa:=aC.dZ MI D TJ;have uI:=aC.dZ aa D TJ;refine ü S 0 I (v := .agg (ma.cells++mb.cells++mc.cells++md.cells++me.cells++mf.cells).toArray) λS=>?_;exact⟨_,I,⟨⟨ma,mb,mc,md,me,mf⟩,I,wY,XB,xG,J,Aa,uI⟩,S.E⟩
abbrev MJ{w:E5}{t:bD}(h:t.ok w)(k:t2.ok w) :
  Nq prog 105 #[t.v,t2.v] w (Ï w (.b (t.same t2))):=by
 skip;refine Ä func105 ntmps105 λS=>Â S λu b2 J D S=>Â S λu b5 J D S=>Sx.jm S 5 [(6,λv w1=>Xy w1 v t),(8,λv w1=>Xy w1 v t2)] (λr=>[.M 1 0,.M 0 0]) (λx=>[x 6,x 8,.b (t.same t2)]) (λx=>[(_,_,true,x 6,6),(_,_,true,x 8,8),(_,_,true,.b (t.same t2),9)]) [[],[],[6,8]] (λx=>[(9,.b (t.same t2))]) ⟨λ_ _ _ k h=>h.ext k,λ_ _ _ k h=>h.ext k,G⟩ (λx=>⟨by intro u D g F; exact(NV t _).mono λe w2 h=>by obtain⟨b,rfl,J,Ó,hb⟩:=h; exact⟨_,I,⟨b,I,Ó⟩,hb⟩,by intro u D g F; exact(NV t2 _).mono λe w2 h=>by obtain⟨b,rfl,J,Ó,hb⟩:=h; exact⟨_,I,⟨b,I,Ó⟩,hb⟩,by intro u D g F; obtain⟨J,F8,-⟩:=F; exact(Qc J F8 (h.below (Ip S.E D)) (k.below (Ip S.E D))).mono λe w2 h=>⟨_,h.1,I,h.2⟩,G⟩) λu x D F S=>?_;obtain⟨J,F8,-⟩:=F;refine Xe S (.b (t.same t2)) λS=>?_;exact⟨I,S.E⟩
abbrev TK{w:E5}{n1 D:Nat}{P Q:Q6}(h:Df n1 w v1 P)(k:Df D w v2 Q) :
  Nq prog 105 #[v1,v2] w (Ï w (.b (P.same Q))):=by
 obtain⟨t,rfl,h⟩:=h;obtain⟨t2,rfl,k⟩:=k;obtain⟨r,e,D,J⟩:=Xz h;obtain⟨s,S,ko,ki⟩:=Xz k;rw[e,S];exact(MJ D ko).mono λ_ _ h=>⟨h.1.trans (aJ (aiS J ki)),h.2⟩
abbrev Dh{w:E5}{P Q:Q6}{t:bD}(h:nC K w t.v P)(k:nC K w t2.v Q)(J:1<=K)(hK:K<=10000) :
  Nq prog 64 #[t.v,t2.v] w (Ï w (.b (P.same Q))):=by
 skip;refine Ä func64 ntmps64 λS=>Â S λu b2 E3 D S=>Â S λu b5 E6 D S=>Sx.jm S 5 [(6,λv w1=>Df w.heap.size w1 v P),(8,λv w1=>Df w.heap.size w1 v Q)] (λr=>[.M 1 0,.M 0 0]) (λx=>[x 6,x 8,.b (P.same Q)]) (λx=>[(_,_,true,x 6,6),(_,_,true,x 8,8),(_,_,true,.b (P.same Q),9)]) [[],[],[6,8]] (λx=>[(9,.b (P.same Q))]) ⟨λ_ _ _ k h=>h.ext k,λ_ _ _ k h=>h.ext k,G⟩ (λx=>⟨by intro u D g F; exact(FK _ P K _ (h.iT (Ip S.E D)) J hK).mono λe w2 h=>by obtain⟨y,rfl,hx,hb⟩:=h; exact⟨_,I,Df.mono hx ((Ip S.E D)).size,hb⟩,by intro u D g F; exact(FK _ Q K _ (k.iT (Ip S.E D)) J hK).mono λe w2 h=>by obtain⟨y,rfl,hx,hb⟩:=h; exact⟨_,I,Df.mono hx ((Ip S.E D)).size,hb⟩,by intro u D g F; obtain⟨D,J,-⟩:=F; exact(TK D J).mono λe w2 h=>⟨_,h.1,I,h.2⟩,G⟩) λu x E9 F S=>?_;obtain⟨D,J,-⟩:=F;refine Xe S (.b (P.same Q)) λS=>?_;exact⟨I,S.E⟩
end
section
abbrev NY.facts{q:Bool×Nat×Nat}(h:NY q):0<q.2.2∧Nat.Coprime q.2.1 q.2.2∧(q.1=true->0<q.2.1):=by
 obtain⟨n,a,b⟩:=q;unfold NY nrm at h;simp only at h |-;split at h
 .rename_i D;simp only[Ê]at h;omega
 rename_i D;simp only[Ê]at h;obtain⟨D,J,h3⟩:=h;have S:Nat.gcd a b=1:=by
  have J:0<b:=Z
  have:=Nat.div_mul_cancel (Ϙ a b);rw[h3]at this;exact Nat.eq_of_mul_eq_mul_left J Z
 refine⟨Z,S,λhn=>?_⟩;rw[hn]at D;unfold mF at D;rw[Û]at D;have:=D.2;rw[S,Nat.div_one]at this;simpa using this
abbrev uJ{p q:Bool×Nat×Nat}(D:NY p)(J:NY q):qB p q=decide (p=q):=by
 obtain⟨p1,p2,p3⟩:=D.facts;obtain⟨D,q2,S⟩:=J.facts;rw[ŉ];unfold qB nD;simp only[ß,Þ,Int.sign_eq_zero_iff_zero];constructor
 .intro h;obtain⟨n,a,b⟩:=p;obtain⟨m,c,d⟩:=q;simp only at *;have J:qz (n,a,b)*(d:Int)=qz (m,c,d)*(b:Int):=by simpa using (by omega:qz (n,a,b)*(d:Int)-qz (m,c,d)*(b:Int)=0->qz (n,a,b)*(d:Int)=qz (m,c,d)*(b:Int)) h
  have D:=Ñ Int.natAbs J;have S:∀(s:Bool) (x:Nat),(zv s x).natAbs=x:=by intro s x; unfold zv; split<;>simp
  unfold qz at J D;simp only[Int.natAbs_mul,S,ź]at D;have S:b∣d:=p2.symm.dvd_of_dvd_mul_left ⟨c,by rw[D,ĕ]⟩;have aa:d∣b:=q2.symm.dvd_of_dvd_mul_left ⟨a,by rw[<-D,ĕ]⟩;obtain rfl:b=d:=Nat.dvd_antisymm S aa;obtain rfl:a=c:=Nat.eq_of_mul_eq_mul_right p1 D;have D:zv n a=zv m a:=Int.eq_of_mul_eq_mul_right Z J;obtain rfl:n=m:=by
   unfold zv at D;cases n<;>cases m<;>simp at * <;> omega
  rfl
 intro h; rw[h]; omega
abbrev K06{P Q:Q6}(D:Di P)(J:Di Q):P.same Q=P.eq Q:=by
 unfold Q6.same Q6.eq;rw[uJ D.1 J.1,uJ D.2.1 J.2.1,uJ D.D J.D,uJ D.C J.C,uJ D.A J.A,uJ D.J J.J]
end
section
open Na
variable{α:Type}{K:Nat}
def bZ(l m:List ak):Bool:=decide (l.length=m.length)&&(l.zip m).all λp=>p.1.eq p.2
variable{m:List ak}{u:y9}{p q:dH}
abbrev aeQ{l:List ak}(h:((l.length:Int) != (m.length:Int))=true):false=bZ l m:=by
 have:l.length≠m.length:=λe=>by rw[e]at h; simp at h
 simp[bZ,this]
abbrev aai{l:List ak}{k:Nat}(hk:l.length<=k)(h:l.length=m.length)(D:((l.zip m).take k).all (λp=>p.1.eq p.2)=true):true=bZ l m:=by
 rw[Ď (by simp; omega)]at D;simp only[bZ,h,D,decide_true,Bool.and_self]
abbrev TL{l:List ak}{k:Nat}(J:k<l.length)(S:k<m.length)(D:((l.zip m).take k).all (λp=>p.1.eq p.2)=true)(h:(!(l[k].eq m[k]))=false):((l.zip m).take (k+1)).all (λp=>p.1.eq p.2)=true:=by
 rw[ĸ (by simp; omega),List.all_append,D];simp at h;simp[h]
abbrev aeR{l:List ak}{k:Nat}(D:k<l.length)(J:k<m.length)(h:(!(l[k].eq m[k]))=true):false=bZ l m:=by
 symm;rw[Bool.eq_false_iff];intro e;simp only[bZ,Û,ñ]at e;have:=e.2 (l[k],m[k]) (by rw[<-List.getElem_zip (h:=by simp; omega)]; exact ò _);simp[this]at h
abbrev Am{w:E5}{v:y9}{l m:List dL}(h:aG 7 dL.cells w v l)(h':aG 7 dL.cells w u m) :
  Nq prog 137 #[v,u] w (Ï w (.b (l=m))):=by
 skip;refine Ä func137 ntmps137 λS=>ð S (abK (l:=l) (m:=m) (h.below S.E) (h'.below S.E)) λu D S=>Xe S (.b (l=m)) λS=>?_;exact⟨I,S.E⟩
abbrev Dj{w:E5}{v:y9}{l:List ak}(h:iY w v l)(h':iY w u m)(hf:∀p∈l,p.t.fit K)(ai:∀p∈m,p.t.fit K)(al:1<=K)(hK:K<=10000) :
  Nq prog 138 #[v,u,.func (.func 139) #[] #[]] w (Ï w (.b (bZ l m))):=by
 obtain⟨a,cap,rfl⟩:=h.1.shape;obtain⟨d,cap',rfl⟩:=h'.1.shape;have D:l.length<=9223372036854775807:=h.1.len;refine Ä func138 ntmps138 λS=>À S (((l.length:Int)) != (m.length:Int)) (λJ S=>?_) λJ S=>?_
 .refine Xe S (.z) λS=>?_;exact⟨aJ (aeQ J),S.E⟩
 refine ĉ S (ι:=Nat) (λp D w'=>p<=l.length∧(((l.zip m).take p).all (λp=>p.1.eq p.2)=true)∧Sx.St w D w' 32 [(0,.s a l.length cap),(1,.s d m.length cap'),(2,.func (.func 139) #[] #[]),(6,.z),(15,.s a l.length cap),(16,.i l.length),(17,.i p)] [] []) (λp=>l.length-p) (0) (λS=>⟨Î _,I,S.qC⟩) ?_;rintro k ac u fQ eu D;try dsimp only at D
 obtain⟨hk,hR,S⟩:=D;refine Ċ S λS=>À S (decide ((k:Int)<(l.length:Int))) (λfD S=>?_) λfD S=>?_
 .have GN:k<l.length:=by have:=Ý fD; omega
  obtain⟨ap,aq,rfl,ab,TM,D,af⟩:=ý h.1 (λ_=>I) (k) GN;have S:=S.view0 D af;refine O1 S 3 [] [.idx k l.length,.M 0 0] (hk:=⟨GN,G⟩) λS=>Â S λu D L6 P5 S=>É S 0 I λu D S=>?_;have D:k<m.length:=by have:=mJ J; have:=Ý fD; omega
  obtain⟨ar,av,rfl,ae,aa,ag,ah⟩:=ý h'.1 (λ_=>I) (k) D;have S:=S.view0 ag ah;refine O1 S 4 [] [.idx k m.length,.M 1 0] (hk:=⟨D,G⟩) λS=>Â S λu am MC an S=>É S 0 I λu ao S=>O1 S 3 [] [.M 1 0,.M 0 0] λS=>ð S (xH (K:=K) (p:=ab) (q:=ae) ((h.2 _ (TM▸ò GN)).below S.E) ((h'.2 _ (aa▸ò D)).below S.E) (hf _ (TM▸ò GN)) (ai _ (aa▸ò D)) al hK) λu Mc S=>À S (!(ab.eq ae)) (λIX S=>?_) λIX S=>?_
  .refine Xe S (.z) λS=>?_;exact⟨aJ (aeR GN D (by rw[TM,aa]; exact IX)),S.E⟩
  refine O1 S 2 [] [kS 31 k] (hk:=⟨ù Z,G⟩) λS=>ċ S fQ λS=>?_;exact eu _ _ (k+1) ⟨Z,(TL GN D hR (by rw[TM,aa]; exact IX)),(S.gK 2).qC⟩ (by show _-_<_-_; omega)
 refine Xe S (.b true) λS=>?_;exact⟨aJ (aai (by have:=é fD; omega) (mJ J) hR),S.E⟩
def aj.ϣ(a b:aj):Bool:=cond (((((((((((a.id) != b.id)||((a.kind) != b.kind))||((a.depth) != b.depth))||((a.aP) != b.aP))||(((a.dJ.toNat:Int)) != (b.dJ.toNat:Int)))||((a.blend) != b.blend))||(!(a.isolated==b.isolated)))||(!(a.dA==b.dA)))||((a.aV) != b.aV))||((a.cZ) != b.cZ)) (false) (((((((a.t.q.eq b.t.q)&&(decide (a.clip=b.clip)))&&(decide (a.path=b.path)))&&(bZ a.fill b.fill))&&(bZ a.stroke b.stroke))&&(a.style.eq b.style))&&(a.img.eq b.img))
abbrev MK{w:E5}{a b:aj}(h:eH K w a)(h':eH K w b) :
  Nq prog 95 #[a.v,b.v] w (Ï w (.b (aj.ϣ a b))):=by
 skip;refine Ä func95 ntmps95 λS=>Â S λu b2 J D S=>Â S λu b5 J D S=>O1 S 69 [] [.M 1 0,.M 0 0,.M 1 1,.M 0 1,.M 1 2,.M 0 2,.M 1 28,.M 0 28,.M 1 29,.M 0 29,.M 1 30,.M 0 30,.M 1 31,.M 0 31,.M 1 32,.M 0 32,.M 1 34,.M 0 34,.M 1 46,.M 0 46] λS=>À S (((((((((((a.id) != b.id)||((a.kind) != b.kind))||((a.depth) != b.depth))||((a.aP) != b.aP))||(((a.dJ.toNat:Int)) != (b.dJ.toNat:Int)))||((a.blend) != b.blend))||(!(a.isolated==b.isolated)))||(!(a.dA==b.dA)))||((a.aV) != b.aV))||((a.cZ) != b.cZ)) (λJ S=>?_) λJ S=>?_
 .have p0:=J;refine Xe S (.z) λS=>?_;exact⟨aJ (by unfold aj.ϣ; simp only[p0,cond_true,cond_false]),S.E⟩
 refine O1 S 4 [] [.M 1 3,.M 0 3] λS=>ð S (Bh a.t.v b.t.v a.t.q b.t.q K _ ((bD.toQ h.1.C h.2.1).iT S.E) ((bD.toQ h'.1.C h'.2.1).iT S.E) h.A h.J) λu D S=>ī S 43 [.M 1 27,.M 0 27,.M 1 33,.M 0 33,.M 1 35,.M 0 35,.M 1 42,.M 0 42,.M 1 36,.M 0 36,.M 1 43,.M 0 43] [(_,_,(a.t.q.eq b.t.q),.b (a.clip=b.clip)),(_,_,((a.t.q.eq b.t.q)&&(decide (a.clip=b.clip))),.b (a.path=b.path)),(_,_,(((a.t.q.eq b.t.q)&&(decide (a.clip=b.clip)))&&(decide (a.path=b.path))),.b (bZ a.fill b.fill)),(_,_,((((a.t.q.eq b.t.q)&&(decide (a.clip=b.clip)))&&(decide (a.path=b.path)))&&(bZ a.fill b.fill)),.b (bZ a.stroke b.stroke)),(_,_,(((((a.t.q.eq b.t.q)&&(decide (a.clip=b.clip)))&&(decide (a.path=b.path)))&&(bZ a.fill b.fill))&&(bZ a.stroke b.stroke)),.b (a.style.eq b.style)),(_,_,((((((a.t.q.eq b.t.q)&&(decide (a.clip=b.clip)))&&(decide (a.path=b.path)))&&(bZ a.fill b.fill))&&(bZ a.stroke b.stroke))&&(a.style.eq b.style)),.b (a.img.eq b.img))] [(4,.b (((((((a.t.q.eq b.t.q)&&(decide (a.clip=b.clip)))&&(decide (a.path=b.path)))&&(bZ a.fill b.fill))&&(bZ a.stroke b.stroke))&&(a.style.eq b.style))&&(a.img.eq b.img)))] ⟨λu D g=>Am (l:=a.clip) (m:=b.clip) (h.1.2.2.2.2.1.1.below (Ip S.E D)) (h'.1.2.2.2.2.1.1.below (Ip S.E D)),λu D g=>Am (l:=a.path) (m:=b.path) (h.1.2.2.2.2.2.2.2.1.1.below (Ip S.E D)) (h'.1.2.2.2.2.2.2.2.1.1.below (Ip S.E D)),λu D g=>Dj (l:=a.fill) (m:=b.fill) (K:=K) (h.1.K.below (Ip S.E D)) (h'.1.K.below (Ip S.E D)) h.D h'.D h.A h.J,λu D g=>Dj (l:=a.stroke) (m:=b.stroke) (K:=K) (h.1.H.below (Ip S.E D)) (h'.1.H.below (Ip S.E D)) h.C h'.C h.A h.J,λu D g=>xI (p:=a.style) (q:=b.style) (h.1.Q.below (Ip S.E D)) (h'.1.Q.below (Ip S.E D)),λu D g=>vG (m:=a.img) (n:=b.img) (h.1.P.below (Ip S.E D)) (h'.1.P.below (Ip S.E D)),G⟩ λu wR S=>?_;have p0:=J;refine Xe S (.b (((((((a.t.q.eq b.t.q)&&(decide (a.clip=b.clip)))&&(decide (a.path=b.path)))&&(bZ a.fill b.fill))&&(bZ a.stroke b.stroke))&&(a.style.eq b.style))&&(a.img.eq b.img))) λS=>?_;exact⟨aJ (by unfold aj.ϣ; simp only[p0,cond_true,cond_false]),S.E⟩
abbrev Dk{w:E5}{v:y9}{l m:List dL}(h:aG 7 dL.cells w v l)(h':aG 7 dL.cells w u m) :
  Nq prog 65 #[v,u] w (Ï w (.b (l=m))):=by
 obtain⟨a,cap,rfl⟩:=h.shape;obtain⟨d,cap',rfl⟩:=h'.shape;have D:l.length<=9223372036854775807:=h.len;refine Ä func65 ntmps65 λS=>À S (((l.length:Int)) != (m.length:Int)) (λaa S=>?_) λaa S=>?_
 .refine Xe S (.z) λS=>?_;exact⟨aJ (nR aa),S.E⟩
 refine ĉ S (ι:=Nat) (λp D w'=>p<=l.length∧(l.take p=m.take p)∧Sx.St w D w' 26 [(0,.s a l.length cap),(1,.s d m.length cap'),(4,.z),(5,.i p)] [] []) (λp=>l.length-p) (0) (λS=>⟨Î _,I,S.qC⟩) ?_;rintro k J u fQ eu D;try dsimp only at D
 obtain⟨hk,hR,S⟩:=D;refine Ċ S λS=>À S (decide ((k:Int)<(l.length:Int))) (λfD S=>?_) λfD S=>?_
 .have oV:k<l.length:=by have:=Ý fD; omega
  obtain⟨J,ab,rfl,D,vH,xJ,Qd⟩:=ý h (λ_=>I) (k) oV;have S:=S.view0 xJ Qd;have mM:k<m.length:=by have:=(mJ aa); have:=Ý fD; omega
  obtain⟨ae,af,rfl,J,rF,ML,Qe⟩:=ý h' (λ_=>I) (k) mM;have S:=S.view0 ML Qe;refine ć S 9 [.idx k l.length,.M 1 0,.idx k m.length,.M 0 0,.cmp .neq 163 (.tmp 20) (.tmp 24) (.agg #[.i D.verb,.i D.a.x,.i D.a.y,.i D.b.x,.i D.b.y,.i D.c.x,.i D.c.y]) (.agg #[.i J.verb,.i J.a.x,.i J.a.y,.i J.b.x,.i J.b.y,.i J.c.x,.i J.c.y]) (.b (!((D.verb==J.verb)&&((D.a.x==J.a.x)&&((D.a.y==J.a.y)&&((D.b.x==J.b.x)&&((D.b.y==J.b.y)&&((D.c.x==J.c.x)&&(D.c.y==J.c.y)))))))))] [] [(25,.b (!((D.verb==J.verb)&&((D.a.x==J.a.x)&&((D.a.y==J.a.y)&&((D.b.x==J.b.x)&&((D.b.y==J.b.y)&&((D.c.x==J.c.x)&&(D.c.y==J.c.y)))))))))] trivial (hk:=⟨oV,mM,ı (λ_=>akU ..) X,G⟩) λu GL S=>À S (!((D.verb==J.verb)&&((D.a.x==J.a.x)&&((D.a.y==J.a.y)&&((D.b.x==J.b.x)&&((D.b.y==J.b.y)&&((D.c.x==J.c.x)&&(D.c.y==J.c.y)))))))) (λBj S=>?_) λBj S=>?_
  .refine Xe S (.z) λS=>?_;exact⟨aJ (sF oV mM (λe=>by have D:=Bj; rw[vH,rF]at e; subst e; simp at D)),S.E⟩
  refine O1 S 3 [] [kS 16 k] (hk:=⟨ù Z,G⟩) λS=>ċ S fQ λS=>?_;exact eu _ _ (k+1) ⟨Z,(nS oV mM hR (by rw[vH,rF]; exact aeS Bj)),S.qC⟩ (by show _-_<_-_; omega)
 refine Xe S (.b true) λS=>?_;exact⟨aJ (sG (by have:=é fD; omega) (mJ aa) hR),S.E⟩
abbrev TN{w:E5}{v:y9}{l m:List dI}(h:aG 5 dI.cells w v l)(h':aG 5 dI.cells w u m) :
  Nq prog 154 #[v,u] w (Ï w (.b (l=m))):=by
 obtain⟨a,cap,rfl⟩:=h.shape;obtain⟨d,cap',rfl⟩:=h'.shape;have D:l.length<=9223372036854775807:=h.len;refine Ä func154 ntmps154 λS=>À S (((l.length:Int)) != (m.length:Int)) (λaa S=>?_) λaa S=>?_
 .refine Xe S (.z) λS=>?_;exact⟨aJ (nR aa),S.E⟩
 refine ĉ S (ι:=Nat) (λp D w'=>p<=l.length∧(l.take p=m.take p)∧Sx.St w D w' 26 [(0,.s a l.length cap),(1,.s d m.length cap'),(4,.z),(5,.i p)] [] []) (λp=>l.length-p) (0) (λS=>⟨Î _,I,S.qC⟩) ?_;rintro k J u fQ eu D;try dsimp only at D
 obtain⟨hk,hR,S⟩:=D;refine Ċ S λS=>À S (decide ((k:Int)<(l.length:Int))) (λfD S=>?_) λfD S=>?_
 .have oV:k<l.length:=by have:=Ý fD; omega
  obtain⟨J,ab,rfl,D,vH,xJ,Qd⟩:=ý h (λ_=>I) (k) oV;have S:=S.view0 xJ Qd;have mM:k<m.length:=by have:=(mJ aa); have:=Ý fD; omega
  obtain⟨ae,af,rfl,J,rF,ML,Qe⟩:=ý h' (λ_=>I) (k) mM;have S:=S.view0 ML Qe;refine ć S 9 [.idx k l.length,.M 1 0,.idx k m.length,.M 0 0,.cmp .neq 202 (.tmp 20) (.tmp 24) (.agg #[.i D.o,.u (D.c.r.toNat:Int),.u (D.c.g.toNat:Int),.u (D.c.b.toNat:Int),.u (D.c.a.toNat:Int)]) (.agg #[.i J.o,.u (J.c.r.toNat:Int),.u (J.c.g.toNat:Int),.u (J.c.b.toNat:Int),.u (J.c.a.toNat:Int)]) (.b (!((D.o==J.o)&&(((D.c.r.toNat:Int)==(J.c.r.toNat:Int))&&(((D.c.g.toNat:Int)==(J.c.g.toNat:Int))&&(((D.c.b.toNat:Int)==(J.c.b.toNat:Int))&&((D.c.a.toNat:Int)==(J.c.a.toNat:Int))))))))] [] [(25,.b (!((D.o==J.o)&&(((D.c.r.toNat:Int)==(J.c.r.toNat:Int))&&(((D.c.g.toNat:Int)==(J.c.g.toNat:Int))&&(((D.c.b.toNat:Int)==(J.c.b.toNat:Int))&&((D.c.a.toNat:Int)==(J.c.a.toNat:Int))))))))] trivial (hk:=⟨oV,mM,ı (λ_=>aeT ..) X,G⟩) λu GL S=>À S (!((D.o==J.o)&&(((D.c.r.toNat:Int)==(J.c.r.toNat:Int))&&(((D.c.g.toNat:Int)==(J.c.g.toNat:Int))&&(((D.c.b.toNat:Int)==(J.c.b.toNat:Int))&&((D.c.a.toNat:Int)==(J.c.a.toNat:Int))))))) (λBj S=>?_) λBj S=>?_
  .refine Xe S (.z) λS=>?_;exact⟨aJ (sF oV mM (λe=>by have D:=Bj; rw[vH,rF]at e; subst e; simp at D)),S.E⟩
  refine O1 S 3 [] [kS 16 k] (hk:=⟨ù Z,G⟩) λS=>ċ S fQ λS=>?_;exact eu _ _ (k+1) ⟨Z,(nS oV mM hR (by rw[vH,rF]; exact aaj Bj)),S.qC⟩ (by show _-_<_-_; omega)
 refine Xe S (.b true) λS=>?_;exact⟨aJ (sG (by have:=é fD; omega) (mJ aa) hR),S.E⟩
abbrev amf(h:((((p.w) != q.w)||((p.h) != q.h))||((p.l.length:Int) != (q.l.length:Int)))=true):false=p.eq q:=by
 symm;rw[Bool.eq_false_iff];intro e;simp only[dH.eq,Û,ß]at e;rw[e.1,e.2.1,e.F]at h;simp at h
abbrev aeU(h:((((p.w) != q.w)||((p.h) != q.h))||((p.l.length:Int) != (q.l.length:Int)))=false):p.l.length=q.l.length:=by
 simp at h; omega
abbrev amg(h:((((p.w) != q.w)||((p.h) != q.h))||((p.l.length:Int) != (q.l.length:Int)))=false)(D:true=decide (p.l=q.l)):true=p.eq q:=by
 simp at h D;simp[dH.eq,h,D]
abbrev amh(D:false=decide (p.l=q.l)):false=p.eq q:=by
 simp at D;simp[dH.eq,D]
abbrev Dl{w:E5}{y1 y2:dH}(h:y1.ok w)(h':y2.ok w) :
  Nq prog 68 #[y1.v,y2.v] w (Ï w (.b (y1.eq y2))):=by
 obtain⟨a,cap,J⟩:=h.F.shape;obtain⟨d,cap',D⟩:=h'.F.shape;unfold dH.v;have hq:=h.F;have af:=h'.F;rw[J,D];rw[J]at hq;rw[D]at af;have D:y1.l.length<=9223372036854775807:=h.F.len;refine Ä func68 ntmps68 λS=>Â S λu b2 J D S=>Â S λu b5 J D S=>O1 S 22 [] [.M 1 0,.M 0 0,.M 1 1,.M 0 1,.M 1 2,.M 0 2] λS=>À S ((((y1.w) != y2.w)||((y1.h) != y2.h))||(((y1.l.length:Int)) != (y2.l.length:Int))) (λfD S=>?_) λfD S=>?_
 .refine Xe S (.z) λS=>?_;exact⟨aJ (amf fD),S.E⟩
 refine ĉ S (ι:=Nat) (λp D w'=>p<=y1.l.length∧(y1.l.take p=y2.l.take p)∧Sx.St w D w' 45 [(0,.agg #[.i y1.w,.i y1.h,.s a y1.l.length cap]),(1,.agg #[.i y2.w,.i y2.h,.s d y2.l.length cap']),(2,.q b2 0),(3,.q b5 0),(4,.z),(5,.i p)] [(b5,[.i y2.w,.i y2.h,.s d y2.l.length cap']),(b2,[.i y1.w,.i y1.h,.s a y1.l.length cap])] []) (λp=>y1.l.length-p) (0) (λS=>⟨Î _,I,S.qC⟩) ?_;rintro k J u fQ eu D;try dsimp only at D
 obtain⟨hk,hR,S⟩:=D;refine Ċ S λS=>O1 S 5 [] [.M 1 2] λS=>À S (decide ((k:Int)<(y1.l.length:Int))) (λaa S=>?_) λaa S=>?_
 .have tH:k<y1.l.length:=by have:=Ý aa; omega
  obtain⟨D,ai,rfl,J,ab,IY,TP⟩:=ý hq (λ_=>I) (k) tH;have S:=S.view0 IY TP;have Bl:k<y2.l.length:=by have:=(aeU fD); have:=Ý aa; omega
  obtain⟨al,am,rfl,D,ae,ag,ah⟩:=ý af (λ_=>I) (k) Bl;have S:=S.view0 ag ah;refine ć S 11 [.M 1 2,.idx k y1.l.length,.M 3 0,.M 0 2,.idx k y2.l.length,.M 2 0,.cmp .neq 178 (.tmp 38) (.tmp 43) (.agg #[.u (J.r.toNat:Int),.u (J.g.toNat:Int),.u (J.b.toNat:Int),.u (J.a.toNat:Int)]) (.agg #[.u (D.r.toNat:Int),.u (D.g.toNat:Int),.u (D.b.toNat:Int),.u (D.a.toNat:Int)]) (.b (!(((J.r.toNat:Int)==(D.r.toNat:Int))&&(((J.g.toNat:Int)==(D.g.toNat:Int))&&(((J.b.toNat:Int)==(D.b.toNat:Int))&&((J.a.toNat:Int)==(D.a.toNat:Int)))))))] [] [(44,.b (!(((J.r.toNat:Int)==(D.r.toNat:Int))&&(((J.g.toNat:Int)==(D.g.toNat:Int))&&(((J.b.toNat:Int)==(D.b.toNat:Int))&&((J.a.toNat:Int)==(D.a.toNat:Int)))))))] trivial (hk:=⟨tH,Bl,ı (λ_=>akV ..) X,G⟩) λu Md S=>À S (!(((J.r.toNat:Int)==(D.r.toNat:Int))&&(((J.g.toNat:Int)==(D.g.toNat:Int))&&(((J.b.toNat:Int)==(D.b.toNat:Int))&&((J.a.toNat:Int)==(D.a.toNat:Int)))))) (λvI S=>?_) λvI S=>?_
  .refine Xe S (.z) λS=>?_;exact⟨aJ (amh (sF tH Bl (λe=>by have hq:=vI; rw[ab,ae]at e; subst e; simp at hq))),S.E⟩
  refine O1 S 3 [] [kS 33 k] (hk:=⟨ù Z,G⟩) λS=>ċ S fQ λS=>?_;exact eu _ _ (k+1) ⟨Z,(nS tH Bl hR (by rw[ab,ae]; exact XC vI)),S.qC⟩ (by show _-_<_-_; omega)
 refine Xe S (.b true) λS=>?_;exact⟨aJ (amg fD (sG (by have:=é aa; omega) (aeU fD) hR)),S.E⟩
abbrev ami{p q:aX}(h:((((((((p.width) != q.width)||((p.join) != q.join))||((p.cap) != q.cap))||((p.eP) != q.eP))||((p.phase) != q.phase))||((p.dash.length:Int) != (q.dash.length:Int))))=true):false=p.eq q:=by
 symm;rw[Bool.eq_false_iff];intro e;simp only[aX.eq,Û,ß,Þ]at e;obtain⟨⟨⟨⟨⟨D,J⟩,S⟩,e4⟩,e5⟩,e6⟩:=e;rw[D,J,S,e4,e5,e6]at h;simp at h
abbrev aeW{p q:aX}(h:((((((((p.width) != q.width)||((p.join) != q.join))||((p.cap) != q.cap))||((p.eP) != q.eP))||((p.phase) != q.phase))||((p.dash.length:Int) != (q.dash.length:Int))))=false):p.dash.length=q.dash.length:=by
 simp at h; omega
abbrev amj{p q:aX}(h:((((((((p.width) != q.width)||((p.join) != q.join))||((p.cap) != q.cap))||((p.eP) != q.eP))||((p.phase) != q.phase))||((p.dash.length:Int) != (q.dash.length:Int))))=false)(D:true=decide (p.dash=q.dash)):true=p.eq q:=by
 simp at h D;simp[aX.eq,h,D]
abbrev amk{p q:aX}(D:false=decide (p.dash=q.dash)):false=p.eq q:=by
 simp at D;simp[aX.eq,D]
abbrev IZ{w:E5}{y1 y2:aX}(h:y1.ok w)(h':y2.ok w) :
  Nq prog 67 #[y1.v,y2.v] w (Ï w (.b (y1.eq y2))):=by
 obtain⟨a,cap,hs,D,J⟩:=h.A;obtain⟨d,cap',D,J,af⟩:=h'.A;unfold aX.v;have hq:=eU (f:=Ac) h.A;have ab:=eU (f:=Ac) h'.A;rw[hs,D];rw[hs]at hq;rw[D]at ab;have D:y1.dash.length<=9223372036854775807:=hq.len;refine Ä func67 ntmps67 λS=>Â S λu b2 J D S=>Â S λu b5 J D S=>O1 S 43 [] [.M 1 0,.M 0 0,.M 1 1,.M 0 1,.M 1 2,.M 0 2,.M 1 3,.M 0 3,.M 1 5,.M 0 5,.M 1 4,.M 0 4] λS=>À S (((((((y1.width) != y2.width)||((y1.join) != y2.join))||((y1.cap) != y2.cap))||((y1.eP) != y2.eP))||((y1.phase) != y2.phase))||(((y1.dash.length:Int)) != (y2.dash.length:Int))) (λfD S=>?_) λfD S=>?_
 .refine Xe S (.z) λS=>?_;exact⟨aJ (ami fD),S.E⟩
 refine ĉ S (ι:=Nat) (λp D w'=>p<=y1.dash.length∧(y1.dash.take p=y2.dash.take p)∧Sx.St w D w' 66 [(0,.agg #[.i y1.width,.i y1.join,.i y1.cap,.i y1.eP,.s a y1.dash.length cap,.i y1.phase]),(1,.agg #[.i y2.width,.i y2.join,.i y2.cap,.i y2.eP,.s d y2.dash.length cap',.i y2.phase]),(2,.q b2 0),(3,.q b5 0),(4,.z),(5,.i p)] [(b5,[.i y2.width,.i y2.join,.i y2.cap,.i y2.eP,.s d y2.dash.length cap',.i y2.phase]),(b2,[.i y1.width,.i y1.join,.i y1.cap,.i y1.eP,.s a y1.dash.length cap,.i y1.phase])] []) (λp=>y1.dash.length-p) (0) (λS=>⟨Î _,I,S.qC⟩) ?_;rintro k J u fQ eu D;try dsimp only at D
 obtain⟨hk,hR,S⟩:=D;refine Ċ S λS=>O1 S 5 [] [.M 1 4] λS=>À S (decide ((k:Int)<(y1.dash.length:Int))) (λD S=>?_) λD S=>?_
 .have tH:k<y1.dash.length:=by have:=Ý D; omega
  obtain⟨ai,al,rfl,pF,J,IY,TP⟩:=ý hq (λ_=>I) (k) tH;have S:=S.view0 IY TP;have Bl:k<y2.dash.length:=by have:=(aeW fD); have:=Ý D; omega
  obtain⟨am,an,rfl,ae,aa,ag,ah⟩:=ý ab (λ_=>I) (k) Bl;have S:=S.view0 ag ah;refine ć S 11 [.M 1 4,.idx k y1.dash.length,.M 3 0,.M 0 4,.idx k y2.dash.length,.M 2 0] [] [(65,.b ((pF) != ae))] trivial (hk:=⟨tH,Bl,G⟩) λu Md S=>À S ((pF) != ae) (λvI S=>?_) λvI S=>?_
  .refine Xe S (.z) λS=>?_;exact⟨aJ (amk (sF tH Bl (λe=>by have hq:=vI; rw[J,aa]at e; subst e; simp at hq))),S.E⟩
  refine O1 S 3 [] [kS 54 k] (hk:=⟨ù Z,G⟩) λS=>ċ S fQ λS=>?_;exact eu _ _ (k+1) ⟨Z,(nS tH Bl hR (by rw[J,aa]; exact aeX vI)),S.qC⟩ (by show _-_<_-_; omega)
 refine Xe S (.b true) λS=>?_;exact⟨aJ (amj fD (sG (by have:=é D; omega) (aeW fD) hR)),S.E⟩
abbrev auD{p q:ak}(h:Di p.t.q)(h':Di q.t.q):(((((((((((p.kind)==q.kind)&&(((p.color.r.toNat:Int)==(q.color.r.toNat:Int))&&(((p.color.g.toNat:Int)==(q.color.g.toNat:Int))&&(((p.color.b.toNat:Int)==(q.color.b.toNat:Int))&&((p.color.a.toNat:Int)==(q.color.a.toNat:Int))))))&&((p.p0.x==q.p0.x)&&(p.p0.y==q.p0.y)))&&((p.p1.x==q.p1.x)&&(p.p1.y==q.p1.y)))&&((p.bW)==q.bW))&&(decide (p.stops=q.stops)))&&((p.spread)==q.spread))&&(p.img.eq q.img))&&((p.cZ)==q.cZ))&&(p.t.q.same q.t.q))=p.eq q:=by
 unfold ak.eq;rw[K06 h h'];ac_rfl
abbrev Qg{w:E5}{p q:ak}{K:Nat}(h:p.ok w)(h':q.ok w)(J:p.t.fit K)(D:q.t.fit K)(aa:1<=K)(hK:K<=10000) :
  Nq prog 107 #[p.v,q.v] w (Ï w (.b (p.eq q))):=by
 have hq:=bD.toQ h.I J;have J:=bD.toQ h'.I D;refine Ä func107 ntmps107 λS=>Â S λu b2 E3 D S=>Â S λu b5 E6 D S=>O1 S 1 [] [] λS=>ī S 69 [.M 1 0,.M 0 0,.M 1 1,.M 0 1,.cmp .eql 40 (.tmp 12) (.tmp 14) (.agg #[.u (p.color.r.toNat:Int),.u (p.color.g.toNat:Int),.u (p.color.b.toNat:Int),.u (p.color.a.toNat:Int)]) (.agg #[.u (q.color.r.toNat:Int),.u (q.color.g.toNat:Int),.u (q.color.b.toNat:Int),.u (q.color.a.toNat:Int)]) (.b (((p.color.r.toNat:Int)==(q.color.r.toNat:Int))&&(((p.color.g.toNat:Int)==(q.color.g.toNat:Int))&&(((p.color.b.toNat:Int)==(q.color.b.toNat:Int))&&((p.color.a.toNat:Int)==(q.color.a.toNat:Int)))))),.M 1 5,.M 0 5,.cmp .eql 130 (.tmp 19) (.tmp 21) (.agg #[.i p.p0.x,.i p.p0.y]) (.agg #[.i q.p0.x,.i q.p0.y]) (.b ((p.p0.x==q.p0.x)&&(p.p0.y==q.p0.y))),.M 1 7,.M 0 7,.cmp .eql 130 (.tmp 26) (.tmp 28) (.agg #[.i p.p1.x,.i p.p1.y]) (.agg #[.i q.p1.x,.i q.p1.y]) (.b ((p.p1.x==q.p1.x)&&(p.p1.y==q.p1.y))),.M 1 9,.M 0 9,.M 1 10,.M 0 10,.M 1 11,.M 0 11,.M 1 12,.M 0 12,.M 1 15,.M 0 15,.M 1 16,.M 0 16] [(_,_,((((((p.kind)==q.kind)&&(((p.color.r.toNat:Int)==(q.color.r.toNat:Int))&&(((p.color.g.toNat:Int)==(q.color.g.toNat:Int))&&(((p.color.b.toNat:Int)==(q.color.b.toNat:Int))&&((p.color.a.toNat:Int)==(q.color.a.toNat:Int))))))&&((p.p0.x==q.p0.x)&&(p.p0.y==q.p0.y)))&&((p.p1.x==q.p1.x)&&(p.p1.y==q.p1.y)))&&((p.bW)==q.bW)),.b (p.stops=q.stops)),(_,_,((((((((p.kind)==q.kind)&&(((p.color.r.toNat:Int)==(q.color.r.toNat:Int))&&(((p.color.g.toNat:Int)==(q.color.g.toNat:Int))&&(((p.color.b.toNat:Int)==(q.color.b.toNat:Int))&&((p.color.a.toNat:Int)==(q.color.a.toNat:Int))))))&&((p.p0.x==q.p0.x)&&(p.p0.y==q.p0.y)))&&((p.p1.x==q.p1.x)&&(p.p1.y==q.p1.y)))&&((p.bW)==q.bW))&&(decide (p.stops=q.stops)))&&((p.spread)==q.spread)),.b (p.img.eq q.img)),(_,_,((((((((((p.kind)==q.kind)&&(((p.color.r.toNat:Int)==(q.color.r.toNat:Int))&&(((p.color.g.toNat:Int)==(q.color.g.toNat:Int))&&(((p.color.b.toNat:Int)==(q.color.b.toNat:Int))&&((p.color.a.toNat:Int)==(q.color.a.toNat:Int))))))&&((p.p0.x==q.p0.x)&&(p.p0.y==q.p0.y)))&&((p.p1.x==q.p1.x)&&(p.p1.y==q.p1.y)))&&((p.bW)==q.bW))&&(decide (p.stops=q.stops)))&&((p.spread)==q.spread))&&(p.img.eq q.img))&&((p.cZ)==q.cZ)),.b (p.t.q.same q.t.q))] [(4,.b (((((((((((p.kind)==q.kind)&&(((p.color.r.toNat:Int)==(q.color.r.toNat:Int))&&(((p.color.g.toNat:Int)==(q.color.g.toNat:Int))&&(((p.color.b.toNat:Int)==(q.color.b.toNat:Int))&&((p.color.a.toNat:Int)==(q.color.a.toNat:Int))))))&&((p.p0.x==q.p0.x)&&(p.p0.y==q.p0.y)))&&((p.p1.x==q.p1.x)&&(p.p1.y==q.p1.y)))&&((p.bW)==q.bW))&&(decide (p.stops=q.stops)))&&((p.spread)==q.spread))&&(p.img.eq q.img))&&((p.cZ)==q.cZ))&&(p.t.q.same q.t.q)))] ⟨λu D g=>TN (l:=p.stops) (m:=q.stops) (h.A.below (Ip S.E D)) (h'.A.below (Ip S.E D)),λu D g=>Dl (y1:=p.img) (y2:=q.img) (h.G.below (Ip S.E D)) (h'.G.below (Ip S.E D)),λu D g=>Dh (t:=p.t) (t2:=q.t) (hq.iT (Ip S.E D)) (J.iT (Ip S.E D)) aa hK,G⟩ (hk:=⟨ı (λ_=>aeY ..) X,ı (λ_=>eqPt ..) X,ı (λ_=>eqPt ..) X,G⟩) λu D S=>Xe S (.b (((((((((((p.kind)==q.kind)&&(((p.color.r.toNat:Int)==(q.color.r.toNat:Int))&&(((p.color.g.toNat:Int)==(q.color.g.toNat:Int))&&(((p.color.b.toNat:Int)==(q.color.b.toNat:Int))&&((p.color.a.toNat:Int)==(q.color.a.toNat:Int))))))&&((p.p0.x==q.p0.x)&&(p.p0.y==q.p0.y)))&&((p.p1.x==q.p1.x)&&(p.p1.y==q.p1.y)))&&((p.bW)==q.bW))&&(decide (p.stops=q.stops)))&&((p.spread)==q.spread))&&(p.img.eq q.img))&&((p.cZ)==q.cZ))&&(p.t.q.same q.t.q))) λS=>?_;exact⟨aJ (auD hq.nrm J.nrm),S.E⟩
abbrev wS{w:E5}{v:y9}{l:List ak}(h:iY w v l)(h':iY w u m)(hf:∀p∈l,p.t.fit K)(ab:∀p∈m,p.t.fit K)(ae:1<=K)(hK:K<=10000) :
  Nq prog 66 #[v,u] w (Ï w (.b (bZ l m))):=by
 obtain⟨a,cap,rfl⟩:=h.1.shape;obtain⟨d,cap',rfl⟩:=h'.1.shape;have D:l.length<=9223372036854775807:=h.1.len;refine Ä func66 ntmps66 λS=>À S (((l.length:Int)) != (m.length:Int)) (λD S=>?_) λD S=>?_
 .refine Xe S (.z) λS=>?_;exact⟨aJ (aeQ D),S.E⟩
 refine ĉ S (ι:=Nat) (λp J w'=>p<=l.length∧(((l.zip m).take p).all (λp=>p.1.eq p.2)=true)∧Sx.St w J w' 27 [(0,.s a l.length cap),(1,.s d m.length cap'),(4,.z),(5,.i p)] [] []) (λp=>l.length-p) (0) (λS=>⟨Î _,I,S.qC⟩) ?_;rintro k ac u fQ eu J;try dsimp only at J
 obtain⟨hk,hR,S⟩:=J;refine Ċ S λS=>À S (decide ((k:Int)<(l.length:Int))) (λfD S=>?_) λfD S=>?_
 .have oV:k<l.length:=by have:=Ý fD; omega
  obtain⟨af,ag,rfl,J,vH,xJ,Qd⟩:=ý h.1 (λ_=>I) (k) oV;have S:=S.view0 xJ Qd;have mM:k<m.length:=by have:=mJ D; have:=Ý fD; omega
  obtain⟨ah,ai,rfl,aa,rF,ML,Qe⟩:=ý h'.1 (λ_=>I) (k) mM;have S:=S.view0 ML Qe;refine ć S 10 [.idx k l.length,.M 1 0,.idx k m.length,.M 0 0] [(_,_,true,.b (J.eq aa))] [(26,.b (!(J.eq aa)))] ⟨λu hC g=>Qg (K:=K) (p:=J) (q:=aa) ((h.2 _ (vH▸ò oV)).below (Ip S.E hC)) ((h'.2 _ (rF▸ò mM)).below (Ip S.E hC)) (hf _ (vH▸ò oV)) (ab _ (rF▸ò mM)) ae hK,G⟩ (hk:=⟨oV,mM,G⟩) λu GL S=>À S (!(J.eq aa)) (λBj S=>?_) λBj S=>?_
  .refine Xe S (.z) λS=>?_;exact⟨aJ (aeR oV mM (by rw[vH,rF]; exact Bj)),S.E⟩
  refine O1 S 3 [] [kS 16 k] (hk:=⟨ù Z,G⟩) λS=>ċ S fQ λS=>?_;exact eu _ _ (k+1) ⟨Z,(TL oV mM hR (by rw[vH,rF]; exact Bj)),S.qC⟩ (by show _-_<_-_; omega)
 refine Xe S (.b true) λS=>?_;exact⟨aJ (aai (by have:=é fD; omega) (mJ D) hR),S.E⟩
def aj.eqR(a b:aj):Bool:=cond ((((((((a.id) != b.id)||((a.kind) != b.kind))||((a.depth) != b.depth))||(!(a.t.q.same b.t.q)))||((a.aP) != b.aP))||((a.aV) != b.aV))||((a.cZ) != b.cZ)) (false) (cond ((((((a.dJ.toNat:Int)) != (b.dJ.toNat:Int))||((a.blend) != b.blend))||(!(a.isolated==b.isolated)))||(!(a.dA==b.dA))) (false) ((((((decide (a.clip=b.clip))&&(decide (a.path=b.path)))&&(bZ a.fill b.fill))&&(bZ a.stroke b.stroke))&&(a.style.eq b.style))&&(a.img.eq b.img)))
abbrev Qh{w:E5}{a b:aj}(h:eH K w a)(h':eH K w b) :
  Nq prog 37 #[a.v,b.v] w (Ï w (.b (aj.eqR a b))):=by
 skip;refine Ä func37 ntmps37 λS=>Â S λu b2 J D S=>Â S λu b5 J D S=>O1 S 1 [] [] λS=>ī S 48 [.M 1 0,.M 0 0,.M 1 1,.M 0 1,.M 1 2,.M 0 2,.M 1 3,.M 0 3,.M 1 28,.M 0 28,.M 1 34,.M 0 34,.M 1 46,.M 0 46] [(_,_,(!((((a.id) != b.id)||((a.kind) != b.kind))||((a.depth) != b.depth))),.b (a.t.q.same b.t.q))] [(52,.b ((((((((a.id) != b.id)||((a.kind) != b.kind))||((a.depth) != b.depth))||(!(a.t.q.same b.t.q)))||((a.aP) != b.aP))||((a.aV) != b.aV))||((a.cZ) != b.cZ)))] ⟨λu D g=>Dh (t:=a.t) (t2:=b.t) ((bD.toQ h.1.C h.2.1).iT (Ip S.E D)) ((bD.toQ h'.1.C h'.2.1).iT (Ip S.E D)) h.A h.J,G⟩ λu J S=>À S ((((((((a.id) != b.id)||((a.kind) != b.kind))||((a.depth) != b.depth))||(!(a.t.q.same b.t.q)))||((a.aP) != b.aP))||((a.aV) != b.aV))||((a.cZ) != b.cZ)) (λJ S=>?_) λJ S=>?_
 .have p0:=J;refine Xe S (.z) λS=>?_;exact⟨aJ (by unfold aj.eqR; simp only[p0,cond_true,cond_false]),S.E⟩
 refine O1 S 26 [] [.M 1 29,.M 0 29,.M 1 30,.M 0 30,.M 1 31,.M 0 31,.M 1 32,.M 0 32] λS=>À S ((((((a.dJ.toNat:Int)) != (b.dJ.toNat:Int))||((a.blend) != b.blend))||(!(a.isolated==b.isolated)))||(!(a.dA==b.dA))) (λqo S=>?_) λqo S=>?_
 .have p0:=J;have p1:=qo;refine Xe S (.z) λS=>?_;exact⟨aJ (by unfold aj.eqR; simp only[p0,p1,cond_true,cond_false]),S.E⟩
 refine O1 S 4 [] [.M 1 27,.M 0 27] λS=>ð S (Dk (l:=a.clip) (m:=b.clip) (h.1.2.2.2.2.1.1.below S.E) (h'.1.2.2.2.2.1.1.below S.E)) λu zU S=>ī S 36 [.M 1 33,.M 0 33,.M 1 35,.M 0 35,.M 1 42,.M 0 42,.M 1 36,.M 0 36,.M 1 43,.M 0 43] [(_,_,(decide (a.clip=b.clip)),.b (a.path=b.path)),(_,_,((decide (a.clip=b.clip))&&(decide (a.path=b.path))),.b (bZ a.fill b.fill)),(_,_,(((decide (a.clip=b.clip))&&(decide (a.path=b.path)))&&(bZ a.fill b.fill)),.b (bZ a.stroke b.stroke)),(_,_,((((decide (a.clip=b.clip))&&(decide (a.path=b.path)))&&(bZ a.fill b.fill))&&(bZ a.stroke b.stroke)),.b (a.style.eq b.style)),(_,_,(((((decide (a.clip=b.clip))&&(decide (a.path=b.path)))&&(bZ a.fill b.fill))&&(bZ a.stroke b.stroke))&&(a.style.eq b.style)),.b (a.img.eq b.img))] [(4,.b ((((((decide (a.clip=b.clip))&&(decide (a.path=b.path)))&&(bZ a.fill b.fill))&&(bZ a.stroke b.stroke))&&(a.style.eq b.style))&&(a.img.eq b.img)))] ⟨λu D g=>Dk (l:=a.path) (m:=b.path) (h.1.2.2.2.2.2.2.2.1.1.below (Ip S.E D)) (h'.1.2.2.2.2.2.2.2.1.1.below (Ip S.E D)),λu D g=>wS (l:=a.fill) (m:=b.fill) (K:=K) (h.1.K.below (Ip S.E D)) (h'.1.K.below (Ip S.E D)) h.D h'.D h.A h.J,λu D g=>wS (l:=a.stroke) (m:=b.stroke) (K:=K) (h.1.H.below (Ip S.E D)) (h'.1.H.below (Ip S.E D)) h.C h'.C h.A h.J,λu D g=>IZ (y1:=a.style) (y2:=b.style) (h.1.Q.below (Ip S.E D)) (h'.1.Q.below (Ip S.E D)),λu D g=>Dl (y1:=a.img) (y2:=b.img) (h.1.P.below (Ip S.E D)) (h'.1.P.below (Ip S.E D)),G⟩ λu Md S=>?_;have p0:=J;have p1:=qo;refine Xe S (.b ((((((decide (a.clip=b.clip))&&(decide (a.path=b.path)))&&(bZ a.fill b.fill))&&(bZ a.stroke b.stroke))&&(a.style.eq b.style))&&(a.img.eq b.img))) λS=>?_;exact⟨aJ (by unfold aj.eqR; simp only[p0,p1,cond_true,cond_false]),S.E⟩
end
section
variable{K:Nat}
instance azX:DecidableEq Q6:=λP Q=>decidable_of_iff (P.a=Q.a∧P.b=Q.b∧P.c=Q.c∧P.d=Q.d∧P.e=Q.e∧P.f=Q.f) (by
 obtain⟨a,b,c,d,e,f⟩:=P;obtain⟨a',b',c',d',e',f'⟩:=Q;simp)
structure oW where
 w:Int
 h:Int
 l:List bI
deriving DecidableEq
structure jo where
 kind:Int
 color:bI
 p0:kG
 p1:kG
 bW:Int
 stops:List dI
 spread:Int
 img:oW
 cZ:Int
 q:Q6
deriving DecidableEq
structure kW where
 width:Int
 join:Int
 cap:Int
 eP:Int
 dash:List Int
 phase:Int
deriving DecidableEq
structure aO where
 id:Int
 kind:Int
 depth:Int
 q:Q6
 clip:List dL
 aP:Int
 dJ:UInt8
 blend:Int
 isolated:Bool
 dA:Bool
 path:List dL
 aV:Int
 fill:List jo
 style:kW
 stroke:List jo
 img:oW
 cZ:Int
deriving DecidableEq
def dH.key(m:dH):oW:=⟨m.w,m.h,m.l⟩
def ak.key(p:ak):jo:=⟨p.kind,p.color,p.p0,p.p1,p.bW,p.stops,p.spread,p.img.key,p.cZ,p.t.q⟩
def aX.key(p:aX):kW:=⟨p.width,p.join,p.cap,p.eP,p.dash,p.phase⟩
def aj.key(n:aj):aO:=⟨n.id,n.kind,n.depth,n.t.q,n.clip,n.aP,n.dJ,n.blend,n.isolated,n.dA,n.path,n.aV,n.fill.map ak.key,n.style.key,n.stroke.map ak.key,n.img.key,n.cZ⟩
abbrev EH{a b:UInt8}:(a.toNat:Int)=(b.toNat:Int)↔a=b:=⟨I4,λh=>by rw[h]⟩
abbrev aak{a b:bI}:(a.r=b.r∧a.g=b.g∧a.b=b.b∧a.a=b.a)↔a=b:=by cases a; cases b; simp
abbrev aml{a b:kG}:(a.x=b.x∧a.y=b.y)↔a=b:=by cases a; cases b; simp
abbrev Qi(m n:dH):m.eq n=decide (m.key=n.key):=by
 rw[ŉ]; simp[dH.eq,dH.key]
abbrev aal(p q:aX):p.eq q=decide (p.key=q.key):=by
 rw[ŉ]; simp only[aX.eq,aX.key,kW.mk.injEq,Û,ß,Þ,and_assoc];constructor
 .rintro⟨h1,h2,h3,h4,h5,h6⟩; exact⟨h1,h2,h3,h4,h6,h5⟩
 rintro⟨h1,h2,h3,h4,h5,h6⟩; exact⟨h1,h2,h3,h4,h6,h5⟩
abbrev aam(P Q:Q6):P.same Q=decide (P=Q):=by
 obtain⟨a,b,c,d,e,f⟩:=P;obtain⟨D,b',J,S,e',f'⟩:=Q;rw[ŉ]; simp[Q6.same]
abbrev akW{P Q:Q6}(D:Di P)(J:Di Q):P.eq Q=decide (P=Q):=by rw[<-K06 D J,aam]
abbrev ak.amm{p q:ak}(D:Di p.t.q)(J:Di q.t.q):p.eq q=decide (p.key=q.key):=by
 rw[ŉ];unfold ak.eq;rw[akW D J,Qi];simp only[Û,ß,Þ,EH,aak,aml,ak.key,jo.mk.injEq,and_assoc];constructor
 .rintro⟨h1,h2,h3,h4,h5,h6,h7,h8,h9,h10⟩; exact⟨h1,h2,h3,h4,h5,h8,h6,h9,h7,h10⟩
 rintro⟨h1,h2,h3,h4,h5,h6,h7,h8,h9,h10⟩; exact⟨h1,h2,h3,h4,h5,h7,h9,h6,h8,h10⟩
def aiU(l:List ak):Prop:=∀p∈l,Di p.t.q
theorem oJ:∀{l m:List ak},aiU l->aiU m->bZ l m=decide (l.map ak.key=m.map ak.key)
 | [],[],_,_=>by simp[bZ]
 | [],y::m,_,_=>by simp[bZ]
 | x::l,[],_,_=>by simp[bZ]
 | x::l,y::m,hl,hm=>by
  have J:=oJ (l:=l) (m:=m) (λp D=>hl p (ļ _ D)) (λp D=>hm p (ļ _ D))
  have e:=ak.amm (hl x Ö) (hm y Ö)
  rw[ŉ]at J e |-
  simp only[bZ,Ē,Nat.add_right_cancel_iff,List.zip_cons_cons,ϯ,đ,Ă,Û,Þ]at J e |-
  rw[e,<-J]
  constructor
  .rintro⟨h1,h2,h3⟩; exact⟨h2,h1,h3⟩
  .rintro⟨h1,h2,h3⟩; exact⟨h2,h1,h3⟩
def aj.nrm(n:aj):Prop:=Di n.t.q∧aiU n.fill∧aiU n.stroke
abbrev eH.nrm{w:E5}{n:aj}(h:eH K w n):n.nrm:=
 ⟨(bD.toQ h.1.C h.2.1).nrm,λp D=>(bD.toQ (h.1.2.2.2.2.2.2.2.2.2.1.2 p D).I (h.D p D)).nrm,λp D=>(bD.toQ (h.1.2.2.2.2.2.2.2.2.2.2.2.1.2 p D).I (h.C p D)).nrm⟩
abbrev TQ{a b:Bool}:cond a false b=(!a&&b):=by cases a<;>rfl
abbrev aiV{a b:aj}(D:a.nrm)(J:b.nrm):a.ϣ b=decide (a.key=b.key):=by
 rw[ŉ];unfold aj.ϣ;rw[akW D.1 J.1,oJ D.2.1 J.2.1,oJ D.F J.F,Qi,aal];simp only[TQ,Û,Ŏ,Ĕ,bne_eq_false_iff_eq,Ň,ß,Þ,EH,aj.key,aO.mk.injEq,and_assoc];constructor
 .rintro⟨h1,h2,h3,h4,h5,h6,h7,h8,h9,h10,h11,h12,h13,I5,h15,h16,h17⟩; exact⟨h1,h2,h3,h11,h12,h4,h5,h6,h7,h8,h13,h9,I5,h16,h15,h17,h10⟩
 rintro⟨h1,h2,h3,h11,h12,h4,h5,h6,h7,h8,h13,h9,I5,h16,h15,h17,h10⟩; exact⟨h1,h2,h3,h4,h5,h6,h7,h8,h9,h10,h11,h12,h13,I5,h15,h16,h17⟩
abbrev aiW{a b:aj}(D:a.nrm)(J:b.nrm):a.eqR b=decide (a.key=b.key):=by
 rw[ŉ];unfold aj.eqR;rw[aam,oJ D.2.1 J.2.1,oJ D.F J.F,Qi,aal];simp only[TQ,Û,Ŏ,Ĕ,bne_eq_false_iff_eq,Ň,ß,Þ,EH,aj.key,aO.mk.injEq,and_assoc];constructor
 .rintro⟨h1,h2,h3,h11,h4,h9,h10,h5,h6,h7,h8,h12,h13,I5,h15,h16,h17⟩; exact⟨h1,h2,h3,h11,h12,h4,h5,h6,h7,h8,h13,h9,I5,h16,h15,h17,h10⟩
 rintro⟨h1,h2,h3,h11,h12,h4,h5,h6,h7,h8,h13,h9,I5,h16,h15,h17,h10⟩; exact⟨h1,h2,h3,h11,h4,h9,h10,h5,h6,h7,h8,h12,h13,I5,h15,h16,h17⟩
end
section
abbrev abO{p q:ak}(h:p.key=q.key):p.valid=q.valid:=by
 obtain⟨k,c,p0,p1,r,sva,svc,st,sp,⟨iw,ih,D,J,il⟩,sm,t⟩:=p;obtain⟨k',c',ae,af,r',S,aa,ag,ah,⟨ai,al,ab,ac,am⟩,an,t'⟩:=q;simp only[ak.key,dH.key,jo.mk.injEq,oW.mk.injEq]at h;obtain⟨rfl,rfl,rfl,rfl,rfl,rfl,rfl,⟨rfl,rfl,rfl⟩,rfl,ht⟩:=h;have hw:∀(b:ak),(ak.without ⟨k,c,p0,p1,r,sva,svc,st,sp,⟨iw,ih,D,J,il⟩,sm,t⟩).eq b=(ak.without ⟨k,c,p0,p1,r,S,aa,st,sp,⟨iw,ih,ab,ac,il⟩,sm,t'⟩).eq b:=by
  intro b;unfold ak.without;simp only;cases k==1<;>cases k==2<;>cases k==3<;>cases k==4<;>simp only[cond_true,cond_false,ak.aeZ,ak.only2,ak.ae0,ak.ae1,ak.ae2,ak.eq]<;>rfl
 unfold ak.valid;simp only[hw,ht];rfl
theorem Bo:∀{l m:List ak},l.map ak.key=m.map ak.key->l.all ak.valid=m.all ak.valid
 | [],[],_=>rfl
 | [],_::_,h=>by cases h
 | _::_,[],h=>by cases h
 | x::l,y::m,h=>by
  simp only[đ,Ă]at h
  rw[ϯ,ϯ,abO h.1,Bo h.2]
abbrev XD{a b:aj}(h:a.key=b.key):a.checkN=b.checkN:=by
 simp only[aj.key,aX.key,dH.key,aO.mk.injEq,kW.mk.injEq,oW.mk.injEq]at h;obtain⟨h1,h2,h3,h4,h5,h6,h7,h8,h9,ag,D,J,S,⟨s1,s2,s3,s4,s5,s6⟩,aa,⟨i1,i2,i3⟩,ab⟩:=h;have l1:a.fill.length=b.fill.length:=by have:=Ñ List.length S; simpa using this
 have l2:a.stroke.length=b.stroke.length:=by have:=Ñ List.length aa; simpa using this
 have hs:∀p:aX,a.style.eq p=b.style.eq p:=λp=>by unfold aX.eq; rw[s1,s2,s3,s4,s5,s6]
 have hi:∀m:dH,a.img.eq m=b.img.eq m:=λm=>by unfold dH.eq; rw[i1,i2,i3]
 have hb:a.bare=b.bare:=by unfold aj.bare; rw[hs,hi,h2,h7,h8,h9,ag,D,J,ab,l1,l2]
 have ac:a.style.valid=b.style.valid:=by unfold aX.valid; rw[s1,s2,s3,s4,s5,s6]
 have ae:a.img.valid=b.img.valid:=by unfold dH.valid dH.size; rw[i1,i2,i3]
 have hc:a.iE=b.iE:=by unfold aj.iE; rw[hb,h1,h2,h3,h4,h5,h6]
 have af:a.tJ=b.tJ:=by unfold aj.tJ; rw[D,J,l1,l2,ac,hs,Bo S,Bo aa]
 unfold aj.checkN aj.rG;rw[hc,af,h2,h8,ae,ab]
open Classical in
noncomputable def aO.chk(κ:aO):Int:=if h:∃n:aj,n.key=κ then h.choose.checkN else 1
abbrev kY(n:aj):n.key.chk=n.checkN:=by
 have h:∃m:aj,m.key=n.key:=⟨n,I⟩;unfold aO.chk;rw[dif_pos h];exact XD h.choose_spec
theorem rH:∀{l:List (Bool×Int)},(∀p∈l,p.2≠0)->nT l=0->∀p∈l,p.1=false
 | [],_,_,p,D=>by cases D
 | q::l,h,h0,p,D=>by
  unfold nT at h0
  split at h0
  .exact absurd h0 (h q Ö)
  .rename_i hq
   rcases Ù.1 D with rfl | D
   .simpa using hq
   .exact rH (λp D=>h p (ļ _ D)) h0 p D
abbrev MN(n:aj):∀p∈n.iE,p.2≠0:=by
 intro p D;simp only[aj.iE,Ù,Ź,or_false]at D;rcases D with rfl | rfl | rfl | rfl | rfl | rfl
 .exact(by decide:(2:Int)≠0)
 .exact(by decide:(6:Int)≠0)
 .exact(by decide:(5:Int)≠0)
 .exact(by decide:(9:Int)≠0)
 .exact(by decide:(10:Int)≠0)
 exact(by decide:(17:Int)≠0)
abbrev xK{n:aj}(h:n.checkN=0):badL n.iE=false∧n.rG=0:=by
 unfold aj.checkN at h;cases hb:badL n.iE
 .rw[hb]at h; exact⟨I,h⟩
 rw[hb,cond_true]at h;have:=rH (MN n) h;unfold badL at hb;obtain⟨p,J,D⟩:=List.any_eq_true.1 hb;rw[this p J]at D;cases D
abbrev qG{n:aj}(h:n.checkN=0):1<=n.kind∧n.kind<=3∧1<=n.id∧n.id<=1073741824∧0<=n.depth∧n.depth<8:=by
 have D:=(xK h).1;simp only[badL,aj.iE,List.any_cons,Ĕ,Ą]at D;obtain⟨⟨J,S⟩,⟨⟨⟨h3,h4⟩,h5⟩,h6⟩,_⟩:=D;omega
abbrev Qj{n:aj}(h:n.checkN=0)(d:Int):({n with depth:=d}:aj).checkN=if 0<=d∧d<8 then 0 else 6:=by
 obtain⟨hb,J⟩:=xK h;have D:({n with depth:=d}:aj).rG=0:=J;have J:({n with depth:=d}:aj).iE=((decide (n.kind<1))||(decide (3<n.kind)),2)::((((decide (n.id<1))||(decide (1073741824<n.id)))||(decide (d<0)))||(decide (8<=d)),6)::n.iE.drop 2:=I;have S:badL (n.iE.drop 2)=false:=by
  simp only[badL]at hb |-;rw[show n.iE=n.iE.take 2++n.iE.drop 2 from(ň _ _).symm,List.any_append,Ĕ]at hb;exact hb.2
 have hf:=qG h;have e1:((decide (n.kind<1))||(decide (3<n.kind)))=false:=by simp; omega
 have e2:((decide (n.id<1))||(decide (1073741824<n.id)))=false:=by simp; omega
 unfold aj.checkN;rw[D,J,e1,e2];by_cases hd:0<=d∧d<8
 .have D:((false||decide (d<0))||decide (8<=d))=false:=by simp; omega
  rw[Á hd,D];unfold badL;rw[List.any_cons,List.any_cons];have:(n.iE.drop 2).any (·.1)=false:=S;rw[this];rfl
 have D:((false||decide (d<0))||decide (8<=d))=true:=by simp; omega
 rw[UQ hd,D];rfl
abbrev K15{κ:aO}(h:κ.chk=0):∃n:aj,n.key=κ∧n.checkN=0:=by
 unfold aO.chk at h;split at h
 .rename_i hx; exact⟨hx.choose,hx.choose_spec,h⟩
 cases h
abbrev aO.abP{κ:aO}(h:κ.chk=0):1<=κ.kind∧κ.kind<=3∧1<=κ.id∧κ.id<=1073741824∧0<=κ.depth∧κ.depth<8:=by
 obtain⟨n,rfl,hn⟩:=K15 h;exact qG hn
abbrev K16{κ:aO}(h:κ.chk=0)(d:Int):({κ with depth:=d}:aO).chk=if 0<=d∧d<8 then 0 else 6:=by
 obtain⟨n,rfl,hn⟩:=K15 h;rw[show({n.key with depth:=d}:aO)=({n with depth:=d}:aj).key from rfl,kY,Qj hn]
end
section
def xM(f:Nat->Int)(d:Int):Nat->Nat->Nat
 | 0,k=>k
 | m+1,k=>if d<f k then xM f d m (k+1)else k
def MO(n:Nat)(f:Nat->Int)(i:Nat):Nat:=xM f (f i) (n-(i+1)) (i+1)
theorem I7{f:Nat->Int}{d:Int}:∀(m k:Nat),k<=xM f d m k∧xM f d m k<=k+m∧(∀j,k<=j->j<xM f d m k->d<f j)∧(xM f d m k<k+m->f (xM f d m k)<=d)
 | 0,k=>by simp[xM]; intro j J S; omega
 | m+1,k=>by
  unfold xM
  split
  .rename_i h
   obtain⟨J,S,h3,h4⟩:=I7 (f:=f) (d:=d) m (k+1)
   refine⟨Z,Z,λj aa D=>?_,λhl=>h4 Z⟩
   by_cases hk:j=k
   .rw[hk]; exact h
   .exact h3 j Z D
  .rename_i h
   exact⟨Ç _,Z,λj J S=>by omega,λ_=>by omega⟩
variable{i j:Nat}{f:Nat->Int}{id root to:Int}
abbrev N7{n:Nat}(D:i<n):i<MO n f i∧MO n f i<=n∧(∀j,i<j->j<MO n f i->f i<f j)∧(MO n f i<n->f (MO n f i)<=f i):=by
 obtain⟨S,h2,D,J⟩:=I7 (f:=f) (d:=f i) (n-(i+1)) (i+1);unfold MO;exact⟨Z,Z,λj S=>D j Z,λh=>J Z⟩
abbrev aan{n k:Nat}(hi:i<n)(h1:i<k)(D:k<=n)(h3:∀j,i<j->j<k->f i<f j)(h4:k<n->f k<=f i):MO n f i=k:=by
 obtain⟨D,e2,J,S⟩:=N7 (f:=f) hi;rcases aGW (MO n f i) k with h | h | h
 .have:=S Z; have:=h3 _ D h; omega
 .exact h
 have:=h4 Z; have:=J k h1 h; omega
structure bG where
 w:Int
 h:Int
 bg:bI
 ns:List aO
deriving DecidableEq
structure bY where
 kind:Int
 id:Int
 index:Int
 depth:Int
 node:aO
 color:bI
deriving DecidableEq
def bG.zero:bG:=⟨0,0,bI.none,[]⟩
def aO.zero:aO:=bP.key
def EI(l:List aO)(k:Nat):Int:=((l[k]?).map aO.depth).getD 0
def jT(l:List aO)(id:Int):Option Nat:=l.findIdx? λκ=>κ.id==id
def nU(l:List aO)(id:Int):Int:=match jT l id with | some i=>i | none => -1
def FM(pre:List aO):Int:=match pre.getLast? with | none=>0 | some p=>if p.kind=1 then p.depth+1 else p.depth
noncomputable def jq(pre:List aO)(x:aO):Int:=
 if x.chk≠0 then x.chk else if pre.any (λκ=>κ.id==x.id)then 7 else if x.depth<=FM pre then 0 else 17
noncomputable def jk(pre:List aO):List aO->Int×Int
 | []=>(0,0)
 | x::r=>if jq pre x=0 then jk (pre++[x]) r else (jq pre x,pre.length)
noncomputable def bG.chk(s:bG):Int×Int:=
 if s.w<1∨256<s.w∨s.h<1∨256<s.h then (6,0)else if 64<s.ns.length then (5,64)else jk [] s.ns
noncomputable def bG.valid(s:bG):Bool:=s.chk.1==0
def Ap(pre:List aO):List aO->Prop
 | []=>True
 | x::r=>jq pre x=0∧Ap (pre++[x]) r
abbrev VL (l:List aO):Prop:=Ap [] l
theorem Dn:∀{l pre:List aO},(jk pre l).1=0↔Ap pre l
 | [],pre=>by simp[jk,Ap]
 | x::r,pre=>by
  unfold jk Ap
  split
  .rename_i h; rw[Dn]; simp[h]
  .rename_i h; simp[h]
abbrev Ap.chk:∀{l pre:List aO},Ap pre l->jk pre l=(0,0)
 | [],pre,_=>rfl
 | x::r,pre,h=>by unfold jk; rw[Á h.1]; exact h.2.chk
abbrev bG.lY{s:bG}:s.valid=true↔(1<=s.w∧s.w<=256∧1<=s.h∧s.h<=256)∧s.ns.length<=64∧VL s.ns:=by
 unfold bG.valid bG.chk;rw[ß];split
 .rename_i h; constructor
  .intro h2; cases h2
  rintro⟨h2,_⟩; omega
 split
 .constructor
  .intro h2; cases h2
  rintro⟨_,h2,_⟩; omega
 rw[Dn];constructor
 .intro h2; exact⟨Z,Z,h2⟩
 rintro⟨_,_,h2⟩; exact h2
abbrev FN{pre:List aO}{x:aO}:jq pre x=0↔x.chk=0∧(∀κ∈pre,κ.id≠x.id)∧x.depth<=FM pre:=by
 unfold jq;split
 .rename_i h; exact⟨λD=>absurd D h,λD=>absurd D.1 h⟩
 rename_i h;split
 .rename_i D;obtain⟨κ,h3,S⟩:=List.any_eq_true.1 D;exact⟨λJ=>absurd J O,λJ=>absurd (by simpa using S) (J.2.1 κ h3)⟩
 rename_i D;have h3:∀κ∈pre,κ.id≠x.id:=λκ hκ he=>D (List.any_eq_true.2 ⟨κ,hκ,by simpa using he⟩);split
 .rename_i S; exact⟨λ_=>⟨by simpa using h,h3,S⟩,λ_=>rfl⟩
 rename_i S; exact⟨λJ=>absurd J O,λJ=>absurd J.F S⟩
theorem N8:∀{l pre:List aO},Ap pre l↔∀a x b,l=a++x::b->jq (pre++a) x=0
 | [],pre=>⟨λ_ a x b h=>by simp at h,λ_=>trivial⟩
 | y::r,pre=>by
  unfold Ap
  rw[N8 (l:=r)]
  constructor
  .rintro⟨h1,h2⟩ a x b h
   cases a with
   | nil =>
    simp only[Ģ,Ă]at h
    rw[ĳ,<-h.1]; exact h1
   | cons z a =>
    simp only[Ĵ,Ă]at h
    rw[h.1]at h2
    rw[show pre++z::a=(pre++[z])++a by simp]
    exact h2 a x b h.2
  .intro h
   refine⟨by simpa using h [] y r I,λa x b e=>?_⟩
   rw[show(pre++[y])++a=pre++y::a by simp]
   exact h (y::a) x b (by rw[e]; rfl)
abbrev EJ{l:List aO}:VL l↔(∀x∈l,x.chk=0)∧(l.map aO.id).Nodup∧∀a x b,l=a++x::b->x.depth<=FM a:=by
 unfold VL;rw[N8];simp only[Ģ,FN];constructor
 .intro h;refine⟨λx D=>?_,?_,λa x b e=>(h a x b e).F⟩
  .obtain⟨a,b,e⟩:=List.append_of_mem D;exact(h a x b e).1
  rw[List.nodup_iff_pairwise_ne];rw[List.pairwise_map];have key:∀(l pre:List aO),(∀a x b,l=a++x::b->∀κ∈pre++a,κ.id≠x.id)->List.Pairwise (λa b:aO=>a.id≠b.id) l:=by
   intro l;induction l with
   | nil=>intro _ _; exact List.Pairwise.nil
   | cons y r ih =>
    intro pre h;refine List.Pairwise.cons (λz J=>?_) (ih (pre++[y]) λa x b e κ D=>h (y::a) x b (by rw[e]; rfl) κ (by simpa using D));obtain⟨a,b,e⟩:=List.append_of_mem J;exact h (y::a) z b (by rw[e]; rfl) y Y
  exact key l [] λa x b e κ D=>(h a x b e).2.1 κ (by simpa using D)
 rintro⟨h1,h2,h3⟩ a x b e;refine⟨h1 x (by rw[e]; simp),λκ D J=>?_,h3 a x b e⟩;rw[e,Ħ,đ,ŋ]at h2;exact h2.F κ.id (ô.2 ⟨κ,D,I⟩) x.id Ö J
abbrev Dp{l:List aO}{k:Nat}(h:k<l.length):EI l k=l[k].depth:=by simp[EI,List.getElem?_eq_getElem h]
abbrev bG.abQ{s:bG}(h:s.valid=true):s.chk=(0,0):=by
 obtain⟨J,S,D⟩:=bG.lY.1 h;unfold bG.chk;rw[UQ Z,UQ Z];exact D.chk
abbrev Bq{l:List aO}(h:jT l id=some i):∃D:i<l.length,l[i].id=id:=by
 unfold jT at h;obtain⟨D,J,_⟩:=List.findIdx?_eq_some_iff_getElem.1 h;exact⟨D,by simpa using J⟩
abbrev XE{l:List aO}:jT l id=none↔∀κ∈l,κ.id≠id:=by
 unfold jT;rw[List.findIdx?_eq_none_iff];simp
def kH(l:List aO)(i:Nat):Nat:=i+1+((l.drop (i+1)).takeWhile λκ=>decide (EI l i<κ.depth)).length
abbrev Dq{l:List aO}(D:i<l.length):i+1<=kH l i∧kH l i<=l.length:=by
 unfold kH;have:=(List.takeWhile_sublist (l:=l.drop (i+1)) λκ:aO=>decide (EI l i<κ.depth)).length_le;rw[Ş]at this;omega
theorem TS(l:List aO)(d:Int):∀m k:Nat,m+k=l.length->xM (EI l) d m k=k+((l.drop k).takeWhile λκ=>decide (d<κ.depth)).length
 | 0,k,h=>by rw[Ō Z]; rfl
 | m+1,k,h=>by
  have hk:k<l.length:=Z
  unfold xM
  rw[Dp hk,<-aG7 hk,List.takeWhile_cons]
  split
  .rename_i hd
   rw[TS l d m (k+1) Z,Á (by simpa using hd),Ē]; omega
  .rename_i hd
   rw[UQ (by simpa using hd)]; rfl
abbrev I8{l:List aO}(D:i<l.length):kH l i=MO l.length (EI l) i:=by
 unfold kH MO;rw[TS l _ _ _ Z]
def bY.named(e:bY):Bool:=
 if e.kind=1 then e.id==0&&(e.depth==0&&e.color==bI.none)
 else if e.kind=2 then e.index==0&&(e.depth==0&&(e.node==aO.zero&&e.color==bI.none))
 else if e.kind=3 then e.node==aO.zero&&e.color==bI.none
 else if e.kind=4 then e.id==0&&(e.index==0&&(e.depth==0&&e.color==bI.none))
 else if e.kind=5 then e.id==0&&(e.index==0&&(e.depth==0&&e.node==aO.zero))
 else false
def GR(l:List aO)(D:Nat)(J:List aO):List aO:=l.take D++J++l.drop D
def vJ(l:List aO)(i j:Nat):List aO:=l.take i++l.drop j
def EK(l:List aO)(i j:Nat):List aO:=(l.drop i).take (j-i)
def aO.ae3(n:aO)(root to:Int):aO:={n with depth:=if to<0∨8<to then -1 else n.depth-root+to}
def jH(l:List aO)(e:bY):Except Int (List aO):=
 if e.kind=1 then (if e.index<0∨(l.length:Int)<e.index then .error 6 else .ok (GR l e.index.toNat [e.node]))
 else if e.kind=2 then (match jT l e.id with | none => .error 8 | some i => .ok (vJ l i (kH l i)))
 else if e.kind=3 then (match jT l e.id with
  | none => .error 8
  | some i=>if e.index<0∨((vJ l i (kH l i)).length:Int)<e.index then .error 6
   else .ok (GR (vJ l i (kH l i)) e.index.toNat ((EK l i (kH l i)).map λn=>n.ae3 (EI l i) e.depth)))
 else if e.kind=4 then (match jT l e.node.id with
  | none => .error 8
  | some i=>if e.node.depth≠EI l i then .error 2 else .ok (l.set i e.node))
 else .ok l
def bG.with'(s:bG)(e:bY)(l:List aO):bG:=⟨s.w,s.h,if e.kind=5 then e.color else s.bg,l⟩
noncomputable def fE(s:bG)(e:bY):bG×Int:=
 if s.valid=false then (.zero,18)else if e.named=false then (.zero,2)else
 match jH s.ns e with
 | .error n=>(.zero,n)
 | .ok l=>if (s.with' e l).chk.1=0 then (s.with' e l,0)else (.zero,(s.with' e l).chk.1)
abbrev N9{s t:bG}{e:bY}(h:fE s e=(t,0)):s.valid=true∧e.named=true∧∃l,jH s.ns e = .ok l∧t=s.with' e l∧t.valid=true:=by
 unfold fE at h;split at h
 .simp at h
 rename_i D;split at h
 .simp at h
 rename_i J;refine⟨by simpa using D,by simpa using J,?_⟩;cases hn:jH s.ns e with
 | error n =>
  rw[hn]at h;simp only[Ê]at h;exfalso;have D:=h.2;subst D;unfold jH at hn;repeat' split at hn
  all_goals first | (simp only[ŭ]at hn; omega) | cases hn
 | ok l =>
  rw[hn]at h;simp only at h;split at h
  .rename_i D;simp only[Ê,and_true]at h;exact⟨l,I,h.symm,by rw[<-h]; unfold bG.valid; simpa using D⟩
  rename_i D;simp only[Ê]at h;exact absurd h.2 D
abbrev abR{s:bG}{e:bY}{l:List aO}(D:s.valid=true)(J:e.named=true)(S:jH s.ns e = .ok l)(h4:(s.with' e l).valid=true):fE s e=(s.with' e l,0):=by
 unfold fE;rw[UQ (by simp[D]),UQ (by simp[J]),S];simp only;rw[Á (by rw[bG.abQ h4])]
def bY.remove(id:Int):bY:=⟨2,id,0,0,.zero,.none⟩
def Oa(p:aO):Int:=if p.kind=1 then p.depth+1 else p.depth
def xO(r:Int)(a:List aO):Int:=match a.getLast? with | none=>r | some p=>Oa p
def Steps(r:Int):List aO->Prop
 | []=>True
 | x::t=>x.depth<=r∧Steps (Oa x) t
abbrev tK(r:Int)(x:aO)(a:List aO):xO r (x::a)=xO (Oa x) a:=by
 unfold xO;cases a with
 | nil=>rfl
 | cons y a=>rw[List.getLast?_cons_cons]; cases h:(y::a).getLast? with
  | none=>simp at h
  | some p=>rfl
theorem qH:∀{a b:List aO} {r:Int},Steps r (a++b)↔Steps r a∧Steps (xO r a) b
 | [],b,r=>by simp only[Ģ,Steps,true_and]; rfl
 | x::a,b,r=>by
  rw[Ĵ,tK]
  show x.depth<=r∧Steps (Oa x) (a++b)↔(x.depth<=r∧Steps (Oa x) a)∧_
  rw[qH,and_assoc]
abbrev Dt{l:List aO}:VL l↔(∀x∈l,x.chk=0)∧(l.map aO.id).Nodup∧Steps 0 l:=by
 rw[EJ];refine and_congr_right λ_=>and_congr_right λ_=>?_;have key:∀(l:List aO) (r:Int),(∀a x b,l=a++x::b->x.depth<=xO r a)↔Steps r l:=by
  intro l;induction l with
  | nil=>intro r; exact⟨λ_=>trivial,λ_ a x b h=>by simp at h⟩
  | cons y l ih =>
   intro r;show _↔y.depth<=r∧Steps (Oa y) l;rw[<-ih];constructor
   .intro h;refine⟨h [] y l I,λa x b e=>?_⟩;rw[<-tK r];exact h (y::a) x b (by rw[e]; rfl)
   rintro⟨h1,h2⟩ a x b e;cases a with
   | nil =>
    simp only[Ģ,Ă]at e;rw[<-e.1]; exact h1
   | cons z a =>
    simp only[Ĵ,Ă]at e;rw[<-e.1,tK];exact h2 a x b e.2
 exact key l 0
abbrev VL.depth{l:List aO}(h:VL l):∀x∈l,0<=x.depth∧x.depth<8:=λx D=>(aO.abP ((EJ.1 h).1 x D)).O
abbrev Steps.cut{A B S:List aO}{x:aO}{r:Int}(h:Steps r (A++x::(S++B)))(hB:∀y∈B.head?,y.depth<=x.depth):Steps r (A++B):=by
 rw[qH]at h |-;refine⟨h.1,?_⟩;cases B with
 | nil=>trivial
 | cons y B =>
  have D:=hB y I;have D:=h.2.1;have D:=(qH.1 h.F).2;exact⟨Z,D.2⟩
abbrev VL.sub{l m:List aO}(h:VL l)(D:m.Sublist l)(hm:Steps 0 m):VL m:=by
 obtain⟨S,h2,J⟩:=Dt.1 h;exact Dt.2 ⟨λx J=>S x (D.subset J),h2.sublist (D.map _),hm⟩
abbrev VL.take{l:List aO}(h:VL l)(n:Nat):VL (l.take n):=by
 refine h.sub (List.take_sublist n l) ?_;have:=(Dt.1 h).F;rw[<-ň n l,qH]at this;exact this.1
abbrev drop_cons{l:List aO}(D:i<l.length):l=l.take i++l[i]::l.drop (i+1):=by rw[aG7,ň]
theorem VL.vJ{l:List aO}{i:Nat}(h:VL l)(J:i<l.length):VL (vJ l i (kH l i)):=by
 obtain⟨D,S⟩:=Dq J;refine h.sub ?_ ?_
 .unfold Go.Proofs.Õ.vJ;have:l=l.take i++l.drop i:=(ň _ _).symm;have D:l.drop (kH l i)=(l.drop i).drop (kH l i-i):=by rw[Ÿ]; congr 1; omega
  rw[D];have D:=List.Sublist.append_left (List.drop_sublist (kH l i-i) (l.drop i)) (l.take i);rw[ň]at D;exact D
 have S:=(Dt.1 h).F;have e:l=l.take i++l[i]::((l.drop (i+1)).take (kH l i-(i+1))++l.drop (kH l i)):=by
  conv=>lhs; rw[drop_cons J]
  congr 2;rw[show l.drop (kH l i)=(l.drop (i+1)).drop (kH l i-(i+1)) by rw[Ÿ]; congr 1; omega,ň]
 rw[e]at S;refine Steps.cut S λy D=>?_;rw[List.head?_drop]at D;have hl:kH l i<l.length:=by
  by_cases hx:kH l i<l.length
  .exact hx
  rw[List.getElem?_eq_none Z]at D; cases D
 rw[List.getElem?_eq_getElem hl]at D;cases D;have D:=(N7 (n:=l.length) (f:=EI l) J).N;rw[<-I8 J,Dp J,Dp hl]at D;exact D hl
abbrev abS{l:List aO}(D:i<l.length):EK l i (kH l i)=l[i]::(l.drop (i+1)).take (kH l i-(i+1)):=by
 have:=Dq D;unfold EK;rw[<-aG7 D,show kH l i-i=(kH l i-(i+1))+1 by omega,List.take_succ_cons]
abbrev ae4{l:List aO}{x:aO}(h:x∈EK l i j):x∈l:=Ϭ (ŝ h)
abbrev TU{l m:List aO}{k:Nat}(hk:k<=l.length):(GR l k m).length=l.length+m.length:=by
 unfold GR;rw[Å,Å,Ĳ,Ş]; omega
abbrev I9{l:List aO}(D:i<=j)(J:j<=l.length):(vJ l i j).length+(EK l i j).length=l.length:=by
 unfold vJ EK;rw[Å,Ĳ,Ş,Ĳ,Ş]; omega
theorem Aq:∀{a b pre:List aO} {x:aO},Ap pre a->jq (pre++a) x≠0->jk pre (a++x::b)=(jq (pre++a) x,(((pre++a).length:Nat):Int))
 | [],b,pre,x,_,h=>by
  rw[ĳ]at h |-
  rw[Ģ]
  unfold jk
  rw[UQ h]
 | y::a,b,pre,x,hv,h=>by
  rw[Ĵ]
  unfold jk
  rw[Á hv.1,Aq (a:=a) hv.2 (by rw[ç]; exact h),ç]
  rfl
abbrev Ja{pre:List aO}{x:aO}(h:x.chk≠0):jq pre x=x.chk:=by unfold jq; rw[Á h]
def aO.moved(n:aO)(root to:Int):aO:={n with depth:=IntKind.i64.wrap (n.depth+IntKind.i64.wrap (to-root))}
def fV(l:List aO)(e:bY):Except Int (List aO):=
 if e.kind=3 then (match jT l e.id with
  | none => .error 8
  | some i=>if e.index<0∨((vJ l i (kH l i)).length:Int)<e.index then .error 6
   else .ok (GR (vJ l i (kH l i)) e.index.toNat ((EK l i (kH l i)).map λn=>n.moved (EI l i) e.depth)))
 else jH l e
noncomputable def Qk(s:bG)(e:bY):bG×Int:=
 if s.valid=false then (.zero,18)else if e.named=false then (.zero,2)else
 match fV s.ns e with
 | .error n=>(.zero,n)
 | .ok l=>if (s.with' e l).chk.1=0 then (s.with' e l,0)else (.zero,(s.with' e l).chk.1)
abbrev XF{n:aO}(D:0<=n.depth∧n.depth<8)(J:0<=root∧root<8)(S:0<=to∧to<=8):n.moved root to=n.ae3 root to:=by
 unfold aO.moved aO.ae3;rw[UQ Z];have:IntKind.i64.wrap (n.depth+IntKind.i64.wrap (to-root))=n.depth-root+to:=by rw[Ŭ,Ŭ]; omega
 rw[this]
abbrev abT(J:0<=root∧root<8)(D:I64 to):IntKind.i64.wrap (root+IntKind.i64.wrap (to-root))=to:=by
 have:=D.1; have:=D.2;rw[Ŭ,Ŭ]; omega
abbrev Oc{s:bG}{e:bY}(hd:I64 e.depth):Qk s e=fE s e:=by
 unfold Qk fE;cases hv:s.valid with
 | false=>rfl
 | true =>
  rw[UQ O,UQ (show ¬true=false by decide)];obtain⟨hw,D,S⟩:=bG.lY.1 hv;cases hn:e.named with
  | false=>rfl
  | true =>
   rw[UQ (show ¬true=false by decide),UQ (show ¬true=false by decide)];unfold fV;by_cases hk:e.kind=3
   .rw[Á hk];unfold jH;rw[UQ Z,UQ Z,Á hk];cases hf:jT s.ns e.id with
    | none=>rfl
    | some i =>
     simp only;obtain⟨D,J⟩:=Bq hf;obtain⟨J,e2⟩:=Dq D;by_cases hx:e.index<0∨((vJ s.ns i (kH s.ns i)).length:Int)<e.index
     .simp only[Á hx]
     simp only[UQ hx];have hr:=S.depth _ (ò D);have hc:=S.vJ D;rw[Dp D];by_cases ht:0<=e.depth∧e.depth<=8
     .have:(EK s.ns i (kH s.ns i)).map (λn=>n.moved s.ns[i].depth e.depth)=(EK s.ns i (kH s.ns i)).map (λn=>n.ae3 s.ns[i].depth e.depth):=
       List.map_congr_left λn hn=>XF (S.depth n (ae4 hn)) hr ht
      rw[this]
     
     have key:∀(f:aO->aO),(f s.ns[i]).chk=6->(s.with' e (GR (vJ s.ns i (kH s.ns i)) e.index.toNat ((EK s.ns i (kH s.ns i)).map f))).chk=(6,e.index):=by
      intro f J;have aa:=I9 (l:=s.ns) (i:=i) (j:=kH s.ns i) Z e2;have ab:e.index.toNat<=(vJ s.ns i (kH s.ns i)).length:=Z
      show bG.chk ⟨s.w,s.h,_,_⟩=_;unfold bG.chk;simp only;rw[UQ Z,UQ (by rw[TU ab,ĭ]; omega)];rw[abS D];unfold GR;rw[đ,ç,Ĵ];have h6:jq ([]++(vJ s.ns i (kH s.ns i)).take e.index.toNat) (f s.ns[i])=6:=by rw[Ja (by rw[J]; decide),J]
      rw[Aq (hc.take _) (by rw[h6]; decide),h6];congr 1;rw[Ģ,Ĳ]; omega
     have J:=(EJ.1 S).1 _ (ò D);rw[key _ (by
      show({s.ns[i]with depth:=_}:aO).chk=6;rw[abT hr hd,K16 J,UQ Z])]
     rw[key _ (by
      unfold aO.ae3;rw[Á Z,K16 J,UQ Z])]
     rfl
   simp only[UQ hk]<;>rfl
end
section
open Na
variable{α:Type}{K:Nat}
structure aB where
 w:Int
 h:Int
 bg:bI
 nsa:Option Addr
 nsc:Nat
 ns:List aj
def aB.s(s:aB):y9 := .s s.nsa s.ns.length s.nsc
def aB.cells(s:aB):List y9:=[.i s.w,.i s.h]++s.bg.cells++[s.s]
def aB.v(s:aB):y9 := .agg s.cells.toArray
def aB.key(s:aB):bG:=⟨s.w,s.h,s.bg,s.ns.map aj.key⟩
abbrev yX (K:Nat)(w:E5)(v:y9)(l:List aj):Prop:=aG 47 aj.cells w v l∧∀n∈l,eH K w n
def bQ(K:Nat)(w:E5)(s:aB):Prop:=I64 s.w∧I64 s.h∧yX K w s.s s.ns
structure aQ where
 kind:Int
 id:Int
 index:Int
 depth:Int
 node:aj
 color:bI
def aQ.cells(e:aQ):List y9:=[.i e.kind,.i e.id,.i e.index,.i e.depth]++e.node.cells++e.color.cells
def aQ.v(e:aQ):y9 := .agg e.cells.toArray
def aQ.key(e:aQ):bY:=⟨e.kind,e.id,e.index,e.depth,e.node.key,e.color⟩
def gU(K:Nat)(w:E5)(e:aQ):Prop:=I64 e.kind∧I64 e.id∧I64 e.index∧I64 e.depth∧eH K w e.node
abbrev yX.below{w w':E5}{v:y9}{l:List aj}(h:yX K w v l)(D:Ext w w'):yX K w' v l:=⟨h.1.below D,λn hn=>(h.2 n hn).below D⟩
abbrev bQ.below{w w':E5}{s:aB}(h:bQ K w s)(D:Ext w w'):bQ K w' s:=⟨h.1,h.2.1,h.F.below D⟩
abbrev gU.below{w w':E5}{e:aQ}(h:gU K w e)(D:Ext w w'):gU K w' e:=⟨h.1,h.2.1,h.D,h.C,h.O.below D⟩
def aB.zero:aB:=⟨0,0,.none,none,0,[]⟩
abbrev Jb(w:E5):bQ K w .zero:=⟨by decide,by decide,⟨dK _ _ _,λn hn=>by cases hn⟩⟩
abbrev XG(pre:List aO)(x:aO):FM (pre++[x])=if x.kind=1 then x.depth+1 else x.depth:=by
 unfold FM;rw[List.getLast?_concat]
end
end Go.Proofs.Õ
section
namespace Go.Proofs.Õ
variable{P:Ë}{k e t:Ð}{b:Nat}{ids:List Int}{w w':E5}
def mP(P:Ë)(k e:Ð)(w:E5)(b:Nat)(ids:List Int):Prop:=
 ∃D:DataW Unit,w.ownsMap P k (plainElem P e) b ids.length D∧IsMap D∧∀x:Int,I64 x->D.atKey (.int .i64 x) (.lit (.bool false)) = .lit (.bool (ids.any (· == x)))
abbrev XH(P:Ë)(k e:Ð)(w:E5):mP P k e (w.alloc (.map #[] 0)) w.heap.size []:=
 ⟨.map [],World.ownsMap_made w P k _,isMap_empty,λx _=>rfl⟩
abbrev wf_i64{x:Int}(h:I64 x):(Lit.int .i64 x).wf=true:=by
 obtain⟨D,J⟩:=h;have D:IntKind.i64.min = -9223372036854775808:=by decide
 have J:IntKind.i64.max=9223372036854775807:=by decide
 simp[Lit.wf,D,J];omega
abbrev Bv{H:Type}(D:P.underlying e=some .bool){v:y9}{z:DataW H×List MemPlace}(h:plainElem P e v=some z):∃c,v = .bool c∧z=(.lit (.bool c),[]):=by
 unfold plainElem at h;rw[D]at h;cases v<;>simp at h;exact⟨_,I,h.symm⟩
abbrev mP.lt(h:mP P k e w b ids):b<w.heap.size:=by obtain⟨D,h,_⟩:=h; exact h.lt
abbrev mP.kept(h:mP P k e w b ids)(hb:∀i,i=b->w'.heap[i]?=w.heap[i]?):mP P k e w' b ids:=by
 obtain⟨D,⟨es,J,hB,F,S,hD⟩,h2,h3⟩:=h;exact⟨D,⟨es,J,(hb b I).trans hB,F,S,hD⟩,h2,h3⟩
abbrev mP.lookup(h:mP P k e w b ids)(hk:P.underlying k=some (.int .i64))(he:P.underlying e=some .bool)(ht:P.underlying t=some (.map k e))(hz:(zeroValue e).run P w = .ok (.z) w){x:Int}(hx:I64 x) :
  (Instr.lookup t (.map (some b)) (.i x) false).run P w = .ok (.b (ids.any (· == x))) w:=by
 obtain⟨D,S,J,h3⟩:=h;obtain⟨v,ps,J,hv⟩:=S.lookup (int_keyed hk) ht hz (plainElem_bool he false) (keyOf_int_mk hk (wf_i64 hx));obtain⟨c,rfl,S⟩:=Bv he hv;simp only[Ê]at S;rw[h3 x hx]at S;obtain⟨S,-⟩:=S;cases S;exact J
abbrev mP.update(h:mP P k e w b ids)(hk:P.underlying k=some (.int .i64))(he:P.underlying e=some .bool)(ht:P.underlying t=some (.map k e))(hn:ids.length<maxLen){x:Int}(hx:I64 x) :
  ∃w',(Instr.mapUpdate t (.map (some b)) (.i x) (.b true)).run P w = .ok () w'∧mP P k e w' b (ids++[x])∧w.grownBy w' (some b):=by
 obtain⟨D,h1,S,h3⟩:=h;obtain⟨w',J,ho,hg⟩:=h1.update (int_keyed hk) ht hn (keyOf_int_mk hk (wf_i64 hx)) (plainElem_bool he true);refine⟨w',J,⟨D.put (.int .i64 x) (.lit (.bool true)),?_,S.put _ _,λy hy=>?_⟩,hg⟩
 .rw[Å,aG8]; exact ho
 rw[List.any_append,List.any_cons,List.any_nil,Bool.or_false];by_cases hxy:x=y
 .subst hxy;rw[atKey_put_same S (k := .int .i64 x) (by first | trivial | simp[WideAt.IsKeyLit])];simp
 rw[atKey_put_other (by simpa using λh=>hxy h.symm),h3 y hy];simp[hxy]
end Go.Proofs.Õ
namespace Go.Sx
open Na
variable{P:Ë}{k e:Ð}{b:Nat}{ids:List Int}{w w':E5}
variable{ops:Array Oper}{Q:Exit->Act->E5->Prop}{w0:E5}{a:Act}{os:List Oper}{n:Nat}{l:List (Nat×y9)}{bl:List (Nat×List y9)}{vs:List eX}
def TV(os:List Oper):Option Nat:=match os with
 | o::_=>(match o.guard,o.dst,o.op with
  | none,some d,.makeMap _ none=>some d
  | _,_,_=>none)
 | []=>none
def lookOf(os:List Oper)(l:List (Nat×y9)):Option (Ð×Nat×Int×Nat):=match os with
 | o::_=>(match o.guard,o.dst,o.op with
  | none,some d,.lookup t x i false=>(match rd (lift l) [] x,rd (lift l) [] i with
   | some (.map (some b)),some (.i z)=>some (t,b,z,d)
   | _,_=>none)
  | _,_,_=>none)
 | []=>none
def akX(os:List Oper)(l:List (Nat×y9)):Option (Ð×Nat×Int):=match os with
 | o::_=>(match o.guard,o.dst,o.op with
  | none,none,.mapUpdate t x i v=>(match rd (lift l) [] x,rd (lift l) [] i,rd (lift l) [] v with
   | some (.map (some b)),some (.i z),some (.b true)=>some (t,b,z)
   | _,_,_=>none)
  | _,_,_=>none)
 | []=>none
abbrev auI(S:St w0 a w n l bl vs)(d:Nat)(next:∀D w' b,Ext w w'->b=w.heap.size->(∀k e,mP P k e w' b [])->St w0 D w' n ((d,.map (some b))::l) bl vs->Ã P ops Q (os.drop 1) D w')
  (D:TV os=some d:=by kernel_rfl) (hd:uG n (some d)=true:=by rfl):Ã P ops Q os a w:=by
 unfold TV at D;split at D
 .rename_i o os';split at D
  .rename_i d' t hg hdst hop;cases D;have J:(Í a.eval o).run P w = .ok (.value (.map (some w.heap.size))) (w.alloc (.map #[] 0)):=by
    unfold Í;simp only[hop];rfl
   unfold Ã;rw[Á (by simp[Region.wanted,hg])];left;unfold Oper.wp;rw[J];simp only[Oper.upon];have hE:Ext w (w.alloc (.map #[] 0)):=aI _ _;have J:=S.grow hE;rw[hdst];exact next _ _ w.heap.size hE I (λk e=>XH P k e w) ⟨tC S.s hd _,J.E,J.own,J.apart,J.mem⟩
  cases D
 cases D
abbrev apN(S:St w0 a w n l bl vs)(d:Nat){t:Ð}{z:Int}(h:mP P k e w b ids)(hk:P.underlying k=some (.int .i64))(he:P.underlying e=some .bool)(ht:P.underlying t=some (.map k e))(hz:(zeroValue e).run P w = .ok (.z) w)(hi:I64 z)
  (next:∀D,St w0 D w n ((d,.b (ids.any (· == z)))::l) bl vs->Ã P ops Q (os.drop 1) D w)
  (D:lookOf os l=some (t,b,z,d):=by kernel_rfl) (hd:uG n (some d)=true:=by rfl):Ã P ops Q os a w:=by
 unfold lookOf at D;split at D
 .rename_i o os';split at D
  .rename_i d' t' x i hg hdst hop;split at D
   .rename_i b' z' hxx hii;cases D;have J:=gG (bT S.s) o;have aa:=gB (Std.act a) (J x (by rw[hop]; simp[Op.operands])) (p:=[]) I hxx;have ab:=gB (Std.act a) (J i (by rw[hop]; simp[Op.operands])) (p:=[]) I hii;have J:(Í a.eval o).run P w = .ok (.value (.b (ids.any (· == z)))) w:=by
     unfold Í;simp only[hop,aa,ab,ġ,h.lookup hk he ht hz hi];rfl
    unfold Ã;rw[Á (by simp[Region.wanted,hg])];left;unfold Oper.wp;rw[J];simp only[Oper.upon];rw[hdst];exact next _ (S.act (tC S.s hd _))
   cases D
  cases D
 cases D
abbrev St.auJ(S:St w0 a w n l bl vs)(h:mP P k e w b ids)(hb:w0.heap.size<=b)(hg:w.grownBy w' (some b))(h1:bl.all (λp => !p.2.isEmpty)=true)(h2:vs.all (λm => !m.2.2.isEmpty)=true):St w0 a w' n l bl vs:=by
 have hm:∀i,w.cell? ⟨b,i,none⟩=none:=by
  obtain⟨D,⟨es,J,hB,_⟩,_⟩:=h;intro i;simp[World.cell?,hB]
 have aa:∀c i,c<w.heap.size->c≠b->w'.cell? ⟨c,i,none⟩=w.cell? ⟨c,i,none⟩:=by
  intro c i hc J;simp only[World.cell?];rw[hg.block c hc (λe=>J (Ò e))]
 have ac:∀c i,c<w.heap.size->c≠b->w'.frozen? ⟨c,i,none⟩=w.frozen? ⟨c,i,none⟩:=by
  intro c i hc J;simp only[World.frozen?];rw[hg.block c hc (λe=>J (Ò e))]
 have hE:Ext w0 w':=S.E.grown hg S.E.size (λk e=>by cases e; exact hb);refine⟨S.s,hE,λp hp=>?_,S.apart,λm ab=>?_⟩
 .obtain⟨⟨q1,q2,q3⟩,q4⟩:=S.own p hp;have J:p.1≠b:=by
   intro e;have h3:=ñ.1 h1 p hp;have h4:=q2 0;rw[e,hm 0]at h4;cases hA:p.2 with
   | nil=>rw[hA]at h3; cases h3
   | cons x A=>rw[hA]at h4; simp at h4
  exact⟨⟨ö q1 hg.size,λi=>by rw[aa _ _ q1 J]; exact q2 i,λi=>by rw[ac _ _ q1 J]; exact q3 i⟩,q4⟩
 obtain⟨⟨q1,q2⟩,q3⟩:=S.mem m ab;have J:m.1≠b:=by
  intro e;have h3:=ñ.1 h2 m ab;cases hA:m.2.2 with
  | nil=>rw[hA]at h3; cases h3
  | cons x A =>
   have h4:=q2 0 x (by rw[hA]; rfl);rw[e,hm]at h4;cases h4
 exact⟨⟨ö q1 hg.size,λi v hi=>by rw[aa _ _ q1 J]; exact q2 i v hi⟩,q3⟩
abbrev auK(S:St w0 a w n l bl vs){t:Ð}{z:Int}(h:mP P k e w b ids)(hb:w0.heap.size<=b)(hk:P.underlying k=some (.int .i64))(he:P.underlying e=some .bool)(ht:P.underlying t=some (.map k e))(hn:ids.length<maxLen)(hi:I64 z)
  (next:∀w',mP P k e w' b (ids++[z])->w.grownBy w' (some b)->St w0 a w' n l bl vs->Ã P ops Q (os.drop 1) a w')
  (J:akX os l=some (t,b,z):=by kernel_rfl) (h1:bl.all (λp => !p.2.isEmpty)=true:=by kernel_rfl) (h2:vs.all (λm => !m.2.2.isEmpty)=true:=by kernel_rfl):Ã P ops Q os a w:=by
 unfold akX at J;split at J
 .rename_i o os';split at J
  .rename_i t' x i v hg hdst hop;split at J
   .rename_i b' z' hxx hii hvv;cases J;have D:=gG (bT S.s) o;have ab:=gB (Std.act a) (D x (by rw[hop]; simp[Op.operands])) (p:=[]) I hxx;have ac:=gB (Std.act a) (D i (by rw[hop]; simp[Op.operands])) (p:=[]) I hii;have ae:=gB (Std.act a) (D v (by rw[hop]; simp[Op.operands])) (p:=[]) I hvv;obtain⟨w',D,h',aa⟩:=h.update hk he ht hn hi;have D:(Í a.eval o).run P w = .ok .skip w':=by
     unfold Í;simp only[hop,ab,ac,ae,ġ,D];rfl
    unfold Ã;rw[Á (by simp[Region.wanted,hg])];left;unfold Oper.wp;rw[D];simp only[Oper.upon];rw[hdst];exact next _ h' aa (S.auJ h hb aa h1 h2)
   cases J
  cases J
 cases J
abbrev TW(h:mP P k e w b ids):On (λi=>i=b) (λw=>mP P k e w b ids) w:=λw' D J=>h.kept λi D=>J i (by rw[D]; exact h.lt) D
