/- Walks of the reference on rational numbers: Normalize, -/
import Derived.Test.YtfmkkemfhjkajaaGreatDoorRefRat2
import Derived.Test.YtfmkkemfhjkajaaGreatDoorData
import Derived.Test.YtfmkkemfhjkajaaGreatDoorPk13
import Derived.Test.YtfmkkemfhjkajaaGreatDoorPk24
set_option linter.unusedVariables false
namespace Go.Proofs.YtfmkkemfhjkajaaGreatDoor
section
set_option maxHeartbeats 1600000
set_option maxRecDepth 100000
open Go.RowKit
variable{α:Type}
theorem FP{w w1:World}{A:Array Value}{ta tb:TypeId}{x0 x1 x2 x3:Value}(hb:Ext ((w.alloc (.cells A ta)).alloc (.cells #[x0,x1,x2,x3] tb)) w1) :
  (∀i,w1.cell? ⟨w.heap.size,i,none⟩=A[i]?)∧(∀i,w1.cell? ⟨w.heap.size+1,i,none⟩ = #[x0,x1,x2,x3][i]?)∧(∀i,w1.frozen? ⟨w.heap.size+1,i,none⟩=false)∧w.heap.size+1<w1.heap.size:=by
 refine⟨fun i=>?_,fun i=>?_,fun i=>?_,by have:=hb.size; simp at this; omega⟩
 ·rw[hb.cell (p:=⟨w.heap.size,i,none⟩) (by simp; omega)]; simp[go_sem]
 ·rw[hb.cell (p:=⟨w.heap.size+1,i,none⟩) (by simp)]; simp[go_sem]
 ·rw[hb.frozen (p:=⟨w.heap.size+1,i,none⟩) (by simp)]; simp[go_sem]
theorem yF(n1 n2:Bool)(s1 s2:Value)(l m:List UInt32)(w:World)(h1:aG w s1 l)(h2:aG w s2 m)(hl1:l.length≤5000000)(hl2:m.length≤5000000) :
  Calls Tryz.prog 147 #[.agg #[.bool n1,s1,.bool n2,s2]] w fun e w'=>∃x,e = .returned x∧bH w.heap.size w' x (nrm n1 n2 (Na.val l) (Na.val m))∧Ext w w':=by
 obtain⟨a1,c1,rfl⟩:=h1.shape
 obtain⟨a2,c2,rfl⟩:=h2.shape
 have hb0:=(aH w (.cells #[.bool n1,.slice a1 l.length c1,.bool n2,.slice a2 m.length c2] 31)).alloc (by simp) (.cells #[.bool false,.slice none 0 0,.bool false,.slice none 0 0] 31)
 have hS:=pX n2 _ m _ (h2.below hb0) (by omega)
 have H:=Lib.hid (And.intro h1 h2)
 have HB0:=Lib.hid hb0
 rcases Nat.eq_zero_or_pos (Na.val m)with hm | hm
 ·have hN:nrm n1 n2 (Na.val l) (Na.val m)=(false,0,1):=by unfold nrm; rw[if_pos hm]
  rw[hN]
  rw[hm,show qP n2 0=0 from rfl]at hS
  have HS:=Lib.hid hS
  clear h1 h2 hb0 hm hN hS
  go_enter Tryz.func147,Tryz.ntmps147
  go_wp2_with fail
  refine HS.out.mono ?_
  rintro e w1 ⟨rfl,hb⟩
  have HX:=Lib.hid (Ext.trans' HB0.out hb)
  have HY:=Lib.hid (nY 0 w1 (by decide))
  have V8:=Lib.hid hb
  clear hb HS
  go_wp2_with fail
  refine HY.out.mono ?_
  rintro e w2 ⟨x,rfl,hx,hb2⟩
  obtain⟨b1,d1,b2,d2,rfl⟩:=hx.shape
  obtain⟨-,r1,f1,hz⟩:=FP (Ext.trans' V8.out hb2)
  obtain⟨-,-,-,hz1⟩:=FP V8.out
  have F:=Lib.hid hx
  have HX2:=Lib.hid (Ext.trans' HX.out hb2)
  clear hx hb2 HY
  go_wp2_with fail
  refine bodyPost_ret (v := .agg #[.bool false,.slice b1 (Na.au 0).length d1,.bool false,.slice b2 (Na.au 1).length d2]) (by simp[results,Tryz.results147,go_sem,r1]) rfl ⟨_,rfl,?_,oQ HX2.out (by omega) _ _ _ _⟩
  exact(F.out.Kt hz1 _ _ _ _).mono (by omega)
 ·have hN:nrm n1 n2 (Na.val l) (Na.val m)=(jy n1 n2 (Na.val l) (Na.val m),Na.val l/Nat.gcd (Na.val l) (Na.val m),Na.val m/Nat.gcd (Na.val l) (Na.val m)):=by unfold nrm; rw[if_neg (by omega)]
  obtain⟨⟨NG,X,Y⟩,hr⟩:∃r,nrm n1 n2 (Na.val l) (Na.val m)=r:=⟨_,rfl⟩
  rw[hr]
  rw[hN]at hr
  obtain⟨e1,hr⟩:=Prod.mk.inj hr
  obtain⟨e2,e3⟩:=Prod.mk.inj hr
  have E:=Lib.hid (And.intro e1 (And.intro e2 e3))
  clear e1 e2 e3 hr hN
  have hs0:(qP n2 (Na.val m)==0)=false:=by
   rw[beq_eq_false_iff_ne]; unfold qP; rw[if_neg (by omega)]; cases n2<;>simp
  have HM:=Lib.hid hm
  have HS:=Lib.hid hS
  clear h1 h2 hb0 hm hS
  go_enter Tryz.func147,Tryz.ntmps147
  go_wp2_with fail
  refine HS.out.mono ?_
  rintro e w1 ⟨rfl,hb⟩
  have hX:=Ext.trans' HB0.out hb
  have HX:=Lib.hid hX
  have hY:=yN n1 n2 _ _ l m w1 (H.out.1.below hX) (H.out.2.below hX) HM.out hl1 hl2
  rw[E.out.1,E.out.2.1,E.out.2.2]at hY
  have HY:=Lib.hid hY
  clear hY
  have V8:=Lib.hid hb
  obtain⟨k0,-,-,-⟩:=FP hb
  clear hb HS hX
  go_wp2_with fail
  refine HY.out.mono ?_
  rintro e w2 ⟨x,rfl,hx,hb2⟩
  obtain⟨b1,d1,b2,d2,rfl⟩:=hx.shape
  obtain⟨-,r1,f1,hz⟩:=FP (Ext.trans' V8.out hb2)
  obtain⟨-,-,-,hz1⟩:=FP V8.out
  have F:=Lib.hid hx
  have HX2:=Lib.hid (Ext.trans' HX.out hb2)
  clear hx hb2 HY k0
  go_wp2_with fail
  refine bodyPost_ret (v := .agg #[.bool NG,.slice b1 (Na.au X).length d1,.bool false,.slice b2 (Na.au Y).length d2]) (by simp[results,Tryz.results147,go_sem,r1]) rfl ⟨_,rfl,?_,oQ HX2.out (by omega) _ _ _ _⟩
  exact(F.out.Kt hz1 _ _ _ _).mono (show w.heap.size≤w1.heap.size by omega)
theorem CW(n1 n2:Bool)(s1 s2:Value)(l m:List UInt32)(w:World)(h1:aG w s1 l)(h2:aG w s2 m) :
  Calls Tryz.prog 217 #[.agg #[.bool n1,s1],.agg #[.bool n2,s2]] w fun e w'=>e = .returned (.bool (n1==n2&&l==m))∧Ext w w':=by
 obtain⟨a1,c1,rfl⟩:=h1.shape
 obtain⟨a2,c2,rfl⟩:=h2.shape
 have hl1:=h1.len
 have hl2:=h2.len
 unfold maxLen at hl1 hl2
 have HB0:=Lib.hid ((aH w (.cells #[.bool n1,.slice a1 l.length c1] 29)).alloc (by simp) (.cells #[.bool n2,.slice a2 m.length c2] 29))
 have H1:=Lib.hid h1
 have H2:=Lib.hid h2
 clear h1 h2
 by_cases hn:n1=n2
 ·subst hn
  by_cases hl:l.length=m.length
  ·have HL:=Lib.hid hl
   obtain⟨W,hW⟩:∃W,((w.alloc (.cells #[.bool n1,.slice a1 l.length c1] 29)).alloc (.cells #[.bool n1,.slice a2 m.length c2] 29))=W:=⟨_,rfl⟩
   have hK:∀w1,Ext W w1→w1.cell? ⟨w.heap.size,1,none⟩=some (.slice a1 l.length c1)∧w1.cell? ⟨w.heap.size+1,1,none⟩=some (.slice a2 m.length c2):=by
    intro w1 hb
    subst hW
    constructor
    ·rw[hb.cell (p:=⟨w.heap.size,1,none⟩) (by simp; omega)]; simp[go_sem]
    ·rw[hb.cell (p:=⟨w.heap.size+1,1,none⟩) (by simp)]; simp[go_sem]
   have HK:=Lib.hid hK
   rw[hW]at HB0
   have HW:=Lib.hid hW
   have hne:((l.length:Int) != (m.length:Int))=false:=by rw[bne_eq_false_iff_eq]; omega
   have hml:m.length≤l.length:=Nat.le_of_eq hl.symm
   have hlm:l.length≤m.length:=Nat.le_of_eq hl
   clear hl hK hW
   cases n1
   all_goals
    go_enter Tryz.func217,Tryz.ntmps217
    go_wp2_with fail
    rw[HW.out]
    clear hne
    go_loopw [5] (fun i wr=>∃k:Nat,i = .int .i64 k∧k≤l.length∧l.take k=m.take k∧Ext W wr) (fun i _=>l.length-(intOf i).toNat)
    case atStart=>exact⟨0,rfl,Nat.zero_le _,rfl,Below.refl _ _⟩
    case round =>
     obtain⟨k,rfl,hk,ht,hbel⟩:=hrel
     have HT:=Lib.hid ht
     clear ht
     obtain⟨q1,q2⟩:=HK.out wr hbel
     by_cases hlt:k<l.length
     ·obtain⟨bx,ox,cx,hxs,hbx,hlx,hmx,hcx⟩:=eF H1.out rfl (by omega)
      obtain⟨by',oy,cy,hys,hby,hly,hmy,hcy⟩:=eF H2.out rfl (by omega)
      simp only[Value.slice.injEq]at hxs hys
      obtain⟨rfl,-,-⟩:=hxs
      obtain⟨rfl,-,-⟩:=hys
      have hkm:k<m.length:=by omega
      have hb:=Ext.trans' HB0.out hbel
      have r1:wr.cell? ⟨bx,ox+k,none⟩=some (aW l[k]):=by rw[hb.cell (p:=⟨bx,ox+k,none⟩) hbx]; exact hcx k hlt
      have r2:wr.cell? ⟨by',oy+k,none⟩=some (aW m[k]):=by rw[hb.cell (p:=⟨by',oy+k,none⟩) hby]; exact hcy k hkm
      have hs1:=take_snoc l k hlt
      have hs2:=take_snoc m k hkm
      clear hcx hcy hb
      have hkI:(k:Int)<(m.length:Int):=by omega
      by_cases he:l[k]=m[k]
      ·have hnx:l.take (k+1)=m.take (k+1):=by rw[hs1,hs2,HT.out,he]
       rw[he]at r1
       have HN:=Lib.hid hnx
       generalize m[k]=d at *
       clear hs1 hs2 hnx he
       go_wp2_with fail
       go_quiet (fail)
       go_wp2_with fail
       go_roundw
       case rel=>exact⟨k+1,by go_num,by omega,HN.out,below_drewN hbel _⟩
       case measure=>simp[intOf]; omega
      ·have hx:((l[k].toNat:Int) != (m[k].toNat:Int))=true:=by
        rw[bne_iff_ne]; intro e; exact he (UInt32.toNat_inj.1 (by omega))
       have hr:l≠m:=fun e=>he (by subst e; rfl)
       have HR:Hid ((l==m)=false):=beq_eq_false_iff_ne.2 hr
       generalize l[k]=d1 at *
       generalize m[k]=d2 at *
       clear hs1 hs2 he hr
       go_wp2_with fail
       go_quiet (fail)
       go_wp2_with fail
       go_ret
       exact⟨by rw[HR.out]; rfl,below_drewN (Ext.trans' HB0.out hbel) _⟩
     ·obtain rfl:k=l.length:=by omega
      have hr:l=m:=by
       have:=HT.out
       rw[List.take_length,HL.out,List.take_length]at this; exact this
      have HR:Hid ((l==m)=true):=beq_iff_eq.2 hr
      clear hr
      go_wp2_with fail
      go_ret
      exact⟨by rw[HR.out]; rfl,Ext.trans' HB0.out hbel⟩
  ·have hne:((l.length:Int) != (m.length:Int))=true:=by rw[bne_iff_ne]; omega
   have hr:Hid ((n1==n1&&l==m)=false):=by
    show _=_
    rw[beq_self_eq_true,Bool.true_and,beq_eq_false_iff_ne]; exact fun e=>hl (by rw[e])
   clear hl
   cases n1
   all_goals
    go_enter Tryz.func217,Tryz.ntmps217
    go_wp2_with fail
    go_ret
    exact⟨by rw[hr.out]; rfl,HB0.out⟩
 ·have hr:Hid ((n1==n2&&l==m)=false):=by
   show _=_
   rw[beq_eq_false_iff_ne.2 hn,Bool.false_and]
  cases n1<;>cases n2
  ·exact absurd rfl hn
  case' true.true=>exact absurd rfl hn
  all_goals
   clear hn
   go_enter Tryz.func217,Tryz.ntmps217
   go_wp2_with fail
   go_ret
   exact⟨by rw[hr.out]; rfl,HB0.out⟩
end
section
set_option maxHeartbeats 1600000
set_option maxRecDepth 100000
open Go.RowKit
variable{α:Type}
theorem iD(v:Value)(q:Bool×Nat×Nat)(K:Nat)(w:World)(h:cO K w v q)(hK:K≤1000000) :
  Calls Tryz.prog 147 #[v] w fun e w'=>∃x,e = .returned x∧bH w.heap.size w' x q∧Ext w w':=by
 obtain⟨n1,s1,l1,n2,s2,l2,rfl,h1,h2,h3,h4,rfl⟩:=h
 exact yF n1 n2 s1 s2 l1 l2 w h1 h2 (by omega) (by omega)
theorem Oc(v1 v2:Value)(z:Int)(d K:Nat)(w:World)(h1:eP K w v1 z)(h2:eP K w v2 (d:Int))(hd:0<d)(hK:K≤1000000) :
  Calls Tryz.prog 187 #[v1,v2] w fun e w'=>∃x,e = .returned x∧bH w.heap.size w' x (nz z d)∧Ext w w':=by
 obtain⟨n1,s1,l,rfl,h1,hl,rfl⟩:=h1
 obtain⟨n2,s2,m,rfl,h2,hm,hz⟩:=h2
 obtain⟨rfl,rfl⟩:n2=false∧Na.val m=d:=by
  unfold zv at hz
  cases n2
  ·simp only[Bool.false_eq_true,if_false]at hz; exact⟨rfl,by omega⟩
  ·simp only[if_true]at hz; omega
 have h:=yN n1 false s1 s2 l m w h1 h2 hd (by omega) (by omega)
 rw[←Y8]
 unfold nrm
 rw[if_neg (by omega)]
 exact h
theorem Oe(v1 v2:Value)(q1 q2:Bool×Nat×Nat)(K1 K2:Nat)(w:World)(h1:cO K1 w v1 q1)(h2:cO K2 w v2 q2)(hK1:1≤K1)(hK2:1≤K2)(hM1:K1≤100000)(hM2:K2≤100000) :
  Calls Tryz.prog 168 #[v1,v2] w fun e w'=>∃x,e = .returned x∧bH w.heap.size w' x (nK q1 q2)∧Ext w w':=by
 obtain⟨n1,a1,m1,c1,o1,CQ,k1,d1,rfl⟩:=h1.shape
 have su:=h1.len hK1
 have Ua:=h1.pos
 obtain⟨n2,a2,m2,c2,o2,NU,k2,d2,rfl⟩:=h2.shape
 have uP:=h2.len hK2
 have HP2:=h2.pos
 refine aiK Tryz.func168 Tryz.ntmps168 fun ac S=>aiG fun _ aU=>aiJ S 2 [.bool n1,.slice a1 m1 c1,.bool o1,.slice CQ k1 d1] fun ac u b2 E3 hb4 S=>aiJ S 3 [.bool n2,.slice a2 m2 c2,.bool o2,.slice NU k2 d2] fun ac u b5 E6 hb7 S=>aiJ S 4 Sx.zr fun ac u b8 E9 yC S=>aiF<|aU _ _<|wp_seq_k (fun _ dB=>?_)
 have hold:=fun p hp=>(S.own p hp).1.1
 have SN:=S.E.size
 refine wp_region_any (by kernel_rfl)<|Sx.JE [(4,5),(5,6)] S 6 [(8,fun v w1=>bH w.heap.size w1 v q1),(10,fun v w1=>bH w.heap.size w1 v q2),(5,Sx.nM u.heap.size Sx.zr none),(6,Sx.nM u.heap.size Sx.zr none)] (fun r=>[.mem 2 0,.mem 1 0,.new 5 Sx.zr none r,.new 6 Sx.zr none r]) (fun x=>[x 8,x 10,x 5,x 6]) (fun x=>[(_,_,true,x 8,8),(_,_,true,x 10,10)]) [[],[]] (fun x=>[(5,x 5),(6,x 6),(8,x 8),(10,x 10)]) ⟨fun _ _ _ k h=>aA.ext h k,fun _ _ _ k h=>aA.ext h k,Sx.nM.mono,Sx.nM.mono,trivial⟩ (fun x=>⟨by intro u hC g F; exact(iD _ q1 K1 _ (h1.below (Ext.trans' S.E hC)) (by omega)).mono fun e w2 h=>by obtain⟨x,rfl,hx,hb⟩:=h; exact⟨_,rfl,hx.mono ((Ext.trans' S.E hC)).size,hb⟩,by intro u hC g F; exact(iD _ q2 K2 _ (h2.below (Ext.trans' S.E hC)) (by omega)).mono fun e w2 h=>by obtain⟨x,rfl,hx,hb⟩:=h; exact⟨_,rfl,hx.mono ((Ext.trans' S.E hC)).size,hb⟩,trivial⟩) (fun ac u x H6 F AP S=>?_) (hN:=fun r=>⟨⟨rfl,rfl⟩,⟨rfl,rfl⟩,trivial⟩) (hk:=fun r=>⟨trivial,trivial,trivial⟩) (hA:=⟨⟨_,_,_,rfl,rfl,rfl,rfl,rfl⟩,⟨_,_,_,rfl,rfl,rfl,rfl,rfl⟩,trivial⟩)
 obtain⟨F8,F10,F5,F6,-⟩:=F
 obtain⟨x1,e1,y1,f1,em⟩:=aA.shape F8
 rw[em]at S F8
 obtain⟨x2,e2,y2,f2,em⟩:=aA.shape F10
 rw[em]at S F10
 obtain⟨b13,F5,XM,Ed⟩:=F5
 rw[F5]at S
 have S:=S.adopt (A:=Sx.zr) Ed (by omega) (fun p hp=>by have:=hold p hp; omega) (fun m hm=>by cases hm)
 obtain⟨b16,F6,VR,UZ⟩:=F6
 rw[F6]at S
 have S:=S.adopt (A:=Sx.zr) UZ (by omega) (fun p hp=>by exact(List.mem_cons.1 hp).elim (fun e e2=>AP (4,5) (by simp) (5,6) (by simp) (by decide) (F5.trans ((congrArg (Sx.shV none) ((congrArg Prod.fst e).symm.trans e2)).trans F6.symm))) (fun hp=>by have:=hold p hp; omega)) (fun m hm=>by cases hm)
 have X20:=S.bx 1
 refine aiL S 1 (off:=0) (cs:=[.bool q1.1,.slice x1 (Na.au q1.2.1).length e1,.bool false,.slice y1 (Na.au q1.2.2).length f1]) rfl (fun u VZ S=>?_)
 have Qb:=aA.bT F8 VZ X20
 have y8:=aA.bT F10 VZ X20
 have Ub:=S.bx 0
 refine aiL S 0 (off:=0) (cs:=[.bool q2.1,.slice x2 (Na.au q2.2.1).length e2,.bool false,.slice y2 (Na.au q2.2.2).length f2]) rfl (fun u Uc S=>?_)
 have uf:=aA.bT Qb Uc Ub
 have yD:=aA.bT y8 Uc Ub
 refine aiF<|dB _ _<|wp_seq_k fun _ lJ=>aiV S 11 [(15,fun v w1=>oI w.heap.size w1 v (qz q1*qz q2)),(20,fun v w1=>oI w.heap.size w1 v ((q1.2.2:Int)*(q2.2.2:Int))),(21,fun v w1=>bH w.heap.size w1 v (nK q1 q2))] (fun r=>[.mem 1 0,.mem 0 0,.mem 1 2,.mem 0 2]) (fun x=>[x 15,x 20,x 21]) (fun x=>[(_,_,true,x 15,15),(_,_,true,x 20,20),(_,_,true,x 21,21)]) [[],[],[15,20]] (fun x=>[(21,x 21)]) ⟨fun _ _ _ k h=>aQ.ext h k,fun _ _ _ k h=>aQ.ext h k,fun _ _ _ k h=>aA.ext h k,trivial⟩ (fun x=>⟨by intro u hC g F; exact(kU _ _ _ _ _ _ _ (((uf.ext hC)).parts' su).1 (((yD.ext hC)).parts' uP).1 (by omega) (by omega)).mono fun e w2 h=>by obtain⟨x,rfl,hx,hb⟩:=h; exact⟨_,rfl,hx.mono ((Ext.trans' S.E hC)).size,hb⟩,by intro u hC g F; exact(kU _ _ _ _ _ _ _ (((uf.ext hC)).parts' su).2 (((yD.ext hC)).parts' uP).2 (by omega) (by omega)).mono fun e w2 h=>by obtain⟨x,rfl,hx,hb⟩:=h; exact⟨_,rfl,hx.mono ((Ext.trans' S.E hC)).size,hb⟩,by intro u hC g F; obtain⟨I4,F20,-⟩:=F; exact(Oc _ _ (qz q1*qz q2) (q1.2.2*q2.2.2) (K1+K2) _ (oI.toQ I4 (fB _ _ (jg su) (jg uP))) (oI.toQ (z:=((q1.2.2*q2.2.2:Nat):Int)) (by rw[Int.natCast_mul]; exact F20) (by rw[Int.natCast_mul]; exact fB _ _ (dX su.2) (dX uP.2))) (Nat.mul_pos Ua HP2) (by omega)).mono fun e w2 h=>by obtain⟨x,rfl,hx,hb⟩:=h; exact⟨_,rfl,hx.mono ((Ext.trans' S.E hC)).size,hb⟩,trivial⟩) (fun ac u x E28 F S=>?_)
 obtain⟨I4,F20,Tv,-⟩:=F
 obtain⟨x3,e3,y3,f3,em⟩:=aA.shape Tv
 rw[em]at S Tv
 have X30:=S.bx 2
 refine aiL S 2 (off:=0) (cs:=[.bool ((nK q1 q2).1),.slice x3 (Na.au (nK q1 q2).2.1).length e3,.bool false,.slice y3 (Na.au (nK q1 q2).2.2).length f3]) rfl (fun u C29 S=>?_)
 have Bz:=aA.bT Tv C29 X30
 refine aiF<|lJ _ _<|Vp.rt ?_
 refine aiS S 2 Tryz.results168 rfl (v := .agg #[.bool ((nK q1 q2).1),.slice x3 (Na.au (nK q1 q2).2.1).length e3,.bool false,.slice y3 (Na.au (nK q1 q2).2.2).length f3]) ?_
 exact⟨_,rfl,Bz,S.E⟩
theorem Zd(v1 v2:Value)(q1 q2:Bool×Nat×Nat)(K1 K2:Nat)(w:World)(h1:cO K1 w v1 q1)(h2:cO K2 w v2 q2)(hK1:1≤K1)(hK2:1≤K2)(hM1:K1≤100000)(hM2:K2≤100000) :
  Calls Tryz.prog 206 #[v1,v2] w fun e w'=>∃x,e = .returned x∧bH w.heap.size w' x (EC q1 q2)∧Ext w w':=by
 obtain⟨n1,a1,m1,c1,o1,CQ,k1,d1,rfl⟩:=h1.shape
 have su:=h1.len hK1
 have Ua:=h1.pos
 obtain⟨n2,a2,m2,c2,o2,NU,k2,d2,rfl⟩:=h2.shape
 have uP:=h2.len hK2
 have HP2:=h2.pos
 refine aiK Tryz.func206 Tryz.ntmps206 fun ac S=>aiG fun _ aU=>aiJ S 2 [.bool n1,.slice a1 m1 c1,.bool o1,.slice CQ k1 d1] fun ac u b2 E3 hb4 S=>aiJ S 3 [.bool n2,.slice a2 m2 c2,.bool o2,.slice NU k2 d2] fun ac u b5 E6 hb7 S=>aiJ S 4 Sx.zr fun ac u b8 E9 yC S=>aiF<|aU _ _<|wp_seq_k (fun _ dB=>?_)
 have hold:=fun p hp=>(S.own p hp).1.1
 have SN:=S.E.size
 refine wp_region_any (by kernel_rfl)<|Sx.JE [(4,5),(5,6)] S 6 [(8,fun v w1=>bH w.heap.size w1 v q1),(10,fun v w1=>bH w.heap.size w1 v q2),(5,Sx.nM u.heap.size Sx.zr none),(6,Sx.nM u.heap.size Sx.zr none)] (fun r=>[.mem 2 0,.mem 1 0,.new 5 Sx.zr none r,.new 6 Sx.zr none r]) (fun x=>[x 8,x 10,x 5,x 6]) (fun x=>[(_,_,true,x 8,8),(_,_,true,x 10,10)]) [[],[]] (fun x=>[(5,x 5),(6,x 6),(8,x 8),(10,x 10)]) ⟨fun _ _ _ k h=>aA.ext h k,fun _ _ _ k h=>aA.ext h k,Sx.nM.mono,Sx.nM.mono,trivial⟩ (fun x=>⟨by intro u hC g F; exact(iD _ q1 K1 _ (h1.below (Ext.trans' S.E hC)) (by omega)).mono fun e w2 h=>by obtain⟨x,rfl,hx,hb⟩:=h; exact⟨_,rfl,hx.mono ((Ext.trans' S.E hC)).size,hb⟩,by intro u hC g F; exact(iD _ q2 K2 _ (h2.below (Ext.trans' S.E hC)) (by omega)).mono fun e w2 h=>by obtain⟨x,rfl,hx,hb⟩:=h; exact⟨_,rfl,hx.mono ((Ext.trans' S.E hC)).size,hb⟩,trivial⟩) (fun ac u x H6 F AP S=>?_) (hN:=fun r=>⟨⟨rfl,rfl⟩,⟨rfl,rfl⟩,trivial⟩) (hk:=fun r=>⟨trivial,trivial,trivial⟩) (hA:=⟨⟨_,_,_,rfl,rfl,rfl,rfl,rfl⟩,⟨_,_,_,rfl,rfl,rfl,rfl,rfl⟩,trivial⟩)
 obtain⟨F8,F10,F5,F6,-⟩:=F
 obtain⟨x1,e1,y1,f1,em⟩:=aA.shape F8
 rw[em]at S F8
 obtain⟨x2,e2,y2,f2,em⟩:=aA.shape F10
 rw[em]at S F10
 obtain⟨b13,F5,XM,Ed⟩:=F5
 rw[F5]at S
 have S:=S.adopt (A:=Sx.zr) Ed (by omega) (fun p hp=>by have:=hold p hp; omega) (fun m hm=>by cases hm)
 obtain⟨b16,F6,VR,UZ⟩:=F6
 rw[F6]at S
 have S:=S.adopt (A:=Sx.zr) UZ (by omega) (fun p hp=>by exact(List.mem_cons.1 hp).elim (fun e e2=>AP (4,5) (by simp) (5,6) (by simp) (by decide) (F5.trans ((congrArg (Sx.shV none) ((congrArg Prod.fst e).symm.trans e2)).trans F6.symm))) (fun hp=>by have:=hold p hp; omega)) (fun m hm=>by cases hm)
 have X20:=S.bx 1
 refine aiL S 1 (off:=0) (cs:=[.bool q1.1,.slice x1 (Na.au q1.2.1).length e1,.bool false,.slice y1 (Na.au q1.2.2).length f1]) rfl (fun u VZ S=>?_)
 have Qb:=aA.bT F8 VZ X20
 have y8:=aA.bT F10 VZ X20
 have Ub:=S.bx 0
 refine aiL S 0 (off:=0) (cs:=[.bool q2.1,.slice x2 (Na.au q2.2.1).length e2,.bool false,.slice y2 (Na.au q2.2.2).length f2]) rfl (fun u Uc S=>?_)
 have uf:=aA.bT Qb Uc Ub
 have yD:=aA.bT y8 Uc Ub
 refine aiF<|dB _ _<|wp_seq_k fun _ lJ=>aiV S 17 [(15,fun v w1=>oI w.heap.size w1 v (qz q1*(q2.2.2:Int))),(20,fun v w1=>oI w.heap.size w1 v (qz q2*(q1.2.2:Int))),(21,fun v w1=>oI w.heap.size w1 v ((qz q1*(q2.2.2:Int))+(qz q2*(q1.2.2:Int)))),(26,fun v w1=>oI w.heap.size w1 v ((q1.2.2:Int)*(q2.2.2:Int))),(27,fun v w1=>bH w.heap.size w1 v (EC q1 q2))] (fun r=>[.mem 1 0,.mem 0 2,.mem 0 0,.mem 1 2,.mem 1 2,.mem 0 2]) (fun x=>[x 15,x 20,x 21,x 26,x 27]) (fun x=>[(_,_,true,x 15,15),(_,_,true,x 20,20),(_,_,true,x 21,21),(_,_,true,x 26,26),(_,_,true,x 27,27)]) [[],[],[15,20],[],[21,26]] (fun x=>[(27,x 27)]) ⟨fun _ _ _ k h=>aQ.ext h k,fun _ _ _ k h=>aQ.ext h k,fun _ _ _ k h=>aQ.ext h k,fun _ _ _ k h=>aQ.ext h k,fun _ _ _ k h=>aA.ext h k,trivial⟩ (fun x=>⟨by intro u hC g F; exact(kU _ _ _ _ _ _ _ (((uf.ext hC)).parts' su).1 (((yD.ext hC)).parts' uP).2 (by omega) (by omega)).mono fun e w2 h=>by obtain⟨x,rfl,hx,hb⟩:=h; exact⟨_,rfl,hx.mono ((Ext.trans' S.E hC)).size,hb⟩,by intro u hC g F; exact(kU _ _ _ _ _ _ _ (((yD.ext hC)).parts' uP).1 (((uf.ext hC)).parts' su).2 (by omega) (by omega)).mono fun e w2 h=>by obtain⟨x,rfl,hx,hb⟩:=h; exact⟨_,rfl,hx.mono ((Ext.trans' S.E hC)).size,hb⟩,by intro u hC g F; obtain⟨I4,F20,-⟩:=F; exact(CV _ _ _ _ _ _ _ (oI.toQ (K:=K1+K2) I4 (fB _ _ (jg su) (dX uP.2))) (oI.toQ (K:=K1+K2) F20 (by rw[Nat.add_comm]; exact fB _ _ (jg uP) (dX su.2))) (by omega) (by omega)).mono fun e w2 h=>by obtain⟨x,rfl,hx,hb⟩:=h; exact⟨_,rfl,hx.mono ((Ext.trans' S.E hC)).size,hb⟩,by intro u hC g F; exact(kU _ _ _ _ _ _ _ (((uf.ext hC)).parts' su).2 (((yD.ext hC)).parts' uP).2 (by omega) (by omega)).mono fun e w2 h=>by obtain⟨x,rfl,hx,hb⟩:=h; exact⟨_,rfl,hx.mono ((Ext.trans' S.E hC)).size,hb⟩,by intro u hC g F; obtain⟨Tv,F26,-⟩:=F; exact(Oc _ _ ((qz q1*(q2.2.2:Int))+(qz q2*(q1.2.2:Int))) (q1.2.2*q2.2.2) (K1+K2+1) _ (oI.toQ Tv (DT _ _ (fB _ _ (jg su) (dX uP.2)) (show _≤K1+K2 by rw[Nat.add_comm]; exact fB _ _ (jg uP) (dX su.2)))) (oI.toQ (z:=((q1.2.2*q2.2.2:Nat):Int)) (by rw[Int.natCast_mul]; exact F26) (by rw[Int.natCast_mul]; exact Nat.le_succ_of_le (fB _ _ (dX su.2) (dX uP.2)))) (Nat.mul_pos Ua HP2) (by omega)).mono fun e w2 h=>by obtain⟨x,rfl,hx,hb⟩:=h; exact⟨_,rfl,hx.mono ((Ext.trans' S.E hC)).size,hb⟩,trivial⟩) (fun ac u x E28 F S=>?_)
 obtain⟨I4,F20,Tv,F26,F27,-⟩:=F
 obtain⟨x3,e3,y3,f3,em⟩:=aA.shape F27
 rw[em]at S F27
 have X30:=S.bx 2
 refine aiL S 2 (off:=0) (cs:=[.bool ((EC q1 q2).1),.slice x3 (Na.au (EC q1 q2).2.1).length e3,.bool false,.slice y3 (Na.au (EC q1 q2).2.2).length f3]) rfl (fun u C29 S=>?_)
 have Bz:=aA.bT F27 C29 X30
 refine aiF<|lJ _ _<|Vp.rt ?_
 refine aiS S 2 Tryz.results206 rfl (v := .agg #[.bool ((EC q1 q2).1),.slice x3 (Na.au (EC q1 q2).2.1).length e3,.bool false,.slice y3 (Na.au (EC q1 q2).2.2).length f3]) ?_
 exact⟨_,rfl,Bz,S.E⟩
theorem Og(v1 v2:Value)(q1 q2:Bool×Nat×Nat)(K1 K2:Nat)(w:World)(h1:cO K1 w v1 q1)(h2:cO K2 w v2 q2)(hK1:1≤K1)(hK2:1≤K2)(hM1:K1≤100000)(hM2:K2≤100000) :
  Calls Tryz.prog 127 #[v1,v2] w fun e w'=>e = .returned (.int .i64 (kJ q1 q2))∧Ext w w':=by
 obtain⟨n1,a1,m1,c1,o1,CQ,k1,d1,rfl⟩:=h1.shape
 have su:=h1.len hK1
 have Ua:=h1.pos
 obtain⟨n2,a2,m2,c2,o2,NU,k2,d2,rfl⟩:=h2.shape
 have uP:=h2.len hK2
 have HP2:=h2.pos
 refine aiK Tryz.func127 Tryz.ntmps127 fun ac S=>aiG fun _ aU=>aiJ S 2 [.bool n1,.slice a1 m1 c1,.bool o1,.slice CQ k1 d1] fun ac u b2 E3 hb4 S=>aiJ S 3 [.bool n2,.slice a2 m2 c2,.bool o2,.slice NU k2 d2] fun ac u b5 E6 hb7 S=>adr S 1 [] [(4,.int .i64 0)] fun ac S=>aiF<|aU _ _<|wp_seq_k (fun _ dP=>?_)
 have hold:=fun p hp=>(S.own p hp).1.1
 have SN:=S.E.size
 refine wp_region_any (by kernel_rfl)<|Sx.JE [(4,5),(5,6)] S 6 [(8,fun v w1=>bH w.heap.size w1 v q1),(10,fun v w1=>bH w.heap.size w1 v q2),(5,Sx.nM u.heap.size Sx.zr none),(6,Sx.nM u.heap.size Sx.zr none)] (fun r=>[.mem 1 0,.mem 0 0,.new 5 Sx.zr none r,.new 6 Sx.zr none r]) (fun x=>[x 8,x 10,x 5,x 6]) (fun x=>[(_,_,true,x 8,8),(_,_,true,x 10,10)]) [[],[]] (fun x=>[(5,x 5),(6,x 6),(8,x 8),(10,x 10)]) ⟨fun _ _ _ k h=>aA.ext h k,fun _ _ _ k h=>aA.ext h k,Sx.nM.mono,Sx.nM.mono,trivial⟩ (fun x=>⟨by intro u hC g F; exact(iD _ q1 K1 _ (h1.below (Ext.trans' S.E hC)) (by omega)).mono fun e w2 h=>by obtain⟨x,rfl,hx,hb⟩:=h; exact⟨_,rfl,hx.mono ((Ext.trans' S.E hC)).size,hb⟩,by intro u hC g F; exact(iD _ q2 K2 _ (h2.below (Ext.trans' S.E hC)) (by omega)).mono fun e w2 h=>by obtain⟨x,rfl,hx,hb⟩:=h; exact⟨_,rfl,hx.mono ((Ext.trans' S.E hC)).size,hb⟩,trivial⟩) (fun ac u x E9 F AP S=>?_) (hN:=fun r=>⟨⟨rfl,rfl⟩,⟨rfl,rfl⟩,trivial⟩) (hk:=fun r=>⟨trivial,trivial,trivial⟩) (hA:=⟨⟨_,_,_,rfl,rfl,rfl,rfl,rfl⟩,⟨_,_,_,rfl,rfl,rfl,rfl,rfl⟩,trivial⟩)
 obtain⟨F8,F10,F5,F6,-⟩:=F
 obtain⟨x1,e1,y1,f1,em⟩:=aA.shape F8
 rw[em]at S F8
 obtain⟨x2,e2,y2,f2,em⟩:=aA.shape F10
 rw[em]at S F10
 obtain⟨b10,F5,PL,SL⟩:=F5
 rw[F5]at S
 have S:=S.adopt (A:=Sx.zr) SL (by omega) (fun p hp=>by have:=hold p hp; omega) (fun m hm=>by cases hm)
 obtain⟨b13,F6,XM,Ed⟩:=F6
 rw[F6]at S
 have S:=S.adopt (A:=Sx.zr) Ed (by omega) (fun p hp=>by exact(List.mem_cons.1 hp).elim (fun e e2=>AP (4,5) (by simp) (5,6) (by simp) (by decide) (F5.trans ((congrArg (Sx.shV none) ((congrArg Prod.fst e).symm.trans e2)).trans F6.symm))) (fun hp=>by have:=hold p hp; omega)) (fun m hm=>by cases hm)
 have UZ:=S.bx 1
 refine aiL S 1 (off:=0) (cs:=[.bool q1.1,.slice x1 (Na.au q1.2.1).length e1,.bool false,.slice y1 (Na.au q1.2.2).length f1]) rfl (fun u Xj S=>?_)
 have PN:=aA.bT F8 Xj UZ
 have Dx:=aA.bT F10 Xj UZ
 have X21:=S.bx 0
 refine aiL S 0 (off:=0) (cs:=[.bool q2.1,.slice x2 (Na.au q2.2.1).length e2,.bool false,.slice y2 (Na.au q2.2.2).length f2]) rfl (fun u C20 S=>?_)
 have y8:=aA.bT PN C20 X21
 have Ee:=aA.bT Dx C20 X21
 refine aiF<|dP _ _<|wp_seq_k fun _ kK=>aiV S 11 [(15,fun v w1=>oI w.heap.size w1 v (qz q1*(q2.2.2:Int))),(20,fun v w1=>oI w.heap.size w1 v (qz q2*(q1.2.2:Int)))] (fun r=>[.mem 1 0,.mem 0 2,.mem 0 0,.mem 1 2]) (fun x=>[x 15,x 20,.int .i64 (kJ q1 q2)]) (fun x=>[(_,_,true,x 15,15),(_,_,true,x 20,20),(_,_,true,.int .i64 (kJ q1 q2),21)]) [[],[],[15,20]] (fun x=>[(21,.int .i64 (kJ q1 q2))]) ⟨fun _ _ _ k h=>aQ.ext h k,fun _ _ _ k h=>aQ.ext h k,trivial⟩ (fun x=>⟨by intro u hC g F; exact(kU _ _ _ _ _ _ _ (((y8.ext hC)).parts' su).1 (((Ee.ext hC)).parts' uP).2 (by omega) (by omega)).mono fun e w2 h=>by obtain⟨x,rfl,hx,hb⟩:=h; exact⟨_,rfl,hx.mono ((Ext.trans' S.E hC)).size,hb⟩,by intro u hC g F; exact(kU _ _ _ _ _ _ _ (((Ee.ext hC)).parts' uP).1 (((y8.ext hC)).parts' su).2 (by omega) (by omega)).mono fun e w2 h=>by obtain⟨x,rfl,hx,hb⟩:=h; exact⟨_,rfl,hx.mono ((Ext.trans' S.E hC)).size,hb⟩,by intro u hC g F; obtain⟨I4,F20,-⟩:=F; exact(Oa _ _ _ _ _ _ _ (oI.toQ (K:=K1+K2) I4 (fB _ _ (jg su) (dX uP.2))) (oI.toQ (K:=K1+K2) F20 (by rw[Nat.add_comm]; exact fB _ _ (jg uP) (dX su.2))) (by omega) (by omega)).mono fun e w2 h=>⟨_,h.1,rfl,h.2⟩,trivial⟩) (fun ac u x E25 F S=>?_)
 obtain⟨I4,F20,-⟩:=F
 refine adr S 1 [] [(4,.int .i64 (kJ q1 q2))] fun ac S=>aiF<|kK _ _<|Vp.rt ?_
 refine aiH S Tryz.results127 ?_
 exact⟨rfl,S.E⟩
theorem Rf{base:Nat}{w:World}{v:Value}{q:Bool×Nat×Nat}(h:oI base w v (-qz q)):aQ base w v (uj q).1 (uj q).2.1:=by
 have e : -qz q=zv (!q.1) q.2.1:=by unfold qz; rw[Qg]
 unfold oI at h
 rw[e,Qe,kQ]at h
 exact h
theorem aa3{base:Nat}{w:World}{n m:Bool}{s t s':Value}{q:Bool×Nat×Nat}{k:Bool}(h:aQ base w (.agg #[.bool n,s]) (uj q).1 (uj q).2.1)(h2:bH base w (.agg #[.bool k,s',.bool m,t]) q) :
  bH base w (.agg #[.bool n,s,.bool m,t]) (uj q):=by
 obtain⟨a,ea,ha,fa⟩:=h
 obtain⟨b,c,eb,hb,hc,fb,fc⟩:=h2
 simp only[Value.agg.injEq,Array.mk.injEq,List.cons.injEq,Value.bool.injEq,and_true]at ea eb
 obtain⟨rfl,rfl⟩:=ea
 obtain⟨rfl,rfl,rfl,rfl⟩:=eb
 exact⟨s,t,rfl,ha,hc,fa,fc⟩
theorem Ze(v1:Value)(q1:Bool×Nat×Nat)(K1:Nat)(w:World)(h1:cO K1 w v1 q1)(hK1:1≤K1)(hM:K1≤100000) :
  Calls Tryz.prog 207 #[v1] w fun e w'=>∃x,e = .returned x∧bH w.heap.size w' x (uj q1)∧Ext w w':=by
 obtain⟨n1,a1,m1,c1,o1,CQ,k1,d1,rfl⟩:=h1.shape
 have su:=h1.len hK1
 have Ua:=h1.pos
 refine aiK Tryz.func207 Tryz.ntmps207 fun ac S=>aiG fun _ aU=>aiJ S 1 [.bool n1,.slice a1 m1 c1,.bool o1,.slice CQ k1 d1] fun ac u b2 E3 hb4 S=>aiJ S 2 Sx.zr fun ac u b5 E6 hb7 S=>aiF<|aU _ _<|aiG fun _ dP=>adr S 1 [.mem 1 0] [(4,.agg #[.bool n1,.slice a1 m1 c1,.bool o1,.slice CQ k1 d1])] fun ac S=>aiQ S (some 5) (iD _ q1 K1 _ (h1.below S.E) (by omega)) ?_
 rintro e u ⟨x,rfl,hx,E9⟩
 obtain⟨x1,e1,y1,f1,rfl⟩:=aA.shape hx
 have hz:=S.E.size
 refine⟨_,rfl,E9,fun ac S=>?_⟩
 refine aiJ S 3 Sx.zr fun ac u b10 sF PL S=>aiL S 0 (off:=0) (cs:=[.bool q1.1,.slice x1 (Na.au q1.2.1).length e1,.bool false,.slice y1 (Na.au q1.2.2).length f1]) rfl (fun u C13 S=>?_)
 have Ei:=aiP sF C13 (by omega)
 refine aiF<|dP _ _<|wp_seq_k fun _ fH=>aiV S 5 [(8,fun v w1=>oI w.heap.size w1 v (-qz q1))] (fun r=>[.mem 0 0,.mem 0 2]) (fun x=>[x 8]) (fun x=>[(_,_,true,x 8,8)]) [[]] (fun x=>[(8,x 8),(10,.agg #[.bool false,.slice y1 (Na.au q1.2.2).length f1])]) ⟨fun _ _ _ k h=>aQ.ext h k,trivial⟩ (fun x=>⟨by intro u hC g F; exact(CU _ _ _ _ (((hx.ext (Ext.trans' Ei hC))).parts' su).1 (by omega)).mono fun e w2 h=>by obtain⟨x,rfl,hx,hb⟩:=h; exact⟨_,rfl,hx.mono ((Ext.trans' S.E hC)).size,hb⟩,trivial⟩) (fun ac u x Pz F S=>?_)
 obtain⟨F8,-⟩:=F
 have F8:=Rf F8
 obtain⟨x2,e2,em⟩:=aQ.shape F8
 rw[em]at S F8
 refine adr S 1 [] [(11,.agg #[.bool ((uj q1).1),.slice x2 (Na.au (uj q1).2.1).length e2,.bool false,.slice y1 (Na.au q1.2.2).length f1])] (fun ac S=>?_)
 have X18:=S.bx 1
 refine aiL S 1 (off:=0) (cs:=[.bool ((uj q1).1),.slice x2 (Na.au (uj q1).2.1).length e2,.bool false,.slice y1 (Na.au q1.2.2).length f1]) rfl (fun u C17 S=>?_)
 have Dx:=aA.bT (hx.ext (Ext.trans' Ei Pz)) C17 X18
 have L6:=aQ.bT F8 C17 X18
 refine aiF<|fH _ _<|Vp.rt ?_
 refine aiS S 1 Tryz.results207 rfl (v := .agg #[.bool ((uj q1).1),.slice x2 (Na.au (uj q1).2.1).length e2,.bool false,.slice y1 (Na.au q1.2.2).length f1]) ?_
 exact⟨_,rfl,aa3 L6 (aA.mono Dx (by omega)),S.E⟩
theorem Zf(v1 v2:Value)(q1 q2:Bool×Nat×Nat)(K1 K2:Nat)(w:World)(h1:cO K1 w v1 q1)(h2:cO K2 w v2 q2)(hK1:1≤K1)(hK2:1≤K2)(hM1:K1≤100000)(hM2:K2≤100000) :
  Calls Tryz.prog 167 #[v1,v2] w fun e w'=>∃x,e = .returned x∧bH w.heap.size w' x (tK q1 q2)∧Ext w w':=by
 obtain⟨n1,a1,m1,c1,o1,CQ,k1,d1,rfl⟩:=h1.shape
 have su:=h1.len hK1
 have Ua:=h1.pos
 obtain⟨n2,a2,m2,c2,o2,NU,k2,d2,rfl⟩:=h2.shape
 have uP:=h2.len hK2
 have HP2:=h2.pos
 refine aiK Tryz.func167 Tryz.ntmps167 fun ac S=>aiG fun _ aU=>aiJ S 2 [.bool n1,.slice a1 m1 c1,.bool o1,.slice CQ k1 d1] fun ac u b2 E3 hb4 S=>aiJ S 3 [.bool n2,.slice a2 m2 c2,.bool o2,.slice NU k2 d2] fun ac u b5 E6 hb7 S=>aiJ S 4 Sx.zr fun ac u b8 E9 yC S=>aiF<|aU _ _<|wp_seq_k fun _ dB=>aiV S 4 [(7,fun v w1=>bH w.heap.size w1 v (uj q2)),(8,fun v w1=>bH w.heap.size w1 v (tK q1 q2))] (fun r=>[.mem 2 0,.mem 1 0]) (fun x=>[x 7,x 8]) (fun x=>[(_,_,true,x 7,7),(_,_,true,x 8,8)]) [[],[7]] (fun x=>[(8,x 8)]) ⟨fun _ _ _ k h=>aA.ext h k,fun _ _ _ k h=>aA.ext h k,trivial⟩ (fun x=>⟨by intro u hC g F; exact(Ze _ q2 K2 _ (h2.below (Ext.trans' S.E hC)) hK2 hM2).mono fun e w2 h=>by obtain⟨x,rfl,hx,hb⟩:=h; exact⟨_,rfl,hx.mono ((Ext.trans' S.E hC)).size,hb⟩,by intro u hC g F; obtain⟨F7,-⟩:=F; have hc:=Zd _ _ q1 (uj q2) K1 K2 _ (h1.below (Ext.trans' S.E hC)) (aA.toQ F7 (Zg h2.nrm HP2) uP) hK1 hK2 hM1 hM2; rw[Zh]at hc; exact(hc).mono fun e w2 h=>by obtain⟨x,rfl,hx,hb⟩:=h; exact⟨_,rfl,hx.mono ((Ext.trans' S.E hC)).size,hb⟩,trivial⟩) (fun ac u x H6 F S=>?_)
 obtain⟨F7,F8,-⟩:=F
 obtain⟨x3,e3,y3,f3,em⟩:=aA.shape F8
 rw[em]at S F8
 have Ed:=S.bx 0
 refine aiL S 0 (off:=0) (cs:=[.bool ((tK q1 q2).1),.slice x3 (Na.au (tK q1 q2).2.1).length e3,.bool false,.slice y3 (Na.au (tK q1 q2).2.2).length f3]) rfl (fun u C13 S=>?_)
 have zi:=aA.bT F8 C13 Ed
 refine aiF<|dB _ _<|Vp.rt ?_
 refine aiS S 0 Tryz.results167 rfl (v := .agg #[.bool ((tK q1 q2).1),.slice x3 (Na.au (tK q1 q2).2.1).length e3,.bool false,.slice y3 (Na.au (tK q1 q2).2.2).length f3]) ?_
 exact⟨_,rfl,zi,S.E⟩
theorem mW(v1:Value)(q1:Bool×Nat×Nat)(K1:Nat)(w:World)(h1:cO K1 w v1 q1)(hK1:1≤K1)(hM:K1≤100000) :
  Calls Tryz.prog 164 #[v1] w fun e w'=>e = .returned (.int .i64 (bF q1:Int))∧Ext w w':=by
 obtain⟨n1,a1,m1,c1,o1,CQ,k1,d1,rfl⟩:=h1.shape
 have su:=h1.len hK1
 have Ua:=h1.pos
 refine aiK Tryz.func164 Tryz.ntmps164 fun ac S=>aiG fun _ aU=>aiJ S 1 [.bool n1,.slice a1 m1 c1,.bool o1,.slice CQ k1 d1] fun ac u b2 E3 hb4 S=>adr S 1 [] [(2,.int .i64 0)] fun ac S=>aiF<|aU _ _<|aiG fun _ bV=>adr S 1 [.mem 0 0] [(4,.agg #[.bool n1,.slice a1 m1 c1,.bool o1,.slice CQ k1 d1])] fun ac S=>aiQ S (some 5) (iD _ q1 K1 _ (h1.below S.E) (by omega)) ?_
 rintro e u ⟨x,rfl,hx,E6⟩
 obtain⟨x1,e1,y1,f1,rfl⟩:=aA.shape hx
 refine⟨_,rfl,E6,fun ac S=>?_⟩
 refine aiJ S 3 Sx.zr fun ac u b7 E8 IE S=>aiL S 0 (off:=0) (cs:=[.bool q1.1,.slice x1 (Na.au q1.2.1).length e1,.bool false,.slice y1 (Na.au q1.2.2).length f1]) rfl (fun u C10 S=>?_)
 have sF:=aiP E8 C10 (by omega)
 refine aiF<|bV _ _<|wp_seq_k fun _ dw=>aiO S 7 [.mem 0 0,.mem 0 2,.re 12 (.int .i64 (if ((bl (q1.2.2):Nat):Int)>((bl (q1.2.1):Nat):Int)then ((bl (q1.2.2):Nat):Int)else ((bl (q1.2.1):Nat):Int))) (.int .i64 (max ((bl (q1.2.1):Nat):Int) ((bl (q1.2.2):Nat):Int)))] [(_,_,true,.int .i64 ((bl (q1.2.1):Nat):Int)),(_,_,true,.int .i64 ((bl (q1.2.2):Nat):Int))] [(12,.int .i64 (max ((bl (q1.2.1):Nat):Int) ((bl (q1.2.2):Nat):Int)))] ⟨fun u hC g=>Az (wU _ _ _ _ (((hx.ext (Ext.trans' sF hC))).parts' su).1 (by omega)) (by first | (rw[show(qz q1).natAbs=q1.2.1 from kQ ..]) | rw[Int.natAbs_natCast]),fun u hC g=>Az (wU _ _ _ _ (((hx.ext (Ext.trans' sF hC))).parts' su).2 (by omega)) (by first | (rw[show(qz q1).natAbs=q1.2.1 from kQ ..]) | rw[Int.natAbs_natCast]),trivial⟩ (hk:=⟨Sx.Y9,trivial⟩) fun ac u H7 S=>adr S 1 [] [(2,.int .i64 (max ((bl (q1.2.1):Nat):Int) ((bl (q1.2.2):Nat):Int)))] fun ac S=>aiF<|dw _ _<|Vp.rt ?_
 refine aiH S Tryz.results164 ?_
 exact⟨by unfold bF; congr 2; omega,S.E⟩
end
end Go.Proofs.YtfmkkemfhjkajaaGreatDoor
