/- Walks of the reference on rational numbers: Normalize, -/
import Derived.Test.YtiafijffnejhoaaGreatDoorRefRat2
import Derived.Test.YtiafijffnejhoaaGreatDoorData
import Derived.Test.YtiafijffnejhoaaGreatDoorRatF
import Derived.Test.YtiafijffnejhoaaGreatDoorPk26
import Derived.Test.YtiafijffnejhoaaGreatDoorAffG
set_option linter.unusedVariables false
namespace Go.Proofs.YtiafijffnejhoaaGreatDoor
section
set_option maxHeartbeats 1600000
set_option maxRecDepth 100000
open Go.RowKit
variable{α:Type}
theorem AX{w w1:World}{A:Array Value}{ta tb:TypeId}{x0 x1 x2 x3:Value}(hb:Ext ((w.alloc (.cells A ta)).alloc (.cells #[x0,x1,x2,x3] tb)) w1) :
  (∀i,w1.cell? ⟨w.heap.size,i,none⟩=A[i]?)∧(∀i,w1.cell? ⟨w.heap.size+1,i,none⟩ = #[x0,x1,x2,x3][i]?)∧(∀i,w1.frozen? ⟨w.heap.size+1,i,none⟩=false)∧w.heap.size+1<w1.heap.size:=by
 refine⟨fun i=>?_,fun i=>?_,fun i=>?_,by have:=hb.size; simp at this; omega⟩
 ·rw[hb.cell (p:=⟨w.heap.size,i,none⟩) (by simp; omega)]; simp[go_sem]
 ·rw[hb.cell (p:=⟨w.heap.size+1,i,none⟩) (by simp)]; simp[go_sem]
 rw[hb.frozen (p:=⟨w.heap.size+1,i,none⟩) (by simp)]; simp[go_sem]
theorem uo(n1 n2:Bool)(s1 s2:Value)(l m:List UInt32)(w:World)(h1:aA w s1 l)(h2:aA w s2 m)(hl1:l.length≤5000000)(hl2:m.length≤5000000) :
  Calls Tryz.prog 145 #[.agg #[.bool n1,s1,.bool n2,s2]] w fun e w'=>∃x,e = .returned x∧bV w.heap.size w' x (nrm n1 n2 (Na.val l) (Na.val m))∧Ext w w':=by
 obtain⟨a1,c1,rfl⟩:=h1.shape;obtain⟨a2,c2,rfl⟩:=h2.shape;have hb0:=(aF w (.cells #[.bool n1,.slice a1 l.length c1,.bool n2,.slice a2 m.length c2] 50)).alloc (by simp) (.cells #[.bool false,.slice none 0 0,.bool false,.slice none 0 0] 50);have hS:=oL n2 _ m _ (h2.below hb0) (by omega);have H:=ag8 (And.intro h1 h2);have HB0:=ag8 hb0;rcases ahI (Na.val m)with hm | hm
 ·have hN:nrm n1 n2 (Na.val l) (Na.val m)=(false,0,1):=by unfold nrm; rw[ahf hm]
  rw[hN];rw[hm,show nY n2 0=0 from rfl]at hS;have HS:=ag8 hS;clear h1 h2 hb0 hm hN hS;go_enter Tryz.func145,Tryz.ntmps145
  go_wp2_with fail
  refine HS.out.mono ?_;rintro e w1 ⟨rfl,hb⟩;have HX:=ag8 (Ext.trans' HB0.out hb);have HY:=ag8 (wY 0 w1 (by decide));have HBB:=ag8 hb;clear hb HS;go_wp2_with fail
  refine HY.out.mono ?_;rintro e w2 ⟨x,rfl,hx,hb2⟩;obtain⟨b1,d1,b2,d2,rfl⟩:=hx.shape;obtain⟨-,r1,f1,hz⟩:=AX (Ext.trans' HBB.out hb2);obtain⟨-,-,-,hz1⟩:=AX HBB.out;have F:=ag8 hx;have HX2:=ag8 (Ext.trans' HX.out hb2);clear hx hb2 HY;go_wp2_with fail
  refine bodyPost_ret (v := .agg #[.bool false,.slice b1 (Na.aj 0).length d1,.bool false,.slice b2 (Na.aj 1).length d2]) (by simp[results,Tryz.results145,go_sem,r1]) rfl ⟨_,rfl,?_,qL HX2.out (by omega) _ _ _ _⟩;exact(F.out.EZ hz1 _ _ _ _).mono (by omega)
 have hN:nrm n1 n2 (Na.val l) (Na.val m)=(kN n1 n2 (Na.val l) (Na.val m),Na.val l/Nat.gcd (Na.val l) (Na.val m),Na.val m/Nat.gcd (Na.val l) (Na.val m)):=by unfold nrm; rw[ahe (by omega)]
 obtain⟨⟨NG,X,Y⟩,hr⟩:∃r,nrm n1 n2 (Na.val l) (Na.val m)=r:=⟨_,rfl⟩;rw[hr];rw[hN]at hr;obtain⟨e1,hr⟩:=Prod.mk.inj hr;obtain⟨e2,e3⟩:=Prod.mk.inj hr;have E:=ag8 (And.intro e1 (And.intro e2 e3));clear e1 e2 e3 hr hN;have hs0:(nY n2 (Na.val m)==0)=false:=by
  rw[ahq]; unfold nY; rw[ahe (by omega)]; cases n2<;>simp
 have HM:=ag8 hm;have HS:=ag8 hS;clear h1 h2 hb0 hm hS;go_enter Tryz.func145,Tryz.ntmps145
 go_wp2_with fail
 refine HS.out.mono ?_;rintro e w1 ⟨rfl,hb⟩;have hX:=Ext.trans' HB0.out hb;have HX:=ag8 hX;have hY:=CV n1 n2 _ _ l m w1 (H.out.1.below hX) (H.out.2.below hX) HM.out hl1 hl2;rw[E.out.1,E.out.2.1,E.out.2.2]at hY;have HY:=ag8 hY;clear hY;have HBB:=ag8 hb;obtain⟨k0,-,-,-⟩:=AX hb;clear hb HS hX;go_wp2_with fail
 refine HY.out.mono ?_;rintro e w2 ⟨x,rfl,hx,hb2⟩;obtain⟨b1,d1,b2,d2,rfl⟩:=hx.shape;obtain⟨-,r1,f1,hz⟩:=AX (Ext.trans' HBB.out hb2);obtain⟨-,-,-,hz1⟩:=AX HBB.out;have F:=ag8 hx;have HX2:=ag8 (Ext.trans' HX.out hb2);clear hx hb2 HY k0;go_wp2_with fail
 refine bodyPost_ret (v := .agg #[.bool NG,.slice b1 (Na.aj X).length d1,.bool false,.slice b2 (Na.aj Y).length d2]) (by simp[results,Tryz.results145,go_sem,r1]) rfl ⟨_,rfl,?_,qL HX2.out (by omega) _ _ _ _⟩;exact(F.out.EZ hz1 _ _ _ _).mono (show w.heap.size≤w1.heap.size by omega)
theorem yN(n1 n2:Bool)(s1 s2:Value)(l m:List UInt32)(w:World)(h1:aA w s1 l)(h2:aA w s2 m) :
  Calls Tryz.prog 195 #[.agg #[.bool n1,s1],.agg #[.bool n2,s2]] w fun e w'=>e = .returned (.bool (n1==n2&&l==m))∧Ext w w':=by
 obtain⟨a1,c1,rfl⟩:=h1.shape;obtain⟨a2,c2,rfl⟩:=h2.shape;have hl1:=h1.len;have hl2:=h2.len;unfold maxLen at hl1 hl2;have HB0:=ag8 ((aF w (.cells #[.bool n1,.slice a1 l.length c1] 48)).alloc (by simp) (.cells #[.bool n2,.slice a2 m.length c2] 48));have H1:=ag8 h1;have H2:=ag8 h2;clear h1 h2;by_cases hn:n1=n2
 ·subst hn;by_cases hl:l.length=m.length
  ·have HL:=ag8 hl;obtain⟨W,hW⟩:∃W,((w.alloc (.cells #[.bool n1,.slice a1 l.length c1] 48)).alloc (.cells #[.bool n1,.slice a2 m.length c2] 48))=W:=⟨_,rfl⟩;have hK:∀w1,Ext W w1→w1.cell? ⟨w.heap.size,1,none⟩=some (.slice a1 l.length c1)∧w1.cell? ⟨w.heap.size+1,1,none⟩=some (.slice a2 m.length c2):=by
    intro w1 hb;subst hW;constructor
    ·rw[hb.cell (p:=⟨w.heap.size,1,none⟩) (by simp; omega)]; simp[go_sem]
    rw[hb.cell (p:=⟨w.heap.size+1,1,none⟩) (by simp)]; simp[go_sem]
   have HK:=ag8 hK;rw[hW]at HB0;have HW:=ag8 hW;have hne:((l.length:Int) != (m.length:Int))=false:=by rw[bne_eq_false_iff_eq]; omega
   have hml:m.length≤l.length:=Nat.le_of_eq hl.symm;have hlm:l.length≤m.length:=Nat.le_of_eq hl;clear hl hK hW;cases n1;all_goals
    go_enter Tryz.func195,Tryz.ntmps195
    go_wp2_with fail
    rw[HW.out]
    clear hne
    go_loopw [5] (fun i wr=>∃k:Nat,i = .i k∧k≤l.length∧l.take k=m.take k∧Ext W wr) (fun i _=>l.length-(intOf i).toNat)
    case atStart=>exact⟨0,rfl,ahk _,rfl,ahs _ _⟩
    case round =>
     obtain⟨k,rfl,hk,ht,hbel⟩:=hrel
     have HT:=ag8 ht
     clear ht
     obtain⟨q1,q2⟩:=HK.out wr hbel
     by_cases hlt:k<l.length
     ·obtain⟨bx,ox,cx,hxs,hbx,hlx,hmx,hcx⟩:=dn H1.out rfl (by omega)
      obtain⟨by',oy,cy,hys,hby,hly,hmy,hcy⟩:=dn H2.out rfl (by omega)
      simp only[ahE]at hxs hys
      obtain⟨rfl,-,-⟩:=hxs
      obtain⟨rfl,-,-⟩:=hys
      have hkm:k<m.length:=by omega
      have hb:=Ext.trans' HB0.out hbel
      have r1:wr.cell? ⟨bx,ox+k,none⟩=some (aP l[k]):=by rw[hb.cell (p:=⟨bx,ox+k,none⟩) hbx]; exact hcx k hlt
      have r2:wr.cell? ⟨by',oy+k,none⟩=some (aP m[k]):=by rw[hb.cell (p:=⟨by',oy+k,none⟩) hby]; exact hcy k hkm
      have hs1:=take_snoc l k hlt
      have hs2:=take_snoc m k hkm
      clear hcx hcy hb
      have hkI:(k:Int)<(m.length:Int):=by omega
      by_cases he:l[k]=m[k]
      ·have hnx:l.take (k+1)=m.take (k+1):=by rw[hs1,hs2,HT.out,he]
       rw[he]at r1
       have HN:=ag8 hnx
       generalize m[k]=d at *
       clear hs1 hs2 hnx he
       go_wp2_with fail
       go_quiet (fail)
       go_wp2_with fail
       go_roundw
       case rel=>exact⟨k+1,by go_num,by omega,HN.out,below_drewN hbel _⟩
       case measure=>simp[intOf]; omega
      ·have hx:((l[k].toNat:Int) != (m[k].toNat:Int))=true:=by
        rw[bne_iff_ne]; intro e; exact he (ah2.1 (by omega))
       have hr:l≠m:=fun e=>he (by subst e; rfl)
       have HR:Hid ((l==m)=false):=ahq.2 hr
       generalize l[k]=d1 at *
       generalize m[k]=d2 at *
       clear hs1 hs2 he hr
       go_wp2_with fail
       go_quiet (fail)
       go_wp2_with fail
       go_ret
       exact⟨by rw[HR.out]; rfl,below_drewN (Ext.trans' HB0.out hbel) _⟩
     ·obtain rfl:k=l.length:=by omega
      have hr:l=m:=by
       have:=HT.out
       rw[ahX,HL.out,ahX]at this; exact this
      have HR:Hid ((l==m)=true):=ahu.2 hr
      clear hr
      go_wp2_with fail
      go_ret
      exact⟨by rw[HR.out]; rfl,Ext.trans' HB0.out hbel⟩
  have hne:((l.length:Int) != (m.length:Int))=true:=by rw[bne_iff_ne]; omega
  have hr:Hid ((n1==n1&&l==m)=false):=by
   show _=_;rw[aiU,aiC,ahq]; exact fun e=>hl (by rw[e])
  clear hl;cases n1;all_goals
   go_enter Tryz.func195,Tryz.ntmps195
   go_wp2_with fail
   go_ret
   exact⟨by rw[hr.out]; rfl,HB0.out⟩
 have hr:Hid ((n1==n2&&l==m)=false):=by
  show _=_;rw[ahq.2 hn,aiT]
 cases n1<;>cases n2
 ·exact absurd rfl hn
 case' true.true=>exact absurd rfl hn
 all_goals
  clear hn
  go_enter Tryz.func195,Tryz.ntmps195
  go_wp2_with fail
  go_ret
  exact⟨by rw[hr.out]; rfl,HB0.out⟩
end
section
open Go.RowKit
variable{α:Type}
theorem mM(v:Value)(q:Bool×Nat×Nat)(K:Nat)(w:World)(h:bY K w v q)(hK:K≤1000000) :
  Calls Tryz.prog 145 #[v] w fun e w'=>∃x,e = .returned x∧bV w.heap.size w' x q∧Ext w w':=by
 obtain⟨n1,s1,l1,n2,s2,l2,rfl,h1,h2,h3,h4,rfl⟩:=h;exact uo n1 n2 s1 s2 l1 l2 w h1 h2 (by omega) (by omega)
end
section
open Go.RowKit
variable{α:Type}
set_option maxRecDepth 100000 in
set_option maxHeartbeats 1600000 in
theorem DK(t:aU)(w:World) :
  Calls Tryz.prog 144 #[t.v] w fun e w'=>∃b,e = .returned (.slice (some ⟨b,0,none⟩) 6 6)∧w.heap.size≤b∧Bx w' b t.cells.toArray∧Ext w w':=by
 skip;refine agX Tryz.func144 Tryz.ntmps144 fun ac S=>agS fun _ aX=>agT S 1 t.cells fun ac u b2 E3 hb4 S=>adr S 1 [] [(2,.slice none 0 0)] fun S=>agR<|aX _ _<|agS fun _ dM=>adr S 12 [.mem 0 0,.mem 0 4,.mem 0 8,.mem 0 12,.mem 0 16,.mem 0 20] [(4,t.a.v),(6,t.b.v),(8,t.c.v),(10,t.d.v),(12,t.e.v),(14,t.f.v)] fun S=>Sx.news S 15 6 t.cells fun ac u b6 E7 hb8 S=>adr S 1 [] [(2,.slice (some ⟨b6,0,none⟩) 6 6)] fun S=>agR<|dM _ _<|agV S Tryz.results144 ?_;exact⟨b6,rfl,S.old 0,S.bx 0,S.E⟩
end
end Go.Proofs.YtiafijffnejhoaaGreatDoor
