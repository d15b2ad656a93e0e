/- Walks of packages integer and rational: New, Sign. Plain -/
import Derived.Test.YtodpgjjgaddkeaaGreatDoorNatW2
import Derived.Outline
set_option maxRecDepth 100000
set_option linter.unusedVariables false
set_option linter.unusedSimpArgs false
section
namespace Go.Proofs.YtodpgjjgaddkeaaGreatDoor
open Go.RowKit Na Go.Rel
variable{α:Type}
def aO(base:Nat)(w:World)(v:Value)(neg:Bool)(n:Nat):Prop:=∃s,v = .agg #[.bool neg,s]∧aC w s (Ux n)∧From base s
theorem aO.ext{base:Nat}{w w':World}{v:Value}{neg:Bool}{n:Nat}(h:aO base w v neg n)(hb:Ext w w'):aO base w' v neg n:=by
 obtain⟨s,hv,hs,hf⟩:=h; exact⟨s,hv,hs.below hb,hf⟩
theorem aO.mono{base base':Nat}{w:World}{v:Value}{neg:Bool}{n:Nat}(h:aO base w v neg n)(hb:base'<=base):aO base' w v neg n:=by
 obtain⟨s,hv,hs,hf⟩:=h; exact⟨s,hv,hs,hf.mono hb⟩
theorem l9(neg:Bool)(v:Value)(l:List UInt32)(w:World)(hv:aC w v l)(hlen:l.length<=1000000000) :
  Calls Tryz.prog 284 #[.bool neg,v] w λe w'=>∃x,e = .returned x∧aO w.heap.size w' x (neg&&decide (0<Zk l)) (Zk l)∧Ext w w':=by
 have hb1:=aF w (.cells #[.z,.sn] 24);have HC:=azO (oL v l _ (hv.below hb1) hlen);have hpos:Hid (decide ((0:Int)<((Ux (Zk l)).length:Int))=decide (0<Zk l)):=by
  show _=_;rw[decide_eq_decide];constructor
  .intro h;rcases aAC (Zk l)with h0 | h0
   .rw[h0,jD]at h; simp at h
   exact h0
  intro h;have:(Ux (Zk l)).length≠0:=λh'=>by
   have:=kT.1 (aBd h'); omega
  omega
 rcases aCC neg with rfl | rfl;all_goals
  go_enter Tryz.func284,Tryz.ntmps284
  go_wp2_with fail
  refine HC.out.mono ?_
  rintro e w1 ⟨v',rfl,ho,hb2⟩
  have hrow:=aZ ho
  have hoff:=QJ ho
  obtain⟨hc,hf,hz⟩:=iY hb2
  have hb0:=K00 hb1 hb2
  have HB:=azO hb0
  have HR:=azO hrow
  have HO:=azO hoff
  obtain⟨a,cap,rfl⟩:=HR.out.shape
  clear HC ho hrow hb2 hb1 hb0 hoff
  go_wp2_with fail
 .refine bodyPost_ret (v := .agg #[.bool ((0:Int)<((Ux (Zk l)).length:Int)),.slice a (Ux (Zk l)).length cap]) (by simp[results,Tryz.results284,go_sem,hc]) I ⟨_,I,⟨_,by rw[aA1,hpos.out],?_⟩,?_⟩
  .exact⟨HR.out.ch (((Ch.refl _ _).setCell _ _).setCell _ _) (λ_=>HO.out.off Y),HO.out.mono Y⟩
  exact(HB.out.setCell (p:=⟨w.heap.size,0,none⟩) (azS _) _).setCell (p:=⟨w.heap.size,1,none⟩) (azS _) _
 refine bodyPost_ret (v := .agg #[.z,.slice a (Ux (Zk l)).length cap]) (by simp[results,Tryz.results284,go_sem,hc]) I ⟨_,I,⟨_,by rw[aBh],?_⟩,?_⟩
 .exact⟨HR.out.ch (((Ch.refl _ _).setCell _ _).setCell _ _) (λ_=>HO.out.off Y),HO.out.mono Y⟩
 exact(HB.out.setCell (p:=⟨w.heap.size,0,none⟩) (azS _) _).setCell (p:=⟨w.heap.size,1,none⟩) (azS _) _
def pR(neg:Bool)(n:Nat):Int:=if n=0 then 0 else if neg then -1 else 1
theorem mX(neg:Bool)(s:Value)(l:List UInt32)(w:World)(hv:aC w s l)(hlen:l.length<=100000000) :
  Calls Tryz.prog 257 #[.agg #[.bool neg,s]] w λe w'=>e = .returned (.i (pR neg (Zk l)))∧Ext w w':=by
 have hb1:=aF w (.cells #[.bool neg,s] 24);have HC:=azO (GH s l _ (hv.below hb1) Z);have HB:=azO hb1;obtain⟨a,cap,rfl⟩:=hv.shape;clear hv hb1;by_cases h0:Zk l=0
 .have hbl:((bl (Zk l):Int)==0)=true:=by rw[h0]; rfl
  have hs:Hid (pR neg (Zk l)=0):=by show _=_; unfold pR; rw[azQ h0]
  clear h0;go_enter Tryz.func257,Tryz.ntmps257
  go_wp2_with fail
  refine HC.out.mono ?_;rintro e w' ⟨rfl,rfl⟩;go_wp2_with fail
  go_ret
  exact⟨by rw[hs.out]; rfl,HB.out⟩
 have hbl:((bl (Zk l):Int)==0)=false:=by
  rw[aAh];intro h;have h1:bl (Zk l)=0:=Z
  unfold bl at h1; rw[azP h0]at h1; omega
 have hs0:Hid (∀neg,pR neg (Zk l)=if neg then -1 else 1):=λneg=>azP h0;clear h0;rcases aCC neg with rfl | rfl;all_goals
  go_enter Tryz.func257,Tryz.ntmps257
  go_wp2_with fail
  refine HC.out.mono ?_
  rintro e w' ⟨rfl,rfl⟩
  go_wp2_with fail
  go_ret
  exact⟨by rw[hs0.out]; rfl,HB.out⟩
theorem EL(neg:Bool)(s gv:Value)(l m:List UInt32)(gb:Nat)(w:World)(hv:aC w s l)(hlen:l.length<=100000000)(hg:w.cell? ⟨gb,0,none⟩=some gv)(hgv:aC w gv m)(hm:0<Zk m)(hlen2:m.length<=100000000) :
  Calls Tryz.prog 292 #[.agg #[.bool neg,s],.q gb 0] w λe w'=>∃q,e = .returned q∧aC w' q (Ux (Zk l/Zk m))∧Ext w w':=by
 have hb1:=aF w (.cells #[.bool neg,s] 24);have HC:=azO (GR s gv l m _ (hv.below hb1) (hgv.below hb1) hm hlen hlen2);have hlt:=World.block_lt_of_cell? w _ hg;simp only at hlt;have HB:=azO hb1;obtain⟨a,cap,rfl⟩:=hv.shape;obtain⟨a2,cap2,rfl⟩:=hgv.shape;clear hv hb1 hgv;go_enter Tryz.func292,Tryz.ntmps292
 go_wp2_with fail
 refine HC.out.mono ?_;rintro e w' ⟨q,r,rfl,hq,hr,hb⟩;have HQ:=azO hq;clear hq hr;go_wp2_with fail
 go_ret
 exact⟨_,I,HQ.out,K00 HB.out hb⟩
attribute [local go_sem] Go.Rel.Does Go.Rel.Upon Go.Rel.kept Go.Rel.valOf
theorem afC(a b:Bool)(n m:Nat):IntKind.i64.wrap (pR a n*pR b m)=pR a n*pR b m:=by
 have h:∀a n,pR a n=0∨pR a n=1∨pR a n = -1:=by
  intro a n; unfold pR; split
  .simp
  cases a<;>simp
 rw[aBv];rcases h a n with h1 | h1 | h1<;>rcases h b m with h2 | h2 | h2<;>rw[h1,h2]<;>decide
def aA(base:Nat)(w:World)(v:Value)(neg:Bool)(a b:Nat):Prop:=∃s t,v = .agg #[.bool neg,s,.z,t]∧aC w s (Ux a)∧aC w t (Ux b)∧From base s∧From base t
theorem aA.ext{base:Nat}{w w':World}{v:Value}{neg:Bool}{a b:Nat}(h:aA base w v neg a b)(hb:Ext w w'):aA base w' v neg a b:=by
 obtain⟨s,t,hv,hs,ht,hf⟩:=h; exact⟨s,t,hv,hs.below hb,ht.below hb,hf⟩
theorem aA.mono{base base':Nat}{w:World}{v:Value}{neg:Bool}{a b:Nat}(h:aA base w v neg a b)(hb:base'<=base):aA base' w v neg a b:=by
 obtain⟨s,t,hv,hs,ht,hf,hg⟩:=h; exact⟨s,t,hv,hs,ht,hf.mono hb,hg.mono hb⟩
theorem ahX{base:Nat}{w:World}{x y:Value}{n1:Bool}{a b:Nat}(hx:aO base w x n1 a)(hy:aO base w y false b) :
  ∃a1 c1 a2 c2,x = .agg #[.bool n1,.slice a1 (Ux a).length c1]∧y = .agg #[.z,.slice a2 (Ux b).length c2] ∧
   aA base w (.agg #[.bool n1,.slice a1 (Ux a).length c1,.z,.slice a2 (Ux b).length c2]) n1 a b:=by
 obtain⟨s,rfl,hs,f1⟩:=hx;obtain⟨t,rfl,ht,f2⟩:=hy;obtain⟨a1,c1,rfl⟩:=hs.shape;obtain⟨a2,c2,rfl⟩:=ht.shape;exact⟨a1,c1,a2,c2,I,I,_,_,I,hs,ht,f1,f2⟩
def lJ(n1 n2:Bool)(a b:Nat):Bool:=decide (pR n1 a*pR n2 b<0)&&decide (0<a/Nat.gcd a b)
theorem Hg(n1 n2:Bool)(s1 s2:Value)(l m:List UInt32)(w:World)(h1:aC w s1 l)(h2:aC w s2 m)(hm:0<Zk m)(hl1:l.length<=100000000)(hl2:m.length<=100000000) :
  Calls Tryz.prog 258 #[.agg #[.bool n1,s1],.agg #[.bool n2,s2]] w λe w'=>∃x,e = .returned x ∧
   aA w.heap.size w' x (lJ n1 n2 (Zk l) (Zk m)) (Zk l/Nat.gcd (Zk l) (Zk m)) (Zk m/Nat.gcd (Zk l) (Zk m))∧Ext w w':=by
 obtain⟨ng,hng⟩:∃x,lJ n1 n2 (Zk l) (Zk m)=x:=⟨_,I⟩;rw[hng];unfold lJ at hng;have HNG:=azO hng;clear hng;obtain⟨a1,c1,rfl⟩:=h1.shape;obtain⟨a2,c2,rfl⟩:=h2.shape;have H1:=azO h1;have H2:=azO h2;clear h1 h2;go_enter Tryz.func258,Tryz.ntmps258
 go_wp2_with fail
 have HB0:=azO (((aF w (.cells #[.bool n1,.slice a1 l.length c1] 24)).alloc Y (.cells #[.bool n2,.slice a2 m.length c2] 24)).alloc (by simp; omega) (.cells #[.z,.sn,.z,.sn] 26));refine(af7 _ _ _ _ _ (H1.out.below HB0.out) (H2.out.below HB0.out) hl1 hl2).mono ?_;rintro e w1 ⟨g,rfl,hg,hb1⟩;have HG:=azO hg;obtain⟨ag,cg,hgs⟩:=hg.shape;rw[hgs]at HG;clear hg;have HB1:=azO (K00 HB0.out hb1);go_wp2_with fail
 obtain⟨W,hW⟩:∃W,W=w1.alloc (.cells #[.slice ag (Ux ((Zk l).gcd (Zk m))).length cg] 22):=⟨_,I⟩;rw[<-hW];have hWb:Ext w1 W:=by rw[hW]; exact aF _ _
 have hk:∀w',Ext W w'->w'.cell? ⟨w.heap.size,0,none⟩=some (.bool n1)∧w'.cell? ⟨w.heap.size,1,none⟩=some (.slice a1 l.length c1)∧w'.cell? ⟨w.heap.size+1,0,none⟩=some (.bool n2) ∧
   w'.cell? ⟨w.heap.size+1,1,none⟩=some (.slice a2 m.length c2)∧w'.cell? ⟨w1.heap.size,0,none⟩=some (.slice ag (Ux ((Zk l).gcd (Zk m))).length cg):=by
  intro w' hw'
  have hsz:=hb1.size
  simp only[aCo]at hsz
  have hw1:=K00 hWb hw'
  refine⟨?_,?_,?_,?_,?_⟩
  .rw[hw1.cell (p:=⟨w.heap.size,0,none⟩) (by simp; omega),hb1.cell (p:=⟨w.heap.size,0,none⟩) (by simp; omega)]; simp[go_sem]
  .rw[hw1.cell (p:=⟨w.heap.size,1,none⟩) (by simp; omega),hb1.cell (p:=⟨w.heap.size,1,none⟩) (by simp; omega)]; simp[go_sem]
  .rw[hw1.cell (p:=⟨w.heap.size+1,0,none⟩) (by simp; omega),hb1.cell (p:=⟨w.heap.size+1,0,none⟩) Y]; simp[go_sem]
  .rw[hw1.cell (p:=⟨w.heap.size+1,1,none⟩) (by simp; omega),hb1.cell (p:=⟨w.heap.size+1,1,none⟩) Y]; simp[go_sem]
  .rw[hw'.cell (p:=⟨w1.heap.size,0,none⟩) (by rw[hW]; simp),hW]; simp[go_sem]
 have HK:=azO hk;have HW:=azO (K00 HB1.out hWb);have HG':=azO (HG.out.below hWb);have hG:0<Nat.gcd (Zk l) (Zk m):=aCx _ hm;have hGl:(Ux ((Zk l).gcd (Zk m))).length<=100000000:=aAa (fK (Nat.gcd_le_right _ hm)) (by have:=bY m; omega);have hvG:=PV ((Zk l).gcd (Zk m));have hfin:W.heap.size<=W.heap.size:=azS _;have hres:Hid (∀w',Ext W w'->(∀i,i<4->∃u,w'.cell? ⟨w.heap.size+1+1,i,none⟩=some u∧w'.frozen? ⟨w.heap.size+1+1,i,none⟩=false)∧w.heap.size+1+1<w'.heap.size):=by
  intro w' hw';have hsz:=hb1.size;simp only[aCo]at hsz;have hw1:=K00 hWb hw';have:=hw1.size;refine⟨λi hi=>?_,Z⟩;rw[hw1.cell (p:=⟨w.heap.size+1+1,i,none⟩) (by simp; omega),hb1.cell (p:=⟨w.heap.size+1+1,i,none⟩) Y,hw1.frozen (p:=⟨w.heap.size+1+1,i,none⟩) (by simp; omega),hb1.frozen (p:=⟨w.heap.size+1+1,i,none⟩) Y];rcases i with _ | _ | _ | _ | i
  .exact⟨.z,by simp[go_sem],by simp[go_sem]⟩
  .exact⟨.sn,by simp[go_sem],by simp[go_sem]⟩
  .exact⟨.z,by simp[go_sem],by simp[go_sem]⟩
  .exact⟨.sn,by simp[go_sem],by simp[go_sem]⟩
  omega
 clear hW HB0 hb1 HB1 hk hgs hWb;refine Go.Rel.wp_region 15 X X Ext (λw'=>Ext W w')
  [Rel.is (.agg #[.bool n1,.slice a1 l.length c1]),Rel.is (.i (pR n1 (Zk l))),Rel.is (.agg #[.bool n2,.slice a2 m.length c2]),Rel.is (.i (pR n2 (Zk m))),
   Rel.is (.i (pR n1 (Zk l)*pR n2 (Zk m))),Rel.is (.bool (pR n1 (Zk l)*pR n2 (Zk m)<0)),Rel.is (.func (.func 292) #[] #[.q w1.heap.size 0]),
   Rel.is (.agg #[.bool n1,.slice a1 l.length c1]),λv w'=>aC w' v (Ux (Zk l/Nat.gcd (Zk l) (Zk m))),
   λv w'=>aO (w.heap.size+1+1+1) w' v ng (Zk l/Nat.gcd (Zk l) (Zk m)),
   Rel.is (.func (.func 292) #[] #[.q w1.heap.size 0]),Rel.is (.agg #[.bool n2,.slice a2 m.length c2]),
   λv w'=>aC w' v (Ux (Zk m/Nat.gcd (Zk l) (Zk m))),λv w'=>aO (w.heap.size+1+1+1) w' v false (Zk m/Nat.gcd (Zk l) (Zk m)),
   λv w'=>aA (w.heap.size+1+1+1) w' v ng (Zk l/Nat.gcd (Zk l) (Zk m)) (Zk m/Nat.gcd (Zk l) (Zk m))]
  ?_ ?_ ?_ ⟨?_,?_,?_,?_,?_,?_,?_,?_,?_,?_,?_,?_,?_,?_,?_,G⟩ ?_
 .exact below_drewN (aAe _ _) 1
 .exact λ_ _ h k=>K00 h k
 .exact Ed.mem ⟨aG _,aG _,aG _,aG _,aG _,aG _,aG _,aG _,λ_ _ _ h k=>k.below h,λ_ _ _ h k=>k.ext h,aG _,aG _,λ_ _ _ h k=>k.below h,λ_ _ _ h k=>k.ext h,
   λ_ _ _ h k=>k.ext h,G⟩
 .intro ρ w' hs ho hC hd;have h2:ρ (.tmp 2) = .q w.heap.size 0:=ho 2 I;obtain⟨k1,k2,-⟩:=HK.out w' hC;simp[go_sem,h2,k1,k2];exact⟨K01,I⟩
 .intro ρ w' hs ho hC hd;obtain⟨hd,-⟩:=hd;have h2:ρ (.tmp 13)=_:=hd I;simp[go_sem,h2,hs.func];refine(mX _ _ _ _ (H1.out.below (K00 HW.out hC)) hl1).mono ?_;rintro e w'' ⟨rfl,hb⟩;exact⟨_,I,hb,I⟩
 .intro ρ w' hs ho hC hd;have h2:ρ (.tmp 3) = .pointer (some ⟨w.heap.size+1,0,none⟩):=ho 3 I;obtain⟨-,-,k1,k2,-⟩:=HK.out w' hC;simp[go_sem,h2,k1,k2];exact⟨K01,I⟩
 .intro ρ w' hs ho hC hd;obtain⟨hd,-⟩:=hd;have h2:ρ (.tmp 15)=_:=hd I;simp[go_sem,h2,hs.func];refine(mX _ _ _ _ (H2.out.below (K00 HW.out hC)) hl2).mono ?_;rintro e w'' ⟨rfl,hb⟩;exact⟨_,I,hb,I⟩
 .intro ρ w' hs ho hC hd;obtain⟨hd1,hd2,-⟩:=hd;have h1:ρ (.tmp 14)=_:=hd1 I;have h2:ρ (.tmp 16)=_:=hd2 I;simp[go_sem,h1,h2];exact⟨K01,by rw[afC]; rfl⟩
 .intro ρ w' hs ho hC hd;obtain⟨hd,-⟩:=hd;have h2:ρ (.tmp 17)=_:=hd I;simp[go_sem,h2,hs.const];exact⟨K01,I⟩
 .intro ρ w' hs ho hC hd;have h2:ρ (.tmp 6) = .func (.func 292) #[] #[.q w1.heap.size 0]:=ho 6 I;simp[go_sem,h2];exact⟨K01,I⟩
 .intro ρ w' hs ho hC hd;have h2:ρ (.tmp 2) = .q w.heap.size 0:=ho 2 I;obtain⟨k1,k2,-⟩:=HK.out w' hC;simp[go_sem,h2,k1,k2];exact⟨K01,I⟩
 .intro ρ w' hs ho hC hd;obtain⟨hd1,hd2,-⟩:=hd;have h1:ρ (.tmp 19)=_:=hd1 I;have h2:ρ (.tmp 20)=_:=hd2 I;simp[go_sem,h1,h2];obtain⟨-,-,-,-,k1⟩:=HK.out w' hC;have hc:=EL n1 (.slice a1 l.length c1) _ l _ w1.heap.size w' (H1.out.below (K00 HW.out hC)) hl1 k1 (HG'.out.below hC) (by rw[hvG]; exact hG) hGl;rw[hvG]at hc;refine hc.mono ?_;rintro e w'' ⟨q,rfl,hq,hb⟩;exact⟨_,I,hb,hq⟩
 .intro ρ w' hs ho hC hd;obtain⟨hd1,hd2,-⟩:=hd;have h1:ρ (.tmp 18)=_:=hd1 I;have h2:aC w' (ρ (.tmp 21)) _:=hd2 I;simp[go_sem,h1,hs.func];have hc:=l9 (decide (pR n1 (Zk l)*pR n2 (Zk m)<0)) _ _ w' h2 (by have:=fK (aBX (Zk l) (Nat.gcd (Zk l) (Zk m))); have:=bY l; omega);rw[PV,HNG.out]at hc;refine hc.mono ?_;rintro e w'' ⟨q,rfl,hq,hb⟩;exact⟨_,I,hb,hq.mono (hres.out w' hC).2⟩
 .intro ρ w' hs ho hC hd;have h2:ρ (.tmp 6) = .func (.func 292) #[] #[.q w1.heap.size 0]:=ho 6 I;simp[go_sem,h2];exact⟨K01,I⟩
 .intro ρ w' hs ho hC hd;have h2:ρ (.tmp 3) = .pointer (some ⟨w.heap.size+1,0,none⟩):=ho 3 I;obtain⟨-,-,k1,k2,-⟩:=HK.out w' hC;simp[go_sem,h2,k1,k2];exact⟨K01,I⟩
 .intro ρ w' hs ho hC hd;obtain⟨hd1,hd2,-⟩:=hd;have h1:ρ (.tmp 23)=_:=hd1 I;have h2:ρ (.tmp 24)=_:=hd2 I;simp[go_sem,h1,h2];obtain⟨-,-,-,-,k1⟩:=HK.out w' hC;have hc:=EL n2 (.slice a2 m.length c2) _ m _ w1.heap.size w' (H2.out.below (K00 HW.out hC)) hl2 k1 (HG'.out.below hC) (by rw[hvG]; exact hG) hGl;rw[hvG]at hc;refine hc.mono ?_;rintro e w'' ⟨q,rfl,hq,hb⟩;exact⟨_,I,hb,hq⟩
 .intro ρ w' hs ho hC hd;obtain⟨hd2,-⟩:=hd;have h2:aC w' (ρ (.tmp 25)) _:=hd2 I;simp[go_sem,hs.func,hs.const];have hc:=l9 false _ _ w' h2 (by have:=fK (aBX (Zk m) (Nat.gcd (Zk l) (Zk m))); have:=bY m; omega);rw[PV]at hc;refine hc.mono ?_;rintro e w'' ⟨q,rfl,hq,hb⟩;exact⟨_,I,hb,hq.mono (hres.out w' hC).2⟩
 .intro ρ w' hs ho hC hd;obtain⟨hd1,hd2,-⟩:=hd;have h1:aO (w.heap.size+1+1+1) w' (ρ (.tmp 22)) _ _:=hd1 I;have h2:aO (w.heap.size+1+1+1) w' (ρ (.tmp 26)) _ _:=hd2 I;obtain⟨b1,d1,b2,d2,e1,e2,hr⟩:=ahX h1 h2;simp[go_sem,e1,e2];exact⟨K01,hr⟩
 intro w' hC;rintro _ rfl _ rfl _ rfl _ rfl _ rfl _ rfl _ rfl _ rfl v8 h8 v9 h9 _ rfl _ rfl v12 h12 v13 h13 v14 ⟨s,t,rfl,hx,hy,fx,fy⟩;change wpList _ _ _ (List.drop 15 _) _ _;simp only[List.drop_succ_cons,aCl];obtain⟨hr,hrl⟩:=hres.out w' hC;obtain⟨u0,r0,f0⟩:=hr 0 Z;obtain⟨u1,r1,f1⟩:=hr 1 Z;obtain⟨u2,r2,f2⟩:=hr 2 Z;obtain⟨u3,r3,f3⟩:=hr 3 Z;obtain⟨b1,d1,rfl⟩:=hx.shape;obtain⟨b2,d2,rfl⟩:=hy.shape;have HX:=azO (K00 HW.out hC);have F:=azO (And.intro hx (And.intro hy (And.intro fx fy)));clear hr h8 h9 h12 h13 hx hy fx fy;go_wp2_with fail
 refine bodyPost_ret (v := .agg #[.bool ng,.slice b1 (Ux (Zk l/(Zk l).gcd (Zk m))).length d1,.z,.slice b2 (Ux (Zk m/(Zk l).gcd (Zk m))).length d2]) (by simp[results,Tryz.results258,go_sem,r0,r1,r2,r3]) I ⟨_,I,⟨_,_,I,?_,?_,?_,?_⟩,?_⟩
 .exact F.out.1.ch (((((Ch.refl _ _).setCell _ _).setCell _ _).setCell _ _).setCell _ _) (λ_=>F.out.2.2.1.off (Nat.lt_succ_self _))
 .exact F.out.2.1.ch (((((Ch.refl _ _).setCell _ _).setCell _ _).setCell _ _).setCell _ _) (λ_=>F.out.2.2.2.off (Nat.lt_succ_self _))
 .exact F.out.2.2.1.mono Z
 .exact F.out.2.2.2.mono Z
 exact(((HX.out.setCell (p:=⟨_,0,none⟩) (by simp only; omega) _).setCell (p:=⟨_,1,none⟩) (by simp only; omega) _).setCell (p:=⟨_,2,none⟩) (by simp only; omega) _).setCell (p:=⟨_,3,none⟩) (by simp only; omega) _
end Go.Proofs.YtodpgjjgaddkeaaGreatDoor
namespace Go.Proofs.YtodpgjjgaddkeaaGreatDoor
open Go.RowKit Na Go.Rel
variable{α:Type}
theorem XQ{w w1:World}{A B C:Array Value}{ta tb tc:TypeId}(hb:Ext (((w.alloc (.cells A ta)).alloc (.cells B tb)).alloc (.cells C tc)) w1) :
  (∀i,w1.cell? ⟨w.heap.size,i,none⟩=A[i]?)∧(∀i,w1.cell? ⟨w.heap.size+1,i,none⟩=B[i]?)∧(∀i,w1.cell? ⟨w.heap.size+1+1,i,none⟩=C[i]?)∧(∀i,w1.frozen? ⟨w.heap.size+1+1,i,none⟩=false)∧w.heap.size+1+1<w1.heap.size:=by
 refine⟨λi=>?_,λi=>?_,λi=>?_,λi=>?_,by have:=hb.size; simp at this; omega⟩
 .rw[hb.cell (p:=⟨w.heap.size,i,none⟩) (by simp; omega)]; simp[go_sem]
 .rw[hb.cell (p:=⟨w.heap.size+1,i,none⟩) Y]; simp[go_sem]
 .rw[hb.cell (p:=⟨w.heap.size+1+1,i,none⟩) Y]; simp[go_sem]
 rw[hb.frozen (p:=⟨w.heap.size+1+1,i,none⟩) Y]; simp[go_sem]
abbrev nT:Value := .agg #[.z,.sn,.z,.sn]
theorem UG(n1 n2:Bool)(s1 s2:Value)(l m:List UInt32)(w:World)(h1:aC w s1 l)(h2:aC w s2 m)(hm:Zk m=0)(hl2:m.length<=100000000) :
  Calls Tryz.prog 223 #[.agg #[.bool n1,s1],.agg #[.bool n2,s2]] w λe w'=>e = .returned (.tuple #[nT,.i 9])∧Ext w w':=by
 obtain⟨a1,c1,rfl⟩:=h1.shape;obtain⟨a2,c2,rfl⟩:=h2.shape;have HB0:=azO (((aF w (.cells #[.bool n1,.slice a1 l.length c1] 24)).alloc Y (.cells #[.bool n2,.slice a2 m.length c2] 24)).alloc (by simp; omega) (.cells #[.z,.sn,.z,.sn] 26));have hc:=mX n2 _ _ _ (h2.below HB0.out) hl2;rw[hm]at hc;have HC:=azO hc;clear hc h1 h2 hm;go_enter Tryz.func223,Tryz.ntmps223
 go_wp2_with fail
 refine HC.out.mono ?_;rintro e w1 ⟨rfl,hb⟩;obtain⟨-,-,r0,f0,hz⟩:=XQ hb;have hs0:((pR n2 0)==0)=true:=by unfold pR; rfl
 have HX:=azO (K00 HB0.out hb);clear hb HC HB0;go_wp2_with fail
 refine bodyPost_ret (v := .tuple #[nT,.i 9]) (by simp[results,Tryz.results223,go_sem,r0]) I ⟨I,?_⟩;exact(((HX.out.setCell (p:=⟨_,0,none⟩) (by simp only; omega) _).setCell (p:=⟨_,1,none⟩) (by simp only; omega) _).setCell (p:=⟨_,2,none⟩) (by simp only; omega) _).setCell (p:=⟨_,3,none⟩) (by simp only; omega) _
theorem XR(n1 n2:Bool)(s1 s2:Value)(l m:List UInt32)(w:World)(h1:aC w s1 l)(h2:aC w s2 m)(hm:0<Zk m)(hl1:l.length<=100000000)(hl2:m.length<=100000000) :
  Calls Tryz.prog 223 #[.agg #[.bool n1,s1],.agg #[.bool n2,s2]] w λe w'=>∃x,e = .returned (.tuple #[x,.i 0]) ∧
   aA w.heap.size w' x (lJ n1 n2 (Zk l) (Zk m)) (Zk l/Nat.gcd (Zk l) (Zk m)) (Zk m/Nat.gcd (Zk l) (Zk m))∧Ext w w':=by
 obtain⟨a1,c1,rfl⟩:=h1.shape;obtain⟨a2,c2,rfl⟩:=h2.shape;have HB0:=azO (((aF w (.cells #[.bool n1,.slice a1 l.length c1] 24)).alloc Y (.cells #[.bool n2,.slice a2 m.length c2] 24)).alloc (by simp; omega) (.cells #[.z,.sn,.z,.sn] 26));have HC:=azO (mX n2 _ _ _ (h2.below HB0.out) hl2);have hs0:((pR n2 (Zk m))==0)=false:=by
  rw[aAh]; unfold pR; rw[azP Z]; cases n2<;>simp
 have H:=azO (And.intro h1 h2);have HM:=azO hm;clear h1 h2 hm;go_enter Tryz.func223,Tryz.ntmps223
 go_wp2_with fail
 refine HC.out.mono ?_;rintro e w1 ⟨rfl,hb⟩;obtain⟨k1,k2,-,-,hz⟩:=XQ hb;have hX:=K00 HB0.out hb;have HX:=azO hX;have HY:=azO hb;have HL:=azO (Hg n1 n2 _ _ _ _ w1 (H.out.1.below hX) (H.out.2.below hX) HM.out hl1 hl2);clear hb HC hX HB0;go_wp2_with fail
 refine HL.out.mono ?_;rintro e w2 ⟨x,rfl,⟨s,t,rfl,hs,ht,fs,ft⟩,hb2⟩;obtain⟨b1,d1,rfl⟩:=hs.shape;obtain⟨b2,d2,rfl⟩:=ht.shape;obtain⟨-,-,r0,f0,hz2⟩:=XQ (K00 HY.out hb2);have HX2:=azO (K00 HX.out hb2);have F:=azO (And.intro hs (And.intro ht (And.intro fs ft)));clear hs ht fs ft hb2 HL k1 k2;go_wp2_with fail
 refine bodyPost_ret (v := .tuple #[.agg #[.bool (lJ n1 n2 (Zk l) (Zk m)),.slice b1 (Ux (Zk l/(Zk l).gcd (Zk m))).length d1,.z,.slice b2 (Ux (Zk m/(Zk l).gcd (Zk m))).length d2],.i 0]) (by simp[results,Tryz.results223,go_sem,r0]) I ⟨_,I,⟨_,_,I,?_,?_,?_,?_⟩,?_⟩
 .exact F.out.1.ch (((((Ch.refl _ _).setCell _ _).setCell _ _).setCell _ _).setCell _ _) (λ_=>F.out.2.2.1.off hz)
 .exact F.out.2.1.ch (((((Ch.refl _ _).setCell _ _).setCell _ _).setCell _ _).setCell _ _) (λ_=>F.out.2.2.2.off hz)
 .exact F.out.2.2.1.mono Z
 .exact F.out.2.2.2.mono Z
 exact(((HX2.out.setCell (p:=⟨_,0,none⟩) (by simp only; omega) _).setCell (p:=⟨_,1,none⟩) (by simp only; omega) _).setCell (p:=⟨_,2,none⟩) (by simp only; omega) _).setCell (p:=⟨_,3,none⟩) (by simp only; omega) _
theorem Qa(x:Int)(h : -9223372036854775808<=x)(hx:x<0):IntKind.u64.wrap (-IntKind.u64.wrap x)=(x.natAbs:Int):=by
 rw[aBa,aBa]; omega
theorem Jy(x:Int)(w:World)(h : -9223372036854775808<=x)(hx:x<0) :
  Calls Tryz.prog 259 #[.i x] w λe w'=>∃v,e = .returned v∧aO w.heap.size w' v (decide (x<0)) x.natAbs∧Ext w w':=by
 have hb0:=aF w (.cells #[.z,.sn] 24);have hN:x.natAbs<18446744073709551616:=Z
 have eN:(UInt64.ofNat x.natAbs).toNat=x.natAbs:=by simp; omega
 have hF:=qA (UInt64.ofNat x.natAbs) (w.alloc (.cells #[.z,.sn] 24));rw[afV,eN]at hF;have hdl:(Ux x.natAbs).length<=2:=Na.bI (by show _<4294967296^2; omega);have HF:=azO hF;have HB:=azO hb0;clear hF hb0 eN;go_enter Tryz.func259,Tryz.ntmps259
 have hw:=Qa x h hx;go_wp2_with fail
 refine HF.out.mono ?_;rintro e w1 ⟨v',rfl,ho,hb1⟩;have hrow:=aZ ho;have HI:=azO (l9 true v' _ w1 hrow Z);have HB1:=azO hb1;clear hrow ho hw HF hb1;go_wp2_with fail
 refine HI.out.mono ?_;rintro e w2 ⟨y,rfl,⟨s,rfl,hs,fs⟩,hb2⟩;obtain⟨b1,d1,rfl⟩:=hs.shape;obtain⟨r0,f0,hz⟩:=iY (K00 HB1.out hb2);obtain⟨-,-,hz1⟩:=iY HB1.out;have HX:=azO (K00 HB.out (K00 HB1.out hb2));have F:=azO (And.intro hs fs);have e1:Hid ((true&&decide (0<Zk (Ux x.natAbs)))=decide (x<0)):=by
  show _=_;rw[PV,aA1,decide_eq_decide]; omega
 clear hs fs hb2 HI;go_wp2_with fail
 refine bodyPost_ret (v := .agg #[.bool (true&&decide (0<Zk (Ux x.natAbs))),.slice b1 (Ux (Zk (Ux x.natAbs))).length d1]) (by simp[results,Tryz.results259,go_sem,r0]) I ⟨_,I,⟨_,by rw[e1.out],?_,?_⟩,?_⟩
 .have:=F.out.1.ch (((Ch.refl w.heap.size _).setCell 0 (.bool (true&&decide (0<Zk (Ux x.natAbs))))).setCell 1 (.slice b1 (Ux (Zk (Ux x.natAbs))).length d1)) (λ_=>F.out.2.off hz1);rw[PV]at this |-;exact this
 .exact F.out.2.mono Z
 exact(HX.out.setCell (p:=⟨_,0,none⟩) (by simp only; omega) _).setCell (p:=⟨_,1,none⟩) (by simp only; omega) _
theorem Jz(x:Nat)(w:World)(h:(x:Int)<=9223372036854775807) :
  Calls Tryz.prog 259 #[.i x] w λe w'=>∃v,e = .returned v∧aO w.heap.size w' v false x∧Ext w w':=by
 have hb0:=aF w (.cells #[.z,.sn] 24);have hN:x<18446744073709551616:=Z
 have eN:(UInt64.ofNat x).toNat=x:=by simp; omega
 have hF:=qA (UInt64.ofNat x) (w.alloc (.cells #[.z,.sn] 24));rw[afV,eN]at hF;have hdl:(Ux x).length<=2:=Na.bI (by show _<4294967296^2; omega);have HF:=azO hF;have HB:=azO hb0;clear hF hb0 eN;go_enter Tryz.func259,Tryz.ntmps259
 go_wp2_with fail
 refine HF.out.mono ?_;rintro e w1 ⟨v',rfl,ho,hb1⟩;have hrow:=aZ ho;have HI:=azO (l9 false v' _ w1 hrow Z);have HB1:=azO hb1;clear hrow ho HF hb1;go_wp2_with fail
 refine HI.out.mono ?_;rintro e w2 ⟨y,rfl,⟨s,rfl,hs,fs⟩,hb2⟩;obtain⟨b1,d1,rfl⟩:=hs.shape;obtain⟨r0,f0,hz⟩:=iY (K00 HB1.out hb2);obtain⟨-,-,hz1⟩:=iY HB1.out;have HX:=azO (K00 HB.out (K00 HB1.out hb2));have F:=azO (And.intro hs fs);have e1:Hid ((false&&decide (0<Zk (Ux x)))=false):=aBh _;clear hs fs hb2 HI;go_wp2_with fail
 refine bodyPost_ret (v := .agg #[.bool (false&&decide (0<Zk (Ux x))),.slice b1 (Ux (Zk (Ux x))).length d1]) (by simp[results,Tryz.results259,go_sem,r0]) I ⟨_,I,⟨_,by rw[e1.out],?_,?_⟩,?_⟩
 .have:=F.out.1.ch (((Ch.refl w.heap.size _).setCell 0 (.bool (false&&decide (0<Zk (Ux x))))).setCell 1 (.slice b1 (Ux (Zk (Ux x))).length d1)) (λ_=>F.out.2.off hz1);rw[PV]at this |-;exact this
 .exact F.out.2.mono Z
 exact(HX.out.setCell (p:=⟨_,0,none⟩) (by simp only; omega) _).setCell (p:=⟨_,1,none⟩) (by simp only; omega) _
theorem xK(x:Int)(w:World)(h : -9223372036854775808<=x)(h2:x<=9223372036854775807) :
  Calls Tryz.prog 259 #[.i x] w λe w'=>∃v,e = .returned v∧aO w.heap.size w' v (decide (x<0)) x.natAbs∧Ext w w':=by
 by_cases hx:x<0
 .exact Jy x w h hx
 obtain⟨n,rfl⟩:∃n:Nat,x=n:=⟨x.toNat,Z⟩;have e:decide ((n:Int)<0)=false:=aBp Z;rw[e,aBS];exact Jz n w h2
theorem wO(x:Int)(w:World)(h : -9223372036854775808<=x)(h2:x<=9223372036854775807) :
  Calls Tryz.prog 224 #[.i x] w λe w'=>∃v,e = .returned v∧aA w.heap.size w' v (decide (x<0)) x.natAbs 1∧Ext w w':=by
 have hb0:=aF w (.cells #[.z,.sn,.z,.sn] 26);have H1:=azO (xK x (w.alloc (.cells #[.z,.sn,.z,.sn] 26)) h h2);have HB0:=azO hb0;clear hb0;go_enter Tryz.func224,Tryz.ntmps224
 go_wp2_with fail
 refine H1.out.mono ?_;rintro e w1 ⟨y,rfl,⟨s,rfl,hs,fs⟩,hb1⟩;have h2:=xK 1 w1 O O;rw[show decide ((1:Int)<0)=false from rfl,show(1:Int).natAbs=1 from rfl]at h2;have H2:=azO h2;have HS:=azO (And.intro hs fs);have HB1:=azO hb1;clear h2 H1 hs fs hb1;go_wp2_with fail
 refine H2.out.mono ?_;rintro e w2 ⟨y,rfl,⟨t,rfl,ht,ft⟩,hb2⟩;obtain⟨b1,d1,rfl⟩:=HS.out.1.shape;obtain⟨b2,d2,rfl⟩:=ht.shape;obtain⟨r0,f0,hz⟩:=iY (K00 HB1.out hb2);obtain⟨-,-,hz1⟩:=iY HB1.out;have F:=azO (And.intro (HS.out.1.below hb2) (And.intro ht (And.intro HS.out.2 ft)));have HX:=azO (K00 HB0.out (K00 HB1.out hb2));clear ht ft hb2 H2;go_wp2_with fail
 refine bodyPost_ret (v := .agg #[.bool (x<0),.slice b1 (Ux x.natAbs).length d1,.z,.slice b2 (Ux 1).length d2]) (by simp[results,Tryz.results224,go_sem,r0]) I ⟨_,I,⟨_,_,I,?_,?_,?_,?_⟩,?_⟩
 .exact F.out.1.ch (((((Ch.refl w.heap.size _).setCell _ _).setCell _ _).setCell _ _).setCell _ _) (λ_=>F.out.2.2.1.off Y)
 .exact F.out.2.1.ch (((((Ch.refl w.heap.size _).setCell _ _).setCell _ _).setCell _ _).setCell _ _) (λ_=>F.out.2.2.2.off hz1)
 .exact F.out.2.2.1.mono Y
 .exact F.out.2.2.2.mono Z
 exact(((HX.out.setCell (p:=⟨_,0,none⟩) (by simp only; omega) _).setCell (p:=⟨_,1,none⟩) (by simp only; omega) _).setCell (p:=⟨_,2,none⟩) (by simp only; omega) _).setCell (p:=⟨_,3,none⟩) (by simp only; omega) _
theorem aA.shape{base:Nat}{w:World}{v:Value}{neg:Bool}{a b:Nat}(h:aA base w v neg a b):∃b1 d1 b2 d2,v = .agg #[.bool neg,.slice b1 (Ux a).length d1,.z,.slice b2 (Ux b).length d2]:=by
 obtain⟨s,t,rfl,hs,ht,_⟩:=h;obtain⟨b1,d1,rfl⟩:=hs.shape;obtain⟨b2,d2,rfl⟩:=ht.shape;exact⟨b1,d1,b2,d2,I⟩
theorem aA.ch{base:Nat}{w w':World}{v:Value}{neg:Bool}{a b c:Nat}(h:aA base w v neg a b)(hc:Ch c w w')(hlt:c<base):aA base w' v neg a b:=by
 obtain⟨s,t,rfl,hs,ht,fs,ft⟩:=h;exact⟨s,t,I,hs.ch hc (λ_=>fs.off hlt),ht.ch hc (λ_=>ft.off hlt),fs,ft⟩
theorem aA.Ol{base:Nat}{w:World}{v:Value}{neg:Bool}{a b c:Nat}(h:aA base w v neg a b)(hlt:c<base)(x0 x1 x2 x3:Value) :
  aA base ((((w.setCell ⟨c,0,none⟩ x0).setCell ⟨c,1,none⟩ x1).setCell ⟨c,2,none⟩ x2).setCell ⟨c,3,none⟩ x3) v neg a b:=
 h.ch (((((Ch.refl c w).setCell _ _).setCell _ _).setCell _ _).setCell _ _) hlt
theorem qE{W w:World}(h:Ext W w){c:Nat}(hc:W.heap.size<=c)(x0 x1 x2 x3:Value) :
  Ext W ((((w.setCell ⟨c,0,none⟩ x0).setCell ⟨c,1,none⟩ x1).setCell ⟨c,2,none⟩ x2).setCell ⟨c,3,none⟩ x3):=
 (((Below.setCell h (p:=⟨c,0,none⟩) hc _).setCell (p:=⟨c,1,none⟩) hc _).setCell (p:=⟨c,2,none⟩) hc _).setCell (p:=⟨c,3,none⟩) hc _
def nrm(n1 n2:Bool)(a b:Nat):Bool×Nat×Nat:=if b=0 then (false,0,1)else (lJ n1 n2 a b,a/Nat.gcd a b,b/Nat.gcd a b)
abbrev dP (base:Nat)(w:World)(v:Value)(r:Bool×Nat×Nat):Prop:=aA base w v r.1 r.2.1 r.2.2
theorem oq(n1 n2:Bool)(s1 s2:Value)(l m:List UInt32)(w:World)(h1:aC w s1 l)(h2:aC w s2 m)(hl1:l.length<=100000000)(hl2:m.length<=100000000) :
  Calls Tryz.prog 175 #[.agg #[.bool n1,s1,.bool n2,s2]] w λe w'=>∃x,e = .returned x∧dP w.heap.size w' x (nrm n1 n2 (Zk l) (Zk m))∧Ext w w':=by
 obtain⟨a1,c1,rfl⟩:=h1.shape;obtain⟨a2,c2,rfl⟩:=h2.shape;have HB0:=azO ((aF w (.cells #[.bool n1,.slice a1 l.length c1,.bool n2,.slice a2 m.length c2] 26)).alloc Y (.cells #[.z,.sn,.z,.sn] 26));have g1:=h1.below HB0.out;have g2:=h2.below HB0.out;clear h1 h2;rcases aAC (Zk m)with hm | hm
 .have HC:=azO (UG n1 n2 _ _ _ _ _ g1 g2 hm hl2);have hN:nrm n1 n2 (Zk l) (Zk m)=(false,0,1):=by unfold nrm; rw[azQ hm]
  rw[hN];clear g1 g2 hm hN;go_enter Tryz.func175,Tryz.ntmps175
  go_wp2_with fail
  refine HC.out.mono ?_;rintro e w1 ⟨rfl,hb⟩;have hsz:=hb.size;simp only[aCo]at hsz;have hcells:(∀i,w1.cell? ⟨w.heap.size+1,i,none⟩ = #[Value.z,.sn,.z,.sn][i]?)∧(∀i,w1.frozen? ⟨w.heap.size+1,i,none⟩=false):=by
   refine⟨λi=>?_,λi=>?_⟩
   .rw[hb.cell (p:=⟨w.heap.size+1,i,none⟩) Y]; simp[go_sem]
   rw[hb.frozen (p:=⟨w.heap.size+1,i,none⟩) Y]; simp[go_sem]
  obtain⟨r0,f0⟩:=hcells;have HX:=azO (K00 HB0.out hb);have HY:=azO (wO 0 (w1.alloc (.cells #[.z,.sn,.z,.sn] 26)) O O);clear hb HC;go_wp2_with fail
  refine HY.out.mono ?_;rintro e w2 ⟨x,rfl,hx,hb2⟩;have hb3:=K00 (aF _ _) hb2;obtain⟨b1,d1,b2,d2,rfl⟩:=hx.shape;have r1:∀i,w2.cell? ⟨w.heap.size+1,i,none⟩ = #[Value.z,.sn,.z,.sn][i]?:=λi=>by rw[hb3.cell (p:=⟨w.heap.size+1,i,none⟩) (by simp only; omega)]; exact r0 i
  have f1:∀i,w2.frozen? ⟨w.heap.size+1,i,none⟩=false:=λi=>by rw[hb3.frozen (p:=⟨w.heap.size+1,i,none⟩) (by simp only; omega)]; exact f0 i
  have hz:w.heap.size+1<w2.heap.size:=by have:=hb3.size; omega
  have hz0:w.heap.size+1<(w1.alloc (.cells #[.z,.sn,.z,.sn] 26)).heap.size:=by simp; omega
  have F:=azO hx;have HX2:=azO (K00 HX.out hb3);clear r0 f0 hx hb2 hb3 HY;go_wp2_with fail
  refine bodyPost_ret (v := .agg #[.bool ((0:Int)<0),.slice b1 (Ux (0:Int).natAbs).length d1,.z,.slice b2 (Ux 1).length d2]) (by simp[results,Tryz.results175,go_sem,r1]) I ⟨_,I,?_,qE HX2.out Z _ _ _ _⟩;exact(F.out.Ol hz0 _ _ _ _).mono Z
 have HC:=azO (XR n1 n2 _ _ _ _ _ g1 g2 hm hl1 hl2);have hN:nrm n1 n2 (Zk l) (Zk m)=(lJ n1 n2 (Zk l) (Zk m),Zk l/Nat.gcd (Zk l) (Zk m),Zk m/Nat.gcd (Zk l) (Zk m)):=by unfold nrm; rw[azP Z]
 rw[hN];clear g1 g2 hm hN;go_enter Tryz.func175,Tryz.ntmps175
 go_wp2_with fail
 refine HC.out.mono ?_;rintro e w1 ⟨x,rfl,hx,hb⟩;have hsz:=hb.size;simp only[aCo]at hsz;obtain⟨b1,d1,b2,d2,rfl⟩:=hx.shape;have r0:∀i,w1.cell? ⟨w.heap.size+1,i,none⟩ = #[Value.z,.sn,.z,.sn][i]?:=λi=>by rw[hb.cell (p:=⟨w.heap.size+1,i,none⟩) Y]; simp[go_sem]
 have f0:∀i,w1.frozen? ⟨w.heap.size+1,i,none⟩=false:=λi=>by rw[hb.frozen (p:=⟨w.heap.size+1,i,none⟩) Y]; simp[go_sem]
 have F:=azO hx;have HX:=azO (K00 HB0.out hb);have hz:w.heap.size+1<w1.heap.size:=Z
 clear hb HC hx;go_wp2_with fail
 refine bodyPost_ret (v := .agg #[.bool (lJ n1 n2 (Zk l) (Zk m)),.slice b1 (Ux (Zk l/Nat.gcd (Zk l) (Zk m))).length d1,.z,.slice b2 (Ux (Zk m/Nat.gcd (Zk l) (Zk m))).length d2]) (by simp[results,Tryz.results175,go_sem,r0,hz]) I ⟨_,I,?_,?_⟩
 .exact((F.out.Ol Y _ _ _ _).ext (aF _ _)).mono (by simp; omega)
 exact K00 (qE HX.out Z _ _ _ _) (aF _ _)
def zv(n:Bool)(a:Nat):Int:=if n then -(a:Int)else (a:Int)
theorem acT(n:Bool)(a:Nat):decide (zv n a<0)=(n&&decide (0<a)):=by
 unfold zv;cases n
 .simp
 rw[aA1,decide_eq_decide]; simp
theorem rY(n:Bool)(a:Nat):(zv n a).natAbs=a:=by unfold zv; cases n<;>simp
theorem ajG(n:Bool)(a:Nat):zv (!n) a = -zv n a:=by unfold zv; cases n<;>simp
theorem Yk(z:Int):zv (decide (z<0)) z.natAbs=z:=by
 unfold zv;by_cases h:z<0
 .rw[aA6 h,azQ I]; omega
 rw[aBp h,azP Y]; omega
theorem ajH(n m:Bool)(a b:Nat):zv n a*zv m b=zv (n != m) (a*b):=by unfold zv; cases n<;>cases m<;>simp[Int.mul_neg,Int.neg_mul,Int.neg_neg]
theorem QV(n:Bool)(a b:Nat):zv n a+zv n b=zv n (a+b):=by
 unfold zv;cases n
 .simp
 simp only[if_true]; omega
theorem Ee{n m:Bool}{a b:Nat}(h:n≠m)(hle:b<=a):zv n a+zv m b=zv n (a-b):=by
 unfold zv;cases n<;>cases m<;>simp only[ne_eq,not_true_eq_false,reduceCtorEq,if_true,if_false,aCd]at * <;> omega
theorem NV{n m:Bool}{a b:Nat}(h:n≠m)(hle:a<=b):zv n a+zv m b=zv m (b-a):=by
 rw[Int.add_comm]; exact Ee (λe=>h e.symm) hle
theorem ajF(n:Bool)(a:Nat):pR n a=(zv n a).sign:=by
 unfold pR zv;rcases aAC a with h | h
 .subst h; cases n<;>rfl
 rw[azP Z];cases n
 .rw[azP Y,azP Y,Int.sign_eq_one_of_pos Z]
 rw[azQ I,azQ I,Int.sign_eq_neg_one_of_neg Z]
abbrev Ba (base:Nat)(w:World)(v:Value)(z:Int):Prop:=aO base w v (decide (z<0)) z.natAbs
theorem G9{base:Nat}{w:World}{v:Value}{n:Bool}{a:Nat}(h:aO base w v (n&&decide (0<a)) a):Ba base w v (zv n a):=by
 unfold Ba; rw[acT,rY]; exact h
def nz(x:Int)(d:Nat):Bool×Nat×Nat:=nrm (decide (x<0)) false x.natAbs d
def qz(r:Bool×Nat×Nat):Int:=zv r.1 r.2.1
def zY(r s:Bool×Nat×Nat):Bool×Nat×Nat:=nz (qz r*qz s) (r.2.2*s.2.2)
def JW(r s:Bool×Nat×Nat):Bool×Nat×Nat:=nz (qz r*s.2.2-qz s*r.2.2) (r.2.2*s.2.2)
def mD(r s:Bool×Nat×Nat):Int:=(qz r*s.2.2-qz s*r.2.2).sign
theorem Ym(n1 n2:Bool)(l m:List UInt32):(Ux (nrm n1 n2 (Zk l) (Zk m)).2.1).length<=l.length∧(Ux (nrm n1 n2 (Zk l) (Zk m)).2.2).length<=max 1 m.length:=by
 unfold nrm;split
 .have h1:(Ux 1).length<=1:=Na.bI O;exact⟨by rw[jD]; simp,by simp only; omega⟩
 have h1:=fK (aBX (Zk l) (Nat.gcd (Zk l) (Zk m)));have h2:=fK (aBX (Zk m) (Nat.gcd (Zk l) (Zk m)));have:=bY l;have:=bY m;simp only; omega
def aJ(k:Nat)(f:α->List Value)(w:World)(v:Value)(l:List α):Prop:=
 ∃a cap,v = .slice a l.length cap∧cap<=maxLen ∧
  ((l=[]∧(a=none->cap=0)) ∨
   ∃b o,a=some ⟨b,o,none⟩∧b<w.heap.size∧l.length<=cap∧∀i (h:i<l.length) (j:Nat),j<k->w.cell? ⟨b,o+i*k+j,none⟩=(f l[i])[j]?)
theorem aJ.below{k:Nat}{f:α->List Value}{w w':World}{v:Value}{l:List α}(h:aJ k f w v l)(hb:Below w.heap.size w w'):aJ k f w' v l:=by
 obtain⟨a,cap,hv,hm,h⟩:=h;refine⟨a,cap,hv,hm,?_⟩;rcases h with h | ⟨b,o,ha,hlt,hl,hc⟩
 .exact .inl h
 exact .inr ⟨b,o,ha,by have:=hb.size; omega,hl,λi hi j hj=>by rw[hb.cell (p:=⟨b,o+i*k+j,none⟩) hlt]; exact hc i hi j hj⟩
theorem aJ.shape{k:Nat}{f:α->List Value}{w:World}{v:Value}{l:List α}(h:aJ k f w v l):∃a cap,v = .slice a l.length cap:=by
 obtain⟨a,cap,h,_⟩:=h; exact⟨a,cap,h⟩
theorem aJ.len{k:Nat}{f:α->List Value}{w:World}{v:Value}{l:List α}(h:aJ k f w v l):l.length<=maxLen:=by
 obtain⟨a,cap,rfl,hm,h⟩:=h;rcases h with ⟨rfl,_⟩ | ⟨b,o,rfl,hb,hl,hc⟩
 .simp
 omega
theorem dI(k:Nat)(f:α->List Value)(w:World):aJ k f w (.sn) []:=⟨none,0,I,azZ _,.inl ⟨I,λ_=>rfl⟩⟩
theorem abQ{k:Nat}{f:α->List Value}{w:World}{v:Value}{l:List α}(h:aJ k f w v l)(hp:0<l.length) :
  ∃b o cap,v = .slice (some ⟨b,o,none⟩) l.length cap∧b<w.heap.size∧l.length<=cap∧cap<=maxLen∧∀i (h:i<l.length) (j:Nat),j<k->w.cell? ⟨b,o+i*k+j,none⟩=(f l[i])[j]?:=by
 obtain⟨a,cap,rfl,hm,h⟩:=h;rcases h with ⟨rfl,_⟩ | ⟨b,o,rfl,hb,hl,hc⟩
 .simp at hp
 exact⟨b,o,cap,I,hb,hl,hm,hc⟩
theorem fH{f:α->Value}{w:World}{v:Value}{l:List α}(h:dG f w v l):aJ 1 (λx=>[f x]) w v l:=by
 obtain⟨a,cap,hv,hm,h⟩:=h;refine⟨a,cap,hv,hm,?_⟩;rcases h with h | ⟨b,o,ha,hlt,hl,hc⟩
 .exact .inl h
 refine .inr ⟨b,o,ha,hlt,hl,λi hi j hj=>?_⟩;obtain rfl:j=0:=by omega
 simpa using hc i hi
abbrev I64 (x:Int):Prop := -9223372036854775808<=x∧x<=9223372036854775807
structure bJ where
 n1:Bool
 a1:Option Addr
 c1:Nat
 l1:List UInt32
 n2:Bool
 a2:Option Addr
 c2:Nat
 l2:List UInt32
def bJ.s1(r:bJ):Value := .slice r.a1 r.l1.length r.c1
def bJ.s2(r:bJ):Value := .slice r.a2 r.l2.length r.c2
def bJ.cells(r:bJ):List Value:=[.bool r.n1,r.s1,.bool r.n2,r.s2]
def bJ.v(r:bJ):Value := .agg #[.bool r.n1,r.s1,.bool r.n2,r.s2]
def bJ.ok(w:World)(r:bJ):Prop:=aC w r.s1 r.l1∧aC w r.s2 r.l2
def bJ.fit(k:Nat)(r:bJ):Prop:=r.l1.length<=k∧r.l2.length<=k
def bJ.q(r:bJ):Bool×Nat×Nat:=nrm r.n1 r.n2 (Zk r.l1) (Zk r.l2)
theorem bJ.ok.below{w w':World}{r:bJ}(h:r.ok w)(hb:Ext w w'):r.ok w':=⟨h.1.below hb,h.2.below hb⟩
theorem bJ.fit.mono{k k':Nat}{r:bJ}(h:r.fit k)(hk:k<=k'):r.fit k':=⟨aAa h.1 hk,aAa h.2 hk⟩
structure bH where
 a:bJ
 b:bJ
 c:bJ
 d:bJ
 e:bJ
 f:bJ
def bH.cells(t:bH):List Value:=t.a.cells++t.b.cells++t.c.cells++t.d.cells++t.e.cells++t.f.cells
def bH.v(t:bH):Value := .agg t.cells.toArray
def bH.ok(w:World)(t:bH):Prop:=t.a.ok w∧t.b.ok w∧t.c.ok w∧t.d.ok w∧t.e.ok w∧t.f.ok w
def bH.fit(k:Nat)(t:bH):Prop:=t.a.fit k∧t.b.fit k∧t.c.fit k∧t.d.fit k∧t.e.fit k∧t.f.fit k
theorem bH.ok.below{w w':World}{t:bH}(h:t.ok w)(hb:Ext w w'):t.ok w':=
 ⟨h.1.below hb,h.2.1.below hb,h.2.2.1.below hb,h.2.2.2.1.below hb,h.2.2.2.2.1.below hb,h.2.2.2.2.2.below hb⟩
def eF(q:Bool×Nat×Nat):Nat:=max (bl q.2.1) (bl q.2.2)
def q0:Bool×Nat×Nat:=(false,0,1)
def pI(p q:Bool×Nat×Nat):Bool:=mD p q==0
structure jW where
 x:Int
 y:Int
deriving DecidableEq
def jW.ok(p:jW):Prop:=I64 p.x∧I64 p.y
def cok(x:Int):Bool:=decide (-1048576<=x)&&decide (x<=1048576)
def jW.valid(p:jW):Bool:=cok p.x&&cok p.y
def jW.zero(p:jW):Bool:=(p.x==0)&&(p.y==0)
structure dN where
 verb:Int
 a:jW
 b:jW
 c:jW
deriving DecidableEq
def dN.cells(s:dN):List Value:=[.i s.verb,.i s.a.x,.i s.a.y,.i s.b.x,.i s.b.y,.i s.c.x,.i s.c.y]
def dN.ok(s:dN):Prop:=I64 s.verb∧s.a.ok∧s.b.ok∧s.c.ok
def named(v:Int):Int:=if v=4 then 3 else if v=3 then 2 else if v=1∨v=2 then 1 else if v=5 then 0 else -1
def vH(v:Int)(i:Int)(p:jW):Bool:=p.valid && !(decide (named v<=i) && !p.zero)
def dN.fits(s:dN):Bool:=vH s.verb 0 s.a&&(vH s.verb 1 s.b&&vH s.verb 2 s.c)
def dN.stands(last:Int)(s:dN):Bool:=(s.verb==1)||((last != 5)&&((s.verb != 5)||(last != 1)))
def dN.err(last:Int)(s:dN):Int:=if named s.verb<0 then 2 else if s.stands last=false then 10 else if s.fits=false then 6 else 0
def rE:Int->Int->List dN->Int×Int
 | _,_,[]=>(0,0)
 | last,i,s::l=>if s.err last=0 then rE s.verb (i+1) l else (s.err last,i)
def ig(l:List dN):Int×Int:=if 256<(l.length:Int)then (5,256)else rE 5 0 l
def jS(l:List dN):Bool:=(ig l).1==0
structure bD where
 r:UInt8
 g:UInt8
 b:UInt8
 a:UInt8
deriving DecidableEq
def bD.cells(p:bD):List Value:=[fZ p.r,fZ p.g,fZ p.b,fZ p.a]
def bD.valid(p:bD):Bool:=decide (p.r<=p.a)&&(decide (p.g<=p.a)&&decide (p.b<=p.a))
structure dF where
 w:Int
 h:Int
 sa:Option Addr
 sc:Nat
 l:List bD
def dF.s(m:dF):Value := .slice m.sa m.l.length m.sc
def dF.cells(m:dF):List Value:=[.i m.w,.i m.h,m.s]
def dF.v(m:dF):Value := .agg #[.i m.w,.i m.h,m.s]
def dF.ok(W:World)(m:dF):Prop:=I64 m.w∧I64 m.h∧aJ 4 bD.cells W m.s m.l
theorem dF.ok.below{w w':World}{t:dF}(h:t.ok w)(hb:Ext w w'):t.ok w':=⟨h.1,h.2.1,h.2.2.below hb⟩
def side(n:Int):Bool:=decide (1<=n)&&decide (n<=4096)
def dF.size(m:dF):Bool:=side m.w&&(side m.h&&decide (m.w*m.h<=65536))
def dF.valid(m:dF):Bool:=m.size&&(((m.l.length:Int)==m.w*m.h)&&m.l.all bD.valid)
def dF.eq(m n:dF):Bool:=(m.w==n.w)&&((m.h==n.h)&&(m.l==n.l))
structure dK where
 o:Int
 c:bD
deriving DecidableEq
def dK.cells(s:dK):List Value:=[.i s.o,fZ s.c.r,fZ s.c.g,fZ s.c.b,fZ s.c.a]
def dK.ok(s:dK):Prop:=I64 s.o
def gY:Int->List dK->Bool
 | _,[]=>true
 | at',s::l=>decide (at'<=s.o)&&(decide (s.o<=65536)&&gY s.o l)
def iC(l:List dK):Bool:=decide (1<=l.length)&&(decide (l.length<=16)&&gY 0 l)
structure ak where
 kind:Int
 color:bD
 p0:jW
 p1:jW
 bT:Int
 sva:Option Addr
 svc:Nat
 stops:List dK
 spread:Int
 img:dF
 cO:Int
 t:bH
def ak.sv(p:ak):Value := .slice p.sva p.stops.length p.svc
def ak.cells(p:ak):List Value:=
 [.i p.kind,fZ p.color.r,fZ p.color.g,fZ p.color.b,fZ p.color.a,.i p.p0.x,.i p.p0.y,.i p.p1.x,.i p.p1.y,.i p.bT,p.sv,.i p.spread,
  .i p.img.w,.i p.img.h,p.img.s,.i p.cO]++p.t.cells
def ak.v(p:ak):Value := .agg p.cells.toArray
def ak.ok(w:World)(p:ak):Prop:=
 I64 p.kind∧p.p0.ok∧p.p1.ok∧I64 p.bT∧aJ 5 dK.cells w p.sv p.stops∧(∀s∈p.stops,s.ok)∧I64 p.spread∧p.img.ok w∧I64 p.cO∧p.t.ok w
theorem ak.ok.below{w w':World}{p:ak}(h:p.ok w)(hb:Ext w w'):p.ok w':=by
 obtain⟨h1,h2,h3,h4,h5,h6,h7,h8,h9,h10⟩:=h;exact⟨h1,h2,h3,h4,h5.below hb,h6,h7,h8.below hb,h9,h10.below hb⟩
def iE(n:Int):Bool:=decide (1<=n)&&decide (n<=3)
structure aV where
 width:Int
 join:Int
 cap:Int
 fB:Int
 sa:Option Addr
 sc:Nat
 dash:List Int
 phase:Int
def aV.s(p:aV):Value := .slice p.sa p.dash.length p.sc
def Bh(x:Int):Value := .i x
def aV.cells(p:aV):List Value:=[.i p.width,.i p.join,.i p.cap,.i p.fB,p.s,.i p.phase]
def aV.v(p:aV):Value := .agg #[.i p.width,.i p.join,.i p.cap,.i p.fB,p.s,.i p.phase]
def aV.ok(w:World)(p:aV):Prop:=I64 p.width∧I64 p.join∧I64 p.cap∧I64 p.fB∧dG Bh w p.s p.dash∧(∀x∈p.dash,I64 x)∧I64 p.phase
theorem aV.ok.below{w w':World}{p:aV}(h:p.ok w)(hb:Ext w w'):p.ok w':=⟨h.1,h.2.1,h.2.2.1,h.2.2.2.1,h.2.2.2.2.1.below hb,h.2.2.2.2.2⟩
structure aj where
 id:Int
 kind:Int
 depth:Int
 t:bH
 csa:Option Addr
 csc:Nat
 clip:List dN
 aS:Int
 dR:UInt8
 blend:Int
 isolated:Bool
 dH:Bool
 psa:Option Addr
 psc:Nat
 path:List dN
 aW:Int
 fsa:Option Addr
 fsc:Nat
 fill:List ak
 style:aV
 ssa:Option Addr
 ssc:Nat
 stroke:List ak
 img:dF
 cO:Int
def aj.cs(n:aj):Value := .slice n.csa n.clip.length n.csc
def aj.ps(n:aj):Value := .slice n.psa n.path.length n.psc
def aj.fs(n:aj):Value := .slice n.fsa n.fill.length n.fsc
def aj.ss(n:aj):Value := .slice n.ssa n.stroke.length n.ssc
def aj.cells(n:aj):List Value:=
 [.i n.id,.i n.kind,.i n.depth]++n.t.cells++[n.cs,.i n.aS,fZ n.dR,.i n.blend,.bool n.isolated,.bool n.dH,n.ps,.i n.aW,n.fs]++n.style.cells ++
  [n.ss]++n.img.cells++[.i n.cO]
def aj.v(n:aj):Value := .agg n.cells.toArray
abbrev wK (w:World)(v:Value)(l:List dN):Prop:=aJ 7 dN.cells w v l∧∀s∈l,s.ok
abbrev iV (w:World)(v:Value)(l:List ak):Prop:=aJ 40 ak.cells w v l∧∀p∈l,p.ok w
def aj.ok(w:World)(n:aj):Prop:=
 I64 n.id∧I64 n.kind∧I64 n.depth∧n.t.ok w∧wK w n.cs n.clip∧I64 n.aS∧I64 n.blend∧wK w n.ps n.path∧I64 n.aW∧iV w n.fs n.fill∧n.style.ok w∧iV w n.ss n.stroke ∧
  n.img.ok w∧I64 n.cO
theorem wK.below{w w':World}{v:Value}{l:List dN}(h:wK w v l)(hb:Ext w w'):wK w' v l:=⟨h.1.below hb,h.2⟩
theorem iV.below{w w':World}{v:Value}{l:List ak}(h:iV w v l)(hb:Ext w w'):iV w' v l:=⟨h.1.below hb,λp hp=>(h.2 p hp).below hb⟩
theorem aj.ok.below{w w':World}{n:aj}(h:n.ok w)(hb:Ext w w'):n.ok w':=by
 obtain⟨h1,h2,h3,h4,h5,h6,h7,h8,h9,h10,h11,h12,h13,Ky⟩:=h;exact⟨h1,h2,h3,h4.below hb,h5.below hb,h6,h7,h8.below hb,h9,h10.below hb,h11.below hb,h12.below hb,h13.below hb,Ky⟩
end Go.Proofs.YtodpgjjgaddkeaaGreatDoor
namespace Go.Vp
open Go.Proofs.YtodpgjjgaddkeaaGreatDoor Go.RowKit Go.Rel Na Go.Rel
section
variable{P:Program}{ops:Array Oper}{Q:Exit->Act->World->Prop}{a:Act}{w:World}{rest:List Oper}{o:Oper}{n:Nat}{l:List (Nat×Value)}
variable{k b off c:Nat}
theorem abR{ρ:Operand->Value}{t e:TypeId}{x ix:Operand}{len cap:Nat}{kd:IntKind}(i:Nat)(hop:o.op = .indexAddr t x ix)(hx:ρ x = .slice (some ⟨b,off,none⟩) len cap)(hi:ρ ix = .int kd (i:Int))(hlt:i<len)
  (hu:P.underlying t=some (.slice e)) (hsz:(P.info? e).map (·.size)=some k):(execOp ρ o).run P w = .ok (.value (.pointer (some ⟨b,off+i*k,none⟩))) w:=by
 have he:P.elem t=e:=by unfold Program.elem; rw[hu]
 have h1:=run_indexAt_slice (P:=P) w t ⟨b,off,none⟩ len cap kd (i:Int) (by rw[he]; exact hu);rw[azQ ⟨Z,Z⟩,he]at h1;have h2:(sizeOf e).run P w = .ok k w:=by
  cases hq:P.info? e with
  | none=>simp[hq]at hsz
  | some j =>
   have:j.size=k:=by simpa[hq]using hsz
   simp[sizeOf,typeInfo,hq,this]
 rw[h2]at h1;simp only[Result.andThen,aBs]at h1;have e2:(⟨b,off,none⟩:Addr).add (i*k)=⟨b,off+i*k,none⟩:=Addr.add_mid _ _ _;rw[e2]at h1;unfold execOp;simp only[hop,hx,hi,aAS,h1];rfl
theorem rG{α:Type}{f:α->List Value}{v:Value}{L:List α}(h:aJ k f w v L)(hf:∀x,(f x).length=k)(i:Nat)(hi:i<L.length) :
  ∃b off cap,v = .slice (some ⟨b,off,none⟩) L.length cap∧b<w.heap.size∧w.rangeAt b (off+i*k) (f L[i]):=by
 obtain⟨b,off,cap,hv,hb,hl,hm,hc⟩:=abQ h Z;refine⟨b,off,cap,hv,hb,λj u hj=>?_⟩;have hjl:j<k:=by have:=(List.getElem?_eq_some_iff.1 hj).1; rw[hf]at this; exact this
 rw[hc i hi j hjl]; exact hj
theorem iZ{α:Type}{f:α->List Value}{a:Option Addr}{n:Nat}{L:List α}(h:aJ k f w (.slice a n c) L)(hf:∀x,(f x).length=k)(i:Nat)(hi:i<L.length) :
  ∃b o,a=some ⟨b,o,none⟩∧∃x,L[i]=x∧b<w.heap.size∧w.rangeAt b (o+i*k) (f x):=by
 obtain⟨b,o,cap,hv,hb,hr⟩:=rG h hf i hi;simp only[aAq]at hv;exact⟨b,o,hv.1,_,I,hb,hr⟩
theorem ant{α:Type}{f:α->List Value}{o n:Nat}{L:List α}(h:aJ k f w (.slice (some ⟨b,o,none⟩) n c) L)(hf:∀x,(f x).length=k)(i:Nat)(hi:i<L.length) :
  ∃x,L[i]=x∧b<w.heap.size∧w.rangeAt b (o+i*k) (f x):=by
 obtain⟨b1,o1,h1,x,hx,hb,hr⟩:=iZ h hf i hi;simp only[azT,aBV,and_true]at h1;obtain⟨rfl,rfl⟩:=h1;exact⟨x,hx,hb,hr⟩
theorem pY{w w':World}{cs:List Value}(h:w.rangeAt b off cs)(hb:b<w.heap.size)(he:Ext w w'):w'.rangeAt b off cs:=λj v hv=>by
 rw[he.cell (p:=⟨b,off+j,none⟩) hb]; exact h j v hv
theorem ado{α:Type}{f:α->List Value}{v:Value}{L:List α}(h:aJ k f w v L):v.oneCell'=true:=by obtain⟨a,cap,rfl⟩:=h.shape; rfl
theorem lX{v:Value}{L:List UInt32}(h:aC w v L):v.oneCell'=true:=by obtain⟨a,cap,rfl,_⟩:=h; rfl
end
end Go.Vp
end
theorem aAo:type_of% @Go.Vp.iZ:=@Go.Vp.iZ
