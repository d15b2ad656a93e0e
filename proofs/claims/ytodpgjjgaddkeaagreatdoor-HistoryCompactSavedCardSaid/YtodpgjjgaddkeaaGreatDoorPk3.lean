/- Walks of packages integer and -/
import Derived.Test.YtodpgjjgaddkeaaGreatDoorNatW2
import Derived.Outline
set_option maxHeartbeats 9999999
open Go renaming World->VO,Value->aaT,Calls->abB,Addr->aGk
open Go.Proofs.Tryz
set_option maxRecDepth 100000
set_option linter.unusedVariables false
set_option linter.unusedSimpArgs false
section
namespace Go.Proofs.Vy
open Go.RowKit Na Go.Rel
variable{α:Type}
def aQ(base:Nat)(w:VO)(v:aaT)(neg:Bool)(n:Nat):Prop:=∃s,v = .agg #[.b neg,s]∧aG w s (Ro n)∧From base s
abbrev aQ.ext{base:Nat}{w w':VO}{v:aaT}{neg:Bool}{n:Nat}(h:aQ base w v neg n)(hb:Ext w w'):aQ base w' v neg n:=by
 obtain⟨s,D,J,S⟩:=h; exact⟨s,D,J.below hb,S⟩
abbrev aQ.mono{base D:Nat}{w:VO}{v:aaT}{neg:Bool}{n:Nat}(h:aQ base w v neg n)(hb:D<=base):aQ D w v neg n:=by
 obtain⟨s,D,J,S⟩:=h; exact⟨s,D,J,S.mono hb⟩
abbrev nH(neg:Bool)(v:aaT)(l:List UInt32)(w:VO)(J:aG w v l)(D:l.length<=1000000000) :
  abB prog 284 #[.b neg,v] w λe w'=>∃x,e = .R x∧aQ w.heap.size w' x (neg&&decide (0<TP l)) (TP l)∧Ext w w':=by
 have S:=aH w (.cells #[.z,.sn] 24);have HC:=aC8 (pK v l _ (J.below S) D);have ab:Hid (decide ((0:Int)<((Ro (TP l)).length:Int))=decide (0<TP l)):=by
  show _=_;rw[aF1];constructor
  .intro h;rcases aD0 (TP l)with D | D
   .rw[D,jU]at h; simp at h
   exact D
  intro h;have:(Ro (TP l)).length≠0:=λh'=>by
   have:=lG.1 (aEA h'); omega
  omega
 rcases aF6 neg with rfl | rfl;all_goals
  go_enter func284,ntmps284
  go_wp2_with fail
  refine HC.out.mono ?_
  rintro e w1 ⟨D,rfl,ho,aa⟩
  have D:=bD ho
  have J:=SG ho
  obtain⟨hc,hf,hz⟩:=ji aa
  have ac:=K00 S aa
  have HB:=aC8 ac
  have HR:=aC8 D
  have HO:=aC8 J
  obtain⟨a,cap,rfl⟩:=HR.out.shape
  clear HC ho D aa S ac J
  go_wp2_with fail
 .refine bodyPost_ret (v := .agg #[.b ((0:Int)<((Ro (TP l)).length:Int)),.s a (Ro (TP l)).length cap]) (by simp[results,results284,go_sem,hc]) I ⟨_,I,⟨_,by rw[aEv,ab.out],?_⟩,?_⟩
  .exact⟨HR.out.ch (((Ch.refl _ _).setCell _ _).setCell _ _) (λ_=>HO.out.off Y),HO.out.mono Y⟩
  exact(HB.out.setCell (p:=⟨w.heap.size,0,none⟩) (aDd _) _).setCell (p:=⟨w.heap.size,1,none⟩) (aDd _) _
 refine bodyPost_ret (v := .agg #[.z,.s a (Ro (TP l)).length cap]) (by simp[results,results284,go_sem,hc]) I ⟨_,I,⟨_,by rw[aEK],?_⟩,?_⟩
 .exact⟨HR.out.ch (((Ch.refl _ _).setCell _ _).setCell _ _) (λ_=>HO.out.off Y),HO.out.mono Y⟩
 exact(HB.out.setCell (p:=⟨w.heap.size,0,none⟩) (aDd _) _).setCell (p:=⟨w.heap.size,1,none⟩) (aDd _) _
def qE(neg:Bool)(n:Nat):Int:=if n=0 then 0 else if neg then -1 else 1
abbrev nX(neg:Bool)(s:aaT)(l:List UInt32)(w:VO)(J:aG w s l)(D:l.length<=100000000) :
  abB prog 257 #[.agg #[.b neg,s]] w (VH w (.i (qE neg (TP l)))):=by
 have D:=aH w (.cells #[.b neg,s] 24);have S:=aC8 (IB s l _ (J.below D) Z);have HB:=aC8 D;obtain⟨a,cap,rfl⟩:=J.shape;clear J D;by_cases h0:TP l=0
 .have D:((bl (TP l):Int)==0)=true:=by rw[h0]; rfl
  have J:Hid (qE neg (TP l)=0):=by show _=_; unfold qE; rw[aDb h0]
  clear h0;go_enter func257,ntmps257
  go_wp2_with fail
  refine S.out.mono ?_;rintro e w' ⟨rfl,rfl⟩;go_wp2_with fail
  go_ret
  exact⟨by rw[J.out]; rfl,HB.out⟩
 have D:((bl (TP l):Int)==0)=false:=by
  rw[aDH];intro h;have D:bl (TP l)=0:=Z
  unfold bl at D; rw[aC9 h0]at D; omega
 have D:Hid (∀neg,qE neg (TP l)=if neg then -1 else 1):=λneg=>aC9 h0;clear h0;rcases aF6 neg with rfl | rfl;all_goals
  go_enter func257,ntmps257
  go_wp2_with fail
  refine S.out.mono ?_
  rintro e w' ⟨rfl,rfl⟩
  go_wp2_with fail
  go_ret
  exact⟨by rw[D.out]; rfl,HB.out⟩
abbrev Gg(neg:Bool)(s gv:aaT)(l m:List UInt32)(D:Nat)(w:VO)(hv:aG w s l)(aa:l.length<=100000000)(hg:w.cell? ⟨D,0,none⟩=some gv)(J:aG w gv m)(hm:0<TP m)(S:m.length<=100000000) :
  abB prog 292 #[.agg #[.b neg,s],.q D 0] w λe w'=>∃q,e = .R q∧aG w' q (Ro (TP l/TP m))∧Ext w w':=by
 have D:=aH w (.cells #[.b neg,s] 24);have HC:=aC8 (Io s gv l m _ (hv.below D) (J.below D) hm aa S);have S:=World.block_lt_of_cell? w _ hg;simp only at S;have HB:=aC8 D;obtain⟨a,cap,rfl⟩:=hv.shape;obtain⟨a2,S,rfl⟩:=J.shape;clear hv D J;go_enter func292,ntmps292
 go_wp2_with fail
 refine HC.out.mono ?_;rintro e w' ⟨q,r,rfl,D,S,hb⟩;have J:=aC8 D;clear D S;go_wp2_with fail
 go_ret
 exact⟨_,I,J.out,K00 HB.out hb⟩
attribute [local go_sem] Go.Rel.Does Go.Rel.Upon Go.Rel.kept Go.Rel.valOf
abbrev ahn(a b:Bool)(n m:Nat):IntKind.i64.wrap (qE a n*qE b m)=qE a n*qE b m:=by
 have h:∀a n,qE a n=0∨qE a n=1∨qE a n = -1:=by
  intro a n; unfold qE; split
  .simp
  cases a<;>simp
 rw[aE9];rcases h a n with D | D | D<;>rcases h b m with J | J | J<;>rw[D,J]<;>decide
def aC(base:Nat)(w:VO)(v:aaT)(neg:Bool)(a b:Nat):Prop:=∃s t,v = .agg #[.b neg,s,.z,t]∧aG w s (Ro a)∧aG w t (Ro b)∧From base s∧From base t
abbrev aC.ext{base:Nat}{w w':VO}{v:aaT}{neg:Bool}{a b:Nat}(h:aC base w v neg a b)(D:Ext w w'):aC base w' v neg a b:=by
 obtain⟨s,t,J,S,ht,hf⟩:=h; exact⟨s,t,J,S.below D,ht.below D,hf⟩
abbrev aC.mono{base D:Nat}{w:VO}{v:aaT}{neg:Bool}{a b:Nat}(h:aC base w v neg a b)(J:D<=base):aC D w v neg a b:=by
 obtain⟨s,t,D,S,ht,hf,hg⟩:=h; exact⟨s,t,D,S,ht,hf.mono J,hg.mono J⟩
abbrev aj9{base:Nat}{w:VO}{x y:aaT}{n1:Bool}{a b:Nat}(J:aQ base w x n1 a)(hy:aQ base w y false b) :
  ∃a1 c1 a2 c2,x = .agg #[.b n1,.s a1 (Ro a).length c1]∧y = .agg #[.z,.s a2 (Ro b).length c2] ∧
   aC base w (.agg #[.b n1,.s a1 (Ro a).length c1,.z,.s a2 (Ro b).length c2]) n1 a b:=by
 obtain⟨s,rfl,D,S⟩:=J;obtain⟨t,rfl,J,f2⟩:=hy;obtain⟨a1,c1,rfl⟩:=D.shape;obtain⟨a2,c2,rfl⟩:=J.shape;exact⟨a1,c1,a2,c2,I,I,_,_,I,D,J,S,f2⟩
def l9(n1 D:Bool)(a b:Nat):Bool:=decide (qE n1 a*qE D b<0)&&decide (0<a/Nat.gcd a b)
abbrev KJ(n1 n2:Bool)(s1 s2:aaT)(l m:List UInt32)(w:VO)(h1:aG w s1 l)(D:aG w s2 m)(hm:0<TP m)(al:l.length<=100000000)(am:m.length<=100000000) :
  abB prog 258 #[.agg #[.b n1,s1],.agg #[.b n2,s2]] w λe w'=>∃x,e = .R x ∧
   aC w.heap.size w' x (l9 n1 n2 (TP l) (TP m)) (TP l/Nat.gcd (TP l) (TP m)) (TP m/Nat.gcd (TP l) (TP m))∧Ext w w':=by
 obtain⟨ng,J⟩:∃x,l9 n1 n2 (TP l) (TP m)=x:=⟨_,I⟩;rw[J];unfold l9 at J;have ar:=aC8 J;clear J;obtain⟨a1,c1,rfl⟩:=h1.shape;obtain⟨a2,c2,rfl⟩:=D.shape;have H1:=aC8 h1;have H2:=aC8 D;clear h1 D;go_enter func258,ntmps258
 go_wp2_with fail
 have ae:=aC8 (((aH w (.cells #[.b n1,.s a1 l.length c1] 24)).alloc Y (.cells #[.b n2,.s a2 m.length c2] 24)).alloc (by simp; omega) (.cells #[.z,.sn,.z,.sn] 26));refine(aib _ _ _ _ _ (H1.out.below ae.out) (H2.out.below ae.out) al am).mono ?_;rintro e w1 ⟨g,rfl,S,J⟩;have HG:=aC8 S;obtain⟨ag,cg,aq⟩:=S.shape;rw[aq]at HG;clear S;have an:=aC8 (K00 ae.out J);go_wp2_with fail
 obtain⟨W,hW⟩:∃W,W=w1.alloc (.cells #[.s ag (Ro ((TP l).gcd (TP m))).length cg] 22):=⟨_,I⟩;rw[<-hW];have aa:Ext w1 W:=by rw[hW]; exact aH _ _
 have hk:∀w',Ext W w'->w'.cell? ⟨w.heap.size,0,none⟩=some (.b n1)∧w'.cell? ⟨w.heap.size,1,none⟩=some (.s a1 l.length c1)∧w'.cell? ⟨w.heap.size+1,0,none⟩=some (.b n2) ∧
   w'.cell? ⟨w.heap.size+1,1,none⟩=some (.s a2 m.length c2)∧w'.cell? ⟨w1.heap.size,0,none⟩=some (.s ag (Ro ((TP l).gcd (TP m))).length cg):=by
  intro w' ah
  have ai:=J.size
  simp only[aFR]at ai
  have S:=K00 aa ah
  refine⟨?_,?_,?_,?_,?_⟩
  .rw[S.cell (p:=⟨w.heap.size,0,none⟩) (by simp; omega),J.cell (p:=⟨w.heap.size,0,none⟩) (by simp; omega)]; simp[go_sem]
  .rw[S.cell (p:=⟨w.heap.size,1,none⟩) (by simp; omega),J.cell (p:=⟨w.heap.size,1,none⟩) (by simp; omega)]; simp[go_sem]
  .rw[S.cell (p:=⟨w.heap.size+1,0,none⟩) (by simp; omega),J.cell (p:=⟨w.heap.size+1,0,none⟩) Y]; simp[go_sem]
  .rw[S.cell (p:=⟨w.heap.size+1,1,none⟩) (by simp; omega),J.cell (p:=⟨w.heap.size+1,1,none⟩) Y]; simp[go_sem]
  .rw[ah.cell (p:=⟨w1.heap.size,0,none⟩) (by rw[hW]; simp),hW]; simp[go_sem]
 have HK:=aC8 hk;have HW:=aC8 (K00 an.out aa);have ao:=aC8 (HG.out.below aa);have hG:0<Nat.gcd (TP l) (TP m):=aF2 _ hm;have ap:(Ro ((TP l).gcd (TP m))).length<=100000000:=aDy (fP (Nat.gcd_le_right _ hm)) (by have:=dA m; omega);have af:=NP ((TP l).gcd (TP m));have aw:W.heap.size<=W.heap.size:=aDd _;have ab:Hid (∀w',Ext W w'->(∀i,i<4->∃u,w'.cell? ⟨w.heap.size+1+1,i,none⟩=some u∧w'.frozen? ⟨w.heap.size+1+1,i,none⟩=false)∧w.heap.size+1+1<w'.heap.size):=by
  intro w' ah;have ai:=J.size;simp only[aFR]at ai;have S:=K00 aa ah;have:=S.size;refine⟨λi hi=>?_,Z⟩;rw[S.cell (p:=⟨w.heap.size+1+1,i,none⟩) (by simp; omega),J.cell (p:=⟨w.heap.size+1+1,i,none⟩) Y,S.frozen (p:=⟨w.heap.size+1+1,i,none⟩) (by simp; omega),J.frozen (p:=⟨w.heap.size+1+1,i,none⟩) Y];rcases i with _ | _ | _ | _ | i
  .exact⟨.z,by simp[go_sem],by simp[go_sem]⟩
  .exact⟨.sn,by simp[go_sem],by simp[go_sem]⟩
  .exact⟨.z,by simp[go_sem],by simp[go_sem]⟩
  .exact⟨.sn,by simp[go_sem],by simp[go_sem]⟩
  omega
 clear hW ae J an hk aq aa;refine Go.Rel.wp_region 15 X X Ext (λw'=>Ext W w')
  [Rel.is (.agg #[.b n1,.s a1 l.length c1]),Rel.is (.i (qE n1 (TP l))),Rel.is (.agg #[.b n2,.s a2 m.length c2]),Rel.is (.i (qE n2 (TP m))),
   Rel.is (.i (qE n1 (TP l)*qE n2 (TP m))),Rel.is (.b (qE n1 (TP l)*qE n2 (TP m)<0)),Rel.is (.func (.func 292) #[] #[.q w1.heap.size 0]),
   Rel.is (.agg #[.b n1,.s a1 l.length c1]),λv w'=>aG w' v (Ro (TP l/Nat.gcd (TP l) (TP m))),
   λv w'=>aQ (w.heap.size+1+1+1) w' v ng (TP l/Nat.gcd (TP l) (TP m)),
   Rel.is (.func (.func 292) #[] #[.q w1.heap.size 0]),Rel.is (.agg #[.b n2,.s a2 m.length c2]),
   λv w'=>aG w' v (Ro (TP m/Nat.gcd (TP l) (TP m))),λv w'=>aQ (w.heap.size+1+1+1) w' v false (TP m/Nat.gcd (TP l) (TP m)),
   λv w'=>aC (w.heap.size+1+1+1) w' v ng (TP l/Nat.gcd (TP l) (TP m)) (TP m/Nat.gcd (TP l) (TP m))]
  ?_ ?_ ?_ ⟨?_,?_,?_,?_,?_,?_,?_,?_,?_,?_,?_,?_,?_,?_,?_,G⟩ ?_
 .exact below_drewN (aDC _ _) 1
 .exact λ_ _ h k=>K00 h k
 .exact Fj.mem ⟨aB _,aB _,aB _,aB _,aB _,aB _,aB _,aB _,λ_ _ _ h k=>k.below h,λ_ _ _ h k=>k.ext h,aB _,aB _,λ_ _ _ h k=>k.below h,λ_ _ _ h k=>k.ext h,
   λ_ _ _ h k=>k.ext h,G⟩
 .intro ρ w' hs ho J hd;have D:ρ (.tmp 2) = .q w.heap.size 0:=ho 2 I;obtain⟨k1,k2,-⟩:=HK.out w' J;simp[go_sem,D,k1,k2];exact⟨K01,I⟩
 .intro ρ w' hs ho J hd;obtain⟨hd,-⟩:=hd;have D:ρ (.tmp 13)=_:=hd I;simp[go_sem,D,hs.func];refine(nX _ _ _ _ (H1.out.below (K00 HW.out J)) al).mono ?_;rintro e ac ⟨rfl,hb⟩;exact⟨_,I,hb,I⟩
 .intro ρ w' hs ho J hd;have D:ρ (.tmp 3) = .pointer (some ⟨w.heap.size+1,0,none⟩):=ho 3 I;obtain⟨-,-,k1,k2,-⟩:=HK.out w' J;simp[go_sem,D,k1,k2];exact⟨K01,I⟩
 .intro ρ w' hs ho J hd;obtain⟨hd,-⟩:=hd;have D:ρ (.tmp 15)=_:=hd I;simp[go_sem,D,hs.func];refine(nX _ _ _ _ (H2.out.below (K00 HW.out J)) am).mono ?_;rintro e ac ⟨rfl,hb⟩;exact⟨_,I,hb,I⟩
 .intro ρ w' hs ho J hd;obtain⟨hd1,S,-⟩:=hd;have h1:ρ (.tmp 14)=_:=hd1 I;have D:ρ (.tmp 16)=_:=S I;simp[go_sem,h1,D];exact⟨K01,by rw[ahn]; rfl⟩
 .intro ρ w' hs ho J hd;obtain⟨hd,-⟩:=hd;have D:ρ (.tmp 17)=_:=hd I;simp[go_sem,D,hs.const];exact⟨K01,I⟩
 .intro ρ w' hs ho J hd;have D:ρ (.tmp 6) = .func (.func 292) #[] #[.q w1.heap.size 0]:=ho 6 I;simp[go_sem,D];exact⟨K01,I⟩
 .intro ρ w' hs ho J hd;have D:ρ (.tmp 2) = .q w.heap.size 0:=ho 2 I;obtain⟨k1,k2,-⟩:=HK.out w' J;simp[go_sem,D,k1,k2];exact⟨K01,I⟩
 .intro ρ w' hs ho J hd;obtain⟨hd1,S,-⟩:=hd;have h1:ρ (.tmp 19)=_:=hd1 I;have D:ρ (.tmp 20)=_:=S I;simp[go_sem,h1,D];obtain⟨-,-,-,-,k1⟩:=HK.out w' J;have hc:=Gg n1 (.s a1 l.length c1) _ l _ w1.heap.size w' (H1.out.below (K00 HW.out J)) al k1 (ao.out.below J) (by rw[af]; exact hG) ap;rw[af]at hc;refine hc.mono ?_;rintro e ac ⟨q,rfl,hq,hb⟩;exact⟨_,I,hb,hq⟩
 .intro ρ w' hs ho J hd;obtain⟨hd1,S,-⟩:=hd;have h1:ρ (.tmp 18)=_:=hd1 I;have D:aG w' (ρ (.tmp 21)) _:=S I;simp[go_sem,h1,hs.func];have hc:=nH (decide (qE n1 (TP l)*qE n2 (TP m)<0)) _ _ w' D (by have:=fP (aFr (TP l) (Nat.gcd (TP l) (TP m))); have:=dA l; omega);rw[NP,ar.out]at hc;refine hc.mono ?_;rintro e ac ⟨q,rfl,hq,hb⟩;exact⟨_,I,hb,hq.mono (ab.out w' J).2⟩
 .intro ρ w' hs ho J hd;have D:ρ (.tmp 6) = .func (.func 292) #[] #[.q w1.heap.size 0]:=ho 6 I;simp[go_sem,D];exact⟨K01,I⟩
 .intro ρ w' hs ho J hd;have D:ρ (.tmp 3) = .pointer (some ⟨w.heap.size+1,0,none⟩):=ho 3 I;obtain⟨-,-,k1,k2,-⟩:=HK.out w' J;simp[go_sem,D,k1,k2];exact⟨K01,I⟩
 .intro ρ w' hs ho J hd;obtain⟨hd1,S,-⟩:=hd;have h1:ρ (.tmp 23)=_:=hd1 I;have D:ρ (.tmp 24)=_:=S I;simp[go_sem,h1,D];obtain⟨-,-,-,-,k1⟩:=HK.out w' J;have hc:=Gg n2 (.s a2 m.length c2) _ m _ w1.heap.size w' (H2.out.below (K00 HW.out J)) am k1 (ao.out.below J) (by rw[af]; exact hG) ap;rw[af]at hc;refine hc.mono ?_;rintro e ac ⟨q,rfl,hq,hb⟩;exact⟨_,I,hb,hq⟩
 .intro ρ w' hs ho J hd;obtain⟨S,-⟩:=hd;have D:aG w' (ρ (.tmp 25)) _:=S I;simp[go_sem,hs.func,hs.const];have hc:=nH false _ _ w' D (by have:=fP (aFr (TP m) (Nat.gcd (TP l) (TP m))); have:=dA m; omega);rw[NP]at hc;refine hc.mono ?_;rintro e ac ⟨q,rfl,hq,hb⟩;exact⟨_,I,hb,hq.mono (ab.out w' J).2⟩
 .intro ρ w' hs ho J hd;obtain⟨hd1,S,-⟩:=hd;have h1:aQ (w.heap.size+1+1+1) w' (ρ (.tmp 22)) _ _:=hd1 I;have D:aQ (w.heap.size+1+1+1) w' (ρ (.tmp 26)) _ _:=S I;obtain⟨b1,d1,b2,d2,e1,e2,S⟩:=aj9 h1 D;simp[go_sem,e1,e2];exact⟨K01,S⟩
 intro w' J;rintro _ rfl _ rfl _ rfl _ rfl _ rfl _ rfl _ rfl _ rfl v8 h8 v9 h9 _ rfl _ rfl ay D az av a3 ⟨s,t,rfl,hx,hy,fx,fy⟩;change wpList _ _ _ (List.drop 15 _) _ _;simp only[List.drop_succ_cons,aEo];obtain⟨S,ax⟩:=ab.out w' J;obtain⟨u0,r0,f0⟩:=S 0 Z;obtain⟨u1,r1,f1⟩:=S 1 Z;obtain⟨u2,r2,f2⟩:=S 2 Z;obtain⟨u3,r3,f3⟩:=S 3 Z;obtain⟨b1,d1,rfl⟩:=hx.shape;obtain⟨b2,d2,rfl⟩:=hy.shape;have HX:=aC8 (K00 HW.out J);have F:=aC8 (And.intro hx (And.intro hy (And.intro fx fy)));clear S h8 h9 D av hx hy fx fy;go_wp2_with fail
 refine bodyPost_ret (v := .agg #[.b ng,.s b1 (Ro (TP l/(TP l).gcd (TP m))).length d1,.z,.s b2 (Ro (TP m/(TP l).gcd (TP m))).length d2]) (by simp[results,results258,go_sem,r0,r1,r2,r3]) I ⟨_,I,⟨_,_,I,?_,?_,?_,?_⟩,?_⟩
 .exact F.out.1.ch (((((Ch.refl _ _).setCell _ _).setCell _ _).setCell _ _).setCell _ _) (λ_=>F.out.2.2.1.off (Nat.lt_succ_self _))
 .exact F.out.2.1.ch (((((Ch.refl _ _).setCell _ _).setCell _ _).setCell _ _).setCell _ _) (λ_=>F.out.2.2.2.off (Nat.lt_succ_self _))
 .exact F.out.2.2.1.mono Z
 .exact F.out.2.2.2.mono Z
 exact(((HX.out.setCell (p:=⟨_,0,none⟩) (by simp only; omega) _).setCell (p:=⟨_,1,none⟩) (by simp only; omega) _).setCell (p:=⟨_,2,none⟩) (by simp only; omega) _).setCell (p:=⟨_,3,none⟩) (by simp only; omega) _
end Go.Proofs.Vy
namespace Go.Proofs.Vy
open Go.RowKit Na Go.Rel
variable{α:Type}
abbrev Zi{w w1:VO}{A B C:Array aaT}{J S tc:TypeId}(D:Ext (((w.alloc (.cells A J)).alloc (.cells B S)).alloc (.cells C tc)) w1) :
  (∀i,w1.cell? ⟨w.heap.size,i,none⟩=A[i]?)∧(∀i,w1.cell? ⟨w.heap.size+1,i,none⟩=B[i]?)∧(∀i,w1.cell? ⟨w.heap.size+1+1,i,none⟩=C[i]?)∧(∀i,w1.frozen? ⟨w.heap.size+1+1,i,none⟩=false)∧w.heap.size+1+1<w1.heap.size:=by
 refine⟨λi=>?_,λi=>?_,λi=>?_,λi=>?_,by have:=D.size; simp at this; omega⟩
 .rw[D.cell (p:=⟨w.heap.size,i,none⟩) (by simp; omega)]; simp[go_sem]
 .rw[D.cell (p:=⟨w.heap.size+1,i,none⟩) Y]; simp[go_sem]
 .rw[D.cell (p:=⟨w.heap.size+1+1,i,none⟩) Y]; simp[go_sem]
 rw[D.frozen (p:=⟨w.heap.size+1+1,i,none⟩) Y]; simp[go_sem]
abbrev oJ:aaT := .agg #[.z,.sn,.z,.sn]
abbrev VP(n1 J:Bool)(s1 s2:aaT)(l m:List UInt32)(w:VO)(h1:aG w s1 l)(h2:aG w s2 m)(hm:TP m=0)(aa:m.length<=100000000) :
  abB prog 223 #[.agg #[.b n1,s1],.agg #[.b J,s2]] w (VH w (.tuple #[oJ,.i 9])):=by
 obtain⟨a1,c1,rfl⟩:=h1.shape;obtain⟨a2,c2,rfl⟩:=h2.shape;have D:=aC8 (((aH w (.cells #[.b n1,.s a1 l.length c1] 24)).alloc Y (.cells #[.b J,.s a2 m.length c2] 24)).alloc (by simp; omega) (.cells #[.z,.sn,.z,.sn] 26));have S:=nX J _ _ _ (h2.below D.out) aa;rw[hm]at S;have HC:=aC8 S;clear S h1 h2 hm;go_enter func223,ntmps223
 go_wp2_with fail
 refine HC.out.mono ?_;rintro e w1 ⟨rfl,S⟩;obtain⟨-,-,r0,f0,hz⟩:=Zi S;have ab:((qE J 0)==0)=true:=by unfold qE; rfl
 have J:=aC8 (K00 D.out S);clear S HC D;go_wp2_with fail
 refine bodyPost_ret (v := .tuple #[oJ,.i 9]) (by simp[results,results223,go_sem,r0]) I ⟨I,?_⟩;exact(((J.out.setCell (p:=⟨_,0,none⟩) (by simp only; omega) _).setCell (p:=⟨_,1,none⟩) (by simp only; omega) _).setCell (p:=⟨_,2,none⟩) (by simp only; omega) _).setCell (p:=⟨_,3,none⟩) (by simp only; omega) _
abbrev Zj(n1 D:Bool)(s1 s2:aaT)(l m:List UInt32)(w:VO)(h1:aG w s1 l)(h2:aG w s2 m)(hm:0<TP m)(aa:l.length<=100000000)(S:m.length<=100000000) :
  abB prog 223 #[.agg #[.b n1,s1],.agg #[.b D,s2]] w λe w'=>∃x,e = .R (.tuple #[x,.i 0]) ∧
   aC w.heap.size w' x (l9 n1 D (TP l) (TP m)) (TP l/Nat.gcd (TP l) (TP m)) (TP m/Nat.gcd (TP l) (TP m))∧Ext w w':=by
 obtain⟨a1,c1,rfl⟩:=h1.shape;obtain⟨a2,c2,rfl⟩:=h2.shape;have J:=aC8 (((aH w (.cells #[.b n1,.s a1 l.length c1] 24)).alloc Y (.cells #[.b D,.s a2 m.length c2] 24)).alloc (by simp; omega) (.cells #[.z,.sn,.z,.sn] 26));have HC:=aC8 (nX D _ _ _ (h2.below J.out) S);have ab:((qE D (TP m))==0)=false:=by
  rw[aDH]; unfold qE; rw[aC9 Z]; cases D<;>simp
 have H:=aC8 (And.intro h1 h2);have HM:=aC8 hm;clear h1 h2 hm;go_enter func223,ntmps223
 go_wp2_with fail
 refine HC.out.mono ?_;rintro e w1 ⟨rfl,hb⟩;obtain⟨k1,k2,-,-,hz⟩:=Zi hb;have hX:=K00 J.out hb;have HX:=aC8 hX;have HY:=aC8 hb;have HL:=aC8 (KJ n1 D _ _ _ _ w1 (H.out.1.below hX) (H.out.2.below hX) HM.out aa S);clear hb HC hX J;go_wp2_with fail
 refine HL.out.mono ?_;rintro e S ⟨x,rfl,⟨s,t,rfl,hs,ht,fs,ft⟩,J⟩;obtain⟨b1,d1,rfl⟩:=hs.shape;obtain⟨b2,d2,rfl⟩:=ht.shape;obtain⟨-,-,r0,f0,S⟩:=Zi (K00 HY.out J);have S:=aC8 (K00 HX.out J);have F:=aC8 (And.intro hs (And.intro ht (And.intro fs ft)));clear hs ht fs ft J HL k1 k2;go_wp2_with fail
 refine bodyPost_ret (v := .tuple #[.agg #[.b (l9 n1 D (TP l) (TP m)),.s b1 (Ro (TP l/(TP l).gcd (TP m))).length d1,.z,.s b2 (Ro (TP m/(TP l).gcd (TP m))).length d2],.i 0]) (by simp[results,results223,go_sem,r0]) I ⟨_,I,⟨_,_,I,?_,?_,?_,?_⟩,?_⟩
 .exact F.out.1.ch (((((Ch.refl _ _).setCell _ _).setCell _ _).setCell _ _).setCell _ _) (λ_=>F.out.2.2.1.off hz)
 .exact F.out.2.1.ch (((((Ch.refl _ _).setCell _ _).setCell _ _).setCell _ _).setCell _ _) (λ_=>F.out.2.2.2.off hz)
 .exact F.out.2.2.1.mono Z
 .exact F.out.2.2.2.mono Z
 exact(((S.out.setCell (p:=⟨_,0,none⟩) (by simp only; omega) _).setCell (p:=⟨_,1,none⟩) (by simp only; omega) _).setCell (p:=⟨_,2,none⟩) (by simp only; omega) _).setCell (p:=⟨_,3,none⟩) (by simp only; omega) _
abbrev Rz(x:Int)(h : -9223372036854775808<=x)(D:x<0):IntKind.u64.wrap (-IntKind.u64.wrap x)=(x.natAbs:Int):=by
 rw[aEE,aEE]; omega
abbrev KL(x:Int)(w:VO)(h : -9223372036854775808<=x)(hx:x<0) :
  abB prog 259 #[.i x] w λe w'=>∃v,e = .R v∧aQ w.heap.size w' v (decide (x<0)) x.natAbs∧Ext w w':=by
 have D:=aH w (.cells #[.z,.sn] 24);have hN:x.natAbs<18446744073709551616:=Z
 have S:(UInt64.ofNat x.natAbs).toNat=x.natAbs:=by simp; omega
 have J:=qQ (UInt64.ofNat x.natAbs) (w.alloc (.cells #[.z,.sn] 24));rw[ah7,S]at J;have aa:(Ro x.natAbs).length<=2:=Na.bK (by show _<4294967296^2; omega);have HF:=aC8 J;have HB:=aC8 D;clear J D S;go_enter func259,ntmps259
 have hw:=Rz x h hx;go_wp2_with fail
 refine HF.out.mono ?_;rintro e w1 ⟨J,rfl,ho,S⟩;have D:=bD ho;have HI:=aC8 (nH true J _ w1 D Z);have J:=aC8 S;clear D ho hw HF S;go_wp2_with fail
 refine HI.out.mono ?_;rintro e S ⟨y,rfl,⟨s,rfl,hs,fs⟩,D⟩;obtain⟨b1,d1,rfl⟩:=hs.shape;obtain⟨r0,S,hz⟩:=ji (K00 J.out D);obtain⟨-,-,S⟩:=ji J.out;have HX:=aC8 (K00 HB.out (K00 J.out D));have F:=aC8 (And.intro hs fs);have J:Hid ((true&&decide (0<TP (Ro x.natAbs)))=decide (x<0)):=by
  show _=_;rw[NP,aEv,aF1]; omega
 clear hs fs D HI;go_wp2_with fail
 refine bodyPost_ret (v := .agg #[.b (true&&decide (0<TP (Ro x.natAbs))),.s b1 (Ro (TP (Ro x.natAbs))).length d1]) (by simp[results,results259,go_sem,r0]) I ⟨_,I,⟨_,by rw[J.out],?_,?_⟩,?_⟩
 .have:=F.out.1.ch (((Ch.refl w.heap.size _).setCell 0 (.b (true&&decide (0<TP (Ro x.natAbs))))).setCell 1 (.s b1 (Ro (TP (Ro x.natAbs))).length d1)) (λ_=>F.out.2.off S);rw[NP]at this |-;exact this
 .exact F.out.2.mono Z
 exact(HX.out.setCell (p:=⟨_,0,none⟩) (by simp only; omega) _).setCell (p:=⟨_,1,none⟩) (by simp only; omega) _
abbrev KN(x:Nat)(w:VO)(h:(x:Int)<=9223372036854775807) :
  abB prog 259 #[.i x] w λe w'=>∃v,e = .R v∧aQ w.heap.size w' v false x∧Ext w w':=by
 have D:=aH w (.cells #[.z,.sn] 24);have hN:x<18446744073709551616:=Z
 have S:(UInt64.ofNat x).toNat=x:=by simp; omega
 have J:=qQ (UInt64.ofNat x) (w.alloc (.cells #[.z,.sn] 24));rw[ah7,S]at J;have aa:(Ro x).length<=2:=Na.bK (by show _<4294967296^2; omega);have HF:=aC8 J;have HB:=aC8 D;clear J D S;go_enter func259,ntmps259
 go_wp2_with fail
 refine HF.out.mono ?_;rintro e w1 ⟨J,rfl,ho,S⟩;have D:=bD ho;have HI:=aC8 (nH false J _ w1 D Z);have J:=aC8 S;clear D ho HF S;go_wp2_with fail
 refine HI.out.mono ?_;rintro e S ⟨y,rfl,⟨s,rfl,hs,fs⟩,D⟩;obtain⟨b1,d1,rfl⟩:=hs.shape;obtain⟨r0,S,hz⟩:=ji (K00 J.out D);obtain⟨-,-,S⟩:=ji J.out;have HX:=aC8 (K00 HB.out (K00 J.out D));have F:=aC8 (And.intro hs fs);have J:Hid ((false&&decide (0<TP (Ro x)))=false):=aEK _;clear hs fs D HI;go_wp2_with fail
 refine bodyPost_ret (v := .agg #[.b (false&&decide (0<TP (Ro x))),.s b1 (Ro (TP (Ro x))).length d1]) (by simp[results,results259,go_sem,r0]) I ⟨_,I,⟨_,by rw[J.out],?_,?_⟩,?_⟩
 .have:=F.out.1.ch (((Ch.refl w.heap.size _).setCell 0 (.b (false&&decide (0<TP (Ro x))))).setCell 1 (.s b1 (Ro (TP (Ro x))).length d1)) (λ_=>F.out.2.off S);rw[NP]at this |-;exact this
 .exact F.out.2.mono Z
 exact(HX.out.setCell (p:=⟨_,0,none⟩) (by simp only; omega) _).setCell (p:=⟨_,1,none⟩) (by simp only; omega) _
abbrev yE(x:Int)(w:VO)(h : -9223372036854775808<=x)(D:x<=9223372036854775807) :
  abB prog 259 #[.i x] w λe w'=>∃v,e = .R v∧aQ w.heap.size w' v (decide (x<0)) x.natAbs∧Ext w w':=by
 by_cases hx:x<0
 .exact KL x w h hx
 obtain⟨n,rfl⟩:∃n:Nat,x=n:=⟨x.toNat,Z⟩;have e:decide ((n:Int)<0)=false:=aER Z;rw[e,aFo];exact KN n w D
abbrev xk(x:Int)(w:VO)(h : -9223372036854775808<=x)(S:x<=9223372036854775807) :
  abB prog 224 #[.i x] w λe w'=>∃v,e = .R v∧aC w.heap.size w' v (decide (x<0)) x.natAbs 1∧Ext w w':=by
 have D:=aH w (.cells #[.z,.sn,.z,.sn] 26);have H1:=aC8 (yE x (w.alloc (.cells #[.z,.sn,.z,.sn] 26)) h S);have aa:=aC8 D;clear D;go_enter func224,ntmps224
 go_wp2_with fail
 refine H1.out.mono ?_;rintro e w1 ⟨y,rfl,⟨s,rfl,hs,fs⟩,D⟩;have S:=yE 1 w1 O O;rw[show decide ((1:Int)<0)=false from rfl,show(1:Int).natAbs=1 from rfl]at S;have H2:=aC8 S;have HS:=aC8 (And.intro hs fs);have J:=aC8 D;clear S H1 hs fs D;go_wp2_with fail
 refine H2.out.mono ?_;rintro e S ⟨y,rfl,⟨t,rfl,ht,ft⟩,D⟩;obtain⟨b1,d1,rfl⟩:=HS.out.1.shape;obtain⟨b2,d2,rfl⟩:=ht.shape;obtain⟨r0,S,hz⟩:=ji (K00 J.out D);obtain⟨-,-,S⟩:=ji J.out;have F:=aC8 (And.intro (HS.out.1.below D) (And.intro ht (And.intro HS.out.2 ft)));have HX:=aC8 (K00 aa.out (K00 J.out D));clear ht ft D H2;go_wp2_with fail
 refine bodyPost_ret (v := .agg #[.b (x<0),.s b1 (Ro x.natAbs).length d1,.z,.s b2 (Ro 1).length d2]) (by simp[results,results224,go_sem,r0]) I ⟨_,I,⟨_,_,I,?_,?_,?_,?_⟩,?_⟩
 .exact F.out.1.ch (((((Ch.refl w.heap.size _).setCell _ _).setCell _ _).setCell _ _).setCell _ _) (λ_=>F.out.2.2.1.off Y)
 .exact F.out.2.1.ch (((((Ch.refl w.heap.size _).setCell _ _).setCell _ _).setCell _ _).setCell _ _) (λ_=>F.out.2.2.2.off S)
 .exact F.out.2.2.1.mono Y
 .exact F.out.2.2.2.mono Z
 exact(((HX.out.setCell (p:=⟨_,0,none⟩) (by simp only; omega) _).setCell (p:=⟨_,1,none⟩) (by simp only; omega) _).setCell (p:=⟨_,2,none⟩) (by simp only; omega) _).setCell (p:=⟨_,3,none⟩) (by simp only; omega) _
abbrev aC.shape{base:Nat}{w:VO}{v:aaT}{neg:Bool}{a b:Nat}(h:aC base w v neg a b):∃b1 D b2 J,v = .agg #[.b neg,.s b1 (Ro a).length D,.z,.s b2 (Ro b).length J]:=by
 obtain⟨s,t,rfl,S,ht,_⟩:=h;obtain⟨b1,D,rfl⟩:=S.shape;obtain⟨b2,J,rfl⟩:=ht.shape;exact⟨b1,D,b2,J,I⟩
abbrev aC.ch{base:Nat}{w w':VO}{v:aaT}{neg:Bool}{a b c:Nat}(h:aC base w v neg a b)(S:Ch c w w')(D:c<base):aC base w' v neg a b:=by
 obtain⟨s,t,rfl,hs,ht,fs,J⟩:=h;exact⟨s,t,I,hs.ch S (λ_=>fs.off D),ht.ch S (λ_=>J.off D),fs,J⟩
abbrev aC.PW{base:Nat}{w:VO}{v:aaT}{neg:Bool}{a b c:Nat}(h:aC base w v neg a b)(D:c<base)(x0 x1 J S:aaT) :
  aC base ((((w.setCell ⟨c,0,none⟩ x0).setCell ⟨c,1,none⟩ x1).setCell ⟨c,2,none⟩ J).setCell ⟨c,3,none⟩ S) v neg a b:=
 h.ch (((((Ch.refl c w).setCell _ _).setCell _ _).setCell _ _).setCell _ _) D
abbrev qW{W w:VO}(h:Ext W w){c:Nat}(D:W.heap.size<=c)(x0 x1 J S:aaT) :
  Ext W ((((w.setCell ⟨c,0,none⟩ x0).setCell ⟨c,1,none⟩ x1).setCell ⟨c,2,none⟩ J).setCell ⟨c,3,none⟩ S):=
 (((Below.setCell h (p:=⟨c,0,none⟩) D _).setCell (p:=⟨c,1,none⟩) D _).setCell (p:=⟨c,2,none⟩) D _).setCell (p:=⟨c,3,none⟩) D _
def nrm(n1 D:Bool)(a b:Nat):Bool×Nat×Nat:=if b=0 then (false,0,1)else (l9 n1 D a b,a/Nat.gcd a b,b/Nat.gcd a b)
abbrev dQ (base:Nat)(w:VO)(v:aaT)(r:Bool×Nat×Nat):Prop:=aC base w v r.1 r.2.1 r.2.2
abbrev pF(n1 n2:Bool)(s1 s2:aaT)(l m:List UInt32)(w:VO)(D:aG w s1 l)(J:aG w s2 m)(ag:l.length<=100000000)(ac:m.length<=100000000) :
  abB prog 175 #[.agg #[.b n1,s1,.b n2,s2]] w λe w'=>∃x,e = .R x∧dQ w.heap.size w' x (nrm n1 n2 (TP l) (TP m))∧Ext w w':=by
 obtain⟨a1,c1,rfl⟩:=D.shape;obtain⟨a2,c2,rfl⟩:=J.shape;have S:=aC8 ((aH w (.cells #[.b n1,.s a1 l.length c1,.b n2,.s a2 m.length c2] 26)).alloc Y (.cells #[.z,.sn,.z,.sn] 26));have g1:=D.below S.out;have g2:=J.below S.out;clear D J;rcases aD0 (TP m)with hm | hm
 .have HC:=aC8 (VP n1 n2 _ _ _ _ _ g1 g2 hm ac);have hN:nrm n1 n2 (TP l) (TP m)=(false,0,1):=by unfold nrm; rw[aDb hm]
  rw[hN];clear g1 g2 hm hN;go_enter func175,ntmps175
  go_wp2_with fail
  refine HC.out.mono ?_;rintro e w1 ⟨rfl,J⟩;have aa:=J.size;simp only[aFR]at aa;have D:(∀i,w1.cell? ⟨w.heap.size+1,i,none⟩ = #[Value.z,.sn,.z,.sn][i]?)∧(∀i,w1.frozen? ⟨w.heap.size+1,i,none⟩=false):=by
   refine⟨λi=>?_,λi=>?_⟩
   .rw[J.cell (p:=⟨w.heap.size+1,i,none⟩) Y]; simp[go_sem]
   rw[J.frozen (p:=⟨w.heap.size+1,i,none⟩) Y]; simp[go_sem]
  obtain⟨r0,f0⟩:=D;have HX:=aC8 (K00 S.out J);have HY:=aC8 (xk 0 (w1.alloc (.cells #[.z,.sn,.z,.sn] 26)) O O);clear J HC;go_wp2_with fail
  refine HY.out.mono ?_;rintro e w2 ⟨x,rfl,hx,ab⟩;have D:=K00 (aH _ _) ab;obtain⟨b1,d1,b2,d2,rfl⟩:=hx.shape;have r1:∀i,w2.cell? ⟨w.heap.size+1,i,none⟩ = #[Value.z,.sn,.z,.sn][i]?:=λi=>by rw[D.cell (p:=⟨w.heap.size+1,i,none⟩) (by simp only; omega)]; exact r0 i
  have f1:∀i,w2.frozen? ⟨w.heap.size+1,i,none⟩=false:=λi=>by rw[D.frozen (p:=⟨w.heap.size+1,i,none⟩) (by simp only; omega)]; exact f0 i
  have hz:w.heap.size+1<w2.heap.size:=by have:=D.size; omega
  have ae:w.heap.size+1<(w1.alloc (.cells #[.z,.sn,.z,.sn] 26)).heap.size:=by simp; omega
  have F:=aC8 hx;have af:=aC8 (K00 HX.out D);clear r0 f0 hx ab D HY;go_wp2_with fail
  refine bodyPost_ret (v := .agg #[.b ((0:Int)<0),.s b1 (Ro (0:Int).natAbs).length d1,.z,.s b2 (Ro 1).length d2]) (by simp[results,results175,go_sem,r1]) I ⟨_,I,?_,qW af.out Z _ _ _ _⟩;exact(F.out.PW ae _ _ _ _).mono Z
 have HC:=aC8 (Zj n1 n2 _ _ _ _ _ g1 g2 hm ag ac);have hN:nrm n1 n2 (TP l) (TP m)=(l9 n1 n2 (TP l) (TP m),TP l/Nat.gcd (TP l) (TP m),TP m/Nat.gcd (TP l) (TP m)):=by unfold nrm; rw[aC9 Z]
 rw[hN];clear g1 g2 hm hN;go_enter func175,ntmps175
 go_wp2_with fail
 refine HC.out.mono ?_;rintro e w1 ⟨x,rfl,hx,J⟩;have aa:=J.size;simp only[aFR]at aa;obtain⟨b1,d1,b2,d2,rfl⟩:=hx.shape;have r0:∀i,w1.cell? ⟨w.heap.size+1,i,none⟩ = #[Value.z,.sn,.z,.sn][i]?:=λi=>by rw[J.cell (p:=⟨w.heap.size+1,i,none⟩) Y]; simp[go_sem]
 have f0:∀i,w1.frozen? ⟨w.heap.size+1,i,none⟩=false:=λi=>by rw[J.frozen (p:=⟨w.heap.size+1,i,none⟩) Y]; simp[go_sem]
 have F:=aC8 hx;have HX:=aC8 (K00 S.out J);have hz:w.heap.size+1<w1.heap.size:=Z
 clear J HC hx;go_wp2_with fail
 refine bodyPost_ret (v := .agg #[.b (l9 n1 n2 (TP l) (TP m)),.s b1 (Ro (TP l/Nat.gcd (TP l) (TP m))).length d1,.z,.s b2 (Ro (TP m/Nat.gcd (TP l) (TP m))).length d2]) (by simp[results,results175,go_sem,r0,hz]) I ⟨_,I,?_,?_⟩
 .exact((F.out.PW Y _ _ _ _).ext (aH _ _)).mono (by simp; omega)
 exact K00 (qW HX.out Z _ _ _ _) (aH _ _)
def zv(n:Bool)(a:Nat):Int:=if n then -(a:Int)else (a:Int)
abbrev aho(n:Bool)(a:Nat):decide (zv n a<0)=(n&&decide (0<a)):=by
 unfold zv;cases n
 .simp
 rw[aEv,aF1]; simp
abbrev tC(n:Bool)(a:Nat):(zv n a).natAbs=a:=by unfold zv; cases n<;>simp
abbrev aoJ(n:Bool)(a:Nat):zv (!n) a = -zv n a:=by unfold zv; cases n<;>simp
abbrev aa1(z:Int):zv (decide (z<0)) z.natAbs=z:=by
 unfold zv;by_cases h:z<0
 .rw[aEy h,aDb I]; omega
 rw[aER h,aC9 Y]; omega
abbrev aoK(n m:Bool)(a b:Nat):zv n a*zv m b=zv (n != m) (a*b):=by unfold zv; cases n<;>cases m<;>simp[Int.mul_neg,Int.neg_mul,Int.neg_neg]
abbrev VQ(n:Bool)(a b:Nat):zv n a+zv n b=zv n (a+b):=by
 unfold zv;cases n
 .simp
 simp only[if_true]; omega
abbrev Gh{n m:Bool}{a b:Nat}(h:n≠m)(D:b<=a):zv n a+zv m b=zv n (a-b):=by
 unfold zv;cases n<;>cases m<;>simp only[ne_eq,not_true_eq_false,reduceCtorEq,if_true,if_false,aFG]at * <;> omega
abbrev RD{n m:Bool}{a b:Nat}(h:n≠m)(D:a<=b):zv n a+zv m b=zv m (b-a):=by
 rw[Int.add_comm]; exact Gh (λe=>h e.symm) D
abbrev aoL(n:Bool)(a:Nat):qE n a=(zv n a).sign:=by
 unfold qE zv;rcases aD0 a with h | h
 .subst h; cases n<;>rfl
 rw[aC9 Z];cases n
 .rw[aC9 Y,aC9 Y,Int.sign_eq_one_of_pos Z]
 rw[aDb I,aDb I,Int.sign_eq_neg_one_of_neg Z]
abbrev CB (base:Nat)(w:VO)(v:aaT)(z:Int):Prop:=aQ base w v (decide (z<0)) z.natAbs
abbrev KO{base:Nat}{w:VO}{v:aaT}{n:Bool}{a:Nat}(h:aQ base w v (n&&decide (0<a)) a):CB base w v (zv n a):=by
 unfold CB; rw[aho,tC]; exact h
def nz(x:Int)(d:Nat):Bool×Nat×Nat:=nrm (decide (x<0)) false x.natAbs d
def qz(r:Bool×Nat×Nat):Int:=zv r.1 r.2.1
def Cb(r s:Bool×Nat×Nat):Bool×Nat×Nat:=nz (qz r*qz s) (r.2.2*s.2.2)
def MW(r s:Bool×Nat×Nat):Bool×Nat×Nat:=nz (qz r*s.2.2-qz s*r.2.2) (r.2.2*s.2.2)
def mZ(r s:Bool×Nat×Nat):Int:=(qz r*s.2.2-qz s*r.2.2).sign
abbrev aao(n1 D:Bool)(l m:List UInt32):(Ro (nrm n1 D (TP l) (TP m)).2.1).length<=l.length∧(Ro (nrm n1 D (TP l) (TP m)).2.2).length<=max 1 m.length:=by
 unfold nrm;split
 .have D:(Ro 1).length<=1:=Na.bK O;exact⟨by rw[jU]; simp,by simp only; omega⟩
 have D:=fP (aFr (TP l) (Nat.gcd (TP l) (TP m)));have D:=fP (aFr (TP m) (Nat.gcd (TP l) (TP m)));have:=dA l;have:=dA m;simp only; omega
def aI(k:Nat)(f:α->List aaT)(w:VO)(v:aaT)(l:List α):Prop:=
 ∃a cap,v = .s a l.length cap∧cap<=maxLen ∧
  ((l=[]∧(a=none->cap=0)) ∨
   ∃b o,a=some ⟨b,o,none⟩∧b<w.heap.size∧l.length<=cap∧∀i (h:i<l.length) (j:Nat),j<k->w.cell? ⟨b,o+i*k+j,none⟩=(f l[i])[j]?)
abbrev aI.below{k:Nat}{f:α->List aaT}{w w':VO}{v:aaT}{l:List α}(h:aI k f w v l)(J:Below w.heap.size w w'):aI k f w' v l:=by
 obtain⟨a,cap,D,S,h⟩:=h;refine⟨a,cap,D,S,?_⟩;rcases h with h | ⟨b,o,S,D,hl,hc⟩
 .exact .inl h
 exact .inr ⟨b,o,S,by have:=J.size; omega,hl,λi S j hj=>by rw[J.cell (p:=⟨b,o+i*k+j,none⟩) D]; exact hc i S j hj⟩
abbrev aI.shape{k:Nat}{f:α->List aaT}{w:VO}{v:aaT}{l:List α}(h:aI k f w v l):∃a cap,v = .s a l.length cap:=by
 obtain⟨a,cap,h,_⟩:=h; exact⟨a,cap,h⟩
abbrev aI.len{k:Nat}{f:α->List aaT}{w:VO}{v:aaT}{l:List α}(h:aI k f w v l):l.length<=maxLen:=by
 obtain⟨a,cap,rfl,D,h⟩:=h;rcases h with ⟨rfl,_⟩ | ⟨b,o,rfl,D,hl,J⟩
 .simp
 omega
abbrev dJ(k:Nat)(f:α->List aaT)(w:VO):aI k f w (.sn) []:=⟨none,0,I,aDl _,.inl ⟨I,λ_=>rfl⟩⟩
abbrev adu{k:Nat}{f:α->List aaT}{w:VO}{v:aaT}{l:List α}(h:aI k f w v l)(hp:0<l.length) :
  ∃b o cap,v = .s (some ⟨b,o,none⟩) l.length cap∧b<w.heap.size∧l.length<=cap∧cap<=maxLen∧∀i (h:i<l.length) (j:Nat),j<k->w.cell? ⟨b,o+i*k+j,none⟩=(f l[i])[j]?:=by
 obtain⟨a,cap,rfl,D,h⟩:=h;rcases h with ⟨rfl,_⟩ | ⟨b,o,rfl,J,hl,S⟩
 .simp at hp
 exact⟨b,o,cap,I,J,hl,D,S⟩
abbrev fM{f:α->aaT}{w:VO}{v:aaT}{l:List α}(h:dH f w v l):aI 1 (λx=>[f x]) w v l:=by
 obtain⟨a,cap,D,J,h⟩:=h;refine⟨a,cap,D,J,?_⟩;rcases h with h | ⟨b,o,S,D,hl,hc⟩
 .exact .inl h
 refine .inr ⟨b,o,S,D,hl,λi J j hj=>?_⟩;obtain rfl:j=0:=by omega
 simpa using hc i J
abbrev I64 (x:Int):Prop := -9223372036854775808<=x∧x<=9223372036854775807
structure bM where
 n1:Bool
 a1:Option aGk
 c1:Nat
 l1:List UInt32
 n2:Bool
 a2:Option aGk
 c2:Nat
 l2:List UInt32
def bM.s1(r:bM):aaT := .s r.a1 r.l1.length r.c1
def bM.s2(r:bM):aaT := .s r.a2 r.l2.length r.c2
def bM.cells(r:bM):List aaT:=[.b r.n1,r.s1,.b r.n2,r.s2]
def bM.v(r:bM):aaT := .agg #[.b r.n1,r.s1,.b r.n2,r.s2]
def bM.ok(w:VO)(r:bM):Prop:=aG w r.s1 r.l1∧aG w r.s2 r.l2
def bM.fit(k:Nat)(r:bM):Prop:=r.l1.length<=k∧r.l2.length<=k
def bM.q(r:bM):Bool×Nat×Nat:=nrm r.n1 r.n2 (TP r.l1) (TP r.l2)
abbrev bM.ok.below{w w':VO}{r:bM}(h:r.ok w)(D:Ext w w'):r.ok w':=⟨h.1.below D,h.2.below D⟩
abbrev bM.fit.mono{k D:Nat}{r:bM}(h:r.fit k)(hk:k<=D):r.fit D:=⟨aDy h.1 hk,aDy h.2 hk⟩
structure bG where
 a:bM
 b:bM
 c:bM
 d:bM
 e:bM
 f:bM
def bG.cells(t:bG):List aaT:=t.a.cells++t.b.cells++t.c.cells++t.d.cells++t.e.cells++t.f.cells
def bG.v(t:bG):aaT := .agg t.cells.toArray
def bG.ok(w:VO)(t:bG):Prop:=t.a.ok w∧t.b.ok w∧t.c.ok w∧t.d.ok w∧t.e.ok w∧t.f.ok w
def bG.fit(k:Nat)(t:bG):Prop:=t.a.fit k∧t.b.fit k∧t.c.fit k∧t.d.fit k∧t.e.fit k∧t.f.fit k
abbrev bG.ok.below{w w':VO}{t:bG}(h:t.ok w)(D:Ext w w'):t.ok w':=
 ⟨h.1.below D,h.2.1.below D,h.2.2.1.below D,h.2.2.2.1.below D,h.2.2.2.2.1.below D,h.2.2.2.2.2.below D⟩
def eU(q:Bool×Nat×Nat):Nat:=max (bl q.2.1) (bl q.2.2)
def q0:Bool×Nat×Nat:=(false,0,1)
def qx(p q:Bool×Nat×Nat):Bool:=mZ p q==0
structure kL where
 x:Int
 y:Int
deriving DecidableEq
def kL.ok(p:kL):Prop:=I64 p.x∧I64 p.y
def cok(x:Int):Bool:=decide (-1048576<=x)&&decide (x<=1048576)
def kL.valid(p:kL):Bool:=cok p.x&&cok p.y
def kL.zero(p:kL):Bool:=(p.x==0)&&(p.y==0)
structure dM where
 verb:Int
 a:kL
 b:kL
 c:kL
deriving DecidableEq
def dM.cells(s:dM):List aaT:=[.i s.verb,.i s.a.x,.i s.a.y,.i s.b.x,.i s.b.y,.i s.c.x,.i s.c.y]
def dM.ok(s:dM):Prop:=I64 s.verb∧s.a.ok∧s.b.ok∧s.c.ok
def named(v:Int):Int:=if v=4 then 3 else if v=3 then 2 else if v=1∨v=2 then 1 else if v=5 then 0 else -1
def wK(v:Int)(i:Int)(p:kL):Bool:=p.valid && !(decide (named v<=i) && !p.zero)
def dM.fits(s:dM):Bool:=wK s.verb 0 s.a&&(wK s.verb 1 s.b&&wK s.verb 2 s.c)
def dM.stands(last:Int)(s:dM):Bool:=(s.verb==1)||((last != 5)&&((s.verb != 5)||(last != 1)))
def dM.err(last:Int)(s:dM):Int:=if named s.verb<0 then 2 else if s.stands last=false then 10 else if s.fits=false then 6 else 0
def sH:Int->Int->List dM->Int×Int
 | _,_,[]=>(0,0)
 | last,i,s::l=>if s.err last=0 then sH s.verb (i+1) l else (s.err last,i)
def iI(l:List dM):Int×Int:=if 256<(l.length:Int)then (5,256)else sH 5 0 l
def kK(l:List dM):Bool:=(iI l).1==0
structure bJ where
 r:UInt8
 g:UInt8
 b:UInt8
 a:UInt8
deriving DecidableEq
def bJ.cells(p:bJ):List aaT:=[iy p.r,iy p.g,iy p.b,iy p.a]
def bJ.valid(p:bJ):Bool:=decide (p.r<=p.a)&&(decide (p.g<=p.a)&&decide (p.b<=p.a))
structure dI where
 w:Int
 h:Int
 sa:Option aGk
 sc:Nat
 l:List bJ
def dI.s(m:dI):aaT := .s m.sa m.l.length m.sc
def dI.cells(m:dI):List aaT:=[.i m.w,.i m.h,m.s]
def dI.v(m:dI):aaT := .agg #[.i m.w,.i m.h,m.s]
def dI.ok(W:VO)(m:dI):Prop:=I64 m.w∧I64 m.h∧aI 4 bJ.cells W m.s m.l
abbrev dI.ok.below{w w':VO}{t:dI}(h:t.ok w)(D:Ext w w'):t.ok w':=⟨h.1,h.2.1,h.2.2.below D⟩
def side(n:Int):Bool:=decide (1<=n)&&decide (n<=4096)
def dI.size(m:dI):Bool:=side m.w&&(side m.h&&decide (m.w*m.h<=65536))
def dI.valid(m:dI):Bool:=m.size&&(((m.l.length:Int)==m.w*m.h)&&m.l.all bJ.valid)
def dI.eq(m n:dI):Bool:=(m.w==n.w)&&((m.h==n.h)&&(m.l==n.l))
structure dK where
 o:Int
 c:bJ
deriving DecidableEq
def dK.cells(s:dK):List aaT:=[.i s.o,iy s.c.r,iy s.c.g,iy s.c.b,iy s.c.a]
def dK.ok(s:dK):Prop:=I64 s.o
def iJ:Int->List dK->Bool
 | _,[]=>true
 | at',s::l=>decide (at'<=s.o)&&(decide (s.o<=65536)&&iJ s.o l)
def iL(l:List dK):Bool:=decide (1<=l.length)&&(decide (l.length<=16)&&iJ 0 l)
structure ak where
 kind:Int
 color:bJ
 p0:kL
 p1:kL
 bY:Int
 sva:Option aGk
 svc:Nat
 stops:List dK
 spread:Int
 img:dI
 dD:Int
 t:bG
def ak.sv(p:ak):aaT := .s p.sva p.stops.length p.svc
def ak.cells(p:ak):List aaT:=
 [.i p.kind,iy p.color.r,iy p.color.g,iy p.color.b,iy p.color.a,.i p.p0.x,.i p.p0.y,.i p.p1.x,.i p.p1.y,.i p.bY,p.sv,.i p.spread,
  .i p.img.w,.i p.img.h,p.img.s,.i p.dD]++p.t.cells
def ak.v(p:ak):aaT := .agg p.cells.toArray
def ak.ok(w:VO)(p:ak):Prop:=
 I64 p.kind∧p.p0.ok∧p.p1.ok∧I64 p.bY∧aI 5 dK.cells w p.sv p.stops∧(∀s∈p.stops,s.ok)∧I64 p.spread∧p.img.ok w∧I64 p.dD∧p.t.ok w
abbrev ak.ok.below{w w':VO}{p:ak}(h:p.ok w)(J:Ext w w'):p.ok w':=by
 obtain⟨S,h2,h3,h4,h5,h6,h7,h8,h9,D⟩:=h;exact⟨S,h2,h3,h4,h5.below J,h6,h7,h8.below J,h9,D.below J⟩
def iR(n:Int):Bool:=decide (1<=n)&&decide (n<=3)
structure aZ where
 width:Int
 join:Int
 cap:Int
 fF:Int
 sa:Option aGk
 sc:Nat
 dash:List Int
 phase:Int
def aZ.s(p:aZ):aaT := .s p.sa p.dash.length p.sc
def AU(x:Int):aaT := .i x
def aZ.cells(p:aZ):List aaT:=[.i p.width,.i p.join,.i p.cap,.i p.fF,p.s,.i p.phase]
def aZ.v(p:aZ):aaT := .agg #[.i p.width,.i p.join,.i p.cap,.i p.fF,p.s,.i p.phase]
def aZ.ok(w:VO)(p:aZ):Prop:=I64 p.width∧I64 p.join∧I64 p.cap∧I64 p.fF∧dH AU w p.s p.dash∧(∀x∈p.dash,I64 x)∧I64 p.phase
abbrev aZ.ok.below{w w':VO}{p:aZ}(h:p.ok w)(D:Ext w w'):p.ok w':=⟨h.1,h.2.1,h.2.2.1,h.2.2.2.1,h.2.2.2.2.1.below D,h.2.2.2.2.2⟩
structure aj where
 id:Int
 kind:Int
 depth:Int
 t:bG
 csa:Option aGk
 csc:Nat
 clip:List dM
 aS:Int
 dS:UInt8
 blend:Int
 isolated:Bool
 dG:Bool
 psa:Option aGk
 psc:Nat
 path:List dM
 aW:Int
 fsa:Option aGk
 fsc:Nat
 fill:List ak
 style:aZ
 ssa:Option aGk
 ssc:Nat
 stroke:List ak
 img:dI
 dD:Int
def aj.cs(n:aj):aaT := .s n.csa n.clip.length n.csc
def aj.ps(n:aj):aaT := .s n.psa n.path.length n.psc
def aj.fs(n:aj):aaT := .s n.fsa n.fill.length n.fsc
def aj.ss(n:aj):aaT := .s n.ssa n.stroke.length n.ssc
def aj.cells(n:aj):List aaT:=
 [.i n.id,.i n.kind,.i n.depth]++n.t.cells++[n.cs,.i n.aS,iy n.dS,.i n.blend,.b n.isolated,.b n.dG,n.ps,.i n.aW,n.fs]++n.style.cells ++
  [n.ss]++n.img.cells++[.i n.dD]
def aj.v(n:aj):aaT := .agg n.cells.toArray
abbrev xB (w:VO)(v:aaT)(l:List dM):Prop:=aI 7 dM.cells w v l∧∀s∈l,s.ok
abbrev jl (w:VO)(v:aaT)(l:List ak):Prop:=aI 40 ak.cells w v l∧∀p∈l,p.ok w
def aj.ok(w:VO)(n:aj):Prop:=
 I64 n.id∧I64 n.kind∧I64 n.depth∧n.t.ok w∧xB w n.cs n.clip∧I64 n.aS∧I64 n.blend∧xB w n.ps n.path∧I64 n.aW∧jl w n.fs n.fill∧n.style.ok w∧jl w n.ss n.stroke ∧
  n.img.ok w∧I64 n.dD
abbrev xB.below{w w':VO}{v:aaT}{l:List dM}(h:xB w v l)(D:Ext w w'):xB w' v l:=⟨h.1.below D,h.2⟩
abbrev jl.below{w w':VO}{v:aaT}{l:List ak}(h:jl w v l)(D:Ext w w'):jl w' v l:=⟨h.1.below D,λp J=>(h.2 p J).below D⟩
abbrev aj.ok.below{w w':VO}{n:aj}(h:n.ok w)(D:Ext w w'):n.ok w':=by
 obtain⟨h1,h2,h3,h4,h5,h6,h7,h8,h9,J,S,aa,ab,L8⟩:=h;exact⟨h1,h2,h3,h4.below D,h5.below D,h6,h7,h8.below D,h9,J.below D,S.below D,aa.below D,ab.below D,L8⟩
end Go.Proofs.Vy
namespace Go.Vp
open Go.Proofs.Vy Go.RowKit Go.Rel Na Go.Rel
section
variable{P:Program}{ops:Array Oper}{Q:Exit->Act->VO->Prop}{a:Act}{w:VO}{rest:List Oper}{o:Oper}{n:Nat}{l:List (Nat×aaT)}
variable{k b off c:Nat}
abbrev adv{ρ:Operand->aaT}{t e:TypeId}{x ix:Operand}{len cap:Nat}{kd:IntKind}(i:Nat)(S:o.op = .indexAddr t x ix)(hx:ρ x = .s (some ⟨b,off,none⟩) len cap)(hi:ρ ix = .int kd (i:Int))(D:i<len)
  (hu:P.underlying t=some (.slice e)) (J:(P.info? e).map (·.size)=some k):(execOp ρ o).run P w = .ok (.value (.pointer (some ⟨b,off+i*k,none⟩))) w:=by
 have he:P.elem t=e:=by unfold Program.elem; rw[hu]
 have D:=run_indexAt_slice (P:=P) w t ⟨b,off,none⟩ len cap kd (i:Int) (by rw[he]; exact hu);rw[aDb ⟨Z,Z⟩,he]at D;have h2:(sizeOf e).run P w = .ok k w:=by
  cases hq:P.info? e with
  | none=>simp[hq]at J
  | some j =>
   have:j.size=k:=by simpa[hq]using J
   simp[sizeOf,typeInfo,hq,this]
 rw[h2]at D;simp only[Result.andThen,aEU]at D;have J:(⟨b,off,none⟩:aGk).add (i*k)=⟨b,off+i*k,none⟩:=Addr.add_mid _ _ _;rw[J]at D;unfold execOp;simp only[S,hx,hi,aEe,D];rfl
abbrev lQ{α:Type}{f:α->List aaT}{v:aaT}{L:List α}(h:aI k f w v L)(hf:∀x,(f x).length=k)(i:Nat)(hi:i<L.length) :
  ∃b off cap,v = .s (some ⟨b,off,none⟩) L.length cap∧b<w.heap.size∧w.rangeAt b (off+i*k) (f L[i]):=by
 obtain⟨b,off,cap,D,S,hl,J,hc⟩:=adu h Z;refine⟨b,off,cap,D,S,λj u J=>?_⟩;have D:j<k:=by have:=(List.getElem?_eq_some_iff.1 J).1; rw[hf]at this; exact this
 rw[hc i hi j D]; exact J
abbrev iZ{α:Type}{f:α->List aaT}{a:Option aGk}{n:Nat}{L:List α}(h:aI k f w (.s a n c) L)(hf:∀x,(f x).length=k)(i:Nat)(hi:i<L.length) :
  ∃b o,a=some ⟨b,o,none⟩∧∃x,L[i]=x∧b<w.heap.size∧w.rangeAt b (o+i*k) (f x):=by
 obtain⟨b,o,cap,D,J,S⟩:=lQ h hf i hi;simp only[aDO]at D;exact⟨b,o,D.1,_,I,J,S⟩
abbrev apR{α:Type}{f:α->List aaT}{o n:Nat}{L:List α}(h:aI k f w (.s (some ⟨b,o,none⟩) n c) L)(hf:∀x,(f x).length=k)(i:Nat)(hi:i<L.length) :
  ∃x,L[i]=x∧b<w.heap.size∧w.rangeAt b (o+i*k) (f x):=by
 obtain⟨b1,o1,D,x,J,S,hr⟩:=iZ h hf i hi;simp only[aDe,aEZ,and_true]at D;obtain⟨rfl,rfl⟩:=D;exact⟨x,J,S,hr⟩
abbrev qM{w w':VO}{cs:List aaT}(h:w.rangeAt b off cs)(J:b<w.heap.size)(S:Ext w w'):w'.rangeAt b off cs:=λj v D=>by
 rw[S.cell (p:=⟨b,off+j,none⟩) J]; exact h j v D
abbrev ahp{α:Type}{f:α->List aaT}{v:aaT}{L:List α}(h:aI k f w v L):v.oneCell'=true:=by obtain⟨a,cap,rfl⟩:=h.shape; rfl
abbrev mX{v:aaT}{L:List UInt32}(h:aG w v L):v.oneCell'=true:=by obtain⟨a,cap,rfl,_⟩:=h; rfl
end
end Go.Vp
end
abbrev aDN:=@Go.Vp.iZ
