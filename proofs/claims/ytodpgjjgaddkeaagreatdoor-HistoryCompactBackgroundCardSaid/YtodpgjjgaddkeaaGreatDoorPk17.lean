/- Walks of the references on integers and rational -/
import Derived.Test.YtodpgjjgaddkeaaGreatDoorPk11
import Derived.IntWalk
set_option maxHeartbeats 1600000
set_option maxRecDepth 100000
set_option linter.unusedVariables false
set_option linter.unusedSimpArgs false
namespace Go.Proofs.YtodpgjjgaddkeaaGreatDoor
section
open Go.RowKit Na Go.Sx
variable{α:Type}
theorem VP(v u:Value)(l m:List UInt32)(w:World)(hv:aC w v l)(hu:aC w u m)(hlen:l.length<=5000000)(hlen2:m.length<=5000000) :
  Calls Tryz.prog 220 #[v,u] w λe w'=>∃g,e = .returned g∧aC w' g (Ux (Nat.gcd (Zk l) (Zk m)))∧Ext w w':=by
 have C1:=azO (dU v l w hv Z);have hla:=bY l;have hlb:=bY m;go_enter Tryz.func220,Tryz.ntmps220
 go_wp2_with fail
 refine C1.out.mono ?_;rintro e w1 ⟨x,rfl,hx,hb1⟩;have hx:=aZ hx;go_wp2_with fail
 refine(dU u m w1 (hu.below hb1) Z).mono ?_;rintro e w2 ⟨y,rfl,hy,hb2⟩;have hy:=aZ hy;have hx2:=hx.below hb2;have ajy:=K00 hb1 hb2;clear hx C1 hv hu;have HX:=azO hx2;have HY:=azO hy;clear hx2 hy;go_wp2_with fail
 go_loopw [5,6,7,8,9] (λx y _ _ _ wr=>∃(A B:Nat),aC wr x (Ux A)∧aC wr y (Ux B)∧Nat.gcd A B=Nat.gcd (Zk l) (Zk m)∧(Ux A).length<=5000000∧(Ux B).length<=5000000∧Ext w wr) (λ_ y _ _ _ wr=>valOf wr y)
 case atStart=>exact⟨(Zk l),(Zk m),HX.out,HY.out,I,Z,Z,ajy⟩
 case round =>
  obtain⟨A,B,hx,hy,hg,hlA,hlB,hbel⟩:=hrel;have HM:=azO (Bz hy);have HG:=azO hg;have HX:=azO hx;have HY:=azO hy;clear hg hx hy;obtain⟨ay,cy,rfl⟩:=HY.out.shape;rcases aAC B with rfl | hB
  .have h0:((Ux 0).length:Int)=0:=by rw[kT.2 I]; rfl
   go_wp2_with fail
   go_ret
   refine⟨_,I,?_,hbel⟩;rw[<-HG.out,Nat.gcd_zero_right];exact HX.out
  have h0:(0:Int)<((Ux B).length:Int):=by
   have:(Ux B).length≠0:=λh=>by have:=og h; omega
   omega
  have hD:=zi _ _ _ _ wr HX.out HY.out (by rw[PV]; exact hB) hlA hlB;rw[PV,PV]at hD;have HD:=azO hD;clear hD;go_wp2_with fail
  refine HD.out.mono ?_;rintro e w' ⟨q,r,rfl,hq,hr,hb⟩;have HR:=azO (aZ hr);have HY':=azO (HY.out.below hb);clear hq hr;go_wp2_with fail
  go_roundw
  case rel =>
   refine⟨B,A%B,HY'.out,HR.out,?_,hlB,?_,K00 hbel hb⟩
   .rw[<-HG.out,Nat.gcd_comm A B,Nat.gcd_rec B A,Nat.gcd_comm]
   exact aAa (fK (aBM (aBb A hB))) hlB
  case measure =>
   rw[Bz HR.out,HM.out,PV,PV];exact aBb _ hB
theorem uQ(neg:Bool)(v:Value)(l:List UInt32)(w:World)(hv:aC w v l)(hlen:l.length<=1000000000) :
  Calls Tryz.prog 219 #[.bool neg,v] w λe w'=>∃x,e = .returned x∧aO w.heap.size w' x (neg&&decide (0<Zk l)) (Zk l)∧Ext w w':=by
 have hb1:=aF w (.cells #[.z,.sn] 24);have HC:=azO (dU v l _ (hv.below hb1) hlen);have hpos:Hid (decide ((0:Int)<((Ux (Zk l)).length:Int))=decide (0<Zk l)):=by
  show _=_;rw[decide_eq_decide];constructor
  .intro h;rcases aAC (Zk l)with h0 | h0
   .rw[h0,jD]at h; simp at h
   exact h0
  intro h;have:(Ux (Zk l)).length≠0:=λh'=>by
   have:=kT.1 (aBd h'); omega
  omega
 rcases aCC neg with rfl | rfl;all_goals
  go_enter Tryz.func219,Tryz.ntmps219
  go_wp2_with fail
  refine HC.out.mono ?_
  rintro e w1 ⟨v',rfl,ho,hb2⟩
  have hrow:=aZ ho
  have hoff:=QJ ho
  obtain⟨hc,hf,hz⟩:=iY hb2
  have hb0:=K00 hb1 hb2
  have HB:=azO hb0
  have HR:=azO hrow
  have HO:=azO hoff
  obtain⟨a,cap,rfl⟩:=HR.out.shape
  clear HC ho hrow hb2 hb1 hb0 hoff
  go_wp2_with fail
 .refine bodyPost_ret (v := .agg #[.bool ((0:Int)<((Ux (Zk l)).length:Int)),.slice a (Ux (Zk l)).length cap]) (by simp[results,Tryz.results219,go_sem,hc]) I ⟨_,I,⟨_,by rw[aA1,hpos.out],?_⟩,?_⟩
  .exact⟨HR.out.ch (((Ch.refl _ _).setCell _ _).setCell _ _) (λ_=>HO.out.off Y),HO.out.mono Y⟩
  exact(HB.out.setCell (p:=⟨w.heap.size,0,none⟩) (azS _) _).setCell (p:=⟨w.heap.size,1,none⟩) (azS _) _
 refine bodyPost_ret (v := .agg #[.z,.slice a (Ux (Zk l)).length cap]) (by simp[results,Tryz.results219,go_sem,hc]) I ⟨_,I,⟨_,by rw[aBh],?_⟩,?_⟩
 .exact⟨HR.out.ch (((Ch.refl _ _).setCell _ _).setCell _ _) (λ_=>HO.out.off Y),HO.out.mono Y⟩
 exact(HB.out.setCell (p:=⟨w.heap.size,0,none⟩) (azS _) _).setCell (p:=⟨w.heap.size,1,none⟩) (azS _) _
theorem wP(x:Nat)(w:World)(h:(x:Int)<=9223372036854775807) :
  Calls Tryz.prog 172 #[.i x] w λe w'=>∃v,e = .returned v∧aO w.heap.size w' v false x∧Ext w w':=by
 have hN:x<18446744073709551616:=Z
 obtain⟨y,rfl⟩:∃y:UInt64,x=y.toNat:=⟨UInt64.ofNat x,by simp; omega⟩;have h0:¬(y.toNat:Int)<0:=Z
 have hyl:=y.toNat_lt;have hw:=af8 y;have hb0:=aF w (.cells #[.z,.sn] 24);have hr:aC ((w.alloc (.cells #[.z,.sn] 24)).alloc (.cells #[bn y.toUInt32,bn (y>>>32).toUInt32] 119)) (.slice (some ⟨w.heap.size+1,0,none⟩) 2 2) [y.toUInt32,(y>>>32).toUInt32]:=by
  have:=NM (w.alloc (.cells #[.z,.sn] 24)) [y.toUInt32,(y>>>32).toUInt32] (f:=bn) 119 (by unfold maxLen; simp);simpa using this
 have hI:=uQ false _ _ _ hr Y;rw[Qz]at hI;have HI:=azO hI;have HB:=azO (hb0.alloc Y (.cells #[bn y.toUInt32,bn (y>>>32).toUInt32] 119));clear hr hI hb0;have HE:Hid (((y>>>32).toNat:Int)=((y>>>32).toUInt32.toNat:Int)):=by
  show _=_;rw[<-xU,<-NK]; omega
 go_enter Tryz.func172,Tryz.ntmps172
 go_wp2_with fail
 rw[xU,NK,HE.out];refine HI.out.mono ?_;rintro e w2 ⟨z,rfl,⟨s,rfl,hs,fs⟩,hb2⟩;obtain⟨b1,d1,rfl⟩:=hs.shape;have r0:∀i,w2.cell? ⟨w.heap.size,i,none⟩ = #[Value.z,.sn][i]?:=λi=>by rw[hb2.cell (p:=⟨w.heap.size,i,none⟩) (by simp; omega)]; simp[go_sem]
 have f0:∀i,w2.frozen? ⟨w.heap.size,i,none⟩=false:=λi=>by rw[hb2.frozen (p:=⟨w.heap.size,i,none⟩) (by simp; omega)]; simp[go_sem]
 have hz:w.heap.size<w2.heap.size:=by have:=hb2.size; simp at this; omega
 have HX:=azO (K00 HB.out hb2);have F:=azO (And.intro hs fs);clear hs fs hb2 HI;go_wp2_with fail
 refine bodyPost_ret (v := .agg #[.z,.slice b1 (Ux y.toNat).length d1]) (by simp[results,Tryz.results172,go_sem,r0]) I ⟨_,I,⟨_,I,?_,?_⟩,?_⟩
 .exact F.out.1.ch (((Ch.refl w.heap.size _).setCell 0 _).setCell 1 _) (λ_=>F.out.2.off (by simp; omega))
 .exact F.out.2.mono (by simp; omega)
 exact(HX.out.setCell (p:=⟨_,0,none⟩) (by simp only; omega) _).setCell (p:=⟨_,1,none⟩) (by simp only; omega) _
theorem rF(neg:Bool)(s:Value)(l:List UInt32)(w:World)(hv:aC w s l)(hlen:l.length<=100000000) :
  Calls Tryz.prog 173 #[.agg #[.bool neg,s]] w λe w'=>e = .returned (.i (pR neg (Zk l)))∧Ext w w':=by
 have hb1:=aF w (.cells #[.bool neg,s] 24);have HC:=azO (uQ neg s l _ (hv.below hb1) Z);have HB:=azO hb1;obtain⟨a,cap,rfl⟩:=hv.shape;clear hv hb1;by_cases h0:Zk l=0
 .have hs:Hid (pR neg (Zk l)=0):=by show _=_; unfold pR; rw[azQ h0]
  have hd:(((Ux (Zk l)).length:Int)==0)=true:=by rw[h0]; rfl
  clear h0;go_enter Tryz.func173,Tryz.ntmps173
  go_wp2_with fail
  refine HC.out.mono ?_;rintro e w' ⟨x,rfl,⟨t,rfl,ht,ft⟩,hb⟩;obtain⟨b1,d1,rfl⟩:=ht.shape;have HX:=azO (K00 HB.out hb);have hsz:=HX.out.size;clear ht ft hb HC HB;go_wp2_with fail
  go_ret
  exact⟨by rw[hs.out]; rfl,HX.out.alloc hsz _⟩
 have hd:(((Ux (Zk l)).length:Int)==0)=false:=by
  rw[aAh];intro h;exact h0 (og Z)
 have hs0:Hid (∀neg,pR neg (Zk l)=if neg then -1 else 1):=λneg=>azP h0;have hp:decide (0<Zk l)=true:=aA6 Z;rw[hp]at HC;clear h0 hp;rcases aCC neg with rfl | rfl;all_goals
  go_enter Tryz.func173,Tryz.ntmps173
  go_wp2_with fail
  refine HC.out.mono ?_
  rintro e w' ⟨x,rfl,⟨t,rfl,ht,ft⟩,hb⟩
  obtain⟨b1,d1,rfl⟩:=ht.shape
  have HX:=azO (K00 HB.out hb)
  have hsz:=HX.out.size
  clear ht ft hb HC HB
  go_wp2_with fail
  go_ret
  exact⟨by rw[hs0.out]; rfl,HX.out.alloc hsz _⟩
theorem Ii(neg:Bool)(s:Value)(l:List UInt32)(w:World)(hv:aC w s l)(hlen:l.length<=100000000) :
  Calls Tryz.prog 221 #[.agg #[.bool neg,s]] w λe w'=>∃x,e = .returned x∧aO w.heap.size w' x (!neg&&decide (0<Zk l)) (Zk l)∧Ext w w':=by
 have hb0:=aF w (.cells #[.bool neg,s] 24);have hb1:=hb0.alloc Y (.cells #[.z,.sn] 24);have HC:=azO (uQ (!neg) s l _ (hv.below hb1) Z);have HB:=azO hb1;obtain⟨a,cap,rfl⟩:=hv.shape;clear hv hb1 hb0;go_enter Tryz.func221,Tryz.ntmps221
 go_wp2_with fail
 refine HC.out.mono ?_;rintro e w2 ⟨z,rfl,⟨s,rfl,hs,fs⟩,hb2⟩;obtain⟨b1,d1,rfl⟩:=hs.shape;have r0:∀i,w2.cell? ⟨w.heap.size+1,i,none⟩ = #[Value.z,.sn][i]?:=λi=>by rw[hb2.cell (p:=⟨w.heap.size+1,i,none⟩) Y]; simp[go_sem]
 have f0:∀i,w2.frozen? ⟨w.heap.size+1,i,none⟩=false:=λi=>by rw[hb2.frozen (p:=⟨w.heap.size+1,i,none⟩) Y]; simp[go_sem]
 have hz:w.heap.size+1<w2.heap.size:=by have:=hb2.size; simp at this; omega
 have HX:=azO (K00 HB.out hb2);have F:=azO (And.intro hs fs);generalize hnb:(!neg&&decide (0<Zk l))=nb at *;have HNB:=azO hnb;clear hs fs hb2 HC hnb;go_wp2_with fail
 refine bodyPost_ret (v := .agg #[.bool nb,.slice b1 (Ux (Zk l)).length d1]) (by simp[results,Tryz.results221,go_sem,r0]) I ⟨_,I,⟨_,by rw[HNB.out],?_,?_⟩,?_⟩
 .exact F.out.1.ch (((Ch.refl (w.heap.size+1) _).setCell 0 _).setCell 1 _) (λ_=>F.out.2.off Y)
 .exact F.out.2.mono (by simp; omega)
 exact(HX.out.setCell (p:=⟨_,0,none⟩) (by simp only; omega) _).setCell (p:=⟨_,1,none⟩) (by simp only; omega) _
theorem jg(x:Nat)(w:World)(h:(x:Int)<=9223372036854775807) :
  Calls Tryz.prog 124 #[.i x] w λe w'=>∃v,e = .returned v∧aA w.heap.size w' v false x 1∧Ext w w':=by
 have hb0:=aF w (.cells #[.z,.sn,.z,.sn] 26);have H1:=azO (wP x (w.alloc (.cells #[.z,.sn,.z,.sn] 26)) h);have HB0:=azO hb0;clear hb0;go_enter Tryz.func124,Tryz.ntmps124
 go_wp2_with fail
 refine H1.out.mono ?_;rintro e w1 ⟨y,rfl,⟨s,rfl,hs,fs⟩,hb1⟩;have h2:=wP 1 w1 O;have H2:=azO h2;have HS:=azO (And.intro hs fs);have HB1:=azO hb1;clear h2 H1 hs fs hb1;go_wp2_with fail
 refine H2.out.mono ?_;rintro e w2 ⟨y,rfl,⟨t,rfl,ht,ft⟩,hb2⟩;obtain⟨b1,d1,rfl⟩:=HS.out.1.shape;obtain⟨b2,d2,rfl⟩:=ht.shape;obtain⟨r0,f0,hz⟩:=iY (K00 HB1.out hb2);obtain⟨-,-,hz1⟩:=iY HB1.out;have F:=azO (And.intro (HS.out.1.below hb2) (And.intro ht (And.intro HS.out.2 ft)));have HX:=azO (K00 HB0.out (K00 HB1.out hb2));clear ht ft hb2 H2;go_wp2_with fail
 refine bodyPost_ret (v := .agg #[.z,.slice b1 (Ux x).length d1,.z,.slice b2 (Ux 1).length d2]) (by simp[results,Tryz.results124,go_sem,r0]) I ⟨_,I,⟨_,_,I,?_,?_,?_,?_⟩,?_⟩
 .exact F.out.1.ch (((((Ch.refl w.heap.size _).setCell _ _).setCell _ _).setCell _ _).setCell _ _) (λ_=>F.out.2.2.1.off Y)
 .exact F.out.2.1.ch (((((Ch.refl w.heap.size _).setCell _ _).setCell _ _).setCell _ _).setCell _ _) (λ_=>F.out.2.2.2.off hz1)
 .exact F.out.2.2.1.mono Y
 .exact F.out.2.2.2.mono Z
 exact(((HX.out.setCell (p:=⟨_,0,none⟩) (by simp only; omega) _).setCell (p:=⟨_,1,none⟩) (by simp only; omega) _).setCell (p:=⟨_,2,none⟩) (by simp only; omega) _).setCell (p:=⟨_,3,none⟩) (by simp only; omega) _
theorem uS{v:Value}{a:Nat}{w:World}(neg:Bool)(hv:aC w v (Ux a))(hlen:(Ux a).length<=1000000000) :
  Calls Tryz.prog 219 #[.bool neg,v] w λe w'=>∃x,e = .returned x∧aO w.heap.size w' x (neg&&decide (0<a)) a∧Ext w w':=by
 have h:=uQ neg v _ w hv hlen;rw[PV]at h;exact h
end
end Go.Proofs.YtodpgjjgaddkeaaGreatDoor
section
namespace Go.Sx
open Go.Proofs.YtodpgjjgaddkeaaGreatDoor Go.RowKit Go.Rel Na Go.Sx
section
variable{P:Program}{ops ops':Array Oper}{Q:Exit->Act->World->Prop}{a:Act}{w:World}
def sG(ops:Array Oper)(i:Nat):List Nat:=match ops[i]? with | some o=>o.after.toList.filterMap (λe=>match Region.binds .any e with | true=>some e.on | false=>none) | none=>[]
theorem mG{i j:Nat}{o:Oper}(ho:ops[i]?=some o):j∈sG ops i↔∃e∈o.after,Region.binds .any e=true∧e.on=j:=by
 unfold sG;rw[ho];simp only[aBm,Array.mem_toList_iff];constructor
 .rintro⟨e,he,h⟩;split at h
  .rename_i hb; exact⟨e,he,hb,az1 h⟩
  cases h
 rintro⟨e,he,hb,rfl⟩;exact⟨e,he,by rw[hb]⟩
theorem sZ{L:Array Bool}{j:Nat}:j∈Region.ready .any ops L↔j<ops.size∧L.getD j true=false∧∀q∈sG ops j,L.getD q false=true:=by
 rw[mem_ready];constructor
 .rintro⟨h0,o,ho,hall⟩;refine⟨(Array.getElem?_eq_some_iff.1 ho).1,h0,λq hq=>?_⟩;obtain⟨e,he,hb,rfl⟩:=(mG ho).1 hq;exact hall e he hb
 rintro⟨hlt,h0,h⟩;refine⟨h0,ops[j],Array.getElem?_eq_getElem hlt,λe he hb=>h _ ((mG (Array.getElem?_eq_getElem hlt)).2 ⟨e,he,hb,I⟩)⟩
theorem adF{L:Array Bool}{j:Nat}(h:j<L.size)(a b:Bool):L.getD j a=L.getD j b:=by simp[Array.getD_eq_getD_getElem?,Array.getElem?_eq_getElem h]
def axJ(P:Program)(ops:Array Oper)(l:List (Nat×Value))(h:Nat):Option (Nat×Value):=match ops[h]? with
 | some o=>(match o.guard,o.dst,zo o.op || !o.op.operands.all (λx=>(rd (lift l) [] x).isSome),iT (ev0 P (execOp (yP (lift l) []) o))with
  | none,some d,false,some (.val v)=>some (d,v)
  | _,_,_,_=>none)
 | none=>none
end
variable{k i c f h' m sl sx:Nat}{o:Oper}{ρ:Operand->Value}{e t:TypeId}{Post:Value->World->Prop}{xs ys:List Value}{z v y:Value}{A:Option Addr}{w':World}{s x:Operand}
theorem VQ(F:List Nat)(t:Nat)(os:List Oper):Alike (kP F t os).toArray os.toArray:=⟨by unfold kP; simp,λi=>by
 rw[List.getElem?_toArray,List.getElem?_toArray,tq];split
 .cases os[i]?<;>rfl
 rfl⟩
theorem wQ{P:Program}{w:World}{os:List Oper}(ho:os[i]?=some o)(hs:Std ρ)(l:List (Nat×Value))(hl:∀q v,l.lookup q=some v->ρ (.tmp q)=v)(A:List Value)(sh:Option Nat)(hT:∀v w',iO w.heap.size A sh v w'->Ext w w'->Post v w')
  (hx:∀r,((os[i]?).bind λo=>wR P r [o] l).map (λq=>(q.1,q.2.2.1,q.2.2.2.isSome))=some (A,shV sh r,true):=by intro r; kernel_rfl):Does P o ρ w Post:=by
 have hx:=hx w.heap.size;rw[ho,aBP]at hx;unfold wR at hx;simp only at hx;split at hx
 .rename_i A' ty k' hg hav hev;split at hx
  .rename_i v hv;simp only[aAF,azT,azW]at hx;obtain⟨rfl,rfl,hd⟩:=hx;simp only[aAI]at hav;have hH:Holds ρ (lift l):=λq x hq=>by
    rw[jK]at hq;cases h2:l.lookup q with
    | none=>simp[h2]at hq
    | some u =>
     simp only[h2,aAF,azT]at hq;subst hq;rw[hl q u h2]; rfl
   have hc:execOp ρ o=execOp (yP (lift l) []) o:=by
    refine execOp_congr o (λcs b e1=>by rw[e1]at hav; cases hav.1) λx hx=>?_;have h2:=hav.2;simp only[aBg,aB7]at h2;obtain⟨z,hz⟩:=aAY.1 (h2 x hx);rw[gX hs (iq hH o x hx) (p:=[]) I hz];simp[yP,hz]
   have hv':ev0 P k'=some (.value (shV sh w.heap.size)):=by
    unfold iT at hv;split at hv
    .rename_i h; obtain h2:=az1 hv; rw[h]; simp only[EZ.val.injEq]at h2; rw[h2]
    .cases hv
    cases hv
   have hrun:(execOp ρ o).run P w = .ok (.value (shV sh w.heap.size)) (w.alloc (.cells A'.toArray ty)):=by rw[hc,ni hev,nO hv']
   unfold Does;rw[hrun];exact hT _ _ ⟨w.heap.size,I,azS _,GY _ _ _⟩ (aF _ _)
  simp at hx
 simp at hx
theorem oC{α:Type}{f:α->List Value}{w:World}{a:Option Addr}{L:List α}(h:aJ k f w (.slice a L.length c) L){l:Nat}(h1:l<=h')(h2:h'<=L.length)(h3:h'<=m)(h4:m<=c):aJ k f w (.slice (pJ a l m k) (h'-l) (m-l)) ((L.drop l).take (h'-l)):=by
 have hlen:((L.drop l).take (h'-l)).length=h'-l:=by simp; omega
 obtain⟨a',cap,hv,hm,hh⟩:=h;simp only[aAq,true_and]at hv;obtain⟨rfl,rfl⟩:=hv;refine⟨pJ a l m k,m-l,by rw[hlen],aAa Z hm,?_⟩;rcases hh with ⟨rfl,hz⟩ | ⟨b,o,rfl,hb,hl,hc⟩
 .refine .inl ⟨by simp,λe=>?_⟩;have:c=0:=hz (by
   unfold pJ at e;split at e
   .exact e
   cases a with
   | none=>rfl
   | some _=>cases e)
  omega
 by_cases hlm:m=l
 .refine .inl ⟨by rw[show h'-l=0 by omega]; rfl,λe=>by
  unfold pJ at e; rw[azQ hlm]at e; cases e⟩
 refine .inr ⟨b,o+l*k,by unfold pJ; rw[azP hlm]; simp[Addr.add],hb,by rw[hlen]; omega,λi hi j hj=>?_⟩;rw[hlen]at hi;have h5:=hc (l+i) Z j hj;have e1:o+l*k+i*k+j=o+(l+i)*k+j:=by rw[aBk]; omega
 rw[e1,h5,aCu,List.getElem_drop]
theorem VR{α:Type}{base:Nat}{f:α->List Value}{w:World}{a:Option Addr}{L:List α}(h:nY e k f base (.slice a L.length c) L w)(h2:h'<=L.length)(h3:h'<=m)(h4:m<=c):nY e k f base (.slice a h' m) (L.take h') w:=by
 have h5:=oC h.1 (azZ _) h2 h3 h4;have hlen:(L.take h').length=h':=by simp; omega
 have e0:((L.drop 0).take (h'-0))=L.take h':=by simp
 rw[e0,Nat.sub_zero,Nat.sub_zero]at h5;have ea:pJ a 0 m k=a:=by unfold pJ; split<;>cases a<;>simp[Addr.add]
 rw[ea]at h5;refine⟨h5,?_⟩;rcases h.2 with h6 | ⟨g,cap,cur,h6,h7,h8,h9⟩
 .exact .inl Z
 simp only[aAq,true_and]at h6;obtain⟨rfl,rfl⟩:=h6;exact .inr ⟨g,m,cur,by rw[hlen],h7,h8,by rw[hlen]; exact aAa (aBj _ h2) h9⟩
theorem adG(a:Option Addr)(m k:Nat):pJ a 0 m k=a:=by unfold pJ; split<;>cases a<;>simp[Addr.add]
theorem Dy{α:Type}{f:α->List Value}{w:World}{a:Option Addr}{L:List α}(h:aJ k f w (.slice a L.length c) L)(hi:i<=L.length)(hc:i<=c):aJ k f w (.slice (pJ a 0 i k) i i) (L.take i):=by
 have:=oC h (azZ i) hi (azS i) hc;simpa using this
theorem aaG{α:Type}{f:α->List Value}{w:World}{a:Option Addr}{L:List α}(h:aJ k f w (.slice a L.length c) L)(hi:i<=L.length)(hc:L.length<=c):aJ k f w (.slice (pJ a i c k) (L.length-i) (c-i)) (L.drop i):=by
 have:=oC h hi (azS _) hc (azS c);rwa [aAv Y]at this
theorem iH{α:Type}{f:α->List Value}{w:World}{a:Option Addr}{L:List α}(h:aJ k f w (.slice a L.length c) L):L.length<=c:=by
 obtain⟨a',cap,hv,hm,hh⟩:=h;simp only[aAq,true_and]at hv;obtain⟨rfl,rfl⟩:=hv;rcases hh with ⟨rfl,_⟩ | ⟨b,o,_,_,hl,_⟩
 .exact azZ _
 exact hl
theorem dB{w:World}{B:Nat}{n:Nat}(h:w.ownsRow B e k v n xs)(hE:Ext w w'):w'.ownsRow B e k v n xs:=mJ h λg hg=>hE.block g (iP h hg).2
theorem adH{P:Program}{w:World}(ho:o.op = .call { callee := .builtin .append,args := #[s,x],argTypes := #[t,t] }){bytes:Nat}(T:iK P t e z k bytes)
     (hv:dQ w k (.slice A f f) f xs) (hs:ρ s = .slice A f f)    (hy:dQ w k y c ys) (hx:ρ x=y) (hc0:0<c) (h63:f+c<=maxLen) (hbytes:(f+c)*bytes<=140737488355328) :
  ∃v' w',(execOp ρ o).run P w = .ok (.value v') w'∧w'.ownsRow w.heap.size e k v' (f+c) (xs++ys)∧Ext w w':=by
 cases A with
 | some ad=>exact RF ho T hv hs hy hx Z hc0 h63 hbytes
 | none =>
  have hf:f=0:=by
   rcases hv.2.2 with ⟨h,_⟩ | ⟨_,_,_,h,_⟩
   .exact h
   cases h
  subst hf;have hxs:xs=[]:=aBd (by simpa using hv.1);subst hxs;obtain⟨v',w',hr,h2,h3,-⟩:=Oi (P:=P) (B:=w.heap.size) ho T (v := .sn) (m:=0) (xs:=[]) ⟨by simp,.inl ⟨I,I⟩⟩ hs hy hx h63 hbytes (azS _);exact⟨v',w',hr,h2,⟨h3.os,h3.tape,h3.output,h3.size,λi hi=>h3.block i hi λe=>by cases e⟩⟩
def RG(os:List Oper)(i:Nat):Option (Operand×Operand×TypeId×Bool):=match os[i]? with
 | some o=>(match o.op with
  | .call c=>(match c.callee,c.args.toList,c.argTypes.toList with
   | .builtin .append,[s,x],[t,t']=>(match t==t' with | true=>some (s,x,t,o.dst.isSome) | false=>none)
   | _,_,_=>none)
  | _=>none)
 | none=>none
theorem Ij{os:List Oper}{b:Bool}(h:RG os i=some (s,x,t,b))(ho:os[i]?=some o):o.op = .call { callee := .builtin .append,args := #[s,x],argTypes := #[t,t] }∧o.dst.isSome=b:=by
 unfold RG at h;rw[ho]at h;simp only at h;split at h
 .rename_i c hop;split at h
  .rename_i s' x' t1 t2 h1 h2 h3;split at h
   .rename_i ht;simp only[azT,azW]at h;obtain⟨rfl,rfl,rfl,rfl⟩:=h;obtain rfl:t1=t2:=by simpa using ht
    refine⟨?_,I⟩;rw[hop];obtain⟨callee,args,argTypes⟩:=c;simp only at h1 h2 h3;rw[h1,<-aCf (xs:=args),<-aCf (xs:=argTypes),h2,h3]
   cases h
  cases h
 cases h
theorem wS{P:Program}{w:World}{os:List Oper}(ho:os[i]?=some o){bytes:Nat}(T:iK P t e z k bytes)
  (hs:ρ (.tmp sl) = .slice A f f) (hx:ρ (.tmp sx)=y) (hv:dQ w k (.slice A f f) f xs) (hy:dQ w k y c ys) (hc0:0<c) (h63:f+c<=maxLen) (hbytes:(f+c)*bytes<=140737488355328)  (hK:∀v' w',w'.ownsRow w.heap.size e k v' (f+c) (xs++ys)->Ext w w'->Post v' w')
  (hop:RG os i=some (.tmp sl,.tmp sx,t,true):=by kernel_rfl):Does P o ρ w Post:=by
 obtain⟨h1,h2⟩:=Ij hop ho;obtain⟨v',w',hr,h3,h4⟩:=adH (P:=P) h1 T hv hs hy hx hc0 h63 hbytes;unfold Does;rw[hr];exact hK v' w' h3 h4
theorem aaH{P:Program}{w:World}{os:List Oper}(ho:os[i]?=some o){bytes:Nat}(T:iK P t e z k bytes){B:Option Addr}{cf:Nat}(hf:f<=cf)
  (hs:ρ (.tmp sl) = .slice A f cf) (hx:ρ (.tmp sx) = .slice B 0 c)  (hK:Post (.slice A f cf) w) (hop:RG os i=some (.tmp sl,.tmp sx,t,true):=by kernel_rfl):Does P o ρ w Post:=by
 obtain⟨h1,h2⟩:=Ij hop ho;obtain⟨i',hi',-⟩:=T.info;have hr:=Fa (P:=P) (w:=w) (ty:=o.type) T.und hi' A B f cf c hf;have hrun:(execOp ρ o).run P w = .ok (.value (.slice A f cf)) w:=by
  unfold execOp;simp only[h1,resolve,invoke,builtin,aAS,aCb,aB6,aCy,aAE,aA2,hs,hx,hr]
 unfold Does;rw[hrun];exact hK
theorem ku{os:List Oper}{U:Ak}{d:Nat}{K:Fact}{w:World}(ho:os[i]?=some o)(hd:(os[i]?).bind (·.dst)=some d)(hU:U.lookup d=some K)(hE:Ext w w')(h:K v w'):Ext w w'∧hpost U o (kept o v) w':=by
 rw[ho,aBP]at hd;refine⟨hE,?_⟩;unfold hpost;rw[hd];simp only[hU];unfold kept;rw[hd];exact h
def evV(P:Program)(o:Oper)(l:List (Nat×Value)):Option Value:=match zo o.op || !o.op.operands.all (λx=>(rd (lift l) [] x).isSome),iT (ev0 P (execOp (yP (lift l) []) o))with
 | false,some (.val v)=>some v
 | _,_=>none
theorem jA{P:Program}{w:World}{os:List Oper}(ho:os[i]?=some o)(hs:Std ρ)(l:List (Nat×Value))(hl:∀q v,l.lookup q=some v->ρ (.tmp q)=v)(v:Value)(hK:Post v w)
  (hx:(os[i]?).bind (λo=>evV P o l)=some v:=by kernel_rfl):Does P o ρ w Post:=by
 rw[ho,aBP]at hx;unfold evV at hx;split at hx
 .rename_i v' hav hev;obtain rfl:=az1 hx;simp only[aAI]at hav;have hH:Holds ρ (lift l):=λq x hq=>by
   rw[jK]at hq;cases h2:l.lookup q with
   | none=>simp[h2]at hq
   | some u =>
    simp only[h2,aAF,azT]at hq;subst hq;rw[hl q u h2]; rfl
  have hrun:(execOp ρ o).run P w = .ok (.value v') w:=lS hs (iq hH o) (p:=[]) I hav.1 (by simpa using hav.2) hev;unfold Does;rw[hrun];exact hK
 cases hx
theorem look1{s:Nat}{u:Value}(h:ρ (.tmp s)=u):∀q v,List.lookup q [(s,u)]=some v->ρ (.tmp q)=v:=λq v hq=>by
 rw[aAG]at hq;split at hq
 .rename_i hq2;obtain rfl:q=s:=by simpa using hq2
  rw[<-az1 hq,h]
 cases hq
section
variable{P:Program}{os:List Oper}{Q:Exit->Act->World->Prop}{w0:World}{a:Act}{w:World}{n:Nat}{l:List (Nat×Value)}{bl:List (Nat×List Value)}{vs:List fD}
variable{f i b:Nat}{o:Oper}{A:List Value}{R:Ending->World->Prop}
theorem agE{ops:Array Oper}{K:Act->World->Prop}(ho:ops[i]?=some o)(h:wpList P ops (Fb λ_ a w=>K a w) [o] a w):wpOp P ops Q i K a w:=by
 unfold wpOp;rw[ho];unfold wpList at h;simp only;split at h
 .rename_i hw;rw[azQ hw];rcases h with h | ⟨_,h⟩
  .left;unfold Oper.wp at *;generalize (execOp a.eval _).run P w=r at *;cases r with
   | ok n w' =>
    cases n<;>simp only[Oper.upon]at h |-;case value u=>exact h
    case skip=>exact h
    case defer d=>exact h
    case enter f args =>
     refine Calls.mono h λe w'' he=>?_;cases e with
     | returned u=>exact he
     | panicked c=>exact he.elim
     | outgrown=>exact(tu he).elim
    case row row args=>exact Rows.mono h λu w'' he=>he
   | halt x w' =>
    cases x<;>simp only[Oper.upon]at h |-;case panic u=>exact h.elim
  exact(tu h).elim
 rename_i hw;rw[azP hw];exact h
def one(os:List Oper)(i:Nat):List Oper:=(os.drop i).take 1
theorem adI(h:os[i]?=some o):one os i=[o]:=by
 have hi:=(List.getElem?_eq_some_iff.1 h).1;unfold one;rw[aAZ hi,List.take_succ_cons,List.take_zero];rw[List.getElem?_eq_getElem hi]at h;rw[az1 h]
abbrev adJ (P:Program)(Q:Exit->Act->World->Prop)(os:List Oper)(f:Nat)(L:Array Bool)(a:Act)(w:World)(i:Nat):Prop:=wpList P os.toArray (Fb λ_ a w=>wpAny P .any os.toArray Q f (L.setIfInBounds i true) a w) (one os i) a w
theorem YA{L:Array Bool}{rs:List Nat}(hne:rs≠[])(h:∀i∈rs,adJ P Q os f L a w i)(hr:Region.ready .any os.toArray L=rs):wpAny P .any os.toArray Q (f+1) L a w:=by
 refine⟨λh0=>absurd (hr.symm.trans h0) hne,λi hi=>?_⟩;obtain⟨_,o,ho,_⟩:=mem_ready.1 hi;rw[hr]at hi;refine agE ho ?_;have:=h i hi;unfold adJ at this;rwa [adI (by simpa using ho)]at this
theorem agF{L:Array Bool}(i:Nat)(h:adJ P Q os f L a w i)(hr:Region.ready .any os.toArray L=[i]:=by kernel_rfl):wpAny P .any os.toArray Q (f+1) L a w:=YA Y (λj hj=>by obtain rfl:=aAn.1 hj; exact h) hr
theorem am5{L:Array Bool}(i j:Nat)(h:adJ P Q os f L a w i)(k:adJ P Q os f L a w j)(hr:Region.ready .any os.toArray L=[i,j]:=by kernel_rfl):wpAny P .any os.toArray Q (f+1) L a w:=YA Y (λx hx=>by
 rcases az2.1 hx with rfl | hx
 .exact h
 obtain rfl:=aAn.1 hx; exact k) hr
theorem RH{Q':Exit->Act->World->Prop}{ops:Array Oper}{m:List Oper}(h:Q' .normal a w)(hm:m.isEmpty=true:=by kernel_rfl):wpList P ops (Fb Q') m a w:=by
 rw[List.isEmpty_iff.1 hm]; exact h
theorem VT{L:Array Bool}(m:Nat)(h:wpList P os.toArray Q (os.drop m) a w)(hs:(Region.seqB .any os.toArray f m L&&decide (os.length=m+f))=true:=by kernel_rfl):wpAny P .any os.toArray Q f L a w:=by
 simp only[az7,az6]at hs;have e:(os.drop m).length=f:=by rw[aBT]; omega
 subst e;exact wpAny_of_seq (os.drop m) m L a w (λj=>by simp[List.getElem?_drop]) hs.1 h
theorem ordered(S:St w0 a w n l bl vs){id:Nat}(f:Nat)(next:∀a' w',Ext w w'->St w0 a' w' n l bl vs->wpAny P .any os.toArray Q f (Array.replicate f false) a' w')(hf:(os.length==f)=true:=by kernel_rfl)(hmo:P.follows .mixedOrders=true:=by kernel_rfl):(Code.region id os.toArray true).wp P Q a w:=by
 have hE:Ext w { w with drawn:=w.drawn+1 }:=below_drewN (aAe _ _) 1;have key:=next a _ hE (S.grow hE);obtain rfl:=eq_of_beq hf;exact aBW hmo (by simpa using key)
theorem LD{ops:Array Oper}(S:St w0 a w n l ((b,A)::bl) vs){wc:World}{f:FuncId}{args:Array Value}(d:Option Nat)(h0:Ext w0 wc)(hcw:Ext wc w)(hlt:∀p∈bl,p.1<wc.heap.size)(hc:Calls P f args w R)
  (next:∀e w',R e w'->∃v A',e = .returned v∧Ext wc w'∧Bx w' b (List.toArray A')∧∀a',St w0 a' w' n (yQ l d v) ((b,A')::bl) []->wpList P ops Q (os.drop 1) a' w')
  (hx:callOf P os l=some (f,args,d):=by kernel_rfl) (hd:vI n d=true:=by rfl):wpList P ops Q os a w:=by
 cases os with
 | nil=>cases hx
 | cons o os =>
  unfold callOf at hx;simp only at hx;split at hx
  .rename_i f' args' hg hav hev;simp only[azT,azW]at hx;obtain⟨rfl,rfl,rfl⟩:=hx;simp only[aAI]at hav;have hrun:(execOp a.eval o).run P w = .ok (.enter f' args') w:=lS (Std.act a) (iq (bZ S.s) o) (p:=[]) I hav.1 (by simpa using hav.2) hev;unfold wpList;rw[azQ (by simp[Region.wanted,hg])];left;unfold Oper.wp;rw[hrun];simp only[Oper.upon];refine hc.mono λe w' hR=>?_;obtain⟨v,A',rfl,hE,hX,hn⟩:=next e w' hR;refine hn _ ⟨uP S.s hd v,K00 h0 hE,λp hp=>?_,S.apart,λm hm=>(by cases hm)⟩;rcases az2.1 hp with rfl | hp
   .exact⟨hX,(S.own _ az5).2⟩
   have h1:=S.own p (aA4 _ hp);have hl:=hlt p hp;exact⟨⟨aAk hl hE.size,λi=>(hE.cell (p:=⟨p.1,i,none⟩) hl).trans ((hcw.cell (p:=⟨p.1,i,none⟩) hl).symm.trans (h1.1.2.1 i)),λi=>(hE.frozen (p:=⟨p.1,i,none⟩) hl).trans ((hcw.frozen (p:=⟨p.1,i,none⟩) hl).symm.trans (h1.1.2.2 i))⟩,h1.2⟩
  cases hx
theorem aj6(S:St w0 a w n l bl vs)(k:Nat){fn:Func}{r s t:Nat}{ty:TypeId}{v u z:Value}(hr:fn.results = #[.cell r ty,.tmp s,.tmp t])(hk:bl[k]?=some (b,A))(h:R (.returned (.tuple #[v,u,z])) w)
  (hv:Vp.ev l (.tmp r)=some (.q b 0):=by kernel_rfl) (hu:Vp.ev l (.tmp s)=some u:=by rfl) (hz:Vp.ev l (.tmp t)=some z:=by rfl) (hl:Ql P ty A=some v:=by kernel_rfl):bodyPost P fn R .ret a w:=by
 refine⟨S.s.defers,_,?_,h⟩;have h1:=S.s.ev hv;have h3:=S.s.ev hu;have h4:=S.s.ev hz;have h2:=S.var hk hl;unfold results;rw[hr];simp only[Act.eval,Array.getD_eq_getD_getElem?]at h1 h3 h4;simp[h1,h3,h4,asAddr,h2]
end
end Go.Sx
namespace Go.Proofs.YtodpgjjgaddkeaaGreatDoor
open Go.RowKit Na Go.Sx
variable{α:Type}
theorem _root_.Go.Sx.VU{P:Program}{w0 w:World}{a:Act}{n:Nat}{l:List (Nat×Value)}{bl:List (Nat×List Value)}{vs:List Sx.fD}(S:Sx.St w0 a w n l bl vs){fn:Func}{R:Ending->World->Prop}(i j:Nat){r s t b c:Nat}{ty:TypeId}{A B:List Value}{u v x:Value}(hr:fn.results = #[.cell r ty,.cell s ty,.tmp t])(hi:bl[i]?=some (b,A))(hj:bl[j]?=some (c,B))(h:R (.returned (.tuple #[u,v,x])) w)
  (h1:Vp.ev l (.tmp r)=some (.q b 0):=by kernel_rfl) (h2:Vp.ev l (.tmp s)=some (.q c 0):=by kernel_rfl) (h3:Vp.ev l (.tmp t)=some x:=by kernel_rfl) (l1:Sx.Ql P ty A=some u:=by kernel_rfl) (l2:Sx.Ql P ty B=some v:=by kernel_rfl):bodyPost P fn R .ret a w:=by
 refine⟨S.s.defers,_,?_,h⟩;have e1:=S.s.ev h1;have e2:=S.s.ev h2;have e3:=S.s.ev h3;unfold results;rw[hr];simp only[Act.eval,Array.getD_eq_getD_getElem?]at e1 e2 e3;simp[e1,e2,e3,asAddr,S.var hi l1,S.var hj l2]
variable{s:Value}{b neg:Bool}{base:Nat}
theorem RI{m:List UInt32}{w:World}(h:aC w s m)(hm:0<Zk m)(hl:m.length<=100000000) :
  Calls Tryz.prog 173 #[.agg #[.z,s]] w λe w'=>e = .returned (.i 1)∧Ext w w':=by
 have hc:=rF false _ m w h hl;rw[show pR false (Zk m)=1 from by unfold pR; rw[azP Z]; rfl]at hc;exact hc
theorem Oj{w:World}(h:aC w s (Ux 0)) :
  Calls Tryz.prog 173 #[.agg #[.bool b,s]] w λe w'=>e = .returned (.i 0)∧Ext w w':=by
 have hc:=rF b _ _ w h (by simp[jD]);rw[PV,show pR b 0=0 from rfl]at hc;exact hc
theorem mM{w:World}{n:Nat}(h:aO base w (.agg #[.bool b,s]) neg n):aC w s (Ux n):=by
 obtain⟨t,e,hs,_⟩:=h;simp only[aBC,aBD,aAp,and_true]at e;obtain⟨-,rfl⟩:=e;exact hs
theorem aO.flag{base:Nat}{w:World}{v:Value}{n n':Bool}{a:Nat}(h:aO base w v n a)(e:n=n'):aO base w v n' a:=e▸h
theorem RJ{w:World}{c n1 n2:Bool}{t:Value}{x y:Nat}(h:aO base w (.agg #[.bool b,s]) n1 x)(k:aO base w (.agg #[.bool c,t]) n2 y)(e1:n1=neg)(e2:n2=false):aA base w (.agg #[.bool b,s,.bool c,t]) neg x y:=by
 obtain⟨s',e,hs,fs⟩:=h;obtain⟨t',e',ht,ft⟩:=k;simp only[aBC,aBD,aAp,Value.bool.injEq,and_true]at e e';obtain⟨rfl,rfl⟩:=e;obtain⟨rfl,rfl⟩:=e';exact⟨_,_,by rw[e1,e2],hs,ht,fs,ft⟩
theorem adK{n:Bool}{b:Nat}(hb:0<b):decide (pR n b<0)=n:=by
 unfold pR;rw[azP Z];cases n<;>simp
theorem RN(n1 n2:Bool)(a b:Nat)(hb:0<b):lJ n1 n2 a b=((if n2 then !n1&&decide (0<a)else n1)&&decide (0<a/Nat.gcd a b)):=by
 unfold lJ;rcases aAC a with h | h
 .subst h; simp
 congr 1;unfold pR;rw[azP (show ¬a=0 by omega),azP (show ¬b=0 by omega)];cases n1<;>cases n2<;>simp[h]
theorem lF(n1:Bool)(s t:Value)(l m:List UInt32)(w:World)(h1:aC w s l)(h2:aC w t m)(hm:0<Zk m)(hdvd:Zk l%Zk m=0)(hl1:l.length<=5000000)(hl2:m.length<=5000000) :
  Calls Tryz.prog 222 #[.agg #[.bool n1,s],.agg #[.z,t]] w λe w'=>∃x y,e = .returned (.tuple #[x,y,.i 0]) ∧
   aO w.heap.size w' x (n1&&decide (0<Zk l/Zk m)) (Zk l/Zk m)∧aO w.heap.size w' y false 0∧Ext w w':=by
 obtain⟨a1,c1,rfl⟩:=h1.shape;obtain⟨a2,c2,rfl⟩:=h2.shape;refine azX Tryz.func222 Tryz.ntmps222 λac S=>azn λ_ gQ=>qO S 2 [.bool n1,.slice a1 l.length c1] λac u b2 E3 hb4 S=>qO S 3 [.z,.slice a2 m.length c2] λac u b5 E6 hb7 S=>qO S 4 [.z,.sn] λac u b8 E9 zZ S=>qO S 5 [.z,.sn] λac u b11 pW acY S=>azk S 1 [] [(6,.i 0)] λS=>azl<|gQ _ _<|az8 λ_ vP=>azn λ_ Ib=>azk S 1 [.mem 2 0] [(12,.agg #[.z,.slice a2 m.length c2])] λS=>BO S 13 (RI (h2.below S.E) hm Z) λac u Af S=>azk S 1 [] [(14,.z)] λS=>azl<|Ib _ _<|Ei S<|aAs<|vP _ _<|azn λ_ Oa=>azk S 4 [.mem 3 1,.mem 2 1] [(19,.slice a1 l.length c1),(21,.slice a2 m.length c2)] λS=>jL S (some 22) (zi _ _ l m _ (h1.below S.E) (h2.below S.E) hm Z Z) ?_;rintro e u ⟨q,r,rfl,hq,hr,zL⟩;have hq:aC _ _ _:=aZ hq;have hr:aC _ _ _:=aZ hr;rw[hdvd]at hr;obtain⟨aq,cq,rfl⟩:=hq.shape;obtain⟨ar,cr,rfl⟩:=hr.shape;refine⟨_,I,zL,λac S=>?_⟩;refine azk S 7 [] [(7,.slice aq (Ux (Zk l/Zk m)).length cq),(8,.slice ar (Ux 0).length cr)] λS=>azl<|Oa _ _<|azn λ_ ajT=>azk S 6 [.mem 3 0,.mem 2 0] [(30,.bool (!(n1==false))),(31,.slice aq (Ux (Zk l/Zk m)).length cq)] λS=>jL S (some 32) (uS (!(n1==false)) hq (by have:=fK (aBX (Zk l) (Zk m)); have:=bY l; omega)) ?_;rintro e u ⟨x,rfl,fx,yN⟩;obtain⟨YB,YC,rfl⟩:=fx.shape;have am6:=S.E.size;refine⟨_,I,yN,λac S=>?_⟩;refine qO S 10 [.z,.sn] λac u b21 Qm ajU S=>azR S 0 (off:=0) (cs:=[.bool ((!(n1==false))&&decide (0<(Zk l/Zk m))),.slice YB (Ux (Zk l/Zk m)).length YC]) I (λu NY S=>?_);have FH:=azr (K00 yN Qm) NY (by have:=yN.size; omega);have UU:=azr (K00 yN Qm) NY (by have:=yN.size; omega);have E27:=azr Qm NY Z;refine azl<|ajT _ _<|azn λ_ adL=>azk S 3 [.mem 4 0] [(34,.bool n1),(35,.slice ar (Ux 0).length cr)] λS=>jL S (some 36) (uS n1 (hr.below UU) (by simp[jD])) ?_;rintro e u ⟨x,rfl,fy,yL⟩;obtain⟨VW,VX,rfl⟩:=fy.shape;have am7:=S.E.size;refine⟨_,I,yL,λac S=>?_⟩;refine qO S 11 [.z,.sn] λac u b30 Df aap S=>azR S 0 (off:=0) (cs:=[.bool (n1&&decide (0<0)),.slice VW (Ux 0).length VX]) I (λu NZ S=>?_);have E34:=azr (K00 FH (K00 yL Df)) NZ (by have:=(K00 FH yL).size; omega);have J4:=azr (K00 UU (K00 yL Df)) NZ (by have:=(K00 UU yL).size; omega);have FQ:=azr (K00 E27 (K00 yL Df)) NZ (by have:=(K00 E27 yL).size; omega);have EX:=azr Df NZ Z;refine azl<|adL _ _<|az8 λ_ aj7=>azn λ_ aj8=>adw S 10 [.mem 5 0,.mem 4 0,.mem 0 0] [(_,_,(!(n1==false)),.i 0)] [(46,.bool ((!(n1==false))&&false))] ⟨λu hC g=>Oj (b:=n1&&decide (0<0)) (mM (fy.ext (K00 EX hC))),G⟩ λac u Yv S=>azl (aj8 _ _ ?_);refine azM S (λJ9=>?_) (λJ9=>?_)
 .simp at J9
 refine aAs<|aj7 _ _<|az8 λ_ adM=>Sx.ordered S 5 λac u E43 S=>Sx.am5 0 1 ?_ ?_
 .refine azk S 1 [.mem 1 0] [(53,.agg #[.bool ((!(n1==false))&&decide (0<(Zk l/Zk m))),.slice YB (Ux (Zk l/Zk m)).length YC])] λS=>Sx.RH<|Sx.am5 1 2 ?_ ?_
  .refine azk S 1 [.mem 0 0] [(54,.agg #[.bool (n1&&decide (0<0)),.slice VW (Ux 0).length VX])] λS=>Sx.RH<|Sx.agF 2 ?_;have X45:=S.bx 3;refine azR S 3 (off:=0) (cs:=[.bool ((!(n1==false))&&decide (0<(Zk l/Zk m))),.slice YB (Ux (Zk l/Zk m)).length YC]) I (λu C44 S=>?_);have Kr:=aO.dY (fx.ext (K00 FQ (K00 Yv E43))) C44 X45;have Kt:=aO.dY (fy.ext (K00 EX (K00 Yv E43))) C44 X45;refine Sx.RH<|Sx.VT 3 ?_;have X49:=S.bx 2;refine azR S 2 (off:=0) (cs:=[.bool (n1&&decide (0<0)),.slice VW (Ux 0).length VX]) I (λu C48 S=>?_);have VY:=aO.dY Kr C48 X49;have Hr:=aO.dY Kt C48 X49;refine azk S 1 [] [(6,.i 0)] λS=>azl<|adM _ _<|Vp.rt ?_;refine Sx.VU S 3 2 Tryz.results222 I I ⟨_,_,I,(aO.mono VY Z).flag Y,(aO.mono Hr Z).flag Y,S.E⟩
  have X53:=S.bx 3;refine azR S 3 (off:=0) (cs:=[.bool ((!(n1==false))&&decide (0<(Zk l/Zk m))),.slice YB (Ux (Zk l/Zk m)).length YC]) I (λu C52 S=>?_);have RP:=aO.dY (fx.ext (K00 FQ (K00 Yv E43))) C52 X53;have RQ:=aO.dY (fy.ext (K00 EX (K00 Yv E43))) C52 X53;refine Sx.RH<|Sx.agF 1<|azk S 1 [.mem 0 0] [(54,.agg #[.bool (n1&&decide (0<0)),.slice VW (Ux 0).length VX])] λS=>Sx.RH<|Sx.VT 3 ?_;have X57:=S.bx 2;refine azR S 2 (off:=0) (cs:=[.bool (n1&&decide (0<0)),.slice VW (Ux 0).length VX]) I (λu C56 S=>?_);have BR:=aO.dY RP C56 X57;have Ik:=aO.dY RQ C56 X57;refine azk S 1 [] [(6,.i 0)] λS=>azl<|adM _ _<|Vp.rt ?_;refine Sx.VU S 3 2 Tryz.results222 I I ⟨_,_,I,(aO.mono BR Z).flag Y,(aO.mono Ik Z).flag Y,S.E⟩
 refine azk S 1 [.mem 0 0] [(54,.agg #[.bool (n1&&decide (0<0)),.slice VW (Ux 0).length VX])] λS=>Sx.RH<|Sx.agF 0<|azk S 1 [.mem 1 0] [(53,.agg #[.bool ((!(n1==false))&&decide (0<(Zk l/Zk m))),.slice YB (Ux (Zk l/Zk m)).length YC])] λS=>Sx.RH<|Sx.agF 2 ?_;have X61:=S.bx 3;refine azR S 3 (off:=0) (cs:=[.bool ((!(n1==false))&&decide (0<(Zk l/Zk m))),.slice YB (Ux (Zk l/Zk m)).length YC]) I (λu U2 S=>?_);have BU:=aO.dY (fx.ext (K00 FQ (K00 Yv E43))) U2 X61;have wU:=aO.dY (fy.ext (K00 EX (K00 Yv E43))) U2 X61;refine Sx.RH<|Sx.VT 3 ?_;have X65:=S.bx 2;refine azR S 2 (off:=0) (cs:=[.bool (n1&&decide (0<0)),.slice VW (Ux 0).length VX]) I (λu C64 S=>?_);have VZ:=aO.dY BU C64 X65;have Ht:=aO.dY wU C64 X65;refine azk S 1 [] [(6,.i 0)] λS=>azl<|adM _ _<|Vp.rt ?_;refine Sx.VU S 3 2 Tryz.results222 I I ⟨_,_,I,(aO.mono VZ Z).flag Y,(aO.mono Ht Z).flag Y,S.E⟩
theorem Ku(n1 n2:Bool)(s1 s2:Value)(l m:List UInt32)(w:World)(h1:aC w s1 l)(h2:aC w s2 m)(hm:0<Zk m)(hl1:l.length<=5000000)(hl2:m.length<=5000000) :
  Calls Tryz.prog 174 #[.agg #[.bool n1,s1],.agg #[.bool n2,s2]] w λe w'=>∃x,e = .returned x ∧
   aA w.heap.size w' x (lJ n1 n2 (Zk l) (Zk m)) (Zk l/Nat.gcd (Zk l) (Zk m)) (Zk m/Nat.gcd (Zk l) (Zk m))∧Ext w w':=by
 obtain⟨a1,c1,rfl⟩:=h1.shape;obtain⟨a2,c2,rfl⟩:=h2.shape;have hG:0<(Nat.gcd (Zk l) (Zk m)):=aCx _ hm;have hGl:(Ux (Nat.gcd (Zk l) (Zk m))).length<=5000000:=by have:=fK (Nat.le_of_dvd hm (aCe (Zk l) (Zk m))); have:=bY m; omega
 refine azp Tryz.func174 Tryz.ntmps174 λS=>azs S [.bool n1,.slice a1 l.length c1] λu b2 E3 hb4 S=>azs S [.bool n2,.slice a2 m.length c2] λu b5 E6 hb7 S=>azs S Sx.zr λu b8 E9 zZ S=>adr S 4 [] [.mem 2 1,.mem 1 1] λS=>azz S (VP _ _ l m _ (h1.below S.E) (h2.below S.E) hl1 hl2) ?_;rintro e u ⟨g,rfl,hg,pW⟩;obtain⟨ag,cg,rfl⟩:=hg.shape;refine⟨_,I,pW,λS=>?_⟩;refine azz S (uS false hg Z) ?_;rintro e u ⟨x,rfl,fg,Dj⟩;obtain⟨bg,dg,rfl⟩:=fg.shape;refine⟨_,I,Dj,λS=>?_⟩;refine azs S [.z,.sn] λu b14 E15 hb16 S=>azx S 0 (off:=0) (cs:=[.z,.slice bg (Ux (Nat.gcd (Zk l) (Zk m))).length dg]) I (λu J3 S=>?_);have zL:=azr E15 J3;refine adr S 1 [] [.mem 2 0] λS=>azB S (rF n2 _ m _ (h2.below S.E) Z) λu Dc S=>azm S (decide ((pR n2 (Zk m))<0)) (λhc22 S=>?_) (λhc22 S=>?_)
 .have hn:n2=true:=(adK hm).symm.trans hc22;refine adr S 1 [] [.mem 3 0] λS=>azz S (Ii n1 _ l _ (h1.below S.E) Z) ?_;rintro e u ⟨x,rfl,nx,yO⟩;obtain⟨bnx,dnx,rfl⟩:=nx.shape;refine⟨_,I,yO,λS=>?_⟩;have X26:=S.bx 3;refine azx S 3 (off:=0) (cs:=[.bool (!n1&&decide (0<Zk l)),.slice bnx (Ux (Zk l)).length dnx]) I (λu ZO S=>?_);have yK:=aO.dY (fg.ext (K00 zL (K00 Dc yO))) ZO X26;have Dz:=aO.dY nx ZO X26;refine adr S 1 [] [.mem 2 0] λS=>azz S (Ii n2 _ m _ (h2.below S.E) Z) ?_;rintro e u ⟨x,rfl,ny,yL⟩;obtain⟨bny,dny,rfl⟩:=ny.shape;refine⟨_,I,yL,λS=>?_⟩;have X31:=S.bx 2;refine azx S 2 (off:=0) (cs:=[.bool (!n2&&decide (0<Zk m)),.slice bny (Ux (Zk m)).length dny]) I (λu JO S=>?_);have wG:=aO.dY (yK.ext yL) JO X31;have Dq:=aO.dY (Dz.ext yL) JO X31;have yR:=aO.dY ny JO X31;refine adr S 2 [] [.mem 3 0,.mem 0 0] λS=>azz S (lF (!n1&&decide (0<Zk l)) _ _ (Ux (Zk l)) (Ux (Nat.gcd (Zk l) (Zk m))) _ (mM Dq) (mM wG) (by rw[PV]; exact hG) (by simp only[PV]; exact Nat.mod_eq_zero_of_dvd (Nat.gcd_dvd_left _ _)) (aAa (bY l) hl1) hGl) ?_;rintro e u ⟨x,y,rfl,fx,rfx,FQ⟩;simp only[PV]at fx;obtain⟨YB,YC,rfl⟩:=fx.shape;obtain⟨aj9,akb,rfl⟩:=rfx.shape;have am6:=S.E.size;refine⟨_,I,FQ,λS=>?_⟩;refine azs S [.z,.sn] λu b37 E38 axK S=>azs S [.z,.sn] λu b40 Qn ajM S=>azx S 1 (off:=0) (cs:=[.bool ((!n1&&decide (0<Zk l))&&decide (0<(Zk l/(Nat.gcd (Zk l) (Zk m))))),.slice YB (Ux (Zk l/(Nat.gcd (Zk l) (Zk m)))).length YC]) I (λu C43 S=>?_);have S:=S.fl;have Yq:=azr (K00 FQ (K00 E38 Qn)) C43 (by have:=FQ.size; omega);have E45:=azr (K00 FQ (K00 E38 Qn)) C43 (by have:=FQ.size; omega);have E46:=azr (K00 E38 Qn) C43;refine azx S 0 (off:=0) (cs:=[.z,.slice aj9 (Ux 0).length akb]) I (λu C47 S=>?_);have Rh:=azr Yq C47 (by have:=(K00 FQ E38).size; omega);have E49:=azr E45 C47 (by have:=(K00 FQ E38).size; omega);have E50:=azr E46 C47 (by have:=E38.size; omega);refine adr S 3 [] [.mem 4 0,.mem 2 0] λS=>azz S (lF (!n2&&decide (0<Zk m)) _ _ (Ux (Zk m)) (Ux (Nat.gcd (Zk l) (Zk m))) _ (mM (yR.ext E49)) (mM (wG.ext Rh)) (by rw[PV]; exact hG) (by simp only[PV]; exact Nat.mod_eq_zero_of_dvd (aCe _ _)) (aAa (bY m) hl2) hGl) ?_;rintro e u ⟨x,y,rfl,fy,rfy,E52⟩;simp only[PV]at fy;obtain⟨VW,VX,rfl⟩:=fy.shape;obtain⟨akc,akd,rfl⟩:=rfy.shape;have am7:=S.E.size;refine⟨_,I,E52,λS=>?_⟩;refine azs S [.z,.sn] λu b53 E54 aq2 S=>azs S [.z,.sn] λu b56 E57 axL S=>azx S 1 (off:=0) (cs:=[.bool ((!n2&&decide (0<Zk m))&&decide (0<(Zk m/(Nat.gcd (Zk l) (Zk m))))),.slice VW (Ux (Zk m/(Nat.gcd (Zk l) (Zk m)))).length VX]) I (λu C59 S=>?_);have E60:=azr (K00 E50 (K00 E52 (K00 E54 E57))) C59 (by have:=(K00 E50 E52).size; omega);have E61:=azr (K00 E54 E57) C59;refine azx S 0 (off:=0) (cs:=[.z,.slice akc (Ux 0).length akd]) I (λu C62 S=>?_);have E63:=azr E60 C62 (by have:=(K00 E50 (K00 E52 E54)).size; omega);have E64:=azr E61 C62 (by have:=E54.size; omega);have X67:=S.bx 5;refine adr S 4 [] [.mem 3 0,.mem 1 0] λS=>azx S 5 (off:=0) (cs:=[.bool ((!n1&&decide (0<Zk l))&&decide (0<(Zk l/(Nat.gcd (Zk l) (Zk m))))),.slice YB (Ux (Zk l/(Nat.gcd (Zk l) (Zk m)))).length YC,.bool ((!n2&&decide (0<Zk m))&&decide (0<(Zk m/(Nat.gcd (Zk l) (Zk m))))),.slice VW (Ux (Zk m/(Nat.gcd (Zk l) (Zk m)))).length VX]) I (λu C66 S=>?_);have S:=S.fl;have N7:=aO.dY (fx.ext E63) C66 X67;have ac6:=aO.dY (fy.ext E64) C66 X67;refine azC S 5 I (v := .agg #[.bool ((!n1&&decide (0<Zk l))&&decide (0<(Zk l/(Nat.gcd (Zk l) (Zk m))))),.slice YB (Ux (Zk l/(Nat.gcd (Zk l) (Zk m)))).length YC,.bool ((!n2&&decide (0<Zk m))&&decide (0<(Zk m/(Nat.gcd (Zk l) (Zk m))))),.slice VW (Ux (Zk m/(Nat.gcd (Zk l) (Zk m)))).length VX]) (λS=>?_);exact⟨_,I,RJ (aO.mono N7 Z) (aO.mono ac6 Z) (by rw[RN _ _ _ _ hm,hn]; rfl) (by rw[hn]; rfl),S.E⟩
 have hn:n2=false:=(adK hm).symm.trans hc22;refine adr S 2 [] [.mem 3 0,.mem 0 0] λS=>azz S (lF n1 _ _ l (Ux (Nat.gcd (Zk l) (Zk m))) _ (h1.below S.E) (mM (fg.ext (K00 zL Dc))) (by rw[PV]; exact hG) (by simp only[PV]; exact Nat.mod_eq_zero_of_dvd (Nat.gcd_dvd_left _ _)) hl1 hGl) ?_;rintro e u ⟨x,y,rfl,fx,rfx,E71⟩;simp only[PV]at fx;obtain⟨YB,YC,rfl⟩:=fx.shape;obtain⟨aj9,akb,rfl⟩:=rfx.shape;have am6:=S.E.size;refine⟨_,I,E71,λS=>?_⟩;refine azs S [.z,.sn] λu b72 E73 aqT S=>azs S [.z,.sn] λu b75 E76 aqQ S=>azx S 1 (off:=0) (cs:=[.bool (n1&&decide (0<(Zk l/(Nat.gcd (Zk l) (Zk m))))),.slice YB (Ux (Zk l/(Nat.gcd (Zk l) (Zk m)))).length YC]) I (λu C78 S=>?_);have E79:=azr (K00 zL (K00 Dc (K00 E71 (K00 E73 E76)))) C78 (by have:=(K00 zL (K00 Dc E71)).size; omega);have E80:=azr (K00 E73 E76) C78;refine azx S 0 (off:=0) (cs:=[.z,.slice aj9 (Ux 0).length akb]) I (λu C81 S=>?_);have E82:=azr E79 C81 (by have:=(K00 zL (K00 Dc (K00 E71 E73))).size; omega);have E83:=azr E80 C81 (by have:=E73.size; omega);refine adr S 3 [] [.mem 4 0,.mem 2 0] λS=>azz S (lF n2 _ _ m (Ux (Nat.gcd (Zk l) (Zk m))) _ (h2.below S.E) (mM (fg.ext E82)) (by rw[PV]; exact hG) (by simp only[PV]; exact Nat.mod_eq_zero_of_dvd (aCe _ _)) hl2 hGl) ?_;rintro e u ⟨x,y,rfl,fy,rfy,E85⟩;simp only[PV]at fy;obtain⟨VW,VX,rfl⟩:=fy.shape;obtain⟨akc,akd,rfl⟩:=rfy.shape;have am7:=S.E.size;refine⟨_,I,E85,λS=>?_⟩;refine azs S [.z,.sn] λu b86 E87 aqU S=>azs S [.z,.sn] λu b89 E90 axM S=>azx S 1 (off:=0) (cs:=[.bool (n2&&decide (0<(Zk m/(Nat.gcd (Zk l) (Zk m))))),.slice VW (Ux (Zk m/(Nat.gcd (Zk l) (Zk m)))).length VX]) I (λu C92 S=>?_);have E93:=azr (K00 E83 (K00 E85 (K00 E87 E90))) C92 (by have:=(K00 E83 E85).size; omega);have E94:=azr (K00 E87 E90) C92;refine azx S 0 (off:=0) (cs:=[.z,.slice akc (Ux 0).length akd]) I (λu C95 S=>?_);have S:=S.fl;have E96:=azr E93 C95 (by have:=(K00 E83 (K00 E85 E87)).size; omega);have E97:=azr E94 C95 (by have:=E87.size; omega);have am8:=S.bx 5;refine adr S 4 [] [.mem 3 0,.mem 1 0] λS=>azx S 5 (off:=0) (cs:=[.bool (n1&&decide (0<(Zk l/(Nat.gcd (Zk l) (Zk m))))),.slice YB (Ux (Zk l/(Nat.gcd (Zk l) (Zk m)))).length YC,.bool (n2&&decide (0<(Zk m/(Nat.gcd (Zk l) (Zk m))))),.slice VW (Ux (Zk m/(Nat.gcd (Zk l) (Zk m)))).length VX]) I (λu C99 S=>?_);have adN:=aO.dY (fx.ext E96) C99 am8;have RS:=aO.dY (fy.ext E97) C99 am8;refine azC S 5 I (v := .agg #[.bool (n1&&decide (0<(Zk l/(Nat.gcd (Zk l) (Zk m))))),.slice YB (Ux (Zk l/(Nat.gcd (Zk l) (Zk m)))).length YC,.bool (n2&&decide (0<(Zk m/(Nat.gcd (Zk l) (Zk m))))),.slice VW (Ux (Zk m/(Nat.gcd (Zk l) (Zk m)))).length VX]) (λS=>?_);exact⟨_,I,RJ (aO.mono adN Z) (aO.mono RS Z) (by rw[RN _ _ _ _ hm,hn]; rfl) (by rw[hn]; rfl),S.E⟩
end Go.Proofs.YtodpgjjgaddkeaaGreatDoor
end
theorem azV:type_of% @Go.Sx.look1:=@Go.Sx.look1
theorem aAT:type_of% @Go.Sx.ku:=@Go.Sx.ku
