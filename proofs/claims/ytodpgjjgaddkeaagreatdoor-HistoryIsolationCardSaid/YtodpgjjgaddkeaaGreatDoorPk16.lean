/- Plain laws of decoding rational -/
import Derived.StillTailTactics
import Derived.Test.YtodpgjjgaddkeaaGreatDoorPk15
set_option maxRecDepth 100000
set_option maxHeartbeats 9999999
open Go renaming World->E5,Value->y9,Calls->Nq,Program->Ë,Oper->YM,TypeId->Ð,execOp->Í,Operand->î,Ending->ĺ
set_option linter.unusedVariables false
set_option linter.unusedSimpArgs false
open Go.Proofs.Tryz Go.RowKit Go.Proofs.Õ Go.Rel
section
namespace Nb
abbrev ak9(q:Nat):Na.NZ^q=256^(4*q):=by rw[Nat.pow_mul]; rfl
end Nb
namespace Go.Proofs.Õ
open En Na Nb
variable{α:Type}
def H8(neg:Bool)(a b:Nat):Bool := !(neg&&decide ((RI a).length=0))&&(decide (0<b)&&(Nat.gcd a b==1))
def JR(l:List UInt8)(i:Int):(Bool×Nat×Nat)×Nat×Nat:=
 if i<0∨(l.length:Int)<i then ((false,0,0),0,2)
 else if l.length=i.toNat then ((false,0,0),0,4)
 else if 1<(l.getD i.toNat 0).toNat then ((false,0,0),0,3)
 else match uT 4096 (l.drop (i.toNat+1))with
  | .error e=>((false,0,0),0,e)
  | .ok (s1,k1)=>match uT 4096 (l.drop (i.toNat+1+k1))with
   | .error e=>((false,0,0),0,e)
   | .ok (s2,k2) =>
    if H8 ((l.getD i.toNat 0).toNat==1) (Nb.val s1) (Nb.val s2)&&(iy ((l.getD i.toNat 0).toNat==1,Nb.val s1,Nb.val s2)==(l.take (i.toNat+1+k1+k2)).drop i.toNat)then
     (((l.getD i.toNat 0).toNat==1,Nb.val s1,Nb.val s2),i.toNat+1+k1+k2,0)
    else ((false,0,0),0,3)
variable{p e k1 b:Nat}{c:UInt8}{s1:List UInt8}{most:Int}
abbrev QT{l:List UInt8}{i:Int}(h:i<0∨(l.length:Int)<i):JR l i=((false,0,0),0,2):=by unfold JR; rw[Á h]
abbrev QU{l:List UInt8}(h:p=l.length):JR l p=((false,0,0),0,4):=by
 unfold JR; rw[UQ Z,ŗ,Á h.symm]
abbrev JU{l:List UInt8}(h:l[p]?=some c)(D:1<c.toNat):JR l p=((false,0,0),0,3):=by
 have J:p<l.length:=(List.getElem?_eq_some_iff.1 h).1;unfold JR; rw[UQ Z,ŗ,UQ Z,show l.getD p 0=c by simp[List.getD,h],Á D]
abbrev YE{l:List UInt8}(h:l[p]?=some c)(D:¬1<c.toNat)(J:uT 4096 (l.drop (p+1)) = .error e):JR l p=((false,0,0),0,e):=by
 have S:p<l.length:=(List.getElem?_eq_some_iff.1 h).1;unfold JR; rw[UQ Z,ŗ,UQ Z,show l.getD p 0=c by simp[List.getD,h],UQ D,J]
abbrev YF{l:List UInt8}(h:l[p]?=some c)(D:¬1<c.toNat)(J:uT 4096 (l.drop (p+1)) = .ok (s1,k1))(S:uT 4096 (l.drop (p+1+k1)) = .error e):JR l p=((false,0,0),0,e):=by
 have hp:p<l.length:=(List.getElem?_eq_some_iff.1 h).1;unfold JR; rw[UQ Z,ŗ,UQ Z,show l.getD p 0=c by simp[List.getD,h],UQ D,J]; simp only; rw[S]
abbrev QV{l s2:List UInt8}{D:Nat}(h:l[p]?=some c)(J:¬1<c.toNat)(S:uT 4096 (l.drop (p+1)) = .ok (s1,k1))(h2:uT 4096 (l.drop (p+1+k1)) = .ok (s2,D)) :
  JR l p=if H8 (c.toNat==1) (Nb.val s1) (Nb.val s2)&&(iy (c.toNat==1,Nb.val s1,Nb.val s2)==(l.take (p+1+k1+D)).drop p)then ((c.toNat==1,Nb.val s1,Nb.val s2),p+1+k1+D,0)else ((false,0,0),0,3):=by
 have D:p<l.length:=(List.getElem?_eq_some_iff.1 h).1;unfold JR; rw[UQ Z,ŗ,UQ Z,show l.getD p 0=c by simp[List.getD,h],UQ J,S]; simp only; rw[h2]
abbrev QW{l:List UInt8}(D:uT most l = .error e):((e:Int) != 0)=true:=by
 rw[bne_iff_ne];unfold uT at D;cases h:mW 9 l with
 | error e'=>rw[h]at D; simp only[ŭ]at D; rcases Hw _ _ _ h with h | h<;>omega
 | ok r =>
  obtain⟨n,k⟩:=r;rw[h]at D;simp only at D;split at D
  .simp only[ŭ]at D; omega
  split at D
  .simp only[ŭ]at D; omega
  cases D
abbrev zi(s:List UInt8):(RI (Nb.val s)).length<=s.length:=by
 apply Na.bJ;exact ö (Nb.dS s) (Nat.pow_le_pow_left O _)
abbrev neg_pos(n1:Bool){a:Nat}(D:0<b):(n1&&decide (0<a/Nat.gcd a b))=mF n1 false a b:=by
 unfold mF qF;rw[UQ (show b≠0 by omega)];rcases ė a with h | h
 .subst h; simp
 rw[UQ (show a≠0 by omega)];cases n1<;>simp
abbrev QX{neg:Bool}{a:Nat}(h:H8 neg a b=true):nrm neg false a b=(neg,a,b):=by
 unfold H8 at h;simp only[Û,Þ,ß,Ŏ]at h;obtain⟨J,D,S⟩:=h;unfold nrm;rw[UQ Z,<-neg_pos neg D,S,Nat.div_one,Nat.div_one];congr 1;cases neg
 .rfl
 simp only[Ł,Ą]at J;rw[Ł,Þ];rcases ė a with D | D
 .subst D; exact absurd (by rw[jR]; rfl) J
 exact D
abbrev acn(base:Nat)(w:E5):aC base w oN false 0 0:=⟨_,_,I,He w,He w,SN _,SN _⟩
def aaI(w:E5)(r:(Bool×Nat×Nat)×Nat×Nat)(e:ĺ)(w':E5):Prop:=
 ∃x,e = .R (.tuple #[x,.i r.2.1,.i r.2.2])∧aC w.heap.size w' x r.1.1 r.1.2.1 r.1.2.2∧Ext w w'
abbrev lT{w w':E5}{er:Nat}(h:Ext w w'):aaI w ((false,0,0),0,er) (.R (.tuple #[oN,.i 0,.i er])) w':=⟨_,I,acn _ _,h⟩
abbrev aaJ{l s:List UInt8}{k:Nat}(h:uT most l = .ok (s,k)):k<=l.length∧1<=k∧(s.length:Int)<=most:=by
 obtain⟨_,D,J,S⟩:=JV h;exact⟨D,J,S⟩
end Go.Proofs.Õ
namespace Nb
abbrev aco{A:List UInt32}{V q r c:Nat}(S:q<A.length)(J:Na.TR A=V)(D:V<256^(4*q+r))(hr:r<4)(hc:c<256) :
  A[q].toNat<256^r∧A[q].toNat+c*256^r<4294967296∧Na.TR (A.set q (UInt32.ofNat (A[q].toNat+c*256^r)))=V+256^(4*q+r)*c:=by
 have D:=Na.nJ A q;rw[Na.oG A q S,J,ak9]at D;have J:A[q].toNat+Na.NZ*Na.TR (A.drop (q+1))<256^r:=by
  have J:256^(4*q)*(A[q].toNat+Na.NZ*Na.TR (A.drop (q+1)))<256^(4*q)*256^r:=by rw[<-Ž]; omega
  exact aHa J
 have J:A[q].toNat+c*256^r<4294967296:=by
  have h5:(c+1)*256^r<=256*256^r:=ō _ hc;have h6:256*256^r<=256*256^3:=Ę _ (ķ Z Z);rw[Œ]at h5;omega
 refine⟨Z,J,?_⟩;have J:=Na.nJ (A.set q (UInt32.ofNat (A[q].toNat+c*256^r))) q;rw[Na.oG _ q (by simpa using S),List.take_set_of_le Z,ak9,List.getElem_set_self,List.drop_set_of_lt Z]at J;have e:(UInt32.ofNat (A[q].toNat+c*256^r)).toNat=A[q].toNat+c*256^r:=by simp; omega
 rw[J,e,D,Ž,Ĝ,ĕ c,ó,ó,ó];omega
end Nb
namespace Go.Proofs.Õ
open En Na Nb
variable{α:Type}
abbrev acp{w w1:E5}{x y:y9}{t:Ð}(hb:Ext (w.alloc (.cells #[x,y] t)) w1) :
  w1.cell? ⟨w.heap.size,0,none⟩=some x∧w1.cell? ⟨w.heap.size,1,none⟩=some y∧(∀i,w1.frozen? ⟨w.heap.size,i,none⟩=false)∧w.heap.size<w1.heap.size:=by
 obtain⟨D,J,S⟩:=jg hb;exact⟨by rw[D]; rfl,by rw[D]; rfl,J,S⟩
abbrev acr(neg:Bool)(v:y9)(s:List UInt8)(w:E5)(S:bK w v s)(hl:s.length<=1000000) :
  Nq prog 252 #[.b neg,v] w λe w'=>∃x,e = .R x∧aS w.heap.size w' x (neg&&decide (0<Nb.val s)) (Nb.val s)∧Ext w w':=by
 have HV:=FU S;obtain⟨a1,c1,rfl⟩:=S.shape;obtain⟨N,hN⟩:∃N,N=(s.length+3)/4:=⟨_,I⟩;have J:((s.length:Int)+3)/4=(N:Int):=Z
 have ag:N<=maxLen:=by unfold maxLen; omega
 have D:4*N<=281474976710656:=Z
 have HN:=FU hN;clear S hN;go_enter func252,ntmps252
 go_wp2_with (at_make; refine wpList_make_row I _ _ _ I mD I (w.heap.size+1) N I I J D ag Y ?_; intro w1 D hg)
 have S:=gQ (aI w _) hg Y;simp only[ϫ]at D;have ah:TR (List.replicate N (0:UInt32))=0:=NP N;have HO:=FU D;have a5:=FU S;have a6:w.heap.size+1<w1.heap.size:=(D.lt (w.heap.size+1) I).2;have ar:=FU (gQ (ø _ _) hg (Ç _));clear hg D S J;go_wp2_with fail
 go_loopw [6,7,15] (λ_ _ J wr=>∃(i:Nat) (M:List UInt32),J = .i i∧i<=s.length∧M.length=N∧TR M=Nb.val (s.take i)∧wr.ownsRow (w.heap.size+1) 119 1 (.s (some ⟨w.heap.size+1,0,none⟩) N N) N (M.map bn)∧Below (w.heap.size+1) (w.alloc (.cells #[.z,.sn] 24)) wr) (λ_ _ J _=>s.length-(intOf J).toNat)
 case atStart=>exact⟨0,List.replicate N 0,I,Î _,by simp,by rw[ah]; rfl,by simpa[bn]using HO.out,by simpa using ar.out⟩
 case round =>
  obtain⟨i,M,rfl,hi,hM,J,D,aa⟩:=hrel;by_cases hlt:i<s.length
  .obtain⟨q,r,hqr,hr4⟩:∃q r,i=4*q+r∧r<4:=⟨i/4,i%4,Z,Z⟩;have S:(i:Int)/4=(q:Int):=Z
   have av:q<N:=by rw[HN.out]; omega
   obtain⟨bx,ox,cx,S,a4,be,bg,aq⟩:=dO HV.out I Z;simp only[Ĉ]at S;obtain⟨rfl,-,-⟩:=S;have ai:=Nb.dS (s.take i);rw[Ĳ,Ε hi]at ai;have S:=Nb.dD s i hlt;have ae:=aq i hlt;generalize s[i]=c at *;have aw:=c.toNat_lt;have al:q<M.length:=by rw[hM]; exact av
   obtain⟨f0,f1,f2⟩:=Nb.aco (c:=c.toNat) al J (by rw[<-hqr]; exact ai) hr4 aw;have a7:wr.cell? ⟨bx,ox+i,none⟩=some (gY c):=by
    rw[aa.cell (p:=⟨bx,ox+i,none⟩) (by simp only; omega)];rw[(aI w _).cell (p:=⟨bx,ox+i,none⟩) a4]; exact ae
   have am:=D.cellAt q Z;have a8:=D.frozenAt q;rw[List.getElem?_map,List.getElem?_eq_getElem al,ě]at am;have af:=(D.stored q (bn (UInt32.ofNat (M[q].toNat+c.toNat*256^r)))).1;rw[<-Ű]at af;have an:=FU af;have ao:=FU f2;obtain⟨d,hd⟩:∃d,M[q]=d:=⟨_,I⟩;rw[hd]at am f0 f1 an ao;have a9:=d.toNat_lt;have HM:=FU hM;have HS:=FU S;have bb:=FU J;have ax:=FU hqr;have ay:=FU f0;have k1:IntKind.i64.wrap (q:Int)=(q:Int):=IntWalk.i64_in _ (by unfold maxLen at ag; omega);have k2:IntKind.u32.wrap (c.toNat:Int)=(c.toNat:Int):=by rw[IntKind.wrap_u32]; omega
   have k4:(q:Int)<(N:Int):=Z
   have k5:(i:Int)<(s.length:Int):=Z
   have k6:(i:Int).tmod 4=(r:Int):=by
    rw[Int.tmod_eq_emod_of_nonneg Z]; omega
   have k7:IntKind.i64.wrap (8*(r:Int))=8*(r:Int):=IntWalk.i64_in _ Z;have k8:¬8*(r:Int)<0:=Z
   have k9:(0:Int)<=8*(r:Int):=Z
   have bc:(0:Int)<=(r:Int):=Z
   clear hd aq S hM J f2 af hqr f0 D ah;go_wp2_with fail
   go_still_tail 13,X
   go_wp2_with fail
   have hX:bits .or .u32 (d.toNat:Int) ((c.toNat:Int)*2^(8*r)%4294967296)=((UInt32.ofNat (d.toNat+c.toNat*256^r)).toNat:Int):=by
    have S:(2:Nat)^(8*r)=256^r:=by rw[Nat.pow_mul]
    have h4:(2:Int)^(8*r)=((256^r:Nat):Int):=by rw[<-S]; simp
    have h3:(c.toNat:Int)*2^(8*r)%4294967296=((c.toNat*256^r:Nat):Int):=by
     rw[h4,<-Int.natCast_mul]; omega
    rw[h3,u32_or_nat _ _ d.toNat_lt Z,Nat.or_comm,nat_join (8*r) _ _ (by rw[S]; simp) (by rw[S]; exact ay.out),dn f1,Ν]
   rw[hX];refine⟨⟨i+1,M.set q (UInt32.ofNat (d.toNat+c.toNat*256^r)),by go_num,Z,?_,?_,dF an.out ((ø _ _).drew),(aa.setCell (p:=⟨w.heap.size+1,q,none⟩) (Ç _) _).drew⟩,by simp[intOf]; omega⟩
   .rw[List.length_set]; exact HM.out
   rw[ao.out,HS.out,ax.out]; rfl
  obtain rfl:i=s.length:=by omega
  rw[ħ]at J;have ab:=qc hM D;have ac:Ext (w.alloc (.cells #[.z,.sn] 24)) wr:=by
   have:=aa;rw[<-ϫ w (.cells #[.z,.sn] 24)]at this;exact this
  have S:=nG neg _ M wr ab (by rw[hM,HN.out]; omega);rw[J]at S;have ap:=FU S;have HE:=FU ac;have bd:¬(s.length:Int)<(s.length:Int):=Z
  clear J ab hM D S ac;go_wp2_with fail
  refine ap.out.mono ?_;rintro e w2 ⟨x,rfl,⟨t,rfl,ht,ft⟩,J⟩;obtain⟨b1,d1,rfl⟩:=ht.shape;obtain⟨e0,e1,f0,D⟩:=acp (Ip HE.out J);have S:w.heap.size<wr.heap.size:=by have:=HE.out.size; simp at this; omega
  obtain⟨nb,D⟩:∃nb,(neg&&decide (0<Nb.val s))=nb:=⟨_,I⟩;rw[D];have az:=FU D;have HT:=FU (And.intro ht ft);have a3:=FU (Ip (Ip (aI w _) HE.out) J);clear ht ft J D ap;go_wp2_with fail
  refine bodyPost_ret (v := .agg #[.b nb,.s b1 (RI (Nb.val s)).length d1]) (by simp[results,results252,go_sem,e0,e1]) I ⟨_,I,⟨_,by rw[az.out],?_,?_⟩,?_⟩
  .exact HT.out.1.ch (((Ch.refl _ _).setCell _ _).setCell _ _) (λ_=>HT.out.2.off S)
  .exact HT.out.2.mono Z
  exact(a3.out.setCell (p:=⟨w.heap.size,0,none⟩) (Ç _) _).setCell (p:=⟨w.heap.size,1,none⟩) (Ç _) _
end Go.Proofs.Õ
end
namespace Go.Proofs.Õ
section
open En Na Nb
variable{α:Type}
variable{i:Int}{r:Bool×Nat×Nat}{q e:Nat}
abbrev afL{most:Int}{l:List UInt8}(h:uT most l = .error e):e≠0:=by
 unfold uT at h;cases hu:mW 9 l with
 | error e'=>rw[hu]at h; simp only[ŭ]at h; exact h▸am1 hu
 | ok r =>
  rw[hu]at h;simp only at h;split at h
  .simp only[ŭ]at h; omega
  split at h<;>simp only[ŭ,reduceCtorEq]at h; omega
abbrev JW{l:List UInt8}(h:JR l i=(r,q,0)) :
  ∃(p:Nat) (c:UInt8) (s1 s2:List UInt8) (k1 J:Nat),i=p∧l[p]?=some c∧¬1<c.toNat∧uT 4096 (l.drop (p+1)) = .ok (s1,k1)∧uT 4096 (l.drop (p+1+k1)) = .ok (s2,J) ∧
   q=p+1+k1+J∧r=(c.toNat==1,Nb.val s1,Nb.val s2)∧H8 r.1 r.2.1 r.2.2=true∧iy r=(l.take q).drop p:=by
 by_cases hbad:i<0∨(l.length:Int)<i
 .rw[QT hbad]at h; simp at h
 obtain⟨p,rfl⟩:∃p:Nat,i=p:=⟨i.toNat,Z⟩;by_cases hpe:p=l.length
 .rw[QU hpe]at h; simp at h
 have S:p<l.length:=Z
 obtain⟨c,D⟩:∃c,l[p]?=some c:=⟨l[p],List.getElem?_eq_getElem S⟩;by_cases hs:1<c.toNat
 .rw[JU D hs]at h; simp at h
 cases hb1:uT 4096 (l.drop (p+1))with
 | error e=>rw[YE D hs hb1]at h; simp only[Ê]at h; exact absurd h.2.2 (afL hb1)
 | ok r1 =>
  obtain⟨s1,k1⟩:=r1;cases hb2:uT 4096 (l.drop (p+1+k1))with
  | error e=>rw[YF D hs hb1 hb2]at h; simp only[Ê]at h; exact absurd h.2.2 (afL hb2)
  | ok r2 =>
   obtain⟨s2,J⟩:=r2;rw[QV D hs hb1 hb2]at h;split at h
   .rename_i hcond;simp only[Ê,and_true]at h;obtain⟨rfl,rfl⟩:=h;simp only[Û,ß]at hcond;exact⟨p,c,s1,s2,k1,J,I,D,hs,hb1,hb2,I,I,hcond.1,hcond.2⟩
   simp at h
abbrev OA{l:List UInt8}(h:JR l i=(r,q,0)):∃p:Nat,i=p∧p<q∧q<=l.length∧H8 r.1 r.2.1 r.2.2=true∧iy r=(l.take q).drop p:=by
 obtain⟨p,c,s1,s2,k1,k2,J,h2,h3,h4,D,h6,h7,S,h9⟩:=JW h;have:=(JV D).2.1;have:=(JV D).2.2.1;rw[Ş]at *;exact⟨p,J,Z,Z,S,h9⟩
abbrev afM{l:List UInt8}(h:JR l i=(r,q,e))(S:e≠0):q=0∧r=(false,0,0):=by
 by_cases hbad:i<0∨(l.length:Int)<i
 .rw[QT hbad]at h; simp only[Ê]at h; exact⟨h.2.1.symm,h.1.symm⟩
 obtain⟨p,rfl⟩:∃p:Nat,i=p:=⟨i.toNat,Z⟩;by_cases hpe:p=l.length
 .rw[QU hpe]at h; simp only[Ê]at h; exact⟨h.2.1.symm,h.1.symm⟩
 have J:p<l.length:=Z
 obtain⟨c,D⟩:∃c,l[p]?=some c:=⟨l[p],List.getElem?_eq_getElem J⟩;by_cases hs:1<c.toNat
 .rw[JU D hs]at h; simp only[Ê]at h; exact⟨h.2.1.symm,h.1.symm⟩
 cases hb1:uT 4096 (l.drop (p+1))with
 | error e=>rw[YE D hs hb1]at h; simp only[Ê]at h; exact⟨h.2.1.symm,h.1.symm⟩
 | ok r1 =>
  obtain⟨s1,k1⟩:=r1;cases hb2:uT 4096 (l.drop (p+1+k1))with
  | error e=>rw[YF D hs hb1 hb2]at h; simp only[Ê]at h; exact⟨h.2.1.symm,h.1.symm⟩
  | ok r2 =>
   obtain⟨s2,J⟩:=r2;rw[QV D hs hb1 hb2]at h;split at h
   .simp only[Ê]at h; exact absurd h.F.symm S
   simp only[Ê]at h; exact⟨h.2.1.symm,h.1.symm⟩
abbrev afN{l:List UInt8}(h:JR l i=(r,q,e)):(RI r.2.1).length<=4096∧(RI r.2.2).length<=4096:=by
 by_cases he:e=0
 .subst he;obtain⟨p,c,s1,s2,k1,S,h1,h2,h3,D,J,h6,rfl,h8,h9⟩:=JW h;have a1:=(JV D).2.2.2;have a2:=(JV J).2.2.2;have b1:=zi s1;have b2:=zi s2;exact⟨by simp only; omega,by simp only; omega⟩
 obtain⟨-,rfl⟩:=afM h he;simp[jR]
abbrev am2(n1 D:Bool)(a b:Nat):H8 (nrm n1 D a b).1 (nrm n1 D a b).2.1 (nrm n1 D a b).2.2=true:=by
 unfold nrm;split
 .simp[H8,jR]
 rename_i D;have J:0<Nat.gcd a b:=ϻ a Z;have D:0<b/Nat.gcd a b:=Nat.div_pos (Nat.le_of_dvd Z (Ϙ a b)) J;have S:Nat.gcd (a/Nat.gcd a b) (b/Nat.gcd a b)=1:=Nat.coprime_div_gcd_div_gcd J;unfold H8;simp only[Û,Þ,ß,Ŏ,Bool.and_eq_false_iff];refine⟨?_,D,S⟩;by_cases h:(RI (a/Nat.gcd a b)).length=0
 .left;have D:=pU h;have J:a=0:=by
   have S:=Nat.div_mul_cancel (Nat.gcd_dvd_left a b);rw[D]at S; omega
  subst J;unfold mF;simp
 right; simp[h]
abbrev aaK(A R:List UInt8)(x:Nat)(J:x<18446744073709551616):y8 (A++(dX 10 x++R)) A.length=(x,A.length+(dX 10 x).length,0):=by
 have hd:(A++(dX 10 x++R)).drop A.length=dX 10 x++R:=by simp
 have D:=pO x R J;unfold y8;rw[UQ (by simp; omega),ŗ,hd,D]
abbrev aaL(A R s:List UInt8)(most:Int)(J:s.length<18446744073709551616)(h:(s.length:Int)<=most):Ť (A++(gJ s++R)) A.length most=(s,A.length+(gJ s).length,0):=by
 have hd:(A++(gJ s++R)).drop A.length=gJ s++R:=by simp
 have D:=JX s R most h J;unfold Ť;rw[UQ (by simp; omega),ŗ,hd,D]
abbrev ajn(A R:List UInt8)(r:Bool×Nat×Nat)(hr:H8 r.1 r.2.1 r.2.2=true)(D:(au r.2.1).length<=4096)(J:(au r.2.2).length<=4096) :
  JR (A++(iy r++R)) A.length=(r,A.length+(iy r).length,0):=by
 obtain⟨n,a,b⟩:=r;simp only at hr D J;obtain⟨c,D⟩:∃c:UInt8,(if n then 1 else 0)=c:=⟨_,I⟩;have J:iy (n,a,b)=c::(gJ (au a)++gJ (au b)):=by unfold iy; rw[<-D]
 have S:(c.toNat==1)=n:=by rw[<-D]; cases n<;>rfl
 have aa:¬1<c.toNat:=by rw[<-D]; cases n<;>decide
 have hg:(A++(iy (n,a,b)++R))[A.length]?=some c:=by rw[J]; simp
 have D:(A++(iy (n,a,b)++R)).drop (A.length+1)=gJ (au a)++(gJ (au b)++R):=by
  rw[<-Ÿ,ϩ,J]; simp
 have h1:=JX (au a) (gJ (au b)++R) 4096 Z Z;rw[<-D]at h1;have e2:(A++(iy (n,a,b)++R)).drop (A.length+1+(gJ (au a)).length)=gJ (au b)++R:=by
  rw[<-Ÿ,D,ϩ]
 have h2:=JX (au b) R 4096 Z Z;rw[<-e2]at h2;have D:A.length+1+(gJ (au a)).length+(gJ (au b)).length=A.length+(iy (n,a,b)).length:=by rw[J]; simp; omega
 rw[QV hg aa h1 h2,S,aF,aF,D,hr,Á];rw[Ł,ß];rw[List.take_append,Ď Z,aG4,List.take_left,ϩ]
abbrev JY(s:List UInt8):(gJ s).length<=10+s.length:=by
 have:=iL 10 s.length;unfold gJ; rw[Å]; omega
end
section
open En
variable{α β:Type}{K:Nat}
abbrev Q3:=Bool×Nat×Nat
def SG(q:Q3):Prop:=eY q<=256∧H8 q.1 q.2.1 q.2.2=true
variable{p p6 p1 p2 p3 p4 p5 p7 p8 p9 p10:Nat}{bad b6 b1 b2 b3 b4 b5 b7 b8 b9 b10:Bool}{q:Q6}{kd id dp cr sm:Int}{cl:List dL}
abbrev aaM{l r:List UInt8}{q:Q3}(D:SG q)(h:l.drop p=iy q++r):JR l (p:Int)=(q,p+(iy q).length,0):=by
 have J:p<l.length:=QM h (by unfold iy; simp);have S:=D.1;unfold eY at S;have a1:=Nb.bJ (FY (n:=q.2.1) Z);have a2:=Nb.bJ (FY (n:=q.2.2) Z);have:=ajn (l.take p) r q D.2 Z Z;rw[<-h,ň,Ĳ,Ε (Δ J)]at this;exact this
abbrev EZ{q:Q3}(h:NY q)(D:eY q<=256):SG q:=⟨D,by
 have:=am2 q.1 false q.2.1 q.2.2;rw[show nrm q.1 false q.2.1 q.2.2=q from h]at this;exact this⟩
def UK(q:Q6):Prop:=SG q.a∧SG q.b∧SG q.c∧SG q.d∧SG q.e∧SG q.f
abbrev ajo(h:Di q)(D:q.valid=true):UK q:=by
 unfold Q6.valid at D;simp only[Û,Þ]at D;obtain⟨J,S,h3,h4,h5,h6⟩:=h;obtain⟨v1,v2,v3,v4,v5,v6⟩:=D;exact⟨EZ J v1,EZ S v2,EZ h3 v3,EZ h4 v4,EZ h5 v5,EZ h6 v6⟩
abbrev acs(q:Q6):tY q=iy q.a++(iy q.b++(iy q.c++(iy q.d++(iy q.e++iy q.f)))):=by simp[tY]
abbrev ajp{l:List UInt8}{a b c d e f:Q3}(h1:Got iy SG l p bad p1 b1 a)(h2:Got iy SG l p1 b1 p2 b2 b)(h3:Got iy SG l p2 b2 p3 b3 c)(h4:Got iy SG l p3 b3 p4 b4 d)(h5:Got iy SG l p4 b4 p5 b5 e)(h6:Got iy SG l p5 b5 p6 b6 f) :
  Got tY UK l p bad p6 b6 ⟨a,b,c,d,e,f⟩:=λq r J S D=>by
 rw[acs]at D;simp only[ç]at D;obtain⟨e1,k,D⟩:=h1 _ _ J.1 S D;obtain⟨S,k,D⟩:=h2 _ _ J.2.1 k D;obtain⟨e3,k,D⟩:=h3 _ _ J.D k D;obtain⟨e4,k,D⟩:=h4 _ _ J.C k D;obtain⟨e5,k,D⟩:=h5 _ _ J.A k D;obtain⟨e6,k,D⟩:=h6 _ _ J.J k D;exact⟨by rw[e1,S,e3,e4,e5,e6],k,D⟩
abbrev Fa(pk:Bool)(m:oW):tX false m=iB m.w++(iB m.h++m.l.flatMap Px.pb):=by
 unfold tX; simp only[l7,ç,ϝ,if_false]; rfl
structure oW.Ok (m:oW):Prop extends oW.Good m where
 sides:0<=m.w∧m.w<=4096∧0<=m.h∧m.h<=4096
structure jo.Ok (p:jo):Prop where
 kind:I64 p.kind
 p0:p.p0.ok
 p1:p.p1.ok
 bW:I64 p.bW
 stops:p.stops.length<=16∧∀s∈p.stops,s.ok
 spread:I64 p.spread
 img:p.img.Ok
 cZ:I64 p.cZ
 q:UK p.q
abbrev Gf(pk:Bool)(p:jo):fG pk p=iB p.kind++(Px.pb p.color++(YB p.p0++(YB p.p1++(iB p.bW++(iJ jC p.stops++(iB p.spread++(tX pk p.img++(iB p.cZ++tY p.q)))))))):=by
 unfold fG YB; simp only[l7,ç]; rfl
abbrev acu{l:List UInt8}{pk:Bool}{rd sp:Int}{c:bI}{x y:kG}{D:List dI}{m:oW}(h1:Got iB I64 l p bad p1 b1 kd)(h2:Got Px.pb (λ_=>True) l p1 b1 p2 b2 c)(h3:Got YB kG.ok l p2 b2 p3 b3 x)(h4:Got YB kG.ok l p3 b3 p4 b4 y)(h5:Got iB I64 l p4 b4 p5 b5 rd)
  (h6:Got (iJ jC) (λys=>ys.length<18446744073709551616∧∀y∈ys,dI.ok y) l p5 b5 p6 b6 D) (h7:Got iB I64 l p6 b6 p7 b7 sp) (h8:Got (tX pk) oW.Ok l p7 b7 p8 b8 m) (h9:Got iB I64 l p8 b8 p9 b9 sm) (aa:Got tY UK l p9 b9 p10 b10 q) :
  Got (fG pk) jo.Ok l p bad p10 b10 ⟨kd,c,x,y,rd,D,sp,m,sm,q⟩:=λa r J S D=>by
 rw[Gf]at D;simp only[ç]at D;obtain⟨e1,k,D⟩:=h1 _ _ J.kind S D;obtain⟨e2,k,D⟩:=h2 _ _ G k D;obtain⟨e3,k,D⟩:=h3 _ _ J.p0 k D;obtain⟨e4,k,D⟩:=h4 _ _ J.p1 k D;obtain⟨e5,k,D⟩:=h5 _ _ J.bW k D;obtain⟨e6,k,D⟩:=h6 _ _ ⟨by have:=J.stops.1; omega,J.stops.2⟩ k D;obtain⟨e7,k,D⟩:=h7 _ _ J.spread k D;obtain⟨e8,k,D⟩:=h8 _ _ J.img k D;obtain⟨e9,k,D⟩:=h9 _ _ J.cZ k D;obtain⟨S,k,D⟩:=aa _ _ J.q k D;exact⟨by rw[e1,e2,e3,e4,e5,e6,e7,e8,e9,S],k,D⟩
abbrev wB(pk:Bool)(p:jo):0<(fG pk p).length:=by rw[Gf,Å]; have:=JI p.kind; omega
abbrev acv(p:kW):DL p=iB p.width++(iB p.join++(iB p.cap++(iB p.eP++(iB p.phase++iJ iB p.dash)))):=by
 unfold DL; simp only[l7,ç]; rfl
abbrev ajq{l:List UInt8}{a b c d e:Int}{D:List Int}(h1:Got iB I64 l p bad p1 b1 a)(h2:Got iB I64 l p1 b1 p2 b2 b)(h3:Got iB I64 l p2 b2 p3 b3 c)(h4:Got iB I64 l p3 b3 p4 b4 d)(h5:Got iB I64 l p4 b4 p5 b5 e)(h6:Got (iJ iB) (λys=>ys.length<18446744073709551616∧∀y∈ys,I64 y) l p5 b5 p6 b6 D) :
  Got DL kW.Good l p bad p6 b6 ⟨a,b,c,d,D,e⟩:=λy r J S D=>by
 rw[acv]at D;simp only[ç]at D;obtain⟨i1,i2,i3,i4,i5⟩:=J.i;obtain⟨e1,k,D⟩:=h1 _ _ i1 S D;obtain⟨S,k,D⟩:=h2 _ _ i2 k D;obtain⟨e3,k,D⟩:=h3 _ _ i3 k D;obtain⟨e4,k,D⟩:=h4 _ _ i4 k D;obtain⟨e5,k,D⟩:=h5 _ _ i5 k D;obtain⟨e6,k,D⟩:=h6 _ _ ⟨by have:=J.dash.1; omega,J.dash.2⟩ k D;exact⟨by rw[e1,S,e3,e4,e5,e6],k,D⟩
structure aO.Ok (n:aO):Prop where
 i:I64 n.id∧I64 n.kind∧I64 n.depth∧I64 n.aP∧I64 n.blend∧I64 n.aV∧I64 n.cZ
 q:UK n.q
 clip:n.clip.length<=256∧∀s∈n.clip,s.ok
 path:n.kind=2->n.path.length<=256∧∀s∈n.path,s.ok
 fill:n.kind=2->n.fill.length<=1∧∀p∈n.fill,p.Ok
 stroke:n.kind=2->n.stroke.length<=1∧∀p∈n.stroke,p.Ok
 style:n.kind=2->0<n.stroke.length->n.style.Good
 img:n.kind=3->n.img.Ok
 canon:n.canon=n
abbrev JZ(pk:Bool)(n:aO):fA pk n=iB n.id++(iB n.kind++(iB n.depth++(tY n.q++(iJ lF n.clip++(iB n.aP++nV pk n))))):=by
 unfold fA; simp only[l7,ç]; rfl
def Com(pk:Bool)(l:List UInt8)(p:Nat)(bad:Bool)(p':Nat)(b':Bool)(id kd dp:Int)(q:Q6)(cl:List dL)(cr:Int):Prop:=
 ∀y r,aO.Ok y->bad=false->l.drop p=fA pk y++r->id=y.id∧kd=y.kind∧dp=y.depth∧q=y.q∧cl=y.clip∧cr=y.aP∧b'=false∧l.drop p'=nV pk y++r
abbrev ajr{pk:Bool}{l:List UInt8}(h1:Got iB I64 l p bad p1 b1 id)(h2:Got iB I64 l p1 b1 p2 b2 kd)(h3:Got iB I64 l p2 b2 p3 b3 dp)(h4:Got tY UK l p3 b3 p4 b4 q)
  (h5:Got (iJ lF) (λys=>ys.length<18446744073709551616∧∀y∈ys,dL.ok y) l p4 b4 p5 b5 cl) (h6:Got iB I64 l p5 b5 p6 b6 cr):Com pk l p bad p6 b6 id kd dp q cl cr:=λy r J S D=>by
 rw[JZ]at D;simp only[ç]at D;obtain⟨i1,i2,i3,i4,-⟩:=J.i;obtain⟨e1,k,D⟩:=h1 _ _ i1 S D;obtain⟨S,k,D⟩:=h2 _ _ i2 k D;obtain⟨e3,k,D⟩:=h3 _ _ i3 k D;obtain⟨e4,k,D⟩:=h4 _ _ J.q k D;obtain⟨e5,k,D⟩:=h5 _ _ ⟨by have:=J.clip.1; omega,J.clip.2⟩ k D;obtain⟨J,k,D⟩:=h6 _ _ i4 k D;exact⟨e1,S,e3,e4,e5,J,k,D⟩
abbrev aqa (c:UInt8):List UInt8:=[c]
abbrev afO (l:List UInt8)(p:Nat)(bad:Bool)(p':Nat)(b':Bool)(c:UInt8):Prop:=Got aqa (λ_=>True) l p bad p' b' c
abbrev afP{l:List UInt8}{c:UInt8}(hc:Yl l p bad 1=[c]):afO l p bad (ţ l p bad 1) (GX l p bad 1) c:=λy r _ J e=>by
 obtain⟨D,S,h3⟩:=UJ (n:=1) (B:=[y]) I O J e;rw[hc]at D;exact⟨by simpa using D,S,h3⟩
abbrev aaN(b:Bool):(qw b==1)=b:=by cases b<;>rfl
abbrev acw{pk:Bool}{l:List UInt8}{D:Int}{op c1 c2:UInt8}(hC:Com pk l p bad p6 b6 id kd dp q cl cr)(hk:kd=1)(h7:afO l p6 b6 p7 b7 op)(h8:Got iB I64 l p7 b7 p8 b8 D)(h9:afO l p8 b8 p9 b9 c1)(aa:afO l p9 b9 p10 b10 c2) :
  Got (fA pk) aO.Ok l p bad p10 b10 ⟨id,kd,dp,q,cl,cr,op,D,c1==1,c2==1,[],0,[],.zero,[],.zero,0⟩:=λy r S J D=>by
 obtain⟨e1,e2,e3,e4,e5,e6,k,D⟩:=hC y r S J D;have J:y.kind=1:=e2▸hk;unfold nV at D;rw[Á J]at D;simp only[ç,uS]at D;obtain⟨f1,k,D⟩:=h7 y.dJ _ G k D;obtain⟨f2,k,D⟩:=h8 _ _ S.i.A k D;obtain⟨f3,k,D⟩:=h9 (qw y.isolated) ([qw y.dA]++r) G k D;obtain⟨f4,k,D⟩:=aa _ _ G k D;refine⟨?_,k,D⟩;rw[<-S.canon];unfold aO.canon;rw[Á J,e1,e2,e3,e4,e5,e6,f1,f2,f3,f4,aaN,aaN]
abbrev OB{pk:Bool}{l:List UInt8}{aa:Nat}{ab:Bool}{J:Int}{pa:List dL}{S D:List jo}{sy:kW}(hC:Com pk l p bad p6 b6 id kd dp q cl cr)(hk:kd=2)(h7:Got (iJ lF) (λys=>ys.length<18446744073709551616∧∀y∈ys,dL.ok y) l p6 b6 p7 b7 pa)(h8:Got iB I64 l p7 b7 p8 b8 J)
  (h9:Got (iJ (fG pk)) (λys=>ys.length<18446744073709551616∧∀y∈ys,jo.Ok y) l p8 b8 p9 b9 S) (ae:Got (iJ (fG pk)) (λys=>ys.length<18446744073709551616∧∀y∈ys,jo.Ok y) l p9 b9 p10 b10 D)
  (ac:(0<D.length∧Got DL kW.Good l p10 b10 aa ab sy)∨(¬0<D.length∧aa=p10∧ab=b10∧sy = .zero)) :
  Got (fA pk) aO.Ok l p bad aa ab ⟨id,kd,dp,q,cl,cr,0,0,false,false,pa,J,S,sy,D,.zero,0⟩:=λy r S D J=>by
 obtain⟨e1,e2,e3,e4,e5,e6,k,J⟩:=hC y r S D J;have D:y.kind=2:=e2▸hk;unfold nV at J;rw[UQ Z,Á D]at J;simp only[ç,uS]at J;obtain⟨f1,k,J⟩:=h7 _ _ ⟨by have:=(S.path D).1; omega,(S.path D).2⟩ k J;obtain⟨f2,k,J⟩:=h8 _ _ S.i.S k J;obtain⟨f3,k,J⟩:=h9 _ _ ⟨by have:=(S.fill D).1; omega,(S.fill D).2⟩ k J;obtain⟨f4,k,J⟩:=ae _ _ ⟨by have:=(S.stroke D).1; omega,(S.stroke D).2⟩ k J;have fin:sy=(if 0<y.stroke.length then y.style else .zero)∧ab=false∧l.drop aa=r:=by
  rcases ac with ⟨hs,ac⟩ | ⟨hs,rfl,rfl,rfl⟩
  .rw[f4]at hs;rw[Á hs]at J |-;exact ac _ _ (S.style D hs) k J
  rw[f4]at hs;rw[UQ hs]at J |-;exact⟨I,k,by simpa using J⟩
 refine⟨?_,fin.2⟩;rw[<-S.canon];unfold aO.canon;rw[UQ Z,Á D,e1,e2,e3,e4,e5,e6,f1,f2,f3,f4,fin.1]
abbrev acy{pk:Bool}{l:List UInt8}{m:oW}(hC:Com pk l p bad p6 b6 id kd dp q cl cr)(hk:kd=3)(h7:Got (tX pk) oW.Ok l p6 b6 p7 b7 m)(h8:Got iB I64 l p7 b7 p8 b8 sm) :
  Got (fA pk) aO.Ok l p bad p8 b8 ⟨id,kd,dp,q,cl,cr,0,0,false,false,[],0,[],.zero,[],m,sm⟩:=λy r S J D=>by
 obtain⟨e1,e2,e3,e4,e5,e6,k,D⟩:=hC y r S J D;have J:y.kind=3:=e2▸hk;unfold nV at D;rw[UQ Z,UQ Z,Á J]at D;simp only[ç,uS]at D;obtain⟨f1,k,D⟩:=h7 _ _ (S.img J) k D;obtain⟨f2,k,D⟩:=h8 _ _ S.i.2.2.2.2.2.2 k D;refine⟨?_,k,D⟩;rw[<-S.canon];unfold aO.canon;rw[UQ Z,UQ Z,Á J,e1,e2,e3,e4,e5,e6,f1,f2]
abbrev acz{pk:Bool}{l:List UInt8}(hC:Com pk l p bad p6 b6 id kd dp q cl cr)(S:kd≠1)(h2:kd≠2)(h3:kd≠3) :
  Got (fA pk) aO.Ok l p bad p6 b6 ⟨id,kd,dp,q,cl,cr,0,0,false,false,[],0,[],.zero,[],.zero,0⟩:=λy r J hb D=>by
 obtain⟨e1,e2,e3,e4,e5,e6,k,D⟩:=hC y r J hb D;subst e2;unfold nV at D;rw[UQ S,UQ h2,UQ h3]at D;refine⟨?_,k,by simpa using D⟩;rw[<-J.canon];unfold aO.canon;rw[UQ S,UQ h2,UQ h3,e1,e3,e4,e5,e6]
abbrev acA(pk:Bool)(n:aO):0<(fA pk n).length:=by rw[JZ,Å]; have:=JI n.id; omega
end
section
open En Na Nb
variable{α:Type}
variable{most:Int}{k:Nat}
abbrev Gg(n1 n2:Bool)(s1 s2:y9)(l m:List UInt32)(w:E5)(D:aH w s1 l)(S:aH w s2 m) :
  Nq prog 285 #[.agg #[.b n1,s1],.agg #[.b n2,s2]] w (Ï w (.b (n1==n2&&l==m))):=by
 obtain⟨a1,c1,rfl⟩:=D.shape;obtain⟨a2,c2,rfl⟩:=S.shape;have J:=D.len;have ai:=S.len;unfold maxLen at J ai;have J:=FU ((aI w (.cells #[.b n1,.s a1 l.length c1] 24)).alloc Y (.cells #[.b n2,.s a2 m.length c2] 24));have H1:=FU D;have H2:=FU S;clear D S;by_cases hn:n1=n2
 .subst hn;by_cases hl:l.length=m.length
  .have HL:=FU hl;obtain⟨W,D⟩:∃W,((w.alloc (.cells #[.b n1,.s a1 l.length c1] 24)).alloc (.cells #[.b n1,.s a2 m.length c2] 24))=W:=⟨_,I⟩;have hK:∀w1,Ext W w1->w1.cell? ⟨w.heap.size,1,none⟩=some (.s a1 l.length c1)∧w1.cell? ⟨w.heap.size+1,1,none⟩=some (.s a2 m.length c2):=by
    intro w1 S;subst D;constructor
    .rw[S.cell (p:=⟨w.heap.size,1,none⟩) (by simp; omega)]; simp[go_sem]
    rw[S.cell (p:=⟨w.heap.size+1,1,none⟩) Y]; simp[go_sem]
   have HK:=FU hK;rw[D]at J;have HW:=FU D;have ac:((l.length:Int) != (m.length:Int))=false:=by rw[bne_eq_false_iff_eq]; omega
   have am:m.length<=l.length:=ϛ hl.symm;have an:l.length<=m.length:=ϛ hl;clear hl hK D;cases n1;all_goals
    go_enter func285,ntmps285
    go_wp2_with fail
    rw[HW.out]
    clear ac
    go_loopw [5,6,24] (λ_ _ i wr=>∃k:Nat,i = .i k∧k<=l.length∧l.take k=m.take k∧Ext W wr) (λ_ _ i _=>l.length-(intOf i).toNat)
    case atStart=>exact⟨0,I,Î _,I,ø _ _⟩
    case round =>
     obtain⟨k,rfl,hk,ht,D⟩:=hrel
     have HT:=FU ht
     clear ht
     obtain⟨q1,q2⟩:=HK.out wr D
     by_cases hlt:k<l.length
     .obtain⟨bx,ox,cx,hxs,hbx,hlx,hmx,hcx⟩:=dO H1.out I Z
      obtain⟨af,oy,cy,ag,al,ao,ap,ah⟩:=dO H2.out I Z
      simp only[Ĉ]at hxs ag
      obtain⟨rfl,-,-⟩:=hxs
      obtain⟨rfl,-,-⟩:=ag
      have ae:k<m.length:=Z
      have S:=Ip J.out D
      have r1:wr.cell? ⟨bx,ox+k,none⟩=some (bn l[k]):=by rw[S.cell (p:=⟨bx,ox+k,none⟩) hbx]; exact hcx k hlt
      have r2:wr.cell? ⟨af,oy+k,none⟩=some (bn m[k]):=by rw[S.cell (p:=⟨af,oy+k,none⟩) al]; exact ah k ae
      have aa:=take_snoc l k hlt
      have ab:=take_snoc m k ae
      clear hcx ah S
      have S:(k:Int)<(m.length:Int):=Z
      by_cases he:l[k]=m[k]
      .have hnx:l.take (k+1)=m.take (k+1):=by rw[aa,ab,HT.out,he]
       rw[he]at r1
       have S:=FU hnx
       generalize m[k]=d at *
       clear aa ab hnx he
       go_wp2_with fail
       go_roundw
       case rel=>exact⟨k+1,by go_num,Z,S.out,D⟩
       case measure=>simp[intOf]; omega
      .have hx:((l[k].toNat:Int) != (m[k].toNat:Int))=true:=by
        rw[bne_iff_ne]; intro e; exact he (Ř.1 Z)
       have S:l≠m:=λe=>he (by subst e; rfl)
       have HR:Hid ((l==m)=false):=õ.2 S
       generalize l[k]=d1 at *
       generalize m[k]=d2 at *
       clear aa ab he S
       go_wp2_with fail
       go_ret
       exact⟨by rw[HR.out]; rfl,Ip J.out D⟩
     .obtain rfl:k=l.length:=by omega
      have S:l=m:=by
       have:=HT.out
       rw[ħ,HL.out,ħ]at this; exact this
      have HR:Hid ((l==m)=true):=ß.2 S
      clear S
      go_wp2_with fail
      go_ret
      exact⟨by rw[HR.out]; rfl,Ip J.out D⟩
  have ac:((l.length:Int) != (m.length:Int))=true:=by rw[bne_iff_ne]; omega
  have S:Hid ((n1==n1&&l==m)=false):=by
   show _=_;rw[Ų,Ł,õ]; exact λe=>hl (by rw[e])
  clear hl;cases n1;all_goals
   go_enter func285,ntmps285
   go_wp2_with fail
   go_ret
   exact⟨by rw[S.out]; rfl,J.out⟩
 have S:Hid ((n1==n2&&l==m)=false):=by
  show _=_;rw[õ.2 hn,ŕ]
 cases n1<;>cases n2
 .exact absurd I hn
 case' true.true=>exact absurd I hn
 all_goals
  clear hn
  go_enter func285,ntmps285
  go_wp2_with fail
  go_ret
  exact⟨by rw[S.out]; rfl,J.out⟩
abbrev acB{n1:Bool}{a b:Nat}(h:n1=true->0<a):(decide (0<b)&&((n1==(nrm n1 false a b).1&&RI a==RI (nrm n1 false a b).2.1)&&(false==false&&RI b==RI (nrm n1 false a b).2.2)))=H8 n1 a b:=by
 have S:(!(n1&&decide ((RI a).length=0)))=true:=by
  cases n1
  .rfl
  have:=h I;rw[Ł,Ŏ,Ą];intro e; have:=pU e; omega
 cases hq:H8 n1 a b with
 | true =>
  have J:0<b:=by
   unfold H8 at hq;simp only[Û,Þ]at hq;exact hq.2.1
  rw[QX hq,ņ J]; simp
 | false =>
  rw[Bool.eq_false_iff];intro D;simp only[Û,Þ,ß]at D;obtain⟨J,⟨_,e2⟩,_,e3⟩:=D;unfold H8 at hq;rw[S,ņ J,Ł,Ł]at hq;have D:b=(nrm n1 false a b).2.2:=by
   have:=Ñ TR e3;rwa [RH,RH]at this
  have S:Nat.gcd a b=1:=by
   unfold nrm at D;rw[UQ Z]at D;simp only at D;have aa:0<Nat.gcd a b:=ϻ _ J;have hd:=Nat.div_mul_cancel (Ϙ a b);rw[<-D]at hd;rcases ĩ 1 (Nat.gcd a b)with D | D
   .have:b*2<=b*Nat.gcd a b:=Ę _ D;omega
   omega
  rw[S]at hq;simp at hq
abbrev AA(n1:Bool)(s t:y9)(a b:Nat)(w:E5)(J:aH w s (RI a))(S:aH w t (RI b))(D:(RI a).length<=5000000)(aw:(RI b).length<=5000000)(hn:n1=true->0<a) :
  Nq prog 253 #[.agg #[.b n1,s,.z,t]] w (Ï w (.b (H8 n1 a b))):=by
 have D:=aI w (.cells #[.b n1,s,.z,t] 26);have ac:=FU D;have H:=FU (And.intro J S);have hN:=pK n1 false s t _ _ _ (J.below D) (S.below D) Z Z;rw[RH,RH]at hN;have HN:=FU hN;have HR:=FU (acB (b:=b) hn);obtain⟨a1,c1,rfl⟩:=J.shape;obtain⟨a2,c2,rfl⟩:=S.shape;generalize nrm n1 false a b=r at *;obtain⟨ng,ga,gb⟩:=r;simp only at HR;generalize H8 n1 a b=Q at *;have hK:∀w1,Ext (w.alloc (.cells #[.b n1,.s a1 (RI a).length c1,.z,.s a2 (RI b).length c2] 26)) w1->(∀i,w1.cell? ⟨w.heap.size,i,none⟩ = #[Value.b n1,.s a1 (RI a).length c1,.z,.s a2 (RI b).length c2][i]?)∧w.heap.size<w1.heap.size:=λw1 h=>⟨(jg h).1,(jg h).F⟩;have HK:=FU hK;clear J S D hN hK hn;go_enter func253,ntmps253
 go_wp2_with fail
 refine HN.out.mono ?_;rintro e w1 ⟨x,rfl,S,J⟩;have S:aC _ w1 x ng ga gb:=S;obtain⟨b1,d1,b2,d2,rfl⟩:=S.shape;obtain⟨k1,kz⟩:=HK.out w1 J;have HX:=FU (And.intro S.parts.1 S.parts.2.1);have hE:=J.alloc J.size (.cells #[.b ng,.s b1 (RI ga).length d1,.z,.s b2 (RI gb).length d2] 26);have hS:=nX false (.s a2 (RI b).length c2) (RI b) _ (H.out.2.below (Ip ac.out hE)) Z;rw[RH]at hS;have HE:=FU hE;have ae:=FU J;have HS:=FU hS;clear S J hE hS HN;have aa:Hid (∀w2,Ext (w1.alloc (.cells #[.b ng,.s b1 (RI ga).length d1,.z,.s b2 (RI gb).length d2] 26)) w2 ->
   (∀i,w2.cell? ⟨w.heap.size,i,none⟩ = #[Value.b n1,.s a1 (RI a).length c1,.z,.s a2 (RI b).length c2][i]?)∧(∀i,w2.cell? ⟨w1.heap.size,i,none⟩ = #[Value.b ng,.s b1 (RI ga).length d1,.z,.s b2 (RI gb).length d2][i]?) ∧
   aH w2 (.s a1 (RI a).length c1) (RI a)∧aH w2 (.s a2 (RI b).length c2) (RI b)∧aH w2 (.s b1 (RI ga).length d1) (RI ga)∧aH w2 (.s b2 (RI gb).length d2) (RI gb)∧Ext w w2):=by
  intro w2 h2
  have h3:=Ip (aI w1 _) h2
  have S:=Ip ac.out (Ip ae.out h3)
  exact⟨(HK.out w2 (Ip ae.out h3)).1,(jg h2).1,H.out.1.below S,H.out.2.below S,HX.out.1.below h3,HX.out.2.below h3,S⟩
 clear HE ae HX HK ac H;cases D:decide (0<b)with
 | false =>
  have ai:b=0:=by have:=é D; omega
  have hr:Hid (Q=false):=by show _=_; rw[<-HR.out,D]; rfl
  rw[show qF false b=0 by rw[ai]; rfl]at HS;clear D ai;go_wp2_with fail
  refine HS.out.mono ?_;rintro e w2 ⟨rfl,J⟩;obtain⟨-,-,-,-,-,-,S⟩:=aa.out w2 J;have HF:=FU S;clear J S;go_wp2_with fail
  go_ret
  exact⟨by rw[hr.out]; rfl,HF.out⟩
 | true =>
  have ao:0<b:=Ý D;have ab:=HR.out;rw[D,Ł]at ab;have al:qF false b=1:=by unfold qF; rw[UQ Z]; rfl
  rw[al]at HS;obtain⟨S1,ag⟩:∃S1,(n1==ng&&RI a==RI ga)=S1:=⟨_,I⟩;obtain⟨S2,ah⟩:∃S2,(false==false&&RI b==RI gb)=S2:=⟨_,I⟩;rw[ag,ah]at ab;have am:=FU ab;have ap:=FU ag;have aq:=FU ah;clear D ao al ab ag ah;go_wp2_with fail
  refine HS.out.mono ?_;rintro e w2 ⟨rfl,J⟩;obtain⟨k1,k2,g1,g2,g3,g4,S⟩:=aa.out w2 J;have D:=Gg n1 ng _ _ _ _ w2 g1 g3;rw[ap.out]at D;have HM:=FU D;have an:=FU J;clear J g1 g2 g3 g4 S D HS;cases S1
  .go_wp2_with fail
   refine HM.out.mono ?_;rintro e w3 ⟨rfl,J⟩;obtain⟨-,-,-,-,-,-,S⟩:=aa.out w3 (Ip an.out J);have HF:=FU S;clear J S k1 k2;go_wp2_with fail
   go_ret
   exact⟨by rw[<-am.out]; rfl,HF.out⟩
  go_wp2_with fail
  refine HM.out.mono ?_;rintro e w3 ⟨rfl,J⟩;have af:=Ip an.out J;obtain⟨k1,k2,g1,g2,g3,g4,S⟩:=aa.out w3 af;have D:=Gg false false _ _ _ _ w3 g2 g4;rw[aq.out]at D;have ar:=FU D;have av:=FU af;clear J g1 g2 g3 g4 S D af HM;go_wp2_with fail
  refine ar.out.mono ?_;rintro e D ⟨rfl,J⟩;obtain⟨-,-,-,-,-,-,S⟩:=aa.out D (Ip av.out J);have HF:=FU S;clear J S k1 k2;go_wp2_with fail
  go_ret
  exact⟨by rw[<-am.out]; rfl,HF.out⟩
abbrev am3(v:y9)(l:List UInt8)(w:E5)(J:bK w v l)(D:l.length<=100000000000) :
  Nq prog 61 #[v] w λe w'=>∃D,e = .R D∧OwnB w.heap.size w' D l∧Ext w w':=Yr v l w J Z
def afQ(w:E5)(b:Nat)(v:y9)(l:List UInt8)(p:Nat)(r:Except Nat (List UInt8×Nat))(e:ĺ)(w':E5):Prop:=
 ∃q,Rd w' b v l q∧Ch b w w'∧(match r with
  | .ok (s,k)=>q=p+k∧∃x,e = .R (.tuple #[x,.i 0])∧OwnB w.heap.size w' x s
  | .error er=>e = .R (.tuple #[.sn,.i er]))
abbrev ajs{l:List UInt8}{e:Nat}(h:mW 9 l = .error e):uT most l = .error e:=by unfold uT; rw[h]
abbrev aqc{l:List UInt8}{n:Nat}(h:mW 9 l = .ok (n,k))(D:most<0∨most<(n:Int)):uT most l = .error 5:=by unfold uT; rw[h]; simp only; rw[Á D]
abbrev aqd{l:List UInt8}{n:Nat}(h:mW 9 l = .ok (n,k))(D:¬(most<0∨most<(n:Int)))(J:l.length-k<n):uT most l = .error 4:=by
 unfold uT; rw[h]; simp only; rw[UQ D,Á J]
abbrev aqe{l:List UInt8}{n:Nat}(h:mW 9 l = .ok (n,k))(D:¬(most<0∨most<(n:Int)))(J:¬l.length-k<n):uT most l = .ok ((l.drop k).take n,k+n):=by
 unfold uT; rw[h]; simp only; rw[UQ D,UQ J]
abbrev uU(l:List UInt8)(b p:Nat)(v:y9)(most:Int)(w:E5)(h:Rd w b v l p)(hl:l.length<=100000000000)(D:most<=9223372036854775807) :
  Nq prog 74 #[.q b 0,.i most] w (afQ w b v l p (uT most (l.drop p))):=by
 have S:=FU (BM l b p v w h);have D:=h.hp;cases hu:mW 9 (l.drop p)with
 | error er =>
  rw[ajs hu];rw[hu]at S;have D:=aas hu;clear hu h;go_enter func74,ntmps74
  go_wp2_with fail
  refine S.out.mono ?_;rintro e w1 ⟨q,D,J,rfl⟩;have HR:=FU D;have HC:=FU J;clear D J S;go_wp2_with fail
  go_ret2
  exact⟨q,HR.out,HC.out,I⟩
 | ok r =>
  obtain⟨n,k⟩:=r;obtain⟨al,am,ah,ai,-⟩:=Hy hu;simp only[Ş]at ah;rw[hu]at S;clear h;by_cases h5:most<0∨most<(n:Int)
  .rw[aqc hu h5];clear hu;by_cases h0:most<0
   .clear h5;go_enter func74,ntmps74
    go_wp2_with fail
    refine S.out.mono ?_;rintro e w1 ⟨q,D,J,hq,rfl⟩;have HR:=FU D;have HC:=FU J;clear D J S hq;go_wp2_with fail
    go_ret2
    exact⟨q,HR.out,HC.out,I⟩
   have h1:most<(n:Int):=Z
   clear h5;go_enter func74,ntmps74
   go_wp2_with fail
   refine S.out.mono ?_;rintro e w1 ⟨q,D,J,hq,rfl⟩;have HR:=FU D;have HC:=FU J;clear D J S hq;go_wp2_with fail
   go_ret2
   exact⟨q,HR.out,HC.out,I⟩
  have h0:0<=most:=Z
  have h1:(n:Int)<=most:=Z
  by_cases h4:(l.drop p).length-k<n
  .rw[aqd hu h5 h4];have af:((l.length-(p+k):Nat):Int)<(n:Int):=by simp at h4; omega
   clear hu h5 h4;go_enter func74,ntmps74
   go_wp2_with fail
   refine S.out.mono ?_;rintro e w1 ⟨q,D,J,rfl,rfl⟩;have HL:=FU (QC l b (p+k) v w1 D);have HC:=FU J;clear D J S;go_wp2_with fail
   refine HL.out.mono ?_;rintro e w2 ⟨rfl,D,J⟩;have HR:=FU D;have aa:=FU (Ch.trans HC.out J);clear D J HL;go_wp2_with fail
   go_ret2
   exact⟨_,HR.out,aa.out,I⟩
  rw[aqe hu h5 h4];have af:¬((l.length-(p+k):Nat):Int)<(n:Int):=by simp at h4; omega
  have ag:p+k+n<=l.length:=by simp at h4; omega
  clear hu h5 h4;go_enter func74,ntmps74
  go_wp2_with fail
  refine S.out.mono ?_;rintro e w1 ⟨q,D,J,rfl,rfl⟩;have HL:=FU (QC l b (p+k) v w1 D);have HC:=FU J;clear D J S;go_wp2_with fail
  refine HL.out.mono ?_;rintro e w2 ⟨rfl,D,J⟩;have HX:=FU (next_any l b (p+k) n v w2 D ag Z);have aa:=FU (Ch.trans HC.out J);clear D J HL;go_wp2_with fail
  refine HX.out.mono ?_;rintro e w3 ⟨x,rfl,D,J,S,ae⟩;have HR:=FU D;have ab:=FU (Ch.trans aa.out J);have ac:((l.drop (p+k)).take n).length<=100000000000:=by simp; omega
  have HK:=FU (am3 x _ w3 S ac);clear D J S ae HX;go_wp2_with fail
  refine HK.out.mono ?_;rintro e D ⟨y,rfl,J,S⟩;have HO:=FU J;have D:=FU S;clear J S HK;go_wp2_with fail
  go_ret2
  refine⟨p+k+n,HR.out.ext D.out,Ch.trans ab.out (Ch.aY D.out),Z,_,I,?_⟩;rw[Ÿ];exact bF HO.out ab.out.size
open En Na Nb
variable{α:Type}
def Fb(w:E5)(r:List UInt8×Nat×Nat)(e:ĺ)(w':E5):Prop:=
 ∃x,e = .R (.tuple #[x,.i r.2.1,.i r.2.2])∧OwnB w.heap.size w' x r.1∧Ext w w'
variable{most:Int}{i:Nat}
abbrev OC{w w':E5}{er:Nat}(D:Ext w w'):Fb w ([],0,er) (.R (.tuple #[.sn,.i 0,.i er])) w':=
 ⟨_,I,ϭ _ _ _ _,D⟩
abbrev ajt{l:List UInt8}{i:Int}(h:i<0∨(l.length:Int)<i):Ť l i most=([],0,2):=by unfold Ť; rw[Á h]
abbrev am4{l s:List UInt8}{k:Nat}(h:i<=l.length)(D:uT most (l.drop i) = .ok (s,k)):Ť l i most=(s,i+k,0):=by
 unfold Ť; rw[UQ Z,ŗ,D]
abbrev aju{l:List UInt8}{e:Nat}(h:i<=l.length)(D:uT most (l.drop i) = .error e):Ť l i most=([],0,e):=by
 unfold Ť; rw[UQ Z,ŗ,D]
abbrev UL(v:y9)(l:List UInt8)(i most:Int)(w:E5)(D:bK w v l)(hl:l.length<=100000000000)(aa:most<=9223372036854775807) :
  Nq prog 45 #[v,.i i,.i most] w (Fb w (Ť l i most)):=by
 by_cases hbad:i<0∨(l.length:Int)<i
 .rw[ajt hbad];have HF:=FU (Jy v l i w D hbad);clear hbad;go_enter func45,ntmps45
  go_wp2_with fail
  refine HF.out.mono ?_;rintro e w' ⟨rfl,rfl⟩;go_wp2_with fail
  go_ret3
  exact OC (ø _ _)
 obtain⟨p,rfl⟩:∃p:Nat,i=p:=⟨i.toNat,Z⟩;have hp:p<=l.length:=Z
 have HF:=FU (QA v l p w D hp);clear hbad;cases hu:uT most (l.drop p)with
 | error er =>
  rw[aju hp hu];have D:=QW hu;have HU:=FU hu;clear hu;go_enter func45,ntmps45
  go_wp2_with fail
  refine HF.out.mono ?_;rintro e w1 ⟨b,rfl,D,J,hb⟩;have HN:=FU (uU l b p v most w1 D hl aa);rw[HU.out]at HN;clear D HF;go_wp2_with fail
  refine HN.out.mono ?_;rintro e w2 ⟨q,D,S,rfl⟩;have HB:=FU (Β J (S.below hb J.size));clear D S J HN;go_wp2_with fail
  go_ret3
  exact OC HB.out
 | ok r =>
  obtain⟨s,k⟩:=r;rw[am4 hp hu];have HU:=FU hu;clear hu;go_enter func45,ntmps45
  go_wp2_with fail
  refine HF.out.mono ?_;rintro e w1 ⟨b,rfl,D,J,hb⟩;have HN:=FU (uU l b p v most w1 D hl aa);rw[HU.out]at HN;clear D HF;go_wp2_with fail
  refine HN.out.mono ?_;rintro e w2 ⟨q,D,S,hq,x,rfl,ho⟩;have h1:=D.c1;have HB:=FU (Β J (S.below hb J.size));have HO:=FU (bF ho J.size);have HQ:=FU hq;clear D S J HN hq ho;go_wp2_with fail
  go_quiet (fail)
  go_wp2_with fail
  go_ret3
  rw[HQ.out];exact⟨x,I,dF HO.out (below_drewN (ø _ _) _),below_drewN HB.out _⟩
end
end Go.Proofs.Õ
section
namespace Go.Sx
open Na Nb
variable{P:Ë}{Q:Exit->Act->E5->Prop}{w0 w:E5}{a:Act}{os:List YM}{n:Nat}{l:List (Nat×y9)}{bl:List (Nat×List y9)}{vs:List eX}{o:YM}{ρ:î->y9}
def KnL(ρ:î->y9):List (Nat×y9)->Prop
 | []=>True
 | p::r=>ρ (.tmp p.1)=p.2∧KnL ρ r
abbrev KnL.look{ρ:î->y9}:∀{l:List (Nat×y9)},KnL ρ l->∀q v,l.lookup q=some v->ρ (.tmp q)=v
 | [],_,q,v,h=>by simp at h
 | p::r,hk,q,v,h=>by
  rw[ĝ]at h
  split at h
  .rename_i hq
   obtain rfl:q=p.1:=by simpa using hq
   rw[<-Ò h]; exact hk.1
  .exact hk.2.look q v h
variable{V:y9}{x:Nat}
abbrev dv(D:Std ρ)(l:List (Nat×y9))(hl:KnL ρ l)(J:evV P o l=some V:=by kernel_rfl)(hd:o.dst.isSome=true:=by rfl):Does P o ρ w (λv w'=>Ext w w'∧Rel.is V (kept o v) w'):=
 jw (os:=[o]) (i:=0) I D l hl.look V ⟨å,by obtain⟨d,hd⟩:=Į.1 hd; unfold kept; rw[hd]; rfl⟩ J
def evC(P:Ë)(o:YM)(l:List (Nat×y9)):Option (FuncId×Array y9):=match wP o.op || !o.op.operands.all (λx=>(rd (lift l) [] x).isSome),jd (ev0 P (Í (zQ (lift l) []) o))with
 | false,some (.enter f args)=>some (f,args)
 | _,_=>none
abbrev dc(hs:Std ρ)(l:List (Nat×y9)){T:Fact}{f:FuncId}{args:Array y9}(hl:KnL ρ l)(hc:Nq P f args w (λe D=>∃v,e = .R v∧Ext w D∧T v D))(hx:evC P o l=some (f,args):=by kernel_rfl)(hd:o.dst.isSome=true:=by rfl) :
  Does P o ρ w (λv w'=>Ext w w'∧T (kept o v) w'):=by
 unfold evC at hx;split at hx
 .rename_i f' args' hav hev;simp only[Æ,Ê]at hx;obtain⟨rfl,rfl⟩:=hx;simp only[Ĕ]at hav;have hH:Holds ρ (lift l):=λq x J=>by
   rw[ku]at J;cases S:l.lookup q with
   | none=>simp[S]at J
   | some u =>
    simp only[S,ě,Æ]at J;subst J;rw[hl.look q u S]; rfl
  have J:(Í ρ o).run P w = .ok (.enter f' args') w:=lN hs (gG hH o) (p:=[]) I hav.1 (by simpa using hav.2) hev;refine Et J (hc.mono λe D h=>?_);obtain⟨v,D,S,J⟩:=h;obtain⟨d,hd⟩:=Į.1 hd;exact⟨v,D,S,by unfold kept; rw[hd]; exact J⟩
 cases hx
def cvB(P:Ë)(o:YM):Option Nat:=match o.op with
 | .convert s t (.tmp x)=>(match P.underlying s,P.underlying t with
  | some (.slice e),some .string=>(match P.underlying e with
   | some (.int .u8)=>some x
   | _=>none)
  | _,_=>none)
 | _=>none
abbrev ajv{v:y9}{bs:List UInt8}(hx:ρ (.tmp x)=v)(J:bK w v bs)(D:cvB P o=some x:=by kernel_rfl)(hd:o.dst.isSome=true:=by rfl):Does P o ρ w (λv w'=>Ext w w'∧Rel.is (.string ⟨bs.toArray⟩) (kept o v) w'):=by
 unfold cvB at D;split at D
 .rename_i s t x' hop;split at D
  .rename_i e hs ht;split at D
   .rename_i he;obtain rfl:=Ò D;have S:=oC (P:=P) hs he ht J;have J:(Í ρ o).run P w = .ok (.value (.string ⟨bs.toArray⟩)) w:=by
     unfold Í;rw[hop];simp only[hx];rw[ġ,S];rfl
    unfold Does;rw[J];exact⟨å,by obtain⟨d,hd⟩:=Į.1 hd; unfold kept; rw[hd]; rfl⟩
   cases D
  cases D
 cases D
abbrev W9{t b off:Nat}{ty:Ð}{cs:List y9}(S:ρ (.tmp t) = .q b off)(D:w.rangeAt b off cs)(ho:o.op = .load ty (.tmp t):=by rfl)(hl:SB P ty cs=some V:=by kernel_rfl)(hd:o.dst.isSome=true:=by rfl) :
  Does P o ρ w (λv w'=>Ext w w'∧Rel.is V (kept o v) w'):=by
 have J:=QY hl D;have D:(Í ρ o).run P w = .ok (.value V) w:=by
  unfold Í;rw[ho];simp only[S,ġ,J];rfl
 unfold Does;rw[D];exact⟨å,by obtain⟨d,hd⟩:=Į.1 hd; unfold kept; rw[hd]; rfl⟩
abbrev aqf{t r:Ð}{y:Nat}{l m:List UInt8}{B:Bool}(J:ρ (.tmp x) = .string ⟨l.toArray⟩)(S:ρ (.tmp y) = .string ⟨m.toArray⟩)(hV:(l==m)=B)(ho:o.op = .binOp .eql t (.tmp x) (.tmp y) r:=by rfl)(hd:o.dst.isSome=true:=by rfl) :
  Does P o ρ w (λv w'=>Ext w w'∧Rel.is (.b B) (kept o v) w'):=by
 have D:(Í ρ o).run P w = .ok (.value (.b (l==m))) w:=by
  unfold Í;rw[ho];simp only[J,S];have J:(eqGuard .eql t (.tmp x) (.tmp y) (.string ⟨l.toArray⟩) (.string ⟨m.toArray⟩)).run P w = .ok () w:=I;have S:(binOp .eql t (.string ⟨l.toArray⟩) (.string ⟨m.toArray⟩)).run P w = .ok (.b (l==m)) w:=by
   rw[binOp_string_eql,ByteArray.toList_eq,ByteArray.toList_eq]; rfl
  simp only[ġ,J,S,ş];rfl
 unfold Does;rw[D];exact⟨å,by obtain⟨d,hd⟩:=Į.1 hd; unfold kept; rw[hd,hV]; rfl⟩
theorem qg{q:Nat->Bool}{i:Nat}{v:y9}:∀{l:List (Nat×y9)},(l.filter λp=>q p.1).lookup i=some v->q i=true∧l.lookup i=some v
 | [],h=>by simp at h
 | (x,u)::l,h=>by
  by_cases hp:q x=true
  .rw[List.filter_cons_of_pos (by exact hp)]at h
   by_cases e:i=x
   .subst e
    simp only[ĝ,Ų]at h |-
    exact⟨hp,h⟩
   .have D:(i==x)=false:=by simpa using e
    simp only[ĝ,D]at h |-
    exact qg h
  .rw[List.filter_cons_of_neg (by exact hp)]at h
   obtain⟨J,S⟩:=qg h
   refine⟨J,?_⟩
   have D:(i==x)=false:=by simp; intro e; subst e; exact hp J
   simp only[ĝ,D]
   exact S
abbrev OD(S:St w0 a w n l bl vs){id:Nat}(m:Nat)(Ts:List Fact)(j d:Nat)(V:y9)(hm:Rel.CV Ext Ts)(D:Go.Rel.qW P os.toArray (os.take m) Ts Ext (Ext w) a.eval (os.take m) Ts)
  (next:∀a' w',Ext w w'->St w0 a' w' n ((d,V)::l.filter λp=>os.all λo => !(o.dst==some p.1)) bl vs->wpList P os.toArray Q [] a' w') (hV:Ts[j]?=some (Rel.is V)) (hj:((os[j]?).bind (·.dst)==some d&&os.length==m&&decide (j<m))=true:=by kernel_rfl)
  (J:P.follows .mixedOrders=true:=by kernel_rfl) (hB:okB os.toArray m n=true:=by kernel_rfl):(Code.region id os.toArray true).wp P Q a w:=by
 simp only[Û,ß,Þ]at hj;obtain⟨⟨h1,rfl⟩,h3⟩:=hj;obtain⟨af,ac⟩:=Go.Rel.lG _ _ D;refine ſ J (J3 (R:=Ext) (C:=Ext w) os.length [] (by rw[S.s.size]; exact hB) Ts CU (below_drewN (ø _ _) 1) (λ_ _ h k=>Ip h k) (λT D v w1 w2 J h=>Rel.CV.mem hm T D v w1 w2 J h)
  (λi o D J=>ac i o (by rw[List.getElem?_take_of_lt D]; exact J)) λa' w' hE hd hs hf aa _=>?_)
 have J:∃o,os[j]?=some o∧o.dst=some d:=by
  cases h:os[j]? with
  | none=>rw[h]at h1; cases h1
  | some o=>rw[h]at h1; exact⟨o,I,h1⟩
 obtain⟨o,J,ae⟩:=J;have ab:=hf j o (by rw[List.getElem?_take_of_lt h3]; exact J);have J:Ts.getD j top=Rel.is V:=by simp[List.getD,hV]
 rw[J,ae]at ab;have J:a'.eval (.tmp d)=V:=ab;rw[List.drop_length];refine next a' w' hE ((S.grow hE).act ⟨hs.trans S.s.size,hd.trans S.s.defers,λi v D=>?_⟩);rw[ĝ]at D;split at D
 .rename_i hi2;obtain rfl:i=d:=by simpa using hi2
  rw[<-Ò D]; exact J
 obtain⟨J,D⟩:=qg (q:=λx=>os.all λo => !(o.dst==some x)) D;exact(aa i (by rw[ħ]; exact J)).trans (S.s.has i v D)
end Go.Sx
namespace Go.Proofs.Õ
open En Na Nb
abbrev aaO{neg n1:Bool}{v:y9}{s:List UInt8}{a:Nat}{w:E5}(hv:bK w v s)(hl:s.length<=1000000)(ha:Nb.val s=a)(hn:(neg&&decide (0<a))=n1) :
  Nq prog 252 #[.b neg,v] w λe w'=>∃b d,e = .R (.agg #[.b n1,.s b (RI a).length d])∧aH w' (.s b (RI a).length d) (RI a)∧From w.heap.size (.s b (RI a).length d)∧Ext w w':=
 (acr neg v s w hv hl).mono λe w' ⟨x,J,⟨t,S,D,h4⟩,h5⟩=>by
  subst ha hn
  obtain⟨b,d,rfl⟩:=D.shape
  exact⟨b,d,by rw[J,S],D,h4,h5⟩
abbrev ajw{w:E5}{b o:Nat}{x y:Bool}{k:IntKind}{n:Int}(D:Bx w b #[.b x,.sn,.b y,.sn])(J:w.cell? ⟨b,o,none⟩=some (.int k n)):False:=by
 have h:=J.symm.trans (D.2.1 o);rcases o with _ | _ | _ | _ | o<;>simp at h
abbrev am5{w:E5}{b o:Nat}{v:y9}(h:w.cell? ⟨b,o,none⟩=some v):w.rangeAt b o [v]:=λi u D=>by
 cases i with
 | zero=>rw[<-Ò D]; exact h
 | succ i=>cases D
end Go.Proofs.Õ
namespace Go.Sx
open Na Nb
variable{s b t:Nat}{ty:Ð}{A:List y9}
abbrev afR{P:Ë}{o:YM}{ρ:î->y9}{w:E5}{cs:List y9}(J:ρ (.tmp t) = .q b 0)(S:ρ (.tmp s) = .agg cs.toArray)(D:Bx w b A.toArray)(hl:cs.length=A.length)
  (ho:o.op = .store ty (.tmp t) (.tmp s):=by rfl) (hi:(P.info? ty).map (·.size)=some cs.length:=by kernel_rfl) (h1:cs.all (·.oneCell')=true:=by kernel_rfl):Does P o ρ w (λ_ w'=>Ch b w w'∧Bx w' b cs.toArray):=by
 unfold Does;rw[OE ho J S D hi Z h1];have:=YG D 0 cs Z;rw[show spl A 0 cs=cs by simp[spl,hl]]at this;exact⟨(Ch.refl b w).setCells cs 0,this⟩
abbrev sN{P:Ë}{w0 w:E5}{a:Act}{n:Nat}{l:List (Nat×y9)}{bl:List (Nat×List y9)}{vs:List eX}(S:St w0 a w n l bl vs)(k:Nat){fn:Func}{R:ĺ->E5->Prop}{r:Nat}{v u z:y9}(D:fn.results = #[.cell r ty,.tmp s,.tmp t])(hk:bl[k]?=some (b,A))(h:R (.R (.tuple #[v,u,z])) w)
  (J:Vp.ev l (.tmp r)=some (.q b 0):=by kernel_rfl) (hu:Vp.ev l (.tmp s)=some u:=by kernel_rfl) (hz:Vp.ev l (.tmp t)=some z:=by kernel_rfl) (hl:SB P ty A=some v:=by kernel_rfl):bodyPost P fn R .ret a w:=al4 S k D hk h J hu hz hl
abbrev afS{P:Ë}{o:YM}{ρ:î->y9}{w:E5}{x y:Nat}{a:Option Addr}{n c l h:Nat}(hs:ρ (.tmp s) = .s a n c)(hx:ρ (.tmp x) = .i l)(hy:ρ (.tmp y) = .i h)(aa:l<=h)(ab:h<=c){T:Fact}(hT:T (.s (um a l c 1) (h-l) (c-l)) w)
  (ho:o.op = .slice ty (.tmp s) (some (.tmp x)) (some (.tmp y)) none:=by rfl) (D:(match P.underlying ty with | some (.slice e)=>(P.info? e).map (·.size)==some 1 | _=>false)=true:=by kernel_rfl) (hd:o.dst.isSome=true:=by rfl):Does P o ρ w (λv w'=>Ext w w'∧T (kept o v) w'):=by
 obtain⟨e,i,D,S,hk⟩:∃e i,P.underlying ty=some (.slice e)∧P.info? e=some i∧i.size=1:=by
  split at D
  .rename_i e he;cases S:P.info? e with
   | none=>rw[S]at D; cases D
   | some i=>rw[S]at D; exact⟨e,i,he,S,by simpa using D⟩
  cases D
 have J:(Í ρ o).run P w = .ok (.value (.s (um a l c 1) (h-l) (c-l))) w:=by
  unfold Í;rw[ho];simp only[ě,Option.map_none,hs,hx,hy,ġ];rw[aaP D S hk (.inr ⟨_,I⟩) (.inr ⟨_,I⟩) (.inl ⟨I,I⟩) aa ab (Ç _)];rfl
 unfold Does;rw[J];exact⟨å,by obtain⟨d,hd⟩:=Į.1 hd; unfold kept; rw[hd]; exact hT⟩
theorem UM{ρ:î->y9}{L:List (Nat×y9)}(D:∀i v,L.lookup i=some v->ρ (.tmp i)=v):∀(K:List (Nat×Nat×y9)),(∀x∈K,ρ (.tmp x.2.1)=x.2.2)->∀i v,(K.map (·.2)++L).lookup i=some v->ρ (.tmp i)=v
 | [],_,i,v,h=>D i v h
 | x::K,hK,i,v,h=>by
  rw[đ,Ĵ,ĝ]at h
  split at h
  .rename_i hi
   obtain rfl:i=x.2.1:=by simpa using hi
   rw[<-Ò h]; exact hK x Ö
  .exact UM D K (λy J=>hK y (ļ _ J)) i v h
abbrev am6{P:Ë}{Q:Exit->Act->E5->Prop}{w0 w:E5}{a:Act}{os:List YM}{n:Nat}{l:List (Nat×y9)}{bl:List (Nat×List y9)}{vs:List eX}(S:St w0 a w n l bl vs){id kb:Nat}{A':List y9}(m k:Nat)(ae:bl[kb]?=some (b,A))(Ts:List Fact)(KV:List (Nat×Nat×y9))(hm:Go.qX.lI k Ext (Ch b) 0 Ts)
  (af:Go.qX.qW P os.toArray (os.take m) Ts (Go.qX.But k Ext (Ch b)) (Go.qX.Ir k (Ch b w) λu=>Bx u b A.toArray) a.eval 0 (os.take m) Ts)
  (next:∀a' w',Ch b w w'->St w0 a' w' n (KV.map (·.2)++l.filter λp=>os.all λo => !(o.dst==some p.1)) (bl.set kb (b,A')) vs->wpList P os.toArray Q [] a' w') (hV:∀x∈KV,Ts[x.1]?=some (Rel.is x.2.2)) (hK:Ts[k]?=some λ_ u=>Bx u b A'.toArray)
  (hj:(KV.all (λx=>(os[x.1]?).bind (·.dst)==some x.2.1&&decide (x.1<m))&&os.length==m&&decide (k<m))=true:=by kernel_rfl) (J:P.follows .mixedOrders=true:=by kernel_rfl) (hB:okB os.toArray m n=true:=by kernel_rfl):(Code.region id os.toArray true).wp P Q a w:=by
 simp only[Û,ß,Þ]at hj;obtain⟨⟨h1,rfl⟩,h3⟩:=hj;have D:=S.own _ (List.mem_of_getElem? ae);refine ſ J (Iy os.length (by rw[S.s.size]; exact hB) (Go.qX.But k Ext (Ch b)) (Ch b w) [] k (λu=>Bx u b A.toArray) Ts CU (Ch.aY (below_drewN (ø _ _) 1)) (D.1.ext (below_drewN (ø _ _) 1))
  (λi u u' h J=>by
   unfold Go.qX.But at J
   split at J
   .exact Ch.trans h J
   .exact Ch.trans h (Ch.aY J)) (λi u u' hi h J=>by rw[Go.qX.aer hi]at J; exact Bx.ext h J) (Go.qX.lI.mem hm)
  (λi o hi J=>by have:=(Go.qX.lG _ _ 0 af).2 i o (by rw[List.getElem?_take_of_lt hi]; exact J); rwa [Ī]at this) λa' w' hC hd hs hf aa _=>?_)
 have ab:∀i,∀o,os[i]?=some o->Ts.getD i top (Rel.valOf a'.eval o.dst) w':=λi o J=>hf i o (by rw[ħ]; exact J);have ac:=ab k _ (List.getElem?_eq_getElem h3);rw[show Ts.getD k top=λ_ u=>Bx u b A'.toArray by simp[List.getD,hK]]at ac;rw[List.drop_length];refine next a' w' hC ((S.ch hC ae ac (Β S.E (hC.below D.2 S.E.size))).act ⟨hs.trans S.s.size,hd.trans S.s.defers,UM (λi v hi=>?_) KV λx hx=>?_⟩)
 .obtain⟨hq,hi⟩:=qg (q:=λx=>os.all λo => !(o.dst==some x)) hi;refine(lH (aa i λj o hj J e=>?_)).trans (S.s.has i v hi);have:=ñ.1 hq o (List.mem_of_getElem? (i:=j) (by simpa using J));simp[e]at this
 have D:=ñ.1 h1 x hx;simp only[Û,ß,Þ]at D;have J:=ab x.1 _ (List.getElem?_eq_getElem D.2);rw[show Ts.getD x.1 top=Rel.is x.2.2 by simp[List.getD,hV x hx]]at J;rw[List.getElem?_eq_getElem D.2,Α]at D;rw[D.1]at J;exact J
end Go.Sx
namespace Go.Proofs.Õ
open En Na Nb
end Go.Proofs.Õ
end
abbrev Ø:=@Go.Sx.dv
