/- Plain laws of decoding rational numbers. Walks of binenc -/
import Derived.StillTailTactics
import Derived.Test.YtodpgjjgaddkeaaGreatDoorPk26
set_option linter.unusedVariables false
set_option linter.unusedSimpArgs false
section
namespace Nb
theorem aiG(q:Nat):Na.Gg^q=256^(4*q):=by rw[Nat.pow_mul]; rfl
end Nb
namespace Go.Proofs.YtodpgjjgaddkeaaGreatDoor
open Go.RowKit En Na Nb
variable{α:Type}
def FZ(neg:Bool)(a b:Nat):Bool := !(neg&&decide ((Ux a).length=0))&&(decide (0<b)&&(Nat.gcd a b==1))
def I9(l:List UInt8)(i:Int):(Bool×Nat×Nat)×Nat×Nat:=
 if i<0∨(l.length:Int)<i then ((false,0,0),0,2)
 else if l.length=i.toNat then ((false,0,0),0,4)
 else if 1<(l.getD i.toNat 0).toNat then ((false,0,0),0,3)
 else match sW 4096 (l.drop (i.toNat+1))with
  | .error e=>((false,0,0),0,e)
  | .ok (s1,k1)=>match sW 4096 (l.drop (i.toNat+1+k1))with
   | .error e=>((false,0,0),0,e)
   | .ok (s2,k2) =>
    if FZ ((l.getD i.toNat 0).toNat==1) (Nb.val s1) (Nb.val s2)&&(gK ((l.getD i.toNat 0).toNat==1,Nb.val s1,Nb.val s2)==(l.take (i.toNat+1+k1+k2)).drop i.toNat)then
     (((l.getD i.toNat 0).toNat==1,Nb.val s1,Nb.val s2),i.toNat+1+k1+k2,0)
    else ((false,0,0),0,3)
variable{l s1:List UInt8}{p e k1 a b:Nat}{c:UInt8}{most:Int}
theorem Pj{i:Int}(h:i<0∨(l.length:Int)<i):I9 l i=((false,0,0),0,2):=by unfold I9; rw[azQ h]
theorem Pm(h:p=l.length):I9 l p=((false,0,0),0,4):=by
 unfold I9; rw[azP Z,aBs,azQ h.symm]
theorem Ja(h:l[p]?=some c)(hc:1<c.toNat):I9 l p=((false,0,0),0,3):=by
 have hp:p<l.length:=(List.getElem?_eq_some_iff.1 h).1;unfold I9; rw[azP Z,aBs,azP Z,show l.getD p 0=c by simp[List.getD,h],azQ hc]
theorem Xi(h:l[p]?=some c)(hc:¬1<c.toNat)(h1:sW 4096 (l.drop (p+1)) = .error e):I9 l p=((false,0,0),0,e):=by
 have hp:p<l.length:=(List.getElem?_eq_some_iff.1 h).1;unfold I9; rw[azP Z,aBs,azP Z,show l.getD p 0=c by simp[List.getD,h],azP hc,h1]
theorem Xj(h:l[p]?=some c)(hc:¬1<c.toNat)(h1:sW 4096 (l.drop (p+1)) = .ok (s1,k1))(h2:sW 4096 (l.drop (p+1+k1)) = .error e):I9 l p=((false,0,0),0,e):=by
 have hp:p<l.length:=(List.getElem?_eq_some_iff.1 h).1;unfold I9; rw[azP Z,aBs,azP Z,show l.getD p 0=c by simp[List.getD,h],azP hc,h1]; simp only; rw[h2]
theorem Pn{s2:List UInt8}{k2:Nat}(h:l[p]?=some c)(hc:¬1<c.toNat)(h1:sW 4096 (l.drop (p+1)) = .ok (s1,k1))(h2:sW 4096 (l.drop (p+1+k1)) = .ok (s2,k2)) :
  I9 l p=if FZ (c.toNat==1) (Nb.val s1) (Nb.val s2)&&(gK (c.toNat==1,Nb.val s1,Nb.val s2)==(l.take (p+1+k1+k2)).drop p)then ((c.toNat==1,Nb.val s1,Nb.val s2),p+1+k1+k2,0)else ((false,0,0),0,3):=by
 have hp:p<l.length:=(List.getElem?_eq_some_iff.1 h).1;unfold I9; rw[azP Z,aBs,azP Z,show l.getD p 0=c by simp[List.getD,h],azP hc,h1]; simp only; rw[h2]
theorem Po(hu:sW most l = .error e):((e:Int) != 0)=true:=by
 rw[bne_iff_ne];unfold sW at hu;cases h:lY 9 l with
 | error e'=>rw[h]at hu; simp only[aBF]at hu; rcases FP _ _ _ h with h | h<;>omega
 | ok r =>
  obtain⟨n,k⟩:=r;rw[h]at hu;simp only at hu;split at hu
  .simp only[aBF]at hu; omega
  split at hu
  .simp only[aBF]at hu; omega
  cases hu
theorem yB(s:List UInt8):(Ux (Nb.val s)).length<=s.length:=by
 apply Na.bI;exact aAk (Nb.dS s) (Nat.pow_le_pow_left O _)
theorem neg_pos(n1:Bool)(hb:0<b):(n1&&decide (0<a/Nat.gcd a b))=lJ n1 false a b:=by
 unfold lJ pR;rw[azP (show b≠0 by omega)];rcases aAC a with h | h
 .subst h; simp
 rw[azP (show a≠0 by omega)];cases n1<;>simp
theorem Pq{neg:Bool}(h:FZ neg a b=true):nrm neg false a b=(neg,a,b):=by
 unfold FZ at h;simp only[az7,az6,az4,aBt]at h;obtain⟨h1,h2,h3⟩:=h;unfold nrm;rw[azP Z,<-neg_pos neg h2,h3,Nat.div_one,Nat.div_one];congr 1;cases neg
 .rfl
 simp only[aA1,aAt]at h1;rw[aA1,az6];rcases aAC a with h0 | h0
 .subst h0; exact absurd (by rw[jD]; rfl) h1
 exact h0
theorem aa3(base:Nat)(w:World):aA base w nT false 0 0:=⟨_,_,I,FB w,FB w,QK _,QK _⟩
def Y1(w:World)(r:(Bool×Nat×Nat)×Nat×Nat)(e:Ending)(w':World):Prop:=
 ∃x,e = .returned (.tuple #[x,.i r.2.1,.i r.2.2])∧aA w.heap.size w' x r.1.1 r.1.2.1 r.1.2.2∧Ext w w'
theorem kZ{w w':World}{er:Nat}(h:Ext w w'):Y1 w ((false,0,0),0,er) (.returned (.tuple #[nT,.i 0,.i er])) w':=⟨_,I,aa3 _ _,h⟩
theorem Y2{s:List UInt8}{k:Nat}(h:sW most l = .ok (s,k)):k<=l.length∧1<=k∧(s.length:Int)<=most:=by
 obtain⟨_,h2,h3,h4⟩:=Ie h;exact⟨h2,h3,h4⟩
end Go.Proofs.YtodpgjjgaddkeaaGreatDoor
namespace Nb
theorem aa4{A:List UInt32}{V q r c:Nat}(hq:q<A.length)(hv:Na.Zk A=V)(hV:V<256^(4*q+r))(hr:r<4)(hc:c<256) :
  A[q].toNat<256^r∧A[q].toNat+c*256^r<4294967296∧Na.Zk (A.set q (UInt32.ofNat (A[q].toNat+c*256^r)))=V+256^(4*q+r)*c:=by
 have h1:=Na.mW A q;rw[Na.nK A q hq,hv,aiG]at h1;have h2:A[q].toNat+Na.Gg*Na.Zk (A.drop (q+1))<256^r:=by
  have h3:256^(4*q)*(A[q].toNat+Na.Gg*Na.Zk (A.drop (q+1)))<256^(4*q)*256^r:=by rw[<-aBL]; omega
  exact aCF h3
 have h4:A[q].toNat+c*256^r<4294967296:=by
  have h5:(c+1)*256^r<=256*256^r:=aBj _ hc;have h6:256*256^r<=256*256^3:=aAz _ (aAV Z Z);rw[aBk]at h5;omega
 refine⟨Z,h4,?_⟩;have h7:=Na.mW (A.set q (UInt32.ofNat (A[q].toNat+c*256^r))) q;rw[Na.nK _ q (by simpa using hq),List.take_set_of_le Z,aiG,List.getElem_set_self,List.drop_set_of_lt Z]at h7;have e:(UInt32.ofNat (A[q].toNat+c*256^r)).toNat=A[q].toNat+c*256^r:=by simp; omega
 rw[h7,e,h1,aBL,aAB,aAw c,aAf,aAf,aAf];omega
end Nb
namespace Go.Proofs.YtodpgjjgaddkeaaGreatDoor
open Go.RowKit En Na Nb
variable{α:Type}
theorem aa5{w w1:World}{x y:Value}{t:TypeId}(hb:Ext (w.alloc (.cells #[x,y] t)) w1) :
  w1.cell? ⟨w.heap.size,0,none⟩=some x∧w1.cell? ⟨w.heap.size,1,none⟩=some y∧(∀i,w1.frozen? ⟨w.heap.size,i,none⟩=false)∧w.heap.size<w1.heap.size:=by
 obtain⟨h1,h2,h3⟩:=iY hb;exact⟨by rw[h1]; rfl,by rw[h1]; rfl,h2,h3⟩
set_option maxRecDepth 100000 in
set_option maxHeartbeats 1600000 in
theorem aa6(neg:Bool)(v:Value)(s:List UInt8)(w:World)(hv:bK w v s)(hl:s.length<=1000000) :
  Calls Tryz.prog 252 #[.bool neg,v] w λe w'=>∃x,e = .returned x∧aO w.heap.size w' x (neg&&decide (0<Nb.val s)) (Nb.val s)∧Ext w w':=by
 have HV:=azO hv;obtain⟨a1,c1,rfl⟩:=hv.shape;obtain⟨N,hN⟩:∃N,N=(s.length+3)/4:=⟨_,I⟩;have hNI:((s.length:Int)+3)/4=(N:Int):=Z
 have h63:N<=maxLen:=by unfold maxLen; omega
 have hby:4*N<=281474976710656:=Z
 have HN:=azO hN;clear hv hN;go_enter Tryz.func252,Tryz.ntmps252
 go_wp2_with (at_make; refine wpList_make_row I _ _ _ I lT I (w.heap.size+1) N I I hNI hby h63 Y ?_; intro w1 hown hg)
 have hb1:=gu (aF w _) hg Y;simp only[aCo]at hown;have hN2:Zk (List.replicate N (0:UInt32))=0:=Lc N;have HO:=azO hown;have HB1:=azO hb1;have hs1:w.heap.size+1<w1.heap.size:=(hown.lt (w.heap.size+1) I).2;have HB2:=azO (gu (aAe _ _) hg (azS _));clear hg hown hb1 hNI;go_wp2_with fail
 go_loopw [6,7,15] (λ_ _ iv wr=>∃(i:Nat) (M:List UInt32),iv = .i i∧i<=s.length∧M.length=N∧Zk M=Nb.val (s.take i)∧wr.ownsRow (w.heap.size+1) 119 1 (.slice (some ⟨w.heap.size+1,0,none⟩) N N) N (M.map bn)∧Below (w.heap.size+1) (w.alloc (.cells #[.z,.sn] 24)) wr) (λ_ _ iv _=>s.length-(intOf iv).toNat)
 case atStart=>exact⟨0,List.replicate N 0,I,azZ _,by simp,by rw[hN2]; rfl,by simpa[bn]using HO.out,by simpa using HB2.out⟩
 case round =>
  obtain⟨i,M,rfl,hi,hM,hval,hown,hbel⟩:=hrel;by_cases hlt:i<s.length
  .obtain⟨q,r,hqr,hr4⟩:∃q r,i=4*q+r∧r<4:=⟨i/4,i%4,Z,Z⟩;have hq:(i:Int)/4=(q:Int):=Z
   have hqN:q<N:=by rw[HN.out]; omega
   obtain⟨bx,ox,cx,hxs,hbx,hlx,hmx,hcx⟩:=dO HV.out I Z;simp only[aAq]at hxs;obtain⟨rfl,-,-⟩:=hxs;have hlb:=Nb.dS (s.take i);rw[aAN,aBw hi]at hlb;have hsucc:=Nb.cZ s i hlt;have hcell:=hcx i hlt;generalize s[i]=c at *;have hcl:=c.toNat_lt;have hqM:q<M.length:=by rw[hM]; exact hqN
   obtain⟨f0,f1,f2⟩:=Nb.aa4 (c:=c.toNat) hqM hval (by rw[<-hqr]; exact hlb) hr4 hcl;have hcB:wr.cell? ⟨bx,ox+i,none⟩=some (fZ c):=by
    rw[hbel.cell (p:=⟨bx,ox+i,none⟩) (by simp only; omega)];rw[(aF w _).cell (p:=⟨bx,ox+i,none⟩) hbx]; exact hcell
   have hcA:=hown.cellAt q Z;have hfz:=hown.frozenAt q;rw[List.getElem?_map,List.getElem?_eq_getElem hqM,aAF]at hcA;have hst:=(hown.stored q (bn (UInt32.ofNat (M[q].toNat+c.toNat*256^r)))).1;rw[<-aBz]at hst;have HST:=azO hst;have HF2:=azO f2;obtain⟨d,hd⟩:∃d,M[q]=d:=⟨_,I⟩;rw[hd]at hcA f0 f1 HST HF2;have hdl:=d.toNat_lt;have HM:=azO hM;have HS:=azO hsucc;have HV2:=azO hval;have HQR:=azO hqr;have HF0:=azO f0;have k1:IntKind.i64.wrap (q:Int)=(q:Int):=IntWalk.i64_in _ (by unfold maxLen at h63; omega);have k2:IntKind.u32.wrap (c.toNat:Int)=(c.toNat:Int):=by rw[IntKind.wrap_u32]; omega
   have k4:(q:Int)<(N:Int):=Z
   have k5:(i:Int)<(s.length:Int):=Z
   have k6:(i:Int).tmod 4=(r:Int):=by
    rw[Int.tmod_eq_emod_of_nonneg Z]; omega
   have k7:IntKind.i64.wrap (8*(r:Int))=8*(r:Int):=IntWalk.i64_in _ Z;have k8:¬8*(r:Int)<0:=Z
   have k9:(0:Int)<=8*(r:Int):=Z
   have k10:(0:Int)<=(r:Int):=Z
   clear hd hcx hsucc hM hval f2 hst hqr f0 hown hN2;go_wp2_with fail
   go_still_tail 13,X
   go_wp2_with fail
   have hX:bits .or .u32 (d.toNat:Int) ((c.toNat:Int)*2^(8*r)%4294967296)=((UInt32.ofNat (d.toNat+c.toNat*256^r)).toNat:Int):=by
    have h2:(2:Nat)^(8*r)=256^r:=by rw[Nat.pow_mul]
    have h4:(2:Int)^(8*r)=((256^r:Nat):Int):=by rw[<-h2]; simp
    have h3:(c.toNat:Int)*2^(8*r)%4294967296=((c.toNat*256^r:Nat):Int):=by
     rw[h4,<-Int.natCast_mul]; omega
    rw[h3,u32_or_nat _ _ d.toNat_lt Z,Nat.or_comm,nat_join (8*r) _ _ (by rw[h2]; simp) (by rw[h2]; exact HF0.out),bW f1,aBI]
   rw[hX];refine⟨⟨i+1,M.set q (UInt32.ofNat (d.toNat+c.toNat*256^r)),by go_num,Z,?_,?_,dB HST.out ((aAe _ _).drew),(hbel.setCell (p:=⟨w.heap.size+1,q,none⟩) (azS _) _).drew⟩,by simp[intOf]; omega⟩
   .rw[List.length_set]; exact HM.out
   rw[HF2.out,HS.out,HQR.out]; rfl
  obtain rfl:i=s.length:=by omega
  rw[aAJ]at hval;have hrow:=oM hM hown;have hext:Ext (w.alloc (.cells #[.z,.sn] 24)) wr:=by
   have:=hbel;rw[<-aCo w (.cells #[.z,.sn] 24)]at this;exact this
  have hNew:=l9 neg _ M wr hrow (by rw[hM,HN.out]; omega);rw[hval]at hNew;have anA:=azO hNew;have HE:=azO hext;have hge:¬(s.length:Int)<(s.length:Int):=Z
  clear hval hrow hM hown hNew hext;go_wp2_with fail
  refine anA.out.mono ?_;rintro e w2 ⟨x,rfl,⟨t,rfl,ht,ft⟩,hb2⟩;obtain⟨b1,d1,rfl⟩:=ht.shape;obtain⟨e0,e1,f0,hz⟩:=aa5 (K00 HE.out hb2);have hlt1:w.heap.size<wr.heap.size:=by have:=HE.out.size; simp at this; omega
  obtain⟨nb,hnb⟩:∃nb,(neg&&decide (0<Nb.val s))=nb:=⟨_,I⟩;rw[hnb];have HNB:=azO hnb;have HT:=azO (And.intro ht ft);have HE2:=azO (K00 (K00 (aF w _) HE.out) hb2);clear ht ft hb2 hnb anA;go_wp2_with fail
  refine bodyPost_ret (v := .agg #[.bool nb,.slice b1 (Ux (Nb.val s)).length d1]) (by simp[results,Tryz.results252,go_sem,e0,e1]) I ⟨_,I,⟨_,by rw[HNB.out],?_,?_⟩,?_⟩
  .exact HT.out.1.ch (((Ch.refl _ _).setCell _ _).setCell _ _) (λ_=>HT.out.2.off hlt1)
  .exact HT.out.2.mono Z
  exact(HE2.out.setCell (p:=⟨w.heap.size,0,none⟩) (azS _) _).setCell (p:=⟨w.heap.size,1,none⟩) (azS _) _
end Go.Proofs.YtodpgjjgaddkeaaGreatDoor
end
namespace Go.Proofs.YtodpgjjgaddkeaaGreatDoor
section
open Go.RowKit En Na Nb
variable{α:Type}
variable{l:List UInt8}{i:Int}{r:Bool×Nat×Nat}{q e:Nat}
theorem aex{most:Int}(h:sW most l = .error e):e≠0:=by
 unfold sW at h;cases hu:lY 9 l with
 | error e'=>rw[hu]at h; simp only[aBF]at h; exact h▸aj2 hu
 | ok r =>
  rw[hu]at h;simp only at h;split at h
  .simp only[aBF]at h; omega
  split at h<;>simp only[aBF,reduceCtorEq]at h; omega
theorem Jb(h:I9 l i=(r,q,0)) :
  ∃(p:Nat) (c:UInt8) (s1 s2:List UInt8) (k1 k2:Nat),i=p∧l[p]?=some c∧¬1<c.toNat∧sW 4096 (l.drop (p+1)) = .ok (s1,k1)∧sW 4096 (l.drop (p+1+k1)) = .ok (s2,k2) ∧
   q=p+1+k1+k2∧r=(c.toNat==1,Nb.val s1,Nb.val s2)∧FZ r.1 r.2.1 r.2.2=true∧gK r=(l.take q).drop p:=by
 by_cases hbad:i<0∨(l.length:Int)<i
 .rw[Pj hbad]at h; simp at h
 obtain⟨p,rfl⟩:∃p:Nat,i=p:=⟨i.toNat,Z⟩;by_cases hpe:p=l.length
 .rw[Pm hpe]at h; simp at h
 have hp:p<l.length:=Z
 obtain⟨c,hc⟩:∃c,l[p]?=some c:=⟨l[p],List.getElem?_eq_getElem hp⟩;by_cases hs:1<c.toNat
 .rw[Ja hc hs]at h; simp at h
 cases hb1:sW 4096 (l.drop (p+1))with
 | error e=>rw[Xi hc hs hb1]at h; simp only[azW]at h; exact absurd h.2.2 (aex hb1)
 | ok r1 =>
  obtain⟨s1,k1⟩:=r1;cases hb2:sW 4096 (l.drop (p+1+k1))with
  | error e=>rw[Xj hc hs hb1 hb2]at h; simp only[azW]at h; exact absurd h.2.2 (aex hb2)
  | ok r2 =>
   obtain⟨s2,k2⟩:=r2;rw[Pn hc hs hb1 hb2]at h;split at h
   .rename_i hcond;simp only[azW,and_true]at h;obtain⟨rfl,rfl⟩:=h;simp only[az7,az4]at hcond;exact⟨p,c,s1,s2,k1,k2,I,hc,hs,hb1,hb2,I,I,hcond.1,hcond.2⟩
   simp at h
theorem L6(h:I9 l i=(r,q,0)):∃p:Nat,i=p∧p<q∧q<=l.length∧FZ r.1 r.2.1 r.2.2=true∧gK r=(l.take q).drop p:=by
 obtain⟨p,c,s1,s2,k1,k2,h1,h2,h3,h4,h5,h6,h7,h8,h9⟩:=Jb h;have:=(Ie h5).2.1;have:=(Ie h5).2.2.1;rw[aBT]at *;exact⟨p,h1,Z,Z,h8,h9⟩
theorem aey(h:I9 l i=(r,q,e))(he:e≠0):q=0∧r=(false,0,0):=by
 by_cases hbad:i<0∨(l.length:Int)<i
 .rw[Pj hbad]at h; simp only[azW]at h; exact⟨h.2.1.symm,h.1.symm⟩
 obtain⟨p,rfl⟩:∃p:Nat,i=p:=⟨i.toNat,Z⟩;by_cases hpe:p=l.length
 .rw[Pm hpe]at h; simp only[azW]at h; exact⟨h.2.1.symm,h.1.symm⟩
 have hp:p<l.length:=Z
 obtain⟨c,hc⟩:∃c,l[p]?=some c:=⟨l[p],List.getElem?_eq_getElem hp⟩;by_cases hs:1<c.toNat
 .rw[Ja hc hs]at h; simp only[azW]at h; exact⟨h.2.1.symm,h.1.symm⟩
 cases hb1:sW 4096 (l.drop (p+1))with
 | error e=>rw[Xi hc hs hb1]at h; simp only[azW]at h; exact⟨h.2.1.symm,h.1.symm⟩
 | ok r1 =>
  obtain⟨s1,k1⟩:=r1;cases hb2:sW 4096 (l.drop (p+1+k1))with
  | error e=>rw[Xj hc hs hb1 hb2]at h; simp only[azW]at h; exact⟨h.2.1.symm,h.1.symm⟩
  | ok r2 =>
   obtain⟨s2,k2⟩:=r2;rw[Pn hc hs hb1 hb2]at h;split at h
   .simp only[azW]at h; exact absurd h.2.2.symm he
   simp only[azW]at h; exact⟨h.2.1.symm,h.1.symm⟩
theorem aez(h:I9 l i=(r,q,e)):(Ux r.2.1).length<=4096∧(Ux r.2.2).length<=4096:=by
 by_cases he:e=0
 .subst he;obtain⟨p,c,s1,s2,k1,k2,h1,h2,h3,h4,h5,h6,rfl,h8,h9⟩:=Jb h;have a1:=(Ie h4).2.2.2;have a2:=(Ie h5).2.2.2;have b1:=yB s1;have b2:=yB s2;exact⟨by simp only; omega,by simp only; omega⟩
 obtain⟨-,rfl⟩:=aey h he;simp[jD]
theorem akP(n1 n2:Bool)(a b:Nat):FZ (nrm n1 n2 a b).1 (nrm n1 n2 a b).2.1 (nrm n1 n2 a b).2.2=true:=by
 unfold nrm;split
 .simp[FZ,jD]
 rename_i hb;have hg:0<Nat.gcd a b:=aCx a Z;have hb':0<b/Nat.gcd a b:=Nat.div_pos (Nat.le_of_dvd Z (aCe a b)) hg;have hc:Nat.gcd (a/Nat.gcd a b) (b/Nat.gcd a b)=1:=Nat.coprime_div_gcd_div_gcd hg;unfold FZ;simp only[az7,az6,az4,aBt,Bool.and_eq_false_iff];refine⟨?_,hb',hc⟩;by_cases h:(Ux (a/Nat.gcd a b)).length=0
 .left;have h0:=og h;have ha:a=0:=by
   have h1:=Nat.div_mul_cancel (Nat.gcd_dvd_left a b);rw[h0]at h1; omega
  subst ha;unfold lJ;simp
 right; simp[h]
theorem Y3(A R:List UInt8)(x:Nat)(hx:x<18446744073709551616):yg (A++(dW 10 x++R)) A.length=(x,A.length+(dW 10 x).length,0):=by
 have hd:(A++(dW 10 x++R)).drop A.length=dW 10 x++R:=by simp
 have hu:=oz x R hx;unfold yg;rw[azP (by simp; omega),aBs,hd,hu]
theorem Y4(A R s:List UInt8)(most:Int)(hs:s.length<18446744073709551616)(h:(s.length:Int)<=most):Yy (A++(fV s++R)) A.length most=(s,A.length+(fV s).length,0):=by
 have hd:(A++(fV s++R)).drop A.length=fV s++R:=by simp
 have hu:=Ig s R most h hs;unfold Yy;rw[azP (by simp; omega),aBs,hd,hu]
theorem ahd(A R:List UInt8)(r:Bool×Nat×Nat)(hr:FZ r.1 r.2.1 r.2.2=true)(ha:(au r.2.1).length<=4096)(hb:(au r.2.2).length<=4096) :
  I9 (A++(gK r++R)) A.length=(r,A.length+(gK r).length,0):=by
 obtain⟨n,a,b⟩:=r;simp only at hr ha hb;obtain⟨c,hc⟩:∃c:UInt8,(if n then 1 else 0)=c:=⟨_,I⟩;have hq:gK (n,a,b)=c::(fV (au a)++fV (au b)):=by unfold gK; rw[<-hc]
 have hcn:(c.toNat==1)=n:=by rw[<-hc]; cases n<;>rfl
 have hc1:¬1<c.toNat:=by rw[<-hc]; cases n<;>decide
 have hg:(A++(gK (n,a,b)++R))[A.length]?=some c:=by rw[hq]; simp
 have e1:(A++(gK (n,a,b)++R)).drop (A.length+1)=fV (au a)++(fV (au b)++R):=by
  rw[<-aCj,List.drop_left,hq]; simp
 have h1:=Ig (au a) (fV (au b)++R) 4096 Z Z;rw[<-e1]at h1;have e2:(A++(gK (n,a,b)++R)).drop (A.length+1+(fV (au a)).length)=fV (au b)++R:=by
  rw[<-aCj,e1,List.drop_left]
 have h2:=Ig (au b) R 4096 Z Z;rw[<-e2]at h2;have hlen:A.length+1+(fV (au a)).length+(fV (au b)).length=A.length+(gK (n,a,b)).length:=by rw[hq]; simp; omega
 rw[Pn hg hc1 h1 h2,hcn,aB,aB,hlen,hr,azQ];rw[aA1,az4];rw[List.take_append,aAv Z,aCz,List.take_left,List.drop_left]
theorem Jc(s:List UInt8):(fV s).length<=10+s.length:=by
 have:=iG 10 s.length;unfold fV; rw[azU]; omega
end
section
open En
variable{α β:Type}{K:Nat}
abbrev Q3:=Bool×Nat×Nat
def Qp(q:Q3):Prop:=eF q<=256∧FZ q.1 q.2.1 q.2.2=true
variable{l:List UInt8}{p p6 p1 p2 p3 p4 p5 p7 p8 p9 p10:Nat}{bad b6 b1 b2 b3 b4 b5 b7 b8 b9 b10:Bool}{q:Q6}{kd id dp cr sm:Int}{cl:List dN}
theorem Y5{r:List UInt8}{q:Q3}(hq:Qp q)(h:l.drop p=gK q++r):I9 l (p:Int)=(q,p+(gK q).length,0):=by
 have hp:p<l.length:=O7 h (by unfold gK; simp);have h1:=hq.1;unfold eF at h1;have a1:=Nb.bI (Ez (n:=q.2.1) Z);have a2:=Nb.bI (Ez (n:=q.2.2) Z);have:=ahd (l.take p) r q hq.2 Z Z;rw[<-h,aBQ,aAN,aBw (aBM hp)]at this;exact this
theorem DV{q:Q3}(h:Le q)(hb:eF q<=256):Qp q:=⟨hb,by
 have:=akP q.1 false q.2.1 q.2.2;rw[show nrm q.1 false q.2.1 q.2.2=q from h]at this;exact this⟩
def Tz(q:Q6):Prop:=Qp q.a∧Qp q.b∧Qp q.c∧Qp q.d∧Qp q.e∧Qp q.f
theorem ahe(h:Bj q)(hv:q.valid=true):Tz q:=by
 unfold Q6.valid at hv;simp only[az7,az6]at hv;obtain⟨h1,h2,h3,h4,h5,h6⟩:=h;obtain⟨v1,v2,v3,v4,v5,v6⟩:=hv;exact⟨DV h1 v1,DV h2 v2,DV h3 v3,DV h4 v4,DV h5 v5,DV h6 v6⟩
theorem aa7(q:Q6):sJ q=gK q.a++(gK q.b++(gK q.c++(gK q.d++(gK q.e++gK q.f)))):=by simp[sJ]
theorem ahf{a b c d e f:Q3}(h1:Got gK Qp l p bad p1 b1 a)(h2:Got gK Qp l p1 b1 p2 b2 b)(h3:Got gK Qp l p2 b2 p3 b3 c)(h4:Got gK Qp l p3 b3 p4 b4 d)(h5:Got gK Qp l p4 b4 p5 b5 e)(h6:Got gK Qp l p5 b5 p6 b6 f) :
  Got sJ Tz l p bad p6 b6 ⟨a,b,c,d,e,f⟩:=λq r hq hb hh=>by
 rw[aa7]at hh;simp only[aAb]at hh;obtain⟨e1,k,hh⟩:=h1 _ _ hq.1 hb hh;obtain⟨e2,k,hh⟩:=h2 _ _ hq.2.1 k hh;obtain⟨e3,k,hh⟩:=h3 _ _ hq.2.2.1 k hh;obtain⟨e4,k,hh⟩:=h4 _ _ hq.2.2.2.1 k hh;obtain⟨e5,k,hh⟩:=h5 _ _ hq.2.2.2.2.1 k hh;obtain⟨e6,k,hh⟩:=h6 _ _ hq.2.2.2.2.2 k hh;exact⟨by rw[e1,e2,e3,e4,e5,e6],k,hh⟩
theorem DW(pk:Bool)(m:nZ):sH false m=iB m.w++(iB m.h++m.l.flatMap Px.pb):=by
 unfold sH; simp only[lH,aAb,aCd,if_false]; rfl
structure nZ.Ok (m:nZ):Prop extends nZ.Good m where
 sides:0<=m.w∧m.w<=4096∧0<=m.h∧m.h<=4096
structure je.Ok (p:je):Prop where
 kind:I64 p.kind
 p0:p.p0.ok
 p1:p.p1.ok
 bT:I64 p.bT
 stops:p.stops.length<=16∧∀s∈p.stops,s.ok
 spread:I64 p.spread
 img:p.img.Ok
 cO:I64 p.cO
 q:Tz p.q
theorem ED(pk:Bool)(p:je):fE pk p=iB p.kind++(Px.pb p.color++(Xf p.p0++(Xf p.p1++(iB p.bT++(iD jh p.stops++(iB p.spread++(sH pk p.img++(iB p.cO++sJ p.q)))))))):=by
 unfold fE Xf; simp only[lH,aAb]; rfl
theorem aa8{pk:Bool}{rd sp:Int}{c:bD}{x y:jW}{st:List dK}{m:nZ}(h1:Got iB I64 l p bad p1 b1 kd)(h2:Got Px.pb (λ_=>True) l p1 b1 p2 b2 c)(h3:Got Xf jW.ok l p2 b2 p3 b3 x)(h4:Got Xf jW.ok l p3 b3 p4 b4 y)(h5:Got iB I64 l p4 b4 p5 b5 rd)
  (h6:Got (iD jh) (λys=>ys.length<18446744073709551616∧∀y∈ys,dK.ok y) l p5 b5 p6 b6 st) (h7:Got iB I64 l p6 b6 p7 b7 sp) (h8:Got (sH pk) nZ.Ok l p7 b7 p8 b8 m) (h9:Got iB I64 l p8 b8 p9 b9 sm) (h10:Got sJ Tz l p9 b9 p10 b10 q) :
  Got (fE pk) je.Ok l p bad p10 b10 ⟨kd,c,x,y,rd,st,sp,m,sm,q⟩:=λa r ha hb hh=>by
 rw[ED]at hh;simp only[aAb]at hh;obtain⟨e1,k,hh⟩:=h1 _ _ ha.kind hb hh;obtain⟨e2,k,hh⟩:=h2 _ _ G k hh;obtain⟨e3,k,hh⟩:=h3 _ _ ha.p0 k hh;obtain⟨e4,k,hh⟩:=h4 _ _ ha.p1 k hh;obtain⟨e5,k,hh⟩:=h5 _ _ ha.bT k hh;obtain⟨e6,k,hh⟩:=h6 _ _ ⟨by have:=ha.stops.1; omega,ha.stops.2⟩ k hh;obtain⟨e7,k,hh⟩:=h7 _ _ ha.spread k hh;obtain⟨e8,k,hh⟩:=h8 _ _ ha.img k hh;obtain⟨e9,k,hh⟩:=h9 _ _ ha.cO k hh;obtain⟨e10,k,hh⟩:=h10 _ _ ha.q k hh;exact⟨by rw[e1,e2,e3,e4,e5,e6,e7,e8,e9,e10],k,hh⟩
theorem vw(pk:Bool)(p:je):0<(fE pk p).length:=by rw[ED,azU]; have:=IY p.kind; omega
theorem aa9(p:kJ):CJ p=iB p.width++(iB p.join++(iB p.cap++(iB p.fB++(iB p.phase++iD iB p.dash)))):=by
 unfold CJ; simp only[lH,aAb]; rfl
theorem ahg{a b c d e:Int}{ds:List Int}(h1:Got iB I64 l p bad p1 b1 a)(h2:Got iB I64 l p1 b1 p2 b2 b)(h3:Got iB I64 l p2 b2 p3 b3 c)(h4:Got iB I64 l p3 b3 p4 b4 d)(h5:Got iB I64 l p4 b4 p5 b5 e)(h6:Got (iD iB) (λys=>ys.length<18446744073709551616∧∀y∈ys,I64 y) l p5 b5 p6 b6 ds) :
  Got CJ kJ.Good l p bad p6 b6 ⟨a,b,c,d,ds,e⟩:=λy r hy hb hh=>by
 rw[aa9]at hh;simp only[aAb]at hh;obtain⟨i1,i2,i3,i4,i5⟩:=hy.i;obtain⟨e1,k,hh⟩:=h1 _ _ i1 hb hh;obtain⟨e2,k,hh⟩:=h2 _ _ i2 k hh;obtain⟨e3,k,hh⟩:=h3 _ _ i3 k hh;obtain⟨e4,k,hh⟩:=h4 _ _ i4 k hh;obtain⟨e5,k,hh⟩:=h5 _ _ i5 k hh;obtain⟨e6,k,hh⟩:=h6 _ _ ⟨by have:=hy.dash.1; omega,hy.dash.2⟩ k hh;exact⟨by rw[e1,e2,e3,e4,e5,e6],k,hh⟩
structure aQ.Ok (n:aQ):Prop where
 i:I64 n.id∧I64 n.kind∧I64 n.depth∧I64 n.aS∧I64 n.blend∧I64 n.aW∧I64 n.cO
 q:Tz n.q
 clip:n.clip.length<=256∧∀s∈n.clip,s.ok
 path:n.kind=2->n.path.length<=256∧∀s∈n.path,s.ok
 fill:n.kind=2->n.fill.length<=1∧∀p∈n.fill,p.Ok
 stroke:n.kind=2->n.stroke.length<=1∧∀p∈n.stroke,p.Ok
 style:n.kind=2->0<n.stroke.length->n.style.Good
 img:n.kind=3->n.img.Ok
 canon:n.canon=n
theorem Jd(pk:Bool)(n:aQ):eP pk n=iB n.id++(iB n.kind++(iB n.depth++(sJ n.q++(iD kQ n.clip++(iB n.aS++nH pk n))))):=by
 unfold eP; simp only[lH,aAb]; rfl
def Com(pk:Bool)(l:List UInt8)(p:Nat)(bad:Bool)(p':Nat)(b':Bool)(id kd dp:Int)(q:Q6)(cl:List dN)(cr:Int):Prop:=
 ∀y r,aQ.Ok y->bad=false->l.drop p=eP pk y++r->id=y.id∧kd=y.kind∧dp=y.depth∧q=y.q∧cl=y.clip∧cr=y.aS∧b'=false∧l.drop p'=nH pk y++r
theorem ahh{pk:Bool}(h1:Got iB I64 l p bad p1 b1 id)(h2:Got iB I64 l p1 b1 p2 b2 kd)(h3:Got iB I64 l p2 b2 p3 b3 dp)(h4:Got sJ Tz l p3 b3 p4 b4 q)
  (h5:Got (iD kQ) (λys=>ys.length<18446744073709551616∧∀y∈ys,dN.ok y) l p4 b4 p5 b5 cl) (h6:Got iB I64 l p5 b5 p6 b6 cr):Com pk l p bad p6 b6 id kd dp q cl cr:=λy r hy hb hh=>by
 rw[Jd]at hh;simp only[aAb]at hh;obtain⟨i1,i2,i3,i4,-⟩:=hy.i;obtain⟨e1,k,hh⟩:=h1 _ _ i1 hb hh;obtain⟨e2,k,hh⟩:=h2 _ _ i2 k hh;obtain⟨e3,k,hh⟩:=h3 _ _ i3 k hh;obtain⟨e4,k,hh⟩:=h4 _ _ hy.q k hh;obtain⟨e5,k,hh⟩:=h5 _ _ ⟨by have:=hy.clip.1; omega,hy.clip.2⟩ k hh;obtain⟨e6,k,hh⟩:=h6 _ _ i4 k hh;exact⟨e1,e2,e3,e4,e5,e6,k,hh⟩
abbrev anB (c:UInt8):List UInt8:=[c]
abbrev aeA (l:List UInt8)(p:Nat)(bad:Bool)(p':Nat)(b':Bool)(c:UInt8):Prop:=Got anB (λ_=>True) l p bad p' b' c
theorem aeB{c:UInt8}(hc:WU l p bad 1=[c]):aeA l p bad (YK l p bad 1) (Fg l p bad 1) c:=λy r _ hb e=>by
 obtain⟨h1,h2,h3⟩:=Tv (n:=1) (B:=[y]) I O hb e;rw[hc]at h1;exact⟨by simpa using h1,h2,h3⟩
theorem Y7(b:Bool):(pz b==1)=b:=by cases b<;>rfl
theorem abb{pk:Bool}{bd:Int}{op c1 c2:UInt8}(hC:Com pk l p bad p6 b6 id kd dp q cl cr)(hk:kd=1)(h7:aeA l p6 b6 p7 b7 op)(h8:Got iB I64 l p7 b7 p8 b8 bd)(h9:aeA l p8 b8 p9 b9 c1)(h10:aeA l p9 b9 p10 b10 c2) :
  Got (eP pk) aQ.Ok l p bad p10 b10 ⟨id,kd,dp,q,cl,cr,op,bd,c1==1,c2==1,[],0,[],.zero,[],.zero,0⟩:=λy r hy hb hh=>by
 obtain⟨e1,e2,e3,e4,e5,e6,k,hh⟩:=hC y r hy hb hh;have hyk:y.kind=1:=e2▸hk;unfold nH at hh;rw[azQ hyk]at hh;simp only[aAb,tY]at hh;obtain⟨f1,k,hh⟩:=h7 y.dR _ G k hh;obtain⟨f2,k,hh⟩:=h8 _ _ hy.i.2.2.2.2.1 k hh;obtain⟨f3,k,hh⟩:=h9 (pz y.isolated) ([pz y.dH]++r) G k hh;obtain⟨f4,k,hh⟩:=h10 _ _ G k hh;refine⟨?_,k,hh⟩;rw[<-hy.canon];unfold aQ.canon;rw[azQ hyk,e1,e2,e3,e4,e5,e6,f1,f2,f3,f4,Y7,Y7]
theorem L8{pk:Bool}{p11:Nat}{b11:Bool}{fr:Int}{pa:List dN}{fi st:List je}{sy:kJ}(hC:Com pk l p bad p6 b6 id kd dp q cl cr)(hk:kd=2)(h7:Got (iD kQ) (λys=>ys.length<18446744073709551616∧∀y∈ys,dN.ok y) l p6 b6 p7 b7 pa)(h8:Got iB I64 l p7 b7 p8 b8 fr)
  (h9:Got (iD (fE pk)) (λys=>ys.length<18446744073709551616∧∀y∈ys,je.Ok y) l p8 b8 p9 b9 fi) (h10:Got (iD (fE pk)) (λys=>ys.length<18446744073709551616∧∀y∈ys,je.Ok y) l p9 b9 p10 b10 st)
  (h11:(0<st.length∧Got CJ kJ.Good l p10 b10 p11 b11 sy)∨(¬0<st.length∧p11=p10∧b11=b10∧sy = .zero)) :
  Got (eP pk) aQ.Ok l p bad p11 b11 ⟨id,kd,dp,q,cl,cr,0,0,false,false,pa,fr,fi,sy,st,.zero,0⟩:=λy r hy hb hh=>by
 obtain⟨e1,e2,e3,e4,e5,e6,k,hh⟩:=hC y r hy hb hh;have hyk:y.kind=2:=e2▸hk;unfold nH at hh;rw[azP Z,azQ hyk]at hh;simp only[aAb,tY]at hh;obtain⟨f1,k,hh⟩:=h7 _ _ ⟨by have:=(hy.path hyk).1; omega,(hy.path hyk).2⟩ k hh;obtain⟨f2,k,hh⟩:=h8 _ _ hy.i.2.2.2.2.2.1 k hh;obtain⟨f3,k,hh⟩:=h9 _ _ ⟨by have:=(hy.fill hyk).1; omega,(hy.fill hyk).2⟩ k hh;obtain⟨f4,k,hh⟩:=h10 _ _ ⟨by have:=(hy.stroke hyk).1; omega,(hy.stroke hyk).2⟩ k hh;have fin:sy=(if 0<y.stroke.length then y.style else .zero)∧b11=false∧l.drop p11=r:=by
  rcases h11 with ⟨hs,h11⟩ | ⟨hs,rfl,rfl,rfl⟩
  .rw[f4]at hs;rw[azQ hs]at hh |-;exact h11 _ _ (hy.style hyk hs) k hh
  rw[f4]at hs;rw[azP hs]at hh |-;exact⟨I,k,by simpa using hh⟩
 refine⟨?_,fin.2⟩;rw[<-hy.canon];unfold aQ.canon;rw[azP Z,azQ hyk,e1,e2,e3,e4,e5,e6,f1,f2,f3,f4,fin.1]
theorem abd{pk:Bool}{m:nZ}(hC:Com pk l p bad p6 b6 id kd dp q cl cr)(hk:kd=3)(h7:Got (sH pk) nZ.Ok l p6 b6 p7 b7 m)(h8:Got iB I64 l p7 b7 p8 b8 sm) :
  Got (eP pk) aQ.Ok l p bad p8 b8 ⟨id,kd,dp,q,cl,cr,0,0,false,false,[],0,[],.zero,[],m,sm⟩:=λy r hy hb hh=>by
 obtain⟨e1,e2,e3,e4,e5,e6,k,hh⟩:=hC y r hy hb hh;have hyk:y.kind=3:=e2▸hk;unfold nH at hh;rw[azP Z,azP Z,azQ hyk]at hh;simp only[aAb,tY]at hh;obtain⟨f1,k,hh⟩:=h7 _ _ (hy.img hyk) k hh;obtain⟨f2,k,hh⟩:=h8 _ _ hy.i.2.2.2.2.2.2 k hh;refine⟨?_,k,hh⟩;rw[<-hy.canon];unfold aQ.canon;rw[azP Z,azP Z,azQ hyk,e1,e2,e3,e4,e5,e6,f1,f2]
theorem abe{pk:Bool}(hC:Com pk l p bad p6 b6 id kd dp q cl cr)(h1:kd≠1)(h2:kd≠2)(h3:kd≠3) :
  Got (eP pk) aQ.Ok l p bad p6 b6 ⟨id,kd,dp,q,cl,cr,0,0,false,false,[],0,[],.zero,[],.zero,0⟩:=λy r hy hb hh=>by
 obtain⟨e1,e2,e3,e4,e5,e6,k,hh⟩:=hC y r hy hb hh;subst e2;unfold nH at hh;rw[azP h1,azP h2,azP h3]at hh;refine⟨?_,k,by simpa using hh⟩;rw[<-hy.canon];unfold aQ.canon;rw[azP h1,azP h2,azP h3,e1,e3,e4,e5,e6]
theorem abf(pk:Bool)(n:aQ):0<(eP pk n).length:=by rw[Jd,azU]; have:=IY n.id; omega
