/- Plain laws of decoding rational numbers. Walks of binenc -/
import Derived.StillTailTactics
import Derived.Test.YtodpgjjgaddkeaaGreatDoorPk24
set_option maxHeartbeats 1600000
set_option maxRecDepth 100000
set_option linter.unusedVariables false
set_option linter.unusedSimpArgs false
section
namespace Nb
theorem aiC(q:Nat):Na.B^q=256^(4*q):=by rw[Nat.pow_mul]; rfl
end Nb
namespace Go.Proofs.YtodpgjjgaddkeaaGreatDoor
open Go.RowKit En
variable{α:Type}
def FM(neg:Bool)(a b:Nat):Bool := !(neg&&decide ((Na.au a).length=0))&&(decide (0<b)&&(Nat.gcd a b==1))
def IU(l:List UInt8)(i:Int):(Bool×Nat×Nat)×Nat×Nat:=
 if i<0∨(l.length:Int)<i then ((false,0,0),0,2)
 else if l.length=i.toNat then ((false,0,0),0,4)
 else if 1<(l.getD i.toNat 0).toNat then ((false,0,0),0,3)
 else match sZ 4096 (l.drop (i.toNat+1))with
  | .error e=>((false,0,0),0,e)
  | .ok (s1,k1)=>match sZ 4096 (l.drop (i.toNat+1+k1))with
   | .error e=>((false,0,0),0,e)
   | .ok (s2,k2) =>
    if FM ((l.getD i.toNat 0).toNat==1) (Nb.val s1) (Nb.val s2)&&(gK ((l.getD i.toNat 0).toNat==1,Nb.val s1,Nb.val s2)==(l.take (i.toNat+1+k1+k2)).drop i.toNat)then
     (((l.getD i.toNat 0).toNat==1,Nb.val s1,Nb.val s2),i.toNat+1+k1+k2,0)
    else ((false,0,0),0,3)
theorem OW{l:List UInt8}{i:Int}(h:i<0∨(l.length:Int)<i):IU l i=((false,0,0),0,2):=by unfold IU; rw[azI h]
theorem OX{l:List UInt8}{p:Nat}(h:p=l.length):IU l p=((false,0,0),0,4):=by
 unfold IU; rw[azG (by omega),aBh,azI h.symm]
theorem IV{l:List UInt8}{p:Nat}{c:UInt8}(h:l[p]?=some c)(hc:1<c.toNat):IU l p=((false,0,0),0,3):=by
 have hp:p<l.length:=(List.getElem?_eq_some_iff.1 h).1;unfold IU; rw[azG (by omega),aBh,azG (by omega),show l.getD p 0=c by simp[List.getD,h],azI hc]
theorem WU{l:List UInt8}{p e:Nat}{c:UInt8}(h:l[p]?=some c)(hc:¬1<c.toNat)(h1:sZ 4096 (l.drop (p+1)) = .error e):IU l p=((false,0,0),0,e):=by
 have hp:p<l.length:=(List.getElem?_eq_some_iff.1 h).1;unfold IU; rw[azG (by omega),aBh,azG (by omega),show l.getD p 0=c by simp[List.getD,h],azG hc,h1]
theorem WV{l s1:List UInt8}{p e k1:Nat}{c:UInt8}(h:l[p]?=some c)(hc:¬1<c.toNat)(h1:sZ 4096 (l.drop (p+1)) = .ok (s1,k1))(h2:sZ 4096 (l.drop (p+1+k1)) = .error e):IU l p=((false,0,0),0,e):=by
 have hp:p<l.length:=(List.getElem?_eq_some_iff.1 h).1;unfold IU; rw[azG (by omega),aBh,azG (by omega),show l.getD p 0=c by simp[List.getD,h],azG hc,h1]; simp only; rw[h2]
theorem OY{l s1 s2:List UInt8}{p k1 k2:Nat}{c:UInt8}(h:l[p]?=some c)(hc:¬1<c.toNat)(h1:sZ 4096 (l.drop (p+1)) = .ok (s1,k1))(h2:sZ 4096 (l.drop (p+1+k1)) = .ok (s2,k2)) :
  IU l p=if FM (c.toNat==1) (Nb.val s1) (Nb.val s2)&&(gK (c.toNat==1,Nb.val s1,Nb.val s2)==(l.take (p+1+k1+k2)).drop p)then ((c.toNat==1,Nb.val s1,Nb.val s2),p+1+k1+k2,0)else ((false,0,0),0,3):=by
 have hp:p<l.length:=(List.getElem?_eq_some_iff.1 h).1;unfold IU; rw[azG (by omega),aBh,azG (by omega),show l.getD p 0=c by simp[List.getD,h],azG hc,h1]; simp only; rw[h2]
theorem OZ{most:Int}{l:List UInt8}{e:Nat}(hu:sZ most l = .error e):((e:Int) != 0)=true:=by
 rw[bne_iff_ne];unfold sZ at hu;cases h:lT 9 l with
 | error e'=>rw[h]at hu; simp only[aBs]at hu; rcases FC _ _ _ h with h | h<;>omega
 | ok r =>
  obtain⟨n,k⟩:=r;rw[h]at hu;simp only at hu;split at hu
  ·simp only[aBs]at hu; omega
  split at hu
  ·simp only[aBs]at hu; omega
  cases hu
theorem xW(s:List UInt8):(Na.au (Nb.val s)).length≤s.length:=by
 apply Na.bH;exact aAa (Nb.dR s) (Nat.pow_le_pow_left (by decide) _)
theorem neg_pos(n1:Bool){a b:Nat}(hb:0<b):(n1&&decide (0<a/Nat.gcd a b))=lC n1 false a b:=by
 unfold lC pK;rw[azG (show b≠0 by omega)];rcases aAt a with h | h
 ·subst h; simp
 rw[azG (show a≠0 by omega)];cases n1<;>simp
theorem O4{neg:Bool}{a b:Nat}(h:FM neg a b=true):nrm neg false a b=(neg,a,b):=by
 unfold FM at h;simp only[azY,azW,azU,aBi]at h;obtain⟨h1,h2,h3⟩:=h;unfold nrm;rw[azG (by omega),←neg_pos neg h2,h3,Nat.div_one,Nat.div_one];congr 1;cases neg
 ·rfl
 simp only[aAP,aAk]at h1;rw[aAP,azW];rcases aAt a with h0 | h0
 ·subst h0; exact absurd (by rw[Na.jA]; rfl) h1
 exact h0
theorem aaU(base:Nat)(w:World):aA base w nU false 0 0:=⟨_,_,rfl,Fg w,Fg w,Qq _,Qq _⟩
def YM(w:World)(r:(Bool×Nat×Nat)×Nat×Nat)(e:Ending)(w':World):Prop:=
 ∃x,e = .returned (.tuple #[x,.i r.2.1,.i r.2.2])∧aA w.heap.size w' x r.1.1 r.1.2.1 r.1.2.2∧Ext w w'
theorem kS{w w':World}{er:Nat}(h:Ext w w'):YM w ((false,0,0),0,er) (.returned (.tuple #[nU,.i 0,.i er])) w':=⟨_,rfl,aaU _ _,h⟩
theorem YN{l s:List UInt8}{k:Nat}{most:Int}(h:sZ most l = .ok (s,k)):k≤l.length∧1≤k∧(s.length:Int)≤most:=by
 obtain⟨_,h2,h3,h4⟩:=Ht h;exact⟨h2,h3,h4⟩
end Go.Proofs.YtodpgjjgaddkeaaGreatDoor
namespace Nb
theorem aaV{A:List UInt32}{V q r c:Nat}(hq:q<A.length)(hv:Na.val A=V)(hV:V<256^(4*q+r))(hr:r<4)(hc:c<256) :
  A[q].toNat<256^r∧A[q].toNat+c*256^r<4294967296∧Na.val (A.set q (UInt32.ofNat (A[q].toNat+c*256^r)))=V+256^(4*q+r)*c:=by
 have h1:=Na.mP A q;rw[Na.nK A q hq,hv,aiC]at h1;have h2:A[q].toNat+Na.B*Na.val (A.drop (q+1))<256^r:=by
  have h3:256^(4*q)*(A[q].toNat+Na.B*Na.val (A.drop (q+1)))<256^(4*q)*256^r:=by rw[←aBx]; omega
  exact aCv h3
 have h4:A[q].toNat+c*256^r<4294967296:=by
  have h5:(c+1)*256^r≤256*256^r:=aA7 _ hc;have h6:256*256^r≤256*256^3:=aAq _ (aAK (by omega) (by omega));rw[aA8]at h5;omega
 refine⟨by omega,h4,?_⟩;have h7:=Na.mP (A.set q (UInt32.ofNat (A[q].toNat+c*256^r))) q;rw[Na.nK _ q (by simpa using hq),List.take_set_of_le (by omega),aiC,List.getElem_set_self,List.drop_set_of_lt (by omega)]at h7;have e:(UInt32.ofNat (A[q].toNat+c*256^r)).toNat=A[q].toNat+c*256^r:=by simp; omega
 rw[h7,e,h1,aBx,aAs,aAm c,az6,az6,az6];omega
end Nb
namespace Go.Proofs.YtodpgjjgaddkeaaGreatDoor
open Go.RowKit En
variable{α:Type}
theorem aaW{w w1:World}{x y:Value}{t:TypeId}(hb:Ext (w.alloc (.cells #[x,y] t)) w1) :
  w1.cell? ⟨w.heap.size,0,none⟩=some x∧w1.cell? ⟨w.heap.size,1,none⟩=some y∧(∀i,w1.frozen? ⟨w.heap.size,i,none⟩=false)∧w.heap.size<w1.heap.size:=by
 obtain⟨h1,h2,h3⟩:=iU hb;exact⟨by rw[h1]; rfl,by rw[h1]; rfl,h2,h3⟩
set_option maxRecDepth 100000 in
set_option maxHeartbeats 1600000 in
theorem aaX(neg:Bool)(v:Value)(s:List UInt8)(w:World)(hv:bJ w v s)(hl:s.length≤1000000) :
  Calls Tryz.prog 252 #[.bool neg,v] w fun e w'=>∃x,e = .returned x∧aO w.heap.size w' x (neg&&decide (0<Nb.val s)) (Nb.val s)∧Ext w w':=by
 have HV:=azF hv;obtain⟨a1,c1,rfl⟩:=hv.shape;obtain⟨N,hN⟩:∃N,N=(s.length+3)/4:=⟨_,rfl⟩;have hNI:((s.length:Int)+3)/4=(N:Int):=by omega
 have h63:N≤maxLen:=by unfold maxLen; omega
 have hby:4*N≤281474976710656:=by omega
 have HN:=azF hN;clear hv hN;go_enter Tryz.func252,Tryz.ntmps252
 go_wp2_with (at_make; refine wpList_make_row rfl _ _ _ rfl lI rfl (w.heap.size+1) N rfl rfl hNI hby h63 (by simp) ?_; intro w1 hown hg)
 have hb1:=gq (aF w _) hg (by simp);simp only[aCc]at hown;have hN2:Na.val (List.replicate N (0:UInt32))=0:=Na.KH N;have HO:=azF hown;have HB1:=azF hb1;have hs1:w.heap.size+1<w1.heap.size:=(hown.lt (w.heap.size+1) rfl).2;have HB2:=azF (gq (az5 _ _) hg (azJ _));clear hg hown hb1 hNI;go_wp2_with fail
 go_loopw [6,7,15] (fun _ _ iv wr=>∃(i:Nat) (M:List UInt32),iv = .i i∧i≤s.length∧M.length=N∧Na.val M=Nb.val (s.take i)∧wr.ownsRow (w.heap.size+1) 119 1 (.slice (some ⟨w.heap.size+1,0,none⟩) N N) N (M.map aX)∧Below (w.heap.size+1) (w.alloc (.cells #[.z,.sn] 24)) wr) (fun _ _ iv _=>s.length-(intOf iv).toNat)
 case atStart=>exact⟨0,List.replicate N 0,rfl,azQ _,by simp,by rw[hN2]; rfl,by simpa[aX]using HO.out,by simpa using HB2.out⟩
 case round =>
  obtain⟨i,M,rfl,hi,hM,hval,hown,hbel⟩:=hrel;by_cases hlt:i<s.length
  ·obtain⟨q,r,hqr,hr4⟩:∃q r,i=4*q+r∧r<4:=⟨i/4,i%4,by omega,by omega⟩;have hq:(i:Int)/4=(q:Int):=by omega
   have hqN:q<N:=by rw[HN.out]; omega
   obtain⟨bx,ox,cx,hxs,hbx,hlx,hmx,hcx⟩:=dN HV.out rfl (by omega);simp only[aAg]at hxs;obtain⟨rfl,-,-⟩:=hxs;have hlb:=Nb.dR (s.take i);rw[aBa,aBk hi]at hlb;have hsucc:=Nb.cO s i hlt;have hcell:=hcx i hlt;generalize s[i]=c at *;have hcl:=c.toNat_lt;have hqM:q<M.length:=by rw[hM]; exact hqN
   obtain⟨f0,f1,f2⟩:=Nb.aaV (c:=c.toNat) hqM hval (by rw[←hqr]; exact hlb) hr4 hcl;have hcB:wr.cell? ⟨bx,ox+i,none⟩=some (gu c):=by
    rw[hbel.cell (p:=⟨bx,ox+i,none⟩) (by simp only; omega)];rw[(aF w _).cell (p:=⟨bx,ox+i,none⟩) hbx]; exact hcell
   have hcA:=hown.cellAt q (by omega);have hfz:=hown.frozenAt q;rw[List.getElem?_map,List.getElem?_eq_getElem hqM,aAv]at hcA;have hst:=(hown.stored q (aX (UInt32.ofNat (M[q].toNat+c.toNat*256^r)))).1;rw[←aBn]at hst;have HST:=azF hst;have HF2:=azF f2;obtain⟨d,hd⟩:∃d,M[q]=d:=⟨_,rfl⟩;rw[hd]at hcA f0 f1 HST HF2;have hdl:=d.toNat_lt;have HM:=azF hM;have HS:=azF hsucc;have HV2:=azF hval;have HQR:=azF hqr;have HF0:=azF f0;have k1:IntKind.i64.wrap (q:Int)=(q:Int):=IntWalk.i64_in _ (by unfold maxLen at h63; omega);have k2:IntKind.u32.wrap (c.toNat:Int)=(c.toNat:Int):=by rw[IntKind.wrap_u32]; omega
   have k4:(q:Int)<(N:Int):=by omega
   have k5:(i:Int)<(s.length:Int):=by omega
   have k6:(i:Int).tmod 4=(r:Int):=by
    rw[Int.tmod_eq_emod_of_nonneg (by omega)]; omega
   have k7:IntKind.i64.wrap (8*(r:Int))=8*(r:Int):=IntWalk.i64_in _ (by omega);have k8:¬8*(r:Int)<0:=by omega
   have k9:(0:Int)≤8*(r:Int):=by omega
   have k10:(0:Int)≤(r:Int):=by omega
   clear hd hcx hsucc hM hval f2 hst hqr f0 hown hN2;go_wp2_with fail
   go_still_tail 13,(by kernel_rfl)
   go_wp2_with fail
   have hX:bits .or .u32 (d.toNat:Int) ((c.toNat:Int)*2^(8*r)%4294967296)=((UInt32.ofNat (d.toNat+c.toNat*256^r)).toNat:Int):=by
    have h2:(2:Nat)^(8*r)=256^r:=by rw[Nat.pow_mul]
    have h4:(2:Int)^(8*r)=((256^r:Nat):Int):=by rw[←h2]; simp
    have h3:(c.toNat:Int)*2^(8*r)%4294967296=((c.toNat*256^r:Nat):Int):=by
     rw[h4,←Int.natCast_mul]; omega
    rw[h3,u32_or_nat _ _ d.toNat_lt (by omega),Nat.or_comm,nat_join (8*r) _ _ (by rw[h2]; simp) (by rw[h2]; exact HF0.out),bV f1,aBv]
   rw[hX];refine⟨⟨i+1,M.set q (UInt32.ofNat (d.toNat+c.toNat*256^r)),by go_num,by omega,?_,?_,dL HST.out ((az5 _ _).drew),(hbel.setCell (p:=⟨w.heap.size+1,q,none⟩) (azJ _) _).drew⟩,by simp[intOf]; omega⟩
   ·rw[List.length_set]; exact HM.out
   rw[HF2.out,HS.out,HQR.out]; rfl
  obtain rfl:i=s.length:=by omega
  rw[aAA]at hval;have hrow:=oM hM hown;have hext:Ext (w.alloc (.cells #[.z,.sn] 24)) wr:=by
   have:=hbel;rw[←aCc w (.cells #[.z,.sn] 24)]at this;exact this
  have hNew:=lW neg _ M wr hrow (by rw[hM,HN.out]; omega);rw[hval]at hNew;have ank:=azF hNew;have HE:=azF hext;have hge:¬(s.length:Int)<(s.length:Int):=by omega
  clear hval hrow hM hown hNew hext;go_wp2_with fail
  refine ank.out.mono ?_;rintro e w2 ⟨x,rfl,⟨t,rfl,ht,ft⟩,hb2⟩;obtain⟨b1,d1,rfl⟩:=ht.shape;obtain⟨e0,e1,f0,hz⟩:=aaW (Ext.trans' HE.out hb2);have hlt1:w.heap.size<wr.heap.size:=by have:=HE.out.size; simp at this; omega
  obtain⟨nb,hnb⟩:∃nb,(neg&&decide (0<Nb.val s))=nb:=⟨_,rfl⟩;rw[hnb];have HNB:=azF hnb;have HT:=azF (And.intro ht ft);have HE2:=azF (Ext.trans' (Ext.trans' (aF w _) HE.out) hb2);clear ht ft hb2 hnb ank;go_wp2_with fail
  refine bodyPost_ret (v := .agg #[.bool nb,.slice b1 (Na.au (Nb.val s)).length d1]) (by simp[results,Tryz.results252,go_sem,e0,e1]) rfl ⟨_,rfl,⟨_,by rw[HNB.out],?_,?_⟩,?_⟩
  ·exact HT.out.1.ch (((Ch.refl _ _).setCell _ _).setCell _ _) (fun _=>HT.out.2.off hlt1)
  ·exact HT.out.2.mono (by omega)
  exact(HE2.out.setCell (p:=⟨w.heap.size,0,none⟩) (azJ _) _).setCell (p:=⟨w.heap.size,1,none⟩) (azJ _) _
end Go.Proofs.YtodpgjjgaddkeaaGreatDoor
end
namespace Go.Proofs.YtodpgjjgaddkeaaGreatDoor
section
open Go.RowKit En
variable{α:Type}
theorem aeo{most:Int}{l:List UInt8}{e:Nat}(h:sZ most l = .error e):e≠0:=by
 unfold sZ at h;cases hu:lT 9 l with
 | error e'=>rw[hu]at h; simp only[aBs]at h; exact h▸ajP hu
 | ok r =>
  rw[hu]at h;simp only at h;split at h
  ·simp only[aBs]at h; omega
  split at h<;>simp only[aBs,reduceCtorEq]at h; omega
theorem IW{l:List UInt8}{i:Int}{r:Bool×Nat×Nat}{q:Nat}(h:IU l i=(r,q,0)) :
  ∃(p:Nat) (c:UInt8) (s1 s2:List UInt8) (k1 k2:Nat),i=p∧l[p]?=some c∧¬1<c.toNat∧sZ 4096 (l.drop (p+1)) = .ok (s1,k1)∧sZ 4096 (l.drop (p+1+k1)) = .ok (s2,k2) ∧
   q=p+1+k1+k2∧r=(c.toNat==1,Nb.val s1,Nb.val s2)∧FM r.1 r.2.1 r.2.2=true∧gK r=(l.take q).drop p:=by
 by_cases hbad:i<0∨(l.length:Int)<i
 ·rw[OW hbad]at h; simp at h
 obtain⟨p,rfl⟩:∃p:Nat,i=p:=⟨i.toNat,by omega⟩;by_cases hpe:p=l.length
 ·rw[OX hpe]at h; simp at h
 have hp:p<l.length:=by omega
 obtain⟨c,hc⟩:∃c,l[p]?=some c:=⟨l[p],List.getElem?_eq_getElem hp⟩;by_cases hs:1<c.toNat
 ·rw[IV hc hs]at h; simp at h
 cases hb1:sZ 4096 (l.drop (p+1))with
 | error e=>rw[WU hc hs hb1]at h; simp only[azP]at h; exact absurd h.2.2 (aeo hb1)
 | ok r1 =>
  obtain⟨s1,k1⟩:=r1;cases hb2:sZ 4096 (l.drop (p+1+k1))with
  | error e=>rw[WV hc hs hb1 hb2]at h; simp only[azP]at h; exact absurd h.2.2 (aeo hb2)
  | ok r2 =>
   obtain⟨s2,k2⟩:=r2;rw[OY hc hs hb1 hb2]at h;split at h
   ·rename_i hcond;simp only[azP,and_true]at h;obtain⟨rfl,rfl⟩:=h;simp only[azY,azU]at hcond;exact⟨p,c,s1,s2,k1,k2,rfl,hc,hs,hb1,hb2,rfl,rfl,hcond.1,hcond.2⟩
   simp at h
theorem LH{l:List UInt8}{i:Int}{r:Bool×Nat×Nat}{q:Nat}(h:IU l i=(r,q,0)):∃p:Nat,i=p∧p<q∧q≤l.length∧FM r.1 r.2.1 r.2.2=true∧gK r=(l.take q).drop p:=by
 obtain⟨p,c,s1,s2,k1,k2,h1,h2,h3,h4,h5,h6,h7,h8,h9⟩:=IW h;have:=(Ht h5).2.1;have:=(Ht h5).2.2.1;rw[aBF]at *;exact⟨p,h1,by omega,by omega,h8,h9⟩
theorem aep{l:List UInt8}{i:Int}{r:Bool×Nat×Nat}{q e:Nat}(h:IU l i=(r,q,e))(he:e≠0):q=0∧r=(false,0,0):=by
 by_cases hbad:i<0∨(l.length:Int)<i
 ·rw[OW hbad]at h; simp only[azP]at h; exact⟨h.2.1.symm,h.1.symm⟩
 obtain⟨p,rfl⟩:∃p:Nat,i=p:=⟨i.toNat,by omega⟩;by_cases hpe:p=l.length
 ·rw[OX hpe]at h; simp only[azP]at h; exact⟨h.2.1.symm,h.1.symm⟩
 have hp:p<l.length:=by omega
 obtain⟨c,hc⟩:∃c,l[p]?=some c:=⟨l[p],List.getElem?_eq_getElem hp⟩;by_cases hs:1<c.toNat
 ·rw[IV hc hs]at h; simp only[azP]at h; exact⟨h.2.1.symm,h.1.symm⟩
 cases hb1:sZ 4096 (l.drop (p+1))with
 | error e=>rw[WU hc hs hb1]at h; simp only[azP]at h; exact⟨h.2.1.symm,h.1.symm⟩
 | ok r1 =>
  obtain⟨s1,k1⟩:=r1;cases hb2:sZ 4096 (l.drop (p+1+k1))with
  | error e=>rw[WV hc hs hb1 hb2]at h; simp only[azP]at h; exact⟨h.2.1.symm,h.1.symm⟩
  | ok r2 =>
   obtain⟨s2,k2⟩:=r2;rw[OY hc hs hb1 hb2]at h;split at h
   ·simp only[azP]at h; exact absurd h.2.2.symm he
   simp only[azP]at h; exact⟨h.2.1.symm,h.1.symm⟩
theorem aer{l:List UInt8}{i:Int}{r:Bool×Nat×Nat}{q e:Nat}(h:IU l i=(r,q,e)):(Na.au r.2.1).length≤4096∧(Na.au r.2.2).length≤4096:=by
 by_cases he:e=0
 ·subst he;obtain⟨p,c,s1,s2,k1,k2,h1,h2,h3,h4,h5,h6,rfl,h8,h9⟩:=IW h;have a1:=(Ht h4).2.2.2;have a2:=(Ht h5).2.2.2;have b1:=xW s1;have b2:=xW s2;exact⟨by simp only; omega,by simp only; omega⟩
 obtain⟨-,rfl⟩:=aep h he;simp[Na.jA]
theorem akI(n1 n2:Bool)(a b:Nat):FM (nrm n1 n2 a b).1 (nrm n1 n2 a b).2.1 (nrm n1 n2 a b).2.2=true:=by
 unfold nrm;split
 ·simp[FM,Na.jA]
 rename_i hb;have hg:0<Nat.gcd a b:=aCm a (by omega);have hb':0<b/Nat.gcd a b:=Nat.div_pos (Nat.le_of_dvd (by omega) (aB2 a b)) hg;have hc:Nat.gcd (a/Nat.gcd a b) (b/Nat.gcd a b)=1:=Nat.coprime_div_gcd_div_gcd hg;unfold FM;simp only[azY,azW,azU,aBi,Bool.and_eq_false_iff];refine⟨?_,hb',hc⟩;by_cases h:(Na.au (a/Nat.gcd a b)).length=0
 ·left;have h0:=oq h;have ha:a=0:=by
   have h1:=Nat.div_mul_cancel (Nat.gcd_dvd_left a b);rw[h0]at h1; omega
  subst ha;unfold lC;simp
 right; simp[h]
theorem YO(A R:List UInt8)(x:Nat)(hx:x<18446744073709551616):xO (A++(dV 10 x++R)) A.length=(x,A.length+(dV 10 x).length,0):=by
 have hd:(A++(dV 10 x++R)).drop A.length=dV 10 x++R:=by simp
 have hu:=oG x R hx;unfold xO;rw[azG (by simp; omega),aBh,hd,hu]
theorem YP(A R s:List UInt8)(most:Int)(hs:s.length<18446744073709551616)(h:(s.length:Int)≤most):Yi (A++(fQ s++R)) A.length most=(s,A.length+(fQ s).length,0):=by
 have hd:(A++(fQ s++R)).drop A.length=fQ s++R:=by simp
 have hu:=Hu s R most h hs;unfold Yi;rw[azG (by simp; omega),aBh,hd,hu]
theorem ag9(A R:List UInt8)(r:Bool×Nat×Nat)(hr:FM r.1 r.2.1 r.2.2=true)(ha:(Nb.au r.2.1).length≤4096)(hb:(Nb.au r.2.2).length≤4096) :
  IU (A++(gK r++R)) A.length=(r,A.length+(gK r).length,0):=by
 obtain⟨n,a,b⟩:=r;simp only at hr ha hb;obtain⟨c,hc⟩:∃c:UInt8,(if n then 1 else 0)=c:=⟨_,rfl⟩;have hq:gK (n,a,b)=c::(fQ (Nb.au a)++fQ (Nb.au b)):=by unfold gK; rw[←hc]
 have hcn:(c.toNat==1)=n:=by rw[←hc]; cases n<;>rfl
 have hc1:¬1<c.toNat:=by rw[←hc]; cases n<;>decide
 have hg:(A++(gK (n,a,b)++R))[A.length]?=some c:=by rw[hq]; simp
 have e1:(A++(gK (n,a,b)++R)).drop (A.length+1)=fQ (Nb.au a)++(fQ (Nb.au b)++R):=by
  rw[←aB9,List.drop_left,hq]; simp
 have h1:=Hu (Nb.au a) (fQ (Nb.au b)++R) 4096 (by omega) (by omega);rw[←e1]at h1;have e2:(A++(gK (n,a,b)++R)).drop (A.length+1+(fQ (Nb.au a)).length)=fQ (Nb.au b)++R:=by
  rw[←aB9,e1,List.drop_left]
 have h2:=Hu (Nb.au b) R 4096 (by omega) (by omega);rw[←e2]at h2;have hlen:A.length+1+(fQ (Nb.au a)).length+(fQ (Nb.au b)).length=A.length+(gK (n,a,b)).length:=by rw[hq]; simp; omega
 rw[OY hg hc1 h1 h2,hcn,Nb.aB,Nb.aB,hlen,hr,azI];rw[aAP,azU];rw[List.take_append,aAp (by omega),aCo,List.take_left,List.drop_left]
theorem IX(s:List UInt8):(fQ s).length≤10+s.length:=by
 have:=iE 10 s.length;unfold fQ; rw[azL]; omega
end
section
open En
variable{α β:Type}{K:Nat}
abbrev Q3:=Bool×Nat×Nat
def P7(q:Q3):Prop:=dZ q≤256∧FM q.1 q.2.1 q.2.2=true
theorem YQ{l r:List UInt8}{p:Nat}{q:Q3}(hq:P7 q)(h:l.drop p=gK q++r):IU l (p:Int)=(q,p+(gK q).length,0):=by
 have hp:p<l.length:=OQ h (by unfold gK; simp);have h1:=hq.1;unfold dZ at h1;have a1:=Nb.bH (Em (n:=q.2.1) (by omega));have a2:=Nb.bH (Em (n:=q.2.2) (by omega));have:=ag9 (l.take p) r q hq.2 (by omega) (by omega);rw[←h,aBC,aBa,aBk (aBy hp)]at this;exact this
theorem Dy{q:Q3}(h:KL q)(hb:dZ q≤256):P7 q:=⟨hb,by
 have:=akI q.1 false q.2.1 q.2.2;rw[show nrm q.1 false q.2.1 q.2.2=q from h]at this;exact this⟩
def SI(q:Q6):Prop:=P7 q.a∧P7 q.b∧P7 q.c∧P7 q.d∧P7 q.e∧P7 q.f
theorem aha{q:Q6}(h:Bc q)(hv:q.valid=true):SI q:=by
 unfold Q6.valid at hv;simp only[azY,azW]at hv;obtain⟨h1,h2,h3,h4,h5,h6⟩:=h;obtain⟨v1,v2,v3,v4,v5,v6⟩:=hv;exact⟨Dy h1 v1,Dy h2 v2,Dy h3 v3,Dy h4 v4,Dy h5 v5,Dy h6 v6⟩
theorem aaY(q:Q6):sH q=gK q.a++(gK q.b++(gK q.c++(gK q.d++(gK q.e++gK q.f)))):=by simp[sH]
theorem ahb{l:List UInt8}{p p1 p2 p3 p4 p5 p6:Nat}{bad b1 b2 b3 b4 b5 b6:Bool}{a b c d e f:Q3}(h1:Got gK P7 l p bad p1 b1 a)(h2:Got gK P7 l p1 b1 p2 b2 b)(h3:Got gK P7 l p2 b2 p3 b3 c)(h4:Got gK P7 l p3 b3 p4 b4 d)(h5:Got gK P7 l p4 b4 p5 b5 e)(h6:Got gK P7 l p5 b5 p6 b6 f) :
  Got sH SI l p bad p6 b6 ⟨a,b,c,d,e,f⟩:=fun q r hq hb hh=>by
 rw[aaY]at hh;simp only[az0]at hh;obtain⟨e1,k,hh⟩:=h1 _ _ hq.1 hb hh;obtain⟨e2,k,hh⟩:=h2 _ _ hq.2.1 k hh;obtain⟨e3,k,hh⟩:=h3 _ _ hq.2.2.1 k hh;obtain⟨e4,k,hh⟩:=h4 _ _ hq.2.2.2.1 k hh;obtain⟨e5,k,hh⟩:=h5 _ _ hq.2.2.2.2.1 k hh;obtain⟨e6,k,hh⟩:=h6 _ _ hq.2.2.2.2.2 k hh;exact⟨by rw[e1,e2,e3,e4,e5,e6],k,hh⟩
theorem Dz(pk:Bool)(m:og):sG false m=iB m.w++(iB m.h++m.l.flatMap Px.pb):=by
 unfold sG; simp only[lg,az0,aB1,if_false]; rfl
structure og.Ok (m:og):Prop extends og.Good m where
 sides:0≤m.w∧m.w≤4096∧0≤m.h∧m.h≤4096
structure jc.Ok (p:jc):Prop where
 kind:I64 p.kind
 p0:p.p0.ok
 p1:p.p1.ok
 bT:I64 p.bT
 stops:p.stops.length≤16∧∀s∈p.stops,s.ok
 spread:I64 p.spread
 img:p.img.Ok
 cZ:I64 p.cZ
 q:SI p.q
theorem Ep(pk:Bool)(p:jc):fC pk p=iB p.kind++(Px.pb p.color++(WS p.p0++(WS p.p1++(iB p.bT++(iy jf p.stops++(iB p.spread++(sG pk p.img++(iB p.cZ++sH p.q)))))))):=by
 unfold fC WS; simp only[lg,az0]; rfl
theorem aaZ{l:List UInt8}{p p1 p2 p3 p4 p5 p6 p7 p8 p9 p10:Nat}{bad b1 b2 b3 b4 b5 b6 b7 b8 b9 b10:Bool}{pk:Bool}{kd rd sp sm:Int}{c:bC}{x y:jS}{st:List dH}{m:og}{q:Q6}(h1:Got iB I64 l p bad p1 b1 kd)(h2:Got Px.pb (fun _=>True) l p1 b1 p2 b2 c)(h3:Got WS jS.ok l p2 b2 p3 b3 x)(h4:Got WS jS.ok l p3 b3 p4 b4 y)(h5:Got iB I64 l p4 b4 p5 b5 rd)
  (h6:Got (iy jf) (fun ys=>ys.length<18446744073709551616∧∀y∈ys,dH.ok y) l p5 b5 p6 b6 st) (h7:Got iB I64 l p6 b6 p7 b7 sp) (h8:Got (sG pk) og.Ok l p7 b7 p8 b8 m) (h9:Got iB I64 l p8 b8 p9 b9 sm) (h10:Got sH SI l p9 b9 p10 b10 q) :
  Got (fC pk) jc.Ok l p bad p10 b10 ⟨kd,c,x,y,rd,st,sp,m,sm,q⟩:=fun a r ha hb hh=>by
 rw[Ep]at hh;simp only[az0]at hh;obtain⟨e1,k,hh⟩:=h1 _ _ ha.kind hb hh;obtain⟨e2,k,hh⟩:=h2 _ _ trivial k hh;obtain⟨e3,k,hh⟩:=h3 _ _ ha.p0 k hh;obtain⟨e4,k,hh⟩:=h4 _ _ ha.p1 k hh;obtain⟨e5,k,hh⟩:=h5 _ _ ha.bT k hh;obtain⟨e6,k,hh⟩:=h6 _ _ ⟨by have:=ha.stops.1; omega,ha.stops.2⟩ k hh;obtain⟨e7,k,hh⟩:=h7 _ _ ha.spread k hh;obtain⟨e8,k,hh⟩:=h8 _ _ ha.img k hh;obtain⟨e9,k,hh⟩:=h9 _ _ ha.cZ k hh;obtain⟨e10,k,hh⟩:=h10 _ _ ha.q k hh;exact⟨by rw[e1,e2,e3,e4,e5,e6,e7,e8,e9,e10],k,hh⟩
theorem vk(pk:Bool)(p:jc):0<(fC pk p).length:=by rw[Ep,azL]; have:=IG p.kind; omega
theorem aa0(p:kC):BP p=iB p.width++(iB p.join++(iB p.cap++(iB p.eU++(iB p.phase++iy iB p.dash)))):=by
 unfold BP; simp only[lg,az0]; rfl
theorem ahc{l:List UInt8}{p p1 p2 p3 p4 p5 p6:Nat}{bad b1 b2 b3 b4 b5 b6:Bool}{a b c d e:Int}{ds:List Int}(h1:Got iB I64 l p bad p1 b1 a)(h2:Got iB I64 l p1 b1 p2 b2 b)(h3:Got iB I64 l p2 b2 p3 b3 c)(h4:Got iB I64 l p3 b3 p4 b4 d)(h5:Got iB I64 l p4 b4 p5 b5 e)(h6:Got (iy iB) (fun ys=>ys.length<18446744073709551616∧∀y∈ys,I64 y) l p5 b5 p6 b6 ds) :
  Got BP kC.Good l p bad p6 b6 ⟨a,b,c,d,ds,e⟩:=fun y r hy hb hh=>by
 rw[aa0]at hh;simp only[az0]at hh;obtain⟨i1,i2,i3,i4,i5⟩:=hy.i;obtain⟨e1,k,hh⟩:=h1 _ _ i1 hb hh;obtain⟨e2,k,hh⟩:=h2 _ _ i2 k hh;obtain⟨e3,k,hh⟩:=h3 _ _ i3 k hh;obtain⟨e4,k,hh⟩:=h4 _ _ i4 k hh;obtain⟨e5,k,hh⟩:=h5 _ _ i5 k hh;obtain⟨e6,k,hh⟩:=h6 _ _ ⟨by have:=hy.dash.1; omega,hy.dash.2⟩ k hh;exact⟨by rw[e1,e2,e3,e4,e5,e6],k,hh⟩
structure aQ.Ok (n:aQ):Prop where
 i:I64 n.id∧I64 n.kind∧I64 n.depth∧I64 n.aP∧I64 n.blend∧I64 n.aT∧I64 n.cZ
 q:SI n.q
 clip:n.clip.length≤256∧∀s∈n.clip,s.ok
 path:n.kind=2→n.path.length≤256∧∀s∈n.path,s.ok
 fill:n.kind=2→n.fill.length≤1∧∀p∈n.fill,p.Ok
 stroke:n.kind=2→n.stroke.length≤1∧∀p∈n.stroke,p.Ok
 style:n.kind=2→0<n.stroke.length→n.style.Good
 img:n.kind=3→n.img.Ok
 canon:n.canon=n
theorem IY(pk:Bool)(n:aQ):eG pk n=iB n.id++(iB n.kind++(iB n.depth++(sH n.q++(iy kH n.clip++(iB n.aP++nG pk n))))):=by
 unfold eG; simp only[lg,az0]; rfl
def Com(pk:Bool)(l:List UInt8)(p:Nat)(bad:Bool)(p':Nat)(b':Bool)(id kd dp:Int)(q:Q6)(cl:List dM)(cr:Int):Prop:=
 ∀y r,aQ.Ok y→bad=false→l.drop p=eG pk y++r→id=y.id∧kd=y.kind∧dp=y.depth∧q=y.q∧cl=y.clip∧cr=y.aP∧b'=false∧l.drop p'=nG pk y++r
theorem ahd{pk:Bool}{l:List UInt8}{p p1 p2 p3 p4 p5 p6:Nat}{bad b1 b2 b3 b4 b5 b6:Bool}{id kd dp cr:Int}{q:Q6}{cl:List dM}(h1:Got iB I64 l p bad p1 b1 id)(h2:Got iB I64 l p1 b1 p2 b2 kd)(h3:Got iB I64 l p2 b2 p3 b3 dp)(h4:Got sH SI l p3 b3 p4 b4 q)
  (h5:Got (iy kH) (fun ys=>ys.length<18446744073709551616∧∀y∈ys,dM.ok y) l p4 b4 p5 b5 cl) (h6:Got iB I64 l p5 b5 p6 b6 cr):Com pk l p bad p6 b6 id kd dp q cl cr:=fun y r hy hb hh=>by
 rw[IY]at hh;simp only[az0]at hh;obtain⟨i1,i2,i3,i4,-⟩:=hy.i;obtain⟨e1,k,hh⟩:=h1 _ _ i1 hb hh;obtain⟨e2,k,hh⟩:=h2 _ _ i2 k hh;obtain⟨e3,k,hh⟩:=h3 _ _ i3 k hh;obtain⟨e4,k,hh⟩:=h4 _ _ hy.q k hh;obtain⟨e5,k,hh⟩:=h5 _ _ ⟨by have:=hy.clip.1; omega,hy.clip.2⟩ k hh;obtain⟨e6,k,hh⟩:=h6 _ _ i4 k hh;exact⟨e1,e2,e3,e4,e5,e6,k,hh⟩
abbrev anl (c:UInt8):List UInt8:=[c]
abbrev aes (l:List UInt8)(p:Nat)(bad:Bool)(p':Nat)(b':Bool)(c:UInt8):Prop:=Got anl (fun _=>True) l p bad p' b' c
theorem aeu{l:List UInt8}{p:Nat}{bad:Bool}{c:UInt8}(hc:Wy l p bad 1=[c]):aes l p bad (Yw l p bad 1) (EW l p bad 1) c:=fun y r _ hb e=>by
 obtain⟨h1,h2,h3⟩:=SH (n:=1) (B:=[y]) rfl (by decide) hb e;rw[hc]at h1;exact⟨by simpa using h1,h2,h3⟩
theorem YR(b:Bool):(pz b==1)=b:=by cases b<;>rfl
theorem aa1{pk:Bool}{l:List UInt8}{p p6 p7 p8 p9 p10:Nat}{bad b6 b7 b8 b9 b10:Bool}{id kd dp cr bd:Int}{q:Q6}{cl:List dM}{op c1 c2:UInt8}(hC:Com pk l p bad p6 b6 id kd dp q cl cr)(hk:kd=1)(h7:aes l p6 b6 p7 b7 op)(h8:Got iB I64 l p7 b7 p8 b8 bd)(h9:aes l p8 b8 p9 b9 c1)(h10:aes l p9 b9 p10 b10 c2) :
  Got (eG pk) aQ.Ok l p bad p10 b10 ⟨id,kd,dp,q,cl,cr,op,bd,c1==1,c2==1,[],0,[],.zero,[],.zero,0⟩:=fun y r hy hb hh=>by
 obtain⟨e1,e2,e3,e4,e5,e6,k,hh⟩:=hC y r hy hb hh;have hyk:y.kind=1:=e2▸hk;unfold nG at hh;rw[azI hyk]at hh;simp only[az0,uf]at hh;obtain⟨f1,k,hh⟩:=h7 y.dQ _ trivial k hh;obtain⟨f2,k,hh⟩:=h8 _ _ hy.i.2.2.2.2.1 k hh;obtain⟨f3,k,hh⟩:=h9 (pz y.isolated) ([pz y.dF]++r) trivial k hh;obtain⟨f4,k,hh⟩:=h10 _ _ trivial k hh;refine⟨?_,k,hh⟩;rw[←hy.canon];unfold aQ.canon;rw[azI hyk,e1,e2,e3,e4,e5,e6,f1,f2,f3,f4,YR,YR]
theorem LJ{pk:Bool}{l:List UInt8}{p p6 p7 p8 p9 p10 p11:Nat}{bad b6 b7 b8 b9 b10 b11:Bool}{id kd dp cr fr:Int}{q:Q6}{cl pa:List dM}{fi st:List jc}{sy:kC}(hC:Com pk l p bad p6 b6 id kd dp q cl cr)(hk:kd=2)(h7:Got (iy kH) (fun ys=>ys.length<18446744073709551616∧∀y∈ys,dM.ok y) l p6 b6 p7 b7 pa)(h8:Got iB I64 l p7 b7 p8 b8 fr)
  (h9:Got (iy (fC pk)) (fun ys=>ys.length<18446744073709551616∧∀y∈ys,jc.Ok y) l p8 b8 p9 b9 fi) (h10:Got (iy (fC pk)) (fun ys=>ys.length<18446744073709551616∧∀y∈ys,jc.Ok y) l p9 b9 p10 b10 st)
  (h11:(0<st.length∧Got BP kC.Good l p10 b10 p11 b11 sy)∨(¬0<st.length∧p11=p10∧b11=b10∧sy = .zero)) :
  Got (eG pk) aQ.Ok l p bad p11 b11 ⟨id,kd,dp,q,cl,cr,0,0,false,false,pa,fr,fi,sy,st,.zero,0⟩:=fun y r hy hb hh=>by
 obtain⟨e1,e2,e3,e4,e5,e6,k,hh⟩:=hC y r hy hb hh;have hyk:y.kind=2:=e2▸hk;unfold nG at hh;rw[azG (by omega),azI hyk]at hh;simp only[az0,uf]at hh;obtain⟨f1,k,hh⟩:=h7 _ _ ⟨by have:=(hy.path hyk).1; omega,(hy.path hyk).2⟩ k hh;obtain⟨f2,k,hh⟩:=h8 _ _ hy.i.2.2.2.2.2.1 k hh;obtain⟨f3,k,hh⟩:=h9 _ _ ⟨by have:=(hy.fill hyk).1; omega,(hy.fill hyk).2⟩ k hh;obtain⟨f4,k,hh⟩:=h10 _ _ ⟨by have:=(hy.stroke hyk).1; omega,(hy.stroke hyk).2⟩ k hh;have fin:sy=(if 0<y.stroke.length then y.style else .zero)∧b11=false∧l.drop p11=r:=by
  rcases h11 with ⟨hs,h11⟩ | ⟨hs,rfl,rfl,rfl⟩
  ·rw[f4]at hs;rw[azI hs]at hh ⊢;exact h11 _ _ (hy.style hyk hs) k hh
  rw[f4]at hs;rw[azG hs]at hh ⊢;exact⟨rfl,k,by simpa using hh⟩
 refine⟨?_,fin.2⟩;rw[←hy.canon];unfold aQ.canon;rw[azG (by omega),azI hyk,e1,e2,e3,e4,e5,e6,f1,f2,f3,f4,fin.1]
theorem aa2{pk:Bool}{l:List UInt8}{p p6 p7 p8:Nat}{bad b6 b7 b8:Bool}{id kd dp cr sm:Int}{q:Q6}{cl:List dM}{m:og}(hC:Com pk l p bad p6 b6 id kd dp q cl cr)(hk:kd=3)(h7:Got (sG pk) og.Ok l p6 b6 p7 b7 m)(h8:Got iB I64 l p7 b7 p8 b8 sm) :
  Got (eG pk) aQ.Ok l p bad p8 b8 ⟨id,kd,dp,q,cl,cr,0,0,false,false,[],0,[],.zero,[],m,sm⟩:=fun y r hy hb hh=>by
 obtain⟨e1,e2,e3,e4,e5,e6,k,hh⟩:=hC y r hy hb hh;have hyk:y.kind=3:=e2▸hk;unfold nG at hh;rw[azG (by omega),azG (by omega),azI hyk]at hh;simp only[az0,uf]at hh;obtain⟨f1,k,hh⟩:=h7 _ _ (hy.img hyk) k hh;obtain⟨f2,k,hh⟩:=h8 _ _ hy.i.2.2.2.2.2.2 k hh;refine⟨?_,k,hh⟩;rw[←hy.canon];unfold aQ.canon;rw[azG (by omega),azG (by omega),azI hyk,e1,e2,e3,e4,e5,e6,f1,f2]
theorem aa3{pk:Bool}{l:List UInt8}{p p6:Nat}{bad b6:Bool}{id kd dp cr:Int}{q:Q6}{cl:List dM}(hC:Com pk l p bad p6 b6 id kd dp q cl cr)(h1:kd≠1)(h2:kd≠2)(h3:kd≠3) :
  Got (eG pk) aQ.Ok l p bad p6 b6 ⟨id,kd,dp,q,cl,cr,0,0,false,false,[],0,[],.zero,[],.zero,0⟩:=fun y r hy hb hh=>by
 obtain⟨e1,e2,e3,e4,e5,e6,k,hh⟩:=hC y r hy hb hh;subst e2;unfold nG at hh;rw[azG h1,azG h2,azG h3]at hh;refine⟨?_,k,by simpa using hh⟩;rw[←hy.canon];unfold aQ.canon;rw[azG h1,azG h2,azG h3,e1,e3,e4,e5,e6]
theorem aa4(pk:Bool)(n:aQ):0<(eG pk n).length:=by rw[IY,azL]; have:=IG n.id; omega
end
section
open Go.RowKit En
variable{α:Type}
theorem Es(n1 n2:Bool)(s1 s2:Value)(l m:List UInt32)(w:World)(h1:aC w s1 l)(h2:aC w s2 m) :
  Calls Tryz.prog 285 #[.agg #[.bool n1,s1],.agg #[.bool n2,s2]] w fun e w'=>e = .returned (.bool (n1==n2&&l==m))∧Ext w w':=by
 obtain⟨a1,c1,rfl⟩:=h1.shape;obtain⟨a2,c2,rfl⟩:=h2.shape;have hl1:=h1.len;have hl2:=h2.len;unfold maxLen at hl1 hl2;have HB0:=azF ((aF w (.cells #[.bool n1,.slice a1 l.length c1] 24)).alloc (by simp) (.cells #[.bool n2,.slice a2 m.length c2] 24));have H1:=azF h1;have H2:=azF h2;clear h1 h2;by_cases hn:n1=n2
 ·subst hn;by_cases hl:l.length=m.length
  ·have HL:=azF hl;obtain⟨W,hW⟩:∃W,((w.alloc (.cells #[.bool n1,.slice a1 l.length c1] 24)).alloc (.cells #[.bool n1,.slice a2 m.length c2] 24))=W:=⟨_,rfl⟩;have hK:∀w1,Ext W w1→w1.cell? ⟨w.heap.size,1,none⟩=some (.slice a1 l.length c1)∧w1.cell? ⟨w.heap.size+1,1,none⟩=some (.slice a2 m.length c2):=by
    intro w1 hb;subst hW;constructor
    ·rw[hb.cell (p:=⟨w.heap.size,1,none⟩) (by simp; omega)]; simp[go_sem]
    rw[hb.cell (p:=⟨w.heap.size+1,1,none⟩) (by simp)]; simp[go_sem]
   have HK:=azF hK;rw[hW]at HB0;have HW:=azF hW;have hne:((l.length:Int) != (m.length:Int))=false:=by rw[bne_eq_false_iff_eq]; omega
   have hml:m.length≤l.length:=aCb hl.symm;have hlm:l.length≤m.length:=aCb hl;clear hl hK hW;cases n1;all_goals
    go_enter Tryz.func285,Tryz.ntmps285
    go_wp2_with fail
    rw[HW.out]
    clear hne
    go_loopw [5,6,24] (fun _ _ i wr=>∃k:Nat,i = .i k∧k≤l.length∧l.take k=m.take k∧Ext W wr) (fun _ _ i _=>l.length-(intOf i).toNat)
    case atStart=>exact⟨0,rfl,azQ _,rfl,az5 _ _⟩
    case round =>
     obtain⟨k,rfl,hk,ht,hbel⟩:=hrel
     have HT:=azF ht
     clear ht
     obtain⟨q1,q2⟩:=HK.out wr hbel
     by_cases hlt:k<l.length
     ·obtain⟨bx,ox,cx,hxs,hbx,hlx,hmx,hcx⟩:=dN H1.out rfl (by omega)
      obtain⟨by',oy,cy,hys,hby,hly,hmy,hcy⟩:=dN H2.out rfl (by omega)
      simp only[aAg]at hxs hys
      obtain⟨rfl,-,-⟩:=hxs
      obtain⟨rfl,-,-⟩:=hys
      have hkm:k<m.length:=by omega
      have hb:=Ext.trans' HB0.out hbel
      have r1:wr.cell? ⟨bx,ox+k,none⟩=some (aX l[k]):=by rw[hb.cell (p:=⟨bx,ox+k,none⟩) hbx]; exact hcx k hlt
      have r2:wr.cell? ⟨by',oy+k,none⟩=some (aX m[k]):=by rw[hb.cell (p:=⟨by',oy+k,none⟩) hby]; exact hcy k hkm
      have hs1:=take_snoc l k hlt
      have hs2:=take_snoc m k hkm
      clear hcx hcy hb
      have hkI:(k:Int)<(m.length:Int):=by omega
      by_cases he:l[k]=m[k]
      ·have hnx:l.take (k+1)=m.take (k+1):=by rw[hs1,hs2,HT.out,he]
       rw[he]at r1
       have HN:=azF hnx
       generalize m[k]=d at *
       clear hs1 hs2 hnx he
       go_wp2_with fail
       go_roundw
       case rel=>exact⟨k+1,by go_num,by omega,HN.out,hbel⟩
       case measure=>simp[intOf]; omega
      ·have hx:((l[k].toNat:Int) != (m[k].toNat:Int))=true:=by
        rw[bne_iff_ne]; intro e; exact he (aBf.1 (by omega))
       have hr:l≠m:=fun e=>he (by subst e; rfl)
       have HR:Hid ((l==m)=false):=az8.2 hr
       generalize l[k]=d1 at *
       generalize m[k]=d2 at *
       clear hs1 hs2 he hr
       go_wp2_with fail
       go_ret
       exact⟨by rw[HR.out]; rfl,Ext.trans' HB0.out hbel⟩
     ·obtain rfl:k=l.length:=by omega
      have hr:l=m:=by
       have:=HT.out
       rw[aAA,HL.out,aAA]at this; exact this
      have HR:Hid ((l==m)=true):=azU.2 hr
      clear hr
      go_wp2_with fail
      go_ret
      exact⟨by rw[HR.out]; rfl,Ext.trans' HB0.out hbel⟩
  have hne:((l.length:Int) != (m.length:Int))=true:=by rw[bne_iff_ne]; omega
  have hr:Hid ((n1==n1&&l==m)=false):=by
   show _=_;rw[aBp,aAP,az8]; exact fun e=>hl (by rw[e])
  clear hl;cases n1;all_goals
   go_enter Tryz.func285,Tryz.ntmps285
   go_wp2_with fail
   go_ret
   exact⟨by rw[hr.out]; rfl,HB0.out⟩
 have hr:Hid ((n1==n2&&l==m)=false):=by
  show _=_;rw[az8.2 hn,aA5]
 cases n1<;>cases n2
 ·exact absurd rfl hn
 case' true.true=>exact absurd rfl hn
 all_goals
  clear hn
  go_enter Tryz.func285,Tryz.ntmps285
  go_wp2_with fail
  go_ret
  exact⟨by rw[hr.out]; rfl,HB0.out⟩
theorem aa5{n1:Bool}{a b:Nat}(h:n1=true→0<a):(decide (0<b)&&((n1==(nrm n1 false a b).1&&Na.au a==Na.au (nrm n1 false a b).2.1)&&(false==false&&Na.au b==Na.au (nrm n1 false a b).2.2)))=FM n1 a b:=by
 have h1:(!(n1&&decide ((Na.au a).length=0)))=true:=by
  cases n1
  ·rfl
  have:=h rfl;rw[aAP,aBi,aAk];intro e; have:=oq e; omega
 cases hq:FM n1 a b with
 | true =>
  have hb:0<b:=by
   unfold FM at hq;simp only[azY,azW]at hq;exact hq.2.1
  rw[O4 hq,aAW hb]; simp
 | false =>
  rw[Bool.eq_false_iff];intro hc;simp only[azY,azW,azU]at hc;obtain⟨hb,⟨_,e2⟩,_,e3⟩:=hc;unfold FM at hq;rw[h1,aAW hb,aAP,aAP]at hq;have e3':b=(nrm n1 false a b).2.2:=by
   have:=azT Na.val e3;rwa [Na.aB,Na.aB]at this
  have hg:Nat.gcd a b=1:=by
   unfold nrm at e3';rw[azG (by omega)]at e3';simp only at e3';have hgp:0<Nat.gcd a b:=aCm _ hb;have hd:=Nat.div_mul_cancel (aB2 a b);rw[←e3']at hd;rcases aAx 1 (Nat.gcd a b)with h2 | h2
   ·have:b*2≤b*Nat.gcd a b:=aAq _ h2;omega
   omega
  rw[hg]at hq;simp at hq
theorem yT(n1:Bool)(s t:Value)(a b:Nat)(w:World)(hs:aC w s (Na.au a))(ht:aC w t (Na.au b))(hla:(Na.au a).length≤5000000)(hlb:(Na.au b).length≤5000000)(hn:n1=true→0<a) :
  Calls Tryz.prog 253 #[.agg #[.bool n1,s,.z,t]] w fun e w'=>e = .returned (.bool (FM n1 a b))∧Ext w w':=by
 have hb0:=aF w (.cells #[.bool n1,s,.z,t] 26);have HB0:=azF hb0;have H:=azF (And.intro hs ht);have hN:=oD n1 false s t _ _ _ (hs.below hb0) (ht.below hb0) (by omega) (by omega);rw[Na.aB,Na.aB]at hN;have HN:=azF hN;have HR:=azF (aa5 (b:=b) hn);obtain⟨a1,c1,rfl⟩:=hs.shape;obtain⟨a2,c2,rfl⟩:=ht.shape;generalize nrm n1 false a b=r at *;obtain⟨ng,ga,gb⟩:=r;simp only at HR;generalize FM n1 a b=Q at *;have hK:∀w1,Ext (w.alloc (.cells #[.bool n1,.slice a1 (Na.au a).length c1,.z,.slice a2 (Na.au b).length c2] 26)) w1→(∀i,w1.cell? ⟨w.heap.size,i,none⟩ = #[Value.bool n1,.slice a1 (Na.au a).length c1,.z,.slice a2 (Na.au b).length c2][i]?)∧w.heap.size<w1.heap.size:=fun w1 h=>⟨(iU h).1,(iU h).2.2⟩;have HK:=azF hK;clear hs ht hb0 hN hK hn;go_enter Tryz.func253,Tryz.ntmps253
 go_wp2_with fail
 refine HN.out.mono ?_;rintro e w1 ⟨x,rfl,hx,hb⟩;have hx:aA _ w1 x ng ga gb:=hx;obtain⟨b1,d1,b2,d2,rfl⟩:=hx.shape;obtain⟨k1,kz⟩:=HK.out w1 hb;have HX:=azF (And.intro hx.parts.1 hx.parts.2.1);have hE:=hb.alloc hb.size (.cells #[.bool ng,.slice b1 (Na.au ga).length d1,.z,.slice b2 (Na.au gb).length d2] 26);have hS:=mQ false (.slice a2 (Na.au b).length c2) (Na.au b) _ (H.out.2.below (Ext.trans' HB0.out hE)) (by omega);rw[Na.aB]at hS;have HE:=azF hE;have HW1:=azF hb;have HS:=azF hS;clear hx hb hE hS HN;have HK2:Hid (∀w2,Ext (w1.alloc (.cells #[.bool ng,.slice b1 (Na.au ga).length d1,.z,.slice b2 (Na.au gb).length d2] 26)) w2 →
   (∀i,w2.cell? ⟨w.heap.size,i,none⟩ = #[Value.bool n1,.slice a1 (Na.au a).length c1,.z,.slice a2 (Na.au b).length c2][i]?)∧(∀i,w2.cell? ⟨w1.heap.size,i,none⟩ = #[Value.bool ng,.slice b1 (Na.au ga).length d1,.z,.slice b2 (Na.au gb).length d2][i]?) ∧
   aC w2 (.slice a1 (Na.au a).length c1) (Na.au a)∧aC w2 (.slice a2 (Na.au b).length c2) (Na.au b)∧aC w2 (.slice b1 (Na.au ga).length d1) (Na.au ga)∧aC w2 (.slice b2 (Na.au gb).length d2) (Na.au gb)∧Ext w w2):=by
  intro w2 h2
  have h3:=Ext.trans' (aF w1 _) h2
  have h4:=Ext.trans' HB0.out (Ext.trans' HW1.out h3)
  exact⟨(HK.out w2 (Ext.trans' HW1.out h3)).1,(iU h2).1,H.out.1.below h4,H.out.2.below h4,HX.out.1.below h3,HX.out.2.below h3,h4⟩
 clear HE HW1 HX HK HB0 H;cases hb0:decide (0<b)with
 | false =>
  have anm:b=0:=by have:=az4 hb0; omega
  have hr:Hid (Q=false):=by show _=_; rw[←HR.out,hb0]; rfl
  rw[show pK false b=0 by rw[anm]; rfl]at HS;clear hb0 anm;go_wp2_with fail
  refine HS.out.mono ?_;rintro e w2 ⟨rfl,hb⟩;obtain⟨-,-,-,-,-,-,h4⟩:=HK2.out w2 hb;have HF:=azF h4;clear hb h4;go_wp2_with fail
  go_ret
  exact⟨by rw[hr.out]; rfl,HF.out⟩
 | true =>
  have hbp:0<b:=azZ hb0;have hR2:=HR.out;rw[hb0,aAP]at hR2;have hsg:pK false b=1:=by unfold pK; rw[azG (by omega)]; rfl
  rw[hsg]at HS;obtain⟨S1,hS1⟩:∃S1,(n1==ng&&Na.au a==Na.au ga)=S1:=⟨_,rfl⟩;obtain⟨S2,hS2⟩:∃S2,(false==false&&Na.au b==Na.au gb)=S2:=⟨_,rfl⟩;rw[hS1,hS2]at hR2;have HR2:=azF hR2;have HS1:=azF hS1;have HS2:=azF hS2;clear hb0 hbp hsg hR2 hS1 hS2;go_wp2_with fail
  refine HS.out.mono ?_;rintro e w2 ⟨rfl,hb⟩;obtain⟨k1,k2,g1,g2,g3,g4,h4⟩:=HK2.out w2 hb;have hM:=Es n1 ng _ _ _ _ w2 g1 g3;rw[HS1.out]at hM;have HM:=azF hM;have HW2:=azF hb;clear hb g1 g2 g3 g4 h4 hM HS;cases S1
  ·go_wp2_with fail
   refine HM.out.mono ?_;rintro e w3 ⟨rfl,hb⟩;obtain⟨-,-,-,-,-,-,h4⟩:=HK2.out w3 (Ext.trans' HW2.out hb);have HF:=azF h4;clear hb h4 k1 k2;go_wp2_with fail
   go_ret
   exact⟨by rw[←HR2.out]; rfl,HF.out⟩
  go_wp2_with fail
  refine HM.out.mono ?_;rintro e w3 ⟨rfl,hb⟩;have hW3:=Ext.trans' HW2.out hb;obtain⟨k1,k2,g1,g2,g3,g4,h4⟩:=HK2.out w3 hW3;have hM:=Es false false _ _ _ _ w3 g2 g4;rw[HS2.out]at hM;have HM2:=azF hM;have HW3:=azF hW3;clear hb g1 g2 g3 g4 h4 hM hW3 HM;go_wp2_with fail
  refine HM2.out.mono ?_;rintro e w4 ⟨rfl,hb⟩;obtain⟨-,-,-,-,-,-,h4⟩:=HK2.out w4 (Ext.trans' HW3.out hb);have HF:=azF h4;clear hb h4 k1 k2;go_wp2_with fail
  go_ret
  exact⟨by rw[←HR2.out]; rfl,HF.out⟩
theorem akJ(v:Value)(l:List UInt8)(w:World)(hv:bJ w v l)(hlen:l.length≤100000000000) :
  Calls Tryz.prog 61 #[v] w fun e w'=>∃v',e = .returned v'∧OwnB w.heap.size w' v' l∧Ext w w':=WH v l w hv (by omega)
def aev(w:World)(b:Nat)(v:Value)(l:List UInt8)(p:Nat)(r:Except Nat (List UInt8×Nat))(e:Ending)(w':World):Prop:=
 ∃q,Rd w' b v l q∧Ch b w w'∧(match r with
  | .ok (s,k)=>q=p+k∧∃x,e = .returned (.tuple #[x,.i 0])∧OwnB w.heap.size w' x s
  | .error er=>e = .returned (.tuple #[.sn,.i er]))
theorem ahe{most:Int}{l:List UInt8}{e:Nat}(h:lT 9 l = .error e):sZ most l = .error e:=by unfold sZ; rw[h]
theorem ano{most:Int}{l:List UInt8}{n k:Nat}(h:lT 9 l = .ok (n,k))(h5:most<0∨most<(n:Int)):sZ most l = .error 5:=by unfold sZ; rw[h]; simp only; rw[azI h5]
theorem anp{most:Int}{l:List UInt8}{n k:Nat}(h:lT 9 l = .ok (n,k))(h5:¬(most<0∨most<(n:Int)))(h4:l.length-k<n):sZ most l = .error 4:=by
 unfold sZ; rw[h]; simp only; rw[azG h5,azI h4]
theorem anq{most:Int}{l:List UInt8}{n k:Nat}(h:lT 9 l = .ok (n,k))(h5:¬(most<0∨most<(n:Int)))(h4:¬l.length-k<n):sZ most l = .ok ((l.drop k).take n,k+n):=by
 unfold sZ; rw[h]; simp only; rw[azG h5,azG h4]
theorem ug(l:List UInt8)(b p:Nat)(v:Value)(most:Int)(w:World)(h:Rd w b v l p)(hl:l.length≤100000000000)(hmb:most≤9223372036854775807) :
  Calls Tryz.prog 74 #[.q b 0,.i most] w (aev w b v l p (sZ most (l.drop p))):=by
 have HN:=azF (zY l b p v w h);have hpl:=h.hp;cases hu:lT 9 (l.drop p)with
 | error er =>
  rw[ahe hu];rw[hu]at HN;have he:=Yv hu;clear hu h;go_enter Tryz.func74,Tryz.ntmps74
  go_wp2_with fail
  refine HN.out.mono ?_;rintro e w1 ⟨q,hrd,hch,rfl⟩;have HR:=azF hrd;have HC:=azF hch;clear hrd hch HN;go_wp2_with fail
  go_ret2
  exact⟨q,HR.out,HC.out,rfl⟩
 | ok r =>
  obtain⟨n,k⟩:=r;obtain⟨axF,hk1,hkl,hk10,-⟩:=FB hu;simp only[aBF]at hkl;rw[hu]at HN;clear h;by_cases h5:most<0∨most<(n:Int)
  ·rw[ano hu h5];clear hu;by_cases h0:most<0
   ·clear h5;go_enter Tryz.func74,Tryz.ntmps74
    go_wp2_with fail
    refine HN.out.mono ?_;rintro e w1 ⟨q,hrd,hch,hq,rfl⟩;have HR:=azF hrd;have HC:=azF hch;clear hrd hch HN hq;go_wp2_with fail
    go_ret2
    exact⟨q,HR.out,HC.out,rfl⟩
   have h1:most<(n:Int):=by omega
   clear h5;go_enter Tryz.func74,Tryz.ntmps74
   go_wp2_with fail
   refine HN.out.mono ?_;rintro e w1 ⟨q,hrd,hch,hq,rfl⟩;have HR:=azF hrd;have HC:=azF hch;clear hrd hch HN hq;go_wp2_with fail
   go_ret2
   exact⟨q,HR.out,HC.out,rfl⟩
  have h0:0≤most:=by omega
  have h1:(n:Int)≤most:=by omega
  by_cases h4:(l.drop p).length-k<n
  ·rw[anp hu h5 h4];have h4':((l.length-(p+k):Nat):Int)<(n:Int):=by simp at h4; omega
   clear hu h5 h4;go_enter Tryz.func74,Tryz.ntmps74
   go_wp2_with fail
   refine HN.out.mono ?_;rintro e w1 ⟨q,hrd,hch,rfl,rfl⟩;have HL:=azF (OB l b (p+k) v w1 hrd);have HC:=azF hch;clear hrd hch HN;go_wp2_with fail
   refine HL.out.mono ?_;rintro e w2 ⟨rfl,hrd,hch⟩;have HR:=azF hrd;have HC2:=azF (Ch.trans HC.out hch);clear hrd hch HL;go_wp2_with fail
   go_ret2
   exact⟨_,HR.out,HC2.out,rfl⟩
  rw[anq hu h5 h4];have h4':¬((l.length-(p+k):Nat):Int)<(n:Int):=by simp at h4; omega
  have hpk:p+k+n≤l.length:=by simp at h4; omega
  clear hu h5 h4;go_enter Tryz.func74,Tryz.ntmps74
  go_wp2_with fail
  refine HN.out.mono ?_;rintro e w1 ⟨q,hrd,hch,rfl,rfl⟩;have HL:=azF (OB l b (p+k) v w1 hrd);have HC:=azF hch;clear hrd hch HN;go_wp2_with fail
  refine HL.out.mono ?_;rintro e w2 ⟨rfl,hrd,hch⟩;have HX:=azF (next_any l b (p+k) n v w2 hrd hpk (by omega));have HC2:=azF (Ch.trans HC.out hch);clear hrd hch HL;go_wp2_with fail
  refine HX.out.mono ?_;rintro e w3 ⟨x,rfl,hrd,hch,hrow,hoff⟩;have HR:=azF hrd;have HC3:=azF (Ch.trans HC2.out hch);have hlen:((l.drop (p+k)).take n).length≤100000000000:=by simp; omega
  have HK:=azF (akJ x _ w3 hrow hlen);clear hrd hch hrow hoff HX;go_wp2_with fail
  refine HK.out.mono ?_;rintro e w4 ⟨y,rfl,ho,hb⟩;have HO:=azF ho;have HB:=azF hb;clear ho hb HK;go_wp2_with fail
  go_ret2
  refine⟨p+k+n,HR.out.ext HB.out,Ch.trans HC3.out (Ch.aZ HB.out),by omega,_,rfl,?_⟩;rw[aB9];exact aY HO.out HC3.out.size
open Go.RowKit En
variable{α:Type}
def DC(w:World)(r:List UInt8×Nat×Nat)(e:Ending)(w':World):Prop:=
 ∃x,e = .returned (.tuple #[x,.i r.2.1,.i r.2.2])∧OwnB w.heap.size w' x r.1∧Ext w w'
theorem LK{w w':World}{er:Nat}(hb:Ext w w'):DC w ([],0,er) (.returned (.tuple #[.sn,.i 0,.i er])) w':=
 ⟨_,rfl,aB8 _ _ _ _,hb⟩
theorem ahf{l:List UInt8}{i most:Int}(h:i<0∨(l.length:Int)<i):Yi l i most=([],0,2):=by unfold Yi; rw[azI h]
theorem akK{l s:List UInt8}{i k:Nat}{most:Int}(h:i≤l.length)(hu:sZ most (l.drop i) = .ok (s,k)):Yi l i most=(s,i+k,0):=by
 unfold Yi; rw[azG (by omega),aBh,hu]
theorem ahg{l:List UInt8}{i e:Nat}{most:Int}(h:i≤l.length)(hu:sZ most (l.drop i) = .error e):Yi l i most=([],0,e):=by
 unfold Yi; rw[azG (by omega),aBh,hu]
theorem SK(v:Value)(l:List UInt8)(i most:Int)(w:World)(hv:bJ w v l)(hl:l.length≤100000000000)(hmb:most≤9223372036854775807) :
  Calls Tryz.prog 45 #[v,.i i,.i most] w (DC w (Yi l i most)):=by
 by_cases hbad:i<0∨(l.length:Int)<i
 ·rw[ahf hbad];have HF:=azF (Iu v l i w hv hbad);clear hbad;go_enter Tryz.func45,Tryz.ntmps45
  go_wp2_with fail
  refine HF.out.mono ?_;rintro e w' ⟨rfl,rfl⟩;go_wp2_with fail
  go_ret3
  exact LK (az5 _ _)
 obtain⟨p,rfl⟩:∃p:Nat,i=p:=⟨i.toNat,by omega⟩;have hp:p≤l.length:=by omega
 have HF:=azF (Oz v l p w hv hp);clear hbad;cases hu:sZ most (l.drop p)with
 | error er =>
  rw[ahg hp hu];have he:=OZ hu;have HU:=azF hu;clear hu;go_enter Tryz.func45,Tryz.ntmps45
  go_wp2_with fail
  refine HF.out.mono ?_;rintro e w1 ⟨b,rfl,hrd,hb1,hb⟩;have HN:=azF (ug l b p v most w1 hrd hl hmb);rw[HU.out]at HN;clear hrd HF;go_wp2_with fail
  refine HN.out.mono ?_;rintro e w2 ⟨q,hrd,hch,rfl⟩;have HB:=azF (aBA hb1 (hch.below hb hb1.size));clear hrd hch hb1 HN;go_wp2_with fail
  go_ret3
  exact LK HB.out
 | ok r =>
  obtain⟨s,k⟩:=r;rw[akK hp hu];have HU:=azF hu;clear hu;go_enter Tryz.func45,Tryz.ntmps45
  go_wp2_with fail
  refine HF.out.mono ?_;rintro e w1 ⟨b,rfl,hrd,hb1,hb⟩;have HN:=azF (ug l b p v most w1 hrd hl hmb);rw[HU.out]at HN;clear hrd HF;go_wp2_with fail
  refine HN.out.mono ?_;rintro e w2 ⟨q,hrd,hch,hq,x,rfl,ho⟩;have h1:=hrd.c1;have HB:=azF (aBA hb1 (hch.below hb hb1.size));have HO:=azF (aY ho hb1.size);have HQ:=azF hq;clear hrd hch hb1 HN hq ho;go_wp2_with fail
  go_quiet (fail)
  go_wp2_with fail
  go_ret3
  rw[HQ.out];exact⟨x,rfl,dL HO.out (below_drewN (az5 _ _) _),below_drewN HB.out _⟩
end
end Go.Proofs.YtodpgjjgaddkeaaGreatDoor
section
namespace Go.Sx
open Go.Proofs.YtodpgjjgaddkeaaGreatDoor Go.RowKit Go.Rel
variable{P:Program}{Q:Exit→Act→World→Prop}{w0 w:World}{a:Act}{os:List Oper}{n:Nat}{l:List (Nat×Value)}{bl:List (Nat×List Value)}{vs:List eX}{o:Oper}{ρ:Operand→Value}
def KnL(ρ:Operand→Value):List (Nat×Value)→Prop
 | []=>True
 | p::r=>ρ (.tmp p.1)=p.2∧KnL ρ r
theorem KnL.look{ρ:Operand→Value}:∀{l:List (Nat×Value)},KnL ρ l→∀q v,l.lookup q=some v→ρ (.tmp q)=v
 | [],_,q,v,h=>by simp at h
 | p::r,hk,q,v,h=>by
  rw[aAw]at h
  split at h
  ·rename_i hq
   obtain rfl:q=p.1:=by simpa using hq
   rw[←azR h]; exact hk.1
  ·exact hk.2.look q v h
theorem dv(hs:Std ρ)(l:List (Nat×Value)){V:Value}(hl:KnL ρ l)(hx:evV P o l=some V:=by kernel_rfl)(hd:o.dst.isSome=true:=by rfl):Does P o ρ w (fun v w'=>Ext w w'∧Rel.is V (kept o v) w'):=
 kX (os:=[o]) (i:=0) rfl hs l hl.look V ⟨Ext.rfl',by obtain⟨d,hd⟩:=aAN.1 hd; unfold kept; rw[hd]; rfl⟩ hx
def evC(P:Program)(o:Oper)(l:List (Nat×Value)):Option (FuncId×Array Value):=match yO o.op || !o.op.operands.all (fun x=>(rd (lift l) [] x).isSome),iQ (ev0 P (execOp (yA (lift l) []) o))with
 | false,some (.enter f args)=>some (f,args)
 | _,_=>none
theorem dc(hs:Std ρ)(l:List (Nat×Value)){T:Fact}{f:FuncId}{args:Array Value}(hl:KnL ρ l)(hc:Calls P f args w (fun e w''=>∃v,e = .returned v∧Ext w w''∧T v w''))(hx:evC P o l=some (f,args):=by kernel_rfl)(hd:o.dst.isSome=true:=by rfl) :
  Does P o ρ w (fun v w'=>Ext w w'∧T (kept o v) w'):=by
 unfold evC at hx;split at hx
 ·rename_i f' args' hav hev;simp only[azK,azP]at hx;obtain⟨rfl,rfl⟩:=hx;simp only[aAz]at hav;have hH:Holds ρ (lift l):=fun q x hq=>by
   rw[jH]at hq;cases h2:l.lookup q with
   | none=>simp[h2]at hq
   | some u =>
    simp only[h2,aAv,azK]at hq;subst hq;rw[hl.look q u h2]; rfl
  have hrun:(execOp ρ o).run P w = .ok (.enter f' args') w:=lG hs (ig hH o) (p:=[]) rfl hav.1 (by simpa using hav.2) hev;refine CQ hrun (hc.mono fun e w'' h=>?_);obtain⟨v,h1,h2,h3⟩:=h;obtain⟨d,hd⟩:=aAN.1 hd;exact⟨v,h1,h2,by unfold kept; rw[hd]; exact h3⟩
 cases hx
theorem dld{t b off:Nat}{ty:TypeId}{cs:List Value}{V:Value}(hx:ρ (.tmp t) = .q b off)(hr:w.rangeAt b off cs)(ho:o.op = .load ty (.tmp t):=by rfl)(hl:PZ P ty cs=some V:=by kernel_rfl)(hd:o.dst.isSome=true:=by rfl) :
  Does P o ρ w (fun v w'=>Ext w w'∧Rel.is V (kept o v) w'):=by
 have h1:=O5 hl hr;have hrun:(execOp ρ o).run P w = .ok (.value V) w:=by
  unfold execOp;rw[ho];simp only[hx,aAI,h1];rfl
 unfold Does;rw[hrun];exact⟨Ext.rfl',by obtain⟨d,hd⟩:=aAN.1 hd; unfold kept; rw[hd]; rfl⟩
theorem oU{q:Nat→Bool}{i:Nat}{v:Value}:∀{l:List (Nat×Value)},(l.filter fun p=>q p.1).lookup i=some v→q i=true∧l.lookup i=some v
 | [],h=>by simp at h
 | (x,u)::l,h=>by
  by_cases hp:q x=true
  ·rw[List.filter_cons_of_pos (by exact hp)]at h
   by_cases e:i=x
   ·subst e
    simp only[aAw,aBp]at h ⊢
    exact⟨hp,h⟩
   ·have e2:(i==x)=false:=by simpa using e
    simp only[aAw,e2]at h ⊢
    exact oU h
  ·rw[List.filter_cons_of_neg (by exact hp)]at h
   obtain⟨h1,h2⟩:=oU h
   refine⟨h1,?_⟩
   have e2:(i==x)=false:=by simp; intro e; subst e; exact hp h1
   simp only[aAw,e2]
   exact h2
theorem aew(S:St w0 a w n l bl vs){id:Nat}(m:Nat)(Ts:List Fact)(j d:Nat)(V:Value)(hm:Rel.DY Ext Ts)(hob:Go.Rel.rW P os.toArray (os.take m) Ts Ext (Ext w) a.eval (os.take m) Ts)
  (next:∀a' w',Ext w w'→St w0 a' w' n ((d,V)::l.filter fun p=>os.all fun o => !(o.dst==some p.1)) bl vs→wpList P os.toArray Q [] a' w') (hV:Ts[j]?=some (Rel.is V)) (hj:((os[j]?).bind (·.dst)==some d&&os.length==m&&decide (j<m))=true:=by kernel_rfl)
  (hmo:P.follows .mixedOrders=true:=by kernel_rfl) (hB:okB os.toArray m n=true:=by kernel_rfl):(Code.region id os.toArray true).wp P Q a w:=by
 simp only[azY,azU,azW]at hj;obtain⟨⟨h1,rfl⟩,h3⟩:=hj;obtain⟨hlen,hget⟩:=Go.Rel.lV _ _ hob;refine aBJ hmo (IZ (R:=Ext) (C:=Ext w) os.length [] (by rw[S.s.size]; exact hB) Ts Fj (below_drewN (az5 _ _) 1) (fun _ _ h k=>Ext.trans' h k) (fun T hT v w1 w2 hR h=>Rel.DY.mem hm T hT v w1 w2 hR h)
  (fun i o hi ho=>hget i o (by rw[List.getElem?_take_of_lt hi]; exact ho)) fun a' w' hE hd hs hf hout _=>?_)
 have ho:∃o,os[j]?=some o∧o.dst=some d:=by
  cases h:os[j]? with
  | none=>rw[h]at h1; cases h1
  | some o=>rw[h]at h1; exact⟨o,rfl,h1⟩
 obtain⟨o,ho,hdo⟩:=ho;have hf1:=hf j o (by rw[List.getElem?_take_of_lt h3]; exact ho);have e1:Ts.getD j top=Rel.is V:=by simp[List.getD,hV]
 rw[e1,hdo]at hf1;have hf2:a'.eval (.tmp d)=V:=hf1;rw[List.drop_length];refine next a' w' hE ((S.grow hE).act ⟨hs.trans S.s.size,hd.trans S.s.defers,fun i v hi=>?_⟩);rw[aAw]at hi;split at hi
 ·rename_i hi2;obtain rfl:i=d:=by simpa using hi2
  rw[←azR hi]; exact hf2
 obtain⟨hq,hi⟩:=oU (q:=fun x=>os.all fun o => !(o.dst==some x)) hi;exact(hout i (by rw[aAA]; exact hq)).trans (S.s.has i v hi)
end Go.Sx
namespace Go.Proofs.YtodpgjjgaddkeaaGreatDoor
open Go.RowKit En
theorem YS{neg n1:Bool}{v:Value}{s:List UInt8}{a:Nat}{w:World}(hv:bJ w v s)(hl:s.length≤1000000)(ha:Nb.val s=a)(hn:(neg&&decide (0<a))=n1) :
  Calls Tryz.prog 252 #[.bool neg,v] w fun e w'=>∃b d,e = .returned (.agg #[.bool n1,.slice b (Na.au a).length d])∧aC w' (.slice b (Na.au a).length d) (Na.au a)∧From w.heap.size (.slice b (Na.au a).length d)∧Ext w w':=
 (aaX neg v s w hv hl).mono fun e w' ⟨x,h1,⟨t,h2,h3,h4⟩,h5⟩=>by
  subst ha hn
  obtain⟨b,d,rfl⟩:=h3.shape
  exact⟨b,d,by rw[h1,h2],h3,h4,h5⟩
theorem ahh{w:World}{b o:Nat}{x y:Bool}{k:IntKind}{n:Int}(hx:Bx w b #[.bool x,.sn,.bool y,.sn])(hc:w.cell? ⟨b,o,none⟩=some (.int k n)):False:=by
 have h:=hc.symm.trans (hx.2.1 o);rcases o with _ | _ | _ | _ | o<;>simp at h
theorem akL{w:World}{b o:Nat}{v:Value}(h:w.cell? ⟨b,o,none⟩=some v):w.rangeAt b o [v]:=fun i u hi=>by
 cases i with
 | zero=>rw[←azR hi]; exact h
 | succ i=>cases hi
end Go.Proofs.YtodpgjjgaddkeaaGreatDoor
namespace Go.Sx
open Go.Proofs.YtodpgjjgaddkeaaGreatDoor Go.RowKit Go.Rel
theorem aex{P:Program}{o:Oper}{ρ:Operand→Value}{w:World}{t s b:Nat}{ty:TypeId}{A cs:List Value}(hx:ρ (.tmp t) = .q b 0)(hy:ρ (.tmp s) = .agg cs.toArray)(hbx:Bx w b A.toArray)(hl:cs.length=A.length)
  (ho:o.op = .store ty (.tmp t) (.tmp s):=by rfl) (hi:(P.info? ty).map (·.size)=some cs.length:=by kernel_rfl) (h1:cs.all (·.oneCell')=true:=by kernel_rfl):Does P o ρ w (fun _ w'=>Ch b w w'∧Bx w' b cs.toArray):=by
 unfold Does;rw[LM ho hx hy hbx hi (by omega) h1];have:=WW hbx 0 cs (by omega);rw[show spl A 0 cs=cs by simp[spl,hl]]at this;exact⟨(Ch.refl b w).setCells cs 0,this⟩
theorem rJ{P:Program}{w0 w:World}{a:Act}{n:Nat}{l:List (Nat×Value)}{bl:List (Nat×List Value)}{vs:List eX}(S:St w0 a w n l bl vs)(k:Nat){fn:Func}{R:Ending→World→Prop}{r s t b:Nat}{ty:TypeId}{A:List Value}{v u z:Value}(hr:fn.results = #[.cell r ty,.tmp s,.tmp t])(hk:bl[k]?=some (b,A))(h:R (.returned (.tuple #[v,u,z])) w)
  (hv:Vp.ev l (.tmp r)=some (.q b 0):=by kernel_rfl) (hu:Vp.ev l (.tmp s)=some u:=by kernel_rfl) (hz:Vp.ev l (.tmp t)=some z:=by kernel_rfl) (hl:PZ P ty A=some v:=by kernel_rfl):bodyPost P fn R .ret a w:=ajR S k hr hk h hv hu hz hl
theorem aey{P:Program}{o:Oper}{ρ:Operand→Value}{w:World}{s x y:Nat}{ty:TypeId}{a:Option Addr}{n c l h:Nat}(hs:ρ (.tmp s) = .slice a n c)(hx:ρ (.tmp x) = .i l)(hy:ρ (.tmp y) = .i h)(hlh:l≤h)(hhc:h≤c){T:Fact}(hT:T (.slice (uo a l c 1) (h-l) (c-l)) w)
  (ho:o.op = .slice ty (.tmp s) (some (.tmp x)) (some (.tmp y)) none:=by rfl) (ht:(match P.underlying ty with | some (.slice e)=>(P.info? e).map (·.size)==some 1 | _=>false)=true:=by kernel_rfl) (hd:o.dst.isSome=true:=by rfl):Does P o ρ w (fun v w'=>Ext w w'∧T (kept o v) w'):=by
 obtain⟨e,i,ht,hi,hk⟩:∃e i,P.underlying ty=some (.slice e)∧P.info? e=some i∧i.size=1:=by
  split at ht
  ·rename_i e he;cases hi:P.info? e with
   | none=>rw[hi]at ht; cases ht
   | some i=>rw[hi]at ht; exact⟨e,i,he,hi,by simpa using ht⟩
  cases ht
 have hrun:(execOp ρ o).run P w = .ok (.value (.slice (uo a l c 1) (h-l) (c-l))) w:=by
  unfold execOp;rw[ho];simp only[aAv,Option.map_none,hs,hx,hy,aAI];rw[YT ht hi hk (.inr ⟨_,rfl⟩) (.inr ⟨_,rfl⟩) (.inl ⟨rfl,rfl⟩) hlh hhc (azJ _)];rfl
 unfold Does;rw[hrun];exact⟨Ext.rfl',by obtain⟨d,hd⟩:=aAN.1 hd; unfold kept; rw[hd]; exact hT⟩
theorem SL{ρ:Operand→Value}{L:List (Nat×Value)}(hL:∀i v,L.lookup i=some v→ρ (.tmp i)=v):∀(K:List (Nat×Nat×Value)),(∀x∈K,ρ (.tmp x.2.1)=x.2.2)→∀i v,(K.map (·.2)++L).lookup i=some v→ρ (.tmp i)=v
 | [],_,i,v,h=>hL i v h
 | x::K,hK,i,v,h=>by
  rw[aAu,aA0,aAw]at h
  split at h
  ·rename_i hi
   obtain rfl:i=x.2.1:=by simpa using hi
   rw[←azR h]; exact hK x azV
  ·exact SL hL K (fun y hy=>hK y (aAT _ hy)) i v h
theorem akM{P:Program}{Q:Exit→Act→World→Prop}{w0 w:World}{a:Act}{os:List Oper}{n:Nat}{l:List (Nat×Value)}{bl:List (Nat×List Value)}{vs:List eX}(S:St w0 a w n l bl vs){id kb b:Nat}{A A':List Value}(m k:Nat)(hkb:bl[kb]?=some (b,A))(Ts:List Fact)(KV:List (Nat×Nat×Value))(hm:Go.wu.lJ k Ext (Ch b) 0 Ts)
  (hob:Go.wu.rW P os.toArray (os.take m) Ts (Go.wu.But k Ext (Ch b)) (Go.wu.KF k (Ch b w) fun u=>Bx u b A.toArray) a.eval 0 (os.take m) Ts)
  (next:∀a' w',Ch b w w'→St w0 a' w' n (KV.map (·.2)++l.filter fun p=>os.all fun o => !(o.dst==some p.1)) (bl.set kb (b,A')) vs→wpList P os.toArray Q [] a' w') (hV:∀x∈KV,Ts[x.1]?=some (Rel.is x.2.2)) (hK:Ts[k]?=some fun _ u=>Bx u b A'.toArray)
  (hj:(KV.all (fun x=>(os[x.1]?).bind (·.dst)==some x.2.1&&decide (x.1<m))&&os.length==m&&decide (k<m))=true:=by kernel_rfl) (hmo:P.follows .mixedOrders=true:=by kernel_rfl) (hB:okB os.toArray m n=true:=by kernel_rfl):(Code.region id os.toArray true).wp P Q a w:=by
 simp only[azY,azU,azW]at hj;obtain⟨⟨h1,rfl⟩,h3⟩:=hj;have hown:=S.own _ (List.mem_of_getElem? hkb);refine aBJ hmo (Ns os.length (by rw[S.s.size]; exact hB) (Go.wu.But k Ext (Ch b)) (Ch b w) [] k (fun u=>Bx u b A.toArray) Ts Fj (Ch.aZ (below_drewN (az5 _ _) 1)) (hown.1.ext (below_drewN (az5 _ _) 1))
  (fun i u u' h hR=>by
   unfold Go.wu.But at hR
   split at hR
   ·exact Ch.trans h hR
   ·exact Ch.trans h (Ch.aZ hR)) (fun i u u' hi h hR=>by rw[Go.wu.acr hi]at hR; exact Bx.ext h hR) (Go.wu.lJ.mem hm)
  (fun i o hi ho=>by have:=(Go.wu.lV _ _ 0 hob).2 i o (by rw[List.getElem?_take_of_lt hi]; exact ho); rwa [aAD]at this) fun a' w' hC hd hs hf hout _=>?_)
 have hfx:∀i,∀o,os[i]?=some o→Ts.getD i top (Rel.valOf a'.eval o.dst) w':=fun i o ho=>hf i o (by rw[aAA]; exact ho);have hf3:=hfx k _ (List.getElem?_eq_getElem h3);rw[show Ts.getD k top=fun _ u=>Bx u b A'.toArray by simp[List.getD,hK]]at hf3;rw[List.drop_length];refine next a' w' hC ((S.ch hC hkb hf3 (aBA S.E (hC.below hown.2 S.E.size))).act ⟨hs.trans S.s.size,hd.trans S.s.defers,SL (fun i v hi=>?_) KV fun x hx=>?_⟩)
 ·obtain⟨hq,hi⟩:=oU (q:=fun x=>os.all fun o => !(o.dst==some x)) hi;refine(mO (hout i fun j o hj ho e=>?_)).trans (S.s.has i v hi);have:=aAh.1 hq o (List.mem_of_getElem? (i:=j) (by simpa using ho));simp[e]at this
 have h4:=aAh.1 h1 x hx;simp only[azY,azU,azW]at h4;have h5:=hfx x.1 _ (List.getElem?_eq_getElem h4.2);rw[show Ts.getD x.1 top=Rel.is x.2.2 by simp[List.getD,hV x hx]]at h5;rw[List.getElem?_eq_getElem h4.2,aBB]at h4;rw[h4.1]at h5;exact h5
end Go.Sx
namespace Go.Proofs.YtodpgjjgaddkeaaGreatDoor
open Go.RowKit En
end Go.Proofs.YtodpgjjgaddkeaaGreatDoor
end
theorem azi:type_of% @Go.Sx.dv:=@Go.Sx.dv
