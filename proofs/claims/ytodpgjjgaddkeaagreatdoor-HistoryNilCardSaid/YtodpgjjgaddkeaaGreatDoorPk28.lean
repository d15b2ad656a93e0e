/- Plain laws of decoding rational numbers. Walks of binenc -/
import Derived.StillTailTactics
import Derived.Test.YtodpgjjgaddkeaaGreatDoorPk27
set_option linter.unusedVariables false
set_option linter.unusedSimpArgs false
section
namespace Nb
theorem aio(q:Nat):Na.B^q=256^(4*q):=by rw[Nat.pow_mul]; rfl
end Nb
namespace Go.Proofs.YtodpgjjgaddkeaaGreatDoor
open Go.RowKit En
variable{α:Type}
def Fj(neg:Bool)(a b:Nat):Bool := !(neg&&decide ((Na.au a).length=0))&&(decide (0<b)&&(Nat.gcd a b==1))
def Iz(l:List UInt8)(i:Int):(Bool×Nat×Nat)×Nat×Nat:=
 if i<0∨(l.length:Int)<i then ((false,0,0),0,2)
 else if l.length=i.toNat then ((false,0,0),0,4)
 else if 1<(l.getD i.toNat 0).toNat then ((false,0,0),0,3)
 else match sH 4096 (l.drop (i.toNat+1))with
  | .error e=>((false,0,0),0,e)
  | .ok (s1,k1)=>match sH 4096 (l.drop (i.toNat+1+k1))with
   | .error e=>((false,0,0),0,e)
   | .ok (s2,k2) =>
    if Fj ((l.getD i.toNat 0).toNat==1) (Nb.val s1) (Nb.val s2)&&(gJ ((l.getD i.toNat 0).toNat==1,Nb.val s1,Nb.val s2)==(l.take (i.toNat+1+k1+k2)).drop i.toNat)then
     (((l.getD i.toNat 0).toNat==1,Nb.val s1,Nb.val s2),i.toNat+1+k1+k2,0)
    else ((false,0,0),0,3)
theorem OT{l:List UInt8}{i:Int}(h:i<0∨(l.length:Int)<i):Iz l i=((false,0,0),0,2):=by unfold Iz; rw[azv h]
theorem OU{l:List UInt8}{p:Nat}(h:p=l.length):Iz l p=((false,0,0),0,4):=by
 unfold Iz; rw[azu (by omega),aA3,azv h.symm]
theorem IB{l:List UInt8}{p:Nat}{c:UInt8}(h:l[p]?=some c)(hc:1<c.toNat):Iz l p=((false,0,0),0,3):=by
 have hp:p<l.length:=(List.getElem?_eq_some_iff.1 h).1;unfold Iz; rw[azu (by omega),aA3,azu (by omega),show l.getD p 0=c by simp[List.getD,h],azv hc]
theorem WM{l:List UInt8}{p e:Nat}{c:UInt8}(h:l[p]?=some c)(hc:¬1<c.toNat)(h1:sH 4096 (l.drop (p+1)) = .error e):Iz l p=((false,0,0),0,e):=by
 have hp:p<l.length:=(List.getElem?_eq_some_iff.1 h).1;unfold Iz; rw[azu (by omega),aA3,azu (by omega),show l.getD p 0=c by simp[List.getD,h],azu hc,h1]
theorem WO{l s1:List UInt8}{p e k1:Nat}{c:UInt8}(h:l[p]?=some c)(hc:¬1<c.toNat)(h1:sH 4096 (l.drop (p+1)) = .ok (s1,k1))(h2:sH 4096 (l.drop (p+1+k1)) = .error e):Iz l p=((false,0,0),0,e):=by
 have hp:p<l.length:=(List.getElem?_eq_some_iff.1 h).1;unfold Iz; rw[azu (by omega),aA3,azu (by omega),show l.getD p 0=c by simp[List.getD,h],azu hc,h1]; simp only; rw[h2]
theorem OV{l s1 s2:List UInt8}{p k1 k2:Nat}{c:UInt8}(h:l[p]?=some c)(hc:¬1<c.toNat)(h1:sH 4096 (l.drop (p+1)) = .ok (s1,k1))(h2:sH 4096 (l.drop (p+1+k1)) = .ok (s2,k2)) :
  Iz l p=if Fj (c.toNat==1) (Nb.val s1) (Nb.val s2)&&(gJ (c.toNat==1,Nb.val s1,Nb.val s2)==(l.take (p+1+k1+k2)).drop p)then ((c.toNat==1,Nb.val s1,Nb.val s2),p+1+k1+k2,0)else ((false,0,0),0,3):=by
 have hp:p<l.length:=(List.getElem?_eq_some_iff.1 h).1;unfold Iz; rw[azu (by omega),aA3,azu (by omega),show l.getD p 0=c by simp[List.getD,h],azu hc,h1]; simp only; rw[h2]
theorem OW{most:Int}{l:List UInt8}{e:Nat}(hu:sH most l = .error e):((e:Int) != 0)=true:=by
 rw[bne_iff_ne];unfold sH at hu;cases h:lS 9 l with
 | error e'=>rw[h]at hu; simp only[aBg]at hu; rcases ER _ _ _ h with h | h<;>omega
 | ok r =>
  obtain⟨n,k⟩:=r;rw[h]at hu;simp only at hu;split at hu
  ·simp only[aBg]at hu; omega
  split at hu
  ·simp only[aBg]at hu; omega
  cases hu
theorem xK(s:List UInt8):(Na.au (Nb.val s)).length≤s.length:=by
 apply Na.bH;exact azY (Nb.dR s) (Nat.pow_le_pow_left (by decide) _)
theorem neg_pos(n1:Bool){a b:Nat}(hb:0<b):(n1&&decide (0<a/Nat.gcd a b))=lF n1 false a b:=by
 unfold lF pJ;rw[azu (show b≠0 by omega)];rcases aAf a with h | h
 ·subst h; simp
 rw[azu (show a≠0 by omega)];cases n1<;>simp
theorem OX{neg:Bool}{a b:Nat}(h:Fj neg a b=true):nrm neg false a b=(neg,a,b):=by
 unfold Fj at h;simp only[azM,azK,azI,aA6]at h;obtain⟨h1,h2,h3⟩:=h;unfold nrm;rw[azu (by omega),←neg_pos neg h2,h3,Nat.div_one,Nat.div_one];congr 1;cases neg
 ·rfl
 simp only[aAE,az7]at h1;rw[aAE,azK];rcases aAf a with h0 | h0
 ·subst h0; exact absurd (by rw[Na.jA]; rfl) h1
 exact h0
theorem aaM(base:Nat)(w:World):aA base w nR false 0 0:=⟨_,_,rfl,EX w,EX w,Qq _,Qq _⟩
def YE(w:World)(r:(Bool×Nat×Nat)×Nat×Nat)(e:Ending)(w':World):Prop:=
 ∃x,e = .returned (.tuple #[x,.i r.2.1,.i r.2.2])∧aA w.heap.size w' x r.1.1 r.1.2.1 r.1.2.2∧Ext w w'
theorem kU{w w':World}{er:Nat}(h:Ext w w'):YE w ((false,0,0),0,er) (.returned (.tuple #[nR,.i 0,.i er])) w':=⟨_,rfl,aaM _ _,h⟩
theorem YF{l s:List UInt8}{k:Nat}{most:Int}(h:sH most l = .ok (s,k)):k≤l.length∧1≤k∧(s.length:Int)≤most:=by
 obtain⟨_,h2,h3,h4⟩:=G9 h;exact⟨h2,h3,h4⟩
end Go.Proofs.YtodpgjjgaddkeaaGreatDoor
namespace Nb
theorem aaN{A:List UInt32}{V q r c:Nat}(hq:q<A.length)(hv:Na.val A=V)(hV:V<256^(4*q+r))(hr:r<4)(hc:c<256) :
  A[q].toNat<256^r∧A[q].toNat+c*256^r<4294967296∧Na.val (A.set q (UInt32.ofNat (A[q].toNat+c*256^r)))=V+256^(4*q+r)*c:=by
 have h1:=Na.mM A q;rw[Na.nI A q hq,hv,aio]at h1;have h2:A[q].toNat+Na.B*Na.val (A.drop (q+1))<256^r:=by
  have h3:256^(4*q)*(A[q].toNat+Na.B*Na.val (A.drop (q+1)))<256^(4*q)*256^r:=by rw[←aBo]; omega
  exact aCk h3
 have h4:A[q].toNat+c*256^r<4294967296:=by
  have h5:(c+1)*256^r≤256*256^r:=aAW _ hc;have h6:256*256^r≤256*256^3:=aAe _ (aAy (by omega) (by omega));rw[aAX]at h5;omega
 refine⟨by omega,h4,?_⟩;have h7:=Na.mM (A.set q (UInt32.ofNat (A[q].toNat+c*256^r))) q;rw[Na.nI _ q (by simpa using hq),List.take_set_of_le (by omega),aio,List.getElem_set_self,List.drop_set_of_lt (by omega)]at h7;have e:(UInt32.ofNat (A[q].toNat+c*256^r)).toNat=A[q].toNat+c*256^r:=by simp; omega
 rw[h7,e,h1,aBo,aAg,aAa c,azU,azU,azU];omega
end Nb
namespace Go.Proofs.YtodpgjjgaddkeaaGreatDoor
open Go.RowKit En
variable{α:Type}
theorem aaO{w w1:World}{x y:Value}{t:TypeId}(hb:Ext (w.alloc (.cells #[x,y] t)) w1) :
  w1.cell? ⟨w.heap.size,0,none⟩=some x∧w1.cell? ⟨w.heap.size,1,none⟩=some y∧(∀i,w1.frozen? ⟨w.heap.size,i,none⟩=false)∧w.heap.size<w1.heap.size:=by
 obtain⟨h1,h2,h3⟩:=iW hb;exact⟨by rw[h1]; rfl,by rw[h1]; rfl,h2,h3⟩
set_option maxRecDepth 100000 in
set_option maxHeartbeats 1600000 in
theorem aaP(neg:Bool)(v:Value)(s:List UInt8)(w:World)(hv:bJ w v s)(hl:s.length≤1000000) :
  Calls Tryz.prog 252 #[.bool neg,v] w fun e w'=>∃x,e = .returned x∧aO w.heap.size w' x (neg&&decide (0<Nb.val s)) (Nb.val s)∧Ext w w':=by
 have HV:=azt hv;obtain⟨a1,c1,rfl⟩:=hv.shape;obtain⟨N,hN⟩:∃N,N=(s.length+3)/4:=⟨_,rfl⟩;have hNI:((s.length:Int)+3)/4=(N:Int):=by omega
 have h63:N≤maxLen:=by unfold maxLen; omega
 have hby:4*N≤281474976710656:=by omega
 have HN:=azt hN;clear hv hN;go_enter Tryz.func252,Tryz.ntmps252
 go_wp2_with (at_make; refine wpList_make_row rfl _ _ _ rfl lK rfl (w.heap.size+1) N rfl rfl hNI hby h63 (by simp) ?_; intro w1 hown hg)
 have hb1:=gq (aF w _) hg (by simp);simp only[aB1]at hown;have hN2:Na.val (List.replicate N (0:UInt32))=0:=Na.KD N;have HO:=azt hown;have HB1:=azt hb1;have hs1:w.heap.size+1<w1.heap.size:=(hown.lt (w.heap.size+1) rfl).2;have HB2:=azt (gq (azS _ _) hg (azx _));clear hg hown hb1 hNI;go_wp2_with fail
 go_loopw [6,7,15] (fun _ _ iv wr=>∃(i:Nat) (M:List UInt32),iv = .i i∧i≤s.length∧M.length=N∧Na.val M=Nb.val (s.take i)∧wr.ownsRow (w.heap.size+1) 119 1 (.slice (some ⟨w.heap.size+1,0,none⟩) N N) N (M.map aW)∧Below (w.heap.size+1) (w.alloc (.cells #[.z,.sn] 24)) wr) (fun _ _ iv _=>s.length-(intOf iv).toNat)
 case atStart=>exact⟨0,List.replicate N 0,rfl,azB _,by simp,by rw[hN2]; rfl,by simpa[aW]using HO.out,by simpa using HB2.out⟩
 case round =>
  obtain⟨i,M,rfl,hi,hM,hval,hown,hbel⟩:=hrel;by_cases hlt:i<s.length
  ·obtain⟨q,r,hqr,hr4⟩:∃q r,i=4*q+r∧r<4:=⟨i/4,i%4,by omega,by omega⟩;have hq:(i:Int)/4=(q:Int):=by omega
   have hqN:q<N:=by rw[HN.out]; omega
   obtain⟨bx,ox,cx,hxs,hbx,hlx,hmx,hcx⟩:=dM HV.out rfl (by omega);simp only[az4]at hxs;obtain⟨rfl,-,-⟩:=hxs;have hlb:=Nb.dR (s.take i);rw[aAZ,aA8 hi]at hlb;have hsucc:=Nb.dn s i hlt;have hcell:=hcx i hlt;generalize s[i]=c at *;have hcl:=c.toNat_lt;have hqM:q<M.length:=by rw[hM]; exact hqN
   obtain⟨f0,f1,f2⟩:=Nb.aaN (c:=c.toNat) hqM hval (by rw[←hqr]; exact hlb) hr4 hcl;have hcB:wr.cell? ⟨bx,ox+i,none⟩=some (gK c):=by
    rw[hbel.cell (p:=⟨bx,ox+i,none⟩) (by simp only; omega)];rw[(aF w _).cell (p:=⟨bx,ox+i,none⟩) hbx]; exact hcell
   have hcA:=hown.cellAt q (by omega);have hfz:=hown.frozenAt q;rw[List.getElem?_map,List.getElem?_eq_getElem hqM,aAj]at hcA;have hst:=(hown.stored q (aW (UInt32.ofNat (M[q].toNat+c.toNat*256^r)))).1;rw[←aBb]at hst;have HST:=azt hst;have HF2:=azt f2;obtain⟨d,hd⟩:∃d,M[q]=d:=⟨_,rfl⟩;rw[hd]at hcA f0 f1 HST HF2;have hdl:=d.toNat_lt;have HM:=azt hM;have HS:=azt hsucc;have HV2:=azt hval;have HQR:=azt hqr;have HF0:=azt f0;have k1:IntKind.i64.wrap (q:Int)=(q:Int):=IntWalk.i64_in _ (by unfold maxLen at h63; omega);have k2:IntKind.u32.wrap (c.toNat:Int)=(c.toNat:Int):=by rw[IntKind.wrap_u32]; omega
   have k4:(q:Int)<(N:Int):=by omega
   have k5:(i:Int)<(s.length:Int):=by omega
   have k6:(i:Int).tmod 4=(r:Int):=by
    rw[Int.tmod_eq_emod_of_nonneg (by omega)]; omega
   have k7:IntKind.i64.wrap (8*(r:Int))=8*(r:Int):=IntWalk.i64_in _ (by omega);have k8:¬8*(r:Int)<0:=by omega
   have k9:(0:Int)≤8*(r:Int):=by omega
   have k10:(0:Int)≤(r:Int):=by omega
   clear hd hcx hsucc hM hval f2 hst hqr f0 hown hN2;go_wp2_with fail
   go_still_tail 13,(by kernel_rfl)
   go_wp2_with fail
   have hX:bits .or .u32 (d.toNat:Int) ((c.toNat:Int)*2^(8*r)%4294967296)=((UInt32.ofNat (d.toNat+c.toNat*256^r)).toNat:Int):=by
    have h2:(2:Nat)^(8*r)=256^r:=by rw[Nat.pow_mul]
    have h4:(2:Int)^(8*r)=((256^r:Nat):Int):=by rw[←h2]; simp
    have h3:(c.toNat:Int)*2^(8*r)%4294967296=((c.toNat*256^r:Nat):Int):=by
     rw[h4,←Int.natCast_mul]; omega
    rw[h3,u32_or_nat _ _ d.toNat_lt (by omega),Nat.or_comm,nat_join (8*r) _ _ (by rw[h2]; simp) (by rw[h2]; exact HF0.out),bV f1,aBj]
   rw[hX];refine⟨⟨i+1,M.set q (UInt32.ofNat (d.toNat+c.toNat*256^r)),by go_num,by omega,?_,?_,dK HST.out ((azS _ _).drew),(hbel.setCell (p:=⟨w.heap.size+1,q,none⟩) (azx _) _).drew⟩,by simp[intOf]; omega⟩
   ·rw[List.length_set]; exact HM.out
   rw[HF2.out,HS.out,HQR.out]; rfl
  obtain rfl:i=s.length:=by omega
  rw[aAn]at hval;have hrow:=oK hM hown;have hext:Ext (w.alloc (.cells #[.z,.sn] 24)) wr:=by
   have:=hbel;rw[←aB1 w (.cells #[.z,.sn] 24)]at this;exact this
  have hNew:=lV neg _ M wr hrow (by rw[hM,HN.out]; omega);rw[hval]at hNew;have am9:=azt hNew;have HE:=azt hext;have hge:¬(s.length:Int)<(s.length:Int):=by omega
  clear hval hrow hM hown hNew hext;go_wp2_with fail
  refine am9.out.mono ?_;rintro e w2 ⟨x,rfl,⟨t,rfl,ht,ft⟩,hb2⟩;obtain⟨b1,d1,rfl⟩:=ht.shape;obtain⟨e0,e1,f0,hz⟩:=aaO (Ext.trans' HE.out hb2);have hlt1:w.heap.size<wr.heap.size:=by have:=HE.out.size; simp at this; omega
  obtain⟨nb,hnb⟩:∃nb,(neg&&decide (0<Nb.val s))=nb:=⟨_,rfl⟩;rw[hnb];have HNB:=azt hnb;have HT:=azt (And.intro ht ft);have HE2:=azt (Ext.trans' (Ext.trans' (aF w _) HE.out) hb2);clear ht ft hb2 hnb am9;go_wp2_with fail
  refine bodyPost_ret (v := .agg #[.bool nb,.slice b1 (Na.au (Nb.val s)).length d1]) (by simp[results,Tryz.results252,go_sem,e0,e1]) rfl ⟨_,rfl,⟨_,by rw[HNB.out],?_,?_⟩,?_⟩
  ·exact HT.out.1.ch (((Ch.refl _ _).setCell _ _).setCell _ _) (fun _=>HT.out.2.off hlt1)
  ·exact HT.out.2.mono (by omega)
  exact(HE2.out.setCell (p:=⟨w.heap.size,0,none⟩) (azx _) _).setCell (p:=⟨w.heap.size,1,none⟩) (azx _) _
end Go.Proofs.YtodpgjjgaddkeaaGreatDoor
end
namespace Go.Proofs.YtodpgjjgaddkeaaGreatDoor
section
open Go.RowKit En
variable{α:Type}
theorem aef{most:Int}{l:List UInt8}{e:Nat}(h:sH most l = .error e):e≠0:=by
 unfold sH at h;cases hu:lS 9 l with
 | error e'=>rw[hu]at h; simp only[aBg]at h; exact h▸ajK hu
 | ok r =>
  rw[hu]at h;simp only at h;split at h
  ·simp only[aBg]at h; omega
  split at h<;>simp only[aBg,reduceCtorEq]at h; omega
theorem IC{l:List UInt8}{i:Int}{r:Bool×Nat×Nat}{q:Nat}(h:Iz l i=(r,q,0)) :
  ∃(p:Nat) (c:UInt8) (s1 s2:List UInt8) (k1 k2:Nat),i=p∧l[p]?=some c∧¬1<c.toNat∧sH 4096 (l.drop (p+1)) = .ok (s1,k1)∧sH 4096 (l.drop (p+1+k1)) = .ok (s2,k2) ∧
   q=p+1+k1+k2∧r=(c.toNat==1,Nb.val s1,Nb.val s2)∧Fj r.1 r.2.1 r.2.2=true∧gJ r=(l.take q).drop p:=by
 by_cases hbad:i<0∨(l.length:Int)<i
 ·rw[OT hbad]at h; simp at h
 obtain⟨p,rfl⟩:∃p:Nat,i=p:=⟨i.toNat,by omega⟩;by_cases hpe:p=l.length
 ·rw[OU hpe]at h; simp at h
 have hp:p<l.length:=by omega
 obtain⟨c,hc⟩:∃c,l[p]?=some c:=⟨l[p],List.getElem?_eq_getElem hp⟩;by_cases hs:1<c.toNat
 ·rw[IB hc hs]at h; simp at h
 cases hb1:sH 4096 (l.drop (p+1))with
 | error e=>rw[WM hc hs hb1]at h; simp only[azA]at h; exact absurd h.2.2 (aef hb1)
 | ok r1 =>
  obtain⟨s1,k1⟩:=r1;cases hb2:sH 4096 (l.drop (p+1+k1))with
  | error e=>rw[WO hc hs hb1 hb2]at h; simp only[azA]at h; exact absurd h.2.2 (aef hb2)
  | ok r2 =>
   obtain⟨s2,k2⟩:=r2;rw[OV hc hs hb1 hb2]at h;split at h
   ·rename_i hcond;simp only[azA,and_true]at h;obtain⟨rfl,rfl⟩:=h;simp only[azM,azI]at hcond;exact⟨p,c,s1,s2,k1,k2,rfl,hc,hs,hb1,hb2,rfl,rfl,hcond.1,hcond.2⟩
   simp at h
theorem Ls{l:List UInt8}{i:Int}{r:Bool×Nat×Nat}{q:Nat}(h:Iz l i=(r,q,0)):∃p:Nat,i=p∧p<q∧q≤l.length∧Fj r.1 r.2.1 r.2.2=true∧gJ r=(l.take q).drop p:=by
 obtain⟨p,c,s1,s2,k1,k2,h1,h2,h3,h4,h5,h6,h7,h8,h9⟩:=IC h;have:=(G9 h5).2.1;have:=(G9 h5).2.2.1;rw[aBt]at *;exact⟨p,h1,by omega,by omega,h8,h9⟩
theorem aeg{l:List UInt8}{i:Int}{r:Bool×Nat×Nat}{q e:Nat}(h:Iz l i=(r,q,e))(he:e≠0):q=0∧r=(false,0,0):=by
 by_cases hbad:i<0∨(l.length:Int)<i
 ·rw[OT hbad]at h; simp only[azA]at h; exact⟨h.2.1.symm,h.1.symm⟩
 obtain⟨p,rfl⟩:∃p:Nat,i=p:=⟨i.toNat,by omega⟩;by_cases hpe:p=l.length
 ·rw[OU hpe]at h; simp only[azA]at h; exact⟨h.2.1.symm,h.1.symm⟩
 have hp:p<l.length:=by omega
 obtain⟨c,hc⟩:∃c,l[p]?=some c:=⟨l[p],List.getElem?_eq_getElem hp⟩;by_cases hs:1<c.toNat
 ·rw[IB hc hs]at h; simp only[azA]at h; exact⟨h.2.1.symm,h.1.symm⟩
 cases hb1:sH 4096 (l.drop (p+1))with
 | error e=>rw[WM hc hs hb1]at h; simp only[azA]at h; exact⟨h.2.1.symm,h.1.symm⟩
 | ok r1 =>
  obtain⟨s1,k1⟩:=r1;cases hb2:sH 4096 (l.drop (p+1+k1))with
  | error e=>rw[WO hc hs hb1 hb2]at h; simp only[azA]at h; exact⟨h.2.1.symm,h.1.symm⟩
  | ok r2 =>
   obtain⟨s2,k2⟩:=r2;rw[OV hc hs hb1 hb2]at h;split at h
   ·simp only[azA]at h; exact absurd h.2.2.symm he
   simp only[azA]at h; exact⟨h.2.1.symm,h.1.symm⟩
theorem aeh{l:List UInt8}{i:Int}{r:Bool×Nat×Nat}{q e:Nat}(h:Iz l i=(r,q,e)):(Na.au r.2.1).length≤4096∧(Na.au r.2.2).length≤4096:=by
 by_cases he:e=0
 ·subst he;obtain⟨p,c,s1,s2,k1,k2,h1,h2,h3,h4,h5,h6,rfl,h8,h9⟩:=IC h;have a1:=(G9 h4).2.2.2;have a2:=(G9 h5).2.2.2;have b1:=xK s1;have b2:=xK s2;exact⟨by simp only; omega,by simp only; omega⟩
 obtain⟨-,rfl⟩:=aeg h he;simp[Na.jA]
theorem aku(n1 n2:Bool)(a b:Nat):Fj (nrm n1 n2 a b).1 (nrm n1 n2 a b).2.1 (nrm n1 n2 a b).2.2=true:=by
 unfold nrm;split
 ·simp[Fj,Na.jA]
 rename_i hb;have hg:0<Nat.gcd a b:=aCb a (by omega);have hb':0<b/Nat.gcd a b:=Nat.div_pos (Nat.le_of_dvd (by omega) (aBQ a b)) hg;have hc:Nat.gcd (a/Nat.gcd a b) (b/Nat.gcd a b)=1:=Nat.coprime_div_gcd_div_gcd hg;unfold Fj;simp only[azM,azK,azI,aA6,Bool.and_eq_false_iff];refine⟨?_,hb',hc⟩;by_cases h:(Na.au (a/Nat.gcd a b)).length=0
 ·left;have h0:=og h;have ha:a=0:=by
   have h1:=Nat.div_mul_cancel (Nat.gcd_dvd_left a b);rw[h0]at h1; omega
  subst ha;unfold lF;simp
 right; simp[h]
theorem YG(A R:List UInt8)(x:Nat)(hx:x<18446744073709551616):xk (A++(dV 10 x++R)) A.length=(x,A.length+(dV 10 x).length,0):=by
 have hd:(A++(dV 10 x++R)).drop A.length=dV 10 x++R:=by simp
 have hu:=oC x R hx;unfold xk;rw[azu (by simp; omega),aA3,hd,hu]
theorem YH(A R s:List UInt8)(most:Int)(hs:s.length<18446744073709551616)(h:(s.length:Int)≤most):Yc (A++(fQ s++R)) A.length most=(s,A.length+(fQ s).length,0):=by
 have hd:(A++(fQ s++R)).drop A.length=fQ s++R:=by simp
 have hu:=He s R most h hs;unfold Yc;rw[azu (by simp; omega),aA3,hd,hu]
theorem agZ(A R:List UInt8)(r:Bool×Nat×Nat)(hr:Fj r.1 r.2.1 r.2.2=true)(ha:(Nb.au r.2.1).length≤4096)(hb:(Nb.au r.2.2).length≤4096) :
  Iz (A++(gJ r++R)) A.length=(r,A.length+(gJ r).length,0):=by
 obtain⟨n,a,b⟩:=r;simp only at hr ha hb;obtain⟨c,hc⟩:∃c:UInt8,(if n then 1 else 0)=c:=⟨_,rfl⟩;have hq:gJ (n,a,b)=c::(fQ (Nb.au a)++fQ (Nb.au b)):=by unfold gJ; rw[←hc]
 have hcn:(c.toNat==1)=n:=by rw[←hc]; cases n<;>rfl
 have hc1:¬1<c.toNat:=by rw[←hc]; cases n<;>decide
 have hg:(A++(gJ (n,a,b)++R))[A.length]?=some c:=by rw[hq]; simp
 have e1:(A++(gJ (n,a,b)++R)).drop (A.length+1)=fQ (Nb.au a)++(fQ (Nb.au b)++R):=by
  rw[←aBY,List.drop_left,hq]; simp
 have h1:=He (Nb.au a) (fQ (Nb.au b)++R) 4096 (by omega) (by omega);rw[←e1]at h1;have e2:(A++(gJ (n,a,b)++R)).drop (A.length+1+(fQ (Nb.au a)).length)=fQ (Nb.au b)++R:=by
  rw[←aBY,e1,List.drop_left]
 have h2:=He (Nb.au b) R 4096 (by omega) (by omega);rw[←e2]at h2;have hlen:A.length+1+(fQ (Nb.au a)).length+(fQ (Nb.au b)).length=A.length+(gJ (n,a,b)).length:=by rw[hq]; simp; omega
 rw[OV hg hc1 h1 h2,hcn,Nb.aB,Nb.aB,hlen,hr,azv];rw[aAE,azI];rw[List.take_append,aAh (by omega),aCd,List.take_left,List.drop_left]
theorem IE(s:List UInt8):(fQ s).length≤10+s.length:=by
 have:=iE 10 s.length;unfold fQ; rw[azz]; omega
end
section
open En
variable{α β:Type}{K:Nat}
abbrev Q3:=Bool×Nat×Nat
def PZ(q:Q3):Prop:=dZ q≤256∧Fj q.1 q.2.1 q.2.2=true
theorem YI{l r:List UInt8}{p:Nat}{q:Q3}(hq:PZ q)(h:l.drop p=gJ q++r):Iz l (p:Int)=(q,p+(gJ q).length,0):=by
 have hp:p<l.length:=OL h (by unfold gJ; simp);have h1:=hq.1;unfold dZ at h1;have a1:=Nb.bH (D8 (n:=q.2.1) (by omega));have a2:=Nb.bH (D8 (n:=q.2.2) (by omega));have:=agZ (l.take p) r q hq.2 (by omega) (by omega);rw[←h,aBr,aAZ,aA8 (aBp hp)]at this;exact this
theorem Dj{q:Q3}(h:KF q)(hb:dZ q≤256):PZ q:=⟨hb,by
 have:=aku q.1 false q.2.1 q.2.2;rw[show nrm q.1 false q.2.1 q.2.2=q from h]at this;exact this⟩
def SB(q:Q6):Prop:=PZ q.a∧PZ q.b∧PZ q.c∧PZ q.d∧PZ q.e∧PZ q.f
theorem ag0{q:Q6}(h:Am q)(hv:q.valid=true):SB q:=by
 unfold Q6.valid at hv;simp only[azM,azK]at hv;obtain⟨h1,h2,h3,h4,h5,h6⟩:=h;obtain⟨v1,v2,v3,v4,v5,v6⟩:=hv;exact⟨Dj h1 v1,Dj h2 v2,Dj h3 v3,Dj h4 v4,Dj h5 v5,Dj h6 v6⟩
theorem aaQ(q:Q6):rX q=gJ q.a++(gJ q.b++(gJ q.c++(gJ q.d++(gJ q.e++gJ q.f)))):=by simp[rX]
theorem ag1{l:List UInt8}{p p1 p2 p3 p4 p5 p6:Nat}{bad b1 b2 b3 b4 b5 b6:Bool}{a b c d e f:Q3}(h1:Got gJ PZ l p bad p1 b1 a)(h2:Got gJ PZ l p1 b1 p2 b2 b)(h3:Got gJ PZ l p2 b2 p3 b3 c)(h4:Got gJ PZ l p3 b3 p4 b4 d)(h5:Got gJ PZ l p4 b4 p5 b5 e)(h6:Got gJ PZ l p5 b5 p6 b6 f) :
  Got rX SB l p bad p6 b6 ⟨a,b,c,d,e,f⟩:=fun q r hq hb hh=>by
 rw[aaQ]at hh;simp only[azO]at hh;obtain⟨e1,k,hh⟩:=h1 _ _ hq.1 hb hh;obtain⟨e2,k,hh⟩:=h2 _ _ hq.2.1 k hh;obtain⟨e3,k,hh⟩:=h3 _ _ hq.2.2.1 k hh;obtain⟨e4,k,hh⟩:=h4 _ _ hq.2.2.2.1 k hh;obtain⟨e5,k,hh⟩:=h5 _ _ hq.2.2.2.2.1 k hh;obtain⟨e6,k,hh⟩:=h6 _ _ hq.2.2.2.2.2 k hh;exact⟨by rw[e1,e2,e3,e4,e5,e6],k,hh⟩
theorem Dk(pk:Bool)(m:nY):rW false m=iB m.w++(iB m.h++m.l.flatMap Px.pb):=by
 unfold rW; simp only[lu,azO,aBP,if_false]; rfl
structure nY.Ok (m:nY):Prop extends nY.Good m where
 sides:0≤m.w∧m.w≤4096∧0≤m.h∧m.h≤4096
structure jd.Ok (p:jd):Prop where
 kind:I64 p.kind
 p0:p.p0.ok
 p1:p.p1.ok
 bQ:I64 p.bQ
 stops:p.stops.length≤16∧∀s∈p.stops,s.ok
 spread:I64 p.spread
 img:p.img.Ok
 cZ:I64 p.cZ
 q:SB p.q
theorem Ea(pk:Bool)(p:jd):fC pk p=iB p.kind++(Px.pb p.color++(WJ p.p0++(WJ p.p1++(iB p.bQ++(iy jg p.stops++(iB p.spread++(rW pk p.img++(iB p.cZ++rX p.q)))))))):=by
 unfold fC WJ; simp only[lu,azO]; rfl
theorem aaR{l:List UInt8}{p p1 p2 p3 p4 p5 p6 p7 p8 p9 p10:Nat}{bad b1 b2 b3 b4 b5 b6 b7 b8 b9 b10:Bool}{pk:Bool}{kd rd sp sm:Int}{c:bG}{x y:jS}{st:List dG}{m:nY}{q:Q6}(h1:Got iB I64 l p bad p1 b1 kd)(h2:Got Px.pb (fun _=>True) l p1 b1 p2 b2 c)(h3:Got WJ jS.ok l p2 b2 p3 b3 x)(h4:Got WJ jS.ok l p3 b3 p4 b4 y)(h5:Got iB I64 l p4 b4 p5 b5 rd)
  (h6:Got (iy jg) (fun ys=>ys.length<18446744073709551616∧∀y∈ys,dG.ok y) l p5 b5 p6 b6 st) (h7:Got iB I64 l p6 b6 p7 b7 sp) (h8:Got (rW pk) nY.Ok l p7 b7 p8 b8 m) (h9:Got iB I64 l p8 b8 p9 b9 sm) (h10:Got rX SB l p9 b9 p10 b10 q) :
  Got (fC pk) jd.Ok l p bad p10 b10 ⟨kd,c,x,y,rd,st,sp,m,sm,q⟩:=fun a r ha hb hh=>by
 rw[Ea]at hh;simp only[azO]at hh;obtain⟨e1,k,hh⟩:=h1 _ _ ha.kind hb hh;obtain⟨e2,k,hh⟩:=h2 _ _ trivial k hh;obtain⟨e3,k,hh⟩:=h3 _ _ ha.p0 k hh;obtain⟨e4,k,hh⟩:=h4 _ _ ha.p1 k hh;obtain⟨e5,k,hh⟩:=h5 _ _ ha.bQ k hh;obtain⟨e6,k,hh⟩:=h6 _ _ ⟨by have:=ha.stops.1; omega,ha.stops.2⟩ k hh;obtain⟨e7,k,hh⟩:=h7 _ _ ha.spread k hh;obtain⟨e8,k,hh⟩:=h8 _ _ ha.img k hh;obtain⟨e9,k,hh⟩:=h9 _ _ ha.cZ k hh;obtain⟨e10,k,hh⟩:=h10 _ _ ha.q k hh;exact⟨by rw[e1,e2,e3,e4,e5,e6,e7,e8,e9,e10],k,hh⟩
theorem uQ(pk:Bool)(p:jd):0<(fC pk p).length:=by rw[Ea,azz]; have:=Ip p.kind; omega
theorem aaS(p:ku):BF p=iB p.width++(iB p.join++(iB p.cap++(iB p.eX++(iB p.phase++iy iB p.dash)))):=by
 unfold BF; simp only[lu,azO]; rfl
theorem ag2{l:List UInt8}{p p1 p2 p3 p4 p5 p6:Nat}{bad b1 b2 b3 b4 b5 b6:Bool}{a b c d e:Int}{ds:List Int}(h1:Got iB I64 l p bad p1 b1 a)(h2:Got iB I64 l p1 b1 p2 b2 b)(h3:Got iB I64 l p2 b2 p3 b3 c)(h4:Got iB I64 l p3 b3 p4 b4 d)(h5:Got iB I64 l p4 b4 p5 b5 e)(h6:Got (iy iB) (fun ys=>ys.length<18446744073709551616∧∀y∈ys,I64 y) l p5 b5 p6 b6 ds) :
  Got BF ku.Good l p bad p6 b6 ⟨a,b,c,d,ds,e⟩:=fun y r hy hb hh=>by
 rw[aaS]at hh;simp only[azO]at hh;obtain⟨i1,i2,i3,i4,i5⟩:=hy.i;obtain⟨e1,k,hh⟩:=h1 _ _ i1 hb hh;obtain⟨e2,k,hh⟩:=h2 _ _ i2 k hh;obtain⟨e3,k,hh⟩:=h3 _ _ i3 k hh;obtain⟨e4,k,hh⟩:=h4 _ _ i4 k hh;obtain⟨e5,k,hh⟩:=h5 _ _ i5 k hh;obtain⟨e6,k,hh⟩:=h6 _ _ ⟨by have:=hy.dash.1; omega,hy.dash.2⟩ k hh;exact⟨by rw[e1,e2,e3,e4,e5,e6],k,hh⟩
structure aQ.Ok (n:aQ):Prop where
 i:I64 n.id∧I64 n.kind∧I64 n.depth∧I64 n.aP∧I64 n.blend∧I64 n.aT∧I64 n.cZ
 q:SB n.q
 clip:n.clip.length≤256∧∀s∈n.clip,s.ok
 path:n.kind=2→n.path.length≤256∧∀s∈n.path,s.ok
 fill:n.kind=2→n.fill.length≤1∧∀p∈n.fill,p.Ok
 stroke:n.kind=2→n.stroke.length≤1∧∀p∈n.stroke,p.Ok
 style:n.kind=2→0<n.stroke.length→n.style.Good
 img:n.kind=3→n.img.Ok
 canon:n.canon=n
theorem IG(pk:Bool)(n:aQ):eG pk n=iB n.id++(iB n.kind++(iB n.depth++(rX n.q++(iy kJ n.clip++(iB n.aP++nC pk n))))):=by
 unfold eG; simp only[lu,azO]; rfl
def Com(pk:Bool)(l:List UInt8)(p:Nat)(bad:Bool)(p':Nat)(b':Bool)(id kd dp:Int)(q:Q6)(cl:List dL)(cr:Int):Prop:=
 ∀y r,aQ.Ok y→bad=false→l.drop p=eG pk y++r→id=y.id∧kd=y.kind∧dp=y.depth∧q=y.q∧cl=y.clip∧cr=y.aP∧b'=false∧l.drop p'=nC pk y++r
theorem ag3{pk:Bool}{l:List UInt8}{p p1 p2 p3 p4 p5 p6:Nat}{bad b1 b2 b3 b4 b5 b6:Bool}{id kd dp cr:Int}{q:Q6}{cl:List dL}(h1:Got iB I64 l p bad p1 b1 id)(h2:Got iB I64 l p1 b1 p2 b2 kd)(h3:Got iB I64 l p2 b2 p3 b3 dp)(h4:Got rX SB l p3 b3 p4 b4 q)
  (h5:Got (iy kJ) (fun ys=>ys.length<18446744073709551616∧∀y∈ys,dL.ok y) l p4 b4 p5 b5 cl) (h6:Got iB I64 l p5 b5 p6 b6 cr):Com pk l p bad p6 b6 id kd dp q cl cr:=fun y r hy hb hh=>by
 rw[IG]at hh;simp only[azO]at hh;obtain⟨i1,i2,i3,i4,-⟩:=hy.i;obtain⟨e1,k,hh⟩:=h1 _ _ i1 hb hh;obtain⟨e2,k,hh⟩:=h2 _ _ i2 k hh;obtain⟨e3,k,hh⟩:=h3 _ _ i3 k hh;obtain⟨e4,k,hh⟩:=h4 _ _ hy.q k hh;obtain⟨e5,k,hh⟩:=h5 _ _ ⟨by have:=hy.clip.1; omega,hy.clip.2⟩ k hh;obtain⟨e6,k,hh⟩:=h6 _ _ i4 k hh;exact⟨e1,e2,e3,e4,e5,e6,k,hh⟩
abbrev ana (c:UInt8):List UInt8:=[c]
abbrev aei (l:List UInt8)(p:Nat)(bad:Bool)(p':Nat)(b':Bool)(c:UInt8):Prop:=Got ana (fun _=>True) l p bad p' b' c
theorem aej{l:List UInt8}{p:Nat}{bad:Bool}{c:UInt8}(hc:Wp l p bad 1=[c]):aei l p bad (Yn l p bad 1) (EL l p bad 1) c:=fun y r _ hb e=>by
 obtain⟨h1,h2,h3⟩:=SA (n:=1) (B:=[y]) rfl (by decide) hb e;rw[hc]at h1;exact⟨by simpa using h1,h2,h3⟩
theorem YJ(b:Bool):(oZ b==1)=b:=by cases b<;>rfl
theorem aaT{pk:Bool}{l:List UInt8}{p p6 p7 p8 p9 p10:Nat}{bad b6 b7 b8 b9 b10:Bool}{id kd dp cr bd:Int}{q:Q6}{cl:List dL}{op c1 c2:UInt8}(hC:Com pk l p bad p6 b6 id kd dp q cl cr)(hk:kd=1)(h7:aei l p6 b6 p7 b7 op)(h8:Got iB I64 l p7 b7 p8 b8 bd)(h9:aei l p8 b8 p9 b9 c1)(h10:aei l p9 b9 p10 b10 c2) :
  Got (eG pk) aQ.Ok l p bad p10 b10 ⟨id,kd,dp,q,cl,cr,op,bd,c1==1,c2==1,[],0,[],.zero,[],.zero,0⟩:=fun y r hy hb hh=>by
 obtain⟨e1,e2,e3,e4,e5,e6,k,hh⟩:=hC y r hy hb hh;have hyk:y.kind=1:=e2▸hk;unfold nC at hh;rw[azv hyk]at hh;simp only[azO,tC]at hh;obtain⟨f1,k,hh⟩:=h7 y.dQ _ trivial k hh;obtain⟨f2,k,hh⟩:=h8 _ _ hy.i.2.2.2.2.1 k hh;obtain⟨f3,k,hh⟩:=h9 (oZ y.isolated) ([oZ y.dD]++r) trivial k hh;obtain⟨f4,k,hh⟩:=h10 _ _ trivial k hh;refine⟨?_,k,hh⟩;rw[←hy.canon];unfold aQ.canon;rw[azv hyk,e1,e2,e3,e4,e5,e6,f1,f2,f3,f4,YJ,YJ]
theorem Lu{pk:Bool}{l:List UInt8}{p p6 p7 p8 p9 p10 p11:Nat}{bad b6 b7 b8 b9 b10 b11:Bool}{id kd dp cr fr:Int}{q:Q6}{cl pa:List dL}{fi st:List jd}{sy:ku}(hC:Com pk l p bad p6 b6 id kd dp q cl cr)(hk:kd=2)(h7:Got (iy kJ) (fun ys=>ys.length<18446744073709551616∧∀y∈ys,dL.ok y) l p6 b6 p7 b7 pa)(h8:Got iB I64 l p7 b7 p8 b8 fr)
  (h9:Got (iy (fC pk)) (fun ys=>ys.length<18446744073709551616∧∀y∈ys,jd.Ok y) l p8 b8 p9 b9 fi) (h10:Got (iy (fC pk)) (fun ys=>ys.length<18446744073709551616∧∀y∈ys,jd.Ok y) l p9 b9 p10 b10 st)
  (h11:(0<st.length∧Got BF ku.Good l p10 b10 p11 b11 sy)∨(¬0<st.length∧p11=p10∧b11=b10∧sy = .zero)) :
  Got (eG pk) aQ.Ok l p bad p11 b11 ⟨id,kd,dp,q,cl,cr,0,0,false,false,pa,fr,fi,sy,st,.zero,0⟩:=fun y r hy hb hh=>by
 obtain⟨e1,e2,e3,e4,e5,e6,k,hh⟩:=hC y r hy hb hh;have hyk:y.kind=2:=e2▸hk;unfold nC at hh;rw[azu (by omega),azv hyk]at hh;simp only[azO,tC]at hh;obtain⟨f1,k,hh⟩:=h7 _ _ ⟨by have:=(hy.path hyk).1; omega,(hy.path hyk).2⟩ k hh;obtain⟨f2,k,hh⟩:=h8 _ _ hy.i.2.2.2.2.2.1 k hh;obtain⟨f3,k,hh⟩:=h9 _ _ ⟨by have:=(hy.fill hyk).1; omega,(hy.fill hyk).2⟩ k hh;obtain⟨f4,k,hh⟩:=h10 _ _ ⟨by have:=(hy.stroke hyk).1; omega,(hy.stroke hyk).2⟩ k hh;have fin:sy=(if 0<y.stroke.length then y.style else .zero)∧b11=false∧l.drop p11=r:=by
  rcases h11 with ⟨hs,h11⟩ | ⟨hs,rfl,rfl,rfl⟩
  ·rw[f4]at hs;rw[azv hs]at hh ⊢;exact h11 _ _ (hy.style hyk hs) k hh
  rw[f4]at hs;rw[azu hs]at hh ⊢;exact⟨rfl,k,by simpa using hh⟩
 refine⟨?_,fin.2⟩;rw[←hy.canon];unfold aQ.canon;rw[azu (by omega),azv hyk,e1,e2,e3,e4,e5,e6,f1,f2,f3,f4,fin.1]
theorem aaU{pk:Bool}{l:List UInt8}{p p6 p7 p8:Nat}{bad b6 b7 b8:Bool}{id kd dp cr sm:Int}{q:Q6}{cl:List dL}{m:nY}(hC:Com pk l p bad p6 b6 id kd dp q cl cr)(hk:kd=3)(h7:Got (rW pk) nY.Ok l p6 b6 p7 b7 m)(h8:Got iB I64 l p7 b7 p8 b8 sm) :
  Got (eG pk) aQ.Ok l p bad p8 b8 ⟨id,kd,dp,q,cl,cr,0,0,false,false,[],0,[],.zero,[],m,sm⟩:=fun y r hy hb hh=>by
 obtain⟨e1,e2,e3,e4,e5,e6,k,hh⟩:=hC y r hy hb hh;have hyk:y.kind=3:=e2▸hk;unfold nC at hh;rw[azu (by omega),azu (by omega),azv hyk]at hh;simp only[azO,tC]at hh;obtain⟨f1,k,hh⟩:=h7 _ _ (hy.img hyk) k hh;obtain⟨f2,k,hh⟩:=h8 _ _ hy.i.2.2.2.2.2.2 k hh;refine⟨?_,k,hh⟩;rw[←hy.canon];unfold aQ.canon;rw[azu (by omega),azu (by omega),azv hyk,e1,e2,e3,e4,e5,e6,f1,f2]
theorem aaV{pk:Bool}{l:List UInt8}{p p6:Nat}{bad b6:Bool}{id kd dp cr:Int}{q:Q6}{cl:List dL}(hC:Com pk l p bad p6 b6 id kd dp q cl cr)(h1:kd≠1)(h2:kd≠2)(h3:kd≠3) :
  Got (eG pk) aQ.Ok l p bad p6 b6 ⟨id,kd,dp,q,cl,cr,0,0,false,false,[],0,[],.zero,[],.zero,0⟩:=fun y r hy hb hh=>by
 obtain⟨e1,e2,e3,e4,e5,e6,k,hh⟩:=hC y r hy hb hh;subst e2;unfold nC at hh;rw[azu h1,azu h2,azu h3]at hh;refine⟨?_,k,by simpa using hh⟩;rw[←hy.canon];unfold aQ.canon;rw[azu h1,azu h2,azu h3,e1,e3,e4,e5,e6]
theorem aaW(pk:Bool)(n:aQ):0<(eG pk n).length:=by rw[IG,azz]; have:=Ip n.id; omega
end
end Go.Proofs.YtodpgjjgaddkeaaGreatDoor
