/- The decoders of package -/
import Derived.Test.YtodpgjjgaddkeaaGreatDoorPk16
import Derived.StillTailTactics
set_option maxRecDepth 100000
set_option maxHeartbeats 9999999
open Go renaming World->Á,Value->À,Calls->Ä,Program->Ø,TypeId->á,execOp->Ù,Operand->ö,Ending->Ļ
open Go.Proofs.Tryz
set_option linter.unusedVariables false
set_option linter.unusedSimpArgs false
section
namespace Go.Proofs.Pv
open Go.RowKit Na Nb Go.Sx Go.Rel
variable{α:Type}{K:Nat}
def Rds(w0 w w':Á)(b:Nat)(a:Option Addr)(l:List UInt8)(cap:Nat)(pk:Bool)(p':Nat)(d':Bool):Prop:=p'<=l.length∧Ext w0 w'∧Ch b w w'∧Bx w' b #[.s a l.length cap,.i p',.b d',.b pk]
variable{b p cap:Nat}{bad:Bool}{q:bQ}
abbrev xP{w0 w:Á}{a:Option Addr}{pk:Bool}{l:List UInt8}(hE:Ext w0 w)(hx:Bx w b #[.s a l.length cap,.i p,.b bad,.b pk])(hb:w0.heap.size<=b)(h:mD w0 (.s a l.length cap) l)(hp:p<=l.length) :
  Ä prog 77 #[.q b 0] w λe w'=>∃x p' d',e = .R (.i x)∧I64 x∧Got iB I64 l p bad p' d' x∧Rds w0 w w' b a l cap pk p' d':=
 (aaE hE hx hb h hp).mono λe w' ⟨h1,h2,h3,h4⟩=>⟨_,_,_,h1,by unfold riV; split; (exact⟨by decide,by decide⟩); exact ad8,aho,aks hp,h2,h3,h4⟩
abbrev YW{w0 w:Á}{a:Option Addr}{pk:Bool}{l:List UInt8}(hE:Ext w0 w)(hx:Bx w b #[.s a l.length cap,.i p,.b bad,.b pk])(hb:w0.heap.size<=b)(h:mD w0 (.s a l.length cap) l)(hp:p<=l.length) :
  Ä prog 80 #[.q b 0] w λe w'=>∃(k:Nat) (p':Nat) (d':Bool),e = .R (.i k)∧k<=l.length∧aed l p bad p' d' k∧Rds w0 w w' b a l cap pk p' d':=
 (SK hE hx hb h hp).mono λe w' ⟨h1,h2,h3,h4⟩=>⟨_,_,_,h1,akv,aaH,aku hp,h2,h3,h4⟩
abbrev ahp{q':bQ}(h:Px.pb q=Px.pb q'):q=q':=(Px.aky (x:=[]) (y:=[]) (by rw[h])).1
abbrev akz{l:List UInt8}(hq:Px.pb q=YN l p bad 4):Got Px.pb (λ_=>True) l p bad (Β l p bad 4) (I8 l p bad 4) q:=λy r _ hb e=>by
 obtain⟨h1,h2,h3⟩:=SN (n:=4) I O hb e;exact⟨ahp (hq.trans h1),h2,h3⟩
abbrev YX{w0 w:Á}{a:Option Addr}{pk:Bool}{l:List UInt8}(hE:Ext w0 w)(hx:Bx w b #[.s a l.length cap,.i p,.b bad,.b pk])(hb:w0.heap.size<=b)(h:mD w0 (.s a l.length cap) l)(hp:p<=l.length) :
  Ä prog 78 #[.q b 0] w λe w'=>∃q p' d',e = .R (.agg (bQ.cells q).toArray)∧Got Px.pb (λ_=>True) l p bad p' d' q∧Rds w0 w w' b a l cap pk p' d':=
 (SC hE hx hb h hp).mono λe w' ⟨q,h1,h0,h2,h3,h4⟩=>⟨_,_,_,h1,akz h0,ad1 hp,h2,h3,h4⟩
def zZ(base:Nat)(v:À):Prop:=∀g,v.ownBlock=some g->base<=g
abbrev zZ.step{base:Nat}{w0 u u':Á}{bl:List (Nat×List À)}{r r':Sx.Row}(hf:zZ base r.v)(R':Rw w0 u' bl [r'])(ý:Sx.Stp (Ob bl [r]) u (Ob bl [r']) u')(hs:base<=u.heap.size):zZ base r'.v:=λg hg=>by
 have hm:g∈Ob bl [r']:=jA ë hg;rcases ý.new g hm with h | h
 .unfold Ob at h;rcases đ.1 h with h | h
  .exfalso;have ha:=R'.apart;unfold Ob at ha;have hd:=(ŋ.1 ha).2.2 g h g (Ō.2 ⟨r',ë,hg⟩);exact hd I
  obtain⟨s,hs',he⟩:=Ō.1 h;obtain rfl:=Ā.1 hs';exact hf g he
 omega
abbrev zZ.own{base B k n:Nat}{w:Á}{e:á}{v:À}{xs:List À}(hf:zZ base v)(h:w.ownsRow B e k v n xs):w.ownsRow base e k v n xs:=by
 obtain⟨h1,h | ⟨g,cap,cur,rfl,h2,h3,h4⟩⟩:=h
 .exact⟨h1,.inl h⟩
 exact⟨h1,.inr ⟨g,cap,cur,I,hf g I,h3,h4⟩⟩
abbrev akA{w u u':Á}{bl:List (Nat×List À)}{r:Sx.Row}{ĉ:List Nat}(h:Ch b w u)(ý:Sx.Stp (Ob bl [r]) u ĉ u')(hbl:∀p∈bl,p.1=b∨w.heap.size<=p.1)(hf:zZ w.heap.size r.v):Ch b w u':=
 ⟨ý.fr.os.trans h.os,ý.fr.tape.trans h.tape,ý.fr.output.trans h.output,ï h.size ý.fr.size,λi hi hn=>(ý.fr.block i (ā hi h.size) (λhm=>by
  unfold Ob at hm
  rcases đ.1 hm with hm | hm
  .obtain⟨p,hp,rfl⟩:=Ć.1 hm
   rcases hbl p hp with e | e
   .exact hn (by rw[e])
   .omega
  .obtain⟨s,hs,he⟩:=Ō.1 hm
   obtain rfl:=Ā.1 hs
   have:=hf i he; omega)).trans (h.block i hi hn)⟩
abbrev akB{w0 w:Á}{bl:List (Nat×List À)}{e:á}{k:Nat}(R:Rw w0 w bl []):Rw w0 w bl [⟨e,k,.sn,0,[]⟩]:=
 ⟨λr hr=>by obtain rfl:=Ā.1 hr; exact⟨by simp,.inl ⟨I,I⟩⟩,R.lt,R.apart⟩
abbrev zZ.nil(base:Nat):zZ base (.sn):=λg h=>by cases h
end Go.Proofs.Pv
namespace Nb
abbrev ajc(q:Nat):Na.JH^q=256^(4*q):=by rw[Nat.pow_mul]; rfl
end Nb
namespace Go.Proofs.Pv
open Go.RowKit En Na Nb Go.Sx Go.Rel
variable{α:Type}
def Gy(neg:Bool)(a b:Nat):Bool := !(neg&&decide ((LZ a).length=0))&&(decide (0<b)&&(Nat.gcd a b==1))
def Je(l:List UInt8)(i:Int):(Bool×Nat×Nat)×Nat×Nat:=
 if i<0∨(l.length:Int)<i then ((false,0,0),0,2)
 else if l.length=i.toNat then ((false,0,0),0,4)
 else if 1<(l.getD i.toNat 0).toNat then ((false,0,0),0,3)
 else match uD 4096 (l.drop (i.toNat+1))with
  | .error e=>((false,0,0),0,e)
  | .ok (s1,k1)=>match uD 4096 (l.drop (i.toNat+1+k1))with
   | .error e=>((false,0,0),0,e)
   | .ok (s2,k2) =>
    if Gy ((l.getD i.toNat 0).toNat==1) (Nb.val s1) (Nb.val s2)&&(iG ((l.getD i.toNat 0).toNat==1,Nb.val s1,Nb.val s2)==(l.take (i.toNat+1+k1+k2)).drop i.toNat)then
     (((l.getD i.toNat 0).toNat==1,Nb.val s1,Nb.val s2),i.toNat+1+k1+k2,0)
    else ((false,0,0),0,3)
variable{p e k1 b:Nat}{c:UInt8}{s1:List UInt8}{most:Int}
abbrev OZ{l:List UInt8}{i:Int}(h:i<0∨(l.length:Int)<i):Je l i=((false,0,0),0,2):=by unfold Je; rw[Ï h]
abbrev O4{l:List UInt8}(h:p=l.length):Je l p=((false,0,0),0,4):=by
 unfold Je; rw[É Z,ş,Ï h.symm]
abbrev Jf{l:List UInt8}(h:l[p]?=some c)(hc:1<c.toNat):Je l p=((false,0,0),0,3):=by
 have hp:p<l.length:=(List.getElem?_eq_some_iff.1 h).1;unfold Je; rw[É Z,ş,É Z,show l.getD p 0=c by simp[List.getD,h],Ï hc]
abbrev WO{l:List UInt8}(h:l[p]?=some c)(hc:¬1<c.toNat)(h1:uD 4096 (l.drop (p+1)) = .error e):Je l p=((false,0,0),0,e):=by
 have hp:p<l.length:=(List.getElem?_eq_some_iff.1 h).1;unfold Je; rw[É Z,ş,É Z,show l.getD p 0=c by simp[List.getD,h],É hc,h1]
abbrev WQ{l:List UInt8}(h:l[p]?=some c)(hc:¬1<c.toNat)(h1:uD 4096 (l.drop (p+1)) = .ok (s1,k1))(h2:uD 4096 (l.drop (p+1+k1)) = .error e):Je l p=((false,0,0),0,e):=by
 have hp:p<l.length:=(List.getElem?_eq_some_iff.1 h).1;unfold Je; rw[É Z,ş,É Z,show l.getD p 0=c by simp[List.getD,h],É hc,h1]; simp only; rw[h2]
abbrev O5{l s2:List UInt8}{k2:Nat}(h:l[p]?=some c)(hc:¬1<c.toNat)(h1:uD 4096 (l.drop (p+1)) = .ok (s1,k1))(h2:uD 4096 (l.drop (p+1+k1)) = .ok (s2,k2)) :
  Je l p=if Gy (c.toNat==1) (Nb.val s1) (Nb.val s2)&&(iG (c.toNat==1,Nb.val s1,Nb.val s2)==(l.take (p+1+k1+k2)).drop p)then ((c.toNat==1,Nb.val s1,Nb.val s2),p+1+k1+k2,0)else ((false,0,0),0,3):=by
 have hp:p<l.length:=(List.getElem?_eq_some_iff.1 h).1;unfold Je; rw[É Z,ş,É Z,show l.getD p 0=c by simp[List.getD,h],É hc,h1]; simp only; rw[h2]
abbrev O6{l:List UInt8}(hu:uD most l = .error e):((e:Int) != 0)=true:=by
 rw[bne_iff_ne];unfold uD at hu;cases h:mO 9 l with
 | error e'=>rw[h]at hu; simp only[ų]at hu; rcases Gv _ _ _ h with h | h<;>omega
 | ok r =>
  obtain⟨n,k⟩:=r;rw[h]at hu;simp only at hu;split at hu
  .simp only[ų]at hu; omega
  split at hu
  .simp only[ų]at hu; omega
  cases hu
abbrev yP(s:List UInt8):(LZ (Nb.val s)).length<=s.length:=by
 apply Na.dn;exact ā (Nb.dV s) (Nat.pow_le_pow_left O _)
abbrev neg_pos(n1:Bool){a:Nat}(hb:0<b):(n1&&decide (0<a/Nat.gcd a b))=kZ n1 false a b:=by
 unfold kZ qc;rw[É (show b≠0 by omega)];rcases ę a with h | h
 .subst h; simp
 rw[É (show a≠0 by omega)];cases n1<;>simp
abbrev O7{neg:Bool}{a:Nat}(h:Gy neg a b=true):nrm neg false a b=(neg,a,b):=by
 unfold Gy at h;simp only[æ,Ý,Û,ś]at h;obtain⟨h1,h2,h3⟩:=h;unfold nrm;rw[É Z,<-neg_pos neg h2,h3,Nat.div_one,Nat.div_one];congr 1;cases neg
 .rfl
 simp only[ļ,ð]at h1;rw[ļ,Ý];rcases ę a with h0 | h0
 .subst h0; exact absurd (by rw[jF]; rfl) h1
 exact h0
abbrev aaK(base:Nat)(w:Á):au base w oD false 0 0:=⟨_,_,I,Gi w,Gi w,QC _,QC _⟩
def YZ(w:Á)(r:(Bool×Nat×Nat)×Nat×Nat)(e:Ļ)(w':Á):Prop:=
 ∃x,e = .R (.tuple #[x,.i r.2.1,.i r.2.2])∧au w.heap.size w' x r.1.1 r.1.2.1 r.1.2.2∧Ext w w'
abbrev lD{w w':Á}{er:Nat}(h:Ext w w'):YZ w ((false,0,0),0,er) (.R (.tuple #[oD,.i 0,.i er])) w':=⟨_,I,aaK _ _,h⟩
abbrev Y0{l s:List UInt8}{k:Nat}(h:uD most l = .ok (s,k)):k<=l.length∧1<=k∧(s.length:Int)<=most:=by
 obtain⟨_,h2,h3,h4⟩:=Jg h;exact⟨h2,h3,h4⟩
end Go.Proofs.Pv
namespace Nb
abbrev aaL{A:List UInt32}{V q r c:Nat}(hq:q<A.length)(hv:Na.Pq A=V)(hV:V<256^(4*q+r))(hr:r<4)(hc:c<256) :
  A[q].toNat<256^r∧A[q].toNat+c*256^r<4294967296∧Na.Pq (A.set q (UInt32.ofNat (A[q].toNat+c*256^r)))=V+256^(4*q+r)*c:=by
 have h1:=Na.nC A q;rw[Na.nU A q hq,hv,ajc]at h1;have h2:A[q].toNat+Na.JH*Na.Pq (A.drop (q+1))<256^r:=by
  have h3:256^(4*q)*(A[q].toNat+Na.JH*Na.Pq (A.drop (q+1)))<256^(4*q)*256^r:=by rw[<-Ν]; omega
  exact azm h3
 have h4:A[q].toNat+c*256^r<4294967296:=by
  have h5:(c+1)*256^r<=256*256^r:=ő _ hc;have h6:256*256^r<=256*256^3:=ĝ _ (ĸ Z Z);rw[Œ]at h5;omega
 refine⟨Z,h4,?_⟩;have h7:=Na.nC (A.set q (UInt32.ofNat (A[q].toNat+c*256^r))) q;rw[Na.nU _ q (by simpa using hq),List.take_set_of_le Z,ajc,List.getElem_set_self,List.drop_set_of_lt Z]at h7;have e:(UInt32.ofNat (A[q].toNat+c*256^r)).toNat=A[q].toNat+c*256^r:=by simp; omega
 rw[h7,e,h1,Ν,ğ,Ě c,õ,õ,õ];omega
end Nb
namespace Go.Proofs.Pv
open Go.RowKit En Na Nb Go.Sx Go.Rel
variable{α:Type}
abbrev aaM{w w1:Á}{x y:À}{t:á}(hb:Ext (w.alloc (.cells #[x,y] t)) w1) :
  w1.cell? ⟨w.heap.size,0,none⟩=some x∧w1.cell? ⟨w.heap.size,1,none⟩=some y∧(∀i,w1.frozen? ⟨w.heap.size,i,none⟩=false)∧w.heap.size<w1.heap.size:=by
 obtain⟨h1,h2,h3⟩:=iW hb;exact⟨by rw[h1]; rfl,by rw[h1]; rfl,h2,h3⟩
abbrev aaN(neg:Bool)(v:À)(s:List UInt8)(w:Á)(hv:bI w v s)(hl:s.length<=1000000) :
  Ä prog 252 #[.b neg,v] w λe w'=>∃x,e = .R x∧aK w.heap.size w' x (neg&&decide (0<Nb.val s)) (Nb.val s)∧Ext w w':=by
 have HV:=Â hv;obtain⟨a1,c1,rfl⟩:=hv.shape;obtain⟨N,hN⟩:∃N,N=(s.length+3)/4:=⟨_,I⟩;have hNI:((s.length:Int)+3)/4=(N:Int):=Z
 have h63:N<=maxLen:=by unfold maxLen; omega
 have hby:4*N<=281474976710656:=Z
 have HN:=Â hN;clear hv hN;go_enter func252,ntmps252
 go_wp2_with (at_make; refine wpList_make_row I _ _ _ I kL I (w.heap.size+1) N I I hNI hby h63 Y ?_; intro w1 hown hg)
 have hb1:=fU (aH w _) hg Y;simp only[ayX]at hown;have hN2:Pq (List.replicate N (0:UInt32))=0:=DR N;have HO:=Â hown;have HB1:=Â hb1;have hs1:w.heap.size+1<w1.heap.size:=(hown.lt (w.heap.size+1) I).2;have HB2:=Â (fU (ù _ _) hg (Ó _));clear hg hown hb1 hNI;go_wp2_with fail
 go_loopw [6,7,15] (λ_ _ iv wr=>∃(i:Nat) (M:List UInt32),iv = .i i∧i<=s.length∧M.length=N∧Pq M=Nb.val (s.take i)∧wr.ownsRow (w.heap.size+1) 119 1 (.s (some ⟨w.heap.size+1,0,none⟩) N N) N (M.map aU)∧Below (w.heap.size+1) (w.alloc (.cells #[.z,.sn] 24)) wr) (λ_ _ iv _=>s.length-(intOf iv).toNat)
 case atStart=>exact⟨0,List.replicate N 0,I,Õ _,by simp,by rw[hN2]; rfl,by simpa[aU]using HO.out,by simpa using HB2.out⟩
 case round =>
  obtain⟨i,M,rfl,hi,hM,hval,hown,hbel⟩:=hrel;by_cases hlt:i<s.length
  .obtain⟨q,r,hqr,hr4⟩:∃q r,i=4*q+r∧r<4:=⟨i/4,i%4,Z,Z⟩;have hq:(i:Int)/4=(q:Int):=Z
   have hqN:q<N:=by rw[HN.out]; omega
   obtain⟨bx,ox,cx,hxs,hbx,hlx,hmx,hcx⟩:=dH HV.out I Z;simp only[Ĉ]at hxs;obtain⟨rfl,-,-⟩:=hxs;have hlb:=Nb.dV (s.take i);rw[Ľ,Ϭ hi]at hlb;have hsucc:=Nb.bT s i hlt;have hcell:=hcx i hlt;generalize s[i]=c at *;have hcl:=c.toNat_lt;have hqM:q<M.length:=by rw[hM]; exact hqN
   obtain⟨f0,f1,f2⟩:=Nb.aaL (c:=c.toNat) hqM hval (by rw[<-hqr]; exact hlb) hr4 hcl;have hcB:wr.cell? ⟨bx,ox+i,none⟩=some (iO c):=by
    rw[hbel.cell (p:=⟨bx,ox+i,none⟩) (by simp only; omega)];rw[(aH w _).cell (p:=⟨bx,ox+i,none⟩) hbx]; exact hcell
   have hcA:=hown.cellAt q Z;have hfz:=hown.frozenAt q;rw[List.getElem?_map,List.getElem?_eq_getElem hqM,Ę]at hcA;have hst:=(hown.stored q (aU (UInt32.ofNat (M[q].toNat+c.toNat*256^r)))).1;rw[<-Š]at hst;have HST:=Â hst;have HF2:=Â f2;obtain⟨d,hd⟩:∃d,M[q]=d:=⟨_,I⟩;rw[hd]at hcA f0 f1 HST HF2;have hdl:=d.toNat_lt;have HM:=Â hM;have HS:=Â hsucc;have HV2:=Â hval;have HQR:=Â hqr;have HF0:=Â f0;have k1:IntKind.i64.wrap (q:Int)=(q:Int):=IntWalk.i64_in _ (by unfold maxLen at h63; omega);have k2:IntKind.u32.wrap (c.toNat:Int)=(c.toNat:Int):=by rw[IntKind.wrap_u32]; omega
   have k4:(q:Int)<(N:Int):=Z
   have k5:(i:Int)<(s.length:Int):=Z
   have k6:(i:Int).tmod 4=(r:Int):=by
    rw[Int.tmod_eq_emod_of_nonneg Z]; omega
   have k7:IntKind.i64.wrap (8*(r:Int))=8*(r:Int):=IntWalk.i64_in _ Z;have k8:¬8*(r:Int)<0:=Z
   have k9:(0:Int)<=8*(r:Int):=Z
   have k10:(0:Int)<=(r:Int):=Z
   clear hd hcx hsucc hM hval f2 hst hqr f0 hown hN2;go_wp2_with fail
   go_still_tail 13,X
   go_wp2_with fail
   have hX:bits .or .u32 (d.toNat:Int) ((c.toNat:Int)*2^(8*r)%4294967296)=((UInt32.ofNat (d.toNat+c.toNat*256^r)).toNat:Int):=by
    have h2:(2:Nat)^(8*r)=256^r:=by rw[Nat.pow_mul]
    have h4:(2:Int)^(8*r)=((256^r:Nat):Int):=by rw[<-h2]; simp
    have h3:(c.toNat:Int)*2^(8*r)%4294967296=((c.toNat*256^r:Nat):Int):=by
     rw[h4,<-ayO]; omega
    rw[h3,u32_or_nat _ _ d.toNat_lt Z,Nat.or_comm,nat_join (8*r) _ _ (by rw[h2]; simp) (by rw[h2]; exact HF0.out),bJ f1,ŧ]
   rw[hX];refine⟨⟨i+1,M.set q (UInt32.ofNat (d.toNat+c.toNat*256^r)),by go_num,Z,?_,?_,dO HST.out ((ù _ _).drew),(hbel.setCell (p:=⟨w.heap.size+1,q,none⟩) (Ó _) _).drew⟩,by simp[intOf]; omega⟩
   .rw[List.length_set]; exact HM.out
   rw[HF2.out,HS.out,HQR.out]; rfl
  obtain rfl:i=s.length:=by omega
  rw[Ħ]at hval;have hrow:=nV hM hown;have hext:Ext (w.alloc (.cells #[.z,.sn] 24)) wr:=by
   have:=hbel;rw[<-ayX w (.cells #[.z,.sn] 24)]at this;exact this
  have hNew:=mY neg _ M wr hrow (by rw[hM,HN.out]; omega);rw[hval]at hNew;have ank:=Â hNew;have HE:=Â hext;have hge:¬(s.length:Int)<(s.length:Int):=Z
  clear hval hrow hM hown hNew hext;go_wp2_with fail
  refine ank.out.mono ?_;rintro e w2 ⟨x,rfl,⟨t,rfl,ht,ft⟩,hb2⟩;obtain⟨b1,d1,rfl⟩:=ht.shape;obtain⟨e0,e1,f0,hz⟩:=aaM (Ã HE.out hb2);have hlt1:w.heap.size<wr.heap.size:=by have:=HE.out.size; simp at this; omega
  obtain⟨nb,hnb⟩:∃nb,(neg&&decide (0<Nb.val s))=nb:=⟨_,I⟩;rw[hnb];have HNB:=Â hnb;have HT:=Â (And.intro ht ft);have HE2:=Â (Ã (Ã (aH w _) HE.out) hb2);clear ht ft hb2 hnb ank;go_wp2_with fail
  refine bodyPost_ret (v := .agg #[.b nb,.s b1 (LZ (Nb.val s)).length d1]) (by simp[results,results252,go_sem,e0,e1]) I ⟨_,I,⟨_,by rw[HNB.out],?_,?_⟩,?_⟩
  .exact HT.out.1.ch (((Ch.refl _ _).setCell _ _).setCell _ _) (λ_=>HT.out.2.off hlt1)
  .exact HT.out.2.mono Z
  exact(HE2.out.setCell (p:=⟨w.heap.size,0,none⟩) (Ó _) _).setCell (p:=⟨w.heap.size,1,none⟩) (Ó _) _
end Go.Proofs.Pv
end
namespace Go.Proofs.Pv
section
open Go.RowKit En Na Nb Go.Sx Go.Rel
variable{α:Type}
variable{i:Int}{r:Bool×Nat×Nat}{q e:Nat}
abbrev aeh{most:Int}{l:List UInt8}(h:uD most l = .error e):e≠0:=by
 unfold uD at h;cases hu:mO 9 l with
 | error e'=>rw[hu]at h; simp only[ų]at h; exact h▸akC hu
 | ok r =>
  rw[hu]at h;simp only at h;split at h
  .simp only[ų]at h; omega
  split at h<;>simp only[ų,reduceCtorEq]at h; omega
abbrev Jh{l:List UInt8}(h:Je l i=(r,q,0)) :
  ∃(p:Nat) (c:UInt8) (s1 s2:List UInt8) (k1 k2:Nat),i=p∧l[p]?=some c∧¬1<c.toNat∧uD 4096 (l.drop (p+1)) = .ok (s1,k1)∧uD 4096 (l.drop (p+1+k1)) = .ok (s2,k2) ∧
   q=p+1+k1+k2∧r=(c.toNat==1,Nb.val s1,Nb.val s2)∧Gy r.1 r.2.1 r.2.2=true∧iG r=(l.take q).drop p:=by
 by_cases hbad:i<0∨(l.length:Int)<i
 .rw[OZ hbad]at h; simp at h
 obtain⟨p,rfl⟩:∃p:Nat,i=p:=⟨i.toNat,Z⟩;by_cases hpe:p=l.length
 .rw[O4 hpe]at h; simp at h
 have hp:p<l.length:=Z
 obtain⟨c,hc⟩:∃c,l[p]?=some c:=⟨l[p],List.getElem?_eq_getElem hp⟩;by_cases hs:1<c.toNat
 .rw[Jf hc hs]at h; simp at h
 cases hb1:uD 4096 (l.drop (p+1))with
 | error e=>rw[WO hc hs hb1]at h; simp only[Ô]at h; exact absurd h.2.2 (aeh hb1)
 | ok r1 =>
  obtain⟨s1,k1⟩:=r1;cases hb2:uD 4096 (l.drop (p+1+k1))with
  | error e=>rw[WQ hc hs hb1 hb2]at h; simp only[Ô]at h; exact absurd h.2.2 (aeh hb2)
  | ok r2 =>
   obtain⟨s2,k2⟩:=r2;rw[O5 hc hs hb1 hb2]at h;split at h
   .rename_i hcond;simp only[Ô,and_true]at h;obtain⟨rfl,rfl⟩:=h;simp only[æ,Û]at hcond;exact⟨p,c,s1,s2,k1,k2,I,hc,hs,hb1,hb2,I,I,hcond.1,hcond.2⟩
   simp at h
abbrev ML{l:List UInt8}(h:Je l i=(r,q,0)):∃p:Nat,i=p∧p<q∧q<=l.length∧Gy r.1 r.2.1 r.2.2=true∧iG r=(l.take q).drop p:=by
 obtain⟨p,c,s1,s2,k1,k2,h1,h2,h3,h4,h5,h6,h7,h8,h9⟩:=Jh h;have:=(Jg h5).2.1;have:=(Jg h5).2.2.1;rw[Ŵ]at *;exact⟨p,h1,Z,Z,h8,h9⟩
abbrev aei{l:List UInt8}(h:Je l i=(r,q,e))(he:e≠0):q=0∧r=(false,0,0):=by
 by_cases hbad:i<0∨(l.length:Int)<i
 .rw[OZ hbad]at h; simp only[Ô]at h; exact⟨h.2.1.symm,h.1.symm⟩
 obtain⟨p,rfl⟩:∃p:Nat,i=p:=⟨i.toNat,Z⟩;by_cases hpe:p=l.length
 .rw[O4 hpe]at h; simp only[Ô]at h; exact⟨h.2.1.symm,h.1.symm⟩
 have hp:p<l.length:=Z
 obtain⟨c,hc⟩:∃c,l[p]?=some c:=⟨l[p],List.getElem?_eq_getElem hp⟩;by_cases hs:1<c.toNat
 .rw[Jf hc hs]at h; simp only[Ô]at h; exact⟨h.2.1.symm,h.1.symm⟩
 cases hb1:uD 4096 (l.drop (p+1))with
 | error e=>rw[WO hc hs hb1]at h; simp only[Ô]at h; exact⟨h.2.1.symm,h.1.symm⟩
 | ok r1 =>
  obtain⟨s1,k1⟩:=r1;cases hb2:uD 4096 (l.drop (p+1+k1))with
  | error e=>rw[WQ hc hs hb1 hb2]at h; simp only[Ô]at h; exact⟨h.2.1.symm,h.1.symm⟩
  | ok r2 =>
   obtain⟨s2,k2⟩:=r2;rw[O5 hc hs hb1 hb2]at h;split at h
   .simp only[Ô]at h; exact absurd h.2.2.symm he
   simp only[Ô]at h; exact⟨h.2.1.symm,h.1.symm⟩
abbrev aej{l:List UInt8}(h:Je l i=(r,q,e)):(LZ r.2.1).length<=4096∧(LZ r.2.2).length<=4096:=by
 by_cases he:e=0
 .subst he;obtain⟨p,c,s1,s2,k1,k2,h1,h2,h3,h4,h5,h6,rfl,h8,h9⟩:=Jh h;have a1:=(Jg h4).2.2.2;have a2:=(Jg h5).2.2.2;have b1:=yP s1;have b2:=yP s2;exact⟨by simp only; omega,by simp only; omega⟩
 obtain⟨-,rfl⟩:=aei h he;simp[jF]
abbrev akD(n1 n2:Bool)(a b:Nat):Gy (nrm n1 n2 a b).1 (nrm n1 n2 a b).2.1 (nrm n1 n2 a b).2.2=true:=by
 unfold nrm;split
 .simp[Gy,jF]
 rename_i hb;have hg:0<Nat.gcd a b:=ay8 a Z;have hb':0<b/Nat.gcd a b:=Nat.div_pos (Nat.le_of_dvd Z (ayM a b)) hg;have hc:Nat.gcd (a/Nat.gcd a b) (b/Nat.gcd a b)=1:=Nat.coprime_div_gcd_div_gcd hg;unfold Gy;simp only[æ,Ý,Û,ś,Bool.and_eq_false_iff];refine⟨?_,hb',hc⟩;by_cases h:(LZ (a/Nat.gcd a b)).length=0
 .left;have h0:=oO h;have ha:a=0:=by
   have h1:=Nat.div_mul_cancel (Nat.gcd_dvd_left a b);rw[h0]at h1; omega
  subst ha;unfold kZ;simp
 right; simp[h]
abbrev Y1(A R:List UInt8)(x:Nat)(hx:x<18446744073709551616):yO (A++(fE 10 x++R)) A.length=(x,A.length+(fE 10 x).length,0):=by
 have hd:(A++(fE 10 x++R)).drop A.length=fE 10 x++R:=by simp
 have hu:=Ef x R hx;unfold yO;rw[É (by simp; omega),ş,hd,hu]
abbrev Y2(A R s:List UInt8)(most:Int)(hs:s.length<18446744073709551616)(h:(s.length:Int)<=most):Y3 (A++(iy s++R)) A.length most=(s,A.length+(iy s).length,0):=by
 have hd:(A++(iy s++R)).drop A.length=iy s++R:=by simp
 have hu:=Ji s R most h hs;unfold Y3;rw[É (by simp; omega),ş,hd,hu]
abbrev ahq(A R:List UInt8)(r:Bool×Nat×Nat)(hr:Gy r.1 r.2.1 r.2.2=true)(ha:(ak r.2.1).length<=4096)(hb:(ak r.2.2).length<=4096) :
  Je (A++(iG r++R)) A.length=(r,A.length+(iG r).length,0):=by
 obtain⟨n,a,b⟩:=r;simp only at hr ha hb;obtain⟨c,hc⟩:∃c:UInt8,(if n then 1 else 0)=c:=⟨_,I⟩;have hq:iG (n,a,b)=c::(iy (ak a)++iy (ak b)):=by unfold iG; rw[<-hc]
 have hcn:(c.toNat==1)=n:=by rw[<-hc]; cases n<;>rfl
 have hc1:¬1<c.toNat:=by rw[<-hc]; cases n<;>decide
 have hg:(A++(iG (n,a,b)++R))[A.length]?=some c:=by rw[hq]; simp
 have e1:(A++(iG (n,a,b)++R)).drop (A.length+1)=iy (ak a)++(iy (ak b)++R):=by
  rw[<-Ι,ayY,hq]; simp
 have h1:=Ji (ak a) (iy (ak b)++R) 4096 Z Z;rw[<-e1]at h1;have e2:(A++(iG (n,a,b)++R)).drop (A.length+1+(iy (ak a)).length)=iy (ak b)++R:=by
  rw[<-Ι,e1,ayY]
 have h2:=Ji (ak b) R 4096 Z Z;rw[<-e2]at h2;have hlen:A.length+1+(iy (ak a)).length+(iy (ak b)).length=A.length+(iG (n,a,b)).length:=by rw[hq]; simp; omega
 rw[O5 hg hc1 h1 h2,hcn,aG,aG,hlen,hr,Ï];rw[ļ,Û];rw[List.take_append,Ĝ Z,azg,List.take_left,ayY]
abbrev Jj(s:List UInt8):(iy s).length<=10+s.length:=by
 have:=mF 10 s.length;unfold iy; rw[ì]; omega
end
section
open En
variable{α β:Type}{K:Nat}
abbrev Q3:=Bool×Nat×Nat
def Qz(q:Q3):Prop:=bV q<=256∧Gy q.1 q.2.1 q.2.2=true
variable{p p6 p1 p2 p3 p4 p5:Nat}{bad b6 b1 b2 b3 b4 b5:Bool}{q:Q6}{id kd dp cr:Int}{cl:List dQ}
abbrev Y4{l r:List UInt8}{q:Q3}(hq:Qz q)(h:l.drop p=iG q++r):Je l (p:Int)=(q,p+(iG q).length,0):=by
 have hp:p<l.length:=OY h (by unfold iG; simp);have h1:=hq.1;unfold bV at h1;have a1:=Nb.dn (ajb (n:=q.2.1) Z);have a2:=Nb.dn (ajb (n:=q.2.2) Z);have:=ahq (l.take p) r q hq.2 Z Z;rw[<-h,ň,Ľ,Ϭ (ϙ hp)]at this;exact this
abbrev Eh{q:Q3}(h:Ie q)(hb:bV q<=256):Qz q:=⟨hb,by
 have:=akD q.1 false q.2.1 q.2.2;rw[show nrm q.1 false q.2.1 q.2.2=q from h]at this;exact this⟩
def WR(q:Q6):Prop:=Qz q.a∧Qz q.b∧Qz q.c∧Qz q.d∧Qz q.e∧Qz q.f
abbrev ahr(h:wW q)(hv:q.valid=true):WR q:=by
 unfold Q6.valid at hv;simp only[æ,Ý]at hv;obtain⟨h1,h2,h3,h4,h5,h6⟩:=h;obtain⟨v1,v2,v3,v4,v5,v6⟩:=hv;exact⟨Eh h1 v1,Eh h2 v2,Eh h3 v3,Eh h4 v4,Eh h5 v5,Eh h6 v6⟩
abbrev aaO(q:Q6):Bg q=iG q.a++(iG q.b++(iG q.c++(iG q.d++(iG q.e++iG q.f)))):=by simp[Bg]
abbrev ahs{l:List UInt8}{a b c d e f:Q3}(h1:Got iG Qz l p bad p1 b1 a)(h2:Got iG Qz l p1 b1 p2 b2 b)(h3:Got iG Qz l p2 b2 p3 b3 c)(h4:Got iG Qz l p3 b3 p4 b4 d)(h5:Got iG Qz l p4 b4 p5 b5 e)(h6:Got iG Qz l p5 b5 p6 b6 f) :
  Got Bg WR l p bad p6 b6 ⟨a,b,c,d,e,f⟩:=λq r hq hb hh=>by
 rw[aaO]at hh;simp only[ĭ]at hh;obtain⟨e1,k,hh⟩:=h1 _ _ hq.1 hb hh;obtain⟨e2,k,hh⟩:=h2 _ _ hq.2.1 k hh;obtain⟨e3,k,hh⟩:=h3 _ _ hq.2.2.1 k hh;obtain⟨e4,k,hh⟩:=h4 _ _ hq.2.2.2.1 k hh;obtain⟨e5,k,hh⟩:=h5 _ _ hq.2.2.2.2.1 k hh;obtain⟨e6,k,hh⟩:=h6 _ _ hq.2.2.2.2.2 k hh;exact⟨by rw[e1,e2,e3,e4,e5,e6],k,hh⟩
structure Cj.Ok (m:Cj):Prop extends Cj.Good m where
 sides:0<=m.w∧m.w<=4096∧0<=m.h∧m.h<=4096
structure sV.Ok (p:sV):Prop where
 kind:I64 p.kind
 p0:p.p0.ok
 p1:p.p1.ok
 bG:I64 p.bG
 stops:p.stops.length<=16∧∀s∈p.stops,s.ok
 spread:I64 p.spread
 img:p.img.Ok
 dw:I64 p.dw
 q:WR p.q
structure aN.Ok (n:aN):Prop where
 i:I64 n.id∧I64 n.kind∧I64 n.depth∧I64 n.aJ∧I64 n.blend∧I64 n.aW∧I64 n.dw
 q:WR n.q
 clip:n.clip.length<=256∧∀s∈n.clip,s.ok
 path:n.kind=2->n.path.length<=256∧∀s∈n.path,s.ok
 fill:n.kind=2->n.fill.length<=1∧∀p∈n.fill,p.Ok
 stroke:n.kind=2->n.stroke.length<=1∧∀p∈n.stroke,p.Ok
 style:n.kind=2->0<n.stroke.length->n.style.Good
 img:n.kind=3->n.img.Ok
 canon:n.canon=n
abbrev Bh(pk:Bool)(n:aN):ji pk n=iB n.id++(iB n.kind++(iB n.depth++(Bg n.q++(qB FZ n.clip++(iB n.aJ++CU pk n))))):=by
 unfold ji; simp only[uz,ĭ]; rfl
def Com(pk:Bool)(l:List UInt8)(p:Nat)(bad:Bool)(p':Nat)(b':Bool)(id kd dp:Int)(q:Q6)(cl:List dQ)(cr:Int):Prop:=
 ∀y r,aN.Ok y->bad=false->l.drop p=ji pk y++r->id=y.id∧kd=y.kind∧dp=y.depth∧q=y.q∧cl=y.clip∧cr=y.aJ∧b'=false∧l.drop p'=CU pk y++r
abbrev aht{pk:Bool}{l:List UInt8}(h1:Got iB I64 l p bad p1 b1 id)(h2:Got iB I64 l p1 b1 p2 b2 kd)(h3:Got iB I64 l p2 b2 p3 b3 dp)(h4:Got Bg WR l p3 b3 p4 b4 q)
  (h5:Got (qB FZ) (λys=>ys.length<18446744073709551616∧∀y∈ys,dQ.ok y) l p4 b4 p5 b5 cl) (h6:Got iB I64 l p5 b5 p6 b6 cr):Com pk l p bad p6 b6 id kd dp q cl cr:=λy r hy hb hh=>by
 rw[Bh]at hh;simp only[ĭ]at hh;obtain⟨i1,i2,i3,i4,-⟩:=hy.i;obtain⟨e1,k,hh⟩:=h1 _ _ i1 hb hh;obtain⟨e2,k,hh⟩:=h2 _ _ i2 k hh;obtain⟨e3,k,hh⟩:=h3 _ _ i3 k hh;obtain⟨e4,k,hh⟩:=h4 _ _ hy.q k hh;obtain⟨e5,k,hh⟩:=h5 _ _ ⟨by have:=hy.clip.1; omega,hy.clip.2⟩ k hh;obtain⟨e6,k,hh⟩:=h6 _ _ i4 k hh;exact⟨e1,e2,e3,e4,e5,e6,k,hh⟩
abbrev anl (c:UInt8):List UInt8:=[c]
abbrev aek (l:List UInt8)(p:Nat)(bad:Bool)(p':Nat)(b':Bool)(c:UInt8):Prop:=Got anl (λ_=>True) l p bad p' b' c
abbrev ael{l:List UInt8}{c:UInt8}(hc:YN l p bad 1=[c]):aek l p bad (Β l p bad 1) (I8 l p bad 1) c:=λy r _ hb e=>by
 obtain⟨h1,h2,h3⟩:=SN (n:=1) (B:=[y]) I O hb e;rw[hc]at h1;exact⟨by simpa using h1,h2,h3⟩
abbrev Y5(b:Bool):(rH b==1)=b:=by cases b<;>rfl
abbrev aaP{pk:Bool}{l:List UInt8}{p7 p8 p9 p10:Nat}{b7 b8 b9 b10:Bool}{bd:Int}{op c1 c2:UInt8}(hC:Com pk l p bad p6 b6 id kd dp q cl cr)(hk:kd=1)(h7:aek l p6 b6 p7 b7 op)(h8:Got iB I64 l p7 b7 p8 b8 bd)(h9:aek l p8 b8 p9 b9 c1)(h10:aek l p9 b9 p10 b10 c2) :
  Got (ji pk) aN.Ok l p bad p10 b10 ⟨id,kd,dp,q,cl,cr,op,bd,c1==1,c2==1,[],0,[],.zero,[],.zero,0⟩:=λy r hy hb hh=>by
 obtain⟨e1,e2,e3,e4,e5,e6,k,hh⟩:=hC y r hy hb hh;have hyk:y.kind=1:=e2▸hk;unfold CU at hh;rw[Ï hyk]at hh;simp only[ĭ,aee]at hh;obtain⟨f1,k,hh⟩:=h7 y.dP _ G k hh;obtain⟨f2,k,hh⟩:=h8 _ _ hy.i.2.2.2.2.1 k hh;obtain⟨f3,k,hh⟩:=h9 (rH y.isolated) ([rH y.cZ]++r) G k hh;obtain⟨f4,k,hh⟩:=h10 _ _ G k hh;refine⟨?_,k,hh⟩;rw[<-hy.canon];unfold aN.canon;rw[Ï hyk,e1,e2,e3,e4,e5,e6,f1,f2,f3,f4,Y5,Y5]
abbrev aaQ(pk:Bool)(n:aN):0<(ji pk n).length:=by rw[Bh,ì]; have:=aef n.id; omega
end
section
open Go.RowKit En Na Nb Go.Sx Go.Rel
variable{α:Type}
variable{most:Int}{k:Nat}
abbrev EW(n1 n2:Bool)(s1 s2:À)(l m:List UInt32)(w:Á)(h1:aF w s1 l)(h2:aF w s2 m) :
  Ä prog 285 #[.agg #[.b n1,s1],.agg #[.b n2,s2]] w (RF w (.b (n1==n2&&l==m))):=by
 obtain⟨a1,c1,rfl⟩:=h1.shape;obtain⟨a2,c2,rfl⟩:=h2.shape;have hl1:=h1.len;have hl2:=h2.len;unfold maxLen at hl1 hl2;have HB0:=Â ((aH w (.cells #[.b n1,.s a1 l.length c1] 24)).alloc Y (.cells #[.b n2,.s a2 m.length c2] 24));have H1:=Â h1;have H2:=Â h2;clear h1 h2;by_cases hn:n1=n2
 .subst hn;by_cases hl:l.length=m.length
  .have HL:=Â hl;obtain⟨W,hW⟩:∃W,((w.alloc (.cells #[.b n1,.s a1 l.length c1] 24)).alloc (.cells #[.b n1,.s a2 m.length c2] 24))=W:=⟨_,I⟩;have hK:∀w1,Ext W w1->w1.cell? ⟨w.heap.size,1,none⟩=some (.s a1 l.length c1)∧w1.cell? ⟨w.heap.size+1,1,none⟩=some (.s a2 m.length c2):=by
    intro w1 hb;subst hW;constructor
    .rw[hb.cell (p:=⟨w.heap.size,1,none⟩) (by simp; omega)]; simp[go_sem]
    rw[hb.cell (p:=⟨w.heap.size+1,1,none⟩) Y]; simp[go_sem]
   have HK:=Â hK;rw[hW]at HB0;have HW:=Â hW;have hne:((l.length:Int) != (m.length:Int))=false:=by rw[bne_eq_false_iff_eq]; omega
   have hml:m.length<=l.length:=ayK hl.symm;have hlm:l.length<=m.length:=ayK hl;clear hl hK hW;cases n1;all_goals
    go_enter func285,ntmps285
    go_wp2_with fail
    rw[HW.out]
    clear hne
    go_loopw [5,6,24] (λ_ _ i wr=>∃k:Nat,i = .i k∧k<=l.length∧l.take k=m.take k∧Ext W wr) (λ_ _ i _=>l.length-(intOf i).toNat)
    case atStart=>exact⟨0,I,Õ _,I,ù _ _⟩
    case round =>
     obtain⟨k,rfl,hk,ht,hbel⟩:=hrel
     have HT:=Â ht
     clear ht
     obtain⟨q1,q2⟩:=HK.out wr hbel
     by_cases hlt:k<l.length
     .obtain⟨bx,ox,cx,hxs,hbx,hlx,hmx,hcx⟩:=dH H1.out I Z
      obtain⟨by',oy,cy,hys,hby,hly,hmy,hcy⟩:=dH H2.out I Z
      simp only[Ĉ]at hxs hys
      obtain⟨rfl,-,-⟩:=hxs
      obtain⟨rfl,-,-⟩:=hys
      have hkm:k<m.length:=Z
      have hb:=Ã HB0.out hbel
      have r1:wr.cell? ⟨bx,ox+k,none⟩=some (aU l[k]):=by rw[hb.cell (p:=⟨bx,ox+k,none⟩) hbx]; exact hcx k hlt
      have r2:wr.cell? ⟨by',oy+k,none⟩=some (aU m[k]):=by rw[hb.cell (p:=⟨by',oy+k,none⟩) hby]; exact hcy k hkm
      have hs1:=take_snoc l k hlt
      have hs2:=take_snoc m k hkm
      clear hcx hcy hb
      have hkI:(k:Int)<(m.length:Int):=Z
      by_cases he:l[k]=m[k]
      .have hnx:l.take (k+1)=m.take (k+1):=by rw[hs1,hs2,HT.out,he]
       rw[he]at r1
       have HN:=Â hnx
       generalize m[k]=d at *
       clear hs1 hs2 hnx he
       go_wp2_with fail
       go_roundw
       case rel=>exact⟨k+1,by go_num,Z,HN.out,hbel⟩
       case measure=>simp[intOf]; omega
      .have hx:((l[k].toNat:Int) != (m[k].toNat:Int))=true:=by
        rw[bne_iff_ne]; intro e; exact he (ř.1 Z)
       have hr:l≠m:=λe=>he (by subst e; rfl)
       have HR:Hid ((l==m)=false):=ä.2 hr
       generalize l[k]=d1 at *
       generalize m[k]=d2 at *
       clear hs1 hs2 he hr
       go_wp2_with fail
       go_ret
       exact⟨by rw[HR.out]; rfl,Ã HB0.out hbel⟩
     .obtain rfl:k=l.length:=by omega
      have hr:l=m:=by
       have:=HT.out
       rw[Ħ,HL.out,Ħ]at this; exact this
      have HR:Hid ((l==m)=true):=Û.2 hr
      clear hr
      go_wp2_with fail
      go_ret
      exact⟨by rw[HR.out]; rfl,Ã HB0.out hbel⟩
  have hne:((l.length:Int) != (m.length:Int))=true:=by rw[bne_iff_ne]; omega
  have hr:Hid ((n1==n1&&l==m)=false):=by
   show _=_;rw[Ŷ,ļ,ä]; exact λe=>hl (by rw[e])
  clear hl;cases n1;all_goals
   go_enter func285,ntmps285
   go_wp2_with fail
   go_ret
   exact⟨by rw[hr.out]; rfl,HB0.out⟩
 have hr:Hid ((n1==n2&&l==m)=false):=by
  show _=_;rw[ä.2 hn,ŕ]
 cases n1<;>cases n2
 .exact absurd I hn
 case' true.true=>exact absurd I hn
 all_goals
  clear hn
  go_enter func285,ntmps285
  go_wp2_with fail
  go_ret
  exact⟨by rw[hr.out]; rfl,HB0.out⟩
abbrev aaR{n1:Bool}{a b:Nat}(h:n1=true->0<a):(decide (0<b)&&((n1==(nrm n1 false a b).1&&LZ a==LZ (nrm n1 false a b).2.1)&&(false==false&&LZ b==LZ (nrm n1 false a b).2.2)))=Gy n1 a b:=by
 have h1:(!(n1&&decide ((LZ a).length=0)))=true:=by
  cases n1
  .rfl
  have:=h I;rw[ļ,ś,ð];intro e; have:=oO e; omega
 cases hq:Gy n1 a b with
 | true =>
  have hb:0<b:=by
   unfold Gy at hq;simp only[æ,Ý]at hq;exact hq.2.1
  rw[O7 hq,İ hb]; simp
 | false =>
  rw[Bool.eq_false_iff];intro hc;simp only[æ,Ý,Û]at hc;obtain⟨hb,⟨_,e2⟩,_,e3⟩:=hc;unfold Gy at hq;rw[h1,İ hb,ļ,ļ]at hq;have e3':b=(nrm n1 false a b).2.2:=by
   have:=Ñ Pq e3;rwa [L6,L6]at this
  have hg:Nat.gcd a b=1:=by
   unfold nrm at e3';rw[É Z]at e3';simp only at e3';have hgp:0<Nat.gcd a b:=ay8 _ hb;have hd:=Nat.div_mul_cancel (ayM a b);rw[<-e3']at hd;rcases ĳ 1 (Nat.gcd a b)with h2 | h2
   .have:b*2<=b*Nat.gcd a b:=ĝ _ h2;omega
   omega
  rw[hg]at hq;simp at hq
abbrev Aa(n1:Bool)(s t:À)(a b:Nat)(w:Á)(hs:aF w s (LZ a))(ht:aF w t (LZ b))(hla:(LZ a).length<=5000000)(hlb:(LZ b).length<=5000000)(hn:n1=true->0<a) :
  Ä prog 253 #[.agg #[.b n1,s,.z,t]] w (RF w (.b (Gy n1 a b))):=by
 have hb0:=aH w (.cells #[.b n1,s,.z,t] 26);have HB0:=Â hb0;have H:=Â (And.intro hs ht);have hN:=pq n1 false s t _ _ _ (hs.below hb0) (ht.below hb0) Z Z;rw[L6,L6]at hN;have HN:=Â hN;have HR:=Â (aaR (b:=b) hn);obtain⟨a1,c1,rfl⟩:=hs.shape;obtain⟨a2,c2,rfl⟩:=ht.shape;generalize nrm n1 false a b=r at *;obtain⟨ng,ga,gb⟩:=r;simp only at HR;generalize Gy n1 a b=Q at *;have hK:∀w1,Ext (w.alloc (.cells #[.b n1,.s a1 (LZ a).length c1,.z,.s a2 (LZ b).length c2] 26)) w1->(∀i,w1.cell? ⟨w.heap.size,i,none⟩ = #[Value.b n1,.s a1 (LZ a).length c1,.z,.s a2 (LZ b).length c2][i]?)∧w.heap.size<w1.heap.size:=λw1 h=>⟨(iW h).1,(iW h).2.2⟩;have HK:=Â hK;clear hs ht hb0 hN hK hn;go_enter func253,ntmps253
 go_wp2_with fail
 refine HN.out.mono ?_;rintro e w1 ⟨x,rfl,hx,hb⟩;have hx:au _ w1 x ng ga gb:=hx;obtain⟨b1,d1,b2,d2,rfl⟩:=hx.shape;obtain⟨k1,kz⟩:=HK.out w1 hb;have HX:=Â (And.intro hx.parts.1 hx.parts.2.1);have hE:=hb.alloc hb.size (.cells #[.b ng,.s b1 (LZ ga).length d1,.z,.s b2 (LZ gb).length d2] 26);have hS:=nN false (.s a2 (LZ b).length c2) (LZ b) _ (H.out.2.below (Ã HB0.out hE)) Z;rw[L6]at hS;have HE:=Â hE;have HW1:=Â hb;have HS:=Â hS;clear hx hb hE hS HN;have HK2:Hid (∀w2,Ext (w1.alloc (.cells #[.b ng,.s b1 (LZ ga).length d1,.z,.s b2 (LZ gb).length d2] 26)) w2 ->
   (∀i,w2.cell? ⟨w.heap.size,i,none⟩ = #[Value.b n1,.s a1 (LZ a).length c1,.z,.s a2 (LZ b).length c2][i]?)∧(∀i,w2.cell? ⟨w1.heap.size,i,none⟩ = #[Value.b ng,.s b1 (LZ ga).length d1,.z,.s b2 (LZ gb).length d2][i]?) ∧
   aF w2 (.s a1 (LZ a).length c1) (LZ a)∧aF w2 (.s a2 (LZ b).length c2) (LZ b)∧aF w2 (.s b1 (LZ ga).length d1) (LZ ga)∧aF w2 (.s b2 (LZ gb).length d2) (LZ gb)∧Ext w w2):=by
  intro w2 h2
  have h3:=Ã (aH w1 _) h2
  have h4:=Ã HB0.out (Ã HW1.out h3)
  exact⟨(HK.out w2 (Ã HW1.out h3)).1,(iW h2).1,H.out.1.below h4,H.out.2.below h4,HX.out.1.below h3,HX.out.2.below h3,h4⟩
 clear HE HW1 HX HK HB0 H;cases hb0:decide (0<b)with
 | false =>
  have anm:b=0:=by have:=ñ hb0; omega
  have hr:Hid (Q=false):=by show _=_; rw[<-HR.out,hb0]; rfl
  rw[show qc false b=0 by rw[anm]; rfl]at HS;clear hb0 anm;go_wp2_with fail
  refine HS.out.mono ?_;rintro e w2 ⟨rfl,hb⟩;obtain⟨-,-,-,-,-,-,h4⟩:=HK2.out w2 hb;have HF:=Â h4;clear hb h4;go_wp2_with fail
  go_ret
  exact⟨by rw[hr.out]; rfl,HF.out⟩
 | true =>
  have hbp:0<b:=å hb0;have hR2:=HR.out;rw[hb0,ļ]at hR2;have hsg:qc false b=1:=by unfold qc; rw[É Z]; rfl
  rw[hsg]at HS;obtain⟨S1,hS1⟩:∃S1,(n1==ng&&LZ a==LZ ga)=S1:=⟨_,I⟩;obtain⟨S2,hS2⟩:∃S2,(false==false&&LZ b==LZ gb)=S2:=⟨_,I⟩;rw[hS1,hS2]at hR2;have HR2:=Â hR2;have HS1:=Â hS1;have HS2:=Â hS2;clear hb0 hbp hsg hR2 hS1 hS2;go_wp2_with fail
  refine HS.out.mono ?_;rintro e w2 ⟨rfl,hb⟩;obtain⟨k1,k2,g1,g2,g3,g4,h4⟩:=HK2.out w2 hb;have hM:=EW n1 ng _ _ _ _ w2 g1 g3;rw[HS1.out]at hM;have HM:=Â hM;have HW2:=Â hb;clear hb g1 g2 g3 g4 h4 hM HS;cases S1
  .go_wp2_with fail
   refine HM.out.mono ?_;rintro e w3 ⟨rfl,hb⟩;obtain⟨-,-,-,-,-,-,h4⟩:=HK2.out w3 (Ã HW2.out hb);have HF:=Â h4;clear hb h4 k1 k2;go_wp2_with fail
   go_ret
   exact⟨by rw[<-HR2.out]; rfl,HF.out⟩
  go_wp2_with fail
  refine HM.out.mono ?_;rintro e w3 ⟨rfl,hb⟩;have hW3:=Ã HW2.out hb;obtain⟨k1,k2,g1,g2,g3,g4,h4⟩:=HK2.out w3 hW3;have hM:=EW false false _ _ _ _ w3 g2 g4;rw[HS2.out]at hM;have HM2:=Â hM;have HW3:=Â hW3;clear hb g1 g2 g3 g4 h4 hM hW3 HM;go_wp2_with fail
  refine HM2.out.mono ?_;rintro e w4 ⟨rfl,hb⟩;obtain⟨-,-,-,-,-,-,h4⟩:=HK2.out w4 (Ã HW3.out hb);have HF:=Â h4;clear hb h4 k1 k2;go_wp2_with fail
  go_ret
  exact⟨by rw[<-HR2.out]; rfl,HF.out⟩
abbrev akE(v:À)(l:List UInt8)(w:Á)(hv:bI w v l)(hlen:l.length<=100000000000) :
  Ä prog 61 #[v] w λe w'=>∃v',e = .R v'∧OwnB w.heap.size w' v' l∧Ext w w':=WI v l w hv Z
def aem(w:Á)(b:Nat)(v:À)(l:List UInt8)(p:Nat)(r:Except Nat (List UInt8×Nat))(e:Ļ)(w':Á):Prop:=
 ∃q,Rd w' b v l q∧Ch b w w'∧(match r with
  | .ok (s,k)=>q=p+k∧∃x,e = .R (.tuple #[x,.i 0])∧OwnB w.heap.size w' x s
  | .error er=>e = .R (.tuple #[.sn,.i er]))
abbrev ahu{l:List UInt8}{e:Nat}(h:mO 9 l = .error e):uD most l = .error e:=by unfold uD; rw[h]
abbrev ano{l:List UInt8}{n:Nat}(h:mO 9 l = .ok (n,k))(h5:most<0∨most<(n:Int)):uD most l = .error 5:=by unfold uD; rw[h]; simp only; rw[Ï h5]
abbrev anp{l:List UInt8}{n:Nat}(h:mO 9 l = .ok (n,k))(h5:¬(most<0∨most<(n:Int)))(h4:l.length-k<n):uD most l = .error 4:=by
 unfold uD; rw[h]; simp only; rw[É h5,Ï h4]
abbrev anq{l:List UInt8}{n:Nat}(h:mO 9 l = .ok (n,k))(h5:¬(most<0∨most<(n:Int)))(h4:¬l.length-k<n):uD most l = .ok ((l.drop k).take n,k+n):=by
 unfold uD; rw[h]; simp only; rw[É h5,É h4]
abbrev uF(l:List UInt8)(b p:Nat)(v:À)(most:Int)(w:Á)(h:Rd w b v l p)(hl:l.length<=100000000000)(hmb:most<=9223372036854775807) :
  Ä prog 74 #[.q b 0,.i most] w (aem w b v l p (uD most (l.drop p))):=by
 have HN:=Â (Bc l b p v w h);have hpl:=h.hp;cases hu:mO 9 (l.drop p)with
 | error er =>
  rw[ahu hu];rw[hu]at HN;have he:=YM hu;clear hu h;go_enter func74,ntmps74
  go_wp2_with fail
  refine HN.out.mono ?_;rintro e w1 ⟨q,hrd,hch,rfl⟩;have HR:=Â hrd;have HC:=Â hch;clear hrd hch HN;go_wp2_with fail
  go_ret2
  exact⟨q,HR.out,HC.out,I⟩
 | ok r =>
  obtain⟨n,k⟩:=r;obtain⟨auR,hk1,hkl,hk10,-⟩:=Gw hu;simp only[Ŵ]at hkl;rw[hu]at HN;clear h;by_cases h5:most<0∨most<(n:Int)
  .rw[ano hu h5];clear hu;by_cases h0:most<0
   .clear h5;go_enter func74,ntmps74
    go_wp2_with fail
    refine HN.out.mono ?_;rintro e w1 ⟨q,hrd,hch,hq,rfl⟩;have HR:=Â hrd;have HC:=Â hch;clear hrd hch HN hq;go_wp2_with fail
    go_ret2
    exact⟨q,HR.out,HC.out,I⟩
   have h1:most<(n:Int):=Z
   clear h5;go_enter func74,ntmps74
   go_wp2_with fail
   refine HN.out.mono ?_;rintro e w1 ⟨q,hrd,hch,hq,rfl⟩;have HR:=Â hrd;have HC:=Â hch;clear hrd hch HN hq;go_wp2_with fail
   go_ret2
   exact⟨q,HR.out,HC.out,I⟩
  have h0:0<=most:=Z
  have h1:(n:Int)<=most:=Z
  by_cases h4:(l.drop p).length-k<n
  .rw[anp hu h5 h4];have h4':((l.length-(p+k):Nat):Int)<(n:Int):=by simp at h4; omega
   clear hu h5 h4;go_enter func74,ntmps74
   go_wp2_with fail
   refine HN.out.mono ?_;rintro e w1 ⟨q,hrd,hch,rfl,rfl⟩;have HL:=Â (OQ l b (p+k) v w1 hrd);have HC:=Â hch;clear hrd hch HN;go_wp2_with fail
   refine HL.out.mono ?_;rintro e w2 ⟨rfl,hrd,hch⟩;have HR:=Â hrd;have HC2:=Â (Ch.trans HC.out hch);clear hrd hch HL;go_wp2_with fail
   go_ret2
   exact⟨_,HR.out,HC2.out,I⟩
  rw[anq hu h5 h4];have h4':¬((l.length-(p+k):Nat):Int)<(n:Int):=by simp at h4; omega
  have hpk:p+k+n<=l.length:=by simp at h4; omega
  clear hu h5 h4;go_enter func74,ntmps74
  go_wp2_with fail
  refine HN.out.mono ?_;rintro e w1 ⟨q,hrd,hch,rfl,rfl⟩;have HL:=Â (OQ l b (p+k) v w1 hrd);have HC:=Â hch;clear hrd hch HN;go_wp2_with fail
  refine HL.out.mono ?_;rintro e w2 ⟨rfl,hrd,hch⟩;have HX:=Â (next_any l b (p+k) n v w2 hrd hpk Z);have HC2:=Â (Ch.trans HC.out hch);clear hrd hch HL;go_wp2_with fail
  refine HX.out.mono ?_;rintro e w3 ⟨x,rfl,hrd,hch,hrow,hoff⟩;have HR:=Â hrd;have HC3:=Â (Ch.trans HC2.out hch);have hlen:((l.drop (p+k)).take n).length<=100000000000:=by simp; omega
  have HK:=Â (akE x _ w3 hrow hlen);clear hrd hch hrow hoff HX;go_wp2_with fail
  refine HK.out.mono ?_;rintro e w4 ⟨y,rfl,ho,hb⟩;have HO:=Â ho;have HB:=Â hb;clear ho hb HK;go_wp2_with fail
  go_ret2
  refine⟨p+k+n,HR.out.ext HB.out,Ch.trans HC3.out (Ch.bY HB.out),Z,_,I,?_⟩;rw[Ι];exact bK HO.out HC3.out.size
open Go.RowKit En Na Nb Go.Sx Go.Rel
variable{α:Type}
def Ei(w:Á)(r:List UInt8×Nat×Nat)(e:Ļ)(w':Á):Prop:=
 ∃x,e = .R (.tuple #[x,.i r.2.1,.i r.2.2])∧OwnB w.heap.size w' x r.1∧Ext w w'
variable{most:Int}{i:Nat}
abbrev MN{w w':Á}{er:Nat}(hb:Ext w w'):Ei w ([],0,er) (.R (.tuple #[.sn,.i 0,.i er])) w':=
 ⟨_,I,ayS _ _ _ _,hb⟩
abbrev ahv{l:List UInt8}{i:Int}(h:i<0∨(l.length:Int)<i):Y3 l i most=([],0,2):=by unfold Y3; rw[Ï h]
abbrev akF{l s:List UInt8}{k:Nat}(h:i<=l.length)(hu:uD most (l.drop i) = .ok (s,k)):Y3 l i most=(s,i+k,0):=by
 unfold Y3; rw[É Z,ş,hu]
abbrev ahw{l:List UInt8}{e:Nat}(h:i<=l.length)(hu:uD most (l.drop i) = .error e):Y3 l i most=([],0,e):=by
 unfold Y3; rw[É Z,ş,hu]
abbrev SQ(v:À)(l:List UInt8)(i most:Int)(w:Á)(hv:bI w v l)(hl:l.length<=100000000000)(hmb:most<=9223372036854775807) :
  Ä prog 45 #[v,.i i,.i most] w (Ei w (Y3 l i most)):=by
 by_cases hbad:i<0∨(l.length:Int)<i
 .rw[ahv hbad];have HF:=Â (I7 v l i w hv hbad);clear hbad;go_enter func45,ntmps45
  go_wp2_with fail
  refine HF.out.mono ?_;rintro e w' ⟨rfl,rfl⟩;go_wp2_with fail
  go_ret3
  exact MN (ù _ _)
 obtain⟨p,rfl⟩:∃p:Nat,i=p:=⟨i.toNat,Z⟩;have hp:p<=l.length:=Z
 have HF:=Â (OM v l p w hv hp);clear hbad;cases hu:uD most (l.drop p)with
 | error er =>
  rw[ahw hp hu];have he:=O6 hu;have HU:=Â hu;clear hu;go_enter func45,ntmps45
  go_wp2_with fail
  refine HF.out.mono ?_;rintro e w1 ⟨b,rfl,hrd,hb1,hb⟩;have HN:=Â (uF l b p v most w1 hrd hl hmb);rw[HU.out]at HN;clear hrd HF;go_wp2_with fail
  refine HN.out.mono ?_;rintro e w2 ⟨q,hrd,hch,rfl⟩;have HB:=Â (Ϙ hb1 (hch.below hb hb1.size));clear hrd hch hb1 HN;go_wp2_with fail
  go_ret3
  exact MN HB.out
 | ok r =>
  obtain⟨s,k⟩:=r;rw[akF hp hu];have HU:=Â hu;clear hu;go_enter func45,ntmps45
  go_wp2_with fail
  refine HF.out.mono ?_;rintro e w1 ⟨b,rfl,hrd,hb1,hb⟩;have HN:=Â (uF l b p v most w1 hrd hl hmb);rw[HU.out]at HN;clear hrd HF;go_wp2_with fail
  refine HN.out.mono ?_;rintro e w2 ⟨q,hrd,hch,hq,x,rfl,ho⟩;have h1:=hrd.c1;have HB:=Â (Ϙ hb1 (hch.below hb hb1.size));have HO:=Â (bK ho hb1.size);have HQ:=Â hq;clear hrd hch hb1 HN hq ho;go_wp2_with fail
  go_quiet (fail)
  go_wp2_with fail
  go_ret3
  rw[HQ.out];exact⟨x,I,dO HO.out (below_drewN (ù _ _) _),below_drewN HB.out _⟩
end
end Go.Proofs.Pv
section
namespace Go.Sx
open Go.Proofs.Pv Go.RowKit Go.Rel Na Nb Go.Sx Go.Rel
variable{P:Ø}{Q:Exit->Act->Á->Prop}{w0 w:Á}{a:Act}{os:List Oper}{n:Nat}{l:List (Nat×À)}{bl:List (Nat×List À)}{vs:List eU}{o:Oper}{ρ:ö->À}
def KnL(ρ:ö->À):List (Nat×À)->Prop
 | []=>True
 | p::r=>ρ (.tmp p.1)=p.2∧KnL ρ r
abbrev KnL.look{ρ:ö->À}:∀{l:List (Nat×À)},KnL ρ l->∀q v,l.lookup q=some v->ρ (.tmp q)=v
 | [],_,q,v,h=>by simp at h
 | p::r,hk,q,v,h=>by
  rw[ġ]at h
  split at h
  .rename_i hq
   obtain rfl:q=p.1:=by simpa using hq
   rw[<-Ü h]; exact hk.1
  .exact hk.2.look q v h
abbrev dv(hs:Std ρ)(l:List (Nat×À)){V:À}(hl:KnL ρ l)(hx:evV P o l=some V:=by kernel_rfl)(hd:o.dst.isSome=true:=by rfl):Does P o ρ w (λv w'=>Ext w w'∧Rel.is V (kept o v) w'):=
 jf (os:=[o]) (i:=0) I hs l hl.look V ⟨ô,by obtain⟨d,hd⟩:=į.1 hd; unfold kept; rw[hd]; rfl⟩ hx
def evC(P:Ø)(o:Oper)(l:List (Nat×À)):Option (FuncId×Array À):=match vT o.op || !o.op.operands.all (λx=>(rd (lift l) [] x).isSome),iT (ev0 P (Ù (zi (lift l) []) o))with
 | false,some (.enter f args)=>some (f,args)
 | _,_=>none
abbrev dc(hs:Std ρ)(l:List (Nat×À)){T:Fact}{f:FuncId}{args:Array À}(hl:KnL ρ l)(hc:Ä P f args w (λe w''=>∃v,e = .R v∧Ext w w''∧T v w''))(hx:evC P o l=some (f,args):=by kernel_rfl)(hd:o.dst.isSome=true:=by rfl) :
  Does P o ρ w (λv w'=>Ext w w'∧T (kept o v) w'):=by
 unfold evC at hx;split at hx
 .rename_i f' args' hav hev;simp only[Ò,Ô]at hx;obtain⟨rfl,rfl⟩:=hx;simp only[Ĕ]at hav;have hH:Holds ρ (lift l):=λq x hq=>by
   rw[jm]at hq;cases h2:l.lookup q with
   | none=>simp[h2]at hq
   | some u =>
    simp only[h2,Ę,Ò]at hq;subst hq;rw[hl.look q u h2]; rfl
  have hrun:(Ù ρ o).run P w = .ok (.enter f' args') w:=kH hs (gG hH o) (p:=[]) I hav.1 (by simpa using hav.2) hev;refine yF hrun (hc.mono λe w'' h=>?_);obtain⟨v,h1,h2,h3⟩:=h;obtain⟨d,hd⟩:=į.1 hd;exact⟨v,h1,h2,by unfold kept; rw[hd]; exact h3⟩
 cases hx
abbrev Δ{t b off:Nat}{ty:á}{cs:List À}{V:À}(hx:ρ (.tmp t) = .q b off)(hr:w.rangeAt b off cs)(ho:o.op = .load ty (.tmp t):=by rfl)(hl:Qm P ty cs=some V:=by kernel_rfl)(hd:o.dst.isSome=true:=by rfl) :
  Does P o ρ w (λv w'=>Ext w w'∧Rel.is V (kept o v) w'):=by
 have h1:=O8 hl hr;have hrun:(Ù ρ o).run P w = .ok (.value V) w:=by
  unfold Ù;rw[ho];simp only[hx,ķ,h1];rfl
 unfold Does;rw[hrun];exact⟨ô,by obtain⟨d,hd⟩:=į.1 hd; unfold kept; rw[hd]; rfl⟩
theorem pO{q:Nat->Bool}{i:Nat}{v:À}:∀{l:List (Nat×À)},(l.filter λp=>q p.1).lookup i=some v->q i=true∧l.lookup i=some v
 | [],h=>by simp at h
 | (x,u)::l,h=>by
  by_cases hp:q x=true
  .rw[List.filter_cons_of_pos (by exact hp)]at h
   by_cases e:i=x
   .subst e
    simp only[ġ,Ŷ]at h |-
    exact⟨hp,h⟩
   .have e2:(i==x)=false:=by simpa using e
    simp only[ġ,e2]at h |-
    exact pO h
  .rw[List.filter_cons_of_neg (by exact hp)]at h
   obtain⟨h1,h2⟩:=pO h
   refine⟨h1,?_⟩
   have e2:(i==x)=false:=by simp; intro e; subst e; exact hp h1
   simp only[ġ,e2]
   exact h2
abbrev aen(S:St w0 a w n l bl vs){id:Nat}(m:Nat)(Ts:List Fact)(j d:Nat)(V:À)(hm:EF Ext Ts)(hob:Go.Rel.qL P os.toArray (os.take m) Ts Ext (Ext w) a.eval (os.take m) Ts)
  (next:∀a' w',Ext w w'->St w0 a' w' n ((d,V)::l.filter λp=>os.all λo => !(o.dst==some p.1)) bl vs->wpList P os.toArray Q [] a' w') (hV:Ts[j]?=some (Rel.is V)) (hj:((os[j]?).bind (·.dst)==some d&&os.length==m&&decide (j<m))=true:=by kernel_rfl)
  (hmo:P.follows .mixedOrders=true:=by kernel_rfl) (hB:okB os.toArray m n=true:=by kernel_rfl):(Code.region id os.toArray true).wp P Q a w:=by
 simp only[æ,Û,Ý]at hj;obtain⟨⟨h1,rfl⟩,h3⟩:=hj;obtain⟨hlen,hget⟩:=Go.Rel.kQ _ _ hob;refine š hmo (Jk (R:=Ext) (C:=Ext w) os.length [] (by rw[S.s.size]; exact hB) Ts BJ (below_drewN (ù _ _) 1) (λ_ _ h k=>Ã h k) (λT hT v w1 w2 hR h=>EF.mem hm T hT v w1 w2 hR h)
  (λi o hi ho=>hget i o (by rw[List.getElem?_take_of_lt hi]; exact ho)) λa' w' hE hd hs hf hout _=>?_)
 have ho:∃o,os[j]?=some o∧o.dst=some d:=by
  cases h:os[j]? with
  | none=>rw[h]at h1; cases h1
  | some o=>rw[h]at h1; exact⟨o,I,h1⟩
 obtain⟨o,ho,hdo⟩:=ho;have hf1:=hf j o (by rw[List.getElem?_take_of_lt h3]; exact ho);have e1:Ts.getD j top=Rel.is V:=by simp[List.getD,hV]
 rw[e1,hdo]at hf1;have hf2:a'.eval (.tmp d)=V:=hf1;rw[List.drop_length];refine next a' w' hE ((S.grow hE).act ⟨hs.trans S.s.size,hd.trans S.s.defers,λi v hi=>?_⟩);rw[ġ]at hi;split at hi
 .rename_i hi2;obtain rfl:i=d:=by simpa using hi2
  rw[<-Ü hi]; exact hf2
 obtain⟨hq,hi⟩:=pO (q:=λx=>os.all λo => !(o.dst==some x)) hi;exact(hout i (by rw[Ħ]; exact hq)).trans (S.s.has i v hi)
end Go.Sx
namespace Go.Proofs.Pv
open Go.RowKit En Na Nb Go.Sx Go.Rel
abbrev Y7{neg n1:Bool}{v:À}{s:List UInt8}{a:Nat}{w:Á}(hv:bI w v s)(hl:s.length<=1000000)(ha:Nb.val s=a)(hn:(neg&&decide (0<a))=n1) :
  Ä prog 252 #[.b neg,v] w λe w'=>∃b d,e = .R (.agg #[.b n1,.s b (LZ a).length d])∧aF w' (.s b (LZ a).length d) (LZ a)∧From w.heap.size (.s b (LZ a).length d)∧Ext w w':=
 (aaN neg v s w hv hl).mono λe w' ⟨x,h1,⟨t,h2,h3,h4⟩,h5⟩=>by
  subst ha hn
  obtain⟨b,d,rfl⟩:=h3.shape
  exact⟨b,d,by rw[h1,h2],h3,h4,h5⟩
abbrev ahx{w:Á}{b o:Nat}{x y:Bool}{k:IntKind}{n:Int}(hx:Bx w b #[.b x,.sn,.b y,.sn])(hc:w.cell? ⟨b,o,none⟩=some (.int k n)):False:=by
 have h:=hc.symm.trans (hx.2.1 o);rcases o with _ | _ | _ | _ | o<;>simp at h
abbrev akG{w:Á}{b o:Nat}{v:À}(h:w.cell? ⟨b,o,none⟩=some v):w.rangeAt b o [v]:=λi u hi=>by
 cases i with
 | zero=>rw[<-Ü hi]; exact h
 | succ i=>cases hi
end Go.Proofs.Pv
namespace Go.Sx
open Go.Proofs.Pv Go.RowKit Go.Rel Na Nb Go.Sx Go.Rel
variable{s b t:Nat}{ty:á}{A:List À}
abbrev aeo{P:Ø}{o:Oper}{ρ:ö->À}{w:Á}{cs:List À}(hx:ρ (.tmp t) = .q b 0)(hy:ρ (.tmp s) = .agg cs.toArray)(hbx:Bx w b A.toArray)(hl:cs.length=A.length)
  (ho:o.op = .store ty (.tmp t) (.tmp s):=by rfl) (hi:(P.info? ty).map (·.size)=some cs.length:=by kernel_rfl) (h1:cs.all (·.oneCell')=true:=by kernel_rfl):Does P o ρ w (λ_ w'=>Ch b w w'∧Bx w' b cs.toArray):=by
 unfold Does;rw[MO ho hx hy hbx hi Z h1];have:=WS hbx 0 cs Z;rw[show spl A 0 cs=cs by simp[spl,hl]]at this;exact⟨(Ch.refl b w).setCells cs 0,this⟩
abbrev rY{P:Ø}{w0 w:Á}{a:Act}{n:Nat}{l:List (Nat×À)}{bl:List (Nat×List À)}{vs:List eU}(S:St w0 a w n l bl vs)(k:Nat){fn:Func}{R:Ļ->Á->Prop}{r:Nat}{v u z:À}(hr:fn.results = #[.cell r ty,.tmp s,.tmp t])(hk:bl[k]?=some (b,A))(h:R (.R (.tuple #[v,u,z])) w)
  (hv:Vp.ev l (.tmp r)=some (.q b 0):=by kernel_rfl) (hu:Vp.ev l (.tmp s)=some u:=by kernel_rfl) (hz:Vp.ev l (.tmp t)=some z:=by kernel_rfl) (hl:Qm P ty A=some v:=by kernel_rfl):bodyPost P fn R .ret a w:=ajJ S k hr hk h hv hu hz hl
abbrev aep{P:Ø}{o:Oper}{ρ:ö->À}{w:Á}{x y:Nat}{a:Option Addr}{n c l h:Nat}(hs:ρ (.tmp s) = .s a n c)(hx:ρ (.tmp x) = .i l)(hy:ρ (.tmp y) = .i h)(hlh:l<=h)(hhc:h<=c){T:Fact}(hT:T (.s (sO a l c 1) (h-l) (c-l)) w)
  (ho:o.op = .slice ty (.tmp s) (some (.tmp x)) (some (.tmp y)) none:=by rfl) (ht:(match P.underlying ty with | some (.slice e)=>(P.info? e).map (·.size)==some 1 | _=>false)=true:=by kernel_rfl) (hd:o.dst.isSome=true:=by rfl):Does P o ρ w (λv w'=>Ext w w'∧T (kept o v) w'):=by
 obtain⟨e,i,ht,hi,hk⟩:∃e i,P.underlying ty=some (.slice e)∧P.info? e=some i∧i.size=1:=by
  split at ht
  .rename_i e he;cases hi:P.info? e with
   | none=>rw[hi]at ht; cases ht
   | some i=>rw[hi]at ht; exact⟨e,i,he,hi,by simpa using ht⟩
  cases ht
 have hrun:(Ù ρ o).run P w = .ok (.value (.s (sO a l c 1) (h-l) (c-l))) w:=by
  unfold Ù;rw[ho];simp only[Ę,Option.map_none,hs,hx,hy,ķ];rw[Y8 ht hi hk (.inr ⟨_,I⟩) (.inr ⟨_,I⟩) (.inl ⟨I,I⟩) hlh hhc (Ó _)];rfl
 unfold Does;rw[hrun];exact⟨ô,by obtain⟨d,hd⟩:=į.1 hd; unfold kept; rw[hd]; exact hT⟩
theorem SS{ρ:ö->À}{L:List (Nat×À)}(hL:∀i v,L.lookup i=some v->ρ (.tmp i)=v):∀(K:List (Nat×Nat×À)),(∀x∈K,ρ (.tmp x.2.1)=x.2.2)->∀i v,(K.map (·.2)++L).lookup i=some v->ρ (.tmp i)=v
 | [],_,i,v,h=>hL i v h
 | x::K,hK,i,v,h=>by
  rw[Ē,ō,ġ]at h
  split at h
  .rename_i hi
   obtain rfl:i=x.2.1:=by simpa using hi
   rw[<-Ü h]; exact hK x ë
  .exact SS hL K (λy hy=>hK y (Ŋ _ hy)) i v h
abbrev akH{P:Ø}{Q:Exit->Act->Á->Prop}{w0 w:Á}{a:Act}{os:List Oper}{n:Nat}{l:List (Nat×À)}{bl:List (Nat×List À)}{vs:List eU}(S:St w0 a w n l bl vs){id kb:Nat}{A':List À}(m k:Nat)(hkb:bl[kb]?=some (b,A))(Ts:List Fact)(KV:List (Nat×Nat×À))(hm:Go.qj.kS k Ext (Ch b) 0 Ts)
  (hob:Go.qj.qL P os.toArray (os.take m) Ts (Go.qj.But k Ext (Ch b)) (Go.qj.G9 k (Ch b w) λu=>Bx u b A.toArray) a.eval 0 (os.take m) Ts)
  (next:∀a' w',Ch b w w'->St w0 a' w' n (KV.map (·.2)++l.filter λp=>os.all λo => !(o.dst==some p.1)) (bl.set kb (b,A')) vs->wpList P os.toArray Q [] a' w') (hV:∀x∈KV,Ts[x.1]?=some (Rel.is x.2.2)) (hK:Ts[k]?=some λ_ u=>Bx u b A'.toArray)
  (hj:(KV.all (λx=>(os[x.1]?).bind (·.dst)==some x.2.1&&decide (x.1<m))&&os.length==m&&decide (k<m))=true:=by kernel_rfl) (hmo:P.follows .mixedOrders=true:=by kernel_rfl) (hB:okB os.toArray m n=true:=by kernel_rfl):(Code.region id os.toArray true).wp P Q a w:=by
 simp only[æ,Û,Ý]at hj;obtain⟨⟨h1,rfl⟩,h3⟩:=hj;have hown:=S.own _ (List.mem_of_getElem? hkb);refine š hmo (Hg os.length (by rw[S.s.size]; exact hB) (Go.qj.But k Ext (Ch b)) (Ch b w) [] k (λu=>Bx u b A.toArray) Ts BJ (Ch.bY (below_drewN (ù _ _) 1)) (hown.1.ext (below_drewN (ù _ _) 1))
  (λi u u' h hR=>by
   unfold Go.qj.But at hR
   split at hR
   .exact Ch.trans h hR
   .exact Ch.trans h (Ch.bY hR)) (λi u u' hi h hR=>by rw[Go.qj.U5 hi]at hR; exact Bx.ext h hR) (Go.qj.kS.mem hm)
  (λi o hi ho=>by have:=(Go.qj.kQ _ _ 0 hob).2 i o (by rw[List.getElem?_take_of_lt hi]; exact ho); rwa [Ĳ]at this) λa' w' hC hd hs hf hout _=>?_)
 have hfx:∀i,∀o,os[i]?=some o->Ts.getD i top (Rel.valOf a'.eval o.dst) w':=λi o ho=>hf i o (by rw[Ħ]; exact ho);have hf3:=hfx k _ (List.getElem?_eq_getElem h3);rw[show Ts.getD k top=λ_ u=>Bx u b A'.toArray by simp[List.getD,hK]]at hf3;rw[List.drop_length];refine next a' w' hC ((S.ch hC hkb hf3 (Ϙ S.E (hC.below hown.2 S.E.size))).act ⟨hs.trans S.s.size,hd.trans S.s.defers,SS (λi v hi=>?_) KV λx hx=>?_⟩)
 .obtain⟨hq,hi⟩:=pO (q:=λx=>os.all λo => !(o.dst==some x)) hi;refine(kR (hout i λj o hj ho e=>?_)).trans (S.s.has i v hi);have:=ø.1 hq o (List.mem_of_getElem? (i:=j) (by simpa using ho));simp[e]at this
 have h4:=ø.1 h1 x hx;simp only[æ,Û,Ý]at h4;have h5:=hfx x.1 _ (List.getElem?_eq_getElem h4.2);rw[show Ts.getD x.1 top=Rel.is x.2.2 by simp[List.getD,hV x hx]]at h5;rw[List.getElem?_eq_getElem h4.2,Ο]at h4;rw[h4.1]at h5;exact h5
end Go.Sx
namespace Go.Proofs.Pv
open Go.RowKit En Na Nb Go.Sx Go.Rel
abbrev rv (n1:Bool)(a b':Nat)(g1 g2:Option Addr)(d1 d2:Nat):À := .agg #[.b n1,.s g1 (LZ a).length d1,.z,.s g2 (LZ b').length d2]
abbrev ahy{l:List UInt8}{p:Nat}(hp:p<=l.length)(h:((((l.length-p:Nat):Int))==0)=true):p=l.length:=by
 rw[Û]at h; omega
abbrev akI{c:UInt8}(h:decide ((1:Int)<(c.toNat:Int))=true):1<c.toNat:=by
 have:=å h; omega
abbrev aer{nb:Bool}{a b:Nat}{c:UInt8}{t:List UInt8}(hc:(c.toNat==1)=nb) :
  ((Gy (nb&&decide (0<a)) a b&&(iG (nb&&decide (0<a),a,b)==c::t))=(Gy nb a b&&(iG (nb,a,b)==c::t))) ∧
  ((Gy (nb&&decide (0<a)) a b&&(iG (nb&&decide (0<a),a,b)==c::t))=true->(nb&&decide (0<a))=nb):=by
 cases nb
 .simp
 rcases ę a with h | h
 .subst h;have e:(iG (true&&decide (0<0),0,b)==c::t)=false:=by
   rw[ä];intro e;simp only[iG,Nat.lt_irrefl,decide_false,Bool.and_false]at e;have:=(List.cons.inj e).1;rw[<-this]at hc;simp at hc
  have e2:Gy true 0 b=false:=by unfold Gy; rw[jF]; rfl
  rw[e,e2,Bool.and_false,ŕ];exact⟨I,λh=>by cases h⟩
 rw[İ h]; simp
abbrev O9(v:À)(l:List UInt8)(i:Int)(w:Á)(hv:bI w v l)(hl:l.length<=60000000) :
  Ä prog 217 #[v,.i i] w (YZ w (Je l i)):=by
 obtain⟨a0,c0,rfl⟩:=hv.shape;refine Ë func217 ntmps217 λS=>Í S (λu b2 E3 hb4 S=>?_);have hlt0:=(S.bx 0).1;by_cases hbad:i<0∨(l.length:Int)<i
 .refine jc S (I7 _ l i _ (hv.below S.E) hbad) λS=>â S λS=>à S 0 I λu C9 S=>zre S (λS=>?_);refine Sx.rY S 0 results217 I (v:=oD) (u := .i 0) (z := .i 2) ?_;rw[OZ hbad];exact lD S.E
 obtain⟨p,rfl⟩:∃p:Nat,i=p:=⟨i.toNat,Z⟩;have hp:p<=l.length:=Z
 have hsz0:=S.E.size;refine î S (OM _ l p _ (hv.below S.E) hp) ?_;rintro e u ⟨b,rfl,hr,NQ,hb⟩;have hbw:w.heap.size<=b:=Z
 refine⟨_,I,NQ,λS=>?_⟩;refine ú S λS=>Þ S ((Sz _ l b p _ hr.row hr.c0 hr.c1 hr.hp).mono λe w' ⟨h,n,hn⟩=>⟨h,(show Ext _ w' from hn▸below_drewN (ù _ _) n)⟩) λu KA S=>È S ((((l.length-p:Nat):Int))==0) (λhc16 S=>?_) (λhc16 S=>?_)
 .refine à S 0 I λu Ϻ S=>zre S (λS=>?_);refine Sx.rY S 0 results217 I (v:=oD) (u := .i 0) (z := .i 4) ?_;rw[O4 (p:=p) (ahy hp hc16)];exact lD S.E
 have hpl:p<l.length:=Nat.lt_of_le_of_ne hp λe=>by rw[e,Κ]at hc16; cases hc16
 obtain⟨c,hc⟩:∃c,l[p]?=some c:=⟨_,List.getElem?_eq_getElem hpl⟩;have hdc:(l.drop p).take 1=[c]:=by rw[Ķ hpl]; rw[List.getElem?_eq_getElem hpl]at hc; rw[Ü hc]; rfl
 have hX:Bx _ b2 #[.z,.sn,.z,.sn]:=S.pV 0;refine ċ S λS=>LQ S (some 32) ô S.E (λp hp=>by cases hp) (next_any l b p 1 _ _ ((Rd.ext hr KA)) Z Z) ?_;rintro e u ⟨v3,rfl,hr3,hch,hv3,-⟩;rw[hdc]at hv3;obtain⟨b3,o3,cp3,rfl,hb3,hl3,ς,hc3⟩:=dH hv3 I Y;have hc4:=hc3 0 Y;have ϡ:=hX.ch hch Z;refine⟨_,_,I,Ϙ S.E (hch.below hbw S.E.size),ϡ,λac S=>?_⟩;refine Y9 S (λS=>?_);have S:=S.view hb3 (akG hc4) (λp hp e=>by rw[Ā.1 hp]at e; subst e; exact ahx ϡ hc4);refine Å S 5 [] [.idx 0 1,.M 1 0] (hk:=⟨O,G⟩) λS=>È S (decide (1<(c.toNat:Int))) (λhc22 S=>?_) (λhc22 S=>?_)
 .refine à S 0 I λu LV S=>zre S (λS=>?_);refine Sx.rY S 0 results217 I (v:=oD) (u := .i 0) (z := .i 3) ?_;rw[Jf hc (akI hc22)];exact lD S.E
 have hs:¬1<c.toNat:=by have:=ñ hc22; omega
 have hE:(∃er,uD 4096 (l.drop (p+1)) = .error er)∨∃r,uD 4096 (l.drop (p+1)) = .ok r:=by cases uD 4096 (l.drop (p+1))with | error er=>exact .inl ⟨er,I⟩ | ok r=>exact .inr ⟨r,I⟩
 rcases hE with hE | hE
 .obtain⟨er,hu⟩:=hE;have he:=O6 hu;have HN:=uF l b (p+1) _ 4096 _ hr3 Z Z;rw[hu]at HN;have hX:Bx _ b2 #[.z,.sn,.z,.sn]:=S.pV 0;refine ċ S λS=>LQ S (some 40) ô S.E (λp hp=>by cases hp) (HN) ?_;rintro e u ⟨q,hr4,hch,rfl⟩;have ϡ:=hX.ch hch Z;refine⟨_,_,I,Ϙ S.E (hch.below hbw S.E.size),ϡ,λac S=>?_⟩;refine Y9 S λS=>Å S 7 [] [.re 44 (.b ((er:Int) != 0)) (.b true)] (hk:=⟨(Ñ Value.b he),G⟩) λS=>â S λS=>à S 0 I (λu Ū S=>?_);have S:=S.fl;refine zre S (λS=>?_);refine Sx.rY S 0 results217 I (v:=oD) (u := .i 0) (z := .i er) ?_;rw[WO hc hs hu];exact lD S.E
 obtain⟨⟨s1,k1⟩,hu⟩:=hE;obtain⟨apQ,auS,auT⟩:=Y0 hu;rw[Ŵ]at apQ;have HN:=uF l b (p+1) _ 4096 _ hr3 Z Z;rw[hu]at HN;have hX:Bx _ b2 #[.z,.sn,.z,.sn]:=S.pV 0;refine ċ S λS=>LQ S (some 40) ô S.E (λp hp=>by cases hp) (HN) ?_;rintro e u ⟨q1,hr4,hch,hq1,x4,rfl,hx1⟩;have ϡ:=hX.ch hch Z;refine⟨_,_,I,Ϙ S.E (hch.below hbw S.E.size),ϡ,λac S=>?_⟩;refine Y9 S (λS=>?_);subst hq1;refine ú S (λS=>?_);have hE:(∃er,uD 4096 (l.drop (p+1+k1)) = .error er)∨∃r,uD 4096 (l.drop (p+1+k1)) = .ok r:=by cases uD 4096 (l.drop (p+1+k1))with | error er=>exact .inl ⟨er,I⟩ | ok r=>exact .inr ⟨r,I⟩
 rcases hE with hE | hE
 .obtain⟨er,hu2⟩:=hE;have he:=O6 hu2;have HN:=uF l b (p+1+k1) _ 4096 _ hr4 Z Z;rw[hu2]at HN;have hX:Bx _ b2 #[.z,.sn,.z,.sn]:=S.pV 0;refine ċ S λS=>LQ S (some 49) ô S.E (λp hp=>by cases hp) (HN) ?_;rintro e u ⟨q,hr4,hch,rfl⟩;have ϡ:=hX.ch hch Z;refine⟨_,_,I,Ϙ S.E (hch.below hbw S.E.size),ϡ,λac S=>?_⟩;refine Y9 S λS=>Å S 7 [] [.re 53 (.b ((er:Int) != 0)) (.b true)] (hk:=⟨(Ñ Value.b he),G⟩) λS=>â S λS=>à S 0 I λu Ph S=>zre S (λS=>?_);refine Sx.rY S 0 results217 I (v:=oD) (u := .i 0) (z := .i er) ?_;rw[WQ hc hs hu hu2];exact lD S.E
 obtain⟨⟨s2,k2⟩,hu2⟩:=hE;obtain⟨apR,auU,auV⟩:=Y0 hu2;rw[Ŵ]at apR;have HN:=uF l b (p+1+k1) _ 4096 _ hr4 Z Z;rw[hu2]at HN;have hX:Bx _ b2 #[.z,.sn,.z,.sn]:=S.pV 0;refine ċ S λS=>LQ S (some 49) ô S.E (λp hp=>by cases hp) (HN) ?_;rintro e u ⟨q2,hr5,hch,hq2,x5,rfl,hx2⟩;have hx1:=aS (acs hx1 hch hr3.lt);have ϡ:=hX.ch hch Z;refine⟨_,_,I,Ϙ S.E (hch.below hbw S.E.size),ϡ,λac S=>?_⟩;refine Y9 S λS=>ú S (λS=>?_);obtain⟨nb,hnb⟩:∃nb,(c.toNat==1)=nb:=⟨_,I⟩;obtain⟨a,ha⟩:∃a,Nb.val s1=a:=⟨_,I⟩;obtain⟨b',hb'⟩:∃b',Nb.val s2=b':=⟨_,I⟩;obtain⟨n1,hn1⟩:∃n1,(nb&&decide (0<a))=n1:=⟨_,I⟩;have hsl:(l.take q2).drop p=c::((l.take q2).drop (p+1)):=by rw[Ķ (by simp; omega)]; rw[List.getElem?_eq_getElem hpl]at hc; rw[ayP,Ü hc]
 have hcond:=aer (nb:=nb) (a:=a) (b:=b') (c:=c) (t:=(l.take q2).drop (p+1)) hnb;rw[<-hsl,hn1]at hcond;rw[O5 hc hs hu hu2,hnb,ha,hb',<-hq2,<-hcond.1];have hla:(LZ a).length<=4096:=by have:=yP s1; rw[ha]at this; omega
 have hlb:(LZ b').length<=4096:=by have:=yP s2; rw[hb']at this; omega
 have hn0:n1=true->0<a:=λh=>by rw[<-hn1]at h; simp only[æ,Ý]at h; exact h.2
 have hz1:=S.E.size;have hl1:=(S.bx 0).1;refine Å S 3 [] [.re 57 (.b ((c.toNat:Int)==1)) (.b nb)] (hk:=⟨(Ñ Value.b (by rw[<-hnb,ĩ,Û,Û]; omega)),G⟩) λS=>î S (Y7 (hx1) Z ha hn1) ?_;rintro e u ⟨g1,d1,rfl,ht1,hf1,Ż⟩;refine⟨_,I,Ż,λS=>?_⟩;have hz2:=S.E.size;have hl2:=(S.bx 0).1;refine î S (Y7 (n1:=false) ((((aS hx2)).below Ż)) Z hb' (ŕ _)) ?_;rintro e u ⟨g2,d2,rfl,ht2,hf2,Qq⟩;refine⟨_,I,Qq,λS=>?_⟩;refine Í S λu b42 ż auW S=>à S 0 I (λu C45 S=>?_);have Ρ:=Ö (Ã Ż (Ã Qq ż)) C45 (by have:=(Ã Ż Qq).size; omega);have E47:=Ö (Ã Qq ż) C45 (by have:=Qq.size; omega);have Vx:=Ö ż C45;have hR:=((Rd.ext hr5 Ρ));have hT1:=((ht1.below E47));have hT2:=((ht2.below Vx));have hV:=eF (hv.below S.E);have hcap:=jo hV;have hq5:q2<=l.length:=Z
 have hSL:=gq (oP hV (l:=p) (h':=q2) (m:=c0) Z hq5 Z (Ó _));rw[<-List.drop_take]at hSL;obtain⟨qb,ο⟩:∃z,Gy n1 a b'=z:=⟨_,I⟩;obtain⟨sm,hsm⟩:∃z,(iG (n1,a,b')==(l.take q2).drop p)=z:=⟨_,I⟩;cases qb
 .have S:=S.fl;refine Ů S f217 16 (λS iz=>?_);have S:=S.sub [(0,.s a0 l.length c0),(1,.i p),(4,.q b2 0),(7,.q b 0),(12,.q b42 0)];refine Sx.aen S 17 [Rel.is (rv n1 a b' g1 g2 d1 d2),Rel.is (.z),Rel.is (.b true),Rel.is (.b true),Rel.top,Rel.top,Rel.top,Rel.top,Rel.top,Rel.top,Rel.top,Rel.top,Rel.top,Rel.top,Rel.top,Rel.top,Rel.is (.b true)] 16 79 (.b true) ⟨aB _,aB _,aB _,aB _,λ_ _ _ _ k=>k,λ_ _ _ _ k=>k,λ_ _ _ _ k=>k,λ_ _ _ _ k=>k,λ_ _ _ _ k=>k,λ_ _ _ _ k=>k,λ_ _ _ _ k=>k,λ_ _ _ _ k=>k,λ_ _ _ _ k=>k,λ_ _ _ _ k=>k,λ_ _ _ _ k=>k,λ_ _ _ _ k=>k,aB _,G⟩ ⟨λρ u1 hs ho hC hD=>Sx.Δ ((ho 12 I).trans (S.s.ev I)) (((S.bx 0).ext hC).range 0 4 I),
   λρ u1 hs ho hC hD=>Sx.dc (T:=Rel.is (.z)) hs [(63,rv n1 a b' g1 g2 d1 d2)] ⟨hD.1 I,G⟩ ((((Aa n1 _ _ a b' _ (hT1.below hC) (hT2.below hC) Z Z hn0).mono λe w2 h=>⟨h.1.trans (by rw[ο]),h.2⟩:Ä _ _ _ _ (RF _ (.z)))).mono λe w2 h=>⟨_,h.1,h.2,I⟩),
   λρ u1 hs ho hC hD=>Sx.dv hs [(64,.z)] ⟨hD.1 I,G⟩,
   λρ u1 hs ho hC hD=>Sx.dv hs [(65,.b true)] ⟨hD.1 I,G⟩,
   λρ u1 hs ho hC hD=>⟨λhn=>absurd ((hD.1 I).symm.trans hn) Y,λ_=>trivial⟩,
   λρ u1 hs ho hC hD=>⟨λhn=>absurd ((hD.2.1 I).symm.trans hn) Y,λ_=>trivial⟩,
   λρ u1 hs ho hC hD=>⟨λhn=>absurd ((hD.1 I).symm.trans hn) Y,λ_=>trivial⟩,
   λρ u1 hs ho hC hD=>⟨λhn=>absurd ((hD.1 I).symm.trans hn) Y,λ_=>trivial⟩,
   λρ u1 hs ho hC hD=>⟨λhn=>absurd ((hD.1 I).symm.trans hn) Y,λ_=>trivial⟩,
   λρ u1 hs ho hC hD=>⟨λhn=>absurd ((hD.2.1 I).symm.trans hn) Y,λ_=>trivial⟩,
   λρ u1 hs ho hC hD=>⟨λhn=>absurd ((hD.2.1 I).symm.trans hn) Y,λ_=>trivial⟩,
   λρ u1 hs ho hC hD=>⟨λhn=>absurd ((hD.2.1 I).symm.trans hn) Y,λ_=>trivial⟩,
   λρ u1 hs ho hC hD=>⟨λhn=>absurd ((hD.2.1 I).symm.trans hn) Y,λ_=>trivial⟩,
   λρ u1 hs ho hC hD=>⟨λhn=>absurd ((hD.2.2.2.1 I).symm.trans hn) Y,λ_=>trivial⟩,
   λρ u1 hs ho hC hD=>⟨λhn=>absurd ((hD.2.2.2.1 I).symm.trans hn) Y,λ_=>trivial⟩,
   λρ u1 hs ho hC hD=>⟨λhn=>absurd ((hD.2.1 I).symm.trans hn) Y,λ_=>trivial⟩,
   λρ u1 hs ho hC hD=>Sx.dv hs [(66,.b true),(78,ρ (.tmp 78))] ⟨hD.1 I,I,G⟩,G⟩ (λac u E51 S=>?_) I
  refine zdF S 17 λS=>â S λS=>à S 1 I λu C53 S=>zre S (λS=>?_);refine Sx.rY S 1 results217 I (v:=oD) (u := .i 0) (z := .i 3) ?_;rw[ο,ŕ,É O];exact lD S.E
 have S:=S.fl;refine Ů S f217 16 (λS iz=>?_);have S:=S.sub [(0,.s a0 l.length c0),(1,.i p),(4,.q b2 0),(7,.q b 0),(12,.q b42 0)];refine Sx.aen S 17 [Rel.is (rv n1 a b' g1 g2 d1 d2),Rel.is (.b true),Rel.is (.z),Rel.is (.z),Rel.is (rv n1 a b' g1 g2 d1 d2),(λv w1=>bI w1 v (iG (n1,a,b'))),Rel.is (.s a0 l.length c0),Rel.is (.i p),Rel.is (.q b 0),Rel.is (.q b 0),Rel.is (.q b 0),Rel.is (.q b 1),Rel.is (.i q2),(λv w1=>bI w1 v ((l.take q2).drop p)),Rel.is (.b sm),Rel.is (.b (!sm)),Rel.is (.b (!sm))] 16 79 (.b (!sm)) ⟨aB _,aB _,aB _,aB _,aB _,λ_ _ _ k h=>h.below k,aB _,aB _,aB _,aB _,aB _,aB _,aB _,λ_ _ _ k h=>h.below k,aB _,aB _,aB _,G⟩ ⟨λρ u1 hs ho hC hD=>Sx.Δ ((ho 12 I).trans (S.s.ev I)) (((S.bx 0).ext hC).range 0 4 I),
  λρ u1 hs ho hC hD=>Sx.dc (T:=Rel.is (.b true)) hs [(63,rv n1 a b' g1 g2 d1 d2)] ⟨hD.1 I,G⟩ ((((Aa n1 _ _ a b' _ (hT1.below hC) (hT2.below hC) Z Z hn0).mono λe w2 h=>⟨h.1.trans (by rw[ο]),h.2⟩:Ä _ _ _ _ (RF _ (.b true)))).mono λe w2 h=>⟨_,h.1,h.2,I⟩),
  λρ u1 hs ho hC hD=>Sx.dv hs [(64,.b true)] ⟨hD.1 I,G⟩,
  λρ u1 hs ho hC hD=>Sx.dv hs [(65,.z)] ⟨hD.1 I,G⟩,
  λρ u1 hs ho hC hD=>⟨λ_=>Sx.Δ ((ho 12 I).trans (S.s.ev I)) (((S.bx 0).ext hC).range 0 4 I),λhn=>absurd (hD.1 I) hn⟩,
  λρ u1 hs ho hC hD=>⟨λ_=>Sx.dc (T:=λv w1=>bI w1 v (iG (n1,a,b'))) hs [(67,rv n1 a b' g1 g2 d1 d2)] ⟨hD.1 I,G⟩ ((by have h:=vY n1 false _ _ _ _ u1 (hT1.below hC) (hT2.below hC) Z Z; rw[L6,L6,O7 ο]at h; exact h.mono λe w2 ⟨v,h1,h2,h3⟩=>⟨v,h1,h3,aS h2⟩)),λhn=>absurd (hD.2.1 I) hn⟩,
  λρ u1 hs ho hC hD=>⟨λ_=>Sx.dv hs [(0,.s a0 l.length c0)] ⟨(ho 0 I).trans (S.s.ev I),G⟩,λhn=>absurd (hD.1 I) hn⟩,
  λρ u1 hs ho hC hD=>⟨λ_=>Sx.dv hs [(1,.i p)] ⟨(ho 1 I).trans (S.s.ev I),G⟩,λhn=>absurd (hD.1 I) hn⟩,
  λρ u1 hs ho hC hD=>⟨λ_=>Sx.dv hs [(7,.q b 0)] ⟨(ho 7 I).trans (S.s.ev I),G⟩,λhn=>absurd (hD.1 I) hn⟩,
  λρ u1 hs ho hC hD=>⟨λ_=>Sx.dv hs [(71,.q b 0)] ⟨hD.1 I,G⟩,λhn=>absurd (hD.2.1 I) hn⟩,
  λρ u1 hs ho hC hD=>⟨λ_=>Sx.dv hs [(72,.q b 0)] ⟨hD.1 I,G⟩,λhn=>absurd (hD.2.1 I) hn⟩,
  λρ u1 hs ho hC hD=>⟨λ_=>Sx.dv hs [(73,.q b 0)] ⟨hD.1 I,G⟩,λhn=>absurd (hD.2.1 I) hn⟩,
  λρ u1 hs ho hC hD=>⟨λ_=>Sx.Δ (hD.1 I) (akG ((hC.cell (p:=⟨b,1,none⟩) hR.lt).trans hR.c1)),λhn=>absurd (hD.2.1 I) hn⟩,
  λρ u1 hs ho hC hD=>⟨λ_=>Sx.aep (T:=λv w1=>bI w1 v ((l.take q2).drop p)) (hD.1 I) (hD.2.1 I) (hD.2.2.1 I) Z Z (hSL.below hC),λhn=>absurd (hD.2.2.2.1 I) hn⟩,
  λρ u1 hs ho hC hD=>⟨λ_=>Sx.dc (T:=Rel.is (.b sm)) hs [(68,ρ (.tmp 68)),(76,ρ (.tmp 76))] ⟨I,I,G⟩ ((((lC _ _ _ _ _ (hD.1 I) (hD.2.1 I)).mono λe w2 h=>⟨h.1.trans (by rw[hsm]),h.2▸ô⟩:Ä _ _ _ _ (RF _ (.b sm)))).mono λe w2 h=>⟨_,h.1,h.2,I⟩),λhn=>absurd (hD.2.2.2.1 I) hn⟩,
  λρ u1 hs ho hC hD=>⟨λ_=>Sx.dv hs [(77,.b sm)] ⟨hD.1 I,G⟩,λhn=>absurd (hD.2.1 I) hn⟩,
  λρ u1 hs ho hC hD=>Sx.dv hs [(66,.z),(78,.b (!sm))] ⟨hD.1 I,hD.2.1 I,G⟩,G⟩ (λac u ϲ S=>?_) I
 refine zdF S 17 λS=>È S (!sm) (λLc S=>?_) (λLc S=>?_)
 .refine à S 1 I (λu C57 S=>?_);have S:=S.fl;refine zre S (λS=>?_);refine Sx.rY S 1 results217 I (v:=oD) (u := .i 0) (z := .i 3) ?_;obtain rfl:sm=false:=by simpa using Lc
  rw[hsm,Bool.and_false,É O];exact lD S.E
 have hRf:=((Rd.ext hr5 (Ã Ρ ϲ)));have hgb:b42≠b2:=λe=>by have h:=S.apart; rw[Ē,ŵ]at h; exact h.1 (by simp[e])
 have hbb:b≠b2:=Z
 have S:=S.fl;refine Ů S f217 18 (λS iz=>?_);have S:=S.sub [(4,.q b2 0),(7,.q b 0),(12,.q b42 0)];refine Sx.akH S 9 6 (kb:=1) I [Rel.is (rv n1 a b' g1 g2 d1 d2),Rel.is (.q b 0),Rel.is (.q b 0),Rel.is (.q b 0),Rel.is (.q b 1),Rel.is (.i q2),λ_ u=>Bx u b2 (List.toArray [.b n1,.s g1 ((LZ a).length) d1,.z,.s g2 ((LZ b').length) d2]),Rel.is (.i q2),Rel.is (.i 0)] [(7,5,.i q2),(8,6,.i 0)] ⟨aB _,λ_=>aB _,aB _,λ_=>aB _,aB _,λ_=>aB _,aB _,λ_=>aB _,aB _,λ_=>aB _,aB _,λ_=>aB _,λ_ _ _ h x=>x.ext h,λh=>absurd I h,aB _,λ_=>aB _,aB _,λ_=>aB _,G⟩ ⟨λρ u1 hs ho hC hD=>Sx.Δ ((ho 12 I).trans (S.s.ev I)) (((S.bx 0).ch hC.1 hgb).range 0 4 I),λρ u1 hs ho hC hD=>Sx.dv hs [(7,.q b 0)] ⟨((ho 7 I).trans (S.s.ev I)),G⟩,λρ u1 hs ho hC hD=>Sx.dv hs [(82,.q b 0)] ⟨(hD.1 I),G⟩,λρ u1 hs ho hC hD=>Sx.dv hs [(83,.q b 0)] ⟨(hD.1 I),G⟩,λρ u1 hs ho hC hD=>Sx.dv hs [(84,.q b 0)] ⟨(hD.1 I),G⟩,λρ u1 hs ho hC hD=>Sx.Δ (hD.1 I) (akG ((hC.1.cell (p:=⟨b,1,none⟩) hRf.lt hbb).trans hRf.c1)),λρ u1 hs ho hC hD=>Sx.aeo ((ho 4 I).trans (S.s.ev I)) (hD.1 I) (hC.2 I) I,λρ u1 hs ho hC hD=>Sx.dv hs [(86,.i q2)] ⟨(hD.1 I),G⟩,λρ u1 hs ho hC hD=>Sx.dv hs [] trivial,G⟩ (λac u hCf S=>?_) Y I;refine zdF S 9 λS=>zre S (λS=>?_);refine Sx.rY S 1 results217 I (v:=rv n1 a b' g1 g2 d1 d2) (u := .i q2) (z := .i 0) ?_;obtain rfl:sm=true:=by simpa using Lc
 have hnn:=hcond.2 (by rw[ο,hsm]; rfl);rw[ο,hsm,Bool.and_self,Ï I,<-hnn];exact⟨_,I,⟨_,_,I,(((ht1.below (Ã E47 ϲ)))).ch hCf λ_=>hf1.off Z,(((ht2.below (Ã Vx ϲ)))).ch hCf λ_=>hf2.off Z,hf1.mono Z,hf2.mono Z⟩,S.E⟩
end Go.Proofs.Pv
end
abbrev ó:=@Go.Sx.dv
