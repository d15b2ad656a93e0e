/- Walk of the reference on -/
import Derived.IntWalk
import Derived.Test.YtodpgjjgaddkeaaGreatDoorPk7
set_option maxHeartbeats 9999999
open Go renaming World->Á,Value->À,Calls->Ä,Program->Ø,Oper->Ì,execOp->Ù,Operand->ö,Act->í,Addr->Ĥ,wpAny->ď
open Go.Proofs.Tryz
set_option maxRecDepth 100000
set_option linter.unusedVariables false
set_option linter.unusedSimpArgs false
namespace Go.Proofs.Pv
section
open Go.RowKit Na
variable{α:Type}
abbrev Vd(v u:À)(l m:List UInt32)(w:Á)(hv:aF w v l)(hu:aF w u m)(hl:l.length<=50000000)(hm:m.length<=50000000) :
  Ä prog 244 #[v,u] w λe w'=>∃v',e = .R v'∧Fv w.heap.size w' v' (LZ (Pq l*Pq m))∧Ext w w':=by
 have H1:=Â hv;have H2:=Â hu;obtain⟨a1,c1,rfl⟩:=hv.shape;obtain⟨a2,c2,rfl⟩:=hu.shape;clear hv hu;obtain⟨N,hN⟩:∃N,N=l.length+m.length+1:=⟨_,I⟩;have hNN:((l.length:Int)+(m.length:Int)+1)=(N:Int):=Z
 have hN1:N<=100000001:=Z
 have h63:N<=maxLen:=by unfold maxLen; omega
 have hby:4*N<=281474976710656:=Z
 have HN:=Â hN;clear hN;go_enter func244,ntmps244
 go_wp2_with (at_make; refine wpList_make_row I _ _ _ I kL I w.heap.size N I I I hby h63 (Ó _) ?_; intro w1 hown hg)
 have hb1:=fU (ù w.heap.size w) hg (Ó _);clear hg;have HO:=Â hown;clear hown hNN;go_loopw [6] (λiv wr=>∃(i:Nat) (out:List UInt32),i<=l.length∧iv = .i i∧out.length=N∧Pq out=Pq (l.take i)*Pq m∧Na.Clear (i+m.length) out ∧
  wr.ownsRow w.heap.size 119 1 (.s (some ⟨w.heap.size,0,none⟩) N N) N (out.map aU)∧Ext w wr) (λiv _=>l.length-(intOf iv).toNat)
 case atStart=>exact⟨0,List.replicate N 0,Õ _,I,by simp,by rw[DR]; simp[Pq],(LH N).mono (Õ _),by simpa[aU]using HO.out,hb1⟩
 case round =>
  obtain⟨i,out,hi,rfl,hol,hval,acH,hown,hbel⟩:=hrel;have HOL:=Â hol;have nR:=Â hval;have HW:=Â hown;have HC:=Â acH;have HB:=Â hbel;clear hol hval hown acH HO hbel;by_cases hlt:i<l.length
  .obtain⟨wo,rfl⟩:∃wo:Á,wo=wr:=⟨_,I⟩;obtain⟨bx,ox,cx,hxs,hbx,hlx,hmx,hcx⟩:=dH H1.out I Z;simp only[Ĉ]at hxs;obtain⟨rfl,-,-⟩:=hxs;have HCK:=Â (λ(wr:Á) (h:Ext w wr)=>(h.cell (p:=⟨bx,ox+i,none⟩) hbx).trans (hcx i hlt));have T0:=Â (Na.bT l i hlt);clear hcx;generalize l[i]=x at *;have g0:=x.toNat_lt;have x0:=fA x;have hi1:(0:Int)<=(i:Int):=Z
   have hi2:(i:Int)<(l.length:Int):=Z
   go_wp2_with fail
   go_loopw [7,8] (λcv kv wr=>∃(k c:Nat) (o2:List UInt32),k<=m.length∧kv = .i k∧cv = .int .u64 c∧c<4294967296∧o2.length=N∧Pq o2+JH^(i+k)*c=Pq out+JH^i*(x.toNat*Pq (m.take k)) ∧
    Na.Clear (i+m.length) o2∧wr.ownsRow w.heap.size 119 1 (.s (some ⟨w.heap.size,0,none⟩) N N) N (o2.map aU)∧Ext w wr) (λ_ kv _=>m.length-(intOf kv).toNat)
   case atStart=>exact⟨0,0,out,Õ _,I,I,Z,HOL.out,by simp[Pq],HC.out,HW.out,HB.out⟩
   case round =>
    obtain⟨k,c,o2,hk,rfl,rfl,hc,acI,QK,QL,hown2,QM⟩:=hrel;have NM:=Â acI;have Hu:=Â QK;have HW2:=Â hown2;have HC2:=Â QL;have HB2:=Â QM;have hNi:i+m.length<N:=by have:=HN.out; omega
    clear acI QK hown2 QL QM HW HC HB HOL;by_cases hkl:k<m.length
    .have hck:=HCK.out wr HB2.out;obtain⟨by',oy,cy,hys,ajF,hly,hmy,hcy⟩:=dH H2.out I Z;simp only[Ĉ]at hys;obtain⟨rfl,-,-⟩:=hys;have hcl:wr.cell? ⟨by',oy+k,none⟩=some (aU m[k]):=by rw[HB2.out.cell (p:=⟨by',oy+k,none⟩) ajF]; exact hcy k hkl
     have T1:=Â (Na.bT m k hkl);generalize m[k]=y at *;have ajG:i+k<N:=Z
     have DV:i+k<o2.length:=by rw[NM.out]; exact ajG
     have hco:=HW2.out.cellAt (i+k) Z;rw[List.getElem?_map,List.getElem?_eq_getElem DV,Ę]at hco;have hog:o2.getD (i+k) 0=o2[i+k]:=by simp[List.getD,List.getElem?_eq_getElem DV]
     have hfz:=HW2.out.frozenAt (i+k);generalize o2[i+k]=o at *;have g1:=y.toNat_lt;have g2:=o.toNat_lt;have y0:=fA y;have o0:=fA o;obtain⟨t,s,n,ht,hs,hn,hmul,hs1,hs2,hnb⟩:=QN g0 g1 g2 hc;have hs3:IntKind.u64.wrap ((s:Int)+(c:Int))=(n:Int):=(Ñ IntKind.u64.wrap (Int.add_comm _ _)).trans hs2;have HST:=Â (QO (t:=t) DV Hu.out (show n=t+(o2.getD (i+k) 0).toNat+c by rw[hog]; omega));rw[ht]at HST;have hmod:(n:Int)%4294967296=((UInt32.ofNat n).toNat:Int):=dgI n;have hdiv:(n:Int)/4294967296=((n/JH:Nat):Int):=dvI n;have hc':n/JH<4294967296:=ϓ hnb;generalize hq:n/JH=c' at *;obtain⟨d,hd⟩:∃d,UInt32.ofNat n=d:=⟨_,I⟩;rw[hd]at hmod HST;have hk1:(0:Int)<=(k:Int):=Z
     have hk2:(k:Int)<(m.length:Int):=Z
     have apd:IntKind.i64.wrap ((i:Int)+(k:Int))=(i:Int)+(k:Int):=IntWalk.i64_in _ Z;have auJ:(0:Int)<=(i:Int)+(k:Int):=Z
     have auK:(i:Int)+(k:Int)<(N:Int):=Z
     have auL:((i:Int)+(k:Int)).toNat=i+k:=Z
     clear hcy hog ht hs hn hq hd hnb Hu;go_wp2_with fail
     go_quiet (fail)
     clear apd;go_wp2_with fail
     go_roundw
     case rel =>
      refine⟨k+1,c',o2.set (i+k) d,Z,by go_num,I,hc',by rw[List.length_set]; exact NM.out,?_,HC2.out.set Z,by rw[Š]; exact((dO HW2.out (below_drewN ô _)).stored (i+k) (aU d)).1,(below_drewN HB2.out _).setCell (p:=⟨w.heap.size,i+k,none⟩) (Ó _) _⟩;rw[<-Ξ,HST.out,T1.out,Yk]
     case measure=>simp[intOf]; omega
    obtain rfl:k=m.length:=by omega
    have DV:i+m.length<o2.length:=by rw[NM.out]; exact hNi
    have HST:=Â (Yl DV Hu.out (HC2.out _ (Ó _)) hc);obtain⟨d,rfl⟩:∃d:UInt32,c=d.toNat:=⟨UInt32.ofNat c,(bJ hc).symm⟩;rw[show UInt32.ofNat d.toNat=d by simp]at HST;obtain⟨⟨cv,hcell⟩,hfz⟩:=qh HW2.out (i+m.length) hNi;have hst:=HW2.out.stored (i+m.length) (aU d);rw[<-Š]at hst;have HS:=Â hst;clear hst;go_wp2_with fail
    go_roundw
    case rel =>
     refine⟨i+1,o2.set (i+m.length) d,Z,by go_num,by rw[List.length_set]; exact NM.out,?_,by rw[show i+1+m.length=i+m.length+1 by omega]; exact HC2.out.acJ,HS.out.1,HB2.out.setCell (p:=⟨w.heap.size,i+m.length,none⟩) (Ó _) _⟩;rw[HST.out,nR.out,Ħ,QS,T0.out]
    case measure=>simp[intOf]; omega
  obtain rfl:i=l.length:=by omega
  have hs:=dI _ _ _ (nV HOL.out HW.out) (by rw[HOL.out]; omega);rw[nR.out,Ħ]at hs;have HS:=Â hs;clear hs;go_wp2_with fail
  refine HS.out.mono ?_;rintro e w' ⟨v',rfl,hr,hb⟩;have HR:=Â (bK hr HB.out.size);have HX:=Â (Ã HB.out hb);clear hr hb;go_wp2_with fail
  go_ret
  exact⟨_,I,HR.out,HX.out⟩
abbrev ZW(v u:À)(l m:List UInt32)(w:Á)(hv:aF w v l)(hu:aF w u m)(hlt:Pq l<Pq m) :
  Ä prog 289 #[v,u] w (RF w (.tuple #[.sn,.z])):=by
 have hc:=Aj v u l m w hv hu;rw[yH hlt]at hc;have HC:=Â hc;obtain⟨a1,c1,rfl⟩:=hv.shape;obtain⟨a2,c2,rfl⟩:=hu.shape;clear hc hv hu hlt;go_enter func289,ntmps289
 go_wp2_with fail
 refine HC.out.mono ?_;rintro e w' ⟨rfl,hb⟩;have HB:=Â hb;clear hb;go_wp2_with fail
 go_ret2
 exact⟨I,HB.out⟩
abbrev Ve(v u:À)(l m:List UInt32)(w:Á)(hv:aF w v l)(hu:aF w u m)(hlen:l.length<=5000000)(hlen2:m.length<=5000000) :
  Ä prog 220 #[v,u] w λe w'=>∃g,e = .R g∧aF w' g (LZ (Nat.gcd (Pq l) (Pq m)))∧Ext w w':=by
 have C1:=Â (dI v l w hv Z);have hla:=bP l;have hlb:=bP m;go_enter func220,ntmps220
 go_wp2_with fail
 refine C1.out.mono ?_;rintro e w1 ⟨x,rfl,hx,hb1⟩;have hx:=aS hx;go_wp2_with fail
 refine(dI u m w1 (hu.below hb1) Z).mono ?_;rintro e w2 ⟨y,rfl,hy,hb2⟩;have hy:=aS hy;have hx2:=hx.below hb2;have ajH:=Ã hb1 hb2;clear hx C1 hv hu;have HX:=Â hx2;have HY:=Â hy;clear hx2 hy;go_wp2_with fail
 go_loopw [5,6,7,8,9] (λx y _ _ _ wr=>∃(A B:Nat),aF wr x (LZ A)∧aF wr y (LZ B)∧Nat.gcd A B=Nat.gcd (Pq l) (Pq m)∧(LZ A).length<=5000000∧(LZ B).length<=5000000∧Ext w wr) (λ_ y _ _ _ wr=>valOf wr y)
 case atStart=>exact⟨(Pq l),(Pq m),HX.out,HY.out,I,Z,Z,ajH⟩
 case round =>
  obtain⟨A,B,hx,hy,hg,hlA,hlB,hbel⟩:=hrel;have HM:=Â (BL hy);have HG:=Â hg;have HX:=Â hx;have HY:=Â hy;clear hg hx hy;obtain⟨ay,cy,rfl⟩:=HY.out.shape;rcases ę B with rfl | hB
  .have h0:((LZ 0).length:Int)=0:=by rw[kV.2 I]; rfl
   go_wp2_with fail
   go_ret
   refine⟨_,I,?_,hbel⟩;rw[<-HG.out,Nat.gcd_zero_right];exact HX.out
  have h0:(0:Int)<((LZ B).length:Int):=by
   have:(LZ B).length≠0:=λh=>by have:=oO h; omega
   omega
  have hD:=zH _ _ _ _ wr HX.out HY.out (by rw[L6]; exact hB) hlA hlB;rw[L6,L6]at hD;have HD:=Â hD;clear hD;go_wp2_with fail
  refine HD.out.mono ?_;rintro e w' ⟨q,r,rfl,hq,hr,hb⟩;have HR:=Â (aS hr);have HY':=Â (HY.out.below hb);clear hq hr;go_wp2_with fail
  go_roundw
  case rel =>
   refine⟨B,A%B,HY'.out,HR.out,?_,hlB,?_,Ã hbel hb⟩
   .rw[<-HG.out,Nat.gcd_comm A B,Nat.gcd_rec B A,Nat.gcd_comm]
   exact ï (fF (ϙ (Ň A hB))) hlB
  case measure =>
   rw[BL HR.out,HM.out,L6,L6];exact Ň _ hB
abbrev qN(neg:Bool)(v:À)(l:List UInt32)(w:Á)(hv:aF w v l)(hlen:l.length<=1000000000) :
  Ä prog 219 #[.b neg,v] w λe w'=>∃x,e = .R x∧aK w.heap.size w' x (neg&&decide (0<Pq l)) (Pq l)∧Ext w w':=by
 have hb1:=aH w (.cells #[.z,.sn] 24);have HC:=Â (dI v l _ (hv.below hb1) hlen);have hpos:Hid (decide ((0:Int)<((LZ (Pq l)).length:Int))=decide (0<Pq l)):=by
  show _=_;rw[ay6];constructor
  .intro h;rcases ę (Pq l)with h0 | h0
   .rw[h0,jF]at h; simp at h
   exact h0
  intro h;have:(LZ (Pq l)).length≠0:=λh'=>by
   have:=kV.1 (Ŝ h'); omega
  omega
 rcases azh neg with rfl | rfl;all_goals
  go_enter func219,ntmps219
  go_wp2_with fail
  refine HC.out.mono ?_
  rintro e w1 ⟨v',rfl,ho,hb2⟩
  have hrow:=aS ho
  have hoff:=QB ho
  obtain⟨hc,hf,hz⟩:=iW hb2
  have hb0:=Ã hb1 hb2
  have HB:=Â hb0
  have HR:=Â hrow
  have HO:=Â hoff
  obtain⟨a,cap,rfl⟩:=HR.out.shape
  clear HC ho hrow hb2 hb1 hb0 hoff
  go_wp2_with fail
 .refine bodyPost_ret (v := .agg #[.b ((0:Int)<((LZ (Pq l)).length:Int)),.s a (LZ (Pq l)).length cap]) (by simp[results,results219,go_sem,hc]) I ⟨_,I,⟨_,by rw[ļ,hpos.out],?_⟩,?_⟩
  .exact⟨HR.out.ch (((Ch.refl _ _).setCell _ _).setCell _ _) (λ_=>HO.out.off Y),HO.out.mono Y⟩
  exact(HB.out.setCell (p:=⟨w.heap.size,0,none⟩) (Ó _) _).setCell (p:=⟨w.heap.size,1,none⟩) (Ó _) _
 refine bodyPost_ret (v := .agg #[.z,.s a (LZ (Pq l)).length cap]) (by simp[results,results219,go_sem,hc]) I ⟨_,I,⟨_,by rw[ŕ],?_⟩,?_⟩
 .exact⟨HR.out.ch (((Ch.refl _ _).setCell _ _).setCell _ _) (λ_=>HO.out.off Y),HO.out.mono Y⟩
 exact(HB.out.setCell (p:=⟨w.heap.size,0,none⟩) (Ó _) _).setCell (p:=⟨w.heap.size,1,none⟩) (Ó _) _
abbrev wO(x:Nat)(w:Á)(h:(x:Int)<=9223372036854775807) :
  Ä prog 172 #[.i x] w λe w'=>∃v,e = .R v∧aK w.heap.size w' v false x∧Ext w w':=by
 have hN:x<18446744073709551616:=Z
 obtain⟨y,rfl⟩:∃y:UInt64,x=y.toNat:=⟨UInt64.ofNat x,by simp; omega⟩;have h0:¬(y.toNat:Int)<0:=Z
 have hyl:=y.toNat_lt;have hw:=agG y;have hb0:=aH w (.cells #[.z,.sn] 24);have hr:aF ((w.alloc (.cells #[.z,.sn] 24)).alloc (.cells #[aU y.toUInt32,aU (y>>>32).toUInt32] 119)) (.s (some ⟨w.heap.size+1,0,none⟩) 2 2) [y.toUInt32,(y>>>32).toUInt32]:=by
  have:=NI (w.alloc (.cells #[.z,.sn] 24)) [y.toUInt32,(y>>>32).toUInt32] (f:=aU) 119 (by unfold maxLen; simp);simpa using this
 have hI:=qN false _ _ _ hr Y;rw[QJ]at hI;have HI:=Â hI;have HB:=Â (hb0.alloc Y (.cells #[aU y.toUInt32,aU (y>>>32).toUInt32] 119));clear hr hI hb0;have HE:Hid (((y>>>32).toNat:Int)=((y>>>32).toUInt32.toNat:Int)):=by
  show _=_;rw[<-yG,<-NK]; omega
 go_enter func172,ntmps172
 go_wp2_with fail
 rw[yG,NK,HE.out];refine HI.out.mono ?_;rintro e w2 ⟨z,rfl,⟨s,rfl,hs,fs⟩,hb2⟩;obtain⟨b1,d1,rfl⟩:=hs.shape;have r0:∀i,w2.cell? ⟨w.heap.size,i,none⟩ = #[Value.z,.sn][i]?:=λi=>by rw[hb2.cell (p:=⟨w.heap.size,i,none⟩) (by simp; omega)]; simp[go_sem]
 have f0:∀i,w2.frozen? ⟨w.heap.size,i,none⟩=false:=λi=>by rw[hb2.frozen (p:=⟨w.heap.size,i,none⟩) (by simp; omega)]; simp[go_sem]
 have hz:w.heap.size<w2.heap.size:=by have:=hb2.size; simp at this; omega
 have HX:=Â (Ã HB.out hb2);have F:=Â (And.intro hs fs);clear hs fs hb2 HI;go_wp2_with fail
 refine bodyPost_ret (v := .agg #[.z,.s b1 (LZ y.toNat).length d1]) (by simp[results,results172,go_sem,r0]) I ⟨_,I,⟨_,I,?_,?_⟩,?_⟩
 .exact F.out.1.ch (((Ch.refl w.heap.size _).setCell 0 _).setCell 1 _) (λ_=>F.out.2.off (by simp; omega))
 .exact F.out.2.mono (by simp; omega)
 exact(HX.out.setCell (p:=⟨_,0,none⟩) (by simp only; omega) _).setCell (p:=⟨_,1,none⟩) (by simp only; omega) _
abbrev pG(neg:Bool)(s:À)(l:List UInt32)(w:Á)(hv:aF w s l)(hlen:l.length<=100000000) :
  Ä prog 173 #[.agg #[.b neg,s]] w (RF w (.i (qc neg (Pq l)))):=by
 have hb1:=aH w (.cells #[.b neg,s] 24);have HC:=Â (qN neg s l _ (hv.below hb1) Z);have HB:=Â hb1;obtain⟨a,cap,rfl⟩:=hv.shape;clear hv hb1;by_cases h0:Pq l=0
 .have hs:Hid (qc neg (Pq l)=0):=by show _=_; unfold qc; rw[Ï h0]
  have hd:(((LZ (Pq l)).length:Int)==0)=true:=by rw[h0]; rfl
  clear h0;go_enter func173,ntmps173
  go_wp2_with fail
  refine HC.out.mono ?_;rintro e w' ⟨x,rfl,⟨t,rfl,ht,ft⟩,hb⟩;obtain⟨b1,d1,rfl⟩:=ht.shape;have HX:=Â (Ã HB.out hb);have hsz:=HX.out.size;clear ht ft hb HC HB;go_wp2_with fail
  go_ret
  exact⟨by rw[hs.out]; rfl,HX.out.alloc hsz _⟩
 have hd:(((LZ (Pq l)).length:Int)==0)=false:=by
  rw[ä];intro h;exact h0 (oO Z)
 have hs0:Hid (∀neg,qc neg (Pq l)=if neg then -1 else 1):=λneg=>É h0;have hp:decide (0<Pq l)=true:=İ Z;rw[hp]at HC;clear h0 hp;rcases azh neg with rfl | rfl;all_goals
  go_enter func173,ntmps173
  go_wp2_with fail
  refine HC.out.mono ?_
  rintro e w' ⟨x,rfl,⟨t,rfl,ht,ft⟩,hb⟩
  obtain⟨b1,d1,rfl⟩:=ht.shape
  have HX:=Â (Ã HB.out hb)
  have hsz:=HX.out.size
  clear ht ft hb HC HB
  go_wp2_with fail
  go_ret
  exact⟨by rw[hs0.out]; rfl,HX.out.alloc hsz _⟩
abbrev Hw(neg:Bool)(s:À)(l:List UInt32)(w:Á)(hv:aF w s l)(hlen:l.length<=100000000) :
  Ä prog 221 #[.agg #[.b neg,s]] w λe w'=>∃x,e = .R x∧aK w.heap.size w' x (!neg&&decide (0<Pq l)) (Pq l)∧Ext w w':=by
 have hb0:=aH w (.cells #[.b neg,s] 24);have hb1:=hb0.alloc Y (.cells #[.z,.sn] 24);have HC:=Â (qN (!neg) s l _ (hv.below hb1) Z);have HB:=Â hb1;obtain⟨a,cap,rfl⟩:=hv.shape;clear hv hb1 hb0;go_enter func221,ntmps221
 go_wp2_with fail
 refine HC.out.mono ?_;rintro e w2 ⟨z,rfl,⟨s,rfl,hs,fs⟩,hb2⟩;obtain⟨b1,d1,rfl⟩:=hs.shape;have r0:∀i,w2.cell? ⟨w.heap.size+1,i,none⟩ = #[Value.z,.sn][i]?:=λi=>by rw[hb2.cell (p:=⟨w.heap.size+1,i,none⟩) Y]; simp[go_sem]
 have f0:∀i,w2.frozen? ⟨w.heap.size+1,i,none⟩=false:=λi=>by rw[hb2.frozen (p:=⟨w.heap.size+1,i,none⟩) Y]; simp[go_sem]
 have hz:w.heap.size+1<w2.heap.size:=by have:=hb2.size; simp at this; omega
 have HX:=Â (Ã HB.out hb2);have F:=Â (And.intro hs fs);generalize hnb:(!neg&&decide (0<Pq l))=nb at *;have HNB:=Â hnb;clear hs fs hb2 HC hnb;go_wp2_with fail
 refine bodyPost_ret (v := .agg #[.b nb,.s b1 (LZ (Pq l)).length d1]) (by simp[results,results221,go_sem,r0]) I ⟨_,I,⟨_,by rw[HNB.out],?_,?_⟩,?_⟩
 .exact F.out.1.ch (((Ch.refl (w.heap.size+1) _).setCell 0 _).setCell 1 _) (λ_=>F.out.2.off Y)
 .exact F.out.2.mono (by simp; omega)
 exact(HX.out.setCell (p:=⟨_,0,none⟩) (by simp only; omega) _).setCell (p:=⟨_,1,none⟩) (by simp only; omega) _
abbrev gJ(x:Nat)(w:Á)(h:(x:Int)<=9223372036854775807) :
  Ä prog 124 #[.i x] w λe w'=>∃v,e = .R v∧au w.heap.size w' v false x 1∧Ext w w':=by
 have hb0:=aH w (.cells #[.z,.sn,.z,.sn] 26);have H1:=Â (wO x (w.alloc (.cells #[.z,.sn,.z,.sn] 26)) h);have HB0:=Â hb0;clear hb0;go_enter func124,ntmps124
 go_wp2_with fail
 refine H1.out.mono ?_;rintro e w1 ⟨y,rfl,⟨s,rfl,hs,fs⟩,hb1⟩;have h2:=wO 1 w1 O;have H2:=Â h2;have HS:=Â (And.intro hs fs);have HB1:=Â hb1;clear h2 H1 hs fs hb1;go_wp2_with fail
 refine H2.out.mono ?_;rintro e w2 ⟨y,rfl,⟨t,rfl,ht,ft⟩,hb2⟩;obtain⟨b1,d1,rfl⟩:=HS.out.1.shape;obtain⟨b2,d2,rfl⟩:=ht.shape;obtain⟨r0,f0,hz⟩:=iW (Ã HB1.out hb2);obtain⟨-,-,hz1⟩:=iW HB1.out;have F:=Â (And.intro (HS.out.1.below hb2) (And.intro ht (And.intro HS.out.2 ft)));have HX:=Â (Ã HB0.out (Ã HB1.out hb2));clear ht ft hb2 H2;go_wp2_with fail
 refine bodyPost_ret (v := .agg #[.z,.s b1 (LZ x).length d1,.z,.s b2 (LZ 1).length d2]) (by simp[results,results124,go_sem,r0]) I ⟨_,I,⟨_,_,I,?_,?_,?_,?_⟩,?_⟩
 .exact F.out.1.ch (((((Ch.refl w.heap.size _).setCell _ _).setCell _ _).setCell _ _).setCell _ _) (λ_=>F.out.2.2.1.off Y)
 .exact F.out.2.1.ch (((((Ch.refl w.heap.size _).setCell _ _).setCell _ _).setCell _ _).setCell _ _) (λ_=>F.out.2.2.2.off hz1)
 .exact F.out.2.2.1.mono Y
 .exact F.out.2.2.2.mono Z
 exact(((HX.out.setCell (p:=⟨_,0,none⟩) (by simp only; omega) _).setCell (p:=⟨_,1,none⟩) (by simp only; omega) _).setCell (p:=⟨_,2,none⟩) (by simp only; omega) _).setCell (p:=⟨_,3,none⟩) (by simp only; omega) _
abbrev EG(v u:À)(l m:List UInt32)(w:Á)(hv:aF w v l)(hu:aF w u m)(hl:l.length<=100000000) :
  Ä prog 289 #[v,u] w λe w'=>∃a n c,e = .R (.tuple #[.s a n c,.b (Pq m<=Pq l)])∧(Pq m<=Pq l->aF w' (.s a n c) (LZ (Pq l-Pq m)))∧Ext w w':=by
 by_cases h:Pq m<=Pq l
 .refine(Ak v u l m w hv hu hl h).mono ?_;rintro e w' ⟨v',rfl,h1,h2⟩;have h1:aF _ _ _:=aS h1;obtain⟨a,c,rfl⟩:=h1.shape;exact⟨a,_,c,by simp only[İ h],λ_=>h1,h2⟩
 refine(ZW v u l m w hv hu Z).mono ?_;rintro e w' ⟨rfl,h2⟩;exact⟨none,0,0,by simp only[ľ h],λh3=>absurd h3 h,h2⟩
abbrev KD{w:Á}{s:À}{z:Int}(hs:aF w s (LZ z.natAbs))(h:(LZ z.natAbs).length<=100000000) :
  Ä prog 173 #[.agg #[.b (z<0),s]] w (RF w (.i z.sign)):=by
 have hg:=pG (decide (z<0)) _ _ w hs h;rw[L6,acK,NP]at hg;exact hg
abbrev Fz{w:Á}{s:À}{l:List UInt32}(hs:aF w s l)(h:l.length<=1000000000) :
  Ä prog 278 #[s] w (RF w (.i (bl (Pq l):Nat))):=by
 refine(zI s l w hs h).mono ?_;exact λe w' h=>h
abbrev jS{v:À}{a:Nat}{w:Á}(neg:Bool)(hv:aF w v (LZ a))(hlen:(LZ a).length<=1000000000) :
  Ä prog 219 #[.b neg,v] w λe w'=>∃x,e = .R x∧aK w.heap.size w' x (neg&&decide (0<a)) a∧Ext w w':=by
 have h:=qN neg v _ w hv hlen;rw[L6]at h;exact h
abbrev EH(v1:À)(z1:Int)(K:Nat)(w:Á)(h1:fK K w v1 z1)(hK:K<=10000000):
  Ä prog 221 #[v1] w λe w'=>∃x,e = .R x∧oL w.heap.size w' x (-z1)∧Ext w w':=by
 obtain⟨n1,s1,l,rfl,h1,hl,rfl⟩:=h1;obtain⟨a1,c1,rfl⟩:=h1.shape;refine Ë func221 ntmps221 λS=>Í S λu b2 E3 hb4 S=>Í S λu b5 E6 hb7 S=>Å S 5 [] [.M 1 0,.M 1 1] λS=>î S (qN (!n1) _ l _ (h1.below S.E) Z) ?_;rintro e u ⟨x,rfl,hx,E9⟩;obtain⟨b1,d1,rfl⟩:=hx.shape;have hz:=S.E.size;have acL:=(S.bx 0).1;have hb1':=(S.bx 1).1;refine⟨_,I,E9,λS=>?_⟩;refine à S 0 I (λu C10 S=>?_);have FB:=hx.ch C10 Z;refine ă S 0 I (v := .agg #[.b (!n1&&decide (0<Pq l)),.s b1 (LZ (Pq l)).length d1]) (λS=>?_);exact⟨_,I,Vf n1 (Pq l)▸sJ (aK.mono FB Z),S.E⟩
abbrev kW(v1 v2:À)(z1 z2:Int)(K L:Nat)(w:Á)(h1:fK K w v1 z1)(h2:fK L w v2 z2)(hK:K<=10000000)(hL:L<=10000000):
  Ä prog 204 #[v1,v2] w λe w'=>∃x,e = .R x∧oL w.heap.size w' x (z1*z2)∧Ext w w':=by
 obtain⟨n1,s1,l,rfl,h1,hl,rfl⟩:=h1;obtain⟨a1,c1,rfl⟩:=h1.shape;obtain⟨n2,s2,m,rfl,h2,hm,rfl⟩:=h2;obtain⟨a2,c2,rfl⟩:=h2.shape;refine Ë func204 ntmps204 λS=>Ú S [.b n1,.s a1 l.length c1] λu b2 E3 hb4 S=>Ú S [.b n2,.s a2 m.length c2] λu b5 E6 hb7 S=>Ú S [.z,.sn] λu b8 E9 tX S=>Į S 11 [(14,λv w1=>aF w1 v (LZ (Pq l*Pq m))),(15,λv w1=>aK w.heap.size w1 v ((n1 != n2)&&decide (0<(Pq l*Pq m))) (Pq l*Pq m))] (λr=>[.M 2 0,.M 1 0,.M 2 1,.M 1 1]) (λx=>[x 14,x 15]) (λx=>[(_,_,true,x 14,14),(_,_,true,x 15,15)]) [[],[14]] (λx=>[(15,x 15)]) ⟨λ_ _ _ k h=>h.below k,λ_ _ _ k h=>h.ext k,G⟩ (λx=>⟨by intro u hC g F; exact(Vd _ _ _ _ _ (h1.below (Ã S.E hC)) (h2.below (Ã S.E hC)) Z Z).mono λe w2 h=>by obtain⟨a,rfl,hx,hb⟩:=h; exact⟨_,I,aS hx,hb⟩,by intro u hC g F; obtain⟨UY,-⟩:=F; exact(jS (n1 != n2) UY (by have:=QT l m Z Z; omega)).mono λe w2 h=>by obtain⟨y,rfl,hx,hb⟩:=h; exact⟨_,I,hx.mono ((Ã S.E hC)).size,hb⟩,G⟩) (λu x uM F S=>?_);obtain⟨UY,Gn,-⟩:=F;obtain⟨b1,d1,em⟩:=aK.shape Gn;rw[em]at S Gn;try rw[em]
 have BD:=S.bx 0;refine è S 0 (off:=0) (cs:=[.b ((n1 != n2)&&decide (0<(Pq l*Pq m))),.s b1 (LZ (Pq l*Pq m)).length d1]) I (λu C13 S=>?_);have sK:=aK.dG Gn C13 BD;refine ă S 0 I (v := .agg #[.b ((n1 != n2)&&decide (0<(Pq l*Pq m))),.s b1 (LZ (Pq l*Pq m)).length d1]) (λS=>?_);exact⟨_,I,(acM n1 n2 (Pq l) (Pq m)).symm▸sJ (aK.mono sK Z),S.E⟩
abbrev EI(v1 v2:À)(z1 z2:Int)(K L:Nat)(w:Á)(h1:fK K w v1 z1)(h2:fK L w v2 z2)(hK:K<=10000000)(hL:L<=10000000):
  Ä prog 256 #[v1,v2] w λe w'=>∃x,e = .R x∧oL w.heap.size w' x (z1+z2)∧Ext w w':=by
 obtain⟨n1,s1,l,rfl,h1,hl,rfl⟩:=h1;obtain⟨a1,c1,rfl⟩:=h1.shape;obtain⟨n2,s2,m,rfl,h2,hm,rfl⟩:=h2;obtain⟨a2,c2,rfl⟩:=h2.shape;refine Ë func256 ntmps256 λS=>Ú S [.b n1,.s a1 l.length c1] λu b2 E3 hb4 S=>Ú S [.b n2,.s a2 m.length c2] λu b5 E6 hb7 S=>Ú S [.z,.sn] λu b8 E9 tX S=>Å S 5 [] [.M 2 0,.M 1 0] λS=>È S (n1==n2) (λhc13 S=>?_) (λhc13 S=>?_)
 .refine Į S 8 [(20,λv w1=>aF w1 v (LZ (Pq l+Pq m))),(21,λv w1=>aK w.heap.size w1 v (n1&&decide (0<(Pq l+Pq m))) (Pq l+Pq m))] (λr=>[.M 2 0,.M 2 1,.M 1 1]) (λx=>[x 20,x 21]) (λx=>[(_,_,true,x 20,20),(_,_,true,x 21,21)]) [[],[20]] (λx=>[(21,x 21)]) ⟨λ_ _ _ k h=>h.below k,λ_ _ _ k h=>h.ext k,G⟩ (λx=>⟨by intro u hC g F; exact(Vg _ _ _ _ _ (h1.below (Ã S.E hC)) (h2.below (Ã S.E hC)) Z Z).mono λe w2 h=>by obtain⟨a,rfl,hx,hb⟩:=h; exact⟨_,I,aS hx,hb⟩,by intro u hC g F; obtain⟨F20,-⟩:=F; exact(jS n1 F20 (by have:=QU l m Z Z; omega)).mono λe w2 h=>by obtain⟨y,rfl,hx,hb⟩:=h; exact⟨_,I,hx.mono ((Ã S.E hC)).size,hb⟩,G⟩) (λu x KA F S=>?_);obtain⟨F20,Ym,-⟩:=F;obtain⟨b1,d1,em⟩:=aK.shape Ym;rw[em]at S Ym;try rw[em]
  have Yn:=S.bx 0;refine è S 0 (off:=0) (cs:=[.b (n1&&decide (0<(Pq l+Pq m))),.s b1 (LZ (Pq l+Pq m)).length d1]) I (λu Ź S=>?_);have Am:=aK.dG Ym Ź Yn;refine ă S 0 I (v := .agg #[.b (n1&&decide (0<(Pq l+Pq m))),.s b1 (LZ (Pq l+Pq m)).length d1]) (λS=>?_);obtain rfl:=eq_of_beq hc13;exact⟨_,I,(EJ n1 (Pq l) (Pq m)).symm▸sJ (aK.mono Am Z),S.E⟩
 refine Å S 4 [] [.M 2 1,.M 1 1] λS=>î S (EG _ _ _ _ _ (h1.below S.E) (h2.below S.E) Z) ?_;rintro e u ⟨p,q,c3,rfl,hs,FC⟩;refine⟨_,I,FC,λS=>?_⟩;refine È S (decide (Pq m<=Pq l)) (λsN S=>?_) (λsN S=>?_)
 .refine Å S 3 [] [.M 2 0] λS=>î S (jS (n1) (hs (å sN)) (by have:=BM l m Z; omega)) ?_;rintro e u ⟨x,rfl,hx,FD⟩;obtain⟨b1,d1,rfl⟩:=hx.shape;have hz:=S.E.size;have acL:=(S.bx 0).1;have hb1':=(S.bx 1).1;have hb2':=(S.bx 2).1;refine⟨_,I,FD,λS=>?_⟩;refine è S 0 (off:=0) (cs:=[.b (n1&&decide (0<(Pq l-Pq m))),.s b1 (LZ (Pq l-Pq m)).length d1]) I (λu C26 S=>?_);have BN:=hx.ch C26 Z;refine ă S 0 I (v := .agg #[.b (n1&&decide (0<(Pq l-Pq m))),.s b1 (LZ (Pq l-Pq m)).length d1]) (λS=>?_);exact⟨_,I,(wP (by simpa using hc13) (å sN)).symm▸sJ (aK.mono BN Z),S.E⟩
 refine Å S 4 [] [.M 1 1,.M 2 1] λS=>î S (EG _ _ _ _ _ (h2.below S.E) (h1.below S.E) Z) ?_;rintro e u ⟨p2,q2,c2,rfl,hs2,BF⟩;refine⟨_,I,BF,λS=>?_⟩;refine Å S 8 [] [.M 1 0] λS=>î S (jS (n2) (hs2 (by have:=ñ sN; omega)) (by have:=BM m l Z; omega)) ?_;rintro e u ⟨x,rfl,hx,DJ⟩;obtain⟨b1,d1,rfl⟩:=hx.shape;have hz:=S.E.size;have acL:=(S.bx 0).1;have hb1':=(S.bx 1).1;have hb2':=(S.bx 2).1;refine⟨_,I,DJ,λS=>?_⟩;refine è S 0 (off:=0) (cs:=[.b (n2&&decide (0<(Pq m-Pq l))),.s b1 (LZ (Pq m-Pq l)).length d1]) I (λu C32 S=>?_);have zf:=hx.ch C32 Z;refine ă S 0 I (v := .agg #[.b (n2&&decide (0<(Pq m-Pq l))),.s b1 (LZ (Pq m-Pq l)).length d1]) (λS=>?_);exact⟨_,I,(BO (a:=Pq l) (b:=Pq m) (by simpa using hc13) (by have:=ñ sN; omega)).symm▸sJ (aK.mono zf Z),S.E⟩
abbrev QV(v1 v2:À)(z1 z2:Int)(K L:Nat)(w:Á)(h1:fK K w v1 z1)(h2:fK L w v2 z2)(hK:K<=10000000)(hL:L<=10000000):
  Ä prog 243 #[v1,v2] w λe w'=>∃x,e = .R x∧oL w.heap.size w' x (z1-z2)∧Ext w w':=by
 obtain⟨n1,s1,l,rfl,h1,hl,rfl⟩:=h1;obtain⟨a1,c1,rfl⟩:=h1.shape;obtain⟨n2,s2,m,rfl,h2,hm,rfl⟩:=h2;obtain⟨a2,c2,rfl⟩:=h2.shape;refine Ë func243 ntmps243 λS=>Ú S [.b n1,.s a1 l.length c1] λu b2 E3 hb4 S=>Ú S [.b n2,.s a2 m.length c2] λu b5 E6 hb7 S=>Ú S [.z,.sn] λu b8 E9 tX S=>Į S 4 [(7,λv w1=>oL w.heap.size w1 v (-zv n2 (Pq m))),(8,λv w1=>oL w.heap.size w1 v (zv n1 (Pq l) + -zv n2 (Pq m)))] (λr=>[.M 2 0,.M 1 0]) (λx=>[x 7,x 8]) (λx=>[(_,_,true,x 7,7),(_,_,true,x 8,8)]) [[],[7]] (λx=>[(8,x 8)]) ⟨λ_ _ _ k h=>h.ext k,λ_ _ _ k h=>h.ext k,G⟩ (λx=>⟨by intro u hC g F; exact(EH _ (zv n2 (Pq m)) L _ ⟨n2,_,m,I,h2.below (Ã S.E hC),hm,I⟩ Z).mono λe w2 h=>by obtain⟨y,rfl,hx,hb⟩:=h; exact⟨_,I,hx.mono ((Ã S.E hC)).size,hb⟩,by intro u hC g F; obtain⟨F7,-⟩:=F; exact(EI _ _ (zv n1 (Pq l)) (-zv n2 (Pq m)) K L _ ⟨n1,_,l,I,h1.below (Ã S.E hC),hl,I⟩ (oL.toQ F7 (by rw[Int.natAbs_neg,kX]; have:=bP m; omega)) Z Z).mono λe w2 h=>by obtain⟨y,rfl,hx,hb⟩:=h; exact⟨_,I,hx.mono ((Ã S.E hC)).size,hb⟩,G⟩) (λu x uM F S=>?_);obtain⟨F7,F8,-⟩:=F;obtain⟨b1,d1,em⟩:=aK.shape F8;rw[em]at S F8;try rw[em]
 have BD:=S.bx 0;refine è S 0 (off:=0) (cs:=[.b ((zv n1 (Pq l) + -zv n2 (Pq m))<0),.s b1 (LZ (zv n1 (Pq l) + -zv n2 (Pq m)).natAbs).length d1]) I (λu C13 S=>?_);have sK:=aK.dG F8 C13 BD;refine ă S 0 I (v := .agg #[.b ((zv n1 (Pq l) + -zv n2 (Pq m))<0),.s b1 (LZ (zv n1 (Pq l) + -zv n2 (Pq m)).natAbs).length d1]) (λS=>?_);exact⟨_,I,sK,S.E⟩
abbrev QW(v1 v2:À)(z1 z2:Int)(K L:Nat)(w:Á)(h1:fK K w v1 z1)(h2:fK L w v2 z2)(hK:K<=10000000)(hL:L<=10000000):
  Ä prog 203 #[v1,v2] w (RF w (.i (z1-z2).sign)):=by
 obtain⟨n1,s1,l,rfl,h1,hl,rfl⟩:=h1;obtain⟨a1,c1,rfl⟩:=h1.shape;obtain⟨n2,s2,m,rfl,h2,hm,rfl⟩:=h2;obtain⟨a2,c2,rfl⟩:=h2.shape;refine Ë func203 ntmps203 λS=>Í S λu b2 E3 hb4 S=>Í S λu b5 E6 hb7 S=>Å S 3 [] [.M 1 0,.M 0 0] λS=>î S (QV _ _ (zv n1 (Pq l)) (zv n2 (Pq m)) K L _ ⟨n1,_,l,I,h1.below S.E,hl,I⟩ ⟨n2,_,m,I,h2.below S.E,hm,I⟩ Z Z) ?_;rintro e u ⟨x,rfl,⟨s,rfl,hs,-⟩,E9⟩;obtain⟨b1,d1,rfl⟩:=hs.shape;refine⟨_,I,E9,λS=>?_⟩;refine Þ S (KD hs (by have:=Gp (zv n1 (Pq l)) (zv n2 (Pq m)) (K:=K+L) (by rw[kX]; have:=bP l; omega) (by rw[kX]; have:=bP m; omega); omega)) λu NQ S=>Æ S (.i (Int.sign (zv n1 (Pq l)-zv n2 (Pq m)))) (λS=>?_);exact⟨I,S.E⟩
abbrev wQ(v1:À)(z1:Int)(K:Nat)(w:Á)(h1:fK K w v1 z1)(hK:K<=10000000):
  Ä prog 242 #[v1] w (RF w (.i (bl z1.natAbs:Int))):=by
 obtain⟨n1,s1,l,rfl,h1,hl,rfl⟩:=h1;obtain⟨a1,c1,rfl⟩:=h1.shape;refine Ë func242 ntmps242 λS=>Í S λu b2 E3 hb4 S=>Å S 3 [] [.M 0 1] λS=>Þ S (Fz (h1.below S.E) Z) λu E6 S=>Æ S (.i (bl (Pq l):Nat)) (λS=>?_);exact⟨by rw[kX],S.E⟩
end
end Go.Proofs.Pv
section
namespace Go.Sx
open Go.Proofs.Pv Go.RowKit Go.Rel Na
section
variable{P:Ø}{ops ops':Array Ì}{Q:Exit->í->Á->Prop}{a:í}{w:Á}
variable{i n j:Nat}{H:List Nat}{l:List (Nat×À)}{v:À}
abbrev acN{ŏ:í->Prop}{K K':í->Á->Prop}(h0:ŏ a)(hu:∀o,ops[i]?=some o->∀b,ŏ b->∀u,ŏ (b.put o.dst u))(hd:∀b d,ŏ b->ŏ { b with defers:=d })(hK:∀a w,ŏ a->K a w->K' a w)(h:wpOp P ops (yI Q) i K a w):wpOp P ops (yI Q) i K' a w:=by
 unfold wpOp at *;cases ho:ops[i]? with
 | none=>rw[ho]at h; exact hK _ _ h0 h
 | some o =>
  have hu:=hu o ho;rw[ho]at h;simp only at h |-;split at h
  .rename_i hw;rw[Ï hw];rcases h with h | ⟨_,h⟩
   .left;unfold Oper.wp at *;generalize (Ù a.eval o).run P w=r at *;cases r with
    | ok n w' =>
     cases n<;>simp only[Oper.upon]at h |-;case value u=>exact hK _ _ (hu a h0 u) h
     case skip=>exact hK _ _ (hu a h0 _) h
     case defer d=>exact hK _ _ (hu _ (hd a _ h0) _) h
     case enter f args =>
      refine Calls.mono h λe w'' he=>?_;cases e with
      | returned u=>exact hK _ _ (hu a h0 u) he
      | panicked c=>exact he.elim
      | outgrown=>exact(nX he).elim
     case row row args=>exact Rows.mono h λu w'' he=>hK _ _ (hu a h0 u) he
    | halt x w' =>
     cases x<;>simp only[Oper.upon]at h |-;case panic u=>exact h.elim
   exact(nX h).elim
  rename_i hw;rw[É hw];exact hK _ _ (hu a h0 _) h
def ZX(P:Ø)(ops:Array Ì)(H:List Nat)(a:í):Prop:=∀h∈H,∃o v d,ops[h]?=some o∧o.guard=none∧o.dst=some d∧(∀w,(Ù a.eval o).run P w = .ok (.value v) w)∧a.put (some d) v=a
abbrev ZX.op{H:List Nat}{h:Nat}(hp:ZX P ops H a)(hh:h∈H){K:í->Á->Prop}(hk:wpOp P ops (yI Q) h K a w):K a w:=by
 obtain⟨o,v,d,ho,hg,hd,hr,hput⟩:=hp h hh;unfold wpOp at hk;rw[ho]at hk;simp only[Region.wanted,hg,if_true]at hk;rcases hk with hk | ⟨_,hk⟩
 .unfold Oper.wp at hk;rw[hr]at hk;simp only[Oper.upon]at hk;rw[hd,hput]at hk;exact hk
 exact(nX hk).elim
abbrev ZX.defer{H:List Nat}(hp:ZX P ops H a)(ds:List Deferred):ZX P ops H { a with defers:=ds }:=λh hh=>by
 obtain⟨o,v,d,ho,hg,hd,hr,hput⟩:=hp h hh;refine⟨o,v,d,ho,hg,hd,hr,?_⟩;have h1:=Ñ Act.tmps hput;show({ tmps:=a.tmps.setIfInBounds d v,defers:=ds }:í)=_;rw[show a.tmps.setIfInBounds d v=a.tmps from h1]
def agW(ops:Array Ì)(H:List Nat):Bool:=(List.range ops.size).all λi=>H.contains i||(match ops[i]? with
 | some o=>(match o.dst with
  | some d=>H.all λh=>(match ops[h]? with | some q=>q.dst != some d&&q.op.operands.all (λx=>match x with | .tmp s=>s != d | _=>true) && !vT q.op | none=>false)
  | none=>true)
 | none=>true)
abbrev ZX.keep{H:List Nat}(hp:ZX P ops H a)(hs:agW ops H=true){i:Nat}{o:Ì}(ho:ops[i]?=some o)(hi:i∉H)(u:À):ZX P ops H (a.put o.dst u):=by
 cases hd:o.dst with
 | none=>exact hp
 | some d =>
  intro h hh;obtain⟨q,v,d',hq,hg,hdq,hr,hput⟩:=hp h hh;unfold agW at hs;rw[ø]at hs;have h1:=hs i (aym.2 (Array.getElem?_eq_some_iff.1 ho).1);have hc:H.contains i=false:=by simpa using hi
  rw[hc,ho]at h1;simp only[ayT,hd,ø]at h1;have h2:=h1 h hh;rw[hq]at h2;simp only[æ,bne_iff_ne,ne_eq,ś]at h2;obtain⟨⟨h3,h4⟩,h5⟩:=h2;have hne:d'≠d:=λe=>h3 (by rw[hdq,e]);refine⟨q,v,d',hq,hg,hdq,λw=>?_,?_⟩
  .rw[<-hr w];congr 1;refine execOp_congr q (λcs b e1=>by rw[e1]at h5; cases h5) λx hx=>?_;cases x with
   | tmp s =>
    rw[ϑ]at h4;have h6:=h4 _ hx;simp only[bne_iff_ne,ne_eq]at h6;exact kR (oM a (some d) u s (λe=>h6 (Ü e).symm))
   | const _=>rfl
   | global _=>rfl
   | func _=>rfl
  rw[Act.put_comm a u v (λx hx hy=>by
   simp only[Ò]at hx hy;exact hne (hy.trans hx.symm)),hput]
def jv(ops:Array Ì)(i:Nat):List Nat:=match ops[i]? with | some o=>o.after.toList.filterMap (λe=>match Region.binds .any e with | true=>some e.on | false=>none) | none=>[]
abbrev mV{o:Ì}(ho:ops[i]?=some o):j∈jv ops i↔∃e∈o.after,Region.binds .any e=true∧e.on=j:=by
 unfold jv;rw[ho];simp only[Ō,Array.mem_toList_iff];constructor
 .rintro⟨e,he,h⟩;split at h
  .rename_i hb; exact⟨e,he,hb,Ü h⟩
  cases h
 rintro⟨e,he,hb,rfl⟩;exact⟨e,he,by rw[hb]⟩
abbrev jl{L:Array Bool}:j∈Region.ready .any ops L↔j<ops.size∧L.getD j true=false∧∀q∈jv ops j,L.getD q false=true:=by
 rw[mem_ready];constructor
 .rintro⟨h0,o,ho,hall⟩;refine⟨(Array.getElem?_eq_some_iff.1 ho).1,h0,λq hq=>?_⟩;obtain⟨e,he,hb,rfl⟩:=(mV ho).1 hq;exact hall e he hb
 rintro⟨hlt,h0,h⟩;refine⟨h0,ops[j],Array.getElem?_eq_getElem hlt,λe he hb=>h _ ((mV (Array.getElem?_eq_getElem hlt)).2 ⟨e,he,hb,I⟩)⟩
def need(ops:Array Ì)(H:List Nat):Nat->Nat->List Nat
 | 0,_=>[]
 | f+1,h=>(jv ops h).flatMap λq=>match H.contains q with | true=>need ops H f q | false=>[q]
def Yo(ops plan:Array Ì)(H:List Nat):Bool:=
 ops.size==plan.size&&H.all (λh=>decide (h<ops.size)&&(jv plan h).all λq=>decide (q<h))&&(List.range ops.size).all λi=>(jv ops i).all (λq=>(jv plan i).contains q&&decide (q<ops.size))&&(H.contains i||(jv plan i).all λq =>
  match H.contains q with | true=>(need plan H ops.size q).all λr=>(jv ops i).contains r | false=>(jv ops i).contains q)
structure Ϯ (n:Nat) (H:List Nat) (L L':Array Bool):Prop where
 s1:L.size=n
 s2:L'.size=n
 at':∀j,j<n->L'.getD j true=(L.getD j true||H.contains j)
abbrev qO{L:Array Bool}(h:j<L.size)(a b:Bool):L.getD j a=L.getD j b:=by simp[Array.getD_eq_getD_getElem?,Array.getElem?_eq_getElem h]
abbrev Ϯ.set{n i:Nat}{H:List Nat}{L L':Array Bool}(h:Ϯ n H L L'):Ϯ n H (L.setIfInBounds i true) (L'.setIfInBounds i true):=by
 refine⟨by simp[h.s1],by simp[h.s2],λj hj=>?_⟩;by_cases hij:i=j
 .subst hij;have h1:i<L.size:=by rw[h.s1]; exact hj
  have h2:i<L'.size:=by rw[h.s2]; exact hj
  simp[Array.getD_eq_getD_getElem?,h1,h2]
 rw[getD_set_ne true hij,getD_set_ne true hij]; exact h.at' j hj
abbrev Ϯ.setH{n i:Nat}{H:List Nat}{L L':Array Bool}(h:Ϯ n H L L')(hi:i∈H):Ϯ n H (L.setIfInBounds i true) L':=by
 refine⟨by simp[h.s1],h.s2,λj hj=>?_⟩;rw[h.at' j hj];by_cases hij:i=j
 .subst hij;have hc:H.contains i=true:=by simpa using hi
  rw[hc,Bool.or_true,Bool.or_true]
 rw[getD_set_ne true hij]
def left(n:Nat)(H:List Nat)(L:Array Bool):Nat:=(List.range n).countP λj => !L.getD j true && !H.contains j
abbrev acO{L:Array Bool}(hs:L.size=n)(hi:i<n)(h0:L.getD i true=false)(hH:i∉H):left n H (L.setIfInBounds i true)<left n H L:=by
 unfold left;have hi':i∈List.range n:=aym.2 hi;obtain⟨s,t,hst⟩:=List.append_of_mem hi';have hnd:=List.nodup_range (n:=n);rw[hst]at hnd |-;have hd:=ŋ.1 hnd;have hc:H.contains i=false:=by simpa using hH
 have hsame:∀l:List Nat,i∉l->l.countP (λj => !(L.setIfInBounds i true).getD j true && !H.contains j)=l.countP λj => !L.getD j true && !H.contains j:=by
  intro l hl;refine List.countP_congr λj hj=>?_;rw[getD_set_ne true (λe:i=j=>hl (e▸hj))]
 have h1:i∉s:=λhm=>hd.2.2 i hm i Y I;have h2:i∉t:=(ŵ.1 hd.2.1).1;have h3:i<L.size:=Z
 rw[List.countP_append,List.countP_append,List.countP_cons,List.countP_cons,hsame s h1,hsame t h2];have e1:(L.setIfInBounds i true).getD i true=true:=by simp[Array.getD_eq_getD_getElem?,h3]
 rw[e1,h0,hc];simp
abbrev ZY{L:Array Bool}(hH:i∈H):left n H (L.setIfInBounds i true)=left n H L:=by
 unfold left;refine List.countP_congr λj hj=>?_;by_cases hij:i=j
 .subst hij;simp[hH]
 rw[getD_set_ne true hij]
abbrev acP{L:Array Bool}(hi:i<n)(h0:L.getD i true=false)(hH:i∉H):0<left n H L:=by
 unfold left;rw[List.countP_pos_iff];exact⟨i,aym.2 hi,by simp[h0,hH]⟩
theorem Yp{plan:Array Ì}{H:List Nat}{L:Array Bool}{n:Nat}(hsz:plan.size=n)(hL:L.size=n)(hb:∀h∈H,h<n∧∀q∈jv plan h,q<h)(hno:∀h∈H,h∉Region.ready .any plan L) :
  ∀(f h:Nat),h<f->h∈H->L.getD h true=false->∃q∈need plan H f h,q∉H∧q<n∧L.getD q false=false
 | 0,h,hf,_,_=>by omega
 | f+1,h,hf,hh,h0=>by
  have h1:=hno h hh
  rw[jl]at h1
  obtain⟨hlt,hq⟩:=hb h hh
  have h2:∃q∈jv plan h,L.getD q false=false:=by
   refine Classical.byContradiction λhn=>h1 ⟨Z,h0,λq hqm=>?_⟩
   cases hc:L.getD q false with
   | true=>rfl
   | false=>exact(hn ⟨q,hqm,hc⟩).elim
  obtain⟨q,hqm,hqf⟩:=h2
  have hqh:=hq q hqm
  by_cases ź:q∈H
  .obtain⟨r,hr,hr2⟩:=Yp hsz hL hb hno f q Z ź (by rw[qO Z true false]; exact hqf)
   refine⟨r,List.mem_flatMap.2 ⟨q,hqm,?_⟩,hr2⟩
   have hc:H.contains q=true:=by simpa using ź
   rw[hc]; exact hr
  .refine⟨q,List.mem_flatMap.2 ⟨q,hqm,?_⟩,ź,Z,hqf⟩
   have hc:H.contains q=false:=by simpa using ź
   rw[hc]; exact Ā.2 I
abbrev Vh{plan:Array Ì}(hal:Alike plan ops)(hpl:Yo ops plan H=true)(hse:agW ops H=true) :
  ∀(g f:Nat) (L L':Array Bool) (a:í) (w:Á),Ϯ ops.size H L L'->left ops.size H L<=f->ZX P ops H a->ď P .any plan (yI Q) g L a w->ď P .any ops (yI Q) f L' a w:=by
 unfold Yo at hpl;simp only[æ,Û,ø,aym,Ý,ŷ,ayZ]at hpl;obtain⟨⟨hsz,hH⟩,hall⟩:=hpl;have hb:∀h∈H,h<ops.size∧∀q∈jv plan h,q<h:=hH;have key:∀{L L':Array Bool},Ϯ ops.size H L L'->(∀h∈H,h∉Region.ready .any plan L)->∀i,i∈Region.ready .any ops L'->i∉H∧i∈Region.ready .any plan L:=by
  intro L L' hl hno i hi;rw[jl]at hi;obtain⟨hlt,h0,hw⟩:=hi;have hat:=hl.at' i hlt;rw[h0]at hat;have ϯ:i∉H:=λhm=>by
   have hc:H.contains i=true:=by simpa using hm
   rw[hc,Bool.or_true]at hat; cases hat
  have hun:L.getD i true=false:=by
   cases h:L.getD i true with
   | false=>rfl
   | true=>rw[h]at hat; cases hat
  have hop:∀q∈jv ops i,q∉H->L.getD q false=true:=λq hq ź=>by
   have h1:=hw q hq;have Z4:=((hall i hlt).1 q hq).2;have h2:=hl.at' q Z4;rw[qO (L:=L') (by rw[hl.s2]; exact Z4) true false,h1]at h2;have hc:H.contains q=false:=by simpa using ź
   rw[hc,Bool.or_false]at h2;rw[qO (L:=L) (by rw[hl.s1]; exact Z4) false true,<-h2]
  refine⟨ϯ,jl.2 ⟨Z,hun,λq hq=>?_⟩⟩;have h1:=((hall i hlt).2.resolve_left ϯ) q hq;by_cases ź:q∈H
  .have hc:H.contains q=true:=by simpa using ź
   rw[hc]at h1;simp only[ø,ayZ]at h1;have Z4:=(hb q ź).1;cases hv:L.getD q false with
   | true=>rfl
   | false =>
    obtain⟨r,hr,hrH,auM,hrf⟩:=Yp (n:=ops.size) Z hl.s1 hb hno ops.size q Z4 ź (by rw[qO (by rw[hl.s1]; exact Z4) true false]; exact hv);have:=hop r (h1 r hr) hrH;rw[hrf]at this; cases this
  have hc:H.contains q=false:=by simpa using ź
  rw[hc]at h1;simp only[ayZ]at h1;exact hop q h1 ź
 have back:∀{L L':Array Bool},Ϯ ops.size H L L'->∀i,i∉H->i∈Region.ready .any plan L->i∈Region.ready .any ops L':=by
  intro L L' hl i ϯ hi;rw[jl]at hi |-;obtain⟨hlt,h0,hw⟩:=hi;have hlt':i<ops.size:=Z
  refine⟨hlt',?_,λq hq=>?_⟩
  .have hc:H.contains i=false:=by simpa using ϯ
   rw[hl.at' i hlt',h0,hc]; rfl
  have h1:=(hall i hlt').1 q hq;have h2:=hw q h1.1;rw[qO (L:=L') (by rw[hl.s2]; exact h1.2) false true,hl.at' q h1.2,qO (L:=L) (by rw[hl.s1]; exact h1.2) true false,h2]; rfl
 intro g;induction g with
 | zero =>
  intro f L L' a w hl hf hp hh;have hr:Region.ready .any ops L'=[]:=by
   rw[azi];intro i hi;have:=(key hl (λh _ hm=>by rw[hh.1]at hm; cases hm) i hi).2;rw[hh.1]at this; cases this
  cases f with
  | zero=>exact⟨hr,hh.2⟩
  | succ f=>exact⟨λ_=>hh.2,λi hi=>by rw[hr]at hi; cases hi⟩
 | succ g ih =>
  intro f L L' a w hl hf hp hh;by_cases hex:∃h∈H,h∈Region.ready .any plan L
  .obtain⟨h,hhH,hr⟩:=hex;have hpp:ZX P plan H a:=λh hh=>by
    obtain⟨o,v,d,ho,hg,hd,hrr,hput⟩:=hp h hh;obtain⟨af,ho2⟩:=hal.get ho;exact⟨_,v,d,ho2,hg,hd,λw=>by rw[K05]; exact hrr w,hput⟩
   have h1:=hpp.op hhH (hh.2 h hr);exact ih f _ L' a w (hl.setH hhH) (by rw[ZY hhH]; exact hf) hp h1
  have hno:∀h∈H,h∉Region.ready .any plan L:=λh hm hr=>hex ⟨h,hm,hr⟩;have hK:=key hl hno;cases f with
  | zero =>
   have hr:∀i,i∉Region.ready .any plan L:=λi hi=>by
    have ϯ:i∉H:=λhm=>hno i hm hi;rw[jl]at hi;have:=acP (n:=ops.size) Z hi.2.1 ϯ;omega
   refine⟨?_,hh.1 (azi.2 hr)⟩;rw[azi];exact λi hi=>hr i (hK i hi).2
  | succ f =>
   refine⟨λh0=>hh.1 ?_,λi hi=>?_⟩
   .rw[azi];intro i hi;have:=back hl i (λhm=>hno i hm hi) hi;rw[h0]at this; cases this
   obtain⟨ϯ,hr⟩:=hK i hi;have hst:=hh.2 i hr;have hilt:i<ops.size:=(jl.1 hi).1;have h2:=acO hl.s1 hilt (jl.1 hr).2.1 ϯ;refine Alike.wpOp hal (K:=λa' w'=>ZX P ops H a'∧ď P .any plan (yI Q) g (L.setIfInBounds i true) a' w') (λa' w' h3=>ih f _ _ a' w' hl.set Z h3.1 h3.2) ?_;refine acN (ŏ:=ZX P ops H) hp (λo ho b hb u=>?_) (λb d hb=>hb.defer d) (λa w h1 h2=>⟨h1,h2⟩) hst;have ho':ops[i]?=some ops[i]:=Array.getElem?_eq_getElem hilt;obtain⟨af,ho2⟩:=hal.get ho';rw[ho2]at ho;obtain rfl:=Ü ho;exact hb.keep hse ho' ϯ u
def agX(P:Ø)(ops:Array Ì)(l:List (Nat×À))(h:Nat):Option (Nat×À):=match ops[h]? with
 | some o=>(match o.guard,o.dst,vT o.op || !o.op.operands.all (λx=>(rd (lift l) [] x).isSome),iT (ev0 P (Ù (zi (lift l) []) o))with
  | none,some d,false,some (.val v)=>some (d,v)
  | _,_,_,_=>none)
 | none=>none
abbrev LJ{h d:Nat}(hp:agX P ops l h=some (d,v))(hs:Vp.St a n l):∃o,ops[h]?=some o∧o.guard=none∧o.dst=some d∧vT o.op=false∧∀w,(Ù a.eval o).run P w = .ok (.value v) w:=by
 unfold agX at hp;cases ho:ops[h]? with
 | none=>rw[ho]at hp; cases hp
 | some o =>
  rw[ho]at hp;simp only at hp;split at hp
  .rename_i d' v' hg hd hav hev;simp only[Ò,Ô]at hp;obtain⟨rfl,rfl⟩:=hp;simp only[Ĕ]at hav;exact⟨o,I,hg,hd,hav.1,λw=>kH (Std.act a) (gG (bU hs) o) (p:=[]) I hav.1 (by simpa using hav.2) hev⟩
  cases hp
def Yq(P:Ø)(ops:Array Ì):List (Nat×À)->List Nat->Array Bool->Option (List (Nat×À))
 | _,[],_=>some []
 | l,p::H,L=>match agX P ops l p,(Region.ready .any ops L).contains p&&Region.free .any ops L p with
  | some q,true=>(match Yq P ops (q::l) H (L.setIfInBounds p true)with | some r=>some (q::r) | none=>none)
  | _,_=>none
abbrev acQ (l vals:List (Nat×À)):List (Nat×À):=vals.foldl (λl p=>p::l) l
abbrev Ap (H:List Nat)(L:Array Bool):Array Bool:=H.foldl (λL p=>L.setIfInBounds p true) L
theorem acR(hs:Region.noSelect ops=true){n f:Nat}:∀(H:List Nat) (vals l:List (Nat×À)) (L:Array Bool) (a:í) (w:Á),Vp.St a n l->Yq P ops l H L=some vals->vals.all (λp=>decide (p.1<n))=true ->
  (∀a1,Vp.St a1 n (acQ l vals)->ď P .any ops (yI Q) f (Ap H L) a1 w)->ď P .any ops (yI Q) (f+H.length) L a w
 | [],vals,l,L,a,w,hS,ht,hd,h=>by
  obtain rfl:[]=vals:=Ü ht
  exact h a hS
 | p::H,vals,l,L,a,w,hS,ht,hd,h=>by
  unfold Yq at ht
  split at ht
  .rename_i q hq hb
   split at ht
   .rename_i r hr
    obtain rfl:=Ü ht
    obtain⟨d,v⟩:=q
    obtain⟨o,ho,hg,hdst,hsel,hrun⟩:=LJ hq hS
    simp only[æ]at hb
    simp only[ay7,æ,Ý]at hd
    rw[Ĺ,<-Ξ]
    refine wpAny_take (v:=v) ho hs hb.2 hb.1 (λc a w h=>h.elim) (.inl ⟨by simp[Region.wanted,hg],hrun⟩) ?_
    rw[hdst]
    exact acR hs H r _ _ _ w (hS.put d hd.1 v) hr hd.2 h
   .cases ht
  .cases ht
abbrev QX{vals:List (Nat×À)}(hl:vals.all (λp=>(l.lookup p.1).isNone)=true)(hi:l.lookup i=some v):(acQ l vals).lookup i=some v:=by
 have:∀(vals:List (Nat×À)) (m:List (Nat×À)),vals.all (λp=>(l.lookup p.1).isNone)=true->m.lookup i=some v->(acQ m vals).lookup i=some v:=by
  intro vals;induction vals with
  | nil=>intro m _ h; exact h
  | cons p vals ih =>
   intro m h1 h2;simp only[ay7,æ,Option.isNone_iff_eq_none]at h1;refine ih (p::m) h1.2 ?_;rw[ġ];have:(i==p.1)=false:=by
    by_cases e:i=p.1
    .rw[e,h1.1]at hi; cases hi
    simpa using e
   rw[this]; exact h2
 exact this vals l hl hi
end
def Vj(F:List Nat)(t:Nat)(ã:List Nat)(os:List Ì):List Ì:=ã.foldl (λos g=>jT [g-1] g os) (jT F t os)
abbrev Alike.trans{x y z:Array Ì}(h:Alike x y)(k:Alike y z):Alike x z:=⟨h.1.trans k.1,λi=>(h.2 i).trans (k.2 i)⟩
variable{k i c f n h' m sl sx:Nat}{os:List Ì}{o:Ì}{ρ:ö->À}{e t:TypeId}{Post:À->Á->Prop}{xs ys:List À}{z v y:À}{A:Option Ĥ}{w':Á}{s x:ö}
abbrev Aq(F:List Nat)(t:Nat)(os:List Ì):Alike (jT F t os).toArray os.toArray:=⟨by unfold jT; simp,λi=>by
 rw[List.getElem?_toArray,List.getElem?_toArray,tY];split
 .cases os[i]?<;>rfl
 rfl⟩
abbrev Vk(F:List Nat)(t:Nat):∀(ã:List Nat) (os:List Ì),Alike (Vj F t ã os).toArray os.toArray:=by
 have key:∀(ã:List Nat) (os:List Ì),Alike (ã.foldl (λos g=>jT [g-1] g os) os).toArray os.toArray:=by
  intro ã;induction ã with
  | nil=>exact λos=>⟨I,λi=>rfl⟩
  | cons g ã ih=>exact λos=>(ih _).trans (Aq _ _ _)
 exact λã os=>(key ã _).trans (Aq _ _ _)
abbrev ajI{P:Ø}{Q:Exit->í->Á->Prop}{w0:Á}{a:í}{w:Á}{l:List (Nat×À)}{bl:List (Nat×List À)}{vs:List eU}{id:Nat}(S:St w0 a w n l bl vs)(F:List Nat)(t:Nat)(ã:List Nat)(vals:List (Nat×À))
  (next:∀a1,St w0 a1 w n l bl vs->ď P .any (Vj F t ã os).toArray (yI Q) (Vj F t ã os).toArray.size (Array.replicate (Vj F t ã os).toArray.size false) a1 { w with drawn:=w.drawn+1 })
  (ht:Yq P os.toArray l (F++ã) (Array.replicate os.length false)=some vals:=by kernel_rfl) (hv:(F++ã).map (agX P os.toArray (acQ l vals))=vals.map some:=by kernel_rfl) (hl:vals.map (λp=>(acQ l vals).lookup p.1)=vals.map (λp=>some p.2):=by kernel_rfl)
  (hb:(vals.all (λp=>decide (p.1<n)&&(l.lookup p.1).isNone)&&Region.noSelect os.toArray&&Yo os.toArray (Vj F t ã os).toArray (F++ã)&&agW os.toArray (F++ã)&&decide ((F++ã).length<=os.length)&&decide (F++ã).Nodup)=true:=by kernel_rfl)
  (hmo:P.follows .mixedOrders=true:=by kernel_rfl):(Code.region id os.toArray true).wp P Q a w:=by
 simp only[æ,Ý]at hb;obtain⟨⟨⟨⟨⟨h1,h2⟩,h3⟩,h4⟩,h5⟩,h6⟩:=hb;have hd:vals.all (λp=>decide (p.1<n))=true:=by
  rw[ø]at h1 |-;exact λp hp=>((æ _ _).mp (h1 p hp)).1
 have hn:vals.all (λp=>(l.lookup p.1).isNone)=true:=by
  rw[ø]at h1 |-;exact λp hp=>((æ _ _).mp (h1 p hp)).2
 refine š hmo (tZ _ _ _ _ ?_);have hal:=Vk F t ã os;have key:=acR (P:=P) (Q:=Q) (ops:=os.toArray) h2 (n:=n) (f:=os.length-(F++ã).length) (F++ã) vals l (Array.replicate os.length false) a { w with drawn:=w.drawn+1 } S.s ht hd λa1 hS=>?_
 .rw[Nat.sub_add_cancel h5]at key;simpa using key
 have hS0:Vp.St a1 n l:=⟨hS.size,hS.defers,λi v hi=>hS.has i v (QX hn hi)⟩;have ape:ZX P os.toArray (F++ã) a1:=λh hh=>by
  obtain⟨j,hj⟩:=List.getElem?_of_mem hh;have e1:=Ñ (·[j]?) hv;simp only[List.getElem?_map,hj,Ę]at e1;cases hq:vals[j]? with
  | none=>rw[hq]at e1; cases e1
  | some q =>
   rw[hq]at e1;simp only[Ę,Ò]at e1;obtain⟨d,v⟩:=q;obtain⟨o,ho,hg,hdst,hsel,hrun⟩:=LJ e1 hS;refine⟨o,v,d,ho,hg,hdst,hrun,?_⟩;have e2:=azj.1 hl (d,v) (List.mem_of_getElem? hq);have e3:=hS.has d v e2;have hlt:d<a1.tmps.size:=by
    rw[hS.size];have:=ø.1 hd (d,v) (List.mem_of_getElem? hq);simpa using this
   have e4:a1.tmps[d]=v:=by simpa[Act.eval,Array.getD_eq_getD_getElem?,hlt]using e3
   show({ tmps:=a1.tmps.setIfInBounds d v,defers:=a1.defers }:í)=a1;have e5:a1.tmps.setIfInBounds d v=a1.tmps:=by
    refine Array.ext Y λi h1 h2=>?_;rw[Array.getElem_setIfInBounds (by simpa using h1)];split
    .rename_i e; subst e; exact e4.symm
    rfl
   rw[e5]
 refine Vh hal h3 h4 _ _ _ _ a1 _ ?_ ?_ ape (next a1 (S.act hS0))
 ·
  have hall:∀(H:List Nat) (L:Array Bool),(Ap H L).size=L.size∧∀j,j<L.size->(Ap H L).getD j true=(L.getD j true||H.contains j):=by
   intro H;induction H with
   | nil=>exact λL=>⟨I,λj hj=>by simp⟩
   | cons p H ih =>
    intro L;obtain⟨i1,i2⟩:=ih (L.setIfInBounds p true);refine⟨by rw[show Ap (p::H) L=Ap H (L.setIfInBounds p true)from rfl,i1]; simp,λj hj=>?_⟩;rw[show Ap (p::H) L=Ap H (L.setIfInBounds p true)from rfl,i2 j (by simpa using hj)];by_cases hpj:p=j
    .subst hpj;simp[Array.getD_eq_getD_getElem?,hj]
    rw[getD_set_ne true hpj];have:(j==p)=false:=by simpa using λe:j=p=>hpj e.symm
    rw[List.contains_cons,this,ayT]
  obtain⟨i1,i2⟩:=hall (F++ã) (Array.replicate os.length false);have hsz:(Vj F t ã os).toArray.size=os.length:=by rw[hal.1]; simp
  exact⟨by rw[hsz]; simp,by rw[i1]; simp,λj hj=>by rw[i2 j (by simpa using hj),hsz]⟩
 have hsz:(Vj F t ã os).toArray.size=os.length:=by rw[hal.1]; simp
 rw[hsz];unfold left;have hlen:∀(H:List Nat),H.Nodup->(∀h∈H,h<os.length)->((List.range os.length).countP λj => !H.contains j)=os.length-H.length:=by
  intro H hnd hlt;have h7:(List.range os.length).countP (λj=>H.contains j)=H.length:=by
   have e1:((List.range os.length).filter λj=>H.contains j).Perm H:=by
    refine(List.perm_ext_iff_of_nodup (List.nodup_range.filter _) hnd).2 λx=>?_;simp only[List.mem_filter,aym,ayZ];exact⟨λh=>h.2,λh=>⟨hlt x h,h⟩⟩
   rw[List.countP_eq_length_filter,e1.length_eq]
  have h8:=List.length_eq_countP_add_countP (λj=>H.contains j) (l:=List.range os.length);rw[List.length_range,h7]at h8;have h9:(List.range os.length).countP (λj => !H.contains j)=(List.range os.length).countP λa=>decide ¬(H.contains a=true):=List.countP_congr λj hj=>by simp
  rw[h9]; omega
 refine ayK ((List.countP_congr λj hj=>?_).trans (hlen (F++ã) h6 λh hh=>?_))
 .have hj':=aym.1 hj;have e1:(Array.replicate os.length false).getD j true=false:=by rw[Array.getD_eq_getD_getElem?,Array.getElem?_replicate,Ï (by simpa using hj')]; rfl
  rw[e1]; rfl
 unfold Yo at h3;simp only[æ,ø,Ý]at h3;have:=(h3.1.2 h hh).1;simpa using this
abbrev wR{P:Ø}{w:Á}(ho:os[i]?=some o)(hs:Std ρ)(l:List (Nat×À))(hl:∀q v,l.lookup q=some v->ρ (.tmp q)=v)(A:List À)(sh:Option Nat)(hT:∀v w',iK w.heap.size A sh v w'->Ext w w'->Post v w')
  (hx:∀r,((os[i]?).bind λo=>wS P r [o] l).map (λq=>(q.1,q.2.2.1,q.2.2.2.isSome))=some (A,Z5 sh r,true):=by intro r; kernel_rfl):Does P o ρ w Post:=by
 have hx:=hx w.heap.size;rw[ho,Ο]at hx;unfold wS at hx;simp only at hx;split at hx
 .rename_i A' ty k' hg hav hev;split at hx
  .rename_i v hv;simp only[Ę,Ò,Ô]at hx;obtain⟨rfl,rfl,hd⟩:=hx;simp only[Ĕ]at hav;have hH:Holds ρ (lift l):=λq x hq=>by
    rw[jm]at hq;cases h2:l.lookup q with
    | none=>simp[h2]at hq
    | some u =>
     simp only[h2,Ę,Ò]at hq;subst hq;rw[hl q u h2]; rfl
   have hc:Ù ρ o=Ù (zi (lift l) []) o:=by
    refine execOp_congr o (λcs b e1=>by rw[e1]at hav; cases hav.1) λx hx=>?_;have h2:=hav.2;simp only[Ő,ϑ]at h2;obtain⟨z,hz⟩:=į.1 (h2 x hx);rw[gK hs (gG hH o x hx) (p:=[]) I hz];simp[zi,hz]
   have hv':ev0 P k'=some (.value (Z5 sh w.heap.size)):=by
    unfold iT at hv;split at hv
    .rename_i h; obtain h2:=Ü hv; rw[h]; simp only[FH.val.injEq]at h2; rw[h2]
    .cases hv
    cases hv
   have hrun:(Ù ρ o).run P w = .ok (.value (Z5 sh w.heap.size)) (w.alloc (.cells A'.toArray ty)):=by rw[hc,nD hev,nY hv']
   unfold Does;rw[hrun];exact hT _ _ ⟨w.heap.size,I,Ó _,Hl _ _ _⟩ (aH _ _)
  simp at hx
 simp at hx
abbrev oP{α:Type}{f:α->List À}{w:Á}{a:Option Ĥ}{L:List α}(h:aI k f w (.s a L.length c) L){l:Nat}(h1:l<=h')(h2:h'<=L.length)(h3:h'<=m)(h4:m<=c):aI k f w (.s (sO a l m k) (h'-l) (m-l)) ((L.drop l).take (h'-l)):=by
 have hlen:((L.drop l).take (h'-l)).length=h'-l:=by simp; omega
 obtain⟨a',cap,hv,hm,hh⟩:=h;simp only[Ĉ,true_and]at hv;obtain⟨rfl,rfl⟩:=hv;refine⟨sO a l m k,m-l,by rw[hlen],ï Z hm,?_⟩;rcases hh with ⟨rfl,hz⟩ | ⟨b,o,rfl,hb,hl,hc⟩
 .refine .inl ⟨by simp,λe=>?_⟩;have:c=0:=hz (by
   unfold sO at e;split at e
   .exact e
   cases a with
   | none=>rfl
   | some _=>cases e)
  omega
 by_cases hlm:m=l
 .refine .inl ⟨by rw[show h'-l=0 by omega]; rfl,λe=>by
  unfold sO at e; rw[Ï hlm]at e; cases e⟩
 refine .inr ⟨b,o+l*k,by unfold sO; rw[É hlm]; simp[Addr.add],hb,by rw[hlen]; omega,λi hi j hj=>?_⟩;rw[hlen]at hi;have h5:=hc (l+i) Z j hj;have e1:o+l*k+i*k+j=o+(l+i)*k+j:=by rw[Œ]; omega
 rw[e1,h5,ayP,List.getElem_drop]
abbrev Vl{α:Type}{base:Nat}{f:α->List À}{w:Á}{a:Option Ĥ}{L:List α}(h:jY e k f base (.s a L.length c) L w)(h2:h'<=L.length)(h3:h'<=m)(h4:m<=c):jY e k f base (.s a h' m) (L.take h') w:=by
 have h5:=oP h.1 (Õ _) h2 h3 h4;have hlen:(L.take h').length=h':=by simp; omega
 have e0:((L.drop 0).take (h'-0))=L.take h':=by simp
 rw[e0,Nat.sub_zero,Nat.sub_zero]at h5;have ea:sO a 0 m k=a:=by unfold sO; split<;>cases a<;>simp[Addr.add]
 rw[ea]at h5;refine⟨h5,?_⟩;rcases h.2 with h6 | ⟨g,cap,cur,h6,h7,h8,h9⟩
 .exact .inl Z
 simp only[Ĉ,true_and]at h6;obtain⟨rfl,rfl⟩:=h6;exact .inr ⟨g,m,cur,by rw[hlen],h7,h8,by rw[hlen]; exact ï (ő _ h2) h9⟩
abbrev acS(a:Option Ĥ)(m k:Nat):sO a 0 m k=a:=by unfold sO; split<;>cases a<;>simp[Addr.add]
abbrev LK{α:Type}{f:α->List À}{w:Á}{a:Option Ĥ}{L:List α}(h:aI k f w (.s a L.length c) L)(hi:i<=L.length)(hc:i<=c):aI k f w (.s (sO a 0 i k) i i) (L.take i):=by
 have:=oP h (Õ i) hi (Ó i) hc;simpa using this
abbrev Z7{α:Type}{f:α->List À}{w:Á}{a:Option Ĥ}{L:List α}(h:aI k f w (.s a L.length c) L)(hi:i<=L.length)(hc:L.length<=c):aI k f w (.s (sO a i c k) (L.length-i) (c-i)) (L.drop i):=by
 have:=oP h hi (Ó _) hc (Ó c);rwa [Ĝ Y]at this
abbrev jo{α:Type}{f:α->List À}{w:Á}{a:Option Ĥ}{L:List α}(h:aI k f w (.s a L.length c) L):L.length<=c:=by
 obtain⟨a',cap,hv,hm,hh⟩:=h;simp only[Ĉ,true_and]at hv;obtain⟨rfl,rfl⟩:=hv;rcases hh with ⟨rfl,_⟩ | ⟨b,o,_,_,hl,_⟩
 .exact Õ _
 exact hl
abbrev dO{w:Á}{B:Nat}(h:w.ownsRow B e k v n xs)(hE:Ext w w'):w'.ownsRow B e k v n xs:=kY h λg hg=>hE.block g (iq h hg).2
abbrev acT{P:Ø}{w:Á}(ho:o.op = .call { callee := .builtin .append,args := #[s,x],argTypes := #[t,t] }){bytes:Nat}(T:gu P t e z k bytes)
     (hv:dN w k (.s A f f) f xs) (hs:ρ s = .s A f f)    (hy:dN w k y c ys) (hx:ρ x=y) (hc0:0<c) (h63:f+c<=maxLen) (hbytes:(f+c)*bytes<=140737488355328) :
  ∃v' w',(Ù ρ o).run P w = .ok (.value v') w'∧w'.ownsRow w.heap.size e k v' (f+c) (xs++ys)∧Ext w w':=by
 cases A with
 | some ad=>exact Hy ho T hv hs hy hx Z hc0 h63 hbytes
 | none =>
  have hf:f=0:=by
   rcases hv.2.2 with ⟨h,_⟩ | ⟨_,_,_,h,_⟩
   .exact h
   cases h
  subst hf;have hxs:xs=[]:=Ŝ (by simpa using hv.1);subst hxs;obtain⟨v',w',hr,h2,h3,-⟩:=NR (P:=P) (B:=w.heap.size) ho T (v := .sn) (m:=0) (xs:=[]) ⟨by simp,.inl ⟨I,I⟩⟩ hs hy hx h63 hbytes (Ó _);exact⟨v',w',hr,h2,⟨h3.os,h3.tape,h3.output,h3.size,λi hi=>h3.block i hi λe=>by cases e⟩⟩
def LM(os:List Ì)(i:Nat):Option (ö×ö×TypeId×Bool):=match os[i]? with
 | some o=>(match o.op with
  | .call c=>(match c.callee,c.args.toList,c.argTypes.toList with
   | .builtin .append,[s,x],[t,t']=>(match t==t' with | true=>some (s,x,t,o.dst.isSome) | false=>none)
   | _,_,_=>none)
  | _=>none)
 | none=>none
abbrev Hz{b:Bool}(h:LM os i=some (s,x,t,b))(ho:os[i]?=some o):o.op = .call { callee := .builtin .append,args := #[s,x],argTypes := #[t,t] }∧o.dst.isSome=b:=by
 unfold LM at h;rw[ho]at h;simp only at h;split at h
 .rename_i c hop;split at h
  .rename_i s' x' t1 t2 h1 h2 h3;split at h
   .rename_i ht;simp only[Ò,Ô]at h;obtain⟨rfl,rfl,rfl,rfl⟩:=h;obtain rfl:t1=t2:=by simpa using ht
    refine⟨?_,I⟩;rw[hop];obtain⟨callee,args,argTypes⟩:=c;simp only at h1 h2 h3;rw[h1,<-ayL (xs:=args),<-ayL (xs:=argTypes),h2,h3]
   cases h
  cases h
 cases h
abbrev wU{P:Ø}{w:Á}(ho:os[i]?=some o){bytes:Nat}(T:gu P t e z k bytes)
  (hs:ρ (.tmp sl) = .s A f f) (hx:ρ (.tmp sx)=y) (hv:dN w k (.s A f f) f xs) (hy:dN w k y c ys) (hc0:0<c) (h63:f+c<=maxLen) (hbytes:(f+c)*bytes<=140737488355328)  (hK:∀v' w',w'.ownsRow w.heap.size e k v' (f+c) (xs++ys)->Ext w w'->Post v' w')
  (hop:LM os i=some (.tmp sl,.tmp sx,t,true):=by kernel_rfl):Does P o ρ w Post:=by
 obtain⟨h1,h2⟩:=Hz hop ho;obtain⟨v',w',hr,h3,h4⟩:=acT (P:=P) h1 T hv hs hy hx hc0 h63 hbytes;unfold Does;rw[hr];exact hK v' w' h3 h4
abbrev LP{P:Ø}{w:Á}(ho:os[i]?=some o){bytes:Nat}(T:gu P t e z k bytes){B:Option Ĥ}{cf:Nat}(hf:f<=cf)
  (hs:ρ (.tmp sl) = .s A f cf) (hx:ρ (.tmp sx) = .s B 0 c)  (hK:Post (.s A f cf) w) (hop:LM os i=some (.tmp sl,.tmp sx,t,true):=by kernel_rfl):Does P o ρ w Post:=by
 obtain⟨h1,h2⟩:=Hz hop ho;obtain⟨i',hi',-⟩:=T.info;have hr:=vU (P:=P) (w:=w) (ty:=o.type) T.und hi' A B f cf c hf;have hrun:(Ù ρ o).run P w = .ok (.value (.s A f cf)) w:=by
  unfold Ù;simp only[h1,resolve,invoke,builtin,ķ,ϫ,ϖ,ayU,Ē,ŀ,hs,hx,hr]
 unfold Does;rw[hrun];exact hK
abbrev jZ{U:Ar}{d:Nat}{K:Fact}{w:Á}(ho:os[i]?=some o)(hd:(os[i]?).bind (·.dst)=some d)(hU:U.lookup d=some K)(hE:Ext w w')(h:K v w'):Ext w w'∧hpost U o (kept o v) w':=by
 rw[ho,Ο]at hd;refine⟨hE,?_⟩;unfold hpost;rw[hd];simp only[hU];unfold kept;rw[hd];exact h
def evV(P:Ø)(o:Ì)(l:List (Nat×À)):Option À:=match vT o.op || !o.op.operands.all (λx=>(rd (lift l) [] x).isSome),iT (ev0 P (Ù (zi (lift l) []) o))with
 | false,some (.val v)=>some v
 | _,_=>none
abbrev jf{P:Ø}{w:Á}(ho:os[i]?=some o)(hs:Std ρ)(l:List (Nat×À))(hl:∀q v,l.lookup q=some v->ρ (.tmp q)=v)(v:À)(hK:Post v w)
  (hx:(os[i]?).bind (λo=>evV P o l)=some v:=by kernel_rfl):Does P o ρ w Post:=by
 rw[ho,Ο]at hx;unfold evV at hx;split at hx
 .rename_i v' hav hev;obtain rfl:=Ü hx;simp only[Ĕ]at hav;have hH:Holds ρ (lift l):=λq x hq=>by
   rw[jm]at hq;cases h2:l.lookup q with
   | none=>simp[h2]at hq
   | some u =>
    simp only[h2,Ę,Ò]at hq;subst hq;rw[hl q u h2]; rfl
  have hrun:(Ù ρ o).run P w = .ok (.value v') w:=kH hs (gG hH o) (p:=[]) I hav.1 (by simpa using hav.2) hev;unfold Does;rw[hrun];exact hK
 cases hx
abbrev look1{s:Nat}{u:À}(h:ρ (.tmp s)=u):∀q v,List.lookup q [(s,u)]=some v->ρ (.tmp q)=v:=λq v hq=>by
 rw[ġ]at hq;split at hq
 .rename_i hq2;obtain rfl:q=s:=by simpa using hq2
  rw[<-Ü hq,h]
 cases hq
end Go.Sx
end
abbrev Ŀ:=@Go.Sx.look1
abbrev Ĵ:=@Go.Sx.jZ
