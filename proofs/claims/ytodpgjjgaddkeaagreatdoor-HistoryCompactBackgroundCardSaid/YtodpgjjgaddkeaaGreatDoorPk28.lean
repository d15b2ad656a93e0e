/- Walks of rational and binenc: same, IsNormalized, -/
import Derived.Test.YtodpgjjgaddkeaaGreatDoorPk27
set_option maxHeartbeats 1600000
set_option maxRecDepth 100000
set_option linter.unusedVariables false
set_option linter.unusedSimpArgs false
namespace Go.Proofs.YtodpgjjgaddkeaaGreatDoor
section
open Go.RowKit En Na
variable{α:Type}
variable{most:Int}{k:Nat}
theorem EF(n1 n2:Bool)(s1 s2:Value)(l m:List UInt32)(w:World)(h1:aC w s1 l)(h2:aC w s2 m) :
  Calls Tryz.prog 285 #[.agg #[.bool n1,s1],.agg #[.bool n2,s2]] w λe w'=>e = .returned (.bool (n1==n2&&l==m))∧Ext w w':=by
 obtain⟨a1,c1,rfl⟩:=h1.shape;obtain⟨a2,c2,rfl⟩:=h2.shape;have hl1:=h1.len;have hl2:=h2.len;unfold maxLen at hl1 hl2;have HB0:=azO ((aF w (.cells #[.bool n1,.slice a1 l.length c1] 24)).alloc Y (.cells #[.bool n2,.slice a2 m.length c2] 24));have H1:=azO h1;have H2:=azO h2;clear h1 h2;by_cases hn:n1=n2
 .subst hn;by_cases hl:l.length=m.length
  .have HL:=azO hl;obtain⟨W,hW⟩:∃W,((w.alloc (.cells #[.bool n1,.slice a1 l.length c1] 24)).alloc (.cells #[.bool n1,.slice a2 m.length c2] 24))=W:=⟨_,I⟩;have hK:∀w1,Ext W w1->w1.cell? ⟨w.heap.size,1,none⟩=some (.slice a1 l.length c1)∧w1.cell? ⟨w.heap.size+1,1,none⟩=some (.slice a2 m.length c2):=by
    intro w1 hb;subst hW;constructor
    .rw[hb.cell (p:=⟨w.heap.size,1,none⟩) (by simp; omega)]; simp[go_sem]
    rw[hb.cell (p:=⟨w.heap.size+1,1,none⟩) Y]; simp[go_sem]
   have HK:=azO hK;rw[hW]at HB0;have HW:=azO hW;have hne:((l.length:Int) != (m.length:Int))=false:=by rw[bne_eq_false_iff_eq]; omega
   have hml:m.length<=l.length:=aCm hl.symm;have hlm:l.length<=m.length:=aCm hl;clear hl hK hW;cases n1;all_goals
    go_enter Tryz.func285,Tryz.ntmps285
    go_wp2_with fail
    rw[HW.out]
    clear hne
    go_loopw [5,6,24] (λ_ _ i wr=>∃k:Nat,i = .i k∧k<=l.length∧l.take k=m.take k∧Ext W wr) (λ_ _ i _=>l.length-(intOf i).toNat)
    case atStart=>exact⟨0,I,azZ _,I,aAe _ _⟩
    case round =>
     obtain⟨k,rfl,hk,ht,hbel⟩:=hrel
     have HT:=azO ht
     clear ht
     obtain⟨q1,q2⟩:=HK.out wr hbel
     by_cases hlt:k<l.length
     .obtain⟨bx,ox,cx,hxs,hbx,hlx,hmx,hcx⟩:=dO H1.out I Z
      obtain⟨by',oy,cy,hys,hby,hly,hmy,hcy⟩:=dO H2.out I Z
      simp only[aAq]at hxs hys
      obtain⟨rfl,-,-⟩:=hxs
      obtain⟨rfl,-,-⟩:=hys
      have hkm:k<m.length:=Z
      have hb:=K00 HB0.out hbel
      have r1:wr.cell? ⟨bx,ox+k,none⟩=some (bn l[k]):=by rw[hb.cell (p:=⟨bx,ox+k,none⟩) hbx]; exact hcx k hlt
      have r2:wr.cell? ⟨by',oy+k,none⟩=some (bn m[k]):=by rw[hb.cell (p:=⟨by',oy+k,none⟩) hby]; exact hcy k hkm
      have hs1:=take_snoc l k hlt
      have hs2:=take_snoc m k hkm
      clear hcx hcy hb
      have hkI:(k:Int)<(m.length:Int):=Z
      by_cases he:l[k]=m[k]
      .have hnx:l.take (k+1)=m.take (k+1):=by rw[hs1,hs2,HT.out,he]
       rw[he]at r1
       have HN:=azO hnx
       generalize m[k]=d at *
       clear hs1 hs2 hnx he
       go_wp2_with fail
       go_roundw
       case rel=>exact⟨k+1,by go_num,Z,HN.out,hbel⟩
       case measure=>simp[intOf]; omega
      .have hx:((l[k].toNat:Int) != (m[k].toNat:Int))=true:=by
        rw[bne_iff_ne]; intro e; exact he (aBq.1 Z)
       have hr:l≠m:=λe=>he (by subst e; rfl)
       have HR:Hid ((l==m)=false):=aAh.2 hr
       generalize l[k]=d1 at *
       generalize m[k]=d2 at *
       clear hs1 hs2 he hr
       go_wp2_with fail
       go_ret
       exact⟨by rw[HR.out]; rfl,K00 HB0.out hbel⟩
     .obtain rfl:k=l.length:=by omega
      have hr:l=m:=by
       have:=HT.out
       rw[aAJ,HL.out,aAJ]at this; exact this
      have HR:Hid ((l==m)=true):=az4.2 hr
      clear hr
      go_wp2_with fail
      go_ret
      exact⟨by rw[HR.out]; rfl,K00 HB0.out hbel⟩
  have hne:((l.length:Int) != (m.length:Int))=true:=by rw[bne_iff_ne]; omega
  have hr:Hid ((n1==n1&&l==m)=false):=by
   show _=_;rw[aBB,aA1,aAh]; exact λe=>hl (by rw[e])
  clear hl;cases n1;all_goals
   go_enter Tryz.func285,Tryz.ntmps285
   go_wp2_with fail
   go_ret
   exact⟨by rw[hr.out]; rfl,HB0.out⟩
 have hr:Hid ((n1==n2&&l==m)=false):=by
  show _=_;rw[aAh.2 hn,aBh]
 cases n1<;>cases n2
 .exact absurd I hn
 case' true.true=>exact absurd I hn
 all_goals
  clear hn
  go_enter Tryz.func285,Tryz.ntmps285
  go_wp2_with fail
  go_ret
  exact⟨by rw[hr.out]; rfl,HB0.out⟩
theorem abg{n1:Bool}{a b:Nat}(h:n1=true->0<a):(decide (0<b)&&((n1==(nrm n1 false a b).1&&Ux a==Ux (nrm n1 false a b).2.1)&&(false==false&&Ux b==Ux (nrm n1 false a b).2.2)))=FZ n1 a b:=by
 have h1:(!(n1&&decide ((Ux a).length=0)))=true:=by
  cases n1
  .rfl
  have:=h I;rw[aA1,aBt,aAt];intro e; have:=og e; omega
 cases hq:FZ n1 a b with
 | true =>
  have hb:0<b:=by
   unfold FZ at hq;simp only[az7,az6]at hq;exact hq.2.1
  rw[Pq hq,aA6 hb]; simp
 | false =>
  rw[Bool.eq_false_iff];intro hc;simp only[az7,az6,az4]at hc;obtain⟨hb,⟨_,e2⟩,_,e3⟩:=hc;unfold FZ at hq;rw[h1,aA6 hb,aA1,aA1]at hq;have e3':b=(nrm n1 false a b).2.2:=by
   have:=az0 Zk e3;rwa [PV,PV]at this
  have hg:Nat.gcd a b=1:=by
   unfold nrm at e3';rw[azP Z]at e3';simp only at e3';have hgp:0<Nat.gcd a b:=aCx _ hb;have hd:=Nat.div_mul_cancel (aCe a b);rw[<-e3']at hd;rcases aAH 1 (Nat.gcd a b)with h2 | h2
   .have:b*2<=b*Nat.gcd a b:=aAz _ h2;omega
   omega
  rw[hg]at hq;simp at hq
theorem zH(n1:Bool)(s t:Value)(a b:Nat)(w:World)(hs:aC w s (Ux a))(ht:aC w t (Ux b))(hla:(Ux a).length<=5000000)(hlb:(Ux b).length<=5000000)(hn:n1=true->0<a) :
  Calls Tryz.prog 253 #[.agg #[.bool n1,s,.z,t]] w λe w'=>e = .returned (.bool (FZ n1 a b))∧Ext w w':=by
 have hb0:=aF w (.cells #[.bool n1,s,.z,t] 26);have HB0:=azO hb0;have H:=azO (And.intro hs ht);have hN:=oq n1 false s t _ _ _ (hs.below hb0) (ht.below hb0) Z Z;rw[PV,PV]at hN;have HN:=azO hN;have HR:=azO (abg (b:=b) hn);obtain⟨a1,c1,rfl⟩:=hs.shape;obtain⟨a2,c2,rfl⟩:=ht.shape;generalize nrm n1 false a b=r at *;obtain⟨ng,ga,gb⟩:=r;simp only at HR;generalize FZ n1 a b=Q at *;have hK:∀w1,Ext (w.alloc (.cells #[.bool n1,.slice a1 (Ux a).length c1,.z,.slice a2 (Ux b).length c2] 26)) w1->(∀i,w1.cell? ⟨w.heap.size,i,none⟩ = #[Value.bool n1,.slice a1 (Ux a).length c1,.z,.slice a2 (Ux b).length c2][i]?)∧w.heap.size<w1.heap.size:=λw1 h=>⟨(iY h).1,(iY h).2.2⟩;have HK:=azO hK;clear hs ht hb0 hN hK hn;go_enter Tryz.func253,Tryz.ntmps253
 go_wp2_with fail
 refine HN.out.mono ?_;rintro e w1 ⟨x,rfl,hx,hb⟩;have hx:aA _ w1 x ng ga gb:=hx;obtain⟨b1,d1,b2,d2,rfl⟩:=hx.shape;obtain⟨k1,kz⟩:=HK.out w1 hb;have HX:=azO (And.intro hx.parts.1 hx.parts.2.1);have hE:=hb.alloc hb.size (.cells #[.bool ng,.slice b1 (Ux ga).length d1,.z,.slice b2 (Ux gb).length d2] 26);have hS:=mX false (.slice a2 (Ux b).length c2) (Ux b) _ (H.out.2.below (K00 HB0.out hE)) Z;rw[PV]at hS;have HE:=azO hE;have HW1:=azO hb;have HS:=azO hS;clear hx hb hE hS HN;have HK2:Hid (∀w2,Ext (w1.alloc (.cells #[.bool ng,.slice b1 (Ux ga).length d1,.z,.slice b2 (Ux gb).length d2] 26)) w2 ->
   (∀i,w2.cell? ⟨w.heap.size,i,none⟩ = #[Value.bool n1,.slice a1 (Ux a).length c1,.z,.slice a2 (Ux b).length c2][i]?)∧(∀i,w2.cell? ⟨w1.heap.size,i,none⟩ = #[Value.bool ng,.slice b1 (Ux ga).length d1,.z,.slice b2 (Ux gb).length d2][i]?) ∧
   aC w2 (.slice a1 (Ux a).length c1) (Ux a)∧aC w2 (.slice a2 (Ux b).length c2) (Ux b)∧aC w2 (.slice b1 (Ux ga).length d1) (Ux ga)∧aC w2 (.slice b2 (Ux gb).length d2) (Ux gb)∧Ext w w2):=by
  intro w2 h2
  have h3:=K00 (aF w1 _) h2
  have h4:=K00 HB0.out (K00 HW1.out h3)
  exact⟨(HK.out w2 (K00 HW1.out h3)).1,(iY h2).1,H.out.1.below h4,H.out.2.below h4,HX.out.1.below h3,HX.out.2.below h3,h4⟩
 clear HE HW1 HX HK HB0 H;cases hb0:decide (0<b)with
 | false =>
  have anC:b=0:=by have:=aAd hb0; omega
  have hr:Hid (Q=false):=by show _=_; rw[<-HR.out,hb0]; rfl
  rw[show pR false b=0 by rw[anC]; rfl]at HS;clear hb0 anC;go_wp2_with fail
  refine HS.out.mono ?_;rintro e w2 ⟨rfl,hb⟩;obtain⟨-,-,-,-,-,-,h4⟩:=HK2.out w2 hb;have HF:=azO h4;clear hb h4;go_wp2_with fail
  go_ret
  exact⟨by rw[hr.out]; rfl,HF.out⟩
 | true =>
  have hbp:0<b:=az9 hb0;have hR2:=HR.out;rw[hb0,aA1]at hR2;have hsg:pR false b=1:=by unfold pR; rw[azP Z]; rfl
  rw[hsg]at HS;obtain⟨S1,hS1⟩:∃S1,(n1==ng&&Ux a==Ux ga)=S1:=⟨_,I⟩;obtain⟨S2,hS2⟩:∃S2,(false==false&&Ux b==Ux gb)=S2:=⟨_,I⟩;rw[hS1,hS2]at hR2;have HR2:=azO hR2;have HS1:=azO hS1;have HS2:=azO hS2;clear hb0 hbp hsg hR2 hS1 hS2;go_wp2_with fail
  refine HS.out.mono ?_;rintro e w2 ⟨rfl,hb⟩;obtain⟨k1,k2,g1,g2,g3,g4,h4⟩:=HK2.out w2 hb;have hM:=EF n1 ng _ _ _ _ w2 g1 g3;rw[HS1.out]at hM;have HM:=azO hM;have HW2:=azO hb;clear hb g1 g2 g3 g4 h4 hM HS;cases S1
  .go_wp2_with fail
   refine HM.out.mono ?_;rintro e w3 ⟨rfl,hb⟩;obtain⟨-,-,-,-,-,-,h4⟩:=HK2.out w3 (K00 HW2.out hb);have HF:=azO h4;clear hb h4 k1 k2;go_wp2_with fail
   go_ret
   exact⟨by rw[<-HR2.out]; rfl,HF.out⟩
  go_wp2_with fail
  refine HM.out.mono ?_;rintro e w3 ⟨rfl,hb⟩;have hW3:=K00 HW2.out hb;obtain⟨k1,k2,g1,g2,g3,g4,h4⟩:=HK2.out w3 hW3;have hM:=EF false false _ _ _ _ w3 g2 g4;rw[HS2.out]at hM;have HM2:=azO hM;have HW3:=azO hW3;clear hb g1 g2 g3 g4 h4 hM hW3 HM;go_wp2_with fail
  refine HM2.out.mono ?_;rintro e w4 ⟨rfl,hb⟩;obtain⟨-,-,-,-,-,-,h4⟩:=HK2.out w4 (K00 HW3.out hb);have HF:=azO h4;clear hb h4 k1 k2;go_wp2_with fail
  go_ret
  exact⟨by rw[<-HR2.out]; rfl,HF.out⟩
theorem akQ(v:Value)(l:List UInt8)(w:World)(hv:bK w v l)(hlen:l.length<=100000000000) :
  Calls Tryz.prog 61 #[v] w λe w'=>∃v',e = .returned v'∧OwnB w.heap.size w' v' l∧Ext w w':=WY v l w hv Z
def aeC(w:World)(b:Nat)(v:Value)(l:List UInt8)(p:Nat)(r:Except Nat (List UInt8×Nat))(e:Ending)(w':World):Prop:=
 ∃q,Rd w' b v l q∧Ch b w w'∧(match r with
  | .ok (s,k)=>q=p+k∧∃x,e = .returned (.tuple #[x,.i 0])∧OwnB w.heap.size w' x s
  | .error er=>e = .returned (.tuple #[.sn,.i er]))
theorem ahi{l:List UInt8}{e:Nat}(h:lY 9 l = .error e):sW most l = .error e:=by unfold sW; rw[h]
theorem anD{l:List UInt8}{n:Nat}(h:lY 9 l = .ok (n,k))(h5:most<0∨most<(n:Int)):sW most l = .error 5:=by unfold sW; rw[h]; simp only; rw[azQ h5]
theorem anE{l:List UInt8}{n:Nat}(h:lY 9 l = .ok (n,k))(h5:¬(most<0∨most<(n:Int)))(h4:l.length-k<n):sW most l = .error 4:=by
 unfold sW; rw[h]; simp only; rw[azP h5,azQ h4]
theorem anF{l:List UInt8}{n:Nat}(h:lY 9 l = .ok (n,k))(h5:¬(most<0∨most<(n:Int)))(h4:¬l.length-k<n):sW most l = .ok ((l.drop k).take n,k+n):=by
 unfold sW; rw[h]; simp only; rw[azP h5,azP h4]
theorem tZ(l:List UInt8)(b p:Nat)(v:Value)(most:Int)(w:World)(h:Rd w b v l p)(hl:l.length<=100000000000)(hmb:most<=9223372036854775807) :
  Calls Tryz.prog 74 #[.q b 0,.i most] w (aeC w b v l p (sW most (l.drop p))):=by
 have HN:=azO (Az l b p v w h);have hpl:=h.hp;cases hu:lY 9 (l.drop p)with
 | error er =>
  rw[ahi hu];rw[hu]at HN;have he:=YJ hu;clear hu h;go_enter Tryz.func74,Tryz.ntmps74
  go_wp2_with fail
  refine HN.out.mono ?_;rintro e w1 ⟨q,hrd,hch,rfl⟩;have HR:=azO hrd;have HC:=azO hch;clear hrd hch HN;go_wp2_with fail
  go_ret2
  exact⟨q,HR.out,HC.out,I⟩
 | ok r =>
  obtain⟨n,k⟩:=r;obtain⟨axR,hk1,hkl,hk10,-⟩:=FN hu;simp only[aBT]at hkl;rw[hu]at HN;clear h;by_cases h5:most<0∨most<(n:Int)
  .rw[anD hu h5];clear hu;by_cases h0:most<0
   .clear h5;go_enter Tryz.func74,Tryz.ntmps74
    go_wp2_with fail
    refine HN.out.mono ?_;rintro e w1 ⟨q,hrd,hch,hq,rfl⟩;have HR:=azO hrd;have HC:=azO hch;clear hrd hch HN hq;go_wp2_with fail
    go_ret2
    exact⟨q,HR.out,HC.out,I⟩
   have h1:most<(n:Int):=Z
   clear h5;go_enter Tryz.func74,Tryz.ntmps74
   go_wp2_with fail
   refine HN.out.mono ?_;rintro e w1 ⟨q,hrd,hch,hq,rfl⟩;have HR:=azO hrd;have HC:=azO hch;clear hrd hch HN hq;go_wp2_with fail
   go_ret2
   exact⟨q,HR.out,HC.out,I⟩
  have h0:0<=most:=Z
  have h1:(n:Int)<=most:=Z
  by_cases h4:(l.drop p).length-k<n
  .rw[anE hu h5 h4];have h4':((l.length-(p+k):Nat):Int)<(n:Int):=by simp at h4; omega
   clear hu h5 h4;go_enter Tryz.func74,Tryz.ntmps74
   go_wp2_with fail
   refine HN.out.mono ?_;rintro e w1 ⟨q,hrd,hch,rfl,rfl⟩;have HL:=azO (OO l b (p+k) v w1 hrd);have HC:=azO hch;clear hrd hch HN;go_wp2_with fail
   refine HL.out.mono ?_;rintro e w2 ⟨rfl,hrd,hch⟩;have HR:=azO hrd;have HC2:=azO (Ch.trans HC.out hch);clear hrd hch HL;go_wp2_with fail
   go_ret2
   exact⟨_,HR.out,HC2.out,I⟩
  rw[anF hu h5 h4];have h4':¬((l.length-(p+k):Nat):Int)<(n:Int):=by simp at h4; omega
  have hpk:p+k+n<=l.length:=by simp at h4; omega
  clear hu h5 h4;go_enter Tryz.func74,Tryz.ntmps74
  go_wp2_with fail
  refine HN.out.mono ?_;rintro e w1 ⟨q,hrd,hch,rfl,rfl⟩;have HL:=azO (OO l b (p+k) v w1 hrd);have HC:=azO hch;clear hrd hch HN;go_wp2_with fail
  refine HL.out.mono ?_;rintro e w2 ⟨rfl,hrd,hch⟩;have HX:=azO (next_any l b (p+k) n v w2 hrd hpk Z);have HC2:=azO (Ch.trans HC.out hch);clear hrd hch HL;go_wp2_with fail
  refine HX.out.mono ?_;rintro e w3 ⟨x,rfl,hrd,hch,hrow,hoff⟩;have HR:=azO hrd;have HC3:=azO (Ch.trans HC2.out hch);have hlen:((l.drop (p+k)).take n).length<=100000000000:=by simp; omega
  have HK:=azO (akQ x _ w3 hrow hlen);clear hrd hch hrow hoff HX;go_wp2_with fail
  refine HK.out.mono ?_;rintro e w4 ⟨y,rfl,ho,hb⟩;have HO:=azO ho;have HB:=azO hb;clear ho hb HK;go_wp2_with fail
  go_ret2
  refine⟨p+k+n,HR.out.ext HB.out,Ch.trans HC3.out (Ch.aT HB.out),Z,_,I,?_⟩;rw[aCj];exact bC HO.out HC3.out.size
open Go.RowKit En Na
variable{α:Type}
def DX(w:World)(r:List UInt8×Nat×Nat)(e:Ending)(w':World):Prop:=
 ∃x,e = .returned (.tuple #[x,.i r.2.1,.i r.2.2])∧OwnB w.heap.size w' x r.1∧Ext w w'
variable{most:Int}{i:Nat}
theorem Mc{w w':World}{er:Nat}(hb:Ext w w'):DX w ([],0,er) (.returned (.tuple #[.sn,.i 0,.i er])) w':=
 ⟨_,I,aCi _ _ _ _,hb⟩
theorem ahj{l:List UInt8}{i:Int}(h:i<0∨(l.length:Int)<i):Yy l i most=([],0,2):=by unfold Yy; rw[azQ h]
theorem akR{l s:List UInt8}{k:Nat}(h:i<=l.length)(hu:sW most (l.drop i) = .ok (s,k)):Yy l i most=(s,i+k,0):=by
 unfold Yy; rw[azP Z,aBs,hu]
theorem ahk{l:List UInt8}{e:Nat}(h:i<=l.length)(hu:sW most (l.drop i) = .error e):Yy l i most=([],0,e):=by
 unfold Yy; rw[azP Z,aBs,hu]
theorem TA(v:Value)(l:List UInt8)(i most:Int)(w:World)(hv:bK w v l)(hl:l.length<=100000000000)(hmb:most<=9223372036854775807) :
  Calls Tryz.prog 45 #[v,.i i,.i most] w (DX w (Yy l i most)):=by
 by_cases hbad:i<0∨(l.length:Int)<i
 .rw[ahj hbad];have HF:=azO (IJ v l i w hv hbad);clear hbad;go_enter Tryz.func45,Tryz.ntmps45
  go_wp2_with fail
  refine HF.out.mono ?_;rintro e w' ⟨rfl,rfl⟩;go_wp2_with fail
  go_ret3
  exact Mc (aAe _ _)
 obtain⟨p,rfl⟩:∃p:Nat,i=p:=⟨i.toNat,Z⟩;have hp:p<=l.length:=Z
 have HF:=azO (OL v l p w hv hp);clear hbad;cases hu:sW most (l.drop p)with
 | error er =>
  rw[ahk hp hu];have he:=Po hu;have HU:=azO hu;clear hu;go_enter Tryz.func45,Tryz.ntmps45
  go_wp2_with fail
  refine HF.out.mono ?_;rintro e w1 ⟨b,rfl,hrd,hb1,hb⟩;have HN:=azO (tZ l b p v most w1 hrd hl hmb);rw[HU.out]at HN;clear hrd HF;go_wp2_with fail
  refine HN.out.mono ?_;rintro e w2 ⟨q,hrd,hch,rfl⟩;have HB:=azO (aBO hb1 (hch.below hb hb1.size));clear hrd hch hb1 HN;go_wp2_with fail
  go_ret3
  exact Mc HB.out
 | ok r =>
  obtain⟨s,k⟩:=r;rw[akR hp hu];have HU:=azO hu;clear hu;go_enter Tryz.func45,Tryz.ntmps45
  go_wp2_with fail
  refine HF.out.mono ?_;rintro e w1 ⟨b,rfl,hrd,hb1,hb⟩;have HN:=azO (tZ l b p v most w1 hrd hl hmb);rw[HU.out]at HN;clear hrd HF;go_wp2_with fail
  refine HN.out.mono ?_;rintro e w2 ⟨q,hrd,hch,hq,x,rfl,ho⟩;have h1:=hrd.c1;have HB:=azO (aBO hb1 (hch.below hb hb1.size));have HO:=azO (bC ho hb1.size);have HQ:=azO hq;clear hrd hch hb1 HN hq ho;go_wp2_with fail
  go_quiet (fail)
  go_wp2_with fail
  go_ret3
  rw[HQ.out];exact⟨x,I,dB HO.out (below_drewN (aAe _ _) _),below_drewN HB.out _⟩
end
end Go.Proofs.YtodpgjjgaddkeaaGreatDoor
section
namespace Go.Sx
open Go.Proofs.YtodpgjjgaddkeaaGreatDoor Go.RowKit Go.Rel Na
variable{P:Program}{Q:Exit->Act->World->Prop}{w0 w:World}{a:Act}{os:List Oper}{n:Nat}{l:List (Nat×Value)}{bl:List (Nat×List Value)}{vs:List fD}{o:Oper}{ρ:Operand->Value}
def KnL(ρ:Operand->Value):List (Nat×Value)->Prop
 | []=>True
 | p::r=>ρ (.tmp p.1)=p.2∧KnL ρ r
theorem KnL.look{ρ:Operand->Value}:∀{l:List (Nat×Value)},KnL ρ l->∀q v,l.lookup q=some v->ρ (.tmp q)=v
 | [],_,q,v,h=>by simp at h
 | p::r,hk,q,v,h=>by
  rw[aAG]at h
  split at h
  .rename_i hq
   obtain rfl:q=p.1:=by simpa using hq
   rw[<-az1 h]; exact hk.1
  .exact hk.2.look q v h
theorem dv(hs:Std ρ)(l:List (Nat×Value)){V:Value}(hl:KnL ρ l)(hx:evV P o l=some V:=by kernel_rfl)(hd:o.dst.isSome=true:=by rfl):Does P o ρ w (λv w'=>Ext w w'∧Rel.is V (kept o v) w'):=
 jA (os:=[o]) (i:=0) I hs l hl.look V ⟨K01,by obtain⟨d,hd⟩:=aAY.1 hd; unfold kept; rw[hd]; rfl⟩ hx
def evC(P:Program)(o:Oper)(l:List (Nat×Value)):Option (FuncId×Array Value):=match zo o.op || !o.op.operands.all (λx=>(rd (lift l) [] x).isSome),iT (ev0 P (execOp (yP (lift l) []) o))with
 | false,some (.enter f args)=>some (f,args)
 | _,_=>none
theorem dc(hs:Std ρ)(l:List (Nat×Value)){T:Fact}{f:FuncId}{args:Array Value}(hl:KnL ρ l)(hc:Calls P f args w (λe w''=>∃v,e = .returned v∧Ext w w''∧T v w''))(hx:evC P o l=some (f,args):=by kernel_rfl)(hd:o.dst.isSome=true:=by rfl) :
  Does P o ρ w (λv w'=>Ext w w'∧T (kept o v) w'):=by
 unfold evC at hx;split at hx
 .rename_i f' args' hav hev;simp only[azT,azW]at hx;obtain⟨rfl,rfl⟩:=hx;simp only[aAI]at hav;have hH:Holds ρ (lift l):=λq x hq=>by
   rw[jK]at hq;cases h2:l.lookup q with
   | none=>simp[h2]at hq
   | some u =>
    simp only[h2,aAF,azT]at hq;subst hq;rw[hl.look q u h2]; rfl
  have hrun:(execOp ρ o).run P w = .ok (.enter f' args') w:=lS hs (iq hH o) (p:=[]) I hav.1 (by simpa using hav.2) hev;refine Dp hrun (hc.mono λe w'' h=>?_);obtain⟨v,h1,h2,h3⟩:=h;obtain⟨d,hd⟩:=aAY.1 hd;exact⟨v,h1,h2,by unfold kept; rw[hd]; exact h3⟩
 cases hx
theorem dld{t b off:Nat}{ty:TypeId}{cs:List Value}{V:Value}(hx:ρ (.tmp t) = .q b off)(hr:w.rangeAt b off cs)(ho:o.op = .load ty (.tmp t):=by rfl)(hl:Ql P ty cs=some V:=by kernel_rfl)(hd:o.dst.isSome=true:=by rfl) :
  Does P o ρ w (λv w'=>Ext w w'∧Rel.is V (kept o v) w'):=by
 have h1:=Pv hl hr;have hrun:(execOp ρ o).run P w = .ok (.value V) w:=by
  unfold execOp;rw[ho];simp only[hx,aAS,h1];rfl
 unfold Does;rw[hrun];exact⟨K01,by obtain⟨d,hd⟩:=aAY.1 hd; unfold kept; rw[hd]; rfl⟩
theorem oQ{q:Nat->Bool}{i:Nat}{v:Value}:∀{l:List (Nat×Value)},(l.filter λp=>q p.1).lookup i=some v->q i=true∧l.lookup i=some v
 | [],h=>by simp at h
 | (x,u)::l,h=>by
  by_cases hp:q x=true
  .rw[List.filter_cons_of_pos (by exact hp)]at h
   by_cases e:i=x
   .subst e
    simp only[aAG,aBB]at h |-
    exact⟨hp,h⟩
   .have e2:(i==x)=false:=by simpa using e
    simp only[aAG,e2]at h |-
    exact oQ h
  .rw[List.filter_cons_of_neg (by exact hp)]at h
   obtain⟨h1,h2⟩:=oQ h
   refine⟨h1,?_⟩
   have e2:(i==x)=false:=by simp; intro e; subst e; exact hp h1
   simp only[aAG,e2]
   exact h2
theorem aeD(S:St w0 a w n l bl vs){id:Nat}(m:Nat)(Ts:List Fact)(j d:Nat)(V:Value)(hm:Rel.Ed Ext Ts)(hob:Go.Rel.rX P os.toArray (os.take m) Ts Ext (Ext w) a.eval (os.take m) Ts)
  (next:∀a' w',Ext w w'->St w0 a' w' n ((d,V)::l.filter λp=>os.all λo => !(o.dst==some p.1)) bl vs->wpList P os.toArray Q [] a' w') (hV:Ts[j]?=some (Rel.is V)) (hj:((os[j]?).bind (·.dst)==some d&&os.length==m&&decide (j<m))=true:=by kernel_rfl)
  (hmo:P.follows .mixedOrders=true:=by kernel_rfl) (hB:okB os.toArray m n=true:=by kernel_rfl):(Code.region id os.toArray true).wp P Q a w:=by
 simp only[az7,az4,az6]at hj;obtain⟨⟨h1,rfl⟩,h3⟩:=hj;obtain⟨hlen,hget⟩:=Go.Rel.l7 _ _ hob;refine aBW hmo (Je (R:=Ext) (C:=Ext w) os.length [] (by rw[S.s.size]; exact hB) Ts FD (below_drewN (aAe _ _) 1) (λ_ _ h k=>K00 h k) (λT hT v w1 w2 hR h=>Rel.Ed.mem hm T hT v w1 w2 hR h)
  (λi o hi ho=>hget i o (by rw[List.getElem?_take_of_lt hi]; exact ho)) λa' w' hE hd hs hf hout _=>?_)
 have ho:∃o,os[j]?=some o∧o.dst=some d:=by
  cases h:os[j]? with
  | none=>rw[h]at h1; cases h1
  | some o=>rw[h]at h1; exact⟨o,I,h1⟩
 obtain⟨o,ho,hdo⟩:=ho;have hf1:=hf j o (by rw[List.getElem?_take_of_lt h3]; exact ho);have e1:Ts.getD j top=Rel.is V:=by simp[List.getD,hV]
 rw[e1,hdo]at hf1;have hf2:a'.eval (.tmp d)=V:=hf1;rw[List.drop_length];refine next a' w' hE ((S.grow hE).act ⟨hs.trans S.s.size,hd.trans S.s.defers,λi v hi=>?_⟩);rw[aAG]at hi;split at hi
 .rename_i hi2;obtain rfl:i=d:=by simpa using hi2
  rw[<-az1 hi]; exact hf2
 obtain⟨hq,hi⟩:=oQ (q:=λx=>os.all λo => !(o.dst==some x)) hi;exact(hout i (by rw[aAJ]; exact hq)).trans (S.s.has i v hi)
end Go.Sx
namespace Go.Proofs.YtodpgjjgaddkeaaGreatDoor
open Go.RowKit En Na
theorem Y8{neg n1:Bool}{v:Value}{s:List UInt8}{a:Nat}{w:World}(hv:bK w v s)(hl:s.length<=1000000)(ha:Nb.val s=a)(hn:(neg&&decide (0<a))=n1) :
  Calls Tryz.prog 252 #[.bool neg,v] w λe w'=>∃b d,e = .returned (.agg #[.bool n1,.slice b (Ux a).length d])∧aC w' (.slice b (Ux a).length d) (Ux a)∧From w.heap.size (.slice b (Ux a).length d)∧Ext w w':=
 (aa6 neg v s w hv hl).mono λe w' ⟨x,h1,⟨t,h2,h3,h4⟩,h5⟩=>by
  subst ha hn
  obtain⟨b,d,rfl⟩:=h3.shape
  exact⟨b,d,by rw[h1,h2],h3,h4,h5⟩
theorem ahl{w:World}{b o:Nat}{x y:Bool}{k:IntKind}{n:Int}(hx:Bx w b #[.bool x,.sn,.bool y,.sn])(hc:w.cell? ⟨b,o,none⟩=some (.int k n)):False:=by
 have h:=hc.symm.trans (hx.2.1 o);rcases o with _ | _ | _ | _ | o<;>simp at h
theorem akS{w:World}{b o:Nat}{v:Value}(h:w.cell? ⟨b,o,none⟩=some v):w.rangeAt b o [v]:=λi u hi=>by
 cases i with
 | zero=>rw[<-az1 hi]; exact h
 | succ i=>cases hi
end Go.Proofs.YtodpgjjgaddkeaaGreatDoor
namespace Go.Sx
open Go.Proofs.YtodpgjjgaddkeaaGreatDoor Go.RowKit Go.Rel Na
variable{s b t:Nat}{ty:TypeId}{A:List Value}
theorem aeE{P:Program}{o:Oper}{ρ:Operand->Value}{w:World}{cs:List Value}(hx:ρ (.tmp t) = .q b 0)(hy:ρ (.tmp s) = .agg cs.toArray)(hbx:Bx w b A.toArray)(hl:cs.length=A.length)
  (ho:o.op = .store ty (.tmp t) (.tmp s):=by rfl) (hi:(P.info? ty).map (·.size)=some cs.length:=by kernel_rfl) (h1:cs.all (·.oneCell')=true:=by kernel_rfl):Does P o ρ w (λ_ w'=>Ch b w w'∧Bx w' b cs.toArray):=by
 unfold Does;rw[Md ho hx hy hbx hi Z h1];have:=Xk hbx 0 cs Z;rw[show spl A 0 cs=cs by simp[spl,hl]]at this;exact⟨(Ch.refl b w).setCells cs 0,this⟩
theorem rM{P:Program}{w0 w:World}{a:Act}{n:Nat}{l:List (Nat×Value)}{bl:List (Nat×List Value)}{vs:List fD}(S:St w0 a w n l bl vs)(k:Nat){fn:Func}{R:Ending->World->Prop}{r:Nat}{v u z:Value}(hr:fn.results = #[.cell r ty,.tmp s,.tmp t])(hk:bl[k]?=some (b,A))(h:R (.returned (.tuple #[v,u,z])) w)
  (hv:Vp.ev l (.tmp r)=some (.q b 0):=by kernel_rfl) (hu:Vp.ev l (.tmp s)=some u:=by kernel_rfl) (hz:Vp.ev l (.tmp t)=some z:=by kernel_rfl) (hl:Ql P ty A=some v:=by kernel_rfl):bodyPost P fn R .ret a w:=aj6 S k hr hk h hv hu hz hl
theorem aeF{P:Program}{o:Oper}{ρ:Operand->Value}{w:World}{x y:Nat}{a:Option Addr}{n c l h:Nat}(hs:ρ (.tmp s) = .slice a n c)(hx:ρ (.tmp x) = .i l)(hy:ρ (.tmp y) = .i h)(hlh:l<=h)(hhc:h<=c){T:Fact}(hT:T (.slice (pJ a l c 1) (h-l) (c-l)) w)
  (ho:o.op = .slice ty (.tmp s) (some (.tmp x)) (some (.tmp y)) none:=by rfl) (ht:(match P.underlying ty with | some (.slice e)=>(P.info? e).map (·.size)==some 1 | _=>false)=true:=by kernel_rfl) (hd:o.dst.isSome=true:=by rfl):Does P o ρ w (λv w'=>Ext w w'∧T (kept o v) w'):=by
 obtain⟨e,i,ht,hi,hk⟩:∃e i,P.underlying ty=some (.slice e)∧P.info? e=some i∧i.size=1:=by
  split at ht
  .rename_i e he;cases hi:P.info? e with
   | none=>rw[hi]at ht; cases ht
   | some i=>rw[hi]at ht; exact⟨e,i,he,hi,by simpa using ht⟩
  cases ht
 have hrun:(execOp ρ o).run P w = .ok (.value (.slice (pJ a l c 1) (h-l) (c-l))) w:=by
  unfold execOp;rw[ho];simp only[aAF,Option.map_none,hs,hx,hy,aAS];rw[Y9 ht hi hk (.inr ⟨_,I⟩) (.inr ⟨_,I⟩) (.inl ⟨I,I⟩) hlh hhc (azS _)];rfl
 unfold Does;rw[hrun];exact⟨K01,by obtain⟨d,hd⟩:=aAY.1 hd; unfold kept; rw[hd]; exact hT⟩
theorem TB{ρ:Operand->Value}{L:List (Nat×Value)}(hL:∀i v,L.lookup i=some v->ρ (.tmp i)=v):∀(K:List (Nat×Nat×Value)),(∀x∈K,ρ (.tmp x.2.1)=x.2.2)->∀i v,(K.map (·.2)++L).lookup i=some v->ρ (.tmp i)=v
 | [],_,i,v,h=>hL i v h
 | x::K,hK,i,v,h=>by
  rw[aAE,aBe,aAG]at h
  split at h
  .rename_i hi
   obtain rfl:i=x.2.1:=by simpa using hi
   rw[<-az1 h]; exact hK x az5
  .exact TB hL K (λy hy=>hK y (aA4 _ hy)) i v h
theorem akT{P:Program}{Q:Exit->Act->World->Prop}{w0 w:World}{a:Act}{os:List Oper}{n:Nat}{l:List (Nat×Value)}{bl:List (Nat×List Value)}{vs:List fD}(S:St w0 a w n l bl vs){id kb:Nat}{A':List Value}(m k:Nat)(hkb:bl[kb]?=some (b,A))(Ts:List Fact)(KV:List (Nat×Nat×Value))(hm:Go.wE.lU k Ext (Ch b) 0 Ts)
  (hob:Go.wE.rX P os.toArray (os.take m) Ts (Go.wE.But k Ext (Ch b)) (Go.wE.KZ k (Ch b w) λu=>Bx u b A.toArray) a.eval 0 (os.take m) Ts)
  (next:∀a' w',Ch b w w'->St w0 a' w' n (KV.map (·.2)++l.filter λp=>os.all λo => !(o.dst==some p.1)) (bl.set kb (b,A')) vs->wpList P os.toArray Q [] a' w') (hV:∀x∈KV,Ts[x.1]?=some (Rel.is x.2.2)) (hK:Ts[k]?=some λ_ u=>Bx u b A'.toArray)
  (hj:(KV.all (λx=>(os[x.1]?).bind (·.dst)==some x.2.1&&decide (x.1<m))&&os.length==m&&decide (k<m))=true:=by kernel_rfl) (hmo:P.follows .mixedOrders=true:=by kernel_rfl) (hB:okB os.toArray m n=true:=by kernel_rfl):(Code.region id os.toArray true).wp P Q a w:=by
 simp only[az7,az4,az6]at hj;obtain⟨⟨h1,rfl⟩,h3⟩:=hj;have hown:=S.own _ (List.mem_of_getElem? hkb);refine aBW hmo (NS os.length (by rw[S.s.size]; exact hB) (Go.wE.But k Ext (Ch b)) (Ch b w) [] k (λu=>Bx u b A.toArray) Ts FD (Ch.aT (below_drewN (aAe _ _) 1)) (hown.1.ext (below_drewN (aAe _ _) 1))
  (λi u u' h hR=>by
   unfold Go.wE.But at hR
   split at hR
   .exact Ch.trans h hR
   .exact Ch.trans h (Ch.aT hR)) (λi u u' hi h hR=>by rw[Go.wE.acI hi]at hR; exact Bx.ext h hR) (Go.wE.lU.mem hm)
  (λi o hi ho=>by have:=(Go.wE.l7 _ _ 0 hob).2 i o (by rw[List.getElem?_take_of_lt hi]; exact ho); rwa [aAK]at this) λa' w' hC hd hs hf hout _=>?_)
 have hfx:∀i,∀o,os[i]?=some o->Ts.getD i top (Rel.valOf a'.eval o.dst) w':=λi o ho=>hf i o (by rw[aAJ]; exact ho);have hf3:=hfx k _ (List.getElem?_eq_getElem h3);rw[show Ts.getD k top=λ_ u=>Bx u b A'.toArray by simp[List.getD,hK]]at hf3;rw[List.drop_length];refine next a' w' hC ((S.ch hC hkb hf3 (aBO S.E (hC.below hown.2 S.E.size))).act ⟨hs.trans S.s.size,hd.trans S.s.defers,TB (λi v hi=>?_) KV λx hx=>?_⟩)
 .obtain⟨hq,hi⟩:=oQ (q:=λx=>os.all λo => !(o.dst==some x)) hi;refine(mV (hout i λj o hj ho e=>?_)).trans (S.s.has i v hi);have:=aAr.1 hq o (List.mem_of_getElem? (i:=j) (by simpa using ho));simp[e]at this
 have h4:=aAr.1 h1 x hx;simp only[az7,az4,az6]at h4;have h5:=hfx x.1 _ (List.getElem?_eq_getElem h4.2);rw[show Ts.getD x.1 top=Rel.is x.2.2 by simp[List.getD,hV x hx]]at h5;rw[List.getElem?_eq_getElem h4.2,aBP]at h4;rw[h4.1]at h5;exact h5
end Go.Sx
namespace Go.Proofs.YtodpgjjgaddkeaaGreatDoor
open Go.RowKit En Na
end Go.Proofs.YtodpgjjgaddkeaaGreatDoor
end
theorem azu:type_of% @Go.Sx.dv:=@Go.Sx.dv
