/- Walks of rational and binenc: same, IsNormalized, -/
import Derived.Test.YtapmgonflgahbaaGreatDoorPk36
namespace Go.Proofs.YtapmgonflgahbaaGreatDoor
open _root_.Go.Proofs.Tryz
section
set_option maxHeartbeats 1600000
set_option maxRecDepth 100000
open Go.RowKit En
variable{α:Type}
set_option linter.unusedVariables false
theorem DI(n1 n2:Bool)(s1 s2:Value)(l m:List UInt32)(w:World)(h1:aB w s1 l)(h2:aB w s2 m) :
  Calls prog 309 #[.agg #[.bool n1,s1],.agg #[.bool n2,s2]] w fun e w'=>e = .returned (.bool (n1==n2&&l==m))∧Ext w w':=by
 obtain⟨a1,c1,rfl⟩:=h1.shape;obtain⟨a2,c2,rfl⟩:=h2.shape;have hl1:=h1.len;have hl2:=h2.len;unfold maxLen at hl1 hl2;have HB0:=awf ((aF w (.cells #[.bool n1,.slice a1 l.length c1] 29)).alloc (by simp) (.cells #[.bool n2,.slice a2 m.length c2] 29));have H1:=awf h1;have H2:=awf h2;clear h1 h2;by_cases hn:n1=n2
 ·subst hn;by_cases hl:l.length=m.length
  ·have HL:=awf hl;obtain⟨W,hW⟩:∃W,((w.alloc (.cells #[.bool n1,.slice a1 l.length c1] 29)).alloc (.cells #[.bool n1,.slice a2 m.length c2] 29))=W:=⟨_,rfl⟩;have hK:∀w1,Ext W w1→w1.cell? ⟨w.heap.size,1,none⟩=some (.slice a1 l.length c1)∧w1.cell? ⟨w.heap.size+1,1,none⟩=some (.slice a2 m.length c2):=by
    intro w1 hb;subst hW;constructor
    ·rw[hb.cell (p:=⟨w.heap.size,1,none⟩) (by simp; omega)]; simp[go_sem]
    rw[hb.cell (p:=⟨w.heap.size+1,1,none⟩) (by simp)]; simp[go_sem]
   have HK:=awf hK;rw[hW]at HB0;have HW:=awf hW;have hne:((l.length:Int) != (m.length:Int))=false:=by rw[bne_eq_false_iff_eq]; omega
   have hml:m.length≤l.length:=Nat.le_of_eq hl.symm;have hlm:l.length≤m.length:=Nat.le_of_eq hl;clear hl hK hW;cases n1;all_goals
    go_enter func309,ntmps309
    go_wp2_with fail
    rw[HW.out]
    clear hne
    go_loopw [5,6,24] (fun _ _ i wr=>∃k:Nat,i = .i k∧k≤l.length∧l.take k=m.take k∧Ext W wr) (fun _ _ i _=>l.length-(intOf i).toNat)
    case atStart=>exact⟨0,rfl,awt _,rfl,awD _ _⟩
    case round =>
     obtain⟨k,rfl,hk,ht,hbel⟩:=hrel
     have HT:=awf ht
     clear ht
     obtain⟨q1,q2⟩:=HK.out wr hbel
     by_cases hlt:k<l.length
     ·obtain⟨bx,ox,cx,hxs,hbx,hlx,hmx,hcx⟩:=cZ H1.out rfl (by omega)
      obtain⟨by',oy,cy,hys,hby,hly,hmy,hcy⟩:=cZ H2.out rfl (by omega)
      simp only[aw1]at hxs hys
      obtain⟨rfl,-,-⟩:=hxs
      obtain⟨rfl,-,-⟩:=hys
      have hkm:k<m.length:=by omega
      have hb:=Ext.trans' HB0.out hbel
      have r1:wr.cell? ⟨bx,ox+k,none⟩=some (aX l[k]):=by rw[hb.cell (p:=⟨bx,ox+k,none⟩) hbx]; exact hcx k hlt
      have r2:wr.cell? ⟨by',oy+k,none⟩=some (aX m[k]):=by rw[hb.cell (p:=⟨by',oy+k,none⟩) hby]; exact hcy k hkm
      have hs1:=take_snoc l k hlt
      have hs2:=take_snoc m k hkm
      clear hcx hcy hb
      have hkI:(k:Int)<(m.length:Int):=by omega
      by_cases he:l[k]=m[k]
      ·have hnx:l.take (k+1)=m.take (k+1):=by rw[hs1,hs2,HT.out,he]
       rw[he]at r1
       have HN:=awf hnx
       generalize m[k]=d at *
       clear hs1 hs2 hnx he
       go_wp2_with fail
       go_roundw
       case rel=>exact⟨k+1,by go_num,by omega,HN.out,hbel⟩
       case measure=>simp[intOf]; omega
      ·have hx:((l[k].toNat:Int) != (m[k].toNat:Int))=true:=by
        rw[bne_iff_ne]; intro e; exact he (axj.1 (by omega))
       have hr:l≠m:=fun e=>he (by subst e; rfl)
       have HR:Hid ((l==m)=false):=awI.2 hr
       generalize l[k]=d1 at *
       generalize m[k]=d2 at *
       clear hs1 hs2 he hr
       go_wp2_with fail
       go_ret
       exact⟨by rw[HR.out]; rfl,Ext.trans' HB0.out hbel⟩
     ·obtain rfl:k=l.length:=by omega
      have hr:l=m:=by
       have:=HT.out
       rw[axa,HL.out,axa]at this; exact this
      have HR:Hid ((l==m)=true):=awE.2 hr
      clear hr
      go_wp2_with fail
      go_ret
      exact⟨by rw[HR.out]; rfl,Ext.trans' HB0.out hbel⟩
  have hne:((l.length:Int) != (m.length:Int))=true:=by rw[bne_iff_ne]; omega
  have hr:Hid ((n1==n1&&l==m)=false):=by
   show _=_;rw[ax7,axo,awI]; exact fun e=>hl (by rw[e])
  clear hl;cases n1;all_goals
   go_enter func309,ntmps309
   go_wp2_with fail
   go_ret
   exact⟨by rw[hr.out]; rfl,HB0.out⟩
 have hr:Hid ((n1==n2&&l==m)=false):=by
  show _=_;rw[awI.2 hn,axL]
 cases n1<;>cases n2
 ·exact absurd rfl hn
 case' true.true=>exact absurd rfl hn
 all_goals
  clear hn
  go_enter func309,ntmps309
  go_wp2_with fail
  go_ret
  exact⟨by rw[hr.out]; rfl,HB0.out⟩
theorem Ze{n1:Bool}{a b:Nat}(h:n1=true→0<a):(decide (0<b)&&((n1==(nrm n1 false a b).1&&Na.ak a==Na.ak (nrm n1 false a b).2.1)&&(false==false&&Na.ak b==Na.ak (nrm n1 false a b).2.2)))=Ed n1 a b:=by
 have h1:(!(n1&&decide ((Na.ak a).length=0)))=true:=by
  cases n1
  ·rfl
  have:=h rfl;rw[axo,axM,axw];intro e; have:=oP e; omega
 cases hq:Ed n1 a b with
 | true =>
  have hb:0<b:=by
   unfold Ed at hq;simp only[awC,awL]at hq;exact hq.2.1
  rw[EG hq,axg hb]; simp
 | false =>
  rw[Bool.eq_false_iff];intro hc;simp only[awC,awL,awE]at hc;obtain⟨hb,⟨_,e2⟩,_,e3⟩:=hc;unfold Ed at hq;rw[h1,axg hb,axo,axo]at hq;have e3':b=(nrm n1 false a b).2.2:=by
   have:=awp Na.val e3;rwa [Na.aC,Na.aC]at this
  have hg:Nat.gcd a b=1:=by
   unfold nrm at e3';rw[awj (by omega)]at e3';simp only at e3';have hgp:0<Nat.gcd a b:=ayK _ hb;have hd:=Nat.div_mul_cancel (ayx a b);rw[←e3']at hd;rcases aw4 1 (Nat.gcd a b)with h2 | h2
   ·have:b*2≤b*Nat.gcd a b:=awZ _ h2;omega
   omega
  rw[hg]at hq;simp at hq
theorem zi(n1:Bool)(s t:Value)(a b:Nat)(w:World)(hs:aB w s (Na.ak a))(ht:aB w t (Na.ak b))(hla:(Na.ak a).length≤5000000)(hlb:(Na.ak b).length≤5000000)(hn:n1=true→0<a) :
  Calls prog 271 #[.agg #[.bool n1,s,.z,t]] w fun e w'=>e = .returned (.bool (Ed n1 a b))∧Ext w w':=by
 have hb0:=aF w (.cells #[.bool n1,s,.z,t] 31);have HB0:=awf hb0;have H:=awf (And.intro hs ht);have hN:=oV n1 false s t _ _ _ (hs.below hb0) (ht.below hb0) (by omega) (by omega);rw[Na.aC,Na.aC]at hN;have HN:=awf hN;have HR:=awf (Ze (b:=b) hn);obtain⟨a1,c1,rfl⟩:=hs.shape;obtain⟨a2,c2,rfl⟩:=ht.shape;generalize nrm n1 false a b=r at *;obtain⟨ng,ga,gb⟩:=r;simp only at HR;generalize Ed n1 a b=Q at *;have hK:∀w1,Ext (w.alloc (.cells #[.bool n1,.slice a1 (Na.ak a).length c1,.z,.slice a2 (Na.ak b).length c2] 31)) w1→(∀i,w1.cell? ⟨w.heap.size,i,none⟩ = #[Value.bool n1,.slice a1 (Na.ak a).length c1,.z,.slice a2 (Na.ak b).length c2][i]?)∧w.heap.size<w1.heap.size:=fun w1 h=>⟨(iP h).1,(iP h).2.2⟩;have HK:=awf hK;clear hs ht hb0 hN hK hn;go_enter func271,ntmps271
 go_wp2_with fail
 refine HN.out.mono ?_;rintro e w1 ⟨x,rfl,hx,hb⟩;have hx:aG _ w1 x ng ga gb:=hx;obtain⟨b1,d1,b2,d2,rfl⟩:=hx.shape;obtain⟨k1,kz⟩:=HK.out w1 hb;have HX:=awf (And.intro hx.parts.1 hx.parts.2.1);have hE:=hb.alloc hb.size (.cells #[.bool ng,.slice b1 (Na.ak ga).length d1,.z,.slice b2 (Na.ak gb).length d2] 31);have hS:=nG false (.slice a2 (Na.ak b).length c2) (Na.ak b) _ (H.out.2.below (Ext.trans' HB0.out hE)) (by omega);rw[Na.aC]at hS;have HE:=awf hE;have HW1:=awf hb;have HS:=awf hS;clear hx hb hE hS HN;have HK2:Hid (∀w2,Ext (w1.alloc (.cells #[.bool ng,.slice b1 (Na.ak ga).length d1,.z,.slice b2 (Na.ak gb).length d2] 31)) w2 →
   (∀i,w2.cell? ⟨w.heap.size,i,none⟩ = #[Value.bool n1,.slice a1 (Na.ak a).length c1,.z,.slice a2 (Na.ak b).length c2][i]?)∧(∀i,w2.cell? ⟨w1.heap.size,i,none⟩ = #[Value.bool ng,.slice b1 (Na.ak ga).length d1,.z,.slice b2 (Na.ak gb).length d2][i]?) ∧
   aB w2 (.slice a1 (Na.ak a).length c1) (Na.ak a)∧aB w2 (.slice a2 (Na.ak b).length c2) (Na.ak b)∧aB w2 (.slice b1 (Na.ak ga).length d1) (Na.ak ga)∧aB w2 (.slice b2 (Na.ak gb).length d2) (Na.ak gb)∧Ext w w2):=by
  intro w2 h2
  have h3:=Ext.trans' (aF w1 _) h2
  have h4:=Ext.trans' HB0.out (Ext.trans' HW1.out h3)
  exact⟨(HK.out w2 (Ext.trans' HW1.out h3)).1,(iP h2).1,H.out.1.below h4,H.out.2.below h4,HX.out.1.below h3,HX.out.2.below h3,h4⟩
 clear HE HW1 HX HK HB0 H;cases hb0:decide (0<b)with
 | false =>
  have anb:b=0:=by have:=awG hb0; omega
  have hr:Hid (Q=false):=by show _=_; rw[←HR.out,hb0]; rfl
  rw[show qG false b=0 by rw[anb]; rfl]at HS;clear hb0 anb;go_wp2_with fail
  refine HS.out.mono ?_;rintro e w2 ⟨rfl,hb⟩;obtain⟨-,-,-,-,-,-,h4⟩:=HK2.out w2 hb;have HF:=awf h4;clear hb h4;go_wp2_with fail
  go_ret
  exact⟨by rw[hr.out]; rfl,HF.out⟩
 | true =>
  have hbp:0<b:=awz hb0;have hR2:=HR.out;rw[hb0,axo]at hR2;have hsg:qG false b=1:=by unfold qG; rw[awj (by omega)]; rfl
  rw[hsg]at HS;obtain⟨S1,hS1⟩:∃S1,(n1==ng&&Na.ak a==Na.ak ga)=S1:=⟨_,rfl⟩;obtain⟨S2,hS2⟩:∃S2,(false==false&&Na.ak b==Na.ak gb)=S2:=⟨_,rfl⟩;rw[hS1,hS2]at hR2;have HR2:=awf hR2;have HS1:=awf hS1;have HS2:=awf hS2;clear hb0 hbp hsg hR2 hS1 hS2;go_wp2_with fail
  refine HS.out.mono ?_;rintro e w2 ⟨rfl,hb⟩;obtain⟨k1,k2,g1,g2,g3,g4,h4⟩:=HK2.out w2 hb;have hM:=DI n1 ng _ _ _ _ w2 g1 g3;rw[HS1.out]at hM;have HM:=awf hM;have HW2:=awf hb;clear hb g1 g2 g3 g4 h4 hM HS;cases S1
  ·go_wp2_with fail
   refine HM.out.mono ?_;rintro e w3 ⟨rfl,hb⟩;obtain⟨-,-,-,-,-,-,h4⟩:=HK2.out w3 (Ext.trans' HW2.out hb);have HF:=awf h4;clear hb h4 k1 k2;go_wp2_with fail
   go_ret
   exact⟨by rw[←HR2.out]; rfl,HF.out⟩
  go_wp2_with fail
  refine HM.out.mono ?_;rintro e w3 ⟨rfl,hb⟩;have hW3:=Ext.trans' HW2.out hb;obtain⟨k1,k2,g1,g2,g3,g4,h4⟩:=HK2.out w3 hW3;have hM:=DI false false _ _ _ _ w3 g2 g4;rw[HS2.out]at hM;have HM2:=awf hM;have HW3:=awf hW3;clear hb g1 g2 g3 g4 h4 hM hW3 HM;go_wp2_with fail
  refine HM2.out.mono ?_;rintro e w4 ⟨rfl,hb⟩;obtain⟨-,-,-,-,-,-,h4⟩:=HK2.out w4 (Ext.trans' HW3.out hb);have HF:=awf h4;clear hb h4 k1 k2;go_wp2_with fail
  go_ret
  exact⟨by rw[←HR2.out]; rfl,HF.out⟩
end
section
open Go.RowKit En
variable{α:Type}
theorem aiZ(v:Value)(l:List UInt8)(w:World)(hv:bG w v l)(hlen:l.length≤1000000000) :
  Calls prog 89 #[v] w fun e w'=>∃v',e = .returned v'∧OwnB w.heap.size w' v' l∧Ext w w':=UE v l w hv (by omega)
def ac0(w:World)(b:Nat)(v:Value)(l:List UInt8)(p:Nat)(r:Except Nat (List UInt8×Nat))(e:Ending)(w':World):Prop:=
 ∃q,Rd w' b v l q∧Ch b w w'∧(match r with
  | .ok (s,k)=>q=p+k∧∃x,e = .returned (.tuple #[x,.i 0])∧OwnB w.heap.size w' x s
  | .error er=>e = .returned (.tuple #[.sn,.i er]))
theorem afq{most:Int}{l:List UInt8}{e:Nat}(h:mM 9 l = .error e):yO most l = .error e:=by unfold yO; rw[h]
theorem anc{most:Int}{l:List UInt8}{n k:Nat}(h:mM 9 l = .ok (n,k))(h5:most<0∨most<(n:Int)):yO most l = .error 5:=by unfold yO; rw[h]; simp only; rw[awl h5]
theorem ane{most:Int}{l:List UInt8}{n k:Nat}(h:mM 9 l = .ok (n,k))(h5:¬(most<0∨most<(n:Int)))(h4:l.length-k<n):yO most l = .error 4:=by
 unfold yO; rw[h]; simp only; rw[awj h5,awl h4]
theorem anf{most:Int}{l:List UInt8}{n k:Nat}(h:mM 9 l = .ok (n,k))(h5:¬(most<0∨most<(n:Int)))(h4:¬l.length-k<n):yO most l = .ok ((l.drop k).take n,k+n):=by
 unfold yO; rw[h]; simp only; rw[awj h5,awj h4]
set_option maxRecDepth 100000 in
set_option maxHeartbeats 800000 in
theorem xQ(l:List UInt8)(b p:Nat)(v:Value)(most:Int)(w:World)(h:Rd w b v l p)(hl:l.length≤1000000000)(hmb:most≤9223372036854775807) :
  Calls prog 269 #[.q b 0,.i most] w (ac0 w b v l p (yO most (l.drop p))):=by
 have HN:=awf (zD l b p v w h);have hpl:=h.hp;cases hu:mM 9 (l.drop p)with
 | error er =>
  rw[afq hu];rw[hu]at HN;have he:=Vy hu;clear hu h;go_enter func269,ntmps269
  go_wp2_with fail
  refine HN.out.mono ?_;rintro e w1 ⟨q,hrd,hch,rfl⟩;have HR:=awf hrd;have HC:=awf hch;clear hrd hch HN;go_wp2_with fail
  go_ret2
  exact⟨q,HR.out,HC.out,rfl⟩
 | ok r =>
  obtain⟨n,k⟩:=r;obtain⟨au8,hk1,hkl,hk10,-⟩:=Eu hu;simp only[ayp]at hkl;rw[hu]at HN;clear h;by_cases h5:most<0∨most<(n:Int)
  ·rw[anc hu h5];clear hu;by_cases h0:most<0
   ·clear h5;go_enter func269,ntmps269
    go_wp2_with fail
    refine HN.out.mono ?_;rintro e w1 ⟨q,hrd,hch,hq,rfl⟩;have HR:=awf hrd;have HC:=awf hch;clear hrd hch HN hq;go_wp2_with fail
    go_ret2
    exact⟨q,HR.out,HC.out,rfl⟩
   have h1:most<(n:Int):=by omega
   clear h5;go_enter func269,ntmps269
   go_wp2_with fail
   refine HN.out.mono ?_;rintro e w1 ⟨q,hrd,hch,hq,rfl⟩;have HR:=awf hrd;have HC:=awf hch;clear hrd hch HN hq;go_wp2_with fail
   go_ret2
   exact⟨q,HR.out,HC.out,rfl⟩
  have h0:0≤most:=by omega
  have h1:(n:Int)≤most:=by omega
  by_cases h4:(l.drop p).length-k<n
  ·rw[ane hu h5 h4];have h4':((l.length-(p+k):Nat):Int)<(n:Int):=by simp at h4; omega
   clear hu h5 h4;go_enter func269,ntmps269
   go_wp2_with fail
   refine HN.out.mono ?_;rintro e w1 ⟨q,hrd,hch,rfl,rfl⟩;have HL:=awf (Le l b (p+k) v w1 hrd);have HC:=awf hch;clear hrd hch HN;go_wp2_with fail
   refine HL.out.mono ?_;rintro e w2 ⟨rfl,hrd,hch⟩;have HR:=awf hrd;have HC2:=awf (Ch.trans HC.out hch);clear hrd hch HL;go_wp2_with fail
   go_ret2
   exact⟨_,HR.out,HC2.out,rfl⟩
  rw[anf hu h5 h4];have h4':¬((l.length-(p+k):Nat):Int)<(n:Int):=by simp at h4; omega
  have hpk:p+k+n≤l.length:=by simp at h4; omega
  clear hu h5 h4;go_enter func269,ntmps269
  go_wp2_with fail
  refine HN.out.mono ?_;rintro e w1 ⟨q,hrd,hch,rfl,rfl⟩;have HL:=awf (Le l b (p+k) v w1 hrd);have HC:=awf hch;clear hrd hch HN;go_wp2_with fail
  refine HL.out.mono ?_;rintro e w2 ⟨rfl,hrd,hch⟩;have HX:=awf (next_any l b (p+k) n v w2 hrd hpk (by omega));have HC2:=awf (Ch.trans HC.out hch);clear hrd hch HL;go_wp2_with fail
  refine HX.out.mono ?_;rintro e w3 ⟨x,rfl,hrd,hch,hrow,hoff⟩;have HR:=awf hrd;have HC3:=awf (Ch.trans HC2.out hch);have hlen:((l.drop (p+k)).take n).length≤1000000000:=by simp; omega
  have HK:=awf (aiZ x _ w3 hrow hlen);clear hrd hch hrow hoff HX;go_wp2_with fail
  refine HK.out.mono ?_;rintro e w4 ⟨y,rfl,ho,hb⟩;have HO:=awf ho;have HB:=awf hb;clear ho hb HK;go_wp2_with fail
  go_ret2
  refine⟨p+k+n,HR.out.ext HB.out,Ch.trans HC3.out (Ch.bf HB.out),by omega,_,rfl,?_⟩;rw[ayu];exact aW HO.out HC3.out.size
open Go.RowKit En
variable{α:Type}
end
end Go.Proofs.YtapmgonflgahbaaGreatDoor
