/- Walks of binenc: PutUvarint and -/
import Derived.Deep.RegionHeld3
import Derived.Laws.DeepNot64
import Derived.Lib.Zigzag
import Derived.Test.YtodpgjjgaddkeaaGreatDoorPk12
import Derived.Lib.SlBytesConst
import Derived.Laws.AppendOwn
set_option maxHeartbeats 9999999
open Go renaming World->E5,Value->y9,Calls->Nq,wpList->Ã,TypeId->Ð,execOp->Í
set_option maxRecDepth 100000
set_option linter.unusedVariables false
set_option linter.unusedSimpArgs false
open Go.Proofs.Tryz Go.RowKit Go.Proofs.Õ Go.Rel
namespace Go.Proofs.Õ
section
open En
variable{α:Type}
abbrev amF:∀m:Fin 256,m.val|||128=m.val%128+128:=by decide
abbrev amG(n:Nat):bits .or .u8 ((n:Int)%256) 128=(n:Int)%128+128:=by
 have h:=amF ⟨n%256,Ŋ _ O⟩;have:=u8_or_nat (n%256) 128 Z Z;rw[show((128:Nat):Int)=128 from rfl,show((n%256:Nat):Int)=(n:Int)%256 by omega]at this;rw[this,h]; simp only; omega
abbrev gq(x:Nat)(w:E5)(J:x<18446744073709551616) :
  Nq prog 30 #[.int .u64 (x:Int)] w λe w'=>∃v',e = .R v'∧w'.ownsRow w.heap.size 5 1 v' (dX 10 x).length ((dX 10 x).map gY)∧Ext w w':=by
 go_enter func30,ntmps30
 go_wp2
 go_loopw [0,3] (λD v wr=>∃(f n:Nat) (out:List UInt8),D = .int .u64 n∧n<18446744073709551616∧n<128^(f+1)∧out.length+f=9∧dX 10 x=out++dX (f+1) n∧wr.ownsRow w.heap.size 5 1 v out.length (out.map gY)∧Ext w wr) (λD _ _=>(intOf D).toNat)
 case atStart=>exact⟨9,x,[],I,J,Z,I,I,ϭ _ _ _ _,ø _ _⟩
 case round =>
  obtain⟨f,n,out,rfl,hn,hf,hl,D,aa,ab⟩:=hrel;have HU:=FU D;have ac:out.length+1<=maxLen:=by unfold maxLen; omega
  have ae:(out.length+1)*1<=140737488355328:=Z
  have af:w.heap.size<=wr.heap.size:=ab.size;clear D;by_cases hlt:n<128
  .have hr:=oD wr (.u (n:Int)) 5 I;have D:=aa.alloc (.cells #[.u (n:Int)] 5);have J:w.heap.size<=(wr.alloc (.cells #[.u (n:Int)] 5)).heap.size:=by simp; omega
   clear aa;have ag:(n:Int)%256=n:=Z
   go_wp2_with (at_builtin; refine bV I _ _ _ I AX w.heap.size D I hr I ac ae J ?_; intro v' w' S hg)
   go_ret
   refine⟨_,I,?_,(ab.alloc af _).grown hg J (λk hk=>(World.ownsRow.lt D k hk).1)⟩;have e:dX 10 x=out++[UInt8.ofNat n]:=by rw[HU.out,dX,Á hlt]
   rw[e];simpa[gY,Jw (show n<256 by omega)]using S
  cases f with
  | zero=>exact absurd hf Z
  | succ f =>
   have hr:=oD wr (.u ((n:Int)%128+128)) 5 I;have D:=aa.alloc (.cells #[.u ((n:Int)%128+128)] 5);have J:w.heap.size<=(wr.alloc (.cells #[.u ((n:Int)%128+128)] 5)).heap.size:=by simp; omega
   have ag:=amG n;clear aa;go_wp2_with (at_builtin; refine bV I _ _ _ I AX w.heap.size D I hr I ac ae J ?_; intro v' w' S hg)
   go_roundw
   case rel =>
    refine⟨f,n/128,out++[UInt8.ofNat (n%128+128)],by simp,Z,?_,by simp; omega,?_,?_,(ab.alloc af _).grown hg J (λk hk=>(World.ownsRow.lt D k hk).1)⟩
    .rw[ę]at hf; exact ό Z
    .rw[HU.out,dX,UQ hlt]; simp
    simpa[gY,Jw (show n%128+128<256 by omega),show((n:Int)%128+128)%256=(n:Int)%128+128 by omega]using S
   case measure=>simp[intOf]; omega
open En
variable{α:Type}
open En
variable{α:Type}
abbrev afl(a:Nat)(D:a<18446744073709551616):bits .xor .u64 (a:Int) 18446744073709551615=((18446744073709551615-a:Nat):Int):=by
 have D:=auv (UInt64.ofNat a) (-1);have J:(UInt64.ofNat a).toNat=a:=by simp; omega
 have S:(((-1:UInt64).toNat:Nat):Int)=18446744073709551615:=by decide
 rw[J,S,UInt64.xor_neg_one,UInt64.toNat_not,J]at D;rw[D]; rfl
abbrev afm(x:Int)(h : -9223372036854775808<=x)(D:x<=9223372036854775807) :
  bits BinOp.xor IntKind.u64 (IntKind.u64.wrap (IntKind.u64.wrap x*2)) (IntKind.u64.wrap (x/9223372036854775808))=((zig x:Nat):Int):=by
 rw[ŏ,ŏ,ŏ];unfold zig;split
 .rw[show x/9223372036854775808%18446744073709551616=18446744073709551615 by omega];rw[show x%18446744073709551616*2%18446744073709551616=(((2*x+18446744073709551616).toNat:Nat):Int) by omega,afl _ Z];omega
 rw[show x/9223372036854775808%18446744073709551616=((0:Nat):Int) by omega];rw[show x%18446744073709551616*2%18446744073709551616=(((2*x).toNat:Nat):Int) by omega,u64_xor_nat _ _ Z Z,Nat.xor_zero]
abbrev Az(x:Int)(w:E5)(h : -9223372036854775808<=x)(J:x<=9223372036854775807) :
  Nq prog 85 #[.i x] w λe w'=>∃D,e = .R D∧w'.ownsRow w.heap.size 5 1 D (dX 10 (zig x)).length ((dX 10 (zig x)).map gY)∧Ext w w':=by
 have S:=FU (gq (zig x) w (Qz h J));go_enter func85,ntmps85
 go_wp2_with fail
 rw[afm x h J];refine S.out.mono ?_;rintro e w' ⟨D,rfl,J,S⟩;go_wp2_with fail
 go_ret
 exact⟨_,I,J,S⟩
open En
variable{α:Type}
abbrev Jy(v:y9)(l:List UInt8)(i:Int)(w:E5)(S:bK w v l)(h:i<0∨(l.length:Int)<i) :
  Nq prog 73 #[v,.i i] w λe w'=>e = .R (.tuple #[.pointer none,.i 2])∧w=w':=by
 obtain⟨a,cap,rfl,J,D⟩:=S;have hl:=rZ J D;clear D;go_enter func73,ntmps73
 by_cases h1:i<0
 .go_wp2_with fail
  go_ret2
  exact⟨I,I⟩
 have D:(l.length:Int)<i:=Z
 clear h;go_wp2_with fail
 go_ret2
 exact⟨I,I⟩
abbrev ab3(v:y9)(l:List UInt8)(i:Nat)(w:E5)(S:bK w v l)(h:i<=l.length) :
  Nq prog 73 #[v,.i i] w λe w'=>e = .R (.tuple #[.q w.heap.size 0,.i 0])∧w'=w.alloc (.cells #[v,.i i] 144):=by
 obtain⟨a,cap,rfl,J,D⟩:=S;have hl:=rZ J D;clear D;go_enter func73,ntmps73
 go_wp2_with fail
 go_ret2
 exact⟨I,I⟩
abbrev Uo(v:y9)(l:List UInt8)(b p:Nat)(w:E5)(S:bK w v l)(D:w.cell? ⟨b,0,none⟩=some v)(J:w.cell? ⟨b,1,none⟩=some (.i p))(hp:p<=l.length) :
  Nq prog 112 #[.q b 0] w λe w'=>e = .R (.i (l.length-p:Nat))∧∃n,w'=w.drewN n:=by
 obtain⟨a,cap,rfl,J,D⟩:=S;have hl:=rZ J D;clear D;go_enter func112,ntmps112
 go_wp2_with fail
 go_quiet (fail)
 go_wp2_with fail
 go_ret
 exact⟨jO Z,_,I⟩
open En
variable{α:Type}
abbrev afn{D o n c J S:Nat}{ad:Addr}(h:Value.s (some ⟨D,o,none⟩) n c = .s (some ad) J S):D=ad.block:=by
 simp only[Ĉ,Æ]at h; rw[<-h.1]
abbrev ai0{f:α->y9}{w:E5}{D o cap p k:Nat}{l:List α}(hm:cap<=maxLen)(hp:p+k<=l.length)(J:l.length<=cap)(S:D<w.heap.size)
  (J:∀i (h:i<l.length),w.cell? ⟨D,o+i,none⟩=some (f l[i])):dG f w (.s (if cap=p then some ⟨D,o,none⟩else some ⟨D,o+p,none⟩) k (cap-p)) ((l.drop p).take k):=by
 have e:((l.drop p).take k).length=k:=by simp; omega
 rcases ė k with rfl | hk
 .refine⟨_,cap-p,by rw[e],Z,.inl ⟨by simp,λh=>?_⟩⟩;split at h<;>simp at h
 rw[UQ Z];refine⟨_,cap-p,by rw[e],Z,.inr ⟨D,o+p,I,S,by rw[e]; omega,λi D=>?_⟩⟩;rw[e]at D;rw[Ο,J (p+i) Z]; simp
abbrev ab4(l:List UInt8)(b p k J o cap:Nat)(w:E5)(hm:cap<=maxLen)(aa:l.length<=cap)(ab:J<w.heap.size)(D:J≠b)
  (D:∀i (h:i<l.length),w.cell? ⟨J,o+i,none⟩=some (gY l[i])) (S:w.cell? ⟨b,0,none⟩=some (.s (some ⟨J,o,none⟩) l.length cap)) (h1:w.cell? ⟨b,1,none⟩=some (.i p))
  (S:w.frozen? ⟨b,1,none⟩=false) (hp:p+k<=l.length) :
  Nq prog 113 #[.q b 0,.i k] w λe w'=>∃S n,e = .R S∧w'=(w.setCell ⟨b,1,none⟩ (.i ((p:Int)+(k:Int)))).drewN n ∧
   bK w' S ((l.drop p).take k)∧∀ad n cap',S = .s (some ad) n cap'->J=ad.block:=by
 have S:=FU D;clear D;have D:p+k<=cap:=Z
 have D:(0:Int)<=(p:Int):=Z
 have D:(p:Int)<=(p:Int)+(k:Int):=Z
 have D:(p:Int)+(k:Int)<=(cap:Int):=Z
 have D:IntKind.i64.wrap ((p:Int)+(k:Int))=(p:Int)+(k:Int):=by rw[Ŭ]; have:maxLen=9223372036854775807:=I; omega
 have D:((p:Int)+(k:Int)).toNat=p+k:=Z
 have D:p<=p+k:=Z
 have D:p+k-p=k:=Z
 have D:p<=cap:=Z
 have D:bK ((w.setCell ⟨b,1,none⟩ (.i ((p:Int)+(k:Int)))).drewN 1) (.s (if cap=p then some ⟨J,o,none⟩else some ⟨J,o+p,none⟩) k (cap-p)) ((l.drop p).take k):=
  ai0 hm hp aa (by simpa using ab) (λi h=>by rw[World.cell?_drewN,World.cell?_setCell_other _ _ _ _ (by simp only[ne_eq,Ŵ]; omega)]; exact S.out i h)
 by_cases hcp:cap=p
 .rw[Á hcp]at D;have S:=FU D;clear D;subst hcp;have S:=FU (by have h:=S.out; rw[Λ]at h; exact h);go_enter func113,ntmps113
  go_wp2_with fail
  go_region_held3 (λw'=>w'.cell? ⟨b,0,none⟩=some (.s (some ⟨J,o,none⟩) l.length cap)∧w'.cell? ⟨b,1,none⟩=some (.i cap)) (go_keep) (fail)
  go_wp2_with fail
  go_ret
  exact⟨_,1,I,I,S.out,λ_ _ _ e=>afn e⟩
 rw[UQ hcp]at D;have S:=FU D;clear D;go_enter func113,ntmps113
 go_wp2_with fail
 go_region_held3 (λw'=>w'.cell? ⟨b,0,none⟩=some (.s (some ⟨J,o,none⟩) l.length cap)∧w'.cell? ⟨b,1,none⟩=some (.i p)) (go_keep) (fail)
 go_wp2_with fail
 go_ret
 exact⟨_,1,I,I,S.out,λ_ _ _ e=>afn e⟩
open En
variable{α:Type}
structure Rd (w:E5) (b:Nat) (v:y9) (l:List UInt8) (p:Nat):Prop where
 c0:w.cell? ⟨b,0,none⟩=some v
 c1:w.cell? ⟨b,1,none⟩=some (.i p)
 fz:w.frozen? ⟨b,1,none⟩=false
 row:bK w v l
 off:0<l.length->Off b v
 hp:p<=l.length
 lt:b<w.heap.size
abbrev Rd.drewN{w:E5}{b:Nat}{v:y9}{l:List UInt8}{p:Nat}(h:Rd w b v l p)(n:Nat):Rd (w.drewN n) b v l p:=
 ⟨by rw[World.cell?_drewN]; exact h.c0,by rw[World.cell?_drewN]; exact h.c1,by rw[World.frozen?_drewN]; exact h.fz,h.row.below (below_drewN (ø _ _) n),h.off,h.hp,by simpa using h.lt⟩
abbrev Rd.ext{w w':E5}{b:Nat}{v:y9}{l:List UInt8}{p:Nat}(h:Rd w b v l p)(D:Ext w w'):Rd w' b v l p:=
 ⟨by rw[D.cell (p:=⟨b,0,none⟩) h.lt]; exact h.c0,by rw[D.cell (p:=⟨b,1,none⟩) h.lt]; exact h.c1,by rw[D.frozen (p:=⟨b,1,none⟩) h.lt]; exact h.fz,h.row.below D,h.off,h.hp,by have:=D.size; have:=h.lt; omega⟩
abbrev Rd.set{w:E5}{b:Nat}{v:y9}{l:List UInt8}{p q:Nat}(h:Rd w b v l p)(D:q<=l.length):Rd (w.setCell ⟨b,1,none⟩ (.i q)) b v l q:=
 ⟨by rw[World.cell?_setCell_other _ _ _ _ Y]; exact h.c0,World.cell?_setCell_same _ _ _ h.c1,by simpa using h.fz,h.row.ch ((Ch.refl b w).setCell _ _) h.off,h.off,D,by simpa[World.setCell]using h.lt⟩
abbrev next_any(l:List UInt8)(b p k:Nat)(v:y9)(w:E5)(h:Rd w b v l p)(hk:p+k<=l.length)(h0:0<l.length) :
  Nq prog 113 #[.q b 0,.i k] w λe w'=>∃J,e = .R J∧Rd w' b v l (p+k)∧Ch b w w'∧bK w' J ((l.drop p).take k)∧Off b J:=by
 obtain⟨S,o,cap,D,hb,hl,hm,hc⟩:=dO h.row I h0;subst D;have D:S≠b:=h.off h0 _ _ _ I;refine(ab4 l b p k S o cap w hm hl hb D hc h.c0 h.c1 h.fz hk).mono ?_;rintro e w' ⟨J,n,rfl,hw,hr,S⟩;have he:(p:Int)+(k:Int)=((p+k:Nat):Int):=Z
 rw[he]at hw;refine⟨J,I,?_,?_,hr,?_⟩
 .rw[hw]; exact(h.set hk).drewN n
 .rw[hw]; exact((Ch.refl b w).setCell _ _).drewN n
 intro ad n' cap' J;exact λe=>D (by rw[<-e]; exact S ad n' cap' J)
abbrev QA(v:y9)(l:List UInt8)(i:Nat)(w:E5)(D:bK w v l)(h:i<=l.length) :
  Nq prog 73 #[v,.i i] w λe w'=>∃b,e = .R (.tuple #[.q b 0,.i 0])∧Rd w' b v l i∧Ext w w'∧w.heap.size<=b:=by
 refine(ab3 v l i w D h).mono ?_;rintro e w' ⟨rfl,rfl⟩;refine⟨_,I,⟨?_,?_,?_,D.below (aI _ _),aiA D (Ç _),h,by simp⟩,aI _ _,Ç _⟩
 .rw[World.cell?_alloc_at _ _ _ _ I]; rfl
 .rw[World.cell?_alloc_at _ _ _ _ I]; rfl
 rw[World.frozen?_alloc_at _ _ _ _ I]
open En
variable{α:Type}
def QB(w:E5)(b:Nat)(v:y9)(l:List UInt8)(p:Nat)(r:Except Nat (Nat×Nat))(e:Ending)(w':E5):Prop:=
 ∃q,Rd w' b v l q∧Ch b w w'∧(match r with
  | .ok (n,k)=>q=p+k∧e = .R (.tuple #[.int .u64 (n:Int),.i 0])
  | .error er=>e = .R (.tuple #[.int .u64 0,.i er]))
variable{b p k f acc:Nat}{v:y9}{w':E5}
abbrev QC(l:List UInt8)(b p:Nat)(v:y9)(w:E5)(h:Rd w b v l p) :
  Nq prog 112 #[.q b 0] w λe w'=>e = .R (.i (l.length-p:Nat))∧Rd w' b v l p∧Ch b w w':=by
 refine(Uo v l b p w h.row h.c0 h.c1 h.hp).mono ?_;rintro e w' ⟨rfl,n,rfl⟩;exact⟨I,h.drewN n,(Ch.refl b w).drewN n⟩
abbrev Yf{w:E5}{l:List UInt8}{c:Nat}(D:Hid (mW 9 (l.drop p)=comb k acc (mW f (l.drop (p+k)))))(J:mW f (l.drop (p+k)) = .ok (c,1))
  (S:Rd w' b v l (p+k+1)) (hc:Ch b w w') {x:Int} (hx:x=((acc+128^k*c:Nat):Int)):QB w b v l p (mW 9 (l.drop p)) (.R (.tuple #[.int .u64 x,.i 0])) w':=by
 refine⟨p+k+1,S,hc,?_⟩;rw[D.out,J,hx];exact⟨Z,I⟩
abbrev Hu{w:E5}{l:List UInt8}{q er:Nat}(D:Hid (mW 9 (l.drop p)=comb k acc (mW f (l.drop (p+k)))))(J:mW f (l.drop (p+k)) = .error er)
  (S:Rd w' b v l q) (hc:Ch b w w'):QB w b v l p (mW 9 (l.drop p)) (.R (.tuple #[.int .u64 0,.i er])) w':=by
 refine⟨q,S,hc,?_⟩;rw[D.out,J];rfl
abbrev Yg:∀c:Fin 256,bits .andNot .u8 (c.val:Int) 128=((c.val%128:Nat):Int):=by decide +kernel
abbrev Ur(c:UInt8)(acc k:Nat)(h:acc<128^k)(hk:k<=9)(J:k<9∨c.toNat<2) :
  bits BinOp.or IntKind.u64 (acc:Int) (IntKind.u64.wrap (IntKind.u64.wrap (bits BinOp.andNot IntKind.u8 (c.toNat:Int) 128)*2^(7*k)))=((acc+128^k*(c.toNat%128):Nat):Int):=by
 have D:=Yg ⟨c.toNat,c.toNat_lt⟩;simp only at D;rw[D];have D:(128:Nat)^k=2^(7*k):=by rw[Nat.pow_mul]
 have S:2^(7*k)<=2^63:=ķ Z Z;have hb:(c.toNat%128)*2^(7*k)<18446744073709551616:=by
  rcases J with J | J
  .have h2:2^(7*k)<=2^56:=ķ Z Z;have J:c.toNat%128<=127:=Z
   have:=ű J h2;omega
  have J:c.toNat%128<=1:=Z
  have:=ű J S;omega
 have w1:IntKind.u64.wrap ((c.toNat%128:Nat):Int)=((c.toNat%128:Nat):Int):=by rw[ŏ]; omega
 rw[w1];have w2:((c.toNat%128:Nat):Int)*2^(7*k)=(((c.toNat%128)*2^(7*k):Nat):Int):=by push_cast; rfl
 rw[w2,ŏ];have J:(((c.toNat%128)*2^(7*k):Nat):Int)%18446744073709551616=(((c.toNat%128)*2^(7*k):Nat):Int):=Z
 rw[J,u64_or_nat _ _ Z hb,Nat.or_comm,nat_join (7*k) _ _ (Nat.mul_mod_left _ _) Z,D,ĕ,Ν]
abbrev BM(l:List UInt8)(b p:Nat)(v:y9)(w:E5)(h:Rd w b v l p) :
  Nq prog 75 #[.q b 0] w (QB w b v l p (mW 9 (l.drop p))):=by
 have am:=h.row.len;unfold maxLen at am;have H:=FU h;clear h;go_enter func75,ntmps75
 go_wp2_with fail
 go_loopw [4,5] (λn i wr=>∃k f acc:Nat,i = .i k∧k+f=9∧n = .int .u64 acc∧acc<128^k∧Rd wr b v l (p+k)∧Hid (mW 9 (l.drop p)=comb k acc (mW f (l.drop (p+k))))∧Ch b w wr) (λ_ i _=>10-(intOf i).toNat)
 case atStart=>exact⟨0,9,0,I,I,I,Z,H.out,(ab5 _).symm,Ch.refl _ _⟩
 case round =>
  obtain⟨k,f,acc,rfl,a5,rfl,ae,ab,HU,ah⟩:=hrel;have HC:=FU (QC l b (p+k) v wr ab);have ay:=ab.hp;have J:=FU ab;have HA:=FU ae;clear ab ae;go_wp2_with fail
  refine HC.out.mono ?_;rintro e w' ⟨rfl,aa,ai⟩;clear HC J;by_cases hlt:p+k<l.length
  .have av:(0:Int)<((l.length-(p+k):Nat):Int):=Z
   have HN:=FU (next_any l b (p+k) 1 v w' aa Z Z);have J:=FU aa;clear aa;go_wp2_with fail
   refine HN.out.mono ?_;rintro e w3 ⟨v',rfl,al,aw,D,ax⟩;clear HN J;have ac:(l.drop (p+k)).take 1=[l[p+k]]:=by rw[ń hlt]; rfl
   rw[ac]at D;obtain⟨c,af⟩:∃c,l[p+k]=c:=⟨_,I⟩;rw[af]at D;obtain⟨bb,o,cap,hv,hb,hl,hm,hc⟩:=dO D I Nat.one_pos;have an:=hc 0 Nat.one_pos;simp only[ż,Ϲ]at an;rw[hv];have HD:=FU (ń hlt);rw[af]at HD;clear hc hv D ac af;have J:=FU al;have QD:=Ch.trans ah (Ch.trans ai aw);clear al;have az:=c.toNat_lt;have ao:k<=9:=Z
   cases f with
   | zero =>
    obtain rfl:k=9:=by omega
    rcases aGW c.toNat 1 with h1 | h1 | h1
    .have hc1:((c.toNat:Int)==0)=true:=by rw[ß]; omega
     have S:Hid (mW 0 (l.drop (p+9)) = .error 3):=by rw[HD.out]; simp only[mW]; rw[UQ Z]; rfl
     go_wp2_with fail
     go_ret2
     exact Hu HU S.out J.out QD
    .have hc1:((c.toNat:Int)==0)=false:=by rw[õ]; omega
     have S:Hid (mW 0 (l.drop (p+9)) = .ok (c.toNat,1)):=by rw[HD.out]; simp only[mW]; rw[Á h1,h1]; rfl
     have HS:=FU (Ur c acc 9 HA.out Z (.inr Z));have a3:(c.toNat:Int)<=1:=Z
     have a4:(c.toNat:Int)<128:=Z
     have H1:=FU h1;clear h1;go_wp2_with fail
     go_ret2
     refine Yf HU S.out J.out QD (HS.out.trans ?_);have:=H1.out; rw[this]
    have S:Hid (mW 0 (l.drop (p+9)) = .error 3):=by rw[HD.out]; simp only[mW]; rw[UQ Z]; rfl
    go_wp2_with fail
    go_ret2
    exact Hu HU S.out J.out QD
   | succ f =>
    have ao:((k:Int)==9)=false:=by rw[õ]; omega
    have HS:=FU (Ur c acc k HA.out Z (.inl Z));by_cases hlo:c.toNat<128
    .have ar:(c.toNat:Int)<128:=Z
     have ag:Hid (c.toNat%128=c.toNat):=Ξ hlo;rcases ė c.toNat with h0 | h0
     .have aq:((c.toNat:Int)==0)=true:=by rw[ß]; omega
      rcases ė k with hk | hk
      .have S:Hid (mW (f+1) (l.drop (p+k)) = .ok (c.toNat,1)):=by rw[HD.out]; simp only[mW]; rw[Á hlo,UQ Z]; rfl
       have ap:¬(0:Int)<(k:Int):=Z
       have HK:=FU hk;have H0:=FU h0;clear hk h0;go_wp2_with fail
       go_ret2
       exact Yf HU S.out J.out QD (HS.out.trans (by rw[ag.out]))
      have S:Hid (mW (f+1) (l.drop (p+k)) = .error 3):=by rw[HD.out]; simp only[mW]; rw[Á hlo,Á ⟨h0,Z⟩]; rfl
      have ap:(0:Int)<(k:Int):=Z
      have H0:=FU h0;clear h0;go_wp2_with fail
      go_ret2
      exact Hu HU S.out J.out QD
     have aq:((c.toNat:Int)==0)=false:=by rw[õ]; omega
     have S:Hid (mW (f+1) (l.drop (p+k)) = .ok (c.toNat,1)):=by rw[HD.out]; simp only[mW]; rw[Á hlo,UQ Z]; rfl
     go_wp2_with fail
     go_ret2
     exact Yf HU S.out J.out QD (HS.out.trans (by rw[ag.out]))
    have ar:¬(c.toNat:Int)<128:=Z
    have HL:=FU hlo;clear hlo;go_wp2_with fail
    go_roundw
    case rel =>
     refine⟨k+1,f,acc+128^k*(c.toNat%128),by go_num,Z,by rw[HS.out],?_,J.out,?_,QD⟩
     .have:=HA.out;rw[ę];have h2:c.toNat%128<=127:=Z
      have:=Ę (128^k) h2;omega
     show _=_;rw[HU.out,HD.out,afp f c _ HL.out,ab6]; rfl
    case measure=>simp[intOf]; omega
  have av:¬(0:Int)<((l.length-(p+k):Nat):Int):=Z
  have S:Hid (mW f (l.drop (p+k)) = .error 4):=by rw[Ō Z,ai1]; rfl
  have QD:=Ch.trans ah ai;have J:=FU aa;clear aa;go_wp2_with fail
  go_ret2
  exact Hu HU S.out J.out QD
open En
variable{α:Type}
abbrev ai2{l:List UInt8}{i:Int}(h:i<0∨(l.length:Int)<i):y8 l i=(0,0,2):=by unfold y8; rw[Á h]
abbrev amH{l:List UInt8}{i n k:Nat}(h:i<=l.length)(D:mW 9 (l.drop i) = .ok (n,k)):y8 l i=(n,i+k,0):=by
 unfold y8; rw[UQ Z,ŗ,D]
abbrev ai3{l:List UInt8}{i e:Nat}(h:i<=l.length)(D:mW 9 (l.drop i) = .error e):y8 l i=(0,0,e):=by
 unfold y8; rw[UQ Z,ŗ,D]
abbrev aas{l:List UInt8}{e:Nat}(D:mW 9 l = .error e):((e:Int) != 0)=true:=by
 rw[bne_iff_ne]; rcases Hw _ _ _ D with h | h<;>omega
abbrev apW (r:Nat×Nat×Nat):y9 := .tuple #[.int .u64 (r.1:Int),.i r.2.1,.i r.2.2]
abbrev yh(v:y9)(l:List UInt8)(i:Int)(w:E5)(D:bK w v l) :
  Nq prog 47 #[v,.i i] w (Ï w (apW (y8 l i))):=by
 by_cases hbad:i<0∨(l.length:Int)<i
 .rw[ai2 hbad];have HF:=FU (Jy v l i w D hbad);clear hbad;go_enter func47,ntmps47
  go_wp2_with fail
  refine HF.out.mono ?_;rintro e w' ⟨rfl,rfl⟩;go_wp2_with fail
  go_ret3
  exact⟨I,ø _ _⟩
 obtain⟨p,rfl⟩:∃p:Nat,i=p:=⟨i.toNat,Z⟩;have hp:p<=l.length:=Z
 have HF:=FU (QA v l p w D hp);clear hbad;have hl:=D.len;unfold maxLen at hl;cases hu:mW 9 (l.drop p)with
 | error er =>
  rw[ai3 hp hu];have D:=aas hu;have HU:=FU hu;clear hu;go_enter func47,ntmps47
  go_wp2_with fail
  refine HF.out.mono ?_;rintro e w1 ⟨b,rfl,D,J,hb⟩;have HN:=FU (BM l b p v w1 D);rw[HU.out]at HN;clear D HF;go_wp2_with fail
  refine HN.out.mono ?_;rintro e w2 ⟨q,D,S,rfl⟩;have HR:=FU D;have HB:=FU (Β J (S.below hb J.size));clear D S J HN;go_wp2_with fail
  go_ret3
  exact⟨I,HB.out⟩
 | ok r =>
  obtain⟨n,k⟩:=r;rw[amH hp hu];have HU:=FU hu;clear hu;go_enter func47,ntmps47
  go_wp2_with fail
  refine HF.out.mono ?_;rintro e w1 ⟨b,rfl,D,J,hb⟩;have HN:=FU (BM l b p v w1 D);rw[HU.out]at HN;clear D HF;go_wp2_with fail
  refine HN.out.mono ?_;rintro e w2 ⟨q,D,S,hq,rfl⟩;have h1:=D.c1;have HB:=FU (Β J (S.below hb J.size));have HQ:=FU hq;clear D S J HN hq;go_wp2_with fail
  go_quiet (fail)
  go_wp2_with fail
  go_ret3
  rw[HQ.out];exact⟨I,below_drewN HB.out _⟩
open En
variable{α:Type}
open En
variable{α:Type}
abbrev Yh(l:List UInt8)(i:Int):(y8 l i).1<18446744073709551616:=by
 unfold y8;split
 .simp
 split
 .rename_i h; exact(Hy h).1
 simp
abbrev auX (r:Int×Nat×Nat):y9 := .tuple #[.i r.1,.i r.2.1,.i r.2.2]
abbrev MW(k:IntKind)(x y:Int):bits .xor k x y=bits .xor k y x:=by
 show k.wrap ((BitVec.ofInt k.bits x^^^BitVec.ofInt k.bits y).toNat:Int)=k.wrap ((BitVec.ofInt k.bits y^^^BitVec.ofInt k.bits x).toNat:Int);rw[BitVec.xor_comm]
abbrev afq(a:Nat)(D:a<9223372036854775808):bits .xor .i64 (a:Int) 0=(a:Int):=by
 show IntKind.i64.wrap ((BitVec.ofInt 64 (a:Int)^^^BitVec.ofInt 64 0).toNat:Int)=_;have D:BitVec.ofInt 64 0=0#64:=by decide
 rw[D,BitVec.xor_zero,ofInt_u64 a Z];simp[IntKind.wrap,IntKind.bits,IntKind.signed];omega
abbrev Yi(n:Nat)(h:n<18446744073709551616):bits BinOp.xor IntKind.i64 ((n:Int)/2) (wrap64 (-wrap64 (bits BinOp.and IntKind.u64 (n:Int) 1)))=FV n:=by
 rw[Lib.u64_and1 _ Z Z];unfold FV;have e:(n:Int)/2=((n/2:Nat):Int):=I;rcases Nat.mod_two_eq_zero_or_one n with S | S
 .have J:(n:Int)%2=0:=Z
  have D:wrap64 (-wrap64 0)=0:=by simp[wrap64]
  rw[J,D,e,afq _ Z,UQ Z]
 have J:(n:Int)%2=1:=Z
 have D:wrap64 (-wrap64 1) = -1:=by simp[wrap64]
 rw[J,D,e,MW,i64_not _ Z,Á S]
abbrev Yj(v:y9)(l:List UInt8)(i:Int)(w:E5)(D:bK w v l) :
  Nq prog 115 #[v,.i i] w (Ï w (auX (Η l i))):=by
 have J:=FU (yh v l i w D);have hn:=Yh l i;unfold Η;generalize y8 l i=r at *;obtain⟨n,next,er⟩:=r;simp only at hn;clear D;go_enter func115,ntmps115
 go_wp2_with fail
 refine J.out.mono ?_;rintro e w' ⟨rfl,D⟩;go_wp2_with fail
 go_ret3
 exact⟨by rw[Yi _ hn]; rfl,D⟩
end
section
variable{α:Type}{K:Nat}
abbrev apX (w:E5)(v:y9)(L:List bI):Prop:=aG 4 bI.cells w v L
variable{p b cap c:Nat}{bad:Bool}
abbrev Ut{w0 w:E5}{bl:List (Nat×List y9)}(R:Sx.Rw w0 w bl []):Sx.Rw w0 w bl [⟨5,1,.sn,0,[]⟩]:=
 ⟨λr D=>by obtain rfl:=û.1 D; exact⟨I,.inl ⟨I,I⟩⟩,R.lt,R.apart⟩
abbrev amI(c d:bI)(w:E5):(binOp .eql 178 (.agg c.cells.toArray) (.agg d.cells.toArray)).run prog w = .ok (.b (c=d)) w:=by
 rw[<-Qp]; exact ak1 ..
abbrev jI (w:E5)(v:y9)(l:List UInt8):Prop:=aG 1 (λn:UInt8=>[gY n]) w v l
abbrev Om{w:E5}{p:bI} :
  Nq prog 135 #[.agg p.cells.toArray] w λe w'=>∃v,e = .R v∧OwnB w.heap.size w' v (Px.pb p)∧Ext w w':=by
 skip;refine Ä func135 ntmps135 λS=>Ú S p.cells λu b2 J D S=>?_;have R:=Č S;refine O1 S 9 [] [.M 0 0,.M 0 1,.M 0 2,.M 0 3] λS=>è S λS=>Υ S R 11 4 5 1 p.cells λJ u D E7 X8 R S=>ÿ S λS=>Xe S D λS=>?_;exact⟨_,I,R.own _ Ö,S.E⟩
abbrev Yk{w:E5}{v:y9}{L:List bI}(h:apX w v L)(hn:L.length<=1000000) :
  Nq prog 133 #[v] w λe w'=>∃v',e = .R v'∧OwnB w.heap.size w' v' (Px.enc L)∧Ext w w':=by
 obtain⟨a,cap,rfl⟩:=h.shape;refine Ņ func133 ntmps133 λac S=>YJ λ_ fQ=>Rf S 1 [] [(2,.sn)] λS=>Rh<|fQ _ _<|YJ λ_ Og=>Rf S 1 [] [(3,.sn)] λS=>Rh<|Og _ _<|Ô λ_ κ3=>YJ λ_ Ζ=>Rf S 1 [] [(4,.i 0)] λS=>Rh<|Ζ _ _<|Ě ?_;have R:=Č S;have R:=Ut R;refine Vp.loop (ι:=Nat×y9×List (Nat×bI)) (λp a' w'=>(Px.DI L p.1 p.2.2)∧Sx.Rw w w' [] [⟨5,1,p.2.1,(Px.rb p.2.2).length,(Px.rb p.2.2).map gY⟩]∧Sx.St w a' w' 44 [(0,.s a L.length cap),(2,.sn),(3,p.2.1),(4,.i p.1)] [] []) (λp=>L.length-p.1) (0,(.sn),[]) ⟨Px.DI.zero L,R,S.sn⟩ ?_;rintro⟨i,v,Rn⟩ ac u hI;try dsimp only at hI
 obtain⟨hR,R,S⟩:=hI;have hE:=hR;refine Ô λ_ Bz=>YJ λ_ XK=>Rf S 4 [] [(9,.b ((i:Int)<(L.length:Int)))] λS=>Rh (XK _ _ ?_);refine Ā S (λmO=>?_) λmO=>?_
 .refine ú<|Bz _ _<|Ě<|YJ λ_ BA=>?_;have hi:i<L.length:=by have:=Ý mO; omega
  obtain⟨x,hx⟩:∃z,L[i]=z:=⟨_,I⟩;refine Rf S 2 [] [(5,.i i)] λS=>Rh<|BA _ _<|Ô λκq Ub=>?_;have ai:∀(k:Nat) (ac:Act) (u:E5),(Sx.Rw w u [] [⟨5,1,v,(Px.rb Rn).length,(Px.rb Rn).map gY⟩])->(k<=L.length)->(i<=k)->(∀(j:Nat) (hj:j<L.length),i<=j->j<k->L[j]=x)->(∀h:k<L.length,L[k]≠x)->Sx.St w ac u 44 [(0,.s a L.length cap),(2,.sn),(3,v),(4,.i i),(5,.i k)] [] []->κq ac u:=by
   intro k ac u R a8 bt aq ab S;refine Ub _ _<|YJ λ_ Jz=>?_;have aw:i<k:=by rcases ĩ i k with h | h; exact h; obtain rfl:k=i:=Z; exact absurd hx (ab hi)
   refine Rf S 5 [.re 31 (.i (iW ((k:Int)-(i:Int)))) (.i (k-i:Nat)),.re 32 (.int .u64 (IntKind.u64.wrap ((k-i:Nat):Int))) (.int .u64 ((k-i:Nat):Int))] [(28,v),(32,.int .u64 ((k-i:Nat):Int))] (hk:=⟨(Sx.qp Z Z),(wrap_u64 Z),G⟩) λS=>ģ S (some 33) (gq (k-i) _ Z) ?_;rintro e u ⟨br,rfl,a7,rW⟩;refine⟨_,I,rW,λac S=>?_⟩;have ax:=Px.amJ hE.good;rw[hE.flat,Ĳ]at ax;have bc:(En.dX 10 (k-i)).length<=10:=En.iL 10 _;obtain⟨R,be⟩:=R.aZ S (à rW);refine Ń S R 0 34 I AX (jW (a7)) (by show(Px.rb Rn).length+(En.dX 10 (k-i)).length<=9223372036854775807; omega) (by show((Px.rb Rn).length+(En.dX 10 (k-i)).length)*1<=140737488355328; omega) λac u ag a9 R S=>Rf S 1 [] [(3,ag)] λS=>Rh<|Jz _ _<|YJ λ_ xR=>?_;have al:i<L.length:=Z
   obtain⟨bg,bh,rfl,af,ay,az,a3⟩:=ý h (λ_=>I) (i) al;have S:=S.view0 az a3;refine Rf S 5 [.idx i L.length,.M 0 0] [(35,ag),(39,.agg af.cells.toArray)] (hk:=⟨al,G⟩) λS=>ģ S (some 40) (Om (p:=af)) ?_;rintro e u ⟨bs,rfl,ap,GI⟩;rw[show af=x from by rw[<-ay]; exact hx]at ap;refine⟨_,I,GI,λac S=>?_⟩;obtain⟨R,bj⟩:=R.aZ S (à GI);refine Ń S R 0 41 I AX (jW (ap)) (by show(Px.rb Rn).length+(En.dX 10 (k-i)).length+4<=9223372036854775807; omega) (by show((Px.rb Rn).length+(En.dX 10 (k-i)).length+4)*1<=140737488355328; omega) λac u aa bb R S=>Rf S 1 [] [(3,aa)] λS=>Rh<|xR _ _<|į<|Rf S 2 [] [(4,.i k)] λS=>Rh ?_;show ∃i',_∧_;exact⟨(k,aa,(Rn++[(k-i,x)])),⟨hE.step hi hx aw a8 aq ab,R.as (show [(⟨5,1,aa,(Px.rb Rn).length+(En.dX 10 (k-i)).length+4,(Px.rb Rn).map gY++(En.dX 10 (k-i)).map gY++(Px.pb x).map gY⟩:Sx.Row)]=[⟨5,1,aa,(Px.rb (Rn++[(k-i,x)])).length,(Px.rb (Rn++[(k-i,x)])).map gY⟩] by rw[Px.ai4]; simp[Px.pb,Nat.add_assoc]),S.sn⟩,by show _-_<_-_; omega⟩
  refine Ě ?_;refine Vp.loop (ι:=Nat) (λp a' w'=>((i<=p∧p<=L.length)∧∀(j:Nat) (hj:j<L.length),i<=j->j<p->L[j]=x)∧Sx.Rw w w' [] [⟨5,1,v,(Px.rb Rn).length,(Px.rb Rn).map gY⟩]∧Sx.St w a' w' 44 [(0,.s a L.length cap),(2,.sn),(3,v),(4,.i i),(5,.i p)] [] []) (λp=>L.length-p) (i) ⟨⟨⟨Ç _,Z⟩,λj hj h1 h2=>by omega⟩,R,S.sn⟩ ?_;rintro k ac u hI;try dsimp only at hI
  obtain⟨hR,R,S⟩:=hI;have bd:=hR.1;refine Ô λ_ ar=>Ô λ_ ah=>?_;by_cases au1:k<L.length
  .have ap1:k<L.length:=Z
   obtain⟨bk,bm,rfl,D,am,a4,a5⟩:=ý h (λ_=>I) (k) ap1;have S:=S.view0 a4 a5;have MX:i<L.length:=Z
   obtain⟨J,an,ao,a6⟩:=Vp.au3 h (λ_=>I) (i) MX;have S:=S.view0 ao a6;refine š S 15 [.re 14 (.b ((k:Int)<(L.length:Int))) (.b true),.idx k L.length,.M 1 0,.idx i L.length,.M 0 0,.cmp .eql 178 (.tmp 19) (.tmp 23) (.agg #[.u (D.r.toNat:Int),.u (D.g.toNat:Int),.u (D.b.toNat:Int),.u (D.a.toNat:Int)]) (.agg #[.u (J.r.toNat:Int),.u (J.g.toNat:Int),.u (J.b.toNat:Int),.u (J.a.toNat:Int)]) (.b (D=J))] [] [(25,.b (D=J))] trivial (hk:=⟨(Ñ Value.b (ņ Z)),ap1,MX,(ı (λ_=>amI D J _) X),G⟩) λac u Oo S=>Rh (ah _ _ ?_);refine Ā S (λae=>?_) λae=>?_
   .refine ú<|ar _ _<|Ě<|į<|Rf S 3 [kS 27 k] [(5,.i (k+1:Nat))] (hk:=⟨ù Z,G⟩) λS=>Rh ?_;obtain⟨R,bo⟩:=R.aZ S (à Oo);show ∃i',_∧_;exact⟨(k+1),⟨⟨⟨Z,Z⟩,λj hj h1 h2=>by
     by_cases e:j=k
     .subst e; have:=ae; rw[am]; rw[<-hx,an]; simpa using this
     exact hR.2 j hj h1 Z⟩,R,S.sn⟩,by show _-_<_-_; omega⟩
   refine Ļ ?_;obtain⟨R,bp⟩:=R.aZ S (à Oo);exact ai k _ _ R hR.1.2 hR.1.1 hR.2 (λh e=>by rw[am]at e; subst e; have:=ae; rw[<-hx,an]at this; simp at this) S.sn
  refine š S 15 [.re 14 (.b ((k:Int)<(L.length:Int))) (.z),.dead 16 (.z),.dead 17 (.z),.dead 18 (.z),.dead 19 (.z),.dead 20 (.z),.dead 21 (.z),.dead 22 (.z),.dead 23 (.z),.dead 24 (.z)] [] [(25,.z)] trivial (hk:=⟨(Ñ Value.b (Ŝ Z)),G⟩) λac u Xw S=>Rh<|ah _ _<|Sx.FH S<|Ļ ?_;obtain⟨R,bq⟩:=R.aZ S (à Xw);exact ai k _ _ R hR.1.2 hR.1.1 hR.2 (λh=>absurd h au1) S.sn
 refine Ļ<|κ3 _ _<|YJ λ_ av=>Rf S 2 [] [(2,v)] λS=>Rh<|av _ _<|Sx.Qm S results133 ?_;exact⟨_,I,by rw[<-hE.done (by have:=é mO; omega)]; exact R.own _ Ö,S.E⟩
def ţ(l:List UInt8)(p:Nat)(bad:Bool)(n:Nat):Nat:=if (bad||decide (l.length<p+n))=true then p else p+n
def GX(l:List UInt8)(p:Nat)(bad:Bool)(n:Nat):Bool:=bad||decide (l.length<p+n)
def Yl(l:List UInt8)(p:Nat)(bad:Bool)(n:Nat):List UInt8:=if (bad||decide (l.length<p+n))=true then List.replicate n 0 else (l.drop p).take n
abbrev EP{l:List UInt8}{n:Nat}(h:GX l p bad n=true):ţ l p bad n=p∧Yl l p bad n=List.replicate n 0:=by
 unfold GX at h; unfold ţ Yl; rw[Á h,Á h]; exact⟨I,I⟩
abbrev JA{l:List UInt8}{n:Nat}(h:GX l p bad n=false):bad=false∧p+n<=l.length∧ţ l p bad n=p+n∧Yl l p bad n=(l.drop p).take n:=by
 unfold GX at h; unfold ţ Yl; rw[h];simp only[Ĕ,Ą]at h;exact⟨h.1,Z,by simp,by simp⟩
abbrev aat{l:List UInt8}{p n:Nat}{bad:Bool}:(Yl l p bad n).length=n:=by
 cases h:GX l p bad n
 .obtain⟨-,h1,-,h2⟩:=JA h; rw[h2]; simp; omega
 rw[(EP h).2]; simp
abbrev Ym{l:List UInt8}{n:Nat}(D:p<=l.length):ţ l p bad n<=l.length:=by
 cases h:GX l p bad n
 .obtain⟨-,h1,h2,-⟩:=JA h; omega
 rw[(EP h).1]; exact D
abbrev ai5{l:List UInt8}{p:Nat}{bad:Bool}:∃q:bI,Yl l p bad 4=Px.pb q:=by
 have h:=@aat l p 4 bad;match h1:Yl l p bad 4,h with
 | [a,b,c,d],_=>exact⟨⟨a,b,c,d⟩,I⟩
abbrev aN{b2:Nat}{w u J:E5}(h:Ch b w u)(c:Ch b2 u J)(D:b2=b∨w.heap.size<=b2:=by first | exact .inl I | exact .inr Z):Ch b w J:=by
 rcases D with rfl | D
 .exact h.trans c
 exact⟨c.os.trans h.os,c.tape.trans h.tape,c.output.trans h.output,ä h.size c.size,λi D hn=>(c.block i (ö D h.size) (λe=>by simp only[Æ]at e; omega)).trans (h.block i D hn)⟩
abbrev Uu{w:E5}{a:Option Addr}{l:List UInt8}{n:Nat}(h:jI w (.s a l.length c) l)(hp:p+n<=l.length)(hn:0<n):l.length<=c∧∃D o,a=some ⟨D,o,none⟩∧D<w.heap.size∧w.rangeAt D (o+p) (((l.drop p).take n).map gY):=by
 obtain⟨a',cap,J,hm,S⟩:=h;simp only[Ĉ,true_and]at J;obtain⟨rfl,rfl⟩:=J;rcases S with ⟨rfl,-⟩ | ⟨D,o,rfl,hb,hl,hc⟩
 .simp only[ł]at hp; omega
 refine⟨hl,D,o,I,hb,λj v J=>?_⟩;have D:j<n:=by
  have:=(List.getElem?_eq_some_iff.1 J).1;simp only[ĭ,Ĳ,Ş]at this; omega
 have S:=hc (p+j) Z 0 Z;rw[List.getElem?_map,List.getElem?_take_of_lt D,List.getElem?_drop,List.getElem?_eq_getElem Z]at J;obtain rfl:=Ò J;rw[show o+p+j=o+(p+j)*1+0 by omega,S]; rfl
abbrev afs{w0:E5}{a:Option Addr}{l:List UInt8}(h:jI w0 (.s a l.length c) l)(hp:p+4<=l.length) :
  ∃D o,(.s (Sx.um a p c 1) (p+4-p) (c-p):y9) = .s (some ⟨D,o,none⟩) 4 (c-p)∧D<w0.heap.size∧w0.rangeAt D o (((l.drop p).take 4).map gY):=by
 obtain⟨hl,D,o,rfl,J,S⟩:=Uu h hp Z;refine⟨D,o+p*1,?_,J,by rw[Nat.mul_one]; exact S⟩;unfold Sx.um;rw[UQ Z,aG4]; simp[Addr.add]
abbrev ab9{w0 w:E5}{a:Option Addr}{pk:Bool}{l:List UInt8}(J:Ext w0 w)(hx:Bx w b #[.s a l.length cap,.i p,.b bad,.b pk])(hb:w0.heap.size<=b)(h:jI w0 (.s a l.length cap) l)(D:p<=l.length) :
  Nq prog 116 #[.q b 0,.i 4] w λe w'=>∃bk o c,e = .R (.s (some ⟨bk,o,none⟩) 4 c)∧w'.rangeAt bk o ((Yl l p bad 4).map gY)∧bk<w'.heap.size∧(bk<w0.heap.size∨w.heap.size<=bk)∧Ext w0 w'∧Ch b w w'∧Bx w' b #[.s a l.length cap,.i (ţ l p bad 4:Nat),.b (GX l p bad 4),.b pk]:=by
 have D:l.length<=9223372036854775807:=h.len;refine Ĭ func116 ntmps116 J hx hb λS=>ć S 22 [.M 0 2,.M 0 0,.M 0 1,.re 24 (.i (iW ((l.length:Int)-(p:Int)))) (.i (l.length-p:Nat))] [] [(26,.b ((bad||false)||(decide (((l.length-p:Nat):Int)<4))))] trivial (hk:=⟨(Sx.qp Z Z),G⟩) λu E4 S=>À S ((bad||false)||(decide (((l.length-p:Nat):Int)<4))) (λJ S=>?_) λJ S=>?_
 .refine Sx.Ye S 0 (off:=2) (v := .b true) I λu D S=>?_;have aa:=(aN ((Ch.trans (Ch.refl b w) (Ch.aY E4))) D);have D:=(aa).size;refine Ú S [.u 0,.u 0,.u 0,.u 0] λu b10 BG Ji S=>?_;have D:GX l p bad 4=true:=by unfold GX; cases bad; (simp at J |-; omega); rfl
  refine Xe S (.s (some ⟨b10,0,none⟩) 4 4) λS=>?_;exact⟨_,_,_,I,by rw[(EP D).2]; exact(S.bx 0).range 0 4 I,(S.bx 0).1,.inr (by have:=Ji; omega),S.E,((Ch.trans aa (Ch.aY BG))),by rw[(EP D).1,D]; exact S.bx 1⟩
 have D:GX l p bad 4=false:=by unfold GX; cases bad; (simp at J |-; omega); simp at J
 have ab:=(JA D).2.1;have J:=Sx.kP h;refine O1 S 8 [] [.M 0 1,.re 39 (.i (iW ((p:Int)+4))) (.i (p+4:Nat))] (hk:=⟨(Sx.qp Z Z),G⟩) λS=>Sx.Ye S 0 (off:=1) (v := .i (p+4:Nat)) I λu J S=>?_;have oU:=(aN ((Ch.trans (Ch.refl b w) (Ch.aY E4))) J);refine ć S 15 [.M 0 0,.M 0 1,.re 51 (.i (iW (((p+4:Nat):Int)-4))) (.i p),.M 0 1,.slc p (p+4) cap cap] [] [(56,.s (Sx.um a p cap 1) (p+4-p) (cap-p))] trivial (λu Ak S=>?_) (hk:=⟨(Sx.qp Z Z),Z,G⟩);obtain⟨bk,o,hv,J,hr⟩:=afs h ab;have ho:=JA D;refine Xe S (.s (Sx.um a p cap 1) (p+4-p) (cap-p)) λS=>?_;exact⟨bk,o,cap-p,Ñ Ending.returned hv,by rw[ho.N]; exact Vp.qP hr J S.E,ö J S.E.size,.inl J,S.E,((Ch.trans oU (Ch.aY Ak))),by rw[ho.D,D]; have:=S.bx 0; rw[ho.1]at this; exact this⟩
abbrev FX{w0 w:E5}{a:Option Addr}{pk:Bool}{l:List UInt8}(J:Ext w0 w)(hx:Bx w b #[.s a l.length cap,.i p,.b bad,.b pk])(hb:w0.heap.size<=b)(h:jI w0 (.s a l.length cap) l)(D:p<=l.length) :
  Nq prog 78 #[.q b 0] w λe w'=>∃q:bI,e = .R (.agg q.cells.toArray)∧Px.pb q=Yl l p bad 4∧Ext w0 w'∧Ch b w w'∧Bx w' b #[.s a l.length cap,.i (ţ l p bad 4:Nat),.b (GX l p bad 4),.b pk]:=by
 skip;refine Ĭ func78 ntmps78 J hx hb λS=>Ú S [.u 0,.u 0,.u 0,.u 0] λu b2 E3 J S=>?_;have aa:=S.bx 0;have ab:=S.bx 1;have J:=S.old 0;refine Sx.BN S 1 [.s a l.length cap,.i (ţ l p bad 4:Nat),.b (GX l p bad 4),.b pk] rfl (ab9 S.E (S.bx 1) (S.old 1) h D) ?_;rintro e u ⟨bk,ok,ck,rfl,hr,ac,J,Yn,DJ,Yo⟩;refine⟨_,I,Yn,DJ,Yo,λS=>?_⟩;have Oq:=(aN ((Ch.trans (Ch.refl b w) (Ch.aY E3))) DJ);obtain⟨q,hq⟩:=@ai5 l p bad;rw[hq]at hr;have S:=S.view (cs:=q.cells) ac hr (λp D=>by rcases Ù.1 D with rfl | D; (have:=aa.1; rcases J with h | h<;>(intro e; simp only at e; omega)); obtain rfl:=û.1 D; (have:=ab.1; rcases J with h | h<;>(intro e; simp only at e; omega)));refine ć S 13 [.idx 0 4,.M 2 0,.idx 1 4,.M 2 1,.idx 2 4,.M 2 2,.idx 3 4,.M 2 3] [] [(18,.agg q.cells.toArray)] trivial (hk:=⟨O,O,O,O,G⟩) λu J S=>í S 0 (off:=0) (cs:=q.cells) I λu D S=>?_;have Dw:=(aN ((Ch.trans Oq (Ch.aY J))) D);refine ü S 0 I (v := .agg q.cells.toArray) λS=>?_;exact⟨q,I,hq.symm,S.E,Dw,S.bx 1⟩
abbrev Uw{w0 w:E5}{a:Option Addr}{pk:Bool}{l:List UInt8}(D:Ext w0 w)(J:Bx w b #[.s a l.length cap,.i p,.b bad,.b pk])(hb:w0.heap.size<=b)(h:jI w0 (.s a l.length cap) l)(hp:p<=l.length) :
  Nq prog 171 #[.q b 0] w λe w'=>∃q:bI,e = .R (.agg q.cells.toArray)∧Px.pb q=Yl l p bad 4∧Ext w0 w'∧Ch b w w'∧Bx w' b #[.s a l.length cap,.i (ţ l p bad 4:Nat),.b (GX l p bad 4),.b pk]:=by
 skip;refine Ĭ func171 ntmps171 D J hb λS=>Â S λu b2 J D S=>Sx.BN S 1 [.s a l.length cap,.i (ţ l p bad 4:Nat),.b (GX l p bad 4),.b pk] rfl (FX S.E (S.bx 1) (S.old 1) h hp) ?_;rintro e u ⟨q,rfl,hq,Yn,D,Yo⟩;refine⟨_,I,Yn,D,Yo,λS=>?_⟩;have Oq:=(aN ((Ch.trans (Ch.refl b w) (Ch.aY J))) D);refine É S 0 I λu J S=>?_;have D:=(aN Oq J);refine ü S 0 I (v := .agg q.cells.toArray) λS=>?_;exact⟨q,I,hq,S.E,D,S.kV 1⟩
namespace Px
abbrev Yp{l:List UInt8}{p:Nat}(D:p<=l.length):En.y8 l (p:Int)=match En.mW 9 (l.drop p)with | .ok (n,k)=>(n,p+k,0) | .error e=>(0,0,e):=by
 unfold En.y8;rw[UQ Z]; rfl
abbrev ok1{b:List UInt8}{p k x:Nat}(J:p<=b.length)(D:En.y8 b (p:Int)=(k,x,0)):∃c,En.mW 9 (b.drop p) = .ok (k,c)∧x=p+c∧x<=b.length∧1<=c:=by
 rw[Yp J]at D;cases hs:En.mW 9 (b.drop p)with
 | error e=>rw[hs]at D; simp only[Ê]at D; have:=En.Hw 9 _ _ hs; omega
 | ok r =>
  obtain⟨J,c⟩:=r;rw[hs]at D;simp only[Ê]at D;obtain⟨-,J,S,-⟩:=En.Hy hs;simp only[Ş]at S;exact⟨c,by rw[D.1],Z,Z,J⟩
end Px
end
end Go.Proofs.Õ
section
namespace Go.Sx
variable{P:Program}{ops:Array Oper}{Q:Exit->Act->E5->Prop}{w0 w:E5}{a:Act}{os:List Oper}{n:Nat}{l:List (Nat×y9)}{bl:List (Nat×List y9)}{vs:List eX}
def aft(os:List Oper):Option (Ð×Ð×Nat×Nat):=match os with
 | _::o::_=>(match o.guard,o.dst,o.op with
  | none,some d,.convert s t (.tmp x)=>some (s,t,x,d)
  | _,_,_=>none)
 | _=>none
abbrev Yq{w:E5}{A:List y9}{e:Ð}{m:Nat}{D:Nat×Nat}(hA:A.length=m)(hm:m<=maxLen)(J:A.all (·.oneCell')=true):dQ (w.alloc (.cells A.toArray e D)) 1 (.s (some ⟨w.heap.size,0,none⟩) m m) m A:=by
 refine⟨Z,λu S=>by rw[ñ]at J; exact J u S,.inr ⟨w.heap.size,0,m,I,by simp,Ç _,hm,λj u hj=>?_⟩⟩;have:(w.alloc (.cells A.toArray e D)).heap[w.heap.size]?=some (.cells A.toArray e D):=by
  show(w.heap.push (.cells A.toArray e D))[w.heap.size]?=_;simp
 rw[Ī];unfold World.cell?;rw[this];simpa using hj
abbrev lit(S:St w0 a w n l bl vs)(d1 d2 m:Nat)(A:List y9)(t e:Ð)(ht:P.underlying t=some (.slice e))(he:P.underlying e=some (.int .u8))
  (next:∀{a' w' b},Ext w w'->dQ w' 1 (.s (some ⟨b,0,none⟩) m m) m A->St w0 a' w' n ((d2,.s (some ⟨b,0,none⟩) m m)::l) bl vs->Ã P ops Q (os.drop 2) a' w')
  (hl:(l.lookup d1).isNone=true:=by kernel_rfl) (D:(d1==d2)=false:=by rfl)
  (J:∀r,xC P r os l=some (A,e,.s (some ⟨r,0,none⟩) m m,some d1):=by intro r; kernel_rfl) (D:aft os=some (t,t,d1,d2):=by kernel_rfl) (hA:A.length=m:=by rfl) (hm:m<=maxLen:=by decide) (h1:A.all (·.oneCell')=true:=by kernel_rfl)
  (hd1:uG n (some d1)=true:=by rfl) (ah:uG n (some d2)=true:=by rfl):Ã P ops Q os a w:=by
 have J:=J w.heap.size;cases os with
 | nil=>cases D
 | cons o os =>
 cases os with
 | nil=>cases D
 | cons o2 os =>
  unfold xC at J;unfold aft at D;simp only at J D;split at J
  .rename_i A' ty k' hg hav hev;split at J
   .rename_i v hv;simp only[Æ,Ê]at J;obtain⟨rfl,rfl,rfl,af⟩:=J;simp only[Ĕ]at hav;have hc:Í a.eval o=Í (zQ (lift l) []) o:=by
     refine execOp_congr o (λcs b e1=>by rw[e1]at hav; cases hav.1) λx J=>?_;have D:=hav.2;simp only[Ň,Κ]at D;obtain⟨v,hv⟩:=Į.1 (D x J);rw[gB (Std.act a) (gG (bT S.s) o x J) (p:=[]) I hv];simp[zQ,hv]
    have ag:ev0 P k'=some (.value (.s (some ⟨w.heap.size,0,none⟩) m m)):=by
     unfold jd at hv;split at hv
     .rename_i h; obtain D:=Ò hv; rw[h]; simp only[GH.val.injEq]at D; rw[D]
     .cases hv
     cases hv
    have ac:(Í a.eval o).run P w = .ok (.value (.s (some ⟨w.heap.size,0,none⟩) m m)) (w.alloc (.cells A'.toArray ty)):=by rw[hc,nK hev,oI ag]
    split at D
    .rename_i d s' t' x hg2 ap3 hop2;simp only[Æ,Ê]at D;obtain⟨rfl,rfl,rfl,rfl⟩:=D;unfold Ã;rw[Á (by simp[Region.wanted,hg])];left;unfold Oper.wp;rw[ac];simp only[Oper.upon];rw[af];have ae:=tC (d:=some x) S.s hd1 (.s (some ⟨w.heap.size,0,none⟩) m m);have ex:(a.put (some x) (.s (some ⟨w.heap.size,0,none⟩) m m)).eval (.tmp x) = .s (some ⟨w.heap.size,0,none⟩) m m:=ae.has x _ (by simp[zS]);have aa:(Í (a.put (some x) (.s (some ⟨w.heap.size,0,none⟩) m m)).eval o2).run P (w.alloc (.cells A'.toArray ty)) = .ok (.value (.s (some ⟨w.heap.size,0,none⟩) m m)) (w.alloc (.cells A'.toArray ty (A'.toArray.size,A'.toArray.size+1))):=by
      unfold Í;rw[hop2];simp only[ex];rw[ġ,Go.Lib.run_convert_bytes_const w _ ty A'.toArray m m ht he];rfl
     unfold Ã;rw[Á (by simp[Region.wanted,hg2])];left;unfold Oper.wp;rw[aa];simp only[Oper.upon];rw[ap3];have ab:=tC (d:=some d) ae ah (.s (some ⟨w.heap.size,0,none⟩) m m);have hE:Ext w (w.alloc (.cells A'.toArray ty (A'.toArray.size,A'.toArray.size+1))):=aI _ _;refine next hE (Yq hA hm h1) ((S.grow hE).act ⟨ab.size,ab.defers,λi v hi=>ab.has i v ?_⟩);simp only[zS,ĝ]at hi |-;by_cases hid:i=d
     .subst hid; simpa using hi
     have e1:(i==d)=false:=by simpa using hid
     simp only[e1]at hi |-;by_cases hix:i=x
     .subst hix;rw[Option.isNone_iff_eq_none.1 hl]at hi; cases hi
     have e2:(i==x)=false:=by simpa using hix
     simpa only[e2]using hi
    cases D
   cases J
  cases J
def ak2(os:List Oper)(l:List (Nat×y9)):Option (Ð×Ð×ByteArray×Nat):=match os with
 | o::_=>(match o.guard,o.dst,o.op with
  | none,some d,.convert s t x=>(match rd (lift l) [] x with
   | some (.string z)=>some (s,t,z,d)
   | _=>none)
  | _,_,_=>none)
 | _=>none
abbrev bytesOf(S:St w0 a w n l bl vs)(d:Nat)(bs:List UInt8){src dst e:Ð}(hs:P.underlying src=some .string)(hd:P.underlying dst=some (.slice e))(he:P.underlying e=some (.int .u8))(hn:bs.length<=maxLen)
  (next:∀{a' w' b cap},Ext w w'->bK w' (.s (some ⟨b,0,none⟩) bs.length cap) bs->St w0 a' w' n ((d,.s (some ⟨b,0,none⟩) bs.length cap)::l) bl vs->Ã P ops Q (os.drop 1) a' w')
  (D:ak2 os l=some (src,dst,⟨bs.toArray⟩,d):=by kernel_rfl) (aa:uG n (some d)=true:=by rfl):Ã P ops Q os a w:=by
 cases os with
 | nil=>cases D
 | cons o os =>
  unfold ak2 at D;simp only at D;split at D
  .rename_i d' s' t' x hg hdst hop;split at D
   .rename_i z hxx;simp only[Æ,Ê]at D;obtain⟨rfl,rfl,rfl,rfl⟩:=D;have J:=gG (bT S.s) o;have ex:a.eval x = .string ⟨bs.toArray⟩:=gB (Std.act a) (J x (by rw[hop]; simp[Op.operands])) (p:=[]) I hxx;have J:(⟨bs.toArray⟩:ByteArray).size=bs.length:=by simp[ByteArray.size]
    have hr:=Go.run_bytes_of_string (P:=P) w s' t' e ⟨bs.toArray⟩ hs hd he;rw[J]at hr;have J:Ext w (w.drew.alloc (.cells (Go.bytesRow ⟨bs.toArray⟩ (grownCap w bs.length 0 e)) e ((Go.bytesRow ⟨bs.toArray⟩ (grownCap w bs.length 0 e)).size,(Go.bytesRow ⟨bs.toArray⟩ (grownCap w bs.length 0 e)).size+1))):=Ip (below_drewN (ø _ _) 1) (aI _ _);refine ap4 S d' _ I hg hdst (by unfold Í; rw[hop]; simp only[ex]; rw[ġ,hr]; rfl) J (λS=>next J ⟨_,_,I,grownCap_le_maxLen _ _ _ _ hn,.inr ⟨_,0,I,by show w.heap.size<(w.heap.push _).size; rw[Array.size_push]; omega,grownCap_ge _ _ _ _,λi hi=>?_⟩⟩ S) aa;generalize grownCap w bs.length 0 e=cap;have:∀(A:Array y9) (J:Nat×Nat),(w.drew.alloc (.cells A e J)).heap[w.heap.size]?=some (.cells A e J):=λA J=>by
     show(w.heap.push (.cells A e J))[w.heap.size]?=_;simp
    rw[Ī];unfold World.cell?;rw[this];simp only[Go.bytesRow,ϙ];rw[Array.getElem?_append_left (by simpa using hi)];simp[hi,gY]
   cases D
  cases D
end Go.Sx
namespace gu
def one(s:UInt32):UInt32:=if s&&&1=1 then (s>>>1)^^^0xedb88320 else s>>>1
def many:Nat->UInt32->UInt32
 | 0,s=>s
 | n+1,s=>one (many n s)
def byte(s:UInt32)(c:UInt8):UInt32:=many 8 (s^^^c.toUInt32)
def reg(s:UInt32)(l:List UInt8):UInt32:=l.foldl byte s
def update(s:UInt32)(l:List UInt8):UInt32:=(reg (s^^^0xffffffff) l)^^^0xffffffff
def crc(D:List (List UInt8)):UInt32:=D.foldl update 0
def le4(s:UInt32):List UInt8:=[s.toUInt8,(s>>>8).toUInt8,(s>>>16).toUInt8,(s>>>24).toUInt8]
def app(b:List UInt8):List UInt8:=b++le4 (update 0 b)
end gu
namespace Go.Proofs.Õ
variable{α:Type}
abbrev afu(s:UInt32)(l:List UInt8)(c:UInt8):gu.reg s (l++[c])=gu.byte (gu.reg s l) c:=by simp[gu.reg]
abbrev afv(s:UInt32)(l:List UInt8)(k:Nat)(h:k<l.length):gu.reg s (l.take (k+1))=gu.byte (gu.reg s (l.take k)) l[k]:=by
 rw[take_snoc l k h,afu]
abbrev ai6(x:UInt32)(h:(bits .and .u32 (x.toNat:Int) 1==1)=true):bits .xor .u32 ((x.toNat:Int)/(2:Int)) 3988292384=((gu.one x).toNat:Int):=by
 rw[aej,apA];rw[akT]at h;have h':x&&&1=1:=by
  apply Ř.1;simp only[ß]at h;have:=h; simp only[UInt32.reduceToNat]; omega
 simp[gu.one,h']
abbrev amN(x:UInt32)(h:(bits .and .u32 (x.toNat:Int) 1==1)=false):((x.toNat:Int)/(2:Int))=((gu.one x).toNat:Int):=by
 rw[aej];rw[akT]at h;have h':¬x&&&1=1:=by
  intro e; rw[e]at h; simp at h
 simp[gu.one,h']
abbrev Ux(s:UInt32)(v:y9)(l:List UInt8)(w:E5)(S:bK w v l) :
  Nq prog 97 #[bn s,v] w λe w'=>e = .R (bn (gu.update s l))∧w=w':=by
 obtain⟨a,cap,rfl,J,D⟩:=S;have hl:=rZ J D;have J:=FU D;clear D;go_enter func97,ntmps97
 go_wp2
 go_loop [0,12] (λs1 i=>∃k:Nat,k<=l.length∧i = .i k∧s1=bn (gu.reg (s^^^0xffffffff) (l.take k))) (λ_ i=>l.length-(intOf i).toNat)
 case atStart=>exact⟨0,Î _,I,by rw[akS,ael]; rfl⟩
 case round =>
  obtain⟨k,hk,rfl,rfl⟩:=hrel;by_cases hlt:k<l.length
  .rcases J.out with ⟨rfl,_⟩ | ⟨b,o,rfl,hb,hlc,hc⟩
   .simp at hlt
   have D:=hc k hlt;go_wp2
   go_loop [0,20] (λs1 i=>∃j:Nat,j<=8∧i = .i j∧s1=bn (gu.many j ((gu.reg (s^^^0xffffffff) (l.take k))^^^l[k].toUInt32))) (λ_ i=>8-(intOf i).toNat)
   case atStart=>exact⟨0,Î _,I,by rw[alX,alW]; rfl⟩
   case round =>
    obtain⟨j,D,rfl,rfl⟩:=hrel;by_cases hlt:j<8
    .have E:Hid (gu.many (j+1) ((gu.reg (s^^^0xffffffff) (l.take k))^^^l[k].toUInt32)=gu.one (gu.many j ((gu.reg (s^^^0xffffffff) (l.take k))^^^l[k].toUInt32))):=I;generalize gu.many j ((gu.reg (s^^^0xffffffff) (l.take k))^^^l[k].toUInt32)=x at E;go_wp2
     .go_round
      case rel=>exact⟨j+1,Z,by go_num,by rw[E.out,ai6 x ‹_›]⟩
      case measure=>simp[intOf]; omega
     go_round
     case rel=>exact⟨j+1,Z,by go_num,by rw[E.out,amN x ‹_›]⟩
     case measure=>simp[intOf]; omega
    obtain rfl:j=8:=by omega
    go_wp2
    go_round
    case rel=>exact⟨k+1,Z,by go_num,by rw[afv _ _ _ ‹_›]; rfl⟩
    case measure=>simp[intOf]; omega
  obtain rfl:k=l.length:=by omega
  go_wp2
  go_ret
  exact⟨jO (by rw[akS,ael]; simp only[gu.update]),I⟩
abbrev afw(l:List (List UInt8))(k:Nat)(h:k<l.length):gu.crc (l.take (k+1))=gu.update (gu.crc (l.take k)) l[k]:=by
 rw[take_snoc l k h]; simp only[gu.crc,List.foldl_append,List.foldl_cons,List.foldl_nil]
abbrev crc32(v:y9)(l:List (List UInt8))(w:E5)(S:yS w v l) :
  Nq prog 60 #[v] w λe w'=>e = .R (bn (gu.crc l))∧w=w':=by
 obtain⟨a,cap,rfl,J,D⟩:=S;have hl:=aeh J D;have J:=FU D;clear D;go_enter func60,ntmps60
 go_wp2
 go_loop [3,8] (λs1 i=>∃k:Nat,k<=l.length∧i = .i k∧s1=bn (gu.crc (l.take k))) (λ_ i=>l.length-(intOf i).toNat)
 case atStart=>exact⟨0,Î _,I,I⟩
 case round =>
  obtain⟨k,hk,rfl,rfl⟩:=hrel;by_cases hlt:k<l.length
  .rcases J.out with ⟨rfl,_⟩ | ⟨b,o,rfl,hb,hlc,hc⟩
   .simp at hlt
   obtain⟨x,D,J⟩:=hc k hlt;go_wp2_with fail
   refine(Ux _ x l[k] _ J).mono ?_;rintro e w' ⟨rfl,rfl⟩;go_wp2
   go_round
   case rel=>exact⟨k+1,Z,by go_num,by rw[afw l k ‹_›]⟩
   case measure=>simp[intOf]; omega
  obtain rfl:k=l.length:=by omega
  go_wp2
  go_ret
  exact⟨jO (by simp only),I⟩
