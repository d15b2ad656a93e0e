/- Walks of binenc: PutUvarint and -/
import Derived.Deep.RegionHeld3
import Derived.Laws.DeepNot64
import Derived.Lib.Zigzag
import Derived.Test.YtodpgjjgaddkeaaGreatDoorPk14
import Derived.Lib.SlBytesConst
import Derived.Laws.AppendOwn
set_option maxHeartbeats 9999999
open Go renaming World->Á,Value->À,Calls->Ä,wpList->Ð,TypeId->á,execOp->Ù
open Go.Proofs.Tryz
set_option maxRecDepth 100000
set_option linter.unusedVariables false
set_option linter.unusedSimpArgs false
namespace Go.Proofs.Pv
section
open Go.RowKit En
variable{α:Type}
abbrev ako:∀m:Fin 256,m.val|||128=m.val%128+128:=by decide
abbrev akp(n:Nat):bits .or .u8 ((n:Int)%256) 128=(n:Int)%128+128:=by
 have h:=ako ⟨n%256,Ň _ O⟩;have:=u8_or_nat (n%256) 128 Z Z;rw[show((128:Nat):Int)=128 from rfl,show((n%256:Nat):Int)=(n:Int)%256 by omega]at this;rw[this,h]; simp only; omega
abbrev jK(x:Nat)(w:Á)(hx:x<18446744073709551616) :
  Ä prog 30 #[.int .u64 (x:Int)] w λe w'=>∃v',e = .R v'∧w'.ownsRow w.heap.size 5 1 v' (fE 10 x).length ((fE 10 x).map iO)∧Ext w w':=by
 go_enter func30,ntmps30
 go_wp2
 go_loopw [0,3] (λxv v wr=>∃(f n:Nat) (out:List UInt8),xv = .int .u64 n∧n<18446744073709551616∧n<128^(f+1)∧out.length+f=9∧fE 10 x=out++fE (f+1) n∧wr.ownsRow w.heap.size 5 1 v out.length (out.map iO)∧Ext w wr) (λxv _ _=>(intOf xv).toNat)
 case atStart=>exact⟨9,x,[],I,hx,Z,I,I,ayS _ _ _ _,ù _ _⟩
 case round =>
  obtain⟨f,n,out,rfl,hn,hf,hl,hu,hown,hbel⟩:=hrel;have HU:=Â hu;have h63:out.length+1<=maxLen:=by unfold maxLen; omega
  have hby:(out.length+1)*1<=140737488355328:=Z
  have hsz:w.heap.size<=wr.heap.size:=hbel.size;clear hu;by_cases hlt:n<128
  .have hr:=lJ wr (.u (n:Int)) 5 I;have hown':=hown.alloc (.cells #[.u (n:Int)] 5);have hsz':w.heap.size<=(wr.alloc (.cells #[.u (n:Int)] 5)).heap.size:=by simp; omega
   clear hown;have hn8:(n:Int)%256=n:=Z
   go_wp2_with (at_builtin; refine bD I _ _ _ I DU w.heap.size hown' I hr I h63 hby hsz' ?_; intro v' w' hown2 hg)
   go_ret
   refine⟨_,I,?_,(hbel.alloc hsz _).grown hg hsz' (λk hk=>(World.ownsRow.lt hown' k hk).1)⟩;have e:fE 10 x=out++[UInt8.ofNat n]:=by rw[HU.out,fE,Ï hlt]
   rw[e];simpa[iO,I5 (show n<256 by omega)]using hown2
  cases f with
  | zero=>exact absurd hf Z
  | succ f =>
   have hr:=lJ wr (.u ((n:Int)%128+128)) 5 I;have hown':=hown.alloc (.cells #[.u ((n:Int)%128+128)] 5);have hsz':w.heap.size<=(wr.alloc (.cells #[.u ((n:Int)%128+128)] 5)).heap.size:=by simp; omega
   have hn8:=akp n;clear hown;go_wp2_with (at_builtin; refine bD I _ _ _ I DU w.heap.size hown' I hr I h63 hby hsz' ?_; intro v' w' hown2 hg)
   go_roundw
   case rel =>
    refine⟨f,n/128,out++[UInt8.ofNat (n%128+128)],by simp,Z,?_,by simp; omega,?_,?_,(hbel.alloc hsz _).grown hg hsz' (λk hk=>(World.ownsRow.lt hown' k hk).1)⟩
    .rw[Ğ]at hf; exact ϓ Z
    .rw[HU.out,fE,É hlt]; simp
    simpa[iO,I5 (show n%128+128<256 by omega),show((n:Int)%128+128)%256=(n:Int)%128+128 by omega]using hown2
   case measure=>simp[intOf]; omega
open Go.RowKit En
variable{α:Type}
open Go.RowKit En
variable{α:Type}
abbrev adS(a:Nat)(ha:a<18446744073709551616):bits .xor .u64 (a:Int) 18446744073709551615=((18446744073709551615-a:Nat):Int):=by
 have h1:=apc (UInt64.ofNat a) (-1);have e1:(UInt64.ofNat a).toNat=a:=by simp; omega
 have e2:(((-1:UInt64).toNat:Nat):Int)=18446744073709551615:=by decide
 rw[e1,e2,UInt64.xor_neg_one,UInt64.toNat_not,e1]at h1;rw[h1]; rfl
abbrev adT(x:Int)(h : -9223372036854775808<=x)(h2:x<=9223372036854775807) :
  bits BinOp.xor IntKind.u64 (IntKind.u64.wrap (IntKind.u64.wrap x*2)) (IntKind.u64.wrap (x/9223372036854775808))=((zig x:Nat):Int):=by
 rw[Ŏ,Ŏ,Ŏ];unfold zig;split
 .rw[show x/9223372036854775808%18446744073709551616=18446744073709551615 by omega];rw[show x%18446744073709551616*2%18446744073709551616=(((2*x+18446744073709551616).toNat:Nat):Int) by omega,adS _ Z];omega
 rw[show x/9223372036854775808%18446744073709551616=((0:Nat):Int) by omega];rw[show x%18446744073709551616*2%18446744073709551616=(((2*x).toNat:Nat):Int) by omega,u64_xor_nat _ _ Z Z,Nat.xor_zero]
abbrev KY(x:Int)(w:Á)(h : -9223372036854775808<=x)(h2:x<=9223372036854775807) :
  Ä prog 85 #[.i x] w λe w'=>∃v',e = .R v'∧w'.ownsRow w.heap.size 5 1 v' (fE 10 (zig x)).length ((fE 10 (zig x)).map iO)∧Ext w w':=by
 have HC:=Â (jK (zig x) w (adU h h2));go_enter func85,ntmps85
 go_wp2_with fail
 rw[adT x h h2];refine HC.out.mono ?_;rintro e w' ⟨v',rfl,ho,hb⟩;go_wp2_with fail
 go_ret
 exact⟨_,I,ho,hb⟩
open Go.RowKit En
variable{α:Type}
abbrev I7(v:À)(l:List UInt8)(i:Int)(w:Á)(hv:bI w v l)(h:i<0∨(l.length:Int)<i) :
  Ä prog 73 #[v,.i i] w λe w'=>e = .R (.tuple #[.pointer none,.i 2])∧w=w':=by
 obtain⟨a,cap,rfl,hm,ha⟩:=hv;have hl:=rM hm ha;clear ha;go_enter func73,ntmps73
 by_cases h1:i<0
 .go_wp2_with fail
  go_ret2
  exact⟨I,I⟩
 have h2:(l.length:Int)<i:=Z
 clear h;go_wp2_with fail
 go_ret2
 exact⟨I,I⟩
abbrev aaw(v:À)(l:List UInt8)(i:Nat)(w:Á)(hv:bI w v l)(h:i<=l.length) :
  Ä prog 73 #[v,.i i] w λe w'=>e = .R (.tuple #[.q w.heap.size 0,.i 0])∧w'=w.alloc (.cells #[v,.i i] 144):=by
 obtain⟨a,cap,rfl,hm,ha⟩:=hv;have hl:=rM hm ha;clear ha;go_enter func73,ntmps73
 go_wp2_with fail
 go_ret2
 exact⟨I,I⟩
abbrev Sz(v:À)(l:List UInt8)(b p:Nat)(w:Á)(hv:bI w v l)(h0:w.cell? ⟨b,0,none⟩=some v)(h1:w.cell? ⟨b,1,none⟩=some (.i p))(hp:p<=l.length) :
  Ä prog 112 #[.q b 0] w λe w'=>e = .R (.i (l.length-p:Nat))∧∃n,w'=w.drewN n:=by
 obtain⟨a,cap,rfl,hm,ha⟩:=hv;have hl:=rM hm ha;clear ha;go_enter func112,ntmps112
 go_wp2_with fail
 go_quiet (fail)
 go_wp2_with fail
 go_ret
 exact⟨eX Z,_,I⟩
open Go.RowKit En
variable{α:Type}
abbrev adV{bb o n c n' c':Nat}{ad:Addr}(h:Value.s (some ⟨bb,o,none⟩) n c = .s (some ad) n' c'):bb=ad.block:=by
 simp only[Ĉ,Ò]at h; rw[<-h.1]
abbrev ahe{f:α->À}{w:Á}{bb o cap p k:Nat}{l:List α}(hm:cap<=maxLen)(hp:p+k<=l.length)(hlc:l.length<=cap)(hb:bb<w.heap.size)
  (hc:∀i (h:i<l.length),w.cell? ⟨bb,o+i,none⟩=some (f l[i])):dJ f w (.s (if cap=p then some ⟨bb,o,none⟩else some ⟨bb,o+p,none⟩) k (cap-p)) ((l.drop p).take k):=by
 have e:((l.drop p).take k).length=k:=by simp; omega
 rcases ę k with rfl | hk
 .refine⟨_,cap-p,by rw[e],Z,.inl ⟨by simp,λh=>?_⟩⟩;split at h<;>simp at h
 rw[É Z];refine⟨_,cap-p,by rw[e],Z,.inr ⟨bb,o+p,I,hb,by rw[e]; omega,λi hi=>?_⟩⟩;rw[e]at hi;rw[Ξ,hc (p+i) Z]; simp
abbrev aax(l:List UInt8)(b p k bb o cap:Nat)(w:Á)(hm:cap<=maxLen)(hlc:l.length<=cap)(hbb:bb<w.heap.size)(hne:bb≠b)
  (hcs:∀i (h:i<l.length),w.cell? ⟨bb,o+i,none⟩=some (iO l[i])) (h0:w.cell? ⟨b,0,none⟩=some (.s (some ⟨bb,o,none⟩) l.length cap)) (h1:w.cell? ⟨b,1,none⟩=some (.i p))
  (hfz:w.frozen? ⟨b,1,none⟩=false) (hp:p+k<=l.length) :
  Ä prog 113 #[.q b 0,.i k] w λe w'=>∃v' n,e = .R v'∧w'=(w.setCell ⟨b,1,none⟩ (.i ((p:Int)+(k:Int)))).drewN n ∧
   bI w' v' ((l.drop p).take k)∧∀ad n cap',v' = .s (some ad) n cap'->bb=ad.block:=by
 have HC:=Â hcs;clear hcs;have hc:p+k<=cap:=Z
 have hi0:(0:Int)<=(p:Int):=Z
 have hi1:(p:Int)<=(p:Int)+(k:Int):=Z
 have hi2:(p:Int)+(k:Int)<=(cap:Int):=Z
 have hi4:IntKind.i64.wrap ((p:Int)+(k:Int))=(p:Int)+(k:Int):=by rw[Ř]; have:maxLen=9223372036854775807:=I; omega
 have hi5:((p:Int)+(k:Int)).toNat=p+k:=Z
 have hc2:p<=p+k:=Z
 have hc3:p+k-p=k:=Z
 have hc4:p<=cap:=Z
 have hrow:bI ((w.setCell ⟨b,1,none⟩ (.i ((p:Int)+(k:Int)))).drewN 1) (.s (if cap=p then some ⟨bb,o,none⟩else some ⟨bb,o+p,none⟩) k (cap-p)) ((l.drop p).take k):=
  ahe hm hp hlc (by simpa using hbb) (λi h=>by rw[World.cell?_drewN,World.cell?_setCell_other _ _ _ _ (by simp only[ne_eq,Ÿ]; omega)]; exact HC.out i h)
 by_cases hcp:cap=p
 .rw[Ï hcp]at hrow;have HR:=Â hrow;clear hrow;subst hcp;have HR:=Â (by have h:=HR.out; rw[Κ]at h; exact h);go_enter func113,ntmps113
  go_wp2_with fail
  go_region_held3 (λw'=>w'.cell? ⟨b,0,none⟩=some (.s (some ⟨bb,o,none⟩) l.length cap)∧w'.cell? ⟨b,1,none⟩=some (.i cap)) (go_keep) (fail)
  go_wp2_with fail
  go_ret
  exact⟨_,1,I,I,HR.out,λ_ _ _ e=>adV e⟩
 rw[É hcp]at hrow;have HR:=Â hrow;clear hrow;go_enter func113,ntmps113
 go_wp2_with fail
 go_region_held3 (λw'=>w'.cell? ⟨b,0,none⟩=some (.s (some ⟨bb,o,none⟩) l.length cap)∧w'.cell? ⟨b,1,none⟩=some (.i p)) (go_keep) (fail)
 go_wp2_with fail
 go_ret
 exact⟨_,1,I,I,HR.out,λ_ _ _ e=>adV e⟩
open Go.RowKit En
variable{α:Type}
structure Rd (w:Á) (b:Nat) (v:À) (l:List UInt8) (p:Nat):Prop where
 c0:w.cell? ⟨b,0,none⟩=some v
 c1:w.cell? ⟨b,1,none⟩=some (.i p)
 fz:w.frozen? ⟨b,1,none⟩=false
 row:bI w v l
 off:0<l.length->Off b v
 hp:p<=l.length
 lt:b<w.heap.size
abbrev Rd.drewN{w:Á}{b:Nat}{v:À}{l:List UInt8}{p:Nat}(h:Rd w b v l p)(n:Nat):Rd (w.drewN n) b v l p:=
 ⟨by rw[World.cell?_drewN]; exact h.c0,by rw[World.cell?_drewN]; exact h.c1,by rw[World.frozen?_drewN]; exact h.fz,h.row.below (below_drewN (ù _ _) n),h.off,h.hp,by simpa using h.lt⟩
abbrev Rd.ext{w w':Á}{b:Nat}{v:À}{l:List UInt8}{p:Nat}(h:Rd w b v l p)(hb:Ext w w'):Rd w' b v l p:=
 ⟨by rw[hb.cell (p:=⟨b,0,none⟩) h.lt]; exact h.c0,by rw[hb.cell (p:=⟨b,1,none⟩) h.lt]; exact h.c1,by rw[hb.frozen (p:=⟨b,1,none⟩) h.lt]; exact h.fz,h.row.below hb,h.off,h.hp,by have:=hb.size; have:=h.lt; omega⟩
abbrev Rd.set{w:Á}{b:Nat}{v:À}{l:List UInt8}{p q:Nat}(h:Rd w b v l p)(hq:q<=l.length):Rd (w.setCell ⟨b,1,none⟩ (.i q)) b v l q:=
 ⟨by rw[World.cell?_setCell_other _ _ _ _ Y]; exact h.c0,World.cell?_setCell_same _ _ _ h.c1,by simpa using h.fz,h.row.ch ((Ch.refl b w).setCell _ _) h.off,h.off,hq,by simpa[World.setCell]using h.lt⟩
abbrev next_any(l:List UInt8)(b p k:Nat)(v:À)(w:Á)(h:Rd w b v l p)(hk:p+k<=l.length)(h0:0<l.length) :
  Ä prog 113 #[.q b 0,.i k] w λe w'=>∃v',e = .R v'∧Rd w' b v l (p+k)∧Ch b w w'∧bI w' v' ((l.drop p).take k)∧Off b v':=by
 obtain⟨bb,o,cap,hv,hb,hl,hm,hc⟩:=dH h.row I h0;subst hv;have hne:bb≠b:=h.off h0 _ _ _ I;refine(aax l b p k bb o cap w hm hl hb hne hc h.c0 h.c1 h.fz hk).mono ?_;rintro e w' ⟨v',n,rfl,hw,hr,hoff⟩;have he:(p:Int)+(k:Int)=((p+k:Nat):Int):=Z
 rw[he]at hw;refine⟨v',I,?_,?_,hr,?_⟩
 .rw[hw]; exact(h.set hk).drewN n
 .rw[hw]; exact((Ch.refl b w).setCell _ _).drewN n
 intro ad n' cap' hv';exact λe=>hne (by rw[<-e]; exact hoff ad n' cap' hv')
abbrev OM(v:À)(l:List UInt8)(i:Nat)(w:Á)(hv:bI w v l)(h:i<=l.length) :
  Ä prog 73 #[v,.i i] w λe w'=>∃b,e = .R (.tuple #[.q b 0,.i 0])∧Rd w' b v l i∧Ext w w'∧w.heap.size<=b:=by
 refine(aaw v l i w hv h).mono ?_;rintro e w' ⟨rfl,rfl⟩;refine⟨_,I,⟨?_,?_,?_,hv.below (aH _ _),agH hv (Ó _),h,by simp⟩,aH _ _,Ó _⟩
 .rw[World.cell?_alloc_at _ _ _ _ I]; rfl
 .rw[World.cell?_alloc_at _ _ _ _ I]; rfl
 rw[World.frozen?_alloc_at _ _ _ _ I]
open Go.RowKit En
variable{α:Type}
def OO(w:Á)(b:Nat)(v:À)(l:List UInt8)(p:Nat)(r:Except Nat (Nat×Nat))(e:Ending)(w':Á):Prop:=
 ∃q,Rd w' b v l q∧Ch b w w'∧(match r with
  | .ok (n,k)=>q=p+k∧e = .R (.tuple #[.int .u64 (n:Int),.i 0])
  | .error er=>e = .R (.tuple #[.int .u64 0,.i er]))
variable{b p k f acc:Nat}{v:À}{w':Á}
abbrev OQ(l:List UInt8)(b p:Nat)(v:À)(w:Á)(h:Rd w b v l p) :
  Ä prog 112 #[.q b 0] w λe w'=>e = .R (.i (l.length-p:Nat))∧Rd w' b v l p∧Ch b w w':=by
 refine(Sz v l b p w h.row h.c0 h.c1 h.hp).mono ?_;rintro e w' ⟨rfl,n,rfl⟩;exact⟨I,h.drewN n,(Ch.refl b w).drewN n⟩
abbrev Wy{w:Á}{l:List UInt8}{c:Nat}(hu:Hid (mO 9 (l.drop p)=comb k acc (mO f (l.drop (p+k)))))(hf:mO f (l.drop (p+k)) = .ok (c,1))
  (hr:Rd w' b v l (p+k+1)) (hc:Ch b w w') {x:Int} (hx:x=((acc+128^k*c:Nat):Int)):OO w b v l p (mO 9 (l.drop p)) (.R (.tuple #[.int .u64 x,.i 0])) w':=by
 refine⟨p+k+1,hr,hc,?_⟩;rw[hu.out,hf,hx];exact⟨Z,I⟩
abbrev Gu{w:Á}{l:List UInt8}{q er:Nat}(hu:Hid (mO 9 (l.drop p)=comb k acc (mO f (l.drop (p+k)))))(hf:mO f (l.drop (p+k)) = .error er)
  (hr:Rd w' b v l q) (hc:Ch b w w'):OO w b v l p (mO 9 (l.drop p)) (.R (.tuple #[.int .u64 0,.i er])) w':=by
 refine⟨q,hr,hc,?_⟩;rw[hu.out,hf];rfl
abbrev WA:∀c:Fin 256,bits .andNot .u8 (c.val:Int) 128=((c.val%128:Nat):Int):=by decide +kernel
abbrev SA(c:UInt8)(acc k:Nat)(h:acc<128^k)(hk:k<=9)(h9:k<9∨c.toNat<2) :
  bits BinOp.or IntKind.u64 (acc:Int) (IntKind.u64.wrap (IntKind.u64.wrap (bits BinOp.andNot IntKind.u8 (c.toNat:Int) 128)*2^(7*k)))=((acc+128^k*(c.toNat%128):Nat):Int):=by
 have h1:=WA ⟨c.toNat,c.toNat_lt⟩;simp only at h1;rw[h1];have e128:(128:Nat)^k=2^(7*k):=by rw[Nat.pow_mul]
 have hp:2^(7*k)<=2^63:=ĸ Z Z;have hb:(c.toNat%128)*2^(7*k)<18446744073709551616:=by
  rcases h9 with h9 | h9
  .have h2:2^(7*k)<=2^56:=ĸ Z Z;have h3:c.toNat%128<=127:=Z
   have:=Μ h3 h2;omega
  have h3:c.toNat%128<=1:=Z
  have:=Μ h3 hp;omega
 have w1:IntKind.u64.wrap ((c.toNat%128:Nat):Int)=((c.toNat%128:Nat):Int):=by rw[Ŏ]; omega
 rw[w1];have w2:((c.toNat%128:Nat):Int)*2^(7*k)=(((c.toNat%128)*2^(7*k):Nat):Int):=by push_cast; rfl
 rw[w2,Ŏ];have w3:(((c.toNat%128)*2^(7*k):Nat):Int)%18446744073709551616=(((c.toNat%128)*2^(7*k):Nat):Int):=Z
 rw[w3,u64_or_nat _ _ Z hb,Nat.or_comm,nat_join (7*k) _ _ (Nat.mul_mod_left _ _) Z,e128,Ě,ŧ]
abbrev Bc(l:List UInt8)(b p:Nat)(v:À)(w:Á)(h:Rd w b v l p) :
  Ä prog 75 #[.q b 0] w (OO w b v l p (mO 9 (l.drop p))):=by
 have hml:=h.row.len;unfold maxLen at hml;have H:=Â h;clear h;go_enter func75,ntmps75
 go_wp2_with fail
 go_loopw [4,5] (λn i wr=>∃k f acc:Nat,i = .i k∧k+f=9∧n = .int .u64 acc∧acc<128^k∧Rd wr b v l (p+k)∧Hid (mO 9 (l.drop p)=comb k acc (mO f (l.drop (p+k))))∧Ch b w wr) (λ_ i _=>10-(intOf i).toNat)
 case atStart=>exact⟨0,9,0,I,I,I,Z,H.out,(aay _).symm,Ch.refl _ _⟩
 case round =>
  obtain⟨k,f,acc,rfl,hkf,rfl,hacc,hrd,HU,hch⟩:=hrel;have HC:=Â (OQ l b (p+k) v wr hrd);have hpk:=hrd.hp;have HR:=Â hrd;have HA:=Â hacc;clear hrd hacc;go_wp2_with fail
  refine HC.out.mono ?_;rintro e w' ⟨rfl,adW,am8⟩;clear HC HR;by_cases hlt:p+k<l.length
  .have hl0:(0:Int)<((l.length-(p+k):Nat):Int):=Z
   have HN:=Â (next_any l b (p+k) 1 v w' adW Z Z);have HR:=Â adW;clear adW;go_wp2_with fail
   refine HN.out.mono ?_;rintro e w3 ⟨v',rfl,am9,apL,hrow,hoff⟩;clear HN HR;have hone:(l.drop (p+k)).take 1=[l[p+k]]:=by rw[Ķ hlt]; rfl
   rw[hone]at hrow;obtain⟨c,hcc⟩:∃c,l[p+k]=c:=⟨_,I⟩;rw[hcc]at hrow;obtain⟨bb,o,cap,hv,hb,hl,hm,hc⟩:=dH hrow I Nat.one_pos;have hc0:=hc 0 Nat.one_pos;simp only[Λ,azb]at hc0;rw[hv];have HD:=Â (Ķ hlt);rw[hcc]at HD;clear hc hv hrow hone hcc;have HR:=Â am9;have OT:=Ch.trans hch (Ch.trans am8 apL);clear am9;have hc8:=c.toNat_lt;have hk9:k<=9:=Z
   cases f with
   | zero =>
    obtain rfl:k=9:=by omega
    rcases ay3 c.toNat 1 with h1 | h1 | h1
    .have hc1:((c.toNat:Int)==0)=true:=by rw[Û]; omega
     have hu:Hid (mO 0 (l.drop (p+9)) = .error 3):=by rw[HD.out]; simp only[mO]; rw[É Z]; rfl
     go_wp2_with fail
     go_ret2
     exact Gu HU hu.out HR.out OT
    .have hc1:((c.toNat:Int)==0)=false:=by rw[ä]; omega
     have hu:Hid (mO 0 (l.drop (p+9)) = .ok (c.toNat,1)):=by rw[HD.out]; simp only[mO]; rw[Ï h1,h1]; rfl
     have HS:=Â (SA c acc 9 HA.out Z (.inr Z));have h1':(c.toNat:Int)<=1:=Z
     have h2':(c.toNat:Int)<128:=Z
     have H1:=Â h1;clear h1;go_wp2_with fail
     go_ret2
     refine Wy HU hu.out HR.out OT (HS.out.trans ?_);have:=H1.out; rw[this]
    have hu:Hid (mO 0 (l.drop (p+9)) = .error 3):=by rw[HD.out]; simp only[mO]; rw[É Z]; rfl
    go_wp2_with fail
    go_ret2
    exact Gu HU hu.out HR.out OT
   | succ f =>
    have hk9:((k:Int)==9)=false:=by rw[ä]; omega
    have HS:=Â (SA c acc k HA.out Z (.inl Z));by_cases hlo:c.toNat<128
    .have apM:(c.toNat:Int)<128:=Z
     have ana:Hid (c.toNat%128=c.toNat):=ϗ hlo;rcases ę c.toNat with h0 | h0
     .have h0':((c.toNat:Int)==0)=true:=by rw[Û]; omega
      rcases ę k with hk | hk
      .have hu:Hid (mO (f+1) (l.drop (p+k)) = .ok (c.toNat,1)):=by rw[HD.out]; simp only[mO]; rw[Ï hlo,É Z]; rfl
       have hkp:¬(0:Int)<(k:Int):=Z
       have HK:=Â hk;have H0:=Â h0;clear hk h0;go_wp2_with fail
       go_ret2
       exact Wy HU hu.out HR.out OT (HS.out.trans (by rw[ana.out]))
      have hu:Hid (mO (f+1) (l.drop (p+k)) = .error 3):=by rw[HD.out]; simp only[mO]; rw[Ï hlo,Ï ⟨h0,Z⟩]; rfl
      have hkp:(0:Int)<(k:Int):=Z
      have H0:=Â h0;clear h0;go_wp2_with fail
      go_ret2
      exact Gu HU hu.out HR.out OT
     have h0':((c.toNat:Int)==0)=false:=by rw[ä]; omega
     have hu:Hid (mO (f+1) (l.drop (p+k)) = .ok (c.toNat,1)):=by rw[HD.out]; simp only[mO]; rw[Ï hlo,É Z]; rfl
     go_wp2_with fail
     go_ret2
     exact Wy HU hu.out HR.out OT (HS.out.trans (by rw[ana.out]))
    have apM:¬(c.toNat:Int)<128:=Z
    have HL:=Â hlo;clear hlo;go_wp2_with fail
    go_roundw
    case rel =>
     refine⟨k+1,f,acc+128^k*(c.toNat%128),by go_num,Z,by rw[HS.out],?_,HR.out,?_,OT⟩
     .have:=HA.out;rw[Ğ];have h2:c.toNat%128<=127:=Z
      have:=ĝ (128^k) h2;omega
     show _=_;rw[HU.out,HD.out,adX f c _ HL.out,aaz]; rfl
    case measure=>simp[intOf]; omega
  have hl0:¬(0:Int)<((l.length-(p+k):Nat):Int):=Z
  have hu:Hid (mO f (l.drop (p+k)) = .error 4):=by rw[Ń Z,ahf]; rfl
  have OT:=Ch.trans hch am8;have HR:=Â adW;clear adW;go_wp2_with fail
  go_ret2
  exact Gu HU hu.out HR.out OT
open Go.RowKit En
variable{α:Type}
abbrev ahg{l:List UInt8}{i:Int}(h:i<0∨(l.length:Int)<i):yO l i=(0,0,2):=by unfold yO; rw[Ï h]
abbrev akq{l:List UInt8}{i n k:Nat}(h:i<=l.length)(hu:mO 9 (l.drop i) = .ok (n,k)):yO l i=(n,i+k,0):=by
 unfold yO; rw[É Z,ş,hu]
abbrev ahh{l:List UInt8}{i e:Nat}(h:i<=l.length)(hu:mO 9 (l.drop i) = .error e):yO l i=(0,0,e):=by
 unfold yO; rw[É Z,ş,hu]
abbrev YM{l:List UInt8}{e:Nat}(hu:mO 9 l = .error e):((e:Int) != 0)=true:=by
 rw[bne_iff_ne]; rcases Gv _ _ _ hu with h | h<;>omega
abbrev anb (r:Nat×Nat×Nat):À := .tuple #[.int .u64 (r.1:Int),.i r.2.1,.i r.2.2]
abbrev xJ(v:À)(l:List UInt8)(i:Int)(w:Á)(hv:bI w v l) :
  Ä prog 47 #[v,.i i] w (RF w (anb (yO l i))):=by
 by_cases hbad:i<0∨(l.length:Int)<i
 .rw[ahg hbad];have HF:=Â (I7 v l i w hv hbad);clear hbad;go_enter func47,ntmps47
  go_wp2_with fail
  refine HF.out.mono ?_;rintro e w' ⟨rfl,rfl⟩;go_wp2_with fail
  go_ret3
  exact⟨I,ù _ _⟩
 obtain⟨p,rfl⟩:∃p:Nat,i=p:=⟨i.toNat,Z⟩;have hp:p<=l.length:=Z
 have HF:=Â (OM v l p w hv hp);clear hbad;have hl:=hv.len;unfold maxLen at hl;cases hu:mO 9 (l.drop p)with
 | error er =>
  rw[ahh hp hu];have he:=YM hu;have HU:=Â hu;clear hu;go_enter func47,ntmps47
  go_wp2_with fail
  refine HF.out.mono ?_;rintro e w1 ⟨b,rfl,hrd,hb1,hb⟩;have HN:=Â (Bc l b p v w1 hrd);rw[HU.out]at HN;clear hrd HF;go_wp2_with fail
  refine HN.out.mono ?_;rintro e w2 ⟨q,hrd,hch,rfl⟩;have HR:=Â hrd;have HB:=Â (Ϙ hb1 (hch.below hb hb1.size));clear hrd hch hb1 HN;go_wp2_with fail
  go_ret3
  exact⟨I,HB.out⟩
 | ok r =>
  obtain⟨n,k⟩:=r;rw[akq hp hu];have HU:=Â hu;clear hu;go_enter func47,ntmps47
  go_wp2_with fail
  refine HF.out.mono ?_;rintro e w1 ⟨b,rfl,hrd,hb1,hb⟩;have HN:=Â (Bc l b p v w1 hrd);rw[HU.out]at HN;clear hrd HF;go_wp2_with fail
  refine HN.out.mono ?_;rintro e w2 ⟨q,hrd,hch,hq,rfl⟩;have h1:=hrd.c1;have HB:=Â (Ϙ hb1 (hch.below hb hb1.size));have HQ:=Â hq;clear hrd hch hb1 HN hq;go_wp2_with fail
  go_quiet (fail)
  go_wp2_with fail
  go_ret3
  rw[HQ.out];exact⟨I,below_drewN HB.out _⟩
open Go.RowKit En
variable{α:Type}
open Go.RowKit En
variable{α:Type}
abbrev WB(l:List UInt8)(i:Int):(yO l i).1<18446744073709551616:=by
 unfold yO;split
 .simp
 split
 .rename_i h; exact(Gw h).1
 simp
abbrev apN (r:Int×Nat×Nat):À := .tuple #[.i r.1,.i r.2.1,.i r.2.2]
abbrev KZ(k:IntKind)(x y:Int):bits .xor k x y=bits .xor k y x:=by
 show k.wrap ((BitVec.ofInt k.bits x^^^BitVec.ofInt k.bits y).toNat:Int)=k.wrap ((BitVec.ofInt k.bits y^^^BitVec.ofInt k.bits x).toNat:Int);rw[BitVec.xor_comm]
abbrev adY(a:Nat)(ha:a<9223372036854775808):bits .xor .i64 (a:Int) 0=(a:Int):=by
 show IntKind.i64.wrap ((BitVec.ofInt 64 (a:Int)^^^BitVec.ofInt 64 0).toNat:Int)=_;have h1:BitVec.ofInt 64 0=0#64:=by decide
 rw[h1,BitVec.xor_zero,ofInt_u64 a Z];simp[IntKind.wrap,IntKind.bits,IntKind.signed];omega
abbrev WC(n:Nat)(h:n<18446744073709551616):bits BinOp.xor IntKind.i64 ((n:Int)/2) (wrap64 (-wrap64 (bits BinOp.and IntKind.u64 (n:Int) 1)))=EU n:=by
 rw[Lib.u64_and1 _ Z Z];unfold EU;have e:(n:Int)/2=((n/2:Nat):Int):=I;rcases Nat.mod_two_eq_zero_or_one n with h2 | h2
 .have e1:(n:Int)%2=0:=Z
  have e2:wrap64 (-wrap64 0)=0:=by simp[wrap64]
  rw[e1,e2,e,adY _ Z,É Z]
 have e1:(n:Int)%2=1:=Z
 have e2:wrap64 (-wrap64 1) = -1:=by simp[wrap64]
 rw[e1,e2,e,KZ,i64_not _ Z,Ï h2]
abbrev WE(v:À)(l:List UInt8)(i:Int)(w:Á)(hv:bI w v l) :
  Ä prog 115 #[v,.i i] w (RF w (apN (ν l i))):=by
 have HC:=Â (xJ v l i w hv);have hn:=WB l i;unfold ν;generalize yO l i=r at *;obtain⟨n,next,er⟩:=r;simp only at hn;clear hv;go_enter func115,ntmps115
 go_wp2_with fail
 refine HC.out.mono ?_;rintro e w' ⟨rfl,hb⟩;go_wp2_with fail
 go_ret3
 exact⟨by rw[WC _ hn]; rfl,hb⟩
end
section
open Go.RowKit
variable{α:Type}{K:Nat}
variable{p b c cap:Nat}{bad:Bool}
abbrev adZ{w0 w:Á}{bl:List (Nat×List À)}(R:Sx.Rw w0 w bl []):Sx.Rw w0 w bl [⟨5,1,.sn,0,[]⟩]:=
 ⟨λr hr=>by obtain rfl:=Ā.1 hr; exact⟨I,.inl ⟨I,I⟩⟩,R.lt,R.apart⟩
abbrev mD (w:Á)(v:À)(l:List UInt8):Prop:=aI 1 (λn:UInt8=>[iO n]) w v l
def Β(l:List UInt8)(p:Nat)(bad:Bool)(n:Nat):Nat:=if (bad||decide (l.length<p+n))=true then p else p+n
def I8(l:List UInt8)(p:Nat)(bad:Bool)(n:Nat):Bool:=bad||decide (l.length<p+n)
def YN(l:List UInt8)(p:Nat)(bad:Bool)(n:Nat):List UInt8:=if (bad||decide (l.length<p+n))=true then List.replicate n 0 else (l.drop p).take n
abbrev Ed{l:List UInt8}{n:Nat}(h:I8 l p bad n=true):Β l p bad n=p∧YN l p bad n=List.replicate n 0:=by
 unfold I8 at h; unfold Β YN; rw[Ï h,Ï h]; exact⟨I,I⟩
abbrev I9{l:List UInt8}{n:Nat}(h:I8 l p bad n=false):bad=false∧p+n<=l.length∧Β l p bad n=p+n∧YN l p bad n=(l.drop p).take n:=by
 unfold I8 at h; unfold Β YN; rw[h];simp only[Ĕ,ð]at h;exact⟨h.1,Z,by simp,by simp⟩
abbrev YO{l:List UInt8}{p n:Nat}{bad:Bool}:(YN l p bad n).length=n:=by
 cases h:I8 l p bad n
 .obtain⟨-,h1,-,h2⟩:=I9 h; rw[h2]; simp; omega
 rw[(Ed h).2]; simp
abbrev ad1{l:List UInt8}{n:Nat}(hp:p<=l.length):Β l p bad n<=l.length:=by
 cases h:I8 l p bad n
 .obtain⟨-,h1,h2,-⟩:=I9 h; omega
 rw[(Ed h).1]; exact hp
abbrev ahi{l:List UInt8}{p:Nat}{bad:Bool}:∃q:bQ,YN l p bad 4=Px.pb q:=by
 have h:=@YO l p 4 bad;match h1:YN l p bad 4,h with
 | [a,b,c,d],_=>exact⟨⟨a,b,c,d⟩,I⟩
abbrev cO{b2:Nat}{w u u':Á}(h:Ch b w u)(c:Ch b2 u u')(hb:b2=b∨w.heap.size<=b2:=by first | exact .inl I | exact .inr Z):Ch b w u':=by
 rcases hb with rfl | hb
 .exact h.trans c
 exact⟨c.os.trans h.os,c.tape.trans h.tape,c.output.trans h.output,ï h.size c.size,λi hi hn=>(c.block i (ā hi h.size) (λe=>by simp only[Ò]at e; omega)).trans (h.block i hi hn)⟩
abbrev SB{w:Á}{a:Option Addr}{l:List UInt8}{n:Nat}(h:mD w (.s a l.length c) l)(hp:p+n<=l.length)(hn:0<n):l.length<=c∧∃bk o,a=some ⟨bk,o,none⟩∧bk<w.heap.size∧w.rangeAt bk (o+p) (((l.drop p).take n).map iO):=by
 obtain⟨a',cap,hv,hm,hh⟩:=h;simp only[Ĉ,true_and]at hv;obtain⟨rfl,rfl⟩:=hv;rcases hh with ⟨rfl,-⟩ | ⟨bk,o,rfl,hb,hl,hc⟩
 .simp only[Ϫ]at hp; omega
 refine⟨hl,bk,o,I,hb,λj v hj=>?_⟩;have hjn:j<n:=by
  have:=(List.getElem?_eq_some_iff.1 hj).1;simp only[Ģ,Ľ,Ŵ]at this; omega
 have h1:=hc (p+j) Z 0 Z;rw[List.getElem?_map,List.getElem?_take_of_lt hjn,List.getElem?_drop,List.getElem?_eq_getElem Z]at hj;obtain rfl:=Ü hj;rw[show o+p+j=o+(p+j)*1+0 by omega,h1]; rfl
abbrev ad2{w0:Á}{a:Option Addr}{l:List UInt8}(h:mD w0 (.s a l.length c) l)(hp:p+4<=l.length) :
  ∃bk o,(.s (Sx.sO a p c 1) (p+4-p) (c-p):À) = .s (some ⟨bk,o,none⟩) 4 (c-p)∧bk<w0.heap.size∧w0.rangeAt bk o (((l.drop p).take 4).map iO):=by
 obtain⟨hl,bk,o,rfl,hb,hr⟩:=SB h hp Z;refine⟨bk,o+p*1,?_,hb,by rw[Nat.mul_one]; exact hr⟩;unfold Sx.sO;rw[É Z,azg]; simp[Addr.add]
abbrev aaA{w0 w:Á}{a:Option Addr}{pk:Bool}{l:List UInt8}(hE:Ext w0 w)(hx:Bx w b #[.s a l.length cap,.i p,.b bad,.b pk])(hb:w0.heap.size<=b)(h:mD w0 (.s a l.length cap) l)(hp:p<=l.length) :
  Ä prog 116 #[.q b 0,.i 4] w λe w'=>∃bk o c,e = .R (.s (some ⟨bk,o,none⟩) 4 c)∧w'.rangeAt bk o ((YN l p bad 4).map iO)∧bk<w'.heap.size∧(bk<w0.heap.size∨w.heap.size<=bk)∧Ext w0 w'∧Ch b w w'∧Bx w' b #[.s a l.length cap,.i (Β l p bad 4:Nat),.b (I8 l p bad 4),.b pk]:=by
 have hml:l.length<=9223372036854775807:=h.len;refine Sx.YP func116 ntmps116 hE hx hb λS=>Ą S 22 [.M 0 2,.M 0 0,.M 0 1,.re 24 (.i (IntKind.i64.wrap ((l.length:Int)-(p:Int)))) (.i (l.length-p:Nat))] [] [(26,.b ((bad||false)||(decide (((l.length-p:Nat):Int)<4))))] trivial (hk:=⟨(Sx.xK Z Z),G⟩) λu E4 S=>È S ((bad||false)||(decide (((l.length-p:Nat):Int)<4))) (λhc5 S=>?_) (λhc5 S=>?_)
 .refine Sx.Wx S 0 (off:=2) (v := .b true) I (λu C7 S=>?_);have Fs8:=(cO ((Ch.trans (Ch.refl b w) (Ch.bY E4))) C7);have hws:=(Fs8).size;refine Ú S [.u 0,.u 0,.u 0,.u 0] (λu b10 BH BQ S=>?_);have hbad:I8 l p bad 4=true:=by unfold I8; cases bad; (simp at hc5 |-; omega); rfl
  refine Æ S (.s (some ⟨b10,0,none⟩) 4 4) (λS=>?_);exact⟨_,_,_,I,by rw[(Ed hbad).2]; exact(S.bx 0).range 0 4 I,(S.bx 0).1,.inr (by have:=BQ; omega),S.E,((Ch.trans Fs8 (Ch.bY BH))),by rw[(Ed hbad).1,hbad]; exact S.bx 1⟩
 have hok:I8 l p bad 4=false:=by unfold I8; cases bad; (simp at hc5 |-; omega); simp at hc5
 have hlen:=(I9 hok).2.1;have hcap:=Sx.jo h;refine Å S 8 [] [.M 0 1,.re 39 (.i (IntKind.i64.wrap ((p:Int)+4))) (.i (p+4:Nat))] (hk:=⟨(Sx.xK Z Z),G⟩) λS=>Sx.Wx S 0 (off:=1) (v := .i (p+4:Nat)) I (λu C14 S=>?_);have sK:=(cO ((Ch.trans (Ch.refl b w) (Ch.bY E4))) C14);refine Ą S 15 [.M 0 0,.M 0 1,.re 51 (.i (IntKind.i64.wrap (((p+4:Nat):Int)-4))) (.i p),.M 0 1,.slc p (p+4) cap cap] [] [(56,.s (Sx.sO a p cap 1) (p+4-p) (cap-p))] trivial (λu AA S=>?_) (hk:=⟨(Sx.xK Z Z),Z,G⟩);obtain⟨bk,o,hv,hk1,hr⟩:=ad2 h hlen;have ho:=I9 hok;refine Æ S (.s (Sx.sO a p cap 1) (p+4-p) (cap-p)) (λS=>?_);exact⟨bk,o,cap-p,Ñ Ending.returned hv,by rw[ho.2.2.2]; exact Vp.qG hr hk1 S.E,ā hk1 S.E.size,.inl hk1,S.E,((Ch.trans sK (Ch.bY AA))),by rw[ho.2.2.1,hok]; have:=S.bx 0; rw[ho.1]at this; exact this⟩
abbrev SC{w0 w:Á}{a:Option Addr}{pk:Bool}{l:List UInt8}(hE:Ext w0 w)(hx:Bx w b #[.s a l.length cap,.i p,.b bad,.b pk])(hb:w0.heap.size<=b)(h:mD w0 (.s a l.length cap) l)(hp:p<=l.length) :
  Ä prog 78 #[.q b 0] w λe w'=>∃q:bQ,e = .R (.agg q.cells.toArray)∧Px.pb q=YN l p bad 4∧Ext w0 w'∧Ch b w w'∧Bx w' b #[.s a l.length cap,.i (Β l p bad 4:Nat),.b (I8 l p bad 4),.b pk]:=by
 skip;refine Sx.YP func78 ntmps78 hE hx hb λS=>Ú S [.u 0,.u 0,.u 0,.u 0] (λu b2 E3 hb4 S=>?_);have hz0:=S.bx 0;have hz1:=S.bx 1;have hz2:=S.old 0;refine Sx.Ee S 1 [.s a l.length cap,.i (Β l p bad 4:Nat),.b (I8 l p bad 4),.b pk] rfl (aaA S.E (S.bx 1) (S.old 1) h hp) ?_;rintro e u ⟨bk,ok,ck,rfl,hr,hlt,hor,hE6,hC6,hX6⟩;refine⟨_,I,hE6,hC6,hX6,λS=>?_⟩;have Fs7:=(cO ((Ch.trans (Ch.refl b w) (Ch.bY E3))) hC6);obtain⟨q,hq⟩:=@ahi l p bad;rw[hq]at hr;have S:=S.view (cs:=q.cells) hlt hr (λp hp=>by rcases ç.1 hp with rfl | hp; (have:=hz0.1; rcases hor with h | h<;>(intro e; simp only at e; omega)); obtain rfl:=Ā.1 hp; (have:=hz1.1; rcases hor with h | h<;>(intro e; simp only at e; omega)));refine Ą S 13 [.idx 0 4,.M 2 0,.idx 1 4,.M 2 1,.idx 2 4,.M 2 2,.idx 3 4,.M 2 3] [] [(18,.agg q.cells.toArray)] trivial (hk:=⟨O,O,O,O,G⟩) λu E9 S=>è S 0 (off:=0) (cs:=q.cells) I (λu C10 S=>?_);have FB:=(cO ((Ch.trans Fs7 (Ch.bY E9))) C10);refine ă S 0 I (v := .agg q.cells.toArray) (λS=>?_);exact⟨q,I,hq.symm,S.E,FB,S.bx 1⟩
namespace Px
abbrev WG{l:List UInt8}{p:Nat}(hp:p<=l.length):En.yO l (p:Int)=match En.mO 9 (l.drop p)with | .ok (n,k)=>(n,p+k,0) | .error e=>(0,0,e):=by
 unfold En.yO;rw[É Z]; rfl
abbrev ok1{b:List UInt8}{p k x:Nat}(hp:p<=b.length)(hu:En.yO b (p:Int)=(k,x,0)):∃c,En.mO 9 (b.drop p) = .ok (k,c)∧x=p+c∧x<=b.length∧1<=c:=by
 rw[WG hp]at hu;cases hs:En.mO 9 (b.drop p)with
 | error e=>rw[hs]at hu; simp only[Ô]at hu; have:=En.Gv 9 _ _ hs; omega
 | ok r =>
  obtain⟨k',c⟩:=r;rw[hs]at hu;simp only[Ô]at hu;obtain⟨-,h1,h2,-⟩:=En.Gw hs;simp only[Ŵ]at h2;exact⟨c,by rw[hu.1],Z,Z,h1⟩
end Px
end
end Go.Proofs.Pv
section
namespace Go.Sx
open Go.Proofs.Pv Go.RowKit Go.Rel
variable{P:Program}{ops:Array Oper}{Q:Exit->Act->Á->Prop}{w0 w:Á}{a:Act}{os:List Oper}{n:Nat}{l:List (Nat×À)}{bl:List (Nat×List À)}{vs:List eU}
def ad3(os:List Oper):Option (á×á×Nat×Nat):=match os with
 | _::o::_=>(match o.guard,o.dst,o.op with
  | none,some d,.convert s t (.tmp x)=>some (s,t,x,d)
  | _,_,_=>none)
 | _=>none
abbrev WH{w:Á}{A:List À}{e:á}{m:Nat}{fr:Nat×Nat}(hA:A.length=m)(hm:m<=maxLen)(h1:A.all (·.oneCell')=true):dN (w.alloc (.cells A.toArray e fr)) 1 (.s (some ⟨w.heap.size,0,none⟩) m m) m A:=by
 refine⟨Z,λu hu=>by rw[ø]at h1; exact h1 u hu,.inr ⟨w.heap.size,0,m,I,by simp,Ó _,hm,λj u hj=>?_⟩⟩;have:(w.alloc (.cells A.toArray e fr)).heap[w.heap.size]?=some (.cells A.toArray e fr):=by
  show(w.heap.push (.cells A.toArray e fr))[w.heap.size]?=_;simp
 rw[Ĳ];unfold World.cell?;rw[this];simpa using hj
abbrev lit(S:St w0 a w n l bl vs)(d1 d2 m:Nat)(A:List À)(t e:á)(ht:P.underlying t=some (.slice e))(he:P.underlying e=some (.int .u8))
  (next:∀{a' w' b},Ext w w'->dN w' 1 (.s (some ⟨b,0,none⟩) m m) m A->St w0 a' w' n ((d2,.s (some ⟨b,0,none⟩) m m)::l) bl vs->Ð P ops Q (os.drop 2) a' w')
  (hl:(l.lookup d1).isNone=true:=by kernel_rfl) (h12:(d1==d2)=false:=by rfl)
  (hx:∀r,wS P r os l=some (A,e,.s (some ⟨r,0,none⟩) m m,some d1):=by intro r; kernel_rfl) (h2:ad3 os=some (t,t,d1,d2):=by kernel_rfl) (hA:A.length=m:=by rfl) (hm:m<=maxLen:=by decide) (h1:A.all (·.oneCell')=true:=by kernel_rfl)
  (hd1:uN n (some d1)=true:=by rfl) (hd2:uN n (some d2)=true:=by rfl):Ð P ops Q os a w:=by
 have hx:=hx w.heap.size;cases os with
 | nil=>cases h2
 | cons o os =>
 cases os with
 | nil=>cases h2
 | cons o2 os =>
  unfold wS at hx;unfold ad3 at h2;simp only at hx h2;split at hx
  .rename_i A' ty k' hg hav hev;split at hx
   .rename_i v hv;simp only[Ò,Ô]at hx;obtain⟨rfl,rfl,rfl,hdst⟩:=hx;simp only[Ĕ]at hav;have hc:Ù a.eval o=Ù (zi (lift l) []) o:=by
     refine execOp_congr o (λcs b e1=>by rw[e1]at hav; cases hav.1) λx hx=>?_;have h2:=hav.2;simp only[Ő,ϑ]at h2;obtain⟨v,hv⟩:=į.1 (h2 x hx);rw[gK (Std.act a) (gG (bU S.s) o x hx) (p:=[]) I hv];simp[zi,hv]
    have hv':ev0 P k'=some (.value (.s (some ⟨w.heap.size,0,none⟩) m m)):=by
     unfold iT at hv;split at hv
     .rename_i h; obtain h2:=Ü hv; rw[h]; simp only[FH.val.injEq]at h2; rw[h2]
     .cases hv
     cases hv
    have hrun:(Ù a.eval o).run P w = .ok (.value (.s (some ⟨w.heap.size,0,none⟩) m m)) (w.alloc (.cells A'.toArray ty)):=by rw[hc,nD hev,nY hv']
    split at h2
    .rename_i d s' t' x hg2 anc hop2;simp only[Ò,Ô]at h2;obtain⟨rfl,rfl,rfl,rfl⟩:=h2;unfold Ð;rw[Ï (by simp[Region.wanted,hg])];left;unfold Oper.wp;rw[hrun];simp only[Oper.upon];rw[hdst];have hs1:=uf (d:=some x) S.s hd1 (.s (some ⟨w.heap.size,0,none⟩) m m);have ex:(a.put (some x) (.s (some ⟨w.heap.size,0,none⟩) m m)).eval (.tmp x) = .s (some ⟨w.heap.size,0,none⟩) m m:=hs1.has x _ (by simp[zo]);have hrun2:(Ù (a.put (some x) (.s (some ⟨w.heap.size,0,none⟩) m m)).eval o2).run P (w.alloc (.cells A'.toArray ty)) = .ok (.value (.s (some ⟨w.heap.size,0,none⟩) m m)) (w.alloc (.cells A'.toArray ty (A'.toArray.size,A'.toArray.size+1))):=by
      unfold Ù;rw[hop2];simp only[ex];rw[ķ,Go.Lib.run_convert_bytes_const w _ ty A'.toArray m m ht he];rfl
     unfold Ð;rw[Ï (by simp[Region.wanted,hg2])];left;unfold Oper.wp;rw[hrun2];simp only[Oper.upon];rw[anc];have hs2:=uf (d:=some d) hs1 hd2 (.s (some ⟨w.heap.size,0,none⟩) m m);have hE:Ext w (w.alloc (.cells A'.toArray ty (A'.toArray.size,A'.toArray.size+1))):=aH _ _;refine next hE (WH hA hm h1) ((S.grow hE).act ⟨hs2.size,hs2.defers,λi v hi=>hs2.has i v ?_⟩);simp only[zo,ġ]at hi |-;by_cases hid:i=d
     .subst hid; simpa using hi
     have e1:(i==d)=false:=by simpa using hid
     simp only[e1]at hi |-;by_cases hix:i=x
     .subst hix;rw[Option.isNone_iff_eq_none.1 hl]at hi; cases hi
     have e2:(i==x)=false:=by simpa using hix
     simpa only[e2]using hi
    cases h2
   cases hx
  cases hx
def ai3(os:List Oper)(l:List (Nat×À)):Option (á×á×ByteArray×Nat):=match os with
 | o::_=>(match o.guard,o.dst,o.op with
  | none,some d,.convert s t x=>(match rd (lift l) [] x with
   | some (.string z)=>some (s,t,z,d)
   | _=>none)
  | _,_,_=>none)
 | _=>none
abbrev bytesOf(S:St w0 a w n l bl vs)(d:Nat)(bs:List UInt8){src dst e:á}(hs:P.underlying src=some .string)(hd:P.underlying dst=some (.slice e))(he:P.underlying e=some (.int .u8))(hn:bs.length<=maxLen)
  (next:∀{a' w' b cap},Ext w w'->bI w' (.s (some ⟨b,0,none⟩) bs.length cap) bs->St w0 a' w' n ((d,.s (some ⟨b,0,none⟩) bs.length cap)::l) bl vs->Ð P ops Q (os.drop 1) a' w')
  (hx:ai3 os l=some (src,dst,⟨bs.toArray⟩,d):=by kernel_rfl) (hdd:uN n (some d)=true:=by rfl):Ð P ops Q os a w:=by
 cases os with
 | nil=>cases hx
 | cons o os =>
  unfold ai3 at hx;simp only at hx;split at hx
  .rename_i d' s' t' x hg hdst hop;split at hx
   .rename_i z hxx;simp only[Ò,Ô]at hx;obtain⟨rfl,rfl,rfl,rfl⟩:=hx;have hst:=gG (bU S.s) o;have ex:a.eval x = .string ⟨bs.toArray⟩:=gK (Std.act a) (hst x (by rw[hop]; simp[Op.operands])) (p:=[]) I hxx;have hsz:(⟨bs.toArray⟩:ByteArray).size=bs.length:=by simp[ByteArray.size]
    have hr:=Go.run_bytes_of_string (P:=P) w s' t' e ⟨bs.toArray⟩ hs hd he;rw[hsz]at hr;have hE:Ext w (w.drew.alloc (.cells (Go.bytesRow ⟨bs.toArray⟩ (grownCap w bs.length 0 e)) e ((Go.bytesRow ⟨bs.toArray⟩ (grownCap w bs.length 0 e)).size,(Go.bytesRow ⟨bs.toArray⟩ (grownCap w bs.length 0 e)).size+1))):=Ã (below_drewN (ù _ _) 1) (aH _ _);refine ane S d' _ I hg hdst (by unfold Ù; rw[hop]; simp only[ex]; rw[ķ,hr]; rfl) hE (λS=>next hE ⟨_,_,I,grownCap_le_maxLen _ _ _ _ hn,.inr ⟨_,0,I,by show w.heap.size<(w.heap.push _).size; rw[Array.size_push]; omega,grownCap_ge _ _ _ _,λi hi=>?_⟩⟩ S) hdd;generalize grownCap w bs.length 0 e=cap;have:∀(A:Array À) (fr:Nat×Nat),(w.drew.alloc (.cells A e fr)).heap[w.heap.size]?=some (.cells A e fr):=λA fr=>by
     show(w.heap.push (.cells A e fr))[w.heap.size]?=_;simp
    rw[Ĳ];unfold World.cell?;rw[this];simp only[Go.bytesRow,ayU];rw[Array.getElem?_append_left (by simpa using hi)];simp[hi,iO]
   cases hx
  cases hx
end Go.Sx
namespace gI
def one(s:UInt32):UInt32:=if s&&&1=1 then (s>>>1)^^^0xedb88320 else s>>>1
def many:Nat->UInt32->UInt32
 | 0,s=>s
 | n+1,s=>one (many n s)
def byte(s:UInt32)(c:UInt8):UInt32:=many 8 (s^^^c.toUInt32)
def reg(s:UInt32)(l:List UInt8):UInt32:=l.foldl byte s
def update(s:UInt32)(l:List UInt8):UInt32:=(reg (s^^^0xffffffff) l)^^^0xffffffff
def crc(ls:List (List UInt8)):UInt32:=ls.foldl update 0
def le4(s:UInt32):List UInt8:=[s.toUInt8,(s>>>8).toUInt8,(s>>>16).toUInt8,(s>>>24).toUInt8]
def app(b:List UInt8):List UInt8:=b++le4 (update 0 b)
end gI
namespace Go.Proofs.Pv
open Go.RowKit
variable{α:Type}
abbrev ad4(s:UInt32)(l:List UInt8)(c:UInt8):gI.reg s (l++[c])=gI.byte (gI.reg s l) c:=by simp[gI.reg]
abbrev ad5(s:UInt32)(l:List UInt8)(k:Nat)(h:k<l.length):gI.reg s (l.take (k+1))=gI.byte (gI.reg s (l.take k)) l[k]:=by
 rw[take_snoc l k h,ad4]
abbrev ahj(x:UInt32)(h:(bits .and .u32 (x.toNat:Int) 1==1)=true):bits .xor .u32 ((x.toNat:Int)/(2:Int)) 3988292384=((gI.one x).toNat:Int):=by
 rw[aco,amP];rw[aiW]at h;have h':x&&&1=1:=by
  apply ř.1;simp only[Û]at h;have:=h; simp only[UInt32.reduceToNat]; omega
 simp[gI.one,h']
abbrev akr(x:UInt32)(h:(bits .and .u32 (x.toNat:Int) 1==1)=false):((x.toNat:Int)/(2:Int))=((gI.one x).toNat:Int):=by
 rw[aco];rw[aiW]at h;have h':¬x&&&1=1:=by
  intro e; rw[e]at h; simp at h
 simp[gI.one,h']
abbrev SE(s:UInt32)(v:À)(l:List UInt8)(w:Á)(hv:bI w v l) :
  Ä prog 97 #[aU s,v] w λe w'=>e = .R (aU (gI.update s l))∧w=w':=by
 obtain⟨a,cap,rfl,hm,ha⟩:=hv;have hl:=rM hm ha;have HA:=Â ha;clear ha;go_enter func97,ntmps97
 go_wp2
 go_loop [0,12] (λs1 i=>∃k:Nat,k<=l.length∧i = .i k∧s1=aU (gI.reg (s^^^0xffffffff) (l.take k))) (λ_ i=>l.length-(intOf i).toNat)
 case atStart=>exact⟨0,Õ _,I,by rw[aiV,acr]; rfl⟩
 case round =>
  obtain⟨k,hk,rfl,rfl⟩:=hrel;by_cases hlt:k<l.length
  .rcases HA.out with ⟨rfl,_⟩ | ⟨b,o,rfl,hb,hlc,hc⟩
   .simp at hlt
   have hck:=hc k hlt;go_wp2
   go_loop [0,20] (λs1 i=>∃j:Nat,j<=8∧i = .i j∧s1=aU (gI.many j ((gI.reg (s^^^0xffffffff) (l.take k))^^^l[k].toUInt32))) (λ_ i=>8-(intOf i).toNat)
   case atStart=>exact⟨0,Õ _,I,by rw[ajA,ajz]; rfl⟩
   case round =>
    obtain⟨j,hj,rfl,rfl⟩:=hrel;by_cases hlt:j<8
    .have E:Hid (gI.many (j+1) ((gI.reg (s^^^0xffffffff) (l.take k))^^^l[k].toUInt32)=gI.one (gI.many j ((gI.reg (s^^^0xffffffff) (l.take k))^^^l[k].toUInt32))):=I;generalize gI.many j ((gI.reg (s^^^0xffffffff) (l.take k))^^^l[k].toUInt32)=x at E;go_wp2
     .go_round
      case rel=>exact⟨j+1,Z,by go_num,by rw[E.out,ahj x ‹_›]⟩
      case measure=>simp[intOf]; omega
     go_round
     case rel=>exact⟨j+1,Z,by go_num,by rw[E.out,akr x ‹_›]⟩
     case measure=>simp[intOf]; omega
    obtain rfl:j=8:=by omega
    go_wp2
    go_round
    case rel=>exact⟨k+1,Z,by go_num,by rw[ad5 _ _ _ ‹_›]; rfl⟩
    case measure=>simp[intOf]; omega
  obtain rfl:k=l.length:=by omega
  go_wp2
  go_ret
  exact⟨eX (by rw[aiV,acr]; simp only[gI.update]),I⟩
abbrev ad6(l:List (List UInt8))(k:Nat)(h:k<l.length):gI.crc (l.take (k+1))=gI.update (gI.crc (l.take k)) l[k]:=by
 rw[take_snoc l k h]; simp only[gI.crc,List.foldl_append,List.foldl_cons,List.foldl_nil]
abbrev crc32(v:À)(l:List (List UInt8))(w:Á)(hv:yD w v l) :
  Ä prog 60 #[v] w λe w'=>e = .R (aU (gI.crc l))∧w=w':=by
 obtain⟨a,cap,rfl,hm,ha⟩:=hv;have hl:=acj hm ha;have HA:=Â ha;clear ha;go_enter func60,ntmps60
 go_wp2
 go_loop [3,8] (λs1 i=>∃k:Nat,k<=l.length∧i = .i k∧s1=aU (gI.crc (l.take k))) (λ_ i=>l.length-(intOf i).toNat)
 case atStart=>exact⟨0,Õ _,I,I⟩
 case round =>
  obtain⟨k,hk,rfl,rfl⟩:=hrel;by_cases hlt:k<l.length
  .rcases HA.out with ⟨rfl,_⟩ | ⟨b,o,rfl,hb,hlc,hc⟩
   .simp at hlt
   obtain⟨x,hck,hx⟩:=hc k hlt;go_wp2_with fail
   refine(SE _ x l[k] _ hx).mono ?_;rintro e w' ⟨rfl,rfl⟩;go_wp2
   go_round
   case rel=>exact⟨k+1,Z,by go_num,by rw[ad6 l k ‹_›]⟩
   case measure=>simp[intOf]; omega
  obtain rfl:k=l.length:=by omega
  go_wp2
  go_ret
  exact⟨eX (by simp only),I⟩
