/- Walks of binenc: PutUvarint and the reference's; Same. -/
import Derived.Deep.RegionHeld3
import Derived.Laws.DeepNot64
import Derived.Lib.Zigzag
import Derived.Test.YtodpgjjgaddkeaaGreatDoorPk22
import Derived.Lib.SlBytesConst
import Derived.Laws.AppendOwn
set_option maxHeartbeats 3200000
set_option maxRecDepth 100000
set_option linter.unusedVariables false
set_option linter.unusedSimpArgs false
namespace Go.Proofs.YtodpgjjgaddkeaaGreatDoor
section
open Go.RowKit En
variable{α:Type}
theorem akv:∀m:Fin 256,m.val|||128=m.val%128+128:=by decide
theorem akw(n:Nat):bits .or .u8 ((n:Int)%256) 128=(n:Int)%128+128:=by
 have h:=akv ⟨n%256,aBb _ O⟩;have:=u8_or_nat (n%256) 128 Z Z;rw[show((128:Nat):Int)=128 from rfl,show((n%256:Nat):Int)=(n:Int)%256 by omega]at this;rw[this,h]; simp only; omega
theorem fO(x:Nat)(w:World)(hx:x<18446744073709551616) :
  Calls Tryz.prog 30 #[.int .u64 (x:Int)] w λe w'=>∃v',e = .returned v'∧w'.ownsRow w.heap.size 5 1 v' (dW 10 x).length ((dW 10 x).map fZ)∧Ext w w':=by
 go_enter Tryz.func30,Tryz.ntmps30
 go_wp2
 go_loopw [0,3] (λxv v wr=>∃(f n:Nat) (out:List UInt8),xv = .int .u64 n∧n<18446744073709551616∧n<128^(f+1)∧out.length+f=9∧dW 10 x=out++dW (f+1) n∧wr.ownsRow w.heap.size 5 1 v out.length (out.map fZ)∧Ext w wr) (λxv _ _=>(intOf xv).toNat)
 case atStart=>exact⟨9,x,[],I,hx,Z,I,I,aCi _ _ _ _,aAe _ _⟩
 case round =>
  obtain⟨f,n,out,rfl,hn,hf,hl,hu,hown,hbel⟩:=hrel;have HU:=azO hu;have h63:out.length+1<=maxLen:=by unfold maxLen; omega
  have hby:(out.length+1)*1<=140737488355328:=Z
  have hsz:w.heap.size<=wr.heap.size:=hbel.size;clear hu;by_cases hlt:n<128
  .have hr:=nM wr (.u (n:Int)) 5 I;have hown':=hown.alloc (.cells #[.u (n:Int)] 5);have hsz':w.heap.size<=(wr.alloc (.cells #[.u (n:Int)] 5)).heap.size:=by simp; omega
   clear hown;have hn8:(n:Int)%256=n:=Z
   go_wp2_with (at_builtin; refine bP I _ _ _ I zQ w.heap.size hown' I hr I h63 hby hsz' ?_; intro v' w' hown2 hg)
   go_ret
   refine⟨_,I,?_,(hbel.alloc hsz _).grown hg hsz' (λk hk=>(World.ownsRow.lt hown' k hk).1)⟩;have e:dW 10 x=out++[UInt8.ofNat n]:=by rw[HU.out,dW,azQ hlt]
   rw[e];simpa[fZ,Ic (show n<256 by omega)]using hown2
  cases f with
  | zero=>exact absurd hf Z
  | succ f =>
   have hr:=nM wr (.u ((n:Int)%128+128)) 5 I;have hown':=hown.alloc (.cells #[.u ((n:Int)%128+128)] 5);have hsz':w.heap.size<=(wr.alloc (.cells #[.u ((n:Int)%128+128)] 5)).heap.size:=by simp; omega
   have hn8:=akw n;clear hown;go_wp2_with (at_builtin; refine bP I _ _ _ I zQ w.heap.size hown' I hr I h63 hby hsz' ?_; intro v' w' hown2 hg)
   go_roundw
   case rel =>
    refine⟨f,n/128,out++[UInt8.ofNat (n%128+128)],by simp,Z,?_,by simp; omega,?_,?_,(hbel.alloc hsz _).grown hg hsz' (λk hk=>(World.ownsRow.lt hown' k hk).1)⟩
    .rw[aAA]at hf; exact aB2 Z
    .rw[HU.out,dW,azP hlt]; simp
    simpa[fZ,Ic (show n%128+128<256 by omega),show((n:Int)%128+128)%256=(n:Int)%128+128 by omega]using hown2
   case measure=>simp[intOf]; omega
open Go.RowKit En
variable{α:Type}
open Go.RowKit En
variable{α:Type}
theorem ad9(a:Nat)(ha:a<18446744073709551616):bits .xor .u64 (a:Int) 18446744073709551615=((18446744073709551615-a:Nat):Int):=by
 have h1:=aqM (UInt64.ofNat a) (-1);have e1:(UInt64.ofNat a).toNat=a:=by simp; omega
 have e2:(((-1:UInt64).toNat:Nat):Int)=18446744073709551615:=by decide
 rw[e1,e2,UInt64.xor_neg_one,UInt64.toNat_not,e1]at h1;rw[h1]; rfl
theorem aea(x:Int)(h : -9223372036854775808<=x)(h2:x<=9223372036854775807) :
  bits BinOp.xor IntKind.u64 (IntKind.u64.wrap (IntKind.u64.wrap x*2)) (IntKind.u64.wrap (x/9223372036854775808))=((zig x:Nat):Int):=by
 rw[aBa,aBa,aBa];unfold zig;split
 .rw[show x/9223372036854775808%18446744073709551616=18446744073709551615 by omega];rw[show x%18446744073709551616*2%18446744073709551616=(((2*x+18446744073709551616).toNat:Nat):Int) by omega,ad9 _ Z];omega
 rw[show x/9223372036854775808%18446744073709551616=((0:Nat):Int) by omega];rw[show x%18446744073709551616*2%18446744073709551616=(((2*x).toNat:Nat):Int) by omega,u64_xor_nat _ _ Z Z,Nat.xor_zero]
theorem zD(x:Int)(w:World)(h : -9223372036854775808<=x)(h2:x<=9223372036854775807) :
  Calls Tryz.prog 85 #[.i x] w λe w'=>∃v',e = .returned v'∧w'.ownsRow w.heap.size 5 1 v' (dW 10 (zig x)).length ((dW 10 (zig x)).map fZ)∧Ext w w':=by
 have HC:=azO (fO (zig x) w (Oh h h2));go_enter Tryz.func85,Tryz.ntmps85
 go_wp2_with fail
 rw[aea x h h2];refine HC.out.mono ?_;rintro e w' ⟨v',rfl,ho,hb⟩;go_wp2_with fail
 go_ret
 exact⟨_,I,ho,hb⟩
open Go.RowKit En
variable{α:Type}
theorem IJ(v:Value)(l:List UInt8)(i:Int)(w:World)(hv:bK w v l)(h:i<0∨(l.length:Int)<i) :
  Calls Tryz.prog 73 #[v,.i i] w λe w'=>e = .returned (.tuple #[.pointer none,.i 2])∧w=w':=by
 obtain⟨a,cap,rfl,hm,ha⟩:=hv;have hl:=qY hm ha;clear ha;go_enter Tryz.func73,Tryz.ntmps73
 by_cases h1:i<0
 .go_wp2_with fail
  go_ret2
  exact⟨I,I⟩
 have h2:(l.length:Int)<i:=Z
 clear h;go_wp2_with fail
 go_ret2
 exact⟨I,I⟩
theorem aaT(v:Value)(l:List UInt8)(i:Nat)(w:World)(hv:bK w v l)(h:i<=l.length) :
  Calls Tryz.prog 73 #[v,.i i] w λe w'=>e = .returned (.tuple #[.q w.heap.size 0,.i 0])∧w'=w.alloc (.cells #[v,.i i] 144):=by
 obtain⟨a,cap,rfl,hm,ha⟩:=hv;have hl:=qY hm ha;clear ha;go_enter Tryz.func73,Tryz.ntmps73
 go_wp2_with fail
 go_ret2
 exact⟨I,I⟩
theorem SN(v:Value)(l:List UInt8)(b p:Nat)(w:World)(hv:bK w v l)(h0:w.cell? ⟨b,0,none⟩=some v)(h1:w.cell? ⟨b,1,none⟩=some (.i p))(hp:p<=l.length) :
  Calls Tryz.prog 112 #[.q b 0] w λe w'=>e = .returned (.i (l.length-p:Nat))∧∃n,w'=w.drewN n:=by
 obtain⟨a,cap,rfl,hm,ha⟩:=hv;have hl:=qY hm ha;clear ha;go_enter Tryz.func112,Tryz.ntmps112
 go_wp2_with fail
 go_quiet (fail)
 go_wp2_with fail
 go_ret
 exact⟨jw Z,_,I⟩
open Go.RowKit En
variable{α:Type}
theorem aeb{bb o n c n' c':Nat}{ad:Addr}(h:Value.slice (some ⟨bb,o,none⟩) n c = .slice (some ad) n' c'):bb=ad.block:=by
 simp only[aAq,azT]at h; rw[<-h.1]
theorem agT{f:α->Value}{w:World}{bb o cap p k:Nat}{l:List α}(hm:cap<=maxLen)(hp:p+k<=l.length)(hlc:l.length<=cap)(hb:bb<w.heap.size)
  (hc:∀i (h:i<l.length),w.cell? ⟨bb,o+i,none⟩=some (f l[i])):dG f w (.slice (if cap=p then some ⟨bb,o,none⟩else some ⟨bb,o+p,none⟩) k (cap-p)) ((l.drop p).take k):=by
 have e:((l.drop p).take k).length=k:=by simp; omega
 rcases aAC k with rfl | hk
 .refine⟨_,cap-p,by rw[e],Z,.inl ⟨by simp,λh=>?_⟩⟩;split at h<;>simp at h
 rw[azP Z];refine⟨_,cap-p,by rw[e],Z,.inr ⟨bb,o+p,I,hb,by rw[e]; omega,λi hi=>?_⟩⟩;rw[e]at hi;rw[aBR,hc (p+i) Z]; simp
theorem aaU(l:List UInt8)(b p k bb o cap:Nat)(w:World)(hm:cap<=maxLen)(hlc:l.length<=cap)(hbb:bb<w.heap.size)(hne:bb≠b)
  (hcs:∀i (h:i<l.length),w.cell? ⟨bb,o+i,none⟩=some (fZ l[i])) (h0:w.cell? ⟨b,0,none⟩=some (.slice (some ⟨bb,o,none⟩) l.length cap)) (h1:w.cell? ⟨b,1,none⟩=some (.i p))
  (hfz:w.frozen? ⟨b,1,none⟩=false) (hp:p+k<=l.length) :
  Calls Tryz.prog 113 #[.q b 0,.i k] w λe w'=>∃v' n,e = .returned v'∧w'=(w.setCell ⟨b,1,none⟩ (.i ((p:Int)+(k:Int)))).drewN n ∧
   bK w' v' ((l.drop p).take k)∧∀ad n cap',v' = .slice (some ad) n cap'->bb=ad.block:=by
 have HC:=azO hcs;clear hcs;have hc:p+k<=cap:=Z
 have hi0:(0:Int)<=(p:Int):=Z
 have hi1:(p:Int)<=(p:Int)+(k:Int):=Z
 have hi2:(p:Int)+(k:Int)<=(cap:Int):=Z
 have hi4:IntKind.i64.wrap ((p:Int)+(k:Int))=(p:Int)+(k:Int):=by rw[aBv]; have:maxLen=9223372036854775807:=I; omega
 have hi5:((p:Int)+(k:Int)).toNat=p+k:=Z
 have hc2:p<=p+k:=Z
 have hc3:p+k-p=k:=Z
 have hc4:p<=cap:=Z
 have hrow:bK ((w.setCell ⟨b,1,none⟩ (.i ((p:Int)+(k:Int)))).drewN 1) (.slice (if cap=p then some ⟨bb,o,none⟩else some ⟨bb,o+p,none⟩) k (cap-p)) ((l.drop p).take k):=
  agT hm hp hlc (by simpa using hbb) (λi h=>by rw[World.cell?_drewN,World.cell?_setCell_other _ _ _ _ (by simp only[ne_eq,aBV]; omega)]; exact HC.out i h)
 by_cases hcp:cap=p
 .rw[azQ hcp]at hrow;have HR:=azO hrow;clear hrow;subst hcp;have HR:=azO (by have h:=HR.out; rw[aBK]at h; exact h);go_enter Tryz.func113,Tryz.ntmps113
  go_wp2_with fail
  go_region_held3 (λw'=>w'.cell? ⟨b,0,none⟩=some (.slice (some ⟨bb,o,none⟩) l.length cap)∧w'.cell? ⟨b,1,none⟩=some (.i cap)) (go_keep) (fail)
  go_wp2_with fail
  go_ret
  exact⟨_,1,I,I,HR.out,λ_ _ _ e=>aeb e⟩
 rw[azP hcp]at hrow;have HR:=azO hrow;clear hrow;go_enter Tryz.func113,Tryz.ntmps113
 go_wp2_with fail
 go_region_held3 (λw'=>w'.cell? ⟨b,0,none⟩=some (.slice (some ⟨bb,o,none⟩) l.length cap)∧w'.cell? ⟨b,1,none⟩=some (.i p)) (go_keep) (fail)
 go_wp2_with fail
 go_ret
 exact⟨_,1,I,I,HR.out,λ_ _ _ e=>aeb e⟩
open Go.RowKit En
variable{α:Type}
structure Rd (w:World) (b:Nat) (v:Value) (l:List UInt8) (p:Nat):Prop where
 c0:w.cell? ⟨b,0,none⟩=some v
 c1:w.cell? ⟨b,1,none⟩=some (.i p)
 fz:w.frozen? ⟨b,1,none⟩=false
 row:bK w v l
 off:0<l.length->Off b v
 hp:p<=l.length
 lt:b<w.heap.size
theorem Rd.drewN{w:World}{b:Nat}{v:Value}{l:List UInt8}{p:Nat}(h:Rd w b v l p)(n:Nat):Rd (w.drewN n) b v l p:=
 ⟨by rw[World.cell?_drewN]; exact h.c0,by rw[World.cell?_drewN]; exact h.c1,by rw[World.frozen?_drewN]; exact h.fz,h.row.below (below_drewN (aAe _ _) n),h.off,h.hp,by simpa using h.lt⟩
theorem Rd.ext{w w':World}{b:Nat}{v:Value}{l:List UInt8}{p:Nat}(h:Rd w b v l p)(hb:Ext w w'):Rd w' b v l p:=
 ⟨by rw[hb.cell (p:=⟨b,0,none⟩) h.lt]; exact h.c0,by rw[hb.cell (p:=⟨b,1,none⟩) h.lt]; exact h.c1,by rw[hb.frozen (p:=⟨b,1,none⟩) h.lt]; exact h.fz,h.row.below hb,h.off,h.hp,by have:=hb.size; have:=h.lt; omega⟩
theorem Rd.set{w:World}{b:Nat}{v:Value}{l:List UInt8}{p q:Nat}(h:Rd w b v l p)(hq:q<=l.length):Rd (w.setCell ⟨b,1,none⟩ (.i q)) b v l q:=
 ⟨by rw[World.cell?_setCell_other _ _ _ _ Y]; exact h.c0,World.cell?_setCell_same _ _ _ h.c1,by simpa using h.fz,h.row.ch ((Ch.refl b w).setCell _ _) h.off,h.off,hq,by simpa[World.setCell]using h.lt⟩
theorem next_any(l:List UInt8)(b p k:Nat)(v:Value)(w:World)(h:Rd w b v l p)(hk:p+k<=l.length)(h0:0<l.length) :
  Calls Tryz.prog 113 #[.q b 0,.i k] w λe w'=>∃v',e = .returned v'∧Rd w' b v l (p+k)∧Ch b w w'∧bK w' v' ((l.drop p).take k)∧Off b v':=by
 obtain⟨bb,o,cap,hv,hb,hl,hm,hc⟩:=dO h.row I h0;subst hv;have hne:bb≠b:=h.off h0 _ _ _ I;refine(aaU l b p k bb o cap w hm hl hb hne hc h.c0 h.c1 h.fz hk).mono ?_;rintro e w' ⟨v',n,rfl,hw,hr,hoff⟩;have he:(p:Int)+(k:Int)=((p+k:Nat):Int):=Z
 rw[he]at hw;refine⟨v',I,?_,?_,hr,?_⟩
 .rw[hw]; exact(h.set hk).drewN n
 .rw[hw]; exact((Ch.refl b w).setCell _ _).drewN n
 intro ad n' cap' hv';exact λe=>hne (by rw[<-e]; exact hoff ad n' cap' hv')
theorem OL(v:Value)(l:List UInt8)(i:Nat)(w:World)(hv:bK w v l)(h:i<=l.length) :
  Calls Tryz.prog 73 #[v,.i i] w λe w'=>∃b,e = .returned (.tuple #[.q b 0,.i 0])∧Rd w' b v l i∧Ext w w'∧w.heap.size<=b:=by
 refine(aaT v l i w hv h).mono ?_;rintro e w' ⟨rfl,rfl⟩;refine⟨_,I,⟨?_,?_,?_,hv.below (aF _ _),af9 hv (azS _),h,by simp⟩,aF _ _,azS _⟩
 .rw[World.cell?_alloc_at _ _ _ _ I]; rfl
 .rw[World.cell?_alloc_at _ _ _ _ I]; rfl
 rw[World.frozen?_alloc_at _ _ _ _ I]
open Go.RowKit En
variable{α:Type}
def OM(w:World)(b:Nat)(v:Value)(l:List UInt8)(p:Nat)(r:Except Nat (Nat×Nat))(e:Ending)(w':World):Prop:=
 ∃q,Rd w' b v l q∧Ch b w w'∧(match r with
  | .ok (n,k)=>q=p+k∧e = .returned (.tuple #[.int .u64 (n:Int),.i 0])
  | .error er=>e = .returned (.tuple #[.int .u64 0,.i er]))
variable{b p k f acc:Nat}{v:Value}{w':World}
theorem OO(l:List UInt8)(b p:Nat)(v:Value)(w:World)(h:Rd w b v l p) :
  Calls Tryz.prog 112 #[.q b 0] w λe w'=>e = .returned (.i (l.length-p:Nat))∧Rd w' b v l p∧Ch b w w':=by
 refine(SN v l b p w h.row h.c0 h.c1 h.hp).mono ?_;rintro e w' ⟨rfl,n,rfl⟩;exact⟨I,h.drewN n,(Ch.refl b w).drewN n⟩
theorem WL{w:World}{l:List UInt8}{c:Nat}(hu:Hid (lY 9 (l.drop p)=comb k acc (lY f (l.drop (p+k)))))(hf:lY f (l.drop (p+k)) = .ok (c,1))
  (hr:Rd w' b v l (p+k+1)) (hc:Ch b w w') {x:Int} (hx:x=((acc+128^k*c:Nat):Int)):OM w b v l p (lY 9 (l.drop p)) (.returned (.tuple #[.int .u64 x,.i 0])) w':=by
 refine⟨p+k+1,hr,hc,?_⟩;rw[hu.out,hf,hx];exact⟨Z,I⟩
theorem FW{w:World}{l:List UInt8}{q er:Nat}(hu:Hid (lY 9 (l.drop p)=comb k acc (lY f (l.drop (p+k)))))(hf:lY f (l.drop (p+k)) = .error er)
  (hr:Rd w' b v l q) (hc:Ch b w w'):OM w b v l p (lY 9 (l.drop p)) (.returned (.tuple #[.int .u64 0,.i er])) w':=by
 refine⟨q,hr,hc,?_⟩;rw[hu.out,hf];rfl
theorem WM:∀c:Fin 256,bits .andNot .u8 (c.val:Int) 128=((c.val%128:Nat):Int):=by decide +kernel
theorem SQ(c:UInt8)(acc k:Nat)(h:acc<128^k)(hk:k<=9)(h9:k<9∨c.toNat<2) :
  bits BinOp.or IntKind.u64 (acc:Int) (IntKind.u64.wrap (IntKind.u64.wrap (bits BinOp.andNot IntKind.u8 (c.toNat:Int) 128)*2^(7*k)))=((acc+128^k*(c.toNat%128):Nat):Int):=by
 have h1:=WM ⟨c.toNat,c.toNat_lt⟩;simp only at h1;rw[h1];have e128:(128:Nat)^k=2^(7*k):=by rw[Nat.pow_mul]
 have hp:2^(7*k)<=2^63:=aAV Z Z;have hb:(c.toNat%128)*2^(7*k)<18446744073709551616:=by
  rcases h9 with h9 | h9
  .have h2:2^(7*k)<=2^56:=aAV Z Z;have h3:c.toNat%128<=127:=Z
   have:=aBA h3 h2;omega
  have h3:c.toNat%128<=1:=Z
  have:=aBA h3 hp;omega
 have w1:IntKind.u64.wrap ((c.toNat%128:Nat):Int)=((c.toNat%128:Nat):Int):=by rw[aBa]; omega
 rw[w1];have w2:((c.toNat%128:Nat):Int)*2^(7*k)=(((c.toNat%128)*2^(7*k):Nat):Int):=by push_cast; rfl
 rw[w2,aBa];have w3:(((c.toNat%128)*2^(7*k):Nat):Int)%18446744073709551616=(((c.toNat%128)*2^(7*k):Nat):Int):=Z
 rw[w3,u64_or_nat _ _ Z hb,Nat.or_comm,nat_join (7*k) _ _ (Nat.mul_mod_left _ _) Z,e128,aAw,aBI]
theorem Az(l:List UInt8)(b p:Nat)(v:Value)(w:World)(h:Rd w b v l p) :
  Calls Tryz.prog 75 #[.q b 0] w (OM w b v l p (lY 9 (l.drop p))):=by
 have hml:=h.row.len;unfold maxLen at hml;have H:=azO h;clear h;go_enter Tryz.func75,Tryz.ntmps75
 go_wp2_with fail
 go_loopw [4,5] (λn i wr=>∃k f acc:Nat,i = .i k∧k+f=9∧n = .int .u64 acc∧acc<128^k∧Rd wr b v l (p+k)∧Hid (lY 9 (l.drop p)=comb k acc (lY f (l.drop (p+k))))∧Ch b w wr) (λ_ i _=>10-(intOf i).toNat)
 case atStart=>exact⟨0,9,0,I,I,I,Z,H.out,(aaB _).symm,Ch.refl _ _⟩
 case round =>
  obtain⟨k,f,acc,rfl,hkf,rfl,hacc,hrd,HU,hch⟩:=hrel;have HC:=azO (OO l b (p+k) v wr hrd);have hpk:=hrd.hp;have HR:=azO hrd;have HA:=azO hacc;clear hrd hacc;go_wp2_with fail
  refine HC.out.mono ?_;rintro e w' ⟨rfl,aec,WO⟩;clear HC HR;by_cases hlt:p+k<l.length
  .have hl0:(0:Int)<((l.length-(p+k):Nat):Int):=Z
   have HN:=azO (next_any l b (p+k) 1 v w' aec Z Z);have HR:=azO aec;clear aec;go_wp2_with fail
   refine HN.out.mono ?_;rintro e w3 ⟨v',rfl,ang,arG,hrow,hoff⟩;clear HN HR;have hone:(l.drop (p+k)).take 1=[l[p+k]]:=by rw[aAZ hlt]; rfl
   rw[hone]at hrow;obtain⟨c,hcc⟩:∃c,l[p+k]=c:=⟨_,I⟩;rw[hcc]at hrow;obtain⟨bb,o,cap,hv,hb,hl,hm,hc⟩:=dO hrow I Nat.one_pos;have hc0:=hc 0 Nat.one_pos;simp only[aBN,aCv]at hc0;rw[hv];have HD:=azO (aAZ hlt);rw[hcc]at HD;clear hc hv hrow hone hcc;have HR:=azO ang;have OQ:=Ch.trans hch (Ch.trans WO arG);clear ang;have hc8:=c.toNat_lt;have hk9:k<=9:=Z
   cases f with
   | zero =>
    obtain rfl:k=9:=by omega
    rcases aCq c.toNat 1 with h1 | h1 | h1
    .have hc1:((c.toNat:Int)==0)=true:=by rw[az4]; omega
     have hu:Hid (lY 0 (l.drop (p+9)) = .error 3):=by rw[HD.out]; simp only[lY]; rw[azP Z]; rfl
     go_wp2_with fail
     go_ret2
     exact FW HU hu.out HR.out OQ
    .have hc1:((c.toNat:Int)==0)=false:=by rw[aAh]; omega
     have hu:Hid (lY 0 (l.drop (p+9)) = .ok (c.toNat,1)):=by rw[HD.out]; simp only[lY]; rw[azQ h1,h1]; rfl
     have HS:=azO (SQ c acc 9 HA.out Z (.inr Z));have h1':(c.toNat:Int)<=1:=Z
     have h2':(c.toNat:Int)<128:=Z
     have H1:=azO h1;clear h1;go_wp2_with fail
     go_ret2
     refine WL HU hu.out HR.out OQ (HS.out.trans ?_);have:=H1.out; rw[this]
    have hu:Hid (lY 0 (l.drop (p+9)) = .error 3):=by rw[HD.out]; simp only[lY]; rw[azP Z]; rfl
    go_wp2_with fail
    go_ret2
    exact FW HU hu.out HR.out OQ
   | succ f =>
    have hk9:((k:Int)==9)=false:=by rw[aAh]; omega
    have HS:=azO (SQ c acc k HA.out Z (.inl Z));by_cases hlo:c.toNat<128
    .have arH:(c.toNat:Int)<128:=Z
     have anh:Hid (c.toNat%128=c.toNat):=aBJ hlo;rcases aAC c.toNat with h0 | h0
     .have h0':((c.toNat:Int)==0)=true:=by rw[az4]; omega
      rcases aAC k with hk | hk
      .have hu:Hid (lY (f+1) (l.drop (p+k)) = .ok (c.toNat,1)):=by rw[HD.out]; simp only[lY]; rw[azQ hlo,azP Z]; rfl
       have hkp:¬(0:Int)<(k:Int):=Z
       have HK:=azO hk;have H0:=azO h0;clear hk h0;go_wp2_with fail
       go_ret2
       exact WL HU hu.out HR.out OQ (HS.out.trans (by rw[anh.out]))
      have hu:Hid (lY (f+1) (l.drop (p+k)) = .error 3):=by rw[HD.out]; simp only[lY]; rw[azQ hlo,azQ ⟨h0,Z⟩]; rfl
      have hkp:(0:Int)<(k:Int):=Z
      have H0:=azO h0;clear h0;go_wp2_with fail
      go_ret2
      exact FW HU hu.out HR.out OQ
     have h0':((c.toNat:Int)==0)=false:=by rw[aAh]; omega
     have hu:Hid (lY (f+1) (l.drop (p+k)) = .ok (c.toNat,1)):=by rw[HD.out]; simp only[lY]; rw[azQ hlo,azP Z]; rfl
     go_wp2_with fail
     go_ret2
     exact WL HU hu.out HR.out OQ (HS.out.trans (by rw[anh.out]))
    have arH:¬(c.toNat:Int)<128:=Z
    have HL:=azO hlo;clear hlo;go_wp2_with fail
    go_roundw
    case rel =>
     refine⟨k+1,f,acc+128^k*(c.toNat%128),by go_num,Z,by rw[HS.out],?_,HR.out,?_,OQ⟩
     .have:=HA.out;rw[aAA];have h2:c.toNat%128<=127:=Z
      have:=aAz (128^k) h2;omega
     show _=_;rw[HU.out,HD.out,adB f c _ HL.out,aaC]; rfl
    case measure=>simp[intOf]; omega
  have hl0:¬(0:Int)<((l.length-(p+k):Nat):Int):=Z
  have hu:Hid (lY f (l.drop (p+k)) = .error 4):=by rw[aA7 Z,agy]; rfl
  have OQ:=Ch.trans hch WO;have HR:=azO aec;clear aec;go_wp2_with fail
  go_ret2
  exact FW HU hu.out HR.out OQ
open Go.RowKit En
variable{α:Type}
theorem agU{l:List UInt8}{i:Int}(h:i<0∨(l.length:Int)<i):yg l i=(0,0,2):=by unfold yg; rw[azQ h]
theorem akx{l:List UInt8}{i n k:Nat}(h:i<=l.length)(hu:lY 9 (l.drop i) = .ok (n,k)):yg l i=(n,i+k,0):=by
 unfold yg; rw[azP Z,aBs,hu]
theorem agV{l:List UInt8}{i e:Nat}(h:i<=l.length)(hu:lY 9 (l.drop i) = .error e):yg l i=(0,0,e):=by
 unfold yg; rw[azP Z,aBs,hu]
theorem YJ{l:List UInt8}{e:Nat}(hu:lY 9 l = .error e):((e:Int) != 0)=true:=by
 rw[bne_iff_ne]; rcases FP _ _ _ hu with h | h<;>omega
abbrev ani (r:Nat×Nat×Nat):Value := .tuple #[.int .u64 (r.1:Int),.i r.2.1,.i r.2.2]
theorem xk(v:Value)(l:List UInt8)(i:Int)(w:World)(hv:bK w v l) :
  Calls Tryz.prog 47 #[v,.i i] w λe w'=>e = .returned (ani (yg l i))∧Ext w w':=by
 by_cases hbad:i<0∨(l.length:Int)<i
 .rw[agU hbad];have HF:=azO (IJ v l i w hv hbad);clear hbad;go_enter Tryz.func47,Tryz.ntmps47
  go_wp2_with fail
  refine HF.out.mono ?_;rintro e w' ⟨rfl,rfl⟩;go_wp2_with fail
  go_ret3
  exact⟨I,aAe _ _⟩
 obtain⟨p,rfl⟩:∃p:Nat,i=p:=⟨i.toNat,Z⟩;have hp:p<=l.length:=Z
 have HF:=azO (OL v l p w hv hp);clear hbad;have hl:=hv.len;unfold maxLen at hl;cases hu:lY 9 (l.drop p)with
 | error er =>
  rw[agV hp hu];have he:=YJ hu;have HU:=azO hu;clear hu;go_enter Tryz.func47,Tryz.ntmps47
  go_wp2_with fail
  refine HF.out.mono ?_;rintro e w1 ⟨b,rfl,hrd,hb1,hb⟩;have HN:=azO (Az l b p v w1 hrd);rw[HU.out]at HN;clear hrd HF;go_wp2_with fail
  refine HN.out.mono ?_;rintro e w2 ⟨q,hrd,hch,rfl⟩;have HR:=azO hrd;have HB:=azO (aBO hb1 (hch.below hb hb1.size));clear hrd hch hb1 HN;go_wp2_with fail
  go_ret3
  exact⟨I,HB.out⟩
 | ok r =>
  obtain⟨n,k⟩:=r;rw[akx hp hu];have HU:=azO hu;clear hu;go_enter Tryz.func47,Tryz.ntmps47
  go_wp2_with fail
  refine HF.out.mono ?_;rintro e w1 ⟨b,rfl,hrd,hb1,hb⟩;have HN:=azO (Az l b p v w1 hrd);rw[HU.out]at HN;clear hrd HF;go_wp2_with fail
  refine HN.out.mono ?_;rintro e w2 ⟨q,hrd,hch,hq,rfl⟩;have h1:=hrd.c1;have HB:=azO (aBO hb1 (hch.below hb hb1.size));have HQ:=azO hq;clear hrd hch hb1 HN hq;go_wp2_with fail
  go_quiet (fail)
  go_wp2_with fail
  go_ret3
  rw[HQ.out];exact⟨I,below_drewN HB.out _⟩
open Go.RowKit En
variable{α:Type}
open Go.RowKit En
variable{α:Type}
theorem WQ(l:List UInt8)(i:Int):(yg l i).1<18446744073709551616:=by
 unfold yg;split
 .simp
 split
 .rename_i h; exact(FN h).1
 simp
abbrev arI (r:Int×Nat×Nat):Value := .tuple #[.i r.1,.i r.2.1,.i r.2.2]
theorem KF(k:IntKind)(x y:Int):bits .xor k x y=bits .xor k y x:=by
 show k.wrap ((BitVec.ofInt k.bits x^^^BitVec.ofInt k.bits y).toNat:Int)=k.wrap ((BitVec.ofInt k.bits y^^^BitVec.ofInt k.bits x).toNat:Int);rw[BitVec.xor_comm]
theorem aed(a:Nat)(ha:a<9223372036854775808):bits .xor .i64 (a:Int) 0=(a:Int):=by
 show IntKind.i64.wrap ((BitVec.ofInt 64 (a:Int)^^^BitVec.ofInt 64 0).toNat:Int)=_;have h1:BitVec.ofInt 64 0=0#64:=by decide
 rw[h1,BitVec.xor_zero,ofInt_u64 a Z];simp[IntKind.wrap,IntKind.bits,IntKind.signed];omega
theorem WR(n:Nat)(h:n<18446744073709551616):bits BinOp.xor IntKind.i64 ((n:Int)/2) (wrap64 (-wrap64 (bits BinOp.and IntKind.u64 (n:Int) 1)))=Ej n:=by
 rw[Lib.u64_and1 _ Z Z];unfold Ej;have e:(n:Int)/2=((n/2:Nat):Int):=I;rcases Nat.mod_two_eq_zero_or_one n with h2 | h2
 .have e1:(n:Int)%2=0:=Z
  have e2:wrap64 (-wrap64 0)=0:=by simp[wrap64]
  rw[e1,e2,e,aed _ Z,azP Z]
 have e1:(n:Int)%2=1:=Z
 have e2:wrap64 (-wrap64 1) = -1:=by simp[wrap64]
 rw[e1,e2,e,KF,i64_not _ Z,azQ h2]
theorem WS(v:Value)(l:List UInt8)(i:Int)(w:World)(hv:bK w v l) :
  Calls Tryz.prog 115 #[v,.i i] w λe w'=>e = .returned (arI (vat l i))∧Ext w w':=by
 have HC:=azO (xk v l i w hv);have hn:=WQ l i;unfold vat;generalize yg l i=r at *;obtain⟨n,next,er⟩:=r;simp only at hn;clear hv;go_enter Tryz.func115,Tryz.ntmps115
 go_wp2_with fail
 refine HC.out.mono ?_;rintro e w' ⟨rfl,hb⟩;go_wp2_with fail
 go_ret3
 exact⟨by rw[WR _ hn]; rfl,hb⟩
end
section
open Go.RowKit
variable{α:Type}{K:Nat}
abbrev anj (w:World)(v:Value)(L:List bD):Prop:=aJ 4 bD.cells w v L
variable{p b cap c:Nat}{bad:Bool}
theorem SS{w0 w:World}{bl:List (Nat×List Value)}(R:Sx.Rw w0 w bl []):Sx.Rw w0 w bl [⟨5,1,.sn,0,[]⟩]:=
 ⟨λr hr=>by obtain rfl:=aAn.1 hr; exact⟨I,.inl ⟨I,I⟩⟩,R.lt,R.apart⟩
theorem aky(c d:bD)(w:World):(binOp .eql 178 (.agg c.cells.toArray) (.agg d.cells.toArray)).run Tryz.prog w = .ok (.bool (c=d)) w:=by
 rw[<-Ox]; exact aib ..
abbrev jv (w:World)(v:Value)(l:List UInt8):Prop:=aJ 1 (λn:UInt8=>[fZ n]) w v l
theorem LP{w:World}{p:bD} :
  Calls Tryz.prog 135 #[.agg p.cells.toArray] w λe w'=>∃v,e = .returned v∧OwnB w.heap.size w' v (Px.pb p)∧Ext w w':=by
 skip;refine azp Tryz.func135 Tryz.ntmps135 λS=>azs S p.cells (λu b2 E3 hb4 S=>?_);have R:=aAy S;refine adr S 9 [] [.mem 0 0,.mem 0 1,.mem 0 2,.mem 0 3] λS=>azw S λS=>Sx.newRow S R 11 4 5 1 p.cells λac u v6 E7 X8 R S=>azF S λS=>apB S v6 (λS=>?_);exact⟨_,I,R.own _ az5,S.E⟩
theorem WT{w:World}{v:Value}{L:List bD}(h:anj w v L)(hn:L.length<=1000000) :
  Calls Tryz.prog 133 #[v] w λe w'=>∃v',e = .returned v'∧OwnB w.heap.size w' v' (Px.enc L)∧Ext w w':=by
 obtain⟨a,cap,rfl⟩:=h.shape;refine azX Tryz.func133 Tryz.ntmps133 λac S=>azn λ_ gQ=>azk S 1 [] [(2,.sn)] λS=>azl<|gQ _ _<|azn λ_ U1=>azk S 1 [] [(3,.sn)] λS=>azl<|U1 _ _<|az8 λ_ κ3=>azn λ_ κ4=>azk S 1 [] [(4,.i 0)] λS=>azl<|κ4 _ _<|aAM ?_;have R:=aAy S;have R:=SS R;refine Vp.loop (ι:=Nat×Value×List (Nat×bD)) (λp a' w'=>(Px.BQ L p.1 p.2.2)∧Sx.Rw w w' [] [⟨5,1,p.2.1,(Px.rb p.2.2).length,(Px.rb p.2.2).map fZ⟩]∧Sx.St w a' w' 44 [(0,.slice a L.length cap),(2,.sn),(3,p.2.1),(4,.i p.1)] [] []) (λp=>L.length-p.1) (0,(.sn),[]) ⟨Px.BQ.zero L,R,S.sn⟩ ?_;rintro⟨i,v,Rn⟩ ac u hI;try dsimp only at hI
 obtain⟨hR,R,S⟩:=hI;have hE:=hR;refine az8 λ_ BN=>azn λ_ κ6=>azk S 4 [] [(9,.bool ((i:Int)<(L.length:Int)))] λS=>azl (κ6 _ _ ?_);refine azM S (λnJ=>?_) (λnJ=>?_)
 .refine aAs<|BN _ _<|aAM<|azn (λ_ κ8=>?_);have hi:i<L.length:=by have:=az9 nJ; omega
  obtain⟨x,hx⟩:∃z,L[i]=z:=⟨_,I⟩;refine azk S 2 [] [(5,.i i)] λS=>azl<|κ8 _ _<|az8 (λκq κ9=>?_);have J10:∀(k:Nat) (ac:Act) (u:World),(Sx.Rw w u [] [⟨5,1,v,(Px.rb Rn).length,(Px.rb Rn).map fZ⟩])->(k<=L.length)->(i<=k)->(∀(j:Nat) (hj:j<L.length),i<=j->j<k->L[j]=x)->(∀h:k<L.length,L[k]≠x)->Sx.St w ac u 44 [(0,.slice a L.length cap),(2,.sn),(3,v),(4,.i i),(5,.i k)] [] []->κq ac u:=by
   intro k ac u R hkl hik hall hend S;refine κ9 _ _<|azn (λ_ OT=>?_);have hlt:i<k:=by rcases aAH i k with h | h; exact h; obtain rfl:k=i:=Z; exact absurd hx (hend hi)
   refine azk S 5 [.re 31 (.i (IntKind.i64.wrap ((k:Int)-(i:Int)))) (.i (k-i:Nat)),.re 32 (.int .u64 (IntKind.u64.wrap ((k-i:Nat):Int))) (.int .u64 ((k-i:Nat):Int))] [(28,v),(32,.int .u64 ((k-i:Nat):Int))] (hk:=⟨(Sx.oZ Z Z),(wrap_u64 Z),G⟩) λS=>Sx.jL S (some 33) (fO (k-i) _ Z) ?_;rintro e u ⟨v33,rfl,arJ,pW⟩;refine⟨_,I,pW,λac S=>?_⟩;have hrb:=Px.aj3 hE.good;rw[hE.flat,aAN]at hrb;have hu9:(En.dW 10 (k-i)).length<=10:=En.iG 10 _;obtain⟨R,Y13⟩:=R.bQ S (aAg pW);refine Sx.app S R 0 34 I zQ (jH (arJ)) (by show(Px.rb Rn).length+(En.dW 10 (k-i)).length<=9223372036854775807; omega) (by show((Px.rb Rn).length+(En.dW 10 (k-i)).length)*1<=140737488355328; omega) λac u v14 X15 R S=>azk S 1 [] [(3,v14)] λS=>azl<|OT _ _<|azn (λ_ Ai=>?_);have ank:i<L.length:=Z
   obtain⟨b17,o18,rfl,y23,arK,ajl,arL⟩:=aAo h (λ_=>I) (i) ank;have S:=S.view0 ajl arL;refine azk S 5 [.idx i L.length,.mem 0 0] [(35,v14),(39,.agg y23.cells.toArray)] (hk:=⟨ank,G⟩) λS=>Sx.jL S (some 40) (LP (p:=y23)) ?_;rintro e u ⟨v40,rfl,anl,FH⟩;rw[show y23=x from by rw[<-arK]; exact hx]at anl;refine⟨_,I,FH,λac S=>?_⟩;obtain⟨R,Y26⟩:=R.bQ S (aAg FH);refine Sx.app S R 0 41 I zQ (jH (anl)) (by show(Px.rb Rn).length+(En.dW 10 (k-i)).length+4<=9223372036854775807; omega) (by show((Px.rb Rn).length+(En.dW 10 (k-i)).length+4)*1<=140737488355328; omega) λac u v27 X28 R S=>azk S 1 [] [(3,v27)] λS=>azl<|Ai _ _<|aBo<|azk S 2 [] [(4,.i k)] λS=>azl ?_;show ∃i',_∧_;exact⟨(k,v27,(Rn++[(k-i,x)])),⟨hE.step hi hx hlt hkl hall hend,R.as (show [(⟨5,1,v27,(Px.rb Rn).length+(En.dW 10 (k-i)).length+4,(Px.rb Rn).map fZ++(En.dW 10 (k-i)).map fZ++(Px.pb x).map fZ⟩:Sx.Row)]=[⟨5,1,v27,(Px.rb (Rn++[(k-i,x)])).length,(Px.rb (Rn++[(k-i,x)])).map fZ⟩] by rw[Px.agB]; simp[Px.pb,Nat.add_assoc]),S.sn⟩,by show _-_<_-_; omega⟩
  refine aAM ?_;refine Vp.loop (ι:=Nat) (λp a' w'=>((i<=p∧p<=L.length)∧∀(j:Nat) (hj:j<L.length),i<=j->j<p->L[j]=x)∧Sx.Rw w w' [] [⟨5,1,v,(Px.rb Rn).length,(Px.rb Rn).map fZ⟩]∧Sx.St w a' w' 44 [(0,.slice a L.length cap),(2,.sn),(3,v),(4,.i i),(5,.i p)] [] []) (λp=>L.length-p) (i) ⟨⟨⟨azS _,Z⟩,λj hj h1 h2=>by omega⟩,R,S.sn⟩ ?_;rintro k ac u hI;try dsimp only at hI
  obtain⟨hR,R,S⟩:=hI;have hrk:=hR.1;refine az8 λ_ aee=>az8 (λ_ anm=>?_);by_cases arM:k<L.length
  .have ano:k<L.length:=Z
   obtain⟨b33,o34,rfl,y39,anp,adf,arN⟩:=aAo h (λ_=>I) (k) ano;have S:=S.view0 adf arN;have anq:i<L.length:=Z
   obtain⟨y47,anr,hb48,arO⟩:=Vp.ant h (λ_=>I) (i) anq;have S:=S.view0 hb48 arO;refine Sx.draw S 15 [.re 14 (.bool ((k:Int)<(L.length:Int))) (.bool true),.idx k L.length,.mem 1 0,.idx i L.length,.mem 0 0,.cmp .eql 178 (.tmp 19) (.tmp 23) (.agg #[.u (y39.r.toNat:Int),.u (y39.g.toNat:Int),.u (y39.b.toNat:Int),.u (y39.a.toNat:Int)]) (.agg #[.u (y47.r.toNat:Int),.u (y47.g.toNat:Int),.u (y47.b.toNat:Int),.u (y47.a.toNat:Int)]) (.bool (y39=y47))] [] [(25,.bool (y39=y47))] trivial (hk:=⟨(az0 Value.bool (aA6 Z)),ano,anq,(aAP (λ_=>aky y39 y47 _) X),G⟩) λac u NW S=>azl (anm _ _ ?_);refine azM S (λakz=>?_) (λakz=>?_)
   .refine aAs<|aee _ _<|aAM<|aBo<|azk S 3 [.re 27 (.i (IntKind.i64.wrap ((k:Int)+1))) (.i (k+1:Nat))] [(5,.i (k+1:Nat))] (hk:=⟨azA Z,G⟩) λS=>azl ?_;obtain⟨R,Y50⟩:=R.bQ S (aAg NW);show ∃i',_∧_;exact⟨(k+1),⟨⟨⟨Z,Z⟩,λj hj h1 h2=>by
     by_cases e:j=k
     .subst e; have:=akz; rw[anp]; rw[<-hx,anr]; simpa using this
     exact hR.2 j hj h1 Z⟩,R,S.sn⟩,by show _-_<_-_; omega⟩
   refine aA8 ?_;obtain⟨R,Y51⟩:=R.bQ S (aAg NW);exact J10 k _ _ R hR.1.2 hR.1.1 hR.2 (λh e=>by rw[anp]at e; subst e; have:=akz; rw[<-hx,anr]at this; simp at this) S.sn
  refine Sx.draw S 15 [.re 14 (.bool ((k:Int)<(L.length:Int))) (.z),.dead 16 (.z),.dead 17 (.z),.dead 18 (.z),.dead 19 (.z),.dead 20 (.z),.dead 21 (.z),.dead 22 (.z),.dead 23 (.z),.dead 24 (.z)] [] [(25,.z)] trivial (hk:=⟨(az0 Value.bool (aBp Z)),G⟩) λac u E52 S=>azl<|anm _ _<|Sx.Ei S<|aA8 ?_;obtain⟨R,Y53⟩:=R.bQ S (aAg E52);exact J10 k _ _ R hR.1.2 hR.1.1 hR.2 (λh=>absurd h arM) S.sn
 refine aA8<|κ3 _ _<|azn λ_ akA=>azk S 2 [] [(2,v)] λS=>azl<|akA _ _<|Sx.U0 S Tryz.results133 ?_;exact⟨_,I,by rw[<-hE.done (by have:=aAd nJ; omega)]; exact R.own _ az5,S.E⟩
def YK(l:List UInt8)(p:Nat)(bad:Bool)(n:Nat):Nat:=if (bad||decide (l.length<p+n))=true then p else p+n
def Fg(l:List UInt8)(p:Nat)(bad:Bool)(n:Nat):Bool:=bad||decide (l.length<p+n)
def WU(l:List UInt8)(p:Nat)(bad:Bool)(n:Nat):List UInt8:=if (bad||decide (l.length<p+n))=true then List.replicate n 0 else (l.drop p).take n
theorem DK{l:List UInt8}{n:Nat}(h:Fg l p bad n=true):YK l p bad n=p∧WU l p bad n=List.replicate n 0:=by
 unfold Fg at h; unfold YK WU; rw[azQ h,azQ h]; exact⟨I,I⟩
theorem IK{l:List UInt8}{n:Nat}(h:Fg l p bad n=false):bad=false∧p+n<=l.length∧YK l p bad n=p+n∧WU l p bad n=(l.drop p).take n:=by
 unfold Fg at h; unfold YK WU; rw[h];simp only[aAI,aAt]at h;exact⟨h.1,Z,by simp,by simp⟩
theorem YL{l:List UInt8}{p n:Nat}{bad:Bool}:(WU l p bad n).length=n:=by
 cases h:Fg l p bad n
 .obtain⟨-,h1,-,h2⟩:=IK h; rw[h2]; simp; omega
 rw[(DK h).2]; simp
theorem WV{l:List UInt8}{n:Nat}(hp:p<=l.length):YK l p bad n<=l.length:=by
 cases h:Fg l p bad n
 .obtain⟨-,h1,h2,-⟩:=IK h; omega
 rw[(DK h).1]; exact hp
theorem agW{l:List UInt8}{p:Nat}{bad:Bool}:∃q:bD,WU l p bad 4=Px.pb q:=by
 have h:=@YL l p 4 bad;match h1:WU l p bad 4,h with
 | [a,b,c,d],_=>exact⟨⟨a,b,c,d⟩,I⟩
theorem aI{b2:Nat}{w u u':World}(h:Ch b w u)(c:Ch b2 u u')(hb:b2=b∨w.heap.size<=b2:=by first | exact .inl I | exact .inr Z):Ch b w u':=by
 rcases hb with rfl | hb
 .exact h.trans c
 exact⟨c.os.trans h.os,c.tape.trans h.tape,c.output.trans h.output,aAa h.size c.size,λi hi hn=>(c.block i (aAk hi h.size) (λe=>by simp only[azT]at e; omega)).trans (h.block i hi hn)⟩
theorem SV{w:World}{a:Option Addr}{l:List UInt8}{n:Nat}(h:jv w (.slice a l.length c) l)(hp:p+n<=l.length)(hn:0<n):l.length<=c∧∃bk o,a=some ⟨bk,o,none⟩∧bk<w.heap.size∧w.rangeAt bk (o+p) (((l.drop p).take n).map fZ):=by
 obtain⟨a',cap,hv,hm,hh⟩:=h;simp only[aAq,true_and]at hv;obtain⟨rfl,rfl⟩:=hv;rcases hh with ⟨rfl,-⟩ | ⟨bk,o,rfl,hb,hl,hc⟩
 .simp only[aA3]at hp; omega
 refine⟨hl,bk,o,I,hb,λj v hj=>?_⟩;have hjn:j<n:=by
  have:=(List.getElem?_eq_some_iff.1 hj).1;simp only[aA5,aAN,aBT]at this; omega
 have h1:=hc (p+j) Z 0 Z;rw[List.getElem?_map,List.getElem?_take_of_lt hjn,List.getElem?_drop,List.getElem?_eq_getElem Z]at hj;obtain rfl:=az1 hj;rw[show o+p+j=o+(p+j)*1+0 by omega,h1]; rfl
theorem aef{w0:World}{a:Option Addr}{l:List UInt8}(h:jv w0 (.slice a l.length c) l)(hp:p+4<=l.length) :
  ∃bk o,(.slice (Sx.pJ a p c 1) (p+4-p) (c-p):Value) = .slice (some ⟨bk,o,none⟩) 4 (c-p)∧bk<w0.heap.size∧w0.rangeAt bk o (((l.drop p).take 4).map fZ):=by
 obtain⟨hl,bk,o,rfl,hb,hr⟩:=SV h hp Z;refine⟨bk,o+p*1,?_,hb,by rw[Nat.mul_one]; exact hr⟩;unfold Sx.pJ;rw[azP Z,aCz]; simp[Addr.add]
theorem aaV{w0 w:World}{a:Option Addr}{pk:Bool}{l:List UInt8}(hE:Ext w0 w)(hx:Bx w b #[.slice a l.length cap,.i p,.bool bad,.bool pk])(hb:w0.heap.size<=b)(h:jv w0 (.slice a l.length cap) l)(hp:p<=l.length) :
  Calls Tryz.prog 116 #[.q b 0,.i 4] w λe w'=>∃bk o c,e = .returned (.slice (some ⟨bk,o,none⟩) 4 c)∧w'.rangeAt bk o ((WU l p bad 4).map fZ)∧bk<w'.heap.size∧(bk<w0.heap.size∨w.heap.size<=bk)∧Ext w0 w'∧Ch b w w'∧Bx w' b #[.slice a l.length cap,.i (YK l p bad 4:Nat),.bool (Fg l p bad 4),.bool pk]:=by
 have hml:l.length<=9223372036854775807:=h.len;refine azN Tryz.func116 Tryz.ntmps116 hE hx hb λS=>azD S 22 [.mem 0 2,.mem 0 0,.mem 0 1,.re 24 (.i (IntKind.i64.wrap ((l.length:Int)-(p:Int)))) (.i (l.length-p:Nat))] [] [(26,.bool ((bad||false)||(decide (((l.length-p:Nat):Int)<4))))] trivial (hk:=⟨(Sx.oZ Z Z),G⟩) λu E4 S=>azm S ((bad||false)||(decide (((l.length-p:Nat):Int)<4))) (λhc5 S=>?_) (λhc5 S=>?_)
 .refine Sx.SL S 0 (off:=2) (v := .bool true) I (λu C7 S=>?_);have Fs8:=(aI ((Ch.trans (Ch.refl b w) (Ch.aT E4))) C7);have hws:=(Fs8).size;refine azs S [.u 0,.u 0,.u 0,.u 0] (λu b10 Bc Ho S=>?_);have hbad:Fg l p bad 4=true:=by unfold Fg; cases bad; (simp at hc5 |-; omega); rfl
  refine apB S (.slice (some ⟨b10,0,none⟩) 4 4) (λS=>?_);exact⟨_,_,_,I,by rw[(DK hbad).2]; exact(S.bx 0).range 0 4 I,(S.bx 0).1,.inr (by have:=Ho; omega),S.E,((Ch.trans Fs8 (Ch.aT Bc))),by rw[(DK hbad).1,hbad]; exact S.bx 1⟩
 have hok:Fg l p bad 4=false:=by unfold Fg; cases bad; (simp at hc5 |-; omega); simp at hc5
 have hlen:=(IK hok).2.1;have hcap:=Sx.iH h;refine adr S 8 [] [.mem 0 1,.re 39 (.i (IntKind.i64.wrap ((p:Int)+4))) (.i (p+4:Nat))] (hk:=⟨(Sx.oZ Z Z),G⟩) λS=>Sx.SL S 0 (off:=1) (v := .i (p+4:Nat)) I (λu C14 S=>?_);have oN:=(aI ((Ch.trans (Ch.refl b w) (Ch.aT E4))) C14);refine azD S 15 [.mem 0 0,.mem 0 1,.re 51 (.i (IntKind.i64.wrap (((p+4:Nat):Int)-4))) (.i p),.mem 0 1,.slc p (p+4) cap cap] [] [(56,.slice (Sx.pJ a p cap 1) (p+4-p) (cap-p))] trivial (λu yZ S=>?_) (hk:=⟨(Sx.oZ Z Z),Z,G⟩);obtain⟨bk,o,hv,hk1,hr⟩:=aef h hlen;have ho:=IK hok;refine apB S (.slice (Sx.pJ a p cap 1) (p+4-p) (cap-p)) (λS=>?_);exact⟨bk,o,cap-p,az0 Ending.returned hv,by rw[ho.2.2.2]; exact Vp.pY hr hk1 S.E,aAk hk1 S.E.size,.inl hk1,S.E,((Ch.trans oN (Ch.aT yZ))),by rw[ho.2.2.1,hok]; have:=S.bx 0; rw[ho.1]at this; exact this⟩
theorem Ey{w0 w:World}{a:Option Addr}{pk:Bool}{l:List UInt8}(hE:Ext w0 w)(hx:Bx w b #[.slice a l.length cap,.i p,.bool bad,.bool pk])(hb:w0.heap.size<=b)(h:jv w0 (.slice a l.length cap) l)(hp:p<=l.length) :
  Calls Tryz.prog 78 #[.q b 0] w λe w'=>∃q:bD,e = .returned (.agg q.cells.toArray)∧Px.pb q=WU l p bad 4∧Ext w0 w'∧Ch b w w'∧Bx w' b #[.slice a l.length cap,.i (YK l p bad 4:Nat),.bool (Fg l p bad 4),.bool pk]:=by
 skip;refine azN Tryz.func78 Tryz.ntmps78 hE hx hb λS=>azs S [.u 0,.u 0,.u 0,.u 0] (λu b2 E3 hb4 S=>?_);have hz0:=S.bx 0;have hz1:=S.bx 1;have hz2:=S.old 0;refine Sx.Aj S 1 [.slice a l.length cap,.i (YK l p bad 4:Nat),.bool (Fg l p bad 4),.bool pk] rfl (aaV S.E (S.bx 1) (S.old 1) h hp) ?_;rintro e u ⟨bk,ok,ck,rfl,hr,hlt,hor,SX,zG,SY⟩;refine⟨_,I,SX,zG,SY,λS=>?_⟩;have LQ:=(aI ((Ch.trans (Ch.refl b w) (Ch.aT E3))) zG);obtain⟨q,hq⟩:=@agW l p bad;rw[hq]at hr;have S:=S.view (cs:=q.cells) hlt hr (λp hp=>by rcases az2.1 hp with rfl | hp; (have:=hz0.1; rcases hor with h | h<;>(intro e; simp only at e; omega)); obtain rfl:=aAn.1 hp; (have:=hz1.1; rcases hor with h | h<;>(intro e; simp only at e; omega)));refine azD S 13 [.idx 0 4,.mem 2 0,.idx 1 4,.mem 2 1,.idx 2 4,.mem 2 2,.idx 3 4,.mem 2 3] [] [(18,.agg q.cells.toArray)] trivial (hk:=⟨O,O,O,O,G⟩) λu E9 S=>azx S 0 (off:=0) (cs:=q.cells) I (λu C10 S=>?_);have JX:=(aI ((Ch.trans LQ (Ch.aT E9))) C10);refine azC S 0 I (v := .agg q.cells.toArray) (λS=>?_);exact⟨q,I,hq.symm,S.E,JX,S.bx 1⟩
theorem S9{w0 w:World}{a:Option Addr}{pk:Bool}{l:List UInt8}(hE:Ext w0 w)(hx:Bx w b #[.slice a l.length cap,.i p,.bool bad,.bool pk])(hb:w0.heap.size<=b)(h:jv w0 (.slice a l.length cap) l)(hp:p<=l.length) :
  Calls Tryz.prog 171 #[.q b 0] w λe w'=>∃q:bD,e = .returned (.agg q.cells.toArray)∧Px.pb q=WU l p bad 4∧Ext w0 w'∧Ch b w w'∧Bx w' b #[.slice a l.length cap,.i (YK l p bad 4:Nat),.bool (Fg l p bad 4),.bool pk]:=by
 skip;refine azN Tryz.func171 Tryz.ntmps171 hE hx hb λS=>azo S λu b2 E3 hb4 S=>Sx.Aj S 1 [.slice a l.length cap,.i (YK l p bad 4:Nat),.bool (Fg l p bad 4),.bool pk] rfl (Ey S.E (S.bx 1) (S.old 1) h hp) ?_;rintro e u ⟨q,rfl,hq,SX,zG,SY⟩;refine⟨_,I,SX,zG,SY,λS=>?_⟩;have LQ:=(aI ((Ch.trans (Ch.refl b w) (Ch.aT E3))) zG);refine azq S 0 I (λu C8 S=>?_);have Fs9:=(aI LQ C8);refine azC S 0 I (v := .agg q.cells.toArray) (λS=>?_);exact⟨q,I,hq,S.E,Fs9,S.kK 1⟩
namespace Px
theorem WW{l:List UInt8}{p:Nat}(hp:p<=l.length):En.yg l (p:Int)=match En.lY 9 (l.drop p)with | .ok (n,k)=>(n,p+k,0) | .error e=>(0,0,e):=by
 unfold En.yg;rw[azP Z]; rfl
theorem ok1{b:List UInt8}{p k x:Nat}(hp:p<=b.length)(hu:En.yg b (p:Int)=(k,x,0)):∃c,En.lY 9 (b.drop p) = .ok (k,c)∧x=p+c∧x<=b.length∧1<=c:=by
 rw[WW hp]at hu;cases hs:En.lY 9 (b.drop p)with
 | error e=>rw[hs]at hu; simp only[azW]at hu; have:=En.FP 9 _ _ hs; omega
 | ok r =>
  obtain⟨k',c⟩:=r;rw[hs]at hu;simp only[azW]at hu;obtain⟨-,h1,h2,-⟩:=En.FN hs;simp only[aBT]at h2;exact⟨c,by rw[hu.1],Z,Z,h1⟩
end Px
end
end Go.Proofs.YtodpgjjgaddkeaaGreatDoor
section
namespace Go.Sx
open Go.Proofs.YtodpgjjgaddkeaaGreatDoor Go.RowKit Go.Rel
variable{P:Program}{ops:Array Oper}{Q:Exit->Act->World->Prop}{w0 w:World}{a:Act}{os:List Oper}{n:Nat}{l:List (Nat×Value)}{bl:List (Nat×List Value)}{vs:List fD}
def aeg(os:List Oper):Option (TypeId×TypeId×Nat×Nat):=match os with
 | _::o::_=>(match o.guard,o.dst,o.op with
  | none,some d,.convert s t (.tmp x)=>some (s,t,x,d)
  | _,_,_=>none)
 | _=>none
theorem WX{w:World}{A:List Value}{e:TypeId}{m:Nat}{fr:Nat×Nat}(hA:A.length=m)(hm:m<=maxLen)(h1:A.all (·.oneCell')=true):dQ (w.alloc (.cells A.toArray e fr)) 1 (.slice (some ⟨w.heap.size,0,none⟩) m m) m A:=by
 refine⟨Z,λu hu=>by rw[aAr]at h1; exact h1 u hu,.inr ⟨w.heap.size,0,m,I,by simp,azS _,hm,λj u hj=>?_⟩⟩;have:(w.alloc (.cells A.toArray e fr)).heap[w.heap.size]?=some (.cells A.toArray e fr):=by
  show(w.heap.push (.cells A.toArray e fr))[w.heap.size]?=_;simp
 rw[aAK];unfold World.cell?;rw[this];simpa using hj
theorem lit(S:St w0 a w n l bl vs)(d1 d2 m:Nat)(A:List Value)(t e:TypeId)(ht:P.underlying t=some (.slice e))(he:P.underlying e=some (.int .u8))
  (next:∀{a' w' b},Ext w w'->dQ w' 1 (.slice (some ⟨b,0,none⟩) m m) m A->St w0 a' w' n ((d2,.slice (some ⟨b,0,none⟩) m m)::l) bl vs->wpList P ops Q (os.drop 2) a' w')
  (hl:(l.lookup d1).isNone=true:=by kernel_rfl) (h12:(d1==d2)=false:=by rfl)
  (hx:∀r,wR P r os l=some (A,e,.slice (some ⟨r,0,none⟩) m m,some d1):=by intro r; kernel_rfl) (h2:aeg os=some (t,t,d1,d2):=by kernel_rfl) (hA:A.length=m:=by rfl) (hm:m<=maxLen:=by decide) (h1:A.all (·.oneCell')=true:=by kernel_rfl)
  (hd1:vI n (some d1)=true:=by rfl) (hd2:vI n (some d2)=true:=by rfl):wpList P ops Q os a w:=by
 have hx:=hx w.heap.size;cases os with
 | nil=>cases h2
 | cons o os =>
 cases os with
 | nil=>cases h2
 | cons o2 os =>
  unfold wR at hx;unfold aeg at h2;simp only at hx h2;split at hx
  .rename_i A' ty k' hg hav hev;split at hx
   .rename_i v hv;simp only[azT,azW]at hx;obtain⟨rfl,rfl,rfl,hdst⟩:=hx;simp only[aAI]at hav;have hc:execOp a.eval o=execOp (yP (lift l) []) o:=by
     refine execOp_congr o (λcs b e1=>by rw[e1]at hav; cases hav.1) λx hx=>?_;have h2:=hav.2;simp only[aBg,aB7]at h2;obtain⟨v,hv⟩:=aAY.1 (h2 x hx);rw[gX (Std.act a) (iq (bZ S.s) o x hx) (p:=[]) I hv];simp[yP,hv]
    have hv':ev0 P k'=some (.value (.slice (some ⟨w.heap.size,0,none⟩) m m)):=by
     unfold iT at hv;split at hv
     .rename_i h; obtain h2:=az1 hv; rw[h]; simp only[EZ.val.injEq]at h2; rw[h2]
     .cases hv
     cases hv
    have hrun:(execOp a.eval o).run P w = .ok (.value (.slice (some ⟨w.heap.size,0,none⟩) m m)) (w.alloc (.cells A'.toArray ty)):=by rw[hc,ni hev,nO hv']
    split at h2
    .rename_i d s' t' x hg2 anu hop2;simp only[azT,azW]at h2;obtain⟨rfl,rfl,rfl,rfl⟩:=h2;unfold wpList;rw[azQ (by simp[Region.wanted,hg])];left;unfold Oper.wp;rw[hrun];simp only[Oper.upon];rw[hdst];have hs1:=uP (d:=some x) S.s hd1 (.slice (some ⟨w.heap.size,0,none⟩) m m);have ex:(a.put (some x) (.slice (some ⟨w.heap.size,0,none⟩) m m)).eval (.tmp x) = .slice (some ⟨w.heap.size,0,none⟩) m m:=hs1.has x _ (by simp[yQ]);have hrun2:(execOp (a.put (some x) (.slice (some ⟨w.heap.size,0,none⟩) m m)).eval o2).run P (w.alloc (.cells A'.toArray ty)) = .ok (.value (.slice (some ⟨w.heap.size,0,none⟩) m m)) (w.alloc (.cells A'.toArray ty (A'.toArray.size,A'.toArray.size+1))):=by
      unfold execOp;rw[hop2];simp only[ex];rw[aAS,Go.Lib.run_convert_bytes_const w _ ty A'.toArray m m ht he];rfl
     unfold wpList;rw[azQ (by simp[Region.wanted,hg2])];left;unfold Oper.wp;rw[hrun2];simp only[Oper.upon];rw[anu];have hs2:=uP (d:=some d) hs1 hd2 (.slice (some ⟨w.heap.size,0,none⟩) m m);have hE:Ext w (w.alloc (.cells A'.toArray ty (A'.toArray.size,A'.toArray.size+1))):=aF _ _;refine next hE (WX hA hm h1) ((S.grow hE).act ⟨hs2.size,hs2.defers,λi v hi=>hs2.has i v ?_⟩);simp only[yQ,aAG]at hi |-;by_cases hid:i=d
     .subst hid; simpa using hi
     have e1:(i==d)=false:=by simpa using hid
     simp only[e1]at hi |-;by_cases hix:i=x
     .subst hix;rw[Option.isNone_iff_eq_none.1 hl]at hi; cases hi
     have e2:(i==x)=false:=by simpa using hix
     simpa only[e2]using hi
    cases h2
   cases hx
  cases hx
def aiz(os:List Oper)(l:List (Nat×Value)):Option (TypeId×TypeId×ByteArray×Nat):=match os with
 | o::_=>(match o.guard,o.dst,o.op with
  | none,some d,.convert s t x=>(match rd (lift l) [] x with
   | some (.string z)=>some (s,t,z,d)
   | _=>none)
  | _,_,_=>none)
 | _=>none
theorem bytesOf(S:St w0 a w n l bl vs)(d:Nat)(bs:List UInt8){src dst e:TypeId}(hs:P.underlying src=some .string)(hd:P.underlying dst=some (.slice e))(he:P.underlying e=some (.int .u8))(hn:bs.length<=maxLen)
  (next:∀{a' w' b cap},Ext w w'->bK w' (.slice (some ⟨b,0,none⟩) bs.length cap) bs->St w0 a' w' n ((d,.slice (some ⟨b,0,none⟩) bs.length cap)::l) bl vs->wpList P ops Q (os.drop 1) a' w')
  (hx:aiz os l=some (src,dst,⟨bs.toArray⟩,d):=by kernel_rfl) (hdd:vI n (some d)=true:=by rfl):wpList P ops Q os a w:=by
 cases os with
 | nil=>cases hx
 | cons o os =>
  unfold aiz at hx;simp only at hx;split at hx
  .rename_i d' s' t' x hg hdst hop;split at hx
   .rename_i z hxx;simp only[azT,azW]at hx;obtain⟨rfl,rfl,rfl,rfl⟩:=hx;have hst:=iq (bZ S.s) o;have ex:a.eval x = .string ⟨bs.toArray⟩:=gX (Std.act a) (hst x (by rw[hop]; simp[Op.operands])) (p:=[]) I hxx;have hsz:(⟨bs.toArray⟩:ByteArray).size=bs.length:=by simp[ByteArray.size]
    have hr:=Go.run_bytes_of_string (P:=P) w s' t' e ⟨bs.toArray⟩ hs hd he;rw[hsz]at hr;have hE:Ext w (w.drew.alloc (.cells (Go.bytesRow ⟨bs.toArray⟩ (grownCap w bs.length 0 e)) e ((Go.bytesRow ⟨bs.toArray⟩ (grownCap w bs.length 0 e)).size,(Go.bytesRow ⟨bs.toArray⟩ (grownCap w bs.length 0 e)).size+1))):=K00 (below_drewN (aAe _ _) 1) (aF _ _);refine am3 S d' _ I hg hdst (by unfold execOp; rw[hop]; simp only[ex]; rw[aAS,hr]; rfl) hE (λS=>next hE ⟨_,_,I,grownCap_le_maxLen _ _ _ _ hn,.inr ⟨_,0,I,by show w.heap.size<(w.heap.push _).size; rw[Array.size_push]; omega,grownCap_ge _ _ _ _,λi hi=>?_⟩⟩ S) hdd;generalize grownCap w bs.length 0 e=cap;have:∀(A:Array Value) (fr:Nat×Nat),(w.drew.alloc (.cells A e fr)).heap[w.heap.size]?=some (.cells A e fr):=λA fr=>by
     show(w.heap.push (.cells A e fr))[w.heap.size]?=_;simp
    rw[aAK];unfold World.cell?;rw[this];simp only[Go.bytesRow,aCy];rw[Array.getElem?_append_left (by simpa using hi)];simp[hi,fZ]
   cases hx
  cases hx
end Go.Sx
namespace fP
def one(s:UInt32):UInt32:=if s&&&1=1 then (s>>>1)^^^0xedb88320 else s>>>1
def many:Nat->UInt32->UInt32
 | 0,s=>s
 | n+1,s=>one (many n s)
def byte(s:UInt32)(c:UInt8):UInt32:=many 8 (s^^^c.toUInt32)
def reg(s:UInt32)(l:List UInt8):UInt32:=l.foldl byte s
def update(s:UInt32)(l:List UInt8):UInt32:=(reg (s^^^0xffffffff) l)^^^0xffffffff
def crc(ls:List (List UInt8)):UInt32:=ls.foldl update 0
def le4(s:UInt32):List UInt8:=[s.toUInt8,(s>>>8).toUInt8,(s>>>16).toUInt8,(s>>>24).toUInt8]
def app(b:List UInt8):List UInt8:=b++le4 (update 0 b)
end fP
namespace Go.Proofs.YtodpgjjgaddkeaaGreatDoor
open Go.RowKit
variable{α:Type}
theorem aeh(s:UInt32)(l:List UInt8)(c:UInt8):fP.reg s (l++[c])=fP.byte (fP.reg s l) c:=by simp[fP.reg]
theorem aei(s:UInt32)(l:List UInt8)(k:Nat)(h:k<l.length):fP.reg s (l.take (k+1))=fP.byte (fP.reg s (l.take k)) l[k]:=by
 rw[take_snoc l k h,aeh]
theorem agX(x:UInt32)(h:(bits .and .u32 (x.toNat:Int) 1==1)=true):bits .xor .u32 ((x.toNat:Int)/(2:Int)) 3988292384=((fP.one x).toNat:Int):=by
 rw[acC,amO];rw[ail]at h;have h':x&&&1=1:=by
  apply aBq.1;simp only[az4]at h;have:=h; simp only[UInt32.reduceToNat]; omega
 simp[fP.one,h']
theorem akB(x:UInt32)(h:(bits .and .u32 (x.toNat:Int) 1==1)=false):((x.toNat:Int)/(2:Int))=((fP.one x).toNat:Int):=by
 rw[acC];rw[ail]at h;have h':¬x&&&1=1:=by
  intro e; rw[e]at h; simp at h
 simp[fP.one,h']
set_option maxHeartbeats 400000 in
theorem Tc(s:UInt32)(v:Value)(l:List UInt8)(w:World)(hv:bK w v l) :
  Calls Tryz.prog 97 #[bn s,v] w λe w'=>e = .returned (bn (fP.update s l))∧w=w':=by
 obtain⟨a,cap,rfl,hm,ha⟩:=hv;have hl:=qY hm ha;have HA:=azO ha;clear ha;go_enter Tryz.func97,Tryz.ntmps97
 go_wp2
 go_loop [0,12] (λs1 i=>∃k:Nat,k<=l.length∧i = .i k∧s1=bn (fP.reg (s^^^0xffffffff) (l.take k))) (λ_ i=>l.length-(intOf i).toNat)
 case atStart=>exact⟨0,azZ _,I,by rw[aik,acE]; rfl⟩
 case round =>
  obtain⟨k,hk,rfl,rfl⟩:=hrel;by_cases hlt:k<l.length
  .rcases HA.out with ⟨rfl,_⟩ | ⟨b,o,rfl,hb,hlc,hc⟩
   .simp at hlt
   have hck:=hc k hlt;go_wp2
   go_loop [0,20] (λs1 i=>∃j:Nat,j<=8∧i = .i j∧s1=bn (fP.many j ((fP.reg (s^^^0xffffffff) (l.take k))^^^l[k].toUInt32))) (λ_ i=>8-(intOf i).toNat)
   case atStart=>exact⟨0,azZ _,I,by rw[ajB,ajA]; rfl⟩
   case round =>
    obtain⟨j,hj,rfl,rfl⟩:=hrel;by_cases hlt:j<8
    .have E:Hid (fP.many (j+1) ((fP.reg (s^^^0xffffffff) (l.take k))^^^l[k].toUInt32)=fP.one (fP.many j ((fP.reg (s^^^0xffffffff) (l.take k))^^^l[k].toUInt32))):=I;generalize fP.many j ((fP.reg (s^^^0xffffffff) (l.take k))^^^l[k].toUInt32)=x at E;go_wp2
     .go_round
      case rel=>exact⟨j+1,Z,by go_num,by rw[E.out,agX x ‹_›]⟩
      case measure=>simp[intOf]; omega
     go_round
     case rel=>exact⟨j+1,Z,by go_num,by rw[E.out,akB x ‹_›]⟩
     case measure=>simp[intOf]; omega
    obtain rfl:j=8:=by omega
    go_wp2
    go_round
    case rel=>exact⟨k+1,Z,by go_num,by rw[aei _ _ _ ‹_›]; rfl⟩
    case measure=>simp[intOf]; omega
  obtain rfl:k=l.length:=by omega
  go_wp2
  go_ret
  exact⟨jw (by rw[aik,acE]; simp only[fP.update]),I⟩
theorem aej(l:List (List UInt8))(k:Nat)(h:k<l.length):fP.crc (l.take (k+1))=fP.update (fP.crc (l.take k)) l[k]:=by
 rw[take_snoc l k h]; simp only[fP.crc,List.foldl_append,List.foldl_cons,List.foldl_nil]
set_option maxHeartbeats 400000 in
theorem crc32(v:Value)(l:List (List UInt8))(w:World)(hv:xW w v l) :
  Calls Tryz.prog 60 #[v] w λe w'=>e = .returned (bn (fP.crc l))∧w=w':=by
 obtain⟨a,cap,rfl,hm,ha⟩:=hv;have hl:=acA hm ha;have HA:=azO ha;clear ha;go_enter Tryz.func60,Tryz.ntmps60
 go_wp2
 go_loop [3,8] (λs1 i=>∃k:Nat,k<=l.length∧i = .i k∧s1=bn (fP.crc (l.take k))) (λ_ i=>l.length-(intOf i).toNat)
 case atStart=>exact⟨0,azZ _,I,I⟩
 case round =>
  obtain⟨k,hk,rfl,rfl⟩:=hrel;by_cases hlt:k<l.length
  .rcases HA.out with ⟨rfl,_⟩ | ⟨b,o,rfl,hb,hlc,hc⟩
   .simp at hlt
   obtain⟨x,hck,hx⟩:=hc k hlt;go_wp2_with fail
   refine(Tc _ x l[k] _ hx).mono ?_;rintro e w' ⟨rfl,rfl⟩;go_wp2
   go_round
   case rel=>exact⟨k+1,Z,by go_num,by rw[aej l k ‹_›]⟩
   case measure=>simp[intOf]; omega
  obtain rfl:k=l.length:=by omega
  go_wp2
  go_ret
  exact⟨jw (by simp only),I⟩
