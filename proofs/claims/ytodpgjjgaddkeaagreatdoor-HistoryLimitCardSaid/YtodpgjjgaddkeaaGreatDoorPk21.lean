/- Walks of binenc: PutUvarint and the reference's; Same. -/
import Derived.Deep.RegionHeld3
import Derived.Laws.DeepNot64
import Derived.Lib.Zigzag
import Derived.Test.YtodpgjjgaddkeaaGreatDoorPk20
import Derived.Lib.SlBytesConst
import Derived.Laws.AppendOwn
set_option maxHeartbeats 3200000
set_option maxRecDepth 100000
set_option linter.unusedVariables false
set_option linter.unusedSimpArgs false
namespace Go.Proofs.YtodpgjjgaddkeaaGreatDoor
section
open Go.RowKit En
variable{α:Type}
theorem akn:∀m:Fin 256,m.val|||128=m.val%128+128:=by decide
theorem ako(n:Nat):bits .or .u8 ((n:Int)%256) 128=(n:Int)%128+128:=by
 have h:=akn ⟨n%256,aAY _ (by decide)⟩;have:=u8_or_nat (n%256) 128 (by omega) (by omega);rw[show((128:Nat):Int)=128 from rfl,show((n%256:Nat):Int)=(n:Int)%256 by omega]at this;rw[this,h]; simp only; omega
theorem fO(x:Nat)(w:World)(hx:x<18446744073709551616) :
  Calls Tryz.prog 30 #[.int .u64 (x:Int)] w fun e w'=>∃v',e = .returned v'∧w'.ownsRow w.heap.size 5 1 v' (dV 10 x).length ((dV 10 x).map gu)∧Ext w w':=by
 go_enter Tryz.func30,Tryz.ntmps30
 go_wp2
 go_loopw [0,3] (fun xv v wr=>∃(f n:Nat) (out:List UInt8),xv = .int .u64 n∧n<18446744073709551616∧n<128^(f+1)∧out.length+f=9∧dV 10 x=out++dV (f+1) n∧wr.ownsRow w.heap.size 5 1 v out.length (out.map gu)∧Ext w wr) (fun xv _ _=>(intOf xv).toNat)
 case atStart=>exact⟨9,x,[],rfl,hx,by omega,rfl,rfl,aB8 _ _ _ _,az5 _ _⟩
 case round =>
  obtain⟨f,n,out,rfl,hn,hf,hl,hu,hown,hbel⟩:=hrel;have HU:=azF hu;have h63:out.length+1≤maxLen:=by unfold maxLen; omega
  have hby:(out.length+1)*1≤140737488355328:=by omega
  have hsz:w.heap.size≤wr.heap.size:=hbel.size;clear hu;by_cases hlt:n<128
  ·have hr:=nM wr (.u (n:Int)) 5 rfl;have hown':=hown.alloc (.cells #[.u (n:Int)] 5);have hsz':w.heap.size≤(wr.alloc (.cells #[.u (n:Int)] 5)).heap.size:=by simp; omega
   clear hown;have hn8:(n:Int)%256=n:=by omega
   go_wp2_with (at_builtin; refine bM rfl _ _ _ rfl yX w.heap.size hown' rfl hr rfl h63 hby hsz' ?_; intro v' w' hown2 hg)
   go_ret
   refine⟨_,rfl,?_,(hbel.alloc hsz _).grown hg hsz' (fun k hk=>(World.ownsRow.lt hown' k hk).1)⟩;have e:dV 10 x=out++[UInt8.ofNat n]:=by rw[HU.out,dV,azI hlt]
   rw[e];simpa[gu,Hr (show n<256 by omega)]using hown2
  cases f with
  | zero=>exact absurd hf (by omega)
  | succ f =>
   have hr:=nM wr (.u ((n:Int)%128+128)) 5 rfl;have hown':=hown.alloc (.cells #[.u ((n:Int)%128+128)] 5);have hsz':w.heap.size≤(wr.alloc (.cells #[.u ((n:Int)%128+128)] 5)).heap.size:=by simp; omega
   have hn8:=ako n;clear hown;go_wp2_with (at_builtin; refine bM rfl _ _ _ rfl yX w.heap.size hown' rfl hr rfl h63 hby hsz' ?_; intro v' w' hown2 hg)
   go_roundw
   case rel =>
    refine⟨f,n/128,out++[UInt8.ofNat (n%128+128)],by simp,by omega,?_,by simp; omega,?_,?_,(hbel.alloc hsz _).grown hg hsz' (fun k hk=>(World.ownsRow.lt hown' k hk).1)⟩
    ·rw[aAr]at hf; exact aBQ (by omega)
    ·rw[HU.out,dV,azG hlt]; simp
    simpa[gu,Hr (show n%128+128<256 by omega),show((n:Int)%128+128)%256=(n:Int)%128+128 by omega]using hown2
   case measure=>simp[intOf]; omega
open Go.RowKit En
variable{α:Type}
open Go.RowKit En
variable{α:Type}
theorem ad1(a:Nat)(ha:a<18446744073709551616):bits .xor .u64 (a:Int) 18446744073709551615=((18446744073709551615-a:Nat):Int):=by
 have h1:=aqv (UInt64.ofNat a) (-1);have e1:(UInt64.ofNat a).toNat=a:=by simp; omega
 have e2:(((-1:UInt64).toNat:Nat):Int)=18446744073709551615:=by decide
 rw[e1,e2,UInt64.xor_neg_one,UInt64.toNat_not,e1]at h1;rw[h1]; rfl
theorem ad2(x:Int)(h : -9223372036854775808≤x)(h2:x≤9223372036854775807) :
  bits BinOp.xor IntKind.u64 (IntKind.u64.wrap (IntKind.u64.wrap x*2)) (IntKind.u64.wrap (x/9223372036854775808))=((zig x:Nat):Int):=by
 rw[aAX,aAX,aAX];unfold zig;split
 ·rw[show x/9223372036854775808%18446744073709551616=18446744073709551615 by omega];rw[show x%18446744073709551616*2%18446744073709551616=(((2*x+18446744073709551616).toNat:Nat):Int) by omega,ad1 _ (by omega)];omega
 rw[show x/9223372036854775808%18446744073709551616=((0:Nat):Int) by omega];rw[show x%18446744073709551616*2%18446744073709551616=(((2*x).toNat:Nat):Int) by omega,u64_xor_nat _ _ (by omega) (by omega),Nat.xor_zero]
theorem yS(x:Int)(w:World)(h : -9223372036854775808≤x)(h2:x≤9223372036854775807) :
  Calls Tryz.prog 85 #[.i x] w fun e w'=>∃v',e = .returned v'∧w'.ownsRow w.heap.size 5 1 v' (dV 10 (zig x)).length ((dV 10 (zig x)).map gu)∧Ext w w':=by
 have HC:=azF (fO (zig x) w (NQ h h2));go_enter Tryz.func85,Tryz.ntmps85
 go_wp2_with fail
 rw[ad2 x h h2];refine HC.out.mono ?_;rintro e w' ⟨v',rfl,ho,hb⟩;go_wp2_with fail
 go_ret
 exact⟨_,rfl,ho,hb⟩
open Go.RowKit En
variable{α:Type}
theorem Iu(v:Value)(l:List UInt8)(i:Int)(w:World)(hv:bJ w v l)(h:i<0∨(l.length:Int)<i) :
  Calls Tryz.prog 73 #[v,.i i] w fun e w'=>e = .returned (.tuple #[.pointer none,.i 2])∧w=w':=by
 obtain⟨a,cap,rfl,hm,ha⟩:=hv;have hl:=qX hm ha;clear ha;go_enter Tryz.func73,Tryz.ntmps73
 by_cases h1:i<0
 ·go_wp2_with fail
  go_ret2
  exact⟨rfl,rfl⟩
 have h2:(l.length:Int)<i:=by omega
 clear h;go_wp2_with fail
 go_ret2
 exact⟨rfl,rfl⟩
theorem aaK(v:Value)(l:List UInt8)(i:Nat)(w:World)(hv:bJ w v l)(h:i≤l.length) :
  Calls Tryz.prog 73 #[v,.i i] w fun e w'=>e = .returned (.tuple #[.q w.heap.size 0,.i 0])∧w'=w.alloc (.cells #[v,.i i] 144):=by
 obtain⟨a,cap,rfl,hm,ha⟩:=hv;have hl:=qX hm ha;clear ha;go_enter Tryz.func73,Tryz.ntmps73
 go_wp2_with fail
 go_ret2
 exact⟨rfl,rfl⟩
theorem RY(v:Value)(l:List UInt8)(b p:Nat)(w:World)(hv:bJ w v l)(h0:w.cell? ⟨b,0,none⟩=some v)(h1:w.cell? ⟨b,1,none⟩=some (.i p))(hp:p≤l.length) :
  Calls Tryz.prog 112 #[.q b 0] w fun e w'=>e = .returned (.i (l.length-p:Nat))∧∃n,w'=w.drewN n:=by
 obtain⟨a,cap,rfl,hm,ha⟩:=hv;have hl:=qX hm ha;clear ha;go_enter Tryz.func112,Tryz.ntmps112
 go_wp2_with fail
 go_quiet (fail)
 go_wp2_with fail
 go_ret
 exact⟨jv (by omega),_,rfl⟩
open Go.RowKit En
variable{α:Type}
theorem ad3{bb o n c n' c':Nat}{ad:Addr}(h:Value.slice (some ⟨bb,o,none⟩) n c = .slice (some ad) n' c'):bb=ad.block:=by
 simp only[aAg,azK]at h; rw[←h.1]
theorem agP{f:α→Value}{w:World}{bb o cap p k:Nat}{l:List α}(hm:cap≤maxLen)(hp:p+k≤l.length)(hlc:l.length≤cap)(hb:bb<w.heap.size)
  (hc:∀i (h:i<l.length),w.cell? ⟨bb,o+i,none⟩=some (f l[i])):dD f w (.slice (if cap=p then some ⟨bb,o,none⟩else some ⟨bb,o+p,none⟩) k (cap-p)) ((l.drop p).take k):=by
 have e:((l.drop p).take k).length=k:=by simp; omega
 rcases aAt k with rfl | hk
 ·refine⟨_,cap-p,by rw[e],by omega,.inl ⟨by simp,fun h=>?_⟩⟩;split at h<;>simp at h
 rw[azG (by omega)];refine⟨_,cap-p,by rw[e],by omega,.inr ⟨bb,o+p,rfl,hb,by rw[e]; omega,fun i hi=>?_⟩⟩;rw[e]at hi;rw[aBD,hc (p+i) (by omega)]; simp
theorem aaL(l:List UInt8)(b p k bb o cap:Nat)(w:World)(hm:cap≤maxLen)(hlc:l.length≤cap)(hbb:bb<w.heap.size)(hne:bb≠b)
  (hcs:∀i (h:i<l.length),w.cell? ⟨bb,o+i,none⟩=some (gu l[i])) (h0:w.cell? ⟨b,0,none⟩=some (.slice (some ⟨bb,o,none⟩) l.length cap)) (h1:w.cell? ⟨b,1,none⟩=some (.i p))
  (hfz:w.frozen? ⟨b,1,none⟩=false) (hp:p+k≤l.length) :
  Calls Tryz.prog 113 #[.q b 0,.i k] w fun e w'=>∃v' n,e = .returned v'∧w'=(w.setCell ⟨b,1,none⟩ (.i ((p:Int)+(k:Int)))).drewN n ∧
   bJ w' v' ((l.drop p).take k)∧∀ad n cap',v' = .slice (some ad) n cap'→bb=ad.block:=by
 have HC:=azF hcs;clear hcs;have hc:p+k≤cap:=by omega
 have hi0:(0:Int)≤(p:Int):=by omega
 have hi1:(p:Int)≤(p:Int)+(k:Int):=by omega
 have hi2:(p:Int)+(k:Int)≤(cap:Int):=by omega
 have hi4:IntKind.i64.wrap ((p:Int)+(k:Int))=(p:Int)+(k:Int):=by rw[aB7]; have:maxLen=9223372036854775807:=rfl; omega
 have hi5:((p:Int)+(k:Int)).toNat=p+k:=by omega
 have hc2:p≤p+k:=by omega
 have hc3:p+k-p=k:=by omega
 have hc4:p≤cap:=by omega
 have hrow:bJ ((w.setCell ⟨b,1,none⟩ (.i ((p:Int)+(k:Int)))).drewN 1) (.slice (if cap=p then some ⟨bb,o,none⟩else some ⟨bb,o+p,none⟩) k (cap-p)) ((l.drop p).take k):=
  agP hm hp hlc (by simpa using hbb) (fun i h=>by rw[World.cell?_drewN,World.cell?_setCell_other _ _ _ _ (by simp only[ne_eq,aBI]; omega)]; exact HC.out i h)
 by_cases hcp:cap=p
 ·rw[azI hcp]at hrow;have HR:=azF hrow;clear hrow;subst hcp;have HR:=azF (by have h:=HR.out; rw[aBH]at h; exact h);go_enter Tryz.func113,Tryz.ntmps113
  go_wp2_with fail
  go_region_held3 (fun w'=>w'.cell? ⟨b,0,none⟩=some (.slice (some ⟨bb,o,none⟩) l.length cap)∧w'.cell? ⟨b,1,none⟩=some (.i cap)) (go_keep) (fail)
  go_wp2_with fail
  go_ret
  exact⟨_,1,rfl,rfl,HR.out,fun _ _ _ e=>ad3 e⟩
 rw[azG hcp]at hrow;have HR:=azF hrow;clear hrow;go_enter Tryz.func113,Tryz.ntmps113
 go_wp2_with fail
 go_region_held3 (fun w'=>w'.cell? ⟨b,0,none⟩=some (.slice (some ⟨bb,o,none⟩) l.length cap)∧w'.cell? ⟨b,1,none⟩=some (.i p)) (go_keep) (fail)
 go_wp2_with fail
 go_ret
 exact⟨_,1,rfl,rfl,HR.out,fun _ _ _ e=>ad3 e⟩
open Go.RowKit En
variable{α:Type}
structure Rd (w:World) (b:Nat) (v:Value) (l:List UInt8) (p:Nat):Prop where
 c0:w.cell? ⟨b,0,none⟩=some v
 c1:w.cell? ⟨b,1,none⟩=some (.i p)
 fz:w.frozen? ⟨b,1,none⟩=false
 row:bJ w v l
 off:0<l.length→Off b v
 hp:p≤l.length
 lt:b<w.heap.size
theorem Rd.drewN{w:World}{b:Nat}{v:Value}{l:List UInt8}{p:Nat}(h:Rd w b v l p)(n:Nat):Rd (w.drewN n) b v l p:=
 ⟨by rw[World.cell?_drewN]; exact h.c0,by rw[World.cell?_drewN]; exact h.c1,by rw[World.frozen?_drewN]; exact h.fz,h.row.below (below_drewN (az5 _ _) n),h.off,h.hp,by simpa using h.lt⟩
theorem Rd.ext{w w':World}{b:Nat}{v:Value}{l:List UInt8}{p:Nat}(h:Rd w b v l p)(hb:Ext w w'):Rd w' b v l p:=
 ⟨by rw[hb.cell (p:=⟨b,0,none⟩) h.lt]; exact h.c0,by rw[hb.cell (p:=⟨b,1,none⟩) h.lt]; exact h.c1,by rw[hb.frozen (p:=⟨b,1,none⟩) h.lt]; exact h.fz,h.row.below hb,h.off,h.hp,by have:=hb.size; have:=h.lt; omega⟩
theorem Rd.set{w:World}{b:Nat}{v:Value}{l:List UInt8}{p q:Nat}(h:Rd w b v l p)(hq:q≤l.length):Rd (w.setCell ⟨b,1,none⟩ (.i q)) b v l q:=
 ⟨by rw[World.cell?_setCell_other _ _ _ _ (by simp)]; exact h.c0,World.cell?_setCell_same _ _ _ h.c1,by simpa using h.fz,h.row.ch ((Ch.refl b w).setCell _ _) h.off,h.off,hq,by simpa[World.setCell]using h.lt⟩
theorem next_any(l:List UInt8)(b p k:Nat)(v:Value)(w:World)(h:Rd w b v l p)(hk:p+k≤l.length)(h0:0<l.length) :
  Calls Tryz.prog 113 #[.q b 0,.i k] w fun e w'=>∃v',e = .returned v'∧Rd w' b v l (p+k)∧Ch b w w'∧bJ w' v' ((l.drop p).take k)∧Off b v':=by
 obtain⟨bb,o,cap,hv,hb,hl,hm,hc⟩:=dN h.row rfl h0;subst hv;have hne:bb≠b:=h.off h0 _ _ _ rfl;refine(aaL l b p k bb o cap w hm hl hb hne hc h.c0 h.c1 h.fz hk).mono ?_;rintro e w' ⟨v',n,rfl,hw,hr,hoff⟩;have he:(p:Int)+(k:Int)=((p+k:Nat):Int):=by omega
 rw[he]at hw;refine⟨v',rfl,?_,?_,hr,?_⟩
 ·rw[hw]; exact(h.set hk).drewN n
 ·rw[hw]; exact((Ch.refl b w).setCell _ _).drewN n
 intro ad n' cap' hv';exact fun e=>hne (by rw[←e]; exact hoff ad n' cap' hv')
theorem Oz(v:Value)(l:List UInt8)(i:Nat)(w:World)(hv:bJ w v l)(h:i≤l.length) :
  Calls Tryz.prog 73 #[v,.i i] w fun e w'=>∃b,e = .returned (.tuple #[.q b 0,.i 0])∧Rd w' b v l i∧Ext w w'∧w.heap.size≤b:=by
 refine(aaK v l i w hv h).mono ?_;rintro e w' ⟨rfl,rfl⟩;refine⟨_,rfl,⟨?_,?_,?_,hv.below (aF _ _),af6 hv (azJ _),h,by simp⟩,aF _ _,azJ _⟩
 ·rw[World.cell?_alloc_at _ _ _ _ rfl]; rfl
 ·rw[World.cell?_alloc_at _ _ _ _ rfl]; rfl
 rw[World.frozen?_alloc_at _ _ _ _ rfl]
open Go.RowKit En
variable{α:Type}
def OA(w:World)(b:Nat)(v:Value)(l:List UInt8)(p:Nat)(r:Except Nat (Nat×Nat))(e:Ending)(w':World):Prop:=
 ∃q,Rd w' b v l q∧Ch b w w'∧(match r with
  | .ok (n,k)=>q=p+k∧e = .returned (.tuple #[.int .u64 (n:Int),.i 0])
  | .error er=>e = .returned (.tuple #[.int .u64 0,.i er]))
theorem OB(l:List UInt8)(b p:Nat)(v:Value)(w:World)(h:Rd w b v l p) :
  Calls Tryz.prog 112 #[.q b 0] w fun e w'=>e = .returned (.i (l.length-p:Nat))∧Rd w' b v l p∧Ch b w w':=by
 refine(RY v l b p w h.row h.c0 h.c1 h.hp).mono ?_;rintro e w' ⟨rfl,n,rfl⟩;exact⟨rfl,h.drewN n,(Ch.refl b w).drewN n⟩
theorem Wp{w:World}{b:Nat}{v:Value}{l:List UInt8}{p k f acc c:Nat}{w':World}(hu:Hid (lT 9 (l.drop p)=comb k acc (lT f (l.drop (p+k)))))(hf:lT f (l.drop (p+k)) = .ok (c,1))
  (hr:Rd w' b v l (p+k+1)) (hc:Ch b w w') {x:Int} (hx:x=((acc+128^k*c:Nat):Int)):OA w b v l p (lT 9 (l.drop p)) (.returned (.tuple #[.int .u64 x,.i 0])) w':=by
 refine⟨p+k+1,hr,hc,?_⟩;rw[hu.out,hf,hx];exact⟨by omega,rfl⟩
theorem FH{w:World}{b:Nat}{v:Value}{l:List UInt8}{p k f acc q er:Nat}{w':World}(hu:Hid (lT 9 (l.drop p)=comb k acc (lT f (l.drop (p+k)))))(hf:lT f (l.drop (p+k)) = .error er)
  (hr:Rd w' b v l q) (hc:Ch b w w'):OA w b v l p (lT 9 (l.drop p)) (.returned (.tuple #[.int .u64 0,.i er])) w':=by
 refine⟨q,hr,hc,?_⟩;rw[hu.out,hf];rfl
theorem Wq:∀c:Fin 256,bits .andNot .u8 (c.val:Int) 128=((c.val%128:Nat):Int):=by decide +kernel
theorem RZ(c:UInt8)(acc k:Nat)(h:acc<128^k)(hk:k≤9)(h9:k<9∨c.toNat<2) :
  bits BinOp.or IntKind.u64 (acc:Int) (IntKind.u64.wrap (IntKind.u64.wrap (bits BinOp.andNot IntKind.u8 (c.toNat:Int) 128)*2^(7*k)))=((acc+128^k*(c.toNat%128):Nat):Int):=by
 have h1:=Wq ⟨c.toNat,c.toNat_lt⟩;simp only at h1;rw[h1];have e128:(128:Nat)^k=2^(7*k):=by rw[Nat.pow_mul]
 have hp:2^(7*k)≤2^63:=aAK (by omega) (by omega);have hb:(c.toNat%128)*2^(7*k)<18446744073709551616:=by
  rcases h9 with h9 | h9
  ·have h2:2^(7*k)≤2^56:=aAK (by omega) (by omega);have h3:c.toNat%128≤127:=by omega
   have:=aBo h3 h2;omega
  have h3:c.toNat%128≤1:=by omega
  have:=aBo h3 hp;omega
 have w1:IntKind.u64.wrap ((c.toNat%128:Nat):Int)=((c.toNat%128:Nat):Int):=by rw[aAX]; omega
 rw[w1];have w2:((c.toNat%128:Nat):Int)*2^(7*k)=(((c.toNat%128)*2^(7*k):Nat):Int):=by push_cast; rfl
 rw[w2,aAX];have w3:(((c.toNat%128)*2^(7*k):Nat):Int)%18446744073709551616=(((c.toNat%128)*2^(7*k):Nat):Int):=by omega
 rw[w3,u64_or_nat _ _ (by omega) hb,Nat.or_comm,nat_join (7*k) _ _ (Nat.mul_mod_left _ _) (by omega),e128,aAm,aBv]
theorem zY(l:List UInt8)(b p:Nat)(v:Value)(w:World)(h:Rd w b v l p) :
  Calls Tryz.prog 75 #[.q b 0] w (OA w b v l p (lT 9 (l.drop p))):=by
 have hml:=h.row.len;unfold maxLen at hml;have H:=azF h;clear h;go_enter Tryz.func75,Tryz.ntmps75
 go_wp2_with fail
 go_loopw [4,5] (fun n i wr=>∃k f acc:Nat,i = .i k∧k+f=9∧n = .int .u64 acc∧acc<128^k∧Rd wr b v l (p+k)∧Hid (lT 9 (l.drop p)=comb k acc (lT f (l.drop (p+k))))∧Ch b w wr) (fun _ i _=>10-(intOf i).toNat)
 case atStart=>exact⟨0,9,0,rfl,rfl,rfl,by omega,H.out,(aap _).symm,Ch.refl _ _⟩
 case round =>
  obtain⟨k,f,acc,rfl,hkf,rfl,hacc,hrd,HU,hch⟩:=hrel;have HC:=azF (OB l b (p+k) v wr hrd);have hpk:=hrd.hp;have HR:=azF hrd;have HA:=azF hacc;clear hrd hacc;go_wp2_with fail
  refine HC.out.mono ?_;rintro e w' ⟨rfl,ad4,am3⟩;clear HC HR;by_cases hlt:p+k<l.length
  ·have hl0:(0:Int)<((l.length-(p+k):Nat):Int):=by omega
   have HN:=azF (next_any l b (p+k) 1 v w' ad4 (by omega) (by omega));have HR:=azF ad4;clear ad4;go_wp2_with fail
   refine HN.out.mono ?_;rintro e w3 ⟨v',rfl,am4,arn,hrow,hoff⟩;clear HN HR;have hone:(l.drop (p+k)).take 1=[l[p+k]]:=by rw[aAR hlt]; rfl
   rw[hone]at hrow;obtain⟨c,hcc⟩:∃c,l[p+k]=c:=⟨_,rfl⟩;rw[hcc]at hrow;obtain⟨bb,o,cap,hv,hb,hl,hm,hc⟩:=dN hrow rfl Nat.one_pos;have hc0:=hc 0 Nat.one_pos;simp only[aBz,aCj]at hc0;rw[hv];have HD:=azF (aAR hlt);rw[hcc]at HD;clear hc hv hrow hone hcc;have HR:=azF am4;have OC:=Ch.trans hch (Ch.trans am3 arn);clear am4;have hc8:=c.toNat_lt;have hk9:k≤9:=by omega
   cases f with
   | zero =>
    obtain rfl:k=9:=by omega
    rcases aCe c.toNat 1 with h1 | h1 | h1
    ·have hc1:((c.toNat:Int)==0)=true:=by rw[azU]; omega
     have hu:Hid (lT 0 (l.drop (p+9)) = .error 3):=by rw[HD.out]; simp only[lT]; rw[azG (by omega)]; rfl
     go_wp2_with fail
     go_ret2
     exact FH HU hu.out HR.out OC
    ·have hc1:((c.toNat:Int)==0)=false:=by rw[az8]; omega
     have hu:Hid (lT 0 (l.drop (p+9)) = .ok (c.toNat,1)):=by rw[HD.out]; simp only[lT]; rw[azI h1,h1]; rfl
     have HS:=azF (RZ c acc 9 HA.out (by omega) (.inr (by omega)));have h1':(c.toNat:Int)≤1:=by omega
     have h2':(c.toNat:Int)<128:=by omega
     have H1:=azF h1;clear h1;go_wp2_with fail
     go_ret2
     refine Wp HU hu.out HR.out OC (HS.out.trans ?_);have:=H1.out; rw[this]
    have hu:Hid (lT 0 (l.drop (p+9)) = .error 3):=by rw[HD.out]; simp only[lT]; rw[azG (by omega)]; rfl
    go_wp2_with fail
    go_ret2
    exact FH HU hu.out HR.out OC
   | succ f =>
    have hk9:((k:Int)==9)=false:=by rw[az8]; omega
    have HS:=azF (RZ c acc k HA.out (by omega) (.inl (by omega)));by_cases hlo:c.toNat<128
    ·have aro:(c.toNat:Int)<128:=by omega
     have am5:Hid (c.toNat%128=c.toNat):=aBw hlo;rcases aAt c.toNat with h0 | h0
     ·have h0':((c.toNat:Int)==0)=true:=by rw[azU]; omega
      rcases aAt k with hk | hk
      ·have hu:Hid (lT (f+1) (l.drop (p+k)) = .ok (c.toNat,1)):=by rw[HD.out]; simp only[lT]; rw[azI hlo,azG (by omega)]; rfl
       have hkp:¬(0:Int)<(k:Int):=by omega
       have HK:=azF hk;have H0:=azF h0;clear hk h0;go_wp2_with fail
       go_ret2
       exact Wp HU hu.out HR.out OC (HS.out.trans (by rw[am5.out]))
      have hu:Hid (lT (f+1) (l.drop (p+k)) = .error 3):=by rw[HD.out]; simp only[lT]; rw[azI hlo,azI ⟨h0,by omega⟩]; rfl
      have hkp:(0:Int)<(k:Int):=by omega
      have H0:=azF h0;clear h0;go_wp2_with fail
      go_ret2
      exact FH HU hu.out HR.out OC
     have h0':((c.toNat:Int)==0)=false:=by rw[az8]; omega
     have hu:Hid (lT (f+1) (l.drop (p+k)) = .ok (c.toNat,1)):=by rw[HD.out]; simp only[lT]; rw[azI hlo,azG (by omega)]; rfl
     go_wp2_with fail
     go_ret2
     exact Wp HU hu.out HR.out OC (HS.out.trans (by rw[am5.out]))
    have aro:¬(c.toNat:Int)<128:=by omega
    have HL:=azF hlo;clear hlo;go_wp2_with fail
    go_roundw
    case rel =>
     refine⟨k+1,f,acc+128^k*(c.toNat%128),by go_num,by omega,by rw[HS.out],?_,HR.out,?_,OC⟩
     ·have:=HA.out;rw[aAr];have h2:c.toNat%128≤127:=by omega
      have:=aAq (128^k) h2;omega
     show _=_;rw[HU.out,HD.out,adi f c _ HL.out,aaq]; rfl
    case measure=>simp[intOf]; omega
  have hl0:¬(0:Int)<((l.length-(p+k):Nat):Int):=by omega
  have hu:Hid (lT f (l.drop (p+k)) = .error 4):=by rw[aA4 (by omega),agv]; rfl
  have OC:=Ch.trans hch am3;have HR:=azF ad4;clear ad4;go_wp2_with fail
  go_ret2
  exact FH HU hu.out HR.out OC
open Go.RowKit En
variable{α:Type}
theorem agQ{l:List UInt8}{i:Int}(h:i<0∨(l.length:Int)<i):xO l i=(0,0,2):=by unfold xO; rw[azI h]
theorem akp{l:List UInt8}{i n k:Nat}(h:i≤l.length)(hu:lT 9 (l.drop i) = .ok (n,k)):xO l i=(n,i+k,0):=by
 unfold xO; rw[azG (by omega),aBh,hu]
theorem agR{l:List UInt8}{i e:Nat}(h:i≤l.length)(hu:lT 9 (l.drop i) = .error e):xO l i=(0,0,e):=by
 unfold xO; rw[azG (by omega),aBh,hu]
theorem Yv{l:List UInt8}{e:Nat}(hu:lT 9 l = .error e):((e:Int) != 0)=true:=by
 rw[bne_iff_ne]; rcases FC _ _ _ hu with h | h<;>omega
abbrev am6 (r:Nat×Nat×Nat):Value := .tuple #[.int .u64 (r.1:Int),.i r.2.1,.i r.2.2]
theorem wS(v:Value)(l:List UInt8)(i:Int)(w:World)(hv:bJ w v l) :
  Calls Tryz.prog 47 #[v,.i i] w fun e w'=>e = .returned (am6 (xO l i))∧Ext w w':=by
 by_cases hbad:i<0∨(l.length:Int)<i
 ·rw[agQ hbad];have HF:=azF (Iu v l i w hv hbad);clear hbad;go_enter Tryz.func47,Tryz.ntmps47
  go_wp2_with fail
  refine HF.out.mono ?_;rintro e w' ⟨rfl,rfl⟩;go_wp2_with fail
  go_ret3
  exact⟨rfl,az5 _ _⟩
 obtain⟨p,rfl⟩:∃p:Nat,i=p:=⟨i.toNat,by omega⟩;have hp:p≤l.length:=by omega
 have HF:=azF (Oz v l p w hv hp);clear hbad;have hl:=hv.len;unfold maxLen at hl;cases hu:lT 9 (l.drop p)with
 | error er =>
  rw[agR hp hu];have he:=Yv hu;have HU:=azF hu;clear hu;go_enter Tryz.func47,Tryz.ntmps47
  go_wp2_with fail
  refine HF.out.mono ?_;rintro e w1 ⟨b,rfl,hrd,hb1,hb⟩;have HN:=azF (zY l b p v w1 hrd);rw[HU.out]at HN;clear hrd HF;go_wp2_with fail
  refine HN.out.mono ?_;rintro e w2 ⟨q,hrd,hch,rfl⟩;have HR:=azF hrd;have HB:=azF (aBA hb1 (hch.below hb hb1.size));clear hrd hch hb1 HN;go_wp2_with fail
  go_ret3
  exact⟨rfl,HB.out⟩
 | ok r =>
  obtain⟨n,k⟩:=r;rw[akp hp hu];have HU:=azF hu;clear hu;go_enter Tryz.func47,Tryz.ntmps47
  go_wp2_with fail
  refine HF.out.mono ?_;rintro e w1 ⟨b,rfl,hrd,hb1,hb⟩;have HN:=azF (zY l b p v w1 hrd);rw[HU.out]at HN;clear hrd HF;go_wp2_with fail
  refine HN.out.mono ?_;rintro e w2 ⟨q,hrd,hch,hq,rfl⟩;have h1:=hrd.c1;have HB:=azF (aBA hb1 (hch.below hb hb1.size));have HQ:=azF hq;clear hrd hch hb1 HN hq;go_wp2_with fail
  go_quiet (fail)
  go_wp2_with fail
  go_ret3
  rw[HQ.out];exact⟨rfl,below_drewN HB.out _⟩
open Go.RowKit En
variable{α:Type}
open Go.RowKit En
variable{α:Type}
theorem Ws(l:List UInt8)(i:Int):(xO l i).1<18446744073709551616:=by
 unfold xO;split
 ·simp
 split
 ·rename_i h; exact(FB h).1
 simp
abbrev arp (r:Int×Nat×Nat):Value := .tuple #[.i r.1,.i r.2.1,.i r.2.2]
theorem J9(k:IntKind)(x y:Int):bits .xor k x y=bits .xor k y x:=by
 show k.wrap ((BitVec.ofInt k.bits x^^^BitVec.ofInt k.bits y).toNat:Int)=k.wrap ((BitVec.ofInt k.bits y^^^BitVec.ofInt k.bits x).toNat:Int);rw[BitVec.xor_comm]
theorem ad5(a:Nat)(ha:a<9223372036854775808):bits .xor .i64 (a:Int) 0=(a:Int):=by
 show IntKind.i64.wrap ((BitVec.ofInt 64 (a:Int)^^^BitVec.ofInt 64 0).toNat:Int)=_;have h1:BitVec.ofInt 64 0=0#64:=by decide
 rw[h1,BitVec.xor_zero,ofInt_u64 a (by omega)];simp[IntKind.wrap,IntKind.bits,IntKind.signed];omega
theorem Wu(n:Nat)(h:n<18446744073709551616):bits BinOp.xor IntKind.i64 ((n:Int)/2) (wrap64 (-wrap64 (bits BinOp.and IntKind.u64 (n:Int) 1)))=D8 n:=by
 rw[Lib.u64_and1 _ (by omega) (by omega)];unfold D8;have e:(n:Int)/2=((n/2:Nat):Int):=rfl;rcases Nat.mod_two_eq_zero_or_one n with h2 | h2
 ·have e1:(n:Int)%2=0:=by omega
  have e2:wrap64 (-wrap64 0)=0:=by simp[wrap64]
  rw[e1,e2,e,ad5 _ (by omega),azG (by omega)]
 have e1:(n:Int)%2=1:=by omega
 have e2:wrap64 (-wrap64 1) = -1:=by simp[wrap64]
 rw[e1,e2,e,J9,i64_not _ (by omega),azI h2]
theorem Wv(v:Value)(l:List UInt8)(i:Int)(w:World)(hv:bJ w v l) :
  Calls Tryz.prog 115 #[v,.i i] w fun e w'=>e = .returned (arp (vat l i))∧Ext w w':=by
 have HC:=azF (wS v l i w hv);have hn:=Ws l i;unfold vat;generalize xO l i=r at *;obtain⟨n,next,er⟩:=r;simp only at hn;clear hv;go_enter Tryz.func115,Tryz.ntmps115
 go_wp2_with fail
 refine HC.out.mono ?_;rintro e w' ⟨rfl,hb⟩;go_wp2_with fail
 go_ret3
 exact⟨by rw[Wu _ hn]; rfl,hb⟩
end
section
open Go.RowKit
variable{α:Type}{K:Nat}
abbrev am7 (w:World)(v:Value)(L:List bC):Prop:=aI 4 bC.cells w v L
theorem Si{w0 w:World}{bl:List (Nat×List Value)}(R:Sx.Rw w0 w bl []):Sx.Rw w0 w bl [⟨5,1,.sn,0,[]⟩]:=
 ⟨fun r hr=>by obtain rfl:=aAb.1 hr; exact⟨rfl,.inl ⟨rfl,rfl⟩⟩,R.lt,R.apart⟩
theorem akq(c d:bC)(w:World):(binOp .eql 178 (.agg c.cells.toArray) (.agg d.cells.toArray)).run Tryz.prog w = .ok (.bool (c=d)) w:=by
 rw[←Oe]; exact ah5 ..
abbrev jr (w:World)(v:Value)(l:List UInt8):Prop:=aI 1 (fun n:UInt8=>[gu n]) w v l
theorem Ll{w:World}{p:bC} :
  Calls Tryz.prog 135 #[.agg p.cells.toArray] w fun e w'=>∃v,e = .returned v∧OwnB w.heap.size w' v (Px.pb p)∧Ext w w':=by
 skip;refine aze Tryz.func135 Tryz.ntmps135 fun S=>azh S p.cells (fun u b2 E3 hb4 S=>?_);have R:=aAo S;refine adr S 9 [] [.mem 0 0,.mem 0 1,.mem 0 2,.mem 0 3] fun S=>azl S fun S=>Sx.newRow S R 11 4 5 1 p.cells fun ac u v6 E7 X8 R S=>azr S fun S=>ay9 S v6 (fun S=>?_);exact⟨_,rfl,R.own _ azV,S.E⟩
theorem Wx{w:World}{v:Value}{L:List bC}(h:am7 w v L)(hn:L.length≤1000000) :
  Calls Tryz.prog 133 #[v] w fun e w'=>∃v',e = .returned v'∧OwnB w.heap.size w' v' (Px.enc L)∧Ext w w':=by
 obtain⟨a,cap,rfl⟩:=h.shape;refine azN Tryz.func133 Tryz.ntmps133 fun ac S=>azc fun _ gW=>apB S 1 [] [(2,.sn)] fun S=>aza<|gW _ _<|azc fun _ Yh=>apB S 1 [] [(3,.sn)] fun S=>aza<|Yh _ _<|azX fun _ κ3=>azc fun _ κ4=>apB S 1 [] [(4,.i 0)] fun S=>aza<|κ4 _ _<|aAC ?_;have R:=aAo S;have R:=Si R;refine Vp.loop (ι:=Nat×Value×List (Nat×bC)) (fun p a' w'=>(Px.Bl L p.1 p.2.2)∧Sx.Rw w w' [] [⟨5,1,p.2.1,(Px.rb p.2.2).length,(Px.rb p.2.2).map gu⟩]∧Sx.St w a' w' 44 [(0,.slice a L.length cap),(2,.sn),(3,p.2.1),(4,.i p.1)] [] []) (fun p=>L.length-p.1) (0,(.sn),[]) ⟨Px.Bl.zero L,R,S.sn⟩ ?_;rintro⟨i,v,Rn⟩ ac u hI;try dsimp only at hI
 obtain⟨hR,R,S⟩:=hI;have hE:=hR;refine azX fun _ Bg=>azc fun _ κ6=>apB S 4 [] [(9,.bool ((i:Int)<(L.length:Int)))] fun S=>aza (κ6 _ _ ?_);refine azC S (fun nJ=>?_) (fun nJ=>?_)
 ·refine aAi<|Bg _ _<|aAC<|azc (fun _ κ8=>?_);have hi:i<L.length:=by have:=azZ nJ; omega
  obtain⟨x,hx⟩:∃z,L[i]=z:=⟨_,rfl⟩;refine apB S 2 [] [(5,.i i)] fun S=>aza<|κ8 _ _<|azX (fun κq κ9=>?_);have J10:∀(k:Nat) (ac:Act) (u:World),(Sx.Rw w u [] [⟨5,1,v,(Px.rb Rn).length,(Px.rb Rn).map gu⟩])→(k≤L.length)→(i≤k)→(∀(j:Nat) (hj:j<L.length),i≤j→j<k→L[j]=x)→(∀h:k<L.length,L[k]≠x)→Sx.St w ac u 44 [(0,.slice a L.length cap),(2,.sn),(3,v),(4,.i i),(5,.i k)] [] []→κq ac u:=by
   intro k ac u R hkl hik hall hend S;refine κ9 _ _<|azc (fun _ OD=>?_);have hlt:i<k:=by rcases aAx i k with h | h; exact h; obtain rfl:k=i:=(by omega); exact absurd hx (hend hi)
   refine apB S 5 [.re 31 (.i (IntKind.i64.wrap ((k:Int)-(i:Int)))) (.i (k-i:Nat)),.re 32 (.int .u64 (IntKind.u64.wrap ((k-i:Nat):Int))) (.int .u64 ((k-i:Nat):Int))] [(28,v),(32,.int .u64 ((k-i:Nat):Int))] (hk:=⟨(Sx.oZ (by omega) (by omega)),(wrap_u64 (by omega)),trivial⟩) fun S=>Sx.jI S (some 33) (fO (k-i) _ (by omega)) ?_;rintro e u ⟨v33,rfl,arq,qM⟩;refine⟨_,rfl,qM,fun ac S=>?_⟩;have hrb:=Px.ajQ hE.good;rw[hE.flat,aBa]at hrb;have hu9:(En.dV 10 (k-i)).length≤10:=En.iE 10 _;obtain⟨R,Y13⟩:=R.bP S (az7 qM);refine Sx.app S R 0 34 rfl yX (jE (arq)) (by show(Px.rb Rn).length+(En.dV 10 (k-i)).length≤9223372036854775807; omega) (by show((Px.rb Rn).length+(En.dV 10 (k-i)).length)*1≤140737488355328; omega) fun ac u v14 X15 R S=>apB S 1 [] [(3,v14)] fun S=>aza<|OD _ _<|azc (fun _ zG=>?_);have am8:i<L.length:=by omega
   obtain⟨b17,o18,rfl,y23,ars,ai8,aru⟩:=aAe h (fun _=>rfl) (i) am8;have S:=S.view0 ai8 aru;refine apB S 5 [.idx i L.length,.mem 0 0] [(35,v14),(39,.agg y23.cells.toArray)] (hk:=⟨am8,trivial⟩) fun S=>Sx.jI S (some 40) (Ll (p:=y23)) ?_;rintro e u ⟨v40,rfl,am9,Fp⟩;rw[show y23=x from by rw[←ars]; exact hx]at am9;refine⟨_,rfl,Fp,fun ac S=>?_⟩;obtain⟨R,Y26⟩:=R.bP S (az7 Fp);refine Sx.app S R 0 41 rfl yX (jE (am9)) (by show(Px.rb Rn).length+(En.dV 10 (k-i)).length+4≤9223372036854775807; omega) (by show((Px.rb Rn).length+(En.dV 10 (k-i)).length+4)*1≤140737488355328; omega) fun ac u v27 X28 R S=>apB S 1 [] [(3,v27)] fun S=>aza<|zG _ _<|aBe<|apB S 2 [] [(4,.i k)] fun S=>aza ?_;show ∃i',_∧_;exact⟨(k,v27,(Rn++[(k-i,x)])),⟨hE.step hi hx hlt hkl hall hend,R.as (show [(⟨5,1,v27,(Px.rb Rn).length+(En.dV 10 (k-i)).length+4,(Px.rb Rn).map gu++(En.dV 10 (k-i)).map gu++(Px.pb x).map gu⟩:Sx.Row)]=[⟨5,1,v27,(Px.rb (Rn++[(k-i,x)])).length,(Px.rb (Rn++[(k-i,x)])).map gu⟩] by rw[Px.agy]; simp[Px.pb,Nat.add_assoc]),S.sn⟩,by show _-_<_-_; omega⟩
  refine aAC ?_;refine Vp.loop (ι:=Nat) (fun p a' w'=>((i≤p∧p≤L.length)∧∀(j:Nat) (hj:j<L.length),i≤j→j<p→L[j]=x)∧Sx.Rw w w' [] [⟨5,1,v,(Px.rb Rn).length,(Px.rb Rn).map gu⟩]∧Sx.St w a' w' 44 [(0,.slice a L.length cap),(2,.sn),(3,v),(4,.i i),(5,.i p)] [] []) (fun p=>L.length-p) (i) ⟨⟨⟨azJ _,by omega⟩,fun j hj h1 h2=>by omega⟩,R,S.sn⟩ ?_;rintro k ac u hI;try dsimp only at hI
  obtain⟨hR,R,S⟩:=hI;have hrk:=hR.1;refine azX fun _ ad6=>azX (fun _ ana=>?_);by_cases arv:k<L.length
  ·have anb:k<L.length:=by omega
   obtain⟨b33,o34,rfl,y39,anc,acZ,arw⟩:=aAe h (fun _=>rfl) (k) anb;have S:=S.view0 acZ arw;have ane:i<L.length:=by omega
   obtain⟨y47,anf,hb48,arx⟩:=Vp.arz h (fun _=>rfl) (i) ane;have S:=S.view0 hb48 arx;refine Sx.draw S 15 [.re 14 (.bool ((k:Int)<(L.length:Int))) (.bool true),.idx k L.length,.mem 1 0,.idx i L.length,.mem 0 0,.cmp .eql 178 (.tmp 19) (.tmp 23) (.agg #[.u (y39.r.toNat:Int),.u (y39.g.toNat:Int),.u (y39.b.toNat:Int),.u (y39.a.toNat:Int)]) (.agg #[.u (y47.r.toNat:Int),.u (y47.g.toNat:Int),.u (y47.b.toNat:Int),.u (y47.a.toNat:Int)]) (.bool (y39=y47))] [] [(25,.bool (y39=y47))] trivial (hk:=⟨(azT Value.bool (aAW (by omega))),anb,ane,(azD (fun _=>akq y39 y47 _) (by kernel_rfl)),trivial⟩) fun ac u E32 S=>aza (ana _ _ ?_);refine azC S (fun akr=>?_) (fun akr=>?_)
   ·refine aAi<|ad6 _ _<|aAC<|aBe<|apB S 3 [.re 27 (.i (IntKind.i64.wrap ((k:Int)+1))) (.i (k+1:Nat))] [(5,.i (k+1:Nat))] (hk:=⟨azt (by omega),trivial⟩) fun S=>aza ?_;obtain⟨R,Y50⟩:=R.bP S (az7 E32);show ∃i',_∧_;exact⟨(k+1),⟨⟨⟨by omega,by omega⟩,fun j hj h1 h2=>by
     by_cases e:j=k
     ·subst e; have:=akr; rw[anc]; rw[←hx,anf]; simpa using this
     exact hR.2 j hj h1 (by omega)⟩,R,S.sn⟩,by show _-_<_-_; omega⟩
   refine aAU ?_;obtain⟨R,Y51⟩:=R.bP S (az7 E32);exact J10 k _ _ R hR.1.2 hR.1.1 hR.2 (fun h e=>by rw[anc]at e; subst e; have:=akr; rw[←hx,anf]at this; simp at this) S.sn
  refine Sx.draw S 15 [.re 14 (.bool ((k:Int)<(L.length:Int))) (.z),.dead 16 (.z),.dead 17 (.z),.dead 18 (.z),.dead 19 (.z),.dead 20 (.z),.dead 21 (.z),.dead 22 (.z),.dead 23 (.z),.dead 24 (.z)] [] [(25,.z)] trivial (hk:=⟨(azT Value.bool (aBj (by omega))),trivial⟩) fun ac u E52 S=>aza<|ana _ _<|Sx.D7 S<|aAU ?_;obtain⟨R,Y53⟩:=R.bP S (az7 E52);exact J10 k _ _ R hR.1.2 hR.1.1 hR.2 (fun h=>absurd h arv) S.sn
 refine aAU<|κ3 _ _<|azc fun _ aks=>apB S 2 [] [(2,v)] fun S=>aza<|aks _ _<|Sx.UD S Tryz.results133 ?_;exact⟨_,rfl,by rw[←hE.done (by have:=az4 nJ; omega)]; exact R.own _ azV,S.E⟩
def Yw(l:List UInt8)(p:Nat)(bad:Bool)(n:Nat):Nat:=if (bad||decide (l.length<p+n))=true then p else p+n
def EW(l:List UInt8)(p:Nat)(bad:Bool)(n:Nat):Bool:=bad||decide (l.length<p+n)
def Wy(l:List UInt8)(p:Nat)(bad:Bool)(n:Nat):List UInt8:=if (bad||decide (l.length<p+n))=true then List.replicate n 0 else (l.drop p).take n
theorem Dq{l:List UInt8}{p n:Nat}{bad:Bool}(h:EW l p bad n=true):Yw l p bad n=p∧Wy l p bad n=List.replicate n 0:=by
 unfold EW at h; unfold Yw Wy; rw[azI h,azI h]; exact⟨rfl,rfl⟩
theorem Iw{l:List UInt8}{p n:Nat}{bad:Bool}(h:EW l p bad n=false):bad=false∧p+n≤l.length∧Yw l p bad n=p+n∧Wy l p bad n=(l.drop p).take n:=by
 unfold EW at h; unfold Yw Wy; rw[h];simp only[aAz,aAk]at h;exact⟨h.1,by omega,by simp,by simp⟩
theorem Yx{l:List UInt8}{p n:Nat}{bad:Bool}:(Wy l p bad n).length=n:=by
 cases h:EW l p bad n
 ·obtain⟨-,h1,-,h2⟩:=Iw h; rw[h2]; simp; omega
 rw[(Dq h).2]; simp
theorem WA{l:List UInt8}{p n:Nat}{bad:Bool}(hp:p≤l.length):Yw l p bad n≤l.length:=by
 cases h:EW l p bad n
 ·obtain⟨-,h1,h2,-⟩:=Iw h; omega
 rw[(Dq h).1]; exact hp
theorem agS{l:List UInt8}{p:Nat}{bad:Bool}:∃q:bC,Wy l p bad 4=Px.pb q:=by
 have h:=@Yx l p 4 bad;match h1:Wy l p bad 4,h with
 | [a,b,c,d],_=>exact⟨⟨a,b,c,d⟩,rfl⟩
theorem aH{b b2:Nat}{w u u':World}(h:Ch b w u)(c:Ch b2 u u')(hb:b2=b∨w.heap.size≤b2:=by first | exact .inl rfl | exact .inr (by omega)):Ch b w u':=by
 rcases hb with rfl | hb
 ·exact h.trans c
 exact⟨c.os.trans h.os,c.tape.trans h.tape,c.output.trans h.output,az3 h.size c.size,fun i hi hn=>(c.block i (aAa hi h.size) (fun e=>by simp only[azK]at e; omega)).trans (h.block i hi hn)⟩
theorem Sj{w:World}{a:Option Addr}{l:List UInt8}{c p n:Nat}(h:jr w (.slice a l.length c) l)(hp:p+n≤l.length)(hn:0<n):l.length≤c∧∃bk o,a=some ⟨bk,o,none⟩∧bk<w.heap.size∧w.rangeAt bk (o+p) (((l.drop p).take n).map gu):=by
 obtain⟨a',cap,hv,hm,hh⟩:=h;simp only[aAg,true_and]at hv;obtain⟨rfl,rfl⟩:=hv;rcases hh with ⟨rfl,-⟩ | ⟨bk,o,rfl,hb,hl,hc⟩
 ·simp only[aAS]at hp; omega
 refine⟨hl,bk,o,rfl,hb,fun j v hj=>?_⟩;have hjn:j<n:=by
  have:=(List.getElem?_eq_some_iff.1 hj).1;simp only[aA1,aBa,aBF]at this; omega
 have h1:=hc (p+j) (by omega) 0 (by omega);rw[List.getElem?_map,List.getElem?_take_of_lt hjn,List.getElem?_drop,List.getElem?_eq_getElem (by omega)]at hj;obtain rfl:=azR hj;rw[show o+p+j=o+(p+j)*1+0 by omega,h1]; rfl
theorem ad7{w0:World}{a:Option Addr}{l:List UInt8}{c p:Nat}(h:jr w0 (.slice a l.length c) l)(hp:p+4≤l.length) :
  ∃bk o,(.slice (Sx.uo a p c 1) (p+4-p) (c-p):Value) = .slice (some ⟨bk,o,none⟩) 4 (c-p)∧bk<w0.heap.size∧w0.rangeAt bk o (((l.drop p).take 4).map gu):=by
 obtain⟨hl,bk,o,rfl,hb,hr⟩:=Sj h hp (by omega);refine⟨bk,o+p*1,?_,hb,by rw[Nat.mul_one]; exact hr⟩;unfold Sx.uo;rw[azG (by omega),aCo]; simp[Addr.add]
theorem aaM{w0 w:World}{b p cap:Nat}{a:Option Addr}{bad pk:Bool}{l:List UInt8}(hE:Ext w0 w)(hx:Bx w b #[.slice a l.length cap,.i p,.bool bad,.bool pk])(hb:w0.heap.size≤b)(h:jr w0 (.slice a l.length cap) l)(hp:p≤l.length) :
  Calls Tryz.prog 116 #[.q b 0,.i 4] w fun e w'=>∃bk o c,e = .returned (.slice (some ⟨bk,o,none⟩) 4 c)∧w'.rangeAt bk o ((Wy l p bad 4).map gu)∧bk<w'.heap.size∧(bk<w0.heap.size∨w.heap.size≤bk)∧Ext w0 w'∧Ch b w w'∧Bx w' b #[.slice a l.length cap,.i (Yw l p bad 4:Nat),.bool (EW l p bad 4),.bool pk]:=by
 have hml:l.length≤9223372036854775807:=h.len;refine azE Tryz.func116 Tryz.ntmps116 hE hx hb fun S=>azs S 22 [.mem 0 2,.mem 0 0,.mem 0 1,.re 24 (.i (IntKind.i64.wrap ((l.length:Int)-(p:Int)))) (.i (l.length-p:Nat))] [] [(26,.bool ((bad||false)||(decide (((l.length-p:Nat):Int)<4))))] trivial (hk:=⟨(Sx.oZ (by omega) (by omega)),trivial⟩) fun u E4 S=>azb S ((bad||false)||(decide (((l.length-p:Nat):Int)<4))) (fun hc5 S=>?_) (fun hc5 S=>?_)
 ·refine Sx.RX S 0 (off:=2) (v := .bool true) rfl (fun u C7 S=>?_);have Fs8:=(aH ((Ch.trans (Ch.refl b w) (Ch.aZ E4))) C7);have hws:=(Fs8).size;refine azh S [.u 0,.u 0,.u 0,.u 0] (fun u b10 Au GV S=>?_);have hbad:EW l p bad 4=true:=by unfold EW; cases bad; (simp at hc5 ⊢; omega); rfl
  refine ay9 S (.slice (some ⟨b10,0,none⟩) 4 4) (fun S=>?_);exact⟨_,_,_,rfl,by rw[(Dq hbad).2]; exact(S.bx 0).range 0 4 rfl,(S.bx 0).1,.inr (by have:=GV; omega),S.E,((Ch.trans Fs8 (Ch.aZ Au))),by rw[(Dq hbad).1,hbad]; exact S.bx 1⟩
 have hok:EW l p bad 4=false:=by unfold EW; cases bad; (simp at hc5 ⊢; omega); simp at hc5
 have hlen:=(Iw hok).2.1;have hcap:=Sx.kN h;refine adr S 8 [] [.mem 0 1,.re 39 (.i (IntKind.i64.wrap ((p:Int)+4))) (.i (p+4:Nat))] (hk:=⟨(Sx.oZ (by omega) (by omega)),trivial⟩) fun S=>Sx.RX S 0 (off:=1) (v := .i (p+4:Nat)) rfl (fun u C14 S=>?_);have oN:=(aH ((Ch.trans (Ch.refl b w) (Ch.aZ E4))) C14);refine azs S 15 [.mem 0 0,.mem 0 1,.re 51 (.i (IntKind.i64.wrap (((p+4:Nat):Int)-4))) (.i p),.mem 0 1,.slc p (p+4) cap cap] [] [(56,.slice (Sx.uo a p cap 1) (p+4-p) (cap-p))] trivial (fun u yJ S=>?_) (hk:=⟨(Sx.oZ (by omega) (by omega)),(by omega),trivial⟩);obtain⟨bk,o,hv,hk1,hr⟩:=ad7 h hlen;have ho:=Iw hok;refine ay9 S (.slice (Sx.uo a p cap 1) (p+4-p) (cap-p)) (fun S=>?_);exact⟨bk,o,cap-p,azT Ending.returned hv,by rw[ho.2.2.2]; exact Vp.pW hr hk1 S.E,aAa hk1 S.E.size,.inl hk1,S.E,((Ch.trans oN (Ch.aZ yJ))),by rw[ho.2.2.1,hok]; have:=S.bx 0; rw[ho.1]at this; exact this⟩
theorem Ej{w0 w:World}{b p cap:Nat}{a:Option Addr}{bad pk:Bool}{l:List UInt8}(hE:Ext w0 w)(hx:Bx w b #[.slice a l.length cap,.i p,.bool bad,.bool pk])(hb:w0.heap.size≤b)(h:jr w0 (.slice a l.length cap) l)(hp:p≤l.length) :
  Calls Tryz.prog 78 #[.q b 0] w fun e w'=>∃q:bC,e = .returned (.agg q.cells.toArray)∧Px.pb q=Wy l p bad 4∧Ext w0 w'∧Ch b w w'∧Bx w' b #[.slice a l.length cap,.i (Yw l p bad 4:Nat),.bool (EW l p bad 4),.bool pk]:=by
 skip;refine azE Tryz.func78 Tryz.ntmps78 hE hx hb fun S=>azh S [.u 0,.u 0,.u 0,.u 0] (fun u b2 E3 hb4 S=>?_);have hz0:=S.bx 0;have hz1:=S.bx 1;have hz2:=S.old 0;refine Sx.zH S 1 [.slice a l.length cap,.i (Yw l p bad 4:Nat),.bool (EW l p bad 4),.bool pk] rfl (aaM S.E (S.bx 1) (S.old 1) h hp) ?_;rintro e u ⟨bk,ok,ck,rfl,hr,hlt,hor,WB,BN,WC⟩;refine⟨_,rfl,WB,BN,WC,fun S=>?_⟩;have Lm:=(aH ((Ch.trans (Ch.refl b w) (Ch.aZ E3))) BN);obtain⟨q,hq⟩:=@agS l p bad;rw[hq]at hr;have S:=S.view (cs:=q.cells) hlt hr (fun p hp=>by rcases azS.1 hp with rfl | hp; (have:=hz0.1; rcases hor with h | h<;>(intro e; simp only at e; omega)); obtain rfl:=aAb.1 hp; (have:=hz1.1; rcases hor with h | h<;>(intro e; simp only at e; omega)));refine azs S 13 [.idx 0 4,.mem 2 0,.idx 1 4,.mem 2 1,.idx 2 4,.mem 2 2,.idx 3 4,.mem 2 3] [] [(18,.agg q.cells.toArray)] trivial (hk:=⟨(by decide),(by decide),(by decide),(by decide),trivial⟩) fun u E9 S=>azm S 0 (off:=0) (cs:=q.cells) rfl (fun u C10 S=>?_);have JG:=(aH ((Ch.trans Lm (Ch.aZ E9))) C10);refine azq S 0 rfl (v := .agg q.cells.toArray) (fun S=>?_);exact⟨q,rfl,hq.symm,S.E,JG,S.bx 1⟩
theorem Sl{w0 w:World}{b p cap:Nat}{a:Option Addr}{bad pk:Bool}{l:List UInt8}(hE:Ext w0 w)(hx:Bx w b #[.slice a l.length cap,.i p,.bool bad,.bool pk])(hb:w0.heap.size≤b)(h:jr w0 (.slice a l.length cap) l)(hp:p≤l.length) :
  Calls Tryz.prog 171 #[.q b 0] w fun e w'=>∃q:bC,e = .returned (.agg q.cells.toArray)∧Px.pb q=Wy l p bad 4∧Ext w0 w'∧Ch b w w'∧Bx w' b #[.slice a l.length cap,.i (Yw l p bad 4:Nat),.bool (EW l p bad 4),.bool pk]:=by
 skip;refine azE Tryz.func171 Tryz.ntmps171 hE hx hb fun S=>azd S fun u b2 E3 hb4 S=>Sx.zH S 1 [.slice a l.length cap,.i (Yw l p bad 4:Nat),.bool (EW l p bad 4),.bool pk] rfl (Ej S.E (S.bx 1) (S.old 1) h hp) ?_;rintro e u ⟨q,rfl,hq,WB,BN,WC⟩;refine⟨_,rfl,WB,BN,WC,fun S=>?_⟩;have Lm:=(aH ((Ch.trans (Ch.refl b w) (Ch.aZ E3))) BN);refine azf S 0 rfl (fun u C8 S=>?_);have Fs9:=(aH Lm C8);refine azq S 0 rfl (v := .agg q.cells.toArray) (fun S=>?_);exact⟨q,rfl,hq,S.E,Fs9,S.lu 1⟩
namespace Px
theorem WE{l:List UInt8}{p:Nat}(hp:p≤l.length):En.xO l (p:Int)=match En.lT 9 (l.drop p)with | .ok (n,k)=>(n,p+k,0) | .error e=>(0,0,e):=by
 unfold En.xO;rw[azG (by omega)]; rfl
theorem ok1{b:List UInt8}{p k x:Nat}(hp:p≤b.length)(hu:En.xO b (p:Int)=(k,x,0)):∃c,En.lT 9 (b.drop p) = .ok (k,c)∧x=p+c∧x≤b.length∧1≤c:=by
 rw[WE hp]at hu;cases hs:En.lT 9 (b.drop p)with
 | error e=>rw[hs]at hu; simp only[azP]at hu; have:=En.FC 9 _ _ hs; omega
 | ok r =>
  obtain⟨k',c⟩:=r;rw[hs]at hu;simp only[azP]at hu;obtain⟨-,h1,h2,-⟩:=En.FB hs;simp only[aBF]at h2;exact⟨c,by rw[hu.1],by omega,by omega,h1⟩
end Px
end
end Go.Proofs.YtodpgjjgaddkeaaGreatDoor
section
namespace Go.Sx
open Go.Proofs.YtodpgjjgaddkeaaGreatDoor Go.RowKit Go.Rel
variable{P:Program}{ops:Array Oper}{Q:Exit→Act→World→Prop}{w0 w:World}{a:Act}{os:List Oper}{n:Nat}{l:List (Nat×Value)}{bl:List (Nat×List Value)}{vs:List eX}
def ad8(os:List Oper):Option (TypeId×TypeId×Nat×Nat):=match os with
 | _::o::_=>(match o.guard,o.dst,o.op with
  | none,some d,.convert s t (.tmp x)=>some (s,t,x,d)
  | _,_,_=>none)
 | _=>none
theorem WG{w:World}{A:List Value}{e:TypeId}{m:Nat}{fr:Nat×Nat}(hA:A.length=m)(hm:m≤maxLen)(h1:A.all (·.oneCell')=true):dP (w.alloc (.cells A.toArray e fr)) 1 (.slice (some ⟨w.heap.size,0,none⟩) m m) m A:=by
 refine⟨by omega,fun u hu=>by rw[aAh]at h1; exact h1 u hu,.inr ⟨w.heap.size,0,m,rfl,by simp,azJ _,hm,fun j u hj=>?_⟩⟩;have:(w.alloc (.cells A.toArray e fr)).heap[w.heap.size]?=some (.cells A.toArray e fr):=by
  show(w.heap.push (.cells A.toArray e fr))[w.heap.size]?=_;simp
 rw[aAD];unfold World.cell?;rw[this];simpa using hj
theorem lit(S:St w0 a w n l bl vs)(d1 d2 m:Nat)(A:List Value)(t e:TypeId)(ht:P.underlying t=some (.slice e))(he:P.underlying e=some (.int .u8))
  (next:∀{a' w' b},Ext w w'→dP w' 1 (.slice (some ⟨b,0,none⟩) m m) m A→St w0 a' w' n ((d2,.slice (some ⟨b,0,none⟩) m m)::l) bl vs→wpList P ops Q (os.drop 2) a' w')
  (hl:(l.lookup d1).isNone=true:=by kernel_rfl) (h12:(d1==d2)=false:=by rfl)
  (hx:∀r,wJ P r os l=some (A,e,.slice (some ⟨r,0,none⟩) m m,some d1):=by intro r; kernel_rfl) (h2:ad8 os=some (t,t,d1,d2):=by kernel_rfl) (hA:A.length=m:=by rfl) (hm:m≤maxLen:=by decide) (h1:A.all (·.oneCell')=true:=by kernel_rfl)
  (hd1:vG n (some d1)=true:=by rfl) (hd2:vG n (some d2)=true:=by rfl):wpList P ops Q os a w:=by
 have hx:=hx w.heap.size;cases os with
 | nil=>cases h2
 | cons o os =>
 cases os with
 | nil=>cases h2
 | cons o2 os =>
  unfold wJ at hx;unfold ad8 at h2;simp only at hx h2;split at hx
  ·rename_i A' ty k' hg hav hev;split at hx
   ·rename_i v hv;simp only[azK,azP]at hx;obtain⟨rfl,rfl,rfl,hdst⟩:=hx;simp only[aAz]at hav;have hc:execOp a.eval o=execOp (yA (lift l) []) o:=by
     refine execOp_congr o (fun cs b e1=>by rw[e1]at hav; cases hav.1) fun x hx=>?_;have h2:=hav.2;simp only[aA3,aBV]at h2;obtain⟨v,hv⟩:=aAN.1 (h2 x hx);rw[gV (Std.act a) (ig (bY S.s) o x hx) (p:=[]) rfl hv];simp[yA,hv]
    have hv':ev0 P k'=some (.value (.slice (some ⟨w.heap.size,0,none⟩) m m)):=by
     unfold iQ at hv;split at hv
     ·rename_i h; obtain h2:=azR hv; rw[h]; simp only[EP.val.injEq]at h2; rw[h2]
     ·cases hv
     cases hv
    have hrun:(execOp a.eval o).run P w = .ok (.value (.slice (some ⟨w.heap.size,0,none⟩) m m)) (w.alloc (.cells A'.toArray ty)):=by rw[hc,mX hev,nN hv']
    split at h2
    ·rename_i d s' t' x hg2 ang hop2;simp only[azK,azP]at h2;obtain⟨rfl,rfl,rfl,rfl⟩:=h2;unfold wpList;rw[azI (by simp[Region.wanted,hg])];left;unfold Oper.wp;rw[hrun];simp only[Oper.upon];rw[hdst];have hs1:=uP (d:=some x) S.s hd1 (.slice (some ⟨w.heap.size,0,none⟩) m m);have ex:(a.put (some x) (.slice (some ⟨w.heap.size,0,none⟩) m m)).eval (.tmp x) = .slice (some ⟨w.heap.size,0,none⟩) m m:=hs1.has x _ (by simp[yB]);have hrun2:(execOp (a.put (some x) (.slice (some ⟨w.heap.size,0,none⟩) m m)).eval o2).run P (w.alloc (.cells A'.toArray ty)) = .ok (.value (.slice (some ⟨w.heap.size,0,none⟩) m m)) (w.alloc (.cells A'.toArray ty (A'.toArray.size,A'.toArray.size+1))):=by
      unfold execOp;rw[hop2];simp only[ex];rw[aAI,Go.Lib.run_convert_bytes_const w _ ty A'.toArray m m ht he];rfl
     unfold wpList;rw[azI (by simp[Region.wanted,hg2])];left;unfold Oper.wp;rw[hrun2];simp only[Oper.upon];rw[ang];have hs2:=uP (d:=some d) hs1 hd2 (.slice (some ⟨w.heap.size,0,none⟩) m m);have hE:Ext w (w.alloc (.cells A'.toArray ty (A'.toArray.size,A'.toArray.size+1))):=aF _ _;refine next hE (WG hA hm h1) ((S.grow hE).act ⟨hs2.size,hs2.defers,fun i v hi=>hs2.has i v ?_⟩);simp only[yB,aAw]at hi ⊢;by_cases hid:i=d
     ·subst hid; simpa using hi
     have e1:(i==d)=false:=by simpa using hid
     simp only[e1]at hi ⊢;by_cases hix:i=x
     ·subst hix;rw[Option.isNone_iff_eq_none.1 hl]at hi; cases hi
     have e2:(i==x)=false:=by simpa using hix
     simpa only[e2]using hi
    cases h2
   cases hx
  cases hx
def aiu(os:List Oper)(l:List (Nat×Value)):Option (TypeId×TypeId×ByteArray×Nat):=match os with
 | o::_=>(match o.guard,o.dst,o.op with
  | none,some d,.convert s t x=>(match rd (lift l) [] x with
   | some (.string z)=>some (s,t,z,d)
   | _=>none)
  | _,_,_=>none)
 | _=>none
theorem bytesOf(S:St w0 a w n l bl vs)(d:Nat)(bs:List UInt8){src dst e:TypeId}(hs:P.underlying src=some .string)(hd:P.underlying dst=some (.slice e))(he:P.underlying e=some (.int .u8))(hn:bs.length≤maxLen)
  (next:∀{a' w' b cap},Ext w w'→bJ w' (.slice (some ⟨b,0,none⟩) bs.length cap) bs→St w0 a' w' n ((d,.slice (some ⟨b,0,none⟩) bs.length cap)::l) bl vs→wpList P ops Q (os.drop 1) a' w')
  (hx:aiu os l=some (src,dst,⟨bs.toArray⟩,d):=by kernel_rfl) (hdd:vG n (some d)=true:=by rfl):wpList P ops Q os a w:=by
 cases os with
 | nil=>cases hx
 | cons o os =>
  unfold aiu at hx;simp only at hx;split at hx
  ·rename_i d' s' t' x hg hdst hop;split at hx
   ·rename_i z hxx;simp only[azK,azP]at hx;obtain⟨rfl,rfl,rfl,rfl⟩:=hx;have hst:=ig (bY S.s) o;have ex:a.eval x = .string ⟨bs.toArray⟩:=gV (Std.act a) (hst x (by rw[hop]; simp[Op.operands])) (p:=[]) rfl hxx;have hsz:(⟨bs.toArray⟩:ByteArray).size=bs.length:=by simp[ByteArray.size]
    have hr:=Go.run_bytes_of_string (P:=P) w s' t' e ⟨bs.toArray⟩ hs hd he;rw[hsz]at hr;have hE:Ext w (w.drew.alloc (.cells (Go.bytesRow ⟨bs.toArray⟩ (grownCap w bs.length 0 e)) e ((Go.bytesRow ⟨bs.toArray⟩ (grownCap w bs.length 0 e)).size,(Go.bytesRow ⟨bs.toArray⟩ (grownCap w bs.length 0 e)).size+1))):=Ext.trans' (below_drewN (az5 _ _) 1) (aF _ _);refine amS S d' _ rfl hg hdst (by unfold execOp; rw[hop]; simp only[ex]; rw[aAI,hr]; rfl) hE (fun S=>next hE ⟨_,_,rfl,grownCap_le_maxLen _ _ _ _ hn,.inr ⟨_,0,rfl,by show w.heap.size<(w.heap.push _).size; rw[Array.size_push]; omega,grownCap_ge _ _ _ _,fun i hi=>?_⟩⟩ S) hdd;generalize grownCap w bs.length 0 e=cap;have:∀(A:Array Value) (fr:Nat×Nat),(w.drew.alloc (.cells A e fr)).heap[w.heap.size]?=some (.cells A e fr):=fun A fr=>by
     show(w.heap.push (.cells A e fr))[w.heap.size]?=_;simp
    rw[aAD];unfold World.cell?;rw[this];simp only[Go.bytesRow,aCn];rw[Array.getElem?_append_left (by simpa using hi)];simp[hi,gu]
   cases hx
  cases hx
end Go.Sx
namespace fP
def one(s:UInt32):UInt32:=if s&&&1=1 then (s>>>1)^^^0xedb88320 else s>>>1
def many:Nat→UInt32→UInt32
 | 0,s=>s
 | n+1,s=>one (many n s)
def byte(s:UInt32)(c:UInt8):UInt32:=many 8 (s^^^c.toUInt32)
def reg(s:UInt32)(l:List UInt8):UInt32:=l.foldl byte s
def update(s:UInt32)(l:List UInt8):UInt32:=(reg (s^^^0xffffffff) l)^^^0xffffffff
def crc(ls:List (List UInt8)):UInt32:=ls.foldl update 0
def le4(s:UInt32):List UInt8:=[s.toUInt8,(s>>>8).toUInt8,(s>>>16).toUInt8,(s>>>24).toUInt8]
def app(b:List UInt8):List UInt8:=b++le4 (update 0 b)
end fP
namespace Go.Proofs.YtodpgjjgaddkeaaGreatDoor
open Go.RowKit
variable{α:Type}
theorem ad9(s:UInt32)(l:List UInt8)(c:UInt8):fP.reg s (l++[c])=fP.byte (fP.reg s l) c:=by simp[fP.reg]
theorem aea(s:UInt32)(l:List UInt8)(k:Nat)(h:k<l.length):fP.reg s (l.take (k+1))=fP.byte (fP.reg s (l.take k)) l[k]:=by
 rw[take_snoc l k h,ad9]
theorem agT(x:UInt32)(h:(bits .and .u32 (x.toNat:Int) 1==1)=true):bits .xor .u32 ((x.toNat:Int)/(2:Int)) 3988292384=((fP.one x).toNat:Int):=by
 rw[ach,amD];rw[aic]at h;have h':x&&&1=1:=by
  apply aBf.1;simp only[azU]at h;have:=h; simp only[UInt32.reduceToNat]; omega
 simp[fP.one,h']
theorem akt(x:UInt32)(h:(bits .and .u32 (x.toNat:Int) 1==1)=false):((x.toNat:Int)/(2:Int))=((fP.one x).toNat:Int):=by
 rw[ach];rw[aic]at h;have h':¬x&&&1=1:=by
  intro e; rw[e]at h; simp at h
 simp[fP.one,h']
set_option maxHeartbeats 400000 in
theorem Sm(s:UInt32)(v:Value)(l:List UInt8)(w:World)(hv:bJ w v l) :
  Calls Tryz.prog 97 #[aX s,v] w fun e w'=>e = .returned (aX (fP.update s l))∧w=w':=by
 obtain⟨a,cap,rfl,hm,ha⟩:=hv;have hl:=qX hm ha;have HA:=azF ha;clear ha;go_enter Tryz.func97,Tryz.ntmps97
 go_wp2
 go_loop [0,12] (fun s1 i=>∃k:Nat,k≤l.length∧i = .i k∧s1=aX (fP.reg (s^^^0xffffffff) (l.take k))) (fun _ i=>l.length-(intOf i).toNat)
 case atStart=>exact⟨0,azQ _,rfl,by rw[aib,acj]; rfl⟩
 case round =>
  obtain⟨k,hk,rfl,rfl⟩:=hrel;by_cases hlt:k<l.length
  ·rcases HA.out with ⟨rfl,_⟩ | ⟨b,o,rfl,hb,hlc,hc⟩
   ·simp at hlt
   have hck:=hc k hlt;go_wp2
   go_loop [0,20] (fun s1 i=>∃j:Nat,j≤8∧i = .i j∧s1=aX (fP.many j ((fP.reg (s^^^0xffffffff) (l.take k))^^^l[k].toUInt32))) (fun _ i=>8-(intOf i).toNat)
   case atStart=>exact⟨0,azQ _,rfl,by rw[ajo,ajn]; rfl⟩
   case round =>
    obtain⟨j,hj,rfl,rfl⟩:=hrel;by_cases hlt:j<8
    ·have E:Hid (fP.many (j+1) ((fP.reg (s^^^0xffffffff) (l.take k))^^^l[k].toUInt32)=fP.one (fP.many j ((fP.reg (s^^^0xffffffff) (l.take k))^^^l[k].toUInt32))):=rfl;generalize fP.many j ((fP.reg (s^^^0xffffffff) (l.take k))^^^l[k].toUInt32)=x at E;go_wp2
     ·go_round
      case rel=>exact⟨j+1,by omega,by go_num,by rw[E.out,agT x ‹_›]⟩
      case measure=>simp[intOf]; omega
     go_round
     case rel=>exact⟨j+1,by omega,by go_num,by rw[E.out,akt x ‹_›]⟩
     case measure=>simp[intOf]; omega
    obtain rfl:j=8:=by omega
    go_wp2
    go_round
    case rel=>exact⟨k+1,by omega,by go_num,by rw[aea _ _ _ ‹_›]; rfl⟩
    case measure=>simp[intOf]; omega
  obtain rfl:k=l.length:=by omega
  go_wp2
  go_ret
  exact⟨jv (by rw[aib,acj]; simp only[fP.update]),rfl⟩
theorem aeb(l:List (List UInt8))(k:Nat)(h:k<l.length):fP.crc (l.take (k+1))=fP.update (fP.crc (l.take k)) l[k]:=by
 rw[take_snoc l k h]; simp only[fP.crc,List.foldl_append,List.foldl_cons,List.foldl_nil]
set_option maxHeartbeats 400000 in
theorem crc32(v:Value)(l:List (List UInt8))(w:World)(hv:xH w v l) :
  Calls Tryz.prog 60 #[v] w fun e w'=>e = .returned (aX (fP.crc l))∧w=w':=by
 obtain⟨a,cap,rfl,hm,ha⟩:=hv;have hl:=acf hm ha;have HA:=azF ha;clear ha;go_enter Tryz.func60,Tryz.ntmps60
 go_wp2
 go_loop [3,8] (fun s1 i=>∃k:Nat,k≤l.length∧i = .i k∧s1=aX (fP.crc (l.take k))) (fun _ i=>l.length-(intOf i).toNat)
 case atStart=>exact⟨0,azQ _,rfl,rfl⟩
 case round =>
  obtain⟨k,hk,rfl,rfl⟩:=hrel;by_cases hlt:k<l.length
  ·rcases HA.out with ⟨rfl,_⟩ | ⟨b,o,rfl,hb,hlc,hc⟩
   ·simp at hlt
   obtain⟨x,hck,hx⟩:=hc k hlt;go_wp2_with fail
   refine(Sm _ x l[k] _ hx).mono ?_;rintro e w' ⟨rfl,rfl⟩;go_wp2
   go_round
   case rel=>exact⟨k+1,by omega,by go_num,by rw[aeb l k ‹_›]⟩
   case measure=>simp[intOf]; omega
  obtain rfl:k=l.length:=by omega
  go_wp2
  go_ret
  exact⟨jv (by simp only),rfl⟩
end Go.Proofs.YtodpgjjgaddkeaaGreatDoor
end
