/- Walks of binenc: PutUvarint and the reference's; Same. -/
import Derived.Test.YtodpgjjgaddkeaaGreatDoorPk16
import Derived.Deep.RegionHeld3
import Derived.Laws.DeepNot64
import Derived.Lib.Zigzag
set_option maxHeartbeats 800000
set_option maxRecDepth 100000
namespace Go.Proofs.YtodpgjjgaddkeaaGreatDoor
open _root_.Go.Proofs.Tryz
open Go.RowKit En
variable{α:Type}
theorem aiX:∀m:Fin 256,m.val|||128=m.val%128+128:=by decide
theorem aiY(n:Nat):bits .or .u8 ((n:Int)%256) 128=(n:Int)%128+128:=by
 have h:=aiX ⟨n%256,aAK _ (by decide)⟩;have:=u8_or_nat (n%256) 128 (by omega) (by omega);rw[show((128:Nat):Int)=128 from rfl,show((n%256:Nat):Int)=(n:Int)%256 by omega]at this;rw[this,h]; simp only; omega
theorem fK(x:Nat)(w:World)(hx:x<18446744073709551616) :
  Calls prog 30 #[.int .u64 (x:Int)] w fun e w'=>∃v',e = .returned v'∧w'.ownsRow w.heap.size 5 1 v' (dV 10 x).length ((dV 10 x).map gK)∧Ext w w':=by
 go_enter func30,ntmps30
 go_wp2
 go_loopw [0,3] (fun xv v wr=>∃(f n:Nat) (out:List UInt8),xv = .int .u64 n∧n<18446744073709551616∧n<128^(f+1)∧out.length+f=9∧dV 10 x=out++dV (f+1) n∧wr.ownsRow w.heap.size 5 1 v out.length (out.map gK)∧Ext w wr) (fun xv _ _=>(intOf xv).toNat)
 case atStart=>exact⟨9,x,[],rfl,hx,by omega,rfl,rfl,aBW _ _ _ _,azS _ _⟩
 case round =>
  obtain⟨f,n,out,rfl,hn,hf,hl,hu,hown,hbel⟩:=hrel;have HU:=azt hu;have h63:out.length+1≤maxLen:=by unfold maxLen; omega
  have hby:(out.length+1)*1≤140737488355328:=by omega
  have hsz:w.heap.size≤wr.heap.size:=hbel.size;clear hu;by_cases hlt:n<128
  ·have hr:=nG wr (.u (n:Int)) 5 rfl;have hown':=hown.alloc (.cells #[.u (n:Int)] 5);have hsz':w.heap.size≤(wr.alloc (.cells #[.u (n:Int)] 5)).heap.size:=by simp; omega
   clear hown;have hn8:(n:Int)%256=n:=by omega
   go_wp2_with (at_builtin; refine bM rfl _ _ _ rfl yR w.heap.size hown' rfl hr rfl h63 hby hsz' ?_; intro v' w' hown2 hg)
   go_ret
   refine⟨_,rfl,?_,(hbel.alloc hsz _).grown hg hsz' (fun k hk=>(World.ownsRow.lt hown' k hk).1)⟩;have e:dV 10 x=out++[UInt8.ofNat n]:=by rw[HU.out,dV,azv hlt]
   rw[e];simpa[gK,FK (show n<256 by omega)]using hown2
  cases f with
  | zero=>exact absurd hf (by omega)
  | succ f =>
   have hr:=nG wr (.u ((n:Int)%128+128)) 5 rfl;have hown':=hown.alloc (.cells #[.u ((n:Int)%128+128)] 5);have hsz':w.heap.size≤(wr.alloc (.cells #[.u ((n:Int)%128+128)] 5)).heap.size:=by simp; omega
   have hn8:=aiY n;clear hown;go_wp2_with (at_builtin; refine bM rfl _ _ _ rfl yR w.heap.size hown' rfl hr rfl h63 hby hsz' ?_; intro v' w' hown2 hg)
   go_roundw
   case rel =>
    refine⟨f,n/128,out++[UInt8.ofNat (n%128+128)],by simp,by omega,?_,by simp; omega,?_,?_,(hbel.alloc hsz _).grown hg hsz' (fun k hk=>(World.ownsRow.lt hown' k hk).1)⟩
    ·rw[aAd]at hf; exact aBC (by omega)
    ·rw[HU.out,dV,azu hlt]; simp
    simpa[gK,FK (show n%128+128<256 by omega),show((n:Int)%128+128)%256=(n:Int)%128+128 by omega]using hown2
   case measure=>simp[intOf]; omega
open Go.RowKit En
variable{α:Type}
open Go.RowKit En
variable{α:Type}
theorem abS(a:Nat)(ha:a<18446744073709551616):bits .xor .u64 (a:Int) 18446744073709551615=((18446744073709551615-a:Nat):Int):=by
 have h1:=aqc (UInt64.ofNat a) (-1);have e1:(UInt64.ofNat a).toNat=a:=by simp; omega
 have e2:(((-1:UInt64).toNat:Nat):Int)=18446744073709551615:=by decide
 rw[e1,e2,UInt64.xor_neg_one,UInt64.toNat_not,e1]at h1;rw[h1]; rfl
theorem abT(x:Int)(h : -9223372036854775808≤x)(h2:x≤9223372036854775807) :
  bits BinOp.xor IntKind.u64 (IntKind.u64.wrap (IntKind.u64.wrap x*2)) (IntKind.u64.wrap (x/9223372036854775808))=((zig x:Nat):Int):=by
 rw[aAL,aAL,aAL];unfold zig;split
 ·rw[show x/9223372036854775808%18446744073709551616=18446744073709551615 by omega];rw[show x%18446744073709551616*2%18446744073709551616=(((2*x+18446744073709551616).toNat:Nat):Int) by omega,abS _ (by omega)];omega
 rw[show x/9223372036854775808%18446744073709551616=((0:Nat):Int) by omega];rw[show x%18446744073709551616*2%18446744073709551616=(((2*x).toNat:Nat):Int) by omega,u64_xor_nat _ _ (by omega) (by omega),Nat.xor_zero]
theorem yx(x:Int)(w:World)(h : -9223372036854775808≤x)(h2:x≤9223372036854775807) :
  Calls prog 85 #[.i x] w fun e w'=>∃v',e = .returned v'∧w'.ownsRow w.heap.size 5 1 v' (dV 10 (zig x)).length ((dV 10 (zig x)).map gK)∧Ext w w':=by
 have HC:=azt (fK (zig x) w (MX h h2));go_enter func85,ntmps85
 go_wp2_with fail
 rw[abT x h h2];refine HC.out.mono ?_;rintro e w' ⟨v',rfl,ho,hb⟩;go_wp2_with fail
 go_ret
 exact⟨_,rfl,ho,hb⟩
open Go.RowKit En
variable{α:Type}
theorem FM(v:Value)(l:List UInt8)(i:Int)(w:World)(hv:bJ w v l)(h:i<0∨(l.length:Int)<i) :
  Calls prog 73 #[v,.i i] w fun e w'=>e = .returned (.tuple #[.pointer none,.i 2])∧w=w':=by
 obtain⟨a,cap,rfl,hm,ha⟩:=hv;have hl:=qO hm ha;clear ha;go_enter func73,ntmps73
 by_cases h1:i<0
 ·go_wp2_with fail
  go_ret2
  exact⟨rfl,rfl⟩
 have h2:(l.length:Int)<i:=by omega
 clear h;go_wp2_with fail
 go_ret2
 exact⟨rfl,rfl⟩
theorem Zf(v:Value)(l:List UInt8)(i:Nat)(w:World)(hv:bJ w v l)(h:i≤l.length) :
  Calls prog 73 #[v,.i i] w fun e w'=>e = .returned (.tuple #[.q w.heap.size 0,.i 0])∧w'=w.alloc (.cells #[v,.i i] 144):=by
 obtain⟨a,cap,rfl,hm,ha⟩:=hv;have hl:=qO hm ha;clear ha;go_enter func73,ntmps73
 go_wp2_with fail
 go_ret2
 exact⟨rfl,rfl⟩
theorem P7(v:Value)(l:List UInt8)(b p:Nat)(w:World)(hv:bJ w v l)(h0:w.cell? ⟨b,0,none⟩=some v)(h1:w.cell? ⟨b,1,none⟩=some (.i p))(hp:p≤l.length) :
  Calls prog 112 #[.q b 0] w fun e w'=>e = .returned (.i (l.length-p:Nat))∧∃n,w'=w.drewN n:=by
 obtain⟨a,cap,rfl,hm,ha⟩:=hv;have hl:=qO hm ha;clear ha;go_enter func112,ntmps112
 go_wp2_with fail
 go_quiet (fail)
 go_wp2_with fail
 go_ret
 exact⟨jv (by omega),_,rfl⟩
open Go.RowKit En
variable{α:Type}
theorem abU{bb o n c n' c':Nat}{ad:Addr}(h:Value.slice (some ⟨bb,o,none⟩) n c = .slice (some ad) n' c'):bb=ad.block:=by
 simp only[az4,azy]at h; rw[←h.1]
theorem afG{f:α→Value}{w:World}{bb o cap p k:Nat}{l:List α}(hm:cap≤maxLen)(hp:p+k≤l.length)(hlc:l.length≤cap)(hb:bb<w.heap.size)
  (hc:∀i (h:i<l.length),w.cell? ⟨bb,o+i,none⟩=some (f l[i])):dB f w (.slice (if cap=p then some ⟨bb,o,none⟩else some ⟨bb,o+p,none⟩) k (cap-p)) ((l.drop p).take k):=by
 have e:((l.drop p).take k).length=k:=by simp; omega
 rcases aAf k with rfl | hk
 ·refine⟨_,cap-p,by rw[e],by omega,.inl ⟨by simp,fun h=>?_⟩⟩;split at h<;>simp at h
 rw[azu (by omega)];refine⟨_,cap-p,by rw[e],by omega,.inr ⟨bb,o+p,rfl,hb,by rw[e]; omega,fun i hi=>?_⟩⟩;rw[e]at hi;rw[aBi,hc (p+i) (by omega)]; simp
theorem Zg(l:List UInt8)(b p k bb o cap:Nat)(w:World)(hm:cap≤maxLen)(hlc:l.length≤cap)(hbb:bb<w.heap.size)(hne:bb≠b)
  (hcs:∀i (h:i<l.length),w.cell? ⟨bb,o+i,none⟩=some (gK l[i])) (h0:w.cell? ⟨b,0,none⟩=some (.slice (some ⟨bb,o,none⟩) l.length cap)) (h1:w.cell? ⟨b,1,none⟩=some (.i p))
  (hfz:w.frozen? ⟨b,1,none⟩=false) (hp:p+k≤l.length) :
  Calls prog 113 #[.q b 0,.i k] w fun e w'=>∃v' n,e = .returned v'∧w'=(w.setCell ⟨b,1,none⟩ (.i ((p:Int)+(k:Int)))).drewN n ∧
   bJ w' v' ((l.drop p).take k)∧∀ad n cap',v' = .slice (some ad) n cap'→bb=ad.block:=by
 have HC:=azt hcs;clear hcs;have hc:p+k≤cap:=by omega
 have hi0:(0:Int)≤(p:Int):=by omega
 have hi1:(p:Int)≤(p:Int)+(k:Int):=by omega
 have hi2:(p:Int)+(k:Int)≤(cap:Int):=by omega
 have hi4:IntKind.i64.wrap ((p:Int)+(k:Int))=(p:Int)+(k:Int):=by rw[aBX]; have:maxLen=9223372036854775807:=rfl; omega
 have hi5:((p:Int)+(k:Int)).toNat=p+k:=by omega
 have hc2:p≤p+k:=by omega
 have hc3:p+k-p=k:=by omega
 have hc4:p≤cap:=by omega
 have hrow:bJ ((w.setCell ⟨b,1,none⟩ (.i ((p:Int)+(k:Int)))).drewN 1) (.slice (if cap=p then some ⟨bb,o,none⟩else some ⟨bb,o+p,none⟩) k (cap-p)) ((l.drop p).take k):=
  afG hm hp hlc (by simpa using hbb) (fun i h=>by rw[World.cell?_drewN,World.cell?_setCell_other _ _ _ _ (by simp only[ne_eq,aBv]; omega)]; exact HC.out i h)
 by_cases hcp:cap=p
 ·rw[azv hcp]at hrow;have HR:=azt hrow;clear hrow;subst hcp;have HR:=azt (by have h:=HR.out; rw[aBw]at h; exact h);go_enter func113,ntmps113
  go_wp2_with fail
  go_region_held3 (fun w'=>w'.cell? ⟨b,0,none⟩=some (.slice (some ⟨bb,o,none⟩) l.length cap)∧w'.cell? ⟨b,1,none⟩=some (.i cap)) (go_keep) (fail)
  go_wp2_with fail
  go_ret
  exact⟨_,1,rfl,rfl,HR.out,fun _ _ _ e=>abU e⟩
 rw[azu hcp]at hrow;have HR:=azt hrow;clear hrow;go_enter func113,ntmps113
 go_wp2_with fail
 go_region_held3 (fun w'=>w'.cell? ⟨b,0,none⟩=some (.slice (some ⟨bb,o,none⟩) l.length cap)∧w'.cell? ⟨b,1,none⟩=some (.i p)) (go_keep) (fail)
 go_wp2_with fail
 go_ret
 exact⟨_,1,rfl,rfl,HR.out,fun _ _ _ e=>abU e⟩
open Go.RowKit En
variable{α:Type}
structure Rd (w:World) (b:Nat) (v:Value) (l:List UInt8) (p:Nat):Prop where
 c0:w.cell? ⟨b,0,none⟩=some v
 c1:w.cell? ⟨b,1,none⟩=some (.i p)
 fz:w.frozen? ⟨b,1,none⟩=false
 row:bJ w v l
 off:0<l.length→Off b v
 hp:p≤l.length
 lt:b<w.heap.size
theorem Rd.drewN{w:World}{b:Nat}{v:Value}{l:List UInt8}{p:Nat}(h:Rd w b v l p)(n:Nat):Rd (w.drewN n) b v l p:=
 ⟨by rw[World.cell?_drewN]; exact h.c0,by rw[World.cell?_drewN]; exact h.c1,by rw[World.frozen?_drewN]; exact h.fz,h.row.below (below_drewN (azS _ _) n),h.off,h.hp,by simpa using h.lt⟩
theorem Rd.ext{w w':World}{b:Nat}{v:Value}{l:List UInt8}{p:Nat}(h:Rd w b v l p)(hb:Ext w w'):Rd w' b v l p:=
 ⟨by rw[hb.cell (p:=⟨b,0,none⟩) h.lt]; exact h.c0,by rw[hb.cell (p:=⟨b,1,none⟩) h.lt]; exact h.c1,by rw[hb.frozen (p:=⟨b,1,none⟩) h.lt]; exact h.fz,h.row.below hb,h.off,h.hp,by have:=hb.size; have:=h.lt; omega⟩
theorem Rd.set{w:World}{b:Nat}{v:Value}{l:List UInt8}{p q:Nat}(h:Rd w b v l p)(hq:q≤l.length):Rd (w.setCell ⟨b,1,none⟩ (.i q)) b v l q:=
 ⟨by rw[World.cell?_setCell_other _ _ _ _ (by simp)]; exact h.c0,World.cell?_setCell_same _ _ _ h.c1,by simpa using h.fz,h.row.ch ((Ch.refl b w).setCell _ _) h.off,h.off,hq,by simpa[World.setCell]using h.lt⟩
theorem next_any(l:List UInt8)(b p k:Nat)(v:Value)(w:World)(h:Rd w b v l p)(hk:p+k≤l.length)(h0:0<l.length) :
  Calls prog 113 #[.q b 0,.i k] w fun e w'=>∃v',e = .returned v'∧Rd w' b v l (p+k)∧Ch b w w'∧bJ w' v' ((l.drop p).take k)∧Off b v':=by
 obtain⟨bb,o,cap,hv,hb,hl,hm,hc⟩:=dM h.row rfl h0;subst hv;have hne:bb≠b:=h.off h0 _ _ _ rfl;refine(Zg l b p k bb o cap w hm hl hb hne hc h.c0 h.c1 h.fz hk).mono ?_;rintro e w' ⟨v',n,rfl,hw,hr,hoff⟩;have he:(p:Int)+(k:Int)=((p+k:Nat):Int):=by omega
 rw[he]at hw;refine⟨v',rfl,?_,?_,hr,?_⟩
 ·rw[hw]; exact(h.set hk).drewN n
 ·rw[hw]; exact((Ch.refl b w).setCell _ _).drewN n
 intro ad n' cap' hv';exact fun e=>hne (by rw[←e]; exact hoff ad n' cap' hv')
theorem MZ(v:Value)(l:List UInt8)(i:Nat)(w:World)(hv:bJ w v l)(h:i≤l.length) :
  Calls prog 73 #[v,.i i] w fun e w'=>∃b,e = .returned (.tuple #[.q b 0,.i 0])∧Rd w' b v l i∧Ext w w'∧w.heap.size≤b:=by
 refine(Zf v l i w hv h).mono ?_;rintro e w' ⟨rfl,rfl⟩;refine⟨_,rfl,⟨?_,?_,?_,hv.below (aF _ _),afH hv (azx _),h,by simp⟩,aF _ _,azx _⟩
 ·rw[World.cell?_alloc_at _ _ _ _ rfl]; rfl
 ·rw[World.cell?_alloc_at _ _ _ _ rfl]; rfl
 rw[World.frozen?_alloc_at _ _ _ _ rfl]
open Go.RowKit En
variable{α:Type}
def Nc(w:World)(b:Nat)(v:Value)(l:List UInt8)(p:Nat)(r:Except Nat (Nat×Nat))(e:Ending)(w':World):Prop:=
 ∃q,Rd w' b v l q∧Ch b w w'∧(match r with
  | .ok (n,k)=>q=p+k∧e = .returned (.tuple #[.int .u64 (n:Int),.i 0])
  | .error er=>e = .returned (.tuple #[.int .u64 0,.i er]))
theorem Nh(l:List UInt8)(b p:Nat)(v:Value)(w:World)(h:Rd w b v l p) :
  Calls prog 112 #[.q b 0] w fun e w'=>e = .returned (.i (l.length-p:Nat))∧Rd w' b v l p∧Ch b w w':=by
 refine(P7 v l b p w h.row h.c0 h.c1 h.hp).mono ?_;rintro e w' ⟨rfl,n,rfl⟩;exact⟨rfl,h.drewN n,(Ch.refl b w).drewN n⟩
theorem UA{w:World}{b:Nat}{v:Value}{l:List UInt8}{p k f acc c:Nat}{w':World}(hu:Hid (lS 9 (l.drop p)=comb k acc (lS f (l.drop (p+k)))))(hf:lS f (l.drop (p+k)) = .ok (c,1))
  (hr:Rd w' b v l (p+k+1)) (hc:Ch b w w') {x:Int} (hx:x=((acc+128^k*c:Nat):Int)):Nc w b v l p (lS 9 (l.drop p)) (.returned (.tuple #[.int .u64 x,.i 0])) w':=by
 refine⟨p+k+1,hr,hc,?_⟩;rw[hu.out,hf,hx];exact⟨by omega,rfl⟩
theorem EP{w:World}{b:Nat}{v:Value}{l:List UInt8}{p k f acc q er:Nat}{w':World}(hu:Hid (lS 9 (l.drop p)=comb k acc (lS f (l.drop (p+k)))))(hf:lS f (l.drop (p+k)) = .error er)
  (hr:Rd w' b v l q) (hc:Ch b w w'):Nc w b v l p (lS 9 (l.drop p)) (.returned (.tuple #[.int .u64 0,.i er])) w':=by
 refine⟨q,hr,hc,?_⟩;rw[hu.out,hf];rfl
theorem UC:∀c:Fin 256,bits .andNot .u8 (c.val:Int) 128=((c.val%128:Nat):Int):=by decide +kernel
theorem P8(c:UInt8)(acc k:Nat)(h:acc<128^k)(hk:k≤9)(h9:k<9∨c.toNat<2) :
  bits BinOp.or IntKind.u64 (acc:Int) (IntKind.u64.wrap (IntKind.u64.wrap (bits BinOp.andNot IntKind.u8 (c.toNat:Int) 128)*2^(7*k)))=((acc+128^k*(c.toNat%128):Nat):Int):=by
 have h1:=UC ⟨c.toNat,c.toNat_lt⟩;simp only at h1;rw[h1];have e128:(128:Nat)^k=2^(7*k):=by rw[Nat.pow_mul]
 have hp:2^(7*k)≤2^63:=aAy (by omega) (by omega);have hb:(c.toNat%128)*2^(7*k)<18446744073709551616:=by
  rcases h9 with h9 | h9
  ·have h2:2^(7*k)≤2^56:=aAy (by omega) (by omega);have h3:c.toNat%128≤127:=by omega
   have:=aBa h3 h2;omega
  have h3:c.toNat%128≤1:=by omega
  have:=aBa h3 hp;omega
 have w1:IntKind.u64.wrap ((c.toNat%128:Nat):Int)=((c.toNat%128:Nat):Int):=by rw[aAL]; omega
 rw[w1];have w2:((c.toNat%128:Nat):Int)*2^(7*k)=(((c.toNat%128)*2^(7*k):Nat):Int):=by push_cast; rfl
 rw[w2,aAL];have w3:(((c.toNat%128)*2^(7*k):Nat):Int)%18446744073709551616=(((c.toNat%128)*2^(7*k):Nat):Int):=by omega
 rw[w3,u64_or_nat _ _ (by omega) hb,Nat.or_comm,nat_join (7*k) _ _ (Nat.mul_mod_left _ _) (by omega),e128,aAa,aBj]
theorem yS(l:List UInt8)(b p:Nat)(v:Value)(w:World)(h:Rd w b v l p) :
  Calls prog 75 #[.q b 0] w (Nc w b v l p (lS 9 (l.drop p))):=by
 have hml:=h.row.len;unfold maxLen at hml;have H:=azt h;clear h;go_enter func75,ntmps75
 go_wp2_with fail
 go_loopw [4,5] (fun n i wr=>∃k f acc:Nat,i = .i k∧k+f=9∧n = .int .u64 acc∧acc<128^k∧Rd wr b v l (p+k)∧Hid (lS 9 (l.drop p)=comb k acc (lS f (l.drop (p+k))))∧Ch b w wr) (fun _ i _=>10-(intOf i).toNat)
 case atStart=>exact⟨0,9,0,rfl,rfl,rfl,by omega,H.out,(Zh _).symm,Ch.refl _ _⟩
 case round =>
  obtain⟨k,f,acc,rfl,hkf,rfl,hacc,hrd,HU,hch⟩:=hrel;have HC:=azt (Nh l b (p+k) v wr hrd);have hpk:=hrd.hp;have HR:=azt hrd;have HA:=azt hacc;clear hrd hacc;go_wp2_with fail
  refine HC.out.mono ?_;rintro e w' ⟨rfl,abV,amb⟩;clear HC HR;by_cases hlt:p+k<l.length
  ·have hl0:(0:Int)<((l.length-(p+k):Nat):Int):=by omega
   have HN:=azt (next_any l b (p+k) 1 v w' abV (by omega) (by omega));have HR:=azt abV;clear abV;go_wp2_with fail
   refine HN.out.mono ?_;rintro e w3 ⟨v',rfl,amc,aqd,hrow,hoff⟩;clear HN HR;have hone:(l.drop (p+k)).take 1=[l[p+k]]:=by rw[aAG hlt]; rfl
   rw[hone]at hrow;obtain⟨c,hcc⟩:∃c,l[p+k]=c:=⟨_,rfl⟩;rw[hcc]at hrow;obtain⟨bb,o,cap,hv,hb,hl,hm,hc⟩:=dM hrow rfl Nat.one_pos;have hc0:=hc 0 Nat.one_pos;simp only[aBk,aB3]at hc0;rw[hv];have HD:=azt (aAG hlt);rw[hcc]at HD;clear hc hv hrow hone hcc;have HR:=azt amc;have Nj:=Ch.trans hch (Ch.trans amb aqd);clear amc;have hc8:=c.toNat_lt;have hk9:k≤9:=by omega
   cases f with
   | zero =>
    obtain rfl:k=9:=by omega
    rcases aB4 c.toNat 1 with h1 | h1 | h1
    ·have hc1:((c.toNat:Int)==0)=true:=by rw[azI]; omega
     have hu:Hid (lS 0 (l.drop (p+9)) = .error 3):=by rw[HD.out]; simp only[lS]; rw[azu (by omega)]; rfl
     go_wp2_with fail
     go_ret2
     exact EP HU hu.out HR.out Nj
    ·have hc1:((c.toNat:Int)==0)=false:=by rw[azW]; omega
     have hu:Hid (lS 0 (l.drop (p+9)) = .ok (c.toNat,1)):=by rw[HD.out]; simp only[lS]; rw[azv h1,h1]; rfl
     have HS:=azt (P8 c acc 9 HA.out (by omega) (.inr (by omega)));have h1':(c.toNat:Int)≤1:=by omega
     have h2':(c.toNat:Int)<128:=by omega
     have H1:=azt h1;clear h1;go_wp2_with fail
     go_ret2
     refine UA HU hu.out HR.out Nj (HS.out.trans ?_);have:=H1.out; rw[this]
    have hu:Hid (lS 0 (l.drop (p+9)) = .error 3):=by rw[HD.out]; simp only[lS]; rw[azu (by omega)]; rfl
    go_wp2_with fail
    go_ret2
    exact EP HU hu.out HR.out Nj
   | succ f =>
    have hk9:((k:Int)==9)=false:=by rw[azW]; omega
    have HS:=azt (P8 c acc k HA.out (by omega) (.inl (by omega)));by_cases hlo:c.toNat<128
    ·have aqe:(c.toNat:Int)<128:=by omega
     have amd:Hid (c.toNat%128=c.toNat):=aBl hlo;rcases aAf c.toNat with h0 | h0
     ·have h0':((c.toNat:Int)==0)=true:=by rw[azI]; omega
      rcases aAf k with hk | hk
      ·have hu:Hid (lS (f+1) (l.drop (p+k)) = .ok (c.toNat,1)):=by rw[HD.out]; simp only[lS]; rw[azv hlo,azu (by omega)]; rfl
       have hkp:¬(0:Int)<(k:Int):=by omega
       have HK:=azt hk;have H0:=azt h0;clear hk h0;go_wp2_with fail
       go_ret2
       exact UA HU hu.out HR.out Nj (HS.out.trans (by rw[amd.out]))
      have hu:Hid (lS (f+1) (l.drop (p+k)) = .error 3):=by rw[HD.out]; simp only[lS]; rw[azv hlo,azv ⟨h0,by omega⟩]; rfl
      have hkp:(0:Int)<(k:Int):=by omega
      have H0:=azt h0;clear h0;go_wp2_with fail
      go_ret2
      exact EP HU hu.out HR.out Nj
     have h0':((c.toNat:Int)==0)=false:=by rw[azW]; omega
     have hu:Hid (lS (f+1) (l.drop (p+k)) = .ok (c.toNat,1)):=by rw[HD.out]; simp only[lS]; rw[azv hlo,azu (by omega)]; rfl
     go_wp2_with fail
     go_ret2
     exact UA HU hu.out HR.out Nj (HS.out.trans (by rw[amd.out]))
    have aqe:¬(c.toNat:Int)<128:=by omega
    have HL:=azt hlo;clear hlo;go_wp2_with fail
    go_roundw
    case rel =>
     refine⟨k+1,f,acc+128^k*(c.toNat%128),by go_num,by omega,by rw[HS.out],?_,HR.out,?_,Nj⟩
     ·have:=HA.out;rw[aAd];have h2:c.toNat%128≤127:=by omega
      have:=aAe (128^k) h2;omega
     show _=_;rw[HU.out,HD.out,abW f c _ HL.out,Zi]; rfl
    case measure=>simp[intOf]; omega
  have hl0:¬(0:Int)<((l.length-(p+k):Nat):Int):=by omega
  have hu:Hid (lS f (l.drop (p+k)) = .error 4):=by rw[aAS (by omega),afI]; rfl
  have Nj:=Ch.trans hch amb;have HR:=azt abV;clear abV;go_wp2_with fail
  go_ret2
  exact EP HU hu.out HR.out Nj
open Go.RowKit En
variable{α:Type}
theorem afJ{l:List UInt8}{i:Int}(h:i<0∨(l.length:Int)<i):xk l i=(0,0,2):=by unfold xk; rw[azv h]
theorem aiZ{l:List UInt8}{i n k:Nat}(h:i≤l.length)(hu:lS 9 (l.drop i) = .ok (n,k)):xk l i=(n,i+k,0):=by
 unfold xk; rw[azu (by omega),aA3,hu]
theorem afK{l:List UInt8}{i e:Nat}(h:i≤l.length)(hu:lS 9 (l.drop i) = .error e):xk l i=(0,0,e):=by
 unfold xk; rw[azu (by omega),aA3,hu]
theorem XD{l:List UInt8}{e:Nat}(hu:lS 9 l = .error e):((e:Int) != 0)=true:=by
 rw[bne_iff_ne]; rcases ER _ _ _ hu with h | h<;>omega
abbrev ame (r:Nat×Nat×Nat):Value := .tuple #[.int .u64 (r.1:Int),.i r.2.1,.i r.2.2]
theorem vK(v:Value)(l:List UInt8)(i:Int)(w:World)(hv:bJ w v l) :
  Calls prog 47 #[v,.i i] w fun e w'=>e = .returned (ame (xk l i))∧Ext w w':=by
 by_cases hbad:i<0∨(l.length:Int)<i
 ·rw[afJ hbad];have HF:=azt (FM v l i w hv hbad);clear hbad;go_enter func47,ntmps47
  go_wp2_with fail
  refine HF.out.mono ?_;rintro e w' ⟨rfl,rfl⟩;go_wp2_with fail
  go_ret3
  exact⟨rfl,azS _ _⟩
 obtain⟨p,rfl⟩:∃p:Nat,i=p:=⟨i.toNat,by omega⟩;have hp:p≤l.length:=by omega
 have HF:=azt (MZ v l p w hv hp);clear hbad;have hl:=hv.len;unfold maxLen at hl;cases hu:lS 9 (l.drop p)with
 | error er =>
  rw[afK hp hu];have he:=XD hu;have HU:=azt hu;clear hu;go_enter func47,ntmps47
  go_wp2_with fail
  refine HF.out.mono ?_;rintro e w1 ⟨b,rfl,hrd,hb1,hb⟩;have HN:=azt (yS l b p v w1 hrd);rw[HU.out]at HN;clear hrd HF;go_wp2_with fail
  refine HN.out.mono ?_;rintro e w2 ⟨q,hrd,hch,rfl⟩;have HR:=azt hrd;have HB:=azt (aBm hb1 (hch.below hb hb1.size));clear hrd hch hb1 HN;go_wp2_with fail
  go_ret3
  exact⟨rfl,HB.out⟩
 | ok r =>
  obtain⟨n,k⟩:=r;rw[aiZ hp hu];have HU:=azt hu;clear hu;go_enter func47,ntmps47
  go_wp2_with fail
  refine HF.out.mono ?_;rintro e w1 ⟨b,rfl,hrd,hb1,hb⟩;have HN:=azt (yS l b p v w1 hrd);rw[HU.out]at HN;clear hrd HF;go_wp2_with fail
  refine HN.out.mono ?_;rintro e w2 ⟨q,hrd,hch,hq,rfl⟩;have h1:=hrd.c1;have HB:=azt (aBm hb1 (hch.below hb hb1.size));have HQ:=azt hq;clear hrd hch hb1 HN hq;go_wp2_with fail
  go_quiet (fail)
  go_wp2_with fail
  go_ret3
  rw[HQ.out];exact⟨rfl,below_drewN HB.out _⟩
open Go.RowKit En
variable{α:Type}
open Go.RowKit En
variable{α:Type}
theorem UD(l:List UInt8)(i:Int):(xk l i).1<18446744073709551616:=by
 unfold xk;split
 ·simp
 split
 ·rename_i h; exact(ES h).1
 simp
abbrev aqf (r:Int×Nat×Nat):Value := .tuple #[.i r.1,.i r.2.1,.i r.2.2]
theorem Jz(k:IntKind)(x y:Int):bits .xor k x y=bits .xor k y x:=by
 show k.wrap ((BitVec.ofInt k.bits x^^^BitVec.ofInt k.bits y).toNat:Int)=k.wrap ((BitVec.ofInt k.bits y^^^BitVec.ofInt k.bits x).toNat:Int);rw[BitVec.xor_comm]
theorem abX(a:Nat)(ha:a<9223372036854775808):bits .xor .i64 (a:Int) 0=(a:Int):=by
 show IntKind.i64.wrap ((BitVec.ofInt 64 (a:Int)^^^BitVec.ofInt 64 0).toNat:Int)=_;have h1:BitVec.ofInt 64 0=0#64:=by decide
 rw[h1,BitVec.xor_zero,ofInt_u64 a (by omega)];simp[IntKind.wrap,IntKind.bits,IntKind.signed];omega
theorem UE(n:Nat)(h:n<18446744073709551616):bits BinOp.xor IntKind.i64 ((n:Int)/2) (wrap64 (-wrap64 (bits BinOp.and IntKind.u64 (n:Int) 1)))=Dz n:=by
 rw[Lib.u64_and1 _ (by omega) (by omega)];unfold Dz;have e:(n:Int)/2=((n/2:Nat):Int):=rfl;rcases Nat.mod_two_eq_zero_or_one n with h2 | h2
 ·have e1:(n:Int)%2=0:=by omega
  have e2:wrap64 (-wrap64 0)=0:=by simp[wrap64]
  rw[e1,e2,e,abX _ (by omega),azu (by omega)]
 have e1:(n:Int)%2=1:=by omega
 have e2:wrap64 (-wrap64 1) = -1:=by simp[wrap64]
 rw[e1,e2,e,Jz,i64_not _ (by omega),azv h2]
theorem UF(v:Value)(l:List UInt8)(i:Int)(w:World)(hv:bJ w v l) :
  Calls prog 115 #[v,.i i] w fun e w'=>e = .returned (aqf (vat l i))∧Ext w w':=by
 have HC:=azt (vK v l i w hv);have hn:=UD l i;unfold vat;generalize xk l i=r at *;obtain⟨n,next,er⟩:=r;simp only at hn;clear hv;go_enter func115,ntmps115
 go_wp2_with fail
 refine HC.out.mono ?_;rintro e w' ⟨rfl,hb⟩;go_wp2_with fail
 go_ret3
 exact⟨by rw[UE _ hn]; rfl,hb⟩
end Go.Proofs.YtodpgjjgaddkeaaGreatDoor
