/- Walks of binenc: PutUvarint and the reference's; Same. -/
import Derived.Test.YtapmgonflgahbaaGreatDoorPk20
import Derived.Deep.RegionHeld3
import Derived.Laws.DeepNot64
import Derived.Lib.Zigzag
set_option maxHeartbeats 800000
set_option maxRecDepth 100000
namespace Go.Proofs.YtapmgonflgahbaaGreatDoor
open _root_.Go.Proofs.Tryz
open Go.RowKit En
variable{α:Type}
theorem ad3:∀m:Fin 256,m.val|||128=m.val%128+128:=by decide
theorem ad4(n:Nat):bits .or .u8 ((n:Int)%256) 128=(n:Int)%128+128:=by
 have h:=ad3 ⟨n%256,ao9 _ (by decide)⟩;have:=u8_or_nat (n%256) 128 (by omega) (by omega);rw[show((128:Nat):Int)=128 from rfl,show((n%256:Nat):Int)=(n:Int)%256 by omega]at this;rw[this,h]; simp only; omega
theorem oz(x:Nat)(w:World)(hx:x<18446744073709551616) :
  Calls prog 92 #[.int .u64 (x:Int)] w fun e w'=>∃v',e = .returned v'∧w'.ownsRow w.heap.size 5 1 v' (dP 10 x).length ((dP 10 x).map dY)∧Ext w w':=by
 go_enter func92,ntmps92
 go_wp2
 go_loopw [0,3] (fun xv v wr=>∃(f n:Nat) (out:List UInt8),xv = .int .u64 n∧n<18446744073709551616∧n<128^(f+1)∧out.length+f=9∧dP 10 x=out++dP (f+1) n∧wr.ownsRow w.heap.size 5 1 v out.length (out.map dY)∧Ext w wr) (fun xv _ _=>(intOf xv).toNat)
 case atStart=>exact⟨9,x,[],rfl,hx,by omega,rfl,rfl,apf w #[] 0 (an7 _) (aoa _) rfl,aG _ _⟩
 case round =>
  obtain⟨f,n,out,rfl,hn,hf,hl,hu,hown,hbel⟩:=hrel;have HU:=anU hu;have h63:out.length+1≤maxLen:=by unfold maxLen; omega
  have hby:(out.length+1)*1≤140737488355328:=by omega
  have hsz:w.heap.size≤wr.heap.size:=hbel.size;clear hu;by_cases hlt:n<128
  ·have hr:=jr wr (.u (n:Int)) 5 rfl;have hown':=hown.alloc (.cells #[.u (n:Int)] 5);have hsz':w.heap.size≤(wr.alloc (.cells #[.u (n:Int)] 5)).heap.size:=by simp; omega
   clear hown;have hn8:(n:Int)%256=n:=by omega
   go_wp2_with (at_builtin; refine aQ rfl _ _ _ rfl nX w.heap.size hown' rfl hr rfl h63 hby hsz' ?_; intro v' w' hown2 hg)
   go_ret
   refine⟨_,rfl,?_,(hbel.alloc hsz _).grown hg hsz' (fun k hk=>(World.ownsRow.lt hown' k hk).1)⟩;have e:dP 10 x=out++[UInt8.ofNat n]:=by rw[HU.out,dP,an6 hlt]
   rw[e];simpa[dY,EO (show n<256 by omega)]using hown2
  cases f with
  | zero=>exact absurd hf (by omega)
  | succ f =>
   have hr:=jr wr (.u ((n:Int)%128+128)) 5 rfl;have hown':=hown.alloc (.cells #[.u ((n:Int)%128+128)] 5);have hsz':w.heap.size≤(wr.alloc (.cells #[.u ((n:Int)%128+128)] 5)).heap.size:=by simp; omega
   have hn8:((n:Int)%128+128)%256=(n:Int)%128+128:=by omega
   clear hown;go_wp2_with (at_builtin; refine aQ rfl _ _ _ rfl nX w.heap.size hown' rfl hr rfl h63 hby hsz' ?_; intro v' w' hown2 hg)
   go_roundw
   case rel =>
    refine⟨f,n/128,out++[UInt8.ofNat (n%128+128)],by simp,by omega,?_,by simp; omega,?_,?_,(hbel.alloc hsz _).grown hg hsz' (fun k hk=>(World.ownsRow.lt hown' k hk).1)⟩
    ·rw[aoF]at hf; exact apF (by omega)
    ·rw[HU.out,dP,an0 hlt]; simp
    simpa[dY,EO (show n%128+128<256 by omega),hn8]using hown2
   case measure=>simp[intOf]; omega
theorem gW(x:Nat)(w:World)(hx:x<18446744073709551616) :
  Calls prog 79 #[.int .u64 (x:Int)] w fun e w'=>∃v',e = .returned v'∧w'.ownsRow w.heap.size 5 1 v' (dP 10 x).length ((dP 10 x).map dY)∧Ext w w':=by
 go_enter func79,ntmps79
 go_wp2
 go_loopw [0,3] (fun xv v wr=>∃(f n:Nat) (out:List UInt8),xv = .int .u64 n∧n<18446744073709551616∧n<128^(f+1)∧out.length+f=9∧dP 10 x=out++dP (f+1) n∧wr.ownsRow w.heap.size 5 1 v out.length (out.map dY)∧Ext w wr) (fun xv _ _=>(intOf xv).toNat)
 case atStart=>exact⟨9,x,[],rfl,hx,by omega,rfl,rfl,ap5 _ _ _ _,aor _ _⟩
 case round =>
  obtain⟨f,n,out,rfl,hn,hf,hl,hu,hown,hbel⟩:=hrel;have HU:=anU hu;have h63:out.length+1≤maxLen:=by unfold maxLen; omega
  have hby:(out.length+1)*1≤140737488355328:=by omega
  have hsz:w.heap.size≤wr.heap.size:=hbel.size;clear hu;by_cases hlt:n<128
  ·have hr:=jr wr (.u (n:Int)) 5 rfl;have hown':=hown.alloc (.cells #[.u (n:Int)] 5);have hsz':w.heap.size≤(wr.alloc (.cells #[.u (n:Int)] 5)).heap.size:=by simp; omega
   clear hown;have hn8:(n:Int)%256=n:=by omega
   go_wp2_with (at_builtin; refine aQ rfl _ _ _ rfl nX w.heap.size hown' rfl hr rfl h63 hby hsz' ?_; intro v' w' hown2 hg)
   go_ret
   refine⟨_,rfl,?_,(hbel.alloc hsz _).grown hg hsz' (fun k hk=>(World.ownsRow.lt hown' k hk).1)⟩;have e:dP 10 x=out++[UInt8.ofNat n]:=by rw[HU.out,dP,an6 hlt]
   rw[e];simpa[dY,EO (show n<256 by omega)]using hown2
  cases f with
  | zero=>exact absurd hf (by omega)
  | succ f =>
   have hr:=jr wr (.u ((n:Int)%128+128)) 5 rfl;have hown':=hown.alloc (.cells #[.u ((n:Int)%128+128)] 5);have hsz':w.heap.size≤(wr.alloc (.cells #[.u ((n:Int)%128+128)] 5)).heap.size:=by simp; omega
   have hn8:=ad4 n;clear hown;go_wp2_with (at_builtin; refine aQ rfl _ _ _ rfl nX w.heap.size hown' rfl hr rfl h63 hby hsz' ?_; intro v' w' hown2 hg)
   go_roundw
   case rel =>
    refine⟨f,n/128,out++[UInt8.ofNat (n%128+128)],by simp,by omega,?_,by simp; omega,?_,?_,(hbel.alloc hsz _).grown hg hsz' (fun k hk=>(World.ownsRow.lt hown' k hk).1)⟩
    ·rw[aoF]at hf; exact apF (by omega)
    ·rw[HU.out,dP,an0 hlt]; simp
    simpa[dY,EO (show n%128+128<256 by omega),show((n:Int)%128+128)%256=(n:Int)%128+128 by omega]using hown2
   case measure=>simp[intOf]; omega
open Go.RowKit En
variable{α:Type}
open Go.RowKit En
variable{α:Type}
theorem CO(x:Int)(w:World)(h : -9223372036854775808≤x)(h2:x≤9223372036854775807) :
  Calls prog 91 #[.i x] w fun e w'=>∃v',e = .returned v'∧w'.ownsRow w.heap.size 5 1 v' (dP 10 (zig x)).length ((dP 10 (zig x)).map dY)∧Ext w w':=by
 have HC:=anU (oz (zig x) w (YH h h2));go_enter func91,ntmps91
 by_cases hx:x<0
 ·have hz:((zig x:Nat):Int) = -2*x-1:=by unfold zig; rw[an6 hx]; omega
  go_wp2_with fail
  rw[show(-1-x)*2+1=((zig x:Nat):Int) by omega];refine HC.out.mono ?_;rintro e w' ⟨v',rfl,ho,hb⟩;go_wp2_with fail
  go_ret
  exact⟨_,rfl,ho,hb⟩
 have hz:((zig x:Nat):Int)=2*x:=by unfold zig; rw[an0 hx]; omega
 go_wp2_with fail
 rw[show x*2=((zig x:Nat):Int) by omega];refine HC.out.mono ?_;rintro e w' ⟨v',rfl,ho,hb⟩;go_wp2_with fail
 go_ret
 exact⟨_,rfl,ho,hb⟩
theorem YI(a:Nat)(ha:a<18446744073709551616):bits .xor .u64 (a:Int) 18446744073709551615=((18446744073709551615-a:Nat):Int):=by
 have h1:=aia (UInt64.ofNat a) (-1);have e1:(UInt64.ofNat a).toNat=a:=by simp; omega
 have e2:(((-1:UInt64).toNat:Nat):Int)=18446744073709551615:=by decide
 rw[e1,e2,UInt64.xor_neg_one,UInt64.toNat_not,e1]at h1;rw[h1]; rfl
theorem YJ(x:Int)(h : -9223372036854775808≤x)(h2:x≤9223372036854775807) :
  bits BinOp.xor IntKind.u64 (IntKind.u64.wrap (IntKind.u64.wrap x*2)) (IntKind.u64.wrap (x/9223372036854775808))=((zig x:Nat):Int):=by
 rw[ao8,ao8,ao8];unfold zig;split
 ·rw[show x/9223372036854775808%18446744073709551616=18446744073709551615 by omega];rw[show x%18446744073709551616*2%18446744073709551616=(((2*x+18446744073709551616).toNat:Nat):Int) by omega,YI _ (by omega)];omega
 rw[show x/9223372036854775808%18446744073709551616=((0:Nat):Int) by omega];rw[show x%18446744073709551616*2%18446744073709551616=(((2*x).toNat:Nat):Int) by omega,u64_xor_nat _ _ (by omega) (by omega),Nat.xor_zero]
theorem yT(x:Int)(w:World)(h : -9223372036854775808≤x)(h2:x≤9223372036854775807) :
  Calls prog 77 #[.i x] w fun e w'=>∃v',e = .returned v'∧w'.ownsRow w.heap.size 5 1 v' (dP 10 (zig x)).length ((dP 10 (zig x)).map dY)∧Ext w w':=by
 have HC:=anU (gW (zig x) w (YH h h2));go_enter func77,ntmps77
 go_wp2_with fail
 rw[YJ x h h2];refine HC.out.mono ?_;rintro e w' ⟨v',rfl,ho,hb⟩;go_wp2_with fail
 go_ret
 exact⟨_,rfl,ho,hb⟩
open Go.RowKit En
variable{α:Type}
theorem YK(v:Value)(l:List UInt8)(i:Int)(w:World)(hv:bI w v l)(h:i<0∨(l.length:Int)<i) :
  Calls prog 164 #[v,.i i] w fun e w'=>e = .returned (.tuple #[.pointer none,.i 2])∧w=w':=by
 obtain⟨a,cap,rfl,hm,ha⟩:=hv;have hl:=pU hm ha;clear ha;go_enter func164,ntmps164
 by_cases h1:i<0
 ·go_wp2_with fail
  go_ret2
  exact⟨rfl,rfl⟩
 have h2:(l.length:Int)<i:=by omega
 clear h;go_wp2_with fail
 go_ret2
 exact⟨rfl,rfl⟩
theorem VA(v:Value)(l:List UInt8)(i:Nat)(w:World)(hv:bI w v l)(h:i≤l.length) :
  Calls prog 164 #[v,.i i] w fun e w'=>e = .returned (.tuple #[.q w.heap.size 0,.i 0])∧w'=w.alloc (.cells #[v,.i i] 219):=by
 obtain⟨a,cap,rfl,hm,ha⟩:=hv;have hl:=pU hm ha;clear ha;go_enter func164,ntmps164
 go_wp2_with fail
 go_ret2
 exact⟨rfl,rfl⟩
theorem YL(v:Value)(l:List UInt8)(b p:Nat)(w:World)(hv:bI w v l)(h0:w.cell? ⟨b,0,none⟩=some v)(h1:w.cell? ⟨b,1,none⟩=some (.i p))(hp:p≤l.length) :
  Calls prog 225 #[.q b 0] w fun e w'=>e = .returned (.i (l.length-p:Nat))∧∃n,w'=w.drewN n:=by
 obtain⟨a,cap,rfl,hm,ha⟩:=hv;have hl:=pU hm ha;clear ha;go_enter func225,ntmps225
 go_wp2_with fail
 go_quiet (fail)
 go_wp2_with fail
 go_ret
 exact⟨dV (by omega),_,rfl⟩
open Go.RowKit En
variable{α:Type}
theorem YM{bb o n c n' c':Nat}{ad:Addr}(h:Value.slice (some ⟨bb,o,none⟩) n c = .slice (some ad) n' c'):bb=ad.block:=by
 simp only[aoB,an8]at h; rw[←h.1]
theorem abI{f:α→Value}{w:World}{bb o cap p k:Nat}{l:List α}(hm:cap≤maxLen)(hp:p+k≤l.length)(hlc:l.length≤cap)(hb:bb<w.heap.size)
  (hc:∀i (h:i<l.length),w.cell? ⟨bb,o+i,none⟩=some (f l[i])):dS f w (.slice (if cap=p then some ⟨bb,o,none⟩else some ⟨bb,o+p,none⟩) k (cap-p)) ((l.drop p).take k):=by
 have e:((l.drop p).take k).length=k:=by simp; omega
 rcases aoJ k with rfl | hk
 ·refine⟨_,cap-p,by rw[e],by omega,.inl ⟨by simp,fun h=>?_⟩⟩;split at h<;>simp at h
 rw[an0 (by omega)];refine⟨_,cap-p,by rw[e],by omega,.inr ⟨bb,o+p,rfl,hb,by rw[e]; omega,fun i hi=>?_⟩⟩;rw[e]at hi;rw[apG,hc (p+i) (by omega)]; simp
theorem VB(l:List UInt8)(b p k bb o cap:Nat)(w:World)(hm:cap≤maxLen)(hlc:l.length≤cap)(hbb:bb<w.heap.size)(hne:bb≠b)
  (hcs:∀i (h:i<l.length),w.cell? ⟨bb,o+i,none⟩=some (dY l[i])) (h0:w.cell? ⟨b,0,none⟩=some (.slice (some ⟨bb,o,none⟩) l.length cap)) (h1:w.cell? ⟨b,1,none⟩=some (.i p))
  (hfz:w.frozen? ⟨b,1,none⟩=false) (hp:p+k≤l.length) :
  Calls prog 226 #[.q b 0,.i k] w fun e w'=>∃v' n,e = .returned v'∧w'=(w.setCell ⟨b,1,none⟩ (.i ((p:Int)+(k:Int)))).drewN n ∧
   bI w' v' ((l.drop p).take k)∧∀ad n cap',v' = .slice (some ad) n cap'→bb=ad.block:=by
 have HC:=anU hcs;clear hcs;have hc:p+k≤cap:=by omega
 have hi0:(0:Int)≤(p:Int):=by omega
 have hi1:(p:Int)≤(p:Int)+(k:Int):=by omega
 have hi2:(p:Int)+(k:Int)≤(cap:Int):=by omega
 have hi4:IntKind.i64.wrap ((p:Int)+(k:Int))=(p:Int)+(k:Int):=by rw[ap6]; have:maxLen=9223372036854775807:=rfl; omega
 have hi5:((p:Int)+(k:Int)).toNat=p+k:=by omega
 have hc2:p≤p+k:=by omega
 have hc3:p+k-p=k:=by omega
 have hc4:p≤cap:=by omega
 have hrow:bI ((w.setCell ⟨b,1,none⟩ (.i ((p:Int)+(k:Int)))).drewN 1) (.slice (if cap=p then some ⟨bb,o,none⟩else some ⟨bb,o+p,none⟩) k (cap-p)) ((l.drop p).take k):=
  abI hm hp hlc (by simpa using hbb) (fun i h=>by rw[World.cell?_drewN,World.cell?_setCell_other _ _ _ _ (by simp only[ne_eq,Addr.mk.injEq]; omega)]; exact HC.out i h)
 by_cases hcp:cap=p
 ·rw[an6 hcp]at hrow;have HR:=anU hrow;clear hrow;subst hcp;have HR:=anU (by have h:=HR.out; rw[apY]at h; exact h);go_enter func226,ntmps226
  go_wp2_with fail
  go_region_held3 (fun w'=>w'.cell? ⟨b,0,none⟩=some (.slice (some ⟨bb,o,none⟩) l.length cap)∧w'.cell? ⟨b,1,none⟩=some (.i cap)) (go_keep) (fail)
  go_wp2_with fail
  go_ret
  exact⟨_,1,rfl,rfl,HR.out,fun _ _ _ e=>YM e⟩
 rw[an0 hcp]at hrow;have HR:=anU hrow;clear hrow;go_enter func226,ntmps226
 go_wp2_with fail
 go_region_held3 (fun w'=>w'.cell? ⟨b,0,none⟩=some (.slice (some ⟨bb,o,none⟩) l.length cap)∧w'.cell? ⟨b,1,none⟩=some (.i p)) (go_keep) (fail)
 go_wp2_with fail
 go_ret
 exact⟨_,1,rfl,rfl,HR.out,fun _ _ _ e=>YM e⟩
open Go.RowKit En
variable{α:Type}
structure Rd (w:World) (b:Nat) (v:Value) (l:List UInt8) (p:Nat):Prop where
 c0:w.cell? ⟨b,0,none⟩=some v
 c1:w.cell? ⟨b,1,none⟩=some (.i p)
 fz:w.frozen? ⟨b,1,none⟩=false
 row:bI w v l
 off:0<l.length→Off b v
 hp:p≤l.length
 lt:b<w.heap.size
theorem Rd.drewN{w:World}{b:Nat}{v:Value}{l:List UInt8}{p:Nat}(h:Rd w b v l p)(n:Nat):Rd (w.drewN n) b v l p:=
 ⟨by rw[World.cell?_drewN]; exact h.c0,by rw[World.cell?_drewN]; exact h.c1,by rw[World.frozen?_drewN]; exact h.fz,h.row.below (below_drewN (aor _ _) n),h.off,h.hp,by simpa using h.lt⟩
theorem Rd.set{w:World}{b:Nat}{v:Value}{l:List UInt8}{p q:Nat}(h:Rd w b v l p)(hq:q≤l.length):Rd (w.setCell ⟨b,1,none⟩ (.i q)) b v l q:=
 ⟨by rw[World.cell?_setCell_other _ _ _ _ (by simp)]; exact h.c0,World.cell?_setCell_same _ _ _ h.c1,by simpa using h.fz,h.row.ch ((Ch.refl b w).setCell _ _) h.off,h.off,hq,by simpa[World.setCell]using h.lt⟩
theorem next_any(l:List UInt8)(b p k:Nat)(v:Value)(w:World)(h:Rd w b v l p)(hk:p+k≤l.length)(h0:0<l.length) :
  Calls prog 226 #[.q b 0,.i k] w fun e w'=>∃v',e = .returned v'∧Rd w' b v l (p+k)∧Ch b w w'∧bI w' v' ((l.drop p).take k)∧Off b v':=by
 obtain⟨bb,o,cap,hv,hb,hl,hm,hc⟩:=dK h.row rfl h0;subst hv;have hne:bb≠b:=h.off h0 _ _ _ rfl;refine(VB l b p k bb o cap w hm hl hb hne hc h.c0 h.c1 h.fz hk).mono ?_;rintro e w' ⟨v',n,rfl,hw,hr,hoff⟩;have he:(p:Int)+(k:Int)=((p+k:Nat):Int):=by omega
 rw[he]at hw;refine⟨v',rfl,?_,?_,hr,?_⟩
 ·rw[hw]; exact(h.set hk).drewN n
 ·rw[hw]; exact((Ch.refl b w).setCell _ _).drewN n
 intro ad n' cap' hv';exact fun e=>hne (by rw[←e]; exact hoff ad n' cap' hv')
theorem abJ(v:Value)(l:List UInt8)(i:Nat)(w:World)(hv:bI w v l)(h:i≤l.length) :
  Calls prog 164 #[v,.i i] w fun e w'=>∃b,e = .returned (.tuple #[.q b 0,.i 0])∧Rd w' b v l i∧Ext w w'∧w.heap.size≤b:=by
 refine(VA v l i w hv h).mono ?_;rintro e w' ⟨rfl,rfl⟩;refine⟨_,rfl,⟨?_,?_,?_,hv.below (aG _ _),abB hv (an7 _),h,by simp⟩,aG _ _,an7 _⟩
 ·rw[World.cell?_alloc_at _ _ _ _ rfl]; rfl
 ·rw[World.cell?_alloc_at _ _ _ _ rfl]; rfl
 rw[World.frozen?_alloc_at _ _ _ _ rfl]
open Go.RowKit En
variable{α:Type}
def J9(w:World)(b:Nat)(v:Value)(l:List UInt8)(p:Nat)(r:Except Nat (Nat×Nat))(e:Ending)(w':World):Prop:=
 ∃q,Rd w' b v l q∧Ch b w w'∧(match r with
  | .ok (n,k)=>q=p+k∧e = .returned (.tuple #[.int .u64 (n:Int),.i 0])
  | .error er=>e = .returned (.tuple #[.int .u64 0,.i er]))
theorem abK(l:List UInt8)(b p:Nat)(v:Value)(w:World)(h:Rd w b v l p) :
  Calls prog 225 #[.q b 0] w fun e w'=>e = .returned (.i (l.length-p:Nat))∧Rd w' b v l p∧Ch b w w':=by
 refine(YL v l b p w h.row h.c0 h.c1 h.hp).mono ?_;rintro e w' ⟨rfl,n,rfl⟩;exact⟨rfl,h.drewN n,(Ch.refl b w).drewN n⟩
theorem QB{w:World}{b:Nat}{v:Value}{l:List UInt8}{p k f acc c:Nat}{w':World}(hu:Hid (qP 9 (l.drop p)=comb k acc (qP f (l.drop (p+k)))))(hf:qP f (l.drop (p+k)) = .ok (c,1))
  (hr:Rd w' b v l (p+k+1)) (hc:Ch b w w') {x:Int} (hx:x=((acc+128^k*c:Nat):Int)):J9 w b v l p (qP 9 (l.drop p)) (.returned (.tuple #[.int .u64 x,.i 0])) w':=by
 refine⟨p+k+1,hr,hc,?_⟩;rw[hu.out,hf,hx];exact⟨by omega,rfl⟩
theorem Ey{w:World}{b:Nat}{v:Value}{l:List UInt8}{p k f acc q er:Nat}{w':World}(hu:Hid (qP 9 (l.drop p)=comb k acc (qP f (l.drop (p+k)))))(hf:qP f (l.drop (p+k)) = .error er)
  (hr:Rd w' b v l q) (hc:Ch b w w'):J9 w b v l p (qP 9 (l.drop p)) (.returned (.tuple #[.int .u64 0,.i er])) w':=by
 refine⟨q,hr,hc,?_⟩;rw[hu.out,hf];rfl
theorem QC:∀c:Fin 256,bits .andNot .u8 (c.val:Int) 128=((c.val%128:Nat):Int):=by decide +kernel
theorem Nu(c:UInt8)(acc k:Nat)(h:acc<128^k)(hk:k≤9)(h9:k<9∨c.toNat<2) :
  bits BinOp.or IntKind.u64 (acc:Int) (IntKind.u64.wrap (IntKind.u64.wrap (bits BinOp.andNot IntKind.u8 (c.toNat:Int) 128)*2^(7*k)))=((acc+128^k*(c.toNat%128):Nat):Int):=by
 have h1:=QC ⟨c.toNat,c.toNat_lt⟩;simp only at h1;rw[h1];have e128:(128:Nat)^k=2^(7*k):=by rw[Nat.pow_mul]
 have hp:2^(7*k)≤2^63:=ao0 (by omega) (by omega);have hb:(c.toNat%128)*2^(7*k)<18446744073709551616:=by
  rcases h9 with h9 | h9
  ·have h2:2^(7*k)≤2^56:=ao0 (by omega) (by omega);have h3:c.toNat%128≤127:=by omega
   have:=apH h3 h2;omega
  have h3:c.toNat%128≤1:=by omega
  have:=apH h3 hp;omega
 have w1:IntKind.u64.wrap ((c.toNat%128:Nat):Int)=((c.toNat%128:Nat):Int):=by rw[ao8]; omega
 rw[w1];have w2:((c.toNat%128:Nat):Int)*2^(7*k)=(((c.toNat%128)*2^(7*k):Nat):Int):=by push_cast; rfl
 rw[w2,ao8];have w3:(((c.toNat%128)*2^(7*k):Nat):Int)%18446744073709551616=(((c.toNat%128)*2^(7*k):Nat):Int):=by omega
 rw[w3,u64_or_nat _ _ (by omega) hb,Nat.or_comm,nat_join (7*k) _ _ (Nat.mul_mod_left _ _) (by omega),e128,aoH,apB]
theorem EP(l:List UInt8)(b p:Nat)(v:Value)(w:World)(h:Rd w b v l p) :
  Calls prog 165 #[.q b 0] w (J9 w b v l p (qP 9 (l.drop p))):=by
 have hml:=h.row.len;unfold maxLen at hml;have H:=anU h;clear h;go_enter func165,ntmps165
 go_wp2_with fail
 go_loopw [4,5] (fun n i wr=>∃k f acc:Nat,i = .i k∧k+f=9∧n = .int .u64 acc∧acc<128^k∧Rd wr b v l (p+k)∧Hid (qP 9 (l.drop p)=comb k acc (qP f (l.drop (p+k))))∧Ch b w wr) (fun _ i _=>10-(intOf i).toNat)
 case atStart=>exact⟨0,9,0,rfl,rfl,rfl,by omega,H.out,(VD _).symm,Ch.refl _ _⟩
 case round =>
  obtain⟨k,f,acc,rfl,hkf,rfl,hacc,hrd,HU,hch⟩:=hrel;have HC:=anU (abK l b (p+k) v wr hrd);have hpk:=hrd.hp;have HR:=anU hrd;have HA:=anU hacc;clear hrd hacc;go_wp2_with fail
  refine HC.out.mono ?_;rintro e w' ⟨rfl,YN,agl⟩;clear HC HR;by_cases hlt:p+k<l.length
  ·have hl0:(0:Int)<((l.length-(p+k):Nat):Int):=by omega
   have HN:=anU (next_any l b (p+k) 1 v w' YN (by omega) (by omega));have HR:=anU YN;clear YN;go_wp2_with fail
   refine HN.out.mono ?_;rintro e w3 ⟨v',rfl,agm,aio,hrow,hoff⟩;clear HN HR;have hone:(l.drop (p+k)).take 1=[l[p+k]]:=by rw[ao2 hlt]; rfl
   rw[hone]at hrow;obtain⟨c,hcc⟩:∃c,l[p+k]=c:=⟨_,rfl⟩;rw[hcc]at hrow;obtain⟨bb,o,cap,hv,hb,hl,hm,hc⟩:=dK hrow rfl Nat.one_pos;have hc0:=hc 0 Nat.one_pos;simp only[apP,aqd]at hc0;rw[hv];have HD:=anU (ao2 hlt);rw[hcc]at HD;clear hc hv hrow hone hcc;have HR:=anU agm;have Ko:=Ch.trans hch (Ch.trans agl aio);clear agm;have hc8:=c.toNat_lt;have hk9:k≤9:=by omega
   cases f with
   | zero =>
    obtain rfl:k=9:=by omega
    rcases aqi c.toNat 1 with h1 | h1 | h1
    ·have hc1:((c.toNat:Int)==0)=true:=by rw[aoo]; omega
     have hu:Hid (qP 0 (l.drop (p+9)) = .error 3):=by rw[HD.out]; simp only[qP]; rw[an0 (by omega)]; rfl
     go_wp2_with fail
     go_ret2
     exact Ey HU hu.out HR.out Ko
    ·have hc1:((c.toNat:Int)==0)=false:=by rw[aog]; omega
     have hu:Hid (qP 0 (l.drop (p+9)) = .ok (c.toNat,1)):=by rw[HD.out]; simp only[qP]; rw[an6 h1,h1]; rfl
     have HS:=anU (Nu c acc 9 HA.out (by omega) (.inr (by omega)));have h1':(c.toNat:Int)≤1:=by omega
     have h2':(c.toNat:Int)<128:=by omega
     have H1:=anU h1;clear h1;go_wp2_with fail
     go_ret2
     refine QB HU hu.out HR.out Ko (HS.out.trans ?_);have:=H1.out; rw[this]
    have hu:Hid (qP 0 (l.drop (p+9)) = .error 3):=by rw[HD.out]; simp only[qP]; rw[an0 (by omega)]; rfl
    go_wp2_with fail
    go_ret2
    exact Ey HU hu.out HR.out Ko
   | succ f =>
    have hk9:((k:Int)==9)=false:=by rw[aog]; omega
    have HS:=anU (Nu c acc k HA.out (by omega) (.inl (by omega)));by_cases hlo:c.toNat<128
    ·have aip:(c.toNat:Int)<128:=by omega
     have agn:Hid (c.toNat%128=c.toNat):=apI hlo;rcases aoJ c.toNat with h0 | h0
     ·have h0':((c.toNat:Int)==0)=true:=by rw[aoo]; omega
      rcases aoJ k with hk | hk
      ·have hu:Hid (qP (f+1) (l.drop (p+k)) = .ok (c.toNat,1)):=by rw[HD.out]; simp only[qP]; rw[an6 hlo,an0 (by omega)]; rfl
       have hkp:¬(0:Int)<(k:Int):=by omega
       have HK:=anU hk;have H0:=anU h0;clear hk h0;go_wp2_with fail
       go_ret2
       exact QB HU hu.out HR.out Ko (HS.out.trans (by rw[agn.out]))
      have hu:Hid (qP (f+1) (l.drop (p+k)) = .error 3):=by rw[HD.out]; simp only[qP]; rw[an6 hlo,an6 ⟨h0,by omega⟩]; rfl
      have hkp:(0:Int)<(k:Int):=by omega
      have H0:=anU h0;clear h0;go_wp2_with fail
      go_ret2
      exact Ey HU hu.out HR.out Ko
     have h0':((c.toNat:Int)==0)=false:=by rw[aog]; omega
     have hu:Hid (qP (f+1) (l.drop (p+k)) = .ok (c.toNat,1)):=by rw[HD.out]; simp only[qP]; rw[an6 hlo,an0 (by omega)]; rfl
     go_wp2_with fail
     go_ret2
     exact QB HU hu.out HR.out Ko (HS.out.trans (by rw[agn.out]))
    have aip:¬(c.toNat:Int)<128:=by omega
    have HL:=anU hlo;clear hlo;go_wp2_with fail
    go_roundw
    case rel =>
     refine⟨k+1,f,acc+128^k*(c.toNat%128),by go_num,by omega,by rw[HS.out],?_,HR.out,?_,Ko⟩
     ·have:=HA.out;rw[aoF];have h2:c.toNat%128≤127:=by omega
      have:=aoK (128^k) h2;omega
     show _=_;rw[HU.out,HD.out,YO f c _ HL.out,VE]; rfl
    case measure=>simp[intOf]; omega
  have hl0:¬(0:Int)<((l.length-(p+k):Nat):Int):=by omega
  have hu:Hid (qP f (l.drop (p+k)) = .error 4):=by rw[apm (by omega),abL]; rfl
  have Ko:=Ch.trans hch agl;have HR:=anU YN;clear YN;go_wp2_with fail
  go_ret2
  exact Ey HU hu.out HR.out Ko
open Go.RowKit En
variable{α:Type}
theorem abM{l:List UInt8}{i:Int}(h:i<0∨(l.length:Int)<i):Dy l i=(0,0,2):=by unfold Dy; rw[an6 h]
theorem ad5{l:List UInt8}{i n k:Nat}(h:i≤l.length)(hu:qP 9 (l.drop i) = .ok (n,k)):Dy l i=(n,i+k,0):=by
 unfold Dy; rw[an0 (by omega),aqj,hu]
theorem abN{l:List UInt8}{i e:Nat}(h:i≤l.length)(hu:qP 9 (l.drop i) = .error e):Dy l i=(0,0,e):=by
 unfold Dy; rw[an0 (by omega),aqj,hu]
theorem abO{l:List UInt8}{e:Nat}(hu:qP 9 l = .error e):((e:Int) != 0)=true:=by
 rw[bne_iff_ne]; rcases Ua _ _ _ hu with h | h<;>omega
abbrev aiq (r:Nat×Nat×Nat):Value := .tuple #[.int .u64 (r.1:Int),.i r.2.1,.i r.2.2]
theorem Dz(v:Value)(l:List UInt8)(i:Int)(w:World)(hv:bI w v l) :
  Calls prog 105 #[v,.i i] w fun e w'=>e = .returned (aiq (Dy l i))∧Ext w w':=by
 by_cases hbad:i<0∨(l.length:Int)<i
 ·rw[abM hbad];have HF:=anU (YK v l i w hv hbad);clear hbad;go_enter func105,ntmps105
  go_wp2_with fail
  refine HF.out.mono ?_;rintro e w' ⟨rfl,rfl⟩;go_wp2_with fail
  go_ret3
  exact⟨rfl,aor _ _⟩
 obtain⟨p,rfl⟩:∃p:Nat,i=p:=⟨i.toNat,by omega⟩;have hp:p≤l.length:=by omega
 have HF:=anU (abJ v l p w hv hp);clear hbad;have hl:=hv.len;unfold maxLen at hl;cases hu:qP 9 (l.drop p)with
 | error er =>
  rw[abN hp hu];have he:=abO hu;have HU:=anU hu;clear hu;go_enter func105,ntmps105
  go_wp2_with fail
  refine HF.out.mono ?_;rintro e w1 ⟨b,rfl,hrd,hb1,hb⟩;have HN:=anU (EP l b p v w1 hrd);rw[HU.out]at HN;clear hrd HF;go_wp2_with fail
  refine HN.out.mono ?_;rintro e w2 ⟨q,hrd,hch,rfl⟩;have HR:=anU hrd;have HB:=anU (Below.trans hb1 (hch.below hb hb1.size));clear hrd hch hb1 HN;go_wp2_with fail
  go_ret3
  exact⟨rfl,HB.out⟩
 | ok r =>
  obtain⟨n,k⟩:=r;rw[ad5 hp hu];have HU:=anU hu;clear hu;go_enter func105,ntmps105
  go_wp2_with fail
  refine HF.out.mono ?_;rintro e w1 ⟨b,rfl,hrd,hb1,hb⟩;have HN:=anU (EP l b p v w1 hrd);rw[HU.out]at HN;clear hrd HF;go_wp2_with fail
  refine HN.out.mono ?_;rintro e w2 ⟨q,hrd,hch,hq,rfl⟩;have h1:=hrd.c1;have HB:=anU (Below.trans hb1 (hch.below hb hb1.size));have HQ:=anU hq;clear hrd hch hb1 HN hq;go_wp2_with fail
  go_quiet (fail)
  go_wp2_with fail
  go_ret3
  rw[HQ.out];exact⟨rfl,below_drewN HB.out _⟩
open Go.RowKit En
variable{α:Type}
open Go.RowKit En
variable{α:Type}
theorem QD(l:List UInt8)(i:Int):(Dy l i).1<18446744073709551616:=by
 unfold Dy;split
 ·simp
 split
 ·rename_i h; exact(Ub h).1
 simp
abbrev air (r:Int×Nat×Nat):Value := .tuple #[.i r.1,.i r.2.1,.i r.2.2]
theorem Iu(k:IntKind)(x y:Int):bits .xor k x y=bits .xor k y x:=by
 show k.wrap ((BitVec.ofInt k.bits x^^^BitVec.ofInt k.bits y).toNat:Int)=k.wrap ((BitVec.ofInt k.bits y^^^BitVec.ofInt k.bits x).toNat:Int);rw[BitVec.xor_comm]
theorem YP(a:Nat)(ha:a<9223372036854775808):bits .xor .i64 (a:Int) 0=(a:Int):=by
 show IntKind.i64.wrap ((BitVec.ofInt 64 (a:Int)^^^BitVec.ofInt 64 0).toNat:Int)=_;have h1:BitVec.ofInt 64 0=0#64:=by decide
 rw[h1,BitVec.xor_zero,ofInt_u64 a (by omega)];simp[IntKind.wrap,IntKind.bits,IntKind.signed];omega
theorem QE(n:Nat)(h:n<18446744073709551616):bits BinOp.xor IntKind.i64 ((n:Int)/2) (wrap64 (-wrap64 (bits BinOp.and IntKind.u64 (n:Int) 1)))=Je n:=by
 rw[Lib.u64_and1 _ (by omega) (by omega)];unfold Je;have e:(n:Int)/2=((n/2:Nat):Int):=rfl;rcases Nat.mod_two_eq_zero_or_one n with h2 | h2
 ·have e1:(n:Int)%2=0:=by omega
  have e2:wrap64 (-wrap64 0)=0:=by simp[wrap64]
  rw[e1,e2,e,YP _ (by omega),an0 (by omega)]
 have e1:(n:Int)%2=1:=by omega
 have e2:wrap64 (-wrap64 1) = -1:=by simp[wrap64]
 rw[e1,e2,e,Iu,i64_not _ (by omega),an6 h2]
theorem QF(v:Value)(l:List UInt8)(i:Int)(w:World)(hv:bI w v l) :
  Calls prog 103 #[v,.i i] w fun e w'=>e = .returned (air (vat l i))∧Ext w w':=by
 have HC:=anU (Dz v l i w hv);have hn:=QD l i;unfold vat;generalize Dy l i=r at *;obtain⟨n,next,er⟩:=r;simp only at hn;clear hv;go_enter func103,ntmps103
 go_wp2_with fail
 refine HC.out.mono ?_;rintro e w' ⟨rfl,hb⟩;go_wp2_with fail
 go_ret3
 exact⟨by rw[QE _ hn]; rfl,hb⟩
end Go.Proofs.YtapmgonflgahbaaGreatDoor
