/- Walks of binenc: PutUvarint and the reference's; Same. -/
import Derived.Test.YtiafijffnejhoaaGreatDoorNatW1
import Derived.Test.YtiafijffnejhoaaGreatDoorPk24
import Derived.Deep.QuietTactic
import Derived.BigQuiet
import Derived.Test.YtiafijffnejhoaaGreatDoorBase
import Derived.Deep.RegionHeld3
import Derived.Outline
import Derived.Laws.DeepNot64
import Derived.Lib.Zigzag
set_option maxHeartbeats 1600000
set_option maxRecDepth 100000
namespace Go.Proofs.YtiafijffnejhoaaGreatDoor
open Go.RowKit En
variable{α:Type}
theorem ZU:∀m:Fin 256,m.val|||128=m.val%128+128:=by decide
theorem ZV(n:Nat):bits .or .u8 ((n:Int)%256) 128=(n:Int)%128+128:=by
 have h:=ZU ⟨n%256,ah7 _ (by decide)⟩;have:=u8_or_nat (n%256) 128 (by omega) (by omega);rw[show((128:Nat):Int)=128 from rfl,show((n%256:Nat):Int)=(n:Int)%256 by omega]at this;rw[this,h]; simp only; omega
theorem wG(x:Nat)(w:World)(hx:x<18446744073709551616) :
  Calls Tryz.prog 52 #[.int .u64 (x:Int)] w fun e w'=>∃v',e = .returned v'∧w'.ownsRow w.heap.size 5 1 v' (dF 10 x).length ((dF 10 x).map fO)∧Ext w w':=by
 go_enter Tryz.func52,Tryz.ntmps52
 go_wp2
 go_loopw [0,3] (fun xv v wr=>∃(f n:Nat) (out:List UInt8),xv = .int .u64 n∧n<18446744073709551616∧n<128^(f+1)∧out.length+f=9∧dF 10 x=out++dF (f+1) n∧wr.ownsRow w.heap.size 5 1 v out.length (out.map fO)∧Ext w wr) (fun xv _ _=>(intOf xv).toNat)
 case atStart=>exact⟨9,x,[],rfl,hx,by omega,rfl,rfl,aiM w #[] 0 (ahh _) (ahk _) rfl,aF _ _⟩
 case round =>
  obtain⟨f,n,out,rfl,hn,hf,hl,hu,hown,hbel⟩:=hrel;have HU:=ag8 hu;have h63:out.length+1≤maxLen:=by unfold maxLen; omega
  have hby:(out.length+1)*1≤140737488355328:=by omega
  have hsz:w.heap.size≤wr.heap.size:=hbel.size;clear hu;by_cases hlt:n<128
  ·have hr:=je wr (.int .u8 (n:Int)) 5 rfl;have hown':=hown.alloc (.cells #[.int .u8 (n:Int)] 5);have hsz':w.heap.size≤(wr.alloc (.cells #[.int .u8 (n:Int)] 5)).heap.size:=by simp; omega
   clear hown;have hn8:(n:Int)%256=n:=by omega
   go_wp2_with (at_builtin; refine aT rfl _ _ _ rfl uj w.heap.size hown' rfl hr rfl h63 hby hsz' ?_; intro v' w' hown2 hg)
   go_ret
   refine⟨_,rfl,?_,(hbel.alloc hsz _).grown hg hsz' (fun k hk=>(World.ownsRow.lt hown' k hk).1)⟩;have e:dF 10 x=out++[UInt8.ofNat n]:=by rw[HU.out,dF,ahf hlt]
   rw[e];simpa[fO,uY (show n<256 by omega)]using hown2
  cases f with
  | zero=>exact absurd hf (by omega)
  | succ f =>
   have hr:=je wr (.int .u8 ((n:Int)%128+128)) 5 rfl;have hown':=hown.alloc (.cells #[.int .u8 ((n:Int)%128+128)] 5);have hsz':w.heap.size≤(wr.alloc (.cells #[.int .u8 ((n:Int)%128+128)] 5)).heap.size:=by simp; omega
   have hn8:((n:Int)%128+128)%256=(n:Int)%128+128:=by omega
   clear hown;go_wp2_with (at_builtin; refine aT rfl _ _ _ rfl uj w.heap.size hown' rfl hr rfl h63 hby hsz' ?_; intro v' w' hown2 hg)
   go_roundw
   case rel =>
    refine⟨f,n/128,out++[UInt8.ofNat (n%128+128)],by simp,by omega,?_,by simp; omega,?_,?_,(hbel.alloc hsz _).grown hg hsz' (fun k hk=>(World.ownsRow.lt hown' k hk).1)⟩
    ·rw[ahv]at hf; exact aiY (by omega)
    ·rw[HU.out,dF,ahe hlt]; simp
    simpa[fO,uY (show n%128+128<256 by omega),hn8]using hown2
   case measure=>simp[intOf]; omega
theorem ni(x:Nat)(w:World)(hx:x<18446744073709551616) :
  Calls Tryz.prog 25 #[.int .u64 (x:Int)] w fun e w'=>∃v',e = .returned v'∧w'.ownsRow w.heap.size 5 1 v' (dF 10 x).length ((dF 10 x).map fO)∧Ext w w':=by
 go_enter Tryz.func25,Tryz.ntmps25
 go_wp2
 go_loopw [0,3] (fun xv v wr=>∃(f n:Nat) (out:List UInt8),xv = .int .u64 n∧n<18446744073709551616∧n<128^(f+1)∧out.length+f=9∧dF 10 x=out++dF (f+1) n∧wr.ownsRow w.heap.size 5 1 v out.length (out.map fO)∧Ext w wr) (fun xv _ _=>(intOf xv).toNat)
 case atStart=>exact⟨9,x,[],rfl,hx,by omega,rfl,rfl,World.ownsRow_nil _ _ _ _,ahs _ _⟩
 case round =>
  obtain⟨f,n,out,rfl,hn,hf,hl,hu,hown,hbel⟩:=hrel;have HU:=ag8 hu;have h63:out.length+1≤maxLen:=by unfold maxLen; omega
  have hby:(out.length+1)*1≤140737488355328:=by omega
  have hsz:w.heap.size≤wr.heap.size:=hbel.size;clear hu;by_cases hlt:n<128
  ·have hr:=je wr (.int .u8 (n:Int)) 5 rfl;have hown':=hown.alloc (.cells #[.int .u8 (n:Int)] 5);have hsz':w.heap.size≤(wr.alloc (.cells #[.int .u8 (n:Int)] 5)).heap.size:=by simp; omega
   clear hown;have hn8:(n:Int)%256=n:=by omega
   go_wp2_with (at_builtin; refine aT rfl _ _ _ rfl uj w.heap.size hown' rfl hr rfl h63 hby hsz' ?_; intro v' w' hown2 hg)
   go_ret
   refine⟨_,rfl,?_,(hbel.alloc hsz _).grown hg hsz' (fun k hk=>(World.ownsRow.lt hown' k hk).1)⟩;have e:dF 10 x=out++[UInt8.ofNat n]:=by rw[HU.out,dF,ahf hlt]
   rw[e];simpa[fO,uY (show n<256 by omega)]using hown2
  cases f with
  | zero=>exact absurd hf (by omega)
  | succ f =>
   have hr:=je wr (.int .u8 ((n:Int)%128+128)) 5 rfl;have hown':=hown.alloc (.cells #[.int .u8 ((n:Int)%128+128)] 5);have hsz':w.heap.size≤(wr.alloc (.cells #[.int .u8 ((n:Int)%128+128)] 5)).heap.size:=by simp; omega
   have hn8:=ZV n;clear hown;go_wp2_with (at_builtin; refine aT rfl _ _ _ rfl uj w.heap.size hown' rfl hr rfl h63 hby hsz' ?_; intro v' w' hown2 hg)
   go_roundw
   case rel =>
    refine⟨f,n/128,out++[UInt8.ofNat (n%128+128)],by simp,by omega,?_,by simp; omega,?_,?_,(hbel.alloc hsz _).grown hg hsz' (fun k hk=>(World.ownsRow.lt hown' k hk).1)⟩
    ·rw[ahv]at hf; exact aiY (by omega)
    ·rw[HU.out,dF,ahe hlt]; simp
    simpa[fO,uY (show n%128+128<256 by omega),show((n:Int)%128+128)%256=(n:Int)%128+128 by omega]using hown2
   case measure=>simp[intOf]; omega
open Go.RowKit En
variable{α:Type}
open Go.RowKit En
variable{α:Type}
theorem Ru(a:Nat)(ha:a<18446744073709551616):bits .xor .u64 (a:Int) 18446744073709551615=((18446744073709551615-a:Nat):Int):=by
 have h1:=aeh (UInt64.ofNat a) (-1);have e1:(UInt64.ofNat a).toNat=a:=by simp; omega
 have e2:(((-1:UInt64).toNat:Nat):Int)=18446744073709551615:=by decide
 rw[e1,e2,UInt64.xor_neg_one,UInt64.toNat_not,e1]at h1;rw[h1]; rfl
theorem Rx(x:Int)(h : -9223372036854775808≤x)(h2:x≤9223372036854775807) :
  bits BinOp.xor IntKind.u64 (IntKind.u64.wrap (IntKind.u64.wrap x*2)) (IntKind.u64.wrap (x/9223372036854775808))=((zig x:Nat):Int):=by
 rw[ah6,ah6,ah6];unfold zig;split
 ·rw[show x/9223372036854775808%18446744073709551616=18446744073709551615 by omega];rw[show x%18446744073709551616*2%18446744073709551616=(((2*x+18446744073709551616).toNat:Nat):Int) by omega,Ru _ (by omega)];omega
 rw[show x/9223372036854775808%18446744073709551616=((0:Nat):Int) by omega];rw[show x%18446744073709551616*2%18446744073709551616=(((2*x).toNat:Nat):Int) by omega,u64_xor_nat _ _ (by omega) (by omega),Nat.xor_zero]
theorem CB(x:Int)(w:World)(h : -9223372036854775808≤x)(h2:x≤9223372036854775807) :
  Calls Tryz.prog 55 #[.i x] w fun e w'=>∃v',e = .returned v'∧w'.ownsRow w.heap.size 5 1 v' (dF 10 (zig x)).length ((dF 10 (zig x)).map fO)∧Ext w w':=by
 have HC:=ag8 (ni (zig x) w (ZW h h2));go_enter Tryz.func55,Tryz.ntmps55
 go_wp2_with fail
 rw[Rx x h h2];refine HC.out.mono ?_;rintro e w' ⟨v',rfl,ho,hb⟩;go_wp2_with fail
 go_ret
 exact⟨_,rfl,ho,hb⟩
open Go.RowKit En
variable{α:Type}
theorem Ry(v:Value)(l:List UInt8)(i:Int)(w:World)(hv:bZ w v l)(h:i<0∨(l.length:Int)<i) :
  Calls Tryz.prog 48 #[v,.i i] w fun e w'=>e = .returned (.tuple #[.pointer none,.i 2])∧w=w':=by
 obtain⟨a,cap,rfl,hm,ha⟩:=hv;have hl:=lT hm ha;clear ha;go_enter Tryz.func48,Tryz.ntmps48
 by_cases h1:i<0
 ·go_wp2_with fail
  go_ret2
  exact⟨rfl,rfl⟩
 have h2:(l.length:Int)<i:=by omega
 clear h;go_wp2_with fail
 go_ret2
 exact⟨rfl,rfl⟩
theorem OB(v:Value)(l:List UInt8)(i:Nat)(w:World)(hv:bZ w v l)(h:i≤l.length) :
  Calls Tryz.prog 48 #[v,.i i] w fun e w'=>e = .returned (.tuple #[.pointer (some ⟨w.heap.size,0,none⟩),.i 0])∧w'=w.alloc (.cells #[v,.i i] 118):=by
 obtain⟨a,cap,rfl,hm,ha⟩:=hv;have hl:=lT hm ha;clear ha;go_enter Tryz.func48,Tryz.ntmps48
 go_wp2_with fail
 go_ret2
 exact⟨rfl,rfl⟩
theorem Rz(v:Value)(l:List UInt8)(b p:Nat)(w:World)(hv:bZ w v l)(h0:w.cell? ⟨b,0,none⟩=some v)(h1:w.cell? ⟨b,1,none⟩=some (.i p))(hp:p≤l.length) :
  Calls Tryz.prog 85 #[.pointer (some ⟨b,0,none⟩)] w fun e w'=>e = .returned (.i (l.length-p:Nat))∧∃n,w'=w.drewN n:=by
 obtain⟨a,cap,rfl,hm,ha⟩:=hv;have hl:=lT hm ha;clear ha;go_enter Tryz.func85,Tryz.ntmps85
 go_wp2_with fail
 go_quiet (fail)
 go_wp2_with fail
 go_ret
 exact⟨fU (by omega),_,rfl⟩
open Go.RowKit En
variable{α:Type}
theorem RD{bb o n c n' c':Nat}{ad:Addr}(h:Value.slice (some ⟨bb,o,none⟩) n c = .slice (some ad) n' c'):bb=ad.block:=by
 simp only[ahE,ahd]at h; rw[←h.1]
theorem Wv{f:α→Value}{w:World}{bb o cap p k:Nat}{l:List α}(hm:cap≤maxLen)(hp:p+k≤l.length)(hlc:l.length≤cap)(hb:bb<w.heap.size)
  (hc:∀i (h:i<l.length),w.cell? ⟨bb,o+i,none⟩=some (f l[i])):bU f w (.slice (if cap=p then some ⟨bb,o,none⟩else some ⟨bb,o+p,none⟩) k (cap-p)) ((l.drop p).take k):=by
 have e:((l.drop p).take k).length=k:=by simp; omega
 rcases ahI k with rfl | hk
 ·refine⟨_,cap-p,by rw[e],by omega,.inl ⟨by simp,fun h=>?_⟩⟩;split at h<;>simp at h
 rw[ahe (by omega)];refine⟨_,cap-p,by rw[e],by omega,.inr ⟨bb,o+p,rfl,hb,by rw[e]; omega,fun i hi=>?_⟩⟩;rw[e]at hi;rw[aiv,hc (p+i) (by omega)]; simp
theorem OC(l:List UInt8)(b p k bb o cap:Nat)(w:World)(hm:cap≤maxLen)(hlc:l.length≤cap)(hbb:bb<w.heap.size)(hne:bb≠b)
  (hcs:∀i (h:i<l.length),w.cell? ⟨bb,o+i,none⟩=some (fO l[i])) (h0:w.cell? ⟨b,0,none⟩=some (.slice (some ⟨bb,o,none⟩) l.length cap)) (h1:w.cell? ⟨b,1,none⟩=some (.i p))
  (hfz:w.frozen? ⟨b,1,none⟩=false) (hp:p+k≤l.length) :
  Calls Tryz.prog 86 #[.pointer (some ⟨b,0,none⟩),.i k] w fun e w'=>∃v' n,e = .returned v'∧w'=(w.setCell ⟨b,1,none⟩ (.i ((p:Int)+(k:Int)))).drewN n ∧
   bZ w' v' ((l.drop p).take k)∧∀ad n cap',v' = .slice (some ad) n cap'→bb=ad.block:=by
 have HC:=ag8 hcs;clear hcs;have hc:p+k≤cap:=by omega
 have hi0:(0:Int)≤(p:Int):=by omega
 have hi1:(p:Int)≤(p:Int)+(k:Int):=by omega
 have hi2:(p:Int)+(k:Int)≤(cap:Int):=by omega
 have hi4:IntKind.i64.wrap ((p:Int)+(k:Int))=(p:Int)+(k:Int):=by rw[IntKind.wrap_i64]; have:maxLen=9223372036854775807:=rfl; omega
 have hi5:((p:Int)+(k:Int)).toNat=p+k:=by omega
 have hc2:p≤p+k:=by omega
 have hc3:p+k-p=k:=by omega
 have hc4:p≤cap:=by omega
 have hrow:bZ ((w.setCell ⟨b,1,none⟩ (.i ((p:Int)+(k:Int)))).drewN 1) (.slice (if cap=p then some ⟨bb,o,none⟩else some ⟨bb,o+p,none⟩) k (cap-p)) ((l.drop p).take k):=
  Wv hm hp hlc (by simpa using hbb) (fun i h=>by rw[World.cell?_drewN,World.cell?_setCell_other _ _ _ _ (by simp only[ne_eq,aiV]; omega)]; exact HC.out i h)
 by_cases hcp:cap=p
 ·rw[ahf hcp]at hrow;have HR:=ag8 hrow;clear hrow;subst hcp;have HR:=ag8 (by have h:=HR.out; rw[ai4]at h; exact h);go_enter Tryz.func86,Tryz.ntmps86
  go_wp2_with fail
  go_region_held3 (fun w'=>w'.cell? ⟨b,0,none⟩=some (.slice (some ⟨bb,o,none⟩) l.length cap)∧w'.cell? ⟨b,1,none⟩=some (.i cap)) (go_keep) (fail)
  go_wp2_with fail
  go_ret
  exact⟨_,1,rfl,rfl,HR.out,fun _ _ _ e=>RD e⟩
 rw[ahe hcp]at hrow;have HR:=ag8 hrow;clear hrow;go_enter Tryz.func86,Tryz.ntmps86
 go_wp2_with fail
 go_region_held3 (fun w'=>w'.cell? ⟨b,0,none⟩=some (.slice (some ⟨bb,o,none⟩) l.length cap)∧w'.cell? ⟨b,1,none⟩=some (.i p)) (go_keep) (fail)
 go_wp2_with fail
 go_ret
 exact⟨_,1,rfl,rfl,HR.out,fun _ _ _ e=>RD e⟩
open Go.RowKit En
variable{α:Type}
structure Rd (w:World) (b:Nat) (v:Value) (l:List UInt8) (p:Nat):Prop where
 c0:w.cell? ⟨b,0,none⟩=some v
 c1:w.cell? ⟨b,1,none⟩=some (.i p)
 fz:w.frozen? ⟨b,1,none⟩=false
 row:bZ w v l
 off:0<l.length→Off b v
 hp:p≤l.length
 lt:b<w.heap.size
theorem Rd.drewN{w:World}{b:Nat}{v:Value}{l:List UInt8}{p:Nat}(h:Rd w b v l p)(n:Nat):Rd (w.drewN n) b v l p:=
 ⟨by rw[World.cell?_drewN]; exact h.c0,by rw[World.cell?_drewN]; exact h.c1,by rw[World.frozen?_drewN]; exact h.fz,h.row.below (below_drewN (ahs _ _) n),h.off,h.hp,by simpa using h.lt⟩
theorem Rd.ext{w w':World}{b:Nat}{v:Value}{l:List UInt8}{p:Nat}(h:Rd w b v l p)(hb:Ext w w'):Rd w' b v l p:=
 ⟨by rw[hb.cell (p:=⟨b,0,none⟩) h.lt]; exact h.c0,by rw[hb.cell (p:=⟨b,1,none⟩) h.lt]; exact h.c1,by rw[hb.frozen (p:=⟨b,1,none⟩) h.lt]; exact h.fz,h.row.below hb,h.off,h.hp,by have:=hb.size; have:=h.lt; omega⟩
theorem Rd.set{w:World}{b:Nat}{v:Value}{l:List UInt8}{p q:Nat}(h:Rd w b v l p)(hq:q≤l.length):Rd (w.setCell ⟨b,1,none⟩ (.i q)) b v l q:=
 ⟨by rw[World.cell?_setCell_other _ _ _ _ (by simp)]; exact h.c0,World.cell?_setCell_same _ _ _ h.c1,by simpa using h.fz,h.row.ch ((Ch.refl b w).setCell _ _) h.off,h.off,hq,by simpa[World.setCell]using h.lt⟩
theorem next_any(l:List UInt8)(b p k:Nat)(v:Value)(w:World)(h:Rd w b v l p)(hk:p+k≤l.length)(h0:0<l.length) :
  Calls Tryz.prog 86 #[.pointer (some ⟨b,0,none⟩),.i k] w fun e w'=>∃v',e = .returned v'∧Rd w' b v l (p+k)∧Ch b w w'∧bZ w' v' ((l.drop p).take k)∧Off b v':=by
 obtain⟨bb,o,cap,hv,hb,hl,hm,hc⟩:=dn h.row rfl h0;subst hv;have hne:bb≠b:=h.off h0 _ _ _ rfl;refine(OC l b p k bb o cap w hm hl hb hne hc h.c0 h.c1 h.fz hk).mono ?_;rintro e w' ⟨v',n,rfl,hw,hr,hoff⟩;have he:(p:Int)+(k:Int)=((p+k:Nat):Int):=by omega
 rw[he]at hw;refine⟨v',rfl,?_,?_,hr,?_⟩
 ·rw[hw]; exact(h.set hk).drewN n
 ·rw[hw]; exact((Ch.refl b w).setCell _ _).drewN n
 intro ad n' cap' hv';exact fun e=>hne (by rw[←e]; exact hoff ad n' cap' hv')
theorem Wx(v:Value)(l:List UInt8)(i:Nat)(w:World)(hv:bZ w v l)(h:i≤l.length) :
  Calls Tryz.prog 48 #[v,.i i] w fun e w'=>∃b,e = .returned (.tuple #[.pointer (some ⟨b,0,none⟩),.i 0])∧Rd w' b v l i∧Ext w w'∧w.heap.size≤b:=by
 refine(OB v l i w hv h).mono ?_;rintro e w' ⟨rfl,rfl⟩;refine⟨_,rfl,⟨?_,?_,?_,hv.below (aF _ _),V9 hv (ahh _),h,by simp⟩,aF _ _,ahh _⟩
 ·rw[World.cell?_alloc_at _ _ _ _ rfl]; rfl
 ·rw[World.cell?_alloc_at _ _ _ _ rfl]; rfl
 rw[World.frozen?_alloc_at _ _ _ _ rfl]
open Go.RowKit En
variable{α:Type}
def Et(w:World)(b:Nat)(v:Value)(l:List UInt8)(p:Nat)(r:Except Nat (Nat×Nat))(e:Ending)(w':World):Prop:=
 ∃q,Rd w' b v l q∧Ch b w w'∧(match r with
  | .ok (n,k)=>q=p+k∧e = .returned (.tuple #[.int .u64 (n:Int),.i 0])
  | .error er=>e = .returned (.tuple #[.int .u64 0,.i er]))
theorem Wy(l:List UInt8)(b p:Nat)(v:Value)(w:World)(h:Rd w b v l p) :
  Calls Tryz.prog 85 #[.pointer (some ⟨b,0,none⟩)] w fun e w'=>e = .returned (.i (l.length-p:Nat))∧Rd w' b v l p∧Ch b w w':=by
 refine(Rz v l b p w h.row h.c0 h.c1 h.hp).mono ?_;rintro e w' ⟨rfl,n,rfl⟩;exact⟨rfl,h.drewN n,(Ch.refl b w).drewN n⟩
theorem JC{w:World}{b:Nat}{v:Value}{l:List UInt8}{p k f acc c:Nat}{w':World}(hu:Hid (ji 9 (l.drop p)=comb k acc (ji f (l.drop (p+k)))))(hf:ji f (l.drop (p+k)) = .ok (c,1))
  (hr:Rd w' b v l (p+k+1)) (hc:Ch b w w') {x:Int} (hx:x=((acc+128^k*c:Nat):Int)):Et w b v l p (ji 9 (l.drop p)) (.returned (.tuple #[.int .u64 x,.i 0])) w':=by
 refine⟨p+k+1,hr,hc,?_⟩;rw[hu.out,hf,hx];exact⟨by omega,rfl⟩
theorem y9{w:World}{b:Nat}{v:Value}{l:List UInt8}{p k f acc q er:Nat}{w':World}(hu:Hid (ji 9 (l.drop p)=comb k acc (ji f (l.drop (p+k)))))(hf:ji f (l.drop (p+k)) = .error er)
  (hr:Rd w' b v l q) (hc:Ch b w w'):Et w b v l p (ji 9 (l.drop p)) (.returned (.tuple #[.int .u64 0,.i er])) w':=by
 refine⟨q,hr,hc,?_⟩;rw[hu.out,hf];rfl
theorem JD:∀c:Fin 256,bits .andNot .u8 (c.val:Int) 128=((c.val%128:Nat):Int):=by decide +kernel
theorem GL(c:UInt8)(acc k:Nat)(h:acc<128^k)(hk:k≤9)(h9:k<9∨c.toNat<2) :
  bits BinOp.or IntKind.u64 (acc:Int) (IntKind.u64.wrap (IntKind.u64.wrap (bits BinOp.andNot IntKind.u8 (c.toNat:Int) 128)*2^(7*k)))=((acc+128^k*(c.toNat%128):Nat):Int):=by
 have h1:=JD ⟨c.toNat,c.toNat_lt⟩;simp only at h1;rw[h1];have e128:(128:Nat)^k=2^(7*k):=by rw[Nat.pow_mul]
 have hp:2^(7*k)≤2^63:=ah1 (by omega) (by omega);have hb:(c.toNat%128)*2^(7*k)<18446744073709551616:=by
  rcases h9 with h9 | h9
  ·have h2:2^(7*k)≤2^56:=ah1 (by omega) (by omega);have h3:c.toNat%128≤127:=by omega
   have:=aiN h3 h2;omega
  have h3:c.toNat%128≤1:=by omega
  have:=aiN h3 hp;omega
 have w1:IntKind.u64.wrap ((c.toNat%128:Nat):Int)=((c.toNat%128:Nat):Int):=by rw[ah6]; omega
 rw[w1];have w2:((c.toNat%128:Nat):Int)*2^(7*k)=(((c.toNat%128)*2^(7*k):Nat):Int):=by push_cast; rfl
 rw[w2,ah6];have w3:(((c.toNat%128)*2^(7*k):Nat):Int)%18446744073709551616=(((c.toNat%128)*2^(7*k):Nat):Int):=by omega
 rw[w3,u64_or_nat _ _ (by omega) hb,Nat.or_comm,nat_join (7*k) _ _ (Nat.mul_mod_left _ _) (by omega),e128,ahy,aiD]
theorem zQ(l:List UInt8)(b p:Nat)(v:Value)(w:World)(h:Rd w b v l p) :
  Calls Tryz.prog 49 #[.pointer (some ⟨b,0,none⟩)] w (Et w b v l p (ji 9 (l.drop p))):=by
 have hml:=h.row.len;unfold maxLen at hml;have H:=ag8 h;clear h;go_enter Tryz.func49,Tryz.ntmps49
 go_wp2_with fail
 go_loopw [4,5] (fun n i wr=>∃k f acc:Nat,i = .i k∧k+f=9∧n = .int .u64 acc∧acc<128^k∧Rd wr b v l (p+k)∧Hid (ji 9 (l.drop p)=comb k acc (ji f (l.drop (p+k))))∧Ch b w wr) (fun _ i _=>10-(intOf i).toNat)
 case atStart=>exact⟨0,9,0,rfl,rfl,rfl,by omega,H.out,(Du _).symm,Ch.refl _ _⟩
 case round =>
  obtain⟨k,f,acc,rfl,hkf,rfl,hacc,hrd,HU,hch⟩:=hrel;have HC:=ag8 (Wy l b (p+k) v wr hrd);have hpk:=hrd.hp;have HR:=ag8 hrd;have HA:=ag8 hacc;clear hrd hacc;go_wp2_with fail
  refine HC.out.mono ?_;rintro e w' ⟨rfl,RF,ab2⟩;clear HC HR;by_cases hlt:p+k<l.length
  ·have hl0:(0:Int)<((l.length-(p+k):Nat):Int):=by omega
   have HN:=ag8 (next_any l b (p+k) 1 v w' RF (by omega) (by omega));have HR:=ag8 RF;clear RF;go_wp2_with fail
   refine HN.out.mono ?_;rintro e w3 ⟨v',rfl,ab3,aeC,hrow,hoff⟩;clear HN HR;have hone:(l.drop (p+k)).take 1=[l[p+k]]:=by rw[ahU hlt]; rfl
   rw[hone]at hrow;obtain⟨c,hcc⟩:∃c,l[p+k]=c:=⟨_,rfl⟩;rw[hcc]at hrow;obtain⟨bb,o,cap,hv,hb,hl,hm,hc⟩:=dn hrow rfl Nat.one_pos;have hc0:=hc 0 Nat.one_pos;simp only[aiW,ajf]at hc0;rw[hv];have HD:=ag8 (ahU hlt);rw[hcc]at HD;clear hc hv hrow hone hcc;have HR:=ag8 ab3;have Eu:=Ch.trans hch (Ch.trans ab2 aeC);clear ab3;have hc8:=c.toNat_lt;have hk9:k≤9:=by omega
   cases f with
   | zero =>
    obtain rfl:k=9:=by omega
    rcases ajk c.toNat 1 with h1 | h1 | h1
    ·have hc1:((c.toNat:Int)==0)=true:=by rw[ahu]; omega
     have hu:Hid (ji 0 (l.drop (p+9)) = .error 3):=by rw[HD.out]; simp only[ji]; rw[ahe (by omega)]; rfl
     go_wp2_with fail
     go_ret2
     exact y9 HU hu.out HR.out Eu
    ·have hc1:((c.toNat:Int)==0)=false:=by rw[ahq]; omega
     have hu:Hid (ji 0 (l.drop (p+9)) = .ok (c.toNat,1)):=by rw[HD.out]; simp only[ji]; rw[ahf h1,h1]; rfl
     have HS:=ag8 (GL c acc 9 HA.out (by omega) (.inr (by omega)));have h1':(c.toNat:Int)≤1:=by omega
     have h2':(c.toNat:Int)<128:=by omega
     have H1:=ag8 h1;clear h1;go_wp2_with fail
     go_ret2
     refine JC HU hu.out HR.out Eu (HS.out.trans ?_);have:=H1.out; rw[this]
    have hu:Hid (ji 0 (l.drop (p+9)) = .error 3):=by rw[HD.out]; simp only[ji]; rw[ahe (by omega)]; rfl
    go_wp2_with fail
    go_ret2
    exact y9 HU hu.out HR.out Eu
   | succ f =>
    have hk9:((k:Int)==9)=false:=by rw[ahq]; omega
    have HS:=ag8 (GL c acc k HA.out (by omega) (.inl (by omega)));by_cases hlo:c.toNat<128
    ·have aeD:(c.toNat:Int)<128:=by omega
     have ab4:Hid (c.toNat%128=c.toNat):=aiE hlo;rcases ahI c.toNat with h0 | h0
     ·have h0':((c.toNat:Int)==0)=true:=by rw[ahu]; omega
      rcases ahI k with hk | hk
      ·have hu:Hid (ji (f+1) (l.drop (p+k)) = .ok (c.toNat,1)):=by rw[HD.out]; simp only[ji]; rw[ahf hlo,ahe (by omega)]; rfl
       have hkp:¬(0:Int)<(k:Int):=by omega
       have HK:=ag8 hk;have H0:=ag8 h0;clear hk h0;go_wp2_with fail
       go_ret2
       exact JC HU hu.out HR.out Eu (HS.out.trans (by rw[ab4.out]))
      have hu:Hid (ji (f+1) (l.drop (p+k)) = .error 3):=by rw[HD.out]; simp only[ji]; rw[ahf hlo,ahf ⟨h0,by omega⟩]; rfl
      have hkp:(0:Int)<(k:Int):=by omega
      have H0:=ag8 h0;clear h0;go_wp2_with fail
      go_ret2
      exact y9 HU hu.out HR.out Eu
     have h0':((c.toNat:Int)==0)=false:=by rw[ahq]; omega
     have hu:Hid (ji (f+1) (l.drop (p+k)) = .ok (c.toNat,1)):=by rw[HD.out]; simp only[ji]; rw[ahf hlo,ahe (by omega)]; rfl
     go_wp2_with fail
     go_ret2
     exact JC HU hu.out HR.out Eu (HS.out.trans (by rw[ab4.out]))
    have aeD:¬(c.toNat:Int)<128:=by omega
    have HL:=ag8 hlo;clear hlo;go_wp2_with fail
    go_roundw
    case rel =>
     refine⟨k+1,f,acc+128^k*(c.toNat%128),by go_num,by omega,by rw[HS.out],?_,HR.out,?_,Eu⟩
     ·have:=HA.out;rw[ahv];have h2:c.toNat%128≤127:=by omega
      have:=ahH (128^k) h2;omega
     show _=_;rw[HU.out,HD.out,GN f c _ HL.out,Dv]; rfl
    case measure=>simp[intOf]; omega
  have hl0:¬(0:Int)<((l.length-(p+k):Nat):Int):=by omega
  have hu:Hid (ji f (l.drop (p+k)) = .error 4):=by rw[aic (by omega),MI]; rfl
  have Eu:=Ch.trans hch ab2;have HR:=ag8 RF;clear RF;go_wp2_with fail
  go_ret2
  exact y9 HU hu.out HR.out Eu
open Go.RowKit En
variable{α:Type}
theorem MJ{l:List UInt8}{i:Int}(h:i<0∨(l.length:Int)<i):qo l i=(0,0,2):=by unfold qo; rw[ahf h]
theorem RG{l:List UInt8}{i n k:Nat}(h:i≤l.length)(hu:ji 9 (l.drop i) = .ok (n,k)):qo l i=(n,i+k,0):=by
 unfold qo; rw[ahe (by omega),ajc,hu]
theorem Ew{l:List UInt8}{i e:Nat}(h:i≤l.length)(hu:ji 9 (l.drop i) = .error e):qo l i=(0,0,e):=by
 unfold qo; rw[ahe (by omega),ajc,hu]
theorem WA{l:List UInt8}{e:Nat}(hu:ji 9 l = .error e):((e:Int) != 0)=true:=by
 rw[bne_iff_ne]; rcases MK _ _ _ hu with h | h<;>omega
abbrev ab5 (r:Nat×Nat×Nat):Value := .tuple #[.int .u64 (r.1:Int),.i r.2.1,.i r.2.2]
theorem rJ(v:Value)(l:List UInt8)(i:Int)(w:World)(hv:bZ w v l) :
  Calls Tryz.prog 20 #[v,.i i] w fun e w'=>e = .returned (ab5 (qo l i))∧Ext w w':=by
 by_cases hbad:i<0∨(l.length:Int)<i
 ·rw[MJ hbad];have HF:=ag8 (Ry v l i w hv hbad);clear hbad;go_enter Tryz.func20,Tryz.ntmps20
  go_wp2_with fail
  refine HF.out.mono ?_;rintro e w' ⟨rfl,rfl⟩;go_wp2_with fail
  go_ret3
  exact⟨rfl,ahs _ _⟩
 obtain⟨p,rfl⟩:∃p:Nat,i=p:=⟨i.toNat,by omega⟩;have hp:p≤l.length:=by omega
 have HF:=ag8 (Wx v l p w hv hp);clear hbad;have hl:=hv.len;unfold maxLen at hl;cases hu:ji 9 (l.drop p)with
 | error er =>
  rw[Ew hp hu];have he:=WA hu;have HU:=ag8 hu;clear hu;go_enter Tryz.func20,Tryz.ntmps20
  go_wp2_with fail
  refine HF.out.mono ?_;rintro e w1 ⟨b,rfl,hrd,hb1,hb⟩;have HN:=ag8 (zQ l b p v w1 hrd);rw[HU.out]at HN;clear hrd HF;go_wp2_with fail
  refine HN.out.mono ?_;rintro e w2 ⟨q,hrd,hch,rfl⟩;have HR:=ag8 hrd;have HB:=ag8 (Below.trans hb1 (hch.below hb hb1.size));clear hrd hch hb1 HN;go_wp2_with fail
  go_ret3
  exact⟨rfl,HB.out⟩
 | ok r =>
  obtain⟨n,k⟩:=r;rw[RG hp hu];have HU:=ag8 hu;clear hu;go_enter Tryz.func20,Tryz.ntmps20
  go_wp2_with fail
  refine HF.out.mono ?_;rintro e w1 ⟨b,rfl,hrd,hb1,hb⟩;have HN:=ag8 (zQ l b p v w1 hrd);rw[HU.out]at HN;clear hrd HF;go_wp2_with fail
  refine HN.out.mono ?_;rintro e w2 ⟨q,hrd,hch,hq,rfl⟩;have h1:=hrd.c1;have HB:=ag8 (Below.trans hb1 (hch.below hb hb1.size));have HQ:=ag8 hq;clear hrd hch hb1 HN hq;go_wp2_with fail
  go_quiet (fail)
  go_wp2_with fail
  go_ret3
  rw[HQ.out];exact⟨rfl,below_drewN HB.out _⟩
open Go.RowKit En
variable{α:Type}
def grp:List UInt8→Nat
 | []=>0
 | c::l=>c.toNat%128+128*grp l
theorem RH(l:List UInt8)(c:UInt8):grp (l++[c])=grp l+128^l.length*(c.toNat%128):=by
 induction l with
 | nil=>simp[grp]
 | cons d l ih =>
  simp only[ahO,grp,ih,ahL,ahv,ahp];rw[ahy (128^l.length) 128,ahB]; omega
theorem zS(l:List UInt8)(p k:Nat)(h:p+k<l.length):grp ((l.drop p).take (k+1))=grp ((l.drop p).take k)+128^k*((l[p+k]).toNat%128):=by
 have hlt:k<(l.drop p).length:=by simp; omega
 rw[take_snoc (l.drop p) k hlt,RH];have e:((l.drop p).take k).length=k:=by simp; omega
 rw[e]; simp
def WB(l:List UInt8)(p k f:Nat):Prop:=ji 9 (l.drop p)=comb k (grp ((l.drop p).take k)) (ji f (l.drop (p+k)))
theorem RI{l:List UInt8}{p k f:Nat}(h:WB l p k (f+1))(hlt:p+k<l.length)(hc:¬(l[p+k]).toNat<128):WB l p (k+1) f:=by
 unfold WB at h ⊢;rw[h,RJ f l (p+k) hlt hc,Dv,zS l p k hlt]; rfl
theorem ZX{l:List UInt8}{p k f:Nat}(h:WB l p k f)(hlt:p+k<l.length)(hf:ji f (l.drop (p+k)) = .ok ((l[p+k]).toNat,1))(hc:(l[p+k]).toNat<128) :
  ji 9 (l.drop p) = .ok (grp ((l.drop p).take (k+1)),k+1):=by
 unfold WB at h;rw[h,hf,zS l p k hlt,aiE hc]; rfl
theorem ML{l:List UInt8}{p k f e:Nat}(h:WB l p k f)(hf:ji f (l.drop (p+k)) = .error e):ji 9 (l.drop p) = .error e:=by
 unfold WB at h;rw[h,hf]; rfl
theorem zT(v:Value)(l:List UInt8)(i:Int)(w:World)(hv:bZ w v l) :
  Calls Tryz.prog 50 #[v,.i i] w fun e w'=>e = .returned (ab5 (qo l i))∧w=w':=by
 have hml:=hv.len;unfold maxLen at hml;obtain⟨a,cap,rfl,hm,ha⟩:=hv;have HA:=ag8 ha;clear ha;by_cases hbad:i<0∨(l.length:Int)<i
 ·rw[MJ hbad];go_enter Tryz.func50,Tryz.ntmps50
  by_cases h1:i<0
  ·go_wp2_with fail
   go_ret3
   exact⟨rfl,rfl⟩
  have h2:(l.length:Int)<i:=by omega
  clear hbad;go_wp2_with fail
  go_ret3
  exact⟨rfl,rfl⟩
 obtain⟨p,rfl⟩:∃p:Nat,i=p:=⟨i.toNat,by omega⟩;have hp:p≤l.length:=by omega
 clear hbad;go_enter Tryz.func50,Tryz.ntmps50
 go_wp2_with fail
 go_loop [7] (fun i=>∃k:Nat,i = .i k∧∃f:Nat,k+f=9∧p+k≤l.length∧Hid (WB l p k f)) (fun i=>10-(intOf i).toNat)
 case atStart=>exact⟨0,rfl,9,rfl,hp,(Du _).symm⟩
 case round =>
  obtain⟨k,rfl,f,hkf,hpk,HL⟩:=hrel;by_cases hlt:p+k<l.length
  ·rcases HA.out with ⟨rfl,_⟩ | ⟨b,o,rfl,hb,hlc,hcs⟩
   ·simp at hlt
   have hc0:=hcs (p+k) hlt;clear hcs;obtain⟨c,hcc⟩:∃c,l[p+k]=c:=⟨_,rfl⟩;rw[hcc]at hc0;have hc8:=c.toNat_lt;have HD:=ag8 (ahU hlt);rw[hcc]at HD;have HCC:=ag8 hcc;clear hcc;have aeE:(p:Int)+(k:Int)<(l.length:Int):=by omega
   by_cases hgo:k<9∧127<c.toNat
   ·obtain⟨hk9,hc⟩:=hgo;obtain⟨g,rfl⟩:∃g,f=g+1:=⟨f-1,by omega⟩;have hcI:(127:Int)<(c.toNat:Int):=by omega
    have HN:Hid (WB l p (k+1) g):=RI HL.out hlt (by rw[HCC.out]; omega);go_wp2_with fail
    go_round
    case rel=>exact⟨k+1,by go_num,g,by omega,by omega,HN⟩
    case measure=>simp[intOf]; omega
   by_cases hend:(k<9∧c.toNat<128∧(c.toNat≠0∨k=0))∨(k=9∧c.toNat=1)
   ·have hf:ji f (l.drop (p+k)) = .ok (c.toNat,1):=by
     rw[HD.out];rcases hend with ⟨h1,h2,h3⟩ | ⟨h1,h2⟩
     ·obtain⟨g,rfl⟩:∃g,f=g+1:=⟨f-1,by omega⟩;simp only[ji]; rw[ahf h2,ahe (by omega)]
     obtain rfl:f=0:=by omega
     simp only[ji]; rw[ahf h2,h2]
    have hu:=ZX HL.out hlt (by rw[HCC.out]; exact hf) (by rw[HCC.out]; omega);have hT:=(zf hu).1;generalize hTT:grp ((l.drop p).take (k+1))=T at *;have HT:=ag8 hTT;have HU:=ag8 hu;clear hu hf hTT hgo HL HD;have agc:¬(127:Int)<(c.toNat:Int):=by omega
    have fin:Hid ((((k:Int)==9)=false∧¬(0:Int)<(k:Int))∨(((k:Int)==9)=false∧((c.toNat:Int)==0)=false∧(0:Int)<(k:Int)∧(k:Int)<9)∨(((k:Int)==9)=true∧((c.toNat:Int)==0)=false∧¬(1:Int)<(c.toNat:Int)∧(0:Int)<(k:Int)∧¬(k:Int)<9)):=by
     rcases ahI k with h0 | h0
     ·left; exact⟨by rw[ahq]; omega,by omega⟩
     right;rcases hend with ⟨h1,h2,h3⟩ | ⟨h1,h2⟩
     ·left; exact⟨by rw[ahq]; omega,by rw[ahq]; omega,by omega,by omega⟩
     right; exact⟨by rw[ahu]; omega,by rw[ahq]; omega,by omega,by omega,by omega⟩
    clear hend;have hne:((p:Int)+(k:Int)==(l.length:Int))=false:=by rw[ahq]; omega
    have h0:Hid (k+1≤k+1∧grp ((l.drop p).take (k+1))+128^(k+1)*0=T):=⟨ahh _,by rw[HT.out]; rfl⟩;rcases fin.out with ⟨hk9,hz⟩ | ⟨hk9,hz,hz1,hz3⟩ | ⟨hk9,hz,hz2,hz1,hz3⟩;all_goals
     go_wp2_with fail
     go_loop [8,9] (fun nv i=>∃j:Nat,i = .i ((j:Int)-1)∧∃n:Nat,nv = .int .u64 n∧Hid (j≤k+1∧grp ((l.drop p).take j)+128^j*n=T)) (fun _ i=>(intOf i+1).toNat)
     case atStart=>exact⟨k+1,V6 (by omega),0,rfl,h0⟩
     case round =>
      obtain⟨j,rfl,n,rfl,HJ⟩:=hrel
      cases j with
      | zero =>
       go_wp2_with fail
       go_ret3
       have e:n=T:=by have:=HJ.out.2; simp[grp]at this; exact this
       refine⟨?_,rfl⟩
       rw[RG hp HU.out,e]
       have e2:(p:Int)+(k:Int)+1=((p+(k+1):Nat):Int):=by omega
       rw[e2]; rfl
      | succ j =>
       have hi:(((j+1:Nat):Int)-1)=(j:Int):=by omega
       rw[hi]
       have hjk:j≤k:=by have:=HJ.out.1; omega
       have ab6:p+j<l.length:=by omega
       obtain⟨d,hdd⟩:∃d,l[p+j]=d:=⟨_,rfl⟩
       have hcj:w.cell? ⟨b,o+(p+j),none⟩=some (fO d):=by
        rcases HA.out with ⟨h,_⟩ | ⟨b',o',h,_,_,hcs⟩
        ·rw[h]at hlt; simp at hlt
        ·simp only[ahd,aiV,and_true]at h
         obtain⟨rfl,rfl⟩:=h
         rw[hcs (p+j) ab6,hdd]
       have hg:=zS l p j ab6
       rw[hdd]at hg
       have hT2:128^j*(n*128+d.toNat%128)+grp ((l.drop p).take j)=T:=by
        have:=HJ.out.2
        rw[hg,ahv]at this
        rw[ahp,ahy n,←ahB]; omega
       have hle:n*128+d.toNat%128≤T:=by
        have h1:1≤128^j:=Nat.pow_pos (by omega)
        have:=aiF (n*128+d.toNat%128) h1
        omega
       have hd8:=d.toNat_lt
       have HN:Hid (j≤k+1∧grp ((l.drop p).take j)+128^j*(n*128+d.toNat%128)=T):=⟨by omega,by omega⟩
       have hb1:(n:Int)*128+(d.toNat:Int)%128<18446744073709551616:=by omega
       clear hT2 hg hdd hi
       go_wp2_with fail
       go_round
       case rel=>exact⟨j,rfl,n*128+d.toNat%128,by first | rfl | exact y7 (by omega),HN⟩
       case measure=>simp[intOf]
   have herr:ji f (l.drop (p+k)) = .error 3:=by
    rw[HD.out];rcases ahF k 9 with h9 | h9
    ·obtain⟨g,rfl⟩:∃g,f=g+1:=⟨f-1,by omega⟩;simp only[ji]; rw[ahf (by omega),ahf ⟨by omega,by omega⟩]
    obtain rfl:f=0:=by omega
    simp only[ji]; rw[ahe (by omega)]
   have HE:=ag8 (Ew hp (ML HL.out herr));have hne:((p:Int)+(k:Int)==(l.length:Int))=false:=by rw[ahq]; omega
   have fin:Hid ((((k:Int)==9)=false∧((c.toNat:Int)==0)=true∧(0:Int)<(k:Int)∧(k:Int)<9∧¬(127:Int)<(c.toNat:Int))∨(((k:Int)==9)=true∧(1:Int)<(c.toNat:Int)∧¬(k:Int)<9)∨(((k:Int)==9)=true∧((c.toNat:Int)==0)=true∧¬(1:Int)<(c.toNat:Int)∧(0:Int)<(k:Int)∧¬(k:Int)<9)):=by
    rcases ahF k 9 with h9 | h9
    ·left; exact⟨by rw[ahq]; omega,by rw[ahu]; omega,by omega,by omega,by omega⟩
    right;by_cases h1:1<c.toNat
    ·left; exact⟨by rw[ahu]; omega,by omega,by omega⟩
    right; exact⟨by rw[ahu]; omega,by rw[ahu]; omega,by omega,by omega,by omega⟩
   clear herr hgo hend;rcases fin.out with ⟨hk9,hz,h1,h2,h3⟩ | ⟨hk9,hz,h1⟩ | ⟨hk9,hz,h1,h2,h3⟩;all_goals
    go_wp2_with fail
    go_ret3
    exact⟨by rw[HE.out]; rfl,rfl⟩
  have hE:=Ew hp (ML HL.out (show ji f (l.drop (p+k)) = .error 4 by rw[aic (by omega),MI]));have HE:=ag8 hE;have hne:((p:Int)+(k:Int)==(l.length:Int))=true:=by rw[ahu]; omega
  have aeE:¬(p:Int)+(k:Int)<(l.length:Int):=by omega
  have hk9:Hid ((((k:Int)==9)=false∧(k:Int)<9)∨(((k:Int)==9)=true∧¬(k:Int)<9)):=by
   rcases ahF k 9 with h9 | h9
   ·left; exact⟨by rw[ahq]; omega,by omega⟩
   right; exact⟨by rw[ahu]; omega,by omega⟩
  clear hE;rcases hk9.out with ⟨h1,h2⟩ | ⟨h1,h2⟩;all_goals
   go_wp2_with fail
   go_ret3
   exact⟨by rw[HE.out]; rfl,rfl⟩
open Go.RowKit En
variable{α:Type}
theorem Ey(l:List UInt8)(i:Int):(qo l i).1<18446744073709551616:=by
 unfold qo;split
 ·simp
 split
 ·rename_i h; exact(zf h).1
 simp
abbrev aeF (r:Int×Nat×Nat):Value := .tuple #[.i r.1,.i r.2.1,.i r.2.2]
theorem CG(k:IntKind)(x y:Int):bits .xor k x y=bits .xor k y x:=by
 show k.wrap ((BitVec.ofInt k.bits x^^^BitVec.ofInt k.bits y).toNat:Int)=k.wrap ((BitVec.ofInt k.bits y^^^BitVec.ofInt k.bits x).toNat:Int);rw[BitVec.xor_comm]
theorem RN(a:Nat)(ha:a<9223372036854775808):bits .xor .i64 (a:Int) 0=(a:Int):=by
 show IntKind.i64.wrap ((BitVec.ofInt 64 (a:Int)^^^BitVec.ofInt 64 0).toNat:Int)=_;have h1:BitVec.ofInt 64 0=0#64:=by decide
 rw[h1,BitVec.xor_zero,ofInt_u64 a (by omega)];simp[IntKind.wrap,IntKind.bits,IntKind.signed];omega
theorem JE(n:Nat)(h:n<18446744073709551616):bits BinOp.xor IntKind.i64 ((n:Int)/2) (wrap64 (-wrap64 (bits BinOp.and IntKind.u64 (n:Int) 1)))=yG n:=by
 rw[Lib.u64_and1 _ (by omega) (by omega)];unfold yG;have e:(n:Int)/2=((n/2:Nat):Int):=rfl;rcases Nat.mod_two_eq_zero_or_one n with h2 | h2
 ·have e1:(n:Int)%2=0:=by omega
  have e2:wrap64 (-wrap64 0)=0:=by simp[wrap64]
  rw[e1,e2,e,RN _ (by omega),ahe (by omega)]
 have e1:(n:Int)%2=1:=by omega
 have e2:wrap64 (-wrap64 1) = -1:=by simp[wrap64]
 rw[e1,e2,e,CG,i64_not _ (by omega),ahf h2]
theorem JF(v:Value)(l:List UInt8)(i:Int)(w:World)(hv:bZ w v l) :
  Calls Tryz.prog 69 #[v,.i i] w fun e w'=>e = .returned (aeF (WC l i))∧Ext w w':=by
 have HC:=ag8 (rJ v l i w hv);have hn:=Ey l i;unfold WC;generalize qo l i=r at *;obtain⟨n,next,er⟩:=r;simp only at hn;clear hv;go_enter Tryz.func69,Tryz.ntmps69
 go_wp2_with fail
 refine HC.out.mono ?_;rintro e w' ⟨rfl,hb⟩;go_wp2_with fail
 go_ret3
 exact⟨by rw[JE _ hn]; rfl,hb⟩
end Go.Proofs.YtiafijffnejhoaaGreatDoor
