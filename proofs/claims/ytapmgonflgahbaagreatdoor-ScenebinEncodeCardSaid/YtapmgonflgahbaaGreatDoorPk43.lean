/- The encoders of package scenebin: scenes. Walks of the -/
import Derived.Test.YtapmgonflgahbaaGreatDoorPk42
set_option linter.unusedVariables false
section
set_option maxHeartbeats 1600000
set_option maxRecDepth 100000
namespace Go.Proofs.YtapmgonflgahbaaGreatDoor
open Go.RowKit
variable{α:Type}{K:Nat}
theorem PZ{w0 w:World}{v0 u0:Value}{B:List UInt8}{L:List aA}(hE:Ext w0 w)(ho:OwnB w0.heap.size w v0 B)(h:aV 47 aA.cells w0 u0 L)(hok:∀n∈L,fG K w0 n∧n.Lim)(hB0:(B++L.flatMap (fun n:aA=>fF false n.key)).length≤1000000000) :
  Calls Tryz.prog 78 #[v0,u0,.func (.func 36) #[.agg #[.z]] #[]] w fun e w'=>∃v,e = .returned v∧OwnB w0.heap.size w' v (B++L.flatMap (fun n:aA=>fF false n.key))∧Ext w0 w':=by
 obtain⟨a,cap,rfl⟩:=h.shape;have hmax:L.length≤9223372036854775807:=h.len;refine Sx.zC Tryz.func78 Tryz.ntmps78 hE fun ac S=>anv (fun _ aS=>?_);have R:=lK (aoz S) ho (fun p hp=>by cases hp) (an7 _);refine adr S 1 [] [(6,.sn)] fun S=>anu<|aS _ _<|anV fun _ eP=>anv fun _ jv=>adr S 3 [] [(9,.slice a L.length cap),(10,.i L.length),(11,.i 0)] fun S=>anu<|jv _ _<|an1 ?_;refine aow (ι:=Nat×Value) (fun p a' w'=>p.1≤L.length∧(True)∧Sx.Rw w0 w' [] [⟨5,1,p.2,(B++(L.take p.1).flatMap (fun n:aA=>fF false n.key)).length,(B++(L.take p.1).flatMap (fun n:aA=>fF false n.key)).map dY⟩]∧Sx.St w0 a' w' 22 [(0,p.2),(1,.slice a L.length cap),(2,.func (.func 36) #[.agg #[.z]] #[]),(6,.sn),(9,.slice a L.length cap),(10,.i L.length),(11,.i p.1)] [] []) (fun p=>L.length-p.1) (0,v0) ⟨aoa _,trivial,R.as (show [Sx.bR v0 B]=[Sx.bR v0 (B++(L.take 0).flatMap (fun n:aA=>fF false n.key))] by simp),S.sn⟩ ?_;rintro⟨k,v⟩ ac u hI;try dsimp only at hI
 obtain⟨hk,hR,R,S⟩:=hI;refine anv fun _ oq=>adr S 1 [] [(12,.bool ((k:Int)<(L.length:Int)))] fun S=>anu<|oq _ _<|anV (fun _ bM=>?_);refine anx S (fun hc6=>?_) (fun hc6=>?_)
 ·refine anZ<|bM _ _<|anV fun _ iZ=>an1<|anv (fun _ eu=>?_);have fZ:k<L.length:=by have:=aoe hc6; omega
  obtain⟨b9,o10,rfl,x15,jy,hb16,rV⟩:=aom h (fun _=>rfl) (k) fZ;have S:=S.view0 hb16 rV;refine adr S 2 [.idx k L.length,.mem 0 0] [(14,x15.v)] (hk:=⟨fZ,trivial⟩) fun S=>anw S 8 (Sx.L [.i 0,.i 0,.i 0]++Sx.za++Sx.L [.sn,.i 0,.u 0,.i 0,.z,.z,.sn,.i 0,.sn,.i 0,.i 0,.i 0,.i 0,.sn,.i 0,.sn,.i 0,.i 0,.sn,.i 0]) fun ac u b17 uY CG S=>anC S 0 (off:=0) (cs:=x15.cells) rfl fun u JZ S=>anu<|eu _ _<|an3<|adr S 3 [.mem 0 0] [(15,v),(16,.func (.func 36) #[.agg #[.z]] #[]),(17,x15.v)] fun S=>anB S (some 18) (vW (pk:=false) ((hok _ (jy▸aot fZ)).1.below S.E) (hok _ (jy▸aot fZ)).2.acO (TY hB0 _ (jy▸aot fZ))) ?_;rintro e u ⟨v18,rfl,wL,uh⟩;refine⟨_,rfl,uh,fun ac S=>?_⟩;have hB:=yS hB0 (k+1);rw[←kS fZ jy]at hB;obtain⟨R,Y22⟩:=R.aT S (an4 (aoG uY CG) (an4 (Sx.Stp.chm JZ (by simp[Sx.vb])) (aoc uh)));refine anQ S R 19 ((fun n:aA=>fF false n.key) x15) (jL (wL)) (by simp only[an5]at hB ⊢; omega) fun ac u v23 BX R S=>adr S 1 [] [(0,v23)] fun S=>anu<|iZ _ _<|an3<|adr S 2 [.re 20 (.i (IntKind.i64.wrap ((k:Int)+1))) (.i (k+1:Nat))] [(11,.i (k+1:Nat))] (hk:=⟨anJ (by omega),trivial⟩) fun S=>anu ?_;have S:=S.gq 1;obtain⟨R,Y25⟩:=R.aT S (aoD 1);show ∃i',_∧_;exact⟨((k+1),v23),⟨by omega,trivial,R.as (show [Sx.bR v23 (B++(L.take k).flatMap (fun n:aA=>fF false n.key)++(fun n:aA=>fF false n.key) x15)]=[Sx.bR v23 (B++(L.take (k+1)).flatMap (fun n:aA=>fF false n.key))] by rw[kS fZ jy]),S.sn⟩,by show _-_<_-_; omega⟩
 refine aod<|eP _ _<|anv fun _ jf=>adr S 2 [] [(6,v)] fun S=>anu<|jf _ _<|anz S Tryz.results78 ?_;exact⟨_,rfl,by have:=R.own _ aox; rw[aou (by have:=aoi hc6; omega)]at this; exact this,S.E⟩
theorem P5{w:World}{u0:Value}{L:List aA}(h:aV 47 aA.cells w u0 L)(hok:∀n∈L,fG K w n∧n.Lim)(hB:(gu (fun n:aA=>fF false n.key) L).length≤1000000000) :
  Calls Tryz.prog 35 #[u0,.func (.func 36) #[.agg #[.z]] #[]] w fun e w'=>∃v,e = .returned v∧OwnB w.heap.size w' v (gu (fun n:aA=>fF false n.key) L)∧Ext w w':=by
 obtain⟨a,cap,rfl⟩:=h.shape;have hmax:L.length≤9223372036854775807:=h.len;refine anA Tryz.func35 Tryz.ntmps35 fun ac S=>anv fun _ aS=>adr S 1 [] [(4,.sn)] fun S=>anu<|aS _ _<|anv fun _ eP=>adr S 3 [.re 7 (.int .u64 (IntKind.u64.wrap (L.length:Int))) (.int .u64 (L.length:Int))] [(7,.int .u64 (L.length:Int))] (fun S=>?_) (hk:=⟨(wrap_u64 (by omega)),trivial⟩);have S0:=S.E.size;refine anB S (some 8) (gW L.length _ (by omega)) ?_;rintro e u ⟨v8,rfl,Yz,E3⟩;refine⟨_,rfl,E3,fun ac S=>?_⟩;refine adr S 2 [] [(9,.slice a L.length cap),(10,.func (.func 36) #[.agg #[.z]] #[])] fun S=>Sx.I9 S (some 11) (PZ S.E (au Yz S0) h hok hB) ?_;rintro e u ⟨v11,rfl,J3,J4⟩;refine⟨_,rfl,J4,fun ac S=>?_⟩;refine adr S 1 [] [(4,v11)] fun S=>anu<|eP _ _<|anz S Tryz.results35 ?_;exact⟨_,rfl,J3,S.E⟩
theorem Hu{w:World}{n:aA}(h:fG K w n)(hg:gI w) :
  Calls Tryz.prog 16 #[n.v] w fun e w'=>∃v,e = .returned v∧OwnB w.heap.size w' v (if n.checkN=0 then fF false n.key else [])∧Ext w w':=by
 skip;refine anA Tryz.func16 Tryz.ntmps16 fun ac S=>anv fun _ aS=>anw S 1 n.cells fun ac u b2 E3 hb4 S=>adr S 1 [] [(2,.sn)] fun S=>anu<|aS _ _<|anV fun _ bM=>anv fun _ iL=>adr S 1 [.mem 0 0] [(3,n.v)] fun S=>anE S 4 (uw (h.below S.E) (hg.below S.E)) fun ac u E7 S=>adr S 1 [] [(5,.bool (!(n.checkN==0)))] fun S=>anu (iL _ _ ?_);refine anx S (fun hc8=>?_) (fun hc8=>?_)
 ·refine anv fun _ ig=>adr S 1 [] [(2,.sn)] fun S=>anu<|ig _ _<|an2 ?_;have hv:¬n.checkN=0:=by have:=hc8; simpa using this
  refine anD S Tryz.results16 ?_;exact⟨_,rfl,by rw[an0 hv]; exact ap5 _ _ _ _,S.E⟩
 refine anZ<|bM _ _<|anv fun _ eX=>adr S 2 [.mem 0 0] [(6,.agg #[.z]),(7,n.v)] (fun S=>?_);have hv:n.checkN=0:=by have:=hc8; simpa using this
 have S0:=S.E.size;refine anB S (some 8) (vW (pk:=false) (h.below S.E) (uU hv).acO (by have:=BG (pk:=false) (uU hv); omega)) ?_;rintro e u ⟨v9,rfl,ho9,wu⟩;refine⟨_,rfl,wu,fun ac S=>?_⟩;refine adr S 1 [] [(2,v9)] fun S=>anu<|eX _ _<|anz S Tryz.results16 ?_;exact⟨_,rfl,by rw[an6 hv]; exact au (ho9) S0,S.E⟩
def xM(base:Nat)(w:World)(s:jU)(v:Value)(er:Int):Prop:=(s.valid=true∧OwnB base w v (iF.app (xJ s))∧er=0)∨(s.valid=false∧v = .sn∧er=18)
theorem Ep{w:World}{s:dF}(h:kW K w s)(hg:gI w) :
  Calls Tryz.prog 12 #[s.v] w fun e w'=>∃v er,e = .returned (.tuple #[v,.i er])∧xM w.heap.size w' s.key v er∧Ext w w':=by
 skip;refine anA Tryz.func12 Tryz.ntmps12 fun ac S=>anv fun _ aS=>anw S 1 s.cells fun ac u b2 E3 hb4 S=>adr S 2 [] [(2,.sn),(3,.i 0)] fun S=>anu<|aS _ _<|anV fun _ bM=>anv fun _ iL=>adr S 1 [.mem 0 0] [(5,s.v)] fun S=>anE S 6 (D6 (h.below S.E) (gI.below hg S.E)) fun ac u E7 S=>adr S 1 [] [(7,.bool (!s.key.valid))] fun S=>anu (iL _ _ ?_);refine anx S (fun hc8=>?_) (fun hc8=>?_)
 ·refine anv fun _ ig=>adr S 2 [] [(2,.sn),(3,.i 18)] fun S=>anu<|ig _ _<|an2 ?_;have hv:s.key.valid=false:=by have:=hc8; simpa using this
  refine Sx.qZ S Tryz.results12 ?_;exact⟨_,_,rfl,.inr ⟨hv,rfl,rfl⟩,S.E⟩
 refine anZ<|bM _ _<|anv (fun _ eX=>?_);have hv:s.key.valid=true:=by have:=hc8; simpa using this
 have hB:([71,83,49]++bH [s.w,s.h]++Px.pb s.bg++gu (fF false) (s.ns.map aA.key)).length≤1000000000:=by have:=Dj hv; exact aoE this (by decide)
 rw[LW]at hB;have R:=aoz S;refine Sx.lit S 8 9 3 [.u 71,.u 83,.u 49] 49 5 Tryz.underlying49 Tryz.underlying5 fun{ac u b13} wu rV S=>adr S 4 [.mem 0 0,.mem 0 1] [(11,.i s.w),(13,.i s.h)] fun S=>anP S 14 2 [.i s.w,.i s.h] (fun ac u b14 Ez hb16 S=>?_);have S0:=S.E.size;refine anB S (some 15) (iC (L:=[s.w,s.h]) (Sx.iO (f:=fun x:Int => .i x) [s.w,s.h] (S.bx 0) (by simp[maxLen])) (kY.all (L:=[s.w,s.h]) ⟨h.1,h.2.1,trivial⟩) (by simp)) ?_;rintro e u ⟨v17,rfl,wL,Il⟩;refine⟨_,rfl,Il,fun ac S=>?_⟩;have hvn:0<(bH [s.w,s.h]).length:=by unfold bH; rw[apn,an5]; have h1:0<(En.dP 10 (En.zig s.w)).length:=En.xu 9 _; omega
 have hB3:=hB;simp only[an5]at hB3;obtain⟨R,Y20⟩:=R.aT S (an4 (aoc wu) (an4 (aoG Ez hb16) (aoc Il)));refine Sx.ab3 S R 16 nX ((fK.below rV (Ext.trans' Ez Il))) (jL (wL)) (by omega) (by omega) (by simp[maxLen]<;>omega) (by omega) (fun ac u v21 Yb X23 R S=>?_);have R:=R.as (show [(⟨5,1,v21,3+(bH [s.w,s.h]).length,[.u 71,.u 83,.u 49]++(bH [s.w,s.h]).map dY⟩:Sx.Row)]=[Sx.bR v21 ([71,83,49]++bH [s.w,s.h])] by unfold Sx.bR; rw[an5,aoL]; rfl);refine adr S 1 [] [(4,v21)] fun S=>anu<|eX _ _<|anv fun _ jY=>adr S 3 [.mem 1 2] [(17,v21),(19,.agg s.bg.cells.toArray)] fun S=>anB S (some 20) (rW (p:=s.bg)) ?_;rintro e u ⟨v20,rfl,ae9,Ap⟩;refine⟨_,rfl,Ap,fun ac S=>?_⟩;obtain⟨R,Y26⟩:=R.aT S (aoc Ap);refine anQ S R 21 (Px.pb s.bg) (jL (ae9)) (by simp only[an5]at hB ⊢; omega) fun ac u v27 X28 R S=>adr S 1 [] [(4,v27)] fun S=>anu<|jY _ _<|anv fun _ oP=>adr S 5 [.mem 1 6] [(22,v27),(24,s.s),(26,.func (.func 36) #[.agg #[.z]] #[])] fun S=>anB S (some 27) (P5 (h.2.2.1.below S.E) (fun n hn=>⟨(h.2.2.2 n hn).below S.E,(Af hv).2 n hn⟩) (by simp only[an5]at hB; omega)) ?_;rintro e u ⟨v27,rfl,afa,E30⟩;refine⟨_,rfl,E30,fun ac S=>?_⟩;obtain⟨R,Y31⟩:=R.aT S (aoc E30);refine anQ S R 28 (gu (fun n:aA=>fF false n.key) s.ns) (jL (afa)) (by simp only[an5]at hB ⊢; omega) fun ac u v32 X33 R S=>adr S 1 [] [(4,v32)] fun S=>anu<|oP _ _<|anv fun _ oQ=>adr S 1 [] [(29,v32)] (fun S=>?_);have hout:OwnB w.heap.size u v32 (xJ s.key):=uz (R.own _ aox) (by rw[←LW]; rfl);have S0:=S.E.size;refine anB S (some 30) (ug _ (xJ s.key) _ (kQ hout) (by have:=Dj hv; omega)) ?_;rintro e u ⟨v30,rfl,SI,J7⟩;refine⟨_,rfl,J7,fun ac S=>?_⟩;refine adr S 2 [] [(2,v30),(3,.i 0)] fun S=>anu<|oQ _ _<|Sx.Pq S Tryz.results12 ?_;exact⟨_,_,rfl,.inl ⟨hv,au (SI) S0,rfl⟩,S.E⟩
end Go.Proofs.YtapmgonflgahbaaGreatDoor
end
section
namespace Nb
theorem KC(l:List UInt8):∃n,n≤l.length∧val (l.take n)=val l∧(n=0∨∃h:n-1<l.length,l[n-1]≠0):=by
 have key:∀k,k≤l.length→val (l.take k)=val l→∃n,n≤l.length∧val (l.take n)=val l∧(n=0∨∃h:n-1<l.length,l[n-1]≠0):=by
  intro k;induction k with
  | zero=>intro hk hv; exact⟨0,hk,hv,.inl rfl⟩
  | succ k ih =>
   intro hk hv;by_cases h0:l[k]'(by omega)=0
   ·refine ih (by omega) ?_;rw[←hv,bU l k (by omega),h0]; simp
   exact⟨k+1,hk,hv,.inr ⟨by simp; omega,by simpa using h0⟩⟩
 exact key l.length (an7 _) (by rw[aoQ])
theorem zK(l:List UInt8):aj (val l)=l.take (aj (val l)).length∧(aj (val l)).length≤l.length ∧
  (∀j (h:j<l.length),(aj (val l)).length≤j→l[j]=0)∧(∀j (h:j<l.length),j+1=(aj (val l)).length→l[j]≠0):=by
 obtain⟨n,hn,hv,ht⟩:=KC l;have hd:=ku hn hv ht;have hl:(aj (val l)).length=n:=by rw[hd]; simp; omega
 rw[hl];refine⟨hd,hn,fun j h hj=>?_,fun j h hj=>?_⟩
 ·have h1:=gB l j (by omega);rw[oH l j h]at h1;have h2:=gB (l.take j) n (by simp; omega);rw[List.take_take,Nat.min_eq_left hj,hv]at h2;have h3:B^j*(l[j].toNat+B*val (l.drop (j+1)))=0:=by omega
  rcases Nat.mul_eq_zero.1 h3 with h4 | h4
  ·have:=Nat.pow_pos (n:=j) jV; omega
  exact aps.1 (by simp; omega)
 rcases ht with h0 | ⟨h1,h2⟩
 ·omega
 have e:n-1=j:=by omega
 simp only[e]at h2;exact h2
theorem XF(l:List UInt32):∀(q r:Nat) (h:q<l.length),r<4→(bytes l)[4*q+r]?=some (UInt8.ofNat (l[q].toNat/256^r)):=by
 induction l with
 | nil=>intro q r h; simp at h
 | cons d l ih =>
  intro q r h hr;have e:bytes (d::l)=le4 d++bytes l:=by simp[bytes]
  rw[e];cases q with
  | zero =>
   rw[List.getElem?_append_left (by simp[le4]; omega)];have hd:=d.toNat_lt;rcases r with _ | _ | _ | _ | r
   ·simp[le4]
   ·simp[le4]; apply aps.1; simp[UInt32.toNat_shiftRight,Nat.shiftRight_eq_div_pow]
   ·simp[le4]; apply aps.1; simp[UInt32.toNat_shiftRight,Nat.shiftRight_eq_div_pow]
   ·simp[le4]; apply aps.1; simp[UInt32.toNat_shiftRight,Nat.shiftRight_eq_div_pow]
   omega
  | succ q =>
   rw[List.getElem?_append_right (by simp[le4]; omega)];have e2:4*(q+1)+r-(le4 d).length=4*q+r:=by simp[le4]; omega
   rw[e2,ih q r (by simpa using h) hr];simp
end Nb
namespace Go.Proofs.YtapmgonflgahbaaGreatDoor
open Go.RowKit
variable{α:Type}
end Go.Proofs.YtapmgonflgahbaaGreatDoor
end
namespace Go.Proofs.YtapmgonflgahbaaGreatDoor
section
open Go.RowKit
variable{α:Type}
theorem dg8(n:Nat):(n:Int)%256=((UInt8.ofNat n).toNat:Int):=by simp
set_option maxRecDepth 100000 in
set_option maxHeartbeats 1600000 in
theorem oN(v:Value)(l:List UInt32)(w:World)(hv:aF w v l)(hl:l.length≤1000000) :
  Calls Tryz.prog 224 #[v] w fun e w'=>∃v',e = .returned v'∧bI w' v' (Nb.aj (Na.val l))∧Ext w w':=by
 have HV:=anU hv;obtain⟨a1,c1,rfl⟩:=hv.shape;have HBL:=anU (Nb.Jl l);have akb:=anU (Nb.XF l);clear hv;go_enter Tryz.func224,Tryz.ntmps224
 go_wp2_with fail
 go_loopw [3,4] (fun g iv wr=>∃i:Nat,iv = .i i∧i≤4*l.length∧wr.ownsRow w.heap.size 5 1 g i (((Nb.bytes l).take i).map dY)∧Ext w wr) (fun _ iv _=>4*l.length-(intOf iv).toNat)
 case atStart=>exact⟨0,rfl,aoa _,apf w #[] 0 (an7 _) (aoa _) rfl,aG _ _⟩
 case round =>
  obtain⟨i,rfl,hi,hown,hbel⟩:=hrel;have hsz:w.heap.size≤wr.heap.size:=hbel.size;have h63:i+1≤maxLen:=by unfold maxLen; omega
  have hby:(i+1)*1≤140737488355328:=by omega
  by_cases hlt:i<4*l.length
  ·have ang:(i:Int)<4*(l.length:Int):=by omega
   obtain⟨q,r,hqr,hr4⟩:∃q r,i=4*q+r∧r<4:=⟨i/4,i%4,by omega,by omega⟩;have hq:(i:Int)/4=(q:Int):=by omega
   have hql:q<l.length:=by omega
   obtain⟨bx,ox,cx,hxs,hbx,hlx,hmx,hcx⟩:=dK HV.out rfl (by omega);simp only[aoB]at hxs;obtain⟨rfl,-,-⟩:=hxs;have hck:wr.cell? ⟨bx,ox+q,none⟩=some (aY l[q]):=by rw[hbel.cell (p:=⟨bx,ox+q,none⟩) hbx]; exact hcx q hql
   have hget:=akb.out q r hql hr4;rw[←hqr]at hget;have hiB:i<(Nb.bytes l).length:=by rw[HBL.out]; exact hlt
   have hsn:=take_snoc (Nb.bytes l) i hiB;rw[List.getElem?_eq_getElem hiB]at hget;rw[aof hget]at hsn;obtain⟨c,hc⟩:∃c,UInt8.ofNat (l[q].toNat/256^r)=c:=⟨_,rfl⟩;rw[hc]at hsn;have hxl:=l[q].toNat_lt;have hval:((l[q].toNat/256^r:Nat):Int)%256=(c.toNat:Int):=by rw[dg8,hc]
   have HSN:=anU hsn;generalize l[q]=x at *;have hr:=jr wr (dY c) 5 rfl;have hown':=hown.alloc (.cells #[dY c] 5);have hsz':w.heap.size≤(wr.alloc (.cells #[dY c] 5)).heap.size:=by simp; omega
   have hcase:Hid (((i:Int)%4=0∧(x.toNat:Int)%256=(c.toNat:Int))∨((i:Int)%4=1∧(x.toNat:Int)/256%256=(c.toNat:Int))∨((i:Int)%4=2∧(x.toNat:Int)/65536%256=(c.toNat:Int))∨((i:Int)%4=3∧(x.toNat:Int)/16777216=(c.toNat:Int))):=by
    show _∨_;rcases r with _ | _ | _ | _ | r
    ·left; refine⟨by omega,?_⟩; rw[←hval]; simp
    ·right; left; refine⟨by omega,?_⟩; rw[←hval]; simp
    ·right; right; left; refine⟨by omega,?_⟩; rw[←hval]; simp
    ·right; right; right; refine⟨by omega,?_⟩; rw[←hval]; simp; omega
    omega
   clear hown hcx hget hsn hc hval hqr hr4 hiB;rcases hcase.out with ⟨hm,hcv⟩ | ⟨hm,hcv⟩ | ⟨hm,hcv⟩ | ⟨hm,hcv⟩;all_goals
    go_wp2_with (at_builtin; refine aQ rfl _ _ _ rfl nX w.heap.size hown' rfl hr rfl h63 hby hsz' ?_; intro v2 w2 hown2 hg)
    go_roundw
    case rel =>
     refine⟨i+1,by go_num,by omega,?_,(hbel.alloc hsz _).grown hg hsz' (fun k hk=>(World.ownsRow.lt hown' k hk).1)⟩
     rw[HSN.out,aoL]; exact hown2
    case measure=>simp[intOf]; omega
  obtain rfl:i=4*l.length:=by omega
  have hge:¬(4*(l.length:Int))<4*(l.length:Int):=by omega
  have htk:(Nb.bytes l).take (4*l.length)=Nb.bytes l:=aou (by rw[HBL.out]; exact an7 _);rw[htk]at hown;have hrow:=oJ HBL.out hown;obtain⟨d1,d2,d3,d4⟩:=Nb.zK (Nb.bytes l);rw[Nb.Jm]at d1 d2 d3 d4;obtain⟨K,hK⟩:∃K,(Nb.aj (Na.val l)).length=K:=⟨_,rfl⟩;rw[hK]at d1 d2 d3 d4;obtain⟨L,hL⟩:∃L,Nb.bytes l=L:=⟨_,rfl⟩;have hlL:L.length=4*l.length:=by rw[←hL]; exact HBL.out
  rw[hL]at d1 d2 hrow;have d3':∀j (h:j<L.length),K≤j→L[j]=0:=by subst hL; exact d3
  have d4':∀j (h:j<L.length),j+1=K→L[j]≠0:=by subst hL; exact d4
  have D:=anU (And.intro d1 (And.intro d3' d4'));have afy:=anU hrow;have HLL:=anU hlL;obtain⟨ga,gc,rfl⟩:=BH hown;have hKL:K≤4*l.length:=by omega
  clear d1 d2 d3 d4 d3' d4' hrow hlL hL hown hK htk;go_wp2_with fail
  obtain⟨wo,rfl⟩:∃wo:World,wo=wr:=⟨_,rfl⟩;go_loopw [3] (fun bv wr=>∃k:Nat,K≤k∧k≤4*l.length∧bv = .slice ga k gc∧Ext wo wr) (fun bv _=>match bv with | .slice _ n _=>n | _=>0)
  case atStart=>exact⟨4*l.length,hKL,an7 _,by simp,aor _ _⟩
  case round =>
   obtain⟨k,hk1,hk2,rfl,hb2⟩:=hrel;by_cases hkK:K<k
   ·obtain⟨j,rfl⟩:∃j,k=j+1:=⟨k-1,by omega⟩;obtain⟨bg,og,cg,hsh,hbg,hlg,hmg,hcg⟩:=dK afy.out HLL.out (by omega);simp only[aoB,true_and]at hsh;obtain⟨rfl,rfl⟩:=hsh;have hjl:j<L.length:=by rw[HLL.out]; omega
    have hck:wr.cell? ⟨bg,og+j,none⟩=some (dY L[j]):=by rw[hb2.cell (p:=⟨bg,og+j,none⟩) hbg]; exact hcg j hjl
    rw[D.out.2.1 j hjl (by omega)]at hck;have hjg:j≤gc:=by omega
    have anh:j+1≤gc:=by omega
    clear hcg;go_wp2_with fail
    go_roundw
    case rel=>exact⟨j,by omega,by omega,rfl,hb2⟩
    case measure=>simp
   obtain rfl:k=K:=by omega
   have hres:Hid (bI wr (.slice ga k gc) (Nb.aj (Na.val l))):=by
    show dS _ _ _ _;rw[D.out.1];have h1:=afy.out.below hb2;rw[←HLL.out]at h1;have h2:=h1;obtain⟨a',cp',hv',hm',h'⟩:=h2;simp only[aoB,true_and]at hv';obtain⟨rfl,rfl⟩:=hv';refine Aq h1 (by rw[HLL.out]; exact hk2) ?_ hm' ?_
    ·rcases h' with ⟨h0,_⟩ | ⟨_,_,_,_,h0,_⟩
     ·have:=HLL.out; rw[h0]at this; simp at this; omega
     have:=HLL.out; omega
    intro hn;rcases h' with ⟨_,h0⟩ | ⟨_,_,hs,_⟩
    ·exact h0 hn
    rw[hn]at hs; cases hs
   have HEX:=anU (Ext.trans' hbel hb2);rcases k with _ | j
   ·go_wp2_with fail
    go_ret
    exact⟨_,rfl,hres.out,HEX.out⟩
   obtain⟨bg,og,cg,hsh,hbg,hlg,hmg,hcg⟩:=dK afy.out HLL.out (by omega);simp only[aoB,true_and]at hsh;obtain⟨rfl,rfl⟩:=hsh;have hjl:j<L.length:=by rw[HLL.out]; omega
   have hck:wr.cell? ⟨bg,og+j,none⟩=some (dY L[j]):=by rw[hb2.cell (p:=⟨bg,og+j,none⟩) hbg]; exact hcg j hjl
   have hz:((L[j].toNat:Int)==0)=false:=by
    rw[aog]; intro e; exact D.out.2.2 j hjl rfl (aps.1 (by simp; omega))
   clear hcg;go_wp2_with fail
   go_ret
   exact⟨_,rfl,hres.out,HEX.out⟩
end
section
open Go.RowKit En
variable{α:Type}
set_option maxRecDepth 100000 in
set_option maxHeartbeats 800000 in
theorem kK(v:Value)(l:List UInt8)(w:World)(hv:bI w v l)(hlen:l.length≤1000000000) :
  Calls Tryz.prog 162 #[v] w fun e w'=>∃v',e = .returned v'∧OwnB w.heap.size w' v' (jH l)∧Ext w w':=by
 have HP:=anU (oz l.length w (by omega));have HV:=anU hv;obtain⟨a,cap,rfl⟩:=hv.shape;have MS:=iE 10 l.length;clear hv;go_enter Tryz.func162,Tryz.ntmps162
 go_wp2_with fail
 refine HP.out.mono ?_;rintro e w1 ⟨v',rfl,ho,hb⟩;have HO:=anU ho;have HB:=anU hb;clear ho hb HP;go_wp2_with fail
 go_loopw [3,4] (fun g i wr=>∃k:Nat,i = .i k∧k≤l.length∧wr.ownsRow w.heap.size 5 1 g ((dP 10 l.length).length+k) ((dP 10 l.length++l.take k).map dY)∧Ext w wr) (fun _ i _=>l.length-(intOf i).toNat)
 case atStart=>exact⟨0,rfl,aoa _,by simpa using HO.out,HB.out⟩
 case round =>
  obtain⟨k,rfl,hk,hown,hbel⟩:=hrel;by_cases hlt:k<l.length
  ·obtain⟨b,o,c,hsv,hbb,hlc,hm,hc⟩:=dK HV.out rfl (by omega);simp only[aoB]at hsv;obtain⟨rfl,-,-⟩:=hsv;have hck:wr.cell? ⟨b,o+k,none⟩=some (dY l[k]):=by rw[hbel.cell (p:=⟨b,o+k,none⟩) hbb]; exact hc k hlt
   clear hc;have HT:Hid (dP 10 l.length++l.take (k+1)=(dP 10 l.length++l.take k)++[l[k]]):=by show _=_; rw[take_snoc l k hlt,aoU]
   have hr:=jr wr (dY l[k]) 5 rfl;have hown':=hown.alloc (.cells #[dY l[k]] 5);have hsz:w.heap.size≤wr.heap.size:=hbel.size;have hsz':w.heap.size≤(wr.alloc (.cells #[dY l[k]] 5)).heap.size:=by simp; omega
   have h63:(dP 10 l.length).length+k+1≤maxLen:=by unfold maxLen; omega
   have hby:((dP 10 l.length).length+k+1)*1≤140737488355328:=by omega
   clear hown;go_wp2_with (at_builtin; refine aQ rfl _ _ _ rfl nX w.heap.size hown' rfl hr rfl h63 hby hsz' ?_; intro v2 w2 hown2 hg)
   go_roundw
   case rel =>
    refine⟨k+1,by go_num,by omega,?_,(hbel.alloc hsz _).grown hg hsz' (fun k hk=>(World.ownsRow.lt hown' k hk).1)⟩;rw[HT.out,aoL]; exact hown2
   case measure=>simp[intOf]; omega
  obtain rfl:k=l.length:=by omega
  rw[aoQ]at hown;go_wp2_with fail
  go_ret
  refine⟨_,rfl,?_,hbel⟩;unfold OwnB jH;rw[an5]; exact hown
end
section
open Go.RowKit En
variable{α:Type}
theorem BI{base:Nat}{w:World}{v:Value}{A B:List UInt8}{n m:Nat}(hn:n=A.length)(hm:m=B.length)(h:w.ownsRow base 5 1 v (n+m) (A.map dY++B.map dY)):w.ownsRow base 5 1 v (A++B).length ((A++B).map dY):=by
 subst hn hm;rw[an5,aoL]; exact h
set_option maxRecDepth 100000 in
set_option maxHeartbeats 3200000 in
theorem iK(n1 n2:Bool)(s1 s2:Value)(l m:List UInt32)(w:World)(h1:aF w s1 l)(h2:aF w s2 m)(hl1:l.length≤500000)(hl2:m.length≤500000) :
  Calls Tryz.prog 160 #[.agg #[.bool n1,s1,.bool n2,s2]] w fun e w'=>∃v,e = .returned v∧OwnB w.heap.size w' v (l9 (nrm n1 n2 (Na.val l) (Na.val m)))∧Ext w w':=by
 have hln:=LX n1 n2 l m;have hb0:=aG w (.cells #[.bool n1,s1,.bool n2,s2] 31);have HC:=anU (qU n1 n2 s1 s2 l m _ (h1.below hb0) (h2.below hb0) (by omega) (by omega));have HB0:=anU hb0;obtain⟨a1,c1,rfl⟩:=h1.shape;obtain⟨a2,c2,rfl⟩:=h2.shape;generalize nrm n1 n2 (Na.val l) (Na.val m)=r at *;obtain⟨ng,a,b⟩:=r;simp only at hln;have hqa:=Dl a;have hqb:=Dl b;have hua:=iE 10 (Nb.aj a).length;have hub:=iE 10 (Nb.aj b).length;have hpa:(jH (Nb.aj a)).length≤10+4*500000:=by unfold jH; rw[an5]; omega
 have hpb:(jH (Nb.aj b)).length≤10+4*500001:=by unfold jH; rw[an5]; omega
 clear h1 h2 hb0;rcases aqg ng with rfl | rfl
 ·go_enter Tryz.func160,Tryz.ntmps160
  go_wp2_with fail
  refine HC.out.mono ?_;rintro e w1 ⟨x,rfl,hx,hb1⟩;obtain⟨b1,d1,b2,d2,rfl⟩:=hx.shape;obtain⟨hA,hB,-,-⟩:=hx.parts;have hb1':=Ext.trans' HB0.out hb1;have hW1:=aG w1 (.cells #[.bool true,.slice b1 (Na.aj a).length d1,.z,.slice b2 (Na.aj b).length d2] 31);have hW2:=hW1.alloc (by simp) (.cells #[.u 1] 5);have hown:=apf (base:=w.heap.size) (e:=5) (size:=1) (w1.alloc (.cells #[.bool true,.slice b1 (Na.aj a).length d1,.z,.slice b2 (Na.aj b).length d2] 31)) #[.u 1] 1 (by have:=hb1'.size; simp; omega) (by unfold maxLen; omega) rfl;simp only[aqc]at hown;have HOWN:=anU hown;have aaU:=anU hW2;have afz:=anU hb1';have Hw:=anU (oN (.slice b1 (Na.aj a).length d1) (Na.aj a) _ (hA.below hW2) (by omega));rw[Na.aJ]at Hw;have HW:=anU (Ext.trans' hb1' hW2);have HBB:=anU hB;have HK:Hid (∀w',Ext ((w1.alloc (.cells #[.bool true,.slice b1 (Na.aj a).length d1,.z,.slice b2 (Na.aj b).length d2] 31)).alloc (.cells #[.u 1] 5)) w'→w'.cell? ⟨w1.heap.size,2,none⟩=some (.z)∧w'.cell? ⟨w1.heap.size,3,none⟩=some (.slice b2 (Na.aj b).length d2)):=by
   intro w' hw';obtain⟨-,-,k2,k3,-,-⟩:=Hr (Ext.trans' (aG _ _) hw');exact⟨k2,k3⟩
  clear hx hb1 hA hB hW1 hW2 hown hb1' HC;go_wp2_with fail
  refine Hw.out.mono ?_;rintro e w2 ⟨y,rfl,hy,hb2⟩;have HP:=anU (kK y _ w2 hy (by omega));have HB2:=anU hb2;obtain⟨ya,yc,rfl⟩:=hy.shape;clear hy hb2 Hw;go_wp2_with fail
  refine HP.out.mono ?_;rintro e w3 ⟨z,rfl,hz,hb3⟩;have hE3:=Ext.trans' HB2.out hb3;have hown0:=aK HOWN.out hE3;have hr0:=(aU hz).raw (fun _=>rfl);have Tc:=Ext.trans' HW.out hE3;have hs0:=Tc.size;have h63:1+(jH (Nb.aj a)).length≤maxLen:=by unfold maxLen; omega
  have hby:(1+(jH (Nb.aj a)).length)*1≤140737488355328:=by omega
  have HE3:=anU hE3;have akc:=anU Tc;clear hz hb3 hE3 Tc HP;go_wp2_with (at_builtin; refine aQ rfl _ _ _ rfl nX w.heap.size hown0 rfl hr0 rfl h63 hby hs0 ?_; intro v4 w4 hown4 hg; obtain⟨k2,k3⟩:=HK.out w3 HE3.out; have k2':=hg.cell k2 (by simp[Value.ownBlock]); have k3':=hg.cell k3 (by simp[Value.ownBlock]))
  have Td:=(Ext.trans' aaU.out HE3.out).grown hg (Ext.trans' aaU.out HE3.out).size (by intro k hk; simp[Value.ownBlock]at hk; omega);have hO4:w4.ownsRow w.heap.size 5 1 v4 ([1]++jH (Nb.aj a)).length (([1]++jH (Nb.aj a)).map dY):=BI (A:=[1]) rfl rfl hown4;have HO4:=anU hO4;have hBS:=oN (.slice b2 (Na.aj b).length d2) (Na.aj b) _ (HBB.out.below Td) (by omega);rw[Na.aJ]at hBS;have HBS:=anU hBS;have HE4:=anU (Ext.trans' afz.out Td);clear hown0 hr0 hown4 hg Td hO4 hBS;go_wp2_with fail
  refine HBS.out.mono ?_;rintro e w5 ⟨y5,rfl,hy,hb5⟩;have HP:=anU (kK y5 _ w5 hy (by omega));have HB5:=anU hb5;obtain⟨ya,yc,rfl⟩:=hy.shape;clear hy hb5 HBS k2' k3';go_wp2_with fail
  refine HP.out.mono ?_;rintro e w6 ⟨z,rfl,hz,hb6⟩;have Tf:=Ext.trans' HB5.out hb6;have hown0:=aK HO4.out Tf;have hr0:=(aU hz).raw (fun _=>rfl);have hE6:=Ext.trans' HE4.out Tf;have hs0:=hE6.size;have h63:([1]++jH (Nb.aj a)).length+(jH (Nb.aj b)).length≤maxLen:=by unfold maxLen; rw[an5]; simp; omega
  have hby:(([1]++jH (Nb.aj a)).length+(jH (Nb.aj b)).length)*1≤140737488355328:=by rw[an5]; simp; omega
  have HE6:=anU hE6;clear hz hb6 Tf hE6 HP;go_wp2_with (at_builtin; refine aQ rfl _ _ _ rfl nX w.heap.size hown0 rfl hr0 rfl h63 hby hs0 ?_; intro v7 w7 P6 hg)
  have HE7:=anU (HE6.out.grown hg hs0 (fun k hk=>(World.ownsRow.lt hown0 k hk).1));have hO7:=BI rfl rfl P6;clear P6 hg;go_wp2_with fail
  go_ret
  refine⟨_,rfl,?_,HE7.out⟩;unfold OwnB l9;simpa using hO7
 go_enter Tryz.func160,Tryz.ntmps160
 go_wp2_with fail
 refine HC.out.mono ?_;rintro e w1 ⟨x,rfl,hx,hb1⟩;obtain⟨b1,d1,b2,d2,rfl⟩:=hx.shape;obtain⟨hA,hB,-,-⟩:=hx.parts;have hb1':=Ext.trans' HB0.out hb1;have hW1:=aG w1 (.cells #[.z,.slice b1 (Na.aj a).length d1,.z,.slice b2 (Na.aj b).length d2] 31);have hW2:=hW1.alloc (by simp) (.cells #[.u 0] 5);have hown:=apf (base:=w.heap.size) (e:=5) (size:=1) (w1.alloc (.cells #[.z,.slice b1 (Na.aj a).length d1,.z,.slice b2 (Na.aj b).length d2] 31)) #[.u 0] 1 (by have:=hb1'.size; simp; omega) (by unfold maxLen; omega) rfl;simp only[aqc]at hown;have HOWN:=anU hown;have aaU:=anU hW2;have afz:=anU hb1';have Hw:=anU (oN (.slice b1 (Na.aj a).length d1) (Na.aj a) _ (hA.below hW2) (by omega));rw[Na.aJ]at Hw;have HW:=anU (Ext.trans' hb1' hW2);have HBB:=anU hB;have HK:Hid (∀w',Ext ((w1.alloc (.cells #[.z,.slice b1 (Na.aj a).length d1,.z,.slice b2 (Na.aj b).length d2] 31)).alloc (.cells #[.u 0] 5)) w'→w'.cell? ⟨w1.heap.size,2,none⟩=some (.z)∧w'.cell? ⟨w1.heap.size,3,none⟩=some (.slice b2 (Na.aj b).length d2)):=by
  intro w' hw';obtain⟨-,-,k2,k3,-,-⟩:=Hr (Ext.trans' (aG _ _) hw');exact⟨k2,k3⟩
 clear hx hb1 hA hB hW1 hW2 hown hb1' HC;go_wp2_with fail
 refine Hw.out.mono ?_;rintro e w2 ⟨y,rfl,hy,hb2⟩;have HP:=anU (kK y _ w2 hy (by omega));have HB2:=anU hb2;obtain⟨ya,yc,rfl⟩:=hy.shape;clear hy hb2 Hw;go_wp2_with fail
 refine HP.out.mono ?_;rintro e w3 ⟨z,rfl,hz,hb3⟩;have hE3:=Ext.trans' HB2.out hb3;have hown0:=aK HOWN.out hE3;have hr0:=(aU hz).raw (fun _=>rfl);have Tc:=Ext.trans' HW.out hE3;have hs0:=Tc.size;have h63:1+(jH (Nb.aj a)).length≤maxLen:=by unfold maxLen; omega
 have hby:(1+(jH (Nb.aj a)).length)*1≤140737488355328:=by omega
 have HE3:=anU hE3;have akc:=anU Tc;clear hz hb3 hE3 Tc HP;go_wp2_with (at_builtin; refine aQ rfl _ _ _ rfl nX w.heap.size hown0 rfl hr0 rfl h63 hby hs0 ?_; intro v4 w4 hown4 hg; obtain⟨k2,k3⟩:=HK.out w3 HE3.out; have k2':=hg.cell k2 (by simp[Value.ownBlock]); have k3':=hg.cell k3 (by simp[Value.ownBlock]))
 have Td:=(Ext.trans' aaU.out HE3.out).grown hg (Ext.trans' aaU.out HE3.out).size (by intro k hk; simp[Value.ownBlock]at hk; omega);have hO4:w4.ownsRow w.heap.size 5 1 v4 ([0]++jH (Nb.aj a)).length (([0]++jH (Nb.aj a)).map dY):=BI (A:=[0]) rfl rfl hown4;have HO4:=anU hO4;have hBS:=oN (.slice b2 (Na.aj b).length d2) (Na.aj b) _ (HBB.out.below Td) (by omega);rw[Na.aJ]at hBS;have HBS:=anU hBS;have HE4:=anU (Ext.trans' afz.out Td);clear hown0 hr0 hown4 hg Td hO4 hBS;go_wp2_with fail
 refine HBS.out.mono ?_;rintro e w5 ⟨y5,rfl,hy,hb5⟩;have HP:=anU (kK y5 _ w5 hy (by omega));have HB5:=anU hb5;obtain⟨ya,yc,rfl⟩:=hy.shape;clear hy hb5 HBS k2' k3';go_wp2_with fail
 refine HP.out.mono ?_;rintro e w6 ⟨z,rfl,hz,hb6⟩;have Tf:=Ext.trans' HB5.out hb6;have hown0:=aK HO4.out Tf;have hr0:=(aU hz).raw (fun _=>rfl);have hE6:=Ext.trans' HE4.out Tf;have hs0:=hE6.size;have h63:([0]++jH (Nb.aj a)).length+(jH (Nb.aj b)).length≤maxLen:=by unfold maxLen; rw[an5]; simp; omega
 have hby:(([0]++jH (Nb.aj a)).length+(jH (Nb.aj b)).length)*1≤140737488355328:=by rw[an5]; simp; omega
 have HE6:=anU hE6;clear hz hb6 Tf hE6 HP;go_wp2_with (at_builtin; refine aQ rfl _ _ _ rfl nX w.heap.size hown0 rfl hr0 rfl h63 hby hs0 ?_; intro v7 w7 P6 hg)
 have HE7:=anU (HE6.out.grown hg hs0 (fun k hk=>(World.ownsRow.lt hown0 k hk).1));have hO7:=BI rfl rfl P6;clear P6 hg;go_wp2_with fail
 go_ret
 refine⟨_,rfl,?_,HE7.out⟩;unfold OwnB l9;simpa using hO7
end
end Go.Proofs.YtapmgonflgahbaaGreatDoor
