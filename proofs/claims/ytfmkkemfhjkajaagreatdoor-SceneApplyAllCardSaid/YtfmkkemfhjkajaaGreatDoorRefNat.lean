/- Walks of the reference on natural numbers: Normalize, Digit, Cmp. -/
import Derived.Test.YtfmkkemfhjkajaaGreatDoorNatW2
import Derived.Test.YtfmkkemfhjkajaaGreatDoorNat
import Derived.Test.YtfmkkemfhjkajaaGreatDoorBase
set_option maxHeartbeats 3200000
set_option maxRecDepth 100000
namespace Go.Proofs.YtfmkkemfhjkajaaGreatDoor
open Go.RowKit
variable{α:Type}
set_option linter.unusedVariables false
abbrev ED (base:Nat)(w:World)(v:Value)(l:List UInt32):Prop:=w.ownsRow base 194 1 v l.length (l.map aU)
theorem dD(v:Value)(l:List UInt32)(w:World)(hv:aC w v l)(hlen:l.length≤1000000000) :
  Calls Tryz.prog 234 #[v] w fun e w'=>∃v',e = .returned v'∧ED w.heap.size w' v' (Na.au (Na.val l))∧Ext w w':=by
 obtain⟨hd,hK,hz,ht⟩:=Na.SQ l;have hdl:(Na.au (Na.val l)).length≤l.length:=hK;generalize hK0:(Na.au (Na.val l)).length=K at *;have HV:=Lib.hid hv;have HD:=Lib.hid hd;have HZ:=Lib.hid hz;have HT:=Lib.hid ht;obtain⟨a,cap,rfl⟩:=hv.shape;clear hv hd hz ht hK0;go_enter Tryz.func234,Tryz.ntmps234
 go_wp2_with fail
 go_loop [3] (fun i=>∃k:Nat,K≤k∧k≤l.length∧i = .i k) (fun i=>(intOf i).toNat)
 case atStart=>exact⟨l.length,hK,Nat.le_refl _,rfl⟩
 case round =>
  obtain⟨k,hk1,hk2,rfl⟩:=hrel;by_cases hkK:K<k
  ·obtain⟨j,rfl⟩:∃j,k=j+1:=⟨k-1,by omega⟩;obtain⟨b,o,c,hsv,hbb,hlc,hm,hc⟩:=eY HV.out rfl (by omega);simp only[Value.slice.injEq]at hsv;obtain⟨rfl,-,-⟩:=hsv;have hck:=hc j (by omega);rw[HZ.out j (by omega) (by omega)]at hck;clear hc;go_wp2
   go_round
   case rel=>exact⟨j,by omega,by omega,by go_num⟩
   case measure=>simp[intOf]
  obtain rfl:k=K:=by omega
  clear hkK hk1;obtain⟨D,HD1,Y1,HG⟩:∃D:List UInt32,Hid (Na.au (Na.val l)=D)∧Hid (D.length=k)∧Hid (∀i (h:i<D.length) (h2:i<l.length),D[i]=l[i]):=
   ⟨l.take k,HD.out,by show _=_; simp; omega,fun i h h2=>by simp⟩
  have hDl:D.length≤1000000000:=by rw[Y1.out]; omega
  clear HD;rcases k with _ | j;case' succ =>
   obtain⟨b,o,c,hsv,hbb,hlc,hm,hc⟩:=eY HV.out rfl (by omega);simp only[Value.slice.injEq]at hsv;obtain⟨rfl,-,-⟩:=hsv;have hck:=hc j (by omega);clear hc;have hzb:((l[j].toNat:Int)==0)=false:=by
    rw[beq_eq_false_iff_ne]; intro e; exact HT.out j (by omega) rfl (UInt32.toNat_inj.1 (by simp; omega))
  all_goals
   go_wp2_with fail
   go_loopw [4,5] (fun g i wr=>∃q:Nat,i = .i q∧q≤D.length∧wr.ownsRow w.heap.size 194 1 g q ((D.take q).map aU)∧Ext w wr) (fun _ i _=>D.length-(intOf i).toNat)
   case atStart=>exact⟨0,rfl,Nat.zero_le _,World.ownsRow_lit w #[] 0 (Nat.le_refl _) (Nat.zero_le _) rfl,aT _ _⟩
   case round =>
    obtain⟨q,rfl,hq,hown,hbel⟩:=hrel
    by_cases hlt:q<D.length
    ·have hlt2:=Nat.lt_of_lt_of_eq hlt Y1.out
     try exact absurd hlt2 (Nat.not_lt_zero _)
     all_goals
      have hlt3:q<l.length:=by omega
      obtain⟨b,o,c,hsv,hbb,hlc,hm,hc⟩:=eY HV.out rfl (by omega)
      simp only[Value.slice.injEq]at hsv
      obtain⟨hsv,-,-⟩:=hsv
      first | cases hsv | skip
      have aj7:wr.cell? ⟨b,o+q,none⟩=some (aU D[q]):=by rw[hbel.cell (p:=⟨b,o+q,none⟩) hbb,HG.out q hlt hlt3]; exact hc q hlt3
      clear hc
      have HS:Hid (D.take (q+1)=D.take q++[D[q]]):=take_snoc D q hlt
      have hr:=nY wr (aU D[q]) 194 rfl
      have hown':=hown.alloc (.cells #[aU D[q]] 194)
      have hsz:w.heap.size≤wr.heap.size:=hbel.size
      have hsz':w.heap.size≤(wr.alloc (.cells #[aU D[q]] 194)).heap.size:=by simp; omega
      have h63:q+1≤maxLen:=by unfold maxLen; omega
      have hby:(q+1)*4≤140737488355328:=by omega
      clear hown
      go_wp2_with (at_builtin; refine dL rfl _ _ _ rfl kQ w.heap.size hown' rfl hr rfl h63 hby hsz' ?_; intro v2 w2 hown2 hg)
      go_roundw
      case rel =>
       refine⟨q+1,by go_num,by omega,?_,(hbel.alloc hsz _).grown hg hsz' (fun k hk=>(World.ownsRow.lt hown' k hk).1)⟩
       rw[HS.out,List.map_append]; exact hown2
      case measure=>simp[intOf]; omega
    ·obtain rfl:q=D.length:=by omega
     have hge:=Nat.le_of_eq Y1.out.symm
     rw[List.take_length]at hown
     go_wp2_with fail
     go_ret
     exact⟨_,rfl,by rw[HD1.out]; exact hown,hbel⟩
theorem iH(v:Value)(l:List UInt32)(i:Nat)(w:World)(hv:aC w v l)(hi:i≤9223372036854775807) :
  Calls Tryz.prog 270 #[v,.i i] w fun e w'=>e = .returned (.int .u64 ((l.getD i 0).toNat:Int))∧w=w':=by
 obtain⟨a,cap,rfl,hm,ha⟩:=hv;have hl:=KD hm ha;have HA:=Lib.hid ha;clear ha;have h0:¬(i:Int)<0:=by omega
 by_cases hlt:i<l.length
 ·rcases HA.out with ⟨rfl,_⟩ | ⟨b,o,rfl,hb,hlc,hc⟩
  ·simp at hlt
  have hck:=hc i hlt;clear hc;have e:l.getD i 0=l[i]:=by simp[List.getD,List.getElem?_eq_getElem hlt]
  rw[e];go_enter Tryz.func270,Tryz.ntmps270
  go_wp2
  go_ret
  exact⟨dX (fO _),rfl⟩
 have e:l.getD i 0=0:=by simp[List.getD,List.getElem?_eq_none (Nat.le_of_not_lt hlt)]
 rw[e];go_enter Tryz.func270,Tryz.ntmps270
 go_wp2
 go_ret
 exact⟨rfl,rfl⟩
theorem Ak(v u:Value)(l m:List UInt32)(w:World)(hv:aC w v l)(hu:aC w u m) :
  Calls Tryz.prog 271 #[v,u] w fun e w'=>e = .returned (.i (tK (Na.val l) (Na.val m)))∧Ext w w':=by
 have hl:=hv.len;have hm:=hu.len;unfold maxLen at hl hm;have HV:=Lib.hid hv;have HU:=Lib.hid hu;obtain⟨a1,c1,rfl⟩:=hv.shape;obtain⟨a2,c2,rfl⟩:=hu.shape;clear hv hu;obtain⟨M,hM⟩:∃M,M=max l.length m.length:=⟨_,rfl⟩;have hmax:max (l.length:Int) (m.length:Int)=(M:Int):=by omega
 have hM1:M≤9223372036854775807:=by omega
 have HE:Hid (Na.val (l.drop M)=Na.val (m.drop M)):=by
  show _=_;rw[List.drop_eq_nil_of_le (by omega),List.drop_eq_nil_of_le (by omega)]
 clear hM;go_enter Tryz.func271,Tryz.ntmps271
 go_wp2_with fail
 clear hmax;go_loopw [5] (fun i wr=>∃k:Nat,k≤M∧i = .i ((k:Int)-1)∧Na.val (l.drop k)=Na.val (m.drop k)∧Ext w wr) (fun i _=>(intOf i+1).toNat)
 case atStart=>exact⟨M,Nat.le_refl _,rfl,HE.out,Below.refl _ _⟩
 case round =>
  obtain⟨k,hk,rfl,hd,hbel⟩:=hrel;have HDr:=Lib.hid hd;clear hd;cases k with
  | zero =>
   have hr:=Lib.hid (Ve (show Na.val l=Na.val m from HDr.out));go_wp2_with fail
   go_ret
   exact⟨by rw[hr.out]; rfl,hbel⟩
  | succ j =>
   have hi:(((j+1:Nat):Int)-1)=(j:Int):=by omega
   rw[hi];clear hi;have d0:=iH _ l j wr (HV.out.below hbel) (by omega);have d1:=iH _ m j wr (HU.out.below hbel) (by omega);have hlt:=@Na.Z4 l m j HDr.out;have hgt:=@Na.Z4 m l j HDr.out.symm;have heq:=@Na.afU l m j HDr.out;have g0:=(l.getD j 0).toNat_lt;have g1:=(m.getD j 0).toNat_lt;generalize (l.getD j 0).toNat=x at *;generalize (m.getD j 0).toNat=y at *;have D0:=Lib.hid d0;have D1:=Lib.hid d1;clear d0 d1;rcases Nat.lt_trichotomy x y with h | h | h
   ·have hr:=Lib.hid (yN (hlt h));have h':(x:Int)<y:=by omega
    clear hlt hgt heq h;go_wp2_with fail
    refine D0.out.mono ?_;rintro e w' ⟨rfl,rfl⟩;go_wp2_with fail
    refine D1.out.mono ?_;rintro e w' ⟨rfl,rfl⟩;go_wp2_with fail
    go_ret
    exact⟨by rw[hr.out]; rfl,hbel⟩
   ·have HQ:=Lib.hid (heq h);have h1':¬(x:Int)<y:=by omega
    have h2':¬(y:Int)<x:=by omega
    clear hlt hgt heq h;go_wp2_with fail
    refine D0.out.mono ?_;rintro e w' ⟨rfl,rfl⟩;go_wp2_with fail
    refine D1.out.mono ?_;rintro e w' ⟨rfl,rfl⟩;go_wp2_with fail
    refine D0.out.mono ?_;rintro e w' ⟨rfl,rfl⟩;go_wp2_with fail
    refine D1.out.mono ?_;rintro e w' ⟨rfl,rfl⟩;go_wp2_with fail
    go_roundw
    case rel=>exact⟨j,by omega,rfl,HQ.out,hbel⟩
    case measure=>simp[intOf]
   have hr:=Lib.hid (EN (hgt h));have h1':¬(x:Int)<y:=by omega
   have h2':(y:Int)<x:=by omega
   clear hlt hgt heq h;go_wp2_with fail
   refine D0.out.mono ?_;rintro e w' ⟨rfl,rfl⟩;go_wp2_with fail
   refine D1.out.mono ?_;rintro e w' ⟨rfl,rfl⟩;go_wp2_with fail
   refine D0.out.mono ?_;rintro e w' ⟨rfl,rfl⟩;go_wp2_with fail
   refine D1.out.mono ?_;rintro e w' ⟨rfl,rfl⟩;go_wp2_with fail
   go_ret
   exact⟨by rw[hr.out]; rfl,hbel⟩
open Go.RowKit
variable{α:Type}
theorem dgI(n:Nat):(n:Int)%4294967296=((UInt32.ofNat n).toNat:Int):=by simp
theorem dvI(n:Nat):(n:Int)/4294967296=((n/Na.B:Nat):Int):=by simp[Na.B]
theorem qE{f:α→Value}{w:World}{base n:Nat}{e:TypeId}{v:Value}{l:List α}(hn:l.length=n)(h:w.ownsRow base e 1 v n (l.map f)):dW f w v l:=by
 subst hn; exact bf h
theorem Yt:Na.B=4294967296:=rfl
theorem TK(v u:Value)(l m:List UInt32)(w:World)(hv:aC w v l)(hu:aC w u m)(hl:l.length≤100000000)(hm:m.length≤100000000) :
  Calls Tryz.prog 252 #[v,u] w fun e w'=>∃v',e = .returned v'∧ED w.heap.size w' v' (Na.au (Na.val l+Na.val m))∧Ext w w':=by
 have HV:=Lib.hid hv;have HU:=Lib.hid hu;obtain⟨a1,c1,rfl⟩:=hv.shape;obtain⟨a2,c2,rfl⟩:=hu.shape;clear hv hu;obtain⟨M,hM⟩:∃M,M=max l.length m.length:=⟨_,rfl⟩;have hmax:max (l.length:Int) (m.length:Int)=(M:Int):=by omega
 have hM1:M≤100000000:=by omega
 have HE:Hid (Na.val (l.take M)=Na.val l∧Na.val (m.take M)=Na.val m):=by
  constructor
  ·rw[List.take_of_length_le (by omega)]
  rw[List.take_of_length_le (by omega)]
 clear hM;go_enter Tryz.func252,Tryz.ntmps252
 go_wp2_with fail
 go_loopw [5,6,7,8] (fun g cv iv _ wr=>∃(i c:Nat) (out:List UInt32),i≤M∧iv = .i i∧cv = .int .u64 c∧c≤1∧out.length=i∧Na.val out+Na.B^i*c=Na.val (l.take i)+Na.val (m.take i) ∧
  wr.ownsRow w.heap.size 194 1 g i (out.map aU)∧Ext w wr) (fun _ _ iv _ _=>M-(intOf iv).toNat)
 case atStart=>exact⟨0,0,[],Nat.zero_le _,rfl,rfl,by omega,rfl,by simp[Na.val],World.ownsRow_lit w #[] 0 (Nat.le_refl _) (Nat.zero_le _) rfl,aT _ _⟩
 case round =>
  obtain⟨i,c,out,hi,rfl,rfl,hc,hol,hval,hown,hbel⟩:=hrel;have HOL:=Lib.hid hol;have nX:=Lib.hid hval;have hsz:w.heap.size≤wr.heap.size:=hbel.size;have h63:i+1≤maxLen:=by unfold maxLen; omega
  have hby:(i+1)*4≤140737488355328:=by omega
  clear hol hval;by_cases hlt:i<M
  ·have d0:=iH _ l i wr (HV.out.below hbel) (by omega);have d1:=iH _ m i wr (HU.out.below hbel) (by omega);have g0:=(l.getD i 0).toNat_lt;have g1:=(m.getD i 0).toNat_lt;have t0:=Na.iJ l i;have t1:=Na.iJ m i;generalize (l.getD i 0).toNat=x at *;generalize (m.getD i 0).toNat=y at *;have D0:=Lib.hid d0;have D1:=Lib.hid d1;have T0:=Lib.hid t0;have T1:=Lib.hid t1;obtain⟨n,hn⟩:∃n,n=x+y+c:=⟨_,rfl⟩;have hmod:((x:Int)+y+c)%4294967296=((UInt32.ofNat n).toNat:Int):=by rw[←dgI,hn]; simp
   have hdiv:((x:Int)+y+c)/4294967296=((n/Na.B:Nat):Int):=by rw[←dvI,hn]; simp
   have hc':n/Na.B≤1:=by rw[hn,Yt]; omega
   have HN:=Lib.hid hn;have HST:=Lib.hid (Na.step_up HOL.out nX.out hn);generalize hq:n/Na.B=c' at *;obtain⟨d,hd⟩:∃d,UInt32.ofNat n=d:=⟨_,rfl⟩;rw[hd]at hmod HST;have hr:=nY wr (aU d) 194 rfl;have hown':=hown.alloc (.cells #[aU d] 194);have hsz':w.heap.size≤(wr.alloc (.cells #[aU d] 194)).heap.size:=by simp; omega
   clear hown d0 d1 t0 t1 hn hq hd;go_wp2_with fail
   refine D0.out.mono ?_;rintro e w' ⟨rfl,rfl⟩;go_wp2_with fail
   refine D1.out.mono ?_;rintro e w' ⟨rfl,rfl⟩;go_wp2_with (at_builtin; refine dL rfl _ _ _ rfl kQ w.heap.size hown' rfl hr rfl h63 hby hsz' ?_; intro v2 w2 hown2 hg)
   go_roundw
   case rel =>
    refine⟨i+1,c',out++[d],by omega,by go_num,rfl,hc',by simp[HOL.out],?_,by rw[List.map_append]; exact hown2,(hbel.alloc hsz _).grown hg hsz' (fun k hk=>(World.ownsRow.lt hown' k hk).1)⟩;rw[HST.out,T0.out,T1.out,Nat.mul_add]; omega
   case measure=>simp[intOf]; omega
  obtain rfl:i=M:=by omega
  obtain⟨d,rfl⟩:∃d:UInt32,c=d.toNat:=⟨UInt32.ofNat c,(bJ (by omega)).symm⟩;have hdl:=d.toNat_lt;have hdm:(d.toNat:Int)%4294967296=(d.toNat:Int):=by omega
  have HD:Hid (Na.val (out++[d])=Na.val l+Na.val m):=by
   show _=_;rw[Na.ji,HOL.out,nX.out,HE.out.1,HE.out.2]
  have Y1:Hid ((out++[d]).length=i+1):=by show _=_; simp[HOL.out]
  have HMM:Hid ((out++[d]).map aU=out.map aU++[aU d]):=by show _=_; simp
  have hr:=nY wr (aU d) 194 rfl;have hown':=hown.alloc (.cells #[aU d] 194);have hsz':w.heap.size≤(wr.alloc (.cells #[aU d] 194)).heap.size:=by simp; omega
  clear hown;go_wp2_with (at_builtin; refine dL rfl _ _ _ rfl kQ w.heap.size hown' rfl hr rfl h63 hby hsz' ?_; intro v2 w2 hown2 hg)
  have hb2:=(hbel.alloc hsz _).grown hg hsz' (fun k hk=>(World.ownsRow.lt hown' k hk).1);have HR:=Lib.hid (dD v2 (out++[d]) w2 (bf (by rw[Y1.out,HMM.out]; exact hown2)) (by rw[Y1.out]; omega));rw[HD.out]at HR;have HB2:=Lib.hid hb2;clear hown2 hg hb2;go_wp2_with fail
  refine HR.out.mono ?_;rintro e w' ⟨v',rfl,ho,hb⟩;have HO:=Lib.hid (fF ho HB2.out.size);have HB:=Lib.hid (Ext.trans' HB2.out hb);clear ho hb;go_wp2_with fail
  go_ret
  exact⟨_,rfl,HO.out,HB.out⟩
theorem MR(v:Value)(l:List UInt32)(D:Nat)(w:World)(hv:aC w v l)(hD:D<4294967296)(hl:l.length≤100000000) :
  Calls Tryz.prog 274 #[v,.int .u64 D] w fun e w'=>∃v',e = .returned v'∧ED w.heap.size w' v' (Na.au (Na.val l*D))∧Ext w w':=by
 have HV:=Lib.hid hv;obtain⟨a1,c1,rfl⟩:=hv.shape;clear hv;go_enter Tryz.func274,Tryz.ntmps274
 go_wp2_with fail
 go_loopw [5,6,7,8] (fun g cv iv _ wr=>∃(i c:Nat) (out:List UInt32),i≤l.length∧iv = .i i∧cv = .int .u64 c∧c<4294967296∧out.length=i∧Na.val out+Na.B^i*c=Na.val (l.take i)*D ∧
  wr.ownsRow w.heap.size 194 1 g i (out.map aU)∧Ext w wr) (fun _ _ iv _ _=>l.length-(intOf iv).toNat)
 case atStart=>exact⟨0,0,[],Nat.zero_le _,rfl,rfl,by omega,rfl,by simp[Na.val],World.ownsRow_lit w #[] 0 (Nat.le_refl _) (Nat.zero_le _) rfl,aT _ _⟩
 case round =>
  obtain⟨i,c,out,hi,rfl,rfl,hc,hol,hval,hown,hbel⟩:=hrel;have HOL:=Lib.hid hol;have nX:=Lib.hid hval;have hsz:w.heap.size≤wr.heap.size:=hbel.size;have h63:i+1≤maxLen:=by unfold maxLen; omega
  have hby:(i+1)*4≤140737488355328:=by omega
  clear hol hval;by_cases hlt:i<l.length
  ·obtain⟨bx,ox,cx,hxs,hbx,hlx,hmx,hcx⟩:=eY HV.out rfl (by omega);simp only[Value.slice.injEq]at hxs;obtain⟨rfl,-,-⟩:=hxs;have hck:wr.cell? ⟨bx,ox+i,none⟩=some (aU l[i]):=by rw[hbel.cell (p:=⟨bx,ox+i,none⟩) hbx]; exact hcx i hlt
   clear hcx;have T0:=Lib.hid (Na.bT l i hlt);generalize l[i]=x at *;have g0:=x.toNat_lt;have x0:=fO x;obtain⟨t,ht⟩:∃t,t=x.toNat*D:=⟨_,rfl⟩;have hmul:IntKind.u64.wrap ((x.toNat:Int)*(D:Int))=(t:Int):=by
    have h1:x.toNat*D≤4294967295*4294967295:=Nat.mul_le_mul (by omega) (by omega);rw[ht,←iD (x.toNat*D) (by omega)]; simp
   have htb:t≤18446744065119617025:=by rw[ht]; exact Nat.mul_le_mul (show x.toNat≤4294967295 by omega) (show D≤4294967295 by omega)
   obtain⟨n,hn⟩:∃n,n=t+c:=⟨_,rfl⟩;have hsum:IntKind.u64.wrap ((t:Int)+(c:Int))=(n:Int):=by rw[hn,←iD (t+c) (by omega)]; simp
   have hnb:n<18446744073709551616:=by omega
   have hmod:(n:Int)%4294967296=((UInt32.ofNat n).toNat:Int):=dgI n;have hdiv:(n:Int)/4294967296=((n/Na.B:Nat):Int):=dvI n;have hc':n/Na.B<4294967296:=Nat.div_lt_of_lt_mul hnb;have HST:=Lib.hid (Na.step_up HOL.out nX.out hn);rw[ht]at HST;generalize hq:n/Na.B=c' at *;obtain⟨d,hd⟩:∃d,UInt32.ofNat n=d:=⟨_,rfl⟩;rw[hd]at hmod HST;have hr:=nY wr (aU d) 194 rfl;have hown':=hown.alloc (.cells #[aU d] 194);have hsz':w.heap.size≤(wr.alloc (.cells #[aU d] 194)).heap.size:=by simp; omega
   clear hown hn hq hd ht hnb;go_wp2_with (at_builtin; refine dL rfl _ _ _ rfl kQ w.heap.size hown' rfl hr rfl h63 hby hsz' ?_; intro v2 w2 hown2 hg)
   go_roundw
   case rel =>
    refine⟨i+1,c',out++[d],by omega,by go_num,rfl,hc',by simp[HOL.out],?_,by rw[List.map_append]; exact hown2,(hbel.alloc hsz _).grown hg hsz' (fun k hk=>(World.ownsRow.lt hown' k hk).1)⟩;rw[HST.out,T0.out,Nat.add_mul,Nat.mul_assoc]
   case measure=>simp[intOf]; omega
  obtain rfl:i=l.length:=by omega
  obtain⟨d,rfl⟩:∃d:UInt32,c=d.toNat:=⟨UInt32.ofNat c,(bJ (by omega)).symm⟩;have hdl:=d.toNat_lt;have hdm:(d.toNat:Int)%4294967296=(d.toNat:Int):=by omega
  have HD:Hid (Na.val (out++[d])=Na.val l*D):=by
   show _=_;rw[Na.ji,HOL.out,nX.out,List.take_length]
  have Y1:Hid ((out++[d]).length=l.length+1):=by show _=_; simp[HOL.out]
  have HMM:Hid ((out++[d]).map aU=out.map aU++[aU d]):=by show _=_; simp
  have hr:=nY wr (aU d) 194 rfl;have hown':=hown.alloc (.cells #[aU d] 194);have hsz':w.heap.size≤(wr.alloc (.cells #[aU d] 194)).heap.size:=by simp; omega
  clear hown;go_wp2_with (at_builtin; refine dL rfl _ _ _ rfl kQ w.heap.size hown' rfl hr rfl h63 hby hsz' ?_; intro v2 w2 hown2 hg)
  have hb2:=(hbel.alloc hsz _).grown hg hsz' (fun k hk=>(World.ownsRow.lt hown' k hk).1);have HR:=Lib.hid (dD v2 (out++[d]) w2 (bf (by rw[Y1.out,HMM.out]; exact hown2)) (by rw[Y1.out]; omega));rw[HD.out]at HR;have HB2:=Lib.hid hb2;clear hown2 hg hb2;go_wp2_with fail
  refine HR.out.mono ?_;rintro e w' ⟨v',rfl,ho,hb⟩;have HO:=Lib.hid (fF ho HB2.out.size);have HB:=Lib.hid (Ext.trans' HB2.out hb);clear ho hb;go_wp2_with fail
  go_ret
  exact⟨_,rfl,HO.out,HB.out⟩
theorem V5{A C E SS o:Nat}(h:A+E*SS=o+C)(hle:C≤A)(ho:o<E):o=A-C:=by
 rcases Nat.eq_zero_or_pos SS with h0 | h0
 ·subst h0; omega
 have:E*1≤E*SS:=Nat.mul_le_mul_left _ h0;omega
theorem Am(v u:Value)(l m:List UInt32)(w:World)(hv:aC w v l)(hu:aC w u m)(hl:l.length≤100000000)(hle:Na.val m≤Na.val l) :
  Calls Tryz.prog 253 #[v,u] w fun e w'=>∃v',e = .returned (.tuple #[v',.bool true])∧ED w.heap.size w' v' (Na.au (Na.val l-Na.val m))∧Ext w w':=by
 have HV:=Lib.hid hv;have HU:=Lib.hid hu;have HC:=Lib.hid (Ak v u l m w hv hu);obtain⟨a1,c1,rfl⟩:=hv.shape;obtain⟨a2,c2,rfl⟩:=hu.shape;have hcp:¬tK (Na.val l) (Na.val m)<0:=by
  unfold tK; rw[if_neg (by omega)]; split<;>omega
 generalize tK (Na.val l) (Na.val m)=C at *;have HLE:=Lib.hid hle;clear hv hu hle;go_enter Tryz.func253,Tryz.ntmps253
 go_wp2_with fail
 refine HC.out.mono ?_;rintro e w1 ⟨rfl,hb1⟩;have HB1:=Lib.hid hb1;have hs1:=hb1.size;clear hb1 HC;go_wp2_with fail
 clear hcp;go_loopw [6,7,8,9] (fun g cv iv _ wr=>∃(i c:Nat) (out:List UInt32),i≤l.length∧iv = .i i∧cv = .int .u64 c∧c≤1∧out.length=i∧Na.val (l.take i)+Na.B^i*c=Na.val out+Na.val (m.take i) ∧
  wr.ownsRow w.heap.size 194 1 g i (out.map aU)∧Ext w wr) (fun _ _ iv _ _=>l.length-(intOf iv).toNat)
 case atStart=>exact⟨0,0,[],Nat.zero_le _,rfl,rfl,by omega,rfl,by simp[Na.val],World.ownsRow_lit w1 #[] 0 hs1 (Nat.zero_le _) rfl,Ext.trans' HB1.out (aT _ _)⟩
 case round =>
  obtain⟨i,c,out,hi,rfl,rfl,hc,hol,hval,hown,hbel⟩:=hrel;have HOL:=Lib.hid hol;have nX:=Lib.hid hval;have hsz:w.heap.size≤wr.heap.size:=hbel.size;have h63:i+1≤maxLen:=by unfold maxLen; omega
  have hby:(i+1)*4≤140737488355328:=by omega
  clear hol hval;by_cases hlt:i<l.length
  ·have d0:=iH _ l i wr (HV.out.below hbel) (by omega);have d1:=iH _ m i wr (HU.out.below hbel) (by omega);have g0:=(l.getD i 0).toNat_lt;have g1:=(m.getD i 0).toNat_lt;have t0:=Na.iJ l i;have t1:=Na.iJ m i;generalize (l.getD i 0).toNat=x at *;generalize (m.getD i 0).toNat=y at *;have D0:=Lib.hid d0;have D1:=Lib.hid d1;have T0:=Lib.hid t0;have T1:=Lib.hid t1;obtain⟨n,hn⟩:∃n,n=4294967296+x-y-c:=⟨_,rfl⟩;have hmod:((4294967296:Int)+x-y-c)%4294967296=((UInt32.ofNat n).toNat:Int):=by rw[←dgI,hn]; omega
   have hdiv:((4294967296:Int)+x-y-c)/4294967296=((n/Na.B:Nat):Int):=by rw[←dvI,hn]; omega
   have hq1:n/Na.B≤1:=by rw[hn,Yt]; omega
   have adL:x+Na.B*(1-n/Na.B)=n%Na.B+y+c:=by rw[hn,Yt]; omega
   have HST:=Lib.hid (Na.Xn HOL.out nX.out adL);generalize n/Na.B=q at *;obtain⟨d,hd⟩:∃d,UInt32.ofNat n=d:=⟨_,rfl⟩;rw[hd]at hmod HST;have hq2:(1:Int)-(q:Int)=((1-q:Nat):Int):=by omega
   have hr:=nY wr (aU d) 194 rfl;have hown':=hown.alloc (.cells #[aU d] 194);have hsz':w.heap.size≤(wr.alloc (.cells #[aU d] 194)).heap.size:=by simp; omega
   have vP:=Lib.hid hq2;clear hown d0 d1 t0 t1 hn hd adL hq2;go_wp2_with fail
   refine D0.out.mono ?_;rintro e w' ⟨rfl,rfl⟩;go_wp2_with fail
   refine D1.out.mono ?_;rintro e w' ⟨rfl,rfl⟩;go_wp2_with (at_builtin; refine dL rfl _ _ _ rfl kQ w.heap.size hown' rfl hr rfl h63 hby hsz' ?_; intro v2 w2 hown2 hg)
   go_roundw
   case rel =>
    refine⟨i+1,1-q,out++[d],by omega,by go_num,by rw[vP.out],by omega,by simp[HOL.out],?_,by rw[List.map_append]; exact hown2,(hbel.alloc hsz _).grown hg hsz' (fun k hk=>(World.ownsRow.lt hown' k hk).1)⟩;rw[T0.out,T1.out,HST.out]
   case measure=>simp[intOf]; omega
  obtain rfl:i=l.length:=by omega
  have hml:Na.val (m.take l.length)=Na.val m:=Na.wF (Nat.lt_of_le_of_lt HLE.out (Na.dZ l));have HD:Hid (Na.val out=Na.val l-Na.val m):=by
   have h:=nX.out;rw[List.take_length,hml]at h;exact V5 h HLE.out (by have:=Na.dZ out; rw[HOL.out]at this; exact this)
  have hrow:=qE HOL.out hown;have HR:=Lib.hid (dD _ out wr hrow (by rw[HOL.out]; omega));rw[HD.out]at HR;have HB2:=Lib.hid hbel;clear hown hbel hml hrow;go_wp2_with fail
  refine HR.out.mono ?_;rintro e w' ⟨v',rfl,ho,hb⟩;have HO:=Lib.hid (fF ho HB2.out.size);have HB:=Lib.hid (Ext.trans' HB2.out hb);clear ho hb;go_wp2_with fail
  go_ret2
  exact⟨_,rfl,HO.out,HB.out⟩
open Go.RowKit
variable{α:Type}
theorem YB(v u:Value)(l m:List UInt32)(n:Nat)(w:World)(hv:aC w v l)(hu:aC w u m)(hm:m.length=n+1)(agQ:0<(m.getD n 0).toNat)(hlt:Na.val l<Na.B*Na.val m)(hl:l.length≤100000000)(hn:n≤10000000) :
  Calls Tryz.prog 262 #[v,u] w fun e w'=>∃v',e = .returned (.tuple #[.int .u64 ((Na.val l/Na.val m:Nat):Int),v'])∧ED w.heap.size w' v' (Na.au (Na.val l%Na.val m))∧Ext w w':=by
 have HV:=Lib.hid hv;have HU:=Lib.hid hu;obtain⟨a1,c1,rfl⟩:=hv.shape;obtain⟨bx,ox,cx,rfl,hbx,hlx,hmx,hcx⟩:=eY hu hm (by omega);have e:m.getD n 0=m[n]'(by omega):=by simp[List.getD,List.getElem?_eq_getElem (show n<m.length by omega)]
 have D1:Hid (∀nq,Calls Tryz.prog 270 #[.slice a1 l.length c1,.i ((n:Int)+1)] (w.drewN nq) fun e w'=>e = .returned (.int .u64 ((l.getD (n+1) 0).toNat:Int))∧w'=w.drewN nq):=fun nq =>
  (iH _ l (n+1) _ (HV.out.below (below_drewN (Below.refl _ _) nq)) (by omega)).mono fun _ _ h=>⟨h.1,h.2.symm⟩
 have D0:Hid (∀nq,Calls Tryz.prog 270 #[.slice a1 l.length c1,.i n] (w.drewN nq) fun e w'=>e = .returned (.int .u64 ((l.getD n 0).toNat:Int))∧w'=w.drewN nq):=fun nq =>
  (iH _ l (n) _ (HV.out.below (below_drewN (Below.refl _ _) nq)) (by omega)).mono fun _ _ h=>⟨h.1,h.2.symm⟩
 obtain⟨afp,agR,hVp⟩:=Na.SV hm agQ hlt;rw[e]at afp agQ;have hml:Na.val m<Na.B^(n+1):=by have:=Na.dZ m; rw[hm]at this; exact this
 have hck:=hcx n (by omega);generalize m[n]'(by omega)=t at *;have g0:=(l.getD n 0).toNat_lt;have g1:=(l.getD (n+1) 0).toNat_lt;generalize (l.getD n 0).toNat=x0 at *;generalize (l.getD (n+1) 0).toNat=x1 at *;obtain⟨T1,hT1⟩:∃T1,T1=x1*4294967296:=⟨_,rfl⟩;obtain⟨T,hT⟩:∃T,T=T1+x0:=⟨_,rfl⟩;obtain⟨q,hq⟩:∃q,q=T/t.toNat:=⟨_,rfl⟩;have k1:IntKind.i64.wrap (n:Int)=(n:Int):=IntWalk.i64_in _ (by omega);have k2:IntKind.u64.wrap ((x1:Int)*4294967296)=(T1:Int):=by rw[IntKind.wrap_u64,hT1]; omega
 have k3:IntKind.u64.wrap ((T1:Int)+(x0:Int))=(T:Int):=by rw[IntKind.wrap_u64,hT]; omega
 have k4:=fO t;have k5:(T:Int).tdiv (t.toNat:Int)=(q:Int):=by rw[Z8,hq]
 have k6:IntKind.u64.wrap (q:Int)=(q:Int):=by
  have:q≤T:=by rw[hq]; exact Nat.div_le_self _ _
  rw[IntKind.wrap_u64]; omega
 have k7:((t.toNat:Int)==0)=false:=by rw[beq_eq_false_iff_ne]; omega
 rw[←hT1,←hT,←hq]at afp;obtain⟨d0,hd0⟩:∃d0,d0=min q 4294967295:=⟨_,rfl⟩;have k8:min (q:Int) 4294967295=(d0:Int):=by omega
 have agS:d0<4294967296:=by omega
 have hd1:Na.val l/Na.val m≤d0:=by omega
 have HQ:=Lib.hid hq;have HT:=Lib.hid hT;have HT1:=Lib.hid hT1;have HLT:=Lib.hid hlt;have HD1:=Lib.hid hd1;have HML:=Lib.hid hml;have HVP:=Lib.hid hVp;clear hv hu hcx e hT1 hT hq afp agR hd0 hd1 hlt hml hVp HQ HT HT1;go_enter Tryz.func262,Tryz.ntmps262
 go_wp2_with fail
 have K8:=Lib.hid k8;clear k8;go_quiet ((first | with_reducible exact Calls.quiet_of_same (D1.out _) | with_reducible exact Calls.quiet_of_same (D0.out _)))
 clear k1 k2 k3 k4 k5 k6 k7;have k8:=K8.out;go_wp2_with fail
 clear k8;refine(MR _ m d0 _ (HU.out.below (below_drewN (Below.refl _ _) nq)) agS (by omega)).mono ?_;rintro e w1 ⟨p,rfl,ho,hb⟩;have HB:=Lib.hid (Ext.trans' (below_drewN (Below.refl w.heap.size w) nq) hb);have HP:=Lib.hid (bf ho);clear ho hb;go_wp2_with fail
 go_loopw [8,9] (fun dv p wr=>∃d:Nat,dv = .int .u64 d∧d<4294967296∧Na.val l/Na.val m≤d∧aC wr p (Na.au (Na.val m*d))∧Ext w wr) (fun dv _ _=>(intOf dv).toNat)
 case atStart=>exact⟨d0,rfl,agS,HD1.out,HP.out,HB.out⟩
 case round =>
  obtain⟨d,rfl,hd,hqd,hp,hbel⟩:=hrel;have hlen:(Na.au (Na.val m*d)).length≤n+2:=by
   apply Na.dO;rw[Nat.pow_succ];exact Nat.mul_lt_mul'' HML.out hd
  have HC:=Lib.hid (Ak _ _ _ _ wr hp (HV.out.below hbel));rw[Na.aJ]at HC;by_cases h:Na.val l<Na.val m*d
  ·obtain⟨f1,f2,f3,f4⟩:=Na.Xo hqd h HVP.out;rw[EN h]at HC;have HS:=Lib.hid (fun w1 (h1:Ext wr w1)=>Am _ _ _ _ w1 (hp.below h1) (HU.out.below (Ext.trans' hbel h1)) (by omega) (by rw[Na.aJ]; exact f4));rw[Na.aJ,f3]at HS;have hdz:1≤d:=f1;have hd1:((d-1:Nat):Int)=(d:Int)-1:=by omega
   have HD1:=Lib.hid hd1;have HF2:=Lib.hid f2;have MS:=Lib.hid hbel;clear hp hbel hqd f1 f2 f3 f4 h hd1 hlen;go_wp2_with fail
   refine HC.out.mono ?_;rintro e w2 ⟨rfl,hb2⟩;have HS2:=Lib.hid (HS.out w2 hb2);have HB2:=Lib.hid (Ext.trans' MS.out hb2);clear hb2 HS HC;go_wp2_with fail
   refine HS2.out.mono ?_;rintro e w3 ⟨p',rfl,ho,hb3⟩;have HO:=Lib.hid (bf ho);have HB3:=Lib.hid (Ext.trans' HB2.out hb3);clear ho hb3 HS2;go_wp2_with fail
   go_roundw
   case rel=>exact⟨d-1,by rw[HD1.out],by omega,HF2.out,HO.out,HB3.out⟩
   case measure=>simp[intOf]; omega
  have hle:Na.val m*d≤Na.val l:=by omega
  obtain⟨f1,f2⟩:=Na.SX hqd hle HVP.out;have hcp:¬(0:Int)<tK (Na.val m*d) (Na.val l):=by
   unfold tK; rw[if_neg h]; split<;>omega
  have HS:=Lib.hid (fun w1 (h1:Ext wr w1)=>Am _ _ _ _ w1 (HV.out.below (Ext.trans' hbel h1)) (hp.below h1) hl (by rw[Na.aJ]; exact hle));rw[Na.aJ,f2]at HS;have HF1:=Lib.hid f1;have MS:=Lib.hid hbel;generalize tK (Na.val m*d) (Na.val l)=cc at *;clear hp hbel hqd f1 f2 h hle hlen;go_wp2_with fail
  refine HC.out.mono ?_;rintro e w2 ⟨rfl,hb2⟩;have HS2:=Lib.hid (HS.out w2 hb2);have HB2:=Lib.hid (Ext.trans' MS.out hb2);clear hb2 HS HC;go_wp2_with fail
  refine HS2.out.mono ?_;rintro e w3 ⟨p',rfl,ho,hb3⟩;have HO:=Lib.hid (fF ho HB2.out.size);have HB3:=Lib.hid (Ext.trans' HB2.out hb3);clear ho hb3 HS2;go_wp2_with fail
  go_ret2
  exact⟨_,by rw[←HF1.out]; rfl,HO.out,HB3.out⟩
open Go.RowKit
variable{α:Type}
theorem EP{w:World}{base:Nat}{e:TypeId}{size:Nat}{v:Value}{n:Nat}{xs:List Value}(h:w.ownsRow base e size v n xs):∃a cap,v = .slice a n cap:=by
 rcases h.2 with ⟨hv,h0⟩ | ⟨g,cap,cur,hv,_⟩
 ·exact⟨none,0,by rw[hv,h0]⟩
 exact⟨_,cap,hv⟩
theorem YC(v:Value)(l:List UInt32)(p:Nat)(w:World)(hv:aC w v l)(hp:p≤31)(hl:l.length≤100000000) :
  Calls Tryz.prog 273 #[v,.i p] w fun e w'=>∃v',e = .returned v'∧ED w.heap.size w' v' (Na.au (Na.val l*2^p))∧Ext w w':=by
 have HV:=Lib.hid hv;obtain⟨a1,c1,rfl⟩:=hv.shape;clear hv;have Xr:(p:Int)/32=0:=by omega
 have S9:(p:Int)%32=(p:Int):=by omega
 have aiL:0≤maxLen:=Nat.zero_le _;have aiM:4*0≤281474976710656:=by omega
 have hP:2^p≤2147483648:=Nat.pow_le_pow_right (n:=2) (by omega) hp;have hP0:=Nat.two_pow_pos p;go_enter Tryz.func273,Tryz.ntmps273
 go_wp2_with (at_make; refine wpList_make_row rfl _ _ _ rfl kQ rfl w.heap.size 0 rfl rfl rfl aiM aiL (Nat.le_refl _) ?_; intro w1 hown hg)
 have hb1:=iC (Below.refl w.heap.size w) hg (Nat.le_refl _);have HO:=Lib.hid hown;clear hg hown;go_loopw [5,6,7,8] (fun g cv iv _ wr=>∃(i c:Nat) (out:List UInt32),i≤l.length∧iv = .i i∧cv = .int .u64 c∧c<2^p∧out.length=i∧Na.val out+Na.B^i*c=Na.val (l.take i)*2^p ∧
  wr.ownsRow w.heap.size 194 1 g i (out.map aU)∧Ext w wr) (fun _ _ iv _ _=>l.length-(intOf iv).toNat)
 case atStart=>exact⟨0,0,[],Nat.zero_le _,rfl,rfl,hP0,rfl,by simp[Na.val],HO.out,hb1⟩
 case round =>
  obtain⟨i,c,out,hi,rfl,rfl,hc,hol,hval,hown,hbel⟩:=hrel;have HOL:=Lib.hid hol;have nX:=Lib.hid hval;have hsz:w.heap.size≤wr.heap.size:=hbel.size;have h63:i+1≤maxLen:=by unfold maxLen; omega
  have hby:(i+1)*4≤140737488355328:=by omega
  have hc32:c<4294967296:=by omega
  clear hol hval HO;by_cases hlt:i<l.length
  ·obtain⟨bx,ox,cx,hxs,hbx,hlx,hmx,hcx⟩:=eY HV.out rfl (by omega);simp only[Value.slice.injEq]at hxs;obtain⟨rfl,-,-⟩:=hxs;have hck:wr.cell? ⟨bx,ox+i,none⟩=some (aU l[i]):=by rw[hbel.cell (p:=⟨bx,ox+i,none⟩) hbx]; exact hcx i hlt
   clear hcx;have T0:=Lib.hid (Na.bT l i hlt);generalize l[i]=x at *;have g0:=x.toNat_lt;have x0:=fO x;obtain⟨t,ht⟩:∃t,t=x.toNat*2^p:=⟨_,rfl⟩;have ht1:t≤4294967295*2^p:=by rw[ht]; exact Nat.mul_le_mul_right _ (by omega)
   have hmul:IntKind.u64.wrap ((x.toNat:Int)*2^p)=(t:Int):=by
    rw[ht,←iD (x.toNat*2^p) (by omega)]; simp
   obtain⟨n,hn⟩:∃n,n=t+c:=⟨_,rfl⟩;have hsum:IntKind.u64.wrap ((t:Int)+(c:Int))=(n:Int):=by rw[hn,←iD (t+c) (by omega)]; simp
   have hmod:(n:Int)%4294967296=((UInt32.ofNat n).toNat:Int):=dgI n;have hdiv:(n:Int)/4294967296=((n/Na.B:Nat):Int):=dvI n;have hc':n/Na.B<2^p:=Nat.div_lt_of_lt_mul (by rw[Yt]; omega);have HST:=Lib.hid (Na.step_up HOL.out nX.out hn);rw[ht]at HST;generalize hq:n/Na.B=c' at *;obtain⟨d,hd⟩:∃d,UInt32.ofNat n=d:=⟨_,rfl⟩;rw[hd]at hmod HST;have hr:=nY wr (aU d) 194 rfl;have hown':=hown.alloc (.cells #[aU d] 194);have hsz':w.heap.size≤(wr.alloc (.cells #[aU d] 194)).heap.size:=by simp; omega
   clear hown hn hq hd ht ht1 Xr;go_wp2_with (at_builtin; refine dL rfl _ _ _ rfl kQ w.heap.size hown' rfl hr rfl h63 hby hsz' ?_; intro v2 w2 hown2 hg)
   go_roundw
   case rel =>
    refine⟨i+1,c',out++[d],by omega,by go_num,rfl,hc',by simp[HOL.out],?_,by rw[List.map_append]; exact hown2,(hbel.alloc hsz _).grown hg hsz' (fun k hk=>(World.ownsRow.lt hown' k hk).1)⟩;rw[HST.out,T0.out,Nat.add_mul,Nat.mul_assoc]
   case measure=>simp[intOf]; omega
  obtain rfl:i=l.length:=by omega
  obtain⟨d,rfl⟩:∃d:UInt32,c=d.toNat:=⟨UInt32.ofNat c,(bJ (by omega)).symm⟩;have hdl:=d.toNat_lt;have hdm:(d.toNat:Int)%4294967296=(d.toNat:Int):=by omega
  have HD:Hid (Na.val (out++[d])=Na.val l*2^p):=by
   show _=_;rw[Na.ji,HOL.out,nX.out,List.take_length]
  have Y1:Hid ((out++[d]).length=l.length+1):=by show _=_; simp[HOL.out]
  have HMM:Hid ((out++[d]).map aU=out.map aU++[aU d]):=by show _=_; simp
  have hr:=nY wr (aU d) 194 rfl;have hown':=hown.alloc (.cells #[aU d] 194);have hsz':w.heap.size≤(wr.alloc (.cells #[aU d] 194)).heap.size:=by simp; omega
  clear hown;go_wp2_with (at_builtin; refine dL rfl _ _ _ rfl kQ w.heap.size hown' rfl hr rfl h63 hby hsz' ?_; intro v2 w2 hown2 hg)
  have hb2:=(hbel.alloc hsz _).grown hg hsz' (fun k hk=>(World.ownsRow.lt hown' k hk).1);have HR:=Lib.hid (dD v2 (out++[d]) w2 (bf (by rw[Y1.out,HMM.out]; exact hown2)) (by rw[Y1.out]; omega));rw[HD.out]at HR;have HB2:=Lib.hid hb2;clear hown2 hg hb2;go_wp2_with fail
  refine HR.out.mono ?_;rintro e w' ⟨v',rfl,ho,hb⟩;have HO:=Lib.hid (fF ho HB2.out.size);have HB:=Lib.hid (Ext.trans' HB2.out hb);clear ho hb;go_wp2_with fail
  go_ret
  exact⟨_,rfl,HO.out,HB.out⟩
theorem uQ(v:Value)(l:List UInt32)(p:Nat)(w:World)(hv:aC w v l)(hp:p≤31)(hl:l.length≤100000000) :
  Calls Tryz.prog 261 #[v,.i p] w fun e w'=>∃v',e = .returned v'∧ED w.heap.size w' v' (Na.au (Na.val l*2^p))∧Ext w w':=by
 have HC:=Lib.hid (YC v l p w hv hp hl);obtain⟨a1,c1,rfl⟩:=hv.shape;clear hv;have hmin:min (p:Int) 4096=(p:Int):=by omega
 have h0:(0:Int)≤(p:Int):=by omega
 go_enter Tryz.func261,Tryz.ntmps261
 go_wp2_with fail
 refine HC.out.mono ?_;rintro e w' ⟨v',rfl,ho,hb⟩;have HO:=Lib.hid ho;have HB:=Lib.hid hb;clear ho hb;go_wp2_with fail
 go_ret
 exact⟨_,rfl,HO.out,HB.out⟩
theorem Jm(v:Value)(l:List UInt32)(p:Nat)(w:World)(hv:aC w v l)(hp:0<p)(hp2:p≤31)(hl:l.length≤100000000) :
  Calls Tryz.prog 261 #[v,.i (-(p:Int))] w fun e w'=>∃v',e = .returned v'∧ED w.heap.size w' v' (Na.au (Na.val l/2^p))∧Ext w w':=by
 have HV:=Lib.hid hv;obtain⟨a1,c1,rfl⟩:=hv.shape;clear hv;have hneg:¬(0:Int) ≤ -(p:Int):=by omega
 by_cases h0:l.length=0
 ·obtain rfl:l=[]:=List.eq_nil_of_length_eq_zero h0;have hlt : -(p:Int)<0:=by omega
  clear h0;go_enter Tryz.func261,Tryz.ntmps261
  go_wp2_with fail
  go_ret
  refine⟨_,rfl,?_,aT _ _⟩;rw[show Na.au (Na.val []/2^p)=[] by simp[Na.val,Na.au,Na.lq]];exact World.ownsRow_lit w #[] 0 (Nat.le_refl _) (Nat.zero_le _) rfl
 have hge:¬-(p:Int) < -32*(l.length:Int):=by omega
 have Xr:(p:Int)/32=0:=by omega
 have S9:(p:Int)%32=(p:Int):=by omega
 have hsl:=Na.Ae p l;have HS:Hid (Na.val (Na.shr p l)=Na.val l/2^p):=Na.Va p (by omega) l;have HG:Hid (∀i (h:i<l.length) (h2:i<(Na.shr p l).length),(Na.shr p l)[i]=UInt32.ofNat (((l.getD i 0).toNat+Na.B*(l.getD (i+1) 0).toNat)/2^p)):=fun i h _=>Na.U9 p l i h;generalize Na.shr p l=S at *;have HSL:=Lib.hid hsl;clear hsl;go_enter Tryz.func261,Tryz.ntmps261
 go_wp2_with fail
 clear hge Xr hneg h0;go_loopw [5,6,7] (fun g iv _ wr=>∃i:Nat,i≤l.length∧iv = .i i∧wr.ownsRow w.heap.size 194 1 g i ((S.take i).map aU)∧Ext w wr) (fun _ iv _ _=>l.length-(intOf iv).toNat)
 case atStart=>exact⟨0,Nat.zero_le _,rfl,World.ownsRow_lit w #[] 0 (Nat.le_refl _) (Nat.zero_le _) rfl,aT _ _⟩
 case round =>
  obtain⟨i,hi,rfl,hown,hbel⟩:=hrel;have hsz:w.heap.size≤wr.heap.size:=hbel.size;have h63:i+1≤maxLen:=by unfold maxLen; omega
  have hby:(i+1)*4≤140737488355328:=by omega
  by_cases hlt:i<l.length
  ·have d0:=iH _ l i wr (HV.out.below hbel) (by omega);have d1:=iH _ l (i+1) wr (HV.out.below hbel) (by omega);have g0:=(l.getD i 0).toNat_lt;have g1:=(l.getD (i+1) 0).toNat_lt;have hget:=HG.out i hlt (by rw[HSL.out]; exact hlt);have adM:=take_snoc S i (by rw[HSL.out]; exact hlt);generalize (l.getD i 0).toNat=x0 at *;generalize (l.getD (i+1) 0).toNat=x1 at *;obtain⟨N,hN⟩:∃N,N=x0+Na.B*x1:=⟨_,rfl⟩;rw[←hN]at hget;have hN':(x1:Int)*4294967296+(x0:Int)=(N:Int):=by rw[hN,Yt]; omega
   have hsd:(N:Int)/2^p%4294967296=((UInt32.ofNat (N/2^p)).toNat:Int):=JE N p;rw[←hget]at hsd;have D0:=Lib.hid d0;have D1:=Lib.hid d1;generalize S[i]'(by rw[HSL.out]; exact hlt)=d at *;have HSN:=Lib.hid adM;have hr:=nY wr (aU d) 194 rfl;have hown':=hown.alloc (.cells #[aU d] 194);have hsz':w.heap.size≤(wr.alloc (.cells #[aU d] 194)).heap.size:=by simp; omega
   clear hown d0 d1 hN hget adM;go_wp2_with fail
   refine D1.out.mono ?_;rintro e w' ⟨rfl,rfl⟩;go_wp2_with fail
   refine D0.out.mono ?_;rintro e w' ⟨rfl,rfl⟩;go_wp2_with (at_builtin; refine dL rfl _ _ _ rfl kQ w.heap.size hown' rfl hr rfl h63 hby hsz' ?_; intro v2 w2 hown2 hg)
   go_roundw
   case rel =>
    refine⟨i+1,by omega,by go_num,?_,(hbel.alloc hsz _).grown hg hsz' (fun k hk=>(World.ownsRow.lt hown' k hk).1)⟩;rw[HSN.out,List.map_append]; exact hown2
   case measure=>simp[intOf]; omega
  obtain rfl:i=l.length:=by omega
  have hst:S.take l.length=S:=List.take_of_length_le (by rw[HSL.out]; exact Nat.le_refl _);rw[hst]at hown;have hrow:=qE HSL.out hown;have HR:=Lib.hid (dD _ S wr hrow (by rw[HSL.out]; omega));rw[HS.out]at HR;have HB2:=Lib.hid hbel;clear hrow hown hbel hst;go_wp2_with fail
  refine HR.out.mono ?_;rintro e w' ⟨v',rfl,ho,hb⟩;have HO:=Lib.hid (fF ho HB2.out.size);have HB:=Lib.hid (Ext.trans' HB2.out hb);clear ho hb;go_wp2_with fail
  go_ret
  exact⟨_,rfl,HO.out,HB.out⟩
theorem abr(x j:Nat):(((x/2^j:Nat):Int))/2=((x/2^(j+1):Nat):Int):=by
 rw[Nat.pow_succ,←Nat.div_div_eq_div_mul]; rfl
theorem zG(v:Value)(l:List UInt32)(w:World)(hv:aC w v l)(hlen:l.length≤1000000000) :
  Calls Tryz.prog 232 #[v] w fun e w'=>e = .returned (.i (bl (Na.val l):Int))∧Ext w w':=by
 have hd:=bF l;have ea:=Na.aJ (Na.val l);have na:=Na.gQ (Na.val l);have C1:=Lib.hid (dD v l w hv hlen);clear hv;rw[←ea];generalize Na.au (Na.val l)=a at *;by_cases h0:a.length=0
 ·obtain rfl:a=[]:=List.eq_nil_of_length_eq_zero h0;clear ea h0;go_enter Tryz.func232,Tryz.ntmps232
  go_wp2_with fail
  refine C1.out.mono ?_;rintro e w' ⟨x,rfl,hx,hb⟩;obtain⟨xa,xc,rfl⟩:=EP hx;go_wp2_with fail
  go_ret
  exact⟨rfl,hb⟩
 obtain⟨m,hm⟩:∃m,a.length=m+1:=⟨a.length-1,by omega⟩;have hx0:a[m]'(by omega)≠0:=by
  have:=Na.wE na (by omega);simpa[hm]using this
 have hbd:∀c:Nat,2^(c-1)≤(a[m]'(by omega)).toNat→(a[m]'(by omega)).toNat<2^c→1≤c→bl (Na.val (a.take m++[a[m]'(by omega)]))=32*(a.take m).length+c:=fun c h1 h2 h3=>Vf (a.take m) (a[m]'(by omega)) hx0 c h1 h2 h3;have e1:a.take m++[a[m]'(by omega)]=a:=by
  rw[←List.take_succ_eq_append_getElem (by omega),←hm,List.take_length]
 rw[e1]at hbd;have e2:(a.take m).length=m:=by simp; omega
 rw[e2]at hbd;have HBD:=Lib.hid hbd;have HM:=Lib.hid hm;have hml:(m:Int)≤1000000000:=by omega
 have hxp:0<(a[m]'(by omega)).toNat:=Nat.pos_of_ne_zero fun e=>hx0 (UInt32.toNat_inj.1 (by simpa using e));have hne:((m:Int)+1==0)=false:=by rw[beq_eq_false_iff_ne]; omega
 have hxl:=(a[m]'(by omega)).toNat_lt;clear ea na hbd e1 e2 hx0 h0;go_enter Tryz.func232,Tryz.ntmps232
 go_wp2_with fail
 refine C1.out.mono ?_;rintro e w1 ⟨x,rfl,hx,hb⟩;have hx:=bf hx;obtain⟨bx,ox,cx,rfl,hbx,hlx,hmx,hcx⟩:=eY hx hm (by omega);have hck:=hcx m (by omega);have HB:=Lib.hid hb;generalize a[m]'(by omega)=c at *;clear hcx hx hb hm C1;go_wp2_with fail
 clear hne;have hstart:Hid ((c.toNat:Int)=((c.toNat/2^0:Nat):Int)):=by show _=_; simp
 go_loopw [4,5] (fun nv tv wr=>∃j:Nat,nv = .i (32*(m:Int)+j)∧j≤32∧tv = .int .u32 ((c.toNat/2^j:Nat):Int)∧(j=0∨2^(j-1)≤c.toNat)∧Ext w wr) (fun _ tv _=>(intOf tv).toNat)
 case atStart=>exact⟨0,by simp,by omega,by simp[aU],.inl rfl,HB.out⟩
 case round =>
  obtain⟨j,rfl,hj,rfl,hjj,hbel⟩:=hrel;have HJ:=Lib.hid hjj;have HH:=Lib.hid (abr c.toNat j);clear hjj;obtain⟨T,hT⟩:∃T,c.toNat/2^j=T:=⟨_,rfl⟩;rw[hT]at HH ⊢;by_cases hz:0<T
  ·have HT:=Lib.hid hT;have hle:Hid (2^j≤c.toNat):=by
    show _≤_;rcases Nat.lt_or_ge c.toNat (2^j)with h | h
    ·rw[Nat.div_eq_of_lt h]at hT; omega
    exact h
   have aj8:j≤31:=by
    rcases Nat.lt_or_ge 31 j with h | h
    ·have:2^32≤2^j:=Nat.pow_le_pow_right (by omega) h;have:=hle.out; omega
    exact h
   clear hT;go_wp2_with fail
   go_roundw
   case rel =>
    have hdl:c.toNat/2^(j+1)<4294967296:=Nat.lt_of_le_of_lt (Nat.div_le_self _ _) hxl;have hw:(T:Int)/2=((c.toNat/2^(j+1):Nat):Int)∧(T:Int)/2%4294967296=((c.toNat/2^(j+1):Nat):Int):=by
     have hh:=HH.out;generalize c.toNat/2^(j+1)=Z at *;omega
    exact⟨j+1,KE (by omega),by omega,(by first | exact KE hw.2 | exact KE hw.1),.inr (by simpa using hle.out),hbel⟩
   case measure=>simp[intOf]; omega
  obtain rfl:T=0:=by omega
  have hlt:c.toNat<2^j:=by
   rcases Nat.lt_or_ge c.toNat (2^j)with h | h
   ·exact h
   have:=Nat.div_pos h (Nat.two_pow_pos j); omega
  have hj1:1≤j:=by
   rcases Nat.eq_zero_or_pos j with h | h
   ·subst h; simp at hlt; omega
   exact h
  have hr:bl (Na.val a)=32*m+j:=HBD.out j (by rcases HJ.out with h | h; omega; exact h) hlt hj1;have HR:=Lib.hid hr;clear hT hlt hr hz;go_wp2_with fail
  go_ret
  exact⟨dX (by rw[HR.out]; omega),hbel⟩
open Go.RowKit
variable{α:Type}
theorem abt(n:Nat):Na.B^n=2^(32*n):=by rw[Nat.pow_mul]; rfl
theorem Qv{V n:Nat}(h:(Na.au V).length=n+1):Na.B^n≤V∧V<Na.B^(n+1):=by
 have h1:=Na.Dk (Na.gQ V) (by omega);have h2:=Na.dZ (Na.au V);rw[Na.aJ,h]at h1 h2;exact⟨h1,h2⟩
theorem Qw{V n:Nat}(h1:Na.B^n≤V)(h2:V<Na.B^(n+1)):(Na.au V).length=n+1:=by
 have h3:=Na.dO h2;rcases Nat.lt_or_ge (Na.au V).length (n+1)with h | h
 ·have h4:=Na.dZ (Na.au V);rw[Na.aJ]at h4;have h5:Na.B^(Na.au V).length≤Na.B^n:=Nat.pow_le_pow_right Na.kF (by omega);omega
 omega
theorem Uz{V n:Nat}(h:(Na.au V).length=n+1):32*n+1≤bl V∧bl V≤32*(n+1)∧∀p,bl V+p=32*(n+1)→(Na.au (V*2^p)).length=n+1:=by
 obtain⟨h1,h2⟩:=Qv h;have h0:V≠0:=by have:=Nat.pow_pos (n:=n) Na.kF; omega
 have hb:bl V=Nat.log2 V+1:=by unfold bl; rw[if_neg h0]
 have hk1:=Nat.log2_self_le h0;have hk2:V<2^(Nat.log2 V+1):=Nat.lt_log2_self;rw[hb];generalize Nat.log2 V=k at *;have e1:32*n<k+1:=by
  rw[abt]at h1;exact(Nat.pow_lt_pow_iff_right (by omega:1<2)).1 (Nat.lt_of_le_of_lt h1 hk2)
 have e2:k<32*(n+1):=by
  rw[abt]at h2;exact(Nat.pow_lt_pow_iff_right (by omega:1<2)).1 (Nat.lt_of_le_of_lt hk1 h2)
 refine⟨by omega,by omega,fun p hp=>?_⟩;apply Qw
 ·exact Nat.le_trans h1 (Nat.le_mul_of_pos_right _ (Nat.two_pow_pos p))
 rw[abt,←hp,Nat.pow_add];exact Nat.mul_lt_mul_of_pos_right hk2 (Nat.two_pow_pos p)
theorem YD{l:List UInt32}{n:Nat}(h:Na.norm l)(hl:l.length=n+1):0<(l.getD n 0).toNat:=by
 have h1:=Na.wE h (by omega);simp only[hl,Nat.add_sub_cancel]at h1;have e:l.getD n 0=l[n]'(by omega):=by simp[List.getD,List.getElem?_eq_getElem (show n<l.length by omega)]
 rw[e];exact Nat.pos_of_ne_zero fun h2=>h1 (UInt32.toNat_inj.1 (by simpa using h2))
theorem ac6{w:World}{base g:Nat}{e:TypeId}{v:Value}{n:Nat}{xs:List Value}(h:w.ownsRow base e 1 v n xs)(hg:g<base)(o:Nat)(x:Value):(w.setCell ⟨g,o,none⟩ x).ownsRow base e 1 v n xs:=
 adS h ((Ch.refl g w).setCell o x) hg
theorem zF(v u:Value)(l m:List UInt32)(w:World)(hv:aC w v l)(hu:aC w u m)(hm:0<Na.val m)(hll:l.length≤5000000)(hml:m.length≤5000000) :
  Calls Tryz.prog 243 #[v,u] w fun e w'=>∃q r,e = .returned (.tuple #[q,r,.i 0])∧ED w.heap.size w' q (Na.au (Na.val l/Na.val m))∧ED w.heap.size w' r (Na.au (Na.val l%Na.val m))∧Ext w w':=by
 have hdm:=bF m;have agT:=Na.gQ (Na.val m);have C1:=Lib.hid (dD u m w hu (by omega));have HV:=Lib.hid hv;obtain⟨a1,c1,rfl⟩:=hv.shape;obtain⟨a2,c2,rfl⟩:=hu.shape;have hne0:(Na.au (Na.val m)).length≠0:=fun h=>by have:=vw h; omega
 obtain⟨n,hn⟩:∃n,(Na.au (Na.val m)).length=n+1:=⟨(Na.au (Na.val m)).length-1,by omega⟩;obtain⟨hb1,hb2,hsh⟩:=Uz hn;obtain⟨p,hp⟩:∃p,bl (Na.val m)+p=32*(n+1):=⟨32*(n+1)-bl (Na.val m),by omega⟩;have OW:p≤31:=by omega
 have hln:=hsh p hp;have hVp:0<Na.val m*2^p:=Nat.mul_pos hm (Nat.two_pow_pos p);have hlU:(Na.au (Na.val l*2^p)).length≤l.length+1:=by
  apply Na.dO;rw[Nat.pow_succ];refine Nat.mul_lt_mul_of_lt_of_le (Na.dZ l) ?_ Na.kF;have:2^p≤2^32:=Nat.pow_le_pow_right (by omega) (by omega);exact this
 have hEq:Hid (∀Q R,Q*(Na.val m*2^p)+R=Na.val l*2^p→R<Na.val m*2^p→Q=Na.val l/Na.val m∧R/2^p=Na.val l%Na.val m∧(p=0→R=Na.val l%Na.val m)):=by
  intro Q R h hR;obtain⟨e1,e2⟩:=Na.Z7 h hR;rw[Nat.mul_div_mul_right _ _ (Nat.two_pow_pos p)]at e1;rw[Nat.mul_mod_mul_right]at e2;refine⟨e1,by rw[e2,Nat.mul_div_cancel _ (Nat.two_pow_pos p)],fun h0=>by rw[e2,h0]; simp⟩
 have hbI:32*((n:Int)+1)-(bl (Na.val m):Int)=(p:Int):=by omega
 have aiN:(bl (Na.val m):Int)≤32*((n:Int)+1):=by omega
 have hnb:n≤5000000:=by omega
 have C2:=fun(x:Value) (w1:World) (h:aC w1 x (Na.au (Na.val m)))=>zG x _ w1 h (by omega);have C3:=fun(x:Value) (w1:World) (h:aC w1 x (Na.au (Na.val m)))=>uQ x _ p w1 h OW (by omega);rw[Na.aJ]at C2 C3;have CC2:=Lib.hid C2;have CC3:=Lib.hid C3;clear C2 C3;have hn0:((n:Int)+1==0)=false:=by rw[beq_eq_false_iff_ne]; omega
 have HN:=Lib.hid hn;have HLN:=Lib.hid hln;have HVP:=Lib.hid hVp;clear hv hu hsh hp hn hln hVp hdm agT hne0;go_enter Tryz.func243,Tryz.ntmps243
 go_wp2_with fail
 refine C1.out.mono ?_;rintro e w1 ⟨t,rfl,ht,hb⟩;have HT:=Lib.hid (bf ht);have HB1:=Lib.hid hb;obtain⟨at',ct,rfl⟩:=EP ht;rw[HN.out]at HT ⊢;clear ht hb C1;go_wp2_with fail
 refine(CC2.out _ w1 HT.out).mono ?_;rintro e w2 ⟨rfl,hb⟩;have HB2:=Lib.hid (Ext.trans' HB1.out hb);have HT2:=Lib.hid (HT.out.below hb);clear hb CC2 HT;go_wp2_with fail
 refine(uQ _ l p w2 (HV.out.below HB2.out) OW (by omega)).mono ?_;rintro e w3 ⟨x,rfl,hx,hb⟩;have HB3:=Lib.hid (Ext.trans' HB2.out hb);have HX:=Lib.hid (bf hx);have HT3:=Lib.hid (HT2.out.below hb);obtain⟨ax,cx,rfl⟩:=EP hx;clear hb hx HT2;go_wp2_with fail
 refine(CC3.out _ w3 HT3.out).mono ?_;rintro e w4 ⟨y,rfl,hy,hb⟩;have HB4:=Lib.hid (Ext.trans' HB3.out hb);have HX4:=Lib.hid (HX.out.below hb);have HY4:=Lib.hid (bf hy);clear hb hy HX HT3 CC3;generalize hU:Na.val l*2^p=U at *;generalize hW:Na.val m*2^p=V at *;obtain⟨N,hNN⟩:∃N,(Na.au U).length=N:=⟨_,rfl⟩;have HNN:=Lib.hid hNN;have aiO:N≤maxLen:=by unfold maxLen; omega
 have aiP:4*N≤281474976710656:=by omega
 have hN6:N≤6000000:=by omega
 rw[hNN]at HX4 ⊢;clear hU hW hNN hlU;have hs4:=HB4.out.size;go_wp2_with (at_make; refine wpList_make_row rfl _ _ _ rfl kQ rfl w4.heap.size N rfl rfl rfl aiP aiO (Nat.le_refl _) ?_; intro w5 hown hg)
 have hb5:=iC (Below.refl w4.heap.size w4) hg (Nat.le_refl _);have hs5:w4.heap.size<w5.heap.size:=(hown.lt w4.heap.size rfl).2;have HO:=Lib.hid hown;have HB5:=Lib.hid hb5;clear hg hown hb5 hn0 aiN hbI;go_wp2_with fail
 go_loopw [12,13,14,15,16,17] (fun rv iv _ _ _ _ wr=>∃(k R:Nat) (q:List UInt32),k+q.length=N∧iv = .i ((k:Int)-1) ∧
  Na.val q*V+R=Na.val ((Na.au U).drop k)∧R<V∧ED (w4.heap.size+1) wr rv (Na.au R) ∧
  wr.ownsRow w4.heap.size 194 1 (.slice (some ⟨w4.heap.size,0,none⟩) N N) N ((List.replicate k 0++q).map aU)∧Ext w4 wr) (fun _ iv _ _ _ _ _=>(intOf iv+1).toNat)
 case atStart =>
  refine⟨N,0,[],by simp,rfl,?_,HVP.out,?_,?_,HB5.out.alloc (by omega) _⟩
  ·rw[List.drop_eq_nil_of_le (by rw[HNN.out]; exact Nat.le_refl _)]; simp[Na.val]
  ·exact World.ownsRow_lit w5 #[] 0 (by omega) (Nat.zero_le _) rfl
  have:=HO.out.alloc (.cells #[] 194);simpa[aU]using this
 case round =>
  obtain⟨k,R,q,hkq,rfl,hval,hR,hr,hown,hbel⟩:=hrel;have HKQ:=Lib.hid hkq;have nX:=Lib.hid hval;have HRR:=Lib.hid hr;have HW:=Lib.hid hown;have aj9:=hbel.size;have hkN:k≤N:=by omega
  clear hkq hval hr hown;cases k with
  | zero =>
   obtain⟨e1,e2,e3⟩:=hEq.out (Na.val q) R (by have:=nX.out; rw[List.drop_zero,Na.aJ]at this; exact this) hR;have HE:=Lib.hid (And.intro e1 (And.intro e2 e3));have hrow:aC wr (.slice (some ⟨w4.heap.size,0,none⟩) N N) q:=by
    have h1:=HKQ.out;have h2:=HW.out;simp only[List.replicate_zero,List.nil_append]at h2;exact qE (by omega) h2
   have HQ:=Lib.hid (dD _ q wr hrow (by have:=HKQ.out; omega));have hRow:=bf HRR.out;have hRl:(Na.au R).length≤6000000:=by
    have h1:=fQ (Nat.le_of_lt hR);rw[HLN.out]at h1; omega
   have afq:=Lib.hid hRow;have MS:=Lib.hid (Ext.trans' HB4.out hbel);clear e1 e2 e3 hrow hRow hEq hbel;go_wp2_with fail
   refine HQ.out.mono ?_;rintro e w6 ⟨x,rfl,hx,hb⟩;have HX6:=Lib.hid (fF hx MS.out.size);have HB6:=Lib.hid (Ext.trans' MS.out hb);have HR6:=Lib.hid (afq.out.below hb);clear hx hb HQ;rcases Nat.eq_zero_or_pos p with h0 | h0
   ·subst h0;have HS:=uQ _ _ 0 w6 HR6.out (by omega) (by omega);rw[Na.aJ,Nat.pow_zero,Nat.mul_one,HE.out.2.2 rfl]at HS;have HSS:=Lib.hid HS;clear HS;go_wp2_with fail
    refine HSS.out.mono ?_;rintro e w7 ⟨y,rfl,hy,hb⟩;have HY7:=Lib.hid (fF hy HB6.out.size);have HX7:=Lib.hid (jc HX6.out hb);have HB7:=Lib.hid (Ext.trans' HB6.out hb);clear hy hb;go_wp2_with fail
    go_ret3
    exact⟨_,_,rfl,by rw[←HE.out.1]; exact HX7.out,HY7.out,HB7.out⟩
   have HS:=Jm _ _ p w6 HR6.out h0 OW (by omega);rw[Na.aJ,HE.out.2.1]at HS;have HSS:=Lib.hid HS;clear HS;go_wp2_with fail
   refine HSS.out.mono ?_;rintro e w7 ⟨y,rfl,hy,hb⟩;have HY7:=Lib.hid (fF hy HB6.out.size);have HX7:=Lib.hid (jc HX6.out hb);have HB7:=Lib.hid (Ext.trans' HB6.out hb);clear hy hb;go_wp2_with fail
   go_ret3
   exact⟨_,_,rfl,by rw[←HE.out.1]; exact HX7.out,HY7.out,HB7.out⟩
  | succ j =>
   have hi:(((j+1:Nat):Int)-1)=(j:Int):=by omega
   rw[hi];clear hi;obtain⟨bx,ox,cx',hxs,hbx,hlx,hmx,hcx⟩:=eY HX4.out HNN.out (by omega);simp only[Value.slice.injEq]at hxs;obtain⟨rfl,-,rfl⟩:=hxs;have hjl:j<(Na.au U).length:=by rw[HNN.out]; omega
   have hck:wr.cell? ⟨bx,ox+j,none⟩=some (aU (Na.au U)[j]):=by rw[hbel.cell (p:=⟨bx,ox+j,none⟩) hbx]; exact hcx j hjl
   have HD:=Lib.hid (Na.qB (Na.au U) j hjl);clear hcx;generalize (Na.au U)[j]=x at *;have hxl:=x.toNat_lt;obtain⟨f1,f2,f3⟩:=Na.Xp (u:=x.toNat) HVP.out hR hxl nX.out;have HF:=Lib.hid (And.intro f1 (And.intro f2 f3));have hND:x.toNat+Na.B*R<Na.B*V:=by
    have h1:Na.B*(R+1)≤Na.B*V:=Nat.mul_le_mul_left _ hR;rw[Nat.mul_succ]at h1;have:x.toNat<Na.B:=hxl;omega
   have HND:=Lib.hid hND;have hRl:(Na.au R).length≤n+1:=by
    have h1:=fQ (Nat.le_of_lt hR);rw[HLN.out]at h1; exact h1
   have afq:=Lib.hid (bf HRR.out);obtain⟨ra,rc,rfl⟩:=EP HRR.out;have MS:=Lib.hid hbel;clear f1 f2 f3 hND hEq;go_wp2_with fail
   obtain⟨wo,rfl⟩:∃wo:World,wo=wr:=⟨_,rfl⟩;have ajB:(((Na.au R).length:Nat):Int)≤6000000:=by omega
   go_loopw [14,15] (fun nv kv wr=>∃i:Nat,i≤(Na.au R).length∧kv = .i i∧wr.ownsRow wo.heap.size 194 1 nv (1+i) ((x::(Na.au R).take i).map aU)∧Ext wo wr) (fun _ kv _=>(Na.au R).length-(intOf kv).toNat)
   case atStart=>exact⟨0,Nat.zero_le _,rfl,World.ownsRow_lit (base:=wo.heap.size) wo #[aU x] 1 (Nat.le_refl _) (by unfold maxLen; omega) rfl,aT _ _⟩
   case round =>
    obtain⟨i,hi,rfl,hown,hwi⟩:=hrel;have hsz:wo.heap.size≤wr.heap.size:=hwi.size;have h63:1+i+1≤maxLen:=by unfold maxLen; omega
    have hby:(1+i+1)*4≤140737488355328:=by omega
    by_cases hlt:i<(Na.au R).length
    ·obtain⟨br,or,cr,hxs,hbr,hlr,hmr,hcr⟩:=eY afq.out rfl (by omega);simp only[Value.slice.injEq]at hxs;obtain⟨rfl,-,-⟩:=hxs;have hck:wr.cell? ⟨br,or+i,none⟩=some (aU (Na.au R)[i]):=by rw[hwi.cell (p:=⟨br,or+i,none⟩) hbr]; exact hcr i hlt
     have HSN:Hid ((x::(Na.au R).take (i+1)).map aU=(x::(Na.au R).take i).map aU++[aU (Na.au R)[i]]):=by show _=_; rw[take_snoc (Na.au R) i hlt]; simp only[List.map_cons,List.map_append,List.map_nil,List.cons_append]
     clear hcr;generalize (Na.au R)[i]=d at *;have hr:=nY wr (aU d) 194 rfl;have hown':=hown.alloc (.cells #[aU d] 194);have hsz':wo.heap.size≤(wr.alloc (.cells #[aU d] 194)).heap.size:=by simp; omega
     clear hown;go_wp2_with (at_builtin; refine dL rfl _ _ _ rfl kQ wo.heap.size hown' rfl hr rfl h63 hby hsz' ?_; intro v2 w2 hown2 hg)
     go_roundw
     case rel =>
      refine⟨i+1,by omega,by go_num,?_,(hwi.alloc hsz _).grown hg hsz' (fun k hk=>(World.ownsRow.lt hown' k hk).1)⟩;rw[HSN.out]; exact hown2
     case measure=>simp[intOf]; omega
    obtain rfl:i=(Na.au R).length:=by omega
    rw[List.take_length]at hown;have hrow:=qE (l:=x::Na.au R) (by simp; omega) hown;have HN1:=dD _ (x::Na.au R) wr hrow (by simp; omega);have eN:Na.val (x::Na.au R)=x.toNat+Na.B*R:=by show _+_=_; rw[Na.aJ]
    rw[eN]at HN1;have HNO:=Lib.hid HN1;have HWI:=Lib.hid hwi;clear hrow HN1 eN hown hwi;generalize hNn:x.toNat+Na.B*R=X at *;have hlX:(Na.au X).length≤n+2:=by
     apply Na.dO;have h1:=HND.out;have h2:=(Qv HLN.out).2;have h3:Na.B*V<Na.B*Na.B^(n+1):=Nat.mul_lt_mul_of_pos_left h2 Na.kF;rw[Nat.mul_comm Na.B (Na.B^(n+1)),←Nat.pow_succ]at h3;exact Nat.lt_trans h1 h3
    go_wp2_with fail
    refine HNO.out.mono ?_;rintro e w6 ⟨z,rfl,hz,hb⟩;have HZ:=Lib.hid (bf hz);have HB6:=Lib.hid (Ext.trans' HWI.out hb);have aiQ:=Lib.hid (Ext.trans' MS.out HB6.out);have HOF:=YB z y (Na.au X) (Na.au V) n w6 HZ.out (HY4.out.below aiQ.out) HLN.out (YD (Na.gQ V) HLN.out) (by rw[Na.aJ,Na.aJ]; exact HND.out) (by omega) (by omega);rw[Na.aJ,Na.aJ]at HOF;have afr:=Lib.hid HOF;obtain⟨D,hD⟩:∃D,X/V=D:=⟨_,rfl⟩;rw[hD]at afr HF;have hDB:D<4294967296:=HF.out.2.1;clear hz hb HOF HNO hD;go_wp2_with fail
    refine afr.out.mono ?_;rintro e w7 ⟨y',rfl,hy,hb⟩;have HY7:=Lib.hid hy;have HB7:=Lib.hid (Ext.trans' HB6.out hb);have HW7:=Lib.hid (jc HW.out (Ext.trans' HB6.out hb));have aiR:=Lib.hid (Ext.trans' MS.out HB7.out);have hs6:w4.heap.size+1≤w6.heap.size:=by
     have h1:=(World.ownsRow.lt HW.out w4.heap.size rfl).2;have h2:=HB6.out.size;omega
    obtain⟨⟨cv,hcell⟩,hfz⟩:=qV HW7.out j (by omega);have hmod:(D:Int)%4294967296=((UInt32.ofNat D).toNat:Int):=dgI D;have hst:=(HW7.out.stored j (aU (UInt32.ofNat D)));rw[List.map_append,List.map_replicate,EH]at hst;have HST:=Lib.hid hst;have HDv:Hid ((UInt32.ofNat D).toNat=D):=bJ hDB;generalize UInt32.ofNat D=dd at *;clear hy hb afr hst HW;go_wp2_with fail
    go_roundw
    case rel =>
     have hD':=HDv.out;subst hD';refine⟨j,X%V,dd::q,?_,rfl,?_,HF.out.2.2,?_,?_,?_⟩
     ·have:=HKQ.out; simp; omega
     ·rw[HD.out,←HF.out.1];rfl
     ·exact ac6 (fF HY7.out hs6) (by omega) j _
     ·have:=HST.out.1;simpa[aU]using this
     exact aiR.out.setCell (p:=⟨w4.heap.size,j,none⟩) (Nat.le_refl _) _
    case measure=>simp[intOf]
end Go.Proofs.YtfmkkemfhjkajaaGreatDoor
