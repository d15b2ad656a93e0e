/- What the program's tables say of the slices of digits and of bytes. -/
import Derived.Test.YtodpgjjgaddkeaaGreatDoorPk1
import Derived.Test.YtodpgjjgaddkeaaGreatDoorShelf
import Derived.Lib.ItoaNum
set_option maxHeartbeats 800000
set_option maxRecDepth 100000
set_option linter.unusedVariables false
set_option linter.unusedSimpArgs false
namespace Go.Proofs.YtodpgjjgaddkeaaGreatDoor
open _root_.Go.Proofs.Tryz
theorem lK:iI prog 22 119 (.int .u32 0) 1 4:=⟨underlying22,info_parts (by kernel_rfl),rfl,by decide⟩
theorem yR:iI prog 53 5 (.u 0) 1 1:=⟨underlying53,info_parts (by kernel_rfl),rfl,by decide⟩
open Go.RowKit
variable{α:Type}
theorem FT(l:List UInt32)(k:Nat)(hk:k<l.length)(hv:Na.val (l.take (k+1))=Na.val l)(h:l[k]=0):Na.val (l.take k)=Na.val l:=by
 rw[←hv,Na.dn l k hk,h]; simp
theorem short_any(v:Value)(l:List UInt32)(w:World)(hv:aC w v l) :
  Calls prog 318 #[v] w fun e w'=>∃a,e = .returned (.slice a (Na.au (Na.val l)).length (Na.au (Na.val l)).length) ∧
   aC w (.slice a (Na.au (Na.val l)).length (Na.au (Na.val l)).length) (Na.au (Na.val l))∧w=w':=by
 have hv0:=azt hv;obtain⟨a,cap,rfl,hm,ha⟩:=hv;have hl:=qO hm ha;have hcap:l.length≤cap:=by
  rcases ha with ⟨rfl,_⟩ | ⟨_,_,_,_,h,_⟩
  ·simp
  exact h
 have HA:=azt ha;clear ha;unfold maxLen at hm;go_enter func318,ntmps318
 go_wp2
 go_loop [3] (fun i=>∃k:Nat,k≤l.length∧i = .i k∧Na.val (l.take k)=Na.val l) (fun i=>(intOf i).toNat)
 case atStart=>exact⟨l.length,azx _,rfl,by rw[aAn]⟩
 case round =>
  obtain⟨k,hk,rfl,hval⟩:=hrel;have HV:=azt hval;clear hval;by_cases h0:k=0
  ·subst h0;go_wp2
   go_ret
   have hD:Na.au (Na.val l)=l.take 0:=Na.kV (by omega) HV.out (.inl rfl);have hr:=ET (cap':=0) (n:=0) hv0.out (by omega) (by omega) (by unfold maxLen; omega) (fun _=>rfl);refine⟨a,by rw[hD]; rfl,by rw[hD]; exact hr,rfl⟩
  obtain⟨j,rfl⟩:∃j,k=j+1:=⟨k-1,by omega⟩;rcases HA.out with ⟨rfl,_⟩ | ⟨b,o,rfl,hb,hlc,hc⟩
  ·simp at hk
  have hck:=hc j (by omega);have hlt:j<l.length:=by omega
  clear hc;by_cases hz:l[j]=0
  ·have HE:=azt (FT l j hlt HV.out hz);rw[hz]at hck;go_wp2
   go_round
   case rel=>exact⟨j,by omega,by go_num,HE.out⟩
   case measure=>simp[intOf]
  have hzb:((l[j].toNat:Int)==0)=false:=by
   rw[azW]; intro e; exact hz (aA4.1 (by simp; omega))
  have HZ:=azt hz;clear hz;go_wp2
  go_ret
  have hD:Na.au (Na.val l)=l.take (j+1):=Na.kV (by omega) HV.out (.inr ⟨by omega,HZ.out⟩);have hr:=ET (cap':=j+1) (n:=j+1) hv0.out (by omega) (by omega) (by unfold maxLen; omega) (fun h=>by cases h);have e:(l.take (j+1)).length=j+1:=by simp; omega
  refine⟨_,by rw[hD,e]; rfl,by rw[hD,e]; exact hr,rfl⟩
theorem XE(v:Value)(l:List UInt32)(w:World)(hv:aC w v l)(hlen:l.length≤1000000000) :
  Calls prog 200 #[v] w fun e w'=>∃v',e = .returned v'∧w'.ownsRow w.heap.size 119 1 v' l.length (l.map aW)∧Ext w w':=by
 have hr:=hv.raw (fun _=>rfl);obtain⟨a,cap,rfl,hm,ha⟩:=hv;rcases a with _ | ad
 ·have hz:l=[]∧cap=0:=by
   rcases ha with ⟨h,h0⟩ | ⟨b,o,h,_⟩
   ·exact⟨h,h0 rfl⟩
   cases h
  obtain⟨rfl,rfl⟩:=hz;have hnil:=Lib.run_eql_slice_nil (P:=prog) w 22 119 none 0 0 0 0 underlying22;clear ha hr;go_enter func200,ntmps200
  go_wp2
  go_ret
  exact⟨_,rfl,aBW _ _ _ _,azS _ _⟩
 have hnil:=Lib.run_eql_slice_nil (P:=prog) w 22 119 (some ad) l.length cap 0 0 underlying22;have hown:=aBE (base:=w.heap.size) (e:=119) (size:=1) w #[] 0 (azx _) (azB _) rfl;have hr:=BX hr (.cells #[] 119);have h63:0+l.length≤maxLen:=by unfold maxLen; omega
 have hby:(0+l.length)*4≤140737488355328:=by omega
 clear ha;go_enter func200,ntmps200
 go_wp2_with (at_builtin; refine bM rfl _ _ _ rfl lK w.heap.size hown rfl hr rfl h63 hby (by simp) ?_; intro v' w' hown' hg)
 go_ret
 simp only[aAq,aAv]at hown';exact⟨_,rfl,by simpa using hown',((azS _ _).alloc (azx _) _).grown hg (by simp) (by simp[Value.ownBlock])⟩
theorem bY(l:List UInt32):(Na.au (Na.val l)).length≤l.length:=Na.bH (Na.dR l)
theorem oJ(v:Value)(l:List UInt32)(w:World)(hv:aC w v l)(hlen:l.length≤1000000000) :
  Calls prog 313 #[v] w fun e w'=>∃v',e = .returned v' ∧
   w'.ownsRow w.heap.size 119 1 v' (Na.au (Na.val l)).length ((Na.au (Na.val l)).map aW)∧Ext w w':=by
 have hd:=bY l;have HV:=azt hv;clear hv;go_enter func313,ntmps313
 go_wp2_with fail
 refine(short_any _ _ _ HV.out).mono ?_;rintro e w' ⟨a,rfl,hr,rfl⟩;generalize hx:Na.au (Na.val l)=m at hd hr;have HX:=azt hx;clear hx;go_wp2_with fail
 refine(XE _ _ _ hr (by omega)).mono ?_;rintro e w' ⟨v',rfl,ho,hb⟩;have HO:=azt ho;clear ho;go_wp2_with fail
 go_ret
 exact⟨_,rfl,by rw[HX.out]; exact HO.out,hb⟩
theorem gB(d:UInt32):IntKind.u64.wrap (d.toNat:Int)=(d.toNat:Int):=by
 have:=d.toNat_lt; rw[aAL]; omega
theorem Qe(x:UInt64):Na.val [x.toUInt32,(x>>>32).toUInt32]=x.toNat:=by
 have:=x.toNat_lt;simp[Na.val,Na.B,UInt64.toNat_shiftRight,Nat.shiftRight_eq_div_pow];omega
theorem xq(x:UInt64):(x.toNat:Int)%(4294967296:Int)=(x.toUInt32.toNat:Int):=by simp
theorem Ns(x:UInt64):(x.toNat:Int)/(4294967296:Int)=((x>>>32).toNat:Int):=by
 rw[UInt64.toNat_shiftRight]; simp[Nat.shiftRight_eq_div_pow]
theorem qh(x:UInt64)(w:World) :
  Calls prog 294 #[afM x] w fun e w'=>∃v',e = .returned v' ∧
   w'.ownsRow w.heap.size 119 1 v' (Na.au x.toNat).length ((Na.au x.toNat).map aW)∧Ext w w':=by
 have hr:aC (w.alloc (.cells #[aW x.toUInt32,aW (x>>>32).toUInt32] 119)) (.slice (some ⟨w.heap.size,0,none⟩) 2 2) [x.toUInt32,(x>>>32).toUInt32]:=
  Nu w [x.toUInt32,(x>>>32).toUInt32] _ (by unfold maxLen; simp)
 have hb1:=aF w (.cells #[aW x.toUInt32,aW (x>>>32).toUInt32] 119);have hc:=oJ _ _ _ hr (by simp);rw[Qe]at hc;have HC:=azt hc;clear hc;go_enter func294,ntmps294
 go_wp2_with fail
 rw[xq,Ns,xq];refine HC.out.mono ?_;rintro e w' ⟨v',rfl,ho,hb⟩;have HO:=azt (aY ho hb1.size);clear ho HC;go_wp2_with fail
 go_ret
 exact⟨_,rfl,HO.out,Ext.trans' hb1 hb⟩
theorem pR(v:Value)(l:List UInt32)(i:Nat)(w:World)(hv:aC w v l)(hi:i≤4000000000) :
  Calls prog 332 #[v,.i i] w fun e w'=>e = .returned (.int .u64 ((l.getD i 0).toNat:Int))∧w=w':=by
 obtain⟨a,cap,rfl,hm,ha⟩:=hv;have hl:=qO hm ha;have HA:=azt ha;clear ha;by_cases hlt:i<l.length
 ·rcases HA.out with ⟨rfl,_⟩ | ⟨b,o,rfl,hb,hlc,hc⟩
  ·simp at hlt
  have hck:=hc i hlt;clear hc;have e:l.getD i 0=l[i]:=by simp[List.getD,List.getElem?_eq_getElem hlt]
  rw[e];go_enter func332,ntmps332
  go_wp2
  go_ret
  exact⟨jv (gB _),rfl⟩
 have e:l.getD i 0=0:=by simp[List.getD,List.getElem?_eq_none (Nat.le_of_not_lt hlt)]
 rw[e];go_enter func332,ntmps332
 go_wp2
 go_ret
 exact⟨rfl,rfl⟩
def qF(a b:Nat):Int:=if a<b then -1 else if b<a then 1 else 0
theorem afN(a b:List UInt32)(h:a.length=b.length)(k:Nat)(hk:k<a.length)(he:a.drop (k+1)=b.drop (k+1)) :
  (a[k]<b[k]'(by omega)→Na.val a<Na.val b)∧(b[k]'(by omega)<a[k]→Na.val b<Na.val a):=by
 have ha:=Na.iT a k (by omega);have hb:=Na.iT b k (by omega);rw[Na.nI a k hk]at ha;rw[Na.nI b k (by omega),←he]at hb;have la:=Na.dR (a.take k);have lb:=Na.dR (b.take k);have ea:(a.take k).length=k:=by simp; omega
 have eb:(b.take k).length=k:=by simp; omega
 rw[ea]at la;rw[eb]at lb;have key:∀x y z:Nat,x<y→Na.B^k*(x+Na.B*z)+Na.B^k≤Na.B^k*(y+Na.B*z):=by
  intro x y z hxy;rw[←aAV];exact aAe _ (by omega)
 constructor
 ·intro hlt;have:=key _ _ (Na.val (a.drop (k+1))) (UInt32.lt_iff_toNat_lt.1 hlt);omega
 intro hlt;have:=key _ _ (Na.val (a.drop (k+1))) (UInt32.lt_iff_toNat_lt.1 hlt);omega
theorem XF{a b:List UInt32}(ha:Na.norm a)(hb:Na.norm b)(h:a.length<b.length):Na.val a<Na.val b:=by
 have h1:=Na.dR a;have h2:=Na.BZ hb (by omega);have h3:Na.B^a.length≤Na.B^(b.length-1):=aAy Na.jU (by omega);omega
theorem Ar{a b:Nat}(h:a<b):qF a b = -1:=by unfold qF; rw[azv h]
theorem EU{a b:Nat}(h:b<a):qF a b=1:=by unfold qF; rw[azu (by omega),azv h]
theorem XG{a b:Nat}(h:a=b):qF a b=0:=by unfold qF; rw[azu (by omega),azu (by omega)]
theorem Au(v u:Value)(l m:List UInt32)(w:World)(hv:aC w v l)(hu:aC w u m) :
  Calls prog 320 #[v,u] w fun e w'=>e = .returned (.i (qF (Na.val l) (Na.val m)))∧Ext w w':=by
 have na:=Na.gG (Na.val l);have nb:=Na.gG (Na.val m);have ea:=Na.aB (Na.val l);have eb:=Na.aB (Na.val m);have hll:(Na.au (Na.val l)).length≤maxLen:=azQ (bY l) hv.len;have hlm:(Na.au (Na.val m)).length≤maxLen:=azQ (bY m) hu.len;have H1:=azt hv;have H2:=azt hu;have C1:=azt (short_any v l w hv);have C2:=azt (short_any u m w hu);clear hv hu;unfold maxLen at hll hlm;rw[←ea,←eb];generalize Na.au (Na.val l)=a at *;generalize Na.au (Na.val m)=b at *;have EA:=azt ea;have EB:=azt eb;have NA:=azt na;have NB:=azt nb;clear ea eb na nb;go_enter func320,ntmps320
 go_wp2_with fail
 refine C1.out.mono ?_;rintro e w' ⟨x,rfl,hx,rfl⟩;go_wp2_with fail
 refine C2.out.mono ?_;rintro e w' ⟨y,rfl,hy,rfl⟩;clear C1 C2 H1 H2;rcases aB4 a.length b.length with hlt | heq | hgt
 ·have hne:((a.length:Int) != (b.length:Int))=true:=by rw[bne_iff_ne]; omega
  have hr:=azt (Ar (XF NA.out NB.out hlt));go_wp2_with fail
  go_ret
  exact⟨by rw[hr.out]; rfl,azS _ _⟩
 ·have hne:((a.length:Int) != (b.length:Int))=false:=by rw[bne_eq_false_iff_eq]; omega
  have HQ:=azt heq;clear heq;go_wp2_with fail
  rw[HQ.out]at hx ⊢;rw[HQ.out]at hll;go_loopw [5] (fun i wr=>∃k:Nat,k≤b.length∧i = .i ((k:Int)-1)∧a.drop k=b.drop k∧Ext w wr) (fun i _=>(intOf i+1).toNat)
  case atStart=>exact⟨b.length,azx _,rfl,by rw[List.drop_length,←HQ.out,List.drop_length],azS _ _⟩
  case round =>
   obtain⟨k,hk,rfl,hd,hbel⟩:=hrel;have HD:=azt hd;clear hd;cases k with
   | zero =>
    have hr:=azt (XG (azH Na.val (show a=b from HD.out)));go_wp2_with fail
    go_ret
    exact⟨by rw[hr.out]; rfl,hbel⟩
   | succ j =>
    have hi:(((j+1:Nat):Int)-1)=(j:Int):=by omega
    rw[hi];obtain⟨bx,ox,cx,hxs,hbx,hlx,hmx,hcx⟩:=dM hx HQ.out (by omega);obtain⟨by',oy,cy,hys,hby,hly,hmy,hcy⟩:=dM hy rfl (by omega);simp only[az4]at hxs hys;obtain⟨rfl,-,-⟩:=hxs;obtain⟨rfl,-,-⟩:=hys;have hja:j<a.length:=by rw[HQ.out]; omega
    have c1:wr.cell? ⟨bx,ox+j,none⟩=some (aW a[j]):=by rw[hbel.cell (p:=⟨bx,ox+j,none⟩) hbx]; exact hcx j hja
    have c2:wr.cell? ⟨by',oy+j,none⟩=some (aW b[j]):=by rw[hbel.cell (p:=⟨by',oy+j,none⟩) hby]; exact hcy j (by omega)
    clear hcx hcy;have hj1:(0:Int)≤j:=by omega
    have hj2:(j:Int)<b.length:=by omega
    have hcmp:=azt (afN a b HQ.out j hja HD.out);have hdrop:Hid (a[j]=b[j]→a.drop j=b.drop j):=fun e=>by
     rw[aAG hja,aAG (show j<b.length by omega),e,HD.out]
    rcases aB4 a[j].toNat b[j].toNat with h1 | h1 | h1
    ·have hr:=azt (Ar (hcmp.out.1 (UInt32.lt_iff_toNat_lt.2 h1)));have h1':(a[j].toNat:Int)<b[j].toNat:=by omega
     go_wp2_with fail
     go_quiet (fail)
     go_wp2_with fail
     go_ret
     exact⟨by rw[hr.out]; rfl,below_drewN hbel _⟩
    ·have h1':¬(a[j].toNat:Int)<b[j].toNat:=by omega
     have h2':¬(b[j].toNat:Int)<a[j].toNat:=by omega
     have HE:=azt h1;clear h1;go_wp2_with fail
     go_quiet (fail)
     go_wp2_with fail
     go_quiet (fail)
     go_wp2_with fail
     go_roundw
     case rel=>exact⟨j,by omega,rfl,hdrop.out (aA4.1 HE.out),below_drewN hbel _⟩
     case measure=>simp[intOf]
    have hr:=azt (EU (hcmp.out.2 (UInt32.lt_iff_toNat_lt.2 h1)));have h1':¬(a[j].toNat:Int)<b[j].toNat:=by omega
    have h2':(b[j].toNat:Int)<a[j].toNat:=by omega
    go_wp2_with fail
    go_quiet (fail)
    go_wp2_with fail
    go_quiet (fail)
    go_wp2_with fail
    go_ret
    exact⟨by rw[hr.out]; rfl,below_drewN (below_drewN hbel _) _⟩
 have hne:((a.length:Int) != (b.length:Int))=true:=by rw[bne_iff_ne]; omega
 have hr:=azt (EU (XF NB.out NA.out hgt));go_wp2_with fail
 go_ret
 exact⟨by rw[hr.out]; rfl,azS _ _⟩
open Go.RowKit
variable{α:Type}
theorem afO(r:Nat)(x:UInt32)(h:r<4294967296):bits .or .u64 ((r:Int)*4294967296) (IntKind.u64.wrap (x.toNat:Int))=((r*4294967296+x.toNat:Nat):Int):=by
 have hx:=x.toNat_lt;rw[gB];have e:((r:Int)*4294967296)=((r*4294967296:Nat):Int):=by simp
 rw[e,u64_or_nat _ _ (by omega) (by omega),nat_join 32 _ _ (by omega) (by omega)]
theorem Qg(a b:Nat):(a:Int).tdiv (b:Int)=((a/b:Nat):Int):=by
 rw[Int.tdiv_eq_ediv_of_nonneg (Int.natCast_nonneg _)]; rfl
theorem bV{n:Nat}(h:n<4294967296):(UInt32.ofNat n).toNat=n:=by simp; omega
theorem Zz(N d:Nat)(hd:0<d)(hd2:d<4294967296)(h:N<d*4294967296) :
  IntKind.u64.wrap ((N:Int)/(d:Int))%(4294967296:Int)=((UInt32.ofNat (N/d)).toNat:Int):=by
 have hq:N/d<4294967296:=aBC h;rw[bV hq,aAL];have e:(N:Int)/(d:Int)=((N/d:Nat):Int):=rfl;rw[e];generalize N/d=q at hq;omega
theorem afP(q r d n:Nat)(h:q*d+r=n)(hr:r<d):q=n/d∧r=n%d:=by
 subst h;have:0<d:=by omega
 rw[aBj,aAa,aB5 _ _ this,aB6 hr,Nat.add_mul_mod_self_left,aBl hr];omega
theorem one_any(v:Value)(l:List UInt32)(d:UInt32)(w:World)(hv:aC w v l)(hd:0<d.toNat)(hlen:l.length≤1000000000) :
  Calls prog 321 #[v,aW d] w fun e w'=>∃v',e = .returned (.tuple #[v',.int .u32 ((Na.val l%d.toNat:Nat):Int)]) ∧
   aC w' v' (Na.au (Na.val l/d.toNat))∧Ext w w':=by
 have hv0:=azt hv;obtain⟨a,cap,rfl,hm,ha⟩:=hv;have HA:=azt ha;clear ha;have h63:l.length≤maxLen:=by unfold maxLen; omega
 have hby:4*l.length≤281474976710656:=by omega
 have hdl:=d.toNat_lt;go_enter func321,ntmps321
 go_wp2_with (at_make; refine wpList_make_row rfl _ _ _ rfl lK rfl w.heap.size l.length rfl rfl rfl hby h63 (azx _) ?_; intro w1 hown hg)
 have hb1:=gq (azS w.heap.size w) hg (azx _);clear hg;have HO:=azt hown;clear hown;go_loopw [7,8] (fun r i wr=>∃(k rest:Nat) (q:List UInt32),k+q.length=l.length∧i = .i ((k:Int)-1)∧r = .int .u64 rest∧rest<d.toNat ∧
  Na.val q*d.toNat+rest=Na.val (l.drop k)∧wr.ownsRow w.heap.size 119 1 (.slice (some ⟨w.heap.size,0,none⟩) l.length l.length) l.length ((List.replicate k 0++q).map aW)∧Ext w wr) (fun _ i _=>(intOf i+1).toNat)
 case atStart=>exact⟨l.length,0,[],by simp,rfl,rfl,hd,by simp[Na.val],by simpa[aW]using HO.out,hb1⟩
 case round =>
  obtain⟨k,rest,q,hkq,rfl,rfl,hr,hval,hown,hbel⟩:=hrel;have HV:=azt hval;have HK:=azt hkq;have HW:=azt hown;have hkl:k≤l.length:=by omega
  clear hval hkq hown;cases k with
  | zero =>
   simp only[aBL,aAv]at HW;simp only[aAq]at HK;have hrow:aC wr (.slice (some ⟨w.heap.size,0,none⟩) l.length l.length) q:=by
    have:=HW.out; rw[←HK.out]at this ⊢; exact aV this
   have hq:=afP (Na.val q) rest d.toNat (Na.val l) (by have:=HV.out; simpa using this) hr;have HQ:=azt hq;clear hq HO;go_wp2_with fail
   refine(short_any _ _ _ hrow).mono ?_;rintro e w' ⟨a',rfl,hs,rfl⟩;have hrm:(rest:Int)%4294967296=rest:=by omega
   go_wp2_with fail
   go_ret2
   rw[HQ.out.1]at hs ⊢;exact⟨_,by rw[HQ.out.2]; rfl,hs,hbel⟩
  | succ j =>
   have hi:(((j+1:Nat):Int)-1)=(j:Int):=by omega
   rw[hi];rcases HA.out with ⟨rfl,_⟩ | ⟨b,o,rfl,hb,hlc,hc⟩
   ·simp at hkl
   have hck:wr.cell? ⟨b,o+j,none⟩=some (aW l[j]):=by rw[hbel.cell (p:=⟨b,o+j,none⟩) hb]; exact hc j (by omega)
   clear hc hi;obtain⟨N,hN⟩:∃N,N=rest*4294967296+l[j].toNat:=⟨_,rfl⟩;have hor:bits .or .u64 ((rest:Int)*4294967296) (IntKind.u64.wrap (l[j].toNat:Int))=(N:Int):=by rw[hN]; exact afO rest l[j] (by omega)
   have HN:=azt hN;have hlen2:(List.replicate (j+1) (0:UInt32)++q).length=l.length:=by have:=HK.out; simp; omega
   have hcell:=HW.out.cellAt j (by omega);rw[List.getElem?_map,List.getElem?_append_left (by simp),List.getElem?_replicate,azv (by omega),aAj]at hcell;have hfz:=HW.out.frozenAt j;have hst:=HW.out.stored j (aW (UInt32.ofNat (N/d.toNat)));rw[aAo,aB7,EW]at hst;have HS:=azt hst;clear hN hst HO;go_wp2_with fail
   go_roundw
   case rel =>
    have hNd:N<d.toNat*4294967296:=by have:=HN.out; have:=l[j].toNat_lt; have:=aAW 4294967296 (show rest+1≤d.toNat from hr); omega
    rw[Zz N d.toNat hd hdl hNd,show(N:Int)%(d.toNat:Int)=((N%d.toNat:Nat):Int)from rfl];refine⟨j,N%d.toNat,UInt32.ofNat (N/d.toNat)::q,?_,rfl,rfl,aAK _ hd,?_,?_,?_⟩
    ·have:=HK.out; simp; omega
    ·rw[Na.nI l j (by omega),←HV.out];have e:(UInt32.ofNat (N/d.toNat)).toNat=N/d.toNat:=bV (by exact aBC hNd);have:=aA5 N d.toNat;have h2:=HN.out;simp only[Na.val,Na.B,e];rw[aAX,aAa (N/d.toNat)];rw[azU,aAg];omega
    ·simpa[aW]using HS.out.1
    exact hbel.setCell (p:=⟨w.heap.size,j,none⟩) (azx _) _
   case measure=>simp[intOf]
open Go.RowKit
variable{α:Type}
theorem ab4(r:Nat)(x:Nat)(h:r<4294967296)(hx:x<4294967296):bits .or .u64 (x:Int) ((r:Int)*4294967296)=((x+Na.B*r:Nat):Int):=by
 have e:((r:Int)*4294967296)=((r*4294967296:Nat):Int):=by simp
 rw[e,u64_or_nat _ _ (by omega) (by omega),Nat.or_comm,nat_join 32 _ _ (by omega) (by omega)];congr 1;unfold Na.B; omega
theorem ab5{β:Type}(l:List β)(z:β)(i:Nat)(h:i<l.length):(l.take i++List.replicate (l.length-i) z).set i l[i]=l.take (i+1)++List.replicate (l.length-(i+1)) z:=by
 obtain⟨k,hk⟩:∃k,l.length-i=k+1:=⟨l.length-i-1,by omega⟩;rw[hk,show l.length-(i+1)=k by omega,List.set_append,aBF];have e:(l.take i).length=i:=by simp; omega
 rw[e,azu (by omega),aBw,List.set_cons_zero,take_snoc l i h,azO];rfl
theorem Kw(N p:Nat):(N:Int)/2^p%(4294967296:Int)=((UInt32.ofNat (N/2^p)).toNat:Int):=by simp
theorem UQ(v:Value)(l:List UInt32)(p:Nat)(w:World)(hv:aC w v l)(hp:0<p)(hp2:p≤31)(hlen:l.length≤1000000000) :
  Calls prog 323 #[v,.i (-(p:Int))] w fun e w'=>∃a,e = .returned (.slice a (Na.au (Na.val l/2^p)).length (Na.au (Na.val l/2^p)).length) ∧
   aC w' (.slice a (Na.au (Na.val l/2^p)).length (Na.au (Na.val l/2^p)).length) (Na.au (Na.val l/2^p))∧Ext w w':=by
 have hd:=bY l;have ea:=Na.aB (Na.val l);have C1:=azt (short_any v l w hv);clear hv;rw[←ea];generalize Na.au (Na.val l)=a at *;have EA:=azt ea;clear ea;have hneg : -(p:Int)<0:=by omega
 by_cases h0:a.length=0
 ·obtain rfl:a=[]:=aAO h0;go_enter func323,ntmps323
  go_wp2_with fail
  refine C1.out.mono ?_;rintro e w' ⟨x,rfl,hx,rfl⟩;go_wp2_with fail
  go_ret
  exact⟨none,by simp[Na.val,Na.au,Na.kK],by simpa[Na.val,Na.au,Na.kK]using EX w,azS _ _⟩
 have h1:0<a.length:=by omega
 have h63:a.length≤maxLen:=by unfold maxLen; omega
 have hby:4*a.length≤281474976710656:=by omega
 go_enter func323,ntmps323
 go_wp2_with fail
 refine C1.out.mono ?_;rintro e w' ⟨x,rfl,hx,rfl⟩;have hn1:¬-(p:Int) ≤ -32*(a.length:Int):=by omega
 have ZA:(p:Int)/32=0:=by omega
 have ai4:(p:Int)%32=(p:Int):=by omega
 go_wp2_with (at_make; refine wpList_make_row rfl _ _ _ rfl lK rfl w.heap.size a.length rfl rfl rfl hby h63 (azx _) ?_; intro w1 hown hg)
 have hb1:=gq (azS w.heap.size w) hg (azx _);clear hg;have HO:=azt hown;clear hown ZA hn1;have hsl:=Na.yU p a;go_loopw [37] (fun i wr=>∃k:Nat,k≤a.length∧i = .i k∧wr.ownsRow w.heap.size 119 1 (.slice (some ⟨w.heap.size,0,none⟩) a.length a.length) a.length (((Na.shr p a).take k++List.replicate ((Na.shr p a).length-k) 0).map aW)∧Ext w wr) (fun i _=>a.length-(intOf i).toNat)
 case atStart=>exact⟨0,by omega,rfl,by simpa[aW,hsl]using HO.out,hb1⟩
 case round =>
  obtain⟨k,hk,rfl,hown,hbel⟩:=hrel;have HW:=azt hown;have hx1:=hx.below hbel;clear hown;by_cases hlt:k<a.length
  ·have g0:=(a.getD k 0).toNat_lt;have g1:=(a.getD (k+1) 0).toNat_lt;have hget:=Na.XH p a k hlt;have d0:=pR _ a k _ hx1 (by omega);have d1:=pR _ a (k+1) _ hx1 (by omega);generalize (a.getD k 0).toNat=D0 at *;generalize (a.getD (k+1) 0).toNat=D1 at *;have hor:=ab4 D1 D0 g1 g0;generalize hN:D0+Na.B*D1=N at *;obtain⟨⟨cv,hcell⟩,hfz⟩:=qP HW.out k hlt;have HG:=azt hget;have HSL:=azt hsl;have E0:=azt d0;have E1:=azt d1;clear hget hsl hN d0 d1;go_wp2_with fail
   refine E0.out.mono ?_;rintro e w' ⟨rfl,rfl⟩;go_wp2_with fail
   refine E1.out.mono ?_;rintro e w' ⟨rfl,rfl⟩;go_wp2_with fail
   go_roundw
   case rel =>
    have hst:=HW.out.stored k (aW ((Na.shr p a)[k]'(by rw[HSL.out]; exact hlt)));rw[←aBb,ab5 _ _ k (by rw[HSL.out]; exact hlt)]at hst;rw[HG.out]at hst;rw[Kw];exact⟨k+1,by omega,by go_num,hst.1,hbel.setCell (p:=⟨w.heap.size,k,none⟩) (azx _) _⟩
   case measure=>simp[intOf]; omega
  obtain rfl:k=a.length:=by omega
  have hrow:aC wr (.slice (some ⟨w.heap.size,0,none⟩) a.length a.length) (Na.shr p a):=by
   have:=HW.out;rw[←hsl,aAn,aBw,aBL,aAA]at this;have h2:=aV this;rw[hsl]at h2; exact h2
  have hs:=short_any _ _ _ hrow;rw[Na.XI p (by omega)]at hs;have HS:=azt hs;clear hs hrow;go_wp2_with fail
  refine HS.out.mono ?_;rintro e w' ⟨a',rfl,hr,rfl⟩;have HR:=azt hr;clear hr;go_wp2_with fail
  go_ret
  exact⟨_,rfl,HR.out,hbel⟩
theorem wide(c:UInt32)(p:Nat)(h:p≤31):IntKind.u64.wrap (IntKind.u64.wrap (c.toNat:Int)*2^p)=((c.toNat*2^p:Nat):Int):=by
 have hc:=c.toNat_lt;have hp:2^p≤2^31:=aAy (by omega) h;have hm:c.toNat*2^p≤4294967296*2^31:=aBa (by omega) hp;have e:(c.toNat:Int)*2^p=((c.toNat*2^p:Nat):Int):=by simp
 rw[gB,e,aAL];omega
theorem ai5(t:UInt32)(c p:Nat)(hp:p≤31)(ht:t.toNat<2^p) :
  bits .or .u32 (t.toNat:Int) (((c*2^p:Nat):Int)%4294967296)=((UInt32.ofNat (t.toNat+c*2^p%Na.B)).toNat:Int)∧t.toNat+c*2^p%Na.B<Na.B:=by
 have hB:=Na.Ky p (by omega);have h2:0<2^p:=aAY p;have e1:c*2^p%Na.B=c%2^(32-p)*2^p:=by
  rw[hB,aAa c,Nat.mul_mod_mul_left,aAa]
 have e2:c%2^(32-p)+1≤2^(32-p):=aAK _ (aAY _);have e3:c*2^p%Na.B+2^p≤Na.B:=by
  rw[e1,←Nat.succ_mul,hB,aAa (2^p)]; exact aAW _ e2
 have hlt:t.toNat+c*2^p%Na.B<Na.B:=by omega
 refine⟨?_,hlt⟩;have e4:((c*2^p:Nat):Int)%4294967296=((c*2^p%Na.B:Nat):Int):=by simp[Na.B]
 have hB':Na.B=4294967296:=rfl;rw[e4,u32_or_nat _ _ t.toNat_lt (by omega),Nat.or_comm,nat_join p _ _ (by rw[e1]; simp) ht,bV (by omega),aBj]
theorem afQ{β:Type}(q:List β)(t x y z:β)(k m:Nat)(hq:q.length=k):((q++t::List.replicate (m+1) z).set k x).set (k+1) y=(q++[x])++y::List.replicate m z:=by
 subst hq;rw[List.set_append,azu (by omega),aBw,List.set_cons_zero,List.set_append,azu (by omega),aCd,aBF];simp
theorem yV(v:Value)(l:List UInt32)(p:Nat)(w:World)(hv:aC w v l)(hp2:p≤31)(hlen:l.length≤1000000000) :
  Calls prog 323 #[v,.i p] w fun e w'=>∃a,e = .returned (.slice a (Na.au (Na.val l*2^p)).length (Na.au (Na.val l*2^p)).length) ∧
   aC w' (.slice a (Na.au (Na.val l*2^p)).length (Na.au (Na.val l*2^p)).length) (Na.au (Na.val l*2^p))∧Ext w w':=by
 have hd:=bY l;have ea:=Na.aB (Na.val l);have C1:=azt (short_any v l w hv);clear hv;rw[←ea];generalize Na.au (Na.val l)=a at *;have EA:=azt ea;clear ea;have h63:a.length+1≤maxLen:=by unfold maxLen; omega
 have hby:4*(a.length+1)≤281474976710656:=by omega
 have ZA:(p:Int)/32=0:=by omega
 have ai4:(p:Int)%32=(p:Int):=by omega
 have hmin:min (p:Int) 4096=(p:Int):=by omega
 go_enter func323,ntmps323
 go_wp2_with fail
 refine C1.out.mono ?_;rintro e w' ⟨x,rfl,hx,rfl⟩;go_wp2_with (at_make; refine wpList_make_row rfl _ _ _ rfl lK rfl w.heap.size (a.length+1) rfl rfl rfl hby h63 (azx _) ?_; intro w1 hown hg)
 have hb1:=gq (azS w.heap.size w) hg (azx _);clear hg;have HO:=azt hown;clear hown;go_loopw [76] (fun i wr=>∃(k:Nat) (q:List UInt32) (t:UInt32),k≤a.length∧i = .i k∧q.length=k∧t.toNat<2^p∧Na.val (q++[t])=Na.val (a.take k)*2^p ∧
  wr.ownsRow w.heap.size 119 1 (.slice (some ⟨w.heap.size,0,none⟩) (a.length+1) (a.length+1)) (a.length+1) ((q++t::List.replicate (a.length-k) 0).map aW)∧Ext w wr) (fun i _=>a.length-(intOf i).toNat)
 case atStart=>exact⟨0,[],0,by omega,rfl,rfl,by simpa using aAY p,by simp[Na.val],by simpa[aW,aBF]using HO.out,hb1⟩
 case round =>
  obtain⟨k,q,t,hk,rfl,hq,ht,hval,hown,hbel⟩:=hrel;have HW:=azt hown;have hx1:=hx.below hbel;have HV:=azt hval;have HT:=azt ht;have HQ:=azt hq;clear hown hval ht hq HO;by_cases hlt:k<a.length
  ·obtain⟨bx,ox,cx,hxs,hbx,hlx,hmx,hcx⟩:=dM hx1 rfl (by omega);simp only[az4]at hxs;obtain⟨rfl,-,-⟩:=hxs;have hck:=hcx k hlt;clear hcx;have ho1:=HW.out.cellAt k (by omega);have hfz:=HW.out.frozenAt k;have hfz1:=HW.out.frozenAt (k+1);obtain⟨⟨cv,hcell1⟩,_⟩:=qP HW.out (k+1) (by omega);rw[List.getElem?_map,List.getElem?_append_right (by rw[HQ.out]; omega),HQ.out,aBw,List.getElem?_cons_zero,aAj]at ho1;have HA:=azt (Na.dn a k hlt);generalize a[k]=c at hck HA;go_wp2_with fail
   go_roundw
   case rel =>
    obtain⟨o1,o2⟩:=ai5 t c.toNat p hp2 HT.out;have hq:=HQ.out;have ht:=HT.out;obtain⟨m,hm⟩:∃m,a.length-k=m+1:=⟨a.length-k-1,by omega⟩;have hst:=(HW.out.stored k (aW (UInt32.ofNat (t.toNat+c.toNat*2^p%Na.B)))).1;have hst2:=(hst.stored (k+1) (aW (UInt32.ofNat (c.toNat*2^p/Na.B)))).1;rw[hm,←aBb,←aBb,afQ q t _ _ 0 k m hq]at hst2;have hhi:c.toNat*2^p/Na.B<2^p:=by
     refine aBC ?_;have hc:=c.toNat_lt;exact aCi hc (aAY p)
    have ai6:c.toNat*2^p/Na.B<4294967296:=by
     have:2^p≤2^31:=aAy (by omega) hp2;omega
    have e5:((c.toNat*2^p:Nat):Int)/4294967296%4294967296=((UInt32.ofNat (c.toNat*2^p/Na.B)).toNat:Int):=by
     rw[bV ai6];have:((c.toNat*2^p:Nat):Int)/4294967296=((c.toNat*2^p/Na.B:Nat):Int):=by simp[Na.B]
     rw[this]; omega
    rw[wide c p hp2,o1,e5];refine⟨k+1,q++[UInt32.ofNat (t.toNat+c.toNat*2^p%Na.B)],UInt32.ofNat (c.toNat*2^p/Na.B),by omega,by go_num,by simp[hq],by rw[bV ai6]; exact hhi,?_,?_,?_⟩
    ·have hv:=HV.out;rw[Na.je,hq]at hv;rw[Na.je,Na.je,HA.out,aAX,←hv,bV o2,bV ai6,azz,hq];have:=aA5 (c.toNat*2^p) Na.B;simp only[aAb,aAH,aAd];generalize c.toNat*2^p/Na.B=hi at *;generalize c.toNat*2^p%Na.B=lo at *;rw[aAg (Na.B^k) c.toNat,←this,azU,azU,←aAg (Na.B^k) Na.B hi];omega
    ·rw[show a.length-(k+1)=m by omega]; exact hst2
    exact(hbel.setCell (p:=⟨w.heap.size,k,none⟩) (azx _) _).setCell (p:=⟨w.heap.size,k+1,none⟩) (azx _) _
   case measure=>simp[intOf]; omega
  obtain rfl:k=a.length:=by omega
  have hrow:aC wr (.slice (some ⟨w.heap.size,0,none⟩) (a.length+1) (a.length+1)) (q++[t]):=by
   have:=HW.out;rw[aBw,aBL]at this;have e:(q++[t]).length=a.length+1:=by have:=HQ.out; simp[this]
   have h2:=aV (l:=q++[t]) (by rw[e]; exact this);exact h2
  have hs:=short_any _ _ _ hrow;have hv:=HV.out;rw[aAn]at hv;rw[hv]at hs;have HS:=azt hs;clear hs hrow hv;go_wp2_with fail
  refine HS.out.mono ?_;rintro e w' ⟨a',rfl,hr,rfl⟩;have HR:=azt hr;clear hr;go_wp2_with fail
  go_ret
  exact⟨_,rfl,HR.out,hbel⟩
def bl(n:Nat):Nat:=if n=0 then 0 else Nat.log2 n+1
theorem amf{n k:Nat}(h1:2^k≤n)(h2:n<2^(k+1)):bl n=k+1:=by
 have h0:n≠0:=by have:=aAY k; omega
 unfold bl;rw[azu h0,(Nat.log2_eq_iff h0).2 ⟨h1,h2⟩]
theorem XJ(a:List UInt32)(x:UInt32)(hx:x≠0)(c:Nat)(h1:2^(c-1)≤x.toNat)(h2:x.toNat<2^c)(h3:1≤c):bl (Na.val (a++[x]))=32*a.length+c:=by
 have hv:=Na.je a x;have hl:=Na.dR a;have hB:Na.B^a.length=2^(32*a.length):=by rw[Nat.pow_mul]; rfl
 rw[hB]at hv hl;have e:32*a.length+c=(32*a.length+(c-1))+1:=by omega
 rw[e];apply amf
 ·rw[hv,aBo];have:=aAe (2^(32*a.length)) h1;omega
 rw[hv,show 32*a.length+(c-1)+1=32*a.length+c by omega,aBo];have:=aAe (2^(32*a.length)) (show x.toNat+1≤2^c by omega);rw[azU]at this;omega
theorem FV(v:Value)(l:List UInt32)(w:World)(hv:aC w v l)(hlen:l.length≤1000000000) :
  Calls prog 290 #[v] w fun e w'=>e = .returned (.i (bl (Na.val l):Int))∧w=w':=by
 have hd:=bY l;have ea:=Na.aB (Na.val l);have na:=Na.gG (Na.val l);have C1:=azt (short_any v l w hv);clear hv;rw[←ea];generalize Na.au (Na.val l)=a at *;by_cases h0:a.length=0
 ·obtain rfl:a=[]:=aAO h0;clear ea;go_enter func290,ntmps290
  go_wp2_with fail
  refine C1.out.mono ?_;rintro e w' ⟨x,rfl,hx,rfl⟩;go_wp2_with fail
  go_ret
  exact⟨rfl,rfl⟩
 obtain⟨m,hm⟩:∃m,a.length=m+1:=⟨a.length-1,by omega⟩;have hx0:a[m]'(by omega)≠0:=by
  have:=Na.uj na (by omega);simpa[hm]using this
 have hb:1≤Lib.bitLen (a[m]'(by omega)).toNat∧2^(Lib.bitLen (a[m]'(by omega)).toNat-1)≤(a[m]'(by omega)).toNat∧(a[m]'(by omega)).toNat<2^Lib.bitLen (a[m]'(by omega)).toNat:=
  Lib.bitLenAux_bounds 64 _ (by have:=(a[m]'(by omega)).toNat_lt; omega) (fun e=>hx0 (aA4.1 (by simpa using e)))
 have hr:=XJ (a.take m) (a[m]'(by omega)) hx0 _ hb.2.1 hb.2.2 hb.1;have hbl:=Lib.bitLen_le (a[m]'(by omega)).toNat 32 (by omega) (a[m]'(by omega)).toNat_lt;have e1:a.take m++[a[m]'(by omega)]=a:=by
  rw[←aAz (by omega),←hm,aAn]
 rw[e1]at hr;have e2:(a.take m).length=m:=by simp; omega
 rw[e2]at hr;have HR:=azt hr;have HM:=azt hm;have hml:(m:Int)≤1000000000:=by omega
 have hx1:=(a[m]'(by omega)).toNat_lt;clear ea na hr hb hx0 e1 e2;go_enter func290,ntmps290
 go_wp2_with fail
 refine C1.out.mono ?_;rintro e w' ⟨x,rfl,hx,rfl⟩;obtain⟨bx,ox,cx,hxs,hbx,hlx,hmx,hcx⟩:=dM hx rfl (by omega);simp only[az4]at hxs;obtain⟨rfl,-,-⟩:=hxs;have hck:=hcx m (by omega);clear hcx;have h0':((m:Int)+1==0)=false:=by rw[azW]; omega
 generalize a[m]=c at *;rw[HM.out]at hx ⊢;go_wp2_with fail
 refine(Tryz.bits_Len32 (c.toNat:Int) _ (by omega) (by omega)).mono ?_;rintro e w' ⟨rfl,rfl⟩;rw[aA3];go_wp2_with fail
 go_ret
 exact⟨jv (by rw[HR.out]; omega),rfl⟩
end Go.Proofs.YtodpgjjgaddkeaaGreatDoor
