/- What the program's tables say of the slices of digits and of bytes. -/
import Derived.Test.YtodpgjjgaddkeaaGreatDoorPk1
import Derived.Test.YtodpgjjgaddkeaaGreatDoorShelf
import Derived.Lib.ItoaNum
set_option maxHeartbeats 800000
set_option maxRecDepth 100000
set_option linter.unusedVariables false
set_option linter.unusedSimpArgs false
namespace Go.Proofs.YtodpgjjgaddkeaaGreatDoor
open _root_.Go.Proofs.Tryz
theorem lI:iI prog 22 119 (.int .u32 0) 1 4:=⟨underlying22,info_parts (by kernel_rfl),rfl,by decide⟩
theorem yX:iI prog 53 5 (.u 0) 1 1:=⟨underlying53,info_parts (by kernel_rfl),rfl,by decide⟩
open Go.RowKit
variable{α:Type}
theorem Gh(l:List UInt32)(k:Nat)(hk:k<l.length)(hv:Na.val (l.take (k+1))=Na.val l)(h:l[k]=0):Na.val (l.take k)=Na.val l:=by
 rw[←hv,Na.cO l k hk,h]; simp
theorem short_any(v:Value)(l:List UInt32)(w:World)(hv:aC w v l) :
  Calls prog 318 #[v] w fun e w'=>∃a,e = .returned (.slice a (Na.au (Na.val l)).length (Na.au (Na.val l)).length) ∧
   aC w (.slice a (Na.au (Na.val l)).length (Na.au (Na.val l)).length) (Na.au (Na.val l))∧w=w':=by
 have hv0:=azF hv;obtain⟨a,cap,rfl,hm,ha⟩:=hv;have hl:=qX hm ha;have hcap:l.length≤cap:=by
  rcases ha with ⟨rfl,_⟩ | ⟨_,_,_,_,h,_⟩
  ·simp
  exact h
 have HA:=azF ha;clear ha;unfold maxLen at hm;go_enter func318,ntmps318
 go_wp2
 go_loop [3] (fun i=>∃k:Nat,k≤l.length∧i = .i k∧Na.val (l.take k)=Na.val l) (fun i=>(intOf i).toNat)
 case atStart=>exact⟨l.length,azJ _,rfl,by rw[aAA]⟩
 case round =>
  obtain⟨k,hk,rfl,hval⟩:=hrel;have HV:=azF hval;clear hval;by_cases h0:k=0
  ·subst h0;go_wp2
   go_ret
   have hD:Na.au (Na.val l)=l.take 0:=Na.kT (by omega) HV.out (.inl rfl);have hr:=Fa (cap':=0) (n:=0) hv0.out (by omega) (by omega) (by unfold maxLen; omega) (fun _=>rfl);refine⟨a,by rw[hD]; rfl,by rw[hD]; exact hr,rfl⟩
  obtain⟨j,rfl⟩:∃j,k=j+1:=⟨k-1,by omega⟩;rcases HA.out with ⟨rfl,_⟩ | ⟨b,o,rfl,hb,hlc,hc⟩
  ·simp at hk
  have hck:=hc j (by omega);have hlt:j<l.length:=by omega
  clear hc;by_cases hz:l[j]=0
  ·have HE:=azF (Gh l j hlt HV.out hz);rw[hz]at hck;go_wp2
   go_round
   case rel=>exact⟨j,by omega,by go_num,HE.out⟩
   case measure=>simp[intOf]
  have hzb:((l[j].toNat:Int)==0)=false:=by
   rw[az8]; intro e; exact hz (aBf.1 (by simp; omega))
  have HZ:=azF hz;clear hz;go_wp2
  go_ret
  have hD:Na.au (Na.val l)=l.take (j+1):=Na.kT (by omega) HV.out (.inr ⟨by omega,HZ.out⟩);have hr:=Fa (cap':=j+1) (n:=j+1) hv0.out (by omega) (by omega) (by unfold maxLen; omega) (fun h=>by cases h);have e:(l.take (j+1)).length=j+1:=by simp; omega
  refine⟨_,by rw[hD,e]; rfl,by rw[hD,e]; exact hr,rfl⟩
theorem XM(v:Value)(l:List UInt32)(w:World)(hv:aC w v l)(hlen:l.length≤1000000000) :
  Calls prog 200 #[v] w fun e w'=>∃v',e = .returned v'∧w'.ownsRow w.heap.size 119 1 v' l.length (l.map aX)∧Ext w w':=by
 have hr:=hv.raw (fun _=>rfl);obtain⟨a,cap,rfl,hm,ha⟩:=hv;rcases a with _ | ad
 ·have hz:l=[]∧cap=0:=by
   rcases ha with ⟨h,h0⟩ | ⟨b,o,h,_⟩
   ·exact⟨h,h0 rfl⟩
   cases h
  obtain⟨rfl,rfl⟩:=hz;have hnil:=Lib.run_eql_slice_nil (P:=prog) w 22 119 none 0 0 0 0 underlying22;clear ha hr;go_enter func200,ntmps200
  go_wp2
  go_ret
  exact⟨_,rfl,aB8 _ _ _ _,az5 _ _⟩
 have hnil:=Lib.run_eql_slice_nil (P:=prog) w 22 119 (some ad) l.length cap 0 0 underlying22;have hown:=aBP (base:=w.heap.size) (e:=119) (size:=1) w #[] 0 (azJ _) (azQ _) rfl;have hr:=CG hr (.cells #[] 119);have h63:0+l.length≤maxLen:=by unfold maxLen; omega
 have hby:(0+l.length)*4≤140737488355328:=by omega
 clear ha;go_enter func200,ntmps200
 go_wp2_with (at_builtin; refine bM rfl _ _ _ rfl lI w.heap.size hown rfl hr rfl h63 hby (by simp) ?_; intro v' w' hown' hg)
 go_ret
 simp only[aAD,aAH]at hown';exact⟨_,rfl,by simpa using hown',((az5 _ _).alloc (azJ _) _).grown hg (by simp) (by simp[Value.ownBlock])⟩
theorem bW(l:List UInt32):(Na.au (Na.val l)).length≤l.length:=Na.bH (Na.dR l)
theorem oK(v:Value)(l:List UInt32)(w:World)(hv:aC w v l)(hlen:l.length≤1000000000) :
  Calls prog 313 #[v] w fun e w'=>∃v',e = .returned v' ∧
   w'.ownsRow w.heap.size 119 1 v' (Na.au (Na.val l)).length ((Na.au (Na.val l)).map aX)∧Ext w w':=by
 have hd:=bW l;have HV:=azF hv;clear hv;go_enter func313,ntmps313
 go_wp2_with fail
 refine(short_any _ _ _ HV.out).mono ?_;rintro e w' ⟨a,rfl,hr,rfl⟩;generalize hx:Na.au (Na.val l)=m at hd hr;have HX:=azF hx;clear hx;go_wp2_with fail
 refine(XM _ _ _ hr (by omega)).mono ?_;rintro e w' ⟨v',rfl,ho,hb⟩;have HO:=azF ho;clear ho;go_wp2_with fail
 go_ret
 exact⟨_,rfl,by rw[HX.out]; exact HO.out,hb⟩
theorem gG(d:UInt32):IntKind.u64.wrap (d.toNat:Int)=(d.toNat:Int):=by
 have:=d.toNat_lt; rw[aAX]; omega
theorem Qe(x:UInt64):Na.val [x.toUInt32,(x>>>32).toUInt32]=x.toNat:=by
 have:=x.toNat_lt;simp[Na.val,Na.B,UInt64.toNat_shiftRight,Nat.shiftRight_eq_div_pow];omega
theorem xG(x:UInt64):(x.toNat:Int)%(4294967296:Int)=(x.toUInt32.toNat:Int):=by simp
theorem Nk(x:UInt64):(x.toNat:Int)/(4294967296:Int)=((x>>>32).toNat:Int):=by
 rw[UInt64.toNat_shiftRight]; simp[Nat.shiftRight_eq_div_pow]
theorem qo(x:UInt64)(w:World) :
  Calls prog 294 #[afS x] w fun e w'=>∃v',e = .returned v' ∧
   w'.ownsRow w.heap.size 119 1 v' (Na.au x.toNat).length ((Na.au x.toNat).map aX)∧Ext w w':=by
 have hr:aC (w.alloc (.cells #[aX x.toUInt32,aX (x>>>32).toUInt32] 119)) (.slice (some ⟨w.heap.size,0,none⟩) 2 2) [x.toUInt32,(x>>>32).toUInt32]:=
  Nl w [x.toUInt32,(x>>>32).toUInt32] _ (by unfold maxLen; simp)
 have hb1:=aF w (.cells #[aX x.toUInt32,aX (x>>>32).toUInt32] 119);have hc:=oK _ _ _ hr (by simp);rw[Qe]at hc;have HC:=azF hc;clear hc;go_enter func294,ntmps294
 go_wp2_with fail
 rw[xG,Nk,xG];refine HC.out.mono ?_;rintro e w' ⟨v',rfl,ho,hb⟩;have HO:=azF (aY ho hb1.size);clear ho HC;go_wp2_with fail
 go_ret
 exact⟨_,rfl,HO.out,Ext.trans' hb1 hb⟩
theorem pV(v:Value)(l:List UInt32)(i:Nat)(w:World)(hv:aC w v l)(hi:i≤4000000000) :
  Calls prog 332 #[v,.i i] w fun e w'=>e = .returned (.int .u64 ((l.getD i 0).toNat:Int))∧w=w':=by
 obtain⟨a,cap,rfl,hm,ha⟩:=hv;have hl:=qX hm ha;have HA:=azF ha;clear ha;by_cases hlt:i<l.length
 ·rcases HA.out with ⟨rfl,_⟩ | ⟨b,o,rfl,hb,hlc,hc⟩
  ·simp at hlt
  have hck:=hc i hlt;clear hc;have e:l.getD i 0=l[i]:=by simp[List.getD,List.getElem?_eq_getElem hlt]
  rw[e];go_enter func332,ntmps332
  go_wp2
  go_ret
  exact⟨jv (gG _),rfl⟩
 have e:l.getD i 0=0:=by simp[List.getD,List.getElem?_eq_none (Nat.le_of_not_lt hlt)]
 rw[e];go_enter func332,ntmps332
 go_wp2
 go_ret
 exact⟨rfl,rfl⟩
def qN(a b:Nat):Int:=if a<b then -1 else if b<a then 1 else 0
theorem afT(a b:List UInt32)(h:a.length=b.length)(k:Nat)(hk:k<a.length)(he:a.drop (k+1)=b.drop (k+1)) :
  (a[k]<b[k]'(by omega)→Na.val a<Na.val b)∧(b[k]'(by omega)<a[k]→Na.val b<Na.val a):=by
 have ha:=Na.iR a k (by omega);have hb:=Na.iR b k (by omega);rw[Na.nK a k hk]at ha;rw[Na.nK b k (by omega),←he]at hb;have la:=Na.dR (a.take k);have lb:=Na.dR (b.take k);have ea:(a.take k).length=k:=by simp; omega
 have eb:(b.take k).length=k:=by simp; omega
 rw[ea]at la;rw[eb]at lb;have key:∀x y z:Nat,x<y→Na.B^k*(x+Na.B*z)+Na.B^k≤Na.B^k*(y+Na.B*z):=by
  intro x y z hxy;rw[←aA6];exact aAq _ (by omega)
 constructor
 ·intro hlt;have:=key _ _ (Na.val (a.drop (k+1))) (UInt32.lt_iff_toNat_lt.1 hlt);omega
 intro hlt;have:=key _ _ (Na.val (a.drop (k+1))) (UInt32.lt_iff_toNat_lt.1 hlt);omega
theorem XO{a b:List UInt32}(ha:Na.norm a)(hb:Na.norm b)(h:a.length<b.length):Na.val a<Na.val b:=by
 have h1:=Na.dR a;have h2:=Na.CJ hb (by omega);have h3:Na.B^a.length≤Na.B^(b.length-1):=aAK Na.jU (by omega);omega
theorem AL{a b:Nat}(h:a<b):qN a b = -1:=by unfold qN; rw[azI h]
theorem Fb{a b:Nat}(h:b<a):qN a b=1:=by unfold qN; rw[azG (by omega),azI h]
theorem XP{a b:Nat}(h:a=b):qN a b=0:=by unfold qN; rw[azG (by omega),azG (by omega)]
theorem AO(v u:Value)(l m:List UInt32)(w:World)(hv:aC w v l)(hu:aC w u m) :
  Calls prog 320 #[v,u] w fun e w'=>e = .returned (.i (qN (Na.val l) (Na.val m)))∧Ext w w':=by
 have na:=Na.gI (Na.val l);have nb:=Na.gI (Na.val m);have ea:=Na.aB (Na.val l);have eb:=Na.aB (Na.val m);have hll:(Na.au (Na.val l)).length≤maxLen:=az3 (bW l) hv.len;have hlm:(Na.au (Na.val m)).length≤maxLen:=az3 (bW m) hu.len;have H1:=azF hv;have H2:=azF hu;have C1:=azF (short_any v l w hv);have C2:=azF (short_any u m w hu);clear hv hu;unfold maxLen at hll hlm;rw[←ea,←eb];generalize Na.au (Na.val l)=a at *;generalize Na.au (Na.val m)=b at *;have EA:=azF ea;have EB:=azF eb;have NA:=azF na;have NB:=azF nb;clear ea eb na nb;go_enter func320,ntmps320
 go_wp2_with fail
 refine C1.out.mono ?_;rintro e w' ⟨x,rfl,hx,rfl⟩;go_wp2_with fail
 refine C2.out.mono ?_;rintro e w' ⟨y,rfl,hy,rfl⟩;clear C1 C2 H1 H2;rcases aCe a.length b.length with hlt | heq | hgt
 ·have hne:((a.length:Int) != (b.length:Int))=true:=by rw[bne_iff_ne]; omega
  have hr:=azF (AL (XO NA.out NB.out hlt));go_wp2_with fail
  go_ret
  exact⟨by rw[hr.out]; rfl,az5 _ _⟩
 ·have hne:((a.length:Int) != (b.length:Int))=false:=by rw[bne_eq_false_iff_eq]; omega
  have HQ:=azF heq;clear heq;go_wp2_with fail
  rw[HQ.out]at hx ⊢;rw[HQ.out]at hll;go_loopw [5] (fun i wr=>∃k:Nat,k≤b.length∧i = .i ((k:Int)-1)∧a.drop k=b.drop k∧Ext w wr) (fun i _=>(intOf i+1).toNat)
  case atStart=>exact⟨b.length,azJ _,rfl,by rw[List.drop_length,←HQ.out,List.drop_length],az5 _ _⟩
  case round =>
   obtain⟨k,hk,rfl,hd,hbel⟩:=hrel;have HD:=azF hd;clear hd;cases k with
   | zero =>
    have hr:=azF (XP (azT Na.val (show a=b from HD.out)));go_wp2_with fail
    go_ret
    exact⟨by rw[hr.out]; rfl,hbel⟩
   | succ j =>
    have hi:(((j+1:Nat):Int)-1)=(j:Int):=by omega
    rw[hi];obtain⟨bx,ox,cx,hxs,hbx,hlx,hmx,hcx⟩:=dN hx HQ.out (by omega);obtain⟨by',oy,cy,hys,hby,hly,hmy,hcy⟩:=dN hy rfl (by omega);simp only[aAg]at hxs hys;obtain⟨rfl,-,-⟩:=hxs;obtain⟨rfl,-,-⟩:=hys;have hja:j<a.length:=by rw[HQ.out]; omega
    have c1:wr.cell? ⟨bx,ox+j,none⟩=some (aX a[j]):=by rw[hbel.cell (p:=⟨bx,ox+j,none⟩) hbx]; exact hcx j hja
    have c2:wr.cell? ⟨by',oy+j,none⟩=some (aX b[j]):=by rw[hbel.cell (p:=⟨by',oy+j,none⟩) hby]; exact hcy j (by omega)
    clear hcx hcy;have hj1:(0:Int)≤j:=by omega
    have hj2:(j:Int)<b.length:=by omega
    have hcmp:=azF (afT a b HQ.out j hja HD.out);have hdrop:Hid (a[j]=b[j]→a.drop j=b.drop j):=fun e=>by
     rw[aAR hja,aAR (show j<b.length by omega),e,HD.out]
    rcases aCe a[j].toNat b[j].toNat with h1 | h1 | h1
    ·have hr:=azF (AL (hcmp.out.1 (UInt32.lt_iff_toNat_lt.2 h1)));have h1':(a[j].toNat:Int)<b[j].toNat:=by omega
     go_wp2_with fail
     go_quiet (fail)
     go_wp2_with fail
     go_ret
     exact⟨by rw[hr.out]; rfl,below_drewN hbel _⟩
    ·have h1':¬(a[j].toNat:Int)<b[j].toNat:=by omega
     have h2':¬(b[j].toNat:Int)<a[j].toNat:=by omega
     have HE:=azF h1;clear h1;go_wp2_with fail
     go_quiet (fail)
     go_wp2_with fail
     go_quiet (fail)
     go_wp2_with fail
     go_roundw
     case rel=>exact⟨j,by omega,rfl,hdrop.out (aBf.1 HE.out),below_drewN hbel _⟩
     case measure=>simp[intOf]
    have hr:=azF (Fb (hcmp.out.2 (UInt32.lt_iff_toNat_lt.2 h1)));have h1':¬(a[j].toNat:Int)<b[j].toNat:=by omega
    have h2':(b[j].toNat:Int)<a[j].toNat:=by omega
    go_wp2_with fail
    go_quiet (fail)
    go_wp2_with fail
    go_quiet (fail)
    go_wp2_with fail
    go_ret
    exact⟨by rw[hr.out]; rfl,below_drewN (below_drewN hbel _) _⟩
 have hne:((a.length:Int) != (b.length:Int))=true:=by rw[bne_iff_ne]; omega
 have hr:=azF (Fb (XO NB.out NA.out hgt));go_wp2_with fail
 go_ret
 exact⟨by rw[hr.out]; rfl,az5 _ _⟩
open Go.RowKit
variable{α:Type}
theorem afU(r:Nat)(x:UInt32)(h:r<4294967296):bits .or .u64 ((r:Int)*4294967296) (IntKind.u64.wrap (x.toNat:Int))=((r*4294967296+x.toNat:Nat):Int):=by
 have hx:=x.toNat_lt;rw[gG];have e:((r:Int)*4294967296)=((r*4294967296:Nat):Int):=by simp
 rw[e,u64_or_nat _ _ (by omega) (by omega),nat_join 32 _ _ (by omega) (by omega)]
theorem Qg(a b:Nat):(a:Int).tdiv (b:Int)=((a/b:Nat):Int):=by
 rw[Int.tdiv_eq_ediv_of_nonneg (Int.natCast_nonneg _)]; rfl
theorem bV{n:Nat}(h:n<4294967296):(UInt32.ofNat n).toNat=n:=by simp; omega
theorem ZB(N d:Nat)(hd:0<d)(hd2:d<4294967296)(h:N<d*4294967296) :
  IntKind.u64.wrap ((N:Int)/(d:Int))%(4294967296:Int)=((UInt32.ofNat (N/d)).toNat:Int):=by
 have hq:N/d<4294967296:=aBQ h;rw[bV hq,aAX];have e:(N:Int)/(d:Int)=((N/d:Nat):Int):=rfl;rw[e];generalize N/d=q at hq;omega
theorem afV(q r d n:Nat)(h:q*d+r=n)(hr:r<d):q=n/d∧r=n%d:=by
 subst h;have:0<d:=by omega
 rw[aBv,aAm,aCf _ _ this,aCg hr,Nat.add_mul_mod_self_left,aBw hr];omega
theorem one_any(v:Value)(l:List UInt32)(d:UInt32)(w:World)(hv:aC w v l)(hd:0<d.toNat)(hlen:l.length≤1000000000) :
  Calls prog 321 #[v,aX d] w fun e w'=>∃v',e = .returned (.tuple #[v',.int .u32 ((Na.val l%d.toNat:Nat):Int)]) ∧
   aC w' v' (Na.au (Na.val l/d.toNat))∧Ext w w':=by
 have hv0:=azF hv;obtain⟨a,cap,rfl,hm,ha⟩:=hv;have HA:=azF ha;clear ha;have h63:l.length≤maxLen:=by unfold maxLen; omega
 have hby:4*l.length≤281474976710656:=by omega
 have hdl:=d.toNat_lt;go_enter func321,ntmps321
 go_wp2_with (at_make; refine wpList_make_row rfl _ _ _ rfl lI rfl w.heap.size l.length rfl rfl rfl hby h63 (azJ _) ?_; intro w1 hown hg)
 have hb1:=gq (az5 w.heap.size w) hg (azJ _);clear hg;have HO:=azF hown;clear hown;go_loopw [7,8] (fun r i wr=>∃(k rest:Nat) (q:List UInt32),k+q.length=l.length∧i = .i ((k:Int)-1)∧r = .int .u64 rest∧rest<d.toNat ∧
  Na.val q*d.toNat+rest=Na.val (l.drop k)∧wr.ownsRow w.heap.size 119 1 (.slice (some ⟨w.heap.size,0,none⟩) l.length l.length) l.length ((List.replicate k 0++q).map aX)∧Ext w wr) (fun _ i _=>(intOf i+1).toNat)
 case atStart=>exact⟨l.length,0,[],by simp,rfl,rfl,hd,by simp[Na.val],by simpa[aX]using HO.out,hb1⟩
 case round =>
  obtain⟨k,rest,q,hkq,rfl,rfl,hr,hval,hown,hbel⟩:=hrel;have HV:=azF hval;have HK:=azF hkq;have HW:=azF hown;have hkl:k≤l.length:=by omega
  clear hval hkq hown;cases k with
  | zero =>
   simp only[aBX,aAH]at HW;simp only[aAD]at HK;have hrow:aC wr (.slice (some ⟨w.heap.size,0,none⟩) l.length l.length) q:=by
    have:=HW.out; rw[←HK.out]at this ⊢; exact aV this
   have hq:=afV (Na.val q) rest d.toNat (Na.val l) (by have:=HV.out; simpa using this) hr;have HQ:=azF hq;clear hq HO;go_wp2_with fail
   refine(short_any _ _ _ hrow).mono ?_;rintro e w' ⟨a',rfl,hs,rfl⟩;have hrm:(rest:Int)%4294967296=rest:=by omega
   go_wp2_with fail
   go_ret2
   rw[HQ.out.1]at hs ⊢;exact⟨_,by rw[HQ.out.2]; rfl,hs,hbel⟩
  | succ j =>
   have hi:(((j+1:Nat):Int)-1)=(j:Int):=by omega
   rw[hi];rcases HA.out with ⟨rfl,_⟩ | ⟨b,o,rfl,hb,hlc,hc⟩
   ·simp at hkl
   have hck:wr.cell? ⟨b,o+j,none⟩=some (aX l[j]):=by rw[hbel.cell (p:=⟨b,o+j,none⟩) hb]; exact hc j (by omega)
   clear hc hi;obtain⟨N,hN⟩:∃N,N=rest*4294967296+l[j].toNat:=⟨_,rfl⟩;have hor:bits .or .u64 ((rest:Int)*4294967296) (IntKind.u64.wrap (l[j].toNat:Int))=(N:Int):=by rw[hN]; exact afU rest l[j] (by omega)
   have HN:=azF hN;have hlen2:(List.replicate (j+1) (0:UInt32)++q).length=l.length:=by have:=HK.out; simp; omega
   have hcell:=HW.out.cellAt j (by omega);rw[List.getElem?_map,List.getElem?_append_left (by simp),List.getElem?_replicate,azI (by omega),aAv]at hcell;have hfz:=HW.out.frozenAt j;have hst:=HW.out.stored j (aX (UInt32.ofNat (N/d.toNat)));rw[aAB,aCh,Fe]at hst;have HS:=azF hst;clear hN hst HO;go_wp2_with fail
   go_roundw
   case rel =>
    have hNd:N<d.toNat*4294967296:=by have:=HN.out; have:=l[j].toNat_lt; have:=aA7 4294967296 (show rest+1≤d.toNat from hr); omega
    rw[ZB N d.toNat hd hdl hNd,show(N:Int)%(d.toNat:Int)=((N%d.toNat:Nat):Int)from rfl];refine⟨j,N%d.toNat,UInt32.ofNat (N/d.toNat)::q,?_,rfl,rfl,aAY _ hd,?_,?_,?_⟩
    ·have:=HK.out; simp; omega
    ·rw[Na.nK l j (by omega),←HV.out];have e:(UInt32.ofNat (N/d.toNat)).toNat=N/d.toNat:=bV (by exact aBQ hNd);have:=aBg N d.toNat;have h2:=HN.out;simp only[Na.val,Na.B,e];rw[aA8,aAm (N/d.toNat)];rw[az6,aAs];omega
    ·simpa[aX]using HS.out.1
    exact hbel.setCell (p:=⟨w.heap.size,j,none⟩) (azJ _) _
   case measure=>simp[intOf]
open Go.RowKit
variable{α:Type}
theorem abZ(r:Nat)(x:Nat)(h:r<4294967296)(hx:x<4294967296):bits .or .u64 (x:Int) ((r:Int)*4294967296)=((x+Na.B*r:Nat):Int):=by
 have e:((r:Int)*4294967296)=((r*4294967296:Nat):Int):=by simp
 rw[e,u64_or_nat _ _ (by omega) (by omega),Nat.or_comm,nat_join 32 _ _ (by omega) (by omega)];congr 1;unfold Na.B; omega
theorem ab1{β:Type}(l:List β)(z:β)(i:Nat)(h:i<l.length):(l.take i++List.replicate (l.length-i) z).set i l[i]=l.take (i+1)++List.replicate (l.length-(i+1)) z:=by
 obtain⟨k,hk⟩:∃k,l.length-i=k+1:=⟨l.length-i-1,by omega⟩;rw[hk,show l.length-(i+1)=k by omega,List.set_append,aBR];have e:(l.take i).length=i:=by simp; omega
 rw[e,azG (by omega),aBH,List.set_cons_zero,take_snoc l i h,az0];rfl
theorem KC(N p:Nat):(N:Int)/2^p%(4294967296:Int)=((UInt32.ofNat (N/2^p)).toNat:Int):=by simp
theorem UW(v:Value)(l:List UInt32)(p:Nat)(w:World)(hv:aC w v l)(hp:0<p)(hp2:p≤31)(hlen:l.length≤1000000000) :
  Calls prog 323 #[v,.i (-(p:Int))] w fun e w'=>∃a,e = .returned (.slice a (Na.au (Na.val l/2^p)).length (Na.au (Na.val l/2^p)).length) ∧
   aC w' (.slice a (Na.au (Na.val l/2^p)).length (Na.au (Na.val l/2^p)).length) (Na.au (Na.val l/2^p))∧Ext w w':=by
 have hd:=bW l;have ea:=Na.aB (Na.val l);have C1:=azF (short_any v l w hv);clear hv;rw[←ea];generalize Na.au (Na.val l)=a at *;have EA:=azF ea;clear ea;have hneg : -(p:Int)<0:=by omega
 by_cases h0:a.length=0
 ·obtain rfl:a=[]:=aAZ h0;go_enter func323,ntmps323
  go_wp2_with fail
  refine C1.out.mono ?_;rintro e w' ⟨x,rfl,hx,rfl⟩;go_wp2_with fail
  go_ret
  exact⟨none,by simp[Na.val,Na.au,Na.kJ],by simpa[Na.val,Na.au,Na.kJ]using Fg w,az5 _ _⟩
 have h1:0<a.length:=by omega
 have h63:a.length≤maxLen:=by unfold maxLen; omega
 have hby:4*a.length≤281474976710656:=by omega
 go_enter func323,ntmps323
 go_wp2_with fail
 refine C1.out.mono ?_;rintro e w' ⟨x,rfl,hx,rfl⟩;have hn1:¬-(p:Int) ≤ -32*(a.length:Int):=by omega
 have ZC:(p:Int)/32=0:=by omega
 have ai9:(p:Int)%32=(p:Int):=by omega
 go_wp2_with (at_make; refine wpList_make_row rfl _ _ _ rfl lI rfl w.heap.size a.length rfl rfl rfl hby h63 (azJ _) ?_; intro w1 hown hg)
 have hb1:=gq (az5 w.heap.size w) hg (azJ _);clear hg;have HO:=azF hown;clear hown ZC hn1;have hsl:=Na.yY p a;go_loopw [37] (fun i wr=>∃k:Nat,k≤a.length∧i = .i k∧wr.ownsRow w.heap.size 119 1 (.slice (some ⟨w.heap.size,0,none⟩) a.length a.length) a.length (((Na.shr p a).take k++List.replicate ((Na.shr p a).length-k) 0).map aX)∧Ext w wr) (fun i _=>a.length-(intOf i).toNat)
 case atStart=>exact⟨0,by omega,rfl,by simpa[aX,hsl]using HO.out,hb1⟩
 case round =>
  obtain⟨k,hk,rfl,hown,hbel⟩:=hrel;have HW:=azF hown;have hx1:=hx.below hbel;clear hown;by_cases hlt:k<a.length
  ·have g0:=(a.getD k 0).toNat_lt;have g1:=(a.getD (k+1) 0).toNat_lt;have hget:=Na.XQ p a k hlt;have d0:=pV _ a k _ hx1 (by omega);have d1:=pV _ a (k+1) _ hx1 (by omega);generalize (a.getD k 0).toNat=D0 at *;generalize (a.getD (k+1) 0).toNat=D1 at *;have hor:=abZ D1 D0 g1 g0;generalize hN:D0+Na.B*D1=N at *;obtain⟨⟨cv,hcell⟩,hfz⟩:=qY HW.out k hlt;have HG:=azF hget;have HSL:=azF hsl;have E0:=azF d0;have E1:=azF d1;clear hget hsl hN d0 d1;go_wp2_with fail
   refine E0.out.mono ?_;rintro e w' ⟨rfl,rfl⟩;go_wp2_with fail
   refine E1.out.mono ?_;rintro e w' ⟨rfl,rfl⟩;go_wp2_with fail
   go_roundw
   case rel =>
    have hst:=HW.out.stored k (aX ((Na.shr p a)[k]'(by rw[HSL.out]; exact hlt)));rw[←aBn,ab1 _ _ k (by rw[HSL.out]; exact hlt)]at hst;rw[HG.out]at hst;rw[KC];exact⟨k+1,by omega,by go_num,hst.1,hbel.setCell (p:=⟨w.heap.size,k,none⟩) (azJ _) _⟩
   case measure=>simp[intOf]; omega
  obtain rfl:k=a.length:=by omega
  have hrow:aC wr (.slice (some ⟨w.heap.size,0,none⟩) a.length a.length) (Na.shr p a):=by
   have:=HW.out;rw[←hsl,aAA,aBH,aBX,aAL]at this;have h2:=aV this;rw[hsl]at h2; exact h2
  have hs:=short_any _ _ _ hrow;rw[Na.XR p (by omega)]at hs;have HS:=azF hs;clear hs hrow;go_wp2_with fail
  refine HS.out.mono ?_;rintro e w' ⟨a',rfl,hr,rfl⟩;have HR:=azF hr;clear hr;go_wp2_with fail
  go_ret
  exact⟨_,rfl,HR.out,hbel⟩
theorem wide(c:UInt32)(p:Nat)(h:p≤31):IntKind.u64.wrap (IntKind.u64.wrap (c.toNat:Int)*2^p)=((c.toNat*2^p:Nat):Int):=by
 have hc:=c.toNat_lt;have hp:2^p≤2^31:=aAK (by omega) h;have hm:c.toNat*2^p≤4294967296*2^31:=aBo (by omega) hp;have e:(c.toNat:Int)*2^p=((c.toNat*2^p:Nat):Int):=by simp
 rw[gG,e,aAX];omega
theorem aja(t:UInt32)(c p:Nat)(hp:p≤31)(ht:t.toNat<2^p) :
  bits .or .u32 (t.toNat:Int) (((c*2^p:Nat):Int)%4294967296)=((UInt32.ofNat (t.toNat+c*2^p%Na.B)).toNat:Int)∧t.toNat+c*2^p%Na.B<Na.B:=by
 have hB:=Na.KD p (by omega);have h2:0<2^p:=aA9 p;have e1:c*2^p%Na.B=c%2^(32-p)*2^p:=by
  rw[hB,aAm c,Nat.mul_mod_mul_left,aAm]
 have e2:c%2^(32-p)+1≤2^(32-p):=aAY _ (aA9 _);have e3:c*2^p%Na.B+2^p≤Na.B:=by
  rw[e1,←Nat.succ_mul,hB,aAm (2^p)]; exact aA7 _ e2
 have hlt:t.toNat+c*2^p%Na.B<Na.B:=by omega
 refine⟨?_,hlt⟩;have e4:((c*2^p:Nat):Int)%4294967296=((c*2^p%Na.B:Nat):Int):=by simp[Na.B]
 have hB':Na.B=4294967296:=rfl;rw[e4,u32_or_nat _ _ t.toNat_lt (by omega),Nat.or_comm,nat_join p _ _ (by rw[e1]; simp) ht,bV (by omega),aBv]
theorem afW{β:Type}(q:List β)(t x y z:β)(k m:Nat)(hq:q.length=k):((q++t::List.replicate (m+1) z).set k x).set (k+1) y=(q++[x])++y::List.replicate m z:=by
 subst hq;rw[List.set_append,azG (by omega),aBH,List.set_cons_zero,List.set_append,azG (by omega),aCo,aBR];simp
theorem yZ(v:Value)(l:List UInt32)(p:Nat)(w:World)(hv:aC w v l)(hp2:p≤31)(hlen:l.length≤1000000000) :
  Calls prog 323 #[v,.i p] w fun e w'=>∃a,e = .returned (.slice a (Na.au (Na.val l*2^p)).length (Na.au (Na.val l*2^p)).length) ∧
   aC w' (.slice a (Na.au (Na.val l*2^p)).length (Na.au (Na.val l*2^p)).length) (Na.au (Na.val l*2^p))∧Ext w w':=by
 have hd:=bW l;have ea:=Na.aB (Na.val l);have C1:=azF (short_any v l w hv);clear hv;rw[←ea];generalize Na.au (Na.val l)=a at *;have EA:=azF ea;clear ea;have h63:a.length+1≤maxLen:=by unfold maxLen; omega
 have hby:4*(a.length+1)≤281474976710656:=by omega
 have ZC:(p:Int)/32=0:=by omega
 have ai9:(p:Int)%32=(p:Int):=by omega
 have hmin:min (p:Int) 4096=(p:Int):=by omega
 go_enter func323,ntmps323
 go_wp2_with fail
 refine C1.out.mono ?_;rintro e w' ⟨x,rfl,hx,rfl⟩;go_wp2_with (at_make; refine wpList_make_row rfl _ _ _ rfl lI rfl w.heap.size (a.length+1) rfl rfl rfl hby h63 (azJ _) ?_; intro w1 hown hg)
 have hb1:=gq (az5 w.heap.size w) hg (azJ _);clear hg;have HO:=azF hown;clear hown;go_loopw [76] (fun i wr=>∃(k:Nat) (q:List UInt32) (t:UInt32),k≤a.length∧i = .i k∧q.length=k∧t.toNat<2^p∧Na.val (q++[t])=Na.val (a.take k)*2^p ∧
  wr.ownsRow w.heap.size 119 1 (.slice (some ⟨w.heap.size,0,none⟩) (a.length+1) (a.length+1)) (a.length+1) ((q++t::List.replicate (a.length-k) 0).map aX)∧Ext w wr) (fun i _=>a.length-(intOf i).toNat)
 case atStart=>exact⟨0,[],0,by omega,rfl,rfl,by simpa using aA9 p,by simp[Na.val],by simpa[aX,aBR]using HO.out,hb1⟩
 case round =>
  obtain⟨k,q,t,hk,rfl,hq,ht,hval,hown,hbel⟩:=hrel;have HW:=azF hown;have hx1:=hx.below hbel;have HV:=azF hval;have HT:=azF ht;have HQ:=azF hq;clear hown hval ht hq HO;by_cases hlt:k<a.length
  ·obtain⟨bx,ox,cx,hxs,hbx,hlx,hmx,hcx⟩:=dN hx1 rfl (by omega);simp only[aAg]at hxs;obtain⟨rfl,-,-⟩:=hxs;have hck:=hcx k hlt;clear hcx;have ho1:=HW.out.cellAt k (by omega);have hfz:=HW.out.frozenAt k;have hfz1:=HW.out.frozenAt (k+1);obtain⟨⟨cv,hcell1⟩,_⟩:=qY HW.out (k+1) (by omega);rw[List.getElem?_map,List.getElem?_append_right (by rw[HQ.out]; omega),HQ.out,aBH,List.getElem?_cons_zero,aAv]at ho1;have HA:=azF (Na.cO a k hlt);generalize a[k]=c at hck HA;go_wp2_with fail
   go_roundw
   case rel =>
    obtain⟨o1,o2⟩:=aja t c.toNat p hp2 HT.out;have hq:=HQ.out;have ht:=HT.out;obtain⟨m,hm⟩:∃m,a.length-k=m+1:=⟨a.length-k-1,by omega⟩;have hst:=(HW.out.stored k (aX (UInt32.ofNat (t.toNat+c.toNat*2^p%Na.B)))).1;have hst2:=(hst.stored (k+1) (aX (UInt32.ofNat (c.toNat*2^p/Na.B)))).1;rw[hm,←aBn,←aBn,afW q t _ _ 0 k m hq]at hst2;have hhi:c.toNat*2^p/Na.B<2^p:=by
     refine aBQ ?_;have hc:=c.toNat_lt;exact aCt hc (aA9 p)
    have ajb:c.toNat*2^p/Na.B<4294967296:=by
     have:2^p≤2^31:=aAK (by omega) hp2;omega
    have e5:((c.toNat*2^p:Nat):Int)/4294967296%4294967296=((UInt32.ofNat (c.toNat*2^p/Na.B)).toNat:Int):=by
     rw[bV ajb];have:((c.toNat*2^p:Nat):Int)/4294967296=((c.toNat*2^p/Na.B:Nat):Int):=by simp[Na.B]
     rw[this]; omega
    rw[wide c p hp2,o1,e5];refine⟨k+1,q++[UInt32.ofNat (t.toNat+c.toNat*2^p%Na.B)],UInt32.ofNat (c.toNat*2^p/Na.B),by omega,by go_num,by simp[hq],by rw[bV ajb]; exact hhi,?_,?_,?_⟩
    ·have hv:=HV.out;rw[Na.jd,hq]at hv;rw[Na.jd,Na.jd,HA.out,aA8,←hv,bV o2,bV ajb,azL,hq];have:=aBg (c.toNat*2^p) Na.B;simp only[aAn,aAS,aAr];generalize c.toNat*2^p/Na.B=hi at *;generalize c.toNat*2^p%Na.B=lo at *;rw[aAs (Na.B^k) c.toNat,←this,az6,az6,←aAs (Na.B^k) Na.B hi];omega
    ·rw[show a.length-(k+1)=m by omega]; exact hst2
    exact(hbel.setCell (p:=⟨w.heap.size,k,none⟩) (azJ _) _).setCell (p:=⟨w.heap.size,k+1,none⟩) (azJ _) _
   case measure=>simp[intOf]; omega
  obtain rfl:k=a.length:=by omega
  have hrow:aC wr (.slice (some ⟨w.heap.size,0,none⟩) (a.length+1) (a.length+1)) (q++[t]):=by
   have:=HW.out;rw[aBH,aBX]at this;have e:(q++[t]).length=a.length+1:=by have:=HQ.out; simp[this]
   have h2:=aV (l:=q++[t]) (by rw[e]; exact this);exact h2
  have hs:=short_any _ _ _ hrow;have hv:=HV.out;rw[aAA]at hv;rw[hv]at hs;have HS:=azF hs;clear hs hrow hv;go_wp2_with fail
  refine HS.out.mono ?_;rintro e w' ⟨a',rfl,hr,rfl⟩;have HR:=azF hr;clear hr;go_wp2_with fail
  go_ret
  exact⟨_,rfl,HR.out,hbel⟩
def bl(n:Nat):Nat:=if n=0 then 0 else Nat.log2 n+1
theorem amn{n k:Nat}(h1:2^k≤n)(h2:n<2^(k+1)):bl n=k+1:=by
 have h0:n≠0:=by have:=aA9 k; omega
 unfold bl;rw[azG h0,(Nat.log2_eq_iff h0).2 ⟨h1,h2⟩]
theorem XT(a:List UInt32)(x:UInt32)(hx:x≠0)(c:Nat)(h1:2^(c-1)≤x.toNat)(h2:x.toNat<2^c)(h3:1≤c):bl (Na.val (a++[x]))=32*a.length+c:=by
 have hv:=Na.jd a x;have hl:=Na.dR a;have hB:Na.B^a.length=2^(32*a.length):=by rw[Nat.pow_mul]; rfl
 rw[hB]at hv hl;have e:32*a.length+c=(32*a.length+(c-1))+1:=by omega
 rw[e];apply amn
 ·rw[hv,aBx];have:=aAq (2^(32*a.length)) h1;omega
 rw[hv,show 32*a.length+(c-1)+1=32*a.length+c by omega,aBx];have:=aAq (2^(32*a.length)) (show x.toNat+1≤2^c by omega);rw[az6]at this;omega
theorem Gi(v:Value)(l:List UInt32)(w:World)(hv:aC w v l)(hlen:l.length≤1000000000) :
  Calls prog 290 #[v] w fun e w'=>e = .returned (.i (bl (Na.val l):Int))∧w=w':=by
 have hd:=bW l;have ea:=Na.aB (Na.val l);have na:=Na.gI (Na.val l);have C1:=azF (short_any v l w hv);clear hv;rw[←ea];generalize Na.au (Na.val l)=a at *;by_cases h0:a.length=0
 ·obtain rfl:a=[]:=aAZ h0;clear ea;go_enter func290,ntmps290
  go_wp2_with fail
  refine C1.out.mono ?_;rintro e w' ⟨x,rfl,hx,rfl⟩;go_wp2_with fail
  go_ret
  exact⟨rfl,rfl⟩
 obtain⟨m,hm⟩:∃m,a.length=m+1:=⟨a.length-1,by omega⟩;have hx0:a[m]'(by omega)≠0:=by
  have:=Na.uG na (by omega);simpa[hm]using this
 have hb:1≤Lib.bitLen (a[m]'(by omega)).toNat∧2^(Lib.bitLen (a[m]'(by omega)).toNat-1)≤(a[m]'(by omega)).toNat∧(a[m]'(by omega)).toNat<2^Lib.bitLen (a[m]'(by omega)).toNat:=
  Lib.bitLenAux_bounds 64 _ (by have:=(a[m]'(by omega)).toNat_lt; omega) (fun e=>hx0 (aBf.1 (by simpa using e)))
 have hr:=XT (a.take m) (a[m]'(by omega)) hx0 _ hb.2.1 hb.2.2 hb.1;have hbl:=Lib.bitLen_le (a[m]'(by omega)).toNat 32 (by omega) (a[m]'(by omega)).toNat_lt;have e1:a.take m++[a[m]'(by omega)]=a:=by
  rw[←aAJ (by omega),←hm,aAA]
 rw[e1]at hr;have e2:(a.take m).length=m:=by simp; omega
 rw[e2]at hr;have HR:=azF hr;have HM:=azF hm;have hml:(m:Int)≤1000000000:=by omega
 have hx1:=(a[m]'(by omega)).toNat_lt;clear ea na hr hb hx0 e1 e2;go_enter func290,ntmps290
 go_wp2_with fail
 refine C1.out.mono ?_;rintro e w' ⟨x,rfl,hx,rfl⟩;obtain⟨bx,ox,cx,hxs,hbx,hlx,hmx,hcx⟩:=dN hx rfl (by omega);simp only[aAg]at hxs;obtain⟨rfl,-,-⟩:=hxs;have hck:=hcx m (by omega);clear hcx;have h0':((m:Int)+1==0)=false:=by rw[az8]; omega
 generalize a[m]=c at *;rw[HM.out]at hx ⊢;go_wp2_with fail
 refine(Tryz.bits_Len32 (c.toNat:Int) _ (by omega) (by omega)).mono ?_;rintro e w' ⟨rfl,rfl⟩;rw[aBh];go_wp2_with fail
 go_ret
 exact⟨jv (by rw[HR.out]; omega),rfl⟩
end Go.Proofs.YtodpgjjgaddkeaaGreatDoor
