/- What the program's tables say of the slices of digits and of bytes. -/
import Derived.Test.YtodpgjjgaddkeaaGreatDoorPk1
import Derived.Test.YtodpgjjgaddkeaaGreatDoorShelf
import Derived.Lib.ItoaNum
set_option maxHeartbeats 800000
set_option maxRecDepth 100000
set_option linter.unusedVariables false
set_option linter.unusedSimpArgs false
namespace Go.Proofs.YtodpgjjgaddkeaaGreatDoor
open _root_.Go.Proofs.Tryz
theorem lT:iK prog 22 119 (.int .u32 0) 1 4:=⟨underlying22,info_parts X,I,by decide⟩
theorem zQ:iK prog 53 5 (.u 0) 1 1:=⟨underlying53,info_parts X,I,by decide⟩
open Go.RowKit Na
variable{α:Type}
variable{a b:Nat}
theorem Gy(l:List UInt32)(k:Nat)(hk:k<l.length)(hv:Zk (l.take (k+1))=Zk l)(h:l[k]=0):Zk (l.take k)=Zk l:=by
 rw[<-hv,Na.cZ l k hk,h]; simp
theorem short_any(v:Value)(l:List UInt32)(w:World)(hv:aC w v l) :
  Calls prog 318 #[v] w λe w'=>∃a,e = .returned (.slice a (Ux (Zk l)).length (Ux (Zk l)).length) ∧
   aC w (.slice a (Ux (Zk l)).length (Ux (Zk l)).length) (Ux (Zk l))∧w=w':=by
 have hv0:=azO hv;obtain⟨a,cap,rfl,hm,ha⟩:=hv;have hl:=qY hm ha;have hcap:l.length<=cap:=by
  rcases ha with ⟨rfl,_⟩ | ⟨_,_,_,_,h,_⟩
  .simp
  exact h
 have HA:=azO ha;clear ha;unfold maxLen at hm;go_enter func318,ntmps318
 go_wp2
 go_loop [3] (λi=>∃k:Nat,k<=l.length∧i = .i k∧Zk (l.take k)=Zk l) (λi=>(intOf i).toNat)
 case atStart=>exact⟨l.length,azS _,I,by rw[aAJ]⟩
 case round =>
  obtain⟨k,hk,rfl,hval⟩:=hrel;have HV:=azO hval;clear hval;by_cases h0:k=0
  .subst h0;go_wp2
   go_ret
   have hD:Ux (Zk l)=l.take 0:=Na.lg Z HV.out (.inl I);have hr:=Fq (cap':=0) (n:=0) hv0.out Z Z (by unfold maxLen; omega) (λ_=>I);refine⟨a,by rw[hD]; rfl,by rw[hD]; exact hr,I⟩
  obtain⟨j,rfl⟩:∃j,k=j+1:=⟨k-1,Z⟩;rcases HA.out with ⟨rfl,_⟩ | ⟨b,o,rfl,hb,hlc,hc⟩
  .simp at hk
  have hck:=hc j Z;have hlt:j<l.length:=Z
  clear hc;by_cases hz:l[j]=0
  .have HE:=azO (Gy l j hlt HV.out hz);rw[hz]at hck;go_wp2
   go_round
   case rel=>exact⟨j,Z,by go_num,HE.out⟩
   case measure=>simp[intOf]
  have hzb:((l[j].toNat:Int)==0)=false:=by
   rw[aAh]; intro e; exact hz (aBq.1 (by simp; omega))
  have HZ:=azO hz;clear hz;go_wp2
  go_ret
  have hD:Ux (Zk l)=l.take (j+1):=Na.lg Z HV.out (.inr ⟨Z,HZ.out⟩);have hr:=Fq (cap':=j+1) (n:=j+1) hv0.out Z Z (by unfold maxLen; omega) (λh=>by cases h);have e:(l.take (j+1)).length=j+1:=by simp; omega
  refine⟨_,by rw[hD,e]; rfl,by rw[hD,e]; exact hr,I⟩
theorem X5(v:Value)(l:List UInt32)(w:World)(hv:aC w v l)(hlen:l.length<=1000000000) :
  Calls prog 200 #[v] w λe w'=>∃v',e = .returned v'∧w'.ownsRow w.heap.size 119 1 v' l.length (l.map bn)∧Ext w w':=by
 have hr:=hv.raw (λ_=>I);obtain⟨a,cap,rfl,hm,ha⟩:=hv;rcases a with _ | ad
 .have hz:l=[]∧cap=0:=by
   rcases ha with ⟨h,h0⟩ | ⟨b,o,h,_⟩
   .exact⟨h,h0 I⟩
   cases h
  obtain⟨rfl,rfl⟩:=hz;have hnil:=Lib.run_eql_slice_nil (P:=prog) w 22 119 none 0 0 0 0 underlying22;clear ha hr;go_enter func200,ntmps200
  go_wp2
  go_ret
  exact⟨_,I,aCi _ _ _ _,aAe _ _⟩
 have hnil:=Lib.run_eql_slice_nil (P:=prog) w 22 119 (some ad) l.length cap 0 0 underlying22;have hown:=aB1 (base:=w.heap.size) (e:=119) (size:=1) w #[] 0 (azS _) (azZ _) I;have hr:=Dk hr (.cells #[] 119);have h63:0+l.length<=maxLen:=by unfold maxLen; omega
 have hby:(0+l.length)*4<=140737488355328:=Z
 clear ha;go_enter func200,ntmps200
 go_wp2_with (at_builtin; refine bP I _ _ _ I lT w.heap.size hown I hr I h63 hby Y ?_; intro v' w' hown' hg)
 go_ret
 simp only[aAK,aAR]at hown';exact⟨_,I,by simpa using hown',((aAe _ _).alloc (azS _) _).grown hg Y (by simp[Value.ownBlock])⟩
theorem bY(l:List UInt32):(Ux (Zk l)).length<=l.length:=Na.bI (Na.dS l)
theorem oL(v:Value)(l:List UInt32)(w:World)(hv:aC w v l)(hlen:l.length<=1000000000) :
  Calls prog 313 #[v] w λe w'=>∃v',e = .returned v' ∧
   w'.ownsRow w.heap.size 119 1 v' (Ux (Zk l)).length ((Ux (Zk l)).map bn)∧Ext w w':=by
 have hd:=bY l;have HV:=azO hv;clear hv;go_enter func313,ntmps313
 go_wp2_with fail
 refine(short_any _ _ _ HV.out).mono ?_;rintro e w' ⟨a,rfl,hr,rfl⟩;generalize hx:Ux (Zk l)=m at hd hr;have HX:=azO hx;clear hx;go_wp2_with fail
 refine(X5 _ _ _ hr Z).mono ?_;rintro e w' ⟨v',rfl,ho,hb⟩;have HO:=azO ho;clear ho;go_wp2_with fail
 go_ret
 exact⟨_,I,by rw[HX.out]; exact HO.out,hb⟩
theorem gG(d:UInt32):IntKind.u64.wrap (d.toNat:Int)=(d.toNat:Int):=by
 have:=d.toNat_lt; rw[aBa]; omega
theorem Qz(x:UInt64):Zk [x.toUInt32,(x>>>32).toUInt32]=x.toNat:=by
 have:=x.toNat_lt;simp[Zk,Gg,UInt64.toNat_shiftRight,Nat.shiftRight_eq_div_pow];omega
theorem xU(x:UInt64):(x.toNat:Int)%(4294967296:Int)=(x.toUInt32.toNat:Int):=by simp
theorem NK(x:UInt64):(x.toNat:Int)/(4294967296:Int)=((x>>>32).toNat:Int):=by
 rw[UInt64.toNat_shiftRight]; simp[Nat.shiftRight_eq_div_pow]
theorem qA(x:UInt64)(w:World) :
  Calls prog 294 #[afV x] w λe w'=>∃v',e = .returned v' ∧
   w'.ownsRow w.heap.size 119 1 v' (Ux x.toNat).length ((Ux x.toNat).map bn)∧Ext w w':=by
 have hr:aC (w.alloc (.cells #[bn x.toUInt32,bn (x>>>32).toUInt32] 119)) (.slice (some ⟨w.heap.size,0,none⟩) 2 2) [x.toUInt32,(x>>>32).toUInt32]:=
  NM w [x.toUInt32,(x>>>32).toUInt32] _ (by unfold maxLen; simp)
 have hb1:=aF w (.cells #[bn x.toUInt32,bn (x>>>32).toUInt32] 119);have hc:=oL _ _ _ hr Y;rw[Qz]at hc;have HC:=azO hc;clear hc;go_enter func294,ntmps294
 go_wp2_with fail
 rw[xU,NK,xU];refine HC.out.mono ?_;rintro e w' ⟨v',rfl,ho,hb⟩;have HO:=azO (bC ho hb1.size);clear ho HC;go_wp2_with fail
 go_ret
 exact⟨_,I,HO.out,K00 hb1 hb⟩
theorem pX(v:Value)(l:List UInt32)(i:Nat)(w:World)(hv:aC w v l)(hi:i<=4000000000) :
  Calls prog 332 #[v,.i i] w λe w'=>e = .returned (.int .u64 ((l.getD i 0).toNat:Int))∧w=w':=by
 obtain⟨a,cap,rfl,hm,ha⟩:=hv;have hl:=qY hm ha;have HA:=azO ha;clear ha;by_cases hlt:i<l.length
 .rcases HA.out with ⟨rfl,_⟩ | ⟨b,o,rfl,hb,hlc,hc⟩
  .simp at hlt
  have hck:=hc i hlt;clear hc;have e:l.getD i 0=l[i]:=by simp[List.getD,List.getElem?_eq_getElem hlt]
  rw[e];go_enter func332,ntmps332
  go_wp2
  go_ret
  exact⟨jw (gG _),I⟩
 have e:l.getD i 0=0:=by simp[List.getD,List.getElem?_eq_none (Nat.le_of_not_lt hlt)]
 rw[e];go_enter func332,ntmps332
 go_wp2
 go_ret
 exact⟨I,I⟩
def qN(a b:Nat):Int:=if a<b then -1 else if b<a then 1 else 0
theorem afW(a b:List UInt32)(h:a.length=b.length)(k:Nat)(hk:k<a.length)(he:a.drop (k+1)=b.drop (k+1)) :
  (a[k]<b[k]'Z->Zk a<Zk b)∧(b[k]'Z<a[k]->Zk b<Zk a):=by
 have ha:=iU a k Z;have hb:=iU b k Z;rw[nK a k hk]at ha;rw[nK b k Z,<-he]at hb;have la:=Na.dS (a.take k);have lb:=Na.dS (b.take k);have ea:(a.take k).length=k:=by simp; omega
 have eb:(b.take k).length=k:=by simp; omega
 rw[ea]at la;rw[eb]at lb;have key:∀x y z:Nat,x<y->Gg^k*(x+Gg*z)+Gg^k<=Gg^k*(y+Gg*z):=by
  intro x y z hxy;rw[<-aBi];exact aAz _ Z
 constructor
 .intro hlt;have:=key _ _ (Zk (a.drop (k+1))) (UInt32.lt_iff_toNat_lt.1 hlt);omega
 intro hlt;have:=key _ _ (Zk (a.drop (k+1))) (UInt32.lt_iff_toNat_lt.1 hlt);omega
theorem X6{a b:List UInt32}(ha:Na.norm a)(hb:Na.norm b)(h:a.length<b.length):Zk a<Zk b:=by
 have h1:=Na.dS a;have h2:=Na.Dl hb Z;have h3:Gg^a.length<=Gg^(b.length-1):=aAV Na.jY Z;omega
theorem Bq(h:a<b):qN a b = -1:=by unfold qN; rw[azQ h]
theorem Fv(h:b<a):qN a b=1:=by unfold qN; rw[azP Z,azQ h]
theorem Ya(h:a=b):qN a b=0:=by unfold qN; rw[azP Z,azP Z]
theorem Bv(v u:Value)(l m:List UInt32)(w:World)(hv:aC w v l)(hu:aC w u m) :
  Calls prog 320 #[v,u] w λe w'=>e = .returned (.i (qN (Zk l) (Zk m)))∧Ext w w':=by
 have na:=Na.gI (Zk l);have nb:=Na.gI (Zk m);have ea:=PV (Zk l);have eb:=PV (Zk m);have hll:(Ux (Zk l)).length<=maxLen:=aAa (bY l) hv.len;have hlm:(Ux (Zk m)).length<=maxLen:=aAa (bY m) hu.len;have H1:=azO hv;have H2:=azO hu;have C1:=azO (short_any v l w hv);have C2:=azO (short_any u m w hu);clear hv hu;unfold maxLen at hll hlm;rw[<-ea,<-eb];generalize Ux (Zk l)=a at *;generalize Ux (Zk m)=b at *;have EA:=azO ea;have EB:=azO eb;have NA:=azO na;have NB:=azO nb;clear ea eb na nb;go_enter func320,ntmps320
 go_wp2_with fail
 refine C1.out.mono ?_;rintro e w' ⟨x,rfl,hx,rfl⟩;go_wp2_with fail
 refine C2.out.mono ?_;rintro e w' ⟨y,rfl,hy,rfl⟩;clear C1 C2 H1 H2;rcases aCq a.length b.length with hlt | heq | hgt
 .have hne:((a.length:Int) != (b.length:Int))=true:=by rw[bne_iff_ne]; omega
  have hr:=azO (Bq (X6 NA.out NB.out hlt));go_wp2_with fail
  go_ret
  exact⟨by rw[hr.out]; rfl,aAe _ _⟩
 .have hne:((a.length:Int) != (b.length:Int))=false:=by rw[bne_eq_false_iff_eq]; omega
  have HQ:=azO heq;clear heq;go_wp2_with fail
  rw[HQ.out]at hx |-;rw[HQ.out]at hll;go_loopw [5] (λi wr=>∃k:Nat,k<=b.length∧i = .i ((k:Int)-1)∧a.drop k=b.drop k∧Ext w wr) (λi _=>(intOf i+1).toNat)
  case atStart=>exact⟨b.length,azS _,I,by rw[List.drop_length,<-HQ.out,List.drop_length],aAe _ _⟩
  case round =>
   obtain⟨k,hk,rfl,hd,hbel⟩:=hrel;have HD:=azO hd;clear hd;cases k with
   | zero =>
    have hr:=azO (Ya (az0 Zk (show a=b from HD.out)));go_wp2_with fail
    go_ret
    exact⟨by rw[hr.out]; rfl,hbel⟩
   | succ j =>
    have hi:(((j+1:Nat):Int)-1)=(j:Int):=Z
    rw[hi];obtain⟨bx,ox,cx,hxs,hbx,hlx,hmx,hcx⟩:=dO hx HQ.out Z;obtain⟨by',oy,cy,hys,hby,hly,hmy,hcy⟩:=dO hy I Z;simp only[aAq]at hxs hys;obtain⟨rfl,-,-⟩:=hxs;obtain⟨rfl,-,-⟩:=hys;have hja:j<a.length:=by rw[HQ.out]; omega
    have c1:wr.cell? ⟨bx,ox+j,none⟩=some (bn a[j]):=by rw[hbel.cell (p:=⟨bx,ox+j,none⟩) hbx]; exact hcx j hja
    have c2:wr.cell? ⟨by',oy+j,none⟩=some (bn b[j]):=by rw[hbel.cell (p:=⟨by',oy+j,none⟩) hby]; exact hcy j Z
    clear hcx hcy;have hj1:(0:Int)<=j:=Z
    have hj2:(j:Int)<b.length:=Z
    have hcmp:=azO (afW a b HQ.out j hja HD.out);have hdrop:Hid (a[j]=b[j]->a.drop j=b.drop j):=λe=>by
     rw[aAZ hja,aAZ (show j<b.length by omega),e,HD.out]
    rcases aCq a[j].toNat b[j].toNat with h1 | h1 | h1
    .have hr:=azO (Bq (hcmp.out.1 (UInt32.lt_iff_toNat_lt.2 h1)));have h1':(a[j].toNat:Int)<b[j].toNat:=Z
     go_wp2_with fail
     go_quiet (fail)
     go_wp2_with fail
     go_ret
     exact⟨by rw[hr.out]; rfl,below_drewN hbel _⟩
    .have h1':¬(a[j].toNat:Int)<b[j].toNat:=Z
     have h2':¬(b[j].toNat:Int)<a[j].toNat:=Z
     have HE:=azO h1;clear h1;go_wp2_with fail
     go_quiet (fail)
     go_wp2_with fail
     go_quiet (fail)
     go_wp2_with fail
     go_roundw
     case rel=>exact⟨j,Z,I,hdrop.out (aBq.1 HE.out),below_drewN hbel _⟩
     case measure=>simp[intOf]
    have hr:=azO (Fv (hcmp.out.2 (UInt32.lt_iff_toNat_lt.2 h1)));have h1':¬(a[j].toNat:Int)<b[j].toNat:=Z
    have h2':(b[j].toNat:Int)<a[j].toNat:=Z
    go_wp2_with fail
    go_quiet (fail)
    go_wp2_with fail
    go_quiet (fail)
    go_wp2_with fail
    go_ret
    exact⟨by rw[hr.out]; rfl,below_drewN (below_drewN hbel _) _⟩
 have hne:((a.length:Int) != (b.length:Int))=true:=by rw[bne_iff_ne]; omega
 have hr:=azO (Fv (X6 NB.out NA.out hgt));go_wp2_with fail
 go_ret
 exact⟨by rw[hr.out]; rfl,aAe _ _⟩
open Go.RowKit Na
variable{α:Type}
theorem afX(r:Nat)(x:UInt32)(h:r<4294967296):bits .or .u64 ((r:Int)*4294967296) (IntKind.u64.wrap (x.toNat:Int))=((r*4294967296+x.toNat:Nat):Int):=by
 have hx:=x.toNat_lt;rw[gG];have e:((r:Int)*4294967296)=((r*4294967296:Nat):Int):=by simp
 rw[e,u64_or_nat _ _ Z Z,nat_join 32 _ _ Z Z]
theorem QA(a b:Nat):(a:Int).tdiv (b:Int)=((a/b:Nat):Int):=by
 rw[Int.tdiv_eq_ediv_of_nonneg (Int.natCast_nonneg _)]; rfl
theorem bW{n:Nat}(h:n<4294967296):(UInt32.ofNat n).toNat=n:=by simp; omega
theorem ZU(N d:Nat)(hd:0<d)(hd2:d<4294967296)(h:N<d*4294967296) :
  IntKind.u64.wrap ((N:Int)/(d:Int))%(4294967296:Int)=((UInt32.ofNat (N/d)).toNat:Int):=by
 have hq:N/d<4294967296:=aB2 h;rw[bW hq,aBa];have e:(N:Int)/(d:Int)=((N/d:Nat):Int):=I;rw[e];generalize N/d=q at hq;omega
theorem afY(q r d n:Nat)(h:q*d+r=n)(hr:r<d):q=n/d∧r=n%d:=by
 subst h;have:0<d:=Z
 rw[aBI,aAw,aCr _ _ this,aCs hr,Nat.add_mul_mod_self_left,aBJ hr];omega
theorem one_any(v:Value)(l:List UInt32)(d:UInt32)(w:World)(hv:aC w v l)(hd:0<d.toNat)(hlen:l.length<=1000000000) :
  Calls prog 321 #[v,bn d] w λe w'=>∃v',e = .returned (.tuple #[v',.int .u32 ((Zk l%d.toNat:Nat):Int)]) ∧
   aC w' v' (Ux (Zk l/d.toNat))∧Ext w w':=by
 have hv0:=azO hv;obtain⟨a,cap,rfl,hm,ha⟩:=hv;have HA:=azO ha;clear ha;have h63:l.length<=maxLen:=by unfold maxLen; omega
 have hby:4*l.length<=281474976710656:=Z
 have hdl:=d.toNat_lt;go_enter func321,ntmps321
 go_wp2_with (at_make; refine wpList_make_row I _ _ _ I lT I w.heap.size l.length I I I hby h63 (azS _) ?_; intro w1 hown hg)
 have hb1:=gu (aAe w.heap.size w) hg (azS _);clear hg;have HO:=azO hown;clear hown;go_loopw [7,8] (λr i wr=>∃(k rest:Nat) (q:List UInt32),k+q.length=l.length∧i = .i ((k:Int)-1)∧r = .int .u64 rest∧rest<d.toNat ∧
  Zk q*d.toNat+rest=Zk (l.drop k)∧wr.ownsRow w.heap.size 119 1 (.slice (some ⟨w.heap.size,0,none⟩) l.length l.length) l.length ((List.replicate k 0++q).map bn)∧Ext w wr) (λ_ i _=>(intOf i+1).toNat)
 case atStart=>exact⟨l.length,0,[],by simp,I,I,hd,by simp[Zk],by simpa[bn]using HO.out,hb1⟩
 case round =>
  obtain⟨k,rest,q,hkq,rfl,rfl,hr,hval,hown,hbel⟩:=hrel;have HV:=azO hval;have HK:=azO hkq;have HW:=azO hown;have hkl:k<=l.length:=Z
  clear hval hkq hown;cases k with
  | zero =>
   simp only[aB9,aAR]at HW;simp only[aAK]at HK;have hrow:aC wr (.slice (some ⟨w.heap.size,0,none⟩) l.length l.length) q:=by
    have:=HW.out; rw[<-HK.out]at this |-; exact aZ this
   have hq:=afY (Zk q) rest d.toNat (Zk l) (by have:=HV.out; simpa using this) hr;have HQ:=azO hq;clear hq HO;go_wp2_with fail
   refine(short_any _ _ _ hrow).mono ?_;rintro e w' ⟨a',rfl,hs,rfl⟩;have hrm:(rest:Int)%4294967296=rest:=Z
   go_wp2_with fail
   go_ret2
   rw[HQ.out.1]at hs |-;exact⟨_,by rw[HQ.out.2]; rfl,hs,hbel⟩
  | succ j =>
   have hi:(((j+1:Nat):Int)-1)=(j:Int):=Z
   rw[hi];rcases HA.out with ⟨rfl,_⟩ | ⟨b,o,rfl,hb,hlc,hc⟩
   .simp at hkl
   have hck:wr.cell? ⟨b,o+j,none⟩=some (bn l[j]):=by rw[hbel.cell (p:=⟨b,o+j,none⟩) hb]; exact hc j Z
   clear hc hi;obtain⟨N,hN⟩:∃N,N=rest*4294967296+l[j].toNat:=⟨_,I⟩;have hor:bits .or .u64 ((rest:Int)*4294967296) (IntKind.u64.wrap (l[j].toNat:Int))=(N:Int):=by rw[hN]; exact afX rest l[j] Z
   have HN:=azO hN;have hlen2:(List.replicate (j+1) (0:UInt32)++q).length=l.length:=by have:=HK.out; simp; omega
   have hcell:=HW.out.cellAt j Z;rw[List.getElem?_map,List.getElem?_append_left Y,List.getElem?_replicate,azQ Z,aAF]at hcell;have hfz:=HW.out.frozenAt j;have hst:=HW.out.stored j (bn (UInt32.ofNat (N/d.toNat)));rw[aAL,aCt,Fz]at hst;have HS:=azO hst;clear hN hst HO;go_wp2_with fail
   go_roundw
   case rel =>
    have hNd:N<d.toNat*4294967296:=by have:=HN.out; have:=l[j].toNat_lt; have:=aBj 4294967296 (show rest+1<=d.toNat from hr); omega
    rw[ZU N d.toNat hd hdl hNd,show(N:Int)%(d.toNat:Int)=((N%d.toNat:Nat):Int)from rfl];refine⟨j,N%d.toNat,UInt32.ofNat (N/d.toNat)::q,?_,I,I,aBb _ hd,?_,?_,?_⟩
    .have:=HK.out; simp; omega
    .rw[nK l j Z,<-HV.out];have e:(UInt32.ofNat (N/d.toNat)).toNat=N/d.toNat:=bW (by exact aB2 hNd);have:=aBr N d.toNat;have h2:=HN.out;simp only[Zk,Gg,e];rw[aBk,aAw (N/d.toNat)];rw[aAf,aAB];omega
    .simpa[bn]using HS.out.1
    exact hbel.setCell (p:=⟨w.heap.size,j,none⟩) (azS _) _
   case measure=>simp[intOf]
open Go.RowKit Na
variable{α:Type}
theorem ach(r:Nat)(x:Nat)(h:r<4294967296)(hx:x<4294967296):bits .or .u64 (x:Int) ((r:Int)*4294967296)=((x+Gg*r:Nat):Int):=by
 have e:((r:Int)*4294967296)=((r*4294967296:Nat):Int):=by simp
 rw[e,u64_or_nat _ _ Z Z,Nat.or_comm,nat_join 32 _ _ Z Z];congr 1;unfold Gg; omega
theorem aci{β:Type}(l:List β)(z:β)(i:Nat)(h:i<l.length):(l.take i++List.replicate (l.length-i) z).set i l[i]=l.take (i+1)++List.replicate (l.length-(i+1)) z:=by
 obtain⟨k,hk⟩:∃k,l.length-i=k+1:=⟨l.length-i-1,Z⟩;rw[hk,show l.length-(i+1)=k by omega,List.set_append,aB3];have e:(l.take i).length=i:=by simp; omega
 rw[e,azP Z,aBK,List.set_cons_zero,take_snoc l i h,aAb];rfl
theorem KW(N p:Nat):(N:Int)/2^p%(4294967296:Int)=((UInt32.ofNat (N/2^p)).toNat:Int):=by simp
theorem Ve(v:Value)(l:List UInt32)(p:Nat)(w:World)(hv:aC w v l)(hp:0<p)(hp2:p<=31)(hlen:l.length<=1000000000) :
  Calls prog 323 #[v,.i (-(p:Int))] w λe w'=>∃a,e = .returned (.slice a (Ux (Zk l/2^p)).length (Ux (Zk l/2^p)).length) ∧
   aC w' (.slice a (Ux (Zk l/2^p)).length (Ux (Zk l/2^p)).length) (Ux (Zk l/2^p))∧Ext w w':=by
 have hd:=bY l;have ea:=PV (Zk l);have C1:=azO (short_any v l w hv);clear hv;rw[<-ea];generalize Ux (Zk l)=a at *;have EA:=azO ea;clear ea;have hneg : -(p:Int)<0:=Z
 by_cases h0:a.length=0
 .obtain rfl:a=[]:=aBd h0;go_enter func323,ntmps323
  go_wp2_with fail
  refine C1.out.mono ?_;rintro e w' ⟨x,rfl,hx,rfl⟩;go_wp2_with fail
  go_ret
  exact⟨none,by simp[Zk,Ux,Na.kS],by simpa[Zk,Ux,Na.kS]using FB w,aAe _ _⟩
 have h1:0<a.length:=Z
 have h63:a.length<=maxLen:=by unfold maxLen; omega
 have hby:4*a.length<=281474976710656:=Z
 go_enter func323,ntmps323
 go_wp2_with fail
 refine C1.out.mono ?_;rintro e w' ⟨x,rfl,hx,rfl⟩;have hn1:¬-(p:Int) <= -32*(a.length:Int):=Z
 have ZV:(p:Int)/32=0:=Z
 have ajm:(p:Int)%32=(p:Int):=Z
 go_wp2_with (at_make; refine wpList_make_row I _ _ _ I lT I w.heap.size a.length I I I hby h63 (azS _) ?_; intro w1 hown hg)
 have hb1:=gu (aAe w.heap.size w) hg (azS _);clear hg;have HO:=azO hown;clear hown ZV hn1;have hsl:=zS p a;go_loopw [37] (λi wr=>∃k:Nat,k<=a.length∧i = .i k∧wr.ownsRow w.heap.size 119 1 (.slice (some ⟨w.heap.size,0,none⟩) a.length a.length) a.length (((Na.shr p a).take k++List.replicate ((Na.shr p a).length-k) 0).map bn)∧Ext w wr) (λi _=>a.length-(intOf i).toNat)
 case atStart=>exact⟨0,Z,I,by simpa[bn,hsl]using HO.out,hb1⟩
 case round =>
  obtain⟨k,hk,rfl,hown,hbel⟩:=hrel;have HW:=azO hown;have hx1:=hx.below hbel;clear hown;by_cases hlt:k<a.length
  .have g0:=(a.getD k 0).toNat_lt;have g1:=(a.getD (k+1) 0).toNat_lt;have hget:=Yb p a k hlt;have d0:=pX _ a k _ hx1 Z;have d1:=pX _ a (k+1) _ hx1 Z;generalize (a.getD k 0).toNat=D0 at *;generalize (a.getD (k+1) 0).toNat=D1 at *;have hor:=ach D1 D0 g1 g0;generalize hN:D0+Gg*D1=N at *;obtain⟨⟨cv,hcell⟩,hfz⟩:=qZ HW.out k hlt;have HG:=azO hget;have HSL:=azO hsl;have E0:=azO d0;have E1:=azO d1;clear hget hsl hN d0 d1;go_wp2_with fail
   refine E0.out.mono ?_;rintro e w' ⟨rfl,rfl⟩;go_wp2_with fail
   refine E1.out.mono ?_;rintro e w' ⟨rfl,rfl⟩;go_wp2_with fail
   go_roundw
   case rel =>
    have hst:=HW.out.stored k (bn ((Na.shr p a)[k]'(by rw[HSL.out]; exact hlt)));rw[<-aBz,aci _ _ k (by rw[HSL.out]; exact hlt)]at hst;rw[HG.out]at hst;rw[KW];exact⟨k+1,Z,by go_num,hst.1,hbel.setCell (p:=⟨w.heap.size,k,none⟩) (azS _) _⟩
   case measure=>simp[intOf]; omega
  obtain rfl:k=a.length:=by omega
  have hrow:aC wr (.slice (some ⟨w.heap.size,0,none⟩) a.length a.length) (Na.shr p a):=by
   have:=HW.out;rw[<-hsl,aAJ,aBK,aB9,aAW]at this;have h2:=aZ this;rw[hsl]at h2; exact h2
  have hs:=short_any _ _ _ hrow;rw[Yc p Z]at hs;have HS:=azO hs;clear hs hrow;go_wp2_with fail
  refine HS.out.mono ?_;rintro e w' ⟨a',rfl,hr,rfl⟩;have HR:=azO hr;clear hr;go_wp2_with fail
  go_ret
  exact⟨_,I,HR.out,hbel⟩
theorem wide(c:UInt32)(p:Nat)(h:p<=31):IntKind.u64.wrap (IntKind.u64.wrap (c.toNat:Int)*2^p)=((c.toNat*2^p:Nat):Int):=by
 have hc:=c.toNat_lt;have hp:2^p<=2^31:=aAV Z h;have hm:c.toNat*2^p<=4294967296*2^31:=aBA Z hp;have e:(c.toNat:Int)*2^p=((c.toNat*2^p:Nat):Int):=by simp
 rw[gG,e,aBa];omega
theorem ajn(t:UInt32)(c p:Nat)(hp:p<=31)(ht:t.toNat<2^p) :
  bits .or .u32 (t.toNat:Int) (((c*2^p:Nat):Int)%4294967296)=((UInt32.ofNat (t.toNat+c*2^p%Gg)).toNat:Int)∧t.toNat+c*2^p%Gg<Gg:=by
 have hB:=KX p Z;have h2:0<2^p:=aBl p;have e1:c*2^p%Gg=c%2^(32-p)*2^p:=by
  rw[hB,aAw c,Nat.mul_mod_mul_left,aAw]
 have e2:c%2^(32-p)+1<=2^(32-p):=aBb _ (aBl _);have e3:c*2^p%Gg+2^p<=Gg:=by
  rw[e1,<-Nat.succ_mul,hB,aAw (2^p)]; exact aBj _ e2
 have hlt:t.toNat+c*2^p%Gg<Gg:=Z
 refine⟨?_,hlt⟩;have e4:((c*2^p:Nat):Int)%4294967296=((c*2^p%Gg:Nat):Int):=by simp[Gg]
 have hB':Gg=4294967296:=I;rw[e4,u32_or_nat _ _ t.toNat_lt Z,Nat.or_comm,nat_join p _ _ (by rw[e1]; simp) ht,bW Z,aBI]
theorem afZ{β:Type}(q:List β)(t x y z:β)(k m:Nat)(hq:q.length=k):((q++t::List.replicate (m+1) z).set k x).set (k+1) y=(q++[x])++y::List.replicate m z:=by
 subst hq;rw[List.set_append,azP Z,aBK,List.set_cons_zero,List.set_append,azP Z,aCz,aB3];simp
theorem zU(v:Value)(l:List UInt32)(p:Nat)(w:World)(hv:aC w v l)(hp2:p<=31)(hlen:l.length<=1000000000) :
  Calls prog 323 #[v,.i p] w λe w'=>∃a,e = .returned (.slice a (Ux (Zk l*2^p)).length (Ux (Zk l*2^p)).length) ∧
   aC w' (.slice a (Ux (Zk l*2^p)).length (Ux (Zk l*2^p)).length) (Ux (Zk l*2^p))∧Ext w w':=by
 have hd:=bY l;have ea:=PV (Zk l);have C1:=azO (short_any v l w hv);clear hv;rw[<-ea];generalize Ux (Zk l)=a at *;have EA:=azO ea;clear ea;have h63:a.length+1<=maxLen:=by unfold maxLen; omega
 have hby:4*(a.length+1)<=281474976710656:=Z
 have ZV:(p:Int)/32=0:=Z
 have ajm:(p:Int)%32=(p:Int):=Z
 have hmin:min (p:Int) 4096=(p:Int):=Z
 go_enter func323,ntmps323
 go_wp2_with fail
 refine C1.out.mono ?_;rintro e w' ⟨x,rfl,hx,rfl⟩;go_wp2_with (at_make; refine wpList_make_row I _ _ _ I lT I w.heap.size (a.length+1) I I I hby h63 (azS _) ?_; intro w1 hown hg)
 have hb1:=gu (aAe w.heap.size w) hg (azS _);clear hg;have HO:=azO hown;clear hown;go_loopw [76] (λi wr=>∃(k:Nat) (q:List UInt32) (t:UInt32),k<=a.length∧i = .i k∧q.length=k∧t.toNat<2^p∧Zk (q++[t])=Zk (a.take k)*2^p ∧
  wr.ownsRow w.heap.size 119 1 (.slice (some ⟨w.heap.size,0,none⟩) (a.length+1) (a.length+1)) (a.length+1) ((q++t::List.replicate (a.length-k) 0).map bn)∧Ext w wr) (λi _=>a.length-(intOf i).toNat)
 case atStart=>exact⟨0,[],0,Z,I,I,by simpa using aBl p,by simp[Zk],by simpa[bn,aB3]using HO.out,hb1⟩
 case round =>
  obtain⟨k,q,t,hk,rfl,hq,ht,hval,hown,hbel⟩:=hrel;have HW:=azO hown;have hx1:=hx.below hbel;have HV:=azO hval;have HT:=azO ht;have HQ:=azO hq;clear hown hval ht hq HO;by_cases hlt:k<a.length
  .obtain⟨bx,ox,cx,hxs,hbx,hlx,hmx,hcx⟩:=dO hx1 I Z;simp only[aAq]at hxs;obtain⟨rfl,-,-⟩:=hxs;have hck:=hcx k hlt;clear hcx;have ho1:=HW.out.cellAt k Z;have hfz:=HW.out.frozenAt k;have hfz1:=HW.out.frozenAt (k+1);obtain⟨⟨cv,hcell1⟩,_⟩:=qZ HW.out (k+1) Z;rw[List.getElem?_map,List.getElem?_append_right (by rw[HQ.out]; omega),HQ.out,aBK,List.getElem?_cons_zero,aAF]at ho1;have HA:=azO (Na.cZ a k hlt);generalize a[k]=c at hck HA;go_wp2_with fail
   go_roundw
   case rel =>
    obtain⟨o1,o2⟩:=ajn t c.toNat p hp2 HT.out;have hq:=HQ.out;have ht:=HT.out;obtain⟨m,hm⟩:∃m,a.length-k=m+1:=⟨a.length-k-1,Z⟩;have hst:=(HW.out.stored k (bn (UInt32.ofNat (t.toNat+c.toNat*2^p%Gg)))).1;have hst2:=(hst.stored (k+1) (bn (UInt32.ofNat (c.toNat*2^p/Gg)))).1;rw[hm,<-aBz,<-aBz,afZ q t _ _ 0 k m hq]at hst2;have hhi:c.toNat*2^p/Gg<2^p:=by
     refine aB2 ?_;have hc:=c.toNat_lt;exact aCD hc (aBl p)
    have ajo:c.toNat*2^p/Gg<4294967296:=by
     have:2^p<=2^31:=aAV Z hp2;omega
    have e5:((c.toNat*2^p:Nat):Int)/4294967296%4294967296=((UInt32.ofNat (c.toNat*2^p/Gg)).toNat:Int):=by
     rw[bW ajo];have:((c.toNat*2^p:Nat):Int)/4294967296=((c.toNat*2^p/Gg:Nat):Int):=by simp[Gg]
     rw[this]; omega
    rw[wide c p hp2,o1,e5];refine⟨k+1,q++[UInt32.ofNat (t.toNat+c.toNat*2^p%Gg)],UInt32.ofNat (c.toNat*2^p/Gg),Z,by go_num,by simp[hq],by rw[bW ajo]; exact hhi,?_,?_,?_⟩
    .have hv:=HV.out;rw[Na.jf,hq]at hv;rw[Na.jf,Na.jf,HA.out,aBk,<-hv,bW o2,bW ajo,azU,hq];have:=aBr (c.toNat*2^p) Gg;simp only[aAx,aA3,aAA];generalize c.toNat*2^p/Gg=hi at *;generalize c.toNat*2^p%Gg=lo at *;rw[aAB (Gg^k) c.toNat,<-this,aAf,aAf,<-aAB (Gg^k) Gg hi];omega
    .rw[show a.length-(k+1)=m by omega]; exact hst2
    exact(hbel.setCell (p:=⟨w.heap.size,k,none⟩) (azS _) _).setCell (p:=⟨w.heap.size,k+1,none⟩) (azS _) _
   case measure=>simp[intOf]; omega
  obtain rfl:k=a.length:=by omega
  have hrow:aC wr (.slice (some ⟨w.heap.size,0,none⟩) (a.length+1) (a.length+1)) (q++[t]):=by
   have:=HW.out;rw[aBK,aB9]at this;have e:(q++[t]).length=a.length+1:=by have:=HQ.out; simp[this]
   have h2:=aZ (l:=q++[t]) (by rw[e]; exact this);exact h2
  have hs:=short_any _ _ _ hrow;have hv:=HV.out;rw[aAJ]at hv;rw[hv]at hs;have HS:=azO hs;clear hs hrow hv;go_wp2_with fail
  refine HS.out.mono ?_;rintro e w' ⟨a',rfl,hr,rfl⟩;have HR:=azO hr;clear hr;go_wp2_with fail
  go_ret
  exact⟨_,I,HR.out,hbel⟩
def bl(n:Nat):Nat:=if n=0 then 0 else Nat.log2 n+1
theorem amB{n k:Nat}(h1:2^k<=n)(h2:n<2^(k+1)):bl n=k+1:=by
 have h0:n≠0:=by have:=aBl k; omega
 unfold bl;rw[azP h0,(Nat.log2_eq_iff h0).2 ⟨h1,h2⟩]
theorem Yd(a:List UInt32)(x:UInt32)(hx:x≠0)(c:Nat)(h1:2^(c-1)<=x.toNat)(h2:x.toNat<2^c)(h3:1<=c):bl (Zk (a++[x]))=32*a.length+c:=by
 have hv:=Na.jf a x;have hl:=Na.dS a;have hB:Gg^a.length=2^(32*a.length):=by rw[Nat.pow_mul]; rfl
 rw[hB]at hv hl;have e:32*a.length+c=(32*a.length+(c-1))+1:=Z
 rw[e];apply amB
 .rw[hv,aBL];have:=aAz (2^(32*a.length)) h1;omega
 rw[hv,show 32*a.length+(c-1)+1=32*a.length+c by omega,aBL];have:=aAz (2^(32*a.length)) (show x.toNat+1<=2^c by omega);rw[aAf]at this;omega
theorem GH(v:Value)(l:List UInt32)(w:World)(hv:aC w v l)(hlen:l.length<=1000000000) :
  Calls prog 290 #[v] w λe w'=>e = .returned (.i (bl (Zk l):Int))∧w=w':=by
 have hd:=bY l;have ea:=PV (Zk l);have na:=Na.gI (Zk l);have C1:=azO (short_any v l w hv);clear hv;rw[<-ea];generalize Ux (Zk l)=a at *;by_cases h0:a.length=0
 .obtain rfl:a=[]:=aBd h0;clear ea;go_enter func290,ntmps290
  go_wp2_with fail
  refine C1.out.mono ?_;rintro e w' ⟨x,rfl,hx,rfl⟩;go_wp2_with fail
  go_ret
  exact⟨I,I⟩
 obtain⟨m,hm⟩:∃m,a.length=m+1:=⟨a.length-1,Z⟩;have hx0:a[m]'Z≠0:=by
  have:=Na.uG na Z;simpa[hm]using this
 have hb:1<=Lib.bitLen (a[m]'Z).toNat∧2^(Lib.bitLen (a[m]'Z).toNat-1)<=(a[m]'Z).toNat∧(a[m]'Z).toNat<2^Lib.bitLen (a[m]'Z).toNat:=
  Lib.bitLenAux_bounds 64 _ (by have:=(a[m]'Z).toNat_lt; omega) (λe=>hx0 (aBq.1 (by simpa using e)))
 have hr:=Yd (a.take m) (a[m]'Z) hx0 _ hb.2.1 hb.2.2 hb.1;have hbl:=Lib.bitLen_le (a[m]'Z).toNat 32 Z (a[m]'Z).toNat_lt;have e1:a.take m++[a[m]'Z]=a:=by
  rw[<-aAU Z,<-hm,aAJ]
 rw[e1]at hr;have e2:(a.take m).length=m:=by simp; omega
 rw[e2]at hr;have HR:=azO hr;have HM:=azO hm;have hml:(m:Int)<=1000000000:=Z
 have hx1:=(a[m]'Z).toNat_lt;clear ea na hr hb hx0 e1 e2;go_enter func290,ntmps290
 go_wp2_with fail
 refine C1.out.mono ?_;rintro e w' ⟨x,rfl,hx,rfl⟩;obtain⟨bx,ox,cx,hxs,hbx,hlx,hmx,hcx⟩:=dO hx I Z;simp only[aAq]at hxs;obtain⟨rfl,-,-⟩:=hxs;have hck:=hcx m Z;clear hcx;have h0':((m:Int)+1==0)=false:=by rw[aAh]; omega
 generalize a[m]=c at *;rw[HM.out]at hx |-;go_wp2_with fail
 refine(Tryz.bits_Len32 (c.toNat:Int) _ Z Z).mono ?_;rintro e w' ⟨rfl,rfl⟩;rw[aBs];go_wp2_with fail
 go_ret
 exact⟨jw (by rw[HR.out]; omega),I⟩
