/- Walks: bytes.TrimRight at a zero byte, slices.Grow of nil, slices.Concat. -/
import Derived.Test.YtapmgonflgahbaaGreatDoorEncW1
import Derived.Test.YtapmgonflgahbaaGreatDoorPk30
import Derived.Lib.AppendZeros
set_option maxHeartbeats 1600000
set_option maxRecDepth 100000
namespace Go.Proofs.YtapmgonflgahbaaGreatDoor
open Go.RowKit En
variable{α:Type}
theorem LZ(v:Value)(l:List UInt8)(w:World)(hv:bI w v l) :
    Calls Tryz.prog 299 #[v,.u 0] w fun e w'=>∃v',e = .returned v'∧bI w v' (Nb.aj (Nb.val l))∧w=w':=by
 have hv0:=anU hv;obtain⟨a,cap,rfl,hm,ha⟩:=hv;have hl:=pU hm ha;have hcap:l.length≤cap:=by
  rcases ha with ⟨rfl,_⟩ | ⟨_,_,_,_,h,_⟩
  ·simp
  exact h
 have HA:=anU ha;clear ha;unfold maxLen at hm;go_enter Tryz.func299,Tryz.ntmps299
 go_wp2
 go_loop [0] (fun i=>∃k:Nat,i = .slice a k cap∧k≤l.length∧Hid (Nb.val (l.take k)=Nb.val l)) (fun i=>match i with | .slice _ k _=>k | _=>0)
 case atStart=>exact⟨l.length,rfl,an7 _,by show _=_; rw[aoQ]⟩
 case round =>
  obtain⟨k,rfl,hk,HV⟩:=hrel;by_cases h0:k=0
  ·subst h0;go_wp2
   go_ret
   have hD:Nb.aj (Nb.val l)=l.take 0:=Nb.ku (by omega) HV.out (.inl rfl);have hr:=Aq (cap':=cap) (n:=0) hv0.out (by omega) (by omega) hm (fun h=>by
    rcases HA.out with ⟨_,h'⟩ | ⟨_,_,h',_⟩
    ·exact h' h
    rw[h]at h'; cases h')
   exact⟨_,rfl,by rw[hD]; exact hr,rfl⟩
  obtain⟨j,rfl⟩:∃j,k=j+1:=⟨k-1,by omega⟩;rcases HA.out with ⟨rfl,_⟩ | ⟨b,o,rfl,hb,hlc,hc⟩
  ·simp at hk
  have hck:=hc j (by omega);have hlt:j<l.length:=by omega
  clear hc;by_cases hz:l[j]=0
  ·have HE:Hid (Nb.val (l.take j)=Nb.val l):=by show _=_; rw[←HV.out,Nb.bU l j hlt,hz]; simp
   have hzb:((l[j].toNat:Int)==0)=true:=by rw[hz]; rfl
   have HZ:=anU hz;clear hz;go_wp2
   go_round
   case rel=>exact⟨j,rfl,by omega,HE⟩
   case measure=>simp
  have hzb:((l[j].toNat:Int)==0)=false:=by
   rw[aog]; intro e; exact hz (aps.1 (by simp; omega))
  have HZ:=anU hz;clear hz;go_wp2
  go_ret
  have hD:Nb.aj (Nb.val l)=l.take (j+1):=Nb.ku (by omega) HV.out (.inr ⟨by omega,HZ.out⟩);have hr:=Aq (cap':=cap) (n:=j+1) hv0.out (by omega) (by omega) hm (fun h=>by cases h);exact⟨_,rfl,by rw[hD]; exact hr,rfl⟩
theorem aa3(v:Value)(l:List UInt8)(w:World)(hv:bI w v l) :
    Calls Tryz.prog 258 #[v,.string ⟨#[0]⟩] w fun e w'=>∃v',e = .returned v'∧bI w v' (Nb.aj (Nb.val l))∧w=w':=by
 have HV:=anU hv;obtain⟨a,cap,rfl⟩:=hv.shape;have HT:=anU (LZ _ _ _ hv);have hl:=hv.len;unfold maxLen at hl;clear hv;by_cases h0:l.length=0
 ·have e:l=[]:=apc h0;subst e;have HT2:=HV;go_enter Tryz.func258,Tryz.ntmps258
  go_wp2_with fail
  go_ret
  exact⟨_,rfl,HV.out,rfl⟩
 have h0':((l.length:Int)==0)=false:=by rw[aog]; omega
 go_enter Tryz.func258,Tryz.ntmps258
 go_wp2_with fail
 refine HT.out.mono ?_;rintro e w' ⟨v',rfl,hr,rfl⟩;have HR:=anU hr;clear hr HT;go_wp2_with fail
 go_ret
 exact⟨_,rfl,HR.out,rfl⟩
theorem aa4(n:Nat)(w:World)(hn:n≤100000000000) :
    Calls Tryz.prog 257 #[.sn,.i n] w fun e w'=>∃v',e = .returned v'∧w'.ownsRow w.heap.size 5 1 v' 0 ([].map dY)∧Ext w w':=by
 rcases aoJ n with rfl | h0
 ·go_enter Tryz.func257,Tryz.ntmps257
  go_wp2_with fail
  go_ret
  exact⟨_,rfl,ap5 _ _ _ _,aor _ _⟩
 obtain⟨i,hi,hz,hsz,hby⟩:=nX.info;have happ:=Lib.run_append_nil_zeros (P:=Tryz.prog) w 49 3 49 5 i (.u 0) .i64 .i64 Tryz.underlying49 Tryz.underlying3 hi hz n h0 (by omega) (by omega) (by rw[hby]; omega);have hge:=grownCap_ge w n 0 5;have hle:=grownCap_le_maxLen w n 0 5 (by unfold maxLen; omega);have hzc:∀k,(Builtin.zeroCells (Value.u 0).cells k).size=k:=fun k=>by
  have hc1:(Value.u 0).cells.size=1:=rfl;simp[Builtin.zeroCells,hc1]
 have hown:=World.ownsRow_made (base:=w.heap.size) (e:=5) (size:=1) w.drew (Builtin.zeroCells (Value.u 0).cells n++Builtin.zeroCells (Value.u 0).cells (grownCap w n 0 5-n)) (grownCap w n 0 5) (an7 _) hle (by rw[Array.size_append,hzc,hzc]; omega);have HO:=anU hown;clear hown;go_enter Tryz.func257,Tryz.ntmps257
 go_wp2_with (at_builtin; refine Lib.wpList_append_run _ rfl _ _ _ _ rfl _ _ rfl rfl _ _ happ ?_)
 go_ret
 exact⟨_,rfl,HO.out,(below_drewN (aor _ _) 1).alloc (an7 _) _⟩
def cat(ls:List (List UInt8))(k:Nat):List UInt8:=(ls.take k).flatten
theorem BN(ls:List (List UInt8))(k:Nat)(hk:k<ls.length):cat ls (k+1)=cat ls k++ls[k]:=by
 unfold cat; rw[take_snoc ls k hk,List.flatten_append]; simp
theorem acS(ls:List (List UInt8)):cat ls ls.length=ls.flatten:=by unfold cat; rw[aoQ]
theorem Ag(ls:List (List UInt8))(k:Nat):(cat ls k).length≤ls.flatten.length:=by
 unfold cat;conv=>rhs; rw[←apZ k ls,List.flatten_append,an5]
 omega
theorem Tz(v:Value)(ls:List (List UInt8))(w:World)(hv:xX w v ls)(hlen:ls.flatten.length≤1000000000) :
    Calls Tryz.prog 201 #[v] w fun e w'=>∃v',e = .returned v'∧w'.ownsRow w.heap.size 5 1 v' ls.flatten.length (ls.flatten.map dY)∧Ext w w':=by
 obtain⟨a,cap,rfl,hm,ha⟩:=hv;have hl:=Yj hm ha;have HA:=anU ha;clear ha;go_enter Tryz.func201,Tryz.ntmps201
 go_wp2_with fail
 go_loop [3,11] (fun s i=>∃k:Nat,i = .i k∧k≤ls.length∧s = .i ((cat ls k).length:Nat)) (fun _ i=>ls.length-(intOf i).toNat)
 case atStart=>exact⟨0,rfl,aoa _,rfl⟩
 case round =>
  obtain⟨k,rfl,hk,rfl⟩:=hrel;have hle:=Ag ls k;by_cases hlt:k<ls.length
  ·rcases HA.out with ⟨rfl,_⟩ | ⟨b,o,rfl,hb,hlc,hc⟩
   ·simp at hlt
   obtain⟨x,hx,hxr⟩:=hc k hlt;obtain⟨ax,cx,rfl⟩:=hxr.shape;have hf:((cat ls (k+1)).length:Int)=((cat ls k).length:Int)+((ls[k]).length:Int):=by rw[BN ls k hlt]; simp
   have hle2:=Ag ls (k+1);have hs:((cat ls k).length:Int)+((ls[k]).length:Int)≤1000000000:=by omega
   have HF:=anU hf;clear hc hxr hf;go_wp2_with fail
   go_round
   case rel =>
    exact⟨k+1,by go_num,by omega,Et HF.out.symm⟩
   case measure=>simp[intOf]; omega
  obtain rfl:k=ls.length:=by omega
  have hG:=aa4 (cat ls ls.length).length w (by omega);have HG:=anU hG;clear hG hle;go_wp2_with fail
  refine HG.out.mono ?_;rintro e w1 ⟨g,rfl,ho,hb⟩;have HO:=anU ho;have HB:=anU hb;clear ho hb HG;go_wp2_with fail
  go_loopw [6,27] (fun g i wr=>∃k:Nat,i = .i k∧k≤ls.length∧wr.ownsRow w.heap.size 5 1 g (cat ls k).length ((cat ls k).map dY)∧Ext w wr) (fun _ i _=>ls.length-(intOf i).toNat)
  case atStart=>exact⟨0,rfl,aoa _,HO.out,HB.out⟩
  case round =>
   obtain⟨k,rfl,hk,hown,hbel⟩:=hrel;by_cases hlt2:k<ls.length
   ·rcases HA.out with ⟨h,_⟩ | ⟨b,o,rfl,hb,hlc,hc⟩
    ·rw[h]at hlt2; simp at hlt2
    obtain⟨x,hx,hxr⟩:=hc k hlt2;have ahz:=hxr.below hbel;have hx':wr.cell? ⟨b,o+k,none⟩=some x:=by rw[hbel.cell (p:=⟨b,o+k,none⟩) hb]; exact hx
    have hraw:=ahz.raw (fun _=>rfl);have hf:=BN ls k hlt2;have hle2:=Ag ls (k+1);have h63:(cat ls k).length+(ls[k]).length≤maxLen:=by
     rw[hf,an5]at hle2; unfold maxLen; omega
    have hby:((cat ls k).length+(ls[k]).length)*1≤140737488355328:=by
     rw[hf,an5]at hle2; omega
    have hsz:=hbel.size;have HF:=anU hf;clear hc hxr hx hf ahz hle2;go_wp2_with (at_builtin; refine aQ rfl _ _ _ rfl nX w.heap.size hown rfl hraw rfl h63 hby hsz ?_; intro v' w' hown2 hg)
    go_roundw
    case rel =>
     refine⟨k+1,by go_num,by omega,?_,hbel.grown hg hsz (fun k hk=>(World.ownsRow.lt hown k hk).1)⟩;rw[HF.out,an5,aoL]; exact hown2
    case measure=>simp[intOf]; omega
   obtain rfl:k=ls.length:=by omega
   rw[acS]at hown;go_wp2_with fail
   go_ret
   exact⟨_,rfl,hown,hbel⟩
end Go.Proofs.YtapmgonflgahbaaGreatDoor
namespace Go.Proofs.YtapmgonflgahbaaGreatDoor
open Go.RowKit En
variable{α:Type}
attribute [local go_sem] Go.Rel.Does Go.Rel.Upon Go.Rel.kept Go.Rel.valOf
theorem vC(v:Value)(l:List UInt8)(w:World)(hv:bI w v l)(hlen:l.length≤1000000000) :
    Calls Tryz.prog 145 #[v] w fun e w'=>∃v',e = .returned v'∧w'.ownsRow w.heap.size 5 1 v' (jH l).length ((jH l).map dY)∧Ext w w':=by
 have HP:=anU (gW l.length w (by omega));have HV:=anU hv;obtain⟨a,cap,rfl⟩:=hv.shape;clear hv;go_enter Tryz.func145,Tryz.ntmps145
 go_wp2_with fail
 refine HP.out.mono ?_;rintro e w1 ⟨v',rfl,ho,hb⟩;have hraw:=(HV.out.below hb).raw (fun _=>rfl);have MS:=iE 10 l.length;have h63:(dP 10 l.length).length+l.length≤maxLen:=by unfold maxLen; omega
 have hby:((dP 10 l.length).length+l.length)*1≤140737488355328:=by omega
 have hsz:=hb.size;clear HP;go_wp2_with (at_builtin; refine aQ rfl _ _ _ rfl nX w.heap.size ho rfl hraw rfl h63 hby hsz ?_; intro v2 w2 hown2 hg)
 go_ret
 refine⟨_,rfl,?_,hb.grown hg hsz (fun k hk=>(World.ownsRow.lt ho k hk).1)⟩;unfold jH;rw[an5,aoL];exact hown2
theorem acT(d:UInt32):(Nb.le4 d).map dY=[.u ((d.toNat:Int)%256),.u ((d.toNat:Int)/256%256),.u ((d.toNat:Int)/65536%256),.u ((d.toNat:Int)/16777216%256)]:=by
 simp[Nb.le4,dY,UInt32.toNat_shiftRight,Nat.shiftRight_eq_div_pow]
theorem Dl(n:Nat):(Nb.aj n).length≤4*(Na.aj n).length:=by
 apply Nb.dD;have h:=Na.fB (Na.aj n);rw[Na.aJ]at h;have e:Nb.B^(4*(Na.aj n).length)=Na.B^(Na.aj n).length:=by
  rw[Nat.pow_mul]; rfl
 rw[e]; exact h
theorem JJ(neg:Bool)(s:Value)(l:List UInt32)(w:World)(hs:aF w s l)(hlen:l.length≤100000000) :
    Calls Tryz.prog 202 #[.agg #[.bool neg,s]] w fun e w'=>∃v',e = .returned v'∧bI w' v' (Nb.aj (Na.val l))∧Ext w w':=by
 have hb0:=aG w (.cells #[.bool neg,s] 29);have HS:=anU (hs.below hb0);obtain⟨a,cap,rfl⟩:=hs.shape;have HB0:=anU hb0;clear hs hb0;go_enter Tryz.func202,Tryz.ntmps202
 go_wp2_with fail
 go_loopw [3,9] (fun v i wr=>∃k:Nat,i = .i k∧k≤l.length∧wr.ownsRow (w.heap.size+1) 5 1 v (Nb.bytes (l.take k)).length ((Nb.bytes (l.take k)).map dY)∧Ext (w.alloc (.cells #[.bool neg,.slice a l.length cap] 29)) wr) (fun _ i _=>l.length-(intOf i).toNat)
 case atStart=>exact⟨0,rfl,aoa _,ap5 _ _ _ _,aor _ _⟩
 case round =>
  obtain⟨k,rfl,hk,hown,hbel⟩:=hrel;have hbl:=Nb.Jl (l.take k);have htl:(l.take k).length=k:=by simp; omega
  have hsz0:=hbel.size;simp only[aqc]at hsz0;by_cases hlt:k<l.length
  ·obtain⟨b,o,c,hsv,hb,hlc,hm,hc⟩:=dK HS.out rfl (by omega);simp only[aoB]at hsv;obtain⟨rfl,-,-⟩:=hsv;have hck:wr.cell? ⟨b,o+k,none⟩=some (aY l[k]):=by rw[hbel.cell (p:=⟨b,o+k,none⟩) hb]; exact hc k hlt
   clear hc;obtain⟨d,hd⟩:∃d,l[k]=d:=⟨_,rfl⟩;rw[hd]at hck;have hraw:=JU wr #[.u ((d.toNat:Int)%256),.u ((d.toNat:Int)/256%256),.u ((d.toNat:Int)/65536%256),.u ((d.toNat:Int)/16777216%256)] 5 4 1 rfl (by unfold maxLen; omega) (by
    intro u hu;simp only[aon,apO,or_false]at hu;rcases hu with rfl | rfl | rfl | rfl<;>rfl)
   have hown':=hown.alloc (.cells #[.u ((d.toNat:Int)%256),.u ((d.toNat:Int)/256%256),.u ((d.toNat:Int)/65536%256),.u ((d.toNat:Int)/16777216%256)] 5);have hsz1:w.heap.size+1≤(wr.alloc (.cells #[.u ((d.toNat:Int)%256),.u ((d.toNat:Int)/256%256),.u ((d.toNat:Int)/65536%256),.u ((d.toNat:Int)/16777216%256)] 5)).heap.size:=by simp; omega
   have h63:(Nb.bytes (l.take k)).length+4≤maxLen:=by unfold maxLen; omega
   have hby:((Nb.bytes (l.take k)).length+4)*1≤140737488355328:=by omega
   have HT:Hid (Nb.bytes (l.take (k+1))=Nb.bytes (l.take k)++Nb.le4 d):=by show _=_; rw[take_snoc l k hlt,hd,Nb.Q8]
   have HO:=anU hown;clear hd hown hbl htl;go_wp2_with (at_builtin; refine aQ rfl _ _ _ rfl nX (w.heap.size+1) hown' rfl hraw rfl h63 hby hsz1 ?_; intro v' w' hown2 hg)
   go_roundw
   case rel =>
    refine⟨k+1,by go_num,by omega,?_,?_⟩
    ·rw[HT.out,an5,aoL,acT]; exact hown2
    exact(hbel.alloc (by simpa using hsz0) _).grown hg (by simpa using hsz1) (fun k hk=>by have:=(World.ownsRow.lt hown' k hk).1; simpa using this)
   case measure=>simp[intOf]; omega
  obtain rfl:k=l.length:=by omega
  have hown3:=aU hown;have ht:=aa3 _ _ wr hown3;rw[aoQ,Nb.Jm]at ht;have HT:=anU ht;clear ht hown hown3 hbl htl;go_wp2_with fail
  refine HT.out.mono ?_;rintro e w' ⟨v',rfl,hr,rfl⟩;have HR:=anU hr;clear hr;go_wp2_with fail
  go_ret
  exact⟨_,rfl,HR.out,Ext.trans' HB0.out hbel⟩
end Go.Proofs.YtapmgonflgahbaaGreatDoor
namespace Go.Proofs.YtapmgonflgahbaaGreatDoor
open Go.RowKit En
variable{α:Type}
attribute [local go_sem] Go.Rel.Does Go.Rel.Upon Go.Rel.kept Go.Rel.valOf
def l9(r:Bool×Nat×Nat):List UInt8:=(if r.1 then 1 else 0)::(jH (Nb.aj r.2.1)++jH (Nb.aj r.2.2))
theorem XL{R:World→Value→α→Prop}(w:World)(x y z:Value)(a b c:α)(e:TypeId)(h1:R (w.alloc (.cells #[x,y,z] e)) x a)(h2:R (w.alloc (.cells #[x,y,z] e)) y b)(h3:R (w.alloc (.cells #[x,y,z] e)) z c) :
    EL R (w.alloc (.cells #[x,y,z] e)) (.slice (some ⟨w.heap.size,0,none⟩) 3 3) [a,b,c]:=by
 refine⟨_,_,rfl,by unfold maxLen; omega,.inr ⟨_,_,rfl,by simp,an7 _,fun i hi=>?_⟩⟩;rw[aoY,World.cell?_alloc_at _ _ _ _ rfl];rcases i with _ | _ | _ | i
 ·exact⟨x,rfl,h1⟩
 ·exact⟨y,rfl,h2⟩
 ·exact⟨z,rfl,h3⟩
 exact absurd hi (by simp)
theorem TA{w w':World}{v:Value}{ls:List (List UInt8)}(h:xX w v ls)(hb:Ext w w'):xX w' v ls:=EL.below (fun _ _ _ _ hb h=>h.below hb) h hb
theorem aB.parts{base:Nat}{w:World}{s t:Value}{n m neg:Bool}{a b:Nat}(h:aB base w (.agg #[.bool n,s,.bool m,t]) neg a b) :
    aF w s (Na.aj a)∧aF w t (Na.aj b)∧From base s∧From base t:=by
 obtain⟨s',t',e,hs,ht,fs,ft⟩:=h;simp only[apx,apy,aoM,and_true]at e;obtain⟨-,rfl,-,rfl⟩:=e;exact⟨hs,ht,fs,ft⟩
theorem Ee(n1 n2:Bool)(s1 s2:Value)(l m:List UInt32)(w:World)(h1:aF w s1 l)(h2:aF w s2 m)(hl1:l.length≤50000000)(hl2:m.length≤50000000) :
    Calls Tryz.prog 139 #[.agg #[.bool n1,s1,.bool n2,s2]] w fun e w'=>∃v,e = .returned v∧w'.ownsRow w.heap.size 5 1 v (l9 (nrm n1 n2 (Na.val l) (Na.val m))).length ((l9 (nrm n1 n2 (Na.val l) (Na.val m))).map dY)∧Ext w w':=by
 have hln:=LX n1 n2 l m;have hb0:=aG w (.cells #[.bool n1,s1,.bool n2,s2] 31);have HC:=anU (uJ n1 n2 s1 s2 l m _ (h1.below hb0) (h2.below hb0) (by omega) (by omega));have HB0:=anU hb0;obtain⟨a1,c1,rfl⟩:=h1.shape;obtain⟨a2,c2,rfl⟩:=h2.shape;generalize nrm n1 n2 (Na.val l) (Na.val m)=r at *;obtain⟨ng,a,b⟩:=r;simp only at hln;clear h1 h2 hb0;go_enter Tryz.func139,Tryz.ntmps139
 go_wp2_with fail
 refine HC.out.mono ?_;rintro e w1 ⟨x,rfl,hx,hb1⟩;obtain⟨b1,d1,b2,d2,rfl⟩:=hx.shape;obtain⟨r0,f0,hz⟩:=kH hb1;have F:=anU hx;have HB1:=anU (Ext.trans' HB0.out hb1);clear hx hb1 HC;obtain⟨sg,hsg⟩:∃sg:UInt8,sg=if ng then 1 else 0:=⟨_,rfl⟩
 obtain⟨nb,hnb⟩:∃nb:Bool,nb=ng:=⟨_,rfl⟩;obtain⟨q,hq⟩:∃q,q=l9 (nb,a,b):=⟨_,rfl⟩;have HQ:Hid ([[sg],jH (Nb.aj a),jH (Nb.aj b)].flatten=q):=by
  show _=_;rw[hq,hsg,hnb]; simp[l9]
 have hql:([[sg],jH (Nb.aj a),jH (Nb.aj b)].flatten).length≤1000000000:=by
  have:=Dl a;have:=Dl b;have:=iE 10 (Nb.aj a).length;have:=iE 10 (Nb.aj b).length;simp[jH]; omega
 have HQL:=anU hql;have uF:=anU hq;have HSG:=anU hsg;have HNB:=anU hnb;clear hq hql;clear hsg hnb;have hqa:=Dl a;have hqb:=Dl b;have HP:=anU (F.out.parts);clear F;rcases aqg ng with rfl | rfl;all_goals
  go_wp2_with fail
  generalize hW:World.setCell _ _ _=W
  have hWb:Ext w W:=by rw[←hW]; exact sJ HB1.out (an7 _) _ _ _ _
  have hk:∀w',Ext W w'→w'.cell? ⟨w.heap.size,0,none⟩=some (.bool nb)∧w'.cell? ⟨w.heap.size,1,none⟩=some (.slice b1 (Na.aj a).length d1)∧w'.cell? ⟨w.heap.size,2,none⟩=some (.z)∧w'.cell? ⟨w.heap.size,3,none⟩=some (.slice b2 (Na.aj b).length d2):=by
    intro w' hw'
    have hWz:w.heap.size<W.heap.size:=by rw[←hW]; simpa[World.setCell]using hz
    refine⟨?_,?_,?_,?_⟩
    · rw[hw'.cell (p:=⟨w.heap.size,0,none⟩) hWz,←hW,HNB.out]; simp[go_sem,r0]
    · rw[hw'.cell (p:=⟨w.heap.size,1,none⟩) hWz,←hW]; simp[go_sem,r0]
    · rw[hw'.cell (p:=⟨w.heap.size,2,none⟩) hWz,←hW]; simp[go_sem,r0]
    · rw[hw'.cell (p:=⟨w.heap.size,3,none⟩) hWz,←hW]; simp[go_sem,r0]
  have HK:=anU hk
  have hA:aF W (.slice b1 (Na.aj a).length d1) (Na.aj a):=by
    rw[←hW]; exact HP.out.1.ch (((((Ch.refl w.heap.size _).setCell _ _).setCell _ _).setCell _ _).setCell _ _) (fun _=>HP.out.2.2.1.off (by simp))
  have hB:aF W (.slice b2 (Na.aj b).length d2) (Na.aj b):=by
    rw[←hW]; exact HP.out.2.1.ch (((((Ch.refl w.heap.size _).setCell _ _).setCell _ _).setCell _ _).setCell _ _) (fun _=>HP.out.2.2.2.off (by simp))
  have HAB:=anU (And.intro hA hB)
  have HWB:=anU hWb
  clear hk hW hWb hA hB
  refine Go.Rel.wp_region 12 (by kernel_rfl) (by kernel_rfl) Ext (fun w'=>Ext W w')
    [Rel.is (dY sg),fun v w'=>bI w' v [sg],Rel.is (.q w.heap.size 0),Rel.is (.agg #[.bool nb,.slice b1 (Na.aj a).length d1]),
     fun v w'=>bI w' v (Nb.aj a),fun v w'=>bI w' v (jH (Nb.aj a)),Rel.is (.q w.heap.size 2),Rel.is (.agg #[.z,.slice b2 (Na.aj b).length d2]),
     fun v w'=>bI w' v (Nb.aj b),fun v w'=>bI w' v (jH (Nb.aj b)),fun v w'=>xX w' v [[sg],jH (Nb.aj a),jH (Nb.aj b)],
     fun v w'=>OwnB w.heap.size w' v q]
    ?_ ?_ ?_ ⟨?_,?_,?_,?_,?_,?_,?_,?_,?_,?_,?_,?_,trivial⟩ ?_
  · exact below_drewN (aor _ _) 1
  · exact fun _ _ h k=>Ext.trans' h k
  · exact Rel.yV.mem ⟨Rel.aI _,fun _ _ _ h k=>k.below h,Rel.aI _,Rel.aI _,fun _ _ _ h k=>k.below h,fun _ _ _ h k=>k.below h,Rel.aI _,Rel.aI _,fun _ _ _ h k=>k.below h,fun _ _ _ h k=>k.below h,
      fun _ _ _ h k=>TA k h,fun _ _ _ h k=>aK k h,trivial⟩
  · intro ρ w' hs ho hC hd
    have h2:ρ (.tmp 3)=dY sg:=(ho 3 rfl).trans (by rw[HSG.out]; rfl)
    simp[go_sem,h2]
    exact⟨Ext.rfl',rfl⟩
  · intro ρ w' hs ho hC hd
    obtain⟨hd1,-⟩:=hd
    have h1:ρ (.tmp 9)=_:=hd1 rfl
    simp[go_sem,h1]
    exact⟨aG _ _,JV _ [sg] _ (by unfold maxLen; simp)⟩
  · intro ρ w' hs ho hC hd
    have h2:ρ (.tmp 1) = .q w.heap.size 0:=ho 1 rfl
    simp[go_sem,h2]
    exact⟨Ext.rfl',rfl⟩
  · intro ρ w' hs ho hC hd
    obtain⟨hd1,-⟩:=hd
    have h1:ρ (.tmp 11)=_:=hd1 rfl
    obtain⟨k1,k2,-⟩:=HK.out w' hC
    simp[go_sem,h1,k1,k2]
    exact⟨Ext.rfl',rfl⟩
  · intro ρ w' hs ho hC hd
    obtain⟨hd1,-⟩:=hd
    have h1:ρ (.tmp 12)=_:=hd1 rfl
    simp[go_sem,h1,hs.func]
    have hc:=JJ nb _ _ w' (HAB.out.1.below hC) (by omega)
    rw[Na.aJ]at hc
    refine hc.mono ?_
    rintro e w'' ⟨v,rfl,hr,hb⟩
    exact⟨_,rfl,hb,hr⟩
  · intro ρ w' hs ho hC hd
    obtain⟨hd1,-⟩:=hd
    have h1:bI w' (ρ (.tmp 13)) _:=hd1 rfl
    simp[go_sem,hs.func]
    refine(vC _ _ w' h1 (by omega)).mono ?_
    rintro e w'' ⟨v,rfl,hr,hb⟩
    exact⟨_,rfl,hb,aU hr⟩
  · intro ρ w' hs ho hC hd
    have h2:ρ (.tmp 1) = .q w.heap.size 0:=ho 1 rfl
    simp[go_sem,h2]
    exact⟨Ext.rfl',rfl⟩
  · intro ρ w' hs ho hC hd
    obtain⟨hd1,-⟩:=hd
    have h1:ρ (.tmp 15)=_:=hd1 rfl
    obtain⟨-,-,k1,k2⟩:=HK.out w' hC
    simp[go_sem,h1,k1,k2]
    exact⟨Ext.rfl',rfl⟩
  · intro ρ w' hs ho hC hd
    obtain⟨hd1,-⟩:=hd
    have h1:ρ (.tmp 16)=_:=hd1 rfl
    simp[go_sem,h1,hs.func]
    have hc:=JJ false _ _ w' (HAB.out.2.below hC) (by omega)
    rw[Na.aJ]at hc
    refine hc.mono ?_
    rintro e w'' ⟨v,rfl,hr,hb⟩
    exact⟨_,rfl,hb,hr⟩
  · intro ρ w' hs ho hC hd
    obtain⟨hd1,-⟩:=hd
    have h1:bI w' (ρ (.tmp 17)) _:=hd1 rfl
    simp[go_sem,hs.func]
    refine(vC _ _ w' h1 (by omega)).mono ?_
    rintro e w'' ⟨v,rfl,hr,hb⟩
    exact⟨_,rfl,hb,aU hr⟩
  · intro ρ w' hs ho hC hd
    obtain⟨hd1,hd2,hd3,-⟩:=hd
    have h1:bI w' (ρ (.tmp 10)) _:=hd1 rfl
    have h2:bI w' (ρ (.tmp 14)) _:=hd2 rfl
    have h3:bI w' (ρ (.tmp 18)) _:=hd3 rfl
    obtain⟨x1,y1,e1⟩:=h1.shape
    obtain⟨x2,y2,e2⟩:=h2.shape
    obtain⟨x3,y3,e3⟩:=h3.shape
    rw[e1]at h1
    rw[e2]at h2
    rw[e3]at h3
    simp[go_sem,e1,e2,e3]
    exact⟨aG _ _,XL w' _ _ _ _ _ _ _ (h1.below (aG _ _)) (h2.below (aG _ _)) (h3.below (aG _ _))⟩
  · intro ρ w' hs ho hC hd
    obtain⟨hd1,-⟩:=hd
    have h1:xX w' (ρ (.tmp 19)) _:=hd1 rfl
    simp[go_sem,hs.func]
    refine(Tz _ _ w' h1 HQL.out).mono ?_
    rintro e w'' ⟨v,rfl,hr,hb⟩
    refine⟨_,rfl,hb,?_⟩
    rw[HQ.out]at hr
    exact au hr (by have:=(Ext.trans' HWB.out hC).size; exact this)
  · intro w' hC
    rintro _ rfl v1 h1 _ rfl _ rfl v4 h4 v5 h5 _ rfl _ rfl v8 h8 v9 h9 v10 h10 v11 h11
    change wpList _ _ _ (List.drop 12 _) _ _
    simp only[List.drop_succ_cons,ao7]
    have h12:Hid (w'.ownsRow w.heap.size 5 1 v11 (l9 (nb,a,b)).length ((l9 (nb,a,b)).map dY)):=by
      have:=uF.out
      rw[←this]; exact h11
    rw[HNB.out]at h12
    have HX:=anU (Ext.trans' HWB.out hC)
    clear h1 h4 h5 h8 h9 h10 h11
    go_wp2_with fail
    go_ret
    exact⟨v11,rfl,h12.out,HX.out⟩
end Go.Proofs.YtapmgonflgahbaaGreatDoor
