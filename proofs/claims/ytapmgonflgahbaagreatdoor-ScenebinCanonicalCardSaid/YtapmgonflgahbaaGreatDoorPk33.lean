/- Walks: bytes.TrimRight at a zero byte, slices.Grow of -/
import Derived.Lib.AppendZeros
import Derived.Test.YtapmgonflgahbaaGreatDoorPk29
set_option linter.unusedVariables false
section
set_option maxHeartbeats 1600000
set_option maxRecDepth 100000
namespace Go.Proofs.YtapmgonflgahbaaGreatDoor
open Go.RowKit En
variable{α:Type}
theorem MF(v:Value)(l:List UInt8)(w:World)(hv:bG w v l) :
    Calls Tryz.prog 299 #[v,.u 0] w fun e w'=>∃v',e = .returned v'∧bG w v' (Nb.ak (Nb.val l))∧w=w':=by
 have hv0:=awf hv;obtain⟨a,cap,rfl,hm,ha⟩:=hv;have hl:=pz hm ha;have hcap:l.length≤cap:=by
  rcases ha with ⟨rfl,_⟩ | ⟨_,_,_,_,h,_⟩
  ·simp
  exact h
 have HA:=awf ha;clear ha;unfold maxLen at hm;go_enter Tryz.func299,Tryz.ntmps299
 go_wp2
 go_loop [0] (fun i=>∃k:Nat,i = .slice a k cap∧k≤l.length∧Hid (Nb.val (l.take k)=Nb.val l)) (fun i=>match i with | .slice _ k _=>k | _=>0)
 case atStart=>exact⟨l.length,rfl,awm _,by show _=_; rw[axa]⟩
 case round =>
  obtain⟨k,rfl,hk,HV⟩:=hrel;by_cases h0:k=0
  ·subst h0;go_wp2
   go_ret
   have hD:Nb.ak (Nb.val l)=l.take 0:=Nb.lK (by omega) HV.out (.inl rfl);have hr:=Ei (cap':=cap) (n:=0) hv0.out (by omega) (by omega) hm (fun h=>by
    rcases HA.out with ⟨_,h'⟩ | ⟨_,_,h',_⟩
    ·exact h' h
    rw[h]at h'; cases h')
   exact⟨_,rfl,by rw[hD]; exact hr,rfl⟩
  obtain⟨j,rfl⟩:∃j,k=j+1:=⟨k-1,by omega⟩;rcases HA.out with ⟨rfl,_⟩ | ⟨b,o,rfl,hb,hlc,hc⟩
  ·simp at hk
  have hck:=hc j (by omega);have hlt:j<l.length:=by omega
  clear hc;by_cases hz:l[j]=0
  ·have HE:Hid (Nb.val (l.take j)=Nb.val l):=by show _=_; rw[←HV.out,Nb.bY l j hlt,hz]; simp
   have hzb:((l[j].toNat:Int)==0)=true:=by rw[hz]; rfl
   have HZ:=awf hz;clear hz;go_wp2
   go_round
   case rel=>exact⟨j,rfl,by omega,HE⟩
   case measure=>simp
  have hzb:((l[j].toNat:Int)==0)=false:=by
   rw[awI]; intro e; exact hz (ayk.1 (by simp; omega))
  have HZ:=awf hz;clear hz;go_wp2
  go_ret
  have hD:Nb.ak (Nb.val l)=l.take (j+1):=Nb.lK (by omega) HV.out (.inr ⟨by omega,HZ.out⟩);have hr:=Ei (cap':=cap) (n:=j+1) hv0.out (by omega) (by omega) hm (fun h=>by cases h);exact⟨_,rfl,by rw[hD]; exact hr,rfl⟩
theorem acS(v:Value)(l:List UInt8)(w:World)(hv:bG w v l) :
    Calls Tryz.prog 258 #[v,.string ⟨#[0]⟩] w fun e w'=>∃v',e = .returned v'∧bG w v' (Nb.ak (Nb.val l))∧w=w':=by
 have HV:=awf hv;obtain⟨a,cap,rfl⟩:=hv.shape;have HT:=awf (MF _ _ _ hv);have hl:=hv.len;unfold maxLen at hl;clear hv;by_cases h0:l.length=0
 ·have e:l=[]:=axD h0;subst e;have HT2:=HV;go_enter Tryz.func258,Tryz.ntmps258
  go_wp2_with fail
  go_ret
  exact⟨_,rfl,HV.out,rfl⟩
 have h0':((l.length:Int)==0)=false:=by rw[awI]; omega
 go_enter Tryz.func258,Tryz.ntmps258
 go_wp2_with fail
 refine HT.out.mono ?_;rintro e w' ⟨v',rfl,hr,rfl⟩;have HR:=awf hr;clear hr HT;go_wp2_with fail
 go_ret
 exact⟨_,rfl,HR.out,rfl⟩
theorem acT(n:Nat)(w:World)(hn:n≤100000000000) :
    Calls Tryz.prog 257 #[.sn,.i n] w fun e w'=>∃v',e = .returned v'∧w'.ownsRow w.heap.size 5 1 v' 0 ([].map fA)∧Ext w w':=by
 rcases awY n with rfl | h0
 ·go_enter Tryz.func257,Tryz.ntmps257
  go_wp2_with fail
  go_ret
  exact⟨_,rfl,ayC _ _ _ _,awD _ _⟩
 obtain⟨i,hi,hz,hsz,hby⟩:=tC.info;have happ:=Lib.run_append_nil_zeros (P:=Tryz.prog) w 49 3 49 5 i (.u 0) .i64 .i64 Tryz.underlying49 Tryz.underlying3 hi hz n h0 (by omega) (by omega) (by rw[hby]; omega);have hge:=grownCap_ge w n 0 5;have hle:=grownCap_le_maxLen w n 0 5 (by unfold maxLen; omega);have hzc:∀k,(Builtin.zeroCells (Value.u 0).cells k).size=k:=fun k=>by
  have hc1:(Value.u 0).cells.size=1:=rfl;simp[Builtin.zeroCells,hc1]
 have hown:=World.ownsRow_made (base:=w.heap.size) (e:=5) (size:=1) w.drew (Builtin.zeroCells (Value.u 0).cells n++Builtin.zeroCells (Value.u 0).cells (grownCap w n 0 5-n)) (grownCap w n 0 5) (awm _) hle (by rw[Array.size_append,hzc,hzc]; omega);have HO:=awf hown;clear hown;go_enter Tryz.func257,Tryz.ntmps257
 go_wp2_with (at_builtin; refine Lib.wpList_append_run _ rfl _ _ _ _ rfl _ _ rfl rfl _ _ happ ?_)
 go_ret
 exact⟨_,rfl,HO.out,(below_drewN (awD _ _) 1).alloc (awm _) _⟩
def cat(ls:List (List UInt8))(k:Nat):List UInt8:=(ls.take k).flatten
theorem Bj(ls:List (List UInt8))(k:Nat)(hk:k<ls.length):cat ls (k+1)=cat ls k++ls[k]:=by
 unfold cat; rw[take_snoc ls k hk,List.flatten_append]; simp
theorem aff(ls:List (List UInt8)):cat ls ls.length=ls.flatten:=by unfold cat; rw[axa]
theorem zU(ls:List (List UInt8))(k:Nat):(cat ls k).length≤ls.flatten.length:=by
 unfold cat;conv=>rhs; rw[←aym k ls,List.flatten_append,awr]
 omega
theorem UL(v:Value)(ls:List (List UInt8))(w:World)(hv:yc w v ls)(hlen:ls.flatten.length≤1000000000) :
    Calls Tryz.prog 201 #[v] w fun e w'=>∃v',e = .returned v'∧w'.ownsRow w.heap.size 5 1 v' ls.flatten.length (ls.flatten.map fA)∧Ext w w':=by
 obtain⟨a,cap,rfl,hm,ha⟩:=hv;have hl:=ZQ hm ha;have HA:=awf ha;clear ha;go_enter Tryz.func201,Tryz.ntmps201
 go_wp2_with fail
 go_loop [3,11] (fun s i=>∃k:Nat,i = .i k∧k≤ls.length∧s = .i ((cat ls k).length:Nat)) (fun _ i=>ls.length-(intOf i).toNat)
 case atStart=>exact⟨0,rfl,awt _,rfl⟩
 case round =>
  obtain⟨k,rfl,hk,rfl⟩:=hrel;have hle:=zU ls k;by_cases hlt:k<ls.length
  ·rcases HA.out with ⟨rfl,_⟩ | ⟨b,o,rfl,hb,hlc,hc⟩
   ·simp at hlt
   obtain⟨x,hx,hxr⟩:=hc k hlt;obtain⟨ax,cx,rfl⟩:=hxr.shape;have hf:((cat ls (k+1)).length:Int)=((cat ls k).length:Int)+((ls[k]).length:Int):=by rw[Bj ls k hlt]; simp
   have hle2:=zU ls (k+1);have hs:((cat ls k).length:Int)+((ls[k]).length:Int)≤1000000000:=by omega
   have HF:=awf hf;clear hc hxr hf;go_wp2_with fail
   go_round
   case rel =>
    exact⟨k+1,by go_num,by omega,Ef HF.out.symm⟩
   case measure=>simp[intOf]; omega
  obtain rfl:k=ls.length:=by omega
  have hG:=acT (cat ls ls.length).length w (by omega);have HG:=awf hG;clear hG hle;go_wp2_with fail
  refine HG.out.mono ?_;rintro e w1 ⟨g,rfl,ho,hb⟩;have HO:=awf ho;have HB:=awf hb;clear ho hb HG;go_wp2_with fail
  go_loopw [6,27] (fun g i wr=>∃k:Nat,i = .i k∧k≤ls.length∧wr.ownsRow w.heap.size 5 1 g (cat ls k).length ((cat ls k).map fA)∧Ext w wr) (fun _ i _=>ls.length-(intOf i).toNat)
  case atStart=>exact⟨0,rfl,awt _,HO.out,HB.out⟩
  case round =>
   obtain⟨k,rfl,hk,hown,hbel⟩:=hrel;by_cases hlt2:k<ls.length
   ·rcases HA.out with ⟨h,_⟩ | ⟨b,o,rfl,hb,hlc,hc⟩
    ·rw[h]at hlt2; simp at hlt2
    obtain⟨x,hx,hxr⟩:=hc k hlt2;have am8:=hxr.below hbel;have hx':wr.cell? ⟨b,o+k,none⟩=some x:=by rw[hbel.cell (p:=⟨b,o+k,none⟩) hb]; exact hx
    have hraw:=am8.raw (fun _=>rfl);have hf:=Bj ls k hlt2;have hle2:=zU ls (k+1);have h63:(cat ls k).length+(ls[k]).length≤maxLen:=by
     rw[hf,awr]at hle2; unfold maxLen; omega
    have hby:((cat ls k).length+(ls[k]).length)*1≤140737488355328:=by
     rw[hf,awr]at hle2; omega
    have hsz:=hbel.size;have HF:=awf hf;clear hc hxr hx hf am8 hle2;go_wp2_with (at_builtin; refine bC rfl _ _ _ rfl tC w.heap.size hown rfl hraw rfl h63 hby hsz ?_; intro v' w' hown2 hg)
    go_roundw
    case rel =>
     refine⟨k+1,by go_num,by omega,?_,hbel.grown hg hsz (fun k hk=>(World.ownsRow.lt hown k hk).1)⟩;rw[HF.out,awr,aw6]; exact hown2
    case measure=>simp[intOf]; omega
   obtain rfl:k=ls.length:=by omega
   rw[aff]at hown;go_wp2_with fail
   go_ret
   exact⟨_,rfl,hown,hbel⟩
end Go.Proofs.YtapmgonflgahbaaGreatDoor
namespace Go.Proofs.YtapmgonflgahbaaGreatDoor
open Go.RowKit En
variable{α:Type}
attribute [local go_sem] Go.Rel.Does Go.Rel.Upon Go.Rel.kept Go.Rel.valOf
theorem vW(v:Value)(l:List UInt8)(w:World)(hv:bG w v l)(hlen:l.length≤1000000000) :
    Calls Tryz.prog 145 #[v] w fun e w'=>∃v',e = .returned v'∧w'.ownsRow w.heap.size 5 1 v' (kX l).length ((kX l).map fA)∧Ext w w':=by
 have HP:=awf (gq l.length w (by omega));have HV:=awf hv;obtain⟨a,cap,rfl⟩:=hv.shape;clear hv;go_enter Tryz.func145,Tryz.ntmps145
 go_wp2_with fail
 refine HP.out.mono ?_;rintro e w1 ⟨v',rfl,ho,hb⟩;have hraw:=(HV.out.below hb).raw (fun _=>rfl);have O4:=kK 10 l.length;have h63:(fZ 10 l.length).length+l.length≤maxLen:=by unfold maxLen; omega
 have hby:((fZ 10 l.length).length+l.length)*1≤140737488355328:=by omega
 have hsz:=hb.size;clear HP;go_wp2_with (at_builtin; refine bC rfl _ _ _ rfl tC w.heap.size ho rfl hraw rfl h63 hby hsz ?_; intro v2 w2 hown2 hg)
 go_ret
 refine⟨_,rfl,?_,hb.grown hg hsz (fun k hk=>(World.ownsRow.lt ho k hk).1)⟩;unfold kX;rw[awr,aw6];exact hown2
theorem afg(d:UInt32):(Nb.le4 d).map fA=[.u ((d.toNat:Int)%256),.u ((d.toNat:Int)/256%256),.u ((d.toNat:Int)/65536%256),.u ((d.toNat:Int)/16777216%256)]:=by
 simp[Nb.le4,fA,UInt32.toNat_shiftRight,Nat.shiftRight_eq_div_pow]
theorem MG(n:Nat):(Nb.ak n).length≤4*(Na.ak n).length:=by
 apply Nb.bn;have h:=Na.dP (Na.ak n);rw[Na.aC]at h;have e:Nb.B^(4*(Na.ak n).length)=Na.B^(Na.ak n).length:=by
  rw[Nat.pow_mul]; rfl
 rw[e]; exact h
theorem JV(neg:Bool)(s:Value)(l:List UInt32)(w:World)(hs:aB w s l)(hlen:l.length≤100000000) :
    Calls Tryz.prog 202 #[.agg #[.bool neg,s]] w fun e w'=>∃v',e = .returned v'∧bG w' v' (Nb.ak (Na.val l))∧Ext w w':=by
 have hb0:=aF w (.cells #[.bool neg,s] 29);have HS:=awf (hs.below hb0);obtain⟨a,cap,rfl⟩:=hs.shape;have HB0:=awf hb0;clear hs hb0;go_enter Tryz.func202,Tryz.ntmps202
 go_wp2_with fail
 go_loopw [3,9] (fun v i wr=>∃k:Nat,i = .i k∧k≤l.length∧wr.ownsRow (w.heap.size+1) 5 1 v (Nb.bytes (l.take k)).length ((Nb.bytes (l.take k)).map fA)∧Ext (w.alloc (.cells #[.bool neg,.slice a l.length cap] 29)) wr) (fun _ i _=>l.length-(intOf i).toNat)
 case atStart=>exact⟨0,rfl,awt _,ayC _ _ _ _,awD _ _⟩
 case round =>
  obtain⟨k,rfl,hk,hown,hbel⟩:=hrel;have hbl:=Nb.Ye (l.take k);have htl:(l.take k).length=k:=by simp; omega
  have hsz0:=hbel.size;simp only[ayA]at hsz0;by_cases hlt:k<l.length
  ·obtain⟨b,o,c,hsv,hb,hlc,hm,hc⟩:=cZ HS.out rfl (by omega);simp only[aw1]at hsv;obtain⟨rfl,-,-⟩:=hsv;have hck:wr.cell? ⟨b,o+k,none⟩=some (aX l[k]):=by rw[hbel.cell (p:=⟨b,o+k,none⟩) hb]; exact hc k hlt
   clear hc;obtain⟨d,hd⟩:∃d,l[k]=d:=⟨_,rfl⟩;rw[hd]at hck;have hraw:=KC wr #[.u ((d.toNat:Int)%256),.u ((d.toNat:Int)/256%256),.u ((d.toNat:Int)/65536%256),.u ((d.toNat:Int)/16777216%256)] 5 4 1 rfl (by unfold maxLen; omega) (by
    intro u hu;simp only[aww,ax8,or_false]at hu;rcases hu with rfl | rfl | rfl | rfl<;>rfl)
   have hown':=hown.alloc (.cells #[.u ((d.toNat:Int)%256),.u ((d.toNat:Int)/256%256),.u ((d.toNat:Int)/65536%256),.u ((d.toNat:Int)/16777216%256)] 5);have hsz1:w.heap.size+1≤(wr.alloc (.cells #[.u ((d.toNat:Int)%256),.u ((d.toNat:Int)/256%256),.u ((d.toNat:Int)/65536%256),.u ((d.toNat:Int)/16777216%256)] 5)).heap.size:=by simp; omega
   have h63:(Nb.bytes (l.take k)).length+4≤maxLen:=by unfold maxLen; omega
   have hby:((Nb.bytes (l.take k)).length+4)*1≤140737488355328:=by omega
   have HT:Hid (Nb.bytes (l.take (k+1))=Nb.bytes (l.take k)++Nb.le4 d):=by show _=_; rw[take_snoc l k hlt,hd,Nb.TJ]
   have HO:=awf hown;clear hd hown hbl htl;go_wp2_with (at_builtin; refine bC rfl _ _ _ rfl tC (w.heap.size+1) hown' rfl hraw rfl h63 hby hsz1 ?_; intro v' w' hown2 hg)
   go_roundw
   case rel =>
    refine⟨k+1,by go_num,by omega,?_,?_⟩
    ·rw[HT.out,awr,aw6,afg]; exact hown2
    exact(hbel.alloc (by simpa using hsz0) _).grown hg (by simpa using hsz1) (fun k hk=>by have:=(World.ownsRow.lt hown' k hk).1; simpa using this)
   case measure=>simp[intOf]; omega
  obtain rfl:k=l.length:=by omega
  have hown3:=aU hown;have ht:=acS _ _ wr hown3;rw[axa,Nb.Yf]at ht;have HT:=awf ht;clear ht hown hown3 hbl htl;go_wp2_with fail
  refine HT.out.mono ?_;rintro e w' ⟨v',rfl,hr,rfl⟩;have HR:=awf hr;clear hr;go_wp2_with fail
  go_ret
  exact⟨_,rfl,HR.out,Ext.trans' HB0.out hbel⟩
end Go.Proofs.YtapmgonflgahbaaGreatDoor
namespace Go.Proofs.YtapmgonflgahbaaGreatDoor
open Go.RowKit En
variable{α:Type}
attribute [local go_sem] Go.Rel.Does Go.Rel.Upon Go.Rel.kept Go.Rel.valOf
def gu(r:Bool×Nat×Nat):List UInt8:=(if r.1 then 1 else 0)::(kX (Nb.ak r.2.1)++kX (Nb.ak r.2.2))
theorem Y5{R:World→Value→α→Prop}(w:World)(x y z:Value)(a b c:α)(e:TypeId)(h1:R (w.alloc (.cells #[x,y,z] e)) x a)(h2:R (w.alloc (.cells #[x,y,z] e)) y b)(h3:R (w.alloc (.cells #[x,y,z] e)) z c) :
    EM R (w.alloc (.cells #[x,y,z] e)) (.slice (some ⟨w.heap.size,0,none⟩) 3 3) [a,b,c]:=by
 refine⟨_,_,rfl,by unfold maxLen; omega,.inr ⟨_,_,rfl,by simp,awm _,fun i hi=>?_⟩⟩;rw[axh,World.cell?_alloc_at _ _ _ _ rfl];rcases i with _ | _ | _ | i
 ·exact⟨x,rfl,h1⟩
 ·exact⟨y,rfl,h2⟩
 ·exact⟨z,rfl,h3⟩
 exact absurd hi (by simp)
theorem UM{w w':World}{v:Value}{ls:List (List UInt8)}(h:yc w v ls)(hb:Ext w w'):yc w' v ls:=EM.below (fun _ _ _ _ hb h=>h.below hb) h hb
theorem aG.parts{base:Nat}{w:World}{s t:Value}{n m neg:Bool}{a b:Nat}(h:aG base w (.agg #[.bool n,s,.bool m,t]) neg a b) :
    aB w s (Na.ak a)∧aB w t (Na.ak b)∧From base s∧From base t:=by
 obtain⟨s',t',e,hs,ht,fs,ft⟩:=h;simp only[axV,axW,awO,and_true]at e;obtain⟨-,rfl,-,rfl⟩:=e;exact⟨hs,ht,fs,ft⟩
theorem wF(n1 n2:Bool)(s1 s2:Value)(l m:List UInt32)(w:World)(h1:aB w s1 l)(h2:aB w s2 m)(hl1:l.length≤50000000)(hl2:m.length≤50000000) :
    Calls Tryz.prog 139 #[.agg #[.bool n1,s1,.bool n2,s2]] w fun e w'=>∃v,e = .returned v∧w'.ownsRow w.heap.size 5 1 v (gu (nrm n1 n2 (Na.val l) (Na.val m))).length ((gu (nrm n1 n2 (Na.val l) (Na.val m))).map fA)∧Ext w w':=by
 have hln:=WI n1 n2 l m;have hb0:=aF w (.cells #[.bool n1,s1,.bool n2,s2] 31);have HC:=awf (oV n1 n2 s1 s2 l m _ (h1.below hb0) (h2.below hb0) (by omega) (by omega));have HB0:=awf hb0;obtain⟨a1,c1,rfl⟩:=h1.shape;obtain⟨a2,c2,rfl⟩:=h2.shape;generalize nrm n1 n2 (Na.val l) (Na.val m)=r at *;obtain⟨ng,a,b⟩:=r;simp only at hln;clear h1 h2 hb0;go_enter Tryz.func139,Tryz.ntmps139
 go_wp2_with fail
 refine HC.out.mono ?_;rintro e w1 ⟨x,rfl,hx,hb1⟩;obtain⟨b1,d1,b2,d2,rfl⟩:=hx.shape;obtain⟨r0,f0,hz⟩:=iP hb1;have F:=awf hx;have HB1:=awf (Ext.trans' HB0.out hb1);clear hx hb1 HC;obtain⟨sg,hsg⟩:∃sg:UInt8,sg=if ng then 1 else 0:=⟨_,rfl⟩
 obtain⟨nb,hnb⟩:∃nb:Bool,nb=ng:=⟨_,rfl⟩;obtain⟨q,hq⟩:∃q,q=gu (nb,a,b):=⟨_,rfl⟩;have HQ:Hid ([[sg],kX (Nb.ak a),kX (Nb.ak b)].flatten=q):=by
  show _=_;rw[hq,hsg,hnb]; simp[gu]
 have hql:([[sg],kX (Nb.ak a),kX (Nb.ak b)].flatten).length≤1000000000:=by
  have:=MG a;have:=MG b;have:=kK 10 (Nb.ak a).length;have:=kK 10 (Nb.ak b).length;simp[kX]; omega
 have HQL:=awf hql;have IY:=awf hq;have HSG:=awf hsg;have HNB:=awf hnb;clear hq hql;clear hsg hnb;have hqa:=MG a;have hqb:=MG b;have HP:=awf (F.out.parts);clear F;rcases ayO ng with rfl | rfl;all_goals
  go_wp2_with fail
  generalize hW:World.setCell _ _ _=W
  have hWb:Ext w W:=by rw[←hW]; exact iM HB1.out (awm _) _ _ _ _
  have hk:∀w',Ext W w'→w'.cell? ⟨w.heap.size,0,none⟩=some (.bool nb)∧w'.cell? ⟨w.heap.size,1,none⟩=some (.slice b1 (Na.ak a).length d1)∧w'.cell? ⟨w.heap.size,2,none⟩=some (.z)∧w'.cell? ⟨w.heap.size,3,none⟩=some (.slice b2 (Na.ak b).length d2):=by
    intro w' hw'
    have hWz:w.heap.size<W.heap.size:=by rw[←hW]; simpa[World.setCell]using hz
    refine⟨?_,?_,?_,?_⟩
    · rw[hw'.cell (p:=⟨w.heap.size,0,none⟩) hWz,←hW,HNB.out]; simp[go_sem,r0]
    · rw[hw'.cell (p:=⟨w.heap.size,1,none⟩) hWz,←hW]; simp[go_sem,r0]
    · rw[hw'.cell (p:=⟨w.heap.size,2,none⟩) hWz,←hW]; simp[go_sem,r0]
    · rw[hw'.cell (p:=⟨w.heap.size,3,none⟩) hWz,←hW]; simp[go_sem,r0]
  have HK:=awf hk
  have hA:aB W (.slice b1 (Na.ak a).length d1) (Na.ak a):=by
    rw[←hW]; exact HP.out.1.ch (((((Ch.refl w.heap.size _).setCell _ _).setCell _ _).setCell _ _).setCell _ _) (fun _=>HP.out.2.2.1.off (by simp))
  have hB:aB W (.slice b2 (Na.ak b).length d2) (Na.ak b):=by
    rw[←hW]; exact HP.out.2.1.ch (((((Ch.refl w.heap.size _).setCell _ _).setCell _ _).setCell _ _).setCell _ _) (fun _=>HP.out.2.2.2.off (by simp))
  have HAB:=awf (And.intro hA hB)
  have HWB:=awf hWb
  clear hk hW hWb hA hB
  refine Go.Rel.wp_region 12 (by kernel_rfl) (by kernel_rfl) Ext (fun w'=>Ext W w')
    [Rel.is (fA sg),fun v w'=>bG w' v [sg],Rel.is (.q w.heap.size 0),Rel.is (.agg #[.bool nb,.slice b1 (Na.ak a).length d1]),
     fun v w'=>bG w' v (Nb.ak a),fun v w'=>bG w' v (kX (Nb.ak a)),Rel.is (.q w.heap.size 2),Rel.is (.agg #[.z,.slice b2 (Na.ak b).length d2]),
     fun v w'=>bG w' v (Nb.ak b),fun v w'=>bG w' v (kX (Nb.ak b)),fun v w'=>yc w' v [[sg],kX (Nb.ak a),kX (Nb.ak b)],
     fun v w'=>OwnB w.heap.size w' v q]
    ?_ ?_ ?_ ⟨?_,?_,?_,?_,?_,?_,?_,?_,?_,?_,?_,?_,trivial⟩ ?_
  · exact below_drewN (awD _ _) 1
  · exact fun _ _ h k=>Ext.trans' h k
  · exact Rel.y8.mem ⟨Rel.aN _,fun _ _ _ h k=>k.below h,Rel.aN _,Rel.aN _,fun _ _ _ h k=>k.below h,fun _ _ _ h k=>k.below h,Rel.aN _,Rel.aN _,fun _ _ _ h k=>k.below h,fun _ _ _ h k=>k.below h,
      fun _ _ _ h k=>UM k h,fun _ _ _ h k=>bU k h,trivial⟩
  · intro ρ w' hs ho hC hd
    have h2:ρ (.tmp 3)=fA sg:=(ho 3 rfl).trans (by rw[HSG.out]; rfl)
    simp[go_sem,h2]
    exact⟨Ext.rfl',rfl⟩
  · intro ρ w' hs ho hC hd
    obtain⟨hd1,-⟩:=hd
    have h1:ρ (.tmp 9)=_:=hd1 rfl
    simp[go_sem,h1]
    exact⟨aF _ _,KD _ [sg] _ (by unfold maxLen; simp)⟩
  · intro ρ w' hs ho hC hd
    have h2:ρ (.tmp 1) = .q w.heap.size 0:=ho 1 rfl
    simp[go_sem,h2]
    exact⟨Ext.rfl',rfl⟩
  · intro ρ w' hs ho hC hd
    obtain⟨hd1,-⟩:=hd
    have h1:ρ (.tmp 11)=_:=hd1 rfl
    obtain⟨k1,k2,-⟩:=HK.out w' hC
    simp[go_sem,h1,k1,k2]
    exact⟨Ext.rfl',rfl⟩
  · intro ρ w' hs ho hC hd
    obtain⟨hd1,-⟩:=hd
    have h1:ρ (.tmp 12)=_:=hd1 rfl
    simp[go_sem,h1,hs.func]
    have hc:=JV nb _ _ w' (HAB.out.1.below hC) (by omega)
    rw[Na.aC]at hc
    refine hc.mono ?_
    rintro e w'' ⟨v,rfl,hr,hb⟩
    exact⟨_,rfl,hb,hr⟩
  · intro ρ w' hs ho hC hd
    obtain⟨hd1,-⟩:=hd
    have h1:bG w' (ρ (.tmp 13)) _:=hd1 rfl
    simp[go_sem,hs.func]
    refine(vW _ _ w' h1 (by omega)).mono ?_
    rintro e w'' ⟨v,rfl,hr,hb⟩
    exact⟨_,rfl,hb,aU hr⟩
  · intro ρ w' hs ho hC hd
    have h2:ρ (.tmp 1) = .q w.heap.size 0:=ho 1 rfl
    simp[go_sem,h2]
    exact⟨Ext.rfl',rfl⟩
  · intro ρ w' hs ho hC hd
    obtain⟨hd1,-⟩:=hd
    have h1:ρ (.tmp 15)=_:=hd1 rfl
    obtain⟨-,-,k1,k2⟩:=HK.out w' hC
    simp[go_sem,h1,k1,k2]
    exact⟨Ext.rfl',rfl⟩
  · intro ρ w' hs ho hC hd
    obtain⟨hd1,-⟩:=hd
    have h1:ρ (.tmp 16)=_:=hd1 rfl
    simp[go_sem,h1,hs.func]
    have hc:=JV false _ _ w' (HAB.out.2.below hC) (by omega)
    rw[Na.aC]at hc
    refine hc.mono ?_
    rintro e w'' ⟨v,rfl,hr,hb⟩
    exact⟨_,rfl,hb,hr⟩
  · intro ρ w' hs ho hC hd
    obtain⟨hd1,-⟩:=hd
    have h1:bG w' (ρ (.tmp 17)) _:=hd1 rfl
    simp[go_sem,hs.func]
    refine(vW _ _ w' h1 (by omega)).mono ?_
    rintro e w'' ⟨v,rfl,hr,hb⟩
    exact⟨_,rfl,hb,aU hr⟩
  · intro ρ w' hs ho hC hd
    obtain⟨hd1,hd2,hd3,-⟩:=hd
    have h1:bG w' (ρ (.tmp 10)) _:=hd1 rfl
    have h2:bG w' (ρ (.tmp 14)) _:=hd2 rfl
    have h3:bG w' (ρ (.tmp 18)) _:=hd3 rfl
    obtain⟨x1,y1,e1⟩:=h1.shape
    obtain⟨x2,y2,e2⟩:=h2.shape
    obtain⟨x3,y3,e3⟩:=h3.shape
    rw[e1]at h1
    rw[e2]at h2
    rw[e3]at h3
    simp[go_sem,e1,e2,e3]
    exact⟨aF _ _,Y5 w' _ _ _ _ _ _ _ (h1.below (aF _ _)) (h2.below (aF _ _)) (h3.below (aF _ _))⟩
  · intro ρ w' hs ho hC hd
    obtain⟨hd1,-⟩:=hd
    have h1:yc w' (ρ (.tmp 19)) _:=hd1 rfl
    simp[go_sem,hs.func]
    refine(UL _ _ w' h1 HQL.out).mono ?_
    rintro e w'' ⟨v,rfl,hr,hb⟩
    refine⟨_,rfl,hb,?_⟩
    rw[HQ.out]at hr
    exact aW hr (by have:=(Ext.trans' HWB.out hC).size; exact this)
  · intro w' hC
    rintro _ rfl v1 h1 _ rfl _ rfl v4 h4 v5 h5 _ rfl _ rfl v8 h8 v9 h9 v10 h10 v11 h11
    change wpList _ _ _ (List.drop 12 _) _ _
    simp only[List.drop_succ_cons,axq]
    have h12:Hid (w'.ownsRow w.heap.size 5 1 v11 (gu (nb,a,b)).length ((gu (nb,a,b)).map fA)):=by
      have:=IY.out
      rw[←this]; exact h11
    rw[HNB.out]at h12
    have HX:=awf (Ext.trans' HWB.out hC)
    clear h1 h4 h5 h8 h9 h10 h11
    go_wp2_with fail
    go_ret
    exact⟨v11,rfl,h12.out,HX.out⟩
end Go.Proofs.YtapmgonflgahbaaGreatDoor
end
namespace Go.Proofs.YtapmgonflgahbaaGreatDoor
section
open En
variable{α:Type}
abbrev iB (x:Int):List UInt8:=fZ 10 (zig x)
def iE(f:α→List UInt8)(l:List α):List UInt8:=fZ 10 l.length++l.flatMap f
def kW(s:dO):List UInt8:=dK [s.verb,s.a.x,s.a.y,s.b.x,s.b.y,s.c.x,s.c.y]
def jw(s:dM):List UInt8:=dK [s.o]++Px.pb s.c
def sW(pk:Bool)(m:oM):List UInt8:=dK [m.w,m.h]++(if pk=true then kX (Px.enc m.l)else m.l.flatMap Px.pb)
def tY(q:Q6):List UInt8:=[q.a,q.b,q.c,q.d,q.e,q.f].flatMap gu
def fC(pk:Bool)(p:jU):List UInt8:=dK [p.kind]++Px.pb p.color++dK [p.p0.x,p.p0.y,p.p1.x,p.p1.y,p.bH]++iE jw p.stops++dK [p.spread]++sW pk p.img++dK [p.dn]++tY p.q
def Ak(p:lq):List UInt8:=dK [p.width,p.join,p.cap,p.fM,p.phase]++iE iB p.dash
def qp(b:Bool):UInt8:=if b=true then 1 else 0
def nO(pk:Bool)(n:dF):List UInt8:=
 if n.kind=1 then [n.dW]++dK [n.blend]++[qp n.isolated,qp n.dI]
 else if n.kind=2 then iE kW n.path++dK [n.aY]++iE (fC pk) n.fill++iE (fC pk) n.stroke++(if 0<n.stroke.length then Ak n.style else [])
 else if n.kind=3 then sW pk n.img++dK [n.dn]else []
def eH(pk:Bool)(n:dF):List UInt8:=dK [n.id,n.kind,n.depth]++tY n.q++iE kW n.clip++dK [n.aQ]++nO pk n
def gZ(s:ji):List UInt8:=[71,83,49]++dK [s.w,s.h]++Px.pb s.bg++iE (eH false) s.ns
def DT(pk:Bool)(e:uf):List UInt8:=dK [e.kind,e.id,e.index,e.depth]++(if e.kind=1∨e.kind=4 then eH pk e.node else if e.kind=5 then Px.pb e.color else [])
def jV(e:uf):List UInt8:=[71,69,49]++DT false e
theorem kS{f:α→List UInt8}{l:List α}{k:Nat}{x:α}(hk:k<l.length)(hx:l[k]=x)(B:List UInt8):B++(l.take k).flatMap f++f x=B++(l.take (k+1)).flatMap f:=by
 rw[axp hk,hx,ayH]; simp
theorem Hr{f:α→List UInt8}{l:List α}{B:List UInt8}{N:Nat}(h:(B++l.flatMap f).length≤N)(k:Nat):(B++(l.take k).flatMap f).length≤N:=by
 rw[awr]at h ⊢;have:((l.take k).flatMap f).length≤(l.flatMap f).length:=by
  conv=>rhs; rw[←aym k l,ayH,awr]
  omega
 omega
theorem aiV{f:α→List UInt8}{l:List α}{N:Nat}(h:(l.flatMap f).length≤N):∀x∈l,(f x).length≤N:=fun x hx=>by
 obtain⟨s,t,rfl⟩:=List.append_of_mem hx;rw[ayH,axJ,awr,awr]at h;omega
theorem WJ{f:α→List UInt8}{l:List α}{B:List UInt8}{N:Nat}(h:(B++l.flatMap f).length≤N):∀x∈l,(f x).length≤N:=aiV (by rw[awr]at h; omega)
end
section
open En
variable{α:Type}{K:Nat}
theorem afh(f:Nat):∀n,0<n→(fZ f n).length≤n:=by
 induction f with
 | zero=>intro n h; simp[fZ]
 | succ f ih =>
  intro n h;unfold fZ;split
  ·simp; omega
  have:=ih (n/128) (by omega);simp only[awV]; omega
theorem afi{R:List (Nat×bW)}:∀{last:Option bW},Px.good last R→(Px.rb R).length≤5*(Px.flat R).length:=by
 induction R with
 | nil=>intro _ _; exact awt _
 | cons z R ih =>
  intro last h;obtain⟨n,p⟩:=z;simp only[Px.good]at h;have:=ih h.2.2;have:=afh 10 n h.1;simp only[Px.rb,Px.pb,Px.flat,awr,awV,axn,List.length_replicate];omega
theorem Ht(l:List bW):(Px.enc l).length≤5*l.length:=by
 have h:=Px.CB l;have:=afi h.1;rw[h.2]at this;exact this
theorem UN{f:α→List UInt8}{M:Nat}:∀{l:List α},(∀x∈l,(f x).length≤M)→(l.flatMap f).length≤l.length*M
 | [],_=>by simp
 | x::l,h=>by
  have h1:=h x awK
  have h2:=UN (l:=l) fun y hy=>h y (axQ _ hy)
  rw[axJ,awr,awV,Nat.succ_mul]; omega
theorem vX{f:α→List UInt8}{M N:Nat}{l:List α}(h:∀x∈l,(f x).length≤M)(hl:l.length≤N):(iE f l).length≤10+N*M:=by
 unfold iE;have h1:=UN h;have h2:=kK 10 l.length;have h3:=ax4 M hl;rw[awr]; omega
theorem WL(s:dO):(kW s).length≤70:=gV _
theorem UO(s:dM):(jw s).length≤14:=by unfold jw; rw[awr]; have:=gV [s.o]; simp[Px.pb]at this ⊢; omega
theorem WM{pk:Bool}{m:oM}(h:m.l.length≤65536):(sW pk m).length≤327800:=by
 unfold sW;have h1:=gV [m.w,m.h];have h2:=Ht m.l;have h3:=UN (f:=Px.pb) (M:=4) (l:=m.l) fun x _=>awm _;have h4:=kK 10 (Px.enc m.l).length;simp only[awV,axn]at h1;rw[awr];cases pk
 ·simp only[ays,if_false]; omega
 simp only[if_true,kX,awr]; omega
theorem Dz{n:Nat}(h:bl n≤256):n<Nb.B^32:=by
 show n<256^32;rw[show(256:Nat)^32=2^256 by rfl];unfold bl at h;split at h
 ·omega
 exact awR Nat.lt_log2_self (axf (by decide) h)
theorem q_len{q:Bool×Nat×Nat}(h:eF q≤256):(gu q).length≤100:=by
 unfold eF at h;have h1:=Nb.bn (Dz (n:=q.2.1) (by omega));have h2:=Nb.bn (Dz (n:=q.2.2) (by omega));have h3:=kK 10 (Nb.ak q.2.1).length;have h4:=kK 10 (Nb.ak q.2.2).length;simp only[gu,kX,awV,awr];omega
theorem WO{q:Q6}(h:q.valid=true):(tY q).length≤600:=by
 unfold Q6.valid at h;simp only[awC,awL]at h;obtain⟨h1,h2,h3,h4,h5,h6⟩:=h;have:=q_len h1;have:=q_len h2;have:=q_len h3;have:=q_len h4;have:=q_len h5;have:=q_len h6;simp only[tY,axJ,List.flatMap_nil,awr,axn];omega
theorem DC{l:List dM}(h:jl l=true):l.length≤16:=by
 unfold jl at h;simp only[awC,awL]at h;exact h.2.1
theorem MH{m:dL}(h:m.valid=true):m.l.length≤65536:=by
 unfold dL.valid dL.size at h;simp only[awC,awL,awE]at h;obtain⟨⟨-,-,h1⟩,h2,-⟩:=h;omega
theorem Je{p:au}{k:Int}(h:p.eq (au.bare k)=true):p.stops=[]∧p.img.l=[]∧p.img.w=0∧p.img.h=0:=by
 unfold au.eq dL.eq at h;simp only[awC,awL,awE]at h;refine⟨?_,?_,?_,?_⟩
 ·have:p.stops=(au.bare k).stops:=by simp_all
  exact this
 ·have:p.img.l=(au.bare k).img.l:=by simp_all
  exact this
 ·have:p.img.w=(au.bare k).img.w:=by simp_all
  exact this
 have:p.img.h=(au.bare k).img.h:=by simp_all
 exact this
def dL.num(m:dL):Prop:=(m.l.length:Int)=m.w*m.h∧m.l.length≤65536∧0≤m.w∧m.w≤4096∧0≤m.h∧m.h≤4096
theorem Bl{m:dL}(h:m.valid=true):m.num:=by
 have hl:=MH h;unfold dL.valid dL.size side at h;simp only[awC,awE,awL]at h;exact⟨h.2.1,hl,by omega,by omega,by omega,by omega⟩
theorem xP{m:dL}(h1:m.l=[])(h2:m.w=0)(h3:m.h=0):m.num:=by
 unfold dL.num; rw[h1,h2,h3]; simp
theorem uM{p:au}(h:p.valid=true):p.t.q.valid=true∧p.stops.length≤16∧p.img.num:=by
 unfold au.valid at h;simp only[cond_eq_ite]at h;split at h
 ·cases h
 rename_i hw;simp only[ayc,axM,not_or,Bool.not_eq_false]at hw;refine⟨hw.1,?_⟩;have he:=Je hw.2;unfold au.without at he;simp only[cond_eq_ite]at he;split at h
 ·rename_i h1; rw[awl h1]at he; exact⟨by rw[show p.stops=[]from he.1]; simp,xP he.2.1 he.2.2.1 he.2.2.2⟩
 rename_i h1;rw[awj h1]at he;split at h
 ·rename_i h2;rw[awl h2]at he;split at h
  ·cases h
  rename_i hs;simp only[ayc,axM,not_or,Bool.not_eq_false,awC]at hs;exact⟨DC hs.2.1,xP he.2.1 he.2.2.1 he.2.2.2⟩
 rename_i h2;rw[awj h2]at he;split at h
 ·rename_i h3;rw[awl h3]at he;split at h
  ·cases h
  rename_i hs;simp only[ayc,axM,not_or,Bool.not_eq_false,awC]at hs;exact⟨DC hs.2.1,xP he.2.1 he.2.2.1 he.2.2.2⟩
 rename_i h3;rw[awj h3]at he;split at h
 ·rename_i h4;rw[awl h4]at he;split at h
  ·cases h
  rename_i hs;simp only[ayc,axM,not_or,Bool.not_eq_false,awC]at hs;exact⟨by rw[show p.stops=[]from he.1]; simp,Bl hs.1.1⟩
 cases h
theorem JW{pk:Bool}{p:au}(h:p.valid=true):(fC pk p.key).length≤330000:=by
 obtain⟨h1,h2,h3⟩:=uM h;have a1:=WO (q:=p.key.q) h1;have a2:=WM (pk:=pk) (m:=p.key.img) h3.2.1;have a3:=vX (f:=jw) (l:=p.key.stops) (M:=14) (N:=16) (fun x _=>UO x) h2;have a4:=gV [p.key.kind];have a5:=gV [p.key.p0.x,p.key.p0.y,p.key.p1.x,p.key.p1.y,p.key.bH];have a6:=gV [p.key.spread];have a7:=gV [p.key.dn];simp only[awV,axn]at a4 a5 a6 a7;simp only[fC,awr,Px.pb,awV,axn];omega
structure aA.Lim (n:aA):Prop where
 q:n.t.q.valid=true
 clip:n.clip.length≤256
 shape:n.kind=2→n.path.length≤256∧n.fill.length≤1∧n.stroke.length≤1∧(∀p∈n.fill,p.valid=true)∧(∀p∈n.stroke,p.valid=true)∧(0<n.stroke.length→n.style.dash.length≤16)
 img:n.kind=3→n.img.num
 bare:n.bare=true
 sty:n.kind=2→¬0<n.stroke.length→n.style.eq aZ.bare=true
theorem Hu{l:List dO}(h:kE l=true):l.length≤256:=by
 unfold kE gG at h;by_cases h1:256<(l.length:Int)
 ·rw[awl h1]at h; simp at h
 omega
theorem UQ{l:List (Bool×Int)}(h:badL l=false):∀p∈l,p.1=false:=fun p hp=>by
 unfold badL at h;cases hb:p.1
 ·rfl
 have:=List.any_eq_false.1 h p hp; simp[hb]at this
theorem uw{n:aA}(h:n.checkN=0):n.Lim:=by
 obtain⟨hb,ho⟩:=Dv h;have hc:=UQ hb;unfold aA.kR at hc;simp only[aww,ax8,or_false,forall_eq_or_imp,forall_eq,axE]at hc;obtain⟨-,-,h3,-,h5,h6⟩:=hc;simp only[aw9,axE]at h6;refine⟨h3,Hu h5,fun hk=>?_,fun hk=>?_,h6.2,fun hk hs0=>?_⟩
 ·unfold aA.qm at ho;rw[hk]at ho;simp only[show((2:Int)==1)=false from rfl,show((2:Int)==2)=true from rfl,cond_false,cond_true]at ho;have hs:=qZ (fun p hp=>by
   simp only[aA.tN,aww,ax8,or_false]at hp;rcases hp with rfl | rfl | rfl | rfl | rfl | rfl<;>simp) ho
  unfold aA.tN at hs;simp only[aww,ax8,or_false,forall_eq_or_imp,forall_eq,axE,aw9,Bool.and_eq_false_iff,axw,awL]at hs;obtain⟨g1,-,g3,g4,-,g6⟩:=hs;refine⟨Hu g1,by omega,by omega,awQ.1 g6.1,awQ.1 g6.2,fun hl=>?_⟩;rcases g4 with g4 | g4
  ·omega
  unfold aZ.valid vJ at g4;simp only[awC,awL]at g4;omega
 ·unfold aA.qm at ho;rw[hk]at ho;simp only[show((3:Int)==1)=false from rfl,show((3:Int)==2)=false from rfl,cond_false]at ho;have hs:=qZ (fun p hp=>by
   simp only[aww,ax8,or_false]at hp;rcases hp with rfl | rfl<;>simp) ho
  simp only[aww,ax8,or_false,forall_eq_or_imp,forall_eq,axE]at hs;exact Bl hs.1
 unfold aA.qm at ho;rw[hk]at ho;simp only[show((2:Int)==1)=false from rfl,show((2:Int)==2)=true from rfl,cond_false,cond_true]at ho;have hs:=qZ (fun p hp=>by
  simp only[aA.tN,aww,ax8,or_false]at hp;rcases hp with rfl | rfl | rfl | rfl | rfl | rfl<;>simp) ho
 unfold aA.tN at hs;simp only[aww,ax8,or_false,forall_eq_or_imp,forall_eq,axE,aw9,Bool.and_eq_false_iff,axw,awL]at hs;obtain⟨-,-,-,-,g5,-⟩:=hs;rcases g5 with g5 | g5
 ·omega
 exact g5
theorem OG{pk:Bool}{n:aA}(h:n.Lim):(eH pk n.key).length≤700000:=by
 have a1:=WO (q:=n.key.q) h.q;have a2:=vX (f:=kW) (l:=n.key.clip) (M:=70) (N:=256) (fun x _=>WL x) h.clip;have a3:=gV [n.key.id,n.key.kind,n.key.depth];have a4:=gV [n.key.aQ];have hk:(nO pk n.key).length≤680000:=by
  unfold nO;split
  ·have:=gV [n.key.blend]; simp at this ⊢; omega
  split
  ·rename_i hk;obtain⟨b1,b2,b3,b4,b5,b6⟩:=h.shape hk;have c1:=vX (f:=kW) (l:=n.key.path) (M:=70) (N:=256) (fun x _=>WL x) b1;have c2:=vX (f:=fC pk) (l:=n.key.fill) (M:=330000) (N:=1) (fun x hx=>by obtain⟨p,hp,rfl⟩:=aw2.1 hx; exact JW (b4 p hp)) (by simpa[aA.key]using b2);have c3:=vX (f:=fC pk) (l:=n.key.stroke) (M:=330000) (N:=1) (fun x hx=>by obtain⟨p,hp,rfl⟩:=aw2.1 hx; exact JW (b5 p hp)) (by simpa[aA.key]using b3);have c4:=gV [n.key.aY];have c5:(if 0<n.key.stroke.length then Ak n.key.style else []).length≤300:=by
    split
    ·rename_i hs;have d1:=vX (f:=iB) (l:=n.key.style.dash) (M:=10) (N:=16) (fun x _=>kK 10 _) (b6 (by simpa[aA.key]using hs));have d2:=gV [n.key.style.width,n.key.style.join,n.key.style.cap,n.key.style.fM,n.key.style.phase];simp only[Ak,awr,awV,axn]at d2 ⊢; omega
    simp
   simp only[awr,awV,axn]at c4 ⊢; omega
  split
  ·rename_i hk;have:=WM (pk:=pk) (m:=n.key.img) (h.img hk).2.1;have:=gV [n.key.dn];simp only[awr,awV,axn]at this ⊢; omega
  simp
 simp only[eH,awr,awV,axn]at a3 a4 ⊢;omega
theorem aA.Lim.ahJ{n:aA}(h:n.Lim):(n.kind=3→n.img.l.length≤1000000)∧(n.kind=2→(∀p∈n.fill,p.img.l.length≤1000000)∧∀p∈n.stroke,p.img.l.length≤1000000):=
 ⟨fun hk=>by have:=(h.img hk).2; omega,fun hk=>⟨fun p hp=>by have:=(uM ((h.shape hk).2.2.2.1 p hp)).2.2.2.1; omega,fun p hp=>by have:=(uM ((h.shape hk).2.2.2.2.1 p hp)).2.2.2.1; omega⟩⟩
theorem rD{s:bF}(h:s.key.valid=true):s.ns.length≤64∧∀n∈s.ns,n.Lim:=by
 obtain⟨-,h1,h2⟩:=ji.JL.1 h;refine⟨by simpa[bF.key]using h1,fun n hn=>uw ?_⟩;rw[←mG];exact(aci.1 h2).1 _ (aw2.2 ⟨n,hn,rfl⟩)
theorem CS{s:bF}(h:s.key.valid=true):(gZ s.key).length≤50000000:=by
 obtain⟨h1,h2⟩:=rD h;have a1:=vX (f:=eH false) (l:=s.key.ns) (M:=700000) (N:=64) (fun x hx=>by obtain⟨n,hn,rfl⟩:=aw2.1 hx; exact OG (h2 n hn)) (by simpa[bF.key]using h1);have a2:=gV [s.key.w,s.key.h];simp only[gZ,awr,awV,axn,Px.pb]at a2 ⊢;omega
end
end Go.Proofs.YtapmgonflgahbaaGreatDoor
section
namespace Go.Sx
open Go.Proofs Go.Proofs.YtapmgonflgahbaaGreatDoor Go.RowKit Go.Rel
section
variable{P:Program}{ops:Array Oper}{Q:Exit→Act→World→Prop}{w0 w:World}{a:Act}{os:List Oper}{n:Nat}{l:List (Nat×Value)}{bl:List (Nat×List Value)}{vs:List gJ}{rs:List Row}
abbrev bR (v:Value)(B:List UInt8):Row:=⟨5,1,v,B.length,B.map fA⟩
theorem yh{v:Value}{B:List UInt8}(S:St w0 a w n l bl vs)(R:Rw w0 w bl (bR v B::rs))(d:Nat){y:Value}(Y:List UInt8)(hy:fH w 1 y Y.length (Y.map fA))(hb:(B++Y).length≤100000000000)
  (next:∀a' w' v',Stp (Ob bl (bR v B::rs)) w (Ob bl (bR v' (B++Y)::rs)) w'→Rw w0 w' bl (bR v' (B++Y)::rs)→St w0 a' w' n ((d,v')::l) bl []→wpList Tryz.prog ops Q (os.drop 1) a' w')
  (hx:Pg os l=some (49,v,y,some d):=by kernel_rfl) (hd:Cb n (some d)=true:=by rfl):wpList Tryz.prog ops Q os a w:=by
 rw[awr]at hb;refine app S R 0 d rfl tC hy (by show B.length+Y.length≤9223372036854775807; omega) (by show(B.length+Y.length)*1≤140737488355328; omega) (fun a' w' v' X R S=>?_) hx hd;have e:(⟨5,1,v',B.length+Y.length,B.map fA++Y.map fA⟩:Row)=bR v' (B++Y):=by simp[bR]
 have X:Stp (Ob bl (bR v B::rs)) w (Ob bl ((⟨5,1,v',B.length+Y.length,B.map fA++Y.map fA⟩:Row)::rs)) w':=X;have R:Rw w0 w' bl ((⟨5,1,v',B.length+Y.length,B.map fA++Y.map fA⟩:Row)::rs):=R;rw[e]at X R;exact next a' w' v' X R S
theorem JX(S:St w0 a w n l bl vs){f:FuncId}{args:Array Value}{R:Ending→World→Prop}(d:Option Nat)(hc:Calls P f args w R)
  (next:∀e w',R e w'→∃V,e = .returned V∧Ext w0 w'∧∀a',St w0 a' w' n (LM l d V) [] []→wpList P ops Q (os.drop 1) a' w') (hx:callOf P os l=some (f,args,d):=by kernel_rfl) (hd:Cb n d=true:=by rfl):wpList P ops Q os a w:=by
 cases os with
 | nil=>cases hx
 | cons o os =>
  unfold callOf at hx;simp only at hx;split at hx
  ·rename_i f' args' hg hav hev;simp only[awn,awo]at hx;obtain⟨rfl,rfl,rfl⟩:=hx;simp only[aw9]at hav;have hrun:(execOp a.eval o).run P w = .ok (.enter f' args') w:=oW (Std.act a) (jE (dD S.s) o) (p:=[]) rfl hav.1 (by simpa using hav.2) hev;unfold wpList;rw[awl (by simp[Region.wanted,hg])];left;unfold Oper.wp;rw[hrun];simp only[Oper.upon];refine hc.mono fun e w' hR=>?_;obtain⟨V,rfl,hE,next⟩:=next e w' hR;exact next _ ⟨xB S.s hd V,hE,fun p hp=>(by cases hp),List.nodup_nil,fun m hm=>by cases hm⟩
  cases hx
theorem zV{f:FuncId}{fn:Func}{c:Code}{args:List Value}{R:Ending→World→Prop}{n:Nat}(hf:P.funcs[f]?=some fn)(hn:fn.ntmps=n)(hE:Ext w0 w)
  (h:∀a,St w0 a w n ((List.range args.length).zip args) [] []→c.wp P (bodyPost P fn R) a w) (hb':fn.body=some c:=by rfl) (hsz:decide (args.length≤n)=true:=by kernel_rfl):Calls P f args.toArray w R:=
 Vp.enter hf hb' (by rw[hn]; simpa using hsz) fun a s=>h a ⟨(by rw[hn]at s; simpa using s),hE,fun p hp=>(by cases hp),List.nodup_nil,fun m hm=>by cases hm⟩
end
theorem afj{α:Type}{f:α→List Value}{k:Nat}{w:World}{b:Nat}(L:List α)(hf:∀x,(f x).length=k)(hx:Bx w b (L.flatMap f).toArray)(hl:L.length≤maxLen):aO k f w (.slice (some ⟨b,0,none⟩) L.length L.length) L:=
 ⟨_,_,rfl,hl,.inr ⟨b,0,rfl,hx.1,awm _,fun i hi j hj=>by
  have:=hx.2.1 (0+i*k+j)
  rw[axh]at this ⊢
  rw[this,←sD hf L i hi j hj]; simp⟩⟩
end Go.Sx
namespace Go.Proofs.YtapmgonflgahbaaGreatDoor
open Go.RowKit
theorem vY{base:Nat}{L:List Int}{v:Value}{w:World}(h:Sx.iI base (L.map fun x => .i x) (some L.length) v w)(hl:L.length≤maxLen):acJ w v L:=by
 obtain⟨b,rfl,-,hx⟩:=h;exact Sx.jJ (f:=fun x:Int => .i x) L hx hl
def rM:List Int→Prop
 | []=>True
 | x::L=>I64 x∧rM L
theorem rM.all:∀{L:List Int},rM L→∀x∈L,I64 x
 | _::_,h,x,hx=>by
  rcases aww.1 hx with rfl | hx
  ·exact h.1
  ·exact rM.all h.2 x hx
theorem lI{w0 w:World}{base:Nat}{v:Value}{B:List UInt8}{bl:List (Nat×List Value)}(R:Sx.Rw w0 w bl [])(h:OwnB base w v B)(hb:∀p∈bl,p.1<base)(h0:w0.heap.size≤base):Sx.Rw w0 w bl [Sx.bR v B]:=
 R.add h (fun b hb'=>by
  simp only[Sx.Ob,List.filterMap_nil,axt]at hb'
  obtain⟨p,hp,rfl⟩:=aw2.1 hb'
  exact hb p hp) h0
end Go.Proofs.YtapmgonflgahbaaGreatDoor
end
theorem av7:type_of% @Go.Sx.yh:=@Go.Sx.yh
