/- Walks: bytes.TrimRight at a zero byte, slices.Grow of -/
import Derived.Lib.AppendZeros
import Derived.Test.YtodpgjjgaddkeaaGreatDoorPk22
set_option maxHeartbeats 1600000
set_option maxRecDepth 100000
set_option linter.unusedVariables false
set_option linter.unusedSimpArgs false
section
namespace Go.Proofs.YtodpgjjgaddkeaaGreatDoor
open Go.RowKit En
variable{α:Type}
theorem OH(v:Value)(l:List UInt8)(w:World)(hv:bJ w v l) :
    Calls Tryz.prog 260 #[v,.u 0] w fun e w'=>∃v',e = .returned v'∧bJ w v' (Nb.au (Nb.val l))∧w=w':=by
 have hv0:=azF hv;obtain⟨a,cap,rfl,hm,ha⟩:=hv;have hl:=qX hm ha;have hcap:l.length≤cap:=by
  rcases ha with ⟨rfl,_⟩ | ⟨_,_,_,_,h,_⟩
  ·simp
  exact h
 have HA:=azF ha;clear ha;unfold maxLen at hm;go_enter Tryz.func260,Tryz.ntmps260
 go_wp2
 go_loop [0] (fun i=>∃k:Nat,i = .slice a k cap∧k≤l.length∧Hid (Nb.val (l.take k)=Nb.val l)) (fun i=>match i with | .slice _ k _=>k | _=>0)
 case atStart=>exact⟨l.length,rfl,azJ _,by show _=_; rw[aAA]⟩
 case round =>
  obtain⟨k,rfl,hk,HV⟩:=hrel;by_cases h0:k=0
  ·subst h0;go_wp2
   go_ret
   have hD:Nb.au (Nb.val l)=l.take 0:=Nb.kT (by omega) HV.out (.inl rfl);have hr:=Fa (cap':=cap) (n:=0) hv0.out (by omega) (by omega) hm (fun h=>by
    rcases HA.out with ⟨_,h'⟩ | ⟨_,_,h',_⟩
    ·exact h' h
    rw[h]at h'; cases h')
   exact⟨_,rfl,by rw[hD]; exact hr,rfl⟩
  obtain⟨j,rfl⟩:∃j,k=j+1:=⟨k-1,by omega⟩;rcases HA.out with ⟨rfl,_⟩ | ⟨b,o,rfl,hb,hlc,hc⟩
  ·simp at hk
  have hck:=hc j (by omega);have hlt:j<l.length:=by omega
  clear hc;by_cases hz:l[j]=0
  ·have HE:Hid (Nb.val (l.take j)=Nb.val l):=by show _=_; rw[←HV.out,Nb.cO l j hlt,hz]; simp
   have hzb:((l[j].toNat:Int)==0)=true:=by rw[hz]; rfl
   have HZ:=azF hz;clear hz;go_wp2
   go_round
   case rel=>exact⟨j,rfl,by omega,HE⟩
   case measure=>simp
  have hzb:((l[j].toNat:Int)==0)=false:=by
   rw[az8]; intro e; exact hz (aBO.1 (by simp; omega))
  have HZ:=azF hz;clear hz;go_wp2
  go_ret
  have hD:Nb.au (Nb.val l)=l.take (j+1):=Nb.kT (by omega) HV.out (.inr ⟨by omega,HZ.out⟩);have hr:=Fa (cap':=cap) (n:=j+1) hv0.out (by omega) (by omega) hm (fun h=>by cases h);exact⟨_,rfl,by rw[hD]; exact hr,rfl⟩
theorem aee(v:Value)(l:List UInt8)(w:World)(hv:bJ w v l) :
    Calls Tryz.prog 226 #[v,.string ⟨#[0]⟩] w fun e w'=>∃v',e = .returned v'∧bJ w v' (Nb.au (Nb.val l))∧w=w':=by
 have HV:=azF hv;obtain⟨a,cap,rfl⟩:=hv.shape;have HT:=azF (OH _ _ _ hv);have hl:=hv.len;unfold maxLen at hl;clear hv;by_cases h0:l.length=0
 ·have e:l=[]:=aAZ h0;subst e;have HT2:=HV;go_enter Tryz.func226,Tryz.ntmps226
  go_wp2_with fail
  go_ret
  exact⟨_,rfl,HV.out,rfl⟩
 have h0':((l.length:Int)==0)=false:=by rw[az8]; omega
 go_enter Tryz.func226,Tryz.ntmps226
 go_wp2_with fail
 refine HT.out.mono ?_;rintro e w' ⟨v',rfl,hr,rfl⟩;have HR:=azF hr;clear hr HT;go_wp2_with fail
 go_ret
 exact⟨_,rfl,HR.out,rfl⟩
theorem aef(n:Nat)(w:World)(hn:n≤100000000000) :
    Calls Tryz.prog 225 #[.sn,.i n] w fun e w'=>∃v',e = .returned v'∧w'.ownsRow w.heap.size 5 1 v' 0 ([].map gu)∧Ext w w':=by
 rcases aAt n with rfl | h0
 ·go_enter Tryz.func225,Tryz.ntmps225
  go_wp2_with fail
  go_ret
  exact⟨_,rfl,aB8 _ _ _ _,az5 _ _⟩
 obtain⟨i,hi,hz,hsz,hby⟩:=yX.info;have happ:=Lib.run_append_nil_zeros (P:=Tryz.prog) w 53 3 53 5 i (.u 0) .i64 .i64 Tryz.underlying53 Tryz.underlying3 hi hz n h0 (by omega) (by omega) (by rw[hby]; omega);have hge:=grownCap_ge w n 0 5;have hle:=grownCap_le_maxLen w n 0 5 (by unfold maxLen; omega);have hzc:∀k,(Builtin.zeroCells (Value.u 0).cells k).size=k:=fun k=>by
  have hc1:(Value.u 0).cells.size=1:=rfl;simp[Builtin.zeroCells,hc1]
 have hown:=World.ownsRow_made (base:=w.heap.size) (e:=5) (size:=1) w.drew (Builtin.zeroCells (Value.u 0).cells n++Builtin.zeroCells (Value.u 0).cells (grownCap w n 0 5-n)) (grownCap w n 0 5) (azJ _) hle (by rw[Array.size_append,hzc,hzc]; omega);have HO:=azF hown;clear hown;go_enter Tryz.func225,Tryz.ntmps225
 go_wp2_with (at_builtin; refine Lib.wpList_append_run _ rfl _ _ _ _ rfl _ _ rfl rfl _ _ happ ?_)
 go_ret
 exact⟨_,rfl,HO.out,(below_drewN (az5 _ _) 1).alloc (azJ _) _⟩
def cat(ls:List (List UInt8))(k:Nat):List UInt8:=(ls.take k).flatten
theorem BO(ls:List (List UInt8))(k:Nat)(hk:k<ls.length):cat ls (k+1)=cat ls k++ls[k]:=by
 unfold cat; rw[take_snoc ls k hk,List.flatten_append]; simp
theorem agV(ls:List (List UInt8)):cat ls ls.length=ls.flatten:=by unfold cat; rw[aAA]
theorem Aa(ls:List (List UInt8))(k:Nat):(cat ls k).length≤ls.flatten.length:=by
 unfold cat;conv=>rhs; rw[←aBC k ls,List.flatten_append,azL]
 omega
theorem WJ(v:Value)(ls:List (List UInt8))(w:World)(hv:xH w v ls)(hlen:ls.flatten.length≤1000000000) :
    Calls Tryz.prog 176 #[v] w fun e w'=>∃v',e = .returned v'∧w'.ownsRow w.heap.size 5 1 v' ls.flatten.length (ls.flatten.map gu)∧Ext w w':=by
 obtain⟨a,cap,rfl,hm,ha⟩:=hv;have hl:=acf hm ha;have HA:=azF ha;clear ha;go_enter Tryz.func176,Tryz.ntmps176
 go_wp2_with fail
 go_loop [3,11] (fun s i=>∃k:Nat,i = .i k∧k≤ls.length∧s = .i ((cat ls k).length:Nat)) (fun _ i=>ls.length-(intOf i).toNat)
 case atStart=>exact⟨0,rfl,azQ _,rfl⟩
 case round =>
  obtain⟨k,rfl,hk,rfl⟩:=hrel;have hle:=Aa ls k;by_cases hlt:k<ls.length
  ·rcases HA.out with ⟨rfl,_⟩ | ⟨b,o,rfl,hb,hlc,hc⟩
   ·simp at hlt
   obtain⟨x,hx,hxr⟩:=hc k hlt;obtain⟨ax,cx,rfl⟩:=hxr.shape;have hf:((cat ls (k+1)).length:Int)=((cat ls k).length:Int)+((ls[k]).length:Int):=by rw[BO ls k hlt]; simp
   have hle2:=Aa ls (k+1);have hs:((cat ls k).length:Int)+((ls[k]).length:Int)≤1000000000:=by omega
   have HF:=azF hf;clear hc hxr hf;go_wp2_with fail
   go_round
   case rel =>
    exact⟨k+1,by go_num,by omega,Fh HF.out.symm⟩
   case measure=>simp[intOf]; omega
  obtain rfl:k=ls.length:=by omega
  have hG:=aef (cat ls ls.length).length w (by omega);have HG:=azF hG;clear hG hle;go_wp2_with fail
  refine HG.out.mono ?_;rintro e w1 ⟨g,rfl,ho,hb⟩;have HO:=azF ho;have HB:=azF hb;clear ho hb HG;go_wp2_with fail
  go_loopw [6,27] (fun g i wr=>∃k:Nat,i = .i k∧k≤ls.length∧wr.ownsRow w.heap.size 5 1 g (cat ls k).length ((cat ls k).map gu)∧Ext w wr) (fun _ i _=>ls.length-(intOf i).toNat)
  case atStart=>exact⟨0,rfl,azQ _,HO.out,HB.out⟩
  case round =>
   obtain⟨k,rfl,hk,hown,hbel⟩:=hrel;by_cases hlt2:k<ls.length
   ·rcases HA.out with ⟨h,_⟩ | ⟨b,o,rfl,hb,hlc,hc⟩
    ·rw[h]at hlt2; simp at hlt2
    obtain⟨x,hx,hxr⟩:=hc k hlt2;have anh:=hxr.below hbel;have hx':wr.cell? ⟨b,o+k,none⟩=some x:=by rw[hbel.cell (p:=⟨b,o+k,none⟩) hb]; exact hx
    have hraw:=anh.raw (fun _=>rfl);have hf:=BO ls k hlt2;have hle2:=Aa ls (k+1);have h63:(cat ls k).length+(ls[k]).length≤maxLen:=by
     rw[hf,azL]at hle2; unfold maxLen; omega
    have hby:((cat ls k).length+(ls[k]).length)*1≤140737488355328:=by
     rw[hf,azL]at hle2; omega
    have hsz:=hbel.size;have HF:=azF hf;clear hc hxr hx hf anh hle2;go_wp2_with (at_builtin; refine bM rfl _ _ _ rfl yX w.heap.size hown rfl hraw rfl h63 hby hsz ?_; intro v' w' hown2 hg)
    go_roundw
    case rel =>
     refine⟨k+1,by go_num,by omega,?_,hbel.grown hg hsz (fun k hk=>(World.ownsRow.lt hown k hk).1)⟩;rw[HF.out,azL,aAB]; exact hown2
    case measure=>simp[intOf]; omega
   obtain rfl:k=ls.length:=by omega
   rw[agV]at hown;go_wp2_with fail
   go_ret
   exact⟨_,rfl,hown,hbel⟩
attribute [local go_sem] Go.Rel.Does Go.Rel.Upon Go.Rel.kept Go.Rel.valOf
theorem nT(v:Value)(l:List UInt8)(w:World)(hv:bJ w v l)(hlen:l.length≤1000000000) :
    Calls Tryz.prog 29 #[v] w fun e w'=>∃v',e = .returned v'∧w'.ownsRow w.heap.size 5 1 v' (fQ l).length ((fQ l).map gu)∧Ext w w':=by
 have HP:=azF (fO l.length w (by omega));have HV:=azF hv;obtain⟨a,cap,rfl⟩:=hv.shape;clear hv;go_enter Tryz.func29,Tryz.ntmps29
 go_wp2_with fail
 refine HP.out.mono ?_;rintro e w1 ⟨v',rfl,ho,hb⟩;have hraw:=(HV.out.below hb).raw (fun _=>rfl);have Qj:=iE 10 l.length;have h63:(dV 10 l.length).length+l.length≤maxLen:=by unfold maxLen; omega
 have hby:((dV 10 l.length).length+l.length)*1≤140737488355328:=by omega
 have hsz:=hb.size;clear HP;go_wp2_with (at_builtin; refine bM rfl _ _ _ rfl yX w.heap.size ho rfl hraw rfl h63 hby hsz ?_; intro v2 w2 hown2 hg)
 go_ret
 refine⟨_,rfl,?_,hb.grown hg hsz (fun k hk=>(World.ownsRow.lt ho k hk).1)⟩;unfold fQ;rw[azL,aAB];exact hown2
theorem agW(d:UInt32):(Nb.le4 d).map gu=[.u ((d.toNat:Int)%256),.u ((d.toNat:Int)/256%256),.u ((d.toNat:Int)/65536%256),.u ((d.toNat:Int)/16777216%256)]:=by
 simp[Nb.le4,gu,UInt32.toNat_shiftRight,Nat.shiftRight_eq_div_pow]
theorem OI(n:Nat):(Nb.au n).length≤4*(Na.au n).length:=by
 apply Nb.bH;have h:=Na.dR (Na.au n);rw[Na.aB]at h;have e:Nb.B^(4*(Na.au n).length)=Na.B^(Na.au n).length:=by
  rw[Nat.pow_mul]; rfl
 rw[e]; exact h
theorem Lp(neg:Bool)(s:Value)(l:List UInt32)(w:World)(hs:aC w s l)(hlen:l.length≤100000000) :
    Calls Tryz.prog 177 #[.agg #[.bool neg,s]] w fun e w'=>∃v',e = .returned v'∧bJ w' v' (Nb.au (Na.val l))∧Ext w w':=by
 have hb0:=aF w (.cells #[.bool neg,s] 24);have HS:=azF (hs.below hb0);obtain⟨a,cap,rfl⟩:=hs.shape;have HB0:=azF hb0;clear hs hb0;go_enter Tryz.func177,Tryz.ntmps177
 go_wp2_with fail
 go_loopw [3,9] (fun v i wr=>∃k:Nat,i = .i k∧k≤l.length∧wr.ownsRow (w.heap.size+1) 5 1 v (Nb.bytes (l.take k)).length ((Nb.bytes (l.take k)).map gu)∧Ext (w.alloc (.cells #[.bool neg,.slice a l.length cap] 24)) wr) (fun _ i _=>l.length-(intOf i).toNat)
 case atStart=>exact⟨0,rfl,azQ _,aB8 _ _ _ _,az5 _ _⟩
 case round =>
  obtain⟨k,rfl,hk,hown,hbel⟩:=hrel;have hbl:=Nb.ZT (l.take k);have htl:(l.take k).length=k:=by simp; omega
  have hsz0:=hbel.size;simp only[aCc]at hsz0;by_cases hlt:k<l.length
  ·obtain⟨b,o,c,hsv,hb,hlc,hm,hc⟩:=dN HS.out rfl (by omega);simp only[aAg]at hsv;obtain⟨rfl,-,-⟩:=hsv;have hck:wr.cell? ⟨b,o+k,none⟩=some (aX l[k]):=by rw[hbel.cell (p:=⟨b,o+k,none⟩) hb]; exact hc k hlt
   clear hc;obtain⟨d,hd⟩:∃d,l[k]=d:=⟨_,rfl⟩;rw[hd]at hck;have hraw:=Nq wr #[.u ((d.toNat:Int)%256),.u ((d.toNat:Int)/256%256),.u ((d.toNat:Int)/65536%256),.u ((d.toNat:Int)/16777216%256)] 5 4 1 rfl (by unfold maxLen; omega) (by
    intro u hu;simp only[azS,aBG,or_false]at hu;rcases hu with rfl | rfl | rfl | rfl<;>rfl)
   have hown':=hown.alloc (.cells #[.u ((d.toNat:Int)%256),.u ((d.toNat:Int)/256%256),.u ((d.toNat:Int)/65536%256),.u ((d.toNat:Int)/16777216%256)] 5);have hsz1:w.heap.size+1≤(wr.alloc (.cells #[.u ((d.toNat:Int)%256),.u ((d.toNat:Int)/256%256),.u ((d.toNat:Int)/65536%256),.u ((d.toNat:Int)/16777216%256)] 5)).heap.size:=by simp; omega
   have h63:(Nb.bytes (l.take k)).length+4≤maxLen:=by unfold maxLen; omega
   have hby:((Nb.bytes (l.take k)).length+4)*1≤140737488355328:=by omega
   have HT:Hid (Nb.bytes (l.take (k+1))=Nb.bytes (l.take k)++Nb.le4 d):=by show _=_; rw[take_snoc l k hlt,hd,Nb.U8]
   have HO:=azF hown;clear hd hown hbl htl;go_wp2_with (at_builtin; refine bM rfl _ _ _ rfl yX (w.heap.size+1) hown' rfl hraw rfl h63 hby hsz1 ?_; intro v' w' hown2 hg)
   go_roundw
   case rel =>
    refine⟨k+1,by go_num,by omega,?_,?_⟩
    ·rw[HT.out,azL,aAB,agW]; exact hown2
    exact(hbel.alloc (by simpa using hsz0) _).grown hg (by simpa using hsz1) (fun k hk=>by have:=(World.ownsRow.lt hown' k hk).1; simpa using this)
   case measure=>simp[intOf]; omega
  obtain rfl:k=l.length:=by omega
  have hown3:=aV hown;have ht:=aee _ _ wr hown3;rw[aAA,Nb.ZU]at ht;have HT:=azF ht;clear ht hown hown3 hbl htl;go_wp2_with fail
  refine HT.out.mono ?_;rintro e w' ⟨v',rfl,hr,rfl⟩;have HR:=azF hr;clear hr;go_wp2_with fail
  go_ret
  exact⟨_,rfl,HR.out,Ext.trans' HB0.out hbel⟩
end Go.Proofs.YtodpgjjgaddkeaaGreatDoor
namespace Go.Proofs.YtodpgjjgaddkeaaGreatDoor
open Go.RowKit En
variable{α:Type}
attribute [local go_sem] Go.Rel.Does Go.Rel.Upon Go.Rel.kept Go.Rel.valOf
def gK(r:Bool×Nat×Nat):List UInt8:=(if r.1 then 1 else 0)::(fQ (Nb.au r.2.1)++fQ (Nb.au r.2.2))
theorem aaR{R:World→Value→α→Prop}(w:World)(x y z:Value)(a b c:α)(e:TypeId)(h1:R (w.alloc (.cells #[x,y,z] e)) x a)(h2:R (w.alloc (.cells #[x,y,z] e)) y b)(h3:R (w.alloc (.cells #[x,y,z] e)) z c) :
    Gq R (w.alloc (.cells #[x,y,z] e)) (.slice (some ⟨w.heap.size,0,none⟩) 3 3) [a,b,c]:=by
 refine⟨_,_,rfl,by unfold maxLen; omega,.inr ⟨_,_,rfl,by simp,azJ _,fun i hi=>?_⟩⟩;rw[aAD,World.cell?_alloc_at _ _ _ _ rfl];rcases i with _ | _ | _ | i
 ·exact⟨x,rfl,h1⟩
 ·exact⟨y,rfl,h2⟩
 ·exact⟨z,rfl,h3⟩
 exact absurd hi (by simp)
theorem WL{w w':World}{v:Value}{ls:List (List UInt8)}(h:xH w v ls)(hb:Ext w w'):xH w' v ls:=Gq.below (fun _ _ _ _ hb h=>h.below hb) h hb
theorem aA.parts{base:Nat}{w:World}{s t:Value}{n m neg:Bool}{a b:Nat}(h:aA base w (.agg #[.bool n,s,.bool m,t]) neg a b) :
    aC w s (Na.au a)∧aC w t (Na.au b)∧From base s∧From base t:=by
 obtain⟨s',t',e,hs,ht,fs,ft⟩:=h;simp only[aBq,aBr,aAf,and_true]at e;obtain⟨-,rfl,-,rfl⟩:=e;exact⟨hs,ht,fs,ft⟩
theorem vI(n1 n2:Bool)(s1 s2:Value)(l m:List UInt32)(w:World)(h1:aC w s1 l)(h2:aC w s2 m)(hl1:l.length≤50000000)(hl2:m.length≤50000000) :
    Calls Tryz.prog 127 #[.agg #[.bool n1,s1,.bool n2,s2]] w fun e w'=>∃v,e = .returned v∧w'.ownsRow w.heap.size 5 1 v (gK (nrm n1 n2 (Na.val l) (Na.val m))).length ((gK (nrm n1 n2 (Na.val l) (Na.val m))).map gu)∧Ext w w':=by
 have hln:=X5 n1 n2 l m;have hb0:=aF w (.cells #[.bool n1,s1,.bool n2,s2] 26);have HC:=azF (oD n1 n2 s1 s2 l m _ (h1.below hb0) (h2.below hb0) (by omega) (by omega));have HB0:=azF hb0;obtain⟨a1,c1,rfl⟩:=h1.shape;obtain⟨a2,c2,rfl⟩:=h2.shape;generalize nrm n1 n2 (Na.val l) (Na.val m)=r at *;obtain⟨ng,a,b⟩:=r;simp only at hln;clear h1 h2 hb0;go_enter Tryz.func127,Tryz.ntmps127
 go_wp2_with fail
 refine HC.out.mono ?_;rintro e w1 ⟨x,rfl,hx,hb1⟩;obtain⟨b1,d1,b2,d2,rfl⟩:=hx.shape;obtain⟨r0,f0,hz⟩:=iU hb1;have F:=azF hx;have HB1:=azF (Ext.trans' HB0.out hb1);clear hx hb1 HC;obtain⟨sg,hsg⟩:∃sg:UInt8,sg=if ng then 1 else 0:=⟨_,rfl⟩
 obtain⟨nb,hnb⟩:∃nb:Bool,nb=ng:=⟨_,rfl⟩;obtain⟨q,hq⟩:∃q,q=gK (nb,a,b):=⟨_,rfl⟩;have HQ:Hid ([[sg],fQ (Nb.au a),fQ (Nb.au b)].flatten=q):=by
  show _=_;rw[hq,hsg,hnb]; simp[gK]
 have hql:([[sg],fQ (Nb.au a),fQ (Nb.au b)].flatten).length≤1000000000:=by
  have:=OI a;have:=OI b;have:=iE 10 (Nb.au a).length;have:=iE 10 (Nb.au b).length;simp[fQ]; omega
 have HQL:=azF hql;have JH:=azF hq;have HSG:=azF hsg;have HNB:=azF hnb;clear hq hql;clear hsg hnb;have hqa:=OI a;have hqb:=OI b;have HP:=azF (F.out.parts);clear F;rcases aCr ng with rfl | rfl;all_goals
  go_wp2_with fail
  generalize hW:World.setCell _ _ _=W
  have hWb:Ext w W:=by rw[←hW]; exact qC HB1.out (azJ _) _ _ _ _
  have hk:∀w',Ext W w'→w'.cell? ⟨w.heap.size,0,none⟩=some (.bool nb)∧w'.cell? ⟨w.heap.size,1,none⟩=some (.slice b1 (Na.au a).length d1)∧w'.cell? ⟨w.heap.size,2,none⟩=some (.z)∧w'.cell? ⟨w.heap.size,3,none⟩=some (.slice b2 (Na.au b).length d2):=by
    intro w' hw'
    have hWz:w.heap.size<W.heap.size:=by rw[←hW]; simpa[World.setCell]using hz
    refine⟨?_,?_,?_,?_⟩
    · rw[hw'.cell (p:=⟨w.heap.size,0,none⟩) hWz,←hW,HNB.out]; simp[go_sem,r0]
    · rw[hw'.cell (p:=⟨w.heap.size,1,none⟩) hWz,←hW]; simp[go_sem,r0]
    · rw[hw'.cell (p:=⟨w.heap.size,2,none⟩) hWz,←hW]; simp[go_sem,r0]
    · rw[hw'.cell (p:=⟨w.heap.size,3,none⟩) hWz,←hW]; simp[go_sem,r0]
  have HK:=azF hk
  have hA:aC W (.slice b1 (Na.au a).length d1) (Na.au a):=by
    rw[←hW]; exact HP.out.1.ch (((((Ch.refl w.heap.size _).setCell _ _).setCell _ _).setCell _ _).setCell _ _) (fun _=>HP.out.2.2.1.off (by simp))
  have hB:aC W (.slice b2 (Na.au b).length d2) (Na.au b):=by
    rw[←hW]; exact HP.out.2.1.ch (((((Ch.refl w.heap.size _).setCell _ _).setCell _ _).setCell _ _).setCell _ _) (fun _=>HP.out.2.2.2.off (by simp))
  have HAB:=azF (And.intro hA hB)
  have HWB:=azF hWb
  clear hk hW hWb hA hB
  refine Go.Rel.wp_region 12 (by kernel_rfl) (by kernel_rfl) Ext (fun w'=>Ext W w')
    [Rel.is (gu sg),fun v w'=>bJ w' v [sg],Rel.is (.q w.heap.size 0),Rel.is (.agg #[.bool nb,.slice b1 (Na.au a).length d1]),
     fun v w'=>bJ w' v (Nb.au a),fun v w'=>bJ w' v (fQ (Nb.au a)),Rel.is (.q w.heap.size 2),Rel.is (.agg #[.z,.slice b2 (Na.au b).length d2]),
     fun v w'=>bJ w' v (Nb.au b),fun v w'=>bJ w' v (fQ (Nb.au b)),fun v w'=>xH w' v [[sg],fQ (Nb.au a),fQ (Nb.au b)],
     fun v w'=>OwnB w.heap.size w' v q]
    ?_ ?_ ?_ ⟨?_,?_,?_,?_,?_,?_,?_,?_,?_,?_,?_,?_,trivial⟩ ?_
  · exact below_drewN (az5 _ _) 1
  · exact fun _ _ h k=>Ext.trans' h k
  · exact Rel.DY.mem ⟨Rel.aG _,fun _ _ _ h k=>k.below h,Rel.aG _,Rel.aG _,fun _ _ _ h k=>k.below h,fun _ _ _ h k=>k.below h,Rel.aG _,Rel.aG _,fun _ _ _ h k=>k.below h,fun _ _ _ h k=>k.below h,
      fun _ _ _ h k=>WL k h,fun _ _ _ h k=>dL k h,trivial⟩
  · intro ρ w' hs ho hC hd
    have h2:ρ (.tmp 3)=gu sg:=(ho 3 rfl).trans (by rw[HSG.out]; rfl)
    simp[go_sem,h2]
    exact⟨Ext.rfl',rfl⟩
  · intro ρ w' hs ho hC hd
    obtain⟨hd1,-⟩:=hd
    have h1:ρ (.tmp 9)=_:=hd1 rfl
    simp[go_sem,h1]
    exact⟨aF _ _,Nl _ [sg] _ (by unfold maxLen; simp)⟩
  · intro ρ w' hs ho hC hd
    have h2:ρ (.tmp 1) = .q w.heap.size 0:=ho 1 rfl
    simp[go_sem,h2]
    exact⟨Ext.rfl',rfl⟩
  · intro ρ w' hs ho hC hd
    obtain⟨hd1,-⟩:=hd
    have h1:ρ (.tmp 11)=_:=hd1 rfl
    obtain⟨k1,k2,-⟩:=HK.out w' hC
    simp[go_sem,h1,k1,k2]
    exact⟨Ext.rfl',rfl⟩
  · intro ρ w' hs ho hC hd
    obtain⟨hd1,-⟩:=hd
    have h1:ρ (.tmp 12)=_:=hd1 rfl
    simp[go_sem,h1,hs.func]
    have hc:=Lp nb _ _ w' (HAB.out.1.below hC) (by omega)
    rw[Na.aB]at hc
    refine hc.mono ?_
    rintro e w'' ⟨v,rfl,hr,hb⟩
    exact⟨_,rfl,hb,hr⟩
  · intro ρ w' hs ho hC hd
    obtain⟨hd1,-⟩:=hd
    have h1:bJ w' (ρ (.tmp 13)) _:=hd1 rfl
    simp[go_sem,hs.func]
    refine(nT _ _ w' h1 (by omega)).mono ?_
    rintro e w'' ⟨v,rfl,hr,hb⟩
    exact⟨_,rfl,hb,aV hr⟩
  · intro ρ w' hs ho hC hd
    have h2:ρ (.tmp 1) = .q w.heap.size 0:=ho 1 rfl
    simp[go_sem,h2]
    exact⟨Ext.rfl',rfl⟩
  · intro ρ w' hs ho hC hd
    obtain⟨hd1,-⟩:=hd
    have h1:ρ (.tmp 15)=_:=hd1 rfl
    obtain⟨-,-,k1,k2⟩:=HK.out w' hC
    simp[go_sem,h1,k1,k2]
    exact⟨Ext.rfl',rfl⟩
  · intro ρ w' hs ho hC hd
    obtain⟨hd1,-⟩:=hd
    have h1:ρ (.tmp 16)=_:=hd1 rfl
    simp[go_sem,h1,hs.func]
    have hc:=Lp false _ _ w' (HAB.out.2.below hC) (by omega)
    rw[Na.aB]at hc
    refine hc.mono ?_
    rintro e w'' ⟨v,rfl,hr,hb⟩
    exact⟨_,rfl,hb,hr⟩
  · intro ρ w' hs ho hC hd
    obtain⟨hd1,-⟩:=hd
    have h1:bJ w' (ρ (.tmp 17)) _:=hd1 rfl
    simp[go_sem,hs.func]
    refine(nT _ _ w' h1 (by omega)).mono ?_
    rintro e w'' ⟨v,rfl,hr,hb⟩
    exact⟨_,rfl,hb,aV hr⟩
  · intro ρ w' hs ho hC hd
    obtain⟨hd1,hd2,hd3,-⟩:=hd
    have h1:bJ w' (ρ (.tmp 10)) _:=hd1 rfl
    have h2:bJ w' (ρ (.tmp 14)) _:=hd2 rfl
    have h3:bJ w' (ρ (.tmp 18)) _:=hd3 rfl
    obtain⟨x1,y1,e1⟩:=h1.shape
    obtain⟨x2,y2,e2⟩:=h2.shape
    obtain⟨x3,y3,e3⟩:=h3.shape
    rw[e1]at h1
    rw[e2]at h2
    rw[e3]at h3
    simp[go_sem,e1,e2,e3]
    exact⟨aF _ _,aaR w' _ _ _ _ _ _ _ (h1.below (aF _ _)) (h2.below (aF _ _)) (h3.below (aF _ _))⟩
  · intro ρ w' hs ho hC hd
    obtain⟨hd1,-⟩:=hd
    have h1:xH w' (ρ (.tmp 19)) _:=hd1 rfl
    simp[go_sem,hs.func]
    refine(WJ _ _ w' h1 HQL.out).mono ?_
    rintro e w'' ⟨v,rfl,hr,hb⟩
    refine⟨_,rfl,hb,?_⟩
    rw[HQ.out]at hr
    exact aY hr (by have:=(Ext.trans' HWB.out hC).size; exact this)
  · intro w' hC
    rintro _ rfl v1 h1 _ rfl _ rfl v4 h4 v5 h5 _ rfl _ rfl v8 h8 v9 h9 v10 h10 v11 h11
    change wpList _ _ _ (List.drop 12 _) _ _
    simp only[List.drop_succ_cons,aCk]
    have h12:Hid (w'.ownsRow w.heap.size 5 1 v11 (gK (nb,a,b)).length ((gK (nb,a,b)).map gu)):=by
      have:=JH.out
      rw[←this]; exact h11
    rw[HNB.out]at h12
    have HX:=azF (Ext.trans' HWB.out hC)
    clear h1 h4 h5 h8 h9 h10 h11
    go_wp2_with fail
    go_ret
    exact⟨v11,rfl,h12.out,HX.out⟩
end Go.Proofs.YtodpgjjgaddkeaaGreatDoor
end
namespace Go.Proofs.YtodpgjjgaddkeaaGreatDoor
section
open En
variable{α:Type}
abbrev iB (x:Int):List UInt8:=dV 10 (zig x)
def iy(f:α→List UInt8)(l:List α):List UInt8:=dV 10 l.length++l.flatMap f
def kH(s:dM):List UInt8:=dW [s.verb,s.a.x,s.a.y,s.b.x,s.b.y,s.c.x,s.c.y]
def jf(s:dH):List UInt8:=dW [s.o]++Px.pb s.c
def sG(pk:Bool)(m:og):List UInt8:=dW [m.w,m.h]++(if pk=true then fQ (Px.enc m.l)else m.l.flatMap Px.pb)
def sH(q:Q6):List UInt8:=[q.a,q.b,q.c,q.d,q.e,q.f].flatMap gK
def fC(pk:Bool)(p:jc):List UInt8:=dW [p.kind]++Px.pb p.color++dW [p.p0.x,p.p0.y,p.p1.x,p.p1.y,p.bT]++iy jf p.stops++dW [p.spread]++sG pk p.img++dW [p.cZ]++sH p.q
def BP(p:kC):List UInt8:=dW [p.width,p.join,p.cap,p.eU,p.phase]++iy iB p.dash
def pz(b:Bool):UInt8:=if b=true then 1 else 0
def nG(pk:Bool)(n:aQ):List UInt8:=
 if n.kind=1 then [n.dQ]++dW [n.blend]++[pz n.isolated,pz n.dF]
 else if n.kind=2 then iy kH n.path++dW [n.aT]++iy (fC pk) n.fill++iy (fC pk) n.stroke++(if 0<n.stroke.length then BP n.style else [])
 else if n.kind=3 then sG pk n.img++dW [n.cZ]else []
def eG(pk:Bool)(n:aQ):List UInt8:=dW [n.id,n.kind,n.depth]++sH n.q++iy kH n.clip++dW [n.aP]++nG pk n
def dU(s:bD):List UInt8:=[71,83,49]++dW [s.w,s.h]++Px.pb s.bg++iy (eG false) s.ns
def EX(pk:Bool)(e:bZ):List UInt8:=dW [e.kind,e.id,e.index,e.depth]++(if e.kind=1∨e.kind=4 then eG pk e.node else if e.kind=5 then Px.pb e.color else [])
def jW(e:bZ):List UInt8:=[71,69,49]++EX false e
theorem kD{f:α→List UInt8}{l:List α}{k:Nat}{x:α}(hk:k<l.length)(hx:l[k]=x)(B:List UInt8):B++(l.take k).flatMap f++f x=B++(l.take (k+1)).flatMap f:=by
 rw[aAJ hk,hx,aBm]; simp
theorem Iy{f:α→List UInt8}{l:List α}{B:List UInt8}{N:Nat}(h:(B++l.flatMap f).length≤N)(k:Nat):(B++(l.take k).flatMap f).length≤N:=by
 rw[azL]at h ⊢;have:((l.take k).flatMap f).length≤(l.flatMap f).length:=by
  conv=>rhs; rw[←aBC k l,aBm,azL]
  omega
 omega
theorem akz{f:α→List UInt8}{l:List α}{N:Nat}(h:(l.flatMap f).length≤N):∀x∈l,(f x).length≤N:=fun x hx=>by
 obtain⟨s,t,rfl⟩:=List.append_of_mem hx;rw[aBm,aAO,azL,azL]at h;omega
theorem YB{f:α→List UInt8}{l:List α}{B:List UInt8}{N:Nat}(h:(B++l.flatMap f).length≤N):∀x∈l,(f x).length≤N:=akz (by rw[azL]at h; omega)
end
section
open En
variable{α:Type}{K:Nat}
theorem agX(f:Nat):∀n,0<n→(dV f n).length≤n:=by
 induction f with
 | zero=>intro n h; simp[dV]
 | succ f ih =>
  intro n h;unfold dV;split
  ·simp; omega
  have:=ih (n/128) (by omega);simp only[aAn]; omega
theorem agY{R:List (Nat×bC)}:∀{last:Option bC},Px.good last R→(Px.rb R).length≤5*(Px.flat R).length:=by
 induction R with
 | nil=>intro _ _; exact azQ _
 | cons z R ih =>
  intro last h;obtain⟨n,p⟩:=z;simp only[Px.good]at h;have:=ih h.2.2;have:=agX 10 n h.1;simp only[Px.rb,Px.pb,Px.flat,azL,aAn,aAS,List.length_replicate];omega
theorem Iz(l:List bC):(Px.enc l).length≤5*l.length:=by
 have h:=Px.Dh l;have:=agY h.1;rw[h.2]at this;exact this
theorem WM{f:α→List UInt8}{M:Nat}:∀{l:List α},(∀x∈l,(f x).length≤M)→(l.flatMap f).length≤l.length*M
 | [],_=>by simp
 | x::l,h=>by
  have h1:=h x azV
  have h2:=WM (l:=l) fun y hy=>h y (aAT _ hy)
  rw[aAO,azL,aAn,Nat.succ_mul]; omega
theorem uV{f:α→List UInt8}{M N:Nat}{l:List α}(h:∀x∈l,(f x).length≤M)(hl:l.length≤N):(iy f l).length≤10+N*M:=by
 unfold iy;have h1:=WM h;have h2:=iE 10 l.length;have h3:=aA7 M hl;rw[azL]; omega
theorem YC(s:dM):(kH s).length≤70:=iG _
theorem WO(s:dH):(jf s).length≤14:=by unfold jf; rw[azL]; have:=iG [s.o]; simp[Px.pb]at this ⊢; omega
theorem YD{pk:Bool}{m:og}(h:m.l.length≤65536):(sG pk m).length≤327800:=by
 unfold sG;have h1:=iG [m.w,m.h];have h2:=Iz m.l;have h3:=WM (f:=Px.pb) (M:=4) (l:=m.l) fun x _=>azJ _;have h4:=iE 10 (Px.enc m.l).length;simp only[aAn,aAS]at h1;rw[azL];cases pk
 ·simp only[aB1,if_false]; omega
 simp only[if_true,fQ,azL]; omega
theorem Em{n:Nat}(h:bl n≤256):n<Nb.B^32:=by
 show n<256^32;rw[show(256:Nat)^32=2^256 by rfl];unfold bl at h;split at h
 ·omega
 exact aAa Nat.lt_log2_self (aAK (by decide) h)
theorem q_len{q:Bool×Nat×Nat}(h:dZ q≤256):(gK q).length≤100:=by
 unfold dZ at h;have h1:=Nb.bH (Em (n:=q.2.1) (by omega));have h2:=Nb.bH (Em (n:=q.2.2) (by omega));have h3:=iE 10 (Nb.au q.2.1).length;have h4:=iE 10 (Nb.au q.2.2).length;simp only[gK,fQ,aAn,azL];omega
theorem YE{q:Q6}(h:q.valid=true):(sH q).length≤600:=by
 unfold Q6.valid at h;simp only[azY,azW]at h;obtain⟨h1,h2,h3,h4,h5,h6⟩:=h;have:=q_len h1;have:=q_len h2;have:=q_len h3;have:=q_len h4;have:=q_len h5;have:=q_len h6;simp only[sH,aAO,List.flatMap_nil,azL,aAS];omega
theorem Eo{l:List dH}(h:iq l=true):l.length≤16:=by
 unfold iq at h;simp only[azY,azW]at h;exact h.2.1
theorem OJ{m:dB}(h:m.valid=true):m.l.length≤65536:=by
 unfold dB.valid dB.size at h;simp only[azY,azW,azU]at h;obtain⟨⟨-,-,h1⟩,h2,-⟩:=h;omega
theorem Kq{p:ak}{k:Int}(h:p.eq (ak.bare k)=true):p.stops=[]∧p.img.l=[]∧p.img.w=0∧p.img.h=0:=by
 unfold ak.eq dB.eq at h;simp only[azY,azW,azU]at h;refine⟨?_,?_,?_,?_⟩
 ·have:p.stops=(ak.bare k).stops:=by simp_all
  exact this
 ·have:p.img.l=(ak.bare k).img.l:=by simp_all
  exact this
 ·have:p.img.w=(ak.bare k).img.w:=by simp_all
  exact this
 have:p.img.h=(ak.bare k).img.h:=by simp_all
 exact this
def dB.num(m:dB):Prop:=(m.l.length:Int)=m.w*m.h∧m.l.length≤65536∧0≤m.w∧m.w≤4096∧0≤m.h∧m.h≤4096
theorem BQ{m:dB}(h:m.valid=true):m.num:=by
 have hl:=OJ h;unfold dB.valid dB.size side at h;simp only[azY,azU,azW]at h;exact⟨h.2.1,hl,by omega,by omega,by omega,by omega⟩
theorem wV{m:dB}(h1:m.l=[])(h2:m.w=0)(h3:m.h=0):m.num:=by
 unfold dB.num; rw[h1,h2,h3]; simp
theorem tV{p:ak}(h:p.valid=true):p.t.q.valid=true∧p.stops.length≤16∧p.img.num:=by
 unfold ak.valid at h;simp only[cond_eq_ite]at h;split at h
 ·cases h
 rename_i hw;simp only[aBu,aBi,not_or,Bool.not_eq_false]at hw;refine⟨hw.1,?_⟩;have he:=Kq hw.2;unfold ak.without at he;simp only[cond_eq_ite]at he;split at h
 ·rename_i h1; rw[azI h1]at he; exact⟨by rw[show p.stops=[]from he.1]; simp,wV he.2.1 he.2.2.1 he.2.2.2⟩
 rename_i h1;rw[azG h1]at he;split at h
 ·rename_i h2;rw[azI h2]at he;split at h
  ·cases h
  rename_i hs;simp only[aBu,aBi,not_or,Bool.not_eq_false,azY]at hs;exact⟨Eo hs.2.1,wV he.2.1 he.2.2.1 he.2.2.2⟩
 rename_i h2;rw[azG h2]at he;split at h
 ·rename_i h3;rw[azI h3]at he;split at h
  ·cases h
  rename_i hs;simp only[aBu,aBi,not_or,Bool.not_eq_false,azY]at hs;exact⟨Eo hs.2.1,wV he.2.1 he.2.2.1 he.2.2.2⟩
 rename_i h3;rw[azG h3]at he;split at h
 ·rename_i h4;rw[azI h4]at he;split at h
  ·cases h
  rename_i hs;simp only[aBu,aBi,not_or,Bool.not_eq_false,azY]at hs;exact⟨by rw[show p.stops=[]from he.1]; simp,BQ hs.1.1⟩
 cases h
theorem Ls{pk:Bool}{p:ak}(h:p.valid=true):(fC pk p.key).length≤330000:=by
 obtain⟨h1,h2,h3⟩:=tV h;have a1:=YE (q:=p.key.q) h1;have a2:=YD (pk:=pk) (m:=p.key.img) h3.2.1;have a3:=uV (f:=jf) (l:=p.key.stops) (M:=14) (N:=16) (fun x _=>WO x) h2;have a4:=iG [p.key.kind];have a5:=iG [p.key.p0.x,p.key.p0.y,p.key.p1.x,p.key.p1.y,p.key.bT];have a6:=iG [p.key.spread];have a7:=iG [p.key.cZ];simp only[aAn,aAS]at a4 a5 a6 a7;simp only[fC,azL,Px.pb,aAn,aAS];omega
structure aj.Lim (n:aj):Prop where
 q:n.t.q.valid=true
 clip:n.clip.length≤256
 shape:n.kind=2→n.path.length≤256∧n.fill.length≤1∧n.stroke.length≤1∧(∀p∈n.fill,p.valid=true)∧(∀p∈n.stroke,p.valid=true)∧(0<n.stroke.length→n.style.dash.length≤16)
 img:n.kind=3→n.img.num
 bare:n.bare=true
 sty:n.kind=2→¬0<n.stroke.length→n.style.eq aS.bare=true
theorem IB{l:List dM}(h:jO l=true):l.length≤256:=by
 unfold jO gZ at h;by_cases h1:256<(l.length:Int)
 ·rw[azI h1]at h; simp at h
 omega
theorem WQ{l:List (Bool×Int)}(h:badL l=false):∀p∈l,p.1=false:=fun p hp=>by
 unfold badL at h;cases hb:p.1
 ·rfl
 have:=List.any_eq_false.1 h p hp; simp[hb]at this
theorem tX{n:aj}(h:n.checkN=0):n.Lim:=by
 obtain⟨hb,ho⟩:=Eb h;have hc:=WQ hb;unfold aj.jP at hc;simp only[azS,aBG,or_false,forall_eq_or_imp,forall_eq,aA3]at hc;obtain⟨-,-,h3,-,h5,h6⟩:=hc;simp only[aAz,aA3]at h6;refine⟨h3,IB h5,fun hk=>?_,fun hk=>?_,h6.2,fun hk hs0=>?_⟩
 ·unfold aj.qP at ho;rw[hk]at ho;simp only[show((2:Int)==1)=false from rfl,show((2:Int)==2)=true from rfl,cond_false,cond_true]at ho;have hs:=qF (fun p hp=>by
   simp only[aj.su,azS,aBG,or_false]at hp;rcases hp with rfl | rfl | rfl | rfl | rfl | rfl<;>simp) ho
  unfold aj.su at hs;simp only[azS,aBG,or_false,forall_eq_or_imp,forall_eq,aA3,aAz,Bool.and_eq_false_iff,aAk,azW]at hs;obtain⟨g1,-,g3,g4,-,g6⟩:=hs;refine⟨IB g1,by omega,by omega,aAh.1 g6.1,aAh.1 g6.2,fun hl=>?_⟩;rcases g4 with g4 | g4
  ·omega
  unfold aS.valid rV at g4;simp only[azY,azW]at g4;omega
 ·unfold aj.qP at ho;rw[hk]at ho;simp only[show((3:Int)==1)=false from rfl,show((3:Int)==2)=false from rfl,cond_false]at ho;have hs:=qF (fun p hp=>by
   simp only[azS,aBG,or_false]at hp;rcases hp with rfl | rfl<;>simp) ho
  simp only[azS,aBG,or_false,forall_eq_or_imp,forall_eq,aA3]at hs;exact BQ hs.1
 unfold aj.qP at ho;rw[hk]at ho;simp only[show((2:Int)==1)=false from rfl,show((2:Int)==2)=true from rfl,cond_false,cond_true]at ho;have hs:=qF (fun p hp=>by
  simp only[aj.su,azS,aBG,or_false]at hp;rcases hp with rfl | rfl | rfl | rfl | rfl | rfl<;>simp) ho
 unfold aj.su at hs;simp only[azS,aBG,or_false,forall_eq_or_imp,forall_eq,aA3,aAz,Bool.and_eq_false_iff,aAk,azW]at hs;obtain⟨-,-,-,-,g5,-⟩:=hs;rcases g5 with g5 | g5
 ·omega
 exact g5
theorem SA{pk:Bool}{n:aj}(h:n.Lim):(eG pk n.key).length≤700000:=by
 have a1:=YE (q:=n.key.q) h.q;have a2:=uV (f:=kH) (l:=n.key.clip) (M:=70) (N:=256) (fun x _=>YC x) h.clip;have a3:=iG [n.key.id,n.key.kind,n.key.depth];have a4:=iG [n.key.aP];have hk:(nG pk n.key).length≤680000:=by
  unfold nG;split
  ·have:=iG [n.key.blend]; simp at this ⊢; omega
  split
  ·rename_i hk;obtain⟨b1,b2,b3,b4,b5,b6⟩:=h.shape hk;have c1:=uV (f:=kH) (l:=n.key.path) (M:=70) (N:=256) (fun x _=>YC x) b1;have c2:=uV (f:=fC pk) (l:=n.key.fill) (M:=330000) (N:=1) (fun x hx=>by obtain⟨p,hp,rfl⟩:=az9.1 hx; exact Ls (b4 p hp)) (by simpa[aj.key]using b2);have c3:=uV (f:=fC pk) (l:=n.key.stroke) (M:=330000) (N:=1) (fun x hx=>by obtain⟨p,hp,rfl⟩:=az9.1 hx; exact Ls (b5 p hp)) (by simpa[aj.key]using b3);have c4:=iG [n.key.aT];have c5:(if 0<n.key.stroke.length then BP n.key.style else []).length≤300:=by
    split
    ·rename_i hs;have d1:=uV (f:=iB) (l:=n.key.style.dash) (M:=10) (N:=16) (fun x _=>iE 10 _) (b6 (by simpa[aj.key]using hs));have d2:=iG [n.key.style.width,n.key.style.join,n.key.style.cap,n.key.style.eU,n.key.style.phase];simp only[BP,azL,aAn,aAS]at d2 ⊢; omega
    simp
   simp only[azL,aAn,aAS]at c4 ⊢; omega
  split
  ·rename_i hk;have:=YD (pk:=pk) (m:=n.key.img) (h.img hk).2.1;have:=iG [n.key.cZ];simp only[azL,aAn,aAS]at this ⊢; omega
  simp
 simp only[eG,azL,aAn,aAS]at a3 a4 ⊢;omega
theorem aj.Lim.akA{n:aj}(h:n.Lim):(n.kind=3→n.img.l.length≤1000000)∧(n.kind=2→(∀p∈n.fill,p.img.l.length≤1000000)∧∀p∈n.stroke,p.img.l.length≤1000000):=
 ⟨fun hk=>by have:=(h.img hk).2; omega,fun hk=>⟨fun p hp=>by have:=(tV ((h.shape hk).2.2.2.1 p hp)).2.2.2.1; omega,fun p hp=>by have:=(tV ((h.shape hk).2.2.2.2.1 p hp)).2.2.2.1; omega⟩⟩
theorem qK{s:aJ}(h:s.key.valid=true):s.ns.length≤64∧∀n∈s.ns,n.Lim:=by
 obtain⟨-,h1,h2⟩:=bD.nD.1 h;refine⟨by simpa[aJ.key]using h1,fun n hn=>tX ?_⟩;rw[←kZ];exact(VN.1 h2).1 _ (az9.2 ⟨n,hn,rfl⟩)
theorem Dt{s:aJ}(h:s.key.valid=true):(dU s.key).length≤50000000:=by
 obtain⟨h1,h2⟩:=qK h;have a1:=uV (f:=eG false) (l:=s.key.ns) (M:=700000) (N:=64) (fun x hx=>by obtain⟨n,hn,rfl⟩:=az9.1 hx; exact SA (h2 n hn)) (by simpa[aJ.key]using h1);have a2:=iG [s.key.w,s.key.h];simp only[dU,azL,aAn,aAS,Px.pb]at a2 ⊢;omega
end
end Go.Proofs.YtodpgjjgaddkeaaGreatDoor
section
namespace Go.Sx
open Go.Proofs Go.Proofs.YtodpgjjgaddkeaaGreatDoor Go.RowKit Go.Rel
section
variable{P:Program}{ops:Array Oper}{Q:Exit→Act→World→Prop}{w0 w:World}{a:Act}{os:List Oper}{n:Nat}{l:List (Nat×Value)}{bl:List (Nat×List Value)}{vs:List eX}{rs:List Row}
abbrev bR (v:Value)(B:List UInt8):Row:=⟨5,1,v,B.length,B.map gu⟩
theorem vP{v:Value}{B:List UInt8}(S:St w0 a w n l bl vs)(R:Rw w0 w bl (bR v B::rs))(d:Nat){y:Value}(Y:List UInt8)(hy:dP w 1 y Y.length (Y.map gu))(hb:(B++Y).length≤100000000000)
  (next:∀a' w' v',Stp (Ob bl (bR v B::rs)) w (Ob bl (bR v' (B++Y)::rs)) w'→Rw w0 w' bl (bR v' (B++Y)::rs)→St w0 a' w' n ((d,v')::l) bl []→wpList Tryz.prog ops Q (os.drop 1) a' w')
  (hx:SB os l=some (53,v,y,some d):=by kernel_rfl) (hd:vG n (some d)=true:=by rfl):wpList Tryz.prog ops Q os a w:=by
 rw[azL]at hb;refine app S R 0 d rfl yX hy (by show B.length+Y.length≤9223372036854775807; omega) (by show(B.length+Y.length)*1≤140737488355328; omega) (fun a' w' v' X R S=>?_) hx hd;have e:(⟨5,1,v',B.length+Y.length,B.map gu++Y.map gu⟩:Row)=bR v' (B++Y):=by simp[bR]
 have X:Stp (Ob bl (bR v B::rs)) w (Ob bl ((⟨5,1,v',B.length+Y.length,B.map gu++Y.map gu⟩:Row)::rs)) w':=X;have R:Rw w0 w' bl ((⟨5,1,v',B.length+Y.length,B.map gu++Y.map gu⟩:Row)::rs):=R;rw[e]at X R;exact next a' w' v' X R S
theorem Lu(S:St w0 a w n l bl vs){f:FuncId}{args:Array Value}{R:Ending→World→Prop}(d:Option Nat)(hc:Calls P f args w R)
  (next:∀e w',R e w'→∃V,e = .returned V∧Ext w0 w'∧∀a',St w0 a' w' n (yB l d V) [] []→wpList P ops Q (os.drop 1) a' w') (hx:callOf P os l=some (f,args,d):=by kernel_rfl) (hd:vG n d=true:=by rfl):wpList P ops Q os a w:=by
 cases os with
 | nil=>cases hx
 | cons o os =>
  unfold callOf at hx;simp only at hx;split at hx
  ·rename_i f' args' hg hav hev;simp only[azK,azP]at hx;obtain⟨rfl,rfl,rfl⟩:=hx;simp only[aAz]at hav;have hrun:(execOp a.eval o).run P w = .ok (.enter f' args') w:=lG (Std.act a) (ig (bY S.s) o) (p:=[]) rfl hav.1 (by simpa using hav.2) hev;unfold wpList;rw[azI (by simp[Region.wanted,hg])];left;unfold Oper.wp;rw[hrun];simp only[Oper.upon];refine hc.mono fun e w' hR=>?_;obtain⟨V,rfl,hE,next⟩:=next e w' hR;exact next _ ⟨uP S.s hd V,hE,fun p hp=>(by cases hp),List.nodup_nil,fun m hm=>by cases hm⟩
  cases hx
end
theorem FI{α:Type}{f:α→List Value}{k:Nat}{w:World}{b:Nat}(L:List α)(hf:∀x,(f x).length=k)(hx:Bx w b (L.flatMap f).toArray)(hl:L.length≤maxLen):aI k f w (.slice (some ⟨b,0,none⟩) L.length L.length) L:=
 ⟨_,_,rfl,hl,.inr ⟨b,0,rfl,hx.1,azJ _,fun i hi j hj=>by
  have:=hx.2.1 (0+i*k+j)
  rw[aAD]at this ⊢
  rw[this,←rH hf L i hi j hj]; simp⟩⟩
end Go.Sx
namespace Go.Proofs.YtodpgjjgaddkeaaGreatDoor
open Go.RowKit
theorem uX{base:Nat}{L:List Int}{v:Value}{w:World}(h:Sx.iP base (L.map fun x => .i x) (some L.length) v w)(hl:L.length≤maxLen):aec w v L:=by
 obtain⟨b,rfl,-,hx⟩:=h;exact Sx.kW (f:=fun x:Int => .i x) L hx hl
def qU:List Int→Prop
 | []=>True
 | x::L=>I64 x∧qU L
theorem qU.all:∀{L:List Int},qU L→∀x∈L,I64 x
 | _::_,h,x,hx=>by
  rcases azS.1 hx with rfl | hx
  ·exact h.1
  ·exact qU.all h.2 x hx
theorem kE{w0 w:World}{base:Nat}{v:Value}{B:List UInt8}{bl:List (Nat×List Value)}(R:Sx.Rw w0 w bl [])(h:OwnB base w v B)(hb:∀p∈bl,p.1<base)(h0:w0.heap.size≤base):Sx.Rw w0 w bl [Sx.bR v B]:=
 R.add h (fun b hb'=>by
  simp only[Sx.Ob,List.filterMap_nil,aAL]at hb'
  obtain⟨p,hp,rfl⟩:=az9.1 hb'
  exact hb p hp) h0
end Go.Proofs.YtodpgjjgaddkeaaGreatDoor
end
theorem azz:type_of% @Go.Sx.vP:=@Go.Sx.vP
