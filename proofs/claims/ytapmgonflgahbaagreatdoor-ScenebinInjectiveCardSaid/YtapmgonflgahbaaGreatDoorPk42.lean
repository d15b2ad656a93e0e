/- Walks: bytes.TrimRight at a zero byte, slices.Grow of -/
import Derived.Lib.AppendZeros
import Derived.Test.YtapmgonflgahbaaGreatDoorPk36
section
set_option maxHeartbeats 1600000
set_option maxRecDepth 100000
namespace Go.Proofs.YtapmgonflgahbaaGreatDoor
open Go.RowKit En
variable{α:Type}
theorem GK(v:Value)(l:List UInt8)(w:World)(hv:bH w v l) :
    Calls Tryz.prog 299 #[v,.u 0] w fun e w'=>∃v',e = .returned v'∧bH w v' (Nb.ak (Nb.val l))∧w=w':=by
 have hv0:=ah1 hv;obtain⟨a,cap,rfl,hm,ha⟩:=hv;have hl:=lI hm ha;have hcap:l.length≤cap:=by
  rcases ha with ⟨rfl,_⟩ | ⟨_,_,_,_,h,_⟩
  ·simp
  exact h
 have HA:=ah1 ha;clear ha;unfold maxLen at hm;go_enter Tryz.func299,Tryz.ntmps299
 go_wp2
 go_loop [0] (fun i=>∃k:Nat,i = .slice a k cap∧k≤l.length∧Hid (Nb.val (l.take k)=Nb.val l)) (fun i=>match i with | .slice _ k _=>k | _=>0)
 case atStart=>exact⟨l.length,rfl,ah9 _,by show _=_; rw[ai1]⟩
 case round =>
  obtain⟨k,rfl,hk,HV⟩:=hrel;by_cases h0:k=0
  ·subst h0;go_wp2
   go_ret
   have hD:Nb.ak (Nb.val l)=l.take 0:=Nb.jL (by omega) HV.out (.inl rfl);have hr:=zM (cap':=cap) (n:=0) hv0.out (by omega) (by omega) hm (fun h=>by
    rcases HA.out with ⟨_,h'⟩ | ⟨_,_,h',_⟩
    ·exact h' h
    rw[h]at h'; cases h')
   exact⟨_,rfl,by rw[hD]; exact hr,rfl⟩
  obtain⟨j,rfl⟩:∃j,k=j+1:=⟨k-1,by omega⟩;rcases HA.out with ⟨rfl,_⟩ | ⟨b,o,rfl,hb,hlc,hc⟩
  ·simp at hk
  have hck:=hc j (by omega);have hlt:j<l.length:=by omega
  clear hc;by_cases hz:l[j]=0
  ·have HE:Hid (Nb.val (l.take j)=Nb.val l):=by show _=_; rw[←HV.out,Nb.bK l j hlt,hz]; simp
   have hzb:((l[j].toNat:Int)==0)=true:=by rw[hz]; rfl
   have HZ:=ah1 hz;clear hz;go_wp2
   go_round
   case rel=>exact⟨j,rfl,by omega,HE⟩
   case measure=>simp
  have hzb:((l[j].toNat:Int)==0)=false:=by
   rw[aiw]; intro e; exact hz (UInt8.toNat_inj.1 (by simp; omega))
  have HZ:=ah1 hz;clear hz;go_wp2
  go_ret
  have hD:Nb.ak (Nb.val l)=l.take (j+1):=Nb.jL (by omega) HV.out (.inr ⟨by omega,HZ.out⟩);have hr:=zM (cap':=cap) (n:=j+1) hv0.out (by omega) (by omega) hm (fun h=>by cases h);exact⟨_,rfl,by rw[hD]; exact hr,rfl⟩
theorem WL(v:Value)(l:List UInt8)(w:World)(hv:bH w v l) :
    Calls Tryz.prog 258 #[v,.string ⟨#[0]⟩] w fun e w'=>∃v',e = .returned v'∧bH w v' (Nb.ak (Nb.val l))∧w=w':=by
 have HV:=ah1 hv;obtain⟨a,cap,rfl⟩:=hv.shape;have HT:=ah1 (GK _ _ _ hv);have hl:=hv.len;unfold maxLen at hl;clear hv;by_cases h0:l.length=0
 ·have e:l=[]:=ajj h0;subst e;have HT2:=HV;go_enter Tryz.func258,Tryz.ntmps258
  go_wp2_with fail
  go_ret
  exact⟨_,rfl,HV.out,rfl⟩
 have h0':((l.length:Int)==0)=false:=by rw[aiw]; omega
 go_enter Tryz.func258,Tryz.ntmps258
 go_wp2_with fail
 refine HT.out.mono ?_;rintro e w' ⟨v',rfl,hr,rfl⟩;have HR:=ah1 hr;clear hr HT;go_wp2_with fail
 go_ret
 exact⟨_,rfl,HR.out,rfl⟩
theorem WM(n:Nat)(w:World)(hn:n≤100000000000) :
    Calls Tryz.prog 257 #[.sn,.i n] w fun e w'=>∃v',e = .returned v'∧w'.ownsRow w.heap.size 5 1 v' 0 ([].map dQ)∧Ext w w':=by
 rcases aiL n with rfl | h0
 ·go_enter Tryz.func257,Tryz.ntmps257
  go_wp2_with fail
  go_ret
  exact⟨_,rfl,akc _ _ _ _,ais _ _⟩
 obtain⟨i,hi,hz,hsz,hby⟩:=pY.info;have happ:=Lib.run_append_nil_zeros (P:=Tryz.prog) w 49 3 49 5 i (.u 0) .i64 .i64 Tryz.underlying49 Tryz.underlying3 hi hz n h0 (by omega) (by omega) (by rw[hby]; omega);have hge:=grownCap_ge w n 0 5;have hle:=grownCap_le_maxLen w n 0 5 (by unfold maxLen; omega);have hzc:∀k,(Builtin.zeroCells (Value.u 0).cells k).size=k:=fun k=>by
  have hc1:(Value.u 0).cells.size=1:=rfl;simp[Builtin.zeroCells,hc1]
 have hown:=World.ownsRow_made (base:=w.heap.size) (e:=5) (size:=1) w.drew (Builtin.zeroCells (Value.u 0).cells n++Builtin.zeroCells (Value.u 0).cells (grownCap w n 0 5-n)) (grownCap w n 0 5) (ah9 _) hle (by rw[Array.size_append,hzc,hzc]; omega);have HO:=ah1 hown;clear hown;go_enter Tryz.func257,Tryz.ntmps257
 go_wp2_with (at_builtin; refine Lib.wpList_append_run _ rfl _ _ _ _ rfl _ _ rfl rfl _ _ happ ?_)
 go_ret
 exact⟨_,rfl,HO.out,(below_drewN (ais _ _) 1).alloc (ah9 _) _⟩
def cat(ls:List (List UInt8))(k:Nat):List UInt8:=(ls.take k).flatten
theorem xG(ls:List (List UInt8))(k:Nat)(hk:k<ls.length):cat ls (k+1)=cat ls k++ls[k]:=by
 unfold cat; rw[take_snoc ls k hk,List.flatten_append]; simp
theorem Zg(ls:List (List UInt8)):cat ls ls.length=ls.flatten:=by unfold cat; rw[ai1]
theorem wC(ls:List (List UInt8))(k:Nat):(cat ls k).length≤ls.flatten.length:=by
 unfold cat;conv=>rhs; rw[←ajZ k ls,List.flatten_append,aif]
 omega
theorem MW(v:Value)(ls:List (List UInt8))(w:World)(hv:uf w v ls)(hlen:ls.flatten.length≤1000000000) :
    Calls Tryz.prog 201 #[v] w fun e w'=>∃v',e = .returned v'∧w'.ownsRow w.heap.size 5 1 v' ls.flatten.length (ls.flatten.map dQ)∧Ext w w':=by
 obtain⟨a,cap,rfl,hm,ha⟩:=hv;have hl:=TB hm ha;have HA:=ah1 ha;clear ha;go_enter Tryz.func201,Tryz.ntmps201
 go_wp2_with fail
 go_loop [3,11] (fun s i=>∃k:Nat,i = .i k∧k≤ls.length∧s = .i ((cat ls k).length:Nat)) (fun _ i=>ls.length-(intOf i).toNat)
 case atStart=>exact⟨0,rfl,aij _,rfl⟩
 case round =>
  obtain⟨k,rfl,hk,rfl⟩:=hrel;have hle:=wC ls k;by_cases hlt:k<ls.length
  ·rcases HA.out with ⟨rfl,_⟩ | ⟨b,o,rfl,hb,hlc,hc⟩
   ·simp at hlt
   obtain⟨x,hx,hxr⟩:=hc k hlt;obtain⟨ax,cx,rfl⟩:=hxr.shape;have hf:((cat ls (k+1)).length:Int)=((cat ls k).length:Int)+((ls[k]).length:Int):=by rw[xG ls k hlt]; simp
   have hle2:=wC ls (k+1);have hs:((cat ls k).length:Int)+((ls[k]).length:Int)≤1000000000:=by omega
   have HF:=ah1 hf;clear hc hxr hf;go_wp2_with fail
   go_round
   case rel =>
    exact⟨k+1,by go_num,by omega,zL HF.out.symm⟩
   case measure=>simp[intOf]; omega
  obtain rfl:k=ls.length:=by omega
  have hG:=WM (cat ls ls.length).length w (by omega);have HG:=ah1 hG;clear hG hle;go_wp2_with fail
  refine HG.out.mono ?_;rintro e w1 ⟨g,rfl,ho,hb⟩;have HO:=ah1 ho;have HB:=ah1 hb;clear ho hb HG;go_wp2_with fail
  go_loopw [6,27] (fun g i wr=>∃k:Nat,i = .i k∧k≤ls.length∧wr.ownsRow w.heap.size 5 1 g (cat ls k).length ((cat ls k).map dQ)∧Ext w wr) (fun _ i _=>ls.length-(intOf i).toNat)
  case atStart=>exact⟨0,rfl,aij _,HO.out,HB.out⟩
  case round =>
   obtain⟨k,rfl,hk,hown,hbel⟩:=hrel;by_cases hlt2:k<ls.length
   ·rcases HA.out with ⟨h,_⟩ | ⟨b,o,rfl,hb,hlc,hc⟩
    ·rw[h]at hlt2; simp at hlt2
    obtain⟨x,hx,hxr⟩:=hc k hlt2;have ad1:=hxr.below hbel;have hx':wr.cell? ⟨b,o+k,none⟩=some x:=by rw[hbel.cell (p:=⟨b,o+k,none⟩) hb]; exact hx
    have hraw:=ad1.raw (fun _=>rfl);have hf:=xG ls k hlt2;have hle2:=wC ls (k+1);have h63:(cat ls k).length+(ls[k]).length≤maxLen:=by
     rw[hf,aif]at hle2; unfold maxLen; omega
    have hby:((cat ls k).length+(ls[k]).length)*1≤140737488355328:=by
     rw[hf,aif]at hle2; omega
    have hsz:=hbel.size;have HF:=ah1 hf;clear hc hxr hx hf ad1 hle2;go_wp2_with (at_builtin; refine aX rfl _ _ _ rfl pY w.heap.size hown rfl hraw rfl h63 hby hsz ?_; intro v' w' hown2 hg)
    go_roundw
    case rel =>
     refine⟨k+1,by go_num,by omega,?_,hbel.grown hg hsz (fun k hk=>(World.ownsRow.lt hown k hk).1)⟩;rw[HF.out,aif,aiZ]; exact hown2
    case measure=>simp[intOf]; omega
   obtain rfl:k=ls.length:=by omega
   rw[Zg]at hown;go_wp2_with fail
   go_ret
   exact⟨_,rfl,hown,hbel⟩
end Go.Proofs.YtapmgonflgahbaaGreatDoor
namespace Go.Proofs.YtapmgonflgahbaaGreatDoor
open Go.RowKit En
variable{α:Type}
attribute [local go_sem] Go.Rel.Does Go.Rel.Upon Go.Rel.kept Go.Rel.valOf
theorem qP(v:Value)(l:List UInt8)(w:World)(hv:bH w v l)(hlen:l.length≤1000000000) :
    Calls Tryz.prog 145 #[v] w fun e w'=>∃v',e = .returned v'∧w'.ownsRow w.heap.size 5 1 v' (oL l).length ((oL l).map dQ)∧Ext w w':=by
 have HP:=ah1 (eH l.length w (by omega));have HV:=ah1 hv;obtain⟨a,cap,rfl⟩:=hv.shape;clear hv;go_enter Tryz.func145,Tryz.ntmps145
 go_wp2_with fail
 refine HP.out.mono ?_;rintro e w1 ⟨v',rfl,ho,hb⟩;have hraw:=(HV.out.below hb).raw (fun _=>rfl);have IX:=jk 10 l.length;have h63:(fE 10 l.length).length+l.length≤maxLen:=by unfold maxLen; omega
 have hby:((fE 10 l.length).length+l.length)*1≤140737488355328:=by omega
 have hsz:=hb.size;clear HP;go_wp2_with (at_builtin; refine aX rfl _ _ _ rfl pY w.heap.size ho rfl hraw rfl h63 hby hsz ?_; intro v2 w2 hown2 hg)
 go_ret
 refine⟨_,rfl,?_,hb.grown hg hsz (fun k hk=>(World.ownsRow.lt ho k hk).1)⟩;unfold oL;rw[aif,aiZ];exact hown2
theorem Zh(d:UInt32):(Nb.le4 d).map dQ=[.u ((d.toNat:Int)%256),.u ((d.toNat:Int)/256%256),.u ((d.toNat:Int)/65536%256),.u ((d.toNat:Int)/16777216%256)]:=by
 simp[Nb.le4,dQ,UInt32.toNat_shiftRight,Nat.shiftRight_eq_div_pow]
theorem GL(n:Nat):(Nb.ak n).length≤4*(Na.ak n).length:=by
 apply Nb.bf;have h:=Na.dI (Na.ak n);rw[Na.aF]at h;have e:Nb.B^(4*(Na.ak n).length)=Na.B^(Na.ak n).length:=by
  rw[Nat.pow_mul]; rfl
 rw[e]; exact h
theorem EL(neg:Bool)(s:Value)(l:List UInt32)(w:World)(hs:aC w s l)(hlen:l.length≤100000000) :
    Calls Tryz.prog 202 #[.agg #[.bool neg,s]] w fun e w'=>∃v',e = .returned v'∧bH w' v' (Nb.ak (Na.val l))∧Ext w w':=by
 have hb0:=aI w (.cells #[.bool neg,s] 29);have HS:=ah1 (hs.below hb0);obtain⟨a,cap,rfl⟩:=hs.shape;have HB0:=ah1 hb0;clear hs hb0;go_enter Tryz.func202,Tryz.ntmps202
 go_wp2_with fail
 go_loopw [3,9] (fun v i wr=>∃k:Nat,i = .i k∧k≤l.length∧wr.ownsRow (w.heap.size+1) 5 1 v (Nb.bytes (l.take k)).length ((Nb.bytes (l.take k)).map dQ)∧Ext (w.alloc (.cells #[.bool neg,.slice a l.length cap] 29)) wr) (fun _ i _=>l.length-(intOf i).toNat)
 case atStart=>exact⟨0,rfl,aij _,akc _ _ _ _,ais _ _⟩
 case round =>
  obtain⟨k,rfl,hk,hown,hbel⟩:=hrel;have hbl:=Nb.QD (l.take k);have htl:(l.take k).length=k:=by simp; omega
  have hsz0:=hbel.size;simp only[World.size_alloc]at hsz0;by_cases hlt:k<l.length
  ·obtain⟨b,o,c,hsv,hb,hlc,hm,hc⟩:=dF HS.out rfl (by omega);simp only[aiK]at hsv;obtain⟨rfl,-,-⟩:=hsv;have hck:wr.cell? ⟨b,o+k,none⟩=some (aU l[k]):=by rw[hbel.cell (p:=⟨b,o+k,none⟩) hb]; exact hc k hlt
   clear hc;obtain⟨d,hd⟩:∃d,l[k]=d:=⟨_,rfl⟩;rw[hd]at hck;have hraw:=Fa wr #[.u ((d.toNat:Int)%256),.u ((d.toNat:Int)/256%256),.u ((d.toNat:Int)/65536%256),.u ((d.toNat:Int)/16777216%256)] 5 4 1 rfl (by unfold maxLen; omega) (by
    intro u hu;simp only[aip,ajG,or_false]at hu;rcases hu with rfl | rfl | rfl | rfl<;>rfl)
   have hown':=hown.alloc (.cells #[.u ((d.toNat:Int)%256),.u ((d.toNat:Int)/256%256),.u ((d.toNat:Int)/65536%256),.u ((d.toNat:Int)/16777216%256)] 5);have hsz1:w.heap.size+1≤(wr.alloc (.cells #[.u ((d.toNat:Int)%256),.u ((d.toNat:Int)/256%256),.u ((d.toNat:Int)/65536%256),.u ((d.toNat:Int)/16777216%256)] 5)).heap.size:=by simp; omega
   have h63:(Nb.bytes (l.take k)).length+4≤maxLen:=by unfold maxLen; omega
   have hby:((Nb.bytes (l.take k)).length+4)*1≤140737488355328:=by omega
   have HT:Hid (Nb.bytes (l.take (k+1))=Nb.bytes (l.take k)++Nb.le4 d):=by show _=_; rw[take_snoc l k hlt,hd,Nb.LM]
   have HO:=ah1 hown;clear hd hown hbl htl;go_wp2_with (at_builtin; refine aX rfl _ _ _ rfl pY (w.heap.size+1) hown' rfl hraw rfl h63 hby hsz1 ?_; intro v' w' hown2 hg)
   go_roundw
   case rel =>
    refine⟨k+1,by go_num,by omega,?_,?_⟩
    ·rw[HT.out,aif,aiZ,Zh]; exact hown2
    exact(hbel.alloc (by simpa using hsz0) _).grown hg (by simpa using hsz1) (fun k hk=>by have:=(World.ownsRow.lt hown' k hk).1; simpa using this)
   case measure=>simp[intOf]; omega
  obtain rfl:k=l.length:=by omega
  have hown3:=aS hown;have ht:=WL _ _ wr hown3;rw[ai1,Nb.QE]at ht;have HT:=ah1 ht;clear ht hown hown3 hbl htl;go_wp2_with fail
  refine HT.out.mono ?_;rintro e w' ⟨v',rfl,hr,rfl⟩;have HR:=ah1 hr;clear hr;go_wp2_with fail
  go_ret
  exact⟨_,rfl,HR.out,Ext.trans' HB0.out hbel⟩
end Go.Proofs.YtapmgonflgahbaaGreatDoor
namespace Go.Proofs.YtapmgonflgahbaaGreatDoor
open Go.RowKit En
variable{α:Type}
attribute [local go_sem] Go.Rel.Does Go.Rel.Upon Go.Rel.kept Go.Rel.valOf
def ql(r:Bool×Nat×Nat):List UInt8:=(if r.1 then 1 else 0)::(oL (Nb.ak r.2.1)++oL (Nb.ak r.2.2))
theorem RX{R:World→Value→α→Prop}(w:World)(x y z:Value)(a b c:α)(e:TypeId)(h1:R (w.alloc (.cells #[x,y,z] e)) x a)(h2:R (w.alloc (.cells #[x,y,z] e)) y b)(h3:R (w.alloc (.cells #[x,y,z] e)) z c) :
    Ai R (w.alloc (.cells #[x,y,z] e)) (.slice (some ⟨w.heap.size,0,none⟩) 3 3) [a,b,c]:=by
 refine⟨_,_,rfl,by unfold maxLen; omega,.inr ⟨_,_,rfl,by simp,ah9 _,fun i hi=>?_⟩⟩;rw[ai0,World.cell?_alloc_at _ _ _ _ rfl];rcases i with _ | _ | _ | i
 ·exact⟨x,rfl,h1⟩
 ·exact⟨y,rfl,h2⟩
 ·exact⟨z,rfl,h3⟩
 exact absurd hi (by simp)
theorem MX{w w':World}{v:Value}{ls:List (List UInt8)}(h:uf w v ls)(hb:Ext w w'):uf w' v ls:=Ai.below (fun _ _ _ _ hb h=>h.below hb) h hb
theorem aB.parts{base:Nat}{w:World}{s t:Value}{n m neg:Bool}{a b:Nat}(h:aB base w (.agg #[.bool n,s,.bool m,t]) neg a b) :
    aC w s (Na.ak a)∧aC w t (Na.ak b)∧From base s∧From base t:=by
 obtain⟨s',t',e,hs,ht,fs,ft⟩:=h;simp only[ajE,ajF,aix,and_true]at e;obtain⟨-,rfl,-,rfl⟩:=e;exact⟨hs,ht,fs,ft⟩
theorem zG(n1 n2:Bool)(s1 s2:Value)(l m:List UInt32)(w:World)(h1:aC w s1 l)(h2:aC w s2 m)(hl1:l.length≤50000000)(hl2:m.length≤50000000) :
    Calls Tryz.prog 139 #[.agg #[.bool n1,s1,.bool n2,s2]] w fun e w'=>∃v,e = .returned v∧w'.ownsRow w.heap.size 5 1 v (ql (nrm n1 n2 (Na.val l) (Na.val m))).length ((ql (nrm n1 n2 (Na.val l) (Na.val m))).map dQ)∧Ext w w':=by
 have hln:=NQ n1 n2 l m;have hb0:=aI w (.cells #[.bool n1,s1,.bool n2,s2] 31);have HC:=ah1 (qA n1 n2 s1 s2 l m _ (h1.below hb0) (h2.below hb0) (by omega) (by omega));have HB0:=ah1 hb0;obtain⟨a1,c1,rfl⟩:=h1.shape;obtain⟨a2,c2,rfl⟩:=h2.shape;generalize nrm n1 n2 (Na.val l) (Na.val m)=r at *;obtain⟨ng,a,b⟩:=r;simp only at hln;clear h1 h2 hb0;go_enter Tryz.func139,Tryz.ntmps139
 go_wp2_with fail
 refine HC.out.mono ?_;rintro e w1 ⟨x,rfl,hx,hb1⟩;obtain⟨b1,d1,b2,d2,rfl⟩:=hx.shape;obtain⟨r0,f0,hz⟩:=jB hb1;have F:=ah1 hx;have HB1:=ah1 (Ext.trans' HB0.out hb1);clear hx hb1 HC;obtain⟨sg,hsg⟩:∃sg:UInt8,sg=if ng then 1 else 0:=⟨_,rfl⟩
 obtain⟨nb,hnb⟩:∃nb:Bool,nb=ng:=⟨_,rfl⟩;obtain⟨q,hq⟩:∃q,q=ql (nb,a,b):=⟨_,rfl⟩;have HQ:Hid ([[sg],oL (Nb.ak a),oL (Nb.ak b)].flatten=q):=by
  show _=_;rw[hq,hsg,hnb]; simp[ql]
 have hql:([[sg],oL (Nb.ak a),oL (Nb.ak b)].flatten).length≤1000000000:=by
  have:=GL a;have:=GL b;have:=jk 10 (Nb.ak a).length;have:=jk 10 (Nb.ak b).length;simp[oL]; omega
 have HQL:=ah1 hql;have DX:=ah1 hq;have HSG:=ah1 hsg;have HNB:=ah1 hnb;clear hq hql;clear hsg hnb;have hqa:=GL a;have hqb:=GL b;have HP:=ah1 (F.out.parts);clear F;rcases akv ng with rfl | rfl;all_goals
  go_wp2_with fail
  generalize hW:World.setCell _ _ _=W
  have hWb:Ext w W:=by rw[←hW]; exact oh HB1.out (ah9 _) _ _ _ _
  have hk:∀w',Ext W w'→w'.cell? ⟨w.heap.size,0,none⟩=some (.bool nb)∧w'.cell? ⟨w.heap.size,1,none⟩=some (.slice b1 (Na.ak a).length d1)∧w'.cell? ⟨w.heap.size,2,none⟩=some (.z)∧w'.cell? ⟨w.heap.size,3,none⟩=some (.slice b2 (Na.ak b).length d2):=by
    intro w' hw'
    have hWz:w.heap.size<W.heap.size:=by rw[←hW]; simpa[World.setCell]using hz
    refine⟨?_,?_,?_,?_⟩
    · rw[hw'.cell (p:=⟨w.heap.size,0,none⟩) hWz,←hW,HNB.out]; simp[go_sem,r0]
    · rw[hw'.cell (p:=⟨w.heap.size,1,none⟩) hWz,←hW]; simp[go_sem,r0]
    · rw[hw'.cell (p:=⟨w.heap.size,2,none⟩) hWz,←hW]; simp[go_sem,r0]
    · rw[hw'.cell (p:=⟨w.heap.size,3,none⟩) hWz,←hW]; simp[go_sem,r0]
  have HK:=ah1 hk
  have hA:aC W (.slice b1 (Na.ak a).length d1) (Na.ak a):=by
    rw[←hW]; exact HP.out.1.ch (((((Ch.refl w.heap.size _).setCell _ _).setCell _ _).setCell _ _).setCell _ _) (fun _=>HP.out.2.2.1.off (by simp))
  have hB:aC W (.slice b2 (Na.ak b).length d2) (Na.ak b):=by
    rw[←hW]; exact HP.out.2.1.ch (((((Ch.refl w.heap.size _).setCell _ _).setCell _ _).setCell _ _).setCell _ _) (fun _=>HP.out.2.2.2.off (by simp))
  have HAB:=ah1 (And.intro hA hB)
  have HWB:=ah1 hWb
  clear hk hW hWb hA hB
  refine Go.Rel.wp_region 12 (by kernel_rfl) (by kernel_rfl) Ext (fun w'=>Ext W w')
    [Rel.is (dQ sg),fun v w'=>bH w' v [sg],Rel.is (.q w.heap.size 0),Rel.is (.agg #[.bool nb,.slice b1 (Na.ak a).length d1]),
     fun v w'=>bH w' v (Nb.ak a),fun v w'=>bH w' v (oL (Nb.ak a)),Rel.is (.q w.heap.size 2),Rel.is (.agg #[.z,.slice b2 (Na.ak b).length d2]),
     fun v w'=>bH w' v (Nb.ak b),fun v w'=>bH w' v (oL (Nb.ak b)),fun v w'=>uf w' v [[sg],oL (Nb.ak a),oL (Nb.ak b)],
     fun v w'=>OwnB w.heap.size w' v q]
    ?_ ?_ ?_ ⟨?_,?_,?_,?_,?_,?_,?_,?_,?_,?_,?_,?_,trivial⟩ ?_
  · exact below_drewN (ais _ _) 1
  · exact fun _ _ h k=>Ext.trans' h k
  · exact Rel.zi.mem ⟨Rel.aG _,fun _ _ _ h k=>k.below h,Rel.aG _,Rel.aG _,fun _ _ _ h k=>k.below h,fun _ _ _ h k=>k.below h,Rel.aG _,Rel.aG _,fun _ _ _ h k=>k.below h,fun _ _ _ h k=>k.below h,
      fun _ _ _ h k=>MX k h,fun _ _ _ h k=>bM k h,trivial⟩
  · intro ρ w' hs ho hC hd
    have h2:ρ (.tmp 3)=dQ sg:=(ho 3 rfl).trans (by rw[HSG.out]; rfl)
    simp[go_sem,h2]
    exact⟨Ext.rfl',rfl⟩
  · intro ρ w' hs ho hC hd
    obtain⟨hd1,-⟩:=hd
    have h1:ρ (.tmp 9)=_:=hd1 rfl
    simp[go_sem,h1]
    exact⟨aI _ _,Fb _ [sg] _ (by unfold maxLen; simp)⟩
  · intro ρ w' hs ho hC hd
    have h2:ρ (.tmp 1) = .q w.heap.size 0:=ho 1 rfl
    simp[go_sem,h2]
    exact⟨Ext.rfl',rfl⟩
  · intro ρ w' hs ho hC hd
    obtain⟨hd1,-⟩:=hd
    have h1:ρ (.tmp 11)=_:=hd1 rfl
    obtain⟨k1,k2,-⟩:=HK.out w' hC
    simp[go_sem,h1,k1,k2]
    exact⟨Ext.rfl',rfl⟩
  · intro ρ w' hs ho hC hd
    obtain⟨hd1,-⟩:=hd
    have h1:ρ (.tmp 12)=_:=hd1 rfl
    simp[go_sem,h1,hs.func]
    have hc:=EL nb _ _ w' (HAB.out.1.below hC) (by omega)
    rw[Na.aF]at hc
    refine hc.mono ?_
    rintro e w'' ⟨v,rfl,hr,hb⟩
    exact⟨_,rfl,hb,hr⟩
  · intro ρ w' hs ho hC hd
    obtain⟨hd1,-⟩:=hd
    have h1:bH w' (ρ (.tmp 13)) _:=hd1 rfl
    simp[go_sem,hs.func]
    refine(qP _ _ w' h1 (by omega)).mono ?_
    rintro e w'' ⟨v,rfl,hr,hb⟩
    exact⟨_,rfl,hb,aS hr⟩
  · intro ρ w' hs ho hC hd
    have h2:ρ (.tmp 1) = .q w.heap.size 0:=ho 1 rfl
    simp[go_sem,h2]
    exact⟨Ext.rfl',rfl⟩
  · intro ρ w' hs ho hC hd
    obtain⟨hd1,-⟩:=hd
    have h1:ρ (.tmp 15)=_:=hd1 rfl
    obtain⟨-,-,k1,k2⟩:=HK.out w' hC
    simp[go_sem,h1,k1,k2]
    exact⟨Ext.rfl',rfl⟩
  · intro ρ w' hs ho hC hd
    obtain⟨hd1,-⟩:=hd
    have h1:ρ (.tmp 16)=_:=hd1 rfl
    simp[go_sem,h1,hs.func]
    have hc:=EL false _ _ w' (HAB.out.2.below hC) (by omega)
    rw[Na.aF]at hc
    refine hc.mono ?_
    rintro e w'' ⟨v,rfl,hr,hb⟩
    exact⟨_,rfl,hb,hr⟩
  · intro ρ w' hs ho hC hd
    obtain⟨hd1,-⟩:=hd
    have h1:bH w' (ρ (.tmp 17)) _:=hd1 rfl
    simp[go_sem,hs.func]
    refine(qP _ _ w' h1 (by omega)).mono ?_
    rintro e w'' ⟨v,rfl,hr,hb⟩
    exact⟨_,rfl,hb,aS hr⟩
  · intro ρ w' hs ho hC hd
    obtain⟨hd1,hd2,hd3,-⟩:=hd
    have h1:bH w' (ρ (.tmp 10)) _:=hd1 rfl
    have h2:bH w' (ρ (.tmp 14)) _:=hd2 rfl
    have h3:bH w' (ρ (.tmp 18)) _:=hd3 rfl
    obtain⟨x1,y1,e1⟩:=h1.shape
    obtain⟨x2,y2,e2⟩:=h2.shape
    obtain⟨x3,y3,e3⟩:=h3.shape
    rw[e1]at h1
    rw[e2]at h2
    rw[e3]at h3
    simp[go_sem,e1,e2,e3]
    exact⟨aI _ _,RX w' _ _ _ _ _ _ _ (h1.below (aI _ _)) (h2.below (aI _ _)) (h3.below (aI _ _))⟩
  · intro ρ w' hs ho hC hd
    obtain⟨hd1,-⟩:=hd
    have h1:uf w' (ρ (.tmp 19)) _:=hd1 rfl
    simp[go_sem,hs.func]
    refine(MW _ _ w' h1 HQL.out).mono ?_
    rintro e w'' ⟨v,rfl,hr,hb⟩
    refine⟨_,rfl,hb,?_⟩
    rw[HQ.out]at hr
    exact aQ hr (by have:=(Ext.trans' HWB.out hC).size; exact this)
  · intro w' hC
    rintro _ rfl v1 h1 _ rfl _ rfl v4 h4 v5 h5 _ rfl _ rfl v8 h8 v9 h9 v10 h10 v11 h11
    change wpList _ _ _ (List.drop 12 _) _ _
    simp only[List.drop_succ_cons,ai9]
    have h12:Hid (w'.ownsRow w.heap.size 5 1 v11 (ql (nb,a,b)).length ((ql (nb,a,b)).map dQ)):=by
      have:=DX.out
      rw[←this]; exact h11
    rw[HNB.out]at h12
    have HX:=ah1 (Ext.trans' HWB.out hC)
    clear h1 h4 h5 h8 h9 h10 h11
    go_wp2_with fail
    go_ret
    exact⟨v11,rfl,h12.out,HX.out⟩
end Go.Proofs.YtapmgonflgahbaaGreatDoor
end
section
namespace Go.Proofs.YtapmgonflgahbaaGreatDoor
open En
set_option linter.unusedVariables false
variable{α:Type}
abbrev iB (x:Int):List UInt8:=fE 10 (zig x)
def iG(f:α→List UInt8)(l:List α):List UInt8:=fE 10 l.length++l.flatMap f
def lT(s:eG):List UInt8:=dH [s.verb,s.a.x,s.a.y,s.b.x,s.b.y,s.c.x,s.c.y]
def kL(s:eY):List UInt8:=dH [s.o]++Px.pb s.c
def zF(pk:Bool)(m:yh):List UInt8:=dH [m.w,m.h]++(if pk=true then oL (Px.enc m.l)else m.l.flatMap Px.pb)
def yg(q:Q6):List UInt8:=[q.a,q.b,q.c,q.d,q.e,q.f].flatMap ql
def gq(pk:Bool)(p:qK):List UInt8:=dH [p.kind]++Px.pb p.color++dH [p.p0.x,p.p0.y,p.p1.x,p.p1.y,p.bF]++iG kL p.stops++dH [p.spread]++zF pk p.img++dH [p.bQ]++yg p.q
def FB(p:mJ):List UInt8:=dH [p.width,p.join,p.cap,p.dZ,p.phase]++iG iB p.dash
def oM(b:Bool):UInt8:=if b=true then 1 else 0
def oV(pk:Bool)(n:dV):List UInt8:=
 if n.kind=1 then [n.dJ]++dH [n.blend]++[oM n.isolated,oM n.bY]
 else if n.kind=2 then iG lT n.path++dH [n.aV]++iG (gq pk) n.fill++iG (gq pk) n.stroke++(if 0<n.stroke.length then FB n.style else [])
 else if n.kind=3 then zF pk n.img++dH [n.bQ]else []
def fH(pk:Bool)(n:dV):List UInt8:=dH [n.id,n.kind,n.depth]++yg n.q++iG lT n.clip++dH [n.aO]++oV pk n
def jD(s:iO):List UInt8:=[71,83,49]++dH [s.w,s.h]++Px.pb s.bg++iG (fH false) s.ns
theorem jv{f:α→List UInt8}{l:List α}{k:Nat}{x:α}(hk:k<l.length)(hx:l[k]=x)(B:List UInt8):B++(l.take k).flatMap f++f x=B++(l.take (k+1)).flatMap f:=by
 rw[ajc hk,hx,List.flatMap_append]; simp
theorem AO{f:α→List UInt8}{l:List α}{B:List UInt8}{N:Nat}(h:(B++l.flatMap f).length≤N)(k:Nat):(B++(l.take k).flatMap f).length≤N:=by
 rw[aif]at h ⊢;have:((l.take k).flatMap f).length≤(l.flatMap f).length:=by
  conv=>rhs; rw[←ajZ k l,List.flatMap_append,aif]
  omega
 omega
theorem ach{f:α→List UInt8}{l:List α}{N:Nat}(h:(l.flatMap f).length≤N):∀x∈l,(f x).length≤N:=fun x hx=>by
 obtain⟨s,t,rfl⟩:=List.append_of_mem hx;rw[List.flatMap_append,ajy,aif,aif]at h;omega
theorem N9{f:α→List UInt8}{l:List α}{B:List UInt8}{N:Nat}(h:(B++l.flatMap f).length≤N):∀x∈l,(f x).length≤N:=ach (by rw[aif]at h; omega)
end Go.Proofs.YtapmgonflgahbaaGreatDoor
end
