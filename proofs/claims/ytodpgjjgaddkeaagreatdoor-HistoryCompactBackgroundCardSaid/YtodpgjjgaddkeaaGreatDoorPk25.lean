/- Walks: bytes.TrimRight at a zero byte, slices.Grow of -/
import Derived.Lib.AppendZeros
import Derived.Test.YtodpgjjgaddkeaaGreatDoorPk24
set_option maxHeartbeats 1600000
set_option maxRecDepth 100000
set_option linter.unusedVariables false
set_option linter.unusedSimpArgs false
section
namespace Go.Proofs.YtodpgjjgaddkeaaGreatDoor
open Go.RowKit En Na Nb
variable{α:Type}
theorem OX(v:Value)(l:List UInt8)(w:World)(hv:bK w v l) :
    Calls Tryz.prog 260 #[v,.u 0] w λe w'=>∃v',e = .returned v'∧bK w v' (au (Nb.val l))∧w=w':=by
 have hv0:=azO hv;obtain⟨a,cap,rfl,hm,ha⟩:=hv;have hl:=qY hm ha;have hcap:l.length<=cap:=by
  rcases ha with ⟨rfl,_⟩ | ⟨_,_,_,_,h,_⟩
  .simp
  exact h
 have HA:=azO ha;clear ha;unfold maxLen at hm;go_enter Tryz.func260,Tryz.ntmps260
 go_wp2
 go_loop [0] (λi=>∃k:Nat,i = .slice a k cap∧k<=l.length∧Hid (Nb.val (l.take k)=Nb.val l)) (λi=>match i with | .slice _ k _=>k | _=>0)
 case atStart=>exact⟨l.length,I,azS _,by show _=_; rw[aAJ]⟩
 case round =>
  obtain⟨k,rfl,hk,HV⟩:=hrel;by_cases h0:k=0
  .subst h0;go_wp2
   go_ret
   have hD:au (Nb.val l)=l.take 0:=Nb.lg Z HV.out (.inl I);have hr:=Fq (cap':=cap) (n:=0) hv0.out Z Z hm (λh=>by
    rcases HA.out with ⟨_,h'⟩ | ⟨_,_,h',_⟩
    .exact h' h
    rw[h]at h'; cases h')
   exact⟨_,I,by rw[hD]; exact hr,I⟩
  obtain⟨j,rfl⟩:∃j,k=j+1:=⟨k-1,Z⟩;rcases HA.out with ⟨rfl,_⟩ | ⟨b,o,rfl,hb,hlc,hc⟩
  .simp at hk
  have hck:=hc j Z;have hlt:j<l.length:=Z
  clear hc;by_cases hz:l[j]=0
  .have HE:Hid (Nb.val (l.take j)=Nb.val l):=by show _=_; rw[<-HV.out,Nb.cZ l j hlt,hz]; simp
   have hzb:((l[j].toNat:Int)==0)=true:=by rw[hz]; rfl
   have HZ:=azO hz;clear hz;go_wp2
   go_round
   case rel=>exact⟨j,I,Z,HE⟩
   case measure=>simp
  have hzb:((l[j].toNat:Int)==0)=false:=by
   rw[aAh]; intro e; exact hz (aB0.1 (by simp; omega))
  have HZ:=azO hz;clear hz;go_wp2
  go_ret
  have hD:au (Nb.val l)=l.take (j+1):=Nb.lg Z HV.out (.inr ⟨Z,HZ.out⟩);have hr:=Fq (cap':=cap) (n:=j+1) hv0.out Z Z hm (λh=>by cases h);exact⟨_,I,by rw[hD]; exact hr,I⟩
theorem aem(v:Value)(l:List UInt8)(w:World)(hv:bK w v l) :
    Calls Tryz.prog 226 #[v,.string ⟨#[0]⟩] w λe w'=>∃v',e = .returned v'∧bK w v' (au (Nb.val l))∧w=w':=by
 have HV:=azO hv;obtain⟨a,cap,rfl⟩:=hv.shape;have HT:=azO (OX _ _ _ hv);have hl:=hv.len;unfold maxLen at hl;clear hv;by_cases h0:l.length=0
 .have e:l=[]:=aBd h0;subst e;have HT2:=HV;go_enter Tryz.func226,Tryz.ntmps226
  go_wp2_with fail
  go_ret
  exact⟨_,I,HV.out,I⟩
 have h0':((l.length:Int)==0)=false:=by rw[aAh]; omega
 go_enter Tryz.func226,Tryz.ntmps226
 go_wp2_with fail
 refine HT.out.mono ?_;rintro e w' ⟨v',rfl,hr,rfl⟩;have HR:=azO hr;clear hr HT;go_wp2_with fail
 go_ret
 exact⟨_,I,HR.out,I⟩
theorem aen(n:Nat)(w:World)(hn:n<=100000000000) :
    Calls Tryz.prog 225 #[.sn,.i n] w λe w'=>∃v',e = .returned v'∧w'.ownsRow w.heap.size 5 1 v' 0 ([].map fZ)∧Ext w w':=by
 rcases aAC n with rfl | h0
 .go_enter Tryz.func225,Tryz.ntmps225
  go_wp2_with fail
  go_ret
  exact⟨_,I,aCi _ _ _ _,aAe _ _⟩
 obtain⟨i,hi,hz,hsz,hby⟩:=zQ.info;have happ:=Lib.run_append_nil_zeros (P:=Tryz.prog) w 53 3 53 5 i (.u 0) .i64 .i64 Tryz.underlying53 Tryz.underlying3 hi hz n h0 Z Z (by rw[hby]; omega);have hge:=grownCap_ge w n 0 5;have hle:=grownCap_le_maxLen w n 0 5 (by unfold maxLen; omega);have hzc:∀k,(Builtin.zeroCells (Value.u 0).cells k).size=k:=λk=>by
  have hc1:(Value.u 0).cells.size=1:=I;simp[Builtin.zeroCells,hc1]
 have hown:=World.ownsRow_made (base:=w.heap.size) (e:=5) (size:=1) w.drew (Builtin.zeroCells (Value.u 0).cells n++Builtin.zeroCells (Value.u 0).cells (grownCap w n 0 5-n)) (grownCap w n 0 5) (azS _) hle (by rw[Array.size_append,hzc,hzc]; omega);have HO:=azO hown;clear hown;go_enter Tryz.func225,Tryz.ntmps225
 go_wp2_with (at_builtin; refine Lib.wpList_append_run _ I _ _ _ _ I _ _ I I _ _ happ ?_)
 go_ret
 exact⟨_,I,HO.out,(below_drewN (aAe _ _) 1).alloc (azS _) _⟩
def cat(ls:List (List UInt8))(k:Nat):List UInt8:=(ls.take k).flatten
theorem CG(ls:List (List UInt8))(k:Nat)(hk:k<ls.length):cat ls (k+1)=cat ls k++ls[k]:=by
 unfold cat; rw[take_snoc ls k hk,List.flatten_append]; simp
theorem agZ(ls:List (List UInt8)):cat ls ls.length=ls.flatten:=by unfold cat; rw[aAJ]
theorem AA(ls:List (List UInt8))(k:Nat):(cat ls k).length<=ls.flatten.length:=by
 unfold cat;conv=>rhs; rw[<-aBQ k ls,List.flatten_append,azU]
 omega
theorem W9(v:Value)(ls:List (List UInt8))(w:World)(hv:xW w v ls)(hlen:ls.flatten.length<=1000000000) :
    Calls Tryz.prog 176 #[v] w λe w'=>∃v',e = .returned v'∧w'.ownsRow w.heap.size 5 1 v' ls.flatten.length (ls.flatten.map fZ)∧Ext w w':=by
 obtain⟨a,cap,rfl,hm,ha⟩:=hv;have hl:=acA hm ha;have HA:=azO ha;clear ha;go_enter Tryz.func176,Tryz.ntmps176
 go_wp2_with fail
 go_loop [3,11] (λs i=>∃k:Nat,i = .i k∧k<=ls.length∧s = .i ((cat ls k).length:Nat)) (λ_ i=>ls.length-(intOf i).toNat)
 case atStart=>exact⟨0,I,azZ _,I⟩
 case round =>
  obtain⟨k,rfl,hk,rfl⟩:=hrel;have hle:=AA ls k;by_cases hlt:k<ls.length
  .rcases HA.out with ⟨rfl,_⟩ | ⟨b,o,rfl,hb,hlc,hc⟩
   .simp at hlt
   obtain⟨x,hx,hxr⟩:=hc k hlt;obtain⟨ax,cx,rfl⟩:=hxr.shape;have hf:((cat ls (k+1)).length:Int)=((cat ls k).length:Int)+((ls[k]).length:Int):=by rw[CG ls k hlt]; simp
   have hle2:=AA ls (k+1);have hs:((cat ls k).length:Int)+((ls[k]).length:Int)<=1000000000:=Z
   have HF:=azO hf;clear hc hxr hf;go_wp2_with fail
   go_round
   case rel =>
    exact⟨k+1,by go_num,Z,FC HF.out.symm⟩
   case measure=>simp[intOf]; omega
  obtain rfl:k=ls.length:=by omega
  have hG:=aen (cat ls ls.length).length w Z;have HG:=azO hG;clear hG hle;go_wp2_with fail
  refine HG.out.mono ?_;rintro e w1 ⟨g,rfl,ho,hb⟩;have HO:=azO ho;have HB:=azO hb;clear ho hb HG;go_wp2_with fail
  go_loopw [6,27] (λg i wr=>∃k:Nat,i = .i k∧k<=ls.length∧wr.ownsRow w.heap.size 5 1 g (cat ls k).length ((cat ls k).map fZ)∧Ext w wr) (λ_ i _=>ls.length-(intOf i).toNat)
  case atStart=>exact⟨0,I,azZ _,HO.out,HB.out⟩
  case round =>
   obtain⟨k,rfl,hk,hown,hbel⟩:=hrel;by_cases hlt2:k<ls.length
   .rcases HA.out with ⟨h,_⟩ | ⟨b,o,rfl,hb,hlc,hc⟩
    .rw[h]at hlt2; simp at hlt2
    obtain⟨x,hx,hxr⟩:=hc k hlt2;have anv:=hxr.below hbel;have hx':wr.cell? ⟨b,o+k,none⟩=some x:=by rw[hbel.cell (p:=⟨b,o+k,none⟩) hb]; exact hx
    have hraw:=anv.raw (λ_=>I);have hf:=CG ls k hlt2;have hle2:=AA ls (k+1);have h63:(cat ls k).length+(ls[k]).length<=maxLen:=by
     rw[hf,azU]at hle2; unfold maxLen; omega
    have hby:((cat ls k).length+(ls[k]).length)*1<=140737488355328:=by
     rw[hf,azU]at hle2; omega
    have hsz:=hbel.size;have HF:=azO hf;clear hc hxr hx hf anv hle2;go_wp2_with (at_builtin; refine bP I _ _ _ I zQ w.heap.size hown I hraw I h63 hby hsz ?_; intro v' w' hown2 hg)
    go_roundw
    case rel =>
     refine⟨k+1,by go_num,Z,?_,hbel.grown hg hsz (λk hk=>(World.ownsRow.lt hown k hk).1)⟩;rw[HF.out,azU,aAL]; exact hown2
    case measure=>simp[intOf]; omega
   obtain rfl:k=ls.length:=by omega
   rw[agZ]at hown;go_wp2_with fail
   go_ret
   exact⟨_,I,hown,hbel⟩
attribute [local go_sem] Go.Rel.Does Go.Rel.Upon Go.Rel.kept Go.Rel.valOf
theorem nS(v:Value)(l:List UInt8)(w:World)(hv:bK w v l)(hlen:l.length<=1000000000) :
    Calls Tryz.prog 29 #[v] w λe w'=>∃v',e = .returned v'∧w'.ownsRow w.heap.size 5 1 v' (fV l).length ((fV l).map fZ)∧Ext w w':=by
 have HP:=azO (fO l.length w Z);have HV:=azO hv;obtain⟨a,cap,rfl⟩:=hv.shape;clear hv;go_enter Tryz.func29,Tryz.ntmps29
 go_wp2_with fail
 refine HP.out.mono ?_;rintro e w1 ⟨v',rfl,ho,hb⟩;have hraw:=(HV.out.below hb).raw (λ_=>I);have QD:=iG 10 l.length;have h63:(dW 10 l.length).length+l.length<=maxLen:=by unfold maxLen; omega
 have hby:((dW 10 l.length).length+l.length)*1<=140737488355328:=Z
 have hsz:=hb.size;clear HP;go_wp2_with (at_builtin; refine bP I _ _ _ I zQ w.heap.size ho I hraw I h63 hby hsz ?_; intro v2 w2 hown2 hg)
 go_ret
 refine⟨_,I,?_,hb.grown hg hsz (λk hk=>(World.ownsRow.lt ho k hk).1)⟩;unfold fV;rw[azU,aAL];exact hown2
theorem ag0(d:UInt32):(Nb.le4 d).map fZ=[.u ((d.toNat:Int)%256),.u ((d.toNat:Int)/256%256),.u ((d.toNat:Int)/65536%256),.u ((d.toNat:Int)/16777216%256)]:=by
 simp[Nb.le4,fZ,UInt32.toNat_shiftRight,Nat.shiftRight_eq_div_pow]
theorem OY(n:Nat):(au n).length<=4*(Ux n).length:=by
 apply Nb.bI;have h:=Na.dS (Ux n);rw[PV]at h;have e:Nb.B^(4*(Ux n).length)=Gg^(Ux n).length:=by
  rw[Nat.pow_mul]; rfl
 rw[e]; exact h
theorem LU(neg:Bool)(s:Value)(l:List UInt32)(w:World)(hs:aC w s l)(hlen:l.length<=100000000) :
    Calls Tryz.prog 177 #[.agg #[.bool neg,s]] w λe w'=>∃v',e = .returned v'∧bK w' v' (au (Zk l))∧Ext w w':=by
 have hb0:=aF w (.cells #[.bool neg,s] 24);have HS:=azO (hs.below hb0);obtain⟨a,cap,rfl⟩:=hs.shape;have HB0:=azO hb0;clear hs hb0;go_enter Tryz.func177,Tryz.ntmps177
 go_wp2_with fail
 go_loopw [3,9] (λv i wr=>∃k:Nat,i = .i k∧k<=l.length∧wr.ownsRow (w.heap.size+1) 5 1 v (Nb.bytes (l.take k)).length ((Nb.bytes (l.take k)).map fZ)∧Ext (w.alloc (.cells #[.bool neg,.slice a l.length cap] 24)) wr) (λ_ i _=>l.length-(intOf i).toNat)
 case atStart=>exact⟨0,I,azZ _,aCi _ _ _ _,aAe _ _⟩
 case round =>
  obtain⟨k,rfl,hk,hown,hbel⟩:=hrel;have hbl:=aai (l.take k);have htl:(l.take k).length=k:=by simp; omega
  have hsz0:=hbel.size;simp only[aCo]at hsz0;by_cases hlt:k<l.length
  .obtain⟨b,o,c,hsv,hb,hlc,hm,hc⟩:=dO HS.out I Z;simp only[aAq]at hsv;obtain⟨rfl,-,-⟩:=hsv;have hck:wr.cell? ⟨b,o+k,none⟩=some (bn l[k]):=by rw[hbel.cell (p:=⟨b,o+k,none⟩) hb]; exact hc k hlt
   clear hc;obtain⟨d,hd⟩:∃d,l[k]=d:=⟨_,I⟩;rw[hd]at hck;have hraw:=NQ wr #[.u ((d.toNat:Int)%256),.u ((d.toNat:Int)/256%256),.u ((d.toNat:Int)/65536%256),.u ((d.toNat:Int)/16777216%256)] 5 4 1 I (by unfold maxLen; omega) (by
    intro u hu;simp only[az2,aBU,or_false]at hu;rcases hu with rfl | rfl | rfl | rfl<;>rfl)
   have hown':=hown.alloc (.cells #[.u ((d.toNat:Int)%256),.u ((d.toNat:Int)/256%256),.u ((d.toNat:Int)/65536%256),.u ((d.toNat:Int)/16777216%256)] 5);have hsz1:w.heap.size+1<=(wr.alloc (.cells #[.u ((d.toNat:Int)%256),.u ((d.toNat:Int)/256%256),.u ((d.toNat:Int)/65536%256),.u ((d.toNat:Int)/16777216%256)] 5)).heap.size:=by simp; omega
   have h63:(Nb.bytes (l.take k)).length+4<=maxLen:=by unfold maxLen; omega
   have hby:((Nb.bytes (l.take k)).length+4)*1<=140737488355328:=Z
   have HT:Hid (Nb.bytes (l.take (k+1))=Nb.bytes (l.take k)++Nb.le4 d):=by show _=_; rw[take_snoc l k hlt,hd,Vs]
   have HO:=azO hown;clear hd hown hbl htl;go_wp2_with (at_builtin; refine bP I _ _ _ I zQ (w.heap.size+1) hown' I hraw I h63 hby hsz1 ?_; intro v' w' hown2 hg)
   go_roundw
   case rel =>
    refine⟨k+1,by go_num,Z,?_,?_⟩
    .rw[HT.out,azU,aAL,ag0]; exact hown2
    exact(hbel.alloc (by simpa using hsz0) _).grown hg (by simpa using hsz1) (λk hk=>by have:=(World.ownsRow.lt hown' k hk).1; simpa using this)
   case measure=>simp[intOf]; omega
  obtain rfl:k=l.length:=by omega
  have hown3:=aZ hown;have ht:=aem _ _ wr hown3;rw[aAJ,aaj]at ht;have HT:=azO ht;clear ht hown hown3 hbl htl;go_wp2_with fail
  refine HT.out.mono ?_;rintro e w' ⟨v',rfl,hr,rfl⟩;have HR:=azO hr;clear hr;go_wp2_with fail
  go_ret
  exact⟨_,I,HR.out,K00 HB0.out hbel⟩
end Go.Proofs.YtodpgjjgaddkeaaGreatDoor
namespace Go.Proofs.YtodpgjjgaddkeaaGreatDoor
open Go.RowKit En Na Nb
variable{α:Type}
attribute [local go_sem] Go.Rel.Does Go.Rel.Upon Go.Rel.kept Go.Rel.valOf
def gK(r:Bool×Nat×Nat):List UInt8:=(if r.1 then 1 else 0)::(fV (au r.2.1)++fV (au r.2.2))
theorem aa0{R:World->Value->α->Prop}(w:World)(x y z:Value)(a b c:α)(e:TypeId)(h1:R (w.alloc (.cells #[x,y,z] e)) x a)(h2:R (w.alloc (.cells #[x,y,z] e)) y b)(h3:R (w.alloc (.cells #[x,y,z] e)) z c) :
    GU R (w.alloc (.cells #[x,y,z] e)) (.slice (some ⟨w.heap.size,0,none⟩) 3 3) [a,b,c]:=by
 refine⟨_,_,I,by unfold maxLen; omega,.inr ⟨_,_,I,by simp,azS _,λi hi=>?_⟩⟩;rw[aAK,World.cell?_alloc_at _ _ _ _ I];rcases i with _ | _ | _ | i
 .exact⟨x,I,h1⟩
 .exact⟨y,I,h2⟩
 .exact⟨z,I,h3⟩
 exact absurd hi Y
theorem Xa{w w':World}{v:Value}{ls:List (List UInt8)}(h:xW w v ls)(hb:Ext w w'):xW w' v ls:=GU.below (λ_ _ _ _ hb h=>h.below hb) h hb
theorem aA.parts{base:Nat}{w:World}{s t:Value}{n m neg:Bool}{a b:Nat}(h:aA base w (.agg #[.bool n,s,.bool m,t]) neg a b) :
    aC w s (Ux a)∧aC w t (Ux b)∧From base s∧From base t:=by
 obtain⟨s',t',e,hs,ht,fs,ft⟩:=h;simp only[aBC,aBD,aAp,and_true]at e;obtain⟨-,rfl,-,rfl⟩:=e;exact⟨hs,ht,fs,ft⟩
theorem vJ(n1 n2:Bool)(s1 s2:Value)(l m:List UInt32)(w:World)(h1:aC w s1 l)(h2:aC w s2 m)(hl1:l.length<=50000000)(hl2:m.length<=50000000) :
    Calls Tryz.prog 127 #[.agg #[.bool n1,s1,.bool n2,s2]] w λe w'=>∃v,e = .returned v∧w'.ownsRow w.heap.size 5 1 v (gK (nrm n1 n2 (Zk l) (Zk m))).length ((gK (nrm n1 n2 (Zk l) (Zk m))).map fZ)∧Ext w w':=by
 have hln:=Ym n1 n2 l m;have hb0:=aF w (.cells #[.bool n1,s1,.bool n2,s2] 26);have HC:=azO (oq n1 n2 s1 s2 l m _ (h1.below hb0) (h2.below hb0) Z Z);have HB0:=azO hb0;obtain⟨a1,c1,rfl⟩:=h1.shape;obtain⟨a2,c2,rfl⟩:=h2.shape;generalize nrm n1 n2 (Zk l) (Zk m)=r at *;obtain⟨ng,a,b⟩:=r;simp only at hln;clear h1 h2 hb0;go_enter Tryz.func127,Tryz.ntmps127
 go_wp2_with fail
 refine HC.out.mono ?_;rintro e w1 ⟨x,rfl,hx,hb1⟩;obtain⟨b1,d1,b2,d2,rfl⟩:=hx.shape;obtain⟨r0,f0,hz⟩:=iY hb1;have F:=azO hx;have HB1:=azO (K00 HB0.out hb1);clear hx hb1 HC;obtain⟨sg,hsg⟩:∃sg:UInt8,sg=if ng then 1 else 0:=⟨_,I⟩
 obtain⟨nb,hnb⟩:∃nb:Bool,nb=ng:=⟨_,I⟩;obtain⟨q,hq⟩:∃q,q=gK (nb,a,b):=⟨_,I⟩;have HQ:Hid ([[sg],fV (au a),fV (au b)].flatten=q):=by
  show _=_;rw[hq,hsg,hnb]; simp[gK]
 have hql:([[sg],fV (au a),fV (au b)].flatten).length<=1000000000:=by
  have:=OY a;have:=OY b;have:=iG 10 (au a).length;have:=iG 10 (au b).length;simp[fV]; omega
 have HQL:=azO hql;have JY:=azO hq;have HSG:=azO hsg;have HNB:=azO hnb;clear hq hql;clear hsg hnb;have hqa:=OY a;have hqb:=OY b;have HP:=azO (F.out.parts);clear F;rcases aCC ng with rfl | rfl;all_goals
  go_wp2_with fail
  generalize hW:World.setCell _ _ _=W
  have hWb:Ext w W:=by rw[<-hW]; exact qE HB1.out (azS _) _ _ _ _
  have hk:∀w',Ext W w'->w'.cell? ⟨w.heap.size,0,none⟩=some (.bool nb)∧w'.cell? ⟨w.heap.size,1,none⟩=some (.slice b1 (Ux a).length d1)∧w'.cell? ⟨w.heap.size,2,none⟩=some (.z)∧w'.cell? ⟨w.heap.size,3,none⟩=some (.slice b2 (Ux b).length d2):=by
    intro w' hw'
    have hWz:w.heap.size<W.heap.size:=by rw[<-hW]; simpa[World.setCell]using hz
    refine⟨?_,?_,?_,?_⟩
    · rw[hw'.cell (p:=⟨w.heap.size,0,none⟩) hWz,<-hW,HNB.out]; simp[go_sem,r0]
    · rw[hw'.cell (p:=⟨w.heap.size,1,none⟩) hWz,<-hW]; simp[go_sem,r0]
    · rw[hw'.cell (p:=⟨w.heap.size,2,none⟩) hWz,<-hW]; simp[go_sem,r0]
    · rw[hw'.cell (p:=⟨w.heap.size,3,none⟩) hWz,<-hW]; simp[go_sem,r0]
  have HK:=azO hk
  have hA:aC W (.slice b1 (Ux a).length d1) (Ux a):=by
    rw[<-hW]; exact HP.out.1.ch (((((Ch.refl w.heap.size _).setCell _ _).setCell _ _).setCell _ _).setCell _ _) (λ_=>HP.out.2.2.1.off Y)
  have hB:aC W (.slice b2 (Ux b).length d2) (Ux b):=by
    rw[<-hW]; exact HP.out.2.1.ch (((((Ch.refl w.heap.size _).setCell _ _).setCell _ _).setCell _ _).setCell _ _) (λ_=>HP.out.2.2.2.off Y)
  have HAB:=azO (And.intro hA hB)
  have HWB:=azO hWb
  clear hk hW hWb hA hB
  refine Go.Rel.wp_region 12 X X Ext (λw'=>Ext W w')
    [Rel.is (fZ sg),λv w'=>bK w' v [sg],Rel.is (.q w.heap.size 0),Rel.is (.agg #[.bool nb,.slice b1 (Ux a).length d1]),
     λv w'=>bK w' v (au a),λv w'=>bK w' v (fV (au a)),Rel.is (.q w.heap.size 2),Rel.is (.agg #[.z,.slice b2 (Ux b).length d2]),
     λv w'=>bK w' v (au b),λv w'=>bK w' v (fV (au b)),λv w'=>xW w' v [[sg],fV (au a),fV (au b)],
     λv w'=>OwnB w.heap.size w' v q]
    ?_ ?_ ?_ ⟨?_,?_,?_,?_,?_,?_,?_,?_,?_,?_,?_,?_,G⟩ ?_
  · exact below_drewN (aAe _ _) 1
  · exact λ_ _ h k=>K00 h k
  · exact Rel.Ed.mem ⟨Rel.aG _,λ_ _ _ h k=>k.below h,Rel.aG _,Rel.aG _,λ_ _ _ h k=>k.below h,λ_ _ _ h k=>k.below h,Rel.aG _,Rel.aG _,λ_ _ _ h k=>k.below h,λ_ _ _ h k=>k.below h,
      λ_ _ _ h k=>Xa k h,λ_ _ _ h k=>dB k h,G⟩
  · intro ρ w' hs ho hC hd
    have h2:ρ (.tmp 3)=fZ sg:=(ho 3 I).trans (by rw[HSG.out]; rfl)
    simp[go_sem,h2]
    exact⟨K01,I⟩
  · intro ρ w' hs ho hC hd
    obtain⟨hd1,-⟩:=hd
    have h1:ρ (.tmp 9)=_:=hd1 I
    simp[go_sem,h1]
    exact⟨aF _ _,NM _ [sg] _ (by unfold maxLen; simp)⟩
  · intro ρ w' hs ho hC hd
    have h2:ρ (.tmp 1) = .q w.heap.size 0:=ho 1 I
    simp[go_sem,h2]
    exact⟨K01,I⟩
  · intro ρ w' hs ho hC hd
    obtain⟨hd1,-⟩:=hd
    have h1:ρ (.tmp 11)=_:=hd1 I
    obtain⟨k1,k2,-⟩:=HK.out w' hC
    simp[go_sem,h1,k1,k2]
    exact⟨K01,I⟩
  · intro ρ w' hs ho hC hd
    obtain⟨hd1,-⟩:=hd
    have h1:ρ (.tmp 12)=_:=hd1 I
    simp[go_sem,h1,hs.func]
    have hc:=LU nb _ _ w' (HAB.out.1.below hC) Z
    rw[PV]at hc
    refine hc.mono ?_
    rintro e w'' ⟨v,rfl,hr,hb⟩
    exact⟨_,I,hb,hr⟩
  · intro ρ w' hs ho hC hd
    obtain⟨hd1,-⟩:=hd
    have h1:bK w' (ρ (.tmp 13)) _:=hd1 I
    simp[go_sem,hs.func]
    refine(nS _ _ w' h1 Z).mono ?_
    rintro e w'' ⟨v,rfl,hr,hb⟩
    exact⟨_,I,hb,aZ hr⟩
  · intro ρ w' hs ho hC hd
    have h2:ρ (.tmp 1) = .q w.heap.size 0:=ho 1 I
    simp[go_sem,h2]
    exact⟨K01,I⟩
  · intro ρ w' hs ho hC hd
    obtain⟨hd1,-⟩:=hd
    have h1:ρ (.tmp 15)=_:=hd1 I
    obtain⟨-,-,k1,k2⟩:=HK.out w' hC
    simp[go_sem,h1,k1,k2]
    exact⟨K01,I⟩
  · intro ρ w' hs ho hC hd
    obtain⟨hd1,-⟩:=hd
    have h1:ρ (.tmp 16)=_:=hd1 I
    simp[go_sem,h1,hs.func]
    have hc:=LU false _ _ w' (HAB.out.2.below hC) Z
    rw[PV]at hc
    refine hc.mono ?_
    rintro e w'' ⟨v,rfl,hr,hb⟩
    exact⟨_,I,hb,hr⟩
  · intro ρ w' hs ho hC hd
    obtain⟨hd1,-⟩:=hd
    have h1:bK w' (ρ (.tmp 17)) _:=hd1 I
    simp[go_sem,hs.func]
    refine(nS _ _ w' h1 Z).mono ?_
    rintro e w'' ⟨v,rfl,hr,hb⟩
    exact⟨_,I,hb,aZ hr⟩
  · intro ρ w' hs ho hC hd
    obtain⟨hd1,hd2,hd3,-⟩:=hd
    have h1:bK w' (ρ (.tmp 10)) _:=hd1 I
    have h2:bK w' (ρ (.tmp 14)) _:=hd2 I
    have h3:bK w' (ρ (.tmp 18)) _:=hd3 I
    obtain⟨x1,y1,e1⟩:=h1.shape
    obtain⟨x2,y2,e2⟩:=h2.shape
    obtain⟨x3,y3,e3⟩:=h3.shape
    rw[e1]at h1
    rw[e2]at h2
    rw[e3]at h3
    simp[go_sem,e1,e2,e3]
    exact⟨aF _ _,aa0 w' _ _ _ _ _ _ _ (h1.below (aF _ _)) (h2.below (aF _ _)) (h3.below (aF _ _))⟩
  · intro ρ w' hs ho hC hd
    obtain⟨hd1,-⟩:=hd
    have h1:xW w' (ρ (.tmp 19)) _:=hd1 I
    simp[go_sem,hs.func]
    refine(W9 _ _ w' h1 HQL.out).mono ?_
    rintro e w'' ⟨v,rfl,hr,hb⟩
    refine⟨_,I,hb,?_⟩
    rw[HQ.out]at hr
    exact bC hr (by have:=(K00 HWB.out hC).size; exact this)
  · intro w' hC
    rintro _ rfl v1 h1 _ rfl _ rfl v4 h4 v5 h5 _ rfl _ rfl v8 h8 v9 h9 v10 h10 v11 h11
    change wpList _ _ _ (List.drop 12 _) _ _
    simp only[List.drop_succ_cons,aCl]
    have h12:Hid (w'.ownsRow w.heap.size 5 1 v11 (gK (nb,a,b)).length ((gK (nb,a,b)).map fZ)):=by
      have:=JY.out
      rw[<-this]; exact h11
    rw[HNB.out]at h12
    have HX:=azO (K00 HWB.out hC)
    clear h1 h4 h5 h8 h9 h10 h11
    go_wp2_with fail
    go_ret
    exact⟨v11,I,h12.out,HX.out⟩
end Go.Proofs.YtodpgjjgaddkeaaGreatDoor
end
namespace Go.Proofs.YtodpgjjgaddkeaaGreatDoor
section
open En
variable{α:Type}
abbrev iB (x:Int):List UInt8:=dW 10 (zig x)
def iD(f:α->List UInt8)(l:List α):List UInt8:=dW 10 l.length++l.flatMap f
def kQ(s:dN):List UInt8:=dX [s.verb,s.a.x,s.a.y,s.b.x,s.b.y,s.c.x,s.c.y]
def jh(s:dK):List UInt8:=dX [s.o]++Px.pb s.c
def sH(pk:Bool)(m:nZ):List UInt8:=dX [m.w,m.h]++(if pk=true then fV (Px.enc m.l)else m.l.flatMap Px.pb)
def sJ(q:Q6):List UInt8:=[q.a,q.b,q.c,q.d,q.e,q.f].flatMap gK
def fE(pk:Bool)(p:je):List UInt8:=dX [p.kind]++Px.pb p.color++dX [p.p0.x,p.p0.y,p.p1.x,p.p1.y,p.bT]++iD jh p.stops++dX [p.spread]++sH pk p.img++dX [p.cO]++sJ p.q
def CJ(p:kJ):List UInt8:=dX [p.width,p.join,p.cap,p.fB,p.phase]++iD iB p.dash
def pz(b:Bool):UInt8:=if b=true then 1 else 0
def nH(pk:Bool)(n:aQ):List UInt8:=
 if n.kind=1 then [n.dR]++dX [n.blend]++[pz n.isolated,pz n.dH]
 else if n.kind=2 then iD kQ n.path++dX [n.aW]++iD (fE pk) n.fill++iD (fE pk) n.stroke++(if 0<n.stroke.length then CJ n.style else [])
 else if n.kind=3 then sH pk n.img++dX [n.cO]else []
def eP(pk:Bool)(n:aQ):List UInt8:=dX [n.id,n.kind,n.depth]++sJ n.q++iD kQ n.clip++dX [n.aS]++nH pk n
def dV(s:aX):List UInt8:=[71,83,49]++dX [s.w,s.h]++Px.pb s.bg++iD (eP false) s.ns
def Fh(pk:Bool)(e:bF):List UInt8:=dX [e.kind,e.id,e.index,e.depth]++(if e.kind=1∨e.kind=4 then eP pk e.node else if e.kind=5 then Px.pb e.color else [])
def kD(e:bF):List UInt8:=[71,69,49]++Fh false e
variable{f:α->List UInt8}{N:Nat}
theorem kL{l:List α}{k:Nat}{x:α}(hk:k<l.length)(hx:l[k]=x)(B:List UInt8):B++(l.take k).flatMap f++f x=B++(l.take (k+1)).flatMap f:=by
 rw[aAU hk,hx,aBx]; simp
theorem IL{l:List α}{B:List UInt8}(h:(B++l.flatMap f).length<=N)(k:Nat):(B++(l.take k).flatMap f).length<=N:=by
 rw[azU]at h |-;have:((l.take k).flatMap f).length<=(l.flatMap f).length:=by
  conv=>rhs; rw[<-aBQ k l,aBx,azU]
  omega
 omega
theorem akH{l:List α}(h:(l.flatMap f).length<=N):∀x∈l,(f x).length<=N:=λx hx=>by
 obtain⟨s,t,rfl⟩:=List.append_of_mem hx;rw[aBx,aA0,azU,azU]at h;omega
theorem YP{l:List α}{B:List UInt8}(h:(B++l.flatMap f).length<=N):∀x∈l,(f x).length<=N:=akH (by rw[azU]at h; omega)
end
section
open En
variable{α:Type}{K:Nat}
variable{p:ak}{s:aH}
theorem ag1(f:Nat):∀n,0<n->(dW f n).length<=n:=by
 induction f with
 | zero=>intro n h; simp[dW]
 | succ f ih =>
  intro n h;unfold dW;split
  .simp; omega
  have:=ih (n/128) Z;simp only[aAx]; omega
theorem ag2{R:List (Nat×bD)}:∀{last:Option bD},Px.good last R->(Px.rb R).length<=5*(Px.flat R).length:=by
 induction R with
 | nil=>intro _ _; exact azZ _
 | cons z R ih =>
  intro last h;obtain⟨n,p⟩:=z;simp only[Px.good]at h;have:=ih h.2.2;have:=ag1 10 n h.1;simp only[Px.rb,Px.pb,Px.flat,azU,aAx,aA3,List.length_replicate];omega
theorem IQ(l:List bD):(Px.enc l).length<=5*l.length:=by
 have h:=Px.Dx l;have:=ag2 h.1;rw[h.2]at this;exact this
theorem Xb{f:α->List UInt8}{M:Nat}:∀{l:List α},(∀x∈l,(f x).length<=M)->(l.flatMap f).length<=l.length*M
 | [],_=>by simp
 | x::l,h=>by
  have h1:=h x az5
  have h2:=Xb (l:=l) λy hy=>h y (aA4 _ hy)
  rw[aA0,azU,aAx,Nat.succ_mul]; omega
theorem uX{f:α->List UInt8}{M N:Nat}{l:List α}(h:∀x∈l,(f x).length<=M)(hl:l.length<=N):(iD f l).length<=10+N*M:=by
 unfold iD;have h1:=Xb h;have h2:=iG 10 l.length;have h3:=aBj M hl;rw[azU]; omega
theorem YQ(s:dN):(kQ s).length<=70:=iJ _
theorem Xc(s:dK):(jh s).length<=14:=by unfold jh; rw[azU]; have:=iJ [s.o]; simp[Px.pb]at this |-; omega
theorem YR{pk:Bool}{m:nZ}(h:m.l.length<=65536):(sH pk m).length<=327800:=by
 unfold sH;have h1:=iJ [m.w,m.h];have h2:=IQ m.l;have h3:=Xb (f:=Px.pb) (M:=4) (l:=m.l) λx _=>azS _;have h4:=iG 10 (Px.enc m.l).length;simp only[aAx,aA3]at h1;rw[azU];cases pk
 .simp only[aCd,if_false]; omega
 simp only[if_true,fV,azU]; omega
theorem Ez{n:Nat}(h:bl n<=256):n<Nb.B^32:=by
 show n<256^32;rw[show(256:Nat)^32=2^256 by rfl];unfold bl at h;split at h
 .omega
 exact aAk Nat.lt_log2_self (aAV O h)
theorem q_len{q:Bool×Nat×Nat}(h:eF q<=256):(gK q).length<=100:=by
 unfold eF at h;have h1:=Nb.bI (Ez (n:=q.2.1) Z);have h2:=Nb.bI (Ez (n:=q.2.2) Z);have h3:=iG 10 (Nb.au q.2.1).length;have h4:=iG 10 (Nb.au q.2.2).length;simp only[gK,fV,aAx,azU];omega
theorem YS{q:Q6}(h:q.valid=true):(sJ q).length<=600:=by
 unfold Q6.valid at h;simp only[az7,az6]at h;obtain⟨h1,h2,h3,h4,h5,h6⟩:=h;have:=q_len h1;have:=q_len h2;have:=q_len h3;have:=q_len h4;have:=q_len h5;have:=q_len h6;simp only[sJ,aA0,List.flatMap_nil,azU,aA3];omega
theorem EC{l:List dK}(h:iC l=true):l.length<=16:=by
 unfold iC at h;simp only[az7,az6]at h;exact h.2.1
theorem OZ{m:dF}(h:m.valid=true):m.l.length<=65536:=by
 unfold dF.valid dF.size at h;simp only[az7,az6,az4]at h;obtain⟨⟨-,-,h1⟩,h2,-⟩:=h;omega
theorem KH{k:Int}(h:p.eq (ak.bare k)=true):p.stops=[]∧p.img.l=[]∧p.img.w=0∧p.img.h=0:=by
 unfold ak.eq dF.eq at h;simp only[az7,az6,az4]at h;refine⟨?_,?_,?_,?_⟩
 .have:p.stops=(ak.bare k).stops:=by simp_all
  exact this
 .have:p.img.l=(ak.bare k).img.l:=by simp_all
  exact this
 .have:p.img.w=(ak.bare k).img.w:=by simp_all
  exact this
 have:p.img.h=(ak.bare k).img.h:=by simp_all
 exact this
def dF.num(m:dF):Prop:=(m.l.length:Int)=m.w*m.h∧m.l.length<=65536∧0<=m.w∧m.w<=4096∧0<=m.h∧m.h<=4096
theorem CO{m:dF}(h:m.valid=true):m.num:=by
 have hl:=OZ h;unfold dF.valid dF.size side at h;simp only[az7,az4,az6]at h;exact⟨h.2.1,hl,Z,Z,Z,Z⟩
theorem xu{m:dF}(h1:m.l=[])(h2:m.w=0)(h3:m.h=0):m.num:=by
 unfold dF.num; rw[h1,h2,h3]; simp
theorem tK(h:p.valid=true):p.t.q.valid=true∧p.stops.length<=16∧p.img.num:=by
 unfold ak.valid at h;simp only[cond_eq_ite]at h;split at h
 .cases h
 rename_i hw;simp only[aBy,aBt,not_or,Bool.not_eq_false]at hw;refine⟨hw.1,?_⟩;have he:=KH hw.2;unfold ak.without at he;simp only[cond_eq_ite]at he;split at h
 .rename_i h1; rw[azQ h1]at he; exact⟨by rw[show p.stops=[]from he.1]; simp,xu he.2.1 he.2.2.1 he.2.2.2⟩
 rename_i h1;rw[azP h1]at he;split at h
 .rename_i h2;rw[azQ h2]at he;split at h
  .cases h
  rename_i hs;simp only[aBy,aBt,not_or,Bool.not_eq_false,az7]at hs;exact⟨EC hs.2.1,xu he.2.1 he.2.2.1 he.2.2.2⟩
 rename_i h2;rw[azP h2]at he;split at h
 .rename_i h3;rw[azQ h3]at he;split at h
  .cases h
  rename_i hs;simp only[aBy,aBt,not_or,Bool.not_eq_false,az7]at hs;exact⟨EC hs.2.1,xu he.2.1 he.2.2.1 he.2.2.2⟩
 rename_i h3;rw[azP h3]at he;split at h
 .rename_i h4;rw[azQ h4]at he;split at h
  .cases h
  rename_i hs;simp only[aBy,aBt,not_or,Bool.not_eq_false,az7]at hs;exact⟨by rw[show p.stops=[]from he.1]; simp,CO hs.1.1⟩
 cases h
theorem LV{pk:Bool}(h:p.valid=true):(fE pk p.key).length<=330000:=by
 obtain⟨h1,h2,h3⟩:=tK h;have a1:=YS (q:=p.key.q) h1;have a2:=YR (pk:=pk) (m:=p.key.img) h3.2.1;have a3:=uX (f:=jh) (l:=p.key.stops) (M:=14) (N:=16) (λx _=>Xc x) h2;have a4:=iJ [p.key.kind];have a5:=iJ [p.key.p0.x,p.key.p0.y,p.key.p1.x,p.key.p1.y,p.key.bT];have a6:=iJ [p.key.spread];have a7:=iJ [p.key.cO];simp only[aAx,aA3]at a4 a5 a6 a7;simp only[fE,azU,Px.pb,aAx,aA3];omega
structure aj.Lim (n:aj):Prop where
 q:n.t.q.valid=true
 clip:n.clip.length<=256
 shape:n.kind=2->n.path.length<=256∧n.fill.length<=1∧n.stroke.length<=1∧(∀p∈n.fill,p.valid=true)∧(∀p∈n.stroke,p.valid=true)∧(0<n.stroke.length->n.style.dash.length<=16)
 img:n.kind=3->n.img.num
 bare:n.bare=true
 sty:n.kind=2->¬0<n.stroke.length->n.style.eq aV.bare=true
theorem IU{l:List dN}(h:jS l=true):l.length<=256:=by
 unfold jS ig at h;by_cases h1:256<(l.length:Int)
 .rw[azQ h1]at h; simp at h
 omega
theorem Xd{l:List (Bool×Int)}(h:badL l=false):∀p∈l,p.1=false:=λp hp=>by
 unfold badL at h;cases hb:p.1
 .rfl
 have:=List.any_eq_false.1 h p hp; simp[hb]at this
theorem tN{n:aj}(h:n.checkN=0):n.Lim:=by
 obtain⟨hb,ho⟩:=Ep h;have hc:=Xd hb;unfold aj.jT at hc;simp only[az2,aBU,or_false,forall_eq_or_imp,forall_eq,aBg]at hc;obtain⟨-,-,h3,-,h5,h6⟩:=hc;simp only[aAI,aBg]at h6;refine⟨h3,IU h5,λhk=>?_,λhk=>?_,h6.2,λhk hs0=>?_⟩
 .unfold aj.qP at ho;rw[hk]at ho;simp only[show((2:Int)==1)=false from rfl,show((2:Int)==2)=true from rfl,cond_false,cond_true]at ho;have hs:=qF (λp hp=>by
   simp only[aj.sF,az2,aBU,or_false]at hp;rcases hp with rfl | rfl | rfl | rfl | rfl | rfl<;>simp) ho
  unfold aj.sF at hs;simp only[az2,aBU,or_false,forall_eq_or_imp,forall_eq,aBg,aAI,Bool.and_eq_false_iff,aAt,az6]at hs;obtain⟨g1,-,g3,g4,-,g6⟩:=hs;refine⟨IU g1,Z,Z,aAr.1 g6.1,aAr.1 g6.2,λhl=>?_⟩;rcases g4 with g4 | g4
  .omega
  unfold aV.valid rW at g4;simp only[az7,az6]at g4;omega
 .unfold aj.qP at ho;rw[hk]at ho;simp only[show((3:Int)==1)=false from rfl,show((3:Int)==2)=false from rfl,cond_false]at ho;have hs:=qF (λp hp=>by
   simp only[az2,aBU,or_false]at hp;rcases hp with rfl | rfl<;>simp) ho
  simp only[az2,aBU,or_false,forall_eq_or_imp,forall_eq,aBg]at hs;exact CO hs.1
 unfold aj.qP at ho;rw[hk]at ho;simp only[show((2:Int)==1)=false from rfl,show((2:Int)==2)=true from rfl,cond_false,cond_true]at ho;have hs:=qF (λp hp=>by
  simp only[aj.sF,az2,aBU,or_false]at hp;rcases hp with rfl | rfl | rfl | rfl | rfl | rfl<;>simp) ho
 unfold aj.sF at hs;simp only[az2,aBU,or_false,forall_eq_or_imp,forall_eq,aBg,aAI,Bool.and_eq_false_iff,aAt,az6]at hs;obtain⟨-,-,-,-,g5,-⟩:=hs;rcases g5 with g5 | g5
 .omega
 exact g5
theorem Tj{pk:Bool}{n:aj}(h:n.Lim):(eP pk n.key).length<=700000:=by
 have a1:=YS (q:=n.key.q) h.q;have a2:=uX (f:=kQ) (l:=n.key.clip) (M:=70) (N:=256) (λx _=>YQ x) h.clip;have a3:=iJ [n.key.id,n.key.kind,n.key.depth];have a4:=iJ [n.key.aS];have hk:(nH pk n.key).length<=680000:=by
  unfold nH;split
  .have:=iJ [n.key.blend]; simp at this |-; omega
  split
  .rename_i hk;obtain⟨b1,b2,b3,b4,b5,b6⟩:=h.shape hk;have c1:=uX (f:=kQ) (l:=n.key.path) (M:=70) (N:=256) (λx _=>YQ x) b1;have c2:=uX (f:=fE pk) (l:=n.key.fill) (M:=330000) (N:=1) (λx hx=>by obtain⟨p,hp,rfl⟩:=aAi.1 hx; exact LV (b4 p hp)) (by simpa[aj.key]using b2);have c3:=uX (f:=fE pk) (l:=n.key.stroke) (M:=330000) (N:=1) (λx hx=>by obtain⟨p,hp,rfl⟩:=aAi.1 hx; exact LV (b5 p hp)) (by simpa[aj.key]using b3);have c4:=iJ [n.key.aW];have c5:(if 0<n.key.stroke.length then CJ n.key.style else []).length<=300:=by
    split
    .rename_i hs;have d1:=uX (f:=iB) (l:=n.key.style.dash) (M:=10) (N:=16) (λx _=>iG 10 _) (b6 (by simpa[aj.key]using hs));have d2:=iJ [n.key.style.width,n.key.style.join,n.key.style.cap,n.key.style.fB,n.key.style.phase];simp only[CJ,azU,aAx,aA3]at d2 |-; omega
    simp
   simp only[azU,aAx,aA3]at c4 |-; omega
  split
  .rename_i hk;have:=YR (pk:=pk) (m:=n.key.img) (h.img hk).2.1;have:=iJ [n.key.cO];simp only[azU,aAx,aA3]at this |-; omega
  simp
 simp only[eP,azU,aAx,aA3]at a3 a4 |-;omega
theorem aj.Lim.akI{n:aj}(h:n.Lim):(n.kind=3->n.img.l.length<=1000000)∧(n.kind=2->(∀p∈n.fill,p.img.l.length<=1000000)∧∀p∈n.stroke,p.img.l.length<=1000000):=
 ⟨λhk=>by have:=(h.img hk).2; omega,λhk=>⟨λp hp=>by have:=(tK ((h.shape hk).2.2.2.1 p hp)).2.2.2.1; omega,λp hp=>by have:=(tK ((h.shape hk).2.2.2.2.1 p hp)).2.2.2.1; omega⟩⟩
theorem qK(h:s.key.valid=true):s.ns.length<=64∧∀n∈s.ns,n.Lim:=by
 obtain⟨-,h1,h2⟩:=aX.kE.1 h;refine⟨by simpa[aH.key]using h1,λn hn=>tN ?_⟩;rw[<-lG];exact(Oq.1 h2).1 _ (aAi.2 ⟨n,hn,I⟩)
theorem DL(h:s.key.valid=true):(dV s.key).length<=50000000:=by
 obtain⟨h1,h2⟩:=qK h;have a1:=uX (f:=eP false) (l:=s.key.ns) (M:=700000) (N:=64) (λx hx=>by obtain⟨n,hn,rfl⟩:=aAi.1 hx; exact Tj (h2 n hn)) (by simpa[aH.key]using h1);have a2:=iJ [s.key.w,s.key.h];simp only[dV,azU,aAx,aA3,Px.pb]at a2 |-;omega
end
end Go.Proofs.YtodpgjjgaddkeaaGreatDoor
section
namespace Go.Sx
open Go.Proofs Go.Proofs.YtodpgjjgaddkeaaGreatDoor Go.RowKit Go.Rel Na Nb
section
variable{P:Program}{ops:Array Oper}{Q:Exit->Act->World->Prop}{w0 w:World}{a:Act}{os:List Oper}{n:Nat}{l:List (Nat×Value)}{bl:List (Nat×List Value)}{vs:List fD}{rs:List Row}
abbrev bR (v:Value)(B:List UInt8):Row:=⟨5,1,v,B.length,B.map fZ⟩
theorem vU{v:Value}{B:List UInt8}(S:St w0 a w n l bl vs)(R:Rw w0 w bl (bR v B::rs))(d:Nat){y:Value}(A04:List UInt8)(hy:dQ w 1 y A04.length (A04.map fZ))(hb:(B++A04).length<=100000000000)
  (next:∀a' w' v',Stp (Ob bl (bR v B::rs)) w (Ob bl (bR v' (B++A04)::rs)) w'->Rw w0 w' bl (bR v' (B++A04)::rs)->St w0 a' w' n ((d,v')::l) bl []->wpList Tryz.prog ops Q (os.drop 1) a' w')
  (hx:Tm os l=some (53,v,y,some d):=by kernel_rfl) (hd:vI n (some d)=true:=by rfl):wpList Tryz.prog ops Q os a w:=by
 rw[azU]at hb;refine app S R 0 d I zQ hy (by show B.length+A04.length<=9223372036854775807; omega) (by show(B.length+A04.length)*1<=140737488355328; omega) (λa' w' v' A03 R S=>?_) hx hd;have e:(⟨5,1,v',B.length+A04.length,B.map fZ++A04.map fZ⟩:Row)=bR v' (B++A04):=by simp[bR]
 have A03:Stp (Ob bl (bR v B::rs)) w (Ob bl ((⟨5,1,v',B.length+A04.length,B.map fZ++A04.map fZ⟩:Row)::rs)) w':=A03;have R:Rw w0 w' bl ((⟨5,1,v',B.length+A04.length,B.map fZ++A04.map fZ⟩:Row)::rs):=R;rw[e]at A03 R;exact next a' w' v' A03 R S
theorem LW(S:St w0 a w n l bl vs){f:FuncId}{args:Array Value}{R:Ending->World->Prop}(d:Option Nat)(hc:Calls P f args w R)
  (next:∀e w',R e w'->∃V,e = .returned V∧Ext w0 w'∧∀a',St w0 a' w' n (yQ l d V) [] []->wpList P ops Q (os.drop 1) a' w') (hx:callOf P os l=some (f,args,d):=by kernel_rfl) (hd:vI n d=true:=by rfl):wpList P ops Q os a w:=by
 cases os with
 | nil=>cases hx
 | cons o os =>
  unfold callOf at hx;simp only at hx;split at hx
  .rename_i f' args' hg hav hev;simp only[azT,azW]at hx;obtain⟨rfl,rfl,rfl⟩:=hx;simp only[aAI]at hav;have hrun:(execOp a.eval o).run P w = .ok (.enter f' args') w:=lS (Std.act a) (iq (bZ S.s) o) (p:=[]) I hav.1 (by simpa using hav.2) hev;unfold wpList;rw[azQ (by simp[Region.wanted,hg])];left;unfold Oper.wp;rw[hrun];simp only[Oper.upon];refine hc.mono λe w' hR=>?_;obtain⟨V,rfl,hE,next⟩:=next e w' hR;exact next _ ⟨uP S.s hd V,hE,λp hp=>(by cases hp),List.nodup_nil,λm hm=>by cases hm⟩
  cases hx
end
theorem FX{α:Type}{f:α->List Value}{k:Nat}{w:World}{b:Nat}(L:List α)(hf:∀x,(f x).length=k)(hx:Bx w b (L.flatMap f).toArray)(hl:L.length<=maxLen):aJ k f w (.slice (some ⟨b,0,none⟩) L.length L.length) L:=
 ⟨_,_,I,hl,.inr ⟨b,0,I,hx.1,azS _,λi hi j hj=>by
  have:=hx.2.1 (0+i*k+j)
  rw[aAK]at this |-
  rw[this,<-rJ hf L i hi j hj]; simp⟩⟩
end Go.Sx
namespace Go.Proofs.YtodpgjjgaddkeaaGreatDoor
open Go.RowKit Na Nb
variable{base:Nat}{v:Value}
theorem uY{L:List Int}{w:World}(h:Sx.iO base (L.map λx => .i x) (some L.length) v w)(hl:L.length<=maxLen):aek w v L:=by
 obtain⟨b,rfl,-,hx⟩:=h;exact Sx.lD (f:=λx:Int => .i x) L hx hl
def qV:List Int->Prop
 | []=>True
 | x::L=>I64 x∧qV L
theorem qV.all:∀{L:List Int},qV L->∀x∈L,I64 x
 | _::_,h,x,hx=>by
  rcases az2.1 hx with rfl | hx
  .exact h.1
  .exact qV.all h.2 x hx
theorem kM{w0 w:World}{B:List UInt8}{bl:List (Nat×List Value)}(R:Sx.Rw w0 w bl [])(h:OwnB base w v B)(hb:∀p∈bl,p.1<base)(h0:w0.heap.size<=base):Sx.Rw w0 w bl [Sx.bR v B]:=
 R.add h (λb hb'=>by
  simp only[Sx.Ob,List.filterMap_nil,aAW]at hb'
  obtain⟨p,hp,rfl⟩:=aAi.1 hb'
  exact hb p hp) h0
end Go.Proofs.YtodpgjjgaddkeaaGreatDoor
end
theorem azK:type_of% @Go.Sx.vU:=@Go.Sx.vU
