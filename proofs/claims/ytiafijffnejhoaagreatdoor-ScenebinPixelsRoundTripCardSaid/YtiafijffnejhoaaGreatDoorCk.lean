/- Chapter 7's walks for seats that hold more: the -/
import Derived.Test.YtiafijffnejhoaaGreatDoorPk40
import Derived.Test.YtiafijffnejhoaaGreatDoorNatW1
set_option maxHeartbeats 400000
namespace Go.Proofs.YtiafijffnejhoaaGreatDoor
open Go.RowKit
variable{α:Type}
theorem QY(x:UInt32)(c:UInt8):bits .xor .u32 ((eP.many 8 ((x&&&255)^^^c.toUInt32)).toNat:Int) ((x>>>8).toNat:Int)=((eP.byte x c).toNat:Int):=by
 rw[Oq,eP.QZ]
theorem Ov(s:UInt32)(v:Value)(l:List UInt8)(w:World)(hv:bZ w v l) :
  Calls Tryz.prog 29 #[aP s,v] w fun e w'=>e = .returned (aP (eP.update s l))∧w=w':=by
 obtain⟨a,cap,rfl,hm,ha⟩:=hv;have hl:=lT hm ha;have HA:=ag8 ha;clear ha;go_enter Tryz.func29,Tryz.ntmps29
 go_wp2
 go_loop [5,6] (fun s1 i=>∃k:Nat,k≤l.length∧i = .i k∧s1=aP (eP.reg (s^^^0xffffffff) (l.take k))) (fun _ i=>l.length-(intOf i).toNat)
 case atStart=>exact⟨0,ahk _,rfl,by rw[Yv]; rfl⟩
 case round =>
  obtain⟨k,hk,rfl,rfl⟩:=hrel;by_cases hlt:k<l.length
  ·rcases HA.out with ⟨rfl,_⟩ | ⟨b,o,rfl,hb,hlc,hc⟩
   ·simp at hlt
   have hck:=hc k hlt;have E:=ag8 (Gv (s^^^0xffffffff) l k hlt);generalize eP.reg (s^^^0xffffffff) (l.take k)=x at E;go_wp2_with fail
   rw[ZA,QT,Oq];refine(ZI _ _).mono ?_;rintro e w' ⟨rfl,rfl⟩;go_wp2
   go_round
   case rel=>exact⟨k+1,by omega,by go_num,by rw[E.out,Jv,QY]⟩
   case measure=>simp[intOf]; omega
  obtain rfl:k=l.length:=by omega
  go_wp2
  go_ret
  exact⟨fU (by simp only[Yv,ahX]; rfl),rfl⟩
theorem ZJ(v u:Value)(l m:List UInt8)(w:World)(hv:bZ w v l)(hu:bZ w u m) :
  Calls Tryz.prog 24 #[v,u] w fun e w'=>e = .returned (.bool (l==m))∧w=w':=by
 have s1:=jl (P:=Tryz.prog) (src:=23) (e:=5) (dst:=9) Tryz.underlying23 Tryz.underlying5 Tryz.underlying9 hv;have s2:=jl (P:=Tryz.prog) (src:=23) (e:=5) (dst:=9) Tryz.underlying23 Tryz.underlying5 Tryz.underlying9 hu;go_enter Tryz.func24,Tryz.ntmps24
 go_wp2
 go_ret
 exact⟨rfl,rfl⟩
theorem Q5(v:Value)(l:List UInt8)(w:World)(hv:bZ w v l)(hlen:l.length≤140737488355328) :
  Calls Tryz.prog 66 #[v] w fun e w'=>∃v',e = .returned v'∧w'.ownsRow w.heap.size 5 1 v' l.length (l.map fO)∧Below w.heap.size w w':=by
 have hr:=hv.raw (fun _=>rfl);obtain⟨a,cap,rfl,hm,ha⟩:=hv;rcases a with _ | ad
 ·have hz:l=[]∧cap=0:=by
   rcases ha with ⟨h,h0⟩ | ⟨b,o,h,_⟩
   ·exact⟨h,h0 rfl⟩
   cases h
  obtain⟨rfl,rfl⟩:=hz;have hnil:=Lib.run_eql_slice_nil (P:=Tryz.prog) w 23 5 none 0 0 0 0 Tryz.underlying23;clear ha hr;go_enter Tryz.func66,Tryz.ntmps66
  go_wp2
  go_ret
  exact⟨_,rfl,World.ownsRow_nil _ _ _ _,ahs _ _⟩
 have hnil:=Lib.run_eql_slice_nil (P:=Tryz.prog) w 23 5 (some ad) l.length cap 0 0 Tryz.underlying23;have hown:=aiM (base:=w.heap.size) (e:=5) (size:=1) w #[] 0 (ahh _) (ahk _) rfl;have hr:=xR hr (.cells #[] 5);have h63:0+l.length≤maxLen:=by
  rcases ha with ⟨rfl,_⟩ | ⟨b,o,_,_,h,_⟩
  ·simp
  omega
 have hby:(0+l.length)*1≤140737488355328:=by omega
 clear ha;go_enter Tryz.func66,Tryz.ntmps66
 go_wp2_with (at_builtin; refine aT rfl _ _ _ rfl uj w.heap.size hown rfl hr rfl h63 hby (by simp) ?_; intro v' w' hown' hg)
 go_ret
 simp only[ah4,aib]at hown';exact⟨_,rfl,by simpa using hown',((ahs _ _).alloc (ahh _) _).grown hg (by simp) (by simp[Value.ownBlock])⟩
theorem Mc(l:List UInt8):eP.crc [l]=eP.update 0 l:=rfl
theorem Md(x:UInt32):(x.toNat:Int)/(65536:Int)=((x>>>16).toNat:Int):=by
 rw[ai3]; simp[aiJ]
theorem Me(x:UInt32):(x.toNat:Int)/(16777216:Int)=((x>>>24).toNat:Int):=by
 rw[ai3]; simp[aiJ]
theorem Ox(x:UInt32):(eP.le4 x).map fO =
  [.int .u8 ((x.toNat:Int)%256),.int .u8 ((x.toNat:Int)/256%256),.int .u8 ((x.toNat:Int)/65536%256),.int .u8 ((x.toNat:Int)/16777216%256)]:=by
 simp only[eP.le4,ahN,air,fO];rw[Jv,Md,Me,rF,rF,rF,rF]
theorem MB(x:UInt32)(w:World)(e:TypeId):eX (w.alloc (.cells #[.int .u8 ((x.toNat:Int)%256),.int .u8 ((x.toNat:Int)/256%256),.int .u8 ((x.toNat:Int)/65536%256),.int .u8 ((x.toNat:Int)/16777216%256)] e)) 1
  (.slice (some ⟨w.heap.size,0,none⟩) 4 4) 4 ((eP.le4 x).map fO):=by
 rw[Ox];exact LU w _ e 4 1 rfl (by unfold maxLen; omega) (by intro u hu; simp at hu; rcases hu with rfl | rfl | rfl | rfl<;>rfl)
theorem yE(v:Value)(l:List UInt8)(w:World)(hv:bZ w v l)(hlen:l.length≤100000000) :
  Calls Tryz.prog 35 #[v] w fun e w'=>∃v',e = .returned v' ∧
   w'.ownsRow w.heap.size 5 1 v' (l++eP.le4 (eP.update 0 l)).length ((l++eP.le4 (eP.update 0 l)).map fO)∧Below w.heap.size w w':=by
 obtain⟨a,cap,rfl⟩:∃a cap,v = .slice a l.length cap:=by obtain⟨a,cap,h,_⟩:=hv; exact⟨a,cap,h⟩
 have hp:=LW (R:=bZ) w (.slice a l.length cap) l 23 (hv.below (aF _ _));have hv1:=hv.below (aF w (.cells #[.slice a l.length cap] 23));have h63:l.length+4≤maxLen:=by unfold maxLen; omega
 have hby:(l.length+4)*1≤140737488355328:=by omega
 go_enter Tryz.func35,Tryz.ntmps35
 go_wp2_with fail
 refine(crc32 _ _ _ hp).mono ?_;rintro e w' ⟨rfl,rfl⟩;rw[Mc];go_wp2_with fail
 refine(Q5 _ _ _ hv1 (by omega)).mono ?_;rintro e w2 ⟨v2,rfl,hown,hb2⟩;have hb2':Below w.heap.size w w2:=(aF _ _).trans (hb2.mono (by simp));generalize hx:eP.update 0 l=x;have HX:=ag8 hx;clear hx;have hr:=MB x w2 5;have hown':=(cZ hown (show w.heap.size≤_ by simp)).alloc (.cells #[.int .u8 ((x.toNat:Int)%256),.int .u8 ((x.toNat:Int)/256%256),.int .u8 ((x.toNat:Int)/65536%256),.int .u8 ((x.toNat:Int)/16777216%256)] 5);have hsz:w.heap.size≤w2.heap.size:=by have:=hb2.size; simp at this; omega
 have hsz':w.heap.size≤(w2.alloc (.cells #[.int .u8 ((x.toNat:Int)%256),.int .u8 ((x.toNat:Int)/256%256),.int .u8 ((x.toNat:Int)/65536%256),.int .u8 ((x.toNat:Int)/16777216%256)] 5)).heap.size:=by simp; omega
 clear hown;go_wp2_with (at_builtin; refine aT rfl _ _ _ rfl uj w.heap.size hown' rfl hr rfl h63 hby hsz' ?_; intro v' w' hown' hg)
 go_ret
 refine⟨_,rfl,by rw[HX.out]; simpa[eP.le4]using hown',(hb2'.alloc hsz _).grown hg hsz' ?_⟩;exact fun k hk=>(World.ownsRow.lt ‹_› k hk).1
theorem Cm(f:α→Value)(l:List α)(k:Nat)(h:k<l.length):(l.take (k+1)).map f=(l.take k).map f++[f l[k]]:=by
 rw[take_snoc l k h,ahT]; rfl
theorem Oy(v:Value)(l:List UInt8)(w:World)(hv:bZ w v l)(hlen:l.length≤100000000) :
  Calls Tryz.prog 12 #[v] w fun e w'=>∃v',e = .returned v' ∧
   w'.ownsRow w.heap.size 5 1 v' (l++eP.le4 (eP.update 0 l)).length ((l++eP.le4 (eP.update 0 l)).map fO)∧Below w.heap.size w w':=by
 have hv0:=hv;obtain⟨a,cap,rfl,hm,ha⟩:=hv;have hl:=lT hm ha;have HA:=ag8 ha;clear ha;go_enter Tryz.func12,Tryz.ntmps12
 go_wp2
 go_loopw [3,4] (fun out i wr=>∃k:Nat,k≤l.length∧i = .i k∧wr.ownsRow w.heap.size 5 1 out k ((l.take k).map fO)∧Below w.heap.size w wr) (fun _ i _=>l.length-(intOf i).toNat)
 case atStart=>exact⟨0,ahk _,rfl,aiM w #[] 0 (ahh _) (ahk _) rfl,aF _ _⟩
 case round =>
  obtain⟨k,hk,rfl,hown,hbel⟩:=hrel;by_cases hlt:k<l.length
  ·rcases HA.out with ⟨rfl,_⟩ | ⟨b,o,rfl,hb,hlc,hc⟩
   ·simp at hlt
   have hck:wr.cell? ⟨b,o+k,none⟩=some (fO l[k]):=by rw[hbel.cell (p:=⟨b,o+k,none⟩) hb]; exact hc k hlt
   clear hc;have hr:=je wr (fO l[k]) 5 rfl;have hown':=hown.alloc (.cells #[fO l[k]] 5);have h63:k+1≤maxLen:=by unfold maxLen; omega
   have hby:(k+1)*1≤140737488355328:=by omega
   have hsz:w.heap.size≤wr.heap.size:=hbel.size;have hsz':w.heap.size≤(wr.alloc (.cells #[fO l[k]] 5)).heap.size:=by simp; omega
   clear hown;go_wp2_with (at_builtin; refine aT rfl _ _ _ rfl uj w.heap.size hown' rfl hr rfl h63 hby hsz' ?_; intro v' w' hown2 hg)
   go_roundw
   case rel=>exact⟨k+1,by omega,by go_num,by rw[Cm _ _ _ ‹_›]; exact hown2,(hbel.alloc hsz _).grown hg hsz' (fun k hk=>(World.ownsRow.lt hown' k hk).1)⟩
   case measure=>simp[intOf]; omega
  obtain rfl:k=l.length:=by omega
  have hv1:=hv0.below hbel;simp only[ahX]at hown;go_wp2_with fail
  refine(Ov 0 _ _ _ hv1).mono ?_;rintro e w' ⟨rfl,rfl⟩;generalize hx:eP.update 0 l=x;have HX:=ag8 hx;clear hx;have hr:=MB x wr 5;have hown':=hown.alloc (.cells #[.int .u8 ((x.toNat:Int)%256),.int .u8 ((x.toNat:Int)/256%256),.int .u8 ((x.toNat:Int)/65536%256),.int .u8 ((x.toNat:Int)/16777216%256)] 5);have hsz:w.heap.size≤wr.heap.size:=hbel.size;have hsz':w.heap.size≤(wr.alloc (.cells #[.int .u8 ((x.toNat:Int)%256),.int .u8 ((x.toNat:Int)/256%256),.int .u8 ((x.toNat:Int)/65536%256),.int .u8 ((x.toNat:Int)/16777216%256)] 5)).heap.size:=by simp; omega
  have h63:l.length+4≤maxLen:=by unfold maxLen; omega
  have hby:(l.length+4)*1≤140737488355328:=by omega
  clear hown;go_wp2_with (at_builtin; refine aT rfl _ _ _ rfl uj w.heap.size hown' rfl hr rfl h63 hby hsz' ?_; intro v' w' hown2 hg)
  go_ret
  exact⟨_,rfl,by rw[HX.out]; simpa[eP.le4]using hown2,(hbel.alloc hsz _).grown hg hsz' (fun k hk=>(World.ownsRow.lt hown' k hk).1)⟩
theorem Gw{c y:UInt8}{z:Int}(hz:z=(y.toNat:Int)):((c.toNat:Int) != z)=(c != y):=by
 subst hz;rw[aif,bne_iff_ne,bne_iff_ne];constructor
 ·intro h e; exact h (by rw[e])
 intro h e; exact h (UInt8.toNat_inj.1 (by omega))
theorem Yw(x:UInt32):(x.toNat:Int)%(256:Int)=(x.toUInt8.toNat:Int):=rF x
theorem Yx(x:UInt32):(x.toNat:Int)/(256:Int)%(256:Int)=((x>>>8).toUInt8.toNat:Int):=by rw[Jv,rF]
theorem Yy(x:UInt32):(x.toNat:Int)/(65536:Int)%(256:Int)=((x>>>16).toUInt8.toNat:Int):=by rw[Md,rF]
theorem Yz(x:UInt32):(x.toNat:Int)/(16777216:Int)%(256:Int)=((x>>>24).toUInt8.toNat:Int):=by rw[Me,rF]
theorem four(l:List UInt8)(m:Nat)(h:l.length=m+4):∃c0 c1 c2 c3,l.drop m=[c0,c1,c2,c3]:=by
 have e:(l.drop m).length=4:=by simp; omega
 match l.drop m,e with
 | [c0,c1,c2,c3],_=>exact⟨c0,c1,c2,c3,rfl⟩
def Oz(c0 c1 c2 c3:UInt8)(x:UInt32)(k:Nat):Prop:=[c0,c1,c2,c3].take k=(eP.le4 x).take k
theorem Wq(v:Value)(l:List UInt8)(w:World)(hv:bZ w v l)(h:l.length<4) :
  Calls Tryz.prog 67 #[v] w fun e w'=>e = .returned (.tuple #[.slice none 0 0,.i 4])∧w=w':=by
 obtain⟨a,cap,rfl⟩:∃a cap,v = .slice a l.length cap:=by obtain⟨a,cap,h,_⟩:=hv; exact⟨a,cap,h⟩
 clear hv;go_enter Tryz.func67,Tryz.ntmps67
 go_wp2
 go_ret2
 exact⟨rfl,rfl⟩
theorem Gx(v:Value)(l:List UInt8)(m:Nat)(w:World)(hv:bZ w v l)(hlen:l.length=m+4)(hm:m≤100000000) :
  Calls Tryz.prog 67 #[v] w fun e w'=>∃v' k,e = .returned (.tuple #[v',.i k])∧Below w.heap.size w w' ∧
   (l.drop m=eP.le4 (eP.update 0 (l.take m))→k=0∧bZ w' v' (l.take m))∧(l.drop m≠eP.le4 (eP.update 0 (l.take m))→k=19∧v' = .slice none 0 0):=by
 obtain⟨a,cap,rfl,hcap,ha⟩:=hv;rcases ha with ⟨rfl,_⟩ | ⟨b,o,rfl,hb,hlc,hc⟩
 ·simp at hlen
 have hr:=QO (n:=m) hb hlc hcap (by omega) hc;have hp:=LW (R:=bZ) w (.slice (some ⟨b,o,none⟩) m cap) (l.take m) 23 (hr.below (aF _ _));have hr1:=hr.below (aF w (.cells #[.slice (some ⟨b,o,none⟩) m cap] 23));have hlt:m≤cap:=by omega
 have hne:¬m=cap:=by omega
 have hmc:m<cap:=by omega
 go_enter Tryz.func67,Tryz.ntmps67
 go_wp2_with fail
 refine(crc32 _ _ _ hp).mono ?_;rintro e w' ⟨rfl,rfl⟩;rw[Mc];go_wp2_with fail
 generalize hx:eP.update 0 (l.take m)=x;have HX:=ag8 hx;clear hx hr;obtain⟨c0,c1,c2,c3,hd⟩:=four l m hlen;have hcd:∀k (h:k<4),(w.alloc (.cells #[.slice (some ⟨b,o,none⟩) m cap] 23)).cell? ⟨b,o+m+k,none⟩=some (fO ([c0,c1,c2,c3][k])):=by
  intro k hk;rw[World.cell?_alloc_past _ _ _ hb,aiv,hc (m+k) (by omega)];simp only[←hd];rw[ajj]
 have HC:=ag8 hcd;have HD:=ag8 hd;clear hcd hc hd;go_loop [22] (fun i=>∃k:Nat,k≤4∧i = .i k∧Oz c0 c1 c2 c3 x k) (fun i=>4-(intOf i).toNat)
 case atStart=>exact⟨0,by omega,rfl,rfl⟩
 case round =>
  obtain⟨k,hk,rfl,heq⟩:=hrel;have HE:=ag8 heq;clear heq;have hk':k=0∨k=1∨k=2∨k=3∨k=4:=by omega
  rcases hk' with rfl | rfl | rfl | rfl | rfl
  ·have hck:=HC.out 0 (by omega);simp only[aiW,ajf]at hck;go_wp2
   ·have h := ‹((c0.toNat:Int) != _)=true›;rw[Gw (Yw x)]at h;go_ret2
    exact⟨_,_,rfl,aF _ _,fun e=>by rw[HD.out,HX.out]at e; simp[eP.le4]at e; simp[e]at h,fun _=>⟨rfl,rfl⟩⟩
   have h := ‹((c0.toNat:Int) != _)=false›;rw[Gw (Yw x)]at h;go_round
   case rel=>exact⟨1,by omega,rfl,by simp[Oz,eP.le4]at h ⊢; exact h⟩
   case measure=>simp[intOf]
  ·have hck:=HC.out 1 (by omega);simp only[ajf,ajt]at hck;go_wp2
   ·have h := ‹((c1.toNat:Int) != _)=true›;rw[Gw (Yx x)]at h;go_ret2
    exact⟨_,_,rfl,aF _ _,fun e=>by rw[HD.out,HX.out]at e; simp[eP.le4]at e; simp[e]at h,fun _=>⟨rfl,rfl⟩⟩
   have h := ‹((c1.toNat:Int) != _)=false›;rw[Gw (Yx x)]at h;go_round
   case rel=>exact⟨2,by omega,rfl,by have:=HE.out; simp[Oz,eP.le4]at h this ⊢; exact⟨this,h⟩⟩
   case measure=>simp[intOf]
  ·have hck:=HC.out 2 (by omega);simp only[ajf,ajt]at hck;go_wp2
   ·have h := ‹((c2.toNat:Int) != _)=true›;rw[Gw (Yy x)]at h;go_ret2
    exact⟨_,_,rfl,aF _ _,fun e=>by rw[HD.out,HX.out]at e; simp[eP.le4]at e; simp[e]at h,fun _=>⟨rfl,rfl⟩⟩
   have h := ‹((c2.toNat:Int) != _)=false›;rw[Gw (Yy x)]at h;go_round
   case rel=>exact⟨3,by omega,rfl,by have:=HE.out; simp[Oz,eP.le4]at h this ⊢; exact⟨this.1,this.2,h⟩⟩
   case measure=>simp[intOf]
  ·have hck:=HC.out 3 (by omega);simp only[ajf,ajt]at hck;go_wp2
   ·have h := ‹((c3.toNat:Int) != _)=true›;rw[Gw (Yz x)]at h;go_ret2
    exact⟨_,_,rfl,aF _ _,fun e=>by rw[HD.out,HX.out]at e; simp[eP.le4]at e; simp[e]at h,fun _=>⟨rfl,rfl⟩⟩
   have h := ‹((c3.toNat:Int) != _)=false›;rw[Gw (Yz x)]at h;go_round
   case rel=>exact⟨4,by omega,rfl,by have:=HE.out; simp[Oz,eP.le4]at h this ⊢; exact⟨this.1,this.2.1,this.2.2,h⟩⟩
   case measure=>simp[intOf]
  have e:l.drop m=eP.le4 (eP.update 0 (l.take m)):=by
   rw[HD.out,HX.out]; have:=HE.out; simpa[Oz,eP.le4]using this
  have HF:=ag8 e;clear e;go_wp2_with fail
  refine(Q5 _ _ _ hr1 (by simp; omega)).mono ?_;rintro e w2 ⟨v2,rfl,hown,hb2⟩;have hrow:=aS hown;clear hown;go_wp2_with fail
  go_ret2
  exact⟨_,_,rfl,(aF _ _).trans (hb2.mono (by simp)),fun _=>⟨rfl,hrow⟩,fun h=>(h HF.out).elim⟩
end Go.Proofs.YtiafijffnejhoaaGreatDoor
