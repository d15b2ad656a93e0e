/- Numbers in lowest terms are equal by value exactly if -/
import Derived.Test.YtiafijffnejhoaaGreatDoorR36c
import Derived.Test.YtiafijffnejhoaaGreatDoorPk22
namespace Go.Proofs.YtiafijffnejhoaaGreatDoor
section
theorem Ei.facts{q:Bool×Nat×Nat}(h:Ei q):0<q.2.2∧Nat.Coprime q.2.1 q.2.2∧(q.1=true→0<q.2.1):=by
 obtain⟨n,a,b⟩:=q;unfold Ei nrm at h;simp only at h ⊢;split at h
 ·rename_i hb;simp only[ahg]at h;omega
 rename_i hb;simp only[ahg]at h;obtain⟨h1,h2,h3⟩:=h;have hg:Nat.gcd a b=1:=by
  have hb':0<b:=by omega
  have:=Nat.div_mul_cancel (ajq a b);rw[h3]at this;exact Nat.eq_of_mul_eq_mul_left hb' (by omega)
 refine⟨by omega,hg,fun hn=>?_⟩;rw[hn]at h1;unfold kN at h1;rw[ahD]at h1;have:=h1.2;rw[hg,Nat.div_one]at this;simpa using this
theorem pV{p q:Bool×Nat×Nat}(hp:Ei p)(hq:Ei q):kT p q=decide (p=q):=by
 obtain⟨p1,p2,p3⟩:=hp.facts;obtain⟨q1,q2,q3⟩:=hq.facts;rw[aif];unfold kT lN;simp only[ahu,ahK,Int.sign_eq_zero_iff_zero];constructor
 ·intro h;obtain⟨n,a,b⟩:=p;obtain⟨m,c,d⟩:=q;simp only at *;have hz:qz (n,a,b)*(d:Int)=qz (m,c,d)*(b:Int):=by simpa using (by omega:qz (n,a,b)*(d:Int)-qz (m,c,d)*(b:Int)=0→qz (n,a,b)*(d:Int)=qz (m,c,d)*(b:Int)) h
  have habs:=ahm Int.natAbs hz;have hzv:∀(s:Bool) (x:Nat),(zv s x).natAbs=x:=by intro s x; unfold zv; split<;>simp
  unfold qz at hz habs;simp only[Int.natAbs_mul,hzv,aiG]at habs;have hbd:b∣d:=p2.symm.dvd_of_dvd_mul_left ⟨c,by rw[habs,ahy]⟩;have hdb:d∣b:=q2.symm.dvd_of_dvd_mul_left ⟨a,by rw[←habs,ahy]⟩;obtain rfl:b=d:=Nat.dvd_antisymm hbd hdb;obtain rfl:a=c:=Nat.eq_of_mul_eq_mul_right p1 habs;have hz2:zv n a=zv m a:=Int.eq_of_mul_eq_mul_right (by omega) hz;obtain rfl:n=m:=by
   unfold zv at hz2;cases n<;>cases m<;>simp at * <;> omega
  rfl
 intro h; rw[h]; omega
theorem Q6.same_eq{P Q:Q6}(hp:uS P)(hq:uS Q):P.same Q=P.eq Q:=by
 unfold Q6.same Q6.eq;rw[pV hp.1 hq.1,pV hp.2.1 hq.2.1,pV hp.2.2.1 hq.2.2.1,pV hp.2.2.2.1 hq.2.2.2.1,pV hp.2.2.2.2.1 hq.2.2.2.2.1,pV hp.2.2.2.2.2 hq.2.2.2.2.2]
end
section
set_option maxHeartbeats 3200000
set_option maxRecDepth 100000
open Go.RowKit
variable{α:Type}{K:Nat}
set_option linter.unusedVariables false
def bC(l m:List au):Bool:=decide (l.length=m.length)&&(l.zip m).all fun p=>p.1.eq p.2
theorem Rq{l m:List au}(h:((l.length:Int) != (m.length:Int))=true):false=bC l m:=by
 have:l.length≠m.length:=fun e=>by rw[e]at h; simp at h
 simp[bC,this]
theorem MH{l m:List au}{k:Nat}(hk:l.length≤k)(h:l.length=m.length)(hR:((l.zip m).take k).all (fun p=>p.1.eq p.2)=true):true=bC l m:=by
 rw[ahV (by simp; omega)]at hR;simp only[bC,h,hR,decide_true,Bool.and_self]
theorem GI{l m:List au}{k:Nat}(h1:k<l.length)(h2:k<m.length)(hR:((l.zip m).take k).all (fun p=>p.1.eq p.2)=true)(h:(!(l[k].eq m[k]))=false):((l.zip m).take (k+1)).all (fun p=>p.1.eq p.2)=true:=by
 rw[ahM (by simp; omega),List.all_append,hR];simp at h;simp[h]
theorem Rt{l m:List au}{k:Nat}(h1:k<l.length)(h2:k<m.length)(h:(!(l[k].eq m[k]))=true):false=bC l m:=by
 symm;rw[Bool.eq_false_iff];intro e;simp only[bC,ahD,ahz]at e;have:=e.2 (l[k],m[k]) (by rw[←List.getElem_zip (h:=by simp; omega)]; exact ah3 _);simp[this]at h
theorem uH{w:World}{v u:Value}{l m:List gQ}(h:aK 7 gQ.cells w v l)(h':aK 7 gQ.cells w u m) :
  Calls Tryz.prog 105 #[v,u] w fun e w'=>e = .returned (.bool (l=m))∧Ext w w':=by
 skip;refine agX Tryz.func105 Tryz.ntmps105 fun ac S=>agS fun _ aX=>adr S 1 [] [(4,.bool false)] fun S=>agR<|aX _ _<|agS fun _ fH=>adr S 2 [] [(5,v),(6,u)] fun S=>ag0 S 7 (OD (l:=l) (m:=m) (h.below S.E) (h'.below S.E)) fun ac u E3 S=>adr S 1 [] [(4,.bool (l=m))] fun S=>agR<|fH _ _<|agV S Tryz.results105 ?_;exact⟨rfl,S.E⟩
theorem wZ{w:World}{v u:Value}{l m:List au}(h:iQ w v l)(h':iQ w u m)(hf:∀p∈l,p.t.fit K)(hf':∀p∈m,p.t.fit K)(hK1:1≤K)(hK:K≤10000) :
  Calls Tryz.prog 106 #[v,u,.func (.func 107) #[] #[]] w fun e w'=>e = .returned (.bool (bC l m))∧Ext w w':=by
 obtain⟨a,cap,rfl⟩:=h.1.shape;obtain⟨d,cap',rfl⟩:=h'.1.shape;have hmax:l.length≤9223372036854775807:=h.1.len;refine agX Tryz.func106 Tryz.ntmps106 fun ac S=>agS fun _ aX=>adr S 1 [] [(6,.bool false)] fun S=>agR<|aX _ _<|ag9 fun _ fH=>agS fun _ jK=>adr S 5 [] [(14,.bool (((l.length:Int)) != (m.length:Int)))] fun S=>agR (jK _ _ ?_);refine agU S (fun hc4=>?_) (fun hc4=>?_)
 ·refine agS fun _ dM=>adr S 1 [] [(6,.bool false)] fun S=>agR<|dM _ _<|agV S Tryz.results106 ?_;exact⟨aI (Rq hc4),S.E⟩
 refine aha<|fH _ _<|ag9 fun _ iI=>agS fun _ jf=>adr S 3 [] [(15,.slice a l.length cap),(16,.i l.length),(17,.i 0)] fun S=>agR<|jf _ _<|ahc ?_;refine ahJ (ι:=Nat) (fun p a' w'=>p≤l.length∧(((l.zip m).take p).all (fun p=>p.1.eq p.2)=true)∧Sx.St w a' w' 32 [(0,.slice a l.length cap),(1,.slice d m.length cap'),(2,.func (.func 107) #[] #[]),(6,.bool false),(15,.slice a l.length cap),(16,.i l.length),(17,.i p)] [] []) (fun p=>l.length-p) (0) ⟨ahk _,rfl,S.sn⟩ ?_;rintro k ac u hI;try dsimp only at hI
 obtain⟨hk,hR,S⟩:=hI;refine agS fun _ dU=>adr S 1 [] [(18,.bool ((k:Int)<(l.length:Int)))] fun S=>agR<|dU _ _<|ag9 (fun _ iP=>?_);refine agU S (fun cO=>?_) (fun cO=>?_)
 ·refine aha<|iP _ _<|ag9 fun _ dB=>ahc<|agS (fun _ dP=>?_);have PU:k<l.length:=by have:=aho cO; omega
  obtain⟨b13,o14,rfl,x19,Xl,ae9,afa⟩:=ahx h.1 (fun _=>rfl) (k) PU;have S:=S.view0 ae9 afa;refine adr S 3 [.idx k l.length,.mem 0 0] [(19,.i k),(21,x19.v)] (hk:=⟨PU,trivial⟩) fun S=>agT S 8 (Sx.L [.i 0,.int .u8 0,.int .u8 0,.int .u8 0,.int .u8 0,.i 0,.i 0,.i 0,.i 0,.i 0,.slice none 0 0,.i 0,.i 0,.i 0,.slice none 0 0,.i 0]++Sx.za) fun ac u b21 VD Wi S=>adr S 1 [] [(7,.i k)] fun S=>agW S 0 (off:=0) (cs:=x19.cells) rfl fun u VQ S=>agR<|dP _ _<|agS (fun _ zF=>?_);have PV:k<m.length:=by have:=jF hc4; have:=aho cO; omega
  obtain⟨b26,o27,rfl,y32,Xm,aaG,afb⟩:=ahx h'.1 (fun _=>rfl) (k) PV;have S:=S.view0 aaG afb;refine adr S 4 [.idx k m.length,.mem 1 0] [(25,y32.v)] (hk:=⟨PV,trivial⟩) fun S=>agT S 9 (Sx.L [.i 0,.int .u8 0,.int .u8 0,.int .u8 0,.int .u8 0,.i 0,.i 0,.i 0,.i 0,.i 0,.slice none 0 0,.i 0,.i 0,.i 0,.slice none 0 0,.i 0]++Sx.za) fun ac u Wp LP aek S=>agW S 0 (off:=0) (cs:=y32.cells) rfl fun u C37 S=>agR<|zF _ _<|agS fun _ mX=>adr S 3 [.mem 1 0,.mem 0 0] [(26,.func (.func 107) #[] #[]),(27,x19.v),(28,y32.v)] fun S=>ag0 S 29 (su (K:=K) (p:=x19) (q:=y32) ((h.2 _ (Xl▸ah3 PU)).below S.E) ((h'.2 _ (Xm▸ah3 PV)).below S.E) (hf _ (Xl▸ah3 PU)) (hf' _ (Xm▸ah3 PV)) hK1 hK) fun ac u E39 S=>adr S 1 [] [(30,.bool (!(x19.eq y32)))] fun S=>agR (mX _ _ ?_);refine agU S (fun aaH=>?_) (fun aaH=>?_)
  ·refine agS fun _ D8=>adr S 1 [] [(6,.bool false)] fun S=>agR<|D8 _ _<|agV S Tryz.results106 ?_;exact⟨aI (Rt PU PV (by rw[Xl,Xm]; exact aaH)),S.E⟩
  refine aha<|dB _ _<|ahi<|adr S 2 [.re 31 (.i (IntKind.i64.wrap ((k:Int)+1))) (.i (k+1:Nat))] [(17,.i (k+1:Nat))] (hk:=⟨ag7 (by omega),trivial⟩) fun S=>agR ?_;show ∃i',_∧_;exact⟨(k+1),⟨by omega,(GI PU PV hR (by rw[Xl,Xm]; exact aaH)),(S.sub [(0,.slice (some ⟨b13,o14,none⟩) l.length cap),(1,.slice (some ⟨b26,o27,none⟩) m.length cap'),(2,.func (.func 107) #[] #[]),(6,.bool false),(15,.slice (some ⟨b13,o14,none⟩) l.length cap),(16,.i l.length),(17,.i (k+1:Nat))]).tu.nD 2⟩,by show _-_<_-_; omega⟩
 refine ahn<|iI _ _<|agS fun _ rD=>adr S 1 [] [(6,.bool true)] fun S=>agR<|rD _ _<|agV S Tryz.results106 ?_;exact⟨aI (MH (by have:=aht cO; omega) (jF hc4) hR),S.E⟩
def aB.YR(a b:aB):Bool:=cond (((((((((((a.id) != b.id)||((a.kind) != b.kind))||((a.depth) != b.depth))||((a.aW) != b.aW))||(((a.iq.toNat:Int)) != (b.iq.toNat:Int)))||((a.blend) != b.blend))||(!(a.isolated==b.isolated)))||(!(a.fM==b.fM)))||((a.bn) != b.bn))||((a.dw) != b.dw)) (false) (((((((a.t.q.eq b.t.q)&&(decide (a.clip=b.clip)))&&(decide (a.path=b.path)))&&(bC a.fill b.fill))&&(bC a.stroke b.stroke))&&(a.style.eq b.style))&&(a.img.eq b.img))
theorem CW{w:World}{a b:aB}(h:dZ K w a)(h':dZ K w b) :
  Calls Tryz.prog 78 #[a.v,b.v] w fun e w'=>e = .returned (.bool (aB.YR a b))∧Ext w w':=by
 skip;refine agX Tryz.func78 Tryz.ntmps78 fun ac S=>agS fun _ aX=>agT S 2 a.cells fun ac u b2 E3 hb4 S=>agT S 3 b.cells fun ac u b5 E6 hb7 S=>adr S 1 [] [(4,.bool false)] fun S=>agR<|aX _ _<|ag9 fun _ dU=>agS fun _ iP=>adr S 68 [.mem 1 0,.mem 0 0,.mem 1 1,.mem 0 1,.mem 1 2,.mem 0 2,.mem 1 28,.mem 0 28,.mem 1 29,.mem 0 29,.mem 1 30,.mem 0 30,.mem 1 31,.mem 0 31,.mem 1 32,.mem 0 32,.mem 1 34,.mem 0 34,.mem 1 46,.mem 0 46] [(72,.bool (((((((((((a.id) != b.id)||((a.kind) != b.kind))||((a.depth) != b.depth))||((a.aW) != b.aW))||(((a.iq.toNat:Int)) != (b.iq.toNat:Int)))||((a.blend) != b.blend))||(!(a.isolated==b.isolated)))||(!(a.fM==b.fM)))||((a.bn) != b.bn))||((a.dw) != b.dw)))] fun S=>agR (iP _ _ ?_);refine agU S (fun cO=>?_) (fun cO=>?_)
 ·refine agS fun _ dB=>adr S 1 [] [(4,.bool false)] fun S=>agR<|dB _ _<|ahj ?_;have p0:=cO;refine ag3 S Tryz.results78 ?_;exact⟨aI (by unfold aB.YR; simp only[p0,cond_true]),S.E⟩
 refine aha<|dU _ _<|agS fun _ dP=>adr S 4 [.mem 1 3,.mem 0 3] [(74,a.t.v),(76,b.t.v)] fun S=>ag0 S 77 (uP a.t.v b.t.v a.t.q b.t.q K _ ((aU.toQ h.1.2.2.2.1 h.2.1).fF S.E) ((aU.toQ h'.1.2.2.2.1 h'.2.1).fF S.E) h.2.2.2.2.1 h.2.2.2.2.2) fun ac u Jm S=>Sx.oQ S 43 [.mem 1 27,.mem 0 27,.mem 1 33,.mem 0 33,.mem 1 35,.mem 0 35,.mem 1 42,.mem 0 42,.mem 1 36,.mem 0 36,.mem 1 43,.mem 0 43] [(_,_,(a.t.q.eq b.t.q),.bool (a.clip=b.clip)),(_,_,((a.t.q.eq b.t.q)&&(decide (a.clip=b.clip))),.bool (a.path=b.path)),(_,_,(((a.t.q.eq b.t.q)&&(decide (a.clip=b.clip)))&&(decide (a.path=b.path))),.bool (bC a.fill b.fill)),(_,_,((((a.t.q.eq b.t.q)&&(decide (a.clip=b.clip)))&&(decide (a.path=b.path)))&&(bC a.fill b.fill)),.bool (bC a.stroke b.stroke)),(_,_,(((((a.t.q.eq b.t.q)&&(decide (a.clip=b.clip)))&&(decide (a.path=b.path)))&&(bC a.fill b.fill))&&(bC a.stroke b.stroke)),.bool (a.style.eq b.style)),(_,_,((((((a.t.q.eq b.t.q)&&(decide (a.clip=b.clip)))&&(decide (a.path=b.path)))&&(bC a.fill b.fill))&&(bC a.stroke b.stroke))&&(a.style.eq b.style)),.bool (a.img.eq b.img))] [(4,.bool (((((((a.t.q.eq b.t.q)&&(decide (a.clip=b.clip)))&&(decide (a.path=b.path)))&&(bC a.fill b.fill))&&(bC a.stroke b.stroke))&&(a.style.eq b.style))&&(a.img.eq b.img)))] ⟨fun u hC g=>uH (l:=a.clip) (m:=b.clip) (h.1.2.2.2.2.1.1.below (Ext.trans' S.E hC)) (h'.1.2.2.2.2.1.1.below (Ext.trans' S.E hC)),fun u hC g=>uH (l:=a.path) (m:=b.path) (h.1.2.2.2.2.2.2.2.1.1.below (Ext.trans' S.E hC)) (h'.1.2.2.2.2.2.2.2.1.1.below (Ext.trans' S.E hC)),fun u hC g=>wZ (l:=a.fill) (m:=b.fill) (K:=K) (h.1.2.2.2.2.2.2.2.2.2.1.below (Ext.trans' S.E hC)) (h'.1.2.2.2.2.2.2.2.2.2.1.below (Ext.trans' S.E hC)) h.2.2.1 h'.2.2.1 h.2.2.2.2.1 h.2.2.2.2.2,fun u hC g=>wZ (l:=a.stroke) (m:=b.stroke) (K:=K) (h.1.2.2.2.2.2.2.2.2.2.2.2.1.below (Ext.trans' S.E hC)) (h'.1.2.2.2.2.2.2.2.2.2.2.2.1.below (Ext.trans' S.E hC)) h.2.2.2.1 h'.2.2.2.1 h.2.2.2.2.1 h.2.2.2.2.2,fun u hC g=>rO (p:=a.style) (q:=b.style) (h.1.2.2.2.2.2.2.2.2.2.2.1.below (Ext.trans' S.E hC)) (h'.1.2.2.2.2.2.2.2.2.2.2.1.below (Ext.trans' S.E hC)),fun u hC g=>qx (m:=a.img) (n:=b.img) (h.1.2.2.2.2.2.2.2.2.2.2.2.2.1.below (Ext.trans' S.E hC)) (h'.1.2.2.2.2.2.2.2.2.2.2.2.2.1.below (Ext.trans' S.E hC)),trivial⟩ fun ac u L8 S=>agR<|dP _ _<|ahj ?_;have p0:=cO;refine ag3 S Tryz.results78 ?_;exact⟨aI (by unfold aB.YR; simp only[p0,cond_false]),S.E⟩
end
end Go.Proofs.YtiafijffnejhoaaGreatDoor
