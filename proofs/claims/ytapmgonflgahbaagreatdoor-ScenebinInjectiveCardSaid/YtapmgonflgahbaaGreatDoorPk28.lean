/- Numbers in lowest terms are equal by value exactly if -/
import Derived.Test.YtapmgonflgahbaaGreatDoorPk27
namespace Go.Proofs.YtapmgonflgahbaaGreatDoor
open _root_.Go.Proofs.Tryz
section
theorem Hr.facts{q:Bool×Nat×Nat}(h:Hr q):0<q.2.2∧Nat.Coprime q.2.1 q.2.2∧(q.1=true→0<q.2.1):=by
 obtain⟨n,a,b⟩:=q;unfold Hr nrm at h;simp only at h ⊢;split at h
 ·rename_i hb;simp only[aie]at h;omega
 rename_i hb;simp only[aie]at h;obtain⟨h1,h2,h3⟩:=h;have hg:Nat.gcd a b=1:=by
  have hb':0<b:=by omega
  have:=Nat.div_mul_cancel (akn a b);rw[h3]at this;exact Nat.eq_of_mul_eq_mul_left hb' (by omega)
 refine⟨by omega,hg,fun hn=>?_⟩;rw[hn]at h1;unfold kT at h1;rw[aiq]at h1;have:=h1.2;rw[hg,Nat.div_one]at this;simpa using this
theorem qw{p q:Bool×Nat×Nat}(hp:Hr p)(hq:Hr q):nJ p q=decide (p=q):=by
 obtain⟨p1,p2,p3⟩:=hp.facts;obtain⟨q1,q2,q3⟩:=hq.facts;rw[ai4];unfold nJ mg;simp only[aiv,aiz,Int.sign_eq_zero_iff_zero];constructor
 ·intro h;obtain⟨n,a,b⟩:=p;obtain⟨m,c,d⟩:=q;simp only at *;have hz:qz (n,a,b)*(d:Int)=qz (m,c,d)*(b:Int):=by simpa using (by omega:qz (n,a,b)*(d:Int)-qz (m,c,d)*(b:Int)=0→qz (n,a,b)*(d:Int)=qz (m,c,d)*(b:Int)) h
  have habs:=aic Int.natAbs hz;have hzv:∀(s:Bool) (x:Nat),(zv s x).natAbs=x:=by intro s x; unfold zv; split<;>simp
  unfold qz at hz habs;simp only[Int.natAbs_mul,hzv,ajK]at habs;have hbd:b∣d:=p2.symm.dvd_of_dvd_mul_left ⟨c,by rw[habs,aiH]⟩;have hdb:d∣b:=q2.symm.dvd_of_dvd_mul_left ⟨a,by rw[←habs,aiH]⟩;obtain rfl:b=d:=Nat.dvd_antisymm hbd hdb;obtain rfl:a=c:=Nat.eq_of_mul_eq_mul_right p1 habs;have hz2:zv n a=zv m a:=Int.eq_of_mul_eq_mul_right (by omega) hz;obtain rfl:n=m:=by
   unfold zv at hz2;cases n<;>cases m<;>simp at * <;> omega
  rfl
 intro h; rw[h]; omega
theorem Q6.same_eq{P Q:Q6}(hp:Aw P)(hq:Aw Q):P.same Q=P.eq Q:=by
 unfold Q6.same Q6.eq;rw[qw hp.1 hq.1,qw hp.2.1 hq.2.1,qw hp.2.2.1 hq.2.2.1,qw hp.2.2.2.1 hq.2.2.2.1,qw hp.2.2.2.2.1 hq.2.2.2.2.1,qw hp.2.2.2.2.2 hq.2.2.2.2.2]
end
section
set_option maxHeartbeats 3200000
set_option maxRecDepth 100000
open Go.RowKit
variable{α:Type}{K:Nat}
set_option linter.unusedVariables false
def bI(l m:List au):Bool:=decide (l.length=m.length)&&(l.zip m).all fun p=>p.1.eq p.2
theorem Uc{l m:List au}(h:((l.length:Int) != (m.length:Int))=true):false=bI l m:=by
 have:l.length≠m.length:=fun e=>by rw[e]at h; simp at h
 simp[bI,this]
theorem NS{l m:List au}{k:Nat}(hk:l.length≤k)(h:l.length=m.length)(hR:((l.zip m).take k).all (fun p=>p.1.eq p.2)=true):true=bI l m:=by
 rw[aiC (by simp; omega)]at hR;simp only[bI,h,hR,decide_true,Bool.and_self]
theorem Ih{l m:List au}{k:Nat}(h1:k<l.length)(h2:k<m.length)(hR:((l.zip m).take k).all (fun p=>p.1.eq p.2)=true)(h:(!(l[k].eq m[k]))=false):((l.zip m).take (k+1)).all (fun p=>p.1.eq p.2)=true:=by
 rw[ajc (by simp; omega),List.all_append,hR];simp at h;simp[h]
theorem Ud{l m:List au}{k:Nat}(h1:k<l.length)(h2:k<m.length)(h:(!(l[k].eq m[k]))=true):false=bI l m:=by
 symm;rw[Bool.eq_false_iff];intro e;simp only[bI,aiq,aiA]at e;have:=e.2 (l[k],m[k]) (by rw[←List.getElem_zip (h:=by simp; omega)]; exact aiD _);simp[this]at h
theorem uX{w:World}{v u:Value}{l m:List eG}(h:aN 7 eG.cells w v l)(h':aN 7 eG.cells w u m) :
  Calls prog 69 #[v,u] w fun e w'=>e = .returned (.bool (l=m))∧Ext w w':=by
 skip;refine ahO func69 ntmps69 fun ac S=>ahK fun _ aY=>adr S 1 [] [(4,.z)] fun S=>ahJ<|aY _ _<|ahK fun _ fA=>adr S 2 [] [(5,v),(6,u)] fun S=>ahS S 7 (Qg (l:=l) (m:=m) (h.below S.E) (h'.below S.E)) fun ac u E3 S=>adr S 1 [] [(4,.bool (l=m))] fun S=>ahJ<|fA _ _<|ahM S results69 ?_;exact⟨rfl,S.E⟩
theorem xB{w:World}{v u:Value}{l m:List au}(h:jf w v l)(h':jf w u m)(hf:∀p∈l,p.t.fit K)(hf':∀p∈m,p.t.fit K)(hK1:1≤K)(hK:K≤10000) :
  Calls prog 70 #[v,u,.func (.func 71) #[] #[]] w fun e w'=>e = .returned (.bool (bI l m))∧Ext w w':=by
 obtain⟨a,cap,rfl⟩:=h.1.shape;obtain⟨d,cap',rfl⟩:=h'.1.shape;have hmax:l.length≤9223372036854775807:=h.1.len;refine ahO func70 ntmps70 fun ac S=>ahK fun _ aY=>adr S 1 [] [(6,.z)] fun S=>ahJ<|aY _ _<|ah2 fun _ fA=>ahK fun _ jw=>adr S 5 [] [(14,.bool (((l.length:Int)) != (m.length:Int)))] fun S=>ahJ (jw _ _ ?_);refine ahN S (fun hc4=>?_) (fun hc4=>?_)
 ·refine ahK fun _ dw=>adr S 1 [] [(6,.z)] fun S=>ahJ<|dw _ _<|ahM S results70 ?_;exact⟨aH (Uc hc4),S.E⟩
 refine ah4<|fA _ _<|ah2 fun _ iT=>ahK fun _ iL=>adr S 3 [] [(15,.slice a l.length cap),(16,.i l.length),(17,.i 0)] fun S=>ahJ<|iL _ _<|ah5 ?_;refine aiM (ι:=Nat) (fun p a' w'=>p≤l.length∧(((l.zip m).take p).all (fun p=>p.1.eq p.2)=true)∧Sx.St w a' w' 32 [(0,.slice a l.length cap),(1,.slice d m.length cap'),(2,.func (.func 71) #[] #[]),(6,.z),(15,.slice a l.length cap),(16,.i l.length),(17,.i p)] [] []) (fun p=>l.length-p) (0) ⟨aij _,rfl,S.sn⟩ ?_;rintro k ac u hI;try dsimp only at hI
 obtain⟨hk,hR,S⟩:=hI;refine ahK fun _ dR=>adr S 1 [] [(18,.bool ((k:Int)<(l.length:Int)))] fun S=>ahJ<|dR _ _<|ah2 (fun _ iD=>?_);refine ahN S (fun dG=>?_) (fun dG=>?_)
 ·refine ah4<|iD _ _<|ah2 fun _ dO=>ah5<|ahK (fun _ fD=>?_);have zJ:k<l.length:=by have:=ain dG; omega
  obtain⟨b13,o14,rfl,x19,Jl,VH,abL⟩:=aiy h.1 (fun _=>rfl) (k) zJ;have S:=S.view0 VH abL;refine adr S 3 [.idx k l.length,.mem 0 0] [(19,.i k),(21,x19.v)] (hk:=⟨zJ,trivial⟩) fun S=>ahL S 8 (Sx.L [.i 0,.u 0,.u 0,.u 0,.u 0,.i 0,.i 0,.i 0,.i 0,.i 0,.sn,.i 0,.i 0,.i 0,.sn,.i 0]++Sx.za) fun ac u b21 TK Ya S=>adr S 1 [] [(7,.i k)] fun S=>ahP S 0 (off:=0) (cs:=x19.cells) rfl fun u C24 S=>ahJ<|fD _ _<|ahK (fun _ vI=>?_);have Rf:k<m.length:=by have:=jS hc4; have:=ain dG; omega
  obtain⟨b26,o27,rfl,y32,YU,afS,afT⟩:=aiy h'.1 (fun _=>rfl) (k) Rf;have S:=S.view0 afS afT;refine adr S 4 [.idx k m.length,.mem 1 0] [(25,y32.v)] (hk:=⟨Rf,trivial⟩) fun S=>ahL S 9 (Sx.L [.i 0,.u 0,.u 0,.u 0,.u 0,.i 0,.i 0,.i 0,.i 0,.i 0,.sn,.i 0,.i 0,.i 0,.sn,.i 0]++Sx.za) fun ac u XH Ky TL S=>ahP S 0 (off:=0) (cs:=y32.cells) rfl fun u C37 S=>ahJ<|vI _ _<|ahK fun _ lq=>adr S 3 [.mem 1 0,.mem 0 0] [(26,.func (.func 71) #[] #[]),(27,x19.v),(28,y32.v)] fun S=>ahS S 29 (sW (K:=K) (p:=x19) (q:=y32) ((h.2 _ (Jl▸aiD zJ)).below S.E) ((h'.2 _ (YU▸aiD Rf)).below S.E) (hf _ (Jl▸aiD zJ)) (hf' _ (YU▸aiD Rf)) hK1 hK) fun ac u XV S=>adr S 1 [] [(30,.bool (!(x19.eq y32)))] fun S=>ahJ (lq _ _ ?_);refine ahN S (fun abM=>?_) (fun abM=>?_)
  ·refine ahK fun _ Ac=>adr S 1 [] [(6,.z)] fun S=>ahJ<|Ac _ _<|ahM S results70 ?_;exact⟨aH (Ud zJ Rf (by rw[Jl,YU]; exact abM)),S.E⟩
  refine ah4<|dO _ _<|aia<|adr S 2 [.re 31 (.i (IntKind.i64.wrap ((k:Int)+1))) (.i (k+1:Nat))] [(17,.i (k+1:Nat))] (hk:=⟨ahY (by omega),trivial⟩) fun S=>ahJ ?_;show ∃i',_∧_;exact⟨(k+1),⟨by omega,(Ih zJ Rf hR (by rw[Jl,YU]; exact abM)),(S.sub [(0,.slice (some ⟨b13,o14,none⟩) l.length cap),(1,.slice (some ⟨b26,o27,none⟩) m.length cap'),(2,.func (.func 71) #[] #[]),(6,.z),(15,.slice (some ⟨b13,o14,none⟩) l.length cap),(16,.i l.length),(17,.i (k+1:Nat))]).nC.jE 2⟩,by show _-_<_-_; omega⟩
 refine ail<|iT _ _<|ahK fun _ vC=>adr S 1 [] [(6,.bool true)] fun S=>ahJ<|vC _ _<|ahM S results70 ?_;exact⟨aH (NS (by have:=aiu dG; omega) (jS hc4) hR),S.E⟩
def aA.eqP(a b:aA):Bool:=cond (((((((((((a.id) != b.id)||((a.kind) != b.kind))||((a.depth) != b.depth))||((a.aO) != b.aO))||(((a.dJ.toNat:Int)) != (b.dJ.toNat:Int)))||((a.blend) != b.blend))||(!(a.isolated==b.isolated)))||(!(a.bY==b.bY)))||((a.aV) != b.aV))||((a.bQ) != b.bQ)) (false) (((((((a.t.q.eq b.t.q)&&(decide (a.clip=b.clip)))&&(decide (a.path=b.path)))&&(bI a.fill b.fill))&&(bI a.stroke b.stroke))&&(a.style.eq b.style))&&(a.img.eq b.img))
theorem DT{w:World}{a b:aA}(h:eF K w a)(h':eF K w b) :
  Calls prog 28 #[a.v,b.v] w fun e w'=>e = .returned (.bool (aA.eqP a b))∧Ext w w':=by
 skip;refine ahO func28 ntmps28 fun ac S=>ahK fun _ aY=>ahL S 2 a.cells fun ac u b2 E3 hb4 S=>ahL S 3 b.cells fun ac u b5 E6 hb7 S=>adr S 1 [] [(4,.z)] fun S=>ahJ<|aY _ _<|ah2 fun _ dR=>ahK fun _ iD=>adr S 68 [.mem 1 0,.mem 0 0,.mem 1 1,.mem 0 1,.mem 1 2,.mem 0 2,.mem 1 28,.mem 0 28,.mem 1 29,.mem 0 29,.mem 1 30,.mem 0 30,.mem 1 31,.mem 0 31,.mem 1 32,.mem 0 32,.mem 1 34,.mem 0 34,.mem 1 46,.mem 0 46] [(72,.bool (((((((((((a.id) != b.id)||((a.kind) != b.kind))||((a.depth) != b.depth))||((a.aO) != b.aO))||(((a.dJ.toNat:Int)) != (b.dJ.toNat:Int)))||((a.blend) != b.blend))||(!(a.isolated==b.isolated)))||(!(a.bY==b.bY)))||((a.aV) != b.aV))||((a.bQ) != b.bQ)))] fun S=>ahJ (iD _ _ ?_);refine ahN S (fun dG=>?_) (fun dG=>?_)
 ·refine ahK fun _ dO=>adr S 1 [] [(4,.z)] fun S=>ahJ<|dO _ _<|aii ?_;have p0:=dG;refine ahU S results28 ?_;exact⟨aH (by unfold aA.eqP; simp only[p0,cond_true]),S.E⟩
 refine ah4<|dR _ _<|ahK fun _ fD=>adr S 4 [.mem 1 3,.mem 0 3] [(74,a.t.v),(76,b.t.v)] fun S=>ahS S 77 (vH a.t.v b.t.v a.t.q b.t.q K _ ((bn.toQ h.1.2.2.2.1 h.2.1).fV S.E) ((bn.toQ h'.1.2.2.2.1 h'.2.1).fV S.E) h.2.2.2.2.1 h.2.2.2.2.2) fun ac u Nz S=>Sx.nV S 43 [.mem 1 27,.mem 0 27,.mem 1 33,.mem 0 33,.mem 1 35,.mem 0 35,.mem 1 42,.mem 0 42,.mem 1 36,.mem 0 36,.mem 1 43,.mem 0 43] [(_,_,(a.t.q.eq b.t.q),.bool (a.clip=b.clip)),(_,_,((a.t.q.eq b.t.q)&&(decide (a.clip=b.clip))),.bool (a.path=b.path)),(_,_,(((a.t.q.eq b.t.q)&&(decide (a.clip=b.clip)))&&(decide (a.path=b.path))),.bool (bI a.fill b.fill)),(_,_,((((a.t.q.eq b.t.q)&&(decide (a.clip=b.clip)))&&(decide (a.path=b.path)))&&(bI a.fill b.fill)),.bool (bI a.stroke b.stroke)),(_,_,(((((a.t.q.eq b.t.q)&&(decide (a.clip=b.clip)))&&(decide (a.path=b.path)))&&(bI a.fill b.fill))&&(bI a.stroke b.stroke)),.bool (a.style.eq b.style)),(_,_,((((((a.t.q.eq b.t.q)&&(decide (a.clip=b.clip)))&&(decide (a.path=b.path)))&&(bI a.fill b.fill))&&(bI a.stroke b.stroke))&&(a.style.eq b.style)),.bool (a.img.eq b.img))] [(4,.bool (((((((a.t.q.eq b.t.q)&&(decide (a.clip=b.clip)))&&(decide (a.path=b.path)))&&(bI a.fill b.fill))&&(bI a.stroke b.stroke))&&(a.style.eq b.style))&&(a.img.eq b.img)))] ⟨fun u hC g=>uX (l:=a.clip) (m:=b.clip) (h.1.2.2.2.2.1.1.below (Ext.trans' S.E hC)) (h'.1.2.2.2.2.1.1.below (Ext.trans' S.E hC)),fun u hC g=>uX (l:=a.path) (m:=b.path) (h.1.2.2.2.2.2.2.2.1.1.below (Ext.trans' S.E hC)) (h'.1.2.2.2.2.2.2.2.1.1.below (Ext.trans' S.E hC)),fun u hC g=>xB (l:=a.fill) (m:=b.fill) (K:=K) (h.1.2.2.2.2.2.2.2.2.2.1.below (Ext.trans' S.E hC)) (h'.1.2.2.2.2.2.2.2.2.2.1.below (Ext.trans' S.E hC)) h.2.2.1 h'.2.2.1 h.2.2.2.2.1 h.2.2.2.2.2,fun u hC g=>xB (l:=a.stroke) (m:=b.stroke) (K:=K) (h.1.2.2.2.2.2.2.2.2.2.2.2.1.below (Ext.trans' S.E hC)) (h'.1.2.2.2.2.2.2.2.2.2.2.2.1.below (Ext.trans' S.E hC)) h.2.2.2.1 h'.2.2.2.1 h.2.2.2.2.1 h.2.2.2.2.2,fun u hC g=>sH (p:=a.style) (q:=b.style) (h.1.2.2.2.2.2.2.2.2.2.2.1.below (Ext.trans' S.E hC)) (h'.1.2.2.2.2.2.2.2.2.2.2.1.below (Ext.trans' S.E hC)),fun u hC g=>qV (m:=a.img) (n:=b.img) (h.1.2.2.2.2.2.2.2.2.2.2.2.2.1.below (Ext.trans' S.E hC)) (h'.1.2.2.2.2.2.2.2.2.2.2.2.2.1.below (Ext.trans' S.E hC)),trivial⟩ fun ac u yO S=>ahJ<|fD _ _<|aii ?_;have p0:=dG;refine ahU S results28 ?_;exact⟨aH (by unfold aA.eqP; simp only[p0,cond_false]),S.E⟩
end
end Go.Proofs.YtapmgonflgahbaaGreatDoor
